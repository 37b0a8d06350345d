/- What the texts behind it build on; conditions: none. -/
import Derived.Test.YtdbgfejeleafgaaPh8
namespace Go.Proofs.Ytdbgfejeleafgaa
open Go.RowKit
set_option linter.unusedVariables false
set_option linter.unusedSimpArgs false
set_option maxRecDepth 100000 in
set_option maxHeartbeats 8000000 in
theorem few_any (B N k : Nat) (m : Int) (A : Option Addr) (n c : Nat) (ps : List Pp) (w : World) (hc : Cur w B N k) (hk : k ≤ 700000000000) (ha : Rd w 4 A n (pipesV ps)) (hsp : Sp A n (some B)) (hn : n ≤ 30) (hm : m ≤ 1000) :
    Calls Try.prog 109 #[.pointer (some ⟨B, 0, none⟩), .agg #[.int .i64 m, .slice A n c]] w fun e w' => ∃ (A' : Option Addr) (n' c' : Nat) (vs : List Vv), e = .returned (.slice A' n' c') ∧ ((Rd w' 4 A' n' (valvesV vs) ∧ Fm A' n' c' ∧ freshA w.heap.size A' n') ∧ vs.length ≤ 11) ∧ Cur w' B N (k + 402) ∧ w.grownBy w' (some B) := by
 have hN := Cur.hN hc
 have hlpl := rd_pipes_len ha
 go_enter Try.func109, Try.ntmps109
 refine F.begin 20 [(0, .pointer (some ⟨B, 0, none⟩)), (1, .agg #[.int .i64 m, .slice A n c])] (fun U0 => ?_)
 refine wk fun K1 h1 => ?_
 refine W.region_plain (row := none) [(0, true), (1, false)] kk ?_
 have s1 := SG.self w none
 refine W.sn (fun b => .pointer (some ⟨b, 0, none⟩)) #[.int .i64 m, .slice A n c] 26 s1 rfl kk rfl (fun _ => by kernel_rfl) (fun b2 w3 hb4 k5 x6 s7 => ?_)
 apply F.nx
 have lo8 : w.heap.size ≤ b2 := Nl ((SG.fr (B := B) (World.grownBy.refl _ _) s1 nkk)).size (Nat.le_of_eq hb4)
 have ne10 : B ≠ b2 := Nat.ne_of_lt (Nat.lt_of_lt_of_eq (Nat.lt_of_lt_of_le (Cur.lt hc) (s1).size) hb4)
 refine Fa (.slice none 0 0) ?_
 apply F.es
 have hc := Cur.below hc (SG.below s7)
 have c11 := (SG.fr (B := B) (World.grownBy.refl _ _) s7 nkk)
 have rd12 := Rk ha (SG.below s7)
 apply h1
 refine wk fun K2 h2 => ?_
 refine W.region_plain (row := (some B)) [(0, false), (1, false), (2, true), (3, false)] kk ?_
 have s13 := SG.self w3 (some B)
 refine Fv (.pointer (some ⟨B, 0, none⟩)) ?_
 refine Fq (.agg #[.int .i64 m, .slice A n c]) (r_load2 rfl ek kk kk (sgS (blk_cell (j := 0) x6 kk) (fun e9 => ne10 (Option.some.inj e9).symm)) (sgS (blk_cell (j := 1) x6 kk) (fun e9 => ne10 (Option.some.inj e9).symm))) ?_
 have z20 := ((SG.fr (B := B) c11 s13 (fun kq e => .inl (by cases e; rfl)))).size
 have lb27 := (Cur.lt hc)
 have lb28 := (Nat.lt_of_lt_of_le (blk_lt x6) (s13).size)
 refine Fc [.pointer (some ⟨B, 0, none⟩), .agg #[.int .i64 m, .slice A n c]] (valves_any B N k m A n c ps _ hc (by omega) (rd_sep rd12 s13 hsp) hsp (by omega) (by omega)) ?_
 rintro e w30 ⟨A14, n15, c16, vs17, rfl, ⟨ho18, hsm19⟩, x32, g31⟩
 have s33 := SG.of_grown s13 g31 (.inl rfl)
 refine ⟨_, rfl, s33, ?_⟩
 apply F.nx
 have rd25 := own_rd ho18
 have fm24 := own_fm ho18
 have hl22 := rd_valves_len rd25
 have fr26 := freshA_of ho18 (Nat.le_refl _)
 have sp34 : Sp A14 n15 (some B) := sp_fresh fr26 lb27
 refine Fa (.slice A14 n15 c16) ?_
 apply F.es
 have c36 := (SG.fr (B := B) c11 s33 (fun kq e => .inl (by cases e; rfl)))
 apply h2
 refine wk fun K3 h3 => ?_
 refine wk fun K4 h4 => ?_
 refine W.region_plain (row := (some B)) [(0, false), (1, false), (2, false), (3, false), (4, false), (5, true), (6, false), (7, false)] kk ?_
 have s38 := SG.self w30 (some B)
 refine Fv (.slice A14 n15 c16) ?_
 refine Fq (.int .i64 (n15 : Int)) (r_len (A := A14) (n := n15) (c := c16) rfl ek kk) ?_
 by_cases q39 : ((n15 : Int) : Int) > (6 : Int)
 ·refine Fq (.bool true) (r_gtr (m := (n15 : Int)) (n := 6) rfl ek ek (dt q39)) ?_
  refine Fv (.bool true) ?_
  refine Fv (.pointer (some ⟨B, 0, none⟩)) ?_
  refine Fc [.pointer (some ⟨B, 0, none⟩), .int .i64 8] (one_any B N (k + 400) 8 _ x32 (by omega) (by omega)) ?_
  rintro e w43 ⟨b40, rfl, _, x45, g44⟩
  have s46 := SG.of_grown s38 g44 (.inl rfl)
  refine ⟨_, rfl, s46, ?_⟩
  apply F.nx
  rcases Bool.eq_false_or_eq_true b40 with q47 | q47
  ·rw [q47]
   refine Fq (.bool false) (r_not (b := true) rfl ek rfl) ?_
   refine Fq (.bool false) (r_pick (b := true) rfl ek ek) ?_
   apply F.es
   have c48 := (SG.fr (B := B) c36 s46 (fun kq e => .inl (by cases e; rfl)))
   have rd50 := rd_sep rd25 s46 sp34
   apply h4
   refine wp_cond_false ek ?_
   apply wp_skip
   apply h3
   refine wk fun K5 h5 => ?_
   refine Rq 2 ?_
   refine Fv (.slice A14 n15 c16) ?_
   refine Fa (.slice A14 n15 c16) ?_
   apply F.es
   apply h5
   refine wp_ret ?_
   try simp only [Exit.then]
   refine ret1 (v := .slice A14 n15 c16) rfl kk ?_
   have hrd9 : Rd w43 4 A14 n15 (valvesV vs17) := rd50
   have hl9 := rd_valves_len hrd9
   exact ⟨_, _, _, vs17, rfl, ⟨⟨hrd9, fm24, freshA_mono (fun hp => fr26 (by omega)) z20⟩, by first | omega | (rw [List.length_take]; omega)⟩, Cur.mono x45 (by omega), c48⟩
  rw [q47]
  refine Fq (.bool true) (r_not (b := false) rfl ek rfl) ?_
  refine Fq (.bool true) (r_pick (b := true) rfl ek ek) ?_
  apply F.es
  have c51 := (SG.fr (B := B) c36 s46 (fun kq e => .inl (by cases e; rfl)))
  have rd53 := rd_sep rd25 s46 sp34
  apply h4
  refine wp_cond_true ek ?_
  refine Rq 3 ?_
  refine Fv (.slice A14 n15 c16) ?_
  refine Fq (.slice A14 6 c16) (r_sliceTo (A := A14) (n := n15) (c := c16) (k := 6) (size := 4) rfl ek ek kk (by have := (fm24).le; omega)) ?_
  refine Fa (.slice A14 6 c16) ?_
  apply F.es
  apply h3
  refine wk fun K6 h6 => ?_
  refine Rq 2 ?_
  refine Fv (.slice A14 6 c16) ?_
  refine Fa (.slice A14 6 c16) ?_
  apply F.es
  apply h6
  refine wp_ret ?_
  try simp only [Exit.then]
  refine ret1 (v := .slice A14 6 c16) rfl kk ?_
  have hrd9 : Rd w43 4 A14 6 (valvesV (vs17.take 6)) := (Rd.toV rd53 (by omega))
  have hl9 := rd_valves_len hrd9
  exact ⟨_, _, _, (vs17.take 6), rfl, ⟨⟨hrd9, (Fm.to fm24 (by have := (fm24).le; omega)), freshA_mono (fun hp => fr26 (by omega)) z20⟩, by first | omega | (rw [List.length_take]; omega)⟩, Cur.mono x45 (by omega), c51⟩
 refine Fq (.bool false) (r_gtr (m := (n15 : Int)) (n := 6) rfl ek ek (df q39)) ?_
 refine Fv (.bool false) ?_
 refine Fs s38 ?_
 refine Fs s38 ?_
 refine Fs s38 ?_
 refine Fq (.bool false) (r_pick (b := false) rfl ek ek) ?_
 apply F.es
 have c54 := (SG.fr (B := B) c36 s38 (fun kq e => .inl (by cases e; rfl)))
 have rd56 := rd_sep rd25 s38 sp34
 apply h4
 refine wp_cond_false ek ?_
 apply wp_skip
 apply h3
 refine wk fun K7 h7 => ?_
 refine Rq 2 ?_
 refine Fv (.slice A14 n15 c16) ?_
 refine Fa (.slice A14 n15 c16) ?_
 apply F.es
 apply h7
 refine wp_ret ?_
 try simp only [Exit.then]
 refine ret1 (v := .slice A14 n15 c16) rfl kk ?_
 have hrd9 : Rd w30 4 A14 n15 (valvesV vs17) := rd56
 have hl9 := rd_valves_len hrd9
 exact ⟨_, _, _, vs17, rfl, ⟨⟨hrd9, fm24, freshA_mono (fun hp => fr26 (by omega)) z20⟩, by first | omega | (rw [List.length_take]; omega)⟩, Cur.mono x32 (by omega), c54⟩
set_option maxRecDepth 100000 in
set_option maxHeartbeats 8000000 in
theorem customers_any (B N k : Nat) (m : Int) (A : Option Addr) (n c : Nat) (ps : List Pp) (w : World) (hc : Cur w B N k) (hk : k ≤ 800000000000) (ha : Rd w 4 A n (pipesV ps)) (hsp : Sp A n (some B)) (hn : n ≤ 30) (hm : m ≤ 1000) :
    Calls Try.prog 119 #[.pointer (some ⟨B, 0, none⟩), .agg #[.int .i64 m, .slice A n c]] w fun e w' => ∃ (A' : Option Addr) (n' c' : Nat) (cs : List Int), e = .returned (.slice A' n' c') ∧ (w'.ownsRow w.heap.size 3 1 (.slice A' n' c') n' (intsV cs) ∧ cs.length ≤ 1003) ∧ Cur w' B N (k + 2100) ∧ w.grownBy w' (some B) := by
 have hN := Cur.hN hc
 have hlpl := rd_pipes_len ha
 go_enter Try.func119, Try.ntmps119
 refine F.begin 38 [(0, .pointer (some ⟨B, 0, none⟩)), (1, .agg #[.int .i64 m, .slice A n c])] (fun U0 => ?_)
 refine wk fun K1 h1 => ?_
 refine W.region_plain (row := none) [(0, true), (1, false)] kk ?_
 have s1 := SG.self w none
 refine W.sn (fun b => .pointer (some ⟨b, 0, none⟩)) #[.int .i64 m, .slice A n c] 26 s1 rfl kk rfl (fun _ => by kernel_rfl) (fun b2 w3 hb4 k5 x6 s7 => ?_)
 apply F.nx
 have lo8 : w.heap.size ≤ b2 := Nl ((SG.fr (B := B) (World.grownBy.refl _ _) s1 nkk)).size (Nat.le_of_eq hb4)
 have ne10 : B ≠ b2 := Nat.ne_of_lt (Nat.lt_of_lt_of_eq (Nat.lt_of_lt_of_le (Cur.lt hc) (s1).size) hb4)
 refine Fa (.slice none 0 0) ?_
 apply F.es
 have hc := Cur.below hc (SG.below s7)
 have c11 := (SG.fr (B := B) (World.grownBy.refl _ _) s7 nkk)
 have rd12 := Rk ha (SG.below s7)
 apply h1
 refine wk fun K2 h2 => ?_
 refine W.region_plain (row := none) [(0, true), (1, false)] kk ?_
 have s13 := SG.self w3 none
 refine W.sn (fun b => .slice (some ⟨b, 0, none⟩) 0 0) #[] 3 s13 rfl kk rfl (fun _ => by kernel_rfl) (fun b14 w15 hb16 k17 x18 s19 => ?_)
 apply F.nx
 have lo20 : w.heap.size ≤ b14 := Nl ((SG.fr (B := B) c11 s13 nkk)).size (Nat.le_of_eq hb16)
 have sp21 : Sp A n (some b14) := sp_new rd12 (by have := (s13).size; have := hb16; omega)
 have ne22 : B ≠ b14 := Nat.ne_of_lt (Nat.lt_of_lt_of_eq (Nat.lt_of_lt_of_le (Cur.lt hc) (s13).size) hb16)
 have ne23 : b2 ≠ b14 := Nat.ne_of_lt (Nat.lt_of_lt_of_eq (Nat.lt_of_lt_of_le (blk_lt x6) (s13).size) hb16)
 refine Fa (.slice (some ⟨b14, 0, none⟩) 0 0) ?_
 apply F.es
 have hc := Cur.below hc (SG.below s19)
 have x6 := Sk s19 x6 onn
 have c24 := (SG.fr (B := B) c11 s19 nkk)
 have rd25 := Rk rd12 (SG.below s19)
 apply h2
 refine wk fun K3 h3 => ?_
 refine wk fun K4 h4 => ?_
 refine Rq 1 ?_
 refine Fa (.int .i64 1) ?_
 apply F.es
 apply h4
 refine wp_block ?_
 have ho26 := own_empty (base := w.heap.size) (size := 1) x18 lo20
 replace ho26 : World.ownsRow _ _ _ _ _ _ (intsV []) := ho26
 have sp27 := sp_own (n' := 0) (c := 0) sp21
 have nb28 : Nb B (.slice (some ⟨b14, 0, none⟩) 0 0) := nb_new ne22
 have nb29 : Nb b2 (.slice (some ⟨b14, 0, none⟩) 0 0) := nb_new ne23
 refine loopK (fun am0 aa0 wl0 => ∃ (i : Nat) (cs : List Int) (A0_5 : Option Addr) (n0_5 : Nat) (c0_5 : Nat) , Kn aa0 [(0, .pointer (some ⟨B, 0, none⟩)), (3, .pointer (some ⟨b2, 0, none⟩)), (4, .slice none 0 0), (5, .slice A0_5 n0_5 c0_5), (6, .int .i64 (i : Int))] 38 ∧ (am0 = 1002 - i) ∧ (1 ≤ i ∧ i ≤ 1001) ∧ (cs.length ≤ i) ∧ (Cur wl0 B N (k + 2 * i)) ∧ (wl0.heap[b2]? = some (.cells #[.int .i64 m, .slice A n c] 26 (0, 0))) ∧ (wl0.ownsRow w.heap.size 3 1 (.slice A0_5 n0_5 c0_5) n0_5 (intsV cs)) ∧ (Nb B (.slice A0_5 n0_5 c0_5)) ∧ (Nb b2 (.slice A0_5 n0_5 c0_5)) ∧ (Rd wl0 4 A n (pipesV ps)) ∧ (Sp A n (Value.ownBlock (.slice A0_5 n0_5 c0_5))) ∧ (w.grownBy wl0 (some B))) (1002 - 1) ?_ ?_
 ·exact ⟨1, [], (some ⟨b14, 0, none⟩), 0, 0, Kn.of, rfl, (⟨by omega, by omega⟩), (by simp), (Cur.mono hc (by omega)), x6, ho26, nb28, nb29, rd25, sp27, c24⟩
 rintro am0 aa0 wl0 K5 h5 ⟨i, cs, A0_5, n0_5, c0_5, ⟨U0, rfl⟩, rfl, hi, hcs, hc, x6, ho0_5, nb0_5_B, nb0_5_b2, kl0_0, sq0_0_5, c30⟩
 have hlr0 := rd_ints_len (own_rd ho0_5)
 refine wk fun K6 h6 => ?_
 refine wk fun K7 h7 => ?_
 refine Rq 4 ?_
 refine Fv (.int .i64 (i : Int)) ?_
 refine Fq (.pointer (some ⟨b2, 0, none⟩)) (r_field0 rfl ek kk) ?_
 refine Fl (.int .i64 m) (eqS (blk_cell (j := 0) x6 kk)) ?_
 by_cases q31 : ((i : Int) : Int) ≤ (m : Int)
 ·refine Fq (.bool true) (r_leq (m := (i : Int)) (n := m) rfl ek ek (dt q31)) ?_
  apply F.es
  apply h7
  refine wp_cond_true ek ?_
  apply wp_skip
  apply h6
  refine wk fun K8 h8 => ?_
  refine wp_block ?_
  refine M.region_plain (row := [(some B), (Value.ownBlock (.slice A0_5 n0_5 c0_5))]) [(0, false), (1, false), (2, true), (3, true), (4, true), (5, true), (6, false)] kk ?_
  have s32 := SM.self wl0 [(some B), (Value.ownBlock (.slice A0_5 n0_5 c0_5))]
  refine Fv (.slice A0_5 n0_5 c0_5) ?_
  refine Fv (.pointer (some ⟨B, 0, none⟩)) ?_
  refine M.sn (fun b => .slice (some ⟨b, 0, none⟩) 6 6) #[.int .i64 0, .int .i64 1, .int .i64 5, .int .i64 10, .int .i64 100, .int .i64 1000] 3 s32 rfl kk rfl (fun _ => by kernel_rfl) (fun b33 w34 hb35 k36 x37 s38 => ?_)
  apply F.nx
  have lo39 : w.heap.size ≤ b33 := Nl ((SM.fr (B := B) c30 s32 (in2 (fun kq e => .inl (by cases e; rfl)) (fun kq e => .inr (World.ownsRow.lt ho0_5 kq e).1)))).size (Nat.le_of_eq hb35)
  have ne41 : B ≠ b33 := Nat.ne_of_lt (Nat.lt_of_lt_of_eq (Cur.lt hc) hb35)
  have hc := Cur.below hc k36
  have ho44 := own_kept ho0_5 k36
  refine Fc [.pointer (some ⟨B, 0, none⟩), .slice (some ⟨b33, 0, none⟩) 6 6] (among_any B N (k + 2 * i) (some ⟨b33, 0, none⟩) 6 6 [0, 1, 5, 10, 100, 1000] _ hc (by omega) (rd_blk x37 rfl rfl) (sp_ne (by have := ne41; omega)) (by omega)) ?_
  rintro e w49 ⟨x45, rfl, hx46, x51, g50⟩
  have s52 := SM.of_grown s38 g50 (.inl (by simp))
  refine ⟨_, rfl, s52, ?_⟩
  apply F.nx
  have ho53 := own_grown ho44 g50 (fun j e1 e2 => by cases e2; exact nb0_5_B e1.symm)
  have hb47 := bnd_of (0) 1000 hx46 (by decide)
  refine M.sn (fun b => .slice (some ⟨b, 0, none⟩) 1 1) #[.int .i64 x45] 3 s52 rfl kk rfl (fun _ => by kernel_rfl) (fun b54 w55 hb56 k57 x58 s59 => ?_)
  apply F.nx
  have lo60 : w.heap.size ≤ b54 := Nl ((SM.fr (B := B) c30 s52 (in2 (fun kq e => .inl (by cases e; rfl)) (fun kq e => .inr (World.ownsRow.lt ho0_5 kq e).1)))).size (Nat.le_of_eq hb56)
  have x51 := Cur.below x51 k57
  have ho66 := own_kept ho53 k57
  refine M.sap (e := 3) (size := 1) (base := w.heap.size) (m := 1) (v := .slice A0_5 n0_5 c0_5) (c := 1) s59 rfl rfl rfl rfl kk kk kk ho66 x58 kk kk (by omega) (by omega) (by have := ((SM.fr (B := B) c30 s59 (in2 (fun kq e => .inl (by cases e; rfl)) (fun kq e => .inr (World.ownsRow.lt ho0_5 kq e).1)))).size; omega) (.inl (by simp)) (fun g67 cap68 w69 ho70 hg71 hat72 hlt73 s74 => ?_)
  apply F.nx
  have nb75 : Nb B (.slice (some ⟨g67, 0, none⟩) (n0_5 + 1) cap68) := nb_app nb0_5_B (Cur.lt x51) hat72
  have x51 := Cur.grown x51 hg71 nb0_5_B (fun j e => Nat.le_trans hN (World.ownsRow.lt ho66 j e).1)
  have nb76 : Nb b2 (.slice (some ⟨g67, 0, none⟩) (n0_5 + 1) cap68) := nb_app nb0_5_b2 (Nat.lt_of_lt_of_le (blk_lt x6) (s59).size) hat72
  have ho70 := own_snoc ho70
  have sp79 := sp_app (v' := .slice (some ⟨g67, 0, none⟩) (n0_5 + 1) cap68) sq0_0_5 kl0_0 ((s59).size) (hat3 (v := .slice A0_5 n0_5 c0_5) hat72)
  refine Fa (.slice (some ⟨g67, 0, none⟩) (n0_5 + 1) cap68) ?_
  apply F.es
  have x6 := SM.blk s74 x6 (ne2 (fun e9 => ne10 (Option.some.inj e9).symm) nb0_5_b2)
  have c80 := (SM.fr (B := B) c30 s74 (in2 (fun kq e => .inl (by cases e; rfl)) (fun kq e => .inr (World.ownsRow.lt ho0_5 kq e).1)))
  have rd81 := rd_sepM kl0_0 s74 (sp2 hsp sq0_0_5)
  apply h8
  refine Rq 3 ?_
  refine Fv (.int .i64 (i : Int)) ?_
  refine Fq (.int .i64 ((i + 1 : Nat) : Int)) (r_add (m := (i : Int)) (n := 1) (z := ((i + 1 : Nat) : Int)) rfl ek ek (by omega) (by omega)) ?_
  refine Fa (.int .i64 ((i + 1 : Nat) : Int)) ?_
  apply F.es
  exact h5 _ _ _ (by omega : (1002 - (i + 1)) < _) ⟨i + 1, (cs ++ [x45]), (some ⟨g67, 0, none⟩), (n0_5 + 1), cap68, Kn.of, rfl, (⟨by omega, by omega⟩), (by simp; omega), (Cur.mono x51 (by omega)), x6, ho70, nb75, nb76, rd81, sp79, c80⟩
 refine Fq (.bool false) (r_leq (m := (i : Int)) (n := m) rfl ek ek (df q31)) ?_
 apply F.es
 apply h7
 refine wp_cond_false ek ?_
 refine wp_exit ?_
 apply h3
 refine wk fun K9 h9 => ?_
 refine wk fun K10 h10 => ?_
 refine W.region_plain (row := (some B)) [(0, false), (1, false), (2, false), (3, false), (4, false), (5, true), (6, false)] kk ?_
 have s82 := SG.self wl0 (some B)
 refine Fv (.slice A0_5 n0_5 c0_5) ?_
 refine Fq (.int .i64 (n0_5 : Int)) (r_len (A := A0_5) (n := n0_5) (c := c0_5) rfl ek kk) ?_
 by_cases q83 : ((n0_5 : Int) : Int) > (0 : Int)
 ·refine Fq (.bool true) (r_gtr (m := (n0_5 : Int)) (n := 0) rfl ek ek (dt q83)) ?_
  refine Fv (.bool true) ?_
  refine Fv (.pointer (some ⟨B, 0, none⟩)) ?_
  refine Fc [.pointer (some ⟨B, 0, none⟩), .int .i64 20] (one_any B N (k + 2 * i) 20 _ hc (by omega) (by omega)) ?_
  rintro e w87 ⟨b84, rfl, _, x89, g88⟩
  have s90 := SG.of_grown s82 g88 (.inl rfl)
  refine ⟨_, rfl, s90, ?_⟩
  apply F.nx
  have ho91 := own_grown ho0_5 g88 (fun j e1 e2 => by cases e2; exact nb0_5_B e1.symm)
  rcases Bool.eq_false_or_eq_true b84 with q92 | q92
  ·rw [q92]
   refine Fq (.bool true) (r_pick (b := true) rfl ek ek) ?_
   apply F.es
   have c93 := (SG.fr (B := B) c30 s90 (fun kq e => .inl (by cases e; rfl)))
   apply h10
   refine wp_cond_true ek ?_
   refine M.region_plain (row := [(some B), (Value.ownBlock (.slice A0_5 n0_5 c0_5))]) [(0, false), (1, false), (2, true), (3, true), (4, false), (5, true)] kk ?_
   have s95 := SM.self w87 [(some B), (Value.ownBlock (.slice A0_5 n0_5 c0_5))]
   refine Fv (.slice A0_5 n0_5 c0_5) ?_
   refine Fv (.pointer (some ⟨B, 0, none⟩)) ?_
   refine M.sn (fun b => .slice (some ⟨b, 0, none⟩) 2 2) #[.int .i64 (-1), .int .i64 1001] 3 s95 rfl kk rfl (fun _ => by kernel_rfl) (fun b96 w97 hb98 k99 x100 s101 => ?_)
   apply F.nx
   have lo102 : w.heap.size ≤ b96 := Nl ((SM.fr (B := B) c93 s95 (in2 (fun kq e => .inl (by cases e; rfl)) (fun kq e => .inr (World.ownsRow.lt ho91 kq e).1)))).size (Nat.le_of_eq hb98)
   have ne104 : B ≠ b96 := Nat.ne_of_lt (Nat.lt_of_lt_of_eq (Cur.lt x89) hb98)
   have x89 := Cur.below x89 k99
   have ho107 := own_kept ho91 k99
   refine Fc [.pointer (some ⟨B, 0, none⟩), .slice (some ⟨b96, 0, none⟩) 2 2] (among_any B N (k + 2 * i + 2) (some ⟨b96, 0, none⟩) 2 2 [(-1), 1001] _ x89 (by omega) (rd_blk x100 rfl rfl) (sp_ne (by have := ne104; omega)) (by omega)) ?_
   rintro e w112 ⟨x108, rfl, hx109, x114, g113⟩
   have s115 := SM.of_grown s101 g113 (.inl (by simp))
   refine ⟨_, rfl, s115, ?_⟩
   apply F.nx
   have ho116 := own_grown ho107 g113 (fun j e1 e2 => by cases e2; exact nb0_5_B e1.symm)
   have hb110 := bnd_of (-1) 1001 hx109 (by decide)
   obtain ⟨g117, rfl, _, _⟩ := own_addr ho116 (by omega)
   refine Fq (.pointer (some ⟨g117, 0, none⟩)) (r_idx0 (n := n0_5) (c := c0_5) (k := 0) rfl ek kk kk (by omega)) ?_
   refine M.ssr (base := w.heap.size) (e := 3) (j := 0) (u := .int .i64 x108) s115 rfl kk rfl rfl kk kk ho116 kk kk kk (by omega) (.inl (by first | (simp; done) | simp [Value.ownBlock])) (fun w118 ho119 g120 s121 => ?_)
   have ho119 := own_setI ho119
   have x114 := Cur.grown x114 g120 nb0_5_B (fun j e => Nat.le_trans hN (World.ownsRow.lt ho116 j e).1)
   apply F.es
   have c122 := (SM.fr (B := B) c93 s121 (in2 (fun kq e => .inl (by cases e; rfl)) (fun kq e => .inr (World.ownsRow.lt ho91 kq e).1)))
   apply h9
   refine wk fun K11 h11 => ?_
   refine wk fun K12 h12 => ?_
   refine W.region_plain (row := (some B)) [(0, false), (1, true)] kk ?_
   have s124 := SG.self w118 (some B)
   refine Fv (.pointer (some ⟨B, 0, none⟩)) ?_
   refine Fc [.pointer (some ⟨B, 0, none⟩), .int .i64 24] (one_any B N ((k + 2 * i + 2) + 2) 24 _ x114 (by omega) (by omega)) ?_
   rintro e w128 ⟨b125, rfl, _, x130, g129⟩
   have s131 := SG.of_grown s124 g129 (.inl rfl)
   refine ⟨_, rfl, s131, ?_⟩
   apply F.nx
   have ho132 := own_grown ho119 g129 (fun j e1 e2 => by cases e2; exact nb0_5_B e1.symm)
   rcases Bool.eq_false_or_eq_true b125 with q133 | q133
   ·rw [q133]
    apply F.es
    have c134 := (SG.fr (B := B) c122 s131 (fun kq e => .inl (by cases e; rfl)))
    apply h12
    refine wp_cond_true ek ?_
    refine W.region_plain (row := (Value.ownBlock (.slice (some ⟨g117, 0, none⟩) n0_5 c0_5))) [(0, false), (1, true), (2, true), (3, false)] kk ?_
    have s136 := SG.self w128 (Value.ownBlock (.slice (some ⟨g117, 0, none⟩) n0_5 c0_5))
    refine Fv (.slice (some ⟨g117, 0, none⟩) n0_5 c0_5) ?_
    refine W.sn (fun b => .slice (some ⟨b, 0, none⟩) 1 1) #[.int .i64 3] 3 s136 rfl kk rfl (fun _ => by kernel_rfl) (fun b137 w138 hb139 k140 x141 s142 => ?_)
    apply F.nx
    have lo143 : w.heap.size ≤ b137 := Nl ((SG.fr (B := B) c134 s136 (fun kq e => .inr (World.ownsRow.lt ho132 kq e).1))).size (Nat.le_of_eq hb139)
    have ho149 := own_kept ho132 k140
    refine W.sap (e := 3) (size := 1) (base := w.heap.size) (m := 1) (v := .slice (some ⟨g117, 0, none⟩) n0_5 c0_5) (c := 1) s142 rfl rfl rfl rfl kk kk kk ho149 x141 kk kk (by omega) (by omega) (by have := ((SG.fr (B := B) c134 s142 (fun kq e => .inr (World.ownsRow.lt ho132 kq e).1))).size; omega) (.inl rfl) (fun g150 cap151 w152 ho153 hg154 hat155 hlt156 s157 => ?_)
    apply F.nx
    have ho153 := own_snoc ho153
    refine Fa (.slice (some ⟨g150, 0, none⟩) (n0_5 + 1) cap151) ?_
    apply F.es
    have x130 := Cur.grown x130 s157 nb0_5_B (fun j e => Nat.le_trans hN (World.ownsRow.lt ho132 j e).1)
    have c163 := (SG.fr (B := B) c134 s157 (fun kq e => .inr (World.ownsRow.lt ho132 kq e).1))
    apply h11
    refine wk fun K13 h13 => ?_
    refine Rq 2 ?_
    refine Fv (.slice (some ⟨g150, 0, none⟩) (n0_5 + 1) cap151) ?_
    refine Fa (.slice (some ⟨g150, 0, none⟩) (n0_5 + 1) cap151) ?_
    apply F.es
    apply h13
    refine wp_ret ?_
    try simp only [Exit.then]
    refine ret1 (v := .slice (some ⟨g150, 0, none⟩) (n0_5 + 1) cap151) rfl kk ?_
    exact ⟨_, _, _, ((cs.set 0 x108) ++ [3]), rfl, ⟨ho153, by first | omega | (simp only [List.length_append, List.length_set, List.length_cons, List.length_nil]; omega)⟩, Cur.mono x130 (by omega), c163⟩
   rw [q133]
   apply F.es
   have c165 := (SG.fr (B := B) c122 s131 (fun kq e => .inl (by cases e; rfl)))
   apply h12
   refine wp_cond_false ek ?_
   apply wp_skip
   apply h11
   refine wk fun K14 h14 => ?_
   refine Rq 2 ?_
   refine Fv (.slice (some ⟨g117, 0, none⟩) n0_5 c0_5) ?_
   refine Fa (.slice (some ⟨g117, 0, none⟩) n0_5 c0_5) ?_
   apply F.es
   apply h14
   refine wp_ret ?_
   try simp only [Exit.then]
   refine ret1 (v := .slice (some ⟨g117, 0, none⟩) n0_5 c0_5) rfl kk ?_
   exact ⟨_, _, _, (cs.set 0 x108), rfl, ⟨ho132, by first | omega | (simp only [List.length_append, List.length_set, List.length_cons, List.length_nil]; omega)⟩, Cur.mono x130 (by omega), c165⟩
  rw [q92]
  refine Fq (.bool false) (r_pick (b := true) rfl ek ek) ?_
  apply F.es
  have c167 := (SG.fr (B := B) c30 s90 (fun kq e => .inl (by cases e; rfl)))
  apply h10
  refine wp_cond_false ek ?_
  apply wp_skip
  apply h9
  refine wk fun K15 h15 => ?_
  refine wk fun K16 h16 => ?_
  refine W.region_plain (row := (some B)) [(0, false), (1, true)] kk ?_
  have s169 := SG.self w87 (some B)
  refine Fv (.pointer (some ⟨B, 0, none⟩)) ?_
  refine Fc [.pointer (some ⟨B, 0, none⟩), .int .i64 24] (one_any B N (k + 2 * i + 2) 24 _ x89 (by omega) (by omega)) ?_
  rintro e w173 ⟨b170, rfl, _, x175, g174⟩
  have s176 := SG.of_grown s169 g174 (.inl rfl)
  refine ⟨_, rfl, s176, ?_⟩
  apply F.nx
  have ho177 := own_grown ho91 g174 (fun j e1 e2 => by cases e2; exact nb0_5_B e1.symm)
  rcases Bool.eq_false_or_eq_true b170 with q178 | q178
  ·rw [q178]
   apply F.es
   have c179 := (SG.fr (B := B) c167 s176 (fun kq e => .inl (by cases e; rfl)))
   apply h16
   refine wp_cond_true ek ?_
   refine W.region_plain (row := (Value.ownBlock (.slice A0_5 n0_5 c0_5))) [(0, false), (1, true), (2, true), (3, false)] kk ?_
   have s181 := SG.self w173 (Value.ownBlock (.slice A0_5 n0_5 c0_5))
   refine Fv (.slice A0_5 n0_5 c0_5) ?_
   refine W.sn (fun b => .slice (some ⟨b, 0, none⟩) 1 1) #[.int .i64 3] 3 s181 rfl kk rfl (fun _ => by kernel_rfl) (fun b182 w183 hb184 k185 x186 s187 => ?_)
   apply F.nx
   have lo188 : w.heap.size ≤ b182 := Nl ((SG.fr (B := B) c179 s181 (fun kq e => .inr (World.ownsRow.lt ho177 kq e).1))).size (Nat.le_of_eq hb184)
   have ho193 := own_kept ho177 k185
   refine W.sap (e := 3) (size := 1) (base := w.heap.size) (m := 1) (v := .slice A0_5 n0_5 c0_5) (c := 1) s187 rfl rfl rfl rfl kk kk kk ho193 x186 kk kk (by omega) (by omega) (by have := ((SG.fr (B := B) c179 s187 (fun kq e => .inr (World.ownsRow.lt ho177 kq e).1))).size; omega) (.inl rfl) (fun g194 cap195 w196 ho197 hg198 hat199 hlt200 s201 => ?_)
   apply F.nx
   have ho197 := own_snoc ho197
   refine Fa (.slice (some ⟨g194, 0, none⟩) (n0_5 + 1) cap195) ?_
   apply F.es
   have x175 := Cur.grown x175 s201 nb0_5_B (fun j e => Nat.le_trans hN (World.ownsRow.lt ho177 j e).1)
   have c206 := (SG.fr (B := B) c179 s201 (fun kq e => .inr (World.ownsRow.lt ho177 kq e).1))
   apply h15
   refine wk fun K17 h17 => ?_
   refine Rq 2 ?_
   refine Fv (.slice (some ⟨g194, 0, none⟩) (n0_5 + 1) cap195) ?_
   refine Fa (.slice (some ⟨g194, 0, none⟩) (n0_5 + 1) cap195) ?_
   apply F.es
   apply h17
   refine wp_ret ?_
   try simp only [Exit.then]
   refine ret1 (v := .slice (some ⟨g194, 0, none⟩) (n0_5 + 1) cap195) rfl kk ?_
   exact ⟨_, _, _, (cs ++ [3]), rfl, ⟨ho197, by first | omega | (simp only [List.length_append, List.length_set, List.length_cons, List.length_nil]; omega)⟩, Cur.mono x175 (by omega), c206⟩
  rw [q178]
  apply F.es
  have c208 := (SG.fr (B := B) c167 s176 (fun kq e => .inl (by cases e; rfl)))
  apply h16
  refine wp_cond_false ek ?_
  apply wp_skip
  apply h15
  refine wk fun K18 h18 => ?_
  refine Rq 2 ?_
  refine Fv (.slice A0_5 n0_5 c0_5) ?_
  refine Fa (.slice A0_5 n0_5 c0_5) ?_
  apply F.es
  apply h18
  refine wp_ret ?_
  try simp only [Exit.then]
  refine ret1 (v := .slice A0_5 n0_5 c0_5) rfl kk ?_
  exact ⟨_, _, _, cs, rfl, ⟨ho177, by first | omega | (simp only [List.length_append, List.length_set, List.length_cons, List.length_nil]; omega)⟩, Cur.mono x175 (by omega), c208⟩
 refine Fq (.bool false) (r_gtr (m := (n0_5 : Int)) (n := 0) rfl ek ek (df q83)) ?_
 refine Fv (.bool false) ?_
 refine Fs s82 ?_
 refine Fs s82 ?_
 refine Fq (.bool false) (r_pick (b := false) rfl ek ek) ?_
 apply F.es
 have c210 := (SG.fr (B := B) c30 s82 (fun kq e => .inl (by cases e; rfl)))
 apply h10
 refine wp_cond_false ek ?_
 apply wp_skip
 apply h9
 refine wk fun K19 h19 => ?_
 refine wk fun K20 h20 => ?_
 refine W.region_plain (row := (some B)) [(0, false), (1, true)] kk ?_
 have s212 := SG.self wl0 (some B)
 refine Fv (.pointer (some ⟨B, 0, none⟩)) ?_
 refine Fc [.pointer (some ⟨B, 0, none⟩), .int .i64 24] (one_any B N (k + 2 * i) 24 _ hc (by omega) (by omega)) ?_
 rintro e w216 ⟨b213, rfl, _, x218, g217⟩
 have s219 := SG.of_grown s212 g217 (.inl rfl)
 refine ⟨_, rfl, s219, ?_⟩
 apply F.nx
 have ho220 := own_grown ho0_5 g217 (fun j e1 e2 => by cases e2; exact nb0_5_B e1.symm)
 rcases Bool.eq_false_or_eq_true b213 with q221 | q221
 ·rw [q221]
  apply F.es
  have c222 := (SG.fr (B := B) c210 s219 (fun kq e => .inl (by cases e; rfl)))
  apply h20
  refine wp_cond_true ek ?_
  refine W.region_plain (row := (Value.ownBlock (.slice A0_5 n0_5 c0_5))) [(0, false), (1, true), (2, true), (3, false)] kk ?_
  have s224 := SG.self w216 (Value.ownBlock (.slice A0_5 n0_5 c0_5))
  refine Fv (.slice A0_5 n0_5 c0_5) ?_
  refine W.sn (fun b => .slice (some ⟨b, 0, none⟩) 1 1) #[.int .i64 3] 3 s224 rfl kk rfl (fun _ => by kernel_rfl) (fun b225 w226 hb227 k228 x229 s230 => ?_)
  apply F.nx
  have lo231 : w.heap.size ≤ b225 := Nl ((SG.fr (B := B) c222 s224 (fun kq e => .inr (World.ownsRow.lt ho220 kq e).1))).size (Nat.le_of_eq hb227)
  have ho236 := own_kept ho220 k228
  refine W.sap (e := 3) (size := 1) (base := w.heap.size) (m := 1) (v := .slice A0_5 n0_5 c0_5) (c := 1) s230 rfl rfl rfl rfl kk kk kk ho236 x229 kk kk (by omega) (by omega) (by have := ((SG.fr (B := B) c222 s230 (fun kq e => .inr (World.ownsRow.lt ho220 kq e).1))).size; omega) (.inl rfl) (fun g237 cap238 w239 ho240 hg241 hat242 hlt243 s244 => ?_)
  apply F.nx
  have ho240 := own_snoc ho240
  refine Fa (.slice (some ⟨g237, 0, none⟩) (n0_5 + 1) cap238) ?_
  apply F.es
  have x218 := Cur.grown x218 s244 nb0_5_B (fun j e => Nat.le_trans hN (World.ownsRow.lt ho220 j e).1)
  have c249 := (SG.fr (B := B) c222 s244 (fun kq e => .inr (World.ownsRow.lt ho220 kq e).1))
  apply h19
  refine wk fun K21 h21 => ?_
  refine Rq 2 ?_
  refine Fv (.slice (some ⟨g237, 0, none⟩) (n0_5 + 1) cap238) ?_
  refine Fa (.slice (some ⟨g237, 0, none⟩) (n0_5 + 1) cap238) ?_
  apply F.es
  apply h21
  refine wp_ret ?_
  try simp only [Exit.then]
  refine ret1 (v := .slice (some ⟨g237, 0, none⟩) (n0_5 + 1) cap238) rfl kk ?_
  exact ⟨_, _, _, (cs ++ [3]), rfl, ⟨ho240, by first | omega | (simp only [List.length_append, List.length_set, List.length_cons, List.length_nil]; omega)⟩, Cur.mono x218 (by omega), c249⟩
 rw [q221]
 apply F.es
 have c251 := (SG.fr (B := B) c210 s219 (fun kq e => .inl (by cases e; rfl)))
 apply h20
 refine wp_cond_false ek ?_
 apply wp_skip
 apply h19
 refine wk fun K22 h22 => ?_
 refine Rq 2 ?_
 refine Fv (.slice A0_5 n0_5 c0_5) ?_
 refine Fa (.slice A0_5 n0_5 c0_5) ?_
 apply F.es
 apply h22
 refine wp_ret ?_
 try simp only [Exit.then]
 refine ret1 (v := .slice A0_5 n0_5 c0_5) rfl kk ?_
 exact ⟨_, _, _, cs, rfl, ⟨ho220, by first | omega | (simp only [List.length_append, List.length_set, List.length_cons, List.length_nil]; omega)⟩, Cur.mono x218 (by omega), c251⟩
set_option maxRecDepth 100000 in
set_option maxHeartbeats 8000000 in
theorem DrawIsPlan_any (A : Option Addr) (n c : Nat) (zs : List Int) (w : World) (hcode : Rd w 1 A n (bytesV zs)) (hz : ∀ z ∈ zs, 0 ≤ z ∧ z < 256) (hn : n ≤ 4611686018427387904) :
    Calls Try.prog 51 #[.slice A n c] w fun e w' => ∃ (m : Int) (A1 : Option Addr) (n1 c1 : Nat) (ps : List Pp) (A2 : Option Addr) (n2 c2 : Nat) (vs : List Vv) (x2 : Int) (x3 : Int) (A4 : Option Addr) (n4 c4 : Nat) (l4 : List Int), e = .returned (.tuple #[.agg #[.int .i64 m, .slice A1 n1 c1], .slice A2 n2 c2, .int .i64 x2, .int .i64 x3, .slice A4 n4 c4]) ∧ ((Rd w' 4 A1 n1 (pipesV ps) ∧ Fm A1 n1 c1 ∧ freshA w.heap.size A1 n1) ∧ smD 30 m ps) ∧ ((Rd w' 4 A2 n2 (valvesV vs) ∧ Fm A2 n2 c2 ∧ freshA w.heap.size A2 n2) ∧ vs.length ≤ 11) ∧ ((Rd w' 1 A4 n4 (intsV l4) ∧ Fm A4 n4 c4 ∧ freshA w.heap.size A4 n4) ∧ l4.length ≤ 1100) ∧ Below w.heap.size w w' := by
 have hl := rd_bytes_len hcode
 go_enter Try.func51, Try.ntmps51
 refine F.begin 48 [(0, .slice A n c)] (fun U0 => ?_)
 refine wk fun K1 h1 => ?_
 refine W.region_plain (row := none) [(0, true), (1, false), (2, false), (3, false), (4, false)] kk ?_
 have s1 := SG.self w none
 refine W.sn (fun b => .pointer (some ⟨b, 0, none⟩)) #[.int .i64 0, .slice none 0 0] 26 s1 rfl kk rfl (fun _ => by kernel_rfl) (fun b2 w3 hb4 k5 x6 s7 => ?_)
 apply F.nx
 have lo8 : w.heap.size ≤ b2 := Nl ((Sb (Below.refl _ _) s1 nkk)).size (Nat.le_of_eq hb4)
 refine Fa (.slice none 0 0) ?_
 refine Fa (.int .i64 0) ?_
 refine Fa (.int .i64 0) ?_
 refine Fa (.slice none 0 0) ?_
 apply F.es
 have c9 := (Sb (Below.refl _ _) s7 nkk)
 apply h1
 refine wk fun K2 h2 => ?_
 refine W.region_plain (row := none) [(0, false), (1, false), (2, true), (3, false)] kk ?_
 have s10 := SG.self w3 none
 refine Fv (.slice A n c) ?_
 refine Fq (.agg #[.slice A n c, .int .i64 0, .int .u64 0]) (r_build rfl (vs := [(0, .slice A n c)]) kk kk) ?_
 refine W.sn (fun b => .pointer (some ⟨b, 0, none⟩)) #[.slice A n c, .int .i64 0, .int .u64 0] 86 s10 rfl kk rfl (fun _ => by kernel_rfl) (fun b11 w12 hb13 k14 x15 s16 => ?_)
 apply F.nx
 have lo17 : w.heap.size ≤ b11 := Nl ((Sb c9 s10 nkk)).size (Nat.le_of_eq hb13)
 have ne18 : b2 ≠ b11 := Nat.ne_of_lt (Nat.lt_of_lt_of_eq (Nat.lt_of_lt_of_le (blk_lt x6) (s10).size) hb13)
 have x19 := Cur.new x15 hcode hz hn ((Sb c9 s16 nkk)) lo17
 have hN : w.heap.size ≤ w.heap.size := Nat.le_refl _
 refine Fa (.pointer (some ⟨b11, 0, none⟩)) ?_
 apply F.es
 have x6 := Sk s16 x6 onn
 have c20 := (Sb c9 s16 nkk)
 apply h2
 refine wk fun K3 h3 => ?_
 refine W.region_plain (row := (some b11)) [(0, false), (1, true), (2, true), (3, true)] kk ?_
 have s21 := SG.self w12 (some b11)
 refine Fv (.pointer (some ⟨b11, 0, none⟩)) ?_
 have z29 := ((Sb c20 s21 (fun kq e => by cases e; exact lo17))).size
 have lb35 := (Nat.lt_of_lt_of_le (blk_lt x6) (s21).size)
 have lb36 := (Cur.lt x19)
 refine Fc [.pointer (some ⟨b11, 0, none⟩)] (anyNetwork_any b11 w.heap.size 0 _ x19 (by omega)) ?_
 rintro e w38 ⟨m22, A23, n24, c25, ps26, rfl, ⟨ho27, hsm28⟩, x40, g39⟩
 have s41 := SG.of_grown s21 g39 (.inl rfl)
 refine ⟨_, rfl, s41, ?_⟩
 apply F.nx
 have rd33 := own_rd ho27
 have fm32 := own_fm ho27
 have hl30 := rd_pipes_len rd33
 have fr34 := freshA_of ho27 (Nat.le_refl _)
 have hsm28m := hsm28.1
 have hsm28n := hsm28.2.1
 have sp42 : Sp A23 n24 (some b2) := sp_fresh fr34 lb35
 have sp43 : Sp A23 n24 (some b11) := sp_fresh fr34 lb36
 refine W.sn (fun b => .pointer (some ⟨b, 0, none⟩)) #[.int .i64 0, .slice none 0 0] 26 s41 rfl kk rfl (fun _ => by kernel_rfl) (fun b44 w45 hb46 k47 x48 s49 => ?_)
 apply F.nx
 have lo50 : w.heap.size ≤ b44 := Nl ((Sb c20 s41 (fun kq e => by cases e; exact lo17))).size (Nat.le_of_eq hb46)
 have sp51 : Sp A23 n24 (some b44) := sp_new rd33 (by have := hb46; omega)
 have ne52 : b2 ≠ b44 := Nat.ne_of_lt (Nat.lt_of_lt_of_eq (Nat.lt_of_lt_of_le (blk_lt x6) (s41).size) hb46)
 have ne53 : b11 ≠ b44 := Nat.ne_of_lt (Nat.lt_of_lt_of_eq (Cur.lt x40) hb46)
 have x40 := Cur.below x40 k47
 have rd54 := Rk rd33 k47
 refine W.ss (v := .agg #[.int .i64 m22, .slice A23 n24 c25]) (j := 0) (news := [.int .i64 m22, .slice A23 n24 c25]) (cs' := #[.int .i64 m22, .slice A23 n24 c25]) s49 rfl kk rfl rfl kk kk x48 kk kk (by simp) kk kk (.inr (Nl (s41).size (Nat.le_of_eq hb46))) (fun w55 g56 x57 s58 => ?_)
 have x40 := Cur.grown x40 g56 (fun e9 => ne53 (Option.some.inj e9)) (fun j e => by cases e; exact Nat.le_trans hN lo50)
 have rd59 := rd_sepG rd54 g56 sp51
 apply F.es
 have x6 := Sk s58 x6 (fun e9 => ne18 (Option.some.inj e9))
 have c60 := (Sb c20 s58 (fun kq e => by cases e; exact lo17))
 apply h3
 refine wk fun K4 h4 => ?_
 refine W.region_plain (row := (some b11)) [(0, false), (1, false), (2, true), (3, false)] kk ?_
 have s61 := SG.self w55 (some b11)
 refine Fv (.pointer (some ⟨b11, 0, none⟩)) ?_
 refine Fq (.agg #[.int .i64 m22, .slice A23 n24 c25]) (r_load2 rfl ek kk kk (sgS (blk_cell (j := 0) x57 kk) (fun e9 => ne53 (Option.some.inj e9).symm)) (sgS (blk_cell (j := 1) x57 kk) (fun e9 => ne53 (Option.some.inj e9).symm))) ?_
 have z67 := ((Sb c60 s61 (fun kq e => by cases e; exact lo17))).size
 have lb73 := (Nat.lt_of_lt_of_le (blk_lt x6) (s61).size)
 have lb74 := (Cur.lt x40)
 have lb75 := (Nat.lt_of_lt_of_le (blk_lt x57) (s61).size)
 refine Fc [.pointer (some ⟨b11, 0, none⟩), .agg #[.int .i64 m22, .slice A23 n24 c25]] (few_any b11 w.heap.size (0 + 400) m22 A23 n24 c25 ps26 _ x40 (by omega) (rd_sep rd59 s61 sp43) sp43 (by omega) (by omega)) ?_
 rintro e w77 ⟨A62, n63, c64, vs65, rfl, ⟨⟨rd71, fm70, fr72⟩, hsm66⟩, x79, g78⟩
 have s80 := SG.of_grown s61 g78 (.inl rfl)
 refine ⟨_, rfl, s80, ?_⟩
 apply F.nx
 have hl68 := rd_valves_len rd71
 have sp81 : Sp A62 n63 (some b2) := sp_fresh fr72 lb73
 have sp82 : Sp A62 n63 (some b11) := sp_fresh fr72 lb74
 refine Fa (.slice A62 n63 c64) ?_
 apply F.es
 have x6 := Sk s80 x6 (fun e9 => ne18 (Option.some.inj e9))
 have x57 := Sk s80 x57 (fun e9 => ne53 (Option.some.inj e9).symm)
 have c84 := (Sb c60 s80 (fun kq e => by cases e; exact lo17))
 have rd85 := rd_sep rd59 s80 sp43
 apply h4
 refine wk fun K5 h5 => ?_
 refine W.region_sch (row := (some b11)) (Sch.of [(0, false), (1, false), (3, false), (4, false), (2, true), (5, true), (6, false), (7, false)]) kk kk (fun _ d _ _ _ h => by cases d <;> exact h) kk (fun w86 e87 s88 => ?_)
 have x89 := Cur.heap x79 e87
 refine Fv (.pointer (some ⟨b11, 0, none⟩)) ?_
 refine Fq (.agg #[.int .i64 m22, .slice A23 n24 c25]) (r_load2 rfl ek kk kk (sgS (blk_cell (j := 0) x57 kk) (fun e9 => ne53 (Option.some.inj e9).symm)) (sgS (blk_cell (j := 1) x57 kk) (fun e9 => ne53 (Option.some.inj e9).symm))) ?_
 refine Fv (.pointer (some ⟨b11, 0, none⟩)) ?_
 refine Fq (.agg #[.int .i64 m22, .slice A23 n24 c25]) (r_load2 rfl ek kk kk (sgS (blk_cell (j := 0) x57 kk) (fun e9 => ne53 (Option.some.inj e9).symm)) (sgS (blk_cell (j := 1) x57 kk) (fun e9 => ne53 (Option.some.inj e9).symm))) ?_
 refine Fc [.pointer (some ⟨b11, 0, none⟩), .agg #[.int .i64 m22, .slice A23 n24 c25]] (nodeOf_any b11 w.heap.size ((0 + 400) + 402) m22 A23 n24 c25 _ x89 (by omega) (by omega)) ?_
 rintro e w93 ⟨x90, rfl, hx91, x95, g94⟩
 have s96 := SG.of_grown s88 g94 (.inl rfl)
 refine ⟨_, rfl, s96, ?_⟩
 apply F.nx
 refine Fc [.pointer (some ⟨b11, 0, none⟩), .agg #[.int .i64 m22, .slice A23 n24 c25]] (pipeOf_any b11 w.heap.size (((0 + 400) + 402) + 6) m22 A23 n24 c25 ps26 _ x95 (by omega) (rd_sep rd85 s96 sp43) sp43 (by omega) (by omega)) ?_
 rintro e w100 ⟨x97, rfl, hx98, x102, g101⟩
 have s103 := SG.of_grown s96 g101 (.inl rfl)
 refine ⟨_, rfl, s103, ?_⟩
 apply F.nx
 refine Fa (.int .i64 x90) ?_
 refine Fa (.int .i64 x97) ?_
 apply F.es
 have x6 := Sk s103 x6 (fun e9 => ne18 (Option.some.inj e9))
 have x57 := Sk s103 x57 (fun e9 => ne53 (Option.some.inj e9).symm)
 have c104 := (Sb c84 s103 (fun kq e => by cases e; exact lo17))
 have rd105 := rd_sep rd85 s103 sp43
 have rd106 := rd_sep rd71 s103 sp82
 apply h5
 refine wk fun K6 h6 => ?_
 refine W.region_plain (row := (some b11)) [(0, false), (1, true), (2, false), (3, true), (4, true), (5, false)] kk ?_
 have s107 := SG.self w100 (some b11)
 refine Fv (.slice A62 n63 c64) ?_
 have z113 := ((Sb c104 s107 (fun kq e => by cases e; exact lo17))).size
 have lb116 := (Nat.lt_of_lt_of_le (blk_lt x6) (s107).size)
 have lb117 := (Cur.lt x102)
 have lb118 := (Nat.lt_of_lt_of_le (blk_lt x57) (s107).size)
 have zl119 := Nat.le_refl w100.heap.size
 have zl120 := Nat.le_refl w100.heap.size
 refine Fc [.slice A62 n63 c64] (l5Open_any A62 n63 c64 vs65 _ (rd_sep rd106 s107 sp82) (by omega)) ?_
 rintro e w122 ⟨A108, n109, c110, rfl, ho111, b121⟩
 have s123 := SG.of_below s107 b121
 refine ⟨_, rfl, s123, ?_⟩
 apply F.nx
 have x102 := Cur.below x102 b121
 have ho112 := own_base (base' := w.heap.size) ho111 z113
 have hl114 := rd_ints_len (own_rd ho112)
 have hb126 := openIds_len vs65
 have nb128 : Nb b11 (.slice A108 n109 c110) := nb_lo ho111 lb117
 refine Fv (.pointer (some ⟨b11, 0, none⟩)) ?_
 refine Fc [.pointer (some ⟨b11, 0, none⟩), .int .i64 64] (pick_nat b11 w.heap.size ((((0 + 400) + 402) + 6) + 4) 64 _ x102 (by omega) (by omega)) ?_
 rintro e w133 ⟨x130, rfl, hx131, x135, g134⟩
 have s136 := SG.of_grown s123 g134 (.inl rfl)
 refine ⟨_, rfl, s136, ?_⟩
 apply F.nx
 have ho137 := own_grown ho112 g134 (fun j e1 e2 => by cases e2; exact nb128 e1.symm)
 have z143 := ((Sb c104 s136 (fun kq e => by cases e; exact lo17))).size
 have lb146 := (Nat.lt_of_lt_of_le (blk_lt x6) (s136).size)
 have lb147 := (Cur.lt x135)
 have lb148 := (Nat.lt_of_lt_of_le (blk_lt x57) (s136).size)
 have zl149 := (s136).size
 have zl150 := (s136).size
 refine Fc [.slice A108 n109 c110, .int .i64 (x130 : Int)] (l5Choice_any A108 n109 c110 (openIds vs65) x130 _ (own_rd ho137) (by omega) (by omega)) ?_
 rintro e w152 ⟨A138, n139, c140, rfl, ho141, b151⟩
 have s153 := SG.of_below s136 b151
 refine ⟨_, rfl, s153, ?_⟩
 apply F.nx
 have x135 := Cur.below x135 b151
 have sp155 : Sp A62 n63 (Value.ownBlock (.slice A138 n139 c140)) := sp_row rd106 ho141 (by omega)
 have sp156 : Sp A23 n24 (Value.ownBlock (.slice A138 n139 c140)) := sp_row rd105 ho141 (by omega)
 have ho142 := own_base (base' := w.heap.size) ho141 z143
 have hl144 := rd_ints_len (own_rd ho142)
 have hb157 := choice_len (openIds vs65) x130
 have nb158 : Nb b2 (.slice A138 n139 c140) := nb_lo ho141 lb146
 have nb159 : Nb b11 (.slice A138 n139 c140) := nb_lo ho141 lb147
 have nb160 : Nb b44 (.slice A138 n139 c140) := nb_lo ho141 lb148
 refine Fa (.slice A138 n139 c140) ?_
 apply F.es
 have x6 := Sk s153 x6 (fun e9 => ne18 (Option.some.inj e9))
 have x57 := Sk s153 x57 (fun e9 => ne53 (Option.some.inj e9).symm)
 have c162 := (Sb c104 s153 (fun kq e => by cases e; exact lo17))
 have rd163 := rd_sep rd105 s153 sp43
 have rd164 := rd_sep rd106 s153 sp82
 apply h6
 refine wk fun K7 h7 => ?_
 refine wk fun K8 h8 => ?_
 refine W.region_plain (row := (some b11)) [(0, false), (1, true)] kk ?_
 have s165 := SG.self w152 (some b11)
 refine Fv (.pointer (some ⟨b11, 0, none⟩)) ?_
 refine Fc [.pointer (some ⟨b11, 0, none⟩), .int .i64 3] (one_any b11 w.heap.size (((((0 + 400) + 402) + 6) + 4) + 2) 3 _ x135 (by omega) (by omega)) ?_
 rintro e w169 ⟨b166, rfl, _, x171, g170⟩
 have s172 := SG.of_grown s165 g170 (.inl rfl)
 refine ⟨_, rfl, s172, ?_⟩
 apply F.nx
 have ho174 := own_grown ho142 g170 (fun j e1 e2 => by cases e2; exact nb159 e1.symm)
 rcases Bool.eq_false_or_eq_true b166 with q175 | q175
 ·rw [q175]
  apply F.es
  have x6 := Sk s172 x6 (fun e9 => ne18 (Option.some.inj e9))
  have x57 := Sk s172 x57 (fun e9 => ne53 (Option.some.inj e9).symm)
  have c176 := (Sb c162 s172 (fun kq e => by cases e; exact lo17))
  have rd177 := rd_sep rd163 s172 sp43
  have rd178 := rd_sep rd164 s172 sp82
  apply h8
  refine wp_cond_true ek ?_
  refine W.region_plain (row := none) [(0, false), (1, true), (2, false)] kk ?_
  have s179 := SG.self w169 none
  refine Fv (.slice A62 n63 c64) ?_
  have z185 := ((Sb c176 s179 nkk)).size
  have lb188 := (Nat.lt_of_lt_of_le (blk_lt x6) (s179).size)
  have lb189 := (Nat.lt_of_lt_of_le (Cur.lt x171) (s179).size)
  have lb190 := (Nat.lt_of_lt_of_le (blk_lt x57) (s179).size)
  have zl191 := Nat.le_refl w169.heap.size
  have zl192 := Nat.le_refl w169.heap.size
  refine Fc [.slice A62 n63 c64] (l5Open_any A62 n63 c64 vs65 _ (Rk rd178 (SG.below s179)) (by omega)) ?_
  rintro e w194 ⟨A180, n181, c182, rfl, ho183, b193⟩
  have s195 := SG.of_below s179 b193
  refine ⟨_, rfl, s195, ?_⟩
  apply F.nx
  have sp198 : Sp A62 n63 (Value.ownBlock (.slice A180 n181 c182)) := sp_row rd178 ho183 (by omega)
  have sp199 : Sp A23 n24 (Value.ownBlock (.slice A180 n181 c182)) := sp_row rd177 ho183 (by omega)
  have ho184 := own_base (base' := w.heap.size) ho183 z185
  have hl186 := rd_ints_len (own_rd ho184)
  have hb200 := openIds_len vs65
  have nb201 : Nb b2 (.slice A180 n181 c182) := nb_lo ho183 lb188
  have nb202 : Nb b11 (.slice A180 n181 c182) := nb_lo ho183 lb189
  have nb203 : Nb b44 (.slice A180 n181 c182) := nb_lo ho183 lb190
  refine Fa (.slice A180 n181 c182) ?_
  apply F.es
  have x6 := Sk s195 x6 onn
  have x171 := Cur.below x171 (SG.below s195)
  have x57 := Sk s195 x57 onn
  have c206 := (Sb c176 s195 nkk)
  have rd207 := Rk rd177 (SG.below s195)
  have rd208 := Rk rd178 (SG.below s195)
  apply h7
  refine wk fun K9 h9 => ?_
  refine wk fun K10 h10 => ?_
  refine W.region_plain (row := (some b11)) [(0, false), (1, true)] kk ?_
  have s209 := SG.self w194 (some b11)
  refine Fv (.pointer (some ⟨b11, 0, none⟩)) ?_
  refine Fc [.pointer (some ⟨b11, 0, none⟩), .int .i64 16] (one_any b11 w.heap.size ((((((0 + 400) + 402) + 6) + 4) + 2) + 2) 16 _ x171 (by omega) (by omega)) ?_
  rintro e w213 ⟨b210, rfl, _, x215, g214⟩
  have s216 := SG.of_grown s209 g214 (.inl rfl)
  refine ⟨_, rfl, s216, ?_⟩
  apply F.nx
  have ho219 := own_grown ho184 g214 (fun j e1 e2 => by cases e2; exact nb202 e1.symm)
  rcases Bool.eq_false_or_eq_true b210 with q220 | q220
  ·rw [q220]
   apply F.es
   have x6 := Sk s216 x6 (fun e9 => ne18 (Option.some.inj e9))
   have x57 := Sk s216 x57 (fun e9 => ne53 (Option.some.inj e9).symm)
   have c221 := (Sb c206 s216 (fun kq e => by cases e; exact lo17))
   have rd222 := rd_sep rd207 s216 sp43
   have rd223 := rd_sep rd208 s216 sp82
   apply h10
   refine wp_cond_true ek ?_
   refine M.region_plain (row := [(some b11), (Value.ownBlock (.slice A180 n181 c182))]) [(0, false), (1, false), (2, true), (3, true), (4, true), (5, false)] kk ?_
   have s224 := SM.self w213 [(some b11), (Value.ownBlock (.slice A180 n181 c182))]
   refine Fv (.slice A180 n181 c182) ?_
   refine Fv (.pointer (some ⟨b11, 0, none⟩)) ?_
   refine Fc [.pointer (some ⟨b11, 0, none⟩), .int .i64 20] (pick_nat b11 w.heap.size (((((((0 + 400) + 402) + 6) + 4) + 2) + 2) + 2) 20 _ x215 (by omega) (by omega)) ?_
   rintro e w228 ⟨x225, rfl, hx226, x230, g229⟩
   have s231 := SM.of_grown s224 g229 (.inl (by simp))
   refine ⟨_, rfl, s231, ?_⟩
   apply F.nx
   have ho234 := own_grown ho219 g229 (fun j e1 e2 => by cases e2; exact nb202 e1.symm)
   refine M.sn (fun b => .slice (some ⟨b, 0, none⟩) 1 1) #[.int .i64 (x225 : Int)] 3 s231 rfl kk rfl (fun _ => by kernel_rfl) (fun b235 w236 hb237 k238 x239 s240 => ?_)
   apply F.nx
   have lo241 : w.heap.size ≤ b235 := Nl ((SM.belowR c221 s231 (in2 (fun kq e => (by cases e; exact lo17)) (fun kq e => (World.ownsRow.lt ho219 kq e).1)))).size (Nat.le_of_eq hb237)
   have ho252 := own_kept ho234 k238
   refine M.sap (e := 3) (size := 1) (base := w.heap.size) (m := 1) (v := .slice A180 n181 c182) (c := 1) s240 rfl rfl rfl rfl kk kk kk ho252 x239 kk kk (by omega) (by omega) (by have := ((SM.belowR c221 s240 (in2 (fun kq e => (by cases e; exact lo17)) (fun kq e => (World.ownsRow.lt ho219 kq e).1)))).size; omega) (.inl (by simp)) (fun g253 cap254 w255 ho256 hg257 hat258 hlt259 s260 => ?_)
   apply F.nx
   have nb261 : Nb b2 (.slice (some ⟨g253, 0, none⟩) (n181 + 1) cap254) := nb_app nb201 (Nat.lt_of_lt_of_le (blk_lt x6) (s240).size) hat258
   have ho256 := own_snoc ho256
   refine Fa (.slice (some ⟨g253, 0, none⟩) (n181 + 1) cap254) ?_
   apply F.es
   have x6 := SM.blk s260 x6 (ne2 (fun e9 => ne18 (Option.some.inj e9)) nb201)
   have x57 := SM.blk s260 x57 (ne2 (fun e9 => ne53 (Option.some.inj e9).symm) nb203)
   have c271 := (SM.belowR c221 s260 (in2 (fun kq e => (by cases e; exact lo17)) (fun kq e => (World.ownsRow.lt ho219 kq e).1)))
   have rd272 := rd_sepM rd222 s260 (sp2 sp43 sp199)
   have rd273 := rd_sepM rd223 s260 (sp2 sp82 sp198)
   apply h9
   refine wk fun K11 h11 => ?_
   refine W.region_plain (row := (some b2)) [(0, false), (1, false), (2, false), (3, false), (4, false), (5, true), (6, false), (7, false), (8, false), (9, false)] kk ?_
   have s274 := SG.self w255 (some b2)
   refine Fq (.agg #[.int .i64 m22, .slice A23 n24 c25]) (r_load2 rfl ek kk kk (sgS (blk_cell (j := 0) x57 kk) (fun e9 => ne52 (Option.some.inj e9).symm)) (sgS (blk_cell (j := 1) x57 kk) (fun e9 => ne52 (Option.some.inj e9).symm))) ?_
   refine Fv (.slice A62 n63 c64) ?_
   refine Fv (.int .i64 x90) ?_
   refine Fv (.int .i64 x97) ?_
   refine Fv (.slice (some ⟨g253, 0, none⟩) (n181 + 1) cap254) ?_
   refine W.ss (v := .agg #[.int .i64 m22, .slice A23 n24 c25]) (j := 0) (news := [.int .i64 m22, .slice A23 n24 c25]) (cs' := #[.int .i64 m22, .slice A23 n24 c25]) s274 rfl kk rfl rfl kk kk x6 kk kk (by simp) kk kk (.inl rfl) (fun w275 g276 x277 s278 => ?_)
   have ho281 := own_grown ho256 g276 (fun j e1 e2 => by cases e2; exact nb261 e1.symm)
   refine Fa (.slice A62 n63 c64) ?_
   refine Fa (.int .i64 x90) ?_
   refine Fa (.int .i64 x97) ?_
   refine Fa (.slice (some ⟨g253, 0, none⟩) (n181 + 1) cap254) ?_
   apply F.es
   have x57 := Sk s278 x57 (fun e9 => ne52 (Option.some.inj e9).symm)
   have c282 := (Sb c271 s278 (fun kq e => by cases e; exact lo8))
   have rd283 := rd_sep rd272 s278 sp42
   have rd284 := rd_sep rd273 s278 sp81
   apply h11
   refine wp_ret ?_
   try simp only [Exit.then]
   refine retCTTTT (x1 := .slice A62 n63 c64) (x2 := .int .i64 x90) (x3 := .int .i64 x97) (x4 := .slice (some ⟨g253, 0, none⟩) (n181 + 1) cap254) rfl kk kk kk x277 kk kk kk kk ?_
   have rd286 := own_rd ho281
   have hl287 := rd_ints_len rd286
   have fm288 := own_fm ho281
   exact ⟨_, _, _, _, ps26, _, _, _, vs65, _, _, _, _, _, ((openIds vs65) ++ [(x225 : Int)]), rfl, ⟨⟨rd283, fm32, (freshA_mono fr34 z29)⟩, hsm28⟩, ⟨⟨rd284, fm70, (freshA_mono fr72 z67)⟩, by first | omega | (simp; omega)⟩, ⟨⟨rd286, fm288, (freshA_of ho281 (Nat.le_refl _))⟩, by first | omega | (simp; omega)⟩, c282⟩
  rw [q220]
  apply F.es
  have x6 := Sk s216 x6 (fun e9 => ne18 (Option.some.inj e9))
  have x57 := Sk s216 x57 (fun e9 => ne53 (Option.some.inj e9).symm)
  have c295 := (Sb c206 s216 (fun kq e => by cases e; exact lo17))
  have rd296 := rd_sep rd207 s216 sp43
  have rd297 := rd_sep rd208 s216 sp82
  apply h10
  refine wp_cond_false ek ?_
  apply wp_skip
  apply h9
  refine wk fun K12 h12 => ?_
  refine W.region_plain (row := (some b2)) [(0, false), (1, false), (2, false), (3, false), (4, false), (5, true), (6, false), (7, false), (8, false), (9, false)] kk ?_
  have s298 := SG.self w213 (some b2)
  refine Fq (.agg #[.int .i64 m22, .slice A23 n24 c25]) (r_load2 rfl ek kk kk (sgS (blk_cell (j := 0) x57 kk) (fun e9 => ne52 (Option.some.inj e9).symm)) (sgS (blk_cell (j := 1) x57 kk) (fun e9 => ne52 (Option.some.inj e9).symm))) ?_
  refine Fv (.slice A62 n63 c64) ?_
  refine Fv (.int .i64 x90) ?_
  refine Fv (.int .i64 x97) ?_
  refine Fv (.slice A180 n181 c182) ?_
  refine W.ss (v := .agg #[.int .i64 m22, .slice A23 n24 c25]) (j := 0) (news := [.int .i64 m22, .slice A23 n24 c25]) (cs' := #[.int .i64 m22, .slice A23 n24 c25]) s298 rfl kk rfl rfl kk kk x6 kk kk (by simp) kk kk (.inl rfl) (fun w299 g300 x301 s302 => ?_)
  have ho305 := own_grown ho219 g300 (fun j e1 e2 => by cases e2; exact nb201 e1.symm)
  refine Fa (.slice A62 n63 c64) ?_
  refine Fa (.int .i64 x90) ?_
  refine Fa (.int .i64 x97) ?_
  refine Fa (.slice A180 n181 c182) ?_
  apply F.es
  have x57 := Sk s302 x57 (fun e9 => ne52 (Option.some.inj e9).symm)
  have c306 := (Sb c295 s302 (fun kq e => by cases e; exact lo8))
  have rd307 := rd_sep rd296 s302 sp42
  have rd308 := rd_sep rd297 s302 sp81
  apply h12
  refine wp_ret ?_
  try simp only [Exit.then]
  refine retCTTTT (x1 := .slice A62 n63 c64) (x2 := .int .i64 x90) (x3 := .int .i64 x97) (x4 := .slice A180 n181 c182) rfl kk kk kk x301 kk kk kk kk ?_
  have rd310 := own_rd ho305
  have hl311 := rd_ints_len rd310
  have fm312 := own_fm ho305
  exact ⟨_, _, _, _, ps26, _, _, _, vs65, _, _, _, _, _, (openIds vs65), rfl, ⟨⟨rd307, fm32, (freshA_mono fr34 z29)⟩, hsm28⟩, ⟨⟨rd308, fm70, (freshA_mono fr72 z67)⟩, by first | omega | (simp; omega)⟩, ⟨⟨rd310, fm312, (freshA_of ho305 (Nat.le_refl _))⟩, by first | omega | (simp; omega)⟩, c306⟩
 rw [q175]
 apply F.es
 have x6 := Sk s172 x6 (fun e9 => ne18 (Option.some.inj e9))
 have x57 := Sk s172 x57 (fun e9 => ne53 (Option.some.inj e9).symm)
 have c318 := (Sb c162 s172 (fun kq e => by cases e; exact lo17))
 have rd319 := rd_sep rd163 s172 sp43
 have rd320 := rd_sep rd164 s172 sp82
 apply h8
 refine wp_cond_false ek ?_
 apply wp_skip
 apply h7
 refine wk fun K13 h13 => ?_
 refine wk fun K14 h14 => ?_
 refine W.region_plain (row := (some b11)) [(0, false), (1, true)] kk ?_
 have s321 := SG.self w169 (some b11)
 refine Fv (.pointer (some ⟨b11, 0, none⟩)) ?_
 refine Fc [.pointer (some ⟨b11, 0, none⟩), .int .i64 16] (one_any b11 w.heap.size ((((((0 + 400) + 402) + 6) + 4) + 2) + 2) 16 _ x171 (by omega) (by omega)) ?_
 rintro e w325 ⟨b322, rfl, _, x327, g326⟩
 have s328 := SG.of_grown s321 g326 (.inl rfl)
 refine ⟨_, rfl, s328, ?_⟩
 apply F.nx
 have ho330 := own_grown ho174 g326 (fun j e1 e2 => by cases e2; exact nb159 e1.symm)
 rcases Bool.eq_false_or_eq_true b322 with q331 | q331
 ·rw [q331]
  apply F.es
  have x6 := Sk s328 x6 (fun e9 => ne18 (Option.some.inj e9))
  have x57 := Sk s328 x57 (fun e9 => ne53 (Option.some.inj e9).symm)
  have c332 := (Sb c318 s328 (fun kq e => by cases e; exact lo17))
  have rd333 := rd_sep rd319 s328 sp43
  have rd334 := rd_sep rd320 s328 sp82
  apply h14
  refine wp_cond_true ek ?_
  refine M.region_plain (row := [(some b11), (Value.ownBlock (.slice A138 n139 c140))]) [(0, false), (1, false), (2, true), (3, true), (4, true), (5, false)] kk ?_
  have s335 := SM.self w325 [(some b11), (Value.ownBlock (.slice A138 n139 c140))]
  refine Fv (.slice A138 n139 c140) ?_
  refine Fv (.pointer (some ⟨b11, 0, none⟩)) ?_
  refine Fc [.pointer (some ⟨b11, 0, none⟩), .int .i64 20] (pick_nat b11 w.heap.size (((((((0 + 400) + 402) + 6) + 4) + 2) + 2) + 2) 20 _ x327 (by omega) (by omega)) ?_
  rintro e w339 ⟨x336, rfl, hx337, x341, g340⟩
  have s342 := SM.of_grown s335 g340 (.inl (by simp))
  refine ⟨_, rfl, s342, ?_⟩
  apply F.nx
  have ho344 := own_grown ho330 g340 (fun j e1 e2 => by cases e2; exact nb159 e1.symm)
  refine M.sn (fun b => .slice (some ⟨b, 0, none⟩) 1 1) #[.int .i64 (x336 : Int)] 3 s342 rfl kk rfl (fun _ => by kernel_rfl) (fun b345 w346 hb347 k348 x349 s350 => ?_)
  apply F.nx
  have lo351 : w.heap.size ≤ b345 := Nl ((SM.belowR c332 s342 (in2 (fun kq e => (by cases e; exact lo17)) (fun kq e => (World.ownsRow.lt ho330 kq e).1)))).size (Nat.le_of_eq hb347)
  have ho360 := own_kept ho344 k348
  refine M.sap (e := 3) (size := 1) (base := w.heap.size) (m := 1) (v := .slice A138 n139 c140) (c := 1) s350 rfl rfl rfl rfl kk kk kk ho360 x349 kk kk (by omega) (by omega) (by have := ((SM.belowR c332 s350 (in2 (fun kq e => (by cases e; exact lo17)) (fun kq e => (World.ownsRow.lt ho330 kq e).1)))).size; omega) (.inl (by simp)) (fun g361 cap362 w363 ho364 hg365 hat366 hlt367 s368 => ?_)
  apply F.nx
  have nb369 : Nb b2 (.slice (some ⟨g361, 0, none⟩) (n139 + 1) cap362) := nb_app nb158 (Nat.lt_of_lt_of_le (blk_lt x6) (s350).size) hat366
  have ho364 := own_snoc ho364
  refine Fa (.slice (some ⟨g361, 0, none⟩) (n139 + 1) cap362) ?_
  apply F.es
  have x6 := SM.blk s368 x6 (ne2 (fun e9 => ne18 (Option.some.inj e9)) nb158)
  have x57 := SM.blk s368 x57 (ne2 (fun e9 => ne53 (Option.some.inj e9).symm) nb160)
  have c377 := (SM.belowR c332 s368 (in2 (fun kq e => (by cases e; exact lo17)) (fun kq e => (World.ownsRow.lt ho330 kq e).1)))
  have rd378 := rd_sepM rd333 s368 (sp2 sp43 sp156)
  have rd379 := rd_sepM rd334 s368 (sp2 sp82 sp155)
  apply h13
  refine wk fun K15 h15 => ?_
  refine W.region_plain (row := (some b2)) [(0, false), (1, false), (2, false), (3, false), (4, false), (5, true), (6, false), (7, false), (8, false), (9, false)] kk ?_
  have s380 := SG.self w363 (some b2)
  refine Fq (.agg #[.int .i64 m22, .slice A23 n24 c25]) (r_load2 rfl ek kk kk (sgS (blk_cell (j := 0) x57 kk) (fun e9 => ne52 (Option.some.inj e9).symm)) (sgS (blk_cell (j := 1) x57 kk) (fun e9 => ne52 (Option.some.inj e9).symm))) ?_
  refine Fv (.slice A62 n63 c64) ?_
  refine Fv (.int .i64 x90) ?_
  refine Fv (.int .i64 x97) ?_
  refine Fv (.slice (some ⟨g361, 0, none⟩) (n139 + 1) cap362) ?_
  refine W.ss (v := .agg #[.int .i64 m22, .slice A23 n24 c25]) (j := 0) (news := [.int .i64 m22, .slice A23 n24 c25]) (cs' := #[.int .i64 m22, .slice A23 n24 c25]) s380 rfl kk rfl rfl kk kk x6 kk kk (by simp) kk kk (.inl rfl) (fun w381 g382 x383 s384 => ?_)
  have ho386 := own_grown ho364 g382 (fun j e1 e2 => by cases e2; exact nb369 e1.symm)
  refine Fa (.slice A62 n63 c64) ?_
  refine Fa (.int .i64 x90) ?_
  refine Fa (.int .i64 x97) ?_
  refine Fa (.slice (some ⟨g361, 0, none⟩) (n139 + 1) cap362) ?_
  apply F.es
  have x57 := Sk s384 x57 (fun e9 => ne52 (Option.some.inj e9).symm)
  have c387 := (Sb c377 s384 (fun kq e => by cases e; exact lo8))
  have rd388 := rd_sep rd378 s384 sp42
  have rd389 := rd_sep rd379 s384 sp81
  apply h15
  refine wp_ret ?_
  try simp only [Exit.then]
  refine retCTTTT (x1 := .slice A62 n63 c64) (x2 := .int .i64 x90) (x3 := .int .i64 x97) (x4 := .slice (some ⟨g361, 0, none⟩) (n139 + 1) cap362) rfl kk kk kk x383 kk kk kk kk ?_
  have rd391 := own_rd ho386
  have hl392 := rd_ints_len rd391
  have fm393 := own_fm ho386
  exact ⟨_, _, _, _, ps26, _, _, _, vs65, _, _, _, _, _, ((choice (openIds vs65) x130) ++ [(x336 : Int)]), rfl, ⟨⟨rd388, fm32, (freshA_mono fr34 z29)⟩, hsm28⟩, ⟨⟨rd389, fm70, (freshA_mono fr72 z67)⟩, by first | omega | (simp; omega)⟩, ⟨⟨rd391, fm393, (freshA_of ho386 (Nat.le_refl _))⟩, by first | omega | (simp; omega)⟩, c387⟩
 rw [q331]
 apply F.es
 have x6 := Sk s328 x6 (fun e9 => ne18 (Option.some.inj e9))
 have x57 := Sk s328 x57 (fun e9 => ne53 (Option.some.inj e9).symm)
 have c399 := (Sb c318 s328 (fun kq e => by cases e; exact lo17))
 have rd400 := rd_sep rd319 s328 sp43
 have rd401 := rd_sep rd320 s328 sp82
 apply h14
 refine wp_cond_false ek ?_
 apply wp_skip
 apply h13
 refine wk fun K16 h16 => ?_
 refine W.region_plain (row := (some b2)) [(0, false), (1, false), (2, false), (3, false), (4, false), (5, true), (6, false), (7, false), (8, false), (9, false)] kk ?_
 have s402 := SG.self w325 (some b2)
 refine Fq (.agg #[.int .i64 m22, .slice A23 n24 c25]) (r_load2 rfl ek kk kk (sgS (blk_cell (j := 0) x57 kk) (fun e9 => ne52 (Option.some.inj e9).symm)) (sgS (blk_cell (j := 1) x57 kk) (fun e9 => ne52 (Option.some.inj e9).symm))) ?_
 refine Fv (.slice A62 n63 c64) ?_
 refine Fv (.int .i64 x90) ?_
 refine Fv (.int .i64 x97) ?_
 refine Fv (.slice A138 n139 c140) ?_
 refine W.ss (v := .agg #[.int .i64 m22, .slice A23 n24 c25]) (j := 0) (news := [.int .i64 m22, .slice A23 n24 c25]) (cs' := #[.int .i64 m22, .slice A23 n24 c25]) s402 rfl kk rfl rfl kk kk x6 kk kk (by simp) kk kk (.inl rfl) (fun w403 g404 x405 s406 => ?_)
 have ho408 := own_grown ho330 g404 (fun j e1 e2 => by cases e2; exact nb158 e1.symm)
 refine Fa (.slice A62 n63 c64) ?_
 refine Fa (.int .i64 x90) ?_
 refine Fa (.int .i64 x97) ?_
 refine Fa (.slice A138 n139 c140) ?_
 apply F.es
 have c409 := (Sb c399 s406 (fun kq e => by cases e; exact lo8))
 have rd410 := rd_sep rd400 s406 sp42
 have rd411 := rd_sep rd401 s406 sp81
 apply h16
 refine wp_ret ?_
 try simp only [Exit.then]
 refine retCTTTT (x1 := .slice A62 n63 c64) (x2 := .int .i64 x90) (x3 := .int .i64 x97) (x4 := .slice A138 n139 c140) rfl kk kk kk x405 kk kk kk kk ?_
 have rd413 := own_rd ho408
 have hl414 := rd_ints_len rd413
 have fm415 := own_fm ho408
 exact ⟨_, _, _, _, ps26, _, _, _, vs65, _, _, _, _, _, (choice (openIds vs65) x130), rfl, ⟨⟨rd410, fm32, (freshA_mono fr34 z29)⟩, hsm28⟩, ⟨⟨rd411, fm70, (freshA_mono fr72 z67)⟩, by first | omega | (simp; omega)⟩, ⟨⟨rd413, fm415, (freshA_of ho408 (Nat.le_refl _))⟩, by first | omega | (simp; omega)⟩, c409⟩
set_option maxRecDepth 100000 in
set_option maxHeartbeats 8000000 in
theorem DrawHarmOf_any (A : Option Addr) (n c : Nat) (zs : List Int) (w : World) (hcode : Rd w 1 A n (bytesV zs)) (hz : ∀ z ∈ zs, 0 ≤ z ∧ z < 256) (hn : n ≤ 4611686018427387904) :
    Calls Try.prog 58 #[.slice A n c] w fun e w' => ∃ (m : Int) (A1 : Option Addr) (n1 c1 : Nat) (ps : List Pp) (A2 : Option Addr) (n2 c2 : Nat) (vs : List Vv) (x2 : Int) (x3 : Int) (A4 : Option Addr) (n4 c4 : Nat) (l4 : List Int) (A5 : Option Addr) (n5 c5 : Nat) (l5 : List Int), e = .returned (.tuple #[.agg #[.int .i64 m, .slice A1 n1 c1], .slice A2 n2 c2, .int .i64 x2, .int .i64 x3, .slice A4 n4 c4, .slice A5 n5 c5]) ∧ ((Rd w' 4 A1 n1 (pipesV ps) ∧ Fm A1 n1 c1 ∧ freshA w.heap.size A1 n1) ∧ smD 30 m ps) ∧ ((Rd w' 4 A2 n2 (valvesV vs) ∧ Fm A2 n2 c2 ∧ freshA w.heap.size A2 n2) ∧ vs.length ≤ 11) ∧ ((Rd w' 1 A4 n4 (intsV l4) ∧ Fm A4 n4 c4 ∧ freshA w.heap.size A4 n4) ∧ l4.length ≤ 1100) ∧ ((Rd w' 1 A5 n5 (intsV l5) ∧ Fm A5 n5 c5 ∧ freshA w.heap.size A5 n5) ∧ l5.length ≤ 1100) ∧ Below w.heap.size w w' := by
 have hl := rd_bytes_len hcode
 go_enter Try.func58, Try.ntmps58
 refine F.begin 33 [(0, .slice A n c)] (fun U0 => ?_)
 refine wk fun K1 h1 => ?_
 refine W.region_plain (row := none) [(0, true), (1, false), (2, false), (3, false), (4, false), (5, false)] kk ?_
 have s1 := SG.self w none
 refine W.sn (fun b => .pointer (some ⟨b, 0, none⟩)) #[.int .i64 0, .slice none 0 0] 26 s1 rfl kk rfl (fun _ => by kernel_rfl) (fun b2 w3 hb4 k5 x6 s7 => ?_)
 apply F.nx
 have lo8 : w.heap.size ≤ b2 := Nl ((Sb (Below.refl _ _) s1 nkk)).size (Nat.le_of_eq hb4)
 refine Fa (.slice none 0 0) ?_
 refine Fa (.int .i64 0) ?_
 refine Fa (.int .i64 0) ?_
 refine Fa (.slice none 0 0) ?_
 refine Fa (.slice none 0 0) ?_
 apply F.es
 have c9 := (Sb (Below.refl _ _) s7 nkk)
 apply h1
 refine wk fun K2 h2 => ?_
 refine W.region_plain (row := none) [(0, false), (1, true), (2, false), (3, false), (4, false), (5, false), (6, false), (7, false), (8, true), (9, true), (10, false), (11, false), (12, false), (13, false)] kk ?_
 have s10 := SG.self w3 none
 refine Fv (.slice A n c) ?_
 have lb12 := (Nat.lt_of_lt_of_le (blk_lt x6) (s10).size)
 have z11 := ((Sb c9 s10 nkk)).size
 refine Fc [.slice A n c] (DrawIsPlan_any A n c zs _ (Rk hcode (Sb c9 s10 nkk)) hz hn) ?_
 rintro e w47 ⟨m13, A14, n15, c16, dl17, A24, n25, c26, dl27, x34, x35, A36, n37, c38, dl39, rfl, ⟨⟨rd18, fm19, fr23⟩, hsm20⟩, ⟨⟨rd28, fm29, fr33⟩, hsm30⟩, ⟨⟨rd40, fm41, fr45⟩, hsm42⟩, b46⟩
 have s48 := SG.of_below s10 b46
 refine ⟨_, rfl, s48, ?_⟩
 apply F.nx
 have hl21 := rd_pipes_len rd18
 have sp49 : Sp A14 n15 (some b2) := sp_fresh fr23 lb12
 have hsm20m := hsm20.1
 have hsm20n := hsm20.2.1
 have hl31 := rd_valves_len rd28
 have sp50 : Sp A24 n25 (some b2) := sp_fresh fr33 lb12
 have hl43 := rd_ints_len rd40
 have sp51 : Sp A36 n37 (some b2) := sp_fresh fr45 lb12
 refine Fv (.tuple #[.agg #[.int .i64 m13, .slice A14 n15 c16], .slice A24 n25 c26, .int .i64 x34, .int .i64 x35, .slice A36 n37 c38]) ?_
 refine Fq (.agg #[.int .i64 m13, .slice A14 n15 c16]) (r_extract (vs := #[.agg #[.int .i64 m13, .slice A14 n15 c16], .slice A24 n25 c26, .int .i64 x34, .int .i64 x35, .slice A36 n37 c38]) rfl ek kk) ?_
 refine Fq (.slice A24 n25 c26) (r_extract (vs := #[.agg #[.int .i64 m13, .slice A14 n15 c16], .slice A24 n25 c26, .int .i64 x34, .int .i64 x35, .slice A36 n37 c38]) rfl ek kk) ?_
 refine Fq (.int .i64 x34) (r_extract (vs := #[.agg #[.int .i64 m13, .slice A14 n15 c16], .slice A24 n25 c26, .int .i64 x34, .int .i64 x35, .slice A36 n37 c38]) rfl ek kk) ?_
 refine Fq (.int .i64 x35) (r_extract (vs := #[.agg #[.int .i64 m13, .slice A14 n15 c16], .slice A24 n25 c26, .int .i64 x34, .int .i64 x35, .slice A36 n37 c38]) rfl ek kk) ?_
 refine Fq (.slice A36 n37 c38) (r_extract (vs := #[.agg #[.int .i64 m13, .slice A14 n15 c16], .slice A24 n25 c26, .int .i64 x34, .int .i64 x35, .slice A36 n37 c38]) rfl ek kk) ?_
 refine W.sn (fun b => .pointer (some ⟨b, 0, none⟩)) #[.int .i64 0, .slice none 0 0] 26 s48 rfl kk rfl (fun _ => by kernel_rfl) (fun b52 w53 hb54 k55 x56 s57 => ?_)
 apply F.nx
 have lo58 : w.heap.size ≤ b52 := Nl ((Sb c9 s48 nkk)).size (Nat.le_of_eq hb54)
 have sp59 : Sp A14 n15 (some b52) := sp_new rd18 (by have := hb54; omega)
 have sp60 : Sp A24 n25 (some b52) := sp_new rd28 (by have := hb54; omega)
 have sp61 : Sp A36 n37 (some b52) := sp_new rd40 (by have := hb54; omega)
 have ne62 : b2 ≠ b52 := Nat.ne_of_lt (Nat.lt_of_lt_of_eq (Nat.lt_of_lt_of_le (blk_lt x6) (s48).size) hb54)
 have rd63 := Rk rd18 k55
 have rd64 := Rk rd28 k55
 have rd65 := Rk rd40 k55
 refine W.ss (v := .agg #[.int .i64 m13, .slice A14 n15 c16]) (j := 0) (news := [.int .i64 m13, .slice A14 n15 c16]) (cs' := #[.int .i64 m13, .slice A14 n15 c16]) s57 rfl kk rfl rfl kk kk x56 kk kk (by simp) kk kk (.inr (Nl (s48).size (Nat.le_of_eq hb54))) (fun w66 g67 x68 s69 => ?_)
 have rd70 := rd_sepG rd63 g67 sp59
 have rd71 := rd_sepG rd64 g67 sp60
 have rd72 := rd_sepG rd65 g67 sp61
 refine Fa (.slice A24 n25 c26) ?_
 refine Fa (.int .i64 x34) ?_
 refine Fa (.int .i64 x35) ?_
 refine Fa (.slice A36 n37 c38) ?_
 apply F.es
 have x6 := Sk s69 x6 onn
 have c73 := (Sb c9 s69 nkk)
 apply h2
 refine wk fun K3 h3 => ?_
 refine W.region_plain (row := none) [(0, false), (1, false), (2, true), (3, false)] kk ?_
 have s74 := SG.self w66 none
 refine Fv (.slice A n c) ?_
 refine Fq (.agg #[.slice A n c, .int .i64 0, .int .u64 0]) (r_build rfl (vs := [(0, .slice A n c)]) kk kk) ?_
 refine W.sn (fun b => .pointer (some ⟨b, 0, none⟩)) #[.slice A n c, .int .i64 0, .int .u64 0] 86 s74 rfl kk rfl (fun _ => by kernel_rfl) (fun b75 w76 hb77 k78 x79 s80 => ?_)
 apply F.nx
 have lo81 : w.heap.size ≤ b75 := Nl ((Sb c73 s74 nkk)).size (Nat.le_of_eq hb77)
 have sp82 : Sp A24 n25 (some b75) := sp_new rd71 (by have := (s74).size; have := hb77; omega)
 have sp83 : Sp A36 n37 (some b75) := sp_new rd72 (by have := (s74).size; have := hb77; omega)
 have sp84 : Sp A14 n15 (some b75) := sp_new rd70 (by have := (s74).size; have := hb77; omega)
 have ne85 : b2 ≠ b75 := Nat.ne_of_lt (Nat.lt_of_lt_of_eq (Nat.lt_of_lt_of_le (blk_lt x6) (s74).size) hb77)
 have ne86 : b52 ≠ b75 := Nat.ne_of_lt (Nat.lt_of_lt_of_eq (Nat.lt_of_lt_of_le (blk_lt x68) (s74).size) hb77)
 have x87 := Cur.new x79 hcode hz hn ((Sb c73 s80 nkk)) lo81
 have hN : w.heap.size ≤ w.heap.size := Nat.le_refl _
 refine Fa (.pointer (some ⟨b75, 0, none⟩)) ?_
 apply F.es
 have x6 := Sk s80 x6 onn
 have x68 := Sk s80 x68 onn
 have c88 := (Sb c73 s80 nkk)
 have rd89 := Rk rd70 (SG.below s80)
 have rd90 := Rk rd71 (SG.below s80)
 have rd91 := Rk rd72 (SG.below s80)
 apply h3
 refine wk fun K4 h4 => ?_
 refine M.region_sch (row := [(some b75), (some b2)]) (Sch.of [(0, false), (1, false), (2, false), (3, false), (4, false), (5, false), (6, false), (7, true), (8, true), (9, false), (10, false), (11, false), (12, false), (13, false)]) kk kk (fun _ d _ _ _ h => by cases d <;> exact h) kk (fun w92 e93 s94 => ?_)
 have x95 := Cur.heap x87 e93
 have x96 := (heap_same e93 x6)
 refine Fq (.agg #[.int .i64 m13, .slice A14 n15 c16]) (r_load2 rfl ek kk kk (smS (blk_cell (j := 0) x68 kk) (ne2 (fun e9 => ne86 (Option.some.inj e9)) (fun e9 => ne62 (Option.some.inj e9).symm))) (smS (blk_cell (j := 1) x68 kk) (ne2 (fun e9 => ne86 (Option.some.inj e9)) (fun e9 => ne62 (Option.some.inj e9).symm)))) ?_
 refine Fv (.slice A24 n25 c26) ?_
 refine Fv (.int .i64 x34) ?_
 refine Fv (.int .i64 x35) ?_
 refine Fv (.slice A36 n37 c38) ?_
 refine Fv (.pointer (some ⟨b75, 0, none⟩)) ?_
 refine Fq (.agg #[.int .i64 m13, .slice A14 n15 c16]) (r_load2 rfl ek kk kk (smS (blk_cell (j := 0) x68 kk) (ne2 (fun e9 => ne86 (Option.some.inj e9)) (fun e9 => ne62 (Option.some.inj e9).symm))) (smS (blk_cell (j := 1) x68 kk) (ne2 (fun e9 => ne86 (Option.some.inj e9)) (fun e9 => ne62 (Option.some.inj e9).symm)))) ?_
 have z103 := ((SM.belowR c88 s94 (in2 (fun kq e => (by cases e; exact lo81)) (fun kq e => (by cases e; exact lo8))))).size
 have lb109 := (blk_lt x96)
 have lb110 := (Nat.lt_of_lt_of_le (blk_lt x68) (s94).size)
 have lb111 := (Cur.lt x95)
 refine Fc [.pointer (some ⟨b75, 0, none⟩), .agg #[.int .i64 m13, .slice A14 n15 c16]] (customers_any b75 w.heap.size 0 m13 A14 n15 c16 dl17 _ x95 (by omega) (rd_sepM rd89 s94 (sp2 sp84 sp49)) sp84 (by omega) (by omega)) ?_
 rintro e w113 ⟨A97, n98, c99, cs100, rfl, ⟨ho101, hsm102⟩, x115, g114⟩
 have s116 := SM.of_grown s94 g114 (.inl (by simp))
 refine ⟨_, rfl, s116, ?_⟩
 apply F.nx
 have x96 := (g114.block _ (blk_lt x96) (fun e9 => ne85 (Option.some.inj e9))).trans x96
 have rd107 := own_rd ho101
 have fm106 := own_fm ho101
 have hl104 := rd_ints_len rd107
 have fr108 := freshA_of ho101 (Nat.le_refl _)
 have sp117 : Sp A97 n98 (some b2) := sp_fresh fr108 lb109
 refine M.ss (v := .agg #[.int .i64 m13, .slice A14 n15 c16]) (j := 0) (news := [.int .i64 m13, .slice A14 n15 c16]) (cs' := #[.int .i64 m13, .slice A14 n15 c16]) s116 rfl kk rfl rfl kk kk x96 kk kk (by simp) kk kk (.inl (by simp)) (fun w120 g121 x122 s123 => ?_)
 have rd124 := rd_sepG rd107 g121 sp117
 refine Fa (.slice A24 n25 c26) ?_
 refine Fa (.int .i64 x34) ?_
 refine Fa (.int .i64 x35) ?_
 refine Fa (.slice A36 n37 c38) ?_
 refine Fa (.slice A97 n98 c99) ?_
 apply F.es
 have c125 := (SM.belowR c88 s123 (in2 (fun kq e => (by cases e; exact lo81)) (fun kq e => (by cases e; exact lo8))))
 have rd126 := rd_sepM rd89 s123 (sp2 sp84 sp49)
 have rd127 := rd_sepM rd90 s123 (sp2 sp82 sp50)
 have rd128 := rd_sepM rd91 s123 (sp2 sp83 sp51)
 apply h4
 refine wp_ret ?_
 try simp only [Exit.then]
 refine retCTTTTT (x1 := .slice A24 n25 c26) (x2 := .int .i64 x34) (x3 := .int .i64 x35) (x4 := .slice A36 n37 c38) (x5 := .slice A97 n98 c99) rfl kk kk kk x122 kk kk kk kk kk ?_
 exact ⟨_, _, _, _, dl17, _, _, _, dl27, _, _, _, _, _, dl39, _, _, _, cs100, rfl, ⟨⟨rd126, fm19, (freshA_mono fr23 z11)⟩, hsm20⟩, ⟨⟨rd127, fm29, (freshA_mono fr33 z11)⟩, by first | omega | (simp; omega)⟩, ⟨⟨rd128, fm41, (freshA_mono fr45 z11)⟩, by first | omega | (simp; omega)⟩, ⟨⟨rd124, fm106, (freshA_mono fr108 z103)⟩, by first | omega | (simp; omega)⟩, c125⟩
set_option maxRecDepth 100000 in
set_option maxHeartbeats 8000000 in
theorem DrawGentlestPlan_any (A : Option Addr) (n c : Nat) (zs : List Int) (w : World) (hcode : Rd w 1 A n (bytesV zs)) (hz : ∀ z ∈ zs, 0 ≤ z ∧ z < 256) (hn : n ≤ 4611686018427387904) :
    Calls Try.prog 62 #[.slice A n c] w fun e w' => ∃ (m : Int) (A1 : Option Addr) (n1 c1 : Nat) (ps : List Pp) (A2 : Option Addr) (n2 c2 : Nat) (vs : List Vv) (x2 : Int) (x3 : Int) (A4 : Option Addr) (n4 c4 : Nat) (l4 : List Int), e = .returned (.tuple #[.agg #[.int .i64 m, .slice A1 n1 c1], .slice A2 n2 c2, .int .i64 x2, .int .i64 x3, .slice A4 n4 c4]) ∧ ((Rd w' 4 A1 n1 (pipesV ps) ∧ Fm A1 n1 c1 ∧ freshA w.heap.size A1 n1) ∧ smD 30 m ps) ∧ ((Rd w' 4 A2 n2 (valvesV vs) ∧ Fm A2 n2 c2 ∧ freshA w.heap.size A2 n2) ∧ vs.length ≤ 11) ∧ ((Rd w' 1 A4 n4 (intsV l4) ∧ Fm A4 n4 c4 ∧ freshA w.heap.size A4 n4) ∧ l4.length ≤ 1100) ∧ Below w.heap.size w w' := by
 have hl := rd_bytes_len hcode
 go_enter Try.func62, Try.ntmps62
 refine F.begin 27 [(0, .slice A n c)] (fun U0 => ?_)
 refine wk fun K1 h1 => ?_
 refine W.region_plain (row := none) [(0, true), (1, false), (2, false), (3, false), (4, false)] kk ?_
 have s1 := SG.self w none
 refine W.sn (fun b => .pointer (some ⟨b, 0, none⟩)) #[.int .i64 0, .slice none 0 0] 26 s1 rfl kk rfl (fun _ => by kernel_rfl) (fun b2 w3 hb4 k5 x6 s7 => ?_)
 apply F.nx
 have lo8 : w.heap.size ≤ b2 := Nl ((Sb (Below.refl _ _) s1 nkk)).size (Nat.le_of_eq hb4)
 refine Fa (.slice none 0 0) ?_
 refine Fa (.int .i64 0) ?_
 refine Fa (.int .i64 0) ?_
 refine Fa (.slice none 0 0) ?_
 apply F.es
 have c9 := (Sb (Below.refl _ _) s7 nkk)
 apply h1
 refine wk fun K2 h2 => ?_
 refine W.region_plain (row := none) [(0, false), (1, false), (2, true), (3, false)] kk ?_
 have s10 := SG.self w3 none
 refine Fv (.slice A n c) ?_
 refine Fq (.agg #[.slice A n c, .int .i64 0, .int .u64 0]) (r_build rfl (vs := [(0, .slice A n c)]) kk kk) ?_
 refine W.sn (fun b => .pointer (some ⟨b, 0, none⟩)) #[.slice A n c, .int .i64 0, .int .u64 0] 86 s10 rfl kk rfl (fun _ => by kernel_rfl) (fun b11 w12 hb13 k14 x15 s16 => ?_)
 apply F.nx
 have lo17 : w.heap.size ≤ b11 := Nl ((Sb c9 s10 nkk)).size (Nat.le_of_eq hb13)
 have ne18 : b2 ≠ b11 := Nat.ne_of_lt (Nat.lt_of_lt_of_eq (Nat.lt_of_lt_of_le (blk_lt x6) (s10).size) hb13)
 have x19 := Cur.new x15 hcode hz hn ((Sb c9 s16 nkk)) lo17
 have hN : w.heap.size ≤ w.heap.size := Nat.le_refl _
 refine Fa (.pointer (some ⟨b11, 0, none⟩)) ?_
 apply F.es
 have x6 := Sk s16 x6 onn
 have c20 := (Sb c9 s16 nkk)
 apply h2
 refine wk fun K3 h3 => ?_
 refine W.region_plain (row := (some b11)) [(0, false), (1, true), (2, true), (3, true)] kk ?_
 have s21 := SG.self w12 (some b11)
 refine Fv (.pointer (some ⟨b11, 0, none⟩)) ?_
 have z29 := ((Sb c20 s21 (fun kq e => by cases e; exact lo17))).size
 have lb35 := (Nat.lt_of_lt_of_le (blk_lt x6) (s21).size)
 have lb36 := (Cur.lt x19)
 refine Fc [.pointer (some ⟨b11, 0, none⟩)] (anyNetwork_any b11 w.heap.size 0 _ x19 (by omega)) ?_
 rintro e w38 ⟨m22, A23, n24, c25, ps26, rfl, ⟨ho27, hsm28⟩, x40, g39⟩
 have s41 := SG.of_grown s21 g39 (.inl rfl)
 refine ⟨_, rfl, s41, ?_⟩
 apply F.nx
 have rd33 := own_rd ho27
 have fm32 := own_fm ho27
 have hl30 := rd_pipes_len rd33
 have fr34 := freshA_of ho27 (Nat.le_refl _)
 have hsm28m := hsm28.1
 have hsm28n := hsm28.2.1
 have sp42 : Sp A23 n24 (some b2) := sp_fresh fr34 lb35
 have sp43 : Sp A23 n24 (some b11) := sp_fresh fr34 lb36
 refine W.sn (fun b => .pointer (some ⟨b, 0, none⟩)) #[.int .i64 0, .slice none 0 0] 26 s41 rfl kk rfl (fun _ => by kernel_rfl) (fun b44 w45 hb46 k47 x48 s49 => ?_)
 apply F.nx
 have lo50 : w.heap.size ≤ b44 := Nl ((Sb c20 s41 (fun kq e => by cases e; exact lo17))).size (Nat.le_of_eq hb46)
 have sp51 : Sp A23 n24 (some b44) := sp_new rd33 (by have := hb46; omega)
 have ne52 : b2 ≠ b44 := Nat.ne_of_lt (Nat.lt_of_lt_of_eq (Nat.lt_of_lt_of_le (blk_lt x6) (s41).size) hb46)
 have ne53 : b11 ≠ b44 := Nat.ne_of_lt (Nat.lt_of_lt_of_eq (Cur.lt x40) hb46)
 have x40 := Cur.below x40 k47
 have rd54 := Rk rd33 k47
 refine W.ss (v := .agg #[.int .i64 m22, .slice A23 n24 c25]) (j := 0) (news := [.int .i64 m22, .slice A23 n24 c25]) (cs' := #[.int .i64 m22, .slice A23 n24 c25]) s49 rfl kk rfl rfl kk kk x48 kk kk (by simp) kk kk (.inr (Nl (s41).size (Nat.le_of_eq hb46))) (fun w55 g56 x57 s58 => ?_)
 have x40 := Cur.grown x40 g56 (fun e9 => ne53 (Option.some.inj e9)) (fun j e => by cases e; exact Nat.le_trans hN lo50)
 have rd59 := rd_sepG rd54 g56 sp51
 apply F.es
 have x6 := Sk s58 x6 (fun e9 => ne18 (Option.some.inj e9))
 have c60 := (Sb c20 s58 (fun kq e => by cases e; exact lo17))
 apply h3
 refine wk fun K4 h4 => ?_
 refine M.region_sch (row := [(some b11), (some b2)]) (Sch.of [(0, false), (1, false), (2, false), (4, false), (5, false), (7, false), (8, false), (10, false), (11, false), (3, true), (6, true), (9, true), (12, true), (13, true), (14, false), (15, false), (16, false), (17, false)]) kk kk (fun _ d _ _ _ h => by cases d <;> exact h) kk (fun w61 e62 s63 => ?_)
 have x64 := Cur.heap x40 e62
 have x65 := (heap_same e62 x6)
 refine Fq (.agg #[.int .i64 m22, .slice A23 n24 c25]) (r_load2 rfl ek kk kk (smS (blk_cell (j := 0) x57 kk) (ne2 (fun e9 => ne53 (Option.some.inj e9).symm) (fun e9 => ne52 (Option.some.inj e9).symm))) (smS (blk_cell (j := 1) x57 kk) (ne2 (fun e9 => ne53 (Option.some.inj e9).symm) (fun e9 => ne52 (Option.some.inj e9).symm)))) ?_
 refine Fv (.pointer (some ⟨b11, 0, none⟩)) ?_
 refine Fq (.agg #[.int .i64 m22, .slice A23 n24 c25]) (r_load2 rfl ek kk kk (smS (blk_cell (j := 0) x57 kk) (ne2 (fun e9 => ne53 (Option.some.inj e9).symm) (fun e9 => ne52 (Option.some.inj e9).symm))) (smS (blk_cell (j := 1) x57 kk) (ne2 (fun e9 => ne53 (Option.some.inj e9).symm) (fun e9 => ne52 (Option.some.inj e9).symm)))) ?_
 refine Fv (.pointer (some ⟨b11, 0, none⟩)) ?_
 refine Fq (.agg #[.int .i64 m22, .slice A23 n24 c25]) (r_load2 rfl ek kk kk (smS (blk_cell (j := 0) x57 kk) (ne2 (fun e9 => ne53 (Option.some.inj e9).symm) (fun e9 => ne52 (Option.some.inj e9).symm))) (smS (blk_cell (j := 1) x57 kk) (ne2 (fun e9 => ne53 (Option.some.inj e9).symm) (fun e9 => ne52 (Option.some.inj e9).symm)))) ?_
 refine Fv (.pointer (some ⟨b11, 0, none⟩)) ?_
 refine Fq (.agg #[.int .i64 m22, .slice A23 n24 c25]) (r_load2 rfl ek kk kk (smS (blk_cell (j := 0) x57 kk) (ne2 (fun e9 => ne53 (Option.some.inj e9).symm) (fun e9 => ne52 (Option.some.inj e9).symm))) (smS (blk_cell (j := 1) x57 kk) (ne2 (fun e9 => ne53 (Option.some.inj e9).symm) (fun e9 => ne52 (Option.some.inj e9).symm)))) ?_
 refine Fv (.pointer (some ⟨b11, 0, none⟩)) ?_
 refine Fq (.agg #[.int .i64 m22, .slice A23 n24 c25]) (r_load2 rfl ek kk kk (smS (blk_cell (j := 0) x57 kk) (ne2 (fun e9 => ne53 (Option.some.inj e9).symm) (fun e9 => ne52 (Option.some.inj e9).symm))) (smS (blk_cell (j := 1) x57 kk) (ne2 (fun e9 => ne53 (Option.some.inj e9).symm) (fun e9 => ne52 (Option.some.inj e9).symm)))) ?_
 have z71 := ((SM.belowR c60 s63 (in2 (fun kq e => (by cases e; exact lo17)) (fun kq e => (by cases e; exact lo8))))).size
 have lb77 := (blk_lt x65)
 have lb78 := (Cur.lt x64)
 have lb79 := (Nat.lt_of_lt_of_le (blk_lt x57) (s63).size)
 refine Fc [.pointer (some ⟨b11, 0, none⟩), .agg #[.int .i64 m22, .slice A23 n24 c25]] (few_any b11 w.heap.size (0 + 400) m22 A23 n24 c25 ps26 _ x64 (by omega) (rd_sepM rd59 s63 (sp2 sp43 sp42)) sp43 (by omega) (by omega)) ?_
 rintro e w81 ⟨A66, n67, c68, vs69, rfl, ⟨⟨rd75, fm74, fr76⟩, hsm70⟩, x83, g82⟩
 have s84 := SM.of_grown s63 g82 (.inl (by simp))
 refine ⟨_, rfl, s84, ?_⟩
 apply F.nx
 have x65 := (g82.block _ (blk_lt x65) (fun e9 => ne18 (Option.some.inj e9))).trans x65
 have hl72 := rd_valves_len rd75
 have sp85 : Sp A66 n67 (some b2) := sp_fresh fr76 lb77
 have sp86 : Sp A66 n67 (some b11) := sp_fresh fr76 lb78
 refine Fc [.pointer (some ⟨b11, 0, none⟩), .agg #[.int .i64 m22, .slice A23 n24 c25]] (nodeOf_any b11 w.heap.size ((0 + 400) + 402) m22 A23 n24 c25 _ x83 (by omega) (by omega)) ?_
 rintro e w91 ⟨x88, rfl, hx89, x93, g92⟩
 have s94 := SM.of_grown s84 g92 (.inl (by simp))
 refine ⟨_, rfl, s94, ?_⟩
 apply F.nx
 have x65 := (g92.block _ (blk_lt x65) (fun e9 => ne18 (Option.some.inj e9))).trans x65
 have rd95 := rd_sepG rd75 g92 sp86
 refine Fc [.pointer (some ⟨b11, 0, none⟩), .agg #[.int .i64 m22, .slice A23 n24 c25]] (pipeOf_any b11 w.heap.size (((0 + 400) + 402) + 6) m22 A23 n24 c25 ps26 _ x93 (by omega) (rd_sepM rd59 s94 (sp2 sp43 sp42)) sp43 (by omega) (by omega)) ?_
 rintro e w99 ⟨x96, rfl, hx97, x101, g100⟩
 have s102 := SM.of_grown s94 g100 (.inl (by simp))
 refine ⟨_, rfl, s102, ?_⟩
 apply F.nx
 have x65 := (g100.block _ (blk_lt x65) (fun e9 => ne18 (Option.some.inj e9))).trans x65
 have rd103 := rd_sepG rd95 g100 sp86
 have z110 := ((SM.belowR c60 s102 (in2 (fun kq e => (by cases e; exact lo17)) (fun kq e => (by cases e; exact lo8))))).size
 have lb116 := (blk_lt x65)
 have lb117 := (Cur.lt x101)
 have lb118 := (Nat.lt_of_lt_of_le (blk_lt x57) (s102).size)
 refine Fc [.pointer (some ⟨b11, 0, none⟩), .agg #[.int .i64 m22, .slice A23 n24 c25]] (customers_any b11 w.heap.size ((((0 + 400) + 402) + 6) + 4) m22 A23 n24 c25 ps26 _ x101 (by omega) (rd_sepM rd59 s102 (sp2 sp43 sp42)) sp43 (by omega) (by omega)) ?_
 rintro e w120 ⟨A104, n105, c106, cs107, rfl, ⟨ho108, hsm109⟩, x122, g121⟩
 have s123 := SM.of_grown s102 g121 (.inl (by simp))
 refine ⟨_, rfl, s123, ?_⟩
 apply F.nx
 have x65 := (g121.block _ (blk_lt x65) (fun e9 => ne18 (Option.some.inj e9))).trans x65
 have rd124 := rd_sepG rd103 g121 sp86
 have rd114 := own_rd ho108
 have fm113 := own_fm ho108
 have hl111 := rd_ints_len rd114
 have fr115 := freshA_of ho108 (Nat.le_refl _)
 have sp125 : Sp A104 n105 (some b2) := sp_fresh fr115 lb116
 refine M.ss (v := .agg #[.int .i64 m22, .slice A23 n24 c25]) (j := 0) (news := [.int .i64 m22, .slice A23 n24 c25]) (cs' := #[.int .i64 m22, .slice A23 n24 c25]) s123 rfl kk rfl rfl kk kk x65 kk kk (by simp) kk kk (.inl (by simp)) (fun w128 g129 x130 s131 => ?_)
 have rd132 := rd_sepG rd124 g129 sp85
 have rd133 := rd_sepG rd114 g129 sp125
 refine Fa (.slice A66 n67 c68) ?_
 refine Fa (.int .i64 x88) ?_
 refine Fa (.int .i64 x96) ?_
 refine Fa (.slice A104 n105 c106) ?_
 apply F.es
 have c134 := (SM.belowR c60 s131 (in2 (fun kq e => (by cases e; exact lo17)) (fun kq e => (by cases e; exact lo8))))
 have rd135 := rd_sepM rd59 s131 (sp2 sp43 sp42)
 apply h4
 refine wp_ret ?_
 try simp only [Exit.then]
 refine retCTTTT (x1 := .slice A66 n67 c68) (x2 := .int .i64 x88) (x3 := .int .i64 x96) (x4 := .slice A104 n105 c106) rfl kk kk kk x130 kk kk kk kk ?_
 exact ⟨_, _, _, _, ps26, _, _, _, vs69, _, _, _, _, _, cs107, rfl, ⟨⟨rd135, fm32, (freshA_mono fr34 z29)⟩, hsm28⟩, ⟨⟨rd132, fm74, (freshA_mono fr76 z71)⟩, by first | omega | (simp; omega)⟩, ⟨⟨rd133, fm113, (freshA_mono fr115 z110)⟩, by first | omega | (simp; omega)⟩, c134⟩
set_option maxRecDepth 100000 in
set_option maxHeartbeats 8000000 in
theorem DrawWorstBurst_any (A : Option Addr) (n c : Nat) (zs : List Int) (w : World) (hcode : Rd w 1 A n (bytesV zs)) (hz : ∀ z ∈ zs, 0 ≤ z ∧ z < 256) (hn : n ≤ 4611686018427387904) :
    Calls Try.prog 64 #[.slice A n c] w fun e w' => ∃ (m : Int) (A1 : Option Addr) (n1 c1 : Nat) (ps : List Pp) (A2 : Option Addr) (n2 c2 : Nat) (vs : List Vv) (x2 : Int) (A3 : Option Addr) (n3 c3 : Nat) (l3 : List Int), e = .returned (.tuple #[.agg #[.int .i64 m, .slice A1 n1 c1], .slice A2 n2 c2, .int .i64 x2, .slice A3 n3 c3]) ∧ ((Rd w' 4 A1 n1 (pipesV ps) ∧ Fm A1 n1 c1 ∧ freshA w.heap.size A1 n1) ∧ smD 30 m ps) ∧ ((Rd w' 4 A2 n2 (valvesV vs) ∧ Fm A2 n2 c2 ∧ freshA w.heap.size A2 n2) ∧ vs.length ≤ 11) ∧ ((Rd w' 1 A3 n3 (intsV l3) ∧ Fm A3 n3 c3 ∧ freshA w.heap.size A3 n3) ∧ l3.length ≤ 1100) ∧ Below w.heap.size w w' := by
 have hl := rd_bytes_len hcode
 go_enter Try.func64, Try.ntmps64
 refine F.begin 23 [(0, .slice A n c)] (fun U0 => ?_)
 refine wk fun K1 h1 => ?_
 refine W.region_plain (row := none) [(0, true), (1, false), (2, false), (3, false)] kk ?_
 have s1 := SG.self w none
 refine W.sn (fun b => .pointer (some ⟨b, 0, none⟩)) #[.int .i64 0, .slice none 0 0] 26 s1 rfl kk rfl (fun _ => by kernel_rfl) (fun b2 w3 hb4 k5 x6 s7 => ?_)
 apply F.nx
 have lo8 : w.heap.size ≤ b2 := Nl ((Sb (Below.refl _ _) s1 nkk)).size (Nat.le_of_eq hb4)
 refine Fa (.slice none 0 0) ?_
 refine Fa (.int .i64 0) ?_
 refine Fa (.slice none 0 0) ?_
 apply F.es
 have c9 := (Sb (Below.refl _ _) s7 nkk)
 apply h1
 refine wk fun K2 h2 => ?_
 refine W.region_plain (row := none) [(0, false), (1, false), (2, true), (3, false)] kk ?_
 have s10 := SG.self w3 none
 refine Fv (.slice A n c) ?_
 refine Fq (.agg #[.slice A n c, .int .i64 0, .int .u64 0]) (r_build rfl (vs := [(0, .slice A n c)]) kk kk) ?_
 refine W.sn (fun b => .pointer (some ⟨b, 0, none⟩)) #[.slice A n c, .int .i64 0, .int .u64 0] 86 s10 rfl kk rfl (fun _ => by kernel_rfl) (fun b11 w12 hb13 k14 x15 s16 => ?_)
 apply F.nx
 have lo17 : w.heap.size ≤ b11 := Nl ((Sb c9 s10 nkk)).size (Nat.le_of_eq hb13)
 have ne18 : b2 ≠ b11 := Nat.ne_of_lt (Nat.lt_of_lt_of_eq (Nat.lt_of_lt_of_le (blk_lt x6) (s10).size) hb13)
 have x19 := Cur.new x15 hcode hz hn ((Sb c9 s16 nkk)) lo17
 have hN : w.heap.size ≤ w.heap.size := Nat.le_refl _
 refine Fa (.pointer (some ⟨b11, 0, none⟩)) ?_
 apply F.es
 have x6 := Sk s16 x6 onn
 have c20 := (Sb c9 s16 nkk)
 apply h2
 refine wk fun K3 h3 => ?_
 refine W.region_plain (row := (some b11)) [(0, false), (1, true), (2, true), (3, true)] kk ?_
 have s21 := SG.self w12 (some b11)
 refine Fv (.pointer (some ⟨b11, 0, none⟩)) ?_
 have z29 := ((Sb c20 s21 (fun kq e => by cases e; exact lo17))).size
 have lb35 := (Nat.lt_of_lt_of_le (blk_lt x6) (s21).size)
 have lb36 := (Cur.lt x19)
 refine Fc [.pointer (some ⟨b11, 0, none⟩)] (anyNetwork_any b11 w.heap.size 0 _ x19 (by omega)) ?_
 rintro e w38 ⟨m22, A23, n24, c25, ps26, rfl, ⟨ho27, hsm28⟩, x40, g39⟩
 have s41 := SG.of_grown s21 g39 (.inl rfl)
 refine ⟨_, rfl, s41, ?_⟩
 apply F.nx
 have rd33 := own_rd ho27
 have fm32 := own_fm ho27
 have hl30 := rd_pipes_len rd33
 have fr34 := freshA_of ho27 (Nat.le_refl _)
 have hsm28m := hsm28.1
 have hsm28n := hsm28.2.1
 have sp42 : Sp A23 n24 (some b2) := sp_fresh fr34 lb35
 have sp43 : Sp A23 n24 (some b11) := sp_fresh fr34 lb36
 refine W.sn (fun b => .pointer (some ⟨b, 0, none⟩)) #[.int .i64 0, .slice none 0 0] 26 s41 rfl kk rfl (fun _ => by kernel_rfl) (fun b44 w45 hb46 k47 x48 s49 => ?_)
 apply F.nx
 have lo50 : w.heap.size ≤ b44 := Nl ((Sb c20 s41 (fun kq e => by cases e; exact lo17))).size (Nat.le_of_eq hb46)
 have sp51 : Sp A23 n24 (some b44) := sp_new rd33 (by have := hb46; omega)
 have ne52 : b2 ≠ b44 := Nat.ne_of_lt (Nat.lt_of_lt_of_eq (Nat.lt_of_lt_of_le (blk_lt x6) (s41).size) hb46)
 have ne53 : b11 ≠ b44 := Nat.ne_of_lt (Nat.lt_of_lt_of_eq (Cur.lt x40) hb46)
 have x40 := Cur.below x40 k47
 have rd54 := Rk rd33 k47
 refine W.ss (v := .agg #[.int .i64 m22, .slice A23 n24 c25]) (j := 0) (news := [.int .i64 m22, .slice A23 n24 c25]) (cs' := #[.int .i64 m22, .slice A23 n24 c25]) s49 rfl kk rfl rfl kk kk x48 kk kk (by simp) kk kk (.inr (Nl (s41).size (Nat.le_of_eq hb46))) (fun w55 g56 x57 s58 => ?_)
 have x40 := Cur.grown x40 g56 (fun e9 => ne53 (Option.some.inj e9)) (fun j e => by cases e; exact Nat.le_trans hN lo50)
 have rd59 := rd_sepG rd54 g56 sp51
 apply F.es
 have x6 := Sk s58 x6 (fun e9 => ne18 (Option.some.inj e9))
 have c60 := (Sb c20 s58 (fun kq e => by cases e; exact lo17))
 apply h3
 refine wk fun K4 h4 => ?_
 refine M.region_sch (row := [(some b11), (some b2)]) (Sch.of [(0, false), (1, false), (2, false), (4, false), (5, false), (7, false), (8, false), (3, true), (6, true), (9, true), (10, true), (11, false), (12, false), (13, false)]) kk kk (fun _ d _ _ _ h => by cases d <;> exact h) kk (fun w61 e62 s63 => ?_)
 have x64 := Cur.heap x40 e62
 have x65 := (heap_same e62 x6)
 refine Fq (.agg #[.int .i64 m22, .slice A23 n24 c25]) (r_load2 rfl ek kk kk (smS (blk_cell (j := 0) x57 kk) (ne2 (fun e9 => ne53 (Option.some.inj e9).symm) (fun e9 => ne52 (Option.some.inj e9).symm))) (smS (blk_cell (j := 1) x57 kk) (ne2 (fun e9 => ne53 (Option.some.inj e9).symm) (fun e9 => ne52 (Option.some.inj e9).symm)))) ?_
 refine Fv (.pointer (some ⟨b11, 0, none⟩)) ?_
 refine Fq (.agg #[.int .i64 m22, .slice A23 n24 c25]) (r_load2 rfl ek kk kk (smS (blk_cell (j := 0) x57 kk) (ne2 (fun e9 => ne53 (Option.some.inj e9).symm) (fun e9 => ne52 (Option.some.inj e9).symm))) (smS (blk_cell (j := 1) x57 kk) (ne2 (fun e9 => ne53 (Option.some.inj e9).symm) (fun e9 => ne52 (Option.some.inj e9).symm)))) ?_
 refine Fv (.pointer (some ⟨b11, 0, none⟩)) ?_
 refine Fq (.agg #[.int .i64 m22, .slice A23 n24 c25]) (r_load2 rfl ek kk kk (smS (blk_cell (j := 0) x57 kk) (ne2 (fun e9 => ne53 (Option.some.inj e9).symm) (fun e9 => ne52 (Option.some.inj e9).symm))) (smS (blk_cell (j := 1) x57 kk) (ne2 (fun e9 => ne53 (Option.some.inj e9).symm) (fun e9 => ne52 (Option.some.inj e9).symm)))) ?_
 refine Fv (.pointer (some ⟨b11, 0, none⟩)) ?_
 refine Fq (.agg #[.int .i64 m22, .slice A23 n24 c25]) (r_load2 rfl ek kk kk (smS (blk_cell (j := 0) x57 kk) (ne2 (fun e9 => ne53 (Option.some.inj e9).symm) (fun e9 => ne52 (Option.some.inj e9).symm))) (smS (blk_cell (j := 1) x57 kk) (ne2 (fun e9 => ne53 (Option.some.inj e9).symm) (fun e9 => ne52 (Option.some.inj e9).symm)))) ?_
 have z71 := ((SM.belowR c60 s63 (in2 (fun kq e => (by cases e; exact lo17)) (fun kq e => (by cases e; exact lo8))))).size
 have lb77 := (blk_lt x65)
 have lb78 := (Cur.lt x64)
 have lb79 := (Nat.lt_of_lt_of_le (blk_lt x57) (s63).size)
 refine Fc [.pointer (some ⟨b11, 0, none⟩), .agg #[.int .i64 m22, .slice A23 n24 c25]] (few_any b11 w.heap.size (0 + 400) m22 A23 n24 c25 ps26 _ x64 (by omega) (rd_sepM rd59 s63 (sp2 sp43 sp42)) sp43 (by omega) (by omega)) ?_
 rintro e w81 ⟨A66, n67, c68, vs69, rfl, ⟨⟨rd75, fm74, fr76⟩, hsm70⟩, x83, g82⟩
 have s84 := SM.of_grown s63 g82 (.inl (by simp))
 refine ⟨_, rfl, s84, ?_⟩
 apply F.nx
 have x65 := (g82.block _ (blk_lt x65) (fun e9 => ne18 (Option.some.inj e9))).trans x65
 have hl72 := rd_valves_len rd75
 have sp85 : Sp A66 n67 (some b2) := sp_fresh fr76 lb77
 have sp86 : Sp A66 n67 (some b11) := sp_fresh fr76 lb78
 refine Fc [.pointer (some ⟨b11, 0, none⟩), .agg #[.int .i64 m22, .slice A23 n24 c25]] (nodeOf_any b11 w.heap.size ((0 + 400) + 402) m22 A23 n24 c25 _ x83 (by omega) (by omega)) ?_
 rintro e w91 ⟨x88, rfl, hx89, x93, g92⟩
 have s94 := SM.of_grown s84 g92 (.inl (by simp))
 refine ⟨_, rfl, s94, ?_⟩
 apply F.nx
 have x65 := (g92.block _ (blk_lt x65) (fun e9 => ne18 (Option.some.inj e9))).trans x65
 have rd95 := rd_sepG rd75 g92 sp86
 have z102 := ((SM.belowR c60 s94 (in2 (fun kq e => (by cases e; exact lo17)) (fun kq e => (by cases e; exact lo8))))).size
 have lb108 := (blk_lt x65)
 have lb109 := (Cur.lt x93)
 have lb110 := (Nat.lt_of_lt_of_le (blk_lt x57) (s94).size)
 refine Fc [.pointer (some ⟨b11, 0, none⟩), .agg #[.int .i64 m22, .slice A23 n24 c25]] (customers_any b11 w.heap.size (((0 + 400) + 402) + 6) m22 A23 n24 c25 ps26 _ x93 (by omega) (rd_sepM rd59 s94 (sp2 sp43 sp42)) sp43 (by omega) (by omega)) ?_
 rintro e w112 ⟨A96, n97, c98, cs99, rfl, ⟨ho100, hsm101⟩, x114, g113⟩
 have s115 := SM.of_grown s94 g113 (.inl (by simp))
 refine ⟨_, rfl, s115, ?_⟩
 apply F.nx
 have x65 := (g113.block _ (blk_lt x65) (fun e9 => ne18 (Option.some.inj e9))).trans x65
 have rd116 := rd_sepG rd95 g113 sp86
 have rd106 := own_rd ho100
 have fm105 := own_fm ho100
 have hl103 := rd_ints_len rd106
 have fr107 := freshA_of ho100 (Nat.le_refl _)
 have sp117 : Sp A96 n97 (some b2) := sp_fresh fr107 lb108
 refine M.ss (v := .agg #[.int .i64 m22, .slice A23 n24 c25]) (j := 0) (news := [.int .i64 m22, .slice A23 n24 c25]) (cs' := #[.int .i64 m22, .slice A23 n24 c25]) s115 rfl kk rfl rfl kk kk x65 kk kk (by simp) kk kk (.inl (by simp)) (fun w120 g121 x122 s123 => ?_)
 have rd124 := rd_sepG rd116 g121 sp85
 have rd125 := rd_sepG rd106 g121 sp117
 refine Fa (.slice A66 n67 c68) ?_
 refine Fa (.int .i64 x88) ?_
 refine Fa (.slice A96 n97 c98) ?_
 apply F.es
 have c126 := (SM.belowR c60 s123 (in2 (fun kq e => (by cases e; exact lo17)) (fun kq e => (by cases e; exact lo8))))
 have rd127 := rd_sepM rd59 s123 (sp2 sp43 sp42)
 apply h4
 refine wp_ret ?_
 try simp only [Exit.then]
 refine retCTTT (x1 := .slice A66 n67 c68) (x2 := .int .i64 x88) (x3 := .slice A96 n97 c98) rfl kk kk kk x122 kk kk kk ?_
 exact ⟨_, _, _, _, ps26, _, _, _, vs69, _, _, _, _, cs99, rfl, ⟨⟨rd127, fm32, (freshA_mono fr34 z29)⟩, hsm28⟩, ⟨⟨rd124, fm74, (freshA_mono fr76 z71)⟩, by first | omega | (simp; omega)⟩, ⟨⟨rd125, fm105, (freshA_mono fr107 z102)⟩, by first | omega | (simp; omega)⟩, c126⟩
set_option maxRecDepth 100000 in
set_option maxHeartbeats 8000000 in
theorem DrawNewValveGain_any (A : Option Addr) (n c : Nat) (zs : List Int) (w : World) (hcode : Rd w 1 A n (bytesV zs)) (hz : ∀ z ∈ zs, 0 ≤ z ∧ z < 256) (hn : n ≤ 4611686018427387904) :
    Calls Try.prog 67 #[.slice A n c] w fun e w' => ∃ (m : Int) (A1 : Option Addr) (n1 c1 : Nat) (ps : List Pp) (A2 : Option Addr) (n2 c2 : Nat) (vs : List Vv) (x2 : Int) (x3 : Int) (x4 : Vv) (A5 : Option Addr) (n5 c5 : Nat) (l5 : List Int), e = .returned (.tuple #[.agg #[.int .i64 m, .slice A1 n1 c1], .slice A2 n2 c2, .int .i64 x2, .int .i64 x3, .agg #[.int .i64 x4.id, .int .i64 x4.pipe, .int .i64 x4.node, .bool x4.shut], .slice A5 n5 c5]) ∧ ((Rd w' 4 A1 n1 (pipesV ps) ∧ Fm A1 n1 c1 ∧ freshA w.heap.size A1 n1) ∧ smD 30 m ps) ∧ ((Rd w' 4 A2 n2 (valvesV vs) ∧ Fm A2 n2 c2 ∧ freshA w.heap.size A2 n2) ∧ vs.length ≤ 11) ∧ ((Rd w' 1 A5 n5 (intsV l5) ∧ Fm A5 n5 c5 ∧ freshA w.heap.size A5 n5) ∧ l5.length ≤ 1100) ∧ Below w.heap.size w w' := by
 have hl := rd_bytes_len hcode
 go_enter Try.func67, Try.ntmps67
 refine F.begin 61 [(0, .slice A n c)] (fun U0 => ?_)
 refine wk fun K1 h1 => ?_
 refine W.region_plain (row := none) [(0, true), (1, false), (2, false), (3, false), (4, true), (5, false)] kk ?_
 have s1 := SG.self w none
 refine W.sn (fun b => .pointer (some ⟨b, 0, none⟩)) #[.int .i64 0, .slice none 0 0] 26 s1 rfl kk rfl (fun _ => by kernel_rfl) (fun b2 w3 hb4 k5 x6 s7 => ?_)
 apply F.nx
 have lo8 : w.heap.size ≤ b2 := Nl ((Sb (Below.refl _ _) s1 nkk)).size (Nat.le_of_eq hb4)
 refine Fa (.slice none 0 0) ?_
 refine Fa (.int .i64 0) ?_
 refine Fa (.int .i64 0) ?_
 refine W.sn (fun b => .pointer (some ⟨b, 0, none⟩)) #[.int .i64 0, .int .i64 0, .int .i64 0, .bool false] 40 s7 rfl kk rfl (fun _ => by kernel_rfl) (fun b9 w10 hb11 k12 x13 s14 => ?_)
 apply F.nx
 have lo15 : w.heap.size ≤ b9 := Nl ((Sb (Below.refl _ _) s7 nkk)).size (Nat.le_of_eq hb11)
 have ne16 : b2 ≠ b9 := Nat.ne_of_lt (Nat.lt_of_lt_of_eq (blk_lt x6) hb11)
 have x6 := (k12.block _ (blk_lt x6)).trans x6
 refine Fa (.slice none 0 0) ?_
 apply F.es
 have c17 := (Sb (Below.refl _ _) s14 nkk)
 apply h1
 refine wk fun K2 h2 => ?_
 refine W.region_plain (row := none) [(0, false), (1, false), (2, true), (3, false)] kk ?_
 have s18 := SG.self w10 none
 refine Fv (.slice A n c) ?_
 refine Fq (.agg #[.slice A n c, .int .i64 0, .int .u64 0]) (r_build rfl (vs := [(0, .slice A n c)]) kk kk) ?_
 refine W.sn (fun b => .pointer (some ⟨b, 0, none⟩)) #[.slice A n c, .int .i64 0, .int .u64 0] 86 s18 rfl kk rfl (fun _ => by kernel_rfl) (fun b19 w20 hb21 k22 x23 s24 => ?_)
 apply F.nx
 have lo25 : w.heap.size ≤ b19 := Nl ((Sb c17 s18 nkk)).size (Nat.le_of_eq hb21)
 have ne26 : b2 ≠ b19 := Nat.ne_of_lt (Nat.lt_of_lt_of_eq (Nat.lt_of_lt_of_le (blk_lt x6) (s18).size) hb21)
 have ne27 : b9 ≠ b19 := Nat.ne_of_lt (Nat.lt_of_lt_of_eq (Nat.lt_of_lt_of_le (blk_lt x13) (s18).size) hb21)
 have x28 := Cur.new x23 hcode hz hn ((Sb c17 s24 nkk)) lo25
 have hN : w.heap.size ≤ w.heap.size := Nat.le_refl _
 refine Fa (.pointer (some ⟨b19, 0, none⟩)) ?_
 apply F.es
 have x6 := Sk s24 x6 onn
 have x13 := Sk s24 x13 onn
 have c29 := (Sb c17 s24 nkk)
 apply h2
 refine wk fun K3 h3 => ?_
 refine W.region_plain (row := (some b19)) [(0, false), (1, true), (2, true), (3, true)] kk ?_
 have s30 := SG.self w20 (some b19)
 refine Fv (.pointer (some ⟨b19, 0, none⟩)) ?_
 have z38 := ((Sb c29 s30 (fun kq e => by cases e; exact lo25))).size
 have lb44 := (Nat.lt_of_lt_of_le (blk_lt x6) (s30).size)
 have lb45 := (Nat.lt_of_lt_of_le (blk_lt x13) (s30).size)
 have lb46 := (Cur.lt x28)
 refine Fc [.pointer (some ⟨b19, 0, none⟩)] (anyNetwork_any b19 w.heap.size 0 _ x28 (by omega)) ?_
 rintro e w48 ⟨m31, A32, n33, c34, ps35, rfl, ⟨ho36, hsm37⟩, x50, g49⟩
 have s51 := SG.of_grown s30 g49 (.inl rfl)
 refine ⟨_, rfl, s51, ?_⟩
 apply F.nx
 have rd42 := own_rd ho36
 have fm41 := own_fm ho36
 have hl39 := rd_pipes_len rd42
 have fr43 := freshA_of ho36 (Nat.le_refl _)
 have hsm37m := hsm37.1
 have hsm37n := hsm37.2.1
 have sp52 : Sp A32 n33 (some b2) := sp_fresh fr43 lb44
 have sp53 : Sp A32 n33 (some b9) := sp_fresh fr43 lb45
 have sp54 : Sp A32 n33 (some b19) := sp_fresh fr43 lb46
 refine W.sn (fun b => .pointer (some ⟨b, 0, none⟩)) #[.int .i64 0, .slice none 0 0] 26 s51 rfl kk rfl (fun _ => by kernel_rfl) (fun b55 w56 hb57 k58 x59 s60 => ?_)
 apply F.nx
 have lo61 : w.heap.size ≤ b55 := Nl ((Sb c29 s51 (fun kq e => by cases e; exact lo25))).size (Nat.le_of_eq hb57)
 have sp62 : Sp A32 n33 (some b55) := sp_new rd42 (by have := hb57; omega)
 have ne63 : b2 ≠ b55 := Nat.ne_of_lt (Nat.lt_of_lt_of_eq (Nat.lt_of_lt_of_le (blk_lt x6) (s51).size) hb57)
 have ne64 : b9 ≠ b55 := Nat.ne_of_lt (Nat.lt_of_lt_of_eq (Nat.lt_of_lt_of_le (blk_lt x13) (s51).size) hb57)
 have ne65 : b19 ≠ b55 := Nat.ne_of_lt (Nat.lt_of_lt_of_eq (Cur.lt x50) hb57)
 have x50 := Cur.below x50 k58
 have rd66 := Rk rd42 k58
 refine W.ss (v := .agg #[.int .i64 m31, .slice A32 n33 c34]) (j := 0) (news := [.int .i64 m31, .slice A32 n33 c34]) (cs' := #[.int .i64 m31, .slice A32 n33 c34]) s60 rfl kk rfl rfl kk kk x59 kk kk (by simp) kk kk (.inr (Nl (s51).size (Nat.le_of_eq hb57))) (fun w67 g68 x69 s70 => ?_)
 have x50 := Cur.grown x50 g68 (fun e9 => ne65 (Option.some.inj e9)) (fun j e => by cases e; exact Nat.le_trans hN lo61)
 have rd71 := rd_sepG rd66 g68 sp62
 apply F.es
 have x6 := Sk s70 x6 (fun e9 => ne26 (Option.some.inj e9))
 have x13 := Sk s70 x13 (fun e9 => ne27 (Option.some.inj e9))
 have c72 := (Sb c29 s70 (fun kq e => by cases e; exact lo25))
 apply h3
 refine wk fun K4 h4 => ?_
 refine W.region_plain (row := (some b19)) [(0, false), (1, false), (2, true), (3, false)] kk ?_
 have s73 := SG.self w67 (some b19)
 refine Fv (.pointer (some ⟨b19, 0, none⟩)) ?_
 refine Fq (.agg #[.int .i64 m31, .slice A32 n33 c34]) (r_load2 rfl ek kk kk (sgS (blk_cell (j := 0) x69 kk) (fun e9 => ne65 (Option.some.inj e9).symm)) (sgS (blk_cell (j := 1) x69 kk) (fun e9 => ne65 (Option.some.inj e9).symm))) ?_
 have z79 := ((Sb c72 s73 (fun kq e => by cases e; exact lo25))).size
 have lb85 := (Nat.lt_of_lt_of_le (blk_lt x6) (s73).size)
 have lb86 := (Nat.lt_of_lt_of_le (blk_lt x13) (s73).size)
 have lb87 := (Cur.lt x50)
 have lb88 := (Nat.lt_of_lt_of_le (blk_lt x69) (s73).size)
 refine Fc [.pointer (some ⟨b19, 0, none⟩), .agg #[.int .i64 m31, .slice A32 n33 c34]] (few_any b19 w.heap.size (0 + 400) m31 A32 n33 c34 ps35 _ x50 (by omega) (rd_sep rd71 s73 sp54) sp54 (by omega) (by omega)) ?_
 rintro e w90 ⟨A74, n75, c76, vs77, rfl, ⟨⟨rd83, fm82, fr84⟩, hsm78⟩, x92, g91⟩
 have s93 := SG.of_grown s73 g91 (.inl rfl)
 refine ⟨_, rfl, s93, ?_⟩
 apply F.nx
 have hl80 := rd_valves_len rd83
 have sp94 : Sp A74 n75 (some b2) := sp_fresh fr84 lb85
 have sp95 : Sp A74 n75 (some b9) := sp_fresh fr84 lb86
 have sp96 : Sp A74 n75 (some b19) := sp_fresh fr84 lb87
 refine Fa (.slice A74 n75 c76) ?_
 apply F.es
 have x6 := Sk s93 x6 (fun e9 => ne26 (Option.some.inj e9))
 have x13 := Sk s93 x13 (fun e9 => ne27 (Option.some.inj e9))
 have x69 := Sk s93 x69 (fun e9 => ne65 (Option.some.inj e9).symm)
 have c98 := (Sb c72 s93 (fun kq e => by cases e; exact lo25))
 have rd99 := rd_sep rd71 s93 sp54
 apply h4
 refine wk fun K5 h5 => ?_
 refine W.region_plain (row := (some b19)) [(0, false), (1, false), (2, true), (3, false)] kk ?_
 have s100 := SG.self w90 (some b19)
 refine Fv (.pointer (some ⟨b19, 0, none⟩)) ?_
 refine Fq (.agg #[.int .i64 m31, .slice A32 n33 c34]) (r_load2 rfl ek kk kk (sgS (blk_cell (j := 0) x69 kk) (fun e9 => ne65 (Option.some.inj e9).symm)) (sgS (blk_cell (j := 1) x69 kk) (fun e9 => ne65 (Option.some.inj e9).symm))) ?_
 refine Fc [.pointer (some ⟨b19, 0, none⟩), .agg #[.int .i64 m31, .slice A32 n33 c34]] (pipeOf_any b19 w.heap.size ((0 + 400) + 402) m31 A32 n33 c34 ps35 _ x92 (by omega) (rd_sep rd99 s100 sp54) sp54 (by omega) (by omega)) ?_
 rintro e w104 ⟨x101, rfl, hx102, x106, g105⟩
 have s107 := SG.of_grown s100 g105 (.inl rfl)
 refine ⟨_, rfl, s107, ?_⟩
 apply F.nx
 refine Fa (.int .i64 x101) ?_
 apply F.es
 have x6 := Sk s107 x6 (fun e9 => ne26 (Option.some.inj e9))
 have x13 := Sk s107 x13 (fun e9 => ne27 (Option.some.inj e9))
 have x69 := Sk s107 x69 (fun e9 => ne65 (Option.some.inj e9).symm)
 have c108 := (Sb c98 s107 (fun kq e => by cases e; exact lo25))
 have rd109 := rd_sep rd99 s107 sp54
 have rd110 := rd_sep rd83 s107 sp96
 apply h5
 refine joinK (fun amj1 aaj1 wlj1 => ∃ (gj1_12 : Nat) (vi : Int) (vn : Int) (vb : Bool) , Kn aaj1 [(2, .pointer (some ⟨b2, 0, none⟩)), (3, .slice none 0 0), (4, .int .i64 0), (5, .int .i64 0), (6, .pointer (some ⟨b9, 0, none⟩)), (7, .slice none 0 0), (8, .pointer (some ⟨b19, 0, none⟩)), (9, .pointer (some ⟨b55, 0, none⟩)), (10, .slice A74 n75 c76), (11, .int .i64 x101), (12, .pointer (some ⟨gj1_12, 0, none⟩))] 61 ∧ (amj1 = 0) ∧ (wlj1.heap[b2]? = some (.cells #[.int .i64 0, .slice none 0 0] 26 (0, 0))) ∧ (wlj1.heap[b9]? = some (.cells #[.int .i64 0, .int .i64 0, .int .i64 0, .bool false] 40 (0, 0))) ∧ (Cur wlj1 b19 w.heap.size (((((0 + 400) + 402) + 4) + 10))) ∧ (wlj1.heap[b55]? = some (.cells #[.int .i64 m31, .slice A32 n33 c34] 26 (0, 0))) ∧ (Rd wlj1 4 A74 n75 (valvesV vs77)) ∧ (Rd wlj1 4 A32 n33 (pipesV ps35)) ∧ (wlj1.heap[gj1_12]? = some (.cells #[.int .i64 vi, .int .i64 x101, .int .i64 vn, .bool vb] 40 (0, 0))) ∧ (w.heap.size ≤ gj1_12) ∧ (b2 ≠ gj1_12) ∧ (b9 ≠ gj1_12) ∧ (b19 ≠ gj1_12) ∧ (b55 ≠ gj1_12) ∧ (Sp A74 n75 (some gj1_12)) ∧ (Sp A32 n33 (some gj1_12)) ∧ (Below w.heap.size w wlj1)) ?_ ?_
 ·rintro amj1 aaj1 wlj1 ⟨gj1_12, vi, vn, vb, ⟨Uj1, rfl⟩, rfl, x6, x13, x106, x69, klj1_0, klj1_1, xxj1_12, lxj1_12, nej1_12_0, nej1_12_1, nej1_12_2, nej1_12_3, sxj1_12_0, sxj1_12_1, c111⟩
  refine wk fun K6 h6 => ?_
  refine wk fun K7 h7 => ?_
  refine W.region_plain (row := none) [(0, false), (1, false), (2, true), (3, false)] kk ?_
  have s112 := SG.self wlj1 none
  refine Fq (.agg #[.int .i64 m31, .slice A32 n33 c34]) (r_load2 rfl ek kk kk (sgS (blk_cell (j := 0) x69 kk) onn) (sgS (blk_cell (j := 1) x69 kk) onn)) ?_
  refine Fv (.int .i64 x101) ?_
  have hfl9 := findL_lt9 ps35 x101
  refine Fc [.agg #[.int .i64 m31, .slice A32 n33 c34], .int .i64 x101] (l2Find_any m31 A32 n33 c34 ps35 x101 _ (Rk klj1_1 (SG.below s112)) (by omega)) ?_
  rintro e w114 ⟨rfl, b113⟩
  have s115 := SG.of_below s112 b113
  refine ⟨_, rfl, s115, ?_⟩
  apply F.nx
  refine Fa (.int .i64 (findL ps35 x101)) ?_
  apply F.es
  have x6 := Sk s115 x6 onn
  have x13 := Sk s115 x13 onn
  have x106 := Cur.below x106 (SG.below s115)
  have x69 := Sk s115 x69 onn
  have xxj1_12 := Sk s115 xxj1_12 onn
  have c116 := (Sb c111 s115 nkk)
  have rd117 := Rk klj1_1 (SG.below s115)
  have rd118 := Rk klj1_0 (SG.below s115)
  apply h7
  refine wk fun K8 h8 => ?_
  refine W.region_plain (row := (some b19)) [(0, false), (1, false), (2, false), (3, false), (4, true), (5, false)] kk ?_
  have s119 := SG.self w114 (some b19)
  refine Fv (.int .i64 (findL ps35 x101)) ?_
  by_cases q120 : ((findL ps35 x101) : Int) ≥ (0 : Int)
  ·refine Fq (.bool true) (r_geq (m := (findL ps35 x101)) (n := 0) rfl ek ek (dt q120)) ?_
   refine Fv (.bool true) ?_
   refine Fv (.pointer (some ⟨b19, 0, none⟩)) ?_
   refine Fc [.pointer (some ⟨b19, 0, none⟩), .int .i64 2] (one_any b19 w.heap.size ((((0 + 400) + 402) + 4) + 10) 2 _ x106 (by omega) (by omega)) ?_
   rintro e w124 ⟨b121, rfl, _, x126, g125⟩
   have s127 := SG.of_grown s119 g125 (.inl rfl)
   refine ⟨_, rfl, s127, ?_⟩
   apply F.nx
   rcases Bool.eq_false_or_eq_true b121 with q128 | q128
   ·rw [q128]
    refine Fq (.bool true) (r_pick (b := true) rfl ek ek) ?_
    apply F.es
    have x6 := Sk s127 x6 (fun e9 => ne26 (Option.some.inj e9))
    have x13 := Sk s127 x13 (fun e9 => ne27 (Option.some.inj e9))
    have x69 := Sk s127 x69 (fun e9 => ne65 (Option.some.inj e9).symm)
    have xxj1_12 := Sk s127 xxj1_12 (fun e9 => nej1_12_2 (Option.some.inj e9).symm)
    have c129 := (Sb c116 s127 (fun kq e => by cases e; exact lo25))
    have rd130 := rd_sep rd117 s127 sp54
    have rd131 := rd_sep rd118 s127 sp96
    apply h8
    refine wp_cond_true ek ?_
    refine W.region_plain (row := (some gj1_12)) [(0, false), (1, false), (2, false), (3, false), (4, false), (5, false), (6, false), (7, true)] kk ?_
    have s132 := SG.self w124 (some gj1_12)
    refine Fq (.pointer (some ⟨b55, 1, none⟩)) (r_field (k := 1) rfl ek kk) ?_
    refine Fl (.slice A32 n33 c34) (sgS (blk_cell (j := 1) x69 kk) (fun e9 => nej1_12_3 (Option.some.inj e9))) ?_
    refine Fv (.int .i64 (findL ps35 x101)) ?_
    obtain ⟨x133, hx134⟩ := get_of (zs := ps35) (k := (findL ps35 x101).toNat) (by have := hl39; omega)
    obtain ⟨b135, o136, hA137, hb138, hc139, hc140, hc141, hc142⟩ := Rd.elPipe rd130 hx134
    refine Fq (.pointer (some ⟨b135, o136 + ((findL ps35 x101).toNat) * 4, none⟩)) (r_idx (n := n33) (c := c34) (k := (findL ps35 x101).toNat) rfl ek hA137 (evk (z := (findL ps35 x101)) kk (by omega)) kk (by have := hl39; omega)) ?_
    refine Fq (.pointer (some ⟨b135, o136 + ((findL ps35 x101).toNat) * 4 + 1, none⟩)) (r_field (k := 1) rfl ek kk) ?_
    refine Fl (.int .i64 x133.fr) (sgS hc140 (sxj1_12_1 (by omega) _ _ hA137)) ?_
    refine Fq (.pointer (some ⟨gj1_12, 2, none⟩)) (r_field (k := 2) rfl ek kk) ?_
    refine W.ss (v := .int .i64 x133.fr) (j := 2) (news := [.int .i64 x133.fr]) (cs' := #[.int .i64 vi, .int .i64 x101, .int .i64 x133.fr, .bool vb]) s132 rfl kk rfl rfl kk kk xxj1_12 kk kk (by simp) kk kk (.inl rfl) (fun w143 g144 x145 s146 => ?_)
    apply F.es
    have x6 := Sk s146 x6 (fun e9 => nej1_12_0 (Option.some.inj e9))
    have x13 := Sk s146 x13 (fun e9 => nej1_12_1 (Option.some.inj e9))
    have x126 := Cur.grown x126 s146 (fun e9 => nej1_12_2 (Option.some.inj e9)) (fun j e => by cases e; exact Nat.le_trans hN lxj1_12)
    have x69 := Sk s146 x69 (fun e9 => nej1_12_3 (Option.some.inj e9))
    have c147 := (Sb c129 s146 (fun kq e => by cases e; exact lxj1_12))
    have rd148 := rd_sep rd130 s146 sxj1_12_1
    have rd149 := rd_sep rd131 s146 sxj1_12_0
    apply h6
    refine wk fun K9 h9 => ?_
    refine M.region_sch (row := [(some b19), (some b2), (some b9)]) (Sch.of [(0, false), (1, false), (2, false), (3, false), (5, false), (6, false), (7, false), (8, false), (4, true), (9, true), (10, true), (11, false), (12, false), (13, false), (14, true), (15, false)]) kk kk (fun _ d _ _ _ h => by cases d <;> exact h) kk (fun w150 e151 s152 => ?_)
    have x153 := Cur.heap x126 e151
    have x154 := (heap_same e151 x6)
    have x155 := (heap_same e151 x13)
    refine Fq (.agg #[.int .i64 m31, .slice A32 n33 c34]) (r_load2 rfl ek kk kk (smS (blk_cell (j := 0) x69 kk) (ne3 (fun e9 => ne65 (Option.some.inj e9).symm) (fun e9 => ne63 (Option.some.inj e9).symm) (fun e9 => ne64 (Option.some.inj e9).symm))) (smS (blk_cell (j := 1) x69 kk) (ne3 (fun e9 => ne65 (Option.some.inj e9).symm) (fun e9 => ne63 (Option.some.inj e9).symm) (fun e9 => ne64 (Option.some.inj e9).symm)))) ?_
    refine Fv (.slice A74 n75 c76) ?_
    refine Fv (.pointer (some ⟨b19, 0, none⟩)) ?_
    refine Fq (.agg #[.int .i64 m31, .slice A32 n33 c34]) (r_load2 rfl ek kk kk (smS (blk_cell (j := 0) x69 kk) (ne3 (fun e9 => ne65 (Option.some.inj e9).symm) (fun e9 => ne63 (Option.some.inj e9).symm) (fun e9 => ne64 (Option.some.inj e9).symm))) (smS (blk_cell (j := 1) x69 kk) (ne3 (fun e9 => ne65 (Option.some.inj e9).symm) (fun e9 => ne63 (Option.some.inj e9).symm) (fun e9 => ne64 (Option.some.inj e9).symm)))) ?_
    refine Fv (.int .i64 x101) ?_
    refine Fq (.agg #[.int .i64 vi, .int .i64 x101, .int .i64 x133.fr, .bool vb]) (r_load4 rfl ek kk kk (smS (blk_cell (j := 0) x145 kk) (ne3 (fun e9 => nej1_12_2 (Option.some.inj e9).symm) (fun e9 => nej1_12_0 (Option.some.inj e9).symm) (fun e9 => nej1_12_1 (Option.some.inj e9).symm))) (smS (blk_cell (j := 1) x145 kk) (ne3 (fun e9 => nej1_12_2 (Option.some.inj e9).symm) (fun e9 => nej1_12_0 (Option.some.inj e9).symm) (fun e9 => nej1_12_1 (Option.some.inj e9).symm))) (smS (blk_cell (j := 2) x145 kk) (ne3 (fun e9 => nej1_12_2 (Option.some.inj e9).symm) (fun e9 => nej1_12_0 (Option.some.inj e9).symm) (fun e9 => nej1_12_1 (Option.some.inj e9).symm))) (smS (blk_cell (j := 3) x145 kk) (ne3 (fun e9 => nej1_12_2 (Option.some.inj e9).symm) (fun e9 => nej1_12_0 (Option.some.inj e9).symm) (fun e9 => nej1_12_1 (Option.some.inj e9).symm)))) ?_
    refine Fv (.pointer (some ⟨b19, 0, none⟩)) ?_
    refine Fq (.agg #[.int .i64 m31, .slice A32 n33 c34]) (r_load2 rfl ek kk kk (smS (blk_cell (j := 0) x69 kk) (ne3 (fun e9 => ne65 (Option.some.inj e9).symm) (fun e9 => ne63 (Option.some.inj e9).symm) (fun e9 => ne64 (Option.some.inj e9).symm))) (smS (blk_cell (j := 1) x69 kk) (ne3 (fun e9 => ne65 (Option.some.inj e9).symm) (fun e9 => ne63 (Option.some.inj e9).symm) (fun e9 => ne64 (Option.some.inj e9).symm)))) ?_
    refine Fc [.pointer (some ⟨b19, 0, none⟩), .agg #[.int .i64 m31, .slice A32 n33 c34]] (nodeOf_any b19 w.heap.size (((((0 + 400) + 402) + 4) + 10) + 2) m31 A32 n33 c34 _ x153 (by omega) (by omega)) ?_
    rintro e w159 ⟨x156, rfl, hx157, x161, g160⟩
    have s162 := SM.of_grown s152 g160 (.inl (by simp))
    refine ⟨_, rfl, s162, ?_⟩
    apply F.nx
    have x154 := (g160.block _ (blk_lt x154) (fun e9 => ne26 (Option.some.inj e9))).trans x154
    have x155 := (g160.block _ (blk_lt x155) (fun e9 => ne27 (Option.some.inj e9))).trans x155
    have z169 := ((SM.belowR c147 s162 (in3 (fun kq e => (by cases e; exact lo25)) (fun kq e => (by cases e; exact lo8)) (fun kq e => (by cases e; exact lo15))))).size
    have lb175 := (blk_lt x154)
    have lb176 := (blk_lt x155)
    have lb177 := (Cur.lt x161)
    have lb178 := (Nat.lt_of_lt_of_le (blk_lt x69) (s162).size)
    have lb179 := (Nat.lt_of_lt_of_le (blk_lt x145) (s162).size)
    refine Fc [.pointer (some ⟨b19, 0, none⟩), .agg #[.int .i64 m31, .slice A32 n33 c34]] (customers_any b19 w.heap.size ((((((0 + 400) + 402) + 4) + 10) + 2) + 6) m31 A32 n33 c34 ps35 _ x161 (by omega) (rd_sepM rd148 s162 (sp3 sp54 sp52 sp53)) sp54 (by omega) (by omega)) ?_
    rintro e w181 ⟨A163, n164, c165, cs166, rfl, ⟨ho167, hsm168⟩, x183, g182⟩
    have s184 := SM.of_grown s162 g182 (.inl (by simp))
    refine ⟨_, rfl, s184, ?_⟩
    apply F.nx
    have x154 := (g182.block _ (blk_lt x154) (fun e9 => ne26 (Option.some.inj e9))).trans x154
    have x155 := (g182.block _ (blk_lt x155) (fun e9 => ne27 (Option.some.inj e9))).trans x155
    have rd173 := own_rd ho167
    have fm172 := own_fm ho167
    have hl170 := rd_ints_len rd173
    have fr174 := freshA_of ho167 (Nat.le_refl _)
    have sp185 : Sp A163 n164 (some b2) := sp_fresh fr174 lb175
    have sp186 : Sp A163 n164 (some b9) := sp_fresh fr174 lb176
    refine M.ss (v := .agg #[.int .i64 m31, .slice A32 n33 c34]) (j := 0) (news := [.int .i64 m31, .slice A32 n33 c34]) (cs' := #[.int .i64 m31, .slice A32 n33 c34]) s184 rfl kk rfl rfl kk kk x154 kk kk (by simp) kk kk (.inl (by simp)) (fun w190 g191 x192 s193 => ?_)
    have x155 := (g191.block _ (blk_lt x155) (fun e9 => ne16 (Option.some.inj e9).symm)).trans x155
    have rd194 := rd_sepG rd173 g191 sp185
    refine Fa (.slice A74 n75 c76) ?_
    refine Fa (.int .i64 x156) ?_
    refine Fa (.int .i64 x101) ?_
    refine M.ss (v := .agg #[.int .i64 vi, .int .i64 x101, .int .i64 x133.fr, .bool vb]) (j := 0) (news := [.int .i64 vi, .int .i64 x101, .int .i64 x133.fr, .bool vb]) (cs' := #[.int .i64 vi, .int .i64 x101, .int .i64 x133.fr, .bool vb]) s193 rfl kk rfl rfl kk kk x155 kk kk (by simp) kk kk (.inl (by simp)) (fun w195 g196 x197 s198 => ?_)
    have x192 := (g196.block _ (blk_lt x192) (fun e9 => ne16 (Option.some.inj e9))).trans x192
    have rd199 := rd_sepG rd194 g196 sp186
    refine Fa (.slice A163 n164 c165) ?_
    apply F.es
    have x69 := SM.blk s198 x69 (ne3 (fun e9 => ne65 (Option.some.inj e9).symm) (fun e9 => ne63 (Option.some.inj e9).symm) (fun e9 => ne64 (Option.some.inj e9).symm))
    have c200 := (SM.belowR c147 s198 (in3 (fun kq e => (by cases e; exact lo25)) (fun kq e => (by cases e; exact lo8)) (fun kq e => (by cases e; exact lo15))))
    have rd201 := rd_sepM rd148 s198 (sp3 sp54 sp52 sp53)
    have rd202 := rd_sepM rd149 s198 (sp3 sp96 sp94 sp95)
    apply h9
    refine wp_ret ?_
    try simp only [Exit.then]
    refine retCTTTCT (x1 := .slice A74 n75 c76) (x2 := .int .i64 x156) (x3 := .int .i64 x101) (x5 := .slice A163 n164 c165) rfl kk kk kk x192 kk kk kk kk kk kk x197 kk ?_
    exact ⟨_, _, _, _, ps35, _, _, _, vs77, _, _, ⟨vi, x101, x133.fr, vb⟩, _, _, _, cs166, rfl, ⟨⟨rd201, fm41, (freshA_mono fr43 z38)⟩, hsm37⟩, ⟨⟨rd202, fm82, (freshA_mono fr84 z79)⟩, by first | omega | (simp; omega)⟩, ⟨⟨rd199, fm172, (freshA_mono fr174 z169)⟩, by first | omega | (simp; omega)⟩, c200⟩
   rw [q128]
   refine Fq (.bool false) (r_pick (b := true) rfl ek ek) ?_
   apply F.es
   have x6 := Sk s127 x6 (fun e9 => ne26 (Option.some.inj e9))
   have x13 := Sk s127 x13 (fun e9 => ne27 (Option.some.inj e9))
   have x69 := Sk s127 x69 (fun e9 => ne65 (Option.some.inj e9).symm)
   have xxj1_12 := Sk s127 xxj1_12 (fun e9 => nej1_12_2 (Option.some.inj e9).symm)
   have c203 := (Sb c116 s127 (fun kq e => by cases e; exact lo25))
   have rd204 := rd_sep rd117 s127 sp54
   have rd205 := rd_sep rd118 s127 sp96
   apply h8
   refine wp_cond_false ek ?_
   apply wp_skip
   apply h6
   refine wk fun K10 h10 => ?_
   refine M.region_sch (row := [(some b19), (some b2), (some b9)]) (Sch.of [(0, false), (1, false), (2, false), (3, false), (5, false), (6, false), (7, false), (8, false), (4, true), (9, true), (10, true), (11, false), (12, false), (13, false), (14, true), (15, false)]) kk kk (fun _ d _ _ _ h => by cases d <;> exact h) kk (fun w206 e207 s208 => ?_)
   have x209 := Cur.heap x126 e207
   have x210 := (heap_same e207 x6)
   have x211 := (heap_same e207 x13)
   refine Fq (.agg #[.int .i64 m31, .slice A32 n33 c34]) (r_load2 rfl ek kk kk (smS (blk_cell (j := 0) x69 kk) (ne3 (fun e9 => ne65 (Option.some.inj e9).symm) (fun e9 => ne63 (Option.some.inj e9).symm) (fun e9 => ne64 (Option.some.inj e9).symm))) (smS (blk_cell (j := 1) x69 kk) (ne3 (fun e9 => ne65 (Option.some.inj e9).symm) (fun e9 => ne63 (Option.some.inj e9).symm) (fun e9 => ne64 (Option.some.inj e9).symm)))) ?_
   refine Fv (.slice A74 n75 c76) ?_
   refine Fv (.pointer (some ⟨b19, 0, none⟩)) ?_
   refine Fq (.agg #[.int .i64 m31, .slice A32 n33 c34]) (r_load2 rfl ek kk kk (smS (blk_cell (j := 0) x69 kk) (ne3 (fun e9 => ne65 (Option.some.inj e9).symm) (fun e9 => ne63 (Option.some.inj e9).symm) (fun e9 => ne64 (Option.some.inj e9).symm))) (smS (blk_cell (j := 1) x69 kk) (ne3 (fun e9 => ne65 (Option.some.inj e9).symm) (fun e9 => ne63 (Option.some.inj e9).symm) (fun e9 => ne64 (Option.some.inj e9).symm)))) ?_
   refine Fv (.int .i64 x101) ?_
   refine Fq (.agg #[.int .i64 vi, .int .i64 x101, .int .i64 vn, .bool vb]) (r_load4 rfl ek kk kk (smS (blk_cell (j := 0) xxj1_12 kk) (ne3 (fun e9 => nej1_12_2 (Option.some.inj e9).symm) (fun e9 => nej1_12_0 (Option.some.inj e9).symm) (fun e9 => nej1_12_1 (Option.some.inj e9).symm))) (smS (blk_cell (j := 1) xxj1_12 kk) (ne3 (fun e9 => nej1_12_2 (Option.some.inj e9).symm) (fun e9 => nej1_12_0 (Option.some.inj e9).symm) (fun e9 => nej1_12_1 (Option.some.inj e9).symm))) (smS (blk_cell (j := 2) xxj1_12 kk) (ne3 (fun e9 => nej1_12_2 (Option.some.inj e9).symm) (fun e9 => nej1_12_0 (Option.some.inj e9).symm) (fun e9 => nej1_12_1 (Option.some.inj e9).symm))) (smS (blk_cell (j := 3) xxj1_12 kk) (ne3 (fun e9 => nej1_12_2 (Option.some.inj e9).symm) (fun e9 => nej1_12_0 (Option.some.inj e9).symm) (fun e9 => nej1_12_1 (Option.some.inj e9).symm)))) ?_
   refine Fv (.pointer (some ⟨b19, 0, none⟩)) ?_
   refine Fq (.agg #[.int .i64 m31, .slice A32 n33 c34]) (r_load2 rfl ek kk kk (smS (blk_cell (j := 0) x69 kk) (ne3 (fun e9 => ne65 (Option.some.inj e9).symm) (fun e9 => ne63 (Option.some.inj e9).symm) (fun e9 => ne64 (Option.some.inj e9).symm))) (smS (blk_cell (j := 1) x69 kk) (ne3 (fun e9 => ne65 (Option.some.inj e9).symm) (fun e9 => ne63 (Option.some.inj e9).symm) (fun e9 => ne64 (Option.some.inj e9).symm)))) ?_
   refine Fc [.pointer (some ⟨b19, 0, none⟩), .agg #[.int .i64 m31, .slice A32 n33 c34]] (nodeOf_any b19 w.heap.size (((((0 + 400) + 402) + 4) + 10) + 2) m31 A32 n33 c34 _ x209 (by omega) (by omega)) ?_
   rintro e w215 ⟨x212, rfl, hx213, x217, g216⟩
   have s218 := SM.of_grown s208 g216 (.inl (by simp))
   refine ⟨_, rfl, s218, ?_⟩
   apply F.nx
   have x210 := (g216.block _ (blk_lt x210) (fun e9 => ne26 (Option.some.inj e9))).trans x210
   have x211 := (g216.block _ (blk_lt x211) (fun e9 => ne27 (Option.some.inj e9))).trans x211
   have z225 := ((SM.belowR c203 s218 (in3 (fun kq e => (by cases e; exact lo25)) (fun kq e => (by cases e; exact lo8)) (fun kq e => (by cases e; exact lo15))))).size
   have lb231 := (blk_lt x210)
   have lb232 := (blk_lt x211)
   have lb233 := (Cur.lt x217)
   have lb234 := (Nat.lt_of_lt_of_le (blk_lt x69) (s218).size)
   have lb235 := (Nat.lt_of_lt_of_le (blk_lt xxj1_12) (s218).size)
   refine Fc [.pointer (some ⟨b19, 0, none⟩), .agg #[.int .i64 m31, .slice A32 n33 c34]] (customers_any b19 w.heap.size ((((((0 + 400) + 402) + 4) + 10) + 2) + 6) m31 A32 n33 c34 ps35 _ x217 (by omega) (rd_sepM rd204 s218 (sp3 sp54 sp52 sp53)) sp54 (by omega) (by omega)) ?_
   rintro e w237 ⟨A219, n220, c221, cs222, rfl, ⟨ho223, hsm224⟩, x239, g238⟩
   have s240 := SM.of_grown s218 g238 (.inl (by simp))
   refine ⟨_, rfl, s240, ?_⟩
   apply F.nx
   have x210 := (g238.block _ (blk_lt x210) (fun e9 => ne26 (Option.some.inj e9))).trans x210
   have x211 := (g238.block _ (blk_lt x211) (fun e9 => ne27 (Option.some.inj e9))).trans x211
   have rd229 := own_rd ho223
   have fm228 := own_fm ho223
   have hl226 := rd_ints_len rd229
   have fr230 := freshA_of ho223 (Nat.le_refl _)
   have sp241 : Sp A219 n220 (some b2) := sp_fresh fr230 lb231
   have sp242 : Sp A219 n220 (some b9) := sp_fresh fr230 lb232
   refine M.ss (v := .agg #[.int .i64 m31, .slice A32 n33 c34]) (j := 0) (news := [.int .i64 m31, .slice A32 n33 c34]) (cs' := #[.int .i64 m31, .slice A32 n33 c34]) s240 rfl kk rfl rfl kk kk x210 kk kk (by simp) kk kk (.inl (by simp)) (fun w246 g247 x248 s249 => ?_)
   have x211 := (g247.block _ (blk_lt x211) (fun e9 => ne16 (Option.some.inj e9).symm)).trans x211
   have rd250 := rd_sepG rd229 g247 sp241
   refine Fa (.slice A74 n75 c76) ?_
   refine Fa (.int .i64 x212) ?_
   refine Fa (.int .i64 x101) ?_
   refine M.ss (v := .agg #[.int .i64 vi, .int .i64 x101, .int .i64 vn, .bool vb]) (j := 0) (news := [.int .i64 vi, .int .i64 x101, .int .i64 vn, .bool vb]) (cs' := #[.int .i64 vi, .int .i64 x101, .int .i64 vn, .bool vb]) s249 rfl kk rfl rfl kk kk x211 kk kk (by simp) kk kk (.inl (by simp)) (fun w251 g252 x253 s254 => ?_)
   have x248 := (g252.block _ (blk_lt x248) (fun e9 => ne16 (Option.some.inj e9))).trans x248
   have rd255 := rd_sepG rd250 g252 sp242
   refine Fa (.slice A219 n220 c221) ?_
   apply F.es
   have x69 := SM.blk s254 x69 (ne3 (fun e9 => ne65 (Option.some.inj e9).symm) (fun e9 => ne63 (Option.some.inj e9).symm) (fun e9 => ne64 (Option.some.inj e9).symm))
   have xxj1_12 := SM.blk s254 xxj1_12 (ne3 (fun e9 => nej1_12_2 (Option.some.inj e9).symm) (fun e9 => nej1_12_0 (Option.some.inj e9).symm) (fun e9 => nej1_12_1 (Option.some.inj e9).symm))
   have c256 := (SM.belowR c203 s254 (in3 (fun kq e => (by cases e; exact lo25)) (fun kq e => (by cases e; exact lo8)) (fun kq e => (by cases e; exact lo15))))
   have rd257 := rd_sepM rd204 s254 (sp3 sp54 sp52 sp53)
   have rd258 := rd_sepM rd205 s254 (sp3 sp96 sp94 sp95)
   apply h10
   refine wp_ret ?_
   try simp only [Exit.then]
   refine retCTTTCT (x1 := .slice A74 n75 c76) (x2 := .int .i64 x212) (x3 := .int .i64 x101) (x5 := .slice A219 n220 c221) rfl kk kk kk x248 kk kk kk kk kk kk x253 kk ?_
   exact ⟨_, _, _, _, ps35, _, _, _, vs77, _, _, ⟨vi, x101, vn, vb⟩, _, _, _, cs222, rfl, ⟨⟨rd257, fm41, (freshA_mono fr43 z38)⟩, hsm37⟩, ⟨⟨rd258, fm82, (freshA_mono fr84 z79)⟩, by first | omega | (simp; omega)⟩, ⟨⟨rd255, fm228, (freshA_mono fr230 z225)⟩, by first | omega | (simp; omega)⟩, c256⟩
  refine Fq (.bool false) (r_geq (m := (findL ps35 x101)) (n := 0) rfl ek ek (df q120)) ?_
  refine Fv (.bool false) ?_
  refine Fs s119 ?_
  refine Fs s119 ?_
  refine Fq (.bool false) (r_pick (b := false) rfl ek ek) ?_
  apply F.es
  have x6 := Sk s119 x6 (fun e9 => ne26 (Option.some.inj e9))
  have x13 := Sk s119 x13 (fun e9 => ne27 (Option.some.inj e9))
  have x69 := Sk s119 x69 (fun e9 => ne65 (Option.some.inj e9).symm)
  have xxj1_12 := Sk s119 xxj1_12 (fun e9 => nej1_12_2 (Option.some.inj e9).symm)
  have c259 := (Sb c116 s119 (fun kq e => by cases e; exact lo25))
  have rd260 := rd_sep rd117 s119 sp54
  have rd261 := rd_sep rd118 s119 sp96
  apply h8
  refine wp_cond_false ek ?_
  apply wp_skip
  apply h6
  refine wk fun K11 h11 => ?_
  refine M.region_sch (row := [(some b19), (some b2), (some b9)]) (Sch.of [(0, false), (1, false), (2, false), (3, false), (5, false), (6, false), (7, false), (8, false), (4, true), (9, true), (10, true), (11, false), (12, false), (13, false), (14, true), (15, false)]) kk kk (fun _ d _ _ _ h => by cases d <;> exact h) kk (fun w262 e263 s264 => ?_)
  have x265 := Cur.heap x106 e263
  have x266 := (heap_same e263 x6)
  have x267 := (heap_same e263 x13)
  refine Fq (.agg #[.int .i64 m31, .slice A32 n33 c34]) (r_load2 rfl ek kk kk (smS (blk_cell (j := 0) x69 kk) (ne3 (fun e9 => ne65 (Option.some.inj e9).symm) (fun e9 => ne63 (Option.some.inj e9).symm) (fun e9 => ne64 (Option.some.inj e9).symm))) (smS (blk_cell (j := 1) x69 kk) (ne3 (fun e9 => ne65 (Option.some.inj e9).symm) (fun e9 => ne63 (Option.some.inj e9).symm) (fun e9 => ne64 (Option.some.inj e9).symm)))) ?_
  refine Fv (.slice A74 n75 c76) ?_
  refine Fv (.pointer (some ⟨b19, 0, none⟩)) ?_
  refine Fq (.agg #[.int .i64 m31, .slice A32 n33 c34]) (r_load2 rfl ek kk kk (smS (blk_cell (j := 0) x69 kk) (ne3 (fun e9 => ne65 (Option.some.inj e9).symm) (fun e9 => ne63 (Option.some.inj e9).symm) (fun e9 => ne64 (Option.some.inj e9).symm))) (smS (blk_cell (j := 1) x69 kk) (ne3 (fun e9 => ne65 (Option.some.inj e9).symm) (fun e9 => ne63 (Option.some.inj e9).symm) (fun e9 => ne64 (Option.some.inj e9).symm)))) ?_
  refine Fv (.int .i64 x101) ?_
  refine Fq (.agg #[.int .i64 vi, .int .i64 x101, .int .i64 vn, .bool vb]) (r_load4 rfl ek kk kk (smS (blk_cell (j := 0) xxj1_12 kk) (ne3 (fun e9 => nej1_12_2 (Option.some.inj e9).symm) (fun e9 => nej1_12_0 (Option.some.inj e9).symm) (fun e9 => nej1_12_1 (Option.some.inj e9).symm))) (smS (blk_cell (j := 1) xxj1_12 kk) (ne3 (fun e9 => nej1_12_2 (Option.some.inj e9).symm) (fun e9 => nej1_12_0 (Option.some.inj e9).symm) (fun e9 => nej1_12_1 (Option.some.inj e9).symm))) (smS (blk_cell (j := 2) xxj1_12 kk) (ne3 (fun e9 => nej1_12_2 (Option.some.inj e9).symm) (fun e9 => nej1_12_0 (Option.some.inj e9).symm) (fun e9 => nej1_12_1 (Option.some.inj e9).symm))) (smS (blk_cell (j := 3) xxj1_12 kk) (ne3 (fun e9 => nej1_12_2 (Option.some.inj e9).symm) (fun e9 => nej1_12_0 (Option.some.inj e9).symm) (fun e9 => nej1_12_1 (Option.some.inj e9).symm)))) ?_
  refine Fv (.pointer (some ⟨b19, 0, none⟩)) ?_
  refine Fq (.agg #[.int .i64 m31, .slice A32 n33 c34]) (r_load2 rfl ek kk kk (smS (blk_cell (j := 0) x69 kk) (ne3 (fun e9 => ne65 (Option.some.inj e9).symm) (fun e9 => ne63 (Option.some.inj e9).symm) (fun e9 => ne64 (Option.some.inj e9).symm))) (smS (blk_cell (j := 1) x69 kk) (ne3 (fun e9 => ne65 (Option.some.inj e9).symm) (fun e9 => ne63 (Option.some.inj e9).symm) (fun e9 => ne64 (Option.some.inj e9).symm)))) ?_
  refine Fc [.pointer (some ⟨b19, 0, none⟩), .agg #[.int .i64 m31, .slice A32 n33 c34]] (nodeOf_any b19 w.heap.size ((((0 + 400) + 402) + 4) + 10) m31 A32 n33 c34 _ x265 (by omega) (by omega)) ?_
  rintro e w271 ⟨x268, rfl, hx269, x273, g272⟩
  have s274 := SM.of_grown s264 g272 (.inl (by simp))
  refine ⟨_, rfl, s274, ?_⟩
  apply F.nx
  have x266 := (g272.block _ (blk_lt x266) (fun e9 => ne26 (Option.some.inj e9))).trans x266
  have x267 := (g272.block _ (blk_lt x267) (fun e9 => ne27 (Option.some.inj e9))).trans x267
  have z281 := ((SM.belowR c259 s274 (in3 (fun kq e => (by cases e; exact lo25)) (fun kq e => (by cases e; exact lo8)) (fun kq e => (by cases e; exact lo15))))).size
  have lb287 := (blk_lt x266)
  have lb288 := (blk_lt x267)
  have lb289 := (Cur.lt x273)
  have lb290 := (Nat.lt_of_lt_of_le (blk_lt x69) (s274).size)
  have lb291 := (Nat.lt_of_lt_of_le (blk_lt xxj1_12) (s274).size)
  refine Fc [.pointer (some ⟨b19, 0, none⟩), .agg #[.int .i64 m31, .slice A32 n33 c34]] (customers_any b19 w.heap.size (((((0 + 400) + 402) + 4) + 10) + 6) m31 A32 n33 c34 ps35 _ x273 (by omega) (rd_sepM rd260 s274 (sp3 sp54 sp52 sp53)) sp54 (by omega) (by omega)) ?_
  rintro e w293 ⟨A275, n276, c277, cs278, rfl, ⟨ho279, hsm280⟩, x295, g294⟩
  have s296 := SM.of_grown s274 g294 (.inl (by simp))
  refine ⟨_, rfl, s296, ?_⟩
  apply F.nx
  have x266 := (g294.block _ (blk_lt x266) (fun e9 => ne26 (Option.some.inj e9))).trans x266
  have x267 := (g294.block _ (blk_lt x267) (fun e9 => ne27 (Option.some.inj e9))).trans x267
  have rd285 := own_rd ho279
  have fm284 := own_fm ho279
  have hl282 := rd_ints_len rd285
  have fr286 := freshA_of ho279 (Nat.le_refl _)
  have sp297 : Sp A275 n276 (some b2) := sp_fresh fr286 lb287
  have sp298 : Sp A275 n276 (some b9) := sp_fresh fr286 lb288
  refine M.ss (v := .agg #[.int .i64 m31, .slice A32 n33 c34]) (j := 0) (news := [.int .i64 m31, .slice A32 n33 c34]) (cs' := #[.int .i64 m31, .slice A32 n33 c34]) s296 rfl kk rfl rfl kk kk x266 kk kk (by simp) kk kk (.inl (by simp)) (fun w302 g303 x304 s305 => ?_)
  have x267 := (g303.block _ (blk_lt x267) (fun e9 => ne16 (Option.some.inj e9).symm)).trans x267
  have rd306 := rd_sepG rd285 g303 sp297
  refine Fa (.slice A74 n75 c76) ?_
  refine Fa (.int .i64 x268) ?_
  refine Fa (.int .i64 x101) ?_
  refine M.ss (v := .agg #[.int .i64 vi, .int .i64 x101, .int .i64 vn, .bool vb]) (j := 0) (news := [.int .i64 vi, .int .i64 x101, .int .i64 vn, .bool vb]) (cs' := #[.int .i64 vi, .int .i64 x101, .int .i64 vn, .bool vb]) s305 rfl kk rfl rfl kk kk x267 kk kk (by simp) kk kk (.inl (by simp)) (fun w307 g308 x309 s310 => ?_)
  have x304 := (g308.block _ (blk_lt x304) (fun e9 => ne16 (Option.some.inj e9))).trans x304
  have rd311 := rd_sepG rd306 g308 sp298
  refine Fa (.slice A275 n276 c277) ?_
  apply F.es
  have x69 := SM.blk s310 x69 (ne3 (fun e9 => ne65 (Option.some.inj e9).symm) (fun e9 => ne63 (Option.some.inj e9).symm) (fun e9 => ne64 (Option.some.inj e9).symm))
  have xxj1_12 := SM.blk s310 xxj1_12 (ne3 (fun e9 => nej1_12_2 (Option.some.inj e9).symm) (fun e9 => nej1_12_0 (Option.some.inj e9).symm) (fun e9 => nej1_12_1 (Option.some.inj e9).symm))
  have c312 := (SM.belowR c259 s310 (in3 (fun kq e => (by cases e; exact lo25)) (fun kq e => (by cases e; exact lo8)) (fun kq e => (by cases e; exact lo15))))
  have rd313 := rd_sepM rd260 s310 (sp3 sp54 sp52 sp53)
  have rd314 := rd_sepM rd261 s310 (sp3 sp96 sp94 sp95)
  apply h11
  refine wp_ret ?_
  try simp only [Exit.then]
  refine retCTTTCT (x1 := .slice A74 n75 c76) (x2 := .int .i64 x268) (x3 := .int .i64 x101) (x5 := .slice A275 n276 c277) rfl kk kk kk x304 kk kk kk kk kk kk x309 kk ?_
  exact ⟨_, _, _, _, ps35, _, _, _, vs77, _, _, ⟨vi, x101, vn, vb⟩, _, _, _, cs278, rfl, ⟨⟨rd313, fm41, (freshA_mono fr43 z38)⟩, hsm37⟩, ⟨⟨rd314, fm82, (freshA_mono fr84 z79)⟩, by first | omega | (simp; omega)⟩, ⟨⟨rd311, fm284, (freshA_mono fr286 z281)⟩, by first | omega | (simp; omega)⟩, c312⟩
 intro K12 h12
 refine W.region_sch (row := (some b19)) (Sch.app [(0, false), (3, false), (4, false), (5, false), (7, false)] (.br 1 10 (Sch.app [] (.br 2 10 (Sch.app [] (.br 6 10 (Sch.app [] (.br 8 10 (Sch.of [(9, false), (10, true), (11, true)]) (Sch.of [(8, true), (9, false), (11, true)]))) (Sch.of [(6, true), (8, true), (9, false), (11, true)]))) (Sch.of [(2, true), (6, true), (8, true), (9, false), (11, true)]))) (Sch.of [(1, true), (2, true), (6, true), (8, true), (9, false), (11, true)]))) kk kk (fun _ d _ _ _ h => by cases d <;> exact h) kk (fun w315 e316 s317 => ?_)
 have x318 := Cur.heap x106 e316
 refine Fv (.pointer (some ⟨b19, 0, none⟩)) ?_
 refine Fv (.int .i64 x101) ?_
 refine Fv (.pointer (some ⟨b19, 0, none⟩)) ?_
 refine Fq (.agg #[.int .i64 m31, .slice A32 n33 c34]) (r_load2 rfl ek kk kk (sgS (blk_cell (j := 0) x69 kk) (fun e9 => ne65 (Option.some.inj e9).symm)) (sgS (blk_cell (j := 1) x69 kk) (fun e9 => ne65 (Option.some.inj e9).symm))) ?_
 refine Fv (.pointer (some ⟨b19, 0, none⟩)) ?_
 refine W.sbr ?_ ?_
 ·refine W.sn (fun b => .slice (some ⟨b, 0, none⟩) 5 5) #[.int .i64 50, .int .i64 3, .int .i64 4, .int .i64 99, .int .i64 100] 3 s317 rfl kk rfl (fun _ => by kernel_rfl) (fun b319 w320 hb321 k322 x323 s324 => ?_)
  apply F.nx
  have lo325 : w.heap.size ≤ b319 := Nl ((Sb c108 s317 (fun kq e => by cases e; exact lo25))).size (Nat.le_of_eq hb321)
  have ne330 : b19 ≠ b319 := Nat.ne_of_lt (Nat.lt_of_lt_of_eq (Cur.lt x318) hb321)
  have x318 := Cur.below x318 k322
  refine W.sbr ?_ ?_
  ·refine Fc [.pointer (some ⟨b19, 0, none⟩), .slice (some ⟨b319, 0, none⟩) 5 5] (among_any b19 w.heap.size (((0 + 400) + 402) + 4) (some ⟨b319, 0, none⟩) 5 5 [50, 3, 4, 99, 100] _ x318 (by omega) (rd_blk x323 rfl rfl) (sp_ne (by have := ne330; omega)) (by omega)) ?_
   rintro e w336 ⟨x332, rfl, hx333, x338, g337⟩
   have s339 := SG.of_grown s324 g337 (.inl rfl)
   refine ⟨_, rfl, s339, ?_⟩
   apply F.nx
   have x323 := (g337.block _ (blk_lt x323) (fun e9 => ne330 (Option.some.inj e9).symm)).trans x323
   have hb334 := bnd_of (3) 100 hx333 (by decide)
   refine W.sbr ?_ ?_
   ·refine Fc [.pointer (some ⟨b19, 0, none⟩), .agg #[.int .i64 m31, .slice A32 n33 c34]] (nodeOf_any b19 w.heap.size ((((0 + 400) + 402) + 4) + 2) m31 A32 n33 c34 _ x338 (by omega) (by omega)) ?_
    rintro e w343 ⟨x340, rfl, hx341, x345, g344⟩
    have s346 := SG.of_grown s339 g344 (.inl rfl)
    refine ⟨_, rfl, s346, ?_⟩
    apply F.nx
    have x323 := (g344.block _ (blk_lt x323) (fun e9 => ne330 (Option.some.inj e9).symm)).trans x323
    refine W.sbr ?_ ?_
    ·refine Fc [.pointer (some ⟨b19, 0, none⟩), .int .i64 4] (one_any b19 w.heap.size (((((0 + 400) + 402) + 4) + 2) + 6) 4 _ x345 (by omega) (by omega)) ?_
     rintro e w350 ⟨b347, rfl, _, x352, g351⟩
     have s353 := SG.of_grown s346 g351 (.inl rfl)
     refine ⟨_, rfl, s353, ?_⟩
     apply F.nx
     have x323 := (g351.block _ (blk_lt x323) (fun e9 => ne330 (Option.some.inj e9).symm)).trans x323
     rcases Bool.eq_false_or_eq_true b347 with q354 | q354
     ·rw [q354]
      refine Fq (.agg #[.int .i64 x332, .int .i64 x101, .int .i64 x340, .bool true]) (r_build rfl (vs := [(0, .int .i64 x332), (1, .int .i64 x101), (2, .int .i64 x340), (3, .bool true)]) kk kk) ?_
      refine W.sn (fun b => .pointer (some ⟨b, 0, none⟩)) #[.int .i64 0, .int .i64 0, .int .i64 0, .bool false] 40 s353 rfl kk rfl (fun _ => by kernel_rfl) (fun b355 w356 hb357 k358 x359 s360 => ?_)
      apply F.nx
      have lo361 : w.heap.size ≤ b355 := Nl ((Sb c108 s353 (fun kq e => by cases e; exact lo25))).size (Nat.le_of_eq hb357)
      have sp362 : Sp A74 n75 (some b355) := sp_new rd110 (by have := (s353).size; have := hb357; omega)
      have sp363 : Sp A32 n33 (some b355) := sp_new rd109 (by have := (s353).size; have := hb357; omega)
      have ne364 : b2 ≠ b355 := Nat.ne_of_lt (Nat.lt_of_lt_of_eq (Nat.lt_of_lt_of_le (blk_lt x6) (s353).size) hb357)
      have ne365 : b9 ≠ b355 := Nat.ne_of_lt (Nat.lt_of_lt_of_eq (Nat.lt_of_lt_of_le (blk_lt x13) (s353).size) hb357)
      have ne366 : b19 ≠ b355 := Nat.ne_of_lt (Nat.lt_of_lt_of_eq (Cur.lt x352) hb357)
      have ne367 : b55 ≠ b355 := Nat.ne_of_lt (Nat.lt_of_lt_of_eq (Nat.lt_of_lt_of_le (blk_lt x69) (s353).size) hb357)
      have ne368 : b319 ≠ b355 := Nat.ne_of_lt (Nat.lt_of_lt_of_eq (blk_lt x323) hb357)
      have x352 := Cur.below x352 k358
      have x323 := (k358.block _ (blk_lt x323)).trans x323
      refine W.ss (v := .agg #[.int .i64 x332, .int .i64 x101, .int .i64 x340, .bool true]) (j := 0) (news := [.int .i64 x332, .int .i64 x101, .int .i64 x340, .bool true]) (cs' := #[.int .i64 x332, .int .i64 x101, .int .i64 x340, .bool true]) s360 rfl kk rfl rfl kk kk x359 kk kk (by simp) kk kk (.inr (Nl (s353).size (Nat.le_of_eq hb357))) (fun w369 g370 x371 s372 => ?_)
      have x352 := Cur.grown x352 g370 (fun e9 => ne366 (Option.some.inj e9)) (fun j e => by cases e; exact Nat.le_trans hN lo361)
      have x323 := (g370.block _ (blk_lt x323) (fun e9 => ne368 (Option.some.inj e9))).trans x323
      apply F.es
      have x6 := Sk s372 x6 (fun e9 => ne26 (Option.some.inj e9))
      have x13 := Sk s372 x13 (fun e9 => ne27 (Option.some.inj e9))
      have x69 := Sk s372 x69 (fun e9 => ne65 (Option.some.inj e9).symm)
      have c373 := (Sb c108 s372 (fun kq e => by cases e; exact lo25))
      have rd374 := rd_sep rd109 s372 sp54
      have rd375 := rd_sep rd110 s372 sp96
      exact h12 _ _ _ ⟨b355, x332, x340, true, Kn.of, rfl, x6, x13, (Cur.mono x352 (by omega)), x69, rd375, rd374, x371, lo361, ne364, ne365, ne366, ne367, sp362, sp363, c373⟩
     rw [q354]
     refine Fq (.agg #[.int .i64 x332, .int .i64 x101, .int .i64 x340, .bool false]) (r_build rfl (vs := [(0, .int .i64 x332), (1, .int .i64 x101), (2, .int .i64 x340), (3, .bool false)]) kk kk) ?_
     refine W.sn (fun b => .pointer (some ⟨b, 0, none⟩)) #[.int .i64 0, .int .i64 0, .int .i64 0, .bool false] 40 s353 rfl kk rfl (fun _ => by kernel_rfl) (fun b376 w377 hb378 k379 x380 s381 => ?_)
     apply F.nx
     have lo382 : w.heap.size ≤ b376 := Nl ((Sb c108 s353 (fun kq e => by cases e; exact lo25))).size (Nat.le_of_eq hb378)
     have sp383 : Sp A74 n75 (some b376) := sp_new rd110 (by have := (s353).size; have := hb378; omega)
     have sp384 : Sp A32 n33 (some b376) := sp_new rd109 (by have := (s353).size; have := hb378; omega)
     have ne385 : b2 ≠ b376 := Nat.ne_of_lt (Nat.lt_of_lt_of_eq (Nat.lt_of_lt_of_le (blk_lt x6) (s353).size) hb378)
     have ne386 : b9 ≠ b376 := Nat.ne_of_lt (Nat.lt_of_lt_of_eq (Nat.lt_of_lt_of_le (blk_lt x13) (s353).size) hb378)
     have ne387 : b19 ≠ b376 := Nat.ne_of_lt (Nat.lt_of_lt_of_eq (Cur.lt x352) hb378)
     have ne388 : b55 ≠ b376 := Nat.ne_of_lt (Nat.lt_of_lt_of_eq (Nat.lt_of_lt_of_le (blk_lt x69) (s353).size) hb378)
     have ne389 : b319 ≠ b376 := Nat.ne_of_lt (Nat.lt_of_lt_of_eq (blk_lt x323) hb378)
     have x352 := Cur.below x352 k379
     have x323 := (k379.block _ (blk_lt x323)).trans x323
     refine W.ss (v := .agg #[.int .i64 x332, .int .i64 x101, .int .i64 x340, .bool false]) (j := 0) (news := [.int .i64 x332, .int .i64 x101, .int .i64 x340, .bool false]) (cs' := #[.int .i64 x332, .int .i64 x101, .int .i64 x340, .bool false]) s381 rfl kk rfl rfl kk kk x380 kk kk (by simp) kk kk (.inr (Nl (s353).size (Nat.le_of_eq hb378))) (fun w390 g391 x392 s393 => ?_)
     have x352 := Cur.grown x352 g391 (fun e9 => ne387 (Option.some.inj e9)) (fun j e => by cases e; exact Nat.le_trans hN lo382)
     have x323 := (g391.block _ (blk_lt x323) (fun e9 => ne389 (Option.some.inj e9))).trans x323
     apply F.es
     have x6 := Sk s393 x6 (fun e9 => ne26 (Option.some.inj e9))
     have x13 := Sk s393 x13 (fun e9 => ne27 (Option.some.inj e9))
     have x69 := Sk s393 x69 (fun e9 => ne65 (Option.some.inj e9).symm)
     have c394 := (Sb c108 s393 (fun kq e => by cases e; exact lo25))
     have rd395 := rd_sep rd109 s393 sp54
     have rd396 := rd_sep rd110 s393 sp96
     exact h12 _ _ _ ⟨b376, x332, x340, false, Kn.of, rfl, x6, x13, (Cur.mono x352 (by omega)), x69, rd396, rd395, x392, lo382, ne385, ne386, ne387, ne388, sp383, sp384, c394⟩
    refine W.sn (fun b => .pointer (some ⟨b, 0, none⟩)) #[.int .i64 0, .int .i64 0, .int .i64 0, .bool false] 40 s346 rfl kk rfl (fun _ => by kernel_rfl) (fun b397 w398 hb399 k400 x401 s402 => ?_)
    apply F.nx
    have lo403 : w.heap.size ≤ b397 := Nl ((Sb c108 s346 (fun kq e => by cases e; exact lo25))).size (Nat.le_of_eq hb399)
    have sp404 : Sp A74 n75 (some b397) := sp_new rd110 (by have := (s346).size; have := hb399; omega)
    have sp405 : Sp A32 n33 (some b397) := sp_new rd109 (by have := (s346).size; have := hb399; omega)
    have ne406 : b2 ≠ b397 := Nat.ne_of_lt (Nat.lt_of_lt_of_eq (Nat.lt_of_lt_of_le (blk_lt x6) (s346).size) hb399)
    have ne407 : b9 ≠ b397 := Nat.ne_of_lt (Nat.lt_of_lt_of_eq (Nat.lt_of_lt_of_le (blk_lt x13) (s346).size) hb399)
    have ne408 : b19 ≠ b397 := Nat.ne_of_lt (Nat.lt_of_lt_of_eq (Cur.lt x345) hb399)
    have ne409 : b55 ≠ b397 := Nat.ne_of_lt (Nat.lt_of_lt_of_eq (Nat.lt_of_lt_of_le (blk_lt x69) (s346).size) hb399)
    have ne410 : b319 ≠ b397 := Nat.ne_of_lt (Nat.lt_of_lt_of_eq (blk_lt x323) hb399)
    have x345 := Cur.below x345 k400
    have x323 := (k400.block _ (blk_lt x323)).trans x323
    refine Fc [.pointer (some ⟨b19, 0, none⟩), .int .i64 4] (one_any b19 w.heap.size (((((0 + 400) + 402) + 4) + 2) + 6) 4 _ x345 (by omega) (by omega)) ?_
    rintro e w414 ⟨b411, rfl, _, x416, g415⟩
    have s417 := SG.of_grown s402 g415 (.inl rfl)
    refine ⟨_, rfl, s417, ?_⟩
    apply F.nx
    have x323 := (g415.block _ (blk_lt x323) (fun e9 => ne330 (Option.some.inj e9).symm)).trans x323
    have x401 := (g415.block _ (blk_lt x401) (fun e9 => ne408 (Option.some.inj e9).symm)).trans x401
    rcases Bool.eq_false_or_eq_true b411 with q418 | q418
    ·rw [q418]
     refine Fq (.agg #[.int .i64 x332, .int .i64 x101, .int .i64 x340, .bool true]) (r_build rfl (vs := [(0, .int .i64 x332), (1, .int .i64 x101), (2, .int .i64 x340), (3, .bool true)]) kk kk) ?_
     refine W.ss (v := .agg #[.int .i64 x332, .int .i64 x101, .int .i64 x340, .bool true]) (j := 0) (news := [.int .i64 x332, .int .i64 x101, .int .i64 x340, .bool true]) (cs' := #[.int .i64 x332, .int .i64 x101, .int .i64 x340, .bool true]) s417 rfl kk rfl rfl kk kk x401 kk kk (by simp) kk kk (.inr (Nl (s346).size (Nat.le_of_eq hb399))) (fun w419 g420 x421 s422 => ?_)
     have x416 := Cur.grown x416 g420 (fun e9 => ne408 (Option.some.inj e9)) (fun j e => by cases e; exact Nat.le_trans hN lo403)
     have x323 := (g420.block _ (blk_lt x323) (fun e9 => ne410 (Option.some.inj e9))).trans x323
     apply F.es
     have x6 := Sk s422 x6 (fun e9 => ne26 (Option.some.inj e9))
     have x13 := Sk s422 x13 (fun e9 => ne27 (Option.some.inj e9))
     have x69 := Sk s422 x69 (fun e9 => ne65 (Option.some.inj e9).symm)
     have c423 := (Sb c108 s422 (fun kq e => by cases e; exact lo25))
     have rd424 := rd_sep rd109 s422 sp54
     have rd425 := rd_sep rd110 s422 sp96
     exact h12 _ _ _ ⟨b397, x332, x340, true, Kn.of, rfl, x6, x13, (Cur.mono x416 (by omega)), x69, rd425, rd424, x421, lo403, ne406, ne407, ne408, ne409, sp404, sp405, c423⟩
    rw [q418]
    refine Fq (.agg #[.int .i64 x332, .int .i64 x101, .int .i64 x340, .bool false]) (r_build rfl (vs := [(0, .int .i64 x332), (1, .int .i64 x101), (2, .int .i64 x340), (3, .bool false)]) kk kk) ?_
    refine W.ss (v := .agg #[.int .i64 x332, .int .i64 x101, .int .i64 x340, .bool false]) (j := 0) (news := [.int .i64 x332, .int .i64 x101, .int .i64 x340, .bool false]) (cs' := #[.int .i64 x332, .int .i64 x101, .int .i64 x340, .bool false]) s417 rfl kk rfl rfl kk kk x401 kk kk (by simp) kk kk (.inr (Nl (s346).size (Nat.le_of_eq hb399))) (fun w426 g427 x428 s429 => ?_)
    have x416 := Cur.grown x416 g427 (fun e9 => ne408 (Option.some.inj e9)) (fun j e => by cases e; exact Nat.le_trans hN lo403)
    have x323 := (g427.block _ (blk_lt x323) (fun e9 => ne410 (Option.some.inj e9))).trans x323
    apply F.es
    have x6 := Sk s429 x6 (fun e9 => ne26 (Option.some.inj e9))
    have x13 := Sk s429 x13 (fun e9 => ne27 (Option.some.inj e9))
    have x69 := Sk s429 x69 (fun e9 => ne65 (Option.some.inj e9).symm)
    have c430 := (Sb c108 s429 (fun kq e => by cases e; exact lo25))
    have rd431 := rd_sep rd109 s429 sp54
    have rd432 := rd_sep rd110 s429 sp96
    exact h12 _ _ _ ⟨b397, x332, x340, false, Kn.of, rfl, x6, x13, (Cur.mono x416 (by omega)), x69, rd432, rd431, x428, lo403, ne406, ne407, ne408, ne409, sp404, sp405, c430⟩
   refine W.sn (fun b => .pointer (some ⟨b, 0, none⟩)) #[.int .i64 0, .int .i64 0, .int .i64 0, .bool false] 40 s339 rfl kk rfl (fun _ => by kernel_rfl) (fun b433 w434 hb435 k436 x437 s438 => ?_)
   apply F.nx
   have lo439 : w.heap.size ≤ b433 := Nl ((Sb c108 s339 (fun kq e => by cases e; exact lo25))).size (Nat.le_of_eq hb435)
   have sp440 : Sp A74 n75 (some b433) := sp_new rd110 (by have := (s339).size; have := hb435; omega)
   have sp441 : Sp A32 n33 (some b433) := sp_new rd109 (by have := (s339).size; have := hb435; omega)
   have ne442 : b2 ≠ b433 := Nat.ne_of_lt (Nat.lt_of_lt_of_eq (Nat.lt_of_lt_of_le (blk_lt x6) (s339).size) hb435)
   have ne443 : b9 ≠ b433 := Nat.ne_of_lt (Nat.lt_of_lt_of_eq (Nat.lt_of_lt_of_le (blk_lt x13) (s339).size) hb435)
   have ne444 : b19 ≠ b433 := Nat.ne_of_lt (Nat.lt_of_lt_of_eq (Cur.lt x338) hb435)
   have ne445 : b55 ≠ b433 := Nat.ne_of_lt (Nat.lt_of_lt_of_eq (Nat.lt_of_lt_of_le (blk_lt x69) (s339).size) hb435)
   have ne446 : b319 ≠ b433 := Nat.ne_of_lt (Nat.lt_of_lt_of_eq (blk_lt x323) hb435)
   have x338 := Cur.below x338 k436
   have x323 := (k436.block _ (blk_lt x323)).trans x323
   refine Fc [.pointer (some ⟨b19, 0, none⟩), .agg #[.int .i64 m31, .slice A32 n33 c34]] (nodeOf_any b19 w.heap.size ((((0 + 400) + 402) + 4) + 2) m31 A32 n33 c34 _ x338 (by omega) (by omega)) ?_
   rintro e w450 ⟨x447, rfl, hx448, x452, g451⟩
   have s453 := SG.of_grown s438 g451 (.inl rfl)
   refine ⟨_, rfl, s453, ?_⟩
   apply F.nx
   have x323 := (g451.block _ (blk_lt x323) (fun e9 => ne330 (Option.some.inj e9).symm)).trans x323
   have x437 := (g451.block _ (blk_lt x437) (fun e9 => ne444 (Option.some.inj e9).symm)).trans x437
   refine Fc [.pointer (some ⟨b19, 0, none⟩), .int .i64 4] (one_any b19 w.heap.size (((((0 + 400) + 402) + 4) + 2) + 6) 4 _ x452 (by omega) (by omega)) ?_
   rintro e w457 ⟨b454, rfl, _, x459, g458⟩
   have s460 := SG.of_grown s453 g458 (.inl rfl)
   refine ⟨_, rfl, s460, ?_⟩
   apply F.nx
   have x323 := (g458.block _ (blk_lt x323) (fun e9 => ne330 (Option.some.inj e9).symm)).trans x323
   have x437 := (g458.block _ (blk_lt x437) (fun e9 => ne444 (Option.some.inj e9).symm)).trans x437
   rcases Bool.eq_false_or_eq_true b454 with q461 | q461
   ·rw [q461]
    refine Fq (.agg #[.int .i64 x332, .int .i64 x101, .int .i64 x447, .bool true]) (r_build rfl (vs := [(0, .int .i64 x332), (1, .int .i64 x101), (2, .int .i64 x447), (3, .bool true)]) kk kk) ?_
    refine W.ss (v := .agg #[.int .i64 x332, .int .i64 x101, .int .i64 x447, .bool true]) (j := 0) (news := [.int .i64 x332, .int .i64 x101, .int .i64 x447, .bool true]) (cs' := #[.int .i64 x332, .int .i64 x101, .int .i64 x447, .bool true]) s460 rfl kk rfl rfl kk kk x437 kk kk (by simp) kk kk (.inr (Nl (s339).size (Nat.le_of_eq hb435))) (fun w462 g463 x464 s465 => ?_)
    have x459 := Cur.grown x459 g463 (fun e9 => ne444 (Option.some.inj e9)) (fun j e => by cases e; exact Nat.le_trans hN lo439)
    have x323 := (g463.block _ (blk_lt x323) (fun e9 => ne446 (Option.some.inj e9))).trans x323
    apply F.es
    have x6 := Sk s465 x6 (fun e9 => ne26 (Option.some.inj e9))
    have x13 := Sk s465 x13 (fun e9 => ne27 (Option.some.inj e9))
    have x69 := Sk s465 x69 (fun e9 => ne65 (Option.some.inj e9).symm)
    have c466 := (Sb c108 s465 (fun kq e => by cases e; exact lo25))
    have rd467 := rd_sep rd109 s465 sp54
    have rd468 := rd_sep rd110 s465 sp96
    exact h12 _ _ _ ⟨b433, x332, x447, true, Kn.of, rfl, x6, x13, (Cur.mono x459 (by omega)), x69, rd468, rd467, x464, lo439, ne442, ne443, ne444, ne445, sp440, sp441, c466⟩
   rw [q461]
   refine Fq (.agg #[.int .i64 x332, .int .i64 x101, .int .i64 x447, .bool false]) (r_build rfl (vs := [(0, .int .i64 x332), (1, .int .i64 x101), (2, .int .i64 x447), (3, .bool false)]) kk kk) ?_
   refine W.ss (v := .agg #[.int .i64 x332, .int .i64 x101, .int .i64 x447, .bool false]) (j := 0) (news := [.int .i64 x332, .int .i64 x101, .int .i64 x447, .bool false]) (cs' := #[.int .i64 x332, .int .i64 x101, .int .i64 x447, .bool false]) s460 rfl kk rfl rfl kk kk x437 kk kk (by simp) kk kk (.inr (Nl (s339).size (Nat.le_of_eq hb435))) (fun w469 g470 x471 s472 => ?_)
   have x459 := Cur.grown x459 g470 (fun e9 => ne444 (Option.some.inj e9)) (fun j e => by cases e; exact Nat.le_trans hN lo439)
   have x323 := (g470.block _ (blk_lt x323) (fun e9 => ne446 (Option.some.inj e9))).trans x323
   apply F.es
   have x6 := Sk s472 x6 (fun e9 => ne26 (Option.some.inj e9))
   have x13 := Sk s472 x13 (fun e9 => ne27 (Option.some.inj e9))
   have x69 := Sk s472 x69 (fun e9 => ne65 (Option.some.inj e9).symm)
   have c473 := (Sb c108 s472 (fun kq e => by cases e; exact lo25))
   have rd474 := rd_sep rd109 s472 sp54
   have rd475 := rd_sep rd110 s472 sp96
   exact h12 _ _ _ ⟨b433, x332, x447, false, Kn.of, rfl, x6, x13, (Cur.mono x459 (by omega)), x69, rd475, rd474, x471, lo439, ne442, ne443, ne444, ne445, sp440, sp441, c473⟩
  refine W.sn (fun b => .pointer (some ⟨b, 0, none⟩)) #[.int .i64 0, .int .i64 0, .int .i64 0, .bool false] 40 s324 rfl kk rfl (fun _ => by kernel_rfl) (fun b476 w477 hb478 k479 x480 s481 => ?_)
  apply F.nx
  have lo482 : w.heap.size ≤ b476 := Nl ((Sb c108 s324 (fun kq e => by cases e; exact lo25))).size (Nat.le_of_eq hb478)
  have sp483 : Sp A74 n75 (some b476) := sp_new rd110 (by have := (s324).size; have := hb478; omega)
  have sp484 : Sp A32 n33 (some b476) := sp_new rd109 (by have := (s324).size; have := hb478; omega)
  have ne485 : b2 ≠ b476 := Nat.ne_of_lt (Nat.lt_of_lt_of_eq (Nat.lt_of_lt_of_le (blk_lt x6) (s324).size) hb478)
  have ne486 : b9 ≠ b476 := Nat.ne_of_lt (Nat.lt_of_lt_of_eq (Nat.lt_of_lt_of_le (blk_lt x13) (s324).size) hb478)
  have ne487 : b19 ≠ b476 := Nat.ne_of_lt (Nat.lt_of_lt_of_eq (Cur.lt x318) hb478)
  have ne488 : b55 ≠ b476 := Nat.ne_of_lt (Nat.lt_of_lt_of_eq (Nat.lt_of_lt_of_le (blk_lt x69) (s324).size) hb478)
  have x318 := Cur.below x318 k479
  have x323 := (k479.block _ (blk_lt x323)).trans x323
  refine Fc [.pointer (some ⟨b19, 0, none⟩), .slice (some ⟨b319, 0, none⟩) 5 5] (among_any b19 w.heap.size (((0 + 400) + 402) + 4) (some ⟨b319, 0, none⟩) 5 5 [50, 3, 4, 99, 100] _ x318 (by omega) (rd_blk x323 rfl rfl) (sp_ne (by have := ne330; omega)) (by omega)) ?_
  rintro e w494 ⟨x490, rfl, hx491, x496, g495⟩
  have s497 := SG.of_grown s481 g495 (.inl rfl)
  refine ⟨_, rfl, s497, ?_⟩
  apply F.nx
  have x480 := (g495.block _ (blk_lt x480) (fun e9 => ne487 (Option.some.inj e9).symm)).trans x480
  have hb492 := bnd_of (3) 100 hx491 (by decide)
  refine Fc [.pointer (some ⟨b19, 0, none⟩), .agg #[.int .i64 m31, .slice A32 n33 c34]] (nodeOf_any b19 w.heap.size ((((0 + 400) + 402) + 4) + 2) m31 A32 n33 c34 _ x496 (by omega) (by omega)) ?_
  rintro e w501 ⟨x498, rfl, hx499, x503, g502⟩
  have s504 := SG.of_grown s497 g502 (.inl rfl)
  refine ⟨_, rfl, s504, ?_⟩
  apply F.nx
  have x480 := (g502.block _ (blk_lt x480) (fun e9 => ne487 (Option.some.inj e9).symm)).trans x480
  refine Fc [.pointer (some ⟨b19, 0, none⟩), .int .i64 4] (one_any b19 w.heap.size (((((0 + 400) + 402) + 4) + 2) + 6) 4 _ x503 (by omega) (by omega)) ?_
  rintro e w508 ⟨b505, rfl, _, x510, g509⟩
  have s511 := SG.of_grown s504 g509 (.inl rfl)
  refine ⟨_, rfl, s511, ?_⟩
  apply F.nx
  have x480 := (g509.block _ (blk_lt x480) (fun e9 => ne487 (Option.some.inj e9).symm)).trans x480
  rcases Bool.eq_false_or_eq_true b505 with q512 | q512
  ·rw [q512]
   refine Fq (.agg #[.int .i64 x490, .int .i64 x101, .int .i64 x498, .bool true]) (r_build rfl (vs := [(0, .int .i64 x490), (1, .int .i64 x101), (2, .int .i64 x498), (3, .bool true)]) kk kk) ?_
   refine W.ss (v := .agg #[.int .i64 x490, .int .i64 x101, .int .i64 x498, .bool true]) (j := 0) (news := [.int .i64 x490, .int .i64 x101, .int .i64 x498, .bool true]) (cs' := #[.int .i64 x490, .int .i64 x101, .int .i64 x498, .bool true]) s511 rfl kk rfl rfl kk kk x480 kk kk (by simp) kk kk (.inr (Nl (s324).size (Nat.le_of_eq hb478))) (fun w513 g514 x515 s516 => ?_)
   have x510 := Cur.grown x510 g514 (fun e9 => ne487 (Option.some.inj e9)) (fun j e => by cases e; exact Nat.le_trans hN lo482)
   apply F.es
   have x6 := Sk s516 x6 (fun e9 => ne26 (Option.some.inj e9))
   have x13 := Sk s516 x13 (fun e9 => ne27 (Option.some.inj e9))
   have x69 := Sk s516 x69 (fun e9 => ne65 (Option.some.inj e9).symm)
   have c517 := (Sb c108 s516 (fun kq e => by cases e; exact lo25))
   have rd518 := rd_sep rd109 s516 sp54
   have rd519 := rd_sep rd110 s516 sp96
   exact h12 _ _ _ ⟨b476, x490, x498, true, Kn.of, rfl, x6, x13, (Cur.mono x510 (by omega)), x69, rd519, rd518, x515, lo482, ne485, ne486, ne487, ne488, sp483, sp484, c517⟩
  rw [q512]
  refine Fq (.agg #[.int .i64 x490, .int .i64 x101, .int .i64 x498, .bool false]) (r_build rfl (vs := [(0, .int .i64 x490), (1, .int .i64 x101), (2, .int .i64 x498), (3, .bool false)]) kk kk) ?_
  refine W.ss (v := .agg #[.int .i64 x490, .int .i64 x101, .int .i64 x498, .bool false]) (j := 0) (news := [.int .i64 x490, .int .i64 x101, .int .i64 x498, .bool false]) (cs' := #[.int .i64 x490, .int .i64 x101, .int .i64 x498, .bool false]) s511 rfl kk rfl rfl kk kk x480 kk kk (by simp) kk kk (.inr (Nl (s324).size (Nat.le_of_eq hb478))) (fun w520 g521 x522 s523 => ?_)
  have x510 := Cur.grown x510 g521 (fun e9 => ne487 (Option.some.inj e9)) (fun j e => by cases e; exact Nat.le_trans hN lo482)
  apply F.es
  have x6 := Sk s523 x6 (fun e9 => ne26 (Option.some.inj e9))
  have x13 := Sk s523 x13 (fun e9 => ne27 (Option.some.inj e9))
  have x69 := Sk s523 x69 (fun e9 => ne65 (Option.some.inj e9).symm)
  have c524 := (Sb c108 s523 (fun kq e => by cases e; exact lo25))
  have rd525 := rd_sep rd109 s523 sp54
  have rd526 := rd_sep rd110 s523 sp96
  exact h12 _ _ _ ⟨b476, x490, x498, false, Kn.of, rfl, x6, x13, (Cur.mono x510 (by omega)), x69, rd526, rd525, x522, lo482, ne485, ne486, ne487, ne488, sp483, sp484, c524⟩
 refine W.sn (fun b => .pointer (some ⟨b, 0, none⟩)) #[.int .i64 0, .int .i64 0, .int .i64 0, .bool false] 40 s317 rfl kk rfl (fun _ => by kernel_rfl) (fun b527 w528 hb529 k530 x531 s532 => ?_)
 apply F.nx
 have lo533 : w.heap.size ≤ b527 := Nl ((Sb c108 s317 (fun kq e => by cases e; exact lo25))).size (Nat.le_of_eq hb529)
 have sp534 : Sp A74 n75 (some b527) := sp_new rd110 (by have := (s317).size; have := hb529; omega)
 have sp535 : Sp A32 n33 (some b527) := sp_new rd109 (by have := (s317).size; have := hb529; omega)
 have ne536 : b2 ≠ b527 := Nat.ne_of_lt (Nat.lt_of_lt_of_eq (Nat.lt_of_lt_of_le (blk_lt x6) (s317).size) hb529)
 have ne537 : b9 ≠ b527 := Nat.ne_of_lt (Nat.lt_of_lt_of_eq (Nat.lt_of_lt_of_le (blk_lt x13) (s317).size) hb529)
 have ne538 : b19 ≠ b527 := Nat.ne_of_lt (Nat.lt_of_lt_of_eq (Cur.lt x318) hb529)
 have ne539 : b55 ≠ b527 := Nat.ne_of_lt (Nat.lt_of_lt_of_eq (Nat.lt_of_lt_of_le (blk_lt x69) (s317).size) hb529)
 have x318 := Cur.below x318 k530
 refine W.sn (fun b => .slice (some ⟨b, 0, none⟩) 5 5) #[.int .i64 50, .int .i64 3, .int .i64 4, .int .i64 99, .int .i64 100] 3 s532 rfl kk rfl (fun _ => by kernel_rfl) (fun b540 w541 hb542 k543 x544 s545 => ?_)
 apply F.nx
 have lo546 : w.heap.size ≤ b540 := Nl ((Sb c108 s532 (fun kq e => by cases e; exact lo25))).size (Nat.le_of_eq hb542)
 have ne551 : b19 ≠ b540 := Nat.ne_of_lt (Nat.lt_of_lt_of_eq (Cur.lt x318) hb542)
 have x318 := Cur.below x318 k543
 have x531 := (k543.block _ (blk_lt x531)).trans x531
 refine Fc [.pointer (some ⟨b19, 0, none⟩), .slice (some ⟨b540, 0, none⟩) 5 5] (among_any b19 w.heap.size (((0 + 400) + 402) + 4) (some ⟨b540, 0, none⟩) 5 5 [50, 3, 4, 99, 100] _ x318 (by omega) (rd_blk x544 rfl rfl) (sp_ne (by have := ne551; omega)) (by omega)) ?_
 rintro e w558 ⟨x554, rfl, hx555, x560, g559⟩
 have s561 := SG.of_grown s545 g559 (.inl rfl)
 refine ⟨_, rfl, s561, ?_⟩
 apply F.nx
 have x531 := (g559.block _ (blk_lt x531) (fun e9 => ne538 (Option.some.inj e9).symm)).trans x531
 have hb556 := bnd_of (3) 100 hx555 (by decide)
 refine Fc [.pointer (some ⟨b19, 0, none⟩), .agg #[.int .i64 m31, .slice A32 n33 c34]] (nodeOf_any b19 w.heap.size ((((0 + 400) + 402) + 4) + 2) m31 A32 n33 c34 _ x560 (by omega) (by omega)) ?_
 rintro e w565 ⟨x562, rfl, hx563, x567, g566⟩
 have s568 := SG.of_grown s561 g566 (.inl rfl)
 refine ⟨_, rfl, s568, ?_⟩
 apply F.nx
 have x531 := (g566.block _ (blk_lt x531) (fun e9 => ne538 (Option.some.inj e9).symm)).trans x531
 refine Fc [.pointer (some ⟨b19, 0, none⟩), .int .i64 4] (one_any b19 w.heap.size (((((0 + 400) + 402) + 4) + 2) + 6) 4 _ x567 (by omega) (by omega)) ?_
 rintro e w572 ⟨b569, rfl, _, x574, g573⟩
 have s575 := SG.of_grown s568 g573 (.inl rfl)
 refine ⟨_, rfl, s575, ?_⟩
 apply F.nx
 have x531 := (g573.block _ (blk_lt x531) (fun e9 => ne538 (Option.some.inj e9).symm)).trans x531
 rcases Bool.eq_false_or_eq_true b569 with q576 | q576
 ·rw [q576]
  refine Fq (.agg #[.int .i64 x554, .int .i64 x101, .int .i64 x562, .bool true]) (r_build rfl (vs := [(0, .int .i64 x554), (1, .int .i64 x101), (2, .int .i64 x562), (3, .bool true)]) kk kk) ?_
  refine W.ss (v := .agg #[.int .i64 x554, .int .i64 x101, .int .i64 x562, .bool true]) (j := 0) (news := [.int .i64 x554, .int .i64 x101, .int .i64 x562, .bool true]) (cs' := #[.int .i64 x554, .int .i64 x101, .int .i64 x562, .bool true]) s575 rfl kk rfl rfl kk kk x531 kk kk (by simp) kk kk (.inr (Nl (s317).size (Nat.le_of_eq hb529))) (fun w577 g578 x579 s580 => ?_)
  have x574 := Cur.grown x574 g578 (fun e9 => ne538 (Option.some.inj e9)) (fun j e => by cases e; exact Nat.le_trans hN lo533)
  apply F.es
  have x6 := Sk s580 x6 (fun e9 => ne26 (Option.some.inj e9))
  have x13 := Sk s580 x13 (fun e9 => ne27 (Option.some.inj e9))
  have x69 := Sk s580 x69 (fun e9 => ne65 (Option.some.inj e9).symm)
  have c581 := (Sb c108 s580 (fun kq e => by cases e; exact lo25))
  have rd582 := rd_sep rd109 s580 sp54
  have rd583 := rd_sep rd110 s580 sp96
  exact h12 _ _ _ ⟨b527, x554, x562, true, Kn.of, rfl, x6, x13, (Cur.mono x574 (by omega)), x69, rd583, rd582, x579, lo533, ne536, ne537, ne538, ne539, sp534, sp535, c581⟩
 rw [q576]
 refine Fq (.agg #[.int .i64 x554, .int .i64 x101, .int .i64 x562, .bool false]) (r_build rfl (vs := [(0, .int .i64 x554), (1, .int .i64 x101), (2, .int .i64 x562), (3, .bool false)]) kk kk) ?_
 refine W.ss (v := .agg #[.int .i64 x554, .int .i64 x101, .int .i64 x562, .bool false]) (j := 0) (news := [.int .i64 x554, .int .i64 x101, .int .i64 x562, .bool false]) (cs' := #[.int .i64 x554, .int .i64 x101, .int .i64 x562, .bool false]) s575 rfl kk rfl rfl kk kk x531 kk kk (by simp) kk kk (.inr (Nl (s317).size (Nat.le_of_eq hb529))) (fun w584 g585 x586 s587 => ?_)
 have x574 := Cur.grown x574 g585 (fun e9 => ne538 (Option.some.inj e9)) (fun j e => by cases e; exact Nat.le_trans hN lo533)
 apply F.es
 have x6 := Sk s587 x6 (fun e9 => ne26 (Option.some.inj e9))
 have x13 := Sk s587 x13 (fun e9 => ne27 (Option.some.inj e9))
 have x69 := Sk s587 x69 (fun e9 => ne65 (Option.some.inj e9).symm)
 have c588 := (Sb c108 s587 (fun kq e => by cases e; exact lo25))
 have rd589 := rd_sep rd109 s587 sp54
 have rd590 := rd_sep rd110 s587 sp96
 exact h12 _ _ _ ⟨b527, x554, x562, false, Kn.of, rfl, x6, x13, (Cur.mono x574 (by omega)), x69, rd590, rd589, x586, lo533, ne536, ne537, ne538, ne539, sp534, sp535, c588⟩
end Go.Proofs.Ytdbgfejeleafgaa
