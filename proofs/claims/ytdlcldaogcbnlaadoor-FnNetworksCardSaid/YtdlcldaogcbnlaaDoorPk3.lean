/- What the texts behind it build on; conditions: none. -/
import Derived.Test.YtdlcldaogcbnlaaDoorPk2
import Derived.Lib.ItoaLen
import Derived.Lib.AppendIntMem
import Derived.Lib.Atoi
namespace Go.Proofs.YtdlcldaogcbnlaaDoor
open Go.RowKit
set_option linter.unusedVariables false
set_option linter.unusedSimpArgs false
def smP (p : Pp) : Prop := (-1000 ≤ p.id ∧ p.id ≤ 1000) ∧ (-1000 ≤ p.fr ∧ p.fr ≤ 1000) ∧ (-1000 ≤ p.to ∧ p.to ≤ 1000) ∧ (-1000 ≤ p.sz ∧ p.sz ≤ 1000)
theorem sm_mk {a b c d : Int} (h : (-1000 ≤ a ∧ a ≤ 1000) ∧ (-1000 ≤ b ∧ b ≤ 1000) ∧ (-1000 ≤ c ∧ c ≤ 1000) ∧ (-1000 ≤ d ∧ d ≤ 1000)) : smP ⟨a, b, c, d⟩ := h
theorem sm_nil : ∀ p, p ∈ ([] : List Pp) → smP p := fun p h => by cases h
theorem sm_snoc {ps : List Pp} {x : Pp} (h : ∀ p, p ∈ ps → smP p) (hx : smP x) : ∀ p, p ∈ ps ++ [x] → smP p := fun p hp => by
  rcases List.mem_append.1 hp with h1 | h1
  · exact h p h1
  · obtain rfl : p = x := by simpa using h1
    exact hx
theorem snoc_len {ps : List Pp} {x : Pp} : (ps ++ [x]).length = ps.length + 1 := by simp
theorem bnd_of {zs : List Int} {x : Int} (lo hi : Int) (hx : x ∈ zs) (h : zs.all (fun z => decide (lo ≤ z) && decide (z ≤ hi)) = true) : lo ≤ x ∧ x ≤ hi := by
  have h1 := List.all_eq_true.1 h x hx
  simpa using h1
def mostI (a b : Int) : Int := if a > b then a else b
theorem mostI_is (a b : Int) : mostI a b = a ∨ mostI a b = b := by unfold mostI; split <;> simp
def smD (k : Nat) (m : Int) (ps : List Pp) : Prop := (-1000 ≤ m ∧ m ≤ 1000) ∧ ps.length ≤ k ∧ ∀ p, p ∈ ps → smP p
set_option maxRecDepth 100000 in
set_option maxHeartbeats 8000000 in
theorem l1Most_any (a b : Int) (w : World) :
    Calls Tryd.prog 83 #[.int .i64 a, .int .i64 b] w fun e w' => e = .returned (.int .i64 (mostI a b)) ∧ Below w.heap.size w w' := by
 go_enter Tryd.func83, Tryd.ntmps83
 refine F.begin 10 [(0, .int .i64 a), (1, .int .i64 b)] (fun U0 => ?_)
 refine wk fun K1 h1 => ?_
 refine Rq 1 ?_
 refine Fa (.int .i64 0) ?_
 apply F.es
 apply h1
 refine wk fun K2 h2 => ?_
 refine wk fun K3 h3 => ?_
 refine Rq 3 ?_
 refine Fv (.int .i64 a) ?_
 refine Fv (.int .i64 b) ?_
 by_cases q1 : (a : Int) > (b : Int)
 ·refine Fq (.bool true) (r_gtr (m := a) (n := b) rfl ek ek (dt q1)) ?_
  apply F.es
  apply h3
  refine wp_cond_true ek ?_
  refine wk fun K4 h4 => ?_
  refine Rq 2 ?_
  refine Fv (.int .i64 a) ?_
  refine Fa (.int .i64 a) ?_
  apply F.es
  apply h4
  refine wp_ret ?_
  try simp only [Exit.then]
  refine ret1 (v := .int .i64 a) rfl kk ?_
  exact ⟨by unfold mostI; rw [if_pos (by omega)], (Below.refl _ _)⟩
 refine Fq (.bool false) (r_gtr (m := a) (n := b) rfl ek ek (df q1)) ?_
 apply F.es
 apply h3
 refine wp_cond_false ek ?_
 apply wp_skip
 apply h2
 refine wk fun K5 h5 => ?_
 refine Rq 2 ?_
 refine Fv (.int .i64 b) ?_
 refine Fa (.int .i64 b) ?_
 apply F.es
 apply h5
 refine wp_ret ?_
 try simp only [Exit.then]
 refine ret1 (v := .int .i64 b) rfl kk ?_
 exact ⟨by unfold mostI; rw [if_neg (by omega)], (Below.refl _ _)⟩
set_option maxRecDepth 100000 in
set_option maxHeartbeats 8000000 in
theorem network_any (B N k : Nat)  (w : World) (hc : Cur w B N k) (hk : k ≤ 800000000000)  :
    Calls Tryd.prog 50 #[.pointer (some ⟨B, 0, none⟩)] w fun e w' => ∃ (m : Int) (A' : Option Addr) (n' c' : Nat) (ps : List Pp), e = .returned (.agg #[.int .i64 m, .slice A' n' c']) ∧ (w'.ownsRow w.heap.size 38 4 (.slice A' n' c') n' (pipesV ps) ∧ smD 10 m ps) ∧ Cur w' B N (k + 300) ∧ w.grownBy w' (some B) := by
 have hN := Cur.hN hc
 go_enter Tryd.func50, Tryd.ntmps50
 refine F.begin 97 [(0, .pointer (some ⟨B, 0, none⟩))] (fun U0 => ?_)
 refine wk fun K1 h1 => ?_
 refine W.region_plain (row := none) [(0, true)] kk ?_
 have s1 := SG.self w none
 refine W.sn (fun b => .pointer (some ⟨b, 0, none⟩)) #[.int .i64 0, .slice none 0 0] 24 s1 rfl kk rfl (fun _ => by kernel_rfl) (fun b2 w3 hb4 k5 x6 s7 => ?_)
 apply F.nx
 have lo8 : w.heap.size ≤ b2 := Nl ((SG.fr (B := B) (World.grownBy.refl _ _) s1 nkk)).size (Nat.le_of_eq hb4)
 have ne9 : B ≠ b2 := Nat.ne_of_lt (Nat.lt_of_lt_of_eq (Nat.lt_of_lt_of_le (Cur.lt hc) (s1).size) hb4)
 apply F.es
 have hc := Cur.below hc (SG.below s7)
 have c10 := (SG.fr (B := B) (World.grownBy.refl _ _) s7 nkk)
 apply h1
 refine wk fun K2 h2 => ?_
 refine W.region_plain (row := (some B)) [(0, false), (1, true), (2, false), (3, false), (4, true), (5, true)] kk ?_
 have s11 := SG.self w3 (some B)
 refine Fv (.pointer (some ⟨B, 0, none⟩)) ?_
 refine Fc [.pointer (some ⟨B, 0, none⟩), .int .i64 7] (pick_any B N k 7 _ hc (by omega) (by omega)) ?_
 rintro e w15 ⟨x12, rfl, hx13, x17, g16⟩
 have s18 := SG.of_grown s11 g16 (.inl rfl)
 refine ⟨_, rfl, s18, ?_⟩
 apply F.nx
 refine Fq (.int .i64 (1 + x12)) (r_add (m := 1) (n := x12) (z := 1 + x12) rfl ek ek (rfl) (by omega)) ?_
 refine Fq (.agg #[.int .i64 (1 + x12), .slice none 0 0]) (r_build rfl (vs := [(0, .int .i64 (1 + x12))]) kk kk) ?_
 refine W.sn (fun b => .pointer (some ⟨b, 0, none⟩)) #[.int .i64 0, .slice none 0 0] 24 s18 rfl kk rfl (fun _ => by kernel_rfl) (fun b19 w20 hb21 k22 x23 s24 => ?_)
 apply F.nx
 have lo25 : w.heap.size ≤ b19 := Nl ((SG.fr (B := B) c10 s18 (fun kq e => .inl (by cases e; rfl)))).size (Nat.le_of_eq hb21)
 have ne26 : B ≠ b19 := Nat.ne_of_lt (Nat.lt_of_lt_of_eq (Cur.lt x17) hb21)
 have ne27 : b2 ≠ b19 := Nat.ne_of_lt (Nat.lt_of_lt_of_eq (Nat.lt_of_lt_of_le (blk_lt x6) (s18).size) hb21)
 have x17 := Cur.below x17 k22
 refine W.ss (v := .agg #[.int .i64 (1 + x12), .slice none 0 0]) (j := 0) (news := [.int .i64 (1 + x12), .slice none 0 0]) (cs' := #[.int .i64 (1 + x12), .slice none 0 0]) s24 rfl kk rfl rfl kk kk x23 kk kk (by simp) kk kk (.inr (Nl (s18).size (Nat.le_of_eq hb21))) (fun w28 g29 x30 s31 => ?_)
 have x17 := Cur.grown x17 g29 (fun e9 => ne26 (Option.some.inj e9)) (fun j e => by cases e; exact Nat.le_trans hN lo25)
 apply F.es
 have x6 := Sk s31 x6 (fun e9 => ne9 (Option.some.inj e9).symm)
 have c32 := (SG.fr (B := B) c10 s31 (fun kq e => .inl (by cases e; rfl)))
 apply h2
 refine wk fun K3 h3 => ?_
 refine Rq 1 ?_
 refine Fa (.int .i64 0) ?_
 apply F.es
 apply h3
 refine wk fun K4 h4 => ?_
 refine wk fun K5 h5 => ?_
 refine Rq 1 ?_
 refine Fa (.int .i64 2) ?_
 apply F.es
 apply h5
 refine wp_block ?_
 have ho34 : World.ownsRow w28 w.heap.size 38 4 (.slice none 0 0) 0 (pipesV []) := World.ownsRow_nil _ _ _ _
 have nb35 : Nb B (.slice none 0 0) := nb_nil
 have nb36 : Nb b2 (.slice none 0 0) := nb_nil
 have nb37 : Nb b19 (.slice none 0 0) := nb_nil
 refine loopK (fun am0 aa0 wl0 => ∃ (i : Nat) (d0 : Int) (ps0 : List Pp) (A0_c3_1 : Option Addr) (n0_c3_1 : Nat) (c0_c3_1 : Nat) , Kn aa0 [(0, .pointer (some ⟨B, 0, none⟩)), (2, .pointer (some ⟨b2, 0, none⟩)), (3, .pointer (some ⟨b19, 0, none⟩)), (4, .int .i64 d0), (5, .int .i64 (i : Int))] 97 ∧ (am0 = 10 - i) ∧ (2 ≤ i ∧ i ≤ 9) ∧ (0 ≤ d0 ∧ d0 ≤ 4 * i) ∧ (∀ p, p ∈ ps0 → smP p) ∧ (ps0.length + 2 ≤ i) ∧ (Cur wl0 B N (k + 10 * i)) ∧ (wl0.heap[b2]? = some (.cells #[.int .i64 0, .slice none 0 0] 24 (0, 0))) ∧ (wl0.heap[b19]? = some (.cells #[.int .i64 (1 + x12), .slice A0_c3_1 n0_c3_1 c0_c3_1] 24 (0, 0))) ∧ (wl0.ownsRow w.heap.size 38 4 (.slice A0_c3_1 n0_c3_1 c0_c3_1) n0_c3_1 (pipesV ps0)) ∧ (Nb B (.slice A0_c3_1 n0_c3_1 c0_c3_1)) ∧ (Nb b2 (.slice A0_c3_1 n0_c3_1 c0_c3_1)) ∧ (Nb b19 (.slice A0_c3_1 n0_c3_1 c0_c3_1)) ∧ (w.grownBy wl0 (some B))) (10 - 2) ?_ ?_
 ·exact ⟨2, 0, [], none, 0, 0, Kn.of, rfl, (⟨by omega, by omega⟩), (⟨by omega, by omega⟩), sm_nil, (by simp), (Cur.mono x17 (by omega)), x6, x30, ho34, nb35, nb36, nb37, c32⟩
 rintro am0 aa0 wl0 K6 h6 ⟨i, d0, ps0, A0_c3_1, n0_c3_1, c0_c3_1, ⟨U0, rfl⟩, rfl, hi, hd, hps, hln, x17, x6, x30, ho0_c3_1, nb0_c3_1_B, nb0_c3_1_b2, nb0_c3_1_b19, c38⟩
 have hl09 := rd_pipes_len (own_rd ho0_c3_1)
 refine wk fun K7 h7 => ?_
 refine wk fun K8 h8 => ?_
 refine Rq 4 ?_
 refine Fv (.int .i64 (i : Int)) ?_
 refine Fq (.pointer (some ⟨b19, 0, none⟩)) (r_field0 rfl ek kk) ?_
 refine Fl (.int .i64 (1 + x12)) (eqS (blk_cell (j := 0) x30 kk)) ?_
 by_cases q39 : ((i : Int) : Int) ≤ (1 + x12 : Int)
 ·refine Fq (.bool true) (r_leq (m := (i : Int)) (n := 1 + x12) rfl ek ek (dt q39)) ?_
  apply F.es
  apply h8
  refine wp_cond_true ek ?_
  apply wp_skip
  apply h7
  refine joinK (fun amj1 aaj1 wlj1 => ∃ (psa : List Pp) (da : Int) (Aj1_c3_1 : Option Addr) (nj1_c3_1 : Nat) (cj1_c3_1 : Nat) , Kn aaj1 [(0, .pointer (some ⟨B, 0, none⟩)), (2, .pointer (some ⟨b2, 0, none⟩)), (3, .pointer (some ⟨b19, 0, none⟩)), (4, .int .i64 da), (5, .int .i64 (i : Int)), (16, .bool true)] 97 ∧ (amj1 = 0) ∧ (∀ p, p ∈ psa → smP p) ∧ (psa.length + 1 ≤ i) ∧ (0 ≤ da ∧ da ≤ d0 + 4) ∧ (Cur wlj1 B N ((k + 10 * i + 10))) ∧ (wlj1.heap[b2]? = some (.cells #[.int .i64 0, .slice none 0 0] 24 (0, 0))) ∧ (wlj1.heap[b19]? = some (.cells #[.int .i64 (1 + x12), .slice Aj1_c3_1 nj1_c3_1 cj1_c3_1] 24 (0, 0))) ∧ (wlj1.ownsRow w.heap.size 38 4 (.slice Aj1_c3_1 nj1_c3_1 cj1_c3_1) nj1_c3_1 (pipesV psa)) ∧ (Nb B (.slice Aj1_c3_1 nj1_c3_1 cj1_c3_1)) ∧ (Nb b2 (.slice Aj1_c3_1 nj1_c3_1 cj1_c3_1)) ∧ (Nb b19 (.slice Aj1_c3_1 nj1_c3_1 cj1_c3_1)) ∧ (w.grownBy wlj1 (some B))) ?_ ?_
  ·rintro amj1 aaj1 wlj1 ⟨psa, da, Aj1_c3_1, nj1_c3_1, cj1_c3_1, ⟨Uj1, rfl⟩, rfl, hpsa, hlpsa, hdpsa, x17, x6, x30, hoj1_c3_1, nbj1_c3_1_B, nbj1_c3_1_b2, nbj1_c3_1_b19, c40⟩
   refine Rq 3 ?_
   refine Fv (.int .i64 (i : Int)) ?_
   refine Fq (.int .i64 ((i + 1 : Nat) : Int)) (r_add (m := (i : Int)) (n := 1) (z := ((i + 1 : Nat) : Int)) rfl ek ek (by omega) (by omega)) ?_
   refine Fa (.int .i64 ((i + 1 : Nat) : Int)) ?_
   apply F.es
   exact h6 _ _ _ (by omega : (10 - (i + 1)) < _) ⟨i + 1, da, psa, Aj1_c3_1, nj1_c3_1, cj1_c3_1, Kn.of, rfl, (⟨by omega, by omega⟩), (⟨by omega, by omega⟩), hpsa, (by omega), (Cur.mono x17 (by omega)), x6, x30, hoj1_c3_1, nbj1_c3_1_B, nbj1_c3_1_b2, nbj1_c3_1_b19, c40⟩
  intro K9 h9
  refine wp_block ?_
  refine wk fun K10 h10 => ?_
  refine wk fun K11 h11 => ?_
  refine W.region_plain (row := (some B)) [(0, false), (1, true)] kk ?_
  have s41 := SG.self wl0 (some B)
  refine Fv (.pointer (some ⟨B, 0, none⟩)) ?_
  refine Fc [.pointer (some ⟨B, 0, none⟩), .int .i64 10] (one_any B N (k + 10 * i) 10 _ x17 (by omega) (by omega)) ?_
  rintro e w45 ⟨b42, rfl, _, x47, g46⟩
  have s48 := SG.of_grown s41 g46 (.inl rfl)
  refine ⟨_, rfl, s48, ?_⟩
  apply F.nx
  have ho49 := own_grown ho0_c3_1 g46 (fun j e1 e2 => by cases e2; exact nb0_c3_1_B e1.symm)
  rcases Bool.eq_false_or_eq_true b42 with q50 | q50
  ·rw [q50]
   apply F.es
   have x6 := Sk s48 x6 (fun e9 => ne9 (Option.some.inj e9).symm)
   have x30 := Sk s48 x30 (fun e9 => ne26 (Option.some.inj e9).symm)
   have c51 := (SG.fr (B := B) c38 s48 (fun kq e => .inl (by cases e; rfl)))
   apply h11
   refine wp_cond_true ek ?_
   refine wp_exit ?_
   exact h9 _ _ _ ⟨ps0, d0, A0_c3_1, n0_c3_1, c0_c3_1, Kn.of, rfl, hps, (by omega), (⟨by omega, by omega⟩), (Cur.mono x47 (by omega)), x6, x30, ho49, nb0_c3_1_B, nb0_c3_1_b2, nb0_c3_1_b19, c51⟩
  rw [q50]
  apply F.es
  have x6 := Sk s48 x6 (fun e9 => ne9 (Option.some.inj e9).symm)
  have x30 := Sk s48 x30 (fun e9 => ne26 (Option.some.inj e9).symm)
  have c52 := (SG.fr (B := B) c38 s48 (fun kq e => .inl (by cases e; rfl)))
  apply h11
  refine wp_cond_false ek ?_
  apply wp_skip
  apply h10
  refine wk fun K12 h12 => ?_
  refine W.region_plain (row := (some B)) [(0, false), (1, false), (2, false), (3, true), (4, false), (5, false)] kk ?_
  have s53 := SG.self w45 (some B)
  refine Fv (.int .i64 d0) ?_
  refine Fq (.int .i64 (d0 + 1)) (r_add (m := d0) (n := 1) (z := d0 + 1) rfl ek ek (rfl) (by omega)) ?_
  refine Fv (.pointer (some ⟨B, 0, none⟩)) ?_
  refine Fc [.pointer (some ⟨B, 0, none⟩), .int .i64 3] (pick_any B N (k + 10 * i + 2) 3 _ x47 (by omega) (by omega)) ?_
  rintro e w57 ⟨x54, rfl, hx55, x59, g58⟩
  have s60 := SG.of_grown s53 g58 (.inl rfl)
  refine ⟨_, rfl, s60, ?_⟩
  apply F.nx
  have ho61 := own_grown ho49 g58 (fun j e1 e2 => by cases e2; exact nb0_c3_1_B e1.symm)
  refine Fq (.int .i64 (d0 + 1 + x54)) (r_add (m := d0 + 1) (n := x54) (z := d0 + 1 + x54) rfl ek ek (rfl) (by omega)) ?_
  refine Fa (.int .i64 (d0 + 1 + x54)) ?_
  apply F.es
  have x6 := Sk s60 x6 (fun e9 => ne9 (Option.some.inj e9).symm)
  have x30 := Sk s60 x30 (fun e9 => ne26 (Option.some.inj e9).symm)
  have c62 := (SG.fr (B := B) c52 s60 (fun kq e => .inl (by cases e; rfl)))
  apply h12
  refine wk fun K13 h13 => ?_
  refine W.region_plain (row := (some B)) [(0, false), (1, false), (2, false), (3, false), (4, true), (5, false), (6, false), (7, false), (8, true), (9, false), (10, false), (11, true), (12, true)] kk ?_
  have s63 := SG.self w57 (some B)
  refine Fv (.int .i64 (d0 + 1 + x54)) ?_
  refine Fv (.pointer (some ⟨B, 0, none⟩)) ?_
  refine Fv (.int .i64 (i : Int)) ?_
  refine Fq (.int .i64 ((i : Int) - 1)) (r_sub (m := (i : Int)) (n := 1) (z := (i : Int) - 1) rfl ek ek (rfl) (by omega)) ?_
  refine Fc [.pointer (some ⟨B, 0, none⟩), .int .i64 ((i : Int) - 1)] (pick_any B N ((k + 10 * i + 2) + 2) ((i : Int) - 1) _ x59 (by omega) (by omega)) ?_
  rintro e w67 ⟨x64, rfl, hx65, x69, g68⟩
  have s70 := SG.of_grown s63 g68 (.inl rfl)
  refine ⟨_, rfl, s70, ?_⟩
  apply F.nx
  have ho71 := own_grown ho61 g68 (fun j e1 e2 => by cases e2; exact nb0_c3_1_B e1.symm)
  refine Fq (.int .i64 (1 + x64)) (r_add (m := 1) (n := x64) (z := 1 + x64) rfl ek ek (rfl) (by omega)) ?_
  refine Fv (.int .i64 (i : Int)) ?_
  refine Fv (.pointer (some ⟨B, 0, none⟩)) ?_
  refine Fc [.pointer (some ⟨B, 0, none⟩), .int .i64 9] (pick_any B N (((k + 10 * i + 2) + 2) + 2) 9 _ x69 (by omega) (by omega)) ?_
  rintro e w75 ⟨x72, rfl, hx73, x77, g76⟩
  have s78 := SG.of_grown s70 g76 (.inl rfl)
  refine ⟨_, rfl, s78, ?_⟩
  apply F.nx
  have ho79 := own_grown ho71 g76 (fun j e1 e2 => by cases e2; exact nb0_c3_1_B e1.symm)
  refine Fq (.int .i64 (1 + x72)) (r_add (m := 1) (n := x72) (z := 1 + x72) rfl ek ek (rfl) (by omega)) ?_
  refine Fq (.agg #[.int .i64 (d0 + 1 + x54), .int .i64 (1 + x64), .int .i64 (i : Int), .int .i64 (1 + x72)]) (r_build rfl (vs := [(0, .int .i64 (d0 + 1 + x54)), (1, .int .i64 (1 + x64)), (2, .int .i64 (i : Int)), (3, .int .i64 (1 + x72))]) kk kk) ?_
  refine W.sn (fun b => .pointer (some ⟨b, 0, none⟩)) #[.int .i64 0, .int .i64 0, .int .i64 0, .int .i64 0] 38 s78 rfl kk rfl (fun _ => by kernel_rfl) (fun b80 w81 hb82 k83 x84 s85 => ?_)
  apply F.nx
  have lo86 : w.heap.size ≤ b80 := Nl ((SG.fr (B := B) c62 s78 (fun kq e => .inl (by cases e; rfl)))).size (Nat.le_of_eq hb82)
  have ne87 : B ≠ b80 := Nat.ne_of_lt (Nat.lt_of_lt_of_eq (Cur.lt x77) hb82)
  have ne88 : b2 ≠ b80 := Nat.ne_of_lt (Nat.lt_of_lt_of_eq (Nat.lt_of_lt_of_le (blk_lt x6) (s78).size) hb82)
  have ne89 : b19 ≠ b80 := Nat.ne_of_lt (Nat.lt_of_lt_of_eq (Nat.lt_of_lt_of_le (blk_lt x30) (s78).size) hb82)
  have nb90 : Nb b80 (.slice A0_c3_1 n0_c3_1 c0_c3_1) := nb_hi ho79 (Nat.le_of_eq hb82)
  have x77 := Cur.below x77 k83
  have ho91 := own_kept ho79 k83
  refine W.ss (v := .agg #[.int .i64 (d0 + 1 + x54), .int .i64 (1 + x64), .int .i64 (i : Int), .int .i64 (1 + x72)]) (j := 0) (news := [.int .i64 (d0 + 1 + x54), .int .i64 (1 + x64), .int .i64 (i : Int), .int .i64 (1 + x72)]) (cs' := #[.int .i64 (d0 + 1 + x54), .int .i64 (1 + x64), .int .i64 (i : Int), .int .i64 (1 + x72)]) s85 rfl kk rfl rfl kk kk x84 kk kk (by simp) kk kk (.inr (Nl (s78).size (Nat.le_of_eq hb82))) (fun w92 g93 x94 s95 => ?_)
  have x77 := Cur.grown x77 g93 (fun e9 => ne87 (Option.some.inj e9)) (fun j e => by cases e; exact Nat.le_trans hN lo86)
  have ho96 := own_grown ho91 g93 (fun j e1 e2 => by cases e2; exact nb90 e1.symm)
  apply F.es
  have x6 := Sk s95 x6 (fun e9 => ne9 (Option.some.inj e9).symm)
  have x30 := Sk s95 x30 (fun e9 => ne26 (Option.some.inj e9).symm)
  have c97 := (SG.fr (B := B) c62 s95 (fun kq e => .inl (by cases e; rfl)))
  apply h13
  refine joinK (fun amj2 aaj2 wlj2 => ∃ (ja : Int) (jb : Int) , Kn aaj2 [(0, .pointer (some ⟨B, 0, none⟩)), (2, .pointer (some ⟨b2, 0, none⟩)), (3, .pointer (some ⟨b19, 0, none⟩)), (4, .int .i64 (d0 + 1 + x54)), (5, .int .i64 (i : Int)), (6, .pointer (some ⟨b80, 0, none⟩)), (16, .bool true), (20, .bool false)] 97 ∧ (amj2 = 0) ∧ (1 ≤ ja ∧ ja ≤ 9) ∧ (1 ≤ jb ∧ jb ≤ 9) ∧ (Cur wlj2 B N ((((((k + 10 * i + 2) + 2) + 2) + 2) + 2))) ∧ (wlj2.heap[b2]? = some (.cells #[.int .i64 0, .slice none 0 0] 24 (0, 0))) ∧ (wlj2.heap[b19]? = some (.cells #[.int .i64 (1 + x12), .slice A0_c3_1 n0_c3_1 c0_c3_1] 24 (0, 0))) ∧ (wlj2.heap[b80]? = some (.cells #[.int .i64 (d0 + 1 + x54), .int .i64 ja, .int .i64 jb, .int .i64 (1 + x72)] 38 (0, 0))) ∧ (wlj2.ownsRow w.heap.size 38 4 (.slice A0_c3_1 n0_c3_1 c0_c3_1) n0_c3_1 (pipesV ps0)) ∧ (w.grownBy wlj2 (some B))) ?_ ?_
  ·rintro amj2 aaj2 wlj2 ⟨ja, jb, ⟨Uj2, rfl⟩, rfl, hja, hjb, x77, x6, x30, x94, hoj2_c3_1, c98⟩
   refine M.region_plain (row := [(Value.ownBlock (.slice A0_c3_1 n0_c3_1 c0_c3_1)), (some b19)]) [(0, false), (1, true), (2, false), (3, true), (4, true), (5, false), (6, true)] kk ?_
   have s99 := SM.self wlj2 [(Value.ownBlock (.slice A0_c3_1 n0_c3_1 c0_c3_1)), (some b19)]
   refine Fq (.pointer (some ⟨b19, 1, none⟩)) (r_field (k := 1) rfl ek kk) ?_
   refine W.slq (v := .slice A0_c3_1 n0_c3_1 c0_c3_1) s99 rfl (r_load rfl kk kk (eqS (blk_cell (j := 1) x30 kk))) kk rfl ?_
   apply F.nx
   refine Fq (.agg #[.int .i64 (d0 + 1 + x54), .int .i64 ja, .int .i64 jb, .int .i64 (1 + x72)]) (r_load4 rfl ek kk kk (smS (blk_cell (j := 0) x94 kk) (ne2 nb90 (fun e9 => ne89 (Option.some.inj e9).symm))) (smS (blk_cell (j := 1) x94 kk) (ne2 nb90 (fun e9 => ne89 (Option.some.inj e9).symm))) (smS (blk_cell (j := 2) x94 kk) (ne2 nb90 (fun e9 => ne89 (Option.some.inj e9).symm))) (smS (blk_cell (j := 3) x94 kk) (ne2 nb90 (fun e9 => ne89 (Option.some.inj e9).symm)))) ?_
   refine M.sn (fun b => .slice (some ⟨b, 0, none⟩) 1 1) #[.int .i64 (d0 + 1 + x54), .int .i64 ja, .int .i64 jb, .int .i64 (1 + x72)] 38 s99 rfl kk rfl (fun _ => by kernel_rfl) (fun b100 w101 hb102 k103 x104 s105 => ?_)
   apply F.nx
   have lo106 : w.heap.size ≤ b100 := Nl ((SM.fr (B := B) c98 s99 (in2 (fun kq e => .inr (World.ownsRow.lt hoj2_c3_1 kq e).1) (fun kq e => .inr (by cases e; exact lo25))))).size (Nat.le_of_eq hb102)
   have x30 := (k103.block _ (blk_lt x30)).trans x30
   have ho112 := own_kept hoj2_c3_1 k103
   refine M.sap (e := 38) (size := 4) (base := w.heap.size) (m := 1) (v := .slice A0_c3_1 n0_c3_1 c0_c3_1) (c := 1) s105 rfl rfl rfl rfl kk kk kk ho112 x104 kk kk (by omega) (by omega) (by have := ((SM.fr (B := B) c98 s105 (in2 (fun kq e => .inr (World.ownsRow.lt hoj2_c3_1 kq e).1) (fun kq e => .inr (by cases e; exact lo25))))).size; omega) (.inl (by simp)) (fun g113 cap114 w115 ho116 hg117 hat118 hlt119 s120 => ?_)
   apply F.nx
   have nb121 : Nb B (.slice (some ⟨g113, 0, none⟩) (n0_c3_1 + 1) cap114) := nb_app nb0_c3_1_B (Nat.lt_of_lt_of_le (Cur.lt x77) (s105).size) hat118
   have nb122 : Nb b2 (.slice (some ⟨g113, 0, none⟩) (n0_c3_1 + 1) cap114) := nb_app nb0_c3_1_b2 (Nat.lt_of_lt_of_le (blk_lt x6) (s105).size) hat118
   have nb123 : Nb b19 (.slice (some ⟨g113, 0, none⟩) (n0_c3_1 + 1) cap114) := nb_app nb0_c3_1_b19 (blk_lt x30) hat118
   have x30 := (hg117.block _ (blk_lt x30) nb0_c3_1_b19).trans x30
   have ho116 := own_snocP (x := (Pp.mk (d0 + 1 + x54) ja jb (1 + x72))) ho116
   refine Fq (.pointer (some ⟨b19, 1, none⟩)) (r_field (k := 1) rfl ek kk) ?_
   refine M.ss (v := .slice (some ⟨g113, 0, none⟩) (n0_c3_1 + 1) cap114) (j := 1) (news := [.slice (some ⟨g113, 0, none⟩) (n0_c3_1 + 1) cap114]) (cs' := #[.int .i64 (1 + x12), .slice (some ⟨g113, 0, none⟩) (n0_c3_1 + 1) cap114]) s120 rfl kk rfl rfl kk kk x30 kk kk (by simp) kk kk (.inl (by simp)) (fun w126 g127 x128 s129 => ?_)
   have ho130 := own_grown ho116 g127 (fun j e1 e2 => by cases e2; exact nb123 e1.symm)
   apply F.es
   have x77 := Cur.sm x77 s129 (ne2 nb0_c3_1_B (fun e9 => ne26 (Option.some.inj e9))) (in2 (fun j e => Nat.le_trans hN (World.ownsRow.lt hoj2_c3_1 j e).1) (fun j e => by cases e; exact Nat.le_trans hN lo25))
   have x6 := SM.blk s129 x6 (ne2 nb0_c3_1_b2 (fun e9 => ne27 (Option.some.inj e9)))
   have x94 := SM.blk s129 x94 (ne2 nb90 (fun e9 => ne89 (Option.some.inj e9).symm))
   have c131 := (SM.fr (B := B) c98 s129 (in2 (fun kq e => .inr (World.ownsRow.lt hoj2_c3_1 kq e).1) (fun kq e => .inr (by cases e; exact lo25))))
   exact h9 _ _ _ ⟨(ps0 ++ [(Pp.mk (d0 + 1 + x54) ja jb (1 + x72))]), d0 + 1 + x54, (some ⟨g113, 0, none⟩), (n0_c3_1 + 1), cap114, Kn.of, rfl, (sm_snoc hps (sm_mk (by omega))), (by rw [snoc_len]; omega), (⟨by omega, by omega⟩), (Cur.mono x77 (by omega)), x6, x128, ho130, nb121, nb122, nb123, c131⟩
  intro K14 h14
  refine wk fun K15 h15 => ?_
  refine W.region_plain (row := (some B)) [(0, false), (1, true)] kk ?_
  have s132 := SG.self w92 (some B)
  refine Fv (.pointer (some ⟨B, 0, none⟩)) ?_
  refine Fc [.pointer (some ⟨B, 0, none⟩), .int .i64 2] (one_any B N ((((k + 10 * i + 2) + 2) + 2) + 2) 2 _ x77 (by omega) (by omega)) ?_
  rintro e w136 ⟨b133, rfl, _, x138, g137⟩
  have s139 := SG.of_grown s132 g137 (.inl rfl)
  refine ⟨_, rfl, s139, ?_⟩
  apply F.nx
  have ho140 := own_grown ho96 g137 (fun j e1 e2 => by cases e2; exact nb0_c3_1_B e1.symm)
  rcases Bool.eq_false_or_eq_true b133 with q141 | q141
  ·rw [q141]
   apply F.es
   have x6 := Sk s139 x6 (fun e9 => ne9 (Option.some.inj e9).symm)
   have x30 := Sk s139 x30 (fun e9 => ne26 (Option.some.inj e9).symm)
   have x94 := Sk s139 x94 (fun e9 => ne87 (Option.some.inj e9).symm)
   have c142 := (SG.fr (B := B) c97 s139 (fun kq e => .inl (by cases e; rfl)))
   apply h15
   refine wp_cond_true ek ?_
   refine W.region_plain (row := (some b80)) [(0, false), (1, false), (2, true), (3, false), (4, true), (5, false), (6, true), (7, false), (8, true)] kk ?_
   have s143 := SG.self w136 (some b80)
   refine Fv (.int .i64 (d0 + 1 + x54)) ?_
   refine Fq (.pointer (some ⟨b80, 2, none⟩)) (r_field (k := 2) rfl ek kk) ?_
   refine W.slq (v := .int .i64 (i : Int)) s143 rfl (r_load rfl kk kk (eqS (blk_cell (j := 2) x94 kk))) kk rfl ?_
   apply F.nx
   refine Fq (.pointer (some ⟨b80, 1, none⟩)) (r_field (k := 1) rfl ek kk) ?_
   refine W.slq (v := .int .i64 (1 + x64)) s143 rfl (r_load rfl kk kk (eqS (blk_cell (j := 1) x94 kk))) kk rfl ?_
   apply F.nx
   refine Fq (.pointer (some ⟨b80, 3, none⟩)) (r_field (k := 3) rfl ek kk) ?_
   refine W.slq (v := .int .i64 (1 + x72)) s143 rfl (r_load rfl kk kk (eqS (blk_cell (j := 3) x94 kk))) kk rfl ?_
   apply F.nx
   refine Fq (.agg #[.int .i64 (d0 + 1 + x54), .int .i64 (i : Int), .int .i64 (1 + x64), .int .i64 (1 + x72)]) (r_build rfl (vs := [(0, .int .i64 (d0 + 1 + x54)), (1, .int .i64 (i : Int)), (2, .int .i64 (1 + x64)), (3, .int .i64 (1 + x72))]) kk kk) ?_
   refine W.ss (v := .agg #[.int .i64 (d0 + 1 + x54), .int .i64 (i : Int), .int .i64 (1 + x64), .int .i64 (1 + x72)]) (j := 0) (news := [.int .i64 (d0 + 1 + x54), .int .i64 (i : Int), .int .i64 (1 + x64), .int .i64 (1 + x72)]) (cs' := #[.int .i64 (d0 + 1 + x54), .int .i64 (i : Int), .int .i64 (1 + x64), .int .i64 (1 + x72)]) s143 rfl kk rfl rfl kk kk x94 kk kk (by simp) kk kk (.inl rfl) (fun w144 g145 x146 s147 => ?_)
   have ho148 := own_grown ho140 g145 (fun j e1 e2 => by cases e2; exact nb90 e1.symm)
   apply F.es
   have x138 := Cur.grown x138 s147 (fun e9 => ne87 (Option.some.inj e9)) (fun j e => by cases e; exact Nat.le_trans hN lo86)
   have x6 := Sk s147 x6 (fun e9 => ne88 (Option.some.inj e9))
   have x30 := Sk s147 x30 (fun e9 => ne89 (Option.some.inj e9))
   have c149 := (SG.fr (B := B) c142 s147 (fun kq e => .inr (by cases e; exact lo86)))
   exact h14 _ _ _ ⟨(i : Int), 1 + x64, Kn.of, rfl, (⟨by omega, by omega⟩), (⟨by omega, by omega⟩), (Cur.mono x138 (by omega)), x6, x30, x146, ho148, c149⟩
  rw [q141]
  apply F.es
  have x6 := Sk s139 x6 (fun e9 => ne9 (Option.some.inj e9).symm)
  have x30 := Sk s139 x30 (fun e9 => ne26 (Option.some.inj e9).symm)
  have x94 := Sk s139 x94 (fun e9 => ne87 (Option.some.inj e9).symm)
  have c150 := (SG.fr (B := B) c97 s139 (fun kq e => .inl (by cases e; rfl)))
  apply h15
  refine wp_cond_false ek ?_
  apply wp_skip
  exact h14 _ _ _ ⟨1 + x64, (i : Int), Kn.of, rfl, (⟨by omega, by omega⟩), (⟨by omega, by omega⟩), (Cur.mono x138 (by omega)), x6, x30, x94, ho140, c150⟩
 refine Fq (.bool false) (r_leq (m := (i : Int)) (n := 1 + x12) rfl ek ek (df q39)) ?_
 apply F.es
 apply h8
 refine wp_cond_false ek ?_
 refine wp_exit ?_
 apply h4
 refine wk fun K16 h16 => ?_
 refine wk fun K17 h17 => ?_
 refine W.region_plain (row := (some B)) [(0, false), (1, true), (2, false)] kk ?_
 have s151 := SG.self wl0 (some B)
 refine Fv (.pointer (some ⟨B, 0, none⟩)) ?_
 refine Fc [.pointer (some ⟨B, 0, none⟩), .int .i64 4] (pick_any B N (k + 10 * i) 4 _ x17 (by omega) (by omega)) ?_
 rintro e w155 ⟨x152, rfl, hx153, x157, g156⟩
 have s158 := SG.of_grown s151 g156 (.inl rfl)
 refine ⟨_, rfl, s158, ?_⟩
 apply F.nx
 have ho159 := own_grown ho0_c3_1 g156 (fun j e1 e2 => by cases e2; exact nb0_c3_1_B e1.symm)
 refine Fa (.int .i64 x152) ?_
 apply F.es
 have x6 := Sk s158 x6 (fun e9 => ne9 (Option.some.inj e9).symm)
 have x30 := Sk s158 x30 (fun e9 => ne26 (Option.some.inj e9).symm)
 have c160 := (SG.fr (B := B) c38 s158 (fun kq e => .inl (by cases e; rfl)))
 apply h17
 refine wp_block ?_
 refine loopK (fun am1 aa1 wl1 => ∃ (z : Int) (d1 : Int) (ps1 : List Pp) (A1_c3_1 : Option Addr) (n1_c3_1 : Nat) (c1_c3_1 : Nat) , Kn aa1 [(0, .pointer (some ⟨B, 0, none⟩)), (2, .pointer (some ⟨b2, 0, none⟩)), (3, .pointer (some ⟨b19, 0, none⟩)), (4, .int .i64 d1), (7, .int .i64 z)] 97 ∧ (am1 = z.toNat) ∧ (z ≤ 3) ∧ (0 ≤ d1 ∧ d1 ≤ 40 + 4 * (4 - z)) ∧ (∀ p, p ∈ ps1 → smP p) ∧ (ps1.length ≤ 10) ∧ (Cur wl1 B N (k + 200 + 10 * (4 - z.toNat))) ∧ (wl1.heap[b2]? = some (.cells #[.int .i64 0, .slice none 0 0] 24 (0, 0))) ∧ (wl1.heap[b19]? = some (.cells #[.int .i64 (1 + x12), .slice A1_c3_1 n1_c3_1 c1_c3_1] 24 (0, 0))) ∧ (wl1.ownsRow w.heap.size 38 4 (.slice A1_c3_1 n1_c3_1 c1_c3_1) n1_c3_1 (pipesV ps1)) ∧ (Nb B (.slice A1_c3_1 n1_c3_1 c1_c3_1)) ∧ (Nb b2 (.slice A1_c3_1 n1_c3_1 c1_c3_1)) ∧ (Nb b19 (.slice A1_c3_1 n1_c3_1 c1_c3_1)) ∧ (w.grownBy wl1 (some B))) (x152.toNat) ?_ ?_
 ·exact ⟨x152, d0, ps0, A0_c3_1, n0_c3_1, c0_c3_1, Kn.of, rfl, (by omega), (⟨by omega, by omega⟩), hps, (by omega), (Cur.mono x157 (by omega)), x6, x30, ho159, nb0_c3_1_B, nb0_c3_1_b2, nb0_c3_1_b19, c160⟩
 rintro am1 aa1 wl1 K18 h18 ⟨z, d1, ps1, A1_c3_1, n1_c3_1, c1_c3_1, ⟨U1, rfl⟩, rfl, hz, hd1, hps1, hln1, x157, x6, x30, ho1_c3_1, nb1_c3_1_B, nb1_c3_1_b2, nb1_c3_1_b19, c161⟩
 have hl19 := rd_pipes_len (own_rd ho1_c3_1)
 refine wk fun K19 h19 => ?_
 refine wk fun K20 h20 => ?_
 refine Rq 13 ?_
 refine Fv (.int .i64 z) ?_
 by_cases q162 : (z : Int) > (0 : Int)
 ·refine Fq (.bool true) (r_gtr (m := z) (n := 0) rfl ek ek (dt q162)) ?_
  refine Fv (.bool true) ?_
  refine Fq (.pointer (some ⟨b19, 0, none⟩)) (r_field0 rfl ek kk) ?_
  refine Fl (.int .i64 (1 + x12)) (eqS (blk_cell (j := 0) x30 kk)) ?_
  by_cases q163 : (1 + x12 : Int) > (1 : Int)
  ·refine Fq (.bool true) (r_gtr (m := 1 + x12) (n := 1) rfl ek ek (dt q163)) ?_
   refine Fq (.bool true) (r_pick (b := true) rfl ek ek) ?_
   refine Fv (.bool true) ?_
   refine Fq (.pointer (some ⟨b19, 1, none⟩)) (r_field (k := 1) rfl ek kk) ?_
   refine Fl (.slice A1_c3_1 n1_c3_1 c1_c3_1) (eqS (blk_cell (j := 1) x30 kk)) ?_
   refine Fq (.int .i64 (n1_c3_1 : Int)) (r_len (A := A1_c3_1) (n := n1_c3_1) (c := c1_c3_1) rfl ek kk) ?_
   by_cases q164 : ((n1_c3_1 : Int) : Int) < (10 : Int)
   ·refine Fq (.bool true) (r_lss (m := (n1_c3_1 : Int)) (n := 10) rfl ek ek (dt q164)) ?_
    refine Fq (.bool true) (r_pick (b := true) rfl ek ek) ?_
    apply F.es
    apply h20
    refine wp_cond_true ek ?_
    apply wp_skip
    apply h19
    refine joinK (fun amj3 aaj3 wlj3 => ∃ (psj : List Pp) (dj : Int) (Aj3_c3_1 : Option Addr) (nj3_c3_1 : Nat) (cj3_c3_1 : Nat) , Kn aaj3 [(0, .pointer (some ⟨B, 0, none⟩)), (2, .pointer (some ⟨b2, 0, none⟩)), (3, .pointer (some ⟨b19, 0, none⟩)), (4, .int .i64 dj), (7, .int .i64 z), (67, .bool true)] 97 ∧ (amj3 = 0) ∧ (∀ p, p ∈ psj → smP p) ∧ (psj.length ≤ 10) ∧ (0 ≤ dj ∧ dj ≤ d1 + 4) ∧ (Cur wlj3 B N ((k + 200 + 10 * (4 - z.toNat) + 6))) ∧ (wlj3.heap[b2]? = some (.cells #[.int .i64 0, .slice none 0 0] 24 (0, 0))) ∧ (wlj3.heap[b19]? = some (.cells #[.int .i64 (1 + x12), .slice Aj3_c3_1 nj3_c3_1 cj3_c3_1] 24 (0, 0))) ∧ (wlj3.ownsRow w.heap.size 38 4 (.slice Aj3_c3_1 nj3_c3_1 cj3_c3_1) nj3_c3_1 (pipesV psj)) ∧ (Nb B (.slice Aj3_c3_1 nj3_c3_1 cj3_c3_1)) ∧ (Nb b2 (.slice Aj3_c3_1 nj3_c3_1 cj3_c3_1)) ∧ (Nb b19 (.slice Aj3_c3_1 nj3_c3_1 cj3_c3_1)) ∧ (w.grownBy wlj3 (some B))) ?_ ?_
    ·rintro amj3 aaj3 wlj3 ⟨psj, dj, Aj3_c3_1, nj3_c3_1, cj3_c3_1, ⟨Uj3, rfl⟩, rfl, hpsj, hlpsj, hdpsj, x157, x6, x30, hoj3_c3_1, nbj3_c3_1_B, nbj3_c3_1_b2, nbj3_c3_1_b19, c165⟩
     refine Rq 3 ?_
     refine Fv (.int .i64 z) ?_
     refine Fq (.int .i64 (z - 1)) (r_sub (m := z) (n := 1) (z := z - 1) rfl ek ek (rfl) (by omega)) ?_
     refine Fa (.int .i64 (z - 1)) ?_
     apply F.es
     exact h18 _ _ _ (by omega : ((z - 1).toNat) < _) ⟨z - 1, dj, psj, Aj3_c3_1, nj3_c3_1, cj3_c3_1, Kn.of, rfl, (by omega), (⟨by omega, by omega⟩), hpsj, (by omega), (Cur.mono x157 (by omega)), x6, x30, hoj3_c3_1, nbj3_c3_1_B, nbj3_c3_1_b2, nbj3_c3_1_b19, c165⟩
    intro K21 h21
    refine wp_block ?_
    refine wk fun K22 h22 => ?_
    refine W.region_plain (row := (some B)) [(0, false), (1, false), (2, false), (3, true), (4, false), (5, false)] kk ?_
    have s166 := SG.self wl1 (some B)
    refine Fv (.int .i64 d1) ?_
    refine Fq (.int .i64 (d1 + 1)) (r_add (m := d1) (n := 1) (z := d1 + 1) rfl ek ek (rfl) (by omega)) ?_
    refine Fv (.pointer (some ⟨B, 0, none⟩)) ?_
    refine Fc [.pointer (some ⟨B, 0, none⟩), .int .i64 3] (pick_any B N (k + 200 + 10 * (4 - z.toNat)) 3 _ x157 (by omega) (by omega)) ?_
    rintro e w170 ⟨x167, rfl, hx168, x172, g171⟩
    have s173 := SG.of_grown s166 g171 (.inl rfl)
    refine ⟨_, rfl, s173, ?_⟩
    apply F.nx
    have ho174 := own_grown ho1_c3_1 g171 (fun j e1 e2 => by cases e2; exact nb1_c3_1_B e1.symm)
    refine Fq (.int .i64 (d1 + 1 + x167)) (r_add (m := d1 + 1) (n := x167) (z := d1 + 1 + x167) rfl ek ek (rfl) (by omega)) ?_
    refine Fa (.int .i64 (d1 + 1 + x167)) ?_
    apply F.es
    have x6 := Sk s173 x6 (fun e9 => ne9 (Option.some.inj e9).symm)
    have x30 := Sk s173 x30 (fun e9 => ne26 (Option.some.inj e9).symm)
    have c175 := (SG.fr (B := B) c161 s173 (fun kq e => .inl (by cases e; rfl)))
    apply h22
    refine wk fun K23 h23 => ?_
    refine W.region_plain (row := (some B)) [(0, false), (1, false), (2, false), (3, true), (4, false), (5, false)] kk ?_
    have s176 := SG.self w170 (some B)
    refine Fv (.pointer (some ⟨B, 0, none⟩)) ?_
    refine Fq (.pointer (some ⟨b19, 0, none⟩)) (r_field0 rfl ek kk) ?_
    refine Fl (.int .i64 (1 + x12)) (sgS (blk_cell (j := 0) x30 kk) (fun e9 => ne26 (Option.some.inj e9).symm)) ?_
    refine Fc [.pointer (some ⟨B, 0, none⟩), .int .i64 (1 + x12)] (pick_any B N (k + 200 + 10 * (4 - z.toNat) + 2) (1 + x12) _ x172 (by omega) (by omega)) ?_
    rintro e w180 ⟨x177, rfl, hx178, x182, g181⟩
    have s183 := SG.of_grown s176 g181 (.inl rfl)
    refine ⟨_, rfl, s183, ?_⟩
    apply F.nx
    have ho184 := own_grown ho174 g181 (fun j e1 e2 => by cases e2; exact nb1_c3_1_B e1.symm)
    refine Fq (.int .i64 (1 + x177)) (r_add (m := 1) (n := x177) (z := 1 + x177) rfl ek ek (rfl) (by omega)) ?_
    refine Fa (.int .i64 (1 + x177)) ?_
    apply F.es
    have x6 := Sk s183 x6 (fun e9 => ne9 (Option.some.inj e9).symm)
    have x30 := Sk s183 x30 (fun e9 => ne26 (Option.some.inj e9).symm)
    have c185 := (SG.fr (B := B) c175 s183 (fun kq e => .inl (by cases e; rfl)))
    apply h23
    refine M.region_sch (row := [(some B), (Value.ownBlock (.slice A1_c3_1 n1_c3_1 c1_c3_1)), (some b19)]) (Sch.app [(0, false), (2, false), (3, false), (4, false), (5, false), (9, false)] (.br3 1 6 10 (Sch.app [] (.br 6 10 (Sch.of [(7, false), (8, false), (10, true), (11, false), (12, false), (13, true), (14, true), (15, false), (16, true)]) (Sch.of [(11, false), (6, true), (7, false), (8, false), (12, false), (13, true), (14, true), (15, false), (16, true)]))) (Sch.app [(7, false), (8, false)] (.br 1 10 (Sch.of [(10, true), (11, false), (12, false), (13, true), (14, true), (15, false), (16, true)]) (Sch.app [(11, false), (12, false)] (.br 1 13 (Sch.of [(13, true), (14, true), (15, false), (16, true)]) (Sch.of [(1, true), (14, true), (15, false), (16, true)]))))) (Sch.app [(11, false)] (.br 1 6 (Sch.of [(6, true), (7, false), (8, false), (12, false), (13, true), (14, true), (15, false), (16, true)]) (Sch.app [(7, false), (8, false), (12, false)] (.br 1 13 (Sch.of [(13, true), (14, true), (15, false), (16, true)]) (Sch.of [(1, true), (14, true), (15, false), (16, true)]))))))) kk kk (fun _ d _ _ _ h => by cases d <;> exact h) kk (fun w186 e187 s188 => ?_)
    have ho189 := own_heap ho184 e187
    have x190 := Cur.heap x182 e187
    have x191 := (heap_same e187 x30)
    refine Fq (.pointer (some ⟨b19, 1, none⟩)) (r_field (k := 1) rfl ek kk) ?_
    refine Fv (.int .i64 (d1 + 1 + x167)) ?_
    refine Fv (.int .i64 (1 + x177)) ?_
    refine Fv (.int .i64 (1 + x177)) ?_
    refine Fq (.pointer (some ⟨b19, 0, none⟩)) (r_field0 rfl ek kk) ?_
    refine Fv (.pointer (some ⟨B, 0, none⟩)) ?_
    refine W.sbr3 ?_ ?_ ?_
    ·refine W.slq (v := .slice A1_c3_1 n1_c3_1 c1_c3_1) s188 rfl (r_load rfl kk kk (eqS (blk_cell (j := 1) x191 kk))) kk rfl ?_
     apply F.nx
     refine W.sbr ?_ ?_
     ·refine W.slq (v := .int .i64 (1 + x12)) s188 rfl (r_load rfl kk kk (eqS (blk_cell (j := 0) x191 kk))) kk rfl ?_
      apply F.nx
      have hr1 := Int.emod_nonneg (1 + x177) (show (1 + x12) ≠ 0 by omega)
      have hr2 := Int.emod_lt_of_pos (1 + x177) (show 0 < (1 + x12) by omega)
      refine Fq (.int .i64 ((1 + x177) % (1 + x12))) (r_remK (k := .i64) (m := 1 + x177) (n := 1 + x12) (z := ((1 + x177) % (1 + x12))) rfl ek ek (by omega) (Int.tmod_eq_emod_of_nonneg (by omega))) ?_
      refine Fq (.int .i64 (1 + ((1 + x177) % (1 + x12)))) (r_add (m := 1) (n := ((1 + x177) % (1 + x12))) (z := 1 + ((1 + x177) % (1 + x12))) rfl ek ek (rfl) (by omega)) ?_
      refine Fc [.pointer (some ⟨B, 0, none⟩), .int .i64 9] (pick_any B N ((k + 200 + 10 * (4 - z.toNat) + 2) + 2) 9 _ x190 (by omega) (by omega)) ?_
      rintro e w195 ⟨x192, rfl, hx193, x197, g196⟩
      have s198 := SM.of_grown s188 g196 (.inl (by simp))
      refine ⟨_, rfl, s198, ?_⟩
      apply F.nx
      have x191 := (g196.block _ (blk_lt x191) (fun e9 => ne26 (Option.some.inj e9).symm)).trans x191
      have ho199 := own_grown ho189 g196 (fun j e1 e2 => by cases e2; exact nb1_c3_1_B e1.symm)
      refine Fq (.int .i64 (1 + x192)) (r_add (m := 1) (n := x192) (z := 1 + x192) rfl ek ek (rfl) (by omega)) ?_
      refine Fq (.agg #[.int .i64 (d1 + 1 + x167), .int .i64 (1 + x177), .int .i64 (1 + ((1 + x177) % (1 + x12))), .int .i64 (1 + x192)]) (r_build rfl (vs := [(0, .int .i64 (d1 + 1 + x167)), (1, .int .i64 (1 + x177)), (2, .int .i64 (1 + ((1 + x177) % (1 + x12)))), (3, .int .i64 (1 + x192))]) kk kk) ?_
      refine M.sn (fun b => .slice (some ⟨b, 0, none⟩) 1 1) #[.int .i64 (d1 + 1 + x167), .int .i64 (1 + x177), .int .i64 (1 + ((1 + x177) % (1 + x12))), .int .i64 (1 + x192)] 38 s198 rfl kk rfl (fun _ => by kernel_rfl) (fun b200 w201 hb202 k203 x204 s205 => ?_)
      apply F.nx
      have lo206 : w.heap.size ≤ b200 := Nl ((SM.fr (B := B) c185 s198 (in3 (fun kq e => .inl (by cases e; rfl)) (fun kq e => .inr (World.ownsRow.lt ho184 kq e).1) (fun kq e => .inr (by cases e; exact lo25))))).size (Nat.le_of_eq hb202)
      have x197 := Cur.below x197 k203
      have x191 := (k203.block _ (blk_lt x191)).trans x191
      have ho211 := own_kept ho199 k203
      refine M.sap (e := 38) (size := 4) (base := w.heap.size) (m := 1) (v := .slice A1_c3_1 n1_c3_1 c1_c3_1) (c := 1) s205 rfl rfl rfl rfl kk kk kk ho211 x204 kk kk (by omega) (by omega) (by have := ((SM.fr (B := B) c185 s205 (in3 (fun kq e => .inl (by cases e; rfl)) (fun kq e => .inr (World.ownsRow.lt ho184 kq e).1) (fun kq e => .inr (by cases e; exact lo25))))).size; omega) (.inl (by simp)) (fun g212 cap213 w214 ho215 hg216 hat217 hlt218 s219 => ?_)
      apply F.nx
      have nb220 : Nb B (.slice (some ⟨g212, 0, none⟩) (n1_c3_1 + 1) cap213) := nb_app nb1_c3_1_B (Cur.lt x197) hat217
      have x197 := Cur.grown x197 hg216 nb1_c3_1_B (fun j e => Nat.le_trans hN (World.ownsRow.lt ho211 j e).1)
      have nb221 : Nb b2 (.slice (some ⟨g212, 0, none⟩) (n1_c3_1 + 1) cap213) := nb_app nb1_c3_1_b2 (Nat.lt_of_lt_of_le (blk_lt x6) (s205).size) hat217
      have nb222 : Nb b19 (.slice (some ⟨g212, 0, none⟩) (n1_c3_1 + 1) cap213) := nb_app nb1_c3_1_b19 (blk_lt x191) hat217
      have x191 := (hg216.block _ (blk_lt x191) nb1_c3_1_b19).trans x191
      have ho215 := own_snocP (x := (Pp.mk (d1 + 1 + x167) (1 + x177) (1 + ((1 + x177) % (1 + x12))) (1 + x192))) ho215
      refine Fq (.pointer (some ⟨b19, 1, none⟩)) (r_field (k := 1) rfl ek kk) ?_
      refine M.ss (v := .slice (some ⟨g212, 0, none⟩) (n1_c3_1 + 1) cap213) (j := 1) (news := [.slice (some ⟨g212, 0, none⟩) (n1_c3_1 + 1) cap213]) (cs' := #[.int .i64 (1 + x12), .slice (some ⟨g212, 0, none⟩) (n1_c3_1 + 1) cap213]) s219 rfl kk rfl rfl kk kk x191 kk kk (by simp) kk kk (.inl (by simp)) (fun w224 g225 x226 s227 => ?_)
      have x197 := Cur.grown x197 g225 (fun e9 => ne26 (Option.some.inj e9)) (fun j e => by cases e; exact Nat.le_trans hN lo25)
      have ho228 := own_grown ho215 g225 (fun j e1 e2 => by cases e2; exact nb222 e1.symm)
      apply F.es
      have x6 := SM.blk s227 x6 (ne3 (fun e9 => ne9 (Option.some.inj e9).symm) nb1_c3_1_b2 (fun e9 => ne27 (Option.some.inj e9)))
      have c229 := (SM.fr (B := B) c185 s227 (in3 (fun kq e => .inl (by cases e; rfl)) (fun kq e => .inr (World.ownsRow.lt ho184 kq e).1) (fun kq e => .inr (by cases e; exact lo25))))
      exact h21 _ _ _ ⟨(ps1 ++ [(Pp.mk (d1 + 1 + x167) (1 + x177) (1 + ((1 + x177) % (1 + x12))) (1 + x192))]), d1 + 1 + x167, (some ⟨g212, 0, none⟩), (n1_c3_1 + 1), cap213, Kn.of, rfl, (sm_snoc hps1 (sm_mk (by omega))), (by rw [snoc_len]; omega), (⟨by omega, by omega⟩), (Cur.mono x197 (by omega)), x6, x226, ho228, nb220, nb221, nb222, c229⟩
     refine Fc [.pointer (some ⟨B, 0, none⟩), .int .i64 9] (pick_any B N ((k + 200 + 10 * (4 - z.toNat) + 2) + 2) 9 _ x190 (by omega) (by omega)) ?_
     rintro e w233 ⟨x230, rfl, hx231, x235, g234⟩
     have s236 := SM.of_grown s188 g234 (.inl (by simp))
     refine ⟨_, rfl, s236, ?_⟩
     apply F.nx
     have x191 := (g234.block _ (blk_lt x191) (fun e9 => ne26 (Option.some.inj e9).symm)).trans x191
     have ho237 := own_grown ho189 g234 (fun j e1 e2 => by cases e2; exact nb1_c3_1_B e1.symm)
     refine Fq (.int .i64 (1 + x230)) (r_add (m := 1) (n := x230) (z := 1 + x230) rfl ek ek (rfl) (by omega)) ?_
     refine W.slq (v := .int .i64 (1 + x12)) s236 rfl (r_load rfl kk kk (eqS (blk_cell (j := 0) x191 kk))) kk rfl ?_
     apply F.nx
     have hr1 := Int.emod_nonneg (1 + x177) (show (1 + x12) ≠ 0 by omega)
     have hr2 := Int.emod_lt_of_pos (1 + x177) (show 0 < (1 + x12) by omega)
     refine Fq (.int .i64 ((1 + x177) % (1 + x12))) (r_remK (k := .i64) (m := 1 + x177) (n := 1 + x12) (z := ((1 + x177) % (1 + x12))) rfl ek ek (by omega) (Int.tmod_eq_emod_of_nonneg (by omega))) ?_
     refine Fq (.int .i64 (1 + ((1 + x177) % (1 + x12)))) (r_add (m := 1) (n := ((1 + x177) % (1 + x12))) (z := 1 + ((1 + x177) % (1 + x12))) rfl ek ek (rfl) (by omega)) ?_
     refine Fq (.agg #[.int .i64 (d1 + 1 + x167), .int .i64 (1 + x177), .int .i64 (1 + ((1 + x177) % (1 + x12))), .int .i64 (1 + x230)]) (r_build rfl (vs := [(0, .int .i64 (d1 + 1 + x167)), (1, .int .i64 (1 + x177)), (2, .int .i64 (1 + ((1 + x177) % (1 + x12)))), (3, .int .i64 (1 + x230))]) kk kk) ?_
     refine M.sn (fun b => .slice (some ⟨b, 0, none⟩) 1 1) #[.int .i64 (d1 + 1 + x167), .int .i64 (1 + x177), .int .i64 (1 + ((1 + x177) % (1 + x12))), .int .i64 (1 + x230)] 38 s236 rfl kk rfl (fun _ => by kernel_rfl) (fun b238 w239 hb240 k241 x242 s243 => ?_)
     apply F.nx
     have lo244 : w.heap.size ≤ b238 := Nl ((SM.fr (B := B) c185 s236 (in3 (fun kq e => .inl (by cases e; rfl)) (fun kq e => .inr (World.ownsRow.lt ho184 kq e).1) (fun kq e => .inr (by cases e; exact lo25))))).size (Nat.le_of_eq hb240)
     have x235 := Cur.below x235 k241
     have x191 := (k241.block _ (blk_lt x191)).trans x191
     have ho249 := own_kept ho237 k241
     refine M.sap (e := 38) (size := 4) (base := w.heap.size) (m := 1) (v := .slice A1_c3_1 n1_c3_1 c1_c3_1) (c := 1) s243 rfl rfl rfl rfl kk kk kk ho249 x242 kk kk (by omega) (by omega) (by have := ((SM.fr (B := B) c185 s243 (in3 (fun kq e => .inl (by cases e; rfl)) (fun kq e => .inr (World.ownsRow.lt ho184 kq e).1) (fun kq e => .inr (by cases e; exact lo25))))).size; omega) (.inl (by simp)) (fun g250 cap251 w252 ho253 hg254 hat255 hlt256 s257 => ?_)
     apply F.nx
     have nb258 : Nb B (.slice (some ⟨g250, 0, none⟩) (n1_c3_1 + 1) cap251) := nb_app nb1_c3_1_B (Cur.lt x235) hat255
     have x235 := Cur.grown x235 hg254 nb1_c3_1_B (fun j e => Nat.le_trans hN (World.ownsRow.lt ho249 j e).1)
     have nb259 : Nb b2 (.slice (some ⟨g250, 0, none⟩) (n1_c3_1 + 1) cap251) := nb_app nb1_c3_1_b2 (Nat.lt_of_lt_of_le (blk_lt x6) (s243).size) hat255
     have nb260 : Nb b19 (.slice (some ⟨g250, 0, none⟩) (n1_c3_1 + 1) cap251) := nb_app nb1_c3_1_b19 (blk_lt x191) hat255
     have x191 := (hg254.block _ (blk_lt x191) nb1_c3_1_b19).trans x191
     have ho253 := own_snocP (x := (Pp.mk (d1 + 1 + x167) (1 + x177) (1 + ((1 + x177) % (1 + x12))) (1 + x230))) ho253
     refine Fq (.pointer (some ⟨b19, 1, none⟩)) (r_field (k := 1) rfl ek kk) ?_
     refine M.ss (v := .slice (some ⟨g250, 0, none⟩) (n1_c3_1 + 1) cap251) (j := 1) (news := [.slice (some ⟨g250, 0, none⟩) (n1_c3_1 + 1) cap251]) (cs' := #[.int .i64 (1 + x12), .slice (some ⟨g250, 0, none⟩) (n1_c3_1 + 1) cap251]) s257 rfl kk rfl rfl kk kk x191 kk kk (by simp) kk kk (.inl (by simp)) (fun w262 g263 x264 s265 => ?_)
     have x235 := Cur.grown x235 g263 (fun e9 => ne26 (Option.some.inj e9)) (fun j e => by cases e; exact Nat.le_trans hN lo25)
     have ho266 := own_grown ho253 g263 (fun j e1 e2 => by cases e2; exact nb260 e1.symm)
     apply F.es
     have x6 := SM.blk s265 x6 (ne3 (fun e9 => ne9 (Option.some.inj e9).symm) nb1_c3_1_b2 (fun e9 => ne27 (Option.some.inj e9)))
     have c267 := (SM.fr (B := B) c185 s265 (in3 (fun kq e => .inl (by cases e; rfl)) (fun kq e => .inr (World.ownsRow.lt ho184 kq e).1) (fun kq e => .inr (by cases e; exact lo25))))
     exact h21 _ _ _ ⟨(ps1 ++ [(Pp.mk (d1 + 1 + x167) (1 + x177) (1 + ((1 + x177) % (1 + x12))) (1 + x230))]), d1 + 1 + x167, (some ⟨g250, 0, none⟩), (n1_c3_1 + 1), cap251, Kn.of, rfl, (sm_snoc hps1 (sm_mk (by omega))), (by rw [snoc_len]; omega), (⟨by omega, by omega⟩), (Cur.mono x235 (by omega)), x6, x264, ho266, nb258, nb259, nb260, c267⟩
    ·refine W.slq (v := .int .i64 (1 + x12)) s188 rfl (r_load rfl kk kk (eqS (blk_cell (j := 0) x191 kk))) kk rfl ?_
     apply F.nx
     have hr1 := Int.emod_nonneg (1 + x177) (show (1 + x12) ≠ 0 by omega)
     have hr2 := Int.emod_lt_of_pos (1 + x177) (show 0 < (1 + x12) by omega)
     refine Fq (.int .i64 ((1 + x177) % (1 + x12))) (r_remK (k := .i64) (m := 1 + x177) (n := 1 + x12) (z := ((1 + x177) % (1 + x12))) rfl ek ek (by omega) (Int.tmod_eq_emod_of_nonneg (by omega))) ?_
     refine Fq (.int .i64 (1 + ((1 + x177) % (1 + x12)))) (r_add (m := 1) (n := ((1 + x177) % (1 + x12))) (z := 1 + ((1 + x177) % (1 + x12))) rfl ek ek (rfl) (by omega)) ?_
     refine W.sbr ?_ ?_
     ·refine W.slq (v := .slice A1_c3_1 n1_c3_1 c1_c3_1) s188 rfl (r_load rfl kk kk (eqS (blk_cell (j := 1) x191 kk))) kk rfl ?_
      apply F.nx
      refine Fc [.pointer (some ⟨B, 0, none⟩), .int .i64 9] (pick_any B N ((k + 200 + 10 * (4 - z.toNat) + 2) + 2) 9 _ x190 (by omega) (by omega)) ?_
      rintro e w271 ⟨x268, rfl, hx269, x273, g272⟩
      have s274 := SM.of_grown s188 g272 (.inl (by simp))
      refine ⟨_, rfl, s274, ?_⟩
      apply F.nx
      have x191 := (g272.block _ (blk_lt x191) (fun e9 => ne26 (Option.some.inj e9).symm)).trans x191
      have ho275 := own_grown ho189 g272 (fun j e1 e2 => by cases e2; exact nb1_c3_1_B e1.symm)
      refine Fq (.int .i64 (1 + x268)) (r_add (m := 1) (n := x268) (z := 1 + x268) rfl ek ek (rfl) (by omega)) ?_
      refine Fq (.agg #[.int .i64 (d1 + 1 + x167), .int .i64 (1 + x177), .int .i64 (1 + ((1 + x177) % (1 + x12))), .int .i64 (1 + x268)]) (r_build rfl (vs := [(0, .int .i64 (d1 + 1 + x167)), (1, .int .i64 (1 + x177)), (2, .int .i64 (1 + ((1 + x177) % (1 + x12)))), (3, .int .i64 (1 + x268))]) kk kk) ?_
      refine M.sn (fun b => .slice (some ⟨b, 0, none⟩) 1 1) #[.int .i64 (d1 + 1 + x167), .int .i64 (1 + x177), .int .i64 (1 + ((1 + x177) % (1 + x12))), .int .i64 (1 + x268)] 38 s274 rfl kk rfl (fun _ => by kernel_rfl) (fun b276 w277 hb278 k279 x280 s281 => ?_)
      apply F.nx
      have lo282 : w.heap.size ≤ b276 := Nl ((SM.fr (B := B) c185 s274 (in3 (fun kq e => .inl (by cases e; rfl)) (fun kq e => .inr (World.ownsRow.lt ho184 kq e).1) (fun kq e => .inr (by cases e; exact lo25))))).size (Nat.le_of_eq hb278)
      have x273 := Cur.below x273 k279
      have x191 := (k279.block _ (blk_lt x191)).trans x191
      have ho287 := own_kept ho275 k279
      refine M.sap (e := 38) (size := 4) (base := w.heap.size) (m := 1) (v := .slice A1_c3_1 n1_c3_1 c1_c3_1) (c := 1) s281 rfl rfl rfl rfl kk kk kk ho287 x280 kk kk (by omega) (by omega) (by have := ((SM.fr (B := B) c185 s281 (in3 (fun kq e => .inl (by cases e; rfl)) (fun kq e => .inr (World.ownsRow.lt ho184 kq e).1) (fun kq e => .inr (by cases e; exact lo25))))).size; omega) (.inl (by simp)) (fun g288 cap289 w290 ho291 hg292 hat293 hlt294 s295 => ?_)
      apply F.nx
      have nb296 : Nb B (.slice (some ⟨g288, 0, none⟩) (n1_c3_1 + 1) cap289) := nb_app nb1_c3_1_B (Cur.lt x273) hat293
      have x273 := Cur.grown x273 hg292 nb1_c3_1_B (fun j e => Nat.le_trans hN (World.ownsRow.lt ho287 j e).1)
      have nb297 : Nb b2 (.slice (some ⟨g288, 0, none⟩) (n1_c3_1 + 1) cap289) := nb_app nb1_c3_1_b2 (Nat.lt_of_lt_of_le (blk_lt x6) (s281).size) hat293
      have nb298 : Nb b19 (.slice (some ⟨g288, 0, none⟩) (n1_c3_1 + 1) cap289) := nb_app nb1_c3_1_b19 (blk_lt x191) hat293
      have x191 := (hg292.block _ (blk_lt x191) nb1_c3_1_b19).trans x191
      have ho291 := own_snocP (x := (Pp.mk (d1 + 1 + x167) (1 + x177) (1 + ((1 + x177) % (1 + x12))) (1 + x268))) ho291
      refine Fq (.pointer (some ⟨b19, 1, none⟩)) (r_field (k := 1) rfl ek kk) ?_
      refine M.ss (v := .slice (some ⟨g288, 0, none⟩) (n1_c3_1 + 1) cap289) (j := 1) (news := [.slice (some ⟨g288, 0, none⟩) (n1_c3_1 + 1) cap289]) (cs' := #[.int .i64 (1 + x12), .slice (some ⟨g288, 0, none⟩) (n1_c3_1 + 1) cap289]) s295 rfl kk rfl rfl kk kk x191 kk kk (by simp) kk kk (.inl (by simp)) (fun w300 g301 x302 s303 => ?_)
      have x273 := Cur.grown x273 g301 (fun e9 => ne26 (Option.some.inj e9)) (fun j e => by cases e; exact Nat.le_trans hN lo25)
      have ho304 := own_grown ho291 g301 (fun j e1 e2 => by cases e2; exact nb298 e1.symm)
      apply F.es
      have x6 := SM.blk s303 x6 (ne3 (fun e9 => ne9 (Option.some.inj e9).symm) nb1_c3_1_b2 (fun e9 => ne27 (Option.some.inj e9)))
      have c305 := (SM.fr (B := B) c185 s303 (in3 (fun kq e => .inl (by cases e; rfl)) (fun kq e => .inr (World.ownsRow.lt ho184 kq e).1) (fun kq e => .inr (by cases e; exact lo25))))
      exact h21 _ _ _ ⟨(ps1 ++ [(Pp.mk (d1 + 1 + x167) (1 + x177) (1 + ((1 + x177) % (1 + x12))) (1 + x268))]), d1 + 1 + x167, (some ⟨g288, 0, none⟩), (n1_c3_1 + 1), cap289, Kn.of, rfl, (sm_snoc hps1 (sm_mk (by omega))), (by rw [snoc_len]; omega), (⟨by omega, by omega⟩), (Cur.mono x273 (by omega)), x6, x302, ho304, nb296, nb297, nb298, c305⟩
     refine Fc [.pointer (some ⟨B, 0, none⟩), .int .i64 9] (pick_any B N ((k + 200 + 10 * (4 - z.toNat) + 2) + 2) 9 _ x190 (by omega) (by omega)) ?_
     rintro e w309 ⟨x306, rfl, hx307, x311, g310⟩
     have s312 := SM.of_grown s188 g310 (.inl (by simp))
     refine ⟨_, rfl, s312, ?_⟩
     apply F.nx
     have x191 := (g310.block _ (blk_lt x191) (fun e9 => ne26 (Option.some.inj e9).symm)).trans x191
     have ho313 := own_grown ho189 g310 (fun j e1 e2 => by cases e2; exact nb1_c3_1_B e1.symm)
     refine Fq (.int .i64 (1 + x306)) (r_add (m := 1) (n := x306) (z := 1 + x306) rfl ek ek (rfl) (by omega)) ?_
     refine Fq (.agg #[.int .i64 (d1 + 1 + x167), .int .i64 (1 + x177), .int .i64 (1 + ((1 + x177) % (1 + x12))), .int .i64 (1 + x306)]) (r_build rfl (vs := [(0, .int .i64 (d1 + 1 + x167)), (1, .int .i64 (1 + x177)), (2, .int .i64 (1 + ((1 + x177) % (1 + x12)))), (3, .int .i64 (1 + x306))]) kk kk) ?_
     refine W.sbr ?_ ?_
     ·refine W.slq (v := .slice A1_c3_1 n1_c3_1 c1_c3_1) s312 rfl (r_load rfl kk kk (eqS (blk_cell (j := 1) x191 kk))) kk rfl ?_
      apply F.nx
      refine M.sn (fun b => .slice (some ⟨b, 0, none⟩) 1 1) #[.int .i64 (d1 + 1 + x167), .int .i64 (1 + x177), .int .i64 (1 + ((1 + x177) % (1 + x12))), .int .i64 (1 + x306)] 38 s312 rfl kk rfl (fun _ => by kernel_rfl) (fun b314 w315 hb316 k317 x318 s319 => ?_)
      apply F.nx
      have lo320 : w.heap.size ≤ b314 := Nl ((SM.fr (B := B) c185 s312 (in3 (fun kq e => .inl (by cases e; rfl)) (fun kq e => .inr (World.ownsRow.lt ho184 kq e).1) (fun kq e => .inr (by cases e; exact lo25))))).size (Nat.le_of_eq hb316)
      have x311 := Cur.below x311 k317
      have x191 := (k317.block _ (blk_lt x191)).trans x191
      have ho325 := own_kept ho313 k317
      refine M.sap (e := 38) (size := 4) (base := w.heap.size) (m := 1) (v := .slice A1_c3_1 n1_c3_1 c1_c3_1) (c := 1) s319 rfl rfl rfl rfl kk kk kk ho325 x318 kk kk (by omega) (by omega) (by have := ((SM.fr (B := B) c185 s319 (in3 (fun kq e => .inl (by cases e; rfl)) (fun kq e => .inr (World.ownsRow.lt ho184 kq e).1) (fun kq e => .inr (by cases e; exact lo25))))).size; omega) (.inl (by simp)) (fun g326 cap327 w328 ho329 hg330 hat331 hlt332 s333 => ?_)
      apply F.nx
      have nb334 : Nb B (.slice (some ⟨g326, 0, none⟩) (n1_c3_1 + 1) cap327) := nb_app nb1_c3_1_B (Cur.lt x311) hat331
      have x311 := Cur.grown x311 hg330 nb1_c3_1_B (fun j e => Nat.le_trans hN (World.ownsRow.lt ho325 j e).1)
      have nb335 : Nb b2 (.slice (some ⟨g326, 0, none⟩) (n1_c3_1 + 1) cap327) := nb_app nb1_c3_1_b2 (Nat.lt_of_lt_of_le (blk_lt x6) (s319).size) hat331
      have nb336 : Nb b19 (.slice (some ⟨g326, 0, none⟩) (n1_c3_1 + 1) cap327) := nb_app nb1_c3_1_b19 (blk_lt x191) hat331
      have x191 := (hg330.block _ (blk_lt x191) nb1_c3_1_b19).trans x191
      have ho329 := own_snocP (x := (Pp.mk (d1 + 1 + x167) (1 + x177) (1 + ((1 + x177) % (1 + x12))) (1 + x306))) ho329
      refine Fq (.pointer (some ⟨b19, 1, none⟩)) (r_field (k := 1) rfl ek kk) ?_
      refine M.ss (v := .slice (some ⟨g326, 0, none⟩) (n1_c3_1 + 1) cap327) (j := 1) (news := [.slice (some ⟨g326, 0, none⟩) (n1_c3_1 + 1) cap327]) (cs' := #[.int .i64 (1 + x12), .slice (some ⟨g326, 0, none⟩) (n1_c3_1 + 1) cap327]) s333 rfl kk rfl rfl kk kk x191 kk kk (by simp) kk kk (.inl (by simp)) (fun w338 g339 x340 s341 => ?_)
      have x311 := Cur.grown x311 g339 (fun e9 => ne26 (Option.some.inj e9)) (fun j e => by cases e; exact Nat.le_trans hN lo25)
      have ho342 := own_grown ho329 g339 (fun j e1 e2 => by cases e2; exact nb336 e1.symm)
      apply F.es
      have x6 := SM.blk s341 x6 (ne3 (fun e9 => ne9 (Option.some.inj e9).symm) nb1_c3_1_b2 (fun e9 => ne27 (Option.some.inj e9)))
      have c343 := (SM.fr (B := B) c185 s341 (in3 (fun kq e => .inl (by cases e; rfl)) (fun kq e => .inr (World.ownsRow.lt ho184 kq e).1) (fun kq e => .inr (by cases e; exact lo25))))
      exact h21 _ _ _ ⟨(ps1 ++ [(Pp.mk (d1 + 1 + x167) (1 + x177) (1 + ((1 + x177) % (1 + x12))) (1 + x306))]), d1 + 1 + x167, (some ⟨g326, 0, none⟩), (n1_c3_1 + 1), cap327, Kn.of, rfl, (sm_snoc hps1 (sm_mk (by omega))), (by rw [snoc_len]; omega), (⟨by omega, by omega⟩), (Cur.mono x311 (by omega)), x6, x340, ho342, nb334, nb335, nb336, c343⟩
     refine M.sn (fun b => .slice (some ⟨b, 0, none⟩) 1 1) #[.int .i64 (d1 + 1 + x167), .int .i64 (1 + x177), .int .i64 (1 + ((1 + x177) % (1 + x12))), .int .i64 (1 + x306)] 38 s312 rfl kk rfl (fun _ => by kernel_rfl) (fun b344 w345 hb346 k347 x348 s349 => ?_)
     apply F.nx
     have lo350 : w.heap.size ≤ b344 := Nl ((SM.fr (B := B) c185 s312 (in3 (fun kq e => .inl (by cases e; rfl)) (fun kq e => .inr (World.ownsRow.lt ho184 kq e).1) (fun kq e => .inr (by cases e; exact lo25))))).size (Nat.le_of_eq hb346)
     have x311 := Cur.below x311 k347
     have x191 := (k347.block _ (blk_lt x191)).trans x191
     have ho355 := own_kept ho313 k347
     refine W.slq (v := .slice A1_c3_1 n1_c3_1 c1_c3_1) s349 rfl (r_load rfl kk kk (eqS (blk_cell (j := 1) x191 kk))) kk rfl ?_
     apply F.nx
     refine M.sap (e := 38) (size := 4) (base := w.heap.size) (m := 1) (v := .slice A1_c3_1 n1_c3_1 c1_c3_1) (c := 1) s349 rfl rfl rfl rfl kk kk kk ho355 x348 kk kk (by omega) (by omega) (by have := ((SM.fr (B := B) c185 s349 (in3 (fun kq e => .inl (by cases e; rfl)) (fun kq e => .inr (World.ownsRow.lt ho184 kq e).1) (fun kq e => .inr (by cases e; exact lo25))))).size; omega) (.inl (by simp)) (fun g356 cap357 w358 ho359 hg360 hat361 hlt362 s363 => ?_)
     apply F.nx
     have nb364 : Nb B (.slice (some ⟨g356, 0, none⟩) (n1_c3_1 + 1) cap357) := nb_app nb1_c3_1_B (Cur.lt x311) hat361
     have x311 := Cur.grown x311 hg360 nb1_c3_1_B (fun j e => Nat.le_trans hN (World.ownsRow.lt ho355 j e).1)
     have nb365 : Nb b2 (.slice (some ⟨g356, 0, none⟩) (n1_c3_1 + 1) cap357) := nb_app nb1_c3_1_b2 (Nat.lt_of_lt_of_le (blk_lt x6) (s349).size) hat361
     have nb366 : Nb b19 (.slice (some ⟨g356, 0, none⟩) (n1_c3_1 + 1) cap357) := nb_app nb1_c3_1_b19 (blk_lt x191) hat361
     have x191 := (hg360.block _ (blk_lt x191) nb1_c3_1_b19).trans x191
     have ho359 := own_snocP (x := (Pp.mk (d1 + 1 + x167) (1 + x177) (1 + ((1 + x177) % (1 + x12))) (1 + x306))) ho359
     refine Fq (.pointer (some ⟨b19, 1, none⟩)) (r_field (k := 1) rfl ek kk) ?_
     refine M.ss (v := .slice (some ⟨g356, 0, none⟩) (n1_c3_1 + 1) cap357) (j := 1) (news := [.slice (some ⟨g356, 0, none⟩) (n1_c3_1 + 1) cap357]) (cs' := #[.int .i64 (1 + x12), .slice (some ⟨g356, 0, none⟩) (n1_c3_1 + 1) cap357]) s363 rfl kk rfl rfl kk kk x191 kk kk (by simp) kk kk (.inl (by simp)) (fun w368 g369 x370 s371 => ?_)
     have x311 := Cur.grown x311 g369 (fun e9 => ne26 (Option.some.inj e9)) (fun j e => by cases e; exact Nat.le_trans hN lo25)
     have ho372 := own_grown ho359 g369 (fun j e1 e2 => by cases e2; exact nb366 e1.symm)
     apply F.es
     have x6 := SM.blk s371 x6 (ne3 (fun e9 => ne9 (Option.some.inj e9).symm) nb1_c3_1_b2 (fun e9 => ne27 (Option.some.inj e9)))
     have c373 := (SM.fr (B := B) c185 s371 (in3 (fun kq e => .inl (by cases e; rfl)) (fun kq e => .inr (World.ownsRow.lt ho184 kq e).1) (fun kq e => .inr (by cases e; exact lo25))))
     exact h21 _ _ _ ⟨(ps1 ++ [(Pp.mk (d1 + 1 + x167) (1 + x177) (1 + ((1 + x177) % (1 + x12))) (1 + x306))]), d1 + 1 + x167, (some ⟨g356, 0, none⟩), (n1_c3_1 + 1), cap357, Kn.of, rfl, (sm_snoc hps1 (sm_mk (by omega))), (by rw [snoc_len]; omega), (⟨by omega, by omega⟩), (Cur.mono x311 (by omega)), x6, x370, ho372, nb364, nb365, nb366, c373⟩
    refine Fc [.pointer (some ⟨B, 0, none⟩), .int .i64 9] (pick_any B N ((k + 200 + 10 * (4 - z.toNat) + 2) + 2) 9 _ x190 (by omega) (by omega)) ?_
    rintro e w377 ⟨x374, rfl, hx375, x379, g378⟩
    have s380 := SM.of_grown s188 g378 (.inl (by simp))
    refine ⟨_, rfl, s380, ?_⟩
    apply F.nx
    have x191 := (g378.block _ (blk_lt x191) (fun e9 => ne26 (Option.some.inj e9).symm)).trans x191
    have ho381 := own_grown ho189 g378 (fun j e1 e2 => by cases e2; exact nb1_c3_1_B e1.symm)
    refine Fq (.int .i64 (1 + x374)) (r_add (m := 1) (n := x374) (z := 1 + x374) rfl ek ek (rfl) (by omega)) ?_
    refine W.sbr ?_ ?_
    ·refine W.slq (v := .slice A1_c3_1 n1_c3_1 c1_c3_1) s380 rfl (r_load rfl kk kk (eqS (blk_cell (j := 1) x191 kk))) kk rfl ?_
     apply F.nx
     refine W.slq (v := .int .i64 (1 + x12)) s380 rfl (r_load rfl kk kk (eqS (blk_cell (j := 0) x191 kk))) kk rfl ?_
     apply F.nx
     have hr1 := Int.emod_nonneg (1 + x177) (show (1 + x12) ≠ 0 by omega)
     have hr2 := Int.emod_lt_of_pos (1 + x177) (show 0 < (1 + x12) by omega)
     refine Fq (.int .i64 ((1 + x177) % (1 + x12))) (r_remK (k := .i64) (m := 1 + x177) (n := 1 + x12) (z := ((1 + x177) % (1 + x12))) rfl ek ek (by omega) (Int.tmod_eq_emod_of_nonneg (by omega))) ?_
     refine Fq (.int .i64 (1 + ((1 + x177) % (1 + x12)))) (r_add (m := 1) (n := ((1 + x177) % (1 + x12))) (z := 1 + ((1 + x177) % (1 + x12))) rfl ek ek (rfl) (by omega)) ?_
     refine Fq (.agg #[.int .i64 (d1 + 1 + x167), .int .i64 (1 + x177), .int .i64 (1 + ((1 + x177) % (1 + x12))), .int .i64 (1 + x374)]) (r_build rfl (vs := [(0, .int .i64 (d1 + 1 + x167)), (1, .int .i64 (1 + x177)), (2, .int .i64 (1 + ((1 + x177) % (1 + x12)))), (3, .int .i64 (1 + x374))]) kk kk) ?_
     refine M.sn (fun b => .slice (some ⟨b, 0, none⟩) 1 1) #[.int .i64 (d1 + 1 + x167), .int .i64 (1 + x177), .int .i64 (1 + ((1 + x177) % (1 + x12))), .int .i64 (1 + x374)] 38 s380 rfl kk rfl (fun _ => by kernel_rfl) (fun b382 w383 hb384 k385 x386 s387 => ?_)
     apply F.nx
     have lo388 : w.heap.size ≤ b382 := Nl ((SM.fr (B := B) c185 s380 (in3 (fun kq e => .inl (by cases e; rfl)) (fun kq e => .inr (World.ownsRow.lt ho184 kq e).1) (fun kq e => .inr (by cases e; exact lo25))))).size (Nat.le_of_eq hb384)
     have x379 := Cur.below x379 k385
     have x191 := (k385.block _ (blk_lt x191)).trans x191
     have ho393 := own_kept ho381 k385
     refine M.sap (e := 38) (size := 4) (base := w.heap.size) (m := 1) (v := .slice A1_c3_1 n1_c3_1 c1_c3_1) (c := 1) s387 rfl rfl rfl rfl kk kk kk ho393 x386 kk kk (by omega) (by omega) (by have := ((SM.fr (B := B) c185 s387 (in3 (fun kq e => .inl (by cases e; rfl)) (fun kq e => .inr (World.ownsRow.lt ho184 kq e).1) (fun kq e => .inr (by cases e; exact lo25))))).size; omega) (.inl (by simp)) (fun g394 cap395 w396 ho397 hg398 hat399 hlt400 s401 => ?_)
     apply F.nx
     have nb402 : Nb B (.slice (some ⟨g394, 0, none⟩) (n1_c3_1 + 1) cap395) := nb_app nb1_c3_1_B (Cur.lt x379) hat399
     have x379 := Cur.grown x379 hg398 nb1_c3_1_B (fun j e => Nat.le_trans hN (World.ownsRow.lt ho393 j e).1)
     have nb403 : Nb b2 (.slice (some ⟨g394, 0, none⟩) (n1_c3_1 + 1) cap395) := nb_app nb1_c3_1_b2 (Nat.lt_of_lt_of_le (blk_lt x6) (s387).size) hat399
     have nb404 : Nb b19 (.slice (some ⟨g394, 0, none⟩) (n1_c3_1 + 1) cap395) := nb_app nb1_c3_1_b19 (blk_lt x191) hat399
     have x191 := (hg398.block _ (blk_lt x191) nb1_c3_1_b19).trans x191
     have ho397 := own_snocP (x := (Pp.mk (d1 + 1 + x167) (1 + x177) (1 + ((1 + x177) % (1 + x12))) (1 + x374))) ho397
     refine Fq (.pointer (some ⟨b19, 1, none⟩)) (r_field (k := 1) rfl ek kk) ?_
     refine M.ss (v := .slice (some ⟨g394, 0, none⟩) (n1_c3_1 + 1) cap395) (j := 1) (news := [.slice (some ⟨g394, 0, none⟩) (n1_c3_1 + 1) cap395]) (cs' := #[.int .i64 (1 + x12), .slice (some ⟨g394, 0, none⟩) (n1_c3_1 + 1) cap395]) s401 rfl kk rfl rfl kk kk x191 kk kk (by simp) kk kk (.inl (by simp)) (fun w406 g407 x408 s409 => ?_)
     have x379 := Cur.grown x379 g407 (fun e9 => ne26 (Option.some.inj e9)) (fun j e => by cases e; exact Nat.le_trans hN lo25)
     have ho410 := own_grown ho397 g407 (fun j e1 e2 => by cases e2; exact nb404 e1.symm)
     apply F.es
     have x6 := SM.blk s409 x6 (ne3 (fun e9 => ne9 (Option.some.inj e9).symm) nb1_c3_1_b2 (fun e9 => ne27 (Option.some.inj e9)))
     have c411 := (SM.fr (B := B) c185 s409 (in3 (fun kq e => .inl (by cases e; rfl)) (fun kq e => .inr (World.ownsRow.lt ho184 kq e).1) (fun kq e => .inr (by cases e; exact lo25))))
     exact h21 _ _ _ ⟨(ps1 ++ [(Pp.mk (d1 + 1 + x167) (1 + x177) (1 + ((1 + x177) % (1 + x12))) (1 + x374))]), d1 + 1 + x167, (some ⟨g394, 0, none⟩), (n1_c3_1 + 1), cap395, Kn.of, rfl, (sm_snoc hps1 (sm_mk (by omega))), (by rw [snoc_len]; omega), (⟨by omega, by omega⟩), (Cur.mono x379 (by omega)), x6, x408, ho410, nb402, nb403, nb404, c411⟩
    refine W.slq (v := .int .i64 (1 + x12)) s380 rfl (r_load rfl kk kk (eqS (blk_cell (j := 0) x191 kk))) kk rfl ?_
    apply F.nx
    have hr1 := Int.emod_nonneg (1 + x177) (show (1 + x12) ≠ 0 by omega)
    have hr2 := Int.emod_lt_of_pos (1 + x177) (show 0 < (1 + x12) by omega)
    refine Fq (.int .i64 ((1 + x177) % (1 + x12))) (r_remK (k := .i64) (m := 1 + x177) (n := 1 + x12) (z := ((1 + x177) % (1 + x12))) rfl ek ek (by omega) (Int.tmod_eq_emod_of_nonneg (by omega))) ?_
    refine Fq (.int .i64 (1 + ((1 + x177) % (1 + x12)))) (r_add (m := 1) (n := ((1 + x177) % (1 + x12))) (z := 1 + ((1 + x177) % (1 + x12))) rfl ek ek (rfl) (by omega)) ?_
    refine Fq (.agg #[.int .i64 (d1 + 1 + x167), .int .i64 (1 + x177), .int .i64 (1 + ((1 + x177) % (1 + x12))), .int .i64 (1 + x374)]) (r_build rfl (vs := [(0, .int .i64 (d1 + 1 + x167)), (1, .int .i64 (1 + x177)), (2, .int .i64 (1 + ((1 + x177) % (1 + x12)))), (3, .int .i64 (1 + x374))]) kk kk) ?_
    refine W.sbr ?_ ?_
    ·refine W.slq (v := .slice A1_c3_1 n1_c3_1 c1_c3_1) s380 rfl (r_load rfl kk kk (eqS (blk_cell (j := 1) x191 kk))) kk rfl ?_
     apply F.nx
     refine M.sn (fun b => .slice (some ⟨b, 0, none⟩) 1 1) #[.int .i64 (d1 + 1 + x167), .int .i64 (1 + x177), .int .i64 (1 + ((1 + x177) % (1 + x12))), .int .i64 (1 + x374)] 38 s380 rfl kk rfl (fun _ => by kernel_rfl) (fun b412 w413 hb414 k415 x416 s417 => ?_)
     apply F.nx
     have lo418 : w.heap.size ≤ b412 := Nl ((SM.fr (B := B) c185 s380 (in3 (fun kq e => .inl (by cases e; rfl)) (fun kq e => .inr (World.ownsRow.lt ho184 kq e).1) (fun kq e => .inr (by cases e; exact lo25))))).size (Nat.le_of_eq hb414)
     have x379 := Cur.below x379 k415
     have x191 := (k415.block _ (blk_lt x191)).trans x191
     have ho423 := own_kept ho381 k415
     refine M.sap (e := 38) (size := 4) (base := w.heap.size) (m := 1) (v := .slice A1_c3_1 n1_c3_1 c1_c3_1) (c := 1) s417 rfl rfl rfl rfl kk kk kk ho423 x416 kk kk (by omega) (by omega) (by have := ((SM.fr (B := B) c185 s417 (in3 (fun kq e => .inl (by cases e; rfl)) (fun kq e => .inr (World.ownsRow.lt ho184 kq e).1) (fun kq e => .inr (by cases e; exact lo25))))).size; omega) (.inl (by simp)) (fun g424 cap425 w426 ho427 hg428 hat429 hlt430 s431 => ?_)
     apply F.nx
     have nb432 : Nb B (.slice (some ⟨g424, 0, none⟩) (n1_c3_1 + 1) cap425) := nb_app nb1_c3_1_B (Cur.lt x379) hat429
     have x379 := Cur.grown x379 hg428 nb1_c3_1_B (fun j e => Nat.le_trans hN (World.ownsRow.lt ho423 j e).1)
     have nb433 : Nb b2 (.slice (some ⟨g424, 0, none⟩) (n1_c3_1 + 1) cap425) := nb_app nb1_c3_1_b2 (Nat.lt_of_lt_of_le (blk_lt x6) (s417).size) hat429
     have nb434 : Nb b19 (.slice (some ⟨g424, 0, none⟩) (n1_c3_1 + 1) cap425) := nb_app nb1_c3_1_b19 (blk_lt x191) hat429
     have x191 := (hg428.block _ (blk_lt x191) nb1_c3_1_b19).trans x191
     have ho427 := own_snocP (x := (Pp.mk (d1 + 1 + x167) (1 + x177) (1 + ((1 + x177) % (1 + x12))) (1 + x374))) ho427
     refine Fq (.pointer (some ⟨b19, 1, none⟩)) (r_field (k := 1) rfl ek kk) ?_
     refine M.ss (v := .slice (some ⟨g424, 0, none⟩) (n1_c3_1 + 1) cap425) (j := 1) (news := [.slice (some ⟨g424, 0, none⟩) (n1_c3_1 + 1) cap425]) (cs' := #[.int .i64 (1 + x12), .slice (some ⟨g424, 0, none⟩) (n1_c3_1 + 1) cap425]) s431 rfl kk rfl rfl kk kk x191 kk kk (by simp) kk kk (.inl (by simp)) (fun w436 g437 x438 s439 => ?_)
     have x379 := Cur.grown x379 g437 (fun e9 => ne26 (Option.some.inj e9)) (fun j e => by cases e; exact Nat.le_trans hN lo25)
     have ho440 := own_grown ho427 g437 (fun j e1 e2 => by cases e2; exact nb434 e1.symm)
     apply F.es
     have x6 := SM.blk s439 x6 (ne3 (fun e9 => ne9 (Option.some.inj e9).symm) nb1_c3_1_b2 (fun e9 => ne27 (Option.some.inj e9)))
     have c441 := (SM.fr (B := B) c185 s439 (in3 (fun kq e => .inl (by cases e; rfl)) (fun kq e => .inr (World.ownsRow.lt ho184 kq e).1) (fun kq e => .inr (by cases e; exact lo25))))
     exact h21 _ _ _ ⟨(ps1 ++ [(Pp.mk (d1 + 1 + x167) (1 + x177) (1 + ((1 + x177) % (1 + x12))) (1 + x374))]), d1 + 1 + x167, (some ⟨g424, 0, none⟩), (n1_c3_1 + 1), cap425, Kn.of, rfl, (sm_snoc hps1 (sm_mk (by omega))), (by rw [snoc_len]; omega), (⟨by omega, by omega⟩), (Cur.mono x379 (by omega)), x6, x438, ho440, nb432, nb433, nb434, c441⟩
    refine M.sn (fun b => .slice (some ⟨b, 0, none⟩) 1 1) #[.int .i64 (d1 + 1 + x167), .int .i64 (1 + x177), .int .i64 (1 + ((1 + x177) % (1 + x12))), .int .i64 (1 + x374)] 38 s380 rfl kk rfl (fun _ => by kernel_rfl) (fun b442 w443 hb444 k445 x446 s447 => ?_)
    apply F.nx
    have lo448 : w.heap.size ≤ b442 := Nl ((SM.fr (B := B) c185 s380 (in3 (fun kq e => .inl (by cases e; rfl)) (fun kq e => .inr (World.ownsRow.lt ho184 kq e).1) (fun kq e => .inr (by cases e; exact lo25))))).size (Nat.le_of_eq hb444)
    have x379 := Cur.below x379 k445
    have x191 := (k445.block _ (blk_lt x191)).trans x191
    have ho453 := own_kept ho381 k445
    refine W.slq (v := .slice A1_c3_1 n1_c3_1 c1_c3_1) s447 rfl (r_load rfl kk kk (eqS (blk_cell (j := 1) x191 kk))) kk rfl ?_
    apply F.nx
    refine M.sap (e := 38) (size := 4) (base := w.heap.size) (m := 1) (v := .slice A1_c3_1 n1_c3_1 c1_c3_1) (c := 1) s447 rfl rfl rfl rfl kk kk kk ho453 x446 kk kk (by omega) (by omega) (by have := ((SM.fr (B := B) c185 s447 (in3 (fun kq e => .inl (by cases e; rfl)) (fun kq e => .inr (World.ownsRow.lt ho184 kq e).1) (fun kq e => .inr (by cases e; exact lo25))))).size; omega) (.inl (by simp)) (fun g454 cap455 w456 ho457 hg458 hat459 hlt460 s461 => ?_)
    apply F.nx
    have nb462 : Nb B (.slice (some ⟨g454, 0, none⟩) (n1_c3_1 + 1) cap455) := nb_app nb1_c3_1_B (Cur.lt x379) hat459
    have x379 := Cur.grown x379 hg458 nb1_c3_1_B (fun j e => Nat.le_trans hN (World.ownsRow.lt ho453 j e).1)
    have nb463 : Nb b2 (.slice (some ⟨g454, 0, none⟩) (n1_c3_1 + 1) cap455) := nb_app nb1_c3_1_b2 (Nat.lt_of_lt_of_le (blk_lt x6) (s447).size) hat459
    have nb464 : Nb b19 (.slice (some ⟨g454, 0, none⟩) (n1_c3_1 + 1) cap455) := nb_app nb1_c3_1_b19 (blk_lt x191) hat459
    have x191 := (hg458.block _ (blk_lt x191) nb1_c3_1_b19).trans x191
    have ho457 := own_snocP (x := (Pp.mk (d1 + 1 + x167) (1 + x177) (1 + ((1 + x177) % (1 + x12))) (1 + x374))) ho457
    refine Fq (.pointer (some ⟨b19, 1, none⟩)) (r_field (k := 1) rfl ek kk) ?_
    refine M.ss (v := .slice (some ⟨g454, 0, none⟩) (n1_c3_1 + 1) cap455) (j := 1) (news := [.slice (some ⟨g454, 0, none⟩) (n1_c3_1 + 1) cap455]) (cs' := #[.int .i64 (1 + x12), .slice (some ⟨g454, 0, none⟩) (n1_c3_1 + 1) cap455]) s461 rfl kk rfl rfl kk kk x191 kk kk (by simp) kk kk (.inl (by simp)) (fun w466 g467 x468 s469 => ?_)
    have x379 := Cur.grown x379 g467 (fun e9 => ne26 (Option.some.inj e9)) (fun j e => by cases e; exact Nat.le_trans hN lo25)
    have ho470 := own_grown ho457 g467 (fun j e1 e2 => by cases e2; exact nb464 e1.symm)
    apply F.es
    have x6 := SM.blk s469 x6 (ne3 (fun e9 => ne9 (Option.some.inj e9).symm) nb1_c3_1_b2 (fun e9 => ne27 (Option.some.inj e9)))
    have c471 := (SM.fr (B := B) c185 s469 (in3 (fun kq e => .inl (by cases e; rfl)) (fun kq e => .inr (World.ownsRow.lt ho184 kq e).1) (fun kq e => .inr (by cases e; exact lo25))))
    exact h21 _ _ _ ⟨(ps1 ++ [(Pp.mk (d1 + 1 + x167) (1 + x177) (1 + ((1 + x177) % (1 + x12))) (1 + x374))]), d1 + 1 + x167, (some ⟨g454, 0, none⟩), (n1_c3_1 + 1), cap455, Kn.of, rfl, (sm_snoc hps1 (sm_mk (by omega))), (by rw [snoc_len]; omega), (⟨by omega, by omega⟩), (Cur.mono x379 (by omega)), x6, x468, ho470, nb462, nb463, nb464, c471⟩
   refine Fq (.bool false) (r_lss (m := (n1_c3_1 : Int)) (n := 10) rfl ek ek (df q164)) ?_
   refine Fq (.bool false) (r_pick (b := true) rfl ek ek) ?_
   apply F.es
   apply h20
   refine wp_cond_false ek ?_
   refine wp_exit ?_
   apply h16
   refine wk fun K24 h24 => ?_
   refine W.region_plain (row := (some b2)) [(0, false), (1, true)] kk ?_
   have s472 := SG.self wl1 (some b2)
   refine Fq (.agg #[.int .i64 (1 + x12), .slice A1_c3_1 n1_c3_1 c1_c3_1]) (r_load2 rfl ek kk kk (sgS (blk_cell (j := 0) x30 kk) (fun e9 => ne27 (Option.some.inj e9).symm)) (sgS (blk_cell (j := 1) x30 kk) (fun e9 => ne27 (Option.some.inj e9).symm))) ?_
   refine W.ss (v := .agg #[.int .i64 (1 + x12), .slice A1_c3_1 n1_c3_1 c1_c3_1]) (j := 0) (news := [.int .i64 (1 + x12), .slice A1_c3_1 n1_c3_1 c1_c3_1]) (cs' := #[.int .i64 (1 + x12), .slice A1_c3_1 n1_c3_1 c1_c3_1]) s472 rfl kk rfl rfl kk kk x6 kk kk (by simp) kk kk (.inl rfl) (fun w473 g474 x475 s476 => ?_)
   have ho477 := own_grown ho1_c3_1 g474 (fun j e1 e2 => by cases e2; exact nb1_c3_1_b2 e1.symm)
   apply F.es
   have x157 := Cur.grown x157 s476 (fun e9 => ne9 (Option.some.inj e9)) (fun j e => by cases e; exact Nat.le_trans hN lo8)
   have x30 := Sk s476 x30 (fun e9 => ne27 (Option.some.inj e9).symm)
   have c478 := (SG.fr (B := B) c161 s476 (fun kq e => .inr (by cases e; exact lo8)))
   apply h24
   refine wp_ret ?_
   try simp only [Exit.then]
   refine retC rfl rfl kk kk x475 ?_
   exact ⟨_, _, _, _, ps1, rfl, ⟨ho477, ⟨by omega, by omega⟩, by omega, hps1⟩, Cur.mono x157 (by omega), c478⟩
  refine Fq (.bool false) (r_gtr (m := 1 + x12) (n := 1) rfl ek ek (df q163)) ?_
  refine Fq (.bool false) (r_pick (b := true) rfl ek ek) ?_
  refine Fv (.bool false) ?_
  refine Fs rfl ?_
  refine Fs rfl ?_
  refine Fs rfl ?_
  refine Fs rfl ?_
  refine Fq (.bool false) (r_pick (b := false) rfl ek ek) ?_
  apply F.es
  apply h20
  refine wp_cond_false ek ?_
  refine wp_exit ?_
  apply h16
  refine wk fun K25 h25 => ?_
  refine W.region_plain (row := (some b2)) [(0, false), (1, true)] kk ?_
  have s479 := SG.self wl1 (some b2)
  refine Fq (.agg #[.int .i64 (1 + x12), .slice A1_c3_1 n1_c3_1 c1_c3_1]) (r_load2 rfl ek kk kk (sgS (blk_cell (j := 0) x30 kk) (fun e9 => ne27 (Option.some.inj e9).symm)) (sgS (blk_cell (j := 1) x30 kk) (fun e9 => ne27 (Option.some.inj e9).symm))) ?_
  refine W.ss (v := .agg #[.int .i64 (1 + x12), .slice A1_c3_1 n1_c3_1 c1_c3_1]) (j := 0) (news := [.int .i64 (1 + x12), .slice A1_c3_1 n1_c3_1 c1_c3_1]) (cs' := #[.int .i64 (1 + x12), .slice A1_c3_1 n1_c3_1 c1_c3_1]) s479 rfl kk rfl rfl kk kk x6 kk kk (by simp) kk kk (.inl rfl) (fun w480 g481 x482 s483 => ?_)
  have ho484 := own_grown ho1_c3_1 g481 (fun j e1 e2 => by cases e2; exact nb1_c3_1_b2 e1.symm)
  apply F.es
  have x157 := Cur.grown x157 s483 (fun e9 => ne9 (Option.some.inj e9)) (fun j e => by cases e; exact Nat.le_trans hN lo8)
  have x30 := Sk s483 x30 (fun e9 => ne27 (Option.some.inj e9).symm)
  have c485 := (SG.fr (B := B) c161 s483 (fun kq e => .inr (by cases e; exact lo8)))
  apply h25
  refine wp_ret ?_
  try simp only [Exit.then]
  refine retC rfl rfl kk kk x482 ?_
  exact ⟨_, _, _, _, ps1, rfl, ⟨ho484, ⟨by omega, by omega⟩, by omega, hps1⟩, Cur.mono x157 (by omega), c485⟩
 refine Fq (.bool false) (r_gtr (m := z) (n := 0) rfl ek ek (df q162)) ?_
 refine Fv (.bool false) ?_
 refine Fs rfl ?_
 refine Fs rfl ?_
 refine Fs rfl ?_
 refine Fq (.bool false) (r_pick (b := false) rfl ek ek) ?_
 refine Fv (.bool false) ?_
 refine Fs rfl ?_
 refine Fs rfl ?_
 refine Fs rfl ?_
 refine Fs rfl ?_
 refine Fq (.bool false) (r_pick (b := false) rfl ek ek) ?_
 apply F.es
 apply h20
 refine wp_cond_false ek ?_
 refine wp_exit ?_
 apply h16
 refine wk fun K26 h26 => ?_
 refine W.region_plain (row := (some b2)) [(0, false), (1, true)] kk ?_
 have s486 := SG.self wl1 (some b2)
 refine Fq (.agg #[.int .i64 (1 + x12), .slice A1_c3_1 n1_c3_1 c1_c3_1]) (r_load2 rfl ek kk kk (sgS (blk_cell (j := 0) x30 kk) (fun e9 => ne27 (Option.some.inj e9).symm)) (sgS (blk_cell (j := 1) x30 kk) (fun e9 => ne27 (Option.some.inj e9).symm))) ?_
 refine W.ss (v := .agg #[.int .i64 (1 + x12), .slice A1_c3_1 n1_c3_1 c1_c3_1]) (j := 0) (news := [.int .i64 (1 + x12), .slice A1_c3_1 n1_c3_1 c1_c3_1]) (cs' := #[.int .i64 (1 + x12), .slice A1_c3_1 n1_c3_1 c1_c3_1]) s486 rfl kk rfl rfl kk kk x6 kk kk (by simp) kk kk (.inl rfl) (fun w487 g488 x489 s490 => ?_)
 have ho491 := own_grown ho1_c3_1 g488 (fun j e1 e2 => by cases e2; exact nb1_c3_1_b2 e1.symm)
 apply F.es
 have x157 := Cur.grown x157 s490 (fun e9 => ne9 (Option.some.inj e9)) (fun j e => by cases e; exact Nat.le_trans hN lo8)
 have c492 := (SG.fr (B := B) c161 s490 (fun kq e => .inr (by cases e; exact lo8)))
 apply h26
 refine wp_ret ?_
 try simp only [Exit.then]
 refine retC rfl rfl kk kk x489 ?_
 exact ⟨_, _, _, _, ps1, rfl, ⟨ho491, ⟨by omega, by omega⟩, by omega, hps1⟩, Cur.mono x157 (by omega), c492⟩
set_option maxRecDepth 100000 in
set_option maxHeartbeats 8000000 in
theorem anyNetwork_any (B N k : Nat)  (w : World) (hc : Cur w B N k) (hk : k ≤ 700000000000)  :
    Calls Tryd.prog 53 #[.pointer (some ⟨B, 0, none⟩)] w fun e w' => ∃ (m : Int) (A' : Option Addr) (n' c' : Nat) (ps : List Pp), e = .returned (.agg #[.int .i64 m, .slice A' n' c']) ∧ (w'.ownsRow w.heap.size 38 4 (.slice A' n' c') n' (pipesV ps) ∧ smD 30 m ps) ∧ Cur w' B N (k + 400) ∧ w.grownBy w' (some B) := by
 have hN := Cur.hN hc
 go_enter Tryd.func53, Tryd.ntmps53
 refine F.begin 80 [(0, .pointer (some ⟨B, 0, none⟩))] (fun U0 => ?_)
 refine wk fun K1 h1 => ?_
 refine W.region_plain (row := none) [(0, true)] kk ?_
 have s1 := SG.self w none
 refine W.sn (fun b => .pointer (some ⟨b, 0, none⟩)) #[.int .i64 0, .slice none 0 0] 24 s1 rfl kk rfl (fun _ => by kernel_rfl) (fun b2 w3 hb4 k5 x6 s7 => ?_)
 apply F.nx
 have lo8 : w.heap.size ≤ b2 := Nl ((SG.fr (B := B) (World.grownBy.refl _ _) s1 nkk)).size (Nat.le_of_eq hb4)
 have ne9 : B ≠ b2 := Nat.ne_of_lt (Nat.lt_of_lt_of_eq (Nat.lt_of_lt_of_le (Cur.lt hc) (s1).size) hb4)
 apply F.es
 have hc := Cur.below hc (SG.below s7)
 have c10 := (SG.fr (B := B) (World.grownBy.refl _ _) s7 nkk)
 apply h1
 refine wk fun K2 h2 => ?_
 refine W.region_plain (row := (some B)) [(0, false), (1, true), (2, true), (3, true)] kk ?_
 have s11 := SG.self w3 (some B)
 refine Fv (.pointer (some ⟨B, 0, none⟩)) ?_
 have z19 := ((SG.fr (B := B) c10 s11 (fun kq e => .inl (by cases e; rfl)))).size
 have lb23 := (Cur.lt hc)
 have lb24 := (Nat.lt_of_lt_of_le (blk_lt x6) (s11).size)
 refine Fc [.pointer (some ⟨B, 0, none⟩)] (network_any B N k _ hc (by omega)) ?_
 rintro e w26 ⟨m12, A13, n14, c15, ps16, rfl, ⟨ho17, hsm18⟩, x28, g27⟩
 have s29 := SG.of_grown s11 g27 (.inl rfl)
 refine ⟨_, rfl, s29, ?_⟩
 apply F.nx
 have ho20 := own_base (base' := w.heap.size) ho17 z19
 have hl21 := rd_pipes_len (own_rd ho20)
 have hsm18m := hsm18.1
 have hsm18n := hsm18.2.1
 have nb30 : Nb B (.slice A13 n14 c15) := nb_lo ho17 lb23
 have nb31 : Nb b2 (.slice A13 n14 c15) := nb_lo ho17 lb24
 refine W.sn (fun b => .pointer (some ⟨b, 0, none⟩)) #[.int .i64 0, .slice none 0 0] 24 s29 rfl kk rfl (fun _ => by kernel_rfl) (fun b32 w33 hb34 k35 x36 s37 => ?_)
 apply F.nx
 have lo38 : w.heap.size ≤ b32 := Nl ((SG.fr (B := B) c10 s29 (fun kq e => .inl (by cases e; rfl)))).size (Nat.le_of_eq hb34)
 have ne39 : B ≠ b32 := Nat.ne_of_lt (Nat.lt_of_lt_of_eq (Cur.lt x28) hb34)
 have ne40 : b2 ≠ b32 := Nat.ne_of_lt (Nat.lt_of_lt_of_eq (Nat.lt_of_lt_of_le (blk_lt x6) (s29).size) hb34)
 have nb41 : Nb b32 (.slice A13 n14 c15) := nb_hi ho20 (Nat.le_of_eq hb34)
 have x28 := Cur.below x28 k35
 have ho42 := own_kept ho20 k35
 refine W.ss (v := .agg #[.int .i64 m12, .slice A13 n14 c15]) (j := 0) (news := [.int .i64 m12, .slice A13 n14 c15]) (cs' := #[.int .i64 m12, .slice A13 n14 c15]) s37 rfl kk rfl rfl kk kk x36 kk kk (by simp) kk kk (.inr (Nl (s29).size (Nat.le_of_eq hb34))) (fun w43 g44 x45 s46 => ?_)
 have x28 := Cur.grown x28 g44 (fun e9 => ne39 (Option.some.inj e9)) (fun j e => by cases e; exact Nat.le_trans hN lo38)
 have ho47 := own_grown ho42 g44 (fun j e1 e2 => by cases e2; exact nb41 e1.symm)
 apply F.es
 have x6 := Sk s46 x6 (fun e9 => ne9 (Option.some.inj e9).symm)
 have c48 := (SG.fr (B := B) c10 s46 (fun kq e => .inl (by cases e; rfl)))
 apply h2
 refine wk fun K3 h3 => ?_
 refine W.region_plain (row := none) [(0, false), (1, true), (2, true)] kk ?_
 have s49 := SG.self w43 none
 refine Fq (.agg #[.int .i64 99, .int .i64 1, .int .i64 2, .int .i64 1]) (r_build rfl (vs := [(0, .int .i64 99), (1, .int .i64 1), (2, .int .i64 2), (3, .int .i64 1)]) kk kk) ?_
 refine W.sn (fun b => .pointer (some ⟨b, 0, none⟩)) #[.int .i64 0, .int .i64 0, .int .i64 0, .int .i64 0] 38 s49 rfl kk rfl (fun _ => by kernel_rfl) (fun b50 w51 hb52 k53 x54 s55 => ?_)
 apply F.nx
 have lo56 : w.heap.size ≤ b50 := Nl ((SG.fr (B := B) c48 s49 nkk)).size (Nat.le_of_eq hb52)
 have ne57 : B ≠ b50 := Nat.ne_of_lt (Nat.lt_of_lt_of_eq (Nat.lt_of_lt_of_le (Cur.lt x28) (s49).size) hb52)
 have ne58 : b2 ≠ b50 := Nat.ne_of_lt (Nat.lt_of_lt_of_eq (Nat.lt_of_lt_of_le (blk_lt x6) (s49).size) hb52)
 have ne59 : b32 ≠ b50 := Nat.ne_of_lt (Nat.lt_of_lt_of_eq (Nat.lt_of_lt_of_le (blk_lt x45) (s49).size) hb52)
 have nb60 : Nb b50 (.slice A13 n14 c15) := nb_hi ho47 (Nat.le_of_eq hb52)
 have ho61 := own_kept ho47 k53
 refine W.ss (v := .agg #[.int .i64 99, .int .i64 1, .int .i64 2, .int .i64 1]) (j := 0) (news := [.int .i64 99, .int .i64 1, .int .i64 2, .int .i64 1]) (cs' := #[.int .i64 99, .int .i64 1, .int .i64 2, .int .i64 1]) s55 rfl kk rfl rfl kk kk x54 kk kk (by simp) kk kk (.inr (Nl (s49).size (Nat.le_of_eq hb52))) (fun w62 g63 x64 s65 => ?_)
 have ho66 := own_grown ho61 g63 (fun j e1 e2 => by cases e2; exact nb60 e1.symm)
 apply F.es
 have x28 := Cur.below x28 (SG.below s65)
 have x6 := Sk s65 x6 onn
 have x45 := Sk s65 x45 onn
 have c67 := (SG.fr (B := B) c48 s65 nkk)
 apply h3
 refine wk fun K4 h4 => ?_
 refine wk fun K5 h5 => ?_
 refine W.region_plain (row := (some B)) [(0, false), (1, true)] kk ?_
 have s68 := SG.self w62 (some B)
 refine Fv (.pointer (some ⟨B, 0, none⟩)) ?_
 refine Fc [.pointer (some ⟨B, 0, none⟩), .int .i64 24] (pick_any B N (k + 300) 24 _ x28 (by omega) (by omega)) ?_
 rintro e w72 ⟨x69, rfl, hx70, x74, g73⟩
 have s75 := SG.of_grown s68 g73 (.inl rfl)
 refine ⟨_, rfl, s75, ?_⟩
 apply F.nx
 have ho76 := own_grown ho66 g73 (fun j e1 e2 => by cases e2; exact nb30 e1.symm)
 apply F.es
 have x6 := Sk s75 x6 (fun e9 => ne9 (Option.some.inj e9).symm)
 have x45 := Sk s75 x45 (fun e9 => ne39 (Option.some.inj e9).symm)
 have x64 := Sk s75 x64 (fun e9 => ne57 (Option.some.inj e9).symm)
 have c77 := (SG.fr (B := B) c67 s75 (fun kq e => .inl (by cases e; rfl)))
 apply h5
 refine wp_block ?_
 refine wk fun K6 h6 => ?_
 refine Rq 2 ?_
 by_cases q78 : (x69 : Int) = (0 : Int)
 ·refine Fq (.bool true) (r_eql (m := x69) (n := 0) rfl ek ek (dt q78)) ?_
  refine Fa (.bool true) ?_
  apply F.es
  apply h6
  refine wp_cond_true ek ?_
  refine M.region_plain (row := [(some B), (some b32)]) [(0, false), (1, true), (2, true), (3, false), (4, true)] kk ?_
  have s79 := SM.self w72 [(some B), (some b32)]
  refine Fv (.pointer (some ⟨B, 0, none⟩)) ?_
  refine M.sn (fun b => .slice (some ⟨b, 0, none⟩) 4 4) #[.int .i64 0, .int .i64 9, .int .i64 8, .int .i64 1] 3 s79 rfl kk rfl (fun _ => by kernel_rfl) (fun b80 w81 hb82 k83 x84 s85 => ?_)
  apply F.nx
  have lo86 : w.heap.size ≤ b80 := Nl ((SM.fr (B := B) c77 s79 (in2 (fun kq e => .inl (by cases e; rfl)) (fun kq e => .inr (by cases e; exact lo38))))).size (Nat.le_of_eq hb82)
  have ne87 : B ≠ b80 := Nat.ne_of_lt (Nat.lt_of_lt_of_eq (Cur.lt x74) hb82)
  have x74 := Cur.below x74 k83
  have x45 := (k83.block _ (blk_lt x45)).trans x45
  have ho92 := own_kept ho76 k83
  refine Fc [.pointer (some ⟨B, 0, none⟩), .slice (some ⟨b80, 0, none⟩) 4 4] (among_any B N ((k + 300) + 2) (some ⟨b80, 0, none⟩) 4 4 [0, 9, 8, 1] _ x74 (by omega) (rd_blk x84 rfl rfl) (sp_ne (by have := ne87; omega)) (by omega)) ?_
  rintro e w97 ⟨x93, rfl, hx94, x99, g98⟩
  have s100 := SM.of_grown s85 g98 (.inl (by simp))
  refine ⟨_, rfl, s100, ?_⟩
  apply F.nx
  have x45 := (g98.block _ (blk_lt x45) (fun e9 => ne39 (Option.some.inj e9).symm)).trans x45
  have ho101 := own_grown ho92 g98 (fun j e1 e2 => by cases e2; exact nb30 e1.symm)
  have hb95 := bnd_of (0) 9 hx94 (by decide)
  refine Fq (.pointer (some ⟨b32, 0, none⟩)) (r_field0 rfl ek kk) ?_
  refine M.ss (v := .int .i64 x93) (j := 0) (news := [.int .i64 x93]) (cs' := #[.int .i64 x93, .slice A13 n14 c15]) s100 rfl kk rfl rfl kk kk x45 kk kk (by simp) kk kk (.inl (by simp)) (fun w102 g103 x104 s105 => ?_)
  have x99 := Cur.grown x99 g103 (fun e9 => ne39 (Option.some.inj e9)) (fun j e => by cases e; exact Nat.le_trans hN lo38)
  have ho106 := own_grown ho101 g103 (fun j e1 e2 => by cases e2; exact nb41 e1.symm)
  apply F.es
  have x6 := SM.blk s105 x6 (ne2 (fun e9 => ne9 (Option.some.inj e9).symm) (fun e9 => ne40 (Option.some.inj e9)))
  have x64 := SM.blk s105 x64 (ne2 (fun e9 => ne57 (Option.some.inj e9).symm) (fun e9 => ne59 (Option.some.inj e9).symm))
  have c107 := (SM.fr (B := B) c77 s105 (in2 (fun kq e => .inl (by cases e; rfl)) (fun kq e => .inr (by cases e; exact lo38))))
  apply h4
  refine wk fun K7 h7 => ?_
  refine W.region_plain (row := (some b2)) [(0, false), (1, true)] kk ?_
  have s108 := SG.self w102 (some b2)
  refine Fq (.agg #[.int .i64 x93, .slice A13 n14 c15]) (r_load2 rfl ek kk kk (sgS (blk_cell (j := 0) x104 kk) (fun e9 => ne40 (Option.some.inj e9).symm)) (sgS (blk_cell (j := 1) x104 kk) (fun e9 => ne40 (Option.some.inj e9).symm))) ?_
  refine W.ss (v := .agg #[.int .i64 x93, .slice A13 n14 c15]) (j := 0) (news := [.int .i64 x93, .slice A13 n14 c15]) (cs' := #[.int .i64 x93, .slice A13 n14 c15]) s108 rfl kk rfl rfl kk kk x6 kk kk (by simp) kk kk (.inl rfl) (fun w109 g110 x111 s112 => ?_)
  have ho113 := own_grown ho106 g110 (fun j e1 e2 => by cases e2; exact nb31 e1.symm)
  apply F.es
  have x99 := Cur.grown x99 s112 (fun e9 => ne9 (Option.some.inj e9)) (fun j e => by cases e; exact Nat.le_trans hN lo8)
  have x64 := Sk s112 x64 (fun e9 => ne58 (Option.some.inj e9).symm)
  have c114 := (SG.fr (B := B) c107 s112 (fun kq e => .inr (by cases e; exact lo8)))
  apply h7
  refine wp_ret ?_
  try simp only [Exit.then]
  refine retC rfl rfl kk kk x111 ?_
  exact ⟨_, _, _, _, ps16, rfl, ⟨ho113, ⟨by omega, by omega⟩, by omega, hsm18.2.2⟩, Cur.mono x99 (by omega), c114⟩
 refine Fq (.bool false) (r_eql (m := x69) (n := 0) rfl ek ek (df q78)) ?_
 refine Fa (.bool false) ?_
 apply F.es
 apply h6
 refine wp_cond_false ek ?_
 refine wk fun K8 h8 => ?_
 refine Rq 2 ?_
 by_cases q115 : (x69 : Int) = (1 : Int)
 ·refine Fq (.bool true) (r_eql (m := x69) (n := 1) rfl ek ek (dt q115)) ?_
  refine Fa (.bool true) ?_
  apply F.es
  apply h8
  refine wp_cond_true ek ?_
  refine wk fun K9 h9 => ?_
  refine M.region_plain (row := [(some B), (some b50)]) [(0, false), (1, true), (2, true), (3, false), (4, true)] kk ?_
  have s116 := SM.self w72 [(some B), (some b50)]
  refine Fv (.pointer (some ⟨B, 0, none⟩)) ?_
  refine M.sn (fun b => .slice (some ⟨b, 0, none⟩) 3 3) #[.int .i64 1, .int .i64 100, .int .i64 99] 3 s116 rfl kk rfl (fun _ => by kernel_rfl) (fun b117 w118 hb119 k120 x121 s122 => ?_)
  apply F.nx
  have lo123 : w.heap.size ≤ b117 := Nl ((SM.fr (B := B) c77 s116 (in2 (fun kq e => .inl (by cases e; rfl)) (fun kq e => .inr (by cases e; exact lo56))))).size (Nat.le_of_eq hb119)
  have ne124 : B ≠ b117 := Nat.ne_of_lt (Nat.lt_of_lt_of_eq (Cur.lt x74) hb119)
  have x74 := Cur.below x74 k120
  have x64 := (k120.block _ (blk_lt x64)).trans x64
  have ho129 := own_kept ho76 k120
  refine Fc [.pointer (some ⟨B, 0, none⟩), .slice (some ⟨b117, 0, none⟩) 3 3] (among_any B N ((k + 300) + 2) (some ⟨b117, 0, none⟩) 3 3 [1, 100, 99] _ x74 (by omega) (rd_blk x121 rfl rfl) (sp_ne (by have := ne124; omega)) (by omega)) ?_
  rintro e w134 ⟨x130, rfl, hx131, x136, g135⟩
  have s137 := SM.of_grown s122 g135 (.inl (by simp))
  refine ⟨_, rfl, s137, ?_⟩
  apply F.nx
  have x64 := (g135.block _ (blk_lt x64) (fun e9 => ne57 (Option.some.inj e9).symm)).trans x64
  have ho138 := own_grown ho129 g135 (fun j e1 e2 => by cases e2; exact nb30 e1.symm)
  have hb132 := bnd_of (1) 100 hx131 (by decide)
  refine Fq (.pointer (some ⟨b50, 0, none⟩)) (r_field0 rfl ek kk) ?_
  refine M.ss (v := .int .i64 x130) (j := 0) (news := [.int .i64 x130]) (cs' := #[.int .i64 x130, .int .i64 1, .int .i64 2, .int .i64 1]) s137 rfl kk rfl rfl kk kk x64 kk kk (by simp) kk kk (.inl (by simp)) (fun w139 g140 x141 s142 => ?_)
  have x136 := Cur.grown x136 g140 (fun e9 => ne57 (Option.some.inj e9)) (fun j e => by cases e; exact Nat.le_trans hN lo56)
  have ho143 := own_grown ho138 g140 (fun j e1 e2 => by cases e2; exact nb60 e1.symm)
  apply F.es
  have x6 := SM.blk s142 x6 (ne2 (fun e9 => ne9 (Option.some.inj e9).symm) (fun e9 => ne58 (Option.some.inj e9)))
  have x45 := SM.blk s142 x45 (ne2 (fun e9 => ne39 (Option.some.inj e9).symm) (fun e9 => ne59 (Option.some.inj e9)))
  have c144 := (SM.fr (B := B) c77 s142 (in2 (fun kq e => .inl (by cases e; rfl)) (fun kq e => .inr (by cases e; exact lo56))))
  apply h9
  refine M.region_plain (row := [(Value.ownBlock (.slice A13 n14 c15)), (some b32)]) [(0, false), (1, true), (2, false), (3, true), (4, true), (5, false), (6, true)] kk ?_
  have s145 := SM.self w139 [(Value.ownBlock (.slice A13 n14 c15)), (some b32)]
  refine Fq (.pointer (some ⟨b32, 1, none⟩)) (r_field (k := 1) rfl ek kk) ?_
  refine W.slq (v := .slice A13 n14 c15) s145 rfl (r_load rfl kk kk (eqS (blk_cell (j := 1) x45 kk))) kk rfl ?_
  apply F.nx
  refine Fq (.agg #[.int .i64 x130, .int .i64 1, .int .i64 2, .int .i64 1]) (r_load4 rfl ek kk kk (smS (blk_cell (j := 0) x141 kk) (ne2 nb60 (fun e9 => ne59 (Option.some.inj e9).symm))) (smS (blk_cell (j := 1) x141 kk) (ne2 nb60 (fun e9 => ne59 (Option.some.inj e9).symm))) (smS (blk_cell (j := 2) x141 kk) (ne2 nb60 (fun e9 => ne59 (Option.some.inj e9).symm))) (smS (blk_cell (j := 3) x141 kk) (ne2 nb60 (fun e9 => ne59 (Option.some.inj e9).symm)))) ?_
  refine M.sn (fun b => .slice (some ⟨b, 0, none⟩) 1 1) #[.int .i64 x130, .int .i64 1, .int .i64 2, .int .i64 1] 38 s145 rfl kk rfl (fun _ => by kernel_rfl) (fun b146 w147 hb148 k149 x150 s151 => ?_)
  apply F.nx
  have lo152 : w.heap.size ≤ b146 := Nl ((SM.fr (B := B) c144 s145 (in2 (fun kq e => .inr (World.ownsRow.lt ho143 kq e).1) (fun kq e => .inr (by cases e; exact lo38))))).size (Nat.le_of_eq hb148)
  have x45 := (k149.block _ (blk_lt x45)).trans x45
  have ho159 := own_kept ho143 k149
  refine M.sap (e := 38) (size := 4) (base := w.heap.size) (m := 1) (v := .slice A13 n14 c15) (c := 1) s151 rfl rfl rfl rfl kk kk kk ho159 x150 kk kk (by omega) (by omega) (by have := ((SM.fr (B := B) c144 s151 (in2 (fun kq e => .inr (World.ownsRow.lt ho143 kq e).1) (fun kq e => .inr (by cases e; exact lo38))))).size; omega) (.inl (by simp)) (fun g160 cap161 w162 ho163 hg164 hat165 hlt166 s167 => ?_)
  apply F.nx
  have nb169 : Nb b2 (.slice (some ⟨g160, 0, none⟩) (n14 + 1) cap161) := nb_app nb31 (Nat.lt_of_lt_of_le (blk_lt x6) (s151).size) hat165
  have nb170 : Nb b32 (.slice (some ⟨g160, 0, none⟩) (n14 + 1) cap161) := nb_app nb41 (blk_lt x45) hat165
  have x45 := (hg164.block _ (blk_lt x45) nb41).trans x45
  have ho163 := own_snocP (x := (Pp.mk x130 1 2 1)) ho163
  refine Fq (.pointer (some ⟨b32, 1, none⟩)) (r_field (k := 1) rfl ek kk) ?_
  refine M.ss (v := .slice (some ⟨g160, 0, none⟩) (n14 + 1) cap161) (j := 1) (news := [.slice (some ⟨g160, 0, none⟩) (n14 + 1) cap161]) (cs' := #[.int .i64 m12, .slice (some ⟨g160, 0, none⟩) (n14 + 1) cap161]) s167 rfl kk rfl rfl kk kk x45 kk kk (by simp) kk kk (.inl (by simp)) (fun w174 g175 x176 s177 => ?_)
  have ho178 := own_grown ho163 g175 (fun j e1 e2 => by cases e2; exact nb170 e1.symm)
  apply F.es
  have x136 := Cur.sm x136 s177 (ne2 nb30 (fun e9 => ne39 (Option.some.inj e9))) (in2 (fun j e => Nat.le_trans hN (World.ownsRow.lt ho143 j e).1) (fun j e => by cases e; exact Nat.le_trans hN lo38))
  have x6 := SM.blk s177 x6 (ne2 nb31 (fun e9 => ne40 (Option.some.inj e9)))
  have c179 := (SM.fr (B := B) c144 s177 (in2 (fun kq e => .inr (World.ownsRow.lt ho143 kq e).1) (fun kq e => .inr (by cases e; exact lo38))))
  apply h4
  refine wk fun K10 h10 => ?_
  refine W.region_plain (row := (some b2)) [(0, false), (1, true)] kk ?_
  have s180 := SG.self w174 (some b2)
  refine Fq (.agg #[.int .i64 m12, .slice (some ⟨g160, 0, none⟩) (n14 + 1) cap161]) (r_load2 rfl ek kk kk (sgS (blk_cell (j := 0) x176 kk) (fun e9 => ne40 (Option.some.inj e9).symm)) (sgS (blk_cell (j := 1) x176 kk) (fun e9 => ne40 (Option.some.inj e9).symm))) ?_
  refine W.ss (v := .agg #[.int .i64 m12, .slice (some ⟨g160, 0, none⟩) (n14 + 1) cap161]) (j := 0) (news := [.int .i64 m12, .slice (some ⟨g160, 0, none⟩) (n14 + 1) cap161]) (cs' := #[.int .i64 m12, .slice (some ⟨g160, 0, none⟩) (n14 + 1) cap161]) s180 rfl kk rfl rfl kk kk x6 kk kk (by simp) kk kk (.inl rfl) (fun w181 g182 x183 s184 => ?_)
  have ho185 := own_grown ho178 g182 (fun j e1 e2 => by cases e2; exact nb169 e1.symm)
  apply F.es
  have x136 := Cur.grown x136 s184 (fun e9 => ne9 (Option.some.inj e9)) (fun j e => by cases e; exact Nat.le_trans hN lo8)
  have c186 := (SG.fr (B := B) c179 s184 (fun kq e => .inr (by cases e; exact lo8)))
  apply h10
  refine wp_ret ?_
  try simp only [Exit.then]
  refine retC rfl rfl kk kk x183 ?_
  exact ⟨_, _, _, _, (ps16 ++ [(Pp.mk x130 1 2 1)]), rfl, ⟨ho185, ⟨by omega, by omega⟩, by rw [snoc_len]; omega, sm_snoc hsm18.2.2 (sm_mk (by omega))⟩, Cur.mono x136 (by omega), c186⟩
 refine Fq (.bool false) (r_eql (m := x69) (n := 1) rfl ek ek (df q115)) ?_
 refine Fa (.bool false) ?_
 apply F.es
 apply h8
 refine wp_cond_false ek ?_
 refine wk fun K11 h11 => ?_
 refine Rq 2 ?_
 by_cases q187 : (x69 : Int) = (2 : Int)
 ·refine Fq (.bool true) (r_eql (m := x69) (n := 2) rfl ek ek (dt q187)) ?_
  refine Fa (.bool true) ?_
  apply F.es
  apply h11
  refine wp_cond_true ek ?_
  refine wk fun K12 h12 => ?_
  refine M.region_plain (row := [(some B), (some b50)]) [(0, false), (1, true), (2, true), (3, false), (4, true)] kk ?_
  have s188 := SM.self w72 [(some B), (some b50)]
  refine Fv (.pointer (some ⟨B, 0, none⟩)) ?_
  refine M.sn (fun b => .slice (some ⟨b, 0, none⟩) 2 2) #[.int .i64 0, .int .i64 10] 3 s188 rfl kk rfl (fun _ => by kernel_rfl) (fun b189 w190 hb191 k192 x193 s194 => ?_)
  apply F.nx
  have lo195 : w.heap.size ≤ b189 := Nl ((SM.fr (B := B) c77 s188 (in2 (fun kq e => .inl (by cases e; rfl)) (fun kq e => .inr (by cases e; exact lo56))))).size (Nat.le_of_eq hb191)
  have ne196 : B ≠ b189 := Nat.ne_of_lt (Nat.lt_of_lt_of_eq (Cur.lt x74) hb191)
  have x74 := Cur.below x74 k192
  have x64 := (k192.block _ (blk_lt x64)).trans x64
  have ho201 := own_kept ho76 k192
  refine Fc [.pointer (some ⟨B, 0, none⟩), .slice (some ⟨b189, 0, none⟩) 2 2] (among_any B N ((k + 300) + 2) (some ⟨b189, 0, none⟩) 2 2 [0, 10] _ x74 (by omega) (rd_blk x193 rfl rfl) (sp_ne (by have := ne196; omega)) (by omega)) ?_
  rintro e w206 ⟨x202, rfl, hx203, x208, g207⟩
  have s209 := SM.of_grown s194 g207 (.inl (by simp))
  refine ⟨_, rfl, s209, ?_⟩
  apply F.nx
  have x64 := (g207.block _ (blk_lt x64) (fun e9 => ne57 (Option.some.inj e9).symm)).trans x64
  have ho210 := own_grown ho201 g207 (fun j e1 e2 => by cases e2; exact nb30 e1.symm)
  have hb204 := bnd_of (0) 10 hx203 (by decide)
  refine Fq (.pointer (some ⟨b50, 3, none⟩)) (r_field (k := 3) rfl ek kk) ?_
  refine M.ss (v := .int .i64 x202) (j := 3) (news := [.int .i64 x202]) (cs' := #[.int .i64 99, .int .i64 1, .int .i64 2, .int .i64 x202]) s209 rfl kk rfl rfl kk kk x64 kk kk (by simp) kk kk (.inl (by simp)) (fun w211 g212 x213 s214 => ?_)
  have x208 := Cur.grown x208 g212 (fun e9 => ne57 (Option.some.inj e9)) (fun j e => by cases e; exact Nat.le_trans hN lo56)
  have ho215 := own_grown ho210 g212 (fun j e1 e2 => by cases e2; exact nb60 e1.symm)
  apply F.es
  have x6 := SM.blk s214 x6 (ne2 (fun e9 => ne9 (Option.some.inj e9).symm) (fun e9 => ne58 (Option.some.inj e9)))
  have x45 := SM.blk s214 x45 (ne2 (fun e9 => ne39 (Option.some.inj e9).symm) (fun e9 => ne59 (Option.some.inj e9)))
  have c216 := (SM.fr (B := B) c77 s214 (in2 (fun kq e => .inl (by cases e; rfl)) (fun kq e => .inr (by cases e; exact lo56))))
  apply h12
  refine M.region_plain (row := [(Value.ownBlock (.slice A13 n14 c15)), (some b32)]) [(0, false), (1, true), (2, false), (3, true), (4, true), (5, false), (6, true)] kk ?_
  have s217 := SM.self w211 [(Value.ownBlock (.slice A13 n14 c15)), (some b32)]
  refine Fq (.pointer (some ⟨b32, 1, none⟩)) (r_field (k := 1) rfl ek kk) ?_
  refine W.slq (v := .slice A13 n14 c15) s217 rfl (r_load rfl kk kk (eqS (blk_cell (j := 1) x45 kk))) kk rfl ?_
  apply F.nx
  refine Fq (.agg #[.int .i64 99, .int .i64 1, .int .i64 2, .int .i64 x202]) (r_load4 rfl ek kk kk (smS (blk_cell (j := 0) x213 kk) (ne2 nb60 (fun e9 => ne59 (Option.some.inj e9).symm))) (smS (blk_cell (j := 1) x213 kk) (ne2 nb60 (fun e9 => ne59 (Option.some.inj e9).symm))) (smS (blk_cell (j := 2) x213 kk) (ne2 nb60 (fun e9 => ne59 (Option.some.inj e9).symm))) (smS (blk_cell (j := 3) x213 kk) (ne2 nb60 (fun e9 => ne59 (Option.some.inj e9).symm)))) ?_
  refine M.sn (fun b => .slice (some ⟨b, 0, none⟩) 1 1) #[.int .i64 99, .int .i64 1, .int .i64 2, .int .i64 x202] 38 s217 rfl kk rfl (fun _ => by kernel_rfl) (fun b218 w219 hb220 k221 x222 s223 => ?_)
  apply F.nx
  have lo224 : w.heap.size ≤ b218 := Nl ((SM.fr (B := B) c216 s217 (in2 (fun kq e => .inr (World.ownsRow.lt ho215 kq e).1) (fun kq e => .inr (by cases e; exact lo38))))).size (Nat.le_of_eq hb220)
  have x45 := (k221.block _ (blk_lt x45)).trans x45
  have ho231 := own_kept ho215 k221
  refine M.sap (e := 38) (size := 4) (base := w.heap.size) (m := 1) (v := .slice A13 n14 c15) (c := 1) s223 rfl rfl rfl rfl kk kk kk ho231 x222 kk kk (by omega) (by omega) (by have := ((SM.fr (B := B) c216 s223 (in2 (fun kq e => .inr (World.ownsRow.lt ho215 kq e).1) (fun kq e => .inr (by cases e; exact lo38))))).size; omega) (.inl (by simp)) (fun g232 cap233 w234 ho235 hg236 hat237 hlt238 s239 => ?_)
  apply F.nx
  have nb241 : Nb b2 (.slice (some ⟨g232, 0, none⟩) (n14 + 1) cap233) := nb_app nb31 (Nat.lt_of_lt_of_le (blk_lt x6) (s223).size) hat237
  have nb242 : Nb b32 (.slice (some ⟨g232, 0, none⟩) (n14 + 1) cap233) := nb_app nb41 (blk_lt x45) hat237
  have x45 := (hg236.block _ (blk_lt x45) nb41).trans x45
  have ho235 := own_snocP (x := (Pp.mk 99 1 2 x202)) ho235
  refine Fq (.pointer (some ⟨b32, 1, none⟩)) (r_field (k := 1) rfl ek kk) ?_
  refine M.ss (v := .slice (some ⟨g232, 0, none⟩) (n14 + 1) cap233) (j := 1) (news := [.slice (some ⟨g232, 0, none⟩) (n14 + 1) cap233]) (cs' := #[.int .i64 m12, .slice (some ⟨g232, 0, none⟩) (n14 + 1) cap233]) s239 rfl kk rfl rfl kk kk x45 kk kk (by simp) kk kk (.inl (by simp)) (fun w246 g247 x248 s249 => ?_)
  have ho250 := own_grown ho235 g247 (fun j e1 e2 => by cases e2; exact nb242 e1.symm)
  apply F.es
  have x208 := Cur.sm x208 s249 (ne2 nb30 (fun e9 => ne39 (Option.some.inj e9))) (in2 (fun j e => Nat.le_trans hN (World.ownsRow.lt ho215 j e).1) (fun j e => by cases e; exact Nat.le_trans hN lo38))
  have x6 := SM.blk s249 x6 (ne2 nb31 (fun e9 => ne40 (Option.some.inj e9)))
  have c251 := (SM.fr (B := B) c216 s249 (in2 (fun kq e => .inr (World.ownsRow.lt ho215 kq e).1) (fun kq e => .inr (by cases e; exact lo38))))
  apply h4
  refine wk fun K13 h13 => ?_
  refine W.region_plain (row := (some b2)) [(0, false), (1, true)] kk ?_
  have s252 := SG.self w246 (some b2)
  refine Fq (.agg #[.int .i64 m12, .slice (some ⟨g232, 0, none⟩) (n14 + 1) cap233]) (r_load2 rfl ek kk kk (sgS (blk_cell (j := 0) x248 kk) (fun e9 => ne40 (Option.some.inj e9).symm)) (sgS (blk_cell (j := 1) x248 kk) (fun e9 => ne40 (Option.some.inj e9).symm))) ?_
  refine W.ss (v := .agg #[.int .i64 m12, .slice (some ⟨g232, 0, none⟩) (n14 + 1) cap233]) (j := 0) (news := [.int .i64 m12, .slice (some ⟨g232, 0, none⟩) (n14 + 1) cap233]) (cs' := #[.int .i64 m12, .slice (some ⟨g232, 0, none⟩) (n14 + 1) cap233]) s252 rfl kk rfl rfl kk kk x6 kk kk (by simp) kk kk (.inl rfl) (fun w253 g254 x255 s256 => ?_)
  have ho257 := own_grown ho250 g254 (fun j e1 e2 => by cases e2; exact nb241 e1.symm)
  apply F.es
  have x208 := Cur.grown x208 s256 (fun e9 => ne9 (Option.some.inj e9)) (fun j e => by cases e; exact Nat.le_trans hN lo8)
  have c258 := (SG.fr (B := B) c251 s256 (fun kq e => .inr (by cases e; exact lo8)))
  apply h13
  refine wp_ret ?_
  try simp only [Exit.then]
  refine retC rfl rfl kk kk x255 ?_
  exact ⟨_, _, _, _, (ps16 ++ [(Pp.mk 99 1 2 x202)]), rfl, ⟨ho257, ⟨by omega, by omega⟩, by rw [snoc_len]; omega, sm_snoc hsm18.2.2 (sm_mk (by omega))⟩, Cur.mono x208 (by omega), c258⟩
 refine Fq (.bool false) (r_eql (m := x69) (n := 2) rfl ek ek (df q187)) ?_
 refine Fa (.bool false) ?_
 apply F.es
 apply h11
 refine wp_cond_false ek ?_
 refine wk fun K14 h14 => ?_
 refine Rq 2 ?_
 by_cases q259 : (x69 : Int) = (3 : Int)
 ·refine Fq (.bool true) (r_eql (m := x69) (n := 3) rfl ek ek (dt q259)) ?_
  refine Fa (.bool true) ?_
  apply F.es
  apply h14
  refine wp_cond_true ek ?_
  refine wk fun K15 h15 => ?_
  refine M.region_plain (row := [(some B), (some b50)]) [(0, false), (1, true), (2, true), (3, false), (4, true)] kk ?_
  have s260 := SM.self w72 [(some B), (some b50)]
  refine Fv (.pointer (some ⟨B, 0, none⟩)) ?_
  refine M.sn (fun b => .slice (some ⟨b, 0, none⟩) 3 3) #[.int .i64 1, .int .i64 9, .int .i64 0] 3 s260 rfl kk rfl (fun _ => by kernel_rfl) (fun b261 w262 hb263 k264 x265 s266 => ?_)
  apply F.nx
  have lo267 : w.heap.size ≤ b261 := Nl ((SM.fr (B := B) c77 s260 (in2 (fun kq e => .inl (by cases e; rfl)) (fun kq e => .inr (by cases e; exact lo56))))).size (Nat.le_of_eq hb263)
  have ne268 : B ≠ b261 := Nat.ne_of_lt (Nat.lt_of_lt_of_eq (Cur.lt x74) hb263)
  have x74 := Cur.below x74 k264
  have x64 := (k264.block _ (blk_lt x64)).trans x64
  have ho273 := own_kept ho76 k264
  refine Fc [.pointer (some ⟨B, 0, none⟩), .slice (some ⟨b261, 0, none⟩) 3 3] (among_any B N ((k + 300) + 2) (some ⟨b261, 0, none⟩) 3 3 [1, 9, 0] _ x74 (by omega) (rd_blk x265 rfl rfl) (sp_ne (by have := ne268; omega)) (by omega)) ?_
  rintro e w278 ⟨x274, rfl, hx275, x280, g279⟩
  have s281 := SM.of_grown s266 g279 (.inl (by simp))
  refine ⟨_, rfl, s281, ?_⟩
  apply F.nx
  have x64 := (g279.block _ (blk_lt x64) (fun e9 => ne57 (Option.some.inj e9).symm)).trans x64
  have ho282 := own_grown ho273 g279 (fun j e1 e2 => by cases e2; exact nb30 e1.symm)
  have hb276 := bnd_of (0) 9 hx275 (by decide)
  refine Fq (.pointer (some ⟨b50, 2, none⟩)) (r_field (k := 2) rfl ek kk) ?_
  refine M.ss (v := .int .i64 x274) (j := 2) (news := [.int .i64 x274]) (cs' := #[.int .i64 99, .int .i64 1, .int .i64 x274, .int .i64 1]) s281 rfl kk rfl rfl kk kk x64 kk kk (by simp) kk kk (.inl (by simp)) (fun w283 g284 x285 s286 => ?_)
  have x280 := Cur.grown x280 g284 (fun e9 => ne57 (Option.some.inj e9)) (fun j e => by cases e; exact Nat.le_trans hN lo56)
  have ho287 := own_grown ho282 g284 (fun j e1 e2 => by cases e2; exact nb60 e1.symm)
  apply F.es
  have x6 := SM.blk s286 x6 (ne2 (fun e9 => ne9 (Option.some.inj e9).symm) (fun e9 => ne58 (Option.some.inj e9)))
  have x45 := SM.blk s286 x45 (ne2 (fun e9 => ne39 (Option.some.inj e9).symm) (fun e9 => ne59 (Option.some.inj e9)))
  have c288 := (SM.fr (B := B) c77 s286 (in2 (fun kq e => .inl (by cases e; rfl)) (fun kq e => .inr (by cases e; exact lo56))))
  apply h15
  refine M.region_plain (row := [(Value.ownBlock (.slice A13 n14 c15)), (some b32)]) [(0, false), (1, true), (2, false), (3, true), (4, true), (5, false), (6, true)] kk ?_
  have s289 := SM.self w283 [(Value.ownBlock (.slice A13 n14 c15)), (some b32)]
  refine Fq (.pointer (some ⟨b32, 1, none⟩)) (r_field (k := 1) rfl ek kk) ?_
  refine W.slq (v := .slice A13 n14 c15) s289 rfl (r_load rfl kk kk (eqS (blk_cell (j := 1) x45 kk))) kk rfl ?_
  apply F.nx
  refine Fq (.agg #[.int .i64 99, .int .i64 1, .int .i64 x274, .int .i64 1]) (r_load4 rfl ek kk kk (smS (blk_cell (j := 0) x285 kk) (ne2 nb60 (fun e9 => ne59 (Option.some.inj e9).symm))) (smS (blk_cell (j := 1) x285 kk) (ne2 nb60 (fun e9 => ne59 (Option.some.inj e9).symm))) (smS (blk_cell (j := 2) x285 kk) (ne2 nb60 (fun e9 => ne59 (Option.some.inj e9).symm))) (smS (blk_cell (j := 3) x285 kk) (ne2 nb60 (fun e9 => ne59 (Option.some.inj e9).symm)))) ?_
  refine M.sn (fun b => .slice (some ⟨b, 0, none⟩) 1 1) #[.int .i64 99, .int .i64 1, .int .i64 x274, .int .i64 1] 38 s289 rfl kk rfl (fun _ => by kernel_rfl) (fun b290 w291 hb292 k293 x294 s295 => ?_)
  apply F.nx
  have lo296 : w.heap.size ≤ b290 := Nl ((SM.fr (B := B) c288 s289 (in2 (fun kq e => .inr (World.ownsRow.lt ho287 kq e).1) (fun kq e => .inr (by cases e; exact lo38))))).size (Nat.le_of_eq hb292)
  have x45 := (k293.block _ (blk_lt x45)).trans x45
  have ho303 := own_kept ho287 k293
  refine M.sap (e := 38) (size := 4) (base := w.heap.size) (m := 1) (v := .slice A13 n14 c15) (c := 1) s295 rfl rfl rfl rfl kk kk kk ho303 x294 kk kk (by omega) (by omega) (by have := ((SM.fr (B := B) c288 s295 (in2 (fun kq e => .inr (World.ownsRow.lt ho287 kq e).1) (fun kq e => .inr (by cases e; exact lo38))))).size; omega) (.inl (by simp)) (fun g304 cap305 w306 ho307 hg308 hat309 hlt310 s311 => ?_)
  apply F.nx
  have nb313 : Nb b2 (.slice (some ⟨g304, 0, none⟩) (n14 + 1) cap305) := nb_app nb31 (Nat.lt_of_lt_of_le (blk_lt x6) (s295).size) hat309
  have nb314 : Nb b32 (.slice (some ⟨g304, 0, none⟩) (n14 + 1) cap305) := nb_app nb41 (blk_lt x45) hat309
  have x45 := (hg308.block _ (blk_lt x45) nb41).trans x45
  have ho307 := own_snocP (x := (Pp.mk 99 1 x274 1)) ho307
  refine Fq (.pointer (some ⟨b32, 1, none⟩)) (r_field (k := 1) rfl ek kk) ?_
  refine M.ss (v := .slice (some ⟨g304, 0, none⟩) (n14 + 1) cap305) (j := 1) (news := [.slice (some ⟨g304, 0, none⟩) (n14 + 1) cap305]) (cs' := #[.int .i64 m12, .slice (some ⟨g304, 0, none⟩) (n14 + 1) cap305]) s311 rfl kk rfl rfl kk kk x45 kk kk (by simp) kk kk (.inl (by simp)) (fun w318 g319 x320 s321 => ?_)
  have ho322 := own_grown ho307 g319 (fun j e1 e2 => by cases e2; exact nb314 e1.symm)
  apply F.es
  have x280 := Cur.sm x280 s321 (ne2 nb30 (fun e9 => ne39 (Option.some.inj e9))) (in2 (fun j e => Nat.le_trans hN (World.ownsRow.lt ho287 j e).1) (fun j e => by cases e; exact Nat.le_trans hN lo38))
  have x6 := SM.blk s321 x6 (ne2 nb31 (fun e9 => ne40 (Option.some.inj e9)))
  have c323 := (SM.fr (B := B) c288 s321 (in2 (fun kq e => .inr (World.ownsRow.lt ho287 kq e).1) (fun kq e => .inr (by cases e; exact lo38))))
  apply h4
  refine wk fun K16 h16 => ?_
  refine W.region_plain (row := (some b2)) [(0, false), (1, true)] kk ?_
  have s324 := SG.self w318 (some b2)
  refine Fq (.agg #[.int .i64 m12, .slice (some ⟨g304, 0, none⟩) (n14 + 1) cap305]) (r_load2 rfl ek kk kk (sgS (blk_cell (j := 0) x320 kk) (fun e9 => ne40 (Option.some.inj e9).symm)) (sgS (blk_cell (j := 1) x320 kk) (fun e9 => ne40 (Option.some.inj e9).symm))) ?_
  refine W.ss (v := .agg #[.int .i64 m12, .slice (some ⟨g304, 0, none⟩) (n14 + 1) cap305]) (j := 0) (news := [.int .i64 m12, .slice (some ⟨g304, 0, none⟩) (n14 + 1) cap305]) (cs' := #[.int .i64 m12, .slice (some ⟨g304, 0, none⟩) (n14 + 1) cap305]) s324 rfl kk rfl rfl kk kk x6 kk kk (by simp) kk kk (.inl rfl) (fun w325 g326 x327 s328 => ?_)
  have ho329 := own_grown ho322 g326 (fun j e1 e2 => by cases e2; exact nb313 e1.symm)
  apply F.es
  have x280 := Cur.grown x280 s328 (fun e9 => ne9 (Option.some.inj e9)) (fun j e => by cases e; exact Nat.le_trans hN lo8)
  have c330 := (SG.fr (B := B) c323 s328 (fun kq e => .inr (by cases e; exact lo8)))
  apply h16
  refine wp_ret ?_
  try simp only [Exit.then]
  refine retC rfl rfl kk kk x327 ?_
  exact ⟨_, _, _, _, (ps16 ++ [(Pp.mk 99 1 x274 1)]), rfl, ⟨ho329, ⟨by omega, by omega⟩, by rw [snoc_len]; omega, sm_snoc hsm18.2.2 (sm_mk (by omega))⟩, Cur.mono x280 (by omega), c330⟩
 refine Fq (.bool false) (r_eql (m := x69) (n := 3) rfl ek ek (df q259)) ?_
 refine Fa (.bool false) ?_
 apply F.es
 apply h14
 refine wp_cond_false ek ?_
 refine wk fun K17 h17 => ?_
 refine Rq 2 ?_
 by_cases q331 : (x69 : Int) = (4 : Int)
 ·refine Fq (.bool true) (r_eql (m := x69) (n := 4) rfl ek ek (dt q331)) ?_
  refine Fa (.bool true) ?_
  apply F.es
  apply h17
  refine wp_cond_true ek ?_
  refine wk fun K18 h18 => ?_
  refine Rq 1 ?_
  refine Fa (.int .i64 0) ?_
  apply F.es
  apply h18
  refine wp_block ?_
  refine loopK (fun am0 aa0 wl0 => ∃ (j : Nat) (qs : List Pp) (A0_c3_1 : Option Addr) (n0_c3_1 : Nat) (c0_c3_1 : Nat) , Kn aa0 [(0, .pointer (some ⟨B, 0, none⟩)), (2, .pointer (some ⟨b2, 0, none⟩)), (3, .pointer (some ⟨b32, 0, none⟩)), (4, .pointer (some ⟨b50, 0, none⟩)), (5, .int .i64 (j : Int)), (10, .int .i64 x69), (11, .bool false), (17, .bool false), (29, .bool false), (41, .bool false), (53, .bool true)] 80 ∧ (am0 = 13 - j) ∧ (j ≤ 12) ∧ (∀ p, p ∈ qs → smP p) ∧ (qs.length ≤ ps16.length + j) ∧ (Cur wl0 B N (k + 302 + 2 * j)) ∧ (wl0.heap[b2]? = some (.cells #[.int .i64 0, .slice none 0 0] 24 (0, 0))) ∧ (wl0.heap[b32]? = some (.cells #[.int .i64 m12, .slice A0_c3_1 n0_c3_1 c0_c3_1] 24 (0, 0))) ∧ (wl0.heap[b50]? = some (.cells #[.int .i64 99, .int .i64 1, .int .i64 2, .int .i64 1] 38 (0, 0))) ∧ (wl0.ownsRow w.heap.size 38 4 (.slice A0_c3_1 n0_c3_1 c0_c3_1) n0_c3_1 (pipesV qs)) ∧ (Nb B (.slice A0_c3_1 n0_c3_1 c0_c3_1)) ∧ (Nb b2 (.slice A0_c3_1 n0_c3_1 c0_c3_1)) ∧ (Nb b32 (.slice A0_c3_1 n0_c3_1 c0_c3_1)) ∧ (Nb b50 (.slice A0_c3_1 n0_c3_1 c0_c3_1)) ∧ (w.grownBy wl0 (some B))) (13 - 0) ?_ ?_
  ·exact ⟨0, ps16, A13, n14, c15, Kn.of, rfl, (by omega), hsm18.2.2, (by omega), (Cur.mono x74 (by omega)), x6, x45, x64, ho76, nb30, nb31, nb41, nb60, c77⟩
  rintro am0 aa0 wl0 K19 h19 ⟨j, qs, A0_c3_1, n0_c3_1, c0_c3_1, ⟨U0, rfl⟩, rfl, hj, hps1, hln1, x74, x6, x45, x64, ho0_c3_1, nb0_c3_1_B, nb0_c3_1_b2, nb0_c3_1_b32, nb0_c3_1_b50, c332⟩
  have hl09 := rd_pipes_len (own_rd ho0_c3_1)
  refine wk fun K20 h20 => ?_
  refine wk fun K21 h21 => ?_
  refine W.region_sch (row := (some B)) (Sch.of [(0, false), (1, false), (2, false), (3, false), (4, true), (5, false), (6, false), (7, false), (8, false), (9, false), (10, false)]) kk kk (fun _ d _ _ _ h => by cases d <;> exact h) kk (fun w333 e334 s335 => ?_)
  have ho336 := own_heap ho0_c3_1 e334
  have x337 := Cur.heap x74 e334
  refine Fq (.pointer (some ⟨b32, 1, none⟩)) (r_field (k := 1) rfl ek kk) ?_
  refine Fl (.slice A0_c3_1 n0_c3_1 c0_c3_1) (sgS (blk_cell (j := 1) x45 kk) (fun e9 => ne39 (Option.some.inj e9).symm)) ?_
  refine Fq (.int .i64 (n0_c3_1 : Int)) (r_len (A := A0_c3_1) (n := n0_c3_1) (c := c0_c3_1) rfl ek kk) ?_
  refine Fv (.pointer (some ⟨B, 0, none⟩)) ?_
  refine Fc [.pointer (some ⟨B, 0, none⟩), .int .i64 2] (pick_any B N (k + 302 + 2 * j) 2 _ x337 (by omega) (by omega)) ?_
  rintro e w341 ⟨x338, rfl, hx339, x343, g342⟩
  have s344 := SG.of_grown s335 g342 (.inl rfl)
  refine ⟨_, rfl, s344, ?_⟩
  apply F.nx
  have ho345 := own_grown ho336 g342 (fun j e1 e2 => by cases e2; exact nb0_c3_1_B e1.symm)
  refine Fq (.int .i64 (10 + x338)) (r_add (m := 10) (n := x338) (z := 10 + x338) rfl ek ek (rfl) (by omega)) ?_
  by_cases q346 : ((n0_c3_1 : Int) : Int) < (10 + x338 : Int)
  ·refine Fq (.bool true) (r_lss (m := (n0_c3_1 : Int)) (n := 10 + x338) rfl ek ek (dt q346)) ?_
   refine Fv (.bool true) ?_
   refine Fv (.int .i64 (j : Int)) ?_
   by_cases q347 : ((j : Int) : Int) < (12 : Int)
   ·refine Fq (.bool true) (r_lss (m := (j : Int)) (n := 12) rfl ek ek (dt q347)) ?_
    refine Fq (.bool true) (r_pick (b := true) rfl ek ek) ?_
    apply F.es
    have x6 := Sk s344 x6 (fun e9 => ne9 (Option.some.inj e9).symm)
    have x45 := Sk s344 x45 (fun e9 => ne39 (Option.some.inj e9).symm)
    have x64 := Sk s344 x64 (fun e9 => ne57 (Option.some.inj e9).symm)
    have c348 := (SG.fr (B := B) c332 s344 (fun kq e => .inl (by cases e; rfl)))
    apply h21
    refine wp_cond_true ek ?_
    apply wp_skip
    apply h20
    refine wk fun K22 h22 => ?_
    refine wp_block ?_
    refine M.region_sch (row := [(Value.ownBlock (.slice A0_c3_1 n0_c3_1 c0_c3_1)), (some b32)]) (Sch.app [(0, false), (2, false), (3, false), (4, false)] (.br 1 5 (Sch.of [(5, true), (6, true), (7, false), (8, true), (9, true), (10, false), (11, true)]) (Sch.app [] (.br 1 6 (Sch.of [(6, true), (7, false), (8, true), (9, true), (10, false), (11, true)]) (Sch.app [(7, false)] (.br 1 8 (Sch.of [(8, true), (9, true), (10, false), (11, true)]) (Sch.of [(1, true), (9, true), (10, false), (11, true)]))))))) kk kk (fun _ d _ _ _ h => by cases d <;> exact h) kk (fun w349 e350 s351 => ?_)
    have ho352 := own_heap ho345 e350
    have x353 := (heap_same e350 x45)
    refine Fq (.pointer (some ⟨b32, 1, none⟩)) (r_field (k := 1) rfl ek kk) ?_
    refine Fv (.int .i64 (j : Int)) ?_
    refine Fq (.int .i64 (60 + (j : Int))) (r_add (m := 60) (n := (j : Int)) (z := 60 + (j : Int)) rfl ek ek (rfl) (by omega)) ?_
    refine Fq (.pointer (some ⟨b32, 0, none⟩)) (r_field0 rfl ek kk) ?_
    refine W.sbr ?_ ?_
    ·refine W.slq (v := .slice A0_c3_1 n0_c3_1 c0_c3_1) s351 rfl (r_load rfl kk kk (eqS (blk_cell (j := 1) x353 kk))) kk rfl ?_
     apply F.nx
     refine W.slq (v := .int .i64 m12) s351 rfl (r_load rfl kk kk (eqS (blk_cell (j := 0) x353 kk))) kk rfl ?_
     apply F.nx
     have hmo := mostI_is 2 m12
     refine Fc [.int .i64 2, .int .i64 m12] (l1Most_any 2 m12 _) ?_
     rintro e w355 ⟨rfl, b354⟩
     have s356 := SM.of_below s351 b354
     refine ⟨_, rfl, s356, ?_⟩
     apply F.nx
     have x353 := (b354.block _ (blk_lt x353)).trans x353
     have ho357 := own_kept ho352 b354
     refine Fq (.agg #[.int .i64 (60 + (j : Int)), .int .i64 1, .int .i64 (mostI 2 m12), .int .i64 2]) (r_build rfl (vs := [(0, .int .i64 (60 + (j : Int))), (1, .int .i64 1), (2, .int .i64 (mostI 2 m12)), (3, .int .i64 2)]) kk kk) ?_
     refine M.sn (fun b => .slice (some ⟨b, 0, none⟩) 1 1) #[.int .i64 (60 + (j : Int)), .int .i64 1, .int .i64 (mostI 2 m12), .int .i64 2] 38 s356 rfl kk rfl (fun _ => by kernel_rfl) (fun b358 w359 hb360 k361 x362 s363 => ?_)
     apply F.nx
     have lo364 : w.heap.size ≤ b358 := Nl ((SM.fr (B := B) c348 s356 (in2 (fun kq e => .inr (World.ownsRow.lt ho345 kq e).1) (fun kq e => .inr (by cases e; exact lo38))))).size (Nat.le_of_eq hb360)
     have x353 := (k361.block _ (blk_lt x353)).trans x353
     have ho370 := own_kept ho357 k361
     refine M.sap (e := 38) (size := 4) (base := w.heap.size) (m := 1) (v := .slice A0_c3_1 n0_c3_1 c0_c3_1) (c := 1) s363 rfl rfl rfl rfl kk kk kk ho370 x362 kk kk (by omega) (by omega) (by have := ((SM.fr (B := B) c348 s363 (in2 (fun kq e => .inr (World.ownsRow.lt ho345 kq e).1) (fun kq e => .inr (by cases e; exact lo38))))).size; omega) (.inl (by simp)) (fun g371 cap372 w373 ho374 hg375 hat376 hlt377 s378 => ?_)
     apply F.nx
     have nb379 : Nb B (.slice (some ⟨g371, 0, none⟩) (n0_c3_1 + 1) cap372) := nb_app nb0_c3_1_B (Nat.lt_of_lt_of_le (Cur.lt x343) (s363).size) hat376
     have nb380 : Nb b2 (.slice (some ⟨g371, 0, none⟩) (n0_c3_1 + 1) cap372) := nb_app nb0_c3_1_b2 (Nat.lt_of_lt_of_le (blk_lt x6) (s363).size) hat376
     have nb381 : Nb b32 (.slice (some ⟨g371, 0, none⟩) (n0_c3_1 + 1) cap372) := nb_app nb0_c3_1_b32 (blk_lt x353) hat376
     have x353 := (hg375.block _ (blk_lt x353) nb0_c3_1_b32).trans x353
     have nb382 : Nb b50 (.slice (some ⟨g371, 0, none⟩) (n0_c3_1 + 1) cap372) := nb_app nb0_c3_1_b50 (Nat.lt_of_lt_of_le (blk_lt x64) (s363).size) hat376
     have ho374 := own_snocP (x := (Pp.mk (60 + (j : Int)) 1 (mostI 2 m12) 2)) ho374
     refine Fq (.pointer (some ⟨b32, 1, none⟩)) (r_field (k := 1) rfl ek kk) ?_
     refine M.ss (v := .slice (some ⟨g371, 0, none⟩) (n0_c3_1 + 1) cap372) (j := 1) (news := [.slice (some ⟨g371, 0, none⟩) (n0_c3_1 + 1) cap372]) (cs' := #[.int .i64 m12, .slice (some ⟨g371, 0, none⟩) (n0_c3_1 + 1) cap372]) s378 rfl kk rfl rfl kk kk x353 kk kk (by simp) kk kk (.inl (by simp)) (fun w384 g385 x386 s387 => ?_)
     have ho388 := own_grown ho374 g385 (fun j e1 e2 => by cases e2; exact nb381 e1.symm)
     apply F.es
     have x343 := Cur.sm x343 s387 (ne2 nb0_c3_1_B (fun e9 => ne39 (Option.some.inj e9))) (in2 (fun j e => Nat.le_trans hN (World.ownsRow.lt ho345 j e).1) (fun j e => by cases e; exact Nat.le_trans hN lo38))
     have x6 := SM.blk s387 x6 (ne2 nb0_c3_1_b2 (fun e9 => ne40 (Option.some.inj e9)))
     have x64 := SM.blk s387 x64 (ne2 nb0_c3_1_b50 (fun e9 => ne59 (Option.some.inj e9).symm))
     have c389 := (SM.fr (B := B) c348 s387 (in2 (fun kq e => .inr (World.ownsRow.lt ho345 kq e).1) (fun kq e => .inr (by cases e; exact lo38))))
     apply h22
     refine Rq 3 ?_
     refine Fv (.int .i64 (j : Int)) ?_
     refine Fq (.int .i64 ((j + 1 : Nat) : Int)) (r_add (m := (j : Int)) (n := 1) (z := ((j + 1 : Nat) : Int)) rfl ek ek (by omega) (by omega)) ?_
     refine Fa (.int .i64 ((j + 1 : Nat) : Int)) ?_
     apply F.es
     exact h19 _ _ _ (by omega : (13 - (j + 1)) < _) ⟨j + 1, (qs ++ [(Pp.mk (60 + (j : Int)) 1 (mostI 2 m12) 2)]), (some ⟨g371, 0, none⟩), (n0_c3_1 + 1), cap372, Kn.of, rfl, (by omega), (sm_snoc hps1 (sm_mk (by omega))), (by rw [snoc_len]; omega), (Cur.mono x343 (by omega)), x6, x386, x64, ho388, nb379, nb380, nb381, nb382, c389⟩
    refine W.slq (v := .int .i64 m12) s351 rfl (r_load rfl kk kk (eqS (blk_cell (j := 0) x353 kk))) kk rfl ?_
    apply F.nx
    refine W.sbr ?_ ?_
    ·refine W.slq (v := .slice A0_c3_1 n0_c3_1 c0_c3_1) s351 rfl (r_load rfl kk kk (eqS (blk_cell (j := 1) x353 kk))) kk rfl ?_
     apply F.nx
     have hmo := mostI_is 2 m12
     refine Fc [.int .i64 2, .int .i64 m12] (l1Most_any 2 m12 _) ?_
     rintro e w391 ⟨rfl, b390⟩
     have s392 := SM.of_below s351 b390
     refine ⟨_, rfl, s392, ?_⟩
     apply F.nx
     have x353 := (b390.block _ (blk_lt x353)).trans x353
     have ho393 := own_kept ho352 b390
     refine Fq (.agg #[.int .i64 (60 + (j : Int)), .int .i64 1, .int .i64 (mostI 2 m12), .int .i64 2]) (r_build rfl (vs := [(0, .int .i64 (60 + (j : Int))), (1, .int .i64 1), (2, .int .i64 (mostI 2 m12)), (3, .int .i64 2)]) kk kk) ?_
     refine M.sn (fun b => .slice (some ⟨b, 0, none⟩) 1 1) #[.int .i64 (60 + (j : Int)), .int .i64 1, .int .i64 (mostI 2 m12), .int .i64 2] 38 s392 rfl kk rfl (fun _ => by kernel_rfl) (fun b394 w395 hb396 k397 x398 s399 => ?_)
     apply F.nx
     have lo400 : w.heap.size ≤ b394 := Nl ((SM.fr (B := B) c348 s392 (in2 (fun kq e => .inr (World.ownsRow.lt ho345 kq e).1) (fun kq e => .inr (by cases e; exact lo38))))).size (Nat.le_of_eq hb396)
     have x353 := (k397.block _ (blk_lt x353)).trans x353
     have ho406 := own_kept ho393 k397
     refine M.sap (e := 38) (size := 4) (base := w.heap.size) (m := 1) (v := .slice A0_c3_1 n0_c3_1 c0_c3_1) (c := 1) s399 rfl rfl rfl rfl kk kk kk ho406 x398 kk kk (by omega) (by omega) (by have := ((SM.fr (B := B) c348 s399 (in2 (fun kq e => .inr (World.ownsRow.lt ho345 kq e).1) (fun kq e => .inr (by cases e; exact lo38))))).size; omega) (.inl (by simp)) (fun g407 cap408 w409 ho410 hg411 hat412 hlt413 s414 => ?_)
     apply F.nx
     have nb415 : Nb B (.slice (some ⟨g407, 0, none⟩) (n0_c3_1 + 1) cap408) := nb_app nb0_c3_1_B (Nat.lt_of_lt_of_le (Cur.lt x343) (s399).size) hat412
     have nb416 : Nb b2 (.slice (some ⟨g407, 0, none⟩) (n0_c3_1 + 1) cap408) := nb_app nb0_c3_1_b2 (Nat.lt_of_lt_of_le (blk_lt x6) (s399).size) hat412
     have nb417 : Nb b32 (.slice (some ⟨g407, 0, none⟩) (n0_c3_1 + 1) cap408) := nb_app nb0_c3_1_b32 (blk_lt x353) hat412
     have x353 := (hg411.block _ (blk_lt x353) nb0_c3_1_b32).trans x353
     have nb418 : Nb b50 (.slice (some ⟨g407, 0, none⟩) (n0_c3_1 + 1) cap408) := nb_app nb0_c3_1_b50 (Nat.lt_of_lt_of_le (blk_lt x64) (s399).size) hat412
     have ho410 := own_snocP (x := (Pp.mk (60 + (j : Int)) 1 (mostI 2 m12) 2)) ho410
     refine Fq (.pointer (some ⟨b32, 1, none⟩)) (r_field (k := 1) rfl ek kk) ?_
     refine M.ss (v := .slice (some ⟨g407, 0, none⟩) (n0_c3_1 + 1) cap408) (j := 1) (news := [.slice (some ⟨g407, 0, none⟩) (n0_c3_1 + 1) cap408]) (cs' := #[.int .i64 m12, .slice (some ⟨g407, 0, none⟩) (n0_c3_1 + 1) cap408]) s414 rfl kk rfl rfl kk kk x353 kk kk (by simp) kk kk (.inl (by simp)) (fun w420 g421 x422 s423 => ?_)
     have ho424 := own_grown ho410 g421 (fun j e1 e2 => by cases e2; exact nb417 e1.symm)
     apply F.es
     have x343 := Cur.sm x343 s423 (ne2 nb0_c3_1_B (fun e9 => ne39 (Option.some.inj e9))) (in2 (fun j e => Nat.le_trans hN (World.ownsRow.lt ho345 j e).1) (fun j e => by cases e; exact Nat.le_trans hN lo38))
     have x6 := SM.blk s423 x6 (ne2 nb0_c3_1_b2 (fun e9 => ne40 (Option.some.inj e9)))
     have x64 := SM.blk s423 x64 (ne2 nb0_c3_1_b50 (fun e9 => ne59 (Option.some.inj e9).symm))
     have c425 := (SM.fr (B := B) c348 s423 (in2 (fun kq e => .inr (World.ownsRow.lt ho345 kq e).1) (fun kq e => .inr (by cases e; exact lo38))))
     apply h22
     refine Rq 3 ?_
     refine Fv (.int .i64 (j : Int)) ?_
     refine Fq (.int .i64 ((j + 1 : Nat) : Int)) (r_add (m := (j : Int)) (n := 1) (z := ((j + 1 : Nat) : Int)) rfl ek ek (by omega) (by omega)) ?_
     refine Fa (.int .i64 ((j + 1 : Nat) : Int)) ?_
     apply F.es
     exact h19 _ _ _ (by omega : (13 - (j + 1)) < _) ⟨j + 1, (qs ++ [(Pp.mk (60 + (j : Int)) 1 (mostI 2 m12) 2)]), (some ⟨g407, 0, none⟩), (n0_c3_1 + 1), cap408, Kn.of, rfl, (by omega), (sm_snoc hps1 (sm_mk (by omega))), (by rw [snoc_len]; omega), (Cur.mono x343 (by omega)), x6, x422, x64, ho424, nb415, nb416, nb417, nb418, c425⟩
    have hmo := mostI_is 2 m12
    refine Fc [.int .i64 2, .int .i64 m12] (l1Most_any 2 m12 _) ?_
    rintro e w427 ⟨rfl, b426⟩
    have s428 := SM.of_below s351 b426
    refine ⟨_, rfl, s428, ?_⟩
    apply F.nx
    have x353 := (b426.block _ (blk_lt x353)).trans x353
    have ho429 := own_kept ho352 b426
    refine Fq (.agg #[.int .i64 (60 + (j : Int)), .int .i64 1, .int .i64 (mostI 2 m12), .int .i64 2]) (r_build rfl (vs := [(0, .int .i64 (60 + (j : Int))), (1, .int .i64 1), (2, .int .i64 (mostI 2 m12)), (3, .int .i64 2)]) kk kk) ?_
    refine W.sbr ?_ ?_
    ·refine W.slq (v := .slice A0_c3_1 n0_c3_1 c0_c3_1) s428 rfl (r_load rfl kk kk (eqS (blk_cell (j := 1) x353 kk))) kk rfl ?_
     apply F.nx
     refine M.sn (fun b => .slice (some ⟨b, 0, none⟩) 1 1) #[.int .i64 (60 + (j : Int)), .int .i64 1, .int .i64 (mostI 2 m12), .int .i64 2] 38 s428 rfl kk rfl (fun _ => by kernel_rfl) (fun b430 w431 hb432 k433 x434 s435 => ?_)
     apply F.nx
     have lo436 : w.heap.size ≤ b430 := Nl ((SM.fr (B := B) c348 s428 (in2 (fun kq e => .inr (World.ownsRow.lt ho345 kq e).1) (fun kq e => .inr (by cases e; exact lo38))))).size (Nat.le_of_eq hb432)
     have x353 := (k433.block _ (blk_lt x353)).trans x353
     have ho442 := own_kept ho429 k433
     refine M.sap (e := 38) (size := 4) (base := w.heap.size) (m := 1) (v := .slice A0_c3_1 n0_c3_1 c0_c3_1) (c := 1) s435 rfl rfl rfl rfl kk kk kk ho442 x434 kk kk (by omega) (by omega) (by have := ((SM.fr (B := B) c348 s435 (in2 (fun kq e => .inr (World.ownsRow.lt ho345 kq e).1) (fun kq e => .inr (by cases e; exact lo38))))).size; omega) (.inl (by simp)) (fun g443 cap444 w445 ho446 hg447 hat448 hlt449 s450 => ?_)
     apply F.nx
     have nb451 : Nb B (.slice (some ⟨g443, 0, none⟩) (n0_c3_1 + 1) cap444) := nb_app nb0_c3_1_B (Nat.lt_of_lt_of_le (Cur.lt x343) (s435).size) hat448
     have nb452 : Nb b2 (.slice (some ⟨g443, 0, none⟩) (n0_c3_1 + 1) cap444) := nb_app nb0_c3_1_b2 (Nat.lt_of_lt_of_le (blk_lt x6) (s435).size) hat448
     have nb453 : Nb b32 (.slice (some ⟨g443, 0, none⟩) (n0_c3_1 + 1) cap444) := nb_app nb0_c3_1_b32 (blk_lt x353) hat448
     have x353 := (hg447.block _ (blk_lt x353) nb0_c3_1_b32).trans x353
     have nb454 : Nb b50 (.slice (some ⟨g443, 0, none⟩) (n0_c3_1 + 1) cap444) := nb_app nb0_c3_1_b50 (Nat.lt_of_lt_of_le (blk_lt x64) (s435).size) hat448
     have ho446 := own_snocP (x := (Pp.mk (60 + (j : Int)) 1 (mostI 2 m12) 2)) ho446
     refine Fq (.pointer (some ⟨b32, 1, none⟩)) (r_field (k := 1) rfl ek kk) ?_
     refine M.ss (v := .slice (some ⟨g443, 0, none⟩) (n0_c3_1 + 1) cap444) (j := 1) (news := [.slice (some ⟨g443, 0, none⟩) (n0_c3_1 + 1) cap444]) (cs' := #[.int .i64 m12, .slice (some ⟨g443, 0, none⟩) (n0_c3_1 + 1) cap444]) s450 rfl kk rfl rfl kk kk x353 kk kk (by simp) kk kk (.inl (by simp)) (fun w456 g457 x458 s459 => ?_)
     have ho460 := own_grown ho446 g457 (fun j e1 e2 => by cases e2; exact nb453 e1.symm)
     apply F.es
     have x343 := Cur.sm x343 s459 (ne2 nb0_c3_1_B (fun e9 => ne39 (Option.some.inj e9))) (in2 (fun j e => Nat.le_trans hN (World.ownsRow.lt ho345 j e).1) (fun j e => by cases e; exact Nat.le_trans hN lo38))
     have x6 := SM.blk s459 x6 (ne2 nb0_c3_1_b2 (fun e9 => ne40 (Option.some.inj e9)))
     have x64 := SM.blk s459 x64 (ne2 nb0_c3_1_b50 (fun e9 => ne59 (Option.some.inj e9).symm))
     have c461 := (SM.fr (B := B) c348 s459 (in2 (fun kq e => .inr (World.ownsRow.lt ho345 kq e).1) (fun kq e => .inr (by cases e; exact lo38))))
     apply h22
     refine Rq 3 ?_
     refine Fv (.int .i64 (j : Int)) ?_
     refine Fq (.int .i64 ((j + 1 : Nat) : Int)) (r_add (m := (j : Int)) (n := 1) (z := ((j + 1 : Nat) : Int)) rfl ek ek (by omega) (by omega)) ?_
     refine Fa (.int .i64 ((j + 1 : Nat) : Int)) ?_
     apply F.es
     exact h19 _ _ _ (by omega : (13 - (j + 1)) < _) ⟨j + 1, (qs ++ [(Pp.mk (60 + (j : Int)) 1 (mostI 2 m12) 2)]), (some ⟨g443, 0, none⟩), (n0_c3_1 + 1), cap444, Kn.of, rfl, (by omega), (sm_snoc hps1 (sm_mk (by omega))), (by rw [snoc_len]; omega), (Cur.mono x343 (by omega)), x6, x458, x64, ho460, nb451, nb452, nb453, nb454, c461⟩
    refine M.sn (fun b => .slice (some ⟨b, 0, none⟩) 1 1) #[.int .i64 (60 + (j : Int)), .int .i64 1, .int .i64 (mostI 2 m12), .int .i64 2] 38 s428 rfl kk rfl (fun _ => by kernel_rfl) (fun b462 w463 hb464 k465 x466 s467 => ?_)
    apply F.nx
    have lo468 : w.heap.size ≤ b462 := Nl ((SM.fr (B := B) c348 s428 (in2 (fun kq e => .inr (World.ownsRow.lt ho345 kq e).1) (fun kq e => .inr (by cases e; exact lo38))))).size (Nat.le_of_eq hb464)
    have x353 := (k465.block _ (blk_lt x353)).trans x353
    have ho474 := own_kept ho429 k465
    refine W.slq (v := .slice A0_c3_1 n0_c3_1 c0_c3_1) s467 rfl (r_load rfl kk kk (eqS (blk_cell (j := 1) x353 kk))) kk rfl ?_
    apply F.nx
    refine M.sap (e := 38) (size := 4) (base := w.heap.size) (m := 1) (v := .slice A0_c3_1 n0_c3_1 c0_c3_1) (c := 1) s467 rfl rfl rfl rfl kk kk kk ho474 x466 kk kk (by omega) (by omega) (by have := ((SM.fr (B := B) c348 s467 (in2 (fun kq e => .inr (World.ownsRow.lt ho345 kq e).1) (fun kq e => .inr (by cases e; exact lo38))))).size; omega) (.inl (by simp)) (fun g475 cap476 w477 ho478 hg479 hat480 hlt481 s482 => ?_)
    apply F.nx
    have nb483 : Nb B (.slice (some ⟨g475, 0, none⟩) (n0_c3_1 + 1) cap476) := nb_app nb0_c3_1_B (Nat.lt_of_lt_of_le (Cur.lt x343) (s467).size) hat480
    have nb484 : Nb b2 (.slice (some ⟨g475, 0, none⟩) (n0_c3_1 + 1) cap476) := nb_app nb0_c3_1_b2 (Nat.lt_of_lt_of_le (blk_lt x6) (s467).size) hat480
    have nb485 : Nb b32 (.slice (some ⟨g475, 0, none⟩) (n0_c3_1 + 1) cap476) := nb_app nb0_c3_1_b32 (blk_lt x353) hat480
    have x353 := (hg479.block _ (blk_lt x353) nb0_c3_1_b32).trans x353
    have nb486 : Nb b50 (.slice (some ⟨g475, 0, none⟩) (n0_c3_1 + 1) cap476) := nb_app nb0_c3_1_b50 (Nat.lt_of_lt_of_le (blk_lt x64) (s467).size) hat480
    have ho478 := own_snocP (x := (Pp.mk (60 + (j : Int)) 1 (mostI 2 m12) 2)) ho478
    refine Fq (.pointer (some ⟨b32, 1, none⟩)) (r_field (k := 1) rfl ek kk) ?_
    refine M.ss (v := .slice (some ⟨g475, 0, none⟩) (n0_c3_1 + 1) cap476) (j := 1) (news := [.slice (some ⟨g475, 0, none⟩) (n0_c3_1 + 1) cap476]) (cs' := #[.int .i64 m12, .slice (some ⟨g475, 0, none⟩) (n0_c3_1 + 1) cap476]) s482 rfl kk rfl rfl kk kk x353 kk kk (by simp) kk kk (.inl (by simp)) (fun w488 g489 x490 s491 => ?_)
    have ho492 := own_grown ho478 g489 (fun j e1 e2 => by cases e2; exact nb485 e1.symm)
    apply F.es
    have x343 := Cur.sm x343 s491 (ne2 nb0_c3_1_B (fun e9 => ne39 (Option.some.inj e9))) (in2 (fun j e => Nat.le_trans hN (World.ownsRow.lt ho345 j e).1) (fun j e => by cases e; exact Nat.le_trans hN lo38))
    have x6 := SM.blk s491 x6 (ne2 nb0_c3_1_b2 (fun e9 => ne40 (Option.some.inj e9)))
    have x64 := SM.blk s491 x64 (ne2 nb0_c3_1_b50 (fun e9 => ne59 (Option.some.inj e9).symm))
    have c493 := (SM.fr (B := B) c348 s491 (in2 (fun kq e => .inr (World.ownsRow.lt ho345 kq e).1) (fun kq e => .inr (by cases e; exact lo38))))
    apply h22
    refine Rq 3 ?_
    refine Fv (.int .i64 (j : Int)) ?_
    refine Fq (.int .i64 ((j + 1 : Nat) : Int)) (r_add (m := (j : Int)) (n := 1) (z := ((j + 1 : Nat) : Int)) rfl ek ek (by omega) (by omega)) ?_
    refine Fa (.int .i64 ((j + 1 : Nat) : Int)) ?_
    apply F.es
    exact h19 _ _ _ (by omega : (13 - (j + 1)) < _) ⟨j + 1, (qs ++ [(Pp.mk (60 + (j : Int)) 1 (mostI 2 m12) 2)]), (some ⟨g475, 0, none⟩), (n0_c3_1 + 1), cap476, Kn.of, rfl, (by omega), (sm_snoc hps1 (sm_mk (by omega))), (by rw [snoc_len]; omega), (Cur.mono x343 (by omega)), x6, x490, x64, ho492, nb483, nb484, nb485, nb486, c493⟩
   refine Fq (.bool false) (r_lss (m := (j : Int)) (n := 12) rfl ek ek (df q347)) ?_
   refine Fq (.bool false) (r_pick (b := true) rfl ek ek) ?_
   apply F.es
   have x6 := Sk s344 x6 (fun e9 => ne9 (Option.some.inj e9).symm)
   have x45 := Sk s344 x45 (fun e9 => ne39 (Option.some.inj e9).symm)
   have c494 := (SG.fr (B := B) c332 s344 (fun kq e => .inl (by cases e; rfl)))
   apply h21
   refine wp_cond_false ek ?_
   refine wp_exit ?_
   apply h4
   refine wk fun K23 h23 => ?_
   refine W.region_plain (row := (some b2)) [(0, false), (1, true)] kk ?_
   have s495 := SG.self w341 (some b2)
   refine Fq (.agg #[.int .i64 m12, .slice A0_c3_1 n0_c3_1 c0_c3_1]) (r_load2 rfl ek kk kk (sgS (blk_cell (j := 0) x45 kk) (fun e9 => ne40 (Option.some.inj e9).symm)) (sgS (blk_cell (j := 1) x45 kk) (fun e9 => ne40 (Option.some.inj e9).symm))) ?_
   refine W.ss (v := .agg #[.int .i64 m12, .slice A0_c3_1 n0_c3_1 c0_c3_1]) (j := 0) (news := [.int .i64 m12, .slice A0_c3_1 n0_c3_1 c0_c3_1]) (cs' := #[.int .i64 m12, .slice A0_c3_1 n0_c3_1 c0_c3_1]) s495 rfl kk rfl rfl kk kk x6 kk kk (by simp) kk kk (.inl rfl) (fun w496 g497 x498 s499 => ?_)
   have ho500 := own_grown ho345 g497 (fun j e1 e2 => by cases e2; exact nb0_c3_1_b2 e1.symm)
   apply F.es
   have x343 := Cur.grown x343 s499 (fun e9 => ne9 (Option.some.inj e9)) (fun j e => by cases e; exact Nat.le_trans hN lo8)
   have x45 := Sk s499 x45 (fun e9 => ne40 (Option.some.inj e9).symm)
   have c501 := (SG.fr (B := B) c494 s499 (fun kq e => .inr (by cases e; exact lo8)))
   apply h23
   refine wp_ret ?_
   try simp only [Exit.then]
   refine retC rfl rfl kk kk x498 ?_
   exact ⟨_, _, _, _, qs, rfl, ⟨ho500, ⟨by omega, by omega⟩, by omega, hps1⟩, Cur.mono x343 (by omega), c501⟩
  refine Fq (.bool false) (r_lss (m := (n0_c3_1 : Int)) (n := 10 + x338) rfl ek ek (df q346)) ?_
  refine Fv (.bool false) ?_
  refine Fs s344 ?_
  refine Fs s344 ?_
  refine Fq (.bool false) (r_pick (b := false) rfl ek ek) ?_
  apply F.es
  have x6 := Sk s344 x6 (fun e9 => ne9 (Option.some.inj e9).symm)
  have x45 := Sk s344 x45 (fun e9 => ne39 (Option.some.inj e9).symm)
  have c502 := (SG.fr (B := B) c332 s344 (fun kq e => .inl (by cases e; rfl)))
  apply h21
  refine wp_cond_false ek ?_
  refine wp_exit ?_
  apply h4
  refine wk fun K24 h24 => ?_
  refine W.region_plain (row := (some b2)) [(0, false), (1, true)] kk ?_
  have s503 := SG.self w341 (some b2)
  refine Fq (.agg #[.int .i64 m12, .slice A0_c3_1 n0_c3_1 c0_c3_1]) (r_load2 rfl ek kk kk (sgS (blk_cell (j := 0) x45 kk) (fun e9 => ne40 (Option.some.inj e9).symm)) (sgS (blk_cell (j := 1) x45 kk) (fun e9 => ne40 (Option.some.inj e9).symm))) ?_
  refine W.ss (v := .agg #[.int .i64 m12, .slice A0_c3_1 n0_c3_1 c0_c3_1]) (j := 0) (news := [.int .i64 m12, .slice A0_c3_1 n0_c3_1 c0_c3_1]) (cs' := #[.int .i64 m12, .slice A0_c3_1 n0_c3_1 c0_c3_1]) s503 rfl kk rfl rfl kk kk x6 kk kk (by simp) kk kk (.inl rfl) (fun w504 g505 x506 s507 => ?_)
  have ho508 := own_grown ho345 g505 (fun j e1 e2 => by cases e2; exact nb0_c3_1_b2 e1.symm)
  apply F.es
  have x343 := Cur.grown x343 s507 (fun e9 => ne9 (Option.some.inj e9)) (fun j e => by cases e; exact Nat.le_trans hN lo8)
  have x45 := Sk s507 x45 (fun e9 => ne40 (Option.some.inj e9).symm)
  have c509 := (SG.fr (B := B) c502 s507 (fun kq e => .inr (by cases e; exact lo8)))
  apply h24
  refine wp_ret ?_
  try simp only [Exit.then]
  refine retC rfl rfl kk kk x506 ?_
  exact ⟨_, _, _, _, qs, rfl, ⟨ho508, ⟨by omega, by omega⟩, by omega, hps1⟩, Cur.mono x343 (by omega), c509⟩
 refine Fq (.bool false) (r_eql (m := x69) (n := 4) rfl ek ek (df q331)) ?_
 refine Fa (.bool false) ?_
 apply F.es
 apply h17
 refine wp_cond_false ek ?_
 apply wp_skip
 apply h4
 refine wk fun K25 h25 => ?_
 refine W.region_plain (row := (some b2)) [(0, false), (1, true)] kk ?_
 have s510 := SG.self w72 (some b2)
 refine Fq (.agg #[.int .i64 m12, .slice A13 n14 c15]) (r_load2 rfl ek kk kk (sgS (blk_cell (j := 0) x45 kk) (fun e9 => ne40 (Option.some.inj e9).symm)) (sgS (blk_cell (j := 1) x45 kk) (fun e9 => ne40 (Option.some.inj e9).symm))) ?_
 refine W.ss (v := .agg #[.int .i64 m12, .slice A13 n14 c15]) (j := 0) (news := [.int .i64 m12, .slice A13 n14 c15]) (cs' := #[.int .i64 m12, .slice A13 n14 c15]) s510 rfl kk rfl rfl kk kk x6 kk kk (by simp) kk kk (.inl rfl) (fun w511 g512 x513 s514 => ?_)
 have ho515 := own_grown ho76 g512 (fun j e1 e2 => by cases e2; exact nb31 e1.symm)
 apply F.es
 have x74 := Cur.grown x74 s514 (fun e9 => ne9 (Option.some.inj e9)) (fun j e => by cases e; exact Nat.le_trans hN lo8)
 have c516 := (SG.fr (B := B) c77 s514 (fun kq e => .inr (by cases e; exact lo8)))
 apply h25
 refine wp_ret ?_
 try simp only [Exit.then]
 refine retC rfl rfl kk kk x513 ?_
 exact ⟨_, _, _, _, ps16, rfl, ⟨ho515, ⟨by omega, by omega⟩, by omega, hsm18.2.2⟩, Cur.mono x74 (by omega), c516⟩
set_option maxRecDepth 100000 in
set_option maxHeartbeats 8000000 in
theorem nodeOf_any (B N k : Nat) (m : Int) (A : Option Addr) (n c : Nat) (w : World) (hc : Cur w B N k) (hk : k ≤ 900000000000) (hm : m ≤ 1000) :
    Calls Tryd.prog 55 #[.pointer (some ⟨B, 0, none⟩), .agg #[.int .i64 m, .slice A n c]] w fun e w' => ∃ x, e = .returned (.int .i64 x) ∧ (-1 ≤ x ∧ x ≤ 1000) ∧ Cur w' B N (k + 6) ∧ w.grownBy w' (some B) := by
 have hN := Cur.hN hc
 go_enter Tryd.func55, Tryd.ntmps55
 refine F.begin 20 [(0, .pointer (some ⟨B, 0, none⟩)), (1, .agg #[.int .i64 m, .slice A n c])] (fun U0 => ?_)
 refine wk fun K1 h1 => ?_
 refine W.region_plain (row := none) [(0, true), (1, false)] kk ?_
 have s1 := SG.self w none
 refine W.sn (fun b => .pointer (some ⟨b, 0, none⟩)) #[.int .i64 m, .slice A n c] 24 s1 rfl kk rfl (fun _ => by kernel_rfl) (fun b2 w3 hb4 k5 x6 s7 => ?_)
 apply F.nx
 have lo8 : w.heap.size ≤ b2 := Nl ((SG.fr (B := B) (World.grownBy.refl _ _) s1 nkk)).size (Nat.le_of_eq hb4)
 have ne9 : B ≠ b2 := Nat.ne_of_lt (Nat.lt_of_lt_of_eq (Nat.lt_of_lt_of_le (Cur.lt hc) (s1).size) hb4)
 refine Fa (.int .i64 0) ?_
 apply F.es
 have hc := Cur.below hc (SG.below s7)
 have c10 := (SG.fr (B := B) (World.grownBy.refl _ _) s7 nkk)
 apply h1
 refine wk fun K2 h2 => ?_
 refine wk fun K3 h3 => ?_
 refine W.region_plain (row := (some B)) [(0, false), (1, false), (2, false), (3, false), (4, false), (5, true), (6, false)] kk ?_
 have s11 := SG.self w3 (some B)
 refine Fq (.pointer (some ⟨b2, 0, none⟩)) (r_field0 rfl ek kk) ?_
 refine Fl (.int .i64 m) (sgS (blk_cell (j := 0) x6 kk) (fun e9 => ne9 (Option.some.inj e9).symm)) ?_
 by_cases q12 : (m : Int) < (1 : Int)
 ·refine Fq (.bool true) (r_lss (m := m) (n := 1) rfl ek ek (dt q12)) ?_
  refine Fv (.bool true) ?_
  refine Fs s11 ?_
  refine Fs s11 ?_
  refine Fq (.bool true) (r_pick (b := true) rfl ek ek) ?_
  apply F.es
  have x6 := Sk s11 x6 (fun e9 => ne9 (Option.some.inj e9).symm)
  have c13 := (SG.fr (B := B) c10 s11 (fun kq e => .inl (by cases e; rfl)))
  apply h3
  refine wp_cond_true ek ?_
  refine wk fun K4 h4 => ?_
  refine W.region_plain (row := (some B)) [(0, false), (1, true), (2, true), (3, false)] kk ?_
  have s14 := SG.self w3 (some B)
  refine Fv (.pointer (some ⟨B, 0, none⟩)) ?_
  refine W.sn (fun b => .slice (some ⟨b, 0, none⟩) 4 4) #[.int .i64 0, .int .i64 9, .int .i64 1, .int .i64 (-1)] 3 s14 rfl kk rfl (fun _ => by kernel_rfl) (fun b15 w16 hb17 k18 x19 s20 => ?_)
  apply F.nx
  have lo21 : w.heap.size ≤ b15 := Nl ((SG.fr (B := B) c13 s14 (fun kq e => .inl (by cases e; rfl)))).size (Nat.le_of_eq hb17)
  have ne22 : B ≠ b15 := Nat.ne_of_lt (Nat.lt_of_lt_of_eq (Cur.lt hc) hb17)
  have hc := Cur.below hc k18
  refine Fc [.pointer (some ⟨B, 0, none⟩), .slice (some ⟨b15, 0, none⟩) 4 4] (among_any B N k (some ⟨b15, 0, none⟩) 4 4 [0, 9, 1, (-1)] _ hc (by omega) (rd_blk x19 rfl rfl) (sp_ne (by have := ne22; omega)) (by omega)) ?_
  rintro e w28 ⟨x24, rfl, hx25, x30, g29⟩
  have s31 := SG.of_grown s20 g29 (.inl rfl)
  refine ⟨_, rfl, s31, ?_⟩
  apply F.nx
  have hb26 := bnd_of (-1) 9 hx25 (by decide)
  refine Fa (.int .i64 x24) ?_
  apply F.es
  have x6 := Sk s31 x6 (fun e9 => ne9 (Option.some.inj e9).symm)
  have c32 := (SG.fr (B := B) c13 s31 (fun kq e => .inl (by cases e; rfl)))
  apply h4
  refine wp_ret ?_
  try simp only [Exit.then]
  refine ret1 (v := .int .i64 x24) rfl kk ?_
  exact ⟨_, rfl, ⟨by omega, by omega⟩, Cur.mono x30 (by omega), c32⟩
 refine Fq (.bool false) (r_lss (m := m) (n := 1) rfl ek ek (df q12)) ?_
 refine Fv (.bool false) ?_
 refine Fv (.pointer (some ⟨B, 0, none⟩)) ?_
 refine Fc [.pointer (some ⟨B, 0, none⟩), .int .i64 12] (one_any B N k 12 _ hc (by omega) (by omega)) ?_
 rintro e w36 ⟨b33, rfl, _, x38, g37⟩
 have s39 := SG.of_grown s11 g37 (.inl rfl)
 refine ⟨_, rfl, s39, ?_⟩
 apply F.nx
 rcases Bool.eq_false_or_eq_true b33 with q40 | q40
 ·rw [q40]
  refine Fq (.bool true) (r_pick (b := false) rfl ek ek) ?_
  apply F.es
  have x6 := Sk s39 x6 (fun e9 => ne9 (Option.some.inj e9).symm)
  have c41 := (SG.fr (B := B) c10 s39 (fun kq e => .inl (by cases e; rfl)))
  apply h3
  refine wp_cond_true ek ?_
  refine wk fun K5 h5 => ?_
  refine W.region_plain (row := (some B)) [(0, false), (1, true), (2, true), (3, false)] kk ?_
  have s42 := SG.self w36 (some B)
  refine Fv (.pointer (some ⟨B, 0, none⟩)) ?_
  refine W.sn (fun b => .slice (some ⟨b, 0, none⟩) 4 4) #[.int .i64 0, .int .i64 9, .int .i64 1, .int .i64 (-1)] 3 s42 rfl kk rfl (fun _ => by kernel_rfl) (fun b43 w44 hb45 k46 x47 s48 => ?_)
  apply F.nx
  have lo49 : w.heap.size ≤ b43 := Nl ((SG.fr (B := B) c41 s42 (fun kq e => .inl (by cases e; rfl)))).size (Nat.le_of_eq hb45)
  have ne50 : B ≠ b43 := Nat.ne_of_lt (Nat.lt_of_lt_of_eq (Cur.lt x38) hb45)
  have x38 := Cur.below x38 k46
  refine Fc [.pointer (some ⟨B, 0, none⟩), .slice (some ⟨b43, 0, none⟩) 4 4] (among_any B N (k + 2) (some ⟨b43, 0, none⟩) 4 4 [0, 9, 1, (-1)] _ x38 (by omega) (rd_blk x47 rfl rfl) (sp_ne (by have := ne50; omega)) (by omega)) ?_
  rintro e w56 ⟨x52, rfl, hx53, x58, g57⟩
  have s59 := SG.of_grown s48 g57 (.inl rfl)
  refine ⟨_, rfl, s59, ?_⟩
  apply F.nx
  have hb54 := bnd_of (-1) 9 hx53 (by decide)
  refine Fa (.int .i64 x52) ?_
  apply F.es
  have x6 := Sk s59 x6 (fun e9 => ne9 (Option.some.inj e9).symm)
  have c60 := (SG.fr (B := B) c41 s59 (fun kq e => .inl (by cases e; rfl)))
  apply h5
  refine wp_ret ?_
  try simp only [Exit.then]
  refine ret1 (v := .int .i64 x52) rfl kk ?_
  exact ⟨_, rfl, ⟨by omega, by omega⟩, Cur.mono x58 (by omega), c60⟩
 rw [q40]
 refine Fq (.bool false) (r_pick (b := false) rfl ek ek) ?_
 apply F.es
 have x6 := Sk s39 x6 (fun e9 => ne9 (Option.some.inj e9).symm)
 have c61 := (SG.fr (B := B) c10 s39 (fun kq e => .inl (by cases e; rfl)))
 apply h3
 refine wp_cond_false ek ?_
 apply wp_skip
 apply h2
 refine wk fun K6 h6 => ?_
 refine W.region_plain (row := (some B)) [(0, false), (1, false), (2, false), (3, true), (4, false), (5, false)] kk ?_
 have s62 := SG.self w36 (some B)
 refine Fv (.pointer (some ⟨B, 0, none⟩)) ?_
 refine Fq (.pointer (some ⟨b2, 0, none⟩)) (r_field0 rfl ek kk) ?_
 refine Fl (.int .i64 m) (sgS (blk_cell (j := 0) x6 kk) (fun e9 => ne9 (Option.some.inj e9).symm)) ?_
 refine Fc [.pointer (some ⟨B, 0, none⟩), .int .i64 m] (pick_any B N (k + 2) m _ x38 (by omega) (by omega)) ?_
 rintro e w66 ⟨x63, rfl, hx64, x68, g67⟩
 have s69 := SG.of_grown s62 g67 (.inl rfl)
 refine ⟨_, rfl, s69, ?_⟩
 apply F.nx
 refine Fq (.int .i64 (1 + x63)) (r_add (m := 1) (n := x63) (z := 1 + x63) rfl ek ek (rfl) (by omega)) ?_
 refine Fa (.int .i64 (1 + x63)) ?_
 apply F.es
 have c70 := (SG.fr (B := B) c61 s69 (fun kq e => .inl (by cases e; rfl)))
 apply h6
 refine wp_ret ?_
 try simp only [Exit.then]
 refine ret1 (v := .int .i64 (1 + x63)) rfl kk ?_
 exact ⟨_, rfl, ⟨by omega, by omega⟩, Cur.mono x68 (by omega), c70⟩
set_option maxRecDepth 100000 in
set_option maxHeartbeats 8000000 in
theorem DrawIsValidNetwork_any (A : Option Addr) (n c : Nat) (zs : List Int) (w : World) (hcode : Rd w 1 A n (bytesV zs)) (hz : ∀ z ∈ zs, 0 ≤ z ∧ z < 256) (hn : n ≤ 4611686018427387904) :
    Calls Tryd.prog 44 #[.slice A n c] w fun e w' => ∃ (m : Int) (A' : Option Addr) (n' c' : Nat) (ps : List Pp), e = .returned (.agg #[.int .i64 m, .slice A' n' c']) ∧ w'.ownsRow w.heap.size 38 4 (.slice A' n' c') n' (pipesV ps) ∧ smD 30 m ps ∧ Below w.heap.size w w' := by
 have hl := rd_bytes_len hcode
 go_enter Tryd.func44, Tryd.ntmps44
 refine F.begin 9 [(0, .slice A n c)] (fun U0 => ?_)
 refine wk fun K1 h1 => ?_
 refine W.region_plain (row := none) [(0, true)] kk ?_
 have s1 := SG.self w none
 refine W.sn (fun b => .pointer (some ⟨b, 0, none⟩)) #[.int .i64 0, .slice none 0 0] 24 s1 rfl kk rfl (fun _ => by kernel_rfl) (fun b2 w3 hb4 k5 x6 s7 => ?_)
 apply F.nx
 have lo8 : w.heap.size ≤ b2 := Nl ((Sb (Below.refl _ _) s1 nkk)).size (Nat.le_of_eq hb4)
 apply F.es
 have c9 := (Sb (Below.refl _ _) s7 nkk)
 apply h1
 refine wk fun K2 h2 => ?_
 refine W.region_plain (row := none) [(0, false), (1, false), (2, true), (3, false)] kk ?_
 have s10 := SG.self w3 none
 refine Fv (.slice A n c) ?_
 refine Fq (.agg #[.slice A n c, .int .i64 0, .int .u64 0]) (r_build rfl (vs := [(0, .slice A n c)]) kk kk) ?_
 refine W.sn (fun b => .pointer (some ⟨b, 0, none⟩)) #[.slice A n c, .int .i64 0, .int .u64 0] 66 s10 rfl kk rfl (fun _ => by kernel_rfl) (fun b11 w12 hb13 k14 x15 s16 => ?_)
 apply F.nx
 have lo17 : w.heap.size ≤ b11 := Nl ((Sb c9 s10 nkk)).size (Nat.le_of_eq hb13)
 have ne18 : b2 ≠ b11 := Nat.ne_of_lt (Nat.lt_of_lt_of_eq (Nat.lt_of_lt_of_le (blk_lt x6) (s10).size) hb13)
 have x19 := Cur.new x15 hcode hz hn ((Sb c9 s16 nkk)) lo17
 have hN : w.heap.size ≤ w.heap.size := Nat.le_refl _
 refine Fa (.pointer (some ⟨b11, 0, none⟩)) ?_
 apply F.es
 have x6 := Sk s16 x6 onn
 have c20 := (Sb c9 s16 nkk)
 apply h2
 refine wk fun K3 h3 => ?_
 refine M.region_plain (row := [(some b11), (some b2)]) [(0, false), (1, true), (2, true)] kk ?_
 have s21 := SM.self w12 [(some b11), (some b2)]
 refine Fv (.pointer (some ⟨b11, 0, none⟩)) ?_
 have z29 := ((SM.belowR c20 s21 (in2 (fun kq e => (by cases e; exact lo17)) (fun kq e => (by cases e; exact lo8))))).size
 have lb33 := (blk_lt x6)
 have lb34 := (Cur.lt x19)
 refine Fc [.pointer (some ⟨b11, 0, none⟩)] (anyNetwork_any b11 w.heap.size 0 _ x19 (by omega)) ?_
 rintro e w36 ⟨m22, A23, n24, c25, ps26, rfl, ⟨ho27, hsm28⟩, x38, g37⟩
 have s39 := SM.of_grown s21 g37 (.inl (by simp))
 refine ⟨_, rfl, s39, ?_⟩
 apply F.nx
 have x6 := (g37.block _ (blk_lt x6) (fun e9 => ne18 (Option.some.inj e9))).trans x6
 have ho30 := own_base (base' := w.heap.size) ho27 z29
 have hl31 := rd_pipes_len (own_rd ho30)
 have hsm28m := hsm28.1
 have hsm28n := hsm28.2.1
 have nb40 : Nb b2 (.slice A23 n24 c25) := nb_lo ho27 lb33
 refine M.ss (v := .agg #[.int .i64 m22, .slice A23 n24 c25]) (j := 0) (news := [.int .i64 m22, .slice A23 n24 c25]) (cs' := #[.int .i64 m22, .slice A23 n24 c25]) s39 rfl kk rfl rfl kk kk x6 kk kk (by simp) kk kk (.inl (by simp)) (fun w42 g43 x44 s45 => ?_)
 have ho46 := own_grown ho30 g43 (fun j e1 e2 => by cases e2; exact nb40 e1.symm)
 apply F.es
 have c47 := (SM.belowR c20 s45 (in2 (fun kq e => (by cases e; exact lo17)) (fun kq e => (by cases e; exact lo8))))
 apply h3
 refine wp_ret ?_
 try simp only [Exit.then]
 refine retC rfl rfl kk kk x44 ?_
 exact ⟨_, _, _, _, _, rfl, ho46, hsm28, c47⟩
set_option maxRecDepth 100000 in
set_option maxHeartbeats 8000000 in
theorem DrawNetworkText_any (A : Option Addr) (n c : Nat) (zs : List Int) (w : World) (hcode : Rd w 1 A n (bytesV zs)) (hz : ∀ z ∈ zs, 0 ≤ z ∧ z < 256) (hn : n ≤ 4611686018427387904) :
    Calls Tryd.prog 12 #[.slice A n c] w fun e w' => ∃ (m : Int) (A' : Option Addr) (n' c' : Nat) (ps : List Pp), e = .returned (.agg #[.int .i64 m, .slice A' n' c']) ∧ w'.ownsRow w.heap.size 38 4 (.slice A' n' c') n' (pipesV ps) ∧ smD 30 m ps ∧ Below w.heap.size w w' := by
 have hl := rd_bytes_len hcode
 go_enter Tryd.func12, Tryd.ntmps12
 refine F.begin 5 [(0, .slice A n c)] (fun U0 => ?_)
 refine wk fun K1 h1 => ?_
 refine W.region_plain (row := none) [(0, true)] kk ?_
 have s1 := SG.self w none
 refine W.sn (fun b => .pointer (some ⟨b, 0, none⟩)) #[.int .i64 0, .slice none 0 0] 24 s1 rfl kk rfl (fun _ => by kernel_rfl) (fun b2 w3 hb4 k5 x6 s7 => ?_)
 apply F.nx
 have lo8 : w.heap.size ≤ b2 := Nl ((Sb (Below.refl _ _) s1 nkk)).size (Nat.le_of_eq hb4)
 apply F.es
 have c9 := (Sb (Below.refl _ _) s7 nkk)
 apply h1
 refine wk fun K2 h2 => ?_
 refine W.region_plain (row := (some b2)) [(0, false), (1, true), (2, true)] kk ?_
 have s10 := SG.self w3 (some b2)
 refine Fv (.slice A n c) ?_
 have z18 := ((Sb c9 s10 (fun kq e => by cases e; exact lo8))).size
 have lb22 := (blk_lt x6)
 refine Fc [.slice A n c] (DrawIsValidNetwork_any A n c zs _ (Rk hcode (Sb c9 s10 (fun kq e => by cases e; exact lo8))) hz hn) ?_
 rintro e w24 ⟨m11, A12, n13, c14, ps15, rfl, ho16, hsm17, b23⟩
 have s25 := SG.of_below s10 b23
 refine ⟨_, rfl, s25, ?_⟩
 apply F.nx
 have x6 := (b23.block _ (blk_lt x6)).trans x6
 have ho19 := own_base (base' := w.heap.size) ho16 z18
 have hl20 := rd_pipes_len (own_rd ho19)
 have nb26 : Nb b2 (.slice A12 n13 c14) := nb_lo ho16 lb22
 refine W.ss (v := .agg #[.int .i64 m11, .slice A12 n13 c14]) (j := 0) (news := [.int .i64 m11, .slice A12 n13 c14]) (cs' := #[.int .i64 m11, .slice A12 n13 c14]) s25 rfl kk rfl rfl kk kk x6 kk kk (by simp) kk kk (.inl rfl) (fun w27 g28 x29 s30 => ?_)
 have ho31 := own_grown ho19 g28 (fun j e1 e2 => by cases e2; exact nb26 e1.symm)
 apply F.es
 have c32 := (Sb c9 s30 (fun kq e => by cases e; exact lo8))
 apply h2
 refine wp_ret ?_
 try simp only [Exit.then]
 refine retC rfl rfl kk kk x29 ?_
 exact ⟨_, _, _, _, _, rfl, ho31, hsm17, c32⟩
end Go.Proofs.YtdlcldaogcbnlaaDoor
namespace Go.Proofs.YtdlcldaogcbnlaaDoor
open Go.RowKit
set_option linter.unusedVariables false
set_option linter.unusedSimpArgs false
theorem pos_of_ne {t : ByteArray} (h : ¬ t = (⟨#[]⟩ : ByteArray)) : 1 ≤ t.size := by
  rcases Nat.eq_zero_or_pos t.size with h1 | h1
  · refine absurd ?_ h
    apply ByteArray.ext
    exact Array.eq_empty_of_size_eq_zero h1
  · exact h1
set_option maxRecDepth 100000 in
set_option maxHeartbeats 8000000 in
theorem spoilt_any (B N k : Nat) (t wi : ByteArray) (w : World) (hc : Cur w B N k) (hk : k ≤ 900000000000) (ht : t.size ≤ 1000000) (hw : 1 ≤ wi.size ∧ wi.size ≤ 1000) :
    Calls Tryd.prog 52 #[.pointer (some ⟨B, 0, none⟩), .string t, .string wi] w fun e w' => ∃ s, e = .returned (.string s) ∧ (s.size ≤ t.size + 1) ∧ Cur w' B N (k + 6) ∧ w.grownBy w' (some B) := by
  have hN := Cur.hN hc
  go_enter Tryd.func52, Tryd.ntmps52
  refine wp_seq_k (fun K1 h1 => ?_)
  refine W.region_quiet [(0, false)] (by kernel_rfl) ?_
  refine W.as (v := .string (⟨#[]⟩ : ByteArray)) (h := ?_)
  refine W.endF 57 [(0, .pointer (some ⟨B, 0, none⟩)), (1, .string t), (2, .string wi), (6, .string (⟨#[]⟩ : ByteArray))] (fun U1 => ?_)
  apply h1
  refine wp_seq_k (fun K2 h2 => ?_)
  refine wp_seq_k (fun K3 h3 => ?_)
  refine W.region_quiet [(0, false), (1, false)] (by kernel_rfl) ?_
  refine F.mv (v := .string t) (h := ?_)
  by_cases q2 : t = (⟨#[]⟩ : ByteArray)
  · refine F.q (v := .bool true) (hr := (r_eqlS (s := t) (r := (⟨#[]⟩ : ByteArray)) rfl (ev_any (by kernel_rfl)) (ev_any (by kernel_rfl)) (dt q2))) (h := ?_)
    refine F.endF [(0, .pointer (some ⟨B, 0, none⟩)), (1, .string t), (2, .string wi), (6, .string (⟨#[]⟩ : ByteArray)), (10, .bool true)] (fun U3 => ?_)
    apply h3
    refine wp_cond_true (by kernel_rfl) ?_
    refine wp_seq_k (fun K4 h4 => ?_)
    refine W.region_quiet [(0, false), (1, false), (2, false)] (by kernel_rfl) ?_
    refine F.mv (v := .string wi) (h := ?_)
    refine F.q (v := .string (wi.extract 0 1)) (hr := (r_toS (s := wi) (h := 1) rfl (ev_any (by kernel_rfl)) (ev_any (by kernel_rfl)) (by kernel_rfl) (by (try simp only [ByteArray.size_append, ByteArray.size_extract]); omega))) (h := ?_)
    refine F.as (v := .string (wi.extract 0 1)) (h := ?_)
    refine F.endF [(0, .pointer (some ⟨B, 0, none⟩)), (1, .string t), (2, .string wi), (6, .string (wi.extract 0 1)), (10, .bool true)] (fun U4 => ?_)
    apply h4
    refine wp_ret ?_
    try simp only [Exit.then]
    refine ret1 (v := .string (wi.extract 0 1)) rfl (by kernel_rfl) ?_
    exact ⟨_, rfl, (by (try simp only [ByteArray.size_append, ByteArray.size_extract]); omega), Cur.mono hc (by omega), (World.grownBy.refl _ _)⟩
  · have hpos := pos_of_ne q2
    refine F.q (v := .bool false) (hr := (r_eqlS (s := t) (r := (⟨#[]⟩ : ByteArray)) rfl (ev_any (by kernel_rfl)) (ev_any (by kernel_rfl)) (df q2))) (h := ?_)
    refine F.endF [(0, .pointer (some ⟨B, 0, none⟩)), (1, .string t), (2, .string wi), (6, .string (⟨#[]⟩ : ByteArray)), (10, .bool false)] (fun U5 => ?_)
    apply h3
    refine wp_cond_false (by kernel_rfl) ?_
    apply wp_skip
    apply h2
    refine wp_seq_k (fun K5 h5 => ?_)
    refine W.region_plain (row := (some B)) [(0, false), (1, false), (2, false), (3, true), (4, false)] (by kernel_rfl) ?_
    have s6 := SG.self w (some B)
    refine F.mv (v := .pointer (some ⟨B, 0, none⟩)) (h := ?_)
    refine F.mv (v := .string t) (h := ?_)
    refine F.q (v := .int .i64 ((t.size : Nat) : Int)) (hr := (r_lenS (s := t) rfl (ev_any (by kernel_rfl)) (by kernel_rfl))) (h := ?_)
    refine W.sc (vs := [.pointer (some ⟨B, 0, none⟩), .int .i64 ((t.size : Nat) : Int)]) rfl rfl (by kernel_rfl) (by kernel_rfl) (by kernel_rfl) rfl (pick_nat B N k ((t.size : Nat) : Int) _ hc (by omega) (by omega)) ?_
    rintro e w10 ⟨x7, rfl, hx8, x12, g11⟩
    have s13 := SG.of_grown s6 g11 (.inl rfl)
    refine ⟨_, rfl, s13, ?_⟩
    apply F.nx
    refine F.as (v := .int .i64 ((x7 : Nat) : Int)) (h := ?_)
    refine F.endF [(0, .pointer (some ⟨B, 0, none⟩)), (1, .string t), (2, .string wi), (6, .string (⟨#[]⟩ : ByteArray)), (7, .int .i64 ((x7 : Nat) : Int)), (10, .bool false)] (fun U14 => ?_)
    have c15 := (SG.fr (B := B) (World.grownBy.refl _ _) s13 (fun kq e => .inl (by cases e; rfl)))
    apply h5
    refine wp_seq_k (fun K6 h6 => ?_)
    refine W.region_plain (row := (some B)) [(0, false), (1, false), (2, false), (3, false), (4, true), (5, false), (6, false), (7, false)] (by kernel_rfl) ?_
    have s16 := SG.self w10 (some B)
    refine F.mv (v := .string wi) (h := ?_)
    refine F.mv (v := .pointer (some ⟨B, 0, none⟩)) (h := ?_)
    refine F.mv (v := .string wi) (h := ?_)
    refine F.q (v := .int .i64 ((wi.size : Nat) : Int)) (hr := (r_lenS (s := wi) rfl (ev_any (by kernel_rfl)) (by kernel_rfl))) (h := ?_)
    refine W.sc (vs := [.pointer (some ⟨B, 0, none⟩), .int .i64 ((wi.size : Nat) : Int)]) rfl rfl (by kernel_rfl) (by kernel_rfl) (by kernel_rfl) rfl (pick_nat B N (k + 2) ((wi.size : Nat) : Int) _ x12 (by omega) (by omega)) ?_
    rintro e w20 ⟨x17, rfl, hx18, x22, g21⟩
    have s23 := SG.of_grown s16 g21 (.inl rfl)
    refine ⟨_, rfl, s23, ?_⟩
    apply F.nx
    refine F.q (v := .string (wi.extract x17 wi.size)) (hr := (r_fromS (s := wi) (l := x17) rfl (ev_any (by kernel_rfl)) (ev_any (by kernel_rfl)) (by kernel_rfl) (by (try simp only [ByteArray.size_append, ByteArray.size_extract]); omega))) (h := ?_)
    refine F.q (v := .string ((wi.extract x17 wi.size).extract 0 1)) (hr := (r_toS (s := (wi.extract x17 wi.size)) (h := 1) rfl (ev_any (by kernel_rfl)) (ev_any (by kernel_rfl)) (by kernel_rfl) (by (try simp only [ByteArray.size_append, ByteArray.size_extract]); omega))) (h := ?_)
    refine F.as (v := .string ((wi.extract x17 wi.size).extract 0 1)) (h := ?_)
    refine F.endF [(0, .pointer (some ⟨B, 0, none⟩)), (1, .string t), (2, .string wi), (6, .string (⟨#[]⟩ : ByteArray)), (7, .int .i64 ((x7 : Nat) : Int)), (8, .string ((wi.extract x17 wi.size).extract 0 1)), (10, .bool false)] (fun U24 => ?_)
    have c25 := (SG.fr (B := B) c15 s23 (fun kq e => .inl (by cases e; rfl)))
    apply h6
    refine wp_seq_k (fun K7 h7 => ?_)
    refine wp_seq_k (fun K8 h8 => ?_)
    refine W.region_plain (row := (some B)) [(0, false), (1, true)] (by kernel_rfl) ?_
    have s26 := SG.self w20 (some B)
    refine F.mv (v := .pointer (some ⟨B, 0, none⟩)) (h := ?_)
    refine W.sc (vs := [.pointer (some ⟨B, 0, none⟩), .int .i64 3]) rfl rfl (by kernel_rfl) (by kernel_rfl) (by kernel_rfl) rfl (pick_nat B N ((k + 2) + 2) 3 _ x22 (by omega) (by omega)) ?_
    rintro e w30 ⟨x27, rfl, hx28, x32, g31⟩
    have s33 := SG.of_grown s26 g31 (.inl rfl)
    refine ⟨_, rfl, s33, ?_⟩
    apply F.nx
    refine F.endF [(0, .pointer (some ⟨B, 0, none⟩)), (1, .string t), (2, .string wi), (6, .string (⟨#[]⟩ : ByteArray)), (7, .int .i64 ((x7 : Nat) : Int)), (8, .string ((wi.extract x17 wi.size).extract 0 1)), (10, .bool false), (25, .int .i64 ((x27 : Nat) : Int))] (fun U34 => ?_)
    have c35 := (SG.fr (B := B) c25 s33 (fun kq e => .inl (by cases e; rfl)))
    apply h8
    refine wp_block ?_
    refine wp_seq_k (fun K9 h9 => ?_)
    refine W.region_quiet [(0, false), (1, false)] (by kernel_rfl) ?_
    by_cases q36 : (((x27 : Nat) : Int) : Int) = (0 : Int)
    · refine F.q (v := .bool true) (hr := (r_eql (m := ((x27 : Nat) : Int)) (n := 0) rfl (ev_any (by kernel_rfl)) (ev_any (by kernel_rfl)) (dt q36))) (h := ?_)
      refine F.as (v := .bool true) (h := ?_)
      refine F.endF [(0, .pointer (some ⟨B, 0, none⟩)), (1, .string t), (2, .string wi), (6, .string (⟨#[]⟩ : ByteArray)), (7, .int .i64 ((x7 : Nat) : Int)), (8, .string ((wi.extract x17 wi.size).extract 0 1)), (10, .bool false), (25, .int .i64 ((x27 : Nat) : Int)), (26, .bool true)] (fun U37 => ?_)
      apply h9
      refine wp_cond_true (by kernel_rfl) ?_
      refine wp_seq_k (fun K10 h10 => ?_)
      refine W.region_sch (row := none) (Sch.of [(0, false), (1, false), (2, false), (3, false), (4, false), (5, false), (6, false), (7, false), (8, false), (9, false)]) (by kernel_rfl) (by kernel_rfl) (fun _ d _ _ _ h => by cases d <;> exact h) (by kernel_rfl) (fun w38 e39 s40 => ?_)
      refine F.mv (v := .string t) (h := ?_)
      refine F.mv (v := .int .i64 ((x7 : Nat) : Int)) (h := ?_)
      refine F.q (v := .string (t.extract 0 x7)) (hr := (r_toS (s := t) (h := x7) rfl (ev_any (by kernel_rfl)) (ev_any (by kernel_rfl)) (by kernel_rfl) (by (try simp only [ByteArray.size_append, ByteArray.size_extract]); omega))) (h := ?_)
      refine F.mv (v := .string ((wi.extract x17 wi.size).extract 0 1)) (h := ?_)
      refine F.q (v := .string ((t.extract 0 x7) ++ ((wi.extract x17 wi.size).extract 0 1))) (hr := (r_addS (s := (t.extract 0 x7)) (r := ((wi.extract x17 wi.size).extract 0 1)) rfl (ev_any (by kernel_rfl)) (ev_any (by kernel_rfl)) (by (try simp only [ByteArray.size_append, ByteArray.size_extract]); omega))) (h := ?_)
      refine F.mv (v := .string t) (h := ?_)
      refine F.mv (v := .int .i64 ((x7 : Nat) : Int)) (h := ?_)
      refine F.q (v := .string (t.extract x7 t.size)) (hr := (r_fromS (s := t) (l := x7) rfl (ev_any (by kernel_rfl)) (ev_any (by kernel_rfl)) (by kernel_rfl) (by (try simp only [ByteArray.size_append, ByteArray.size_extract]); omega))) (h := ?_)
      refine F.q (v := .string (((t.extract 0 x7) ++ ((wi.extract x17 wi.size).extract 0 1)) ++ (t.extract x7 t.size))) (hr := (r_addS (s := ((t.extract 0 x7) ++ ((wi.extract x17 wi.size).extract 0 1))) (r := (t.extract x7 t.size)) rfl (ev_any (by kernel_rfl)) (ev_any (by kernel_rfl)) (by (try simp only [ByteArray.size_append, ByteArray.size_extract]); omega))) (h := ?_)
      refine F.as (v := .string (((t.extract 0 x7) ++ ((wi.extract x17 wi.size).extract 0 1)) ++ (t.extract x7 t.size))) (h := ?_)
      refine F.endF [(0, .pointer (some ⟨B, 0, none⟩)), (1, .string t), (2, .string wi), (6, .string (((t.extract 0 x7) ++ ((wi.extract x17 wi.size).extract 0 1)) ++ (t.extract x7 t.size))), (7, .int .i64 ((x7 : Nat) : Int)), (8, .string ((wi.extract x17 wi.size).extract 0 1)), (10, .bool false), (25, .int .i64 ((x27 : Nat) : Int)), (26, .bool true)] (fun U41 => ?_)
      have x32 := Cur.below x32 (SG.below s40)
      have c42 := (SG.fr (B := B) c35 s40 nkk)
      apply h10
      refine wp_ret ?_
      try simp only [Exit.then, Exit.inBlock]
      refine ret1 (v := .string (((t.extract 0 x7) ++ ((wi.extract x17 wi.size).extract 0 1)) ++ (t.extract x7 t.size))) rfl (by kernel_rfl) ?_
      exact ⟨_, rfl, (by (try simp only [ByteArray.size_append, ByteArray.size_extract]); omega), Cur.mono x32 (by omega), c42⟩
    · refine F.q (v := .bool false) (hr := (r_eql (m := ((x27 : Nat) : Int)) (n := 0) rfl (ev_any (by kernel_rfl)) (ev_any (by kernel_rfl)) (df q36))) (h := ?_)
      refine F.as (v := .bool false) (h := ?_)
      refine F.endF [(0, .pointer (some ⟨B, 0, none⟩)), (1, .string t), (2, .string wi), (6, .string (⟨#[]⟩ : ByteArray)), (7, .int .i64 ((x7 : Nat) : Int)), (8, .string ((wi.extract x17 wi.size).extract 0 1)), (10, .bool false), (25, .int .i64 ((x27 : Nat) : Int)), (26, .bool false)] (fun U43 => ?_)
      apply h9
      refine wp_cond_false (by kernel_rfl) ?_
      refine wp_seq_k (fun K11 h11 => ?_)
      refine W.region_quiet [(0, false), (1, false)] (by kernel_rfl) ?_
      by_cases q44 : (((x27 : Nat) : Int) : Int) = (1 : Int)
      · refine F.q (v := .bool true) (hr := (r_eql (m := ((x27 : Nat) : Int)) (n := 1) rfl (ev_any (by kernel_rfl)) (ev_any (by kernel_rfl)) (dt q44))) (h := ?_)
        refine F.as (v := .bool true) (h := ?_)
        refine F.endF [(0, .pointer (some ⟨B, 0, none⟩)), (1, .string t), (2, .string wi), (6, .string (⟨#[]⟩ : ByteArray)), (7, .int .i64 ((x7 : Nat) : Int)), (8, .string ((wi.extract x17 wi.size).extract 0 1)), (10, .bool false), (25, .int .i64 ((x27 : Nat) : Int)), (26, .bool false), (37, .bool true)] (fun U45 => ?_)
        apply h11
        refine wp_cond_true (by kernel_rfl) ?_
        refine wp_seq_k (fun K12 h12 => ?_)
        refine W.region_sch (row := none) (Sch.of [(0, false), (1, false), (2, false), (3, false), (4, false), (5, false), (6, false), (7, false), (8, false), (9, false), (10, false)]) (by kernel_rfl) (by kernel_rfl) (fun _ d _ _ _ h => by cases d <;> exact h) (by kernel_rfl) (fun w46 e47 s48 => ?_)
        refine F.mv (v := .string t) (h := ?_)
        refine F.mv (v := .int .i64 ((x7 : Nat) : Int)) (h := ?_)
        refine F.q (v := .string (t.extract 0 x7)) (hr := (r_toS (s := t) (h := x7) rfl (ev_any (by kernel_rfl)) (ev_any (by kernel_rfl)) (by kernel_rfl) (by (try simp only [ByteArray.size_append, ByteArray.size_extract]); omega))) (h := ?_)
        refine F.mv (v := .string ((wi.extract x17 wi.size).extract 0 1)) (h := ?_)
        refine F.q (v := .string ((t.extract 0 x7) ++ ((wi.extract x17 wi.size).extract 0 1))) (hr := (r_addS (s := (t.extract 0 x7)) (r := ((wi.extract x17 wi.size).extract 0 1)) rfl (ev_any (by kernel_rfl)) (ev_any (by kernel_rfl)) (by (try simp only [ByteArray.size_append, ByteArray.size_extract]); omega))) (h := ?_)
        refine F.mv (v := .string t) (h := ?_)
        refine F.mv (v := .int .i64 ((x7 : Nat) : Int)) (h := ?_)
        refine F.q (v := .int .i64 ((x7 + 1 : Nat) : Int)) (hr := (r_add (m := ((x7 : Nat) : Int)) (n := 1) (z := ((x7 + 1 : Nat) : Int)) rfl (ev_any (by kernel_rfl)) (ev_any (by kernel_rfl)) (by omega) (by omega))) (h := ?_)
        refine F.q (v := .string (t.extract (x7 + 1) t.size)) (hr := (r_fromS (s := t) (l := x7 + 1) rfl (ev_any (by kernel_rfl)) (ev_any (by kernel_rfl)) (by kernel_rfl) (by (try simp only [ByteArray.size_append, ByteArray.size_extract]); omega))) (h := ?_)
        refine F.q (v := .string (((t.extract 0 x7) ++ ((wi.extract x17 wi.size).extract 0 1)) ++ (t.extract (x7 + 1) t.size))) (hr := (r_addS (s := ((t.extract 0 x7) ++ ((wi.extract x17 wi.size).extract 0 1))) (r := (t.extract (x7 + 1) t.size)) rfl (ev_any (by kernel_rfl)) (ev_any (by kernel_rfl)) (by (try simp only [ByteArray.size_append, ByteArray.size_extract]); omega))) (h := ?_)
        refine F.as (v := .string (((t.extract 0 x7) ++ ((wi.extract x17 wi.size).extract 0 1)) ++ (t.extract (x7 + 1) t.size))) (h := ?_)
        refine F.endF [(0, .pointer (some ⟨B, 0, none⟩)), (1, .string t), (2, .string wi), (6, .string (((t.extract 0 x7) ++ ((wi.extract x17 wi.size).extract 0 1)) ++ (t.extract (x7 + 1) t.size))), (7, .int .i64 ((x7 : Nat) : Int)), (8, .string ((wi.extract x17 wi.size).extract 0 1)), (10, .bool false), (25, .int .i64 ((x27 : Nat) : Int)), (26, .bool false), (37, .bool true)] (fun U49 => ?_)
        have x32 := Cur.below x32 (SG.below s48)
        have c50 := (SG.fr (B := B) c35 s48 nkk)
        apply h12
        refine wp_ret ?_
        try simp only [Exit.then, Exit.inBlock]
        refine ret1 (v := .string (((t.extract 0 x7) ++ ((wi.extract x17 wi.size).extract 0 1)) ++ (t.extract (x7 + 1) t.size))) rfl (by kernel_rfl) ?_
        exact ⟨_, rfl, (by (try simp only [ByteArray.size_append, ByteArray.size_extract]); omega), Cur.mono x32 (by omega), c50⟩
      · refine F.q (v := .bool false) (hr := (r_eql (m := ((x27 : Nat) : Int)) (n := 1) rfl (ev_any (by kernel_rfl)) (ev_any (by kernel_rfl)) (df q44))) (h := ?_)
        refine F.as (v := .bool false) (h := ?_)
        refine F.endF [(0, .pointer (some ⟨B, 0, none⟩)), (1, .string t), (2, .string wi), (6, .string (⟨#[]⟩ : ByteArray)), (7, .int .i64 ((x7 : Nat) : Int)), (8, .string ((wi.extract x17 wi.size).extract 0 1)), (10, .bool false), (25, .int .i64 ((x27 : Nat) : Int)), (26, .bool false), (37, .bool false)] (fun U51 => ?_)
        apply h11
        refine wp_cond_false (by kernel_rfl) ?_
        apply wp_skip
        apply h7
        refine wp_seq_k (fun K13 h13 => ?_)
        refine W.region_sch (row := none) (Sch.of [(0, false), (1, false), (2, false), (3, false), (4, false), (5, false), (6, false), (7, false), (8, false)]) (by kernel_rfl) (by kernel_rfl) (fun _ d _ _ _ h => by cases d <;> exact h) (by kernel_rfl) (fun w52 e53 s54 => ?_)
        refine F.mv (v := .string t) (h := ?_)
        refine F.mv (v := .int .i64 ((x7 : Nat) : Int)) (h := ?_)
        refine F.q (v := .string (t.extract 0 x7)) (hr := (r_toS (s := t) (h := x7) rfl (ev_any (by kernel_rfl)) (ev_any (by kernel_rfl)) (by kernel_rfl) (by (try simp only [ByteArray.size_append, ByteArray.size_extract]); omega))) (h := ?_)
        refine F.mv (v := .string t) (h := ?_)
        refine F.mv (v := .int .i64 ((x7 : Nat) : Int)) (h := ?_)
        refine F.q (v := .int .i64 ((x7 + 1 : Nat) : Int)) (hr := (r_add (m := ((x7 : Nat) : Int)) (n := 1) (z := ((x7 + 1 : Nat) : Int)) rfl (ev_any (by kernel_rfl)) (ev_any (by kernel_rfl)) (by omega) (by omega))) (h := ?_)
        refine F.q (v := .string (t.extract (x7 + 1) t.size)) (hr := (r_fromS (s := t) (l := x7 + 1) rfl (ev_any (by kernel_rfl)) (ev_any (by kernel_rfl)) (by kernel_rfl) (by (try simp only [ByteArray.size_append, ByteArray.size_extract]); omega))) (h := ?_)
        refine F.q (v := .string ((t.extract 0 x7) ++ (t.extract (x7 + 1) t.size))) (hr := (r_addS (s := (t.extract 0 x7)) (r := (t.extract (x7 + 1) t.size)) rfl (ev_any (by kernel_rfl)) (ev_any (by kernel_rfl)) (by (try simp only [ByteArray.size_append, ByteArray.size_extract]); omega))) (h := ?_)
        refine F.as (v := .string ((t.extract 0 x7) ++ (t.extract (x7 + 1) t.size))) (h := ?_)
        refine F.endF [(0, .pointer (some ⟨B, 0, none⟩)), (1, .string t), (2, .string wi), (6, .string ((t.extract 0 x7) ++ (t.extract (x7 + 1) t.size))), (7, .int .i64 ((x7 : Nat) : Int)), (8, .string ((wi.extract x17 wi.size).extract 0 1)), (10, .bool false), (25, .int .i64 ((x27 : Nat) : Int)), (26, .bool false), (37, .bool false)] (fun U55 => ?_)
        have x32 := Cur.below x32 (SG.below s54)
        have c56 := (SG.fr (B := B) c35 s54 nkk)
        apply h13
        refine wp_ret ?_
        try simp only [Exit.then]
        refine ret1 (v := .string ((t.extract 0 x7) ++ (t.extract (x7 + 1) t.size))) rfl (by kernel_rfl) ?_
        exact ⟨_, rfl, (by (try simp only [ByteArray.size_append, ByteArray.size_extract]); omega), Cur.mono x32 (by omega), c56⟩
end Go.Proofs.YtdlcldaogcbnlaaDoor
namespace Go.Proofs.YtdlcldaogcbnlaaDoor
open Go.RowKit
set_option linter.unusedVariables false
def itoaB (n : Int) : ByteArray := ⟨(Lib.itoa n).toArray⟩
theorem bytes_ext {a b : ByteArray} (h : a.data.toList = b.data.toList) : a = b := ByteArray.ext (Array.toList_inj.1 h)
theorem itoaB_list (n : Int) : (itoaB n).data.toList = Lib.itoa n := by simp [itoaB]
theorem itoaB_size (n : Int) : (itoaB n).size = (Lib.itoa n).length := by rw [Lib.size_eq, itoaB_list]
theorem itoaB_le {n : Int} (h0 : -9223372036854775808 ≤ n) (h1 : n ≤ 9223372036854775807) : (itoaB n).size ≤ 21 := by rw [itoaB_size]; exact Lib.itoa_length_le n h0 h1
theorem dig_cut {k : Nat} (h : k < 10) : (⟨#[48, 49, 50, 51, 52, 53, 54, 55, 56, 57]⟩ : ByteArray).extract k (k + 1) = ⟨#[UInt8.ofNat (48 + k)]⟩ := by
  apply bytes_ext
  match k, h with
  | 0, _ | 1, _ | 2, _ | 3, _ | 4, _ | 5, _ | 6, _ | 7, _ | 8, _ | 9, _ => rfl
theorem itoaB_small {k : Nat} (h : k < 10) : itoaB ((k : Nat) : Int) = ⟨#[UInt8.ofNat (48 + k)]⟩ := by
  apply bytes_ext
  rw [itoaB_list, Lib.itoa_nonneg, Lib.decDigits, dif_pos h]
theorem itoaB_step {k : Nat} (h : ¬ k < 10) : itoaB ((k : Nat) : Int) = itoaB ((k / 10 : Nat) : Int) ++ ⟨#[UInt8.ofNat (48 + k % 10)]⟩ := by
  apply bytes_ext
  rw [ByteArray.data_append, Array.toList_append, itoaB_list, itoaB_list, Lib.itoa_nonneg, Lib.itoa_nonneg, Lib.decDigits, dif_neg h]
theorem itoaB_neg {k : Nat} (h : 1 ≤ k) : itoaB (-((k : Nat) : Int)) = (⟨#[45]⟩ : ByteArray) ++ itoaB ((k : Nat) : Int) := by
  apply bytes_ext
  rw [ByteArray.data_append, Array.toList_append, itoaB_list, itoaB_list, Lib.itoa_nonneg, Lib.itoa_neg k h]; rfl
theorem digitVal_of {d : Nat} (h : d < 10) : Lib.digitVal (UInt8.ofNat (48 + d)) = some d := by
  unfold Lib.digitVal
  have : (UInt8.ofNat (48 + d)).toNat = 48 + d := by simp; omega
  rw [this, if_pos (by omega)]; congr 1; omega
theorem decFrom_app (l : List UInt8) (b : UInt8) : ∀ acc, Lib.decFrom acc (l ++ [b]) = (Lib.decFrom acc l).bind (fun n => (Lib.digitVal b).map (fun d => n * 10 + d)) := by
  induction l with
  | nil => intro acc; simp only [List.nil_append, Lib.decFrom]; cases Lib.digitVal b <;> rfl
  | cons a t ih =>
    intro acc
    simp only [List.cons_append, Lib.decFrom]
    cases Lib.digitVal a with
    | none => rfl
    | some d => exact ih _
theorem decFrom_digits : ∀ u : Nat, Lib.decFrom 0 (Lib.decDigits u) = some u := by
  intro u
  induction u using Nat.strongRecOn with
  | ind u ih =>
    rw [Lib.decDigits]
    split
    · rename_i h
      show Lib.decFrom 0 [UInt8.ofNat (48 + u)] = some u
      unfold Lib.decFrom
      rw [digitVal_of h]
      simp [Lib.decFrom]
    · rename_i h
      rw [decFrom_app, ih (u / 10) (by omega), digitVal_of (by omega)]
      simp; omega
theorem digits_in : ∀ (u : Nat) (b : UInt8), b ∈ Lib.decDigits u → 48 ≤ b.toNat ∧ b.toNat ≤ 57 := by
  intro u
  induction u using Nat.strongRecOn with
  | ind u ih =>
    intro b hb
    have hd : ∀ d : Nat, d < 10 → 48 ≤ (UInt8.ofNat (48 + d)).toNat ∧ (UInt8.ofNat (48 + d)).toNat ≤ 57 := fun d h => by simp; omega
    rw [Lib.decDigits] at hb
    split at hb
    · rename_i h
      obtain rfl : b = UInt8.ofNat (48 + u) := by simpa using hb
      exact hd u h
    · rename_i h
      rcases List.mem_append.1 hb with h1 | h1
      · exact ih (u / 10) (by omega) b h1
      · obtain rfl : b = UInt8.ofNat (48 + u % 10) := by simpa using h1
        exact hd _ (by omega)
theorem digits_len_pos (u : Nat) : 0 < (Lib.decDigits u).length := by rw [Lib.decDigits_length]; exact Lib.nDigits_pos u
theorem digits_len6 {u : Nat} (h : u ≤ 999999) : (Lib.decDigits u).length ≤ 6 := by
  rw [Lib.decDigits_length]
  rcases Nat.lt_or_ge u 10 with h1 | h1
  · rw [Lib.nDigits_small h1]; omega
  rw [Lib.nDigits_big (by omega)]
  rcases Nat.lt_or_ge (u / 10) 10 with h2 | h2
  · rw [Lib.nDigits_small h2]; omega
  rw [Lib.nDigits_big (by omega)]
  rcases Nat.lt_or_ge (u / 10 / 10) 10 with h3 | h3
  · rw [Lib.nDigits_small h3]; omega
  rw [Lib.nDigits_big (by omega)]
  rcases Nat.lt_or_ge (u / 10 / 10 / 10) 10 with h4 | h4
  · rw [Lib.nDigits_small h4]; omega
  rw [Lib.nDigits_big (by omega)]
  rcases Nat.lt_or_ge (u / 10 / 10 / 10 / 10) 10 with h5 | h5
  · rw [Lib.nDigits_small h5]; omega
  rw [Lib.nDigits_big (by omega), Lib.nDigits_small (by omega)]; omega
theorem decNat_digits (u : Nat) : Lib.decNat (Lib.decDigits u) = some u := by
  unfold Lib.decNat
  have := digits_len_pos u
  cases h : Lib.decDigits u with
  | nil => rw [h] at this; simp at this
  | cons b r => rw [← h]; rw [if_neg (by rw [h]; simp)]; exact decFrom_digits u
theorem atoi_itoa (n : Int) : Lib.atoi (Lib.itoa n) = some n := by
  by_cases h : n < 0
  · obtain ⟨k, hk⟩ : ∃ k : Nat, n = -(k : Int) := ⟨n.natAbs, by omega⟩
    subst hk
    rw [Lib.itoa_neg k (by omega)]
    simp [Lib.atoi, decNat_digits]
  · obtain ⟨k, rfl⟩ := Int.eq_ofNat_of_zero_le (show 0 ≤ n by omega)
    rw [Lib.itoa_nonneg]
    have h1 := decNat_digits k
    cases hd : Lib.decDigits k with
    | nil => have := digits_len_pos k; rw [hd] at this; simp at this
    | cons b r =>
      have hb := digits_in k b (by rw [hd]; exact List.mem_cons_self ..)
      rw [hd] at h1
      have e1 : (b == 45) = false := beq_eq_false_iff_ne.2 (fun e => by subst e; simp at hb)
      have e2 : (b == 43) = false := beq_eq_false_iff_ne.2 (fun e => by subst e; simp at hb)
      simp [Lib.atoi, e1, e2, h1]
theorem itoaB_inj {m n : Int} (h : itoaB m = itoaB n) : m = n := by
  have h1 := congrArg (fun s => Lib.atoi s.data.toList) h
  simp only [itoaB_list, atoi_itoa] at h1
  exact Option.some.inj h1
def isNum (s : ByteArray) : Prop := ∃ m : Int, (-999999 ≤ m ∧ m ≤ 999999) ∧ itoaB m = s
def num7 (s : ByteArray) : Option Int := match Lib.atoi s.data.toList with
  | some m => if -999999 ≤ m ∧ m ≤ 999999 ∧ itoaB m = s then some m else none
  | none => none
def ParseInt_v1 (s : ByteArray) : Bool := (num7 s).isSome
def ParseInt_v0 (s : ByteArray) : Int := (num7 s).getD 0
theorem num7_yes {s : ByteArray} {m : Int} (h : -999999 ≤ m ∧ m ≤ 999999) (e : itoaB m = s) : num7 s = some m := by
  have h1 : Lib.atoi s.data.toList = some m := by rw [← e, itoaB_list, atoi_itoa]
  unfold num7
  rw [h1]
  exact if_pos ⟨h.1, h.2, e⟩
theorem num_yes {s : ByteArray} {m : Int} (h : -999999 ≤ m ∧ m ≤ 999999) (e : itoaB m = s) : ParseInt_v1 s = true ∧ ParseInt_v0 s = m := by
  unfold ParseInt_v1 ParseInt_v0
  rw [num7_yes h e]; exact ⟨rfl, rfl⟩
theorem num_no {s : ByteArray} (h : ¬ isNum s) : ParseInt_v1 s = false ∧ ParseInt_v0 s = 0 := by
  have : num7 s = none := by
    unfold num7
    split
    · rename_i m _
      exact if_neg (fun hm => h ⟨m, ⟨hm.1, hm.2.1⟩, hm.2.2⟩)
    · rfl
  unfold ParseInt_v1 ParseInt_v0
  rw [this]; exact ⟨rfl, rfl⟩
def stripB (s : ByteArray) : ByteArray := if 1 < s.size ∧ bAt s 0 = 45 then s.extract 1 s.size else s
theorem bAt_list (s : ByteArray) (k : Nat) : bAt s k = (s.data.toList.getD k 0).toNat := rfl
theorem num_strip {s : ByteArray} (h : isNum s) : ∃ u : Nat, u ≤ 999999 ∧ (stripB s).data.toList = Lib.decDigits u ∧ ((stripB s).size < s.size → s = itoaB (-(u : Int))) ∧ (¬ (stripB s).size < s.size → s = itoaB (u : Int)) ∧ s.size ≤ 7 := by
  obtain ⟨m, hm, rfl⟩ := h
  by_cases h0 : m < 0
  · obtain ⟨k, hk⟩ : ∃ k : Nat, m = -(k : Int) := ⟨m.natAbs, by omega⟩
    subst hk
    have hl : (itoaB (-(k : Int))).data.toList = 45 :: Lib.decDigits k := by rw [itoaB_list, Lib.itoa_neg k (by omega)]
    have hs : (itoaB (-(k : Int))).size = (Lib.decDigits k).length + 1 := by rw [Lib.size_eq, hl, List.length_cons]
    have hp := digits_len_pos k
    have hp6 := digits_len6 (u := k) (by omega)
    have hst : (stripB (itoaB (-(k : Int)))).data.toList = Lib.decDigits k := by
      unfold stripB
      rw [if_pos ⟨by omega, by rw [bAt_list, hl]; rfl⟩, Lib.extract_data, hl]
      simp [List.take_of_length_le, hs]
    refine ⟨k, by omega, hst, fun _ => rfl, fun h => ?_, by omega⟩
    exfalso; apply h
    rw [Lib.size_eq, hst, hs]; omega
  · obtain ⟨k, rfl⟩ := Int.eq_ofNat_of_zero_le (show 0 ≤ m by omega)
    have hl : (itoaB ((k : Nat) : Int)).data.toList = Lib.decDigits k := by rw [itoaB_list, Lib.itoa_nonneg]
    have hp6 := digits_len6 (u := k) (by omega)
    have hs : (itoaB ((k : Nat) : Int)).size = (Lib.decDigits k).length := by rw [Lib.size_eq, hl]
    have hst : stripB (itoaB ((k : Nat) : Int)) = itoaB ((k : Nat) : Int) := by
      unfold stripB
      rw [if_neg]
      intro ⟨h1, h2⟩
      rw [bAt_list, hl] at h2
      cases hd : Lib.decDigits k with
      | nil => rw [hd] at h2; simp at h2
      | cons b r =>
        have hb := digits_in k b (by rw [hd]; exact List.mem_cons_self ..)
        rw [hd] at h2; simp at h2; omega
    exact ⟨k, by omega, by rw [hst, hl], fun h => by rw [hst] at h; omega, fun _ => rfl, by omega⟩
theorem bAt_at {t : ByteArray} {i : Nat} (h : i < t.size) : ∃ b, t.data.toList[i]? = some b ∧ bAt t i = b.toNat := by
  have h1 : i < t.data.toList.length := by simpa using h
  exact ⟨_, List.getElem?_eq_getElem h1, by rw [bAt_list, List.getD_eq_getElem?_getD, List.getElem?_eq_getElem h1]; rfl⟩
theorem dec_step {t : ByteArray} {i n : Nat} (h : Lib.decFrom 0 (t.data.toList.take i) = some n) (hi : i < t.size) (h1 : 48 ≤ bAt t i) (h2 : bAt t i ≤ 57) : Lib.decFrom 0 (t.data.toList.take (i + 1)) = some (10 * n + (bAt t i - 48)) := by
  obtain ⟨b, hb, e⟩ := bAt_at hi
  rw [List.take_add_one, hb]
  show Lib.decFrom 0 (_ ++ [b]) = _
  rw [decFrom_app, h]
  simp only [Option.bind_some, Lib.digitVal, ← e]
  rw [if_pos ⟨h1, h2⟩]; simp; omega
theorem num_digit {s : ByteArray} {i : Nat} (h : isNum s) (hi : i < (stripB s).size) : 48 ≤ bAt (stripB s) i ∧ bAt (stripB s) i ≤ 57 := by
  obtain ⟨u, _, h2, _⟩ := num_strip h
  obtain ⟨b, hb, e⟩ := bAt_at hi
  rw [e]
  exact digits_in u b (by rw [← h2]; exact List.mem_of_getElem? hb)
theorem num_value {s : ByteArray} {n : Nat} (h : isNum s) (hn : Lib.decFrom 0 (stripB s).data.toList = some n) : n ≤ 999999 ∧ ((stripB s).size < s.size → s = itoaB (-(n : Int))) ∧ (¬ (stripB s).size < s.size → s = itoaB (n : Int)) := by
  obtain ⟨u, h1, h2, h3, h4, _⟩ := num_strip h
  rw [h2, decFrom_digits] at hn
  obtain rfl := Option.some.inj hn
  exact ⟨h1, h3, h4⟩
theorem num_strip_len {s : ByteArray} (h : isNum s) : 1 ≤ (stripB s).size ∧ (stripB s).size ≤ 6 := by
  obtain ⟨u, h1, h2, _⟩ := num_strip h
  rw [Lib.size_eq, h2]
  exact ⟨digits_len_pos u, digits_len6 h1⟩
theorem val_lt : ∀ (i : Nat) (l : List UInt8) (n : Nat), l.length ≤ i → Lib.decFrom 0 l = some n → n < 10 ^ i := by
  intro i
  induction i with
  | zero =>
    intro l n hl h
    obtain rfl := List.length_eq_zero_iff.1 (by omega : l.length = 0)
    simp [Lib.decFrom] at h; omega
  | succ i ih =>
    intro l n hl h
    rcases List.eq_nil_or_concat l with rfl | ⟨l', b, rfl⟩
    · simp [Lib.decFrom] at h; subst h; exact Nat.pow_pos (by omega)
    · rw [List.concat_eq_append] at h hl
      rw [decFrom_app] at h
      obtain ⟨m, hm, h2⟩ := Option.bind_eq_some_iff.1 h
      obtain ⟨d, hd, rfl⟩ := Option.map_eq_some_iff.1 h2
      rw [List.length_append, List.length_singleton] at hl
      have h3 := ih l' m (by omega) hm
      have h4 : d ≤ 9 := by
        unfold Lib.digitVal at hd
        split at hd
        · have := Option.some.inj hd; omega
        · cases hd
      rw [Nat.pow_succ]; omega
theorem val_lt6 {l : List UInt8} {n : Nat} (hl : l.length ≤ 6) (h : Lib.decFrom 0 l = some n) : n < 1000000 := val_lt 6 l n hl h
theorem take_all {t : ByteArray} {i : Nat} (h : i = t.size) : t.data.toList.take i = t.data.toList := by
  subst h; exact List.take_of_length_le (by simp)
theorem strip_yes {s : ByteArray} (h1 : 1 < s.size) (h2 : bAt s 0 = 45) : stripB s = s.extract 1 s.size := if_pos ⟨h1, h2⟩
theorem strip_no {s : ByteArray} (h : ¬ (1 < s.size ∧ bAt s 0 = 45)) : stripB s = s := if_neg h
theorem ext_size {s : ByteArray} (h : 1 ≤ s.size) : (s.extract 1 s.size).size = s.size - 1 := by simp
end Go.Proofs.YtdlcldaogcbnlaaDoor
