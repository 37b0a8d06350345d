/- Tables: marks, held marks, equality. -/
import Derived.Test.YtdlcldaogcbnlaaParts
import Derived.Test.YtdlcldaogcbnlaaJoinK
import Derived.Test.YtdlcldaogcbnlaaFr2
namespace Go.Proofs.Ytdlcldaogcbnlaa
open Go.RowKit
set_option linter.unusedVariables false
set_option linter.unusedSimpArgs false

theorem RdT.atv {w : World} {A : Option Addr} {n : Nat} {vs : List Sv} {zss : List (List Int)} (h : RdT w A n vs zss) {i : Nat} (hi : i < n) : ∃ v, vs[i]? = some v := ⟨_, List.getElem?_eq_getElem (by have := h.size; omega)⟩
theorem region_S {P : Program} {ops : Array Oper} {Q : Exit → Act → World → Prop} {W : World} {id : Nat} {l : List Value} (S : World → Prop) (hS : S W) (π : List (Nat × Bool)) (hn : π.map (·.1) = List.range ops.size) (h : Ws P ops Q S (Sch.of π) l W) : (Code.region id ops false).wp P Q ⟨l.toArray, []⟩ W := by
  have := ops_of_sch π _ W hS h.out
  rw [hn] at this
  exact wp_region this
theorem below_row {w w' : World} {r : Option Nat} {base : Nat} (hg : w.grownBy w' r) (hb : base ≤ w.heap.size) (hr : ∀ k, r = some k → base ≤ k) : Below base w w' :=
  ⟨hg.os, hg.tape, hg.output, hg.size, fun k hk => hg.block k (Nat.lt_of_lt_of_le hk hb) (fun e => by have := hr k e.symm; omega)⟩
/-- The first rows marked. -/
def mtab (k0 : Int) (zss : List (List Int)) : Nat → List (List Int)
  | 0 => zss
  | i + 1 => (mtab k0 zss i).set i (upFrom (k0 + ((lensOf (zss.take i) : Nat) : Int)) (zss.getD i []).length)
theorem mtab_len (k0 : Int) (zss : List (List Int)) : ∀ i, (mtab k0 zss i).length = zss.length
  | 0 => rfl
  | i + 1 => by unfold mtab; rw [List.length_set, mtab_len k0 zss i]
theorem mtab_ge (k0 : Int) (zss : List (List Int)) : ∀ i j, i ≤ j → (mtab k0 zss i)[j]? = zss[j]?
  | 0, _, _ => rfl
  | i + 1, j, h => by unfold mtab; rw [List.getElem?_set_ne (by omega), mtab_ge k0 zss i j (by omega)]
theorem mtab_at (k0 : Int) (zss : List (List Int)) {z : List Int} : ∀ i j, j < i → zss[j]? = some z → (mtab k0 zss i)[j]? = some (upFrom (k0 + ((lensOf (zss.take j) : Nat) : Int)) z.length)
  | 0, _, h, _ => absurd h (by omega)
  | i + 1, j, h, hz => by
    unfold mtab
    by_cases e : j = i
    · subst e
      have hl := (List.getElem?_eq_some_iff.1 hz).1
      rw [List.getElem?_set_self (by rw [mtab_len]; exact hl), List.getD_eq_getElem?_getD, hz]; rfl
    · rw [List.getElem?_set_ne (by omega)]; exact mtab_at k0 zss i j (by omega) hz
theorem mtab_next {k0 : Int} {zss : List (List Int)} {i : Nat} {z : List Int} (hz : zss[i]? = some z) : mtab k0 zss (i + 1) = (mtab k0 zss i).set i (upFrom (k0 + ((lensOf (zss.take i) : Nat) : Int)) z.length) := by
  show (mtab k0 zss i).set i _ = _
  rw [List.getD_eq_getElem?_getD, hz]; rfl
theorem lens_bd {zss : List (List Int)} (h : zss.length ≤ 8 ∧ ∀ zs ∈ zss, zs.length ≤ 8) (i : Nat) : lensOf (zss.take i) ≤ 64 := by
  have h2 := lensOf_le (zss := zss.take i) (m := 8) (fun zs hz => h.2 zs (List.mem_of_mem_take hz))
  rw [List.length_take] at h2
  have : min i zss.length * 8 ≤ 8 * 8 := Nat.mul_le_mul_right 8 (by omega)
  omega
theorem Tab.later {w w' : World} {base : Nat} {eo ei : TypeId} {A : Option Addr} {n c : Nat} {vs : List Sv} {zss : List (List Int)} (h : Tab w base eo ei A n c vs zss) {row : Option Nat} (hg : SG w row w') (hr : ∀ j, row = some j → j < base) : Tab w' base eo ei A n c vs zss := h.grown hg hr

set_option maxRecDepth 100000 in
set_option maxHeartbeats 8000000 in
theorem markIntSS_any (A : Option Addr) (n c base : Nat) (vs : List Sv) (zss : List (List Int)) (k0 : Int) (w : World) (hbs : base ≤ w.heap.size) (H : Tab w base 41 3 A n c vs zss) (hbd : zss.length ≤ 8 ∧ ∀ zs ∈ zss, zs.length ≤ 8) (h0 : 0 ≤ k0) (h1 : k0 ≤ 1000000) :
    Calls Try.prog 13 #[.slice A n c, .int .i64 k0] w fun e w' => e = .returned (.int .i64 (k0 + ((lensOf zss : Nat) : Int))) ∧ Tab w' base 41 3 A n c vs (mtab k0 zss n) ∧ Below base w w' := by
 have hsz := (Tab.rd H).size
 go_enter Try.func13, Try.ntmps13
 refine F.begin 19 [(0, .slice A n c), (1, .int .i64 k0)] (fun U0 => ?_)
 refine wk fun K1 h1 => ?_
 refine W.region_quiet [(0, false)] kk ?_
 refine Fa (.int .i64 0) ?_
 refine F.es ?_
 refine h1 _ _ ?_
 refine wk fun K2 h2 => ?_
 refine wk fun K3 h3 => ?_
 refine W.region_quiet [(0, false)] kk ?_
 refine Fa (.int .i64 0) ?_
 refine F.es ?_
 refine h3 _ _ ?_
 refine wp_block ?_
 refine loopK (fun am0 aa0 wl0 => ∃ (i : Nat) (k : Int) , Kn aa0 [(0, .slice A n c), (1, .int .i64 k), (4, .int .i64 0), (5, .int .i64 (i : Int))] 19 ∧ (am0 = n - i) ∧ (i ≤ n) ∧ (k = k0 + ((lensOf (zss.take i) : Nat) : Int)) ∧ (Tab wl0 base 41 3 A n c vs (mtab k0 zss i)) ∧ (Below base w wl0)) (n - 0) ?_ ?_
 ·exact ⟨0, k0, Kn.of, rfl, (Nat.zero_le _), (by show k0 = k0 + (0 : Int); omega), H, (Below.refl _ _)⟩
 rintro am0 aa0 wl0 K4 h4 ⟨i, k, ⟨U0, rfl⟩, rfl, hi, hk, htab, c1⟩
 refine wk fun K5 h5 => ?_
 refine wk fun K6 h6 => ?_
 refine W.region_quiet [(0, false), (1, false), (2, false), (3, false)] kk ?_
 refine Fv (.int .i64 (i : Int)) ?_
 refine Fv (.slice A n c) ?_
 refine Fq (.int .i64 (n : Int)) (r_len (A := A) (n := n) (c := c) rfl ek kk) ?_
 by_cases q2 : ((i : Int) : Int) < ((n : Int) : Int)
 ·refine Fq (.bool true) (r_lss (m := (i : Int)) (n := (n : Int)) rfl ek ek (decide_eq_true q2)) ?_
  refine F.es ?_
  refine h6 _ _ ?_
  refine wp_cond_true ek ?_
  refine wp_skip ?_
  refine h5 _ _ ?_
  refine wk fun K7 h7 => ?_
  refine wp_block ?_
  obtain ⟨v, hv⟩ := RdT.atv (Tab.rd htab) (i := i) (by omega)
  obtain ⟨z, hz⟩ : ∃ z, zss[i]? = some z := ⟨_, List.getElem?_eq_getElem (by have := (Tab.rd htab).size; rw [mtab_len] at this; omega)⟩
  have hzm : (mtab k0 zss i)[i]? = some z := by rw [mtab_ge k0 zss i i (Nat.le_refl _), hz]
  obtain ⟨b, off, hA, hb, hcl⟩ := Rd.elSv (Tab.rd htab).out hv
  have hin := Tab.inn htab i v z hv hzm
  have hzl := rd_ints_len (own_rd hin)
  have hz8 := hbd.2 z (List.mem_of_getElem? hz)
  have hlb := lens_bd hbd i
  have hlt9 := lensOf_take hz
  refine region_S (fun w' => w'.cell? ⟨b, off + i, none⟩ = some (.slice v.A v.n v.c)) hcl [(0, false), (1, false), (2, false), (3, false), (4, false), (5, true), (6, false)] kk ?_
  refine Fv (.slice A n c) ?_
  refine Fv (.int .i64 (i : Int)) ?_
  refine Fq (.pointer (some ⟨b, off + i, none⟩)) (r_idx1 (n := n) (c := c) (k := i) rfl ek hA kk kk (by omega)) ?_
  refine Fl (.slice v.A v.n v.c) (fun w h => h) ?_
  refine Fv (.int .i64 k) ?_
  refine Fc [.slice v.A v.n v.c, .int .i64 k] (markIntS_any v.A v.n v.c base k z wl0 hin (by omega) (by omega) (by omega)) ?_
  rintro e w9 ⟨rfl, hmk, hg9⟩
  have htab9 := Tab.turn htab hv hzm hmk hg9
  refine ⟨_, rfl, (by obtain ⟨b9, off9, hA9, _, hc9⟩ := Rd.elSv (Tab.rd htab9).out hv; rw [hA] at hA9; cases hA9; exact hc9), ?_⟩
  refine F.nx ?_
  refine Fa (.int .i64 (k + ((v.n : Nat) : Int))) ?_
  refine F.es ?_
  have c9 : Below base w w9 := Below.trans c1 (below_row hg9 (Nat.le_trans hbs (c1).size) (fun k e => (Tab.inlt htab hv k e).1))
  refine h7 _ _ ?_
  refine W.region_quiet [(0, false), (1, false), (2, false)] kk ?_
  refine Fv (.int .i64 (i : Int)) ?_
  refine Fq (.int .i64 ((i + 1 : Nat) : Int)) (r_add (m := (i : Int)) (n := 1) (z := ((i + 1 : Nat) : Int)) rfl ek ek (by omega) (by omega)) ?_
  refine Fa (.int .i64 ((i + 1 : Nat) : Int)) ?_
  refine F.es ?_
  exact h4 _ _ _ (by omega : (n - (i + 1)) < _) ⟨i + 1, k + ((v.n : Nat) : Int), Kn.of, rfl, (by omega), (by omega), (by rw [mtab_next hz, ← hk, hzl]; exact htab9), c9⟩
 refine Fq (.bool false) (r_lss (m := (i : Int)) (n := (n : Int)) rfl ek ek (decide_eq_false q2)) ?_
 refine F.es ?_
 refine h6 _ _ ?_
 refine wp_cond_false ek ?_
 refine wp_exit ?_
 refine h2 _ _ ?_
 refine wk fun K8 h8 => ?_
 refine W.region_quiet [(0, false), (1, false)] kk ?_
 refine Fv (.int .i64 k) ?_
 refine Fa (.int .i64 k) ?_
 refine F.es ?_
 refine h8 _ _ ?_
 refine wp_ret ?_
 try simp only [Exit.then]
 refine ret1 (v := .int .i64 k) rfl kk ?_
 obtain rfl : i = n := by omega
 have hzn : zss.length = i := by have := (Tab.rd htab).size; rw [mtab_len] at this; omega
 rw [List.take_of_length_le (by omega)] at hk; subst hk
 exact ⟨rfl, htab, c1⟩

theorem eqIntS_same2 (A B : Option Addr) (n n2 c d : Nat) (zs : List Int) (w : World) (ha : Rd w 1 A n (intsV zs)) (hb : Rd w 1 B n2 (intsV zs)) (hn : n ≤ 9223372036854775807) :
    Calls Try.prog 38 #[.slice A n c, .slice B n2 d] w fun e w' => e = .returned (.bool true) ∧ Below w.heap.size w w' := by
  obtain rfl : n2 = n := by have := rd_ints_len ha; have := rd_ints_len hb; omega
  exact eqIntS_below A B n2 c d zs w ha hb hn
set_option maxRecDepth 100000 in
set_option maxHeartbeats 8000000 in
theorem eqIntSS_same (A B : Option Addr) (n c d : Nat) (vs us : List Sv) (zss : List (List Int)) (w : World) (ha : RdT w A n vs zss) (hb : RdT w B n us zss) (hbd : zss.length ≤ 8 ∧ ∀ zs ∈ zss, zs.length ≤ 8) :
    Calls Try.prog 10 #[.slice A n c, .slice B n d] w fun e w' => e = .returned (.bool true) ∧ Below w.heap.size w w' := by
 have hsz := ha.size
 go_enter Try.func10, Try.ntmps10
 refine F.begin 27 [(0, .slice A n c), (1, .slice B n d)] (fun U0 => ?_)
 refine wk fun K1 h1 => ?_
 refine W.region_quiet [(0, false)] kk ?_
 refine Fa (.bool false) ?_
 refine F.es ?_
 refine h1 _ _ ?_
 refine wk fun K2 h2 => ?_
 refine wk fun K3 h3 => ?_
 refine W.region_quiet [(0, false), (1, false), (2, false), (3, false), (4, false)] kk ?_
 refine Fv (.slice A n c) ?_
 refine Fq (.int .i64 (n : Int)) (r_len (A := A) (n := n) (c := c) rfl ek kk) ?_
 refine Fv (.slice B n d) ?_
 refine Fq (.int .i64 (n : Int)) (r_len (A := B) (n := n) (c := d) rfl ek kk) ?_
 refine Fq (.bool false) (r_neq (m := (n : Int)) (n := (n : Int)) rfl ek ek (decide_eq_false (by omega))) ?_
 refine F.es ?_
 refine h3 _ _ ?_
 refine wp_cond_false ek ?_
 refine wp_skip ?_
 refine h2 _ _ ?_
 refine wk fun K4 h4 => ?_
 refine wk fun K5 h5 => ?_
 refine W.region_quiet [(0, false)] kk ?_
 refine Fa (.int .i64 0) ?_
 refine F.es ?_
 refine h5 _ _ ?_
 refine wp_block ?_
 refine loopK (fun am0 aa0 wl0 => ∃ (i : Nat) , Kn aa0 [(0, .slice A n c), (1, .slice B n d), (4, .bool false), (5, .int .i64 (i : Int))] 27 ∧ (am0 = n - i) ∧ (i ≤ n) ∧ (RdT wl0 A n vs zss) ∧ (RdT wl0 B n us zss) ∧ (Below w.heap.size w wl0)) (n - 0) ?_ ?_
 ·exact ⟨0, Kn.of, rfl, (Nat.zero_le _), ha, hb, (Below.refl _ _)⟩
 rintro am0 aa0 wl0 K6 h6 ⟨i, ⟨U0, rfl⟩, rfl, hi, kl0_0, kl0_1, c1⟩
 refine wk fun K7 h7 => ?_
 refine wk fun K8 h8 => ?_
 refine W.region_quiet [(0, false), (1, false), (2, false), (3, false)] kk ?_
 refine Fv (.int .i64 (i : Int)) ?_
 refine Fv (.slice A n c) ?_
 refine Fq (.int .i64 (n : Int)) (r_len (A := A) (n := n) (c := c) rfl ek kk) ?_
 by_cases q2 : ((i : Int) : Int) < ((n : Int) : Int)
 ·refine Fq (.bool true) (r_lss (m := (i : Int)) (n := (n : Int)) rfl ek ek (decide_eq_true q2)) ?_
  refine F.es ?_
  refine h8 _ _ ?_
  refine wp_cond_true ek ?_
  refine wp_skip ?_
  refine h7 _ _ ?_
  refine wk fun K9 h9 => ?_
  refine wp_block ?_
  refine wk fun K10 h10 => ?_
  refine W.region_sch (row := none) (Sch.of [(0, false), (1, false), (2, false), (3, false), (4, false), (5, false), (6, false), (7, false), (8, true), (9, false)]) kk kk (fun _ d _ _ _ h => by cases d <;> exact h) kk (fun w3 e4 s5 => ?_)
  refine Fv (.slice A n c) ?_
  refine Fv (.int .i64 (i : Int)) ?_
  obtain ⟨tv6, tz7, hv8, hz9⟩ := RdT.at kl0_0 (i := i) (by omega)
  have hzq := hbd.2 tz7 (List.mem_of_getElem? hz9)
  obtain ⟨b10, o11, hA12, hb13, hc14⟩ := Rd.elSv (kl0_0).out hv8
  have rd15 := (kl0_0).inn _ _ _ hv8 hz9
  have hl16 := rd_ints_len rd15
  refine Fq (.pointer (some ⟨b10, o11 + i, none⟩)) (r_idx1 (n := n) (c := c) (k := i) rfl ek hA12 kk kk (by omega)) ?_
  refine Fl (.slice tv6.A tv6.n tv6.c) (sgS hc14 (by simp)) ?_
  refine Fv (.slice B n d) ?_
  refine Fv (.int .i64 (i : Int)) ?_
  obtain ⟨tv18, hv20⟩ := RdT.atv kl0_1 (i := i) (by omega)
  obtain ⟨b22, o23, hA24, hb25, hc26⟩ := Rd.elSv (kl0_1).out hv20
  have rd27 := (kl0_1).inn _ _ _ hv20 hz9
  have hl28 := rd_ints_len rd27
  refine Fq (.pointer (some ⟨b22, o23 + i, none⟩)) (r_idx1 (n := n) (c := d) (k := i) rfl ek hA24 kk kk (by omega)) ?_
  refine Fl (.slice tv18.A tv18.n tv18.c) (sgS hc26 (by simp)) ?_
  refine Fc [.slice tv6.A tv6.n tv6.c, .slice tv18.A tv18.n tv18.c] (eqIntS_same2 tv6.A tv18.A tv6.n tv18.n tv6.c tv18.c tz7 _ (Rd.kept rd15 (SG.below s5)) (Rd.kept rd27 (SG.below s5)) (by omega)) ?_
  rintro e w31 ⟨rfl, b30⟩
  have s32 := SG.of_below s5 b30
  refine ⟨_, rfl, s32, ?_⟩
  refine F.nx ?_
  refine Fq (.bool false) (r_not (b := true) rfl ek rfl) ?_
  refine F.es ?_
  have c33 := (SG.belowR c1 s32 (fun kq e => by cases e))
  have rd34 := RdT.kept kl0_0 (SG.below s32)
  have rd35 := RdT.kept kl0_1 (SG.below s32)
  refine h10 _ _ ?_
  refine wp_cond_false ek ?_
  refine wp_skip ?_
  refine h9 _ _ ?_
  refine W.region_quiet [(0, false), (1, false), (2, false)] kk ?_
  refine Fv (.int .i64 (i : Int)) ?_
  refine Fq (.int .i64 ((i + 1 : Nat) : Int)) (r_add (m := (i : Int)) (n := 1) (z := ((i + 1 : Nat) : Int)) rfl ek ek (by omega) (by omega)) ?_
  refine Fa (.int .i64 ((i + 1 : Nat) : Int)) ?_
  refine F.es ?_
  exact h6 _ _ _ (by omega : (n - (i + 1)) < _) ⟨i + 1, Kn.of, rfl, (by omega), rd34, rd35, c33⟩
 refine Fq (.bool false) (r_lss (m := (i : Int)) (n := (n : Int)) rfl ek ek (decide_eq_false q2)) ?_
 refine F.es ?_
 refine h8 _ _ ?_
 refine wp_cond_false ek ?_
 refine wp_exit ?_
 refine h4 _ _ ?_
 refine wk fun K11 h11 => ?_
 refine W.region_quiet [(0, false)] kk ?_
 refine Fa (.bool true) ?_
 refine F.es ?_
 refine h11 _ _ ?_
 refine wp_ret ?_
 try simp only [Exit.then]
 refine ret1 (v := .bool true) rfl kk ?_
 exact ⟨rfl, c1⟩

set_option maxRecDepth 100000 in
set_option maxHeartbeats 8000000 in
theorem heldIntSS_any (A : Option Addr) (n c : Nat) (vs : List Sv) (zss : List (List Int)) (k0 : Int) (w : World) (ha : RdT w A n vs (mtab k0 zss n)) (hbd : zss.length ≤ 8 ∧ ∀ zs ∈ zss, zs.length ≤ 8) (h0 : 0 ≤ k0) (h1 : k0 ≤ 1000000) :
    Calls Try.prog 14 #[.slice A n c, .int .i64 k0] w fun e w' => e = .returned (.int .i64 (k0 + ((lensOf zss : Nat) : Int))) ∧ Below w.heap.size w w' := by
 have hsz := ha.size
 rw [mtab_len] at hsz
 go_enter Try.func14, Try.ntmps14
 refine F.begin 21 [(0, .slice A n c), (1, .int .i64 k0)] (fun U0 => ?_)
 refine wk fun K1 h1 => ?_
 refine W.region_quiet [(0, false)] kk ?_
 refine Fa (.int .i64 0) ?_
 refine F.es ?_
 refine h1 _ _ ?_
 refine wk fun K2 h2 => ?_
 refine wk fun K3 h3 => ?_
 refine W.region_quiet [(0, false)] kk ?_
 refine Fa (.int .i64 0) ?_
 refine F.es ?_
 refine h3 _ _ ?_
 refine wp_block ?_
 refine loopK (fun am0 aa0 wl0 => ∃ (i : Nat) (k : Int) , Kn aa0 [(0, .slice A n c), (1, .int .i64 k), (4, .int .i64 0), (5, .int .i64 (i : Int))] 21 ∧ (am0 = n - i) ∧ (i ≤ n) ∧ (k = k0 + ((lensOf (zss.take i) : Nat) : Int)) ∧ (RdT wl0 A n vs (mtab k0 zss n)) ∧ (Below w.heap.size w wl0)) (n - 0) ?_ ?_
 ·exact ⟨0, k0, Kn.of, rfl, (Nat.zero_le _), (by show k0 = k0 + (0 : Int); omega), ha, (Below.refl _ _)⟩
 rintro am0 aa0 wl0 K4 h4 ⟨i, k, ⟨U0, rfl⟩, rfl, hi, hk, kl0_0, c1⟩
 refine wk fun K5 h5 => ?_
 refine wk fun K6 h6 => ?_
 refine W.region_quiet [(0, false), (1, false), (2, false), (3, false)] kk ?_
 refine Fv (.int .i64 (i : Int)) ?_
 refine Fv (.slice A n c) ?_
 refine Fq (.int .i64 (n : Int)) (r_len (A := A) (n := n) (c := c) rfl ek kk) ?_
 by_cases q2 : ((i : Int) : Int) < ((n : Int) : Int)
 ·refine Fq (.bool true) (r_lss (m := (i : Int)) (n := (n : Int)) rfl ek ek (decide_eq_true q2)) ?_
  refine F.es ?_
  refine h6 _ _ ?_
  refine wp_cond_true ek ?_
  refine wp_skip ?_
  refine h5 _ _ ?_
  refine wk fun K7 h7 => ?_
  refine wp_block ?_
  refine wk fun K8 h8 => ?_
  refine W.region_plain (row := none) [(0, false), (1, false), (2, false), (3, false), (4, false), (5, true), (6, false)] kk ?_
  have s3 := SG.self wl0 none
  refine Fv (.slice A n c) ?_
  refine Fv (.int .i64 (i : Int)) ?_
  obtain ⟨tv4, tz5, hv6, hz7⟩ := RdT.at kl0_0 (i := i) (by omega)
  obtain ⟨y, hy⟩ : ∃ y, zss[i]? = some y := ⟨_, List.getElem?_eq_getElem (by omega)⟩
  have hm9 := mtab_at k0 zss n i (by omega) hy
  rw [hz7] at hm9
  have hy8 := hbd.2 y (List.mem_of_getElem? hy)
  have hlb := lens_bd hbd i
  have hlt9 := lensOf_take hy
  have hlb2 := lens_bd hbd (i + 1)
  obtain ⟨b8, o9, hA10, hb11, hc12⟩ := Rd.elSv (kl0_0).out hv6
  have rd13 := (kl0_0).inn _ _ _ hv6 hz7
  have hl14 := rd_ints_len rd13
  refine Fq (.pointer (some ⟨b8, o9 + i, none⟩)) (r_idx1 (n := n) (c := c) (k := i) rfl ek hA10 kk kk (by omega)) ?_
  refine Fl (.slice tv4.A tv4.n tv4.c) (sgS hc12 (by simp)) ?_
  refine Fv (.int .i64 k) ?_
  have hzl := rd_ints_len (Rd.kept rd13 (SG.below s3))
  have hyl : y.length = tv4.n := by rw [← hzl, Option.some.inj hm9]; simp [upFrom]
  have hh16 : Rd wl0 1 tv4.A tv4.n (intsV (upFrom k tv4.n)) := by have h9 := (Rd.kept rd13 (SG.below s3)); rw [Option.some.inj hm9, ← hk, hyl] at h9; exact h9
  refine Fc [.slice tv4.A tv4.n tv4.c, .int .i64 k] (heldIntS_below tv4.A tv4.n tv4.c k _ hh16 (by omega) (by omega) (by omega)) ?_
  rintro e w18 ⟨rfl, b17⟩
  have s19 := SG.of_below s3 b17
  refine ⟨_, rfl, s19, ?_⟩
  refine F.nx ?_
  refine Fa (.int .i64 (k + (((tv4.n) : Nat) : Int))) ?_
  refine F.es ?_
  have c20 := (SG.belowR c1 s19 (fun kq e => by cases e))
  have rd21 := RdT.kept kl0_0 (SG.below s19)
  refine h8 _ _ ?_
  refine wk fun K9 h9 => ?_
  refine W.region_quiet [(0, false), (1, false)] kk ?_
  refine Fv (.int .i64 (k + (((tv4.n) : Nat) : Int))) ?_
  refine Fq (.bool false) (r_lss (m := (k + (((tv4.n) : Nat) : Int))) (n := 0) rfl ek ek (decide_eq_false (by have h9 := lens_bd hbd i; omega))) ?_
  refine F.es ?_
  refine h9 _ _ ?_
  refine wp_cond_false ek ?_
  refine wp_skip ?_
  refine h7 _ _ ?_
  refine W.region_quiet [(0, false), (1, false), (2, false)] kk ?_
  refine Fv (.int .i64 (i : Int)) ?_
  refine Fq (.int .i64 ((i + 1 : Nat) : Int)) (r_add (m := (i : Int)) (n := 1) (z := ((i + 1 : Nat) : Int)) rfl ek ek (by omega) (by omega)) ?_
  refine Fa (.int .i64 ((i + 1 : Nat) : Int)) ?_
  refine F.es ?_
  exact h4 _ _ _ (by omega : (n - (i + 1)) < _) ⟨i + 1, (k + (((tv4.n) : Nat) : Int)), Kn.of, rfl, (by omega), (by omega), rd21, c20⟩
 refine Fq (.bool false) (r_lss (m := (i : Int)) (n := (n : Int)) rfl ek ek (decide_eq_false q2)) ?_
 refine F.es ?_
 refine h6 _ _ ?_
 refine wp_cond_false ek ?_
 refine wp_exit ?_
 refine h2 _ _ ?_
 refine wk fun K10 h10 => ?_
 refine W.region_quiet [(0, false), (1, false)] kk ?_
 refine Fv (.int .i64 k) ?_
 refine Fa (.int .i64 k) ?_
 refine F.es ?_
 refine h10 _ _ ?_
 refine wp_ret ?_
 try simp only [Exit.then]
 refine ret1 (v := .int .i64 k) rfl kk ?_
 obtain rfl : i = n := by omega
 rw [List.take_of_length_le (by omega)] at hk
 exact ⟨by rw [hk], c1⟩

end Go.Proofs.Ytdlcldaogcbnlaa
