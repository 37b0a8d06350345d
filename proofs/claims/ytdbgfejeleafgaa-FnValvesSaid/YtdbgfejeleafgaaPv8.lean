/- What the texts behind it build on; conditions: none. -/
import Derived.Test.YtdbgfejeleafgaaPv7
namespace Go.Proofs.Ytdbgfejeleafgaa
open Go.RowKit
set_option linter.unusedVariables false
set_option linter.unusedSimpArgs false
abbrev idQ (a : Int) : Vv → Bool := fun v => decide (v.id = a)
def turnOk (vs : List Vv) (a : Int) (b : Bool) : Bool := decide (0 ≤ idxV (idQ a) vs) && (match vs[(idxV (idQ a) vs).toNat]? with | some v => !(v.shut == b) | none => false)
def turned (vs : List Vv) (a : Int) (b : Bool) : List Vv := match vs[(idxV (idQ a) vs).toNat]? with | some v => vs.set (idxV (idQ a) vs).toNat { v with shut := b } | none => []
theorem turned_len (vs : List Vv) (a : Int) (b : Bool) : (turned vs a b).length ≤ vs.length := by
  unfold turned; split <;> simp
theorem turnOk_at {vs : List Vv} {a : Int} {b : Bool} {k : Nat} {x : Vv} (e : idxV (idQ a) vs = (k : Int)) (hx : vs[k]? = some x) : turnOk vs a b = !(x.shut == b) := by
  unfold turnOk; rw [e, Int.toNat_natCast, hx, decide_eq_true (by omega), Bool.true_and]
theorem turned_at {vs : List Vv} {a : Int} {b : Bool} {k : Nat} {x : Vv} (e : idxV (idQ a) vs = (k : Int)) (hx : vs[k]? = some x) : turned vs a b = vs.set k { x with shut := b } := by
  unfold turned; rw [e, Int.toNat_natCast, hx]
def TurnValve_v1 (m : Int) (ps : List Pp) (vs : List Vv) (a : Int) (b : Bool) : Bool := goodV m ps vs && turnOk vs a b
def TurnValve_v0 (m : Int) (ps : List Pp) (vs : List Vv) (a : Int) (b : Bool) : List Vv := if TurnValve_v1 m ps vs a b = true then turned vs a b else []
theorem TurnValve_len (m : Int) (ps : List Pp) (vs : List Vv) (a : Int) (b : Bool) : (TurnValve_v0 m ps vs a b).length ≤ 1048576 := by
  unfold TurnValve_v0
  split
  · rename_i h
    have hg : goodV m ps vs = true := by unfold TurnValve_v1 at h; rw [Bool.and_eq_true] at h; exact h.1
    have := (goodV_of hg).len
    have := turned_len vs a b
    omega
  · simp
theorem fin_valves {w w' : World} {e : TypeId} {A : Option Addr} {n c : Nat} {zs us : List Vv} {b vb : Bool} (how : w'.ownsRow w.heap.size e 4 (.slice A n c) n (valvesV zs)) (hz : zs = us) (hb : b = vb) (bel : Below w.heap.size w w') :
    ∃ A' d, Ending.returned (.tuple #[.slice A n c, .bool b]) = .returned (.tuple #[.slice A' us.length d, .bool vb]) ∧ w'.ownsRow w.heap.size e 4 (.slice A' us.length d) us.length (valvesV us) ∧ Below w.heap.size w w' := by
  subst hz hb
  have hl := rd_valves_len (own_rd how)
  subst hl
  exact ⟨_, _, rfl, how, bel⟩
set_option maxRecDepth 100000 in
set_option maxHeartbeats 8000000 in
theorem TurnValve_impl (m : Int) (A : Option Addr) (n c : Nat) (ps : List Pp) (A2 : Option Addr) (n2 c2 : Nat) (vs : List Vv) (a : Int) (b : Bool) (w : World) (ha : Rd w 4 A n (pipesV ps)) (hb : Rd w 4 A2 n2 (valvesV vs)) (hn : n ≤ 1048576) (hn2 : n2 ≤ 1048576) (hfm : Fm A n c) (hfm2 : Fm A2 n2 c2) :
    Calls Try.prog 18 #[.agg #[.int .i64 m, .slice A n c], .slice A2 n2 c2, .int .i64 a, .bool b] w fun e w' => ∃ A' d, e = .returned (.tuple #[.slice A' (TurnValve_v0 m ps vs a b).length d, .bool (TurnValve_v1 m ps vs a b)]) ∧ w'.ownsRow w.heap.size 40 4 (.slice A' (TurnValve_v0 m ps vs a b).length d) (TurnValve_v0 m ps vs a b).length (valvesV (TurnValve_v0 m ps vs a b)) ∧ Below w.heap.size w w' := by
 have hl := rd_pipes_len ha
 have hl2 := rd_valves_len hb
 go_enter Try.func18, Try.ntmps18
 refine F.begin 41 [(0, .agg #[.int .i64 m, .slice A n c]), (1, .slice A2 n2 c2), (2, .int .i64 a), (3, .bool b)] (fun U0 => ?_)
 refine wk fun K1 h1 => ?_
 refine W.region_plain (row := none) [(0, true), (1, false), (2, false)] kk ?_
 have s1 := SG.self w none
 refine W.sn (fun b => .pointer (some ⟨b, 0, none⟩)) #[.int .i64 m, .slice A n c] 26 s1 rfl kk rfl (fun _ => by kernel_rfl) (fun b2 w3 hb4 k5 x6 s7 => ?_)
 refine F.nx ?_
 have lo8 : w.heap.size ≤ b2 := Nat.le_trans ((SG.belowR (Below.refl _ _) s1 (fun kq e => by cases e))).size (Nat.le_of_eq hb4)
 refine Fa (.slice none 0 0) ?_
 refine Fa (.bool false) ?_
 refine F.es ?_
 have c9 := (SG.belowR (Below.refl _ _) s7 (fun kq e => by cases e))
 refine h1 _ _ ?_
 refine wk fun K2 h2 => ?_
 refine W.region_plain (row := none) [(0, false), (1, false), (2, true), (3, false)] kk ?_
 have s10 := SG.self w3 none
 refine Fv (.slice A2 n2 c2) ?_
 refine Fv (.int .i64 a) ?_
 refine Fc [.slice A2 n2 c2, .int .i64 a] (valveIndex_any A2 n2 c2 vs a _ (Rd.kept hb (SG.belowR c9 s10 (fun kq e => by cases e))) (by omega)) ?_
 rintro e w12 ⟨rfl, b11⟩
 have s13 := SG.of_below s10 b11
 refine ⟨_, rfl, s13, ?_⟩
 refine F.nx ?_
 refine Fa (.int .i64 (idxV (idQ a) vs)) ?_
 refine F.es ?_
 have x6 := SG.blk s13 x6 (Option.some_ne_none _)
 have c14 := (SG.belowR c9 s13 (fun kq e => by cases e))
 refine h2 _ _ ?_
 refine wk fun K3 h3 => ?_
 refine wk fun K4 h4 => ?_
 refine W.region_plain (row := none) [(0, false), (1, false), (2, true), (3, false), (4, false), (5, false), (6, false), (7, false), (8, false), (9, false), (10, false), (11, false), (12, false), (13, false), (14, false), (15, false), (16, false)] kk ?_
 have s15 := SG.self w12 none
 refine Fq (.agg #[.int .i64 m, .slice A n c]) (r_load2 rfl ek kk kk (sgS (blk_cell (j := 0) x6 kk) (Option.some_ne_none _)) (sgS (blk_cell (j := 1) x6 kk) (Option.some_ne_none _))) ?_
 refine Fv (.slice A2 n2 c2) ?_
 refine Fc [.agg #[.int .i64 m, .slice A n c], .slice A2 n2 c2] (IsValidValves_any m A n c ps A2 n2 c2 vs _ (Rd.kept ha (SG.belowR c14 s15 (fun kq e => by cases e))) (Rd.kept hb (SG.belowR c14 s15 (fun kq e => by cases e))) (by omega) (by omega) hfm2) ?_
 rintro e w17 ⟨rfl, b16⟩
 have s18 := SG.of_below s15 b16
 refine ⟨_, rfl, s18, ?_⟩
 refine F.nx ?_
 rcases Bool.eq_false_or_eq_true (goodV m ps vs) with q19 | q19
 ·rw [q19]
  have hv9 := goodV_of q19
  have hg := hv9.net
  have hgl := hg.lo
  have hgh := hg.hi
  have hp := hg.pipesIn
  have hlen10 := hg.len
  have hu := hv9.uniq
  have hvl := hv9.len
  refine Fq (.bool false) (r_not (b := true) rfl ek rfl) ?_
  refine Fv (.bool false) ?_
  refine Fv (.int .i64 (idxV (idQ a) vs)) ?_
  by_cases q20 : ((idxV (idQ a) vs) : Int) < (0 : Int)
  ·refine Fq (.bool true) (r_lss (m := (idxV (idQ a) vs)) (n := 0) rfl ek ek (decide_eq_true q20)) ?_
   refine Fq (.bool true) (r_pick (b := false) rfl ek ek) ?_
   refine Fv (.bool true) ?_
   refine Fs s18 ?_
   refine Fs s18 ?_
   refine Fs s18 ?_
   refine Fs s18 ?_
   refine Fs s18 ?_
   refine Fs s18 ?_
   refine Fs s18 ?_
   refine Fq (.bool true) (r_pick (b := true) rfl ek ek) ?_
   refine F.es ?_
   have c21 := (SG.belowR c14 s18 (fun kq e => by cases e))
   refine h4 _ _ ?_
   refine wp_cond_true ek ?_
   refine wk fun K5 h5 => ?_
   refine W.region_quiet [(0, false), (1, false)] kk ?_
   refine Fa (.slice none 0 0) ?_
   refine Fa (.bool false) ?_
   refine F.es ?_
   refine h5 _ _ ?_
   refine wp_ret ?_
   try simp only [Exit.then]
   refine ret2 (v := .slice none 0 0) (x := .bool false) rfl kk kk ?_
   have ok22 : TurnValve_v1 m ps vs a b = false := by unfold TurnValve_v1 turnOk; rw [decide_eq_false (by omega), Bool.false_and, Bool.and_false]
   exact fin_valves (zs := []) (World.ownsRow_nil _ _ _ _) (by unfold TurnValve_v0; rw [if_neg (by rw [ok22]; simp)]) ok22.symm c21
  refine Fq (.bool false) (r_lss (m := (idxV (idQ a) vs)) (n := 0) rfl ek ek (decide_eq_false q20)) ?_
  refine Fq (.bool false) (r_pick (b := false) rfl ek ek) ?_
  refine Fv (.bool false) ?_
  refine Fv (.slice A2 n2 c2) ?_
  refine Fv (.int .i64 (idxV (idQ a) vs)) ?_
  obtain ⟨k9, x9, e9, hx9, hq9⟩ := idx_some (vs := vs) (q := idQ a) (by omega)
  have hk9 := (List.getElem?_eq_some_iff.1 hx9).1
  obtain ⟨b23, o24, hA25, hb26, hc27, hc28, hc29, hc30⟩ := Rd.elValve hb hx9
  refine Fq (.pointer (some ⟨b23, o24 + k9 * 4, none⟩)) (r_idx (n := n2) (c := c2) (k := k9) rfl ek hA25 (evk (z := (idxV (idQ a) vs)) kk e9) kk (by have := hl2; omega)) ?_
  refine Fq (.pointer (some ⟨b23, o24 + k9 * 4 + 3, none⟩)) (r_field (k := 3) rfl ek kk) ?_
  refine Fl (.bool x9.shut) (sgS (later c14 hc30) (by simp)) ?_
  refine Fv (.bool b) ?_
  by_cases q31 : x9.shut = b
  ·refine Fq (.bool true) (r_eqlB (m := x9.shut) (n := b) rfl ek ek kk (beq_iff_eq.2 q31)) ?_
   refine Fq (.bool true) (r_pick (b := false) rfl ek ek) ?_
   refine F.es ?_
   have c32 := (SG.belowR c14 s18 (fun kq e => by cases e))
   refine h4 _ _ ?_
   refine wp_cond_true ek ?_
   refine wk fun K6 h6 => ?_
   refine W.region_quiet [(0, false), (1, false)] kk ?_
   refine Fa (.slice none 0 0) ?_
   refine Fa (.bool false) ?_
   refine F.es ?_
   refine h6 _ _ ?_
   refine wp_ret ?_
   try simp only [Exit.then]
   refine ret2 (v := .slice none 0 0) (x := .bool false) rfl kk kk ?_
   have ok33 : TurnValve_v1 m ps vs a b = false := by unfold TurnValve_v1; rw [turnOk_at e9 hx9, beq_iff_eq.2 q31, Bool.not_true, Bool.and_false]
   exact fin_valves (zs := []) (World.ownsRow_nil _ _ _ _) (by unfold TurnValve_v0; rw [if_neg (by rw [ok33]; simp)]) ok33.symm c32
  refine Fq (.bool false) (r_eqlB (m := x9.shut) (n := b) rfl ek ek kk (beq_eq_false_iff_ne.2 q31)) ?_
  refine Fq (.bool false) (r_pick (b := false) rfl ek ek) ?_
  refine F.es ?_
  have c34 := (SG.belowR c14 s18 (fun kq e => by cases e))
  refine h4 _ _ ?_
  refine wp_cond_false ek ?_
  refine wp_skip ?_
  refine h3 _ _ ?_
  refine wk fun K7 h7 => ?_
  refine W.region_plain (row := none) [(0, true), (1, false), (2, true), (3, false)] kk ?_
  have s35 := SG.self w17 none
  refine W.sn (fun b => .slice (some ⟨b, 0, none⟩) 0 0) #[] 40 s35 rfl kk rfl (fun _ => by kernel_rfl) (fun b36 w37 hb38 k39 x40 s41 => ?_)
  refine F.nx ?_
  have lo42 : w.heap.size ≤ b36 := Nat.le_trans ((SG.belowR c34 s35 (fun kq e => by cases e))).size (Nat.le_of_eq hb38)
  refine Fv (.slice A2 n2 c2) ?_
  have ho44 := own_empty (base := w.heap.size) (size := 4) x40 lo42
  replace ho44 : World.ownsRow _ _ _ _ _ _ (valvesV []) := ho44
  replace ho44 : World.ownsRow _ _ _ _ _ _ (valvesV []) := ho44
  refine W.sapR (e := 40) (size := 4) (base := w.heap.size) (v := .slice (some ⟨b36, 0, none⟩) 0 0) (A := A2) (m := n2) (c := c2) s41 rfl rfl rfl rfl kk kk kk ho44 (Rd.kept hb (SG.belowR c34 s41 (fun kq e => by cases e))) hfm2 (valves_one _) (by omega) (by have := ((SG.belowR c34 s41 (fun kq e => by cases e))).size; omega) (.inr (fun kq e => by have := (s35).size; have := hb38; have e' := Option.some.inj e; simp at e'; omega)) (fun A46 cap47 w48 ho49 hg50 hat51 s52 => ?_)
  refine F.nx ?_
  have ho49 := own_joinV ho49
  have fr54 : ∀ kq, (.slice A46 (0 + n2) cap47 : Value).ownBlock = some kq → w17.heap.size ≤ kq := fun kq e => by
    have hs := (s41).size
    rcases hat51 with h | h
    · exact (show ∀ kq, Value.ownBlock _ = some kq → w17.heap.size ≤ kq from (fun kq e => by have := (s35).size; have := hb38; have e' := Option.some.inj e; simp at e'; omega)) kq (h.symm.trans e)
    · have := Option.some.inj (h.symm.trans e); omega
  replace ho49 : World.ownsRow _ _ _ _ _ _ (valvesV vs) := ho49
  refine Fa (.slice A46 (0 + n2) cap47) ?_
  refine F.es ?_
  have c55 := (SG.belowR c34 s52 (fun kq e => by cases e))
  refine h7 _ _ ?_
  refine wk fun K8 h8 => ?_
  refine W.region_plain (row := (Value.ownBlock (.slice A46 (0 + n2) cap47))) [(0, false), (1, false), (2, false), (3, false), (4, false), (5, true)] kk ?_
  have s56 := SG.self w48 (Value.ownBlock (.slice A46 (0 + n2) cap47))
  refine Fv (.slice A46 (0 + n2) cap47) ?_
  refine Fv (.int .i64 (idxV (idQ a) vs)) ?_
  refine Fv (.bool b) ?_
  obtain ⟨g57, rfl, _, _⟩ := own_addr ho49 (by omega)
  refine Fq (.pointer (some ⟨g57, 0 + k9 * 4, none⟩)) (r_idx (n := (0 + n2)) (c := cap47) (k := k9) (size := 4) rfl ek rfl (evk (z := (idxV (idQ a) vs)) kk e9) kk (by omega)) ?_
  refine Fq (.pointer (some ⟨g57, 0 + k9 * 4 + 3, none⟩)) (r_field (k := 3) rfl ek kk) ?_
  refine W.sst (base := w.heap.size) (e := 40) (size := 4) (n := (0 + n2)) (c := cap47) (j := 0 + k9 * 4 + 3) (u := .bool b) (news := [.bool b]) s56 rfl kk rfl rfl kk kk ho49 kk kk kk (by simp only [List.length_cons, List.length_nil]; omega) (.inl rfl) (fun w58 ho59 g60 s61 => ?_)
  have ho59 := own_setU hx9 ho59
  refine F.es ?_
  have c62 := (SG.belowR c55 s61 (fun kq e => (World.ownsRow.lt ho49 kq e).1))
  refine h8 _ _ ?_
  refine wk fun K9 h9 => ?_
  refine W.region_quiet [(0, false), (1, false), (2, false)] kk ?_
  refine Fv (.slice (some ⟨g57, 0, none⟩) (0 + n2) cap47) ?_
  refine Fa (.slice (some ⟨g57, 0, none⟩) (0 + n2) cap47) ?_
  refine Fa (.bool true) ?_
  refine F.es ?_
  refine h9 _ _ ?_
  refine wp_ret ?_
  try simp only [Exit.then]
  refine ret2 (v := .slice (some ⟨g57, 0, none⟩) (0 + n2) cap47) (x := .bool true) rfl kk kk ?_
  have ok63 : TurnValve_v1 m ps vs a b = true := by unfold TurnValve_v1; rw [q19, turnOk_at e9 hx9, beq_eq_false_iff_ne.2 q31]; try rfl
  exact fin_valves ho59 (by unfold TurnValve_v0; rw [if_pos ok63, turned_at e9 hx9]) ok63.symm c62
 rw [q19]
 refine Fq (.bool true) (r_not (b := false) rfl ek rfl) ?_
 refine Fv (.bool true) ?_
 refine Fs s18 ?_
 refine Fs s18 ?_
 refine Fq (.bool true) (r_pick (b := true) rfl ek ek) ?_
 refine Fv (.bool true) ?_
 refine Fs s18 ?_
 refine Fs s18 ?_
 refine Fs s18 ?_
 refine Fs s18 ?_
 refine Fs s18 ?_
 refine Fs s18 ?_
 refine Fs s18 ?_
 refine Fq (.bool true) (r_pick (b := true) rfl ek ek) ?_
 refine F.es ?_
 have c64 := (SG.belowR c14 s18 (fun kq e => by cases e))
 refine h4 _ _ ?_
 refine wp_cond_true ek ?_
 refine wk fun K10 h10 => ?_
 refine W.region_quiet [(0, false), (1, false)] kk ?_
 refine Fa (.slice none 0 0) ?_
 refine Fa (.bool false) ?_
 refine F.es ?_
 refine h10 _ _ ?_
 refine wp_ret ?_
 try simp only [Exit.then]
 refine ret2 (v := .slice none 0 0) (x := .bool false) rfl kk kk ?_
 have ok65 : TurnValve_v1 m ps vs a b = false := by unfold TurnValve_v1; rw [q19]; try rfl
 exact fin_valves (zs := []) (World.ownsRow_nil _ _ _ _) (by unfold TurnValve_v0; rw [if_neg (by rw [ok65]; simp)]) ok65.symm c64
set_option maxRecDepth 100000 in
set_option maxHeartbeats 8000000 in
theorem l4Turned_any (A2 : Option Addr) (n2 c2 : Nat) (vs : List Vv) (k : Nat) (x : Vv) (b : Bool) (w : World) (hb : Rd w 4 A2 n2 (valvesV vs)) (hn2 : n2 ≤ 1048576) (hfm2 : Fm A2 n2 c2) (hx : vs[k]? = some x) :
    Calls Try.prog 94 #[.slice A2 n2 c2, .int .i64 ((k : Nat) : Int), .bool b] w fun e w' => ∃ A' n' c', e = .returned (.slice A' n' c') ∧ w'.ownsRow w.heap.size 40 4 (.slice A' n' c') n' (valvesV (vs.set k { x with shut := b })) ∧ Below w.heap.size w w' := by
 have hl2 := rd_valves_len hb
 have hk9 := (List.getElem?_eq_some_iff.1 hx).1
 go_enter Try.func94, Try.ntmps94
 refine F.begin 23 [(0, .slice A2 n2 c2), (1, .int .i64 (k : Int)), (2, .bool b)] (fun U0 => ?_)
 refine wk fun K1 h1 => ?_
 refine W.region_quiet [(0, false)] kk ?_
 refine Fa (.slice none 0 0) ?_
 refine F.es ?_
 refine h1 _ _ ?_
 refine wk fun K2 h2 => ?_
 refine W.region_plain (row := none) [(0, true), (1, false), (2, true), (3, false)] kk ?_
 have s1 := SG.self w none
 refine W.sn (fun b => .slice (some ⟨b, 0, none⟩) 0 0) #[] 40 s1 rfl kk rfl (fun _ => by kernel_rfl) (fun b2 w3 hb4 k5 x6 s7 => ?_)
 refine F.nx ?_
 have lo8 : w.heap.size ≤ b2 := Nat.le_trans ((SG.belowR (Below.refl _ _) s1 (fun kq e => by cases e))).size (Nat.le_of_eq hb4)
 refine Fv (.slice A2 n2 c2) ?_
 have ho9 := own_empty (base := w.heap.size) (size := 4) x6 lo8
 replace ho9 : World.ownsRow _ _ _ _ _ _ (valvesV []) := ho9
 replace ho9 : World.ownsRow _ _ _ _ _ _ (valvesV []) := ho9
 refine W.sapR (e := 40) (size := 4) (base := w.heap.size) (v := .slice (some ⟨b2, 0, none⟩) 0 0) (A := A2) (m := n2) (c := c2) s7 rfl rfl rfl rfl kk kk kk ho9 (Rd.kept hb (SG.belowR (Below.refl _ _) s7 (fun kq e => by cases e))) hfm2 (valves_one _) (by omega) (by have := ((SG.belowR (Below.refl _ _) s7 (fun kq e => by cases e))).size; omega) (.inr (fun kq e => by have := (s1).size; have := hb4; have e' := Option.some.inj e; simp at e'; omega)) (fun A10 cap11 w12 ho13 hg14 hat15 s16 => ?_)
 refine F.nx ?_
 have ho13 := own_joinV ho13
 have fr17 : ∀ kq, (.slice A10 (0 + n2) cap11 : Value).ownBlock = some kq → w.heap.size ≤ kq := fun kq e => by
   have hs := (s7).size
   rcases hat15 with h | h
   · exact (show ∀ kq, Value.ownBlock _ = some kq → w.heap.size ≤ kq from (fun kq e => by have := (s1).size; have := hb4; have e' := Option.some.inj e; simp at e'; omega)) kq (h.symm.trans e)
   · have := Option.some.inj (h.symm.trans e); omega
 replace ho13 : World.ownsRow _ _ _ _ _ _ (valvesV vs) := ho13
 refine Fa (.slice A10 (0 + n2) cap11) ?_
 refine F.es ?_
 have c18 := (SG.belowR (Below.refl _ _) s16 (fun kq e => by cases e))
 refine h2 _ _ ?_
 refine wk fun K3 h3 => ?_
 refine W.region_plain (row := none) [(0, false), (1, false), (2, false), (3, false), (4, true), (5, true)] kk ?_
 have s19 := SG.self w12 none
 refine Fv (.slice A10 (0 + n2) cap11) ?_
 refine Fv (.int .i64 (k : Int)) ?_
 obtain ⟨g20, rfl, _, _⟩ := own_addr ho13 (by omega)
 refine Fq (.pointer (some ⟨g20, 0 + k * 4, none⟩)) (r_idx (n := (0 + n2)) (c := cap11) (k := k) (size := 4) rfl ek rfl kk kk (by omega)) ?_
 refine Fq (.agg #[.int .i64 x.id, .int .i64 x.pipe, .int .i64 x.node, .bool x.shut]) (r_load4 rfl ek kk kk (sgS ((own_atV ho13 hx).1) (by simp)) (sgS ((own_atV ho13 hx).2.1) (by simp)) (sgS ((own_atV ho13 hx).2.2.1) (by simp)) (sgS ((own_atV ho13 hx).2.2.2) (by simp))) ?_
 refine W.sn (fun b => .pointer (some ⟨b, 0, none⟩)) #[.int .i64 0, .int .i64 0, .int .i64 0, .bool false] 40 s19 rfl kk rfl (fun _ => by kernel_rfl) (fun b21 w22 hb23 k24 x25 s26 => ?_)
 refine F.nx ?_
 have lo27 : w.heap.size ≤ b21 := Nat.le_trans ((SG.belowR c18 s19 (fun kq e => by cases e))).size (Nat.le_of_eq hb23)
 have nb28 : Nb b21 (.slice (some ⟨g20, 0, none⟩) (0 + n2) cap11) := nb_hi ho13 (Nat.le_of_eq hb23)
 have ho29 := own_kept ho13 k24
 refine W.ss (v := .agg #[.int .i64 x.id, .int .i64 x.pipe, .int .i64 x.node, .bool x.shut]) (j := 0) (news := [.int .i64 x.id, .int .i64 x.pipe, .int .i64 x.node, .bool x.shut]) (cs' := #[.int .i64 x.id, .int .i64 x.pipe, .int .i64 x.node, .bool x.shut]) s26 rfl kk rfl rfl kk kk x25 kk kk (by simp) kk kk (.inr (Nat.le_trans (s19).size (Nat.le_of_eq hb23))) (fun w30 g31 x32 s33 => ?_)
 have ho34 := own_grown ho29 g31 (fun j e1 e2 => by cases e2; exact nb28 e1.symm)
 refine F.es ?_
 have c35 := (SG.belowR c18 s33 (fun kq e => by cases e))
 refine h3 _ _ ?_
 refine wk fun K4 h4 => ?_
 refine W.region_plain (row := (some b21)) [(0, false), (1, false), (2, true)] kk ?_
 have s36 := SG.self w30 (some b21)
 refine Fv (.bool b) ?_
 refine Fq (.pointer (some ⟨b21, 3, none⟩)) (r_field (k := 3) rfl ek kk) ?_
 refine W.ss (v := .bool b) (j := 3) (news := [.bool b]) (cs' := #[.int .i64 x.id, .int .i64 x.pipe, .int .i64 x.node, .bool b]) s36 rfl kk rfl rfl kk kk x32 kk kk (by simp) kk kk (.inl rfl) (fun w37 g38 x39 s40 => ?_)
 have ho41 := own_grown ho34 g38 (fun j e1 e2 => by cases e2; exact nb28 e1.symm)
 refine F.es ?_
 have c42 := (SG.belowR c35 s40 (fun kq e => by cases e; exact lo27))
 refine h4 _ _ ?_
 refine wk fun K5 h5 => ?_
 refine W.region_plain (row := (Value.ownBlock (.slice (some ⟨g20, 0, none⟩) (0 + n2) cap11))) [(0, false), (1, false), (2, false), (3, false), (4, true)] kk ?_
 have s43 := SG.self w37 (Value.ownBlock (.slice (some ⟨g20, 0, none⟩) (0 + n2) cap11))
 refine Fv (.slice (some ⟨g20, 0, none⟩) (0 + n2) cap11) ?_
 refine Fv (.int .i64 (k : Int)) ?_
 refine Fq (.agg #[.int .i64 x.id, .int .i64 x.pipe, .int .i64 x.node, .bool b]) (r_load4 rfl ek kk kk (sgS (blk_cell (j := 0) x39 kk) nb28) (sgS (blk_cell (j := 1) x39 kk) nb28) (sgS (blk_cell (j := 2) x39 kk) nb28) (sgS (blk_cell (j := 3) x39 kk) nb28)) ?_
 refine Fq (.pointer (some ⟨g20, 0 + k * 4, none⟩)) (r_idx (n := (0 + n2)) (c := cap11) (k := k) (size := 4) rfl ek rfl kk kk (by omega)) ?_
 refine W.sst (base := w.heap.size) (e := 40) (size := 4) (n := (0 + n2)) (c := cap11) (j := 0 + k * 4) (u := .agg #[.int .i64 x.id, .int .i64 x.pipe, .int .i64 x.node, .bool b]) (news := [.int .i64 x.id, .int .i64 x.pipe, .int .i64 x.node, .bool b]) s43 rfl kk rfl rfl kk kk ho41 kk kk kk (by simp only [List.length_cons, List.length_nil]; omega) (.inl rfl) (fun w44 ho45 g46 s47 => ?_)
 have ho45 := own_setV hx ⟨x.id, x.pipe, x.node, b⟩ ho45
 refine F.es ?_
 have c48 := (SG.belowR c42 s47 (fun kq e => (World.ownsRow.lt ho41 kq e).1))
 refine h5 _ _ ?_
 refine wk fun K6 h6 => ?_
 refine W.region_quiet [(0, false), (1, false)] kk ?_
 refine Fv (.slice (some ⟨g20, 0, none⟩) (0 + n2) cap11) ?_
 refine Fa (.slice (some ⟨g20, 0, none⟩) (0 + n2) cap11) ?_
 refine F.es ?_
 refine h6 _ _ ?_
 refine wp_ret ?_
 try simp only [Exit.then]
 refine ret1 (v := .slice (some ⟨g20, 0, none⟩) (0 + n2) cap11) rfl kk ?_
 exact ⟨_, _, _, rfl, ho45, c48⟩
set_option maxRecDepth 100000 in
set_option maxHeartbeats 8000000 in
theorem TurnValve_spec (m : Int) (A : Option Addr) (n c : Nat) (ps : List Pp) (A2 : Option Addr) (n2 c2 : Nat) (vs : List Vv) (a : Int) (b : Bool) (w : World) (ha : Rd w 4 A n (pipesV ps)) (hb : Rd w 4 A2 n2 (valvesV vs)) (hn : n ≤ 1048576) (hn2 : n2 ≤ 1048576) (hfm : Fm A n c) (hfm2 : Fm A2 n2 c2) :
    Calls Try.prog 25 #[.agg #[.int .i64 m, .slice A n c], .slice A2 n2 c2, .int .i64 a, .bool b] w fun e w' => ∃ A' d, e = .returned (.tuple #[.slice A' (TurnValve_v0 m ps vs a b).length d, .bool (TurnValve_v1 m ps vs a b)]) ∧ w'.ownsRow w.heap.size 40 4 (.slice A' (TurnValve_v0 m ps vs a b).length d) (TurnValve_v0 m ps vs a b).length (valvesV (TurnValve_v0 m ps vs a b)) ∧ Below w.heap.size w w' := by
 have hl := rd_pipes_len ha
 have hl2 := rd_valves_len hb
 go_enter Try.func25, Try.ntmps25
 refine F.begin 36 [(0, .agg #[.int .i64 m, .slice A n c]), (1, .slice A2 n2 c2), (2, .int .i64 a), (3, .bool b)] (fun U0 => ?_)
 refine wk fun K1 h1 => ?_
 refine W.region_plain (row := none) [(0, true), (1, false), (2, false)] kk ?_
 have s1 := SG.self w none
 refine W.sn (fun b => .pointer (some ⟨b, 0, none⟩)) #[.int .i64 m, .slice A n c] 26 s1 rfl kk rfl (fun _ => by kernel_rfl) (fun b2 w3 hb4 k5 x6 s7 => ?_)
 refine F.nx ?_
 have lo8 : w.heap.size ≤ b2 := Nat.le_trans ((SG.belowR (Below.refl _ _) s1 (fun kq e => by cases e))).size (Nat.le_of_eq hb4)
 refine Fa (.slice none 0 0) ?_
 refine Fa (.bool false) ?_
 refine F.es ?_
 have c9 := (SG.belowR (Below.refl _ _) s7 (fun kq e => by cases e))
 refine h1 _ _ ?_
 refine wk fun K2 h2 => ?_
 refine W.region_plain (row := none) [(0, false), (1, false), (2, true), (3, false)] kk ?_
 have s10 := SG.self w3 none
 refine Fv (.slice A2 n2 c2) ?_
 refine Fv (.int .i64 a) ?_
 refine Fc [.slice A2 n2 c2, .int .i64 a] (l4Find_any A2 n2 c2 vs a _ (Rd.kept hb (SG.belowR c9 s10 (fun kq e => by cases e))) (by omega)) ?_
 rintro e w12 ⟨rfl, b11⟩
 have s13 := SG.of_below s10 b11
 refine ⟨_, rfl, s13, ?_⟩
 refine F.nx ?_
 refine Fa (.int .i64 (idxV (idQ a) vs)) ?_
 refine F.es ?_
 have x6 := SG.blk s13 x6 (Option.some_ne_none _)
 have c14 := (SG.belowR c9 s13 (fun kq e => by cases e))
 refine h2 _ _ ?_
 refine wk fun K3 h3 => ?_
 refine wk fun K4 h4 => ?_
 refine W.region_plain (row := none) [(0, false), (1, false), (2, true), (3, false), (4, false), (5, false), (6, false), (7, false), (8, false), (9, false), (10, false), (11, false), (12, false), (13, false), (14, false), (15, false), (16, false)] kk ?_
 have s15 := SG.self w12 none
 refine Fq (.agg #[.int .i64 m, .slice A n c]) (r_load2 rfl ek kk kk (sgS (blk_cell (j := 0) x6 kk) (Option.some_ne_none _)) (sgS (blk_cell (j := 1) x6 kk) (Option.some_ne_none _))) ?_
 refine Fv (.slice A2 n2 c2) ?_
 refine Fc [.agg #[.int .i64 m, .slice A n c], .slice A2 n2 c2] (l4Good_any m A n c ps A2 n2 c2 vs _ (Rd.kept ha (SG.belowR c14 s15 (fun kq e => by cases e))) (Rd.kept hb (SG.belowR c14 s15 (fun kq e => by cases e))) (by omega) (by omega)) ?_
 rintro e w17 ⟨rfl, b16⟩
 have s18 := SG.of_below s15 b16
 refine ⟨_, rfl, s18, ?_⟩
 refine F.nx ?_
 rcases Bool.eq_false_or_eq_true (goodV m ps vs) with q19 | q19
 ·rw [q19]
  have hv9 := goodV_of q19
  have hg := hv9.net
  have hgl := hg.lo
  have hgh := hg.hi
  have hp := hg.pipesIn
  have hlen10 := hg.len
  have hu := hv9.uniq
  have hvl := hv9.len
  refine Fq (.bool false) (r_not (b := true) rfl ek rfl) ?_
  refine Fv (.bool false) ?_
  refine Fv (.int .i64 (idxV (idQ a) vs)) ?_
  by_cases q20 : ((idxV (idQ a) vs) : Int) < (0 : Int)
  ·refine Fq (.bool true) (r_lss (m := (idxV (idQ a) vs)) (n := 0) rfl ek ek (decide_eq_true q20)) ?_
   refine Fq (.bool true) (r_pick (b := false) rfl ek ek) ?_
   refine Fv (.bool true) ?_
   refine Fs s18 ?_
   refine Fs s18 ?_
   refine Fs s18 ?_
   refine Fs s18 ?_
   refine Fs s18 ?_
   refine Fs s18 ?_
   refine Fs s18 ?_
   refine Fq (.bool true) (r_pick (b := true) rfl ek ek) ?_
   refine F.es ?_
   have c21 := (SG.belowR c14 s18 (fun kq e => by cases e))
   refine h4 _ _ ?_
   refine wp_cond_true ek ?_
   refine wk fun K5 h5 => ?_
   refine W.region_plain (row := none) [(0, true), (1, false), (2, false)] kk ?_
   have s22 := SG.self w17 none
   refine W.sn (fun b => .slice (some ⟨b, 0, none⟩) 0 0) #[] 40 s22 rfl kk rfl (fun _ => by kernel_rfl) (fun b23 w24 hb25 k26 x27 s28 => ?_)
   refine F.nx ?_
   have lo29 : w.heap.size ≤ b23 := Nat.le_trans ((SG.belowR c21 s22 (fun kq e => by cases e))).size (Nat.le_of_eq hb25)
   refine Fa (.slice (some ⟨b23, 0, none⟩) 0 0) ?_
   refine Fa (.bool false) ?_
   refine F.es ?_
   have c31 := (SG.belowR c21 s28 (fun kq e => by cases e))
   refine h5 _ _ ?_
   refine wp_ret ?_
   try simp only [Exit.then]
   refine ret2 (v := .slice (some ⟨b23, 0, none⟩) 0 0) (x := .bool false) rfl kk kk ?_
   have ok32 : TurnValve_v1 m ps vs a b = false := by unfold TurnValve_v1 turnOk; rw [decide_eq_false (by omega), Bool.false_and, Bool.and_false]
   have ho33 := own_empty (base := w.heap.size) (size := 4) x27 lo29
   replace ho33 : World.ownsRow _ _ _ _ _ _ (valvesV []) := ho33
   exact fin_valves (zs := []) ho33 (by unfold TurnValve_v0; rw [if_neg (by rw [ok32]; simp)]) ok32.symm c31
  refine Fq (.bool false) (r_lss (m := (idxV (idQ a) vs)) (n := 0) rfl ek ek (decide_eq_false q20)) ?_
  refine Fq (.bool false) (r_pick (b := false) rfl ek ek) ?_
  refine Fv (.bool false) ?_
  refine Fv (.slice A2 n2 c2) ?_
  refine Fv (.int .i64 (idxV (idQ a) vs)) ?_
  obtain ⟨k9, x9, e9, hx9, hq9⟩ := idx_some (vs := vs) (q := idQ a) (by omega)
  have hk9 := (List.getElem?_eq_some_iff.1 hx9).1
  obtain ⟨b35, o36, hA37, hb38, hc39, hc40, hc41, hc42⟩ := Rd.elValve hb hx9
  refine Fq (.pointer (some ⟨b35, o36 + k9 * 4, none⟩)) (r_idx (n := n2) (c := c2) (k := k9) rfl ek hA37 (evk (z := (idxV (idQ a) vs)) kk e9) kk (by have := hl2; omega)) ?_
  refine Fq (.pointer (some ⟨b35, o36 + k9 * 4 + 3, none⟩)) (r_field (k := 3) rfl ek kk) ?_
  refine Fl (.bool x9.shut) (sgS (later c14 hc42) (by simp)) ?_
  refine Fv (.bool b) ?_
  by_cases q43 : x9.shut = b
  ·refine Fq (.bool true) (r_eqlB (m := x9.shut) (n := b) rfl ek ek kk (beq_iff_eq.2 q43)) ?_
   refine Fq (.bool true) (r_pick (b := false) rfl ek ek) ?_
   refine F.es ?_
   have c44 := (SG.belowR c14 s18 (fun kq e => by cases e))
   refine h4 _ _ ?_
   refine wp_cond_true ek ?_
   refine wk fun K6 h6 => ?_
   refine W.region_plain (row := none) [(0, true), (1, false), (2, false)] kk ?_
   have s45 := SG.self w17 none
   refine W.sn (fun b => .slice (some ⟨b, 0, none⟩) 0 0) #[] 40 s45 rfl kk rfl (fun _ => by kernel_rfl) (fun b46 w47 hb48 k49 x50 s51 => ?_)
   refine F.nx ?_
   have lo52 : w.heap.size ≤ b46 := Nat.le_trans ((SG.belowR c44 s45 (fun kq e => by cases e))).size (Nat.le_of_eq hb48)
   refine Fa (.slice (some ⟨b46, 0, none⟩) 0 0) ?_
   refine Fa (.bool false) ?_
   refine F.es ?_
   have c54 := (SG.belowR c44 s51 (fun kq e => by cases e))
   refine h6 _ _ ?_
   refine wp_ret ?_
   try simp only [Exit.then]
   refine ret2 (v := .slice (some ⟨b46, 0, none⟩) 0 0) (x := .bool false) rfl kk kk ?_
   have ok55 : TurnValve_v1 m ps vs a b = false := by unfold TurnValve_v1; rw [turnOk_at e9 hx9, beq_iff_eq.2 q43, Bool.not_true, Bool.and_false]
   have ho56 := own_empty (base := w.heap.size) (size := 4) x50 lo52
   replace ho56 : World.ownsRow _ _ _ _ _ _ (valvesV []) := ho56
   exact fin_valves (zs := []) ho56 (by unfold TurnValve_v0; rw [if_neg (by rw [ok55]; simp)]) ok55.symm c54
  refine Fq (.bool false) (r_eqlB (m := x9.shut) (n := b) rfl ek ek kk (beq_eq_false_iff_ne.2 q43)) ?_
  refine Fq (.bool false) (r_pick (b := false) rfl ek ek) ?_
  refine F.es ?_
  have c58 := (SG.belowR c14 s18 (fun kq e => by cases e))
  refine h4 _ _ ?_
  refine wp_cond_false ek ?_
  refine wp_skip ?_
  refine h3 _ _ ?_
  refine wk fun K7 h7 => ?_
  refine W.region_plain (row := none) [(0, false), (1, false), (2, false), (3, true), (4, false), (5, false)] kk ?_
  have s59 := SG.self w17 none
  refine Fv (.slice A2 n2 c2) ?_
  refine Fv (.int .i64 (idxV (idQ a) vs)) ?_
  refine Fv (.bool b) ?_
  have z65 := ((SG.belowR c58 s59 (fun kq e => by cases e))).size
  refine W.sc (vs := [.slice A2 n2 c2, .int .i64 (k9 : Int), .bool b]) rfl rfl (Eq.trans (b := [.slice A2 n2 c2, .int .i64 (idxV (idQ a) vs), .bool b]) kk (by rw [e9])) kk kk rfl (l4Turned_any A2 n2 c2 vs k9 x9 b _ (Rd.kept hb (SG.belowR c58 s59 (fun kq e => by cases e))) (by omega) hfm2 hx9) ?_
  rintro e w68 ⟨A60, n61, c62, rfl, ho63, b67⟩
  have s69 := SG.of_below s59 b67
  refine ⟨_, rfl, s69, ?_⟩
  refine F.nx ?_
  have ho64 := own_base (base' := w.heap.size) ho63 z65
  refine Fa (.slice A60 n61 c62) ?_
  refine Fa (.bool true) ?_
  refine F.es ?_
  have c71 := (SG.belowR c58 s69 (fun kq e => by cases e))
  refine h7 _ _ ?_
  refine wp_ret ?_
  try simp only [Exit.then]
  refine ret2 (v := .slice A60 n61 c62) (x := .bool true) rfl kk kk ?_
  have ok72 : TurnValve_v1 m ps vs a b = true := by unfold TurnValve_v1; rw [q19, turnOk_at e9 hx9, beq_eq_false_iff_ne.2 q43]; try rfl
  exact fin_valves ho64 (by unfold TurnValve_v0; rw [if_pos ok72, turned_at e9 hx9]) ok72.symm c71
 rw [q19]
 refine Fq (.bool true) (r_not (b := false) rfl ek rfl) ?_
 refine Fv (.bool true) ?_
 refine Fs s18 ?_
 refine Fs s18 ?_
 refine Fq (.bool true) (r_pick (b := true) rfl ek ek) ?_
 refine Fv (.bool true) ?_
 refine Fs s18 ?_
 refine Fs s18 ?_
 refine Fs s18 ?_
 refine Fs s18 ?_
 refine Fs s18 ?_
 refine Fs s18 ?_
 refine Fs s18 ?_
 refine Fq (.bool true) (r_pick (b := true) rfl ek ek) ?_
 refine F.es ?_
 have c73 := (SG.belowR c14 s18 (fun kq e => by cases e))
 refine h4 _ _ ?_
 refine wp_cond_true ek ?_
 refine wk fun K8 h8 => ?_
 refine W.region_plain (row := none) [(0, true), (1, false), (2, false)] kk ?_
 have s74 := SG.self w17 none
 refine W.sn (fun b => .slice (some ⟨b, 0, none⟩) 0 0) #[] 40 s74 rfl kk rfl (fun _ => by kernel_rfl) (fun b75 w76 hb77 k78 x79 s80 => ?_)
 refine F.nx ?_
 have lo81 : w.heap.size ≤ b75 := Nat.le_trans ((SG.belowR c73 s74 (fun kq e => by cases e))).size (Nat.le_of_eq hb77)
 refine Fa (.slice (some ⟨b75, 0, none⟩) 0 0) ?_
 refine Fa (.bool false) ?_
 refine F.es ?_
 have c83 := (SG.belowR c73 s80 (fun kq e => by cases e))
 refine h8 _ _ ?_
 refine wp_ret ?_
 try simp only [Exit.then]
 refine ret2 (v := .slice (some ⟨b75, 0, none⟩) 0 0) (x := .bool false) rfl kk kk ?_
 have ok84 : TurnValve_v1 m ps vs a b = false := by unfold TurnValve_v1; rw [q19]; try rfl
 have ho85 := own_empty (base := w.heap.size) (size := 4) x79 lo81
 replace ho85 : World.ownsRow _ _ _ _ _ _ (valvesV []) := ho85
 exact fin_valves (zs := []) ho85 (by unfold TurnValve_v0; rw [if_neg (by rw [ok84]; simp)]) ok84.symm c83
end Go.Proofs.Ytdbgfejeleafgaa
namespace Go.Proofs.Ytdbgfejeleafgaa
open Go.RowKit
set_option linter.unusedVariables false
set_option linter.unusedSimpArgs false
noncomputable def needL (ps : List Pp) (vs us : List Vv) : List Int := (us.filter (fun v => rb (linked ps (openQ vs false)) v.node (9 + findL ps v.pipe))).map (fun v => v.id)
theorem needL_len (ps : List Pp) (vs us : List Vv) : (needL ps vs us).length ≤ us.length := by
  unfold needL; rw [List.length_map]; exact List.length_filter_le _ _
theorem needL_yes {ps : List Pp} {vs us : List Vv} {i : Nat} {x : Vv} (hx : us[i]? = some x) (h : rb (linked ps (openQ vs false)) x.node (9 + findL ps x.pipe) = true) : needL ps vs (us.take (i + 1)) = needL ps vs (us.take i) ++ [x.id] := by
  unfold needL; rw [List.take_add_one, hx, List.filter_append, List.map_append]; simp [h]
theorem needL_no {ps : List Pp} {vs us : List Vv} {i : Nat} {x : Vv} (hx : us[i]? = some x) (h : rb (linked ps (openQ vs false)) x.node (9 + findL ps x.pipe) = false) : needL ps vs (us.take (i + 1)) = needL ps vs (us.take i) := by
  unfold needL; rw [List.take_add_one, hx, List.filter_append, List.map_append]; simp [h]
noncomputable def NeedlessValves_v0 (m : Int) (ps : List Pp) (vs : List Vv) : List Int := if goodV m ps vs = true then needL ps vs vs else []
def NeedlessValves_v1 (m : Int) (ps : List Pp) (vs : List Vv) : Bool := goodV m ps vs
theorem NeedlessValves_len (m : Int) (ps : List Pp) (vs : List Vv) : (NeedlessValves_v0 m ps vs).length ≤ 1048576 := by
  unfold NeedlessValves_v0
  split
  · rename_i h
    have := needL_len ps vs vs
    have := (goodV_of h).len
    omega
  · simp
set_option maxRecDepth 100000 in
set_option maxHeartbeats 8000000 in
theorem NeedlessValves_impl (m : Int) (A : Option Addr) (n c : Nat) (ps : List Pp) (A2 : Option Addr) (n2 c2 : Nat) (vs : List Vv) (w : World) (ha : Rd w 4 A n (pipesV ps)) (hb : Rd w 4 A2 n2 (valvesV vs)) (hn : n ≤ 1048576) (hn2 : n2 ≤ 1048576) (hfm : Fm A n c) (hfm2 : Fm A2 n2 c2) :
    Calls Try.prog 31 #[.agg #[.int .i64 m, .slice A n c], .slice A2 n2 c2] w fun e w' => ∃ A' d, e = .returned (.tuple #[.slice A' (NeedlessValves_v0 m ps vs).length d, .bool (NeedlessValves_v1 m ps vs)]) ∧ w'.ownsRow w.heap.size 3 1 (.slice A' (NeedlessValves_v0 m ps vs).length d) (NeedlessValves_v0 m ps vs).length (intsV (NeedlessValves_v0 m ps vs)) ∧ Below w.heap.size w w' := by
 have hl := rd_pipes_len ha
 have hl2 := rd_valves_len hb
 go_enter Try.func31, Try.ntmps31
 refine F.begin 40 [(0, .agg #[.int .i64 m, .slice A n c]), (1, .slice A2 n2 c2)] (fun U0 => ?_)
 refine wk fun K1 h1 => ?_
 refine W.region_plain (row := none) [(0, true), (1, false), (2, false)] kk ?_
 have s1 := SG.self w none
 refine W.sn (fun b => .pointer (some ⟨b, 0, none⟩)) #[.int .i64 m, .slice A n c] 26 s1 rfl kk rfl (fun _ => by kernel_rfl) (fun b2 w3 hb4 k5 x6 s7 => ?_)
 refine F.nx ?_
 have lo8 : w.heap.size ≤ b2 := Nat.le_trans ((SG.belowR (Below.refl _ _) s1 (fun kq e => by cases e))).size (Nat.le_of_eq hb4)
 refine Fa (.slice none 0 0) ?_
 refine Fa (.bool false) ?_
 refine F.es ?_
 have c9 := (SG.belowR (Below.refl _ _) s7 (fun kq e => by cases e))
 refine h1 _ _ ?_
 refine wk fun K2 h2 => ?_
 refine wk fun K3 h3 => ?_
 refine W.region_plain (row := none) [(0, false), (1, false), (2, true), (3, false)] kk ?_
 have s10 := SG.self w3 none
 refine Fq (.agg #[.int .i64 m, .slice A n c]) (r_load2 rfl ek kk kk (sgS (blk_cell (j := 0) x6 kk) (Option.some_ne_none _)) (sgS (blk_cell (j := 1) x6 kk) (Option.some_ne_none _))) ?_
 refine Fv (.slice A2 n2 c2) ?_
 refine Fc [.agg #[.int .i64 m, .slice A n c], .slice A2 n2 c2] (IsValidValves_any m A n c ps A2 n2 c2 vs _ (Rd.kept ha (SG.belowR c9 s10 (fun kq e => by cases e))) (Rd.kept hb (SG.belowR c9 s10 (fun kq e => by cases e))) (by omega) (by omega) hfm2) ?_
 rintro e w12 ⟨rfl, b11⟩
 have s13 := SG.of_below s10 b11
 refine ⟨_, rfl, s13, ?_⟩
 refine F.nx ?_
 rcases Bool.eq_false_or_eq_true (goodV m ps vs) with q14 | q14
 ·rw [q14]
  have hv9 := goodV_of q14
  have hg := hv9.net
  have hgl := hg.lo
  have hgh := hg.hi
  have hp := hg.pipesIn
  have hlen10 := hg.len
  have hu := hv9.uniq
  have hvl := hv9.len
  refine Fq (.bool false) (r_not (b := true) rfl ek rfl) ?_
  refine F.es ?_
  have x6 := SG.blk s13 x6 (Option.some_ne_none _)
  have c15 := (SG.belowR c9 s13 (fun kq e => by cases e))
  refine h3 _ _ ?_
  refine wp_cond_false ek ?_
  refine wp_skip ?_
  refine h2 _ _ ?_
  refine wk fun K4 h4 => ?_
  refine W.region_plain (row := none) [(0, true), (1, false)] kk ?_
  have s16 := SG.self w12 none
  refine W.sn (fun b => .slice (some ⟨b, 0, none⟩) 0 0) #[] 3 s16 rfl kk rfl (fun _ => by kernel_rfl) (fun b17 w18 hb19 k20 x21 s22 => ?_)
  refine F.nx ?_
  have lo23 : w.heap.size ≤ b17 := Nat.le_trans ((SG.belowR c15 s16 (fun kq e => by cases e))).size (Nat.le_of_eq hb19)
  have ne24 : b2 ≠ b17 := Nat.ne_of_lt (Nat.lt_of_lt_of_eq (Nat.lt_of_lt_of_le (blk_lt x6) (s16).size) hb19)
  refine Fa (.slice (some ⟨b17, 0, none⟩) 0 0) ?_
  refine F.es ?_
  have x6 := SG.blk s22 x6 (Option.some_ne_none _)
  have c25 := (SG.belowR c15 s22 (fun kq e => by cases e))
  refine h4 _ _ ?_
  refine wk fun K5 h5 => ?_
  refine wk fun K6 h6 => ?_
  refine W.region_quiet [(0, false), (1, false), (2, false)] kk ?_
  refine Fv (.slice A2 n2 c2) ?_
  refine Fq (.int .i64 (n2 : Int)) (r_len (A := A2) (n := n2) (c := c2) rfl ek kk) ?_
  refine Fv (.int .i64 0) ?_
  refine F.es ?_
  refine h6 _ _ ?_
  refine wp_block ?_
  have ho26 := own_empty (base := w.heap.size) (size := 1) x21 lo23
  replace ho26 : World.ownsRow _ _ _ _ _ _ (intsV []) := ho26
  have nb27 : Nb b2 (.slice (some ⟨b17, 0, none⟩) 0 0) := nb_new ne24
  refine loopK (fun am0 aa0 wl0 => ∃ (i : Nat) (A0_6 : Option Addr) (n0_6 : Nat) (c0_6 : Nat) , Kn aa0 [(0, .agg #[.int .i64 m, .slice A n c]), (1, .slice A2 n2 c2), (2, .pointer (some ⟨b2, 0, none⟩)), (4, .slice none 0 0), (5, .bool false), (6, .slice A0_6 n0_6 c0_6), (12, .bool false), (14, .slice A2 n2 c2), (15, .int .i64 (n2 : Int)), (16, .int .i64 (i : Int))] 40 ∧ (am0 = n2 - i) ∧ (i ≤ n2) ∧ (n0_6 ≤ i) ∧ (wl0.heap[b2]? = some (.cells #[.int .i64 m, .slice A n c] 26 (0, 0))) ∧ (wl0.ownsRow w.heap.size 3 1 (.slice A0_6 n0_6 c0_6) n0_6 (intsV (needL ps vs (vs.take i)))) ∧ (Nb b2 (.slice A0_6 n0_6 c0_6)) ∧ (Below w.heap.size w wl0)) (n2 - 0) ?_ ?_
  ·exact ⟨0, (some ⟨b17, 0, none⟩), 0, 0, Kn.of, rfl, (Nat.zero_le _), (Nat.zero_le _), x6, ho26, nb27, c25⟩
  rintro am0 aa0 wl0 K7 h7 ⟨i, A0_6, n0_6, c0_6, ⟨U0, rfl⟩, rfl, hi, hb6, x6, ho0_6, nb0_6_b2, c28⟩
  refine wk fun K8 h8 => ?_
  refine W.region_quiet [(0, false)] kk ?_
  by_cases q29 : ((i : Int) : Int) < ((n2 : Int) : Int)
  ·refine Fq (.bool true) (r_lss (m := (i : Int)) (n := (n2 : Int)) rfl ek ek (decide_eq_true q29)) ?_
   refine F.es ?_
   refine h8 _ _ ?_
   refine wk fun K9 h9 => ?_
   refine wp_cond_true ek ?_
   refine wp_skip ?_
   refine h9 _ _ ?_
   refine wk fun K10 h10 => ?_
   refine wp_block ?_
   refine wk fun K11 h11 => ?_
   refine W.region_plain (row := none) [(0, false), (1, false), (2, true), (3, true)] kk ?_
   have s30 := SG.self wl0 none
   obtain ⟨x31, hx32⟩ := get_of (zs := vs) (k := i) (by have := hl2; omega)
   obtain ⟨b33, o34, hA35, hb36, hc37, hc38, hc39, hc40⟩ := Rd.elValve hb hx32
   refine Fq (.pointer (some ⟨b33, o34 + i * 4, none⟩)) (r_idx (n := n2) (c := c2) (k := i) rfl ek hA35 kk kk (by have := hl2; omega)) ?_
   refine Fq (.agg #[.int .i64 x31.id, .int .i64 x31.pipe, .int .i64 x31.node, .bool x31.shut]) (r_load4 rfl ek kk kk (sgS (later c28 hc37) (by simp)) (sgS (later c28 hc38) (by simp)) (sgS (later c28 hc39) (by simp)) (sgS (later c28 hc40) (by simp))) ?_
   refine W.sn (fun b => .pointer (some ⟨b, 0, none⟩)) #[.int .i64 0, .int .i64 0, .int .i64 0, .bool false] 40 s30 rfl kk rfl (fun _ => by kernel_rfl) (fun b41 w42 hb43 k44 x45 s46 => ?_)
   refine F.nx ?_
   have lo47 : w.heap.size ≤ b41 := Nat.le_trans ((SG.belowR c28 s30 (fun kq e => by cases e))).size (Nat.le_of_eq hb43)
   have nb49 : Nb b41 (.slice A0_6 n0_6 c0_6) := nb_hi ho0_6 (Nat.le_of_eq hb43)
   have ho50 := own_kept ho0_6 k44
   refine W.ss (v := .agg #[.int .i64 x31.id, .int .i64 x31.pipe, .int .i64 x31.node, .bool x31.shut]) (j := 0) (news := [.int .i64 x31.id, .int .i64 x31.pipe, .int .i64 x31.node, .bool x31.shut]) (cs' := #[.int .i64 x31.id, .int .i64 x31.pipe, .int .i64 x31.node, .bool x31.shut]) s46 rfl kk rfl rfl kk kk x45 kk kk (by simp) kk kk (.inr (Nat.le_trans (s30).size (Nat.le_of_eq hb43))) (fun w51 g52 x53 s54 => ?_)
   have ho55 := own_grown ho50 g52 (fun j e1 e2 => by cases e2; exact nb49 e1.symm)
   refine F.es ?_
   have x6 := SG.blk s54 x6 (Option.some_ne_none _)
   have c56 := (SG.belowR c28 s54 (fun kq e => by cases e))
   refine h11 _ _ ?_
   refine wk fun K12 h12 => ?_
   refine W.region_sch (row := none) (Sch.of [(0, false), (1, false), (2, false), (3, false), (5, false), (6, false), (7, false), (4, true), (10, false), (8, true), (9, true), (11, false), (12, true)]) kk kk (fun _ d _ _ _ h => by cases d <;> exact h) kk (fun w57 e58 s59 => ?_)
   have ho60 := own_heap ho55 e58
   refine Fq (.agg #[.int .i64 m, .slice A n c]) (r_load2 rfl ek kk kk (sgS (blk_cell (j := 0) x6 kk) (Option.some_ne_none _)) (sgS (blk_cell (j := 1) x6 kk) (Option.some_ne_none _))) ?_
   refine Fv (.slice A2 n2 c2) ?_
   refine Fq (.pointer (some ⟨b41, 2, none⟩)) (r_field (k := 2) rfl ek kk) ?_
   refine Fl (.int .i64 x31.node) (sgS (blk_cell (j := 2) x53 kk) (Option.some_ne_none _)) ?_
   refine Fq (.agg #[.int .i64 m, .slice A n c]) (r_load2 rfl ek kk kk (sgS (blk_cell (j := 0) x6 kk) (Option.some_ne_none _)) (sgS (blk_cell (j := 1) x6 kk) (Option.some_ne_none _))) ?_
   refine Fq (.pointer (some ⟨b41, 1, none⟩)) (r_field (k := 1) rfl ek kk) ?_
   refine Fl (.int .i64 x31.pipe) (sgS (blk_cell (j := 1) x53 kk) (Option.some_ne_none _)) ?_
   obtain ⟨kz, pz, ekz, hkz, hpz, hnz⟩ := hv9.place x31 (List.mem_of_getElem? hx32)
   have hgz := hg.at hpz
   refine Fc [.agg #[.int .i64 m, .slice A n c], .slice A2 n2 c2, .int .i64 x31.node] (segmentOf_any m A n c ps A2 n2 c2 vs (x31.node) (x31.node).toNat _ (Rd.kept ha (SG.belowR c56 s59 (fun kq e => by cases e))) (Rd.kept hb (SG.belowR c56 s59 (fun kq e => by cases e))) (by omega) (by omega) hp (by omega) (by omega) (by omega) (by omega)) ?_
   rintro e w68 ⟨pb61, rfl, lo65, rd62, b67⟩
   have s69 := SG.of_below s59 b67
   refine ⟨_, rfl, s69, ?_⟩
   refine F.nx ?_
   have ho70 := own_kept ho60 b67
   have hl63 := rd_bools_len rd62
   rw [wetL_len] at hl63
   have hl63 : (wetL (linked ps (openQ vs false)) (x31.node)).length = 19 := wetL_len _ _
   refine Fq (.pointer (some ⟨pb61, 0, none⟩)) (r_nilCheck rfl ek) ?_
   refine Fc [.agg #[.int .i64 m, .slice A n c], .int .i64 x31.pipe] (pipeIndex_any m A n c ps x31.pipe _ (Rd.kept ha (SG.belowR c56 s69 (fun kq e => by cases e))) (by omega)) ?_
   rintro e w72 ⟨rfl, b71⟩
   have s73 := SG.of_below s69 b71
   refine ⟨_, rfl, s73, ?_⟩
   refine F.nx ?_
   have ho74 := own_kept ho70 b71
   have rd75 := Rd.kept rd62 b71
   refine Fc [.int .i64 (findL ps x31.pipe)] (element_any (findL ps x31.pipe) _ (by omega)) ?_
   rintro e w' ⟨rfl, rfl⟩
   refine ⟨_, rfl, s73, ?_⟩
   refine F.nx ?_
   obtain ⟨x78, hx79⟩ := get_of (zs := (wetL (linked ps (openQ vs false)) (x31.node))) (k := (9 + kz)) (by have := hl63; omega)
   obtain ⟨hb80, hc81⟩ := Rd.elBool rd75 hx79
   refine Fq (.pointer (some ⟨pb61, (9 + kz), none⟩)) (r_idxA (len := 19) (k := (9 + kz)) rfl ek (evk (z := 9 + (findL ps x31.pipe)) kk (by omega)) kk (by omega)) ?_
   refine W.slq (v := .bool x78) s73 rfl (r_load rfl kk kk (eqS hc81)) kk rfl ?_
   refine F.nx ?_
   refine F.es ?_
   have x6 := SG.blk s73 x6 (Option.some_ne_none _)
   have x53 := SG.blk s73 x53 (Option.some_ne_none _)
   have c82 := (SG.belowR c56 s73 (fun kq e => by cases e))
   refine h12 _ _ ?_
   rcases Bool.eq_false_or_eq_true x78 with q83 | q83
   ·rw [q83]
    refine wp_cond_true ek ?_
    refine W.region_plain (row := (Value.ownBlock (.slice A0_6 n0_6 c0_6))) [(0, false), (1, false), (2, false), (3, true), (4, true), (5, false)] kk ?_
    have s84 := SG.self w72 (Value.ownBlock (.slice A0_6 n0_6 c0_6))
    refine Fv (.slice A0_6 n0_6 c0_6) ?_
    refine Fq (.pointer (some ⟨b41, 0, none⟩)) (r_field0 rfl ek kk) ?_
    refine Fl (.int .i64 x31.id) (sgS (blk_cell (j := 0) x53 kk) nb49) ?_
    refine W.sn (fun b => .slice (some ⟨b, 0, none⟩) 1 1) #[.int .i64 x31.id] 3 s84 rfl kk rfl (fun _ => by kernel_rfl) (fun b85 w86 hb87 k88 x89 s90 => ?_)
    refine F.nx ?_
    have lo91 : w.heap.size ≤ b85 := Nat.le_trans ((SG.belowR c82 s84 (fun kq e => (World.ownsRow.lt ho74 kq e).1))).size (Nat.le_of_eq hb87)
    have ho96 := own_kept ho74 k88
    refine W.sap (e := 3) (size := 1) (base := w.heap.size) (m := 1) (v := .slice A0_6 n0_6 c0_6) (c := 1) s90 rfl rfl rfl rfl kk kk kk ho96 x89 kk kk (by omega) (by omega) (by have := ((SG.belowR c82 s90 (fun kq e => (World.ownsRow.lt ho74 kq e).1))).size; omega) (.inl rfl) (fun g97 cap98 w99 ho100 hg101 hat102 hlt103 s104 => ?_)
    refine F.nx ?_
    have nb105 : Nb b2 (.slice (some ⟨g97, 0, none⟩) (n0_6 + 1) cap98) := nb_app nb0_6_b2 (Nat.lt_of_lt_of_le (blk_lt x6) (s90).size) hat102
    have ho100 := own_snoc ho100
    refine Fa (.slice (some ⟨g97, 0, none⟩) (n0_6 + 1) cap98) ?_
    refine F.es ?_
    have x6 := SG.blk s104 x6 nb0_6_b2
    have c108 := (SG.belowR c82 s104 (fun kq e => (World.ownsRow.lt ho74 kq e).1))
    refine h10 _ _ ?_
    refine W.region_quiet [(0, false), (1, false)] kk ?_
    refine Fq (.int .i64 ((i + 1 : Nat) : Int)) (r_add (m := (i : Int)) (n := 1) (z := ((i + 1 : Nat) : Int)) rfl ek ek (by omega) (by omega)) ?_
    refine Fv (.int .i64 ((i + 1 : Nat) : Int)) ?_
    refine F.es ?_
    exact h7 _ _ _ (by omega : (n2 - (i + 1)) < _) ⟨i + 1, (some ⟨g97, 0, none⟩), (n0_6 + 1), cap98, Kn.of, rfl, (by omega), (by omega), x6, (by rw [needL_yes hx32 (by have h9 := wet_eqI (b := 9 + findL ps x31.pipe) hx79 (by omega); rw [← h9]; exact q83)]; exact ho100), nb105, c108⟩
   rw [q83]
   refine wp_cond_false ek ?_
   refine wp_skip ?_
   refine h10 _ _ ?_
   refine W.region_quiet [(0, false), (1, false)] kk ?_
   refine Fq (.int .i64 ((i + 1 : Nat) : Int)) (r_add (m := (i : Int)) (n := 1) (z := ((i + 1 : Nat) : Int)) rfl ek ek (by omega) (by omega)) ?_
   refine Fv (.int .i64 ((i + 1 : Nat) : Int)) ?_
   refine F.es ?_
   exact h7 _ _ _ (by omega : (n2 - (i + 1)) < _) ⟨i + 1, A0_6, n0_6, c0_6, Kn.of, rfl, (by omega), (by omega), x6, (by rw [needL_no hx32 (by have h9 := wet_eqI (b := 9 + findL ps x31.pipe) hx79 (by omega); rw [← h9]; exact q83)]; exact ho74), nb0_6_b2, c82⟩
  refine Fq (.bool false) (r_lss (m := (i : Int)) (n := (n2 : Int)) rfl ek ek (decide_eq_false q29)) ?_
  refine F.es ?_
  refine h8 _ _ ?_
  refine wk fun K13 h13 => ?_
  refine wp_cond_false ek ?_
  refine wp_exit ?_
  refine h5 _ _ ?_
  refine wk fun K14 h14 => ?_
  refine W.region_quiet [(0, false), (1, false), (2, false)] kk ?_
  refine Fv (.slice A0_6 n0_6 c0_6) ?_
  refine Fa (.slice A0_6 n0_6 c0_6) ?_
  refine Fa (.bool true) ?_
  refine F.es ?_
  refine h14 _ _ ?_
  refine wp_ret ?_
  try simp only [Exit.then]
  refine ret2 (v := .slice A0_6 n0_6 c0_6) (x := .bool true) rfl kk kk ?_
  exact fin_ints  ho0_6 (by unfold NeedlessValves_v0; rw [if_pos q14, List.take_of_length_le (by omega)]) (by unfold NeedlessValves_v1; exact q14.symm) c28
 rw [q14]
 refine Fq (.bool true) (r_not (b := false) rfl ek rfl) ?_
 refine F.es ?_
 have c109 := (SG.belowR c9 s13 (fun kq e => by cases e))
 refine h3 _ _ ?_
 refine wp_cond_true ek ?_
 refine wk fun K15 h15 => ?_
 refine W.region_quiet [(0, false), (1, false)] kk ?_
 refine Fa (.slice none 0 0) ?_
 refine Fa (.bool false) ?_
 refine F.es ?_
 refine h15 _ _ ?_
 refine wp_ret ?_
 try simp only [Exit.then]
 refine ret2 (v := .slice none 0 0) (x := .bool false) rfl kk kk ?_
 exact fin_ints (zs := []) (World.ownsRow_nil _ _ _ _) (by unfold NeedlessValves_v0; rw [if_neg (by rw [q14]; simp)]) (by unfold NeedlessValves_v1; exact q14.symm) c109
set_option maxRecDepth 100000 in
set_option maxHeartbeats 8000000 in
theorem NeedlessValves_spec (m : Int) (A : Option Addr) (n c : Nat) (ps : List Pp) (A2 : Option Addr) (n2 c2 : Nat) (vs : List Vv) (w : World) (ha : Rd w 4 A n (pipesV ps)) (hb : Rd w 4 A2 n2 (valvesV vs)) (hn : n ≤ 1048576) (hn2 : n2 ≤ 1048576) (hfm : Fm A n c) (hfm2 : Fm A2 n2 c2) :
    Calls Try.prog 32 #[.agg #[.int .i64 m, .slice A n c], .slice A2 n2 c2] w fun e w' => ∃ A' d, e = .returned (.tuple #[.slice A' (NeedlessValves_v0 m ps vs).length d, .bool (NeedlessValves_v1 m ps vs)]) ∧ Rd w' 1 A' (NeedlessValves_v0 m ps vs).length (intsV (NeedlessValves_v0 m ps vs)) ∧ Below w.heap.size w w' := by
 have hl := rd_pipes_len ha
 have hl2 := rd_valves_len hb
 go_enter Try.func32, Try.ntmps32
 refine F.begin 53 [(0, .agg #[.int .i64 m, .slice A n c]), (1, .slice A2 n2 c2)] (fun U0 => ?_)
 refine wk fun K1 h1 => ?_
 refine W.region_plain (row := none) [(0, true), (1, false), (2, false)] kk ?_
 have s1 := SG.self w none
 refine W.sn (fun b => .pointer (some ⟨b, 0, none⟩)) #[.int .i64 m, .slice A n c] 26 s1 rfl kk rfl (fun _ => by kernel_rfl) (fun b2 w3 hb4 k5 x6 s7 => ?_)
 refine F.nx ?_
 have lo8 : w.heap.size ≤ b2 := Nat.le_trans ((SG.belowR (Below.refl _ _) s1 (fun kq e => by cases e))).size (Nat.le_of_eq hb4)
 refine Fa (.slice none 0 0) ?_
 refine Fa (.bool false) ?_
 refine F.es ?_
 have c9 := (SG.belowR (Below.refl _ _) s7 (fun kq e => by cases e))
 refine h1 _ _ ?_
 refine wk fun K2 h2 => ?_
 refine W.region_plain (row := none) [(0, true), (1, false)] kk ?_
 have s10 := SG.self w3 none
 refine W.sn (fun b => .slice (some ⟨b, 0, none⟩) 0 0) #[] 3 s10 rfl kk rfl (fun _ => by kernel_rfl) (fun b11 w12 hb13 k14 x15 s16 => ?_)
 refine F.nx ?_
 have lo17 : w.heap.size ≤ b11 := Nat.le_trans ((SG.belowR c9 s10 (fun kq e => by cases e))).size (Nat.le_of_eq hb13)
 have ne18 : b2 ≠ b11 := Nat.ne_of_lt (Nat.lt_of_lt_of_eq (Nat.lt_of_lt_of_le (blk_lt x6) (s10).size) hb13)
 refine Fa (.slice (some ⟨b11, 0, none⟩) 0 0) ?_
 refine F.es ?_
 have x6 := SG.blk s16 x6 (Option.some_ne_none _)
 have c19 := (SG.belowR c9 s16 (fun kq e => by cases e))
 refine h2 _ _ ?_
 refine wk fun K3 h3 => ?_
 refine wk fun K4 h4 => ?_
 refine W.region_plain (row := none) [(0, false), (1, false), (2, true), (3, false)] kk ?_
 have s20 := SG.self w12 none
 refine Fq (.agg #[.int .i64 m, .slice A n c]) (r_load2 rfl ek kk kk (sgS (blk_cell (j := 0) x6 kk) (Option.some_ne_none _)) (sgS (blk_cell (j := 1) x6 kk) (Option.some_ne_none _))) ?_
 refine Fv (.slice A2 n2 c2) ?_
 refine Fc [.agg #[.int .i64 m, .slice A n c], .slice A2 n2 c2] (l4Good_any m A n c ps A2 n2 c2 vs _ (Rd.kept ha (SG.belowR c19 s20 (fun kq e => by cases e))) (Rd.kept hb (SG.belowR c19 s20 (fun kq e => by cases e))) (by omega) (by omega)) ?_
 rintro e w22 ⟨rfl, b21⟩
 have s23 := SG.of_below s20 b21
 refine ⟨_, rfl, s23, ?_⟩
 refine F.nx ?_
 rcases Bool.eq_false_or_eq_true (goodV m ps vs) with q24 | q24
 ·rw [q24]
  have hv9 := goodV_of q24
  have hg := hv9.net
  have hgl := hg.lo
  have hgh := hg.hi
  have hp := hg.pipesIn
  have hlen10 := hg.len
  have hu := hv9.uniq
  have hvl := hv9.len
  refine Fq (.bool false) (r_not (b := true) rfl ek rfl) ?_
  refine F.es ?_
  have x6 := SG.blk s23 x6 (Option.some_ne_none _)
  have x15 := SG.blk s23 x15 (Option.some_ne_none _)
  have c25 := (SG.belowR c19 s23 (fun kq e => by cases e))
  refine h4 _ _ ?_
  refine wp_cond_false ek ?_
  refine wp_skip ?_
  refine h3 _ _ ?_
  refine wk fun K5 h5 => ?_
  refine wk fun K6 h6 => ?_
  refine W.region_quiet [(0, false)] kk ?_
  refine Fa (.int .i64 0) ?_
  refine F.es ?_
  refine h6 _ _ ?_
  refine wp_block ?_
  have ho26 := own_empty (base := w.heap.size) (size := 1) x15 lo17
  replace ho26 : World.ownsRow _ _ _ _ _ _ (intsV []) := ho26
  have nb27 : Nb b2 (.slice (some ⟨b11, 0, none⟩) 0 0) := nb_new ne18
  refine loopK (fun am0 aa0 wl0 => ∃ (i : Nat) (A0_6 : Option Addr) (n0_6 : Nat) (c0_6 : Nat) , Kn aa0 [(0, .agg #[.int .i64 m, .slice A n c]), (1, .slice A2 n2 c2), (2, .pointer (some ⟨b2, 0, none⟩)), (4, .slice none 0 0), (5, .bool false), (6, .slice A0_6 n0_6 c0_6), (7, .int .i64 (i : Int)), (14, .bool false)] 53 ∧ (am0 = n2 - i) ∧ (i ≤ n2) ∧ (n0_6 ≤ i) ∧ (wl0.heap[b2]? = some (.cells #[.int .i64 m, .slice A n c] 26 (0, 0))) ∧ (wl0.ownsRow w.heap.size 3 1 (.slice A0_6 n0_6 c0_6) n0_6 (intsV (needL ps vs (vs.take i)))) ∧ (Nb b2 (.slice A0_6 n0_6 c0_6)) ∧ (Below w.heap.size w wl0)) (n2 - 0) ?_ ?_
  ·exact ⟨0, (some ⟨b11, 0, none⟩), 0, 0, Kn.of, rfl, (Nat.zero_le _), (Nat.zero_le _), x6, ho26, nb27, c25⟩
  rintro am0 aa0 wl0 K7 h7 ⟨i, A0_6, n0_6, c0_6, ⟨U0, rfl⟩, rfl, hi, hb6, x6, ho0_6, nb0_6_b2, c28⟩
  refine wk fun K8 h8 => ?_
  refine wk fun K9 h9 => ?_
  refine W.region_quiet [(0, false), (1, false), (2, false), (3, false)] kk ?_
  refine Fv (.int .i64 (i : Int)) ?_
  refine Fv (.slice A2 n2 c2) ?_
  refine Fq (.int .i64 (n2 : Int)) (r_len (A := A2) (n := n2) (c := c2) rfl ek kk) ?_
  by_cases q29 : ((i : Int) : Int) < ((n2 : Int) : Int)
  ·refine Fq (.bool true) (r_lss (m := (i : Int)) (n := (n2 : Int)) rfl ek ek (decide_eq_true q29)) ?_
   refine F.es ?_
   refine h9 _ _ ?_
   refine wp_cond_true ek ?_
   refine wp_skip ?_
   refine h8 _ _ ?_
   refine wk fun K10 h10 => ?_
   refine wp_block ?_
   refine wk fun K11 h11 => ?_
   refine W.region_sch (row := none) (Sch.app [(0, false), (1, false), (2, false), (3, false), (4, false), (5, false), (6, false)] (.br 7 8 (Sch.of [(8, true), (9, true), (10, false), (11, false), (12, false), (13, false), (14, false)]) (Sch.of [(7, true), (9, true), (10, false), (11, false), (12, false), (13, false), (14, false)]))) kk kk (fun _ d _ _ _ h => by cases d <;> exact h) kk (fun w30 e31 s32 => ?_)
   have ho33 := own_heap ho0_6 e31
   refine Fq (.agg #[.int .i64 m, .slice A n c]) (r_load2 rfl ek kk kk (sgS (blk_cell (j := 0) x6 kk) (Option.some_ne_none _)) (sgS (blk_cell (j := 1) x6 kk) (Option.some_ne_none _))) ?_
   refine Fv (.slice A2 n2 c2) ?_
   refine Fv (.slice A2 n2 c2) ?_
   refine Fv (.int .i64 (i : Int)) ?_
   obtain ⟨x34, hx35⟩ := get_of (zs := vs) (k := i) (by have := hl2; omega)
   obtain ⟨b36, o37, hA38, hb39, hc40, hc41, hc42, hc43⟩ := Rd.elValve hb hx35
   refine Fq (.pointer (some ⟨b36, o37 + i * 4, none⟩)) (r_idx (n := n2) (c := c2) (k := i) rfl ek hA38 kk kk (by have := hl2; omega)) ?_
   refine Fq (.pointer (some ⟨b36, o37 + i * 4 + 2, none⟩)) (r_field (k := 2) rfl ek kk) ?_
   refine Fl (.int .i64 x34.node) (sgS (later c28 hc42) (by simp)) ?_
   refine W.sbr ?_ ?_
   ·refine W.sn (fun b => .slice (some ⟨b, 0, none⟩) 1 1) #[.int .i64 x34.node] 3 s32 rfl kk rfl (fun _ => by kernel_rfl) (fun b44 w45 hb46 k47 x48 s49 => ?_)
    refine F.nx ?_
    have lo50 : w.heap.size ≤ b44 := Nat.le_trans ((SG.belowR c28 s32 (fun kq e => by cases e))).size (Nat.le_of_eq hb46)
    have ho53 := own_kept ho33 k47
    refine W.sn (fun b => .slice (some ⟨b, 0, none⟩) 0 0) #[] 3 s49 rfl kk rfl (fun _ => by kernel_rfl) (fun b54 w55 hb56 k57 x58 s59 => ?_)
    refine F.nx ?_
    have lo60 : w.heap.size ≤ b54 := Nat.le_trans ((SG.belowR c28 s49 (fun kq e => by cases e))).size (Nat.le_of_eq hb56)
    have x48 := (k57.block _ (blk_lt x48)).trans x48
    have ho64 := own_kept ho53 k57
    obtain ⟨kz, pz, ekz, hkz, hpz, hnz⟩ := hv9.place x34 (List.mem_of_getElem? hx35)
    have hgz := hg.at hpz
    have ho65 := own_blk (base := w.heap.size) (size := 1) (n := 1) x48 lo50 rfl (by omega)
    replace ho65 : World.ownsRow _ _ _ _ _ _ (intsV [x34.node]) := ho65
    have rd70 := own_rd ho65
    have hl71 := rd_ints_len rd70
    have ho72 := own_empty (base := w.heap.size) (size := 1) x58 lo60
    replace ho72 : World.ownsRow _ _ _ _ _ _ (intsV []) := ho72
    have rd76 := own_rd ho72
    have hl77 := rd_ints_len rd76
    refine Fc [.agg #[.int .i64 m, .slice A n c], .slice A2 n2 c2, .bool false, .slice (some ⟨b44, 0, none⟩) 1 1, .slice (some ⟨b54, 0, none⟩) 0 0] (l4Spread_false m A n c ps A2 n2 c2 vs (x34.node) (some ⟨b44, 0, none⟩) 1 1 ([x34.node]) (some ⟨b54, 0, none⟩) 0 0 ([]) _ (Rd.kept ha (SG.belowR c28 s59 (fun kq e => by cases e))) (Rd.kept hb (SG.belowR c28 s59 (fun kq e => by cases e))) (by omega) (by omega) hp (by omega) (by omega) rd70 (own_fm ho65) rd76 (own_fm ho72) (FndQ.startN _ (by omega))) ?_
    rintro e w93 ⟨A78, n79, c80, A81, n82, c83, rfl, rd84, fm85, rd86, fm87, b92⟩
    have s94 := SG.of_below s59 b92
    refine ⟨_, rfl, s94, ?_⟩
    refine F.nx ?_
    have ho95 := own_kept ho64 b92
    have hl90 := rd_ints_len rd84
    have hl91 := rd_ints_len rd86
    have := nodesL_len (linked ps (openQ vs false)) m.toNat (x34.node) true
    have := idxL_len (linked ps (openQ vs false)) ps.length (x34.node) true
    refine Fv (.tuple #[.slice A78 n79 c80, .slice A81 n82 c83]) ?_
    refine Fq (.slice A78 n79 c80) (r_extract (vs := #[.slice A78 n79 c80, .slice A81 n82 c83]) rfl ek kk) ?_
    refine Fq (.slice A81 n82 c83) (r_extract (vs := #[.slice A78 n79 c80, .slice A81 n82 c83]) rfl ek kk) ?_
    refine Fa (.slice A78 n79 c80) ?_
    refine Fa (.slice A81 n82 c83) ?_
    refine F.es ?_
    have x6 := SG.blk s94 x6 (Option.some_ne_none _)
    have c98 := (SG.belowR c28 s94 (fun kq e => by cases e))
    refine h11 _ _ ?_
    refine wk fun K12 h12 => ?_
    refine W.region_sch (row := none) (Sch.of [(0, false), (1, false), (2, false), (3, false), (4, false), (5, false), (6, false), (7, true), (8, true)]) kk kk (fun _ d _ _ _ h => by cases d <;> exact h) kk (fun w99 e100 s101 => ?_)
    have ho102 := own_heap ho95 e100
    refine Fv (.slice A81 n82 c83) ?_
    refine Fq (.agg #[.int .i64 m, .slice A n c]) (r_load2 rfl ek kk kk (sgS (blk_cell (j := 0) x6 kk) (Option.some_ne_none _)) (sgS (blk_cell (j := 1) x6 kk) (Option.some_ne_none _))) ?_
    refine Fv (.slice A2 n2 c2) ?_
    refine Fv (.int .i64 (i : Int)) ?_
    refine Fq (.pointer (some ⟨b36, o37 + i * 4, none⟩)) (r_idx (n := n2) (c := c2) (k := i) rfl ek hA38 kk kk (by have := hl2; omega)) ?_
    refine Fq (.pointer (some ⟨b36, o37 + i * 4 + 1, none⟩)) (r_field (k := 1) rfl ek kk) ?_
    refine Fl (.int .i64 x34.pipe) (sgS (later c98 hc41) (by simp)) ?_
    refine Fc [.agg #[.int .i64 m, .slice A n c], .int .i64 x34.pipe] (l2Find_any m A n c ps x34.pipe _ (Rd.kept ha (SG.belowR c98 s101 (fun kq e => by cases e))) (by omega)) ?_
    rintro e w104 ⟨rfl, b103⟩
    have s105 := SG.of_below s101 b103
    refine ⟨_, rfl, s105, ?_⟩
    refine F.nx ?_
    have ho106 := own_kept ho102 b103
    refine Fc [.slice A81 n82 c83, .int .i64 (findL ps x34.pipe)] (l1Has_any A81 n82 c83 (idxL (linked ps (openQ vs false)) ps.length (x34.node) true) (findL ps x34.pipe) _ (Rd.kept rd86 (SG.below s105)) (by omega)) ?_
    rintro e w108 ⟨rfl, b107⟩
    have s109 := SG.of_below s105 b107
    refine ⟨_, rfl, s109, ?_⟩
    refine F.nx ?_
    have ho110 := own_kept ho106 b107
    rcases Bool.eq_false_or_eq_true ((idxL (linked ps (openQ vs false)) ps.length (x34.node) true).contains (findL ps x34.pipe)) with q111 | q111
    ·rw [q111]
     refine F.es ?_
     have x6 := SG.blk s109 x6 (Option.some_ne_none _)
     have c112 := (SG.belowR c98 s109 (fun kq e => by cases e))
     refine h12 _ _ ?_
     refine wp_cond_true ek ?_
     refine W.region_plain (row := (Value.ownBlock (.slice A0_6 n0_6 c0_6))) [(0, false), (1, false), (2, false), (3, false), (4, false), (5, false), (6, true), (7, true), (8, false)] kk ?_
     have s117 := SG.self w108 (Value.ownBlock (.slice A0_6 n0_6 c0_6))
     refine Fv (.slice A0_6 n0_6 c0_6) ?_
     refine Fv (.slice A2 n2 c2) ?_
     refine Fv (.int .i64 (i : Int)) ?_
     refine Fq (.pointer (some ⟨b36, o37 + i * 4, none⟩)) (r_idx (n := n2) (c := c2) (k := i) rfl ek hA38 kk kk (by have := hl2; omega)) ?_
     refine Fq (.pointer (some ⟨b36, o37 + i * 4, none⟩)) (r_field0 rfl ek kk) ?_
     refine Fl (.int .i64 x34.id) (sgS (later c112 hc40) (nb_lo ho110 hb39)) ?_
     refine W.sn (fun b => .slice (some ⟨b, 0, none⟩) 1 1) #[.int .i64 x34.id] 3 s117 rfl kk rfl (fun _ => by kernel_rfl) (fun b118 w119 hb120 k121 x122 s123 => ?_)
     refine F.nx ?_
     have lo124 : w.heap.size ≤ b118 := Nat.le_trans ((SG.belowR c112 s117 (fun kq e => (World.ownsRow.lt ho110 kq e).1))).size (Nat.le_of_eq hb120)
     have ho131 := own_kept ho110 k121
     refine W.sap (e := 3) (size := 1) (base := w.heap.size) (m := 1) (v := .slice A0_6 n0_6 c0_6) (c := 1) s123 rfl rfl rfl rfl kk kk kk ho131 x122 kk kk (by omega) (by omega) (by have := ((SG.belowR c112 s123 (fun kq e => (World.ownsRow.lt ho110 kq e).1))).size; omega) (.inl rfl) (fun g132 cap133 w134 ho135 hg136 hat137 hlt138 s139 => ?_)
     refine F.nx ?_
     have nb140 : Nb b2 (.slice (some ⟨g132, 0, none⟩) (n0_6 + 1) cap133) := nb_app nb0_6_b2 (Nat.lt_of_lt_of_le (blk_lt x6) (s123).size) hat137
     have ho135 := own_snoc ho135
     refine Fa (.slice (some ⟨g132, 0, none⟩) (n0_6 + 1) cap133) ?_
     refine F.es ?_
     have x6 := SG.blk s139 x6 nb0_6_b2
     have c142 := (SG.belowR c112 s139 (fun kq e => (World.ownsRow.lt ho110 kq e).1))
     refine h10 _ _ ?_
     refine W.region_quiet [(0, false), (1, false), (2, false)] kk ?_
     refine Fv (.int .i64 (i : Int)) ?_
     refine Fq (.int .i64 ((i + 1 : Nat) : Int)) (r_add (m := (i : Int)) (n := 1) (z := ((i + 1 : Nat) : Int)) rfl ek ek (by omega) (by omega)) ?_
     refine Fa (.int .i64 ((i + 1 : Nat) : Int)) ?_
     refine F.es ?_
     exact h7 _ _ _ (by omega : (n2 - (i + 1)) < _) ⟨i + 1, (some ⟨g132, 0, none⟩), (n0_6 + 1), cap133, Kn.of, rfl, (by omega), (by omega), x6, (by rw [needL_yes hx35 ((idxL_has (n := ps.length) (by omega)).symm.trans q111)]; exact ho135), nb140, c142⟩
    rw [q111]
    refine F.es ?_
    have x6 := SG.blk s109 x6 (Option.some_ne_none _)
    have c145 := (SG.belowR c98 s109 (fun kq e => by cases e))
    refine h12 _ _ ?_
    refine wp_cond_false ek ?_
    refine wp_skip ?_
    refine h10 _ _ ?_
    refine W.region_quiet [(0, false), (1, false), (2, false)] kk ?_
    refine Fv (.int .i64 (i : Int)) ?_
    refine Fq (.int .i64 ((i + 1 : Nat) : Int)) (r_add (m := (i : Int)) (n := 1) (z := ((i + 1 : Nat) : Int)) rfl ek ek (by omega) (by omega)) ?_
    refine Fa (.int .i64 ((i + 1 : Nat) : Int)) ?_
    refine F.es ?_
    exact h7 _ _ _ (by omega : (n2 - (i + 1)) < _) ⟨i + 1, A0_6, n0_6, c0_6, Kn.of, rfl, (by omega), (by omega), x6, (by rw [needL_no hx35 ((idxL_has (n := ps.length) (by omega)).symm.trans q111)]; exact ho110), nb0_6_b2, c145⟩
   refine W.sn (fun b => .slice (some ⟨b, 0, none⟩) 0 0) #[] 3 s32 rfl kk rfl (fun _ => by kernel_rfl) (fun b150 w151 hb152 k153 x154 s155 => ?_)
   refine F.nx ?_
   have lo156 : w.heap.size ≤ b150 := Nat.le_trans ((SG.belowR c28 s32 (fun kq e => by cases e))).size (Nat.le_of_eq hb152)
   have ho159 := own_kept ho33 k153
   refine W.sn (fun b => .slice (some ⟨b, 0, none⟩) 1 1) #[.int .i64 x34.node] 3 s155 rfl kk rfl (fun _ => by kernel_rfl) (fun b160 w161 hb162 k163 x164 s165 => ?_)
   refine F.nx ?_
   have lo166 : w.heap.size ≤ b160 := Nat.le_trans ((SG.belowR c28 s155 (fun kq e => by cases e))).size (Nat.le_of_eq hb162)
   have x154 := (k163.block _ (blk_lt x154)).trans x154
   have ho170 := own_kept ho159 k163
   obtain ⟨kz, pz, ekz, hkz, hpz, hnz⟩ := hv9.place x34 (List.mem_of_getElem? hx35)
   have hgz := hg.at hpz
   have ho171 := own_blk (base := w.heap.size) (size := 1) (n := 1) x164 lo166 rfl (by omega)
   replace ho171 : World.ownsRow _ _ _ _ _ _ (intsV [x34.node]) := ho171
   have rd176 := own_rd ho171
   have hl177 := rd_ints_len rd176
   have ho178 := own_empty (base := w.heap.size) (size := 1) x154 lo156
   replace ho178 : World.ownsRow _ _ _ _ _ _ (intsV []) := ho178
   have rd182 := own_rd ho178
   have hl183 := rd_ints_len rd182
   refine Fc [.agg #[.int .i64 m, .slice A n c], .slice A2 n2 c2, .bool false, .slice (some ⟨b160, 0, none⟩) 1 1, .slice (some ⟨b150, 0, none⟩) 0 0] (l4Spread_false m A n c ps A2 n2 c2 vs (x34.node) (some ⟨b160, 0, none⟩) 1 1 ([x34.node]) (some ⟨b150, 0, none⟩) 0 0 ([]) _ (Rd.kept ha (SG.belowR c28 s165 (fun kq e => by cases e))) (Rd.kept hb (SG.belowR c28 s165 (fun kq e => by cases e))) (by omega) (by omega) hp (by omega) (by omega) rd176 (own_fm ho171) rd182 (own_fm ho178) (FndQ.startN _ (by omega))) ?_
   rintro e w199 ⟨A184, n185, c186, A187, n188, c189, rfl, rd190, fm191, rd192, fm193, b198⟩
   have s200 := SG.of_below s165 b198
   refine ⟨_, rfl, s200, ?_⟩
   refine F.nx ?_
   have ho201 := own_kept ho170 b198
   have hl196 := rd_ints_len rd190
   have hl197 := rd_ints_len rd192
   have := nodesL_len (linked ps (openQ vs false)) m.toNat (x34.node) true
   have := idxL_len (linked ps (openQ vs false)) ps.length (x34.node) true
   refine Fv (.tuple #[.slice A184 n185 c186, .slice A187 n188 c189]) ?_
   refine Fq (.slice A184 n185 c186) (r_extract (vs := #[.slice A184 n185 c186, .slice A187 n188 c189]) rfl ek kk) ?_
   refine Fq (.slice A187 n188 c189) (r_extract (vs := #[.slice A184 n185 c186, .slice A187 n188 c189]) rfl ek kk) ?_
   refine Fa (.slice A184 n185 c186) ?_
   refine Fa (.slice A187 n188 c189) ?_
   refine F.es ?_
   have x6 := SG.blk s200 x6 (Option.some_ne_none _)
   have c204 := (SG.belowR c28 s200 (fun kq e => by cases e))
   refine h11 _ _ ?_
   refine wk fun K13 h13 => ?_
   refine W.region_sch (row := none) (Sch.of [(0, false), (1, false), (2, false), (3, false), (4, false), (5, false), (6, false), (7, true), (8, true)]) kk kk (fun _ d _ _ _ h => by cases d <;> exact h) kk (fun w205 e206 s207 => ?_)
   have ho208 := own_heap ho201 e206
   refine Fv (.slice A187 n188 c189) ?_
   refine Fq (.agg #[.int .i64 m, .slice A n c]) (r_load2 rfl ek kk kk (sgS (blk_cell (j := 0) x6 kk) (Option.some_ne_none _)) (sgS (blk_cell (j := 1) x6 kk) (Option.some_ne_none _))) ?_
   refine Fv (.slice A2 n2 c2) ?_
   refine Fv (.int .i64 (i : Int)) ?_
   refine Fq (.pointer (some ⟨b36, o37 + i * 4, none⟩)) (r_idx (n := n2) (c := c2) (k := i) rfl ek hA38 kk kk (by have := hl2; omega)) ?_
   refine Fq (.pointer (some ⟨b36, o37 + i * 4 + 1, none⟩)) (r_field (k := 1) rfl ek kk) ?_
   refine Fl (.int .i64 x34.pipe) (sgS (later c204 hc41) (by simp)) ?_
   refine Fc [.agg #[.int .i64 m, .slice A n c], .int .i64 x34.pipe] (l2Find_any m A n c ps x34.pipe _ (Rd.kept ha (SG.belowR c204 s207 (fun kq e => by cases e))) (by omega)) ?_
   rintro e w210 ⟨rfl, b209⟩
   have s211 := SG.of_below s207 b209
   refine ⟨_, rfl, s211, ?_⟩
   refine F.nx ?_
   have ho212 := own_kept ho208 b209
   refine Fc [.slice A187 n188 c189, .int .i64 (findL ps x34.pipe)] (l1Has_any A187 n188 c189 (idxL (linked ps (openQ vs false)) ps.length (x34.node) true) (findL ps x34.pipe) _ (Rd.kept rd192 (SG.below s211)) (by omega)) ?_
   rintro e w214 ⟨rfl, b213⟩
   have s215 := SG.of_below s211 b213
   refine ⟨_, rfl, s215, ?_⟩
   refine F.nx ?_
   have ho216 := own_kept ho212 b213
   rcases Bool.eq_false_or_eq_true ((idxL (linked ps (openQ vs false)) ps.length (x34.node) true).contains (findL ps x34.pipe)) with q217 | q217
   ·rw [q217]
    refine F.es ?_
    have x6 := SG.blk s215 x6 (Option.some_ne_none _)
    have c218 := (SG.belowR c204 s215 (fun kq e => by cases e))
    refine h13 _ _ ?_
    refine wp_cond_true ek ?_
    refine W.region_plain (row := (Value.ownBlock (.slice A0_6 n0_6 c0_6))) [(0, false), (1, false), (2, false), (3, false), (4, false), (5, false), (6, true), (7, true), (8, false)] kk ?_
    have s223 := SG.self w214 (Value.ownBlock (.slice A0_6 n0_6 c0_6))
    refine Fv (.slice A0_6 n0_6 c0_6) ?_
    refine Fv (.slice A2 n2 c2) ?_
    refine Fv (.int .i64 (i : Int)) ?_
    refine Fq (.pointer (some ⟨b36, o37 + i * 4, none⟩)) (r_idx (n := n2) (c := c2) (k := i) rfl ek hA38 kk kk (by have := hl2; omega)) ?_
    refine Fq (.pointer (some ⟨b36, o37 + i * 4, none⟩)) (r_field0 rfl ek kk) ?_
    refine Fl (.int .i64 x34.id) (sgS (later c218 hc40) (nb_lo ho216 hb39)) ?_
    refine W.sn (fun b => .slice (some ⟨b, 0, none⟩) 1 1) #[.int .i64 x34.id] 3 s223 rfl kk rfl (fun _ => by kernel_rfl) (fun b224 w225 hb226 k227 x228 s229 => ?_)
    refine F.nx ?_
    have lo230 : w.heap.size ≤ b224 := Nat.le_trans ((SG.belowR c218 s223 (fun kq e => (World.ownsRow.lt ho216 kq e).1))).size (Nat.le_of_eq hb226)
    have ho237 := own_kept ho216 k227
    refine W.sap (e := 3) (size := 1) (base := w.heap.size) (m := 1) (v := .slice A0_6 n0_6 c0_6) (c := 1) s229 rfl rfl rfl rfl kk kk kk ho237 x228 kk kk (by omega) (by omega) (by have := ((SG.belowR c218 s229 (fun kq e => (World.ownsRow.lt ho216 kq e).1))).size; omega) (.inl rfl) (fun g238 cap239 w240 ho241 hg242 hat243 hlt244 s245 => ?_)
    refine F.nx ?_
    have nb246 : Nb b2 (.slice (some ⟨g238, 0, none⟩) (n0_6 + 1) cap239) := nb_app nb0_6_b2 (Nat.lt_of_lt_of_le (blk_lt x6) (s229).size) hat243
    have ho241 := own_snoc ho241
    refine Fa (.slice (some ⟨g238, 0, none⟩) (n0_6 + 1) cap239) ?_
    refine F.es ?_
    have x6 := SG.blk s245 x6 nb0_6_b2
    have c248 := (SG.belowR c218 s245 (fun kq e => (World.ownsRow.lt ho216 kq e).1))
    refine h10 _ _ ?_
    refine W.region_quiet [(0, false), (1, false), (2, false)] kk ?_
    refine Fv (.int .i64 (i : Int)) ?_
    refine Fq (.int .i64 ((i + 1 : Nat) : Int)) (r_add (m := (i : Int)) (n := 1) (z := ((i + 1 : Nat) : Int)) rfl ek ek (by omega) (by omega)) ?_
    refine Fa (.int .i64 ((i + 1 : Nat) : Int)) ?_
    refine F.es ?_
    exact h7 _ _ _ (by omega : (n2 - (i + 1)) < _) ⟨i + 1, (some ⟨g238, 0, none⟩), (n0_6 + 1), cap239, Kn.of, rfl, (by omega), (by omega), x6, (by rw [needL_yes hx35 ((idxL_has (n := ps.length) (by omega)).symm.trans q217)]; exact ho241), nb246, c248⟩
   rw [q217]
   refine F.es ?_
   have x6 := SG.blk s215 x6 (Option.some_ne_none _)
   have c251 := (SG.belowR c204 s215 (fun kq e => by cases e))
   refine h13 _ _ ?_
   refine wp_cond_false ek ?_
   refine wp_skip ?_
   refine h10 _ _ ?_
   refine W.region_quiet [(0, false), (1, false), (2, false)] kk ?_
   refine Fv (.int .i64 (i : Int)) ?_
   refine Fq (.int .i64 ((i + 1 : Nat) : Int)) (r_add (m := (i : Int)) (n := 1) (z := ((i + 1 : Nat) : Int)) rfl ek ek (by omega) (by omega)) ?_
   refine Fa (.int .i64 ((i + 1 : Nat) : Int)) ?_
   refine F.es ?_
   exact h7 _ _ _ (by omega : (n2 - (i + 1)) < _) ⟨i + 1, A0_6, n0_6, c0_6, Kn.of, rfl, (by omega), (by omega), x6, (by rw [needL_no hx35 ((idxL_has (n := ps.length) (by omega)).symm.trans q217)]; exact ho216), nb0_6_b2, c251⟩
  refine Fq (.bool false) (r_lss (m := (i : Int)) (n := (n2 : Int)) rfl ek ek (decide_eq_false q29)) ?_
  refine F.es ?_
  refine h9 _ _ ?_
  refine wp_cond_false ek ?_
  refine wp_exit ?_
  refine h5 _ _ ?_
  refine wk fun K14 h14 => ?_
  refine W.region_quiet [(0, false), (1, false), (2, false)] kk ?_
  refine Fv (.slice A0_6 n0_6 c0_6) ?_
  refine Fa (.slice A0_6 n0_6 c0_6) ?_
  refine Fa (.bool true) ?_
  refine F.es ?_
  refine h14 _ _ ?_
  refine wp_ret ?_
  try simp only [Exit.then]
  refine ret2 (v := .slice A0_6 n0_6 c0_6) (x := .bool true) rfl kk kk ?_
  exact fin_rd  (own_rd ho0_6) (by unfold NeedlessValves_v0; rw [if_pos q24, List.take_of_length_le (by omega)]) (by unfold NeedlessValves_v1; exact q24.symm) c28
 rw [q24]
 refine Fq (.bool true) (r_not (b := false) rfl ek rfl) ?_
 refine F.es ?_
 have x15 := SG.blk s23 x15 (Option.some_ne_none _)
 have c256 := (SG.belowR c19 s23 (fun kq e => by cases e))
 refine h4 _ _ ?_
 refine wp_cond_true ek ?_
 refine wk fun K15 h15 => ?_
 refine W.region_quiet [(0, false), (1, false), (2, false)] kk ?_
 refine Fv (.slice (some ⟨b11, 0, none⟩) 0 0) ?_
 refine Fa (.slice (some ⟨b11, 0, none⟩) 0 0) ?_
 refine Fa (.bool false) ?_
 refine F.es ?_
 refine h15 _ _ ?_
 refine wp_ret ?_
 try simp only [Exit.then]
 refine ret2 (v := .slice (some ⟨b11, 0, none⟩) 0 0) (x := .bool false) rfl kk kk ?_
 have ho257 := own_empty (base := w.heap.size) (size := 1) x15 lo17
 replace ho257 : World.ownsRow _ _ _ _ _ _ (intsV []) := ho257
 exact fin_rd (zs := []) (own_rd ho257) (by unfold NeedlessValves_v0; rw [if_neg (by rw [q24]; simp)]) (by unfold NeedlessValves_v1; exact q24.symm) c256
end Go.Proofs.Ytdbgfejeleafgaa
namespace Go.Proofs.Ytdbgfejeleafgaa
open Go.RowKit
set_option linter.unusedVariables false
set_option linter.unusedSimpArgs false
def DryNodes_v1 (m : Int) (ps : List Pp) (vs : List Vv) (a : Int) : Bool := goodV m ps vs && inB a 1 m
noncomputable def DryNodes_v0 (m : Int) (ps : List Pp) (vs : List Vv) (a : Int) : List Int := if DryNodes_v1 m ps vs a = true then nodesL (linked ps (openQ vs true)) m.toNat a false else []
theorem DryNodes_len (m : Int) (ps : List Pp) (vs : List Vv) (a : Int) : (DryNodes_v0 m ps vs a).length ≤ 1048576 := by
  unfold DryNodes_v0
  split
  · rename_i h
    have hg : goodV m ps vs = true := by unfold DryNodes_v1 at h; rw [Bool.and_eq_true] at h; exact h.1
    have hv := goodV_of hg
    have h1 := hv.net.hi
    have h2 := hv.net.len
    skip
    have := nodesL_len (linked ps (openQ vs true)) m.toNat a false
    omega
  · simp
set_option maxRecDepth 100000 in
set_option maxHeartbeats 8000000 in
theorem DryNodes_spec (m : Int) (A : Option Addr) (n c : Nat) (ps : List Pp) (A2 : Option Addr) (n2 c2 : Nat) (vs : List Vv) (a : Int) (w : World) (ha : Rd w 4 A n (pipesV ps)) (hb : Rd w 4 A2 n2 (valvesV vs)) (hn : n ≤ 1048576) (hn2 : n2 ≤ 1048576) (hfm : Fm A n c) (hfm2 : Fm A2 n2 c2) :
    Calls Try.prog 28 #[.agg #[.int .i64 m, .slice A n c], .slice A2 n2 c2, .int .i64 a] w fun e w' => ∃ A' d, e = .returned (.tuple #[.slice A' (DryNodes_v0 m ps vs a).length d, .bool (DryNodes_v1 m ps vs a)]) ∧ Rd w' 1 A' (DryNodes_v0 m ps vs a).length (intsV (DryNodes_v0 m ps vs a)) ∧ Below w.heap.size w w' := by
 have hl := rd_pipes_len ha
 have hl2 := rd_valves_len hb
 go_enter Try.func28, Try.ntmps28
 refine F.begin 29 [(0, .agg #[.int .i64 m, .slice A n c]), (1, .slice A2 n2 c2), (2, .int .i64 a)] (fun U0 => ?_)
 refine wk fun K1 h1 => ?_
 refine W.region_plain (row := none) [(0, true), (1, false), (2, false)] kk ?_
 have s1 := SG.self w none
 refine W.sn (fun b => .pointer (some ⟨b, 0, none⟩)) #[.int .i64 m, .slice A n c] 26 s1 rfl kk rfl (fun _ => by kernel_rfl) (fun b2 w3 hb4 k5 x6 s7 => ?_)
 refine F.nx ?_
 have lo8 : w.heap.size ≤ b2 := Nat.le_trans ((SG.belowR (Below.refl _ _) s1 (fun kq e => by cases e))).size (Nat.le_of_eq hb4)
 refine Fa (.slice none 0 0) ?_
 refine Fa (.bool false) ?_
 refine F.es ?_
 have c9 := (SG.belowR (Below.refl _ _) s7 (fun kq e => by cases e))
 refine h1 _ _ ?_
 refine wk fun K2 h2 => ?_
 refine wk fun K3 h3 => ?_
 refine W.region_plain (row := none) [(0, false), (1, false), (2, true), (3, false), (4, false), (5, false), (6, false), (7, true), (8, false), (9, false)] kk ?_
 have s10 := SG.self w3 none
 refine Fq (.agg #[.int .i64 m, .slice A n c]) (r_load2 rfl ek kk kk (sgS (blk_cell (j := 0) x6 kk) (Option.some_ne_none _)) (sgS (blk_cell (j := 1) x6 kk) (Option.some_ne_none _))) ?_
 refine Fv (.slice A2 n2 c2) ?_
 refine Fc [.agg #[.int .i64 m, .slice A n c], .slice A2 n2 c2] (l4Good_any m A n c ps A2 n2 c2 vs _ (Rd.kept ha (SG.belowR c9 s10 (fun kq e => by cases e))) (Rd.kept hb (SG.belowR c9 s10 (fun kq e => by cases e))) (by omega) (by omega)) ?_
 rintro e w12 ⟨rfl, b11⟩
 have s13 := SG.of_below s10 b11
 refine ⟨_, rfl, s13, ?_⟩
 refine F.nx ?_
 rcases Bool.eq_false_or_eq_true (goodV m ps vs) with q14 | q14
 ·rw [q14]
  have hv9 := goodV_of q14
  have hg := hv9.net
  have hgl := hg.lo
  have hgh := hg.hi
  have hp := hg.pipesIn
  have hlen10 := hg.len
  have hu := hv9.uniq
  have hvl := hv9.len
  refine Fq (.bool false) (r_not (b := true) rfl ek rfl) ?_
  refine Fv (.bool false) ?_
  refine Fq (.agg #[.int .i64 m, .slice A n c]) (r_load2 rfl ek kk kk (sgS (blk_cell (j := 0) x6 kk) (Option.some_ne_none _)) (sgS (blk_cell (j := 1) x6 kk) (Option.some_ne_none _))) ?_
  refine Fv (.int .i64 a) ?_
  refine Fc [.agg #[.int .i64 m, .slice A n c], .int .i64 a] (l2Node_any m A n c ps a _ (Rd.kept ha (SG.belowR c9 s13 (fun kq e => by cases e))) (by omega)) ?_
  rintro e w16 ⟨rfl, b15⟩
  have s17 := SG.of_below s13 b15
  refine ⟨_, rfl, s17, ?_⟩
  refine F.nx ?_
  rcases Bool.eq_false_or_eq_true (goodN m ps && inB a 1 m) with q18 | q18
  ·rw [q18]
   have q19 : inB a 1 m = true := (Bool.and_eq_true_iff.1 q18).2
   have ha9 := inB_iff.1 q19
   refine Fq (.bool false) (r_not (b := true) rfl ek rfl) ?_
   refine Fq (.bool false) (r_pick (b := false) rfl ek ek) ?_
   refine F.es ?_
   have x6 := SG.blk s17 x6 (Option.some_ne_none _)
   have c20 := (SG.belowR c9 s17 (fun kq e => by cases e))
   refine h3 _ _ ?_
   refine wp_cond_false ek ?_
   refine wp_skip ?_
   refine h2 _ _ ?_
   refine wk fun K4 h4 => ?_
   refine W.region_plain (row := none) [(0, false), (1, false), (2, false), (3, true), (4, false), (5, false), (6, false), (7, false), (8, false)] kk ?_
   have s21 := SG.self w16 none
   refine Fq (.agg #[.int .i64 m, .slice A n c]) (r_load2 rfl ek kk kk (sgS (blk_cell (j := 0) x6 kk) (Option.some_ne_none _)) (sgS (blk_cell (j := 1) x6 kk) (Option.some_ne_none _))) ?_
   refine Fv (.slice A2 n2 c2) ?_
   refine Fv (.int .i64 a) ?_
   refine Fc [.agg #[.int .i64 m, .slice A n c], .slice A2 n2 c2, .int .i64 a] (l4Dry_any m A n c ps A2 n2 c2 vs a _ (Rd.kept ha (SG.belowR c20 s21 (fun kq e => by cases e))) (Rd.kept hb (SG.belowR c20 s21 (fun kq e => by cases e))) (by omega) (by omega) hp (by omega) (by omega) (by omega)) ?_
   rintro e w37 ⟨A22, n23, c24, A25, n26, c27, rfl, rd28, fm29, rd30, fm31, b36⟩
   have s38 := SG.of_below s21 b36
   refine ⟨_, rfl, s38, ?_⟩
   refine F.nx ?_
   have hl34 := rd_ints_len rd28
   have hl35 := rd_ints_len rd30
   have := nodesL_len (linked ps (openQ vs true)) m.toNat a false
   have := idxL_len (linked ps (openQ vs true)) ps.length a false
   refine Fv (.tuple #[.slice A22 n23 c24, .slice A25 n26 c27]) ?_
   refine Fq (.slice A22 n23 c24) (r_extract (vs := #[.slice A22 n23 c24, .slice A25 n26 c27]) rfl ek kk) ?_
   refine Fq (.slice A25 n26 c27) (r_extract (vs := #[.slice A22 n23 c24, .slice A25 n26 c27]) rfl ek kk) ?_
   refine Fa (.slice A22 n23 c24) ?_
   refine Fa (.slice A25 n26 c27) ?_
   refine F.es ?_
   have c39 := (SG.belowR c20 s38 (fun kq e => by cases e))
   refine h4 _ _ ?_
   refine wk fun K5 h5 => ?_
   refine W.region_quiet [(0, false), (1, false), (2, false)] kk ?_
   refine Fv (.slice A22 n23 c24) ?_
   refine Fa (.slice A22 n23 c24) ?_
   refine Fa (.bool true) ?_
   refine F.es ?_
   refine h5 _ _ ?_
   refine wp_ret ?_
   try simp only [Exit.then]
   refine ret2 (v := .slice A22 n23 c24) (x := .bool true) rfl kk kk ?_
   have ok40 : DryNodes_v1 m ps vs a = true := by unfold DryNodes_v1; rw [q14, q19]; try rfl
   exact fin_rd  rd28 (by unfold DryNodes_v0; rw [if_pos ok40]) ok40.symm c39
  rw [q18]
  have q41 : inB a 1 m = false := by have h9 := q18; rw [hv9.good, Bool.true_and] at h9; exact h9
  refine Fq (.bool true) (r_not (b := false) rfl ek rfl) ?_
  refine Fq (.bool true) (r_pick (b := false) rfl ek ek) ?_
  refine F.es ?_
  have c42 := (SG.belowR c9 s17 (fun kq e => by cases e))
  refine h3 _ _ ?_
  refine wp_cond_true ek ?_
  refine wk fun K6 h6 => ?_
  refine W.region_plain (row := none) [(0, true), (1, false), (2, false)] kk ?_
  have s43 := SG.self w16 none
  refine W.sn (fun b => .slice (some ⟨b, 0, none⟩) 0 0) #[] 3 s43 rfl kk rfl (fun _ => by kernel_rfl) (fun b44 w45 hb46 k47 x48 s49 => ?_)
  refine F.nx ?_
  have lo50 : w.heap.size ≤ b44 := Nat.le_trans ((SG.belowR c42 s43 (fun kq e => by cases e))).size (Nat.le_of_eq hb46)
  refine Fa (.slice (some ⟨b44, 0, none⟩) 0 0) ?_
  refine Fa (.bool false) ?_
  refine F.es ?_
  have c52 := (SG.belowR c42 s49 (fun kq e => by cases e))
  refine h6 _ _ ?_
  refine wp_ret ?_
  try simp only [Exit.then]
  refine ret2 (v := .slice (some ⟨b44, 0, none⟩) 0 0) (x := .bool false) rfl kk kk ?_
  have ok53 : DryNodes_v1 m ps vs a = false := by unfold DryNodes_v1; rw [q41, Bool.and_false]
  have ho54 := own_empty (base := w.heap.size) (size := 1) x48 lo50
  replace ho54 : World.ownsRow _ _ _ _ _ _ (intsV []) := ho54
  exact fin_rd (zs := []) (own_rd ho54) (by unfold DryNodes_v0; rw [if_neg (by rw [ok53]; simp)]) ok53.symm c52
 rw [q14]
 refine Fq (.bool true) (r_not (b := false) rfl ek rfl) ?_
 refine Fv (.bool true) ?_
 refine Fs s13 ?_
 refine Fs s13 ?_
 refine Fs s13 ?_
 refine Fs s13 ?_
 refine Fq (.bool true) (r_pick (b := true) rfl ek ek) ?_
 refine F.es ?_
 have c56 := (SG.belowR c9 s13 (fun kq e => by cases e))
 refine h3 _ _ ?_
 refine wp_cond_true ek ?_
 refine wk fun K7 h7 => ?_
 refine W.region_plain (row := none) [(0, true), (1, false), (2, false)] kk ?_
 have s57 := SG.self w12 none
 refine W.sn (fun b => .slice (some ⟨b, 0, none⟩) 0 0) #[] 3 s57 rfl kk rfl (fun _ => by kernel_rfl) (fun b58 w59 hb60 k61 x62 s63 => ?_)
 refine F.nx ?_
 have lo64 : w.heap.size ≤ b58 := Nat.le_trans ((SG.belowR c56 s57 (fun kq e => by cases e))).size (Nat.le_of_eq hb60)
 refine Fa (.slice (some ⟨b58, 0, none⟩) 0 0) ?_
 refine Fa (.bool false) ?_
 refine F.es ?_
 have c66 := (SG.belowR c56 s63 (fun kq e => by cases e))
 refine h7 _ _ ?_
 refine wp_ret ?_
 try simp only [Exit.then]
 refine ret2 (v := .slice (some ⟨b58, 0, none⟩) 0 0) (x := .bool false) rfl kk kk ?_
 have ok67 : DryNodes_v1 m ps vs a = false := by unfold DryNodes_v1; rw [q14]; try rfl
 have ho68 := own_empty (base := w.heap.size) (size := 1) x62 lo64
 replace ho68 : World.ownsRow _ _ _ _ _ _ (intsV []) := ho68
 exact fin_rd (zs := []) (own_rd ho68) (by unfold DryNodes_v0; rw [if_neg (by rw [ok67]; simp)]) ok67.symm c66
set_option maxRecDepth 100000 in
set_option maxHeartbeats 8000000 in
theorem DryNodes_impl (m : Int) (A : Option Addr) (n c : Nat) (ps : List Pp) (A2 : Option Addr) (n2 c2 : Nat) (vs : List Vv) (a : Int) (w : World) (ha : Rd w 4 A n (pipesV ps)) (hb : Rd w 4 A2 n2 (valvesV vs)) (hn : n ≤ 1048576) (hn2 : n2 ≤ 1048576) (hfm : Fm A n c) (hfm2 : Fm A2 n2 c2) :
    Calls Try.prog 20 #[.agg #[.int .i64 m, .slice A n c], .slice A2 n2 c2, .int .i64 a] w fun e w' => ∃ A' d, e = .returned (.tuple #[.slice A' (DryNodes_v0 m ps vs a).length d, .bool (DryNodes_v1 m ps vs a)]) ∧ w'.ownsRow w.heap.size 3 1 (.slice A' (DryNodes_v0 m ps vs a).length d) (DryNodes_v0 m ps vs a).length (intsV (DryNodes_v0 m ps vs a)) ∧ Below w.heap.size w w' := by
 have hl := rd_pipes_len ha
 have hl2 := rd_valves_len hb
 go_enter Try.func20, Try.ntmps20
 refine F.begin 30 [(0, .agg #[.int .i64 m, .slice A n c]), (1, .slice A2 n2 c2), (2, .int .i64 a)] (fun U0 => ?_)
 refine wk fun K1 h1 => ?_
 refine W.region_plain (row := none) [(0, true), (1, false), (2, false)] kk ?_
 have s1 := SG.self w none
 refine W.sn (fun b => .pointer (some ⟨b, 0, none⟩)) #[.int .i64 m, .slice A n c] 26 s1 rfl kk rfl (fun _ => by kernel_rfl) (fun b2 w3 hb4 k5 x6 s7 => ?_)
 refine F.nx ?_
 have lo8 : w.heap.size ≤ b2 := Nat.le_trans ((SG.belowR (Below.refl _ _) s1 (fun kq e => by cases e))).size (Nat.le_of_eq hb4)
 refine Fa (.slice none 0 0) ?_
 refine Fa (.bool false) ?_
 refine F.es ?_
 have c9 := (SG.belowR (Below.refl _ _) s7 (fun kq e => by cases e))
 refine h1 _ _ ?_
 refine wk fun K2 h2 => ?_
 refine wk fun K3 h3 => ?_
 refine W.region_plain (row := none) [(0, false), (1, false), (2, true), (3, false), (4, false), (5, false), (6, false), (7, true), (8, false), (9, false)] kk ?_
 have s10 := SG.self w3 none
 refine Fq (.agg #[.int .i64 m, .slice A n c]) (r_load2 rfl ek kk kk (sgS (blk_cell (j := 0) x6 kk) (Option.some_ne_none _)) (sgS (blk_cell (j := 1) x6 kk) (Option.some_ne_none _))) ?_
 refine Fv (.slice A2 n2 c2) ?_
 refine Fc [.agg #[.int .i64 m, .slice A n c], .slice A2 n2 c2] (IsValidValves_any m A n c ps A2 n2 c2 vs _ (Rd.kept ha (SG.belowR c9 s10 (fun kq e => by cases e))) (Rd.kept hb (SG.belowR c9 s10 (fun kq e => by cases e))) (by omega) (by omega) hfm2) ?_
 rintro e w12 ⟨rfl, b11⟩
 have s13 := SG.of_below s10 b11
 refine ⟨_, rfl, s13, ?_⟩
 refine F.nx ?_
 rcases Bool.eq_false_or_eq_true (goodV m ps vs) with q14 | q14
 ·rw [q14]
  have hv9 := goodV_of q14
  have hg := hv9.net
  have hgl := hg.lo
  have hgh := hg.hi
  have hp := hg.pipesIn
  have hlen10 := hg.len
  have hu := hv9.uniq
  have hvl := hv9.len
  refine Fq (.bool false) (r_not (b := true) rfl ek rfl) ?_
  refine Fv (.bool false) ?_
  refine Fq (.agg #[.int .i64 m, .slice A n c]) (r_load2 rfl ek kk kk (sgS (blk_cell (j := 0) x6 kk) (Option.some_ne_none _)) (sgS (blk_cell (j := 1) x6 kk) (Option.some_ne_none _))) ?_
  refine Fv (.int .i64 a) ?_
  refine Fc [.agg #[.int .i64 m, .slice A n c], .int .i64 a] (has_any m A n c ps a _) ?_
  rintro e w16 ⟨rfl, b15⟩
  have s17 := SG.of_below s13 b15
  refine ⟨_, rfl, s17, ?_⟩
  refine F.nx ?_
  rcases Bool.eq_false_or_eq_true (inB a 1 m) with q18 | q18
  ·rw [q18]
   have ha9 := inB_iff.1 q18
   refine Fq (.bool false) (r_not (b := true) rfl ek rfl) ?_
   refine Fq (.bool false) (r_pick (b := false) rfl ek ek) ?_
   refine F.es ?_
   have x6 := SG.blk s17 x6 (Option.some_ne_none _)
   have c19 := (SG.belowR c9 s17 (fun kq e => by cases e))
   refine h3 _ _ ?_
   refine wp_cond_false ek ?_
   refine wp_skip ?_
   refine h2 _ _ ?_
   refine wk fun K4 h4 => ?_
   refine W.region_sch (row := none) (Sch.of [(0, false), (1, false), (2, false), (3, false), (4, true), (5, true), (6, false), (7, false), (8, false), (9, false), (10, false)]) kk kk (fun _ d _ _ _ h => by cases d <;> exact h) kk (fun w20 e21 s22 => ?_)
   refine Fq (.agg #[.int .i64 m, .slice A n c]) (r_load2 rfl ek kk kk (sgS (blk_cell (j := 0) x6 kk) (Option.some_ne_none _)) (sgS (blk_cell (j := 1) x6 kk) (Option.some_ne_none _))) ?_
   refine Fq (.agg #[.int .i64 m, .slice A n c]) (r_load2 rfl ek kk kk (sgS (blk_cell (j := 0) x6 kk) (Option.some_ne_none _)) (sgS (blk_cell (j := 1) x6 kk) (Option.some_ne_none _))) ?_
   refine Fv (.slice A2 n2 c2) ?_
   refine Fv (.int .i64 a) ?_
   refine Fc [.agg #[.int .i64 m, .slice A n c], .slice A2 n2 c2, .int .i64 a] (watered_any m A n c ps A2 n2 c2 vs (a) (a).toNat _ (Rd.kept ha (SG.belowR c19 s22 (fun kq e => by cases e))) (Rd.kept hb (SG.belowR c19 s22 (fun kq e => by cases e))) (by omega) (by omega) hp (by omega) (by omega) hu (by omega) (by omega)) ?_
   rintro e w29 ⟨pb23, rfl, lo27, rd24, b28⟩
   have s30 := SG.of_below s22 b28
   refine ⟨_, rfl, s30, ?_⟩
   refine F.nx ?_
   have hl25 := rd_bools_len rd24
   rw [wetL_len] at hl25
   have hl25 : (wetL (linked ps (openQ vs true)) (a)).length = 19 := wetL_len _ _
   have z42 := ((SG.belowR c19 s30 (fun kq e => by cases e))).size
   refine Fc [.agg #[.int .i64 m, .slice A n c], .pointer (some ⟨pb23, 0, none⟩), .bool false] (nodesAndPipes_any m A n c ps pb23 false (linked ps (openQ vs true)) (a) _ (Rd.kept ha (SG.belowR c19 s30 (fun kq e => by cases e))) (by omega) (by omega) (by omega) rd24) ?_
   rintro e w46 ⟨A31, n32, c33, A34, n35, c36, rfl, ho37, ho38, nr39, b45⟩
   have s47 := SG.of_below s30 b45
   refine ⟨_, rfl, s47, ?_⟩
   refine F.nx ?_
   have ho40 := own_base (base' := w.heap.size) ho37 z42
   have hlr43 := rd_ints_len (own_rd ho40)
   have ho41 := own_base (base' := w.heap.size) ho38 z42
   have hlr44 := rd_ints_len (own_rd ho41)
   refine Fv (.tuple #[.slice A31 n32 c33, .slice A34 n35 c36]) ?_
   refine Fq (.slice A31 n32 c33) (r_extract (vs := #[.slice A31 n32 c33, .slice A34 n35 c36]) rfl ek kk) ?_
   refine Fq (.slice A34 n35 c36) (r_extract (vs := #[.slice A31 n32 c33, .slice A34 n35 c36]) rfl ek kk) ?_
   refine Fa (.slice A31 n32 c33) ?_
   refine Fa (.slice A34 n35 c36) ?_
   refine F.es ?_
   have c51 := (SG.belowR c19 s47 (fun kq e => by cases e))
   refine h4 _ _ ?_
   refine wk fun K5 h5 => ?_
   refine W.region_quiet [(0, false), (1, false), (2, false)] kk ?_
   refine Fv (.slice A31 n32 c33) ?_
   refine Fa (.slice A31 n32 c33) ?_
   refine Fa (.bool true) ?_
   refine F.es ?_
   refine h5 _ _ ?_
   refine wp_ret ?_
   try simp only [Exit.then]
   refine ret2 (v := .slice A31 n32 c33) (x := .bool true) rfl kk kk ?_
   have ok52 : DryNodes_v1 m ps vs a = true := by unfold DryNodes_v1; rw [q14, q18]; try rfl
   exact fin_ints  ho40 (by unfold DryNodes_v0; rw [if_pos ok52]) ok52.symm c51
  rw [q18]
  refine Fq (.bool true) (r_not (b := false) rfl ek rfl) ?_
  refine Fq (.bool true) (r_pick (b := false) rfl ek ek) ?_
  refine F.es ?_
  have c53 := (SG.belowR c9 s17 (fun kq e => by cases e))
  refine h3 _ _ ?_
  refine wp_cond_true ek ?_
  refine wk fun K6 h6 => ?_
  refine W.region_quiet [(0, false), (1, false)] kk ?_
  refine Fa (.slice none 0 0) ?_
  refine Fa (.bool false) ?_
  refine F.es ?_
  refine h6 _ _ ?_
  refine wp_ret ?_
  try simp only [Exit.then]
  refine ret2 (v := .slice none 0 0) (x := .bool false) rfl kk kk ?_
  have ok54 : DryNodes_v1 m ps vs a = false := by unfold DryNodes_v1; rw [q18, Bool.and_false]
  exact fin_ints (zs := []) (World.ownsRow_nil _ _ _ _) (by unfold DryNodes_v0; rw [if_neg (by rw [ok54]; simp)]) ok54.symm c53
 rw [q14]
 refine Fq (.bool true) (r_not (b := false) rfl ek rfl) ?_
 refine Fv (.bool true) ?_
 refine Fs s13 ?_
 refine Fs s13 ?_
 refine Fs s13 ?_
 refine Fs s13 ?_
 refine Fq (.bool true) (r_pick (b := true) rfl ek ek) ?_
 refine F.es ?_
 have c55 := (SG.belowR c9 s13 (fun kq e => by cases e))
 refine h3 _ _ ?_
 refine wp_cond_true ek ?_
 refine wk fun K7 h7 => ?_
 refine W.region_quiet [(0, false), (1, false)] kk ?_
 refine Fa (.slice none 0 0) ?_
 refine Fa (.bool false) ?_
 refine F.es ?_
 refine h7 _ _ ?_
 refine wp_ret ?_
 try simp only [Exit.then]
 refine ret2 (v := .slice none 0 0) (x := .bool false) rfl kk kk ?_
 have ok56 : DryNodes_v1 m ps vs a = false := by unfold DryNodes_v1; rw [q14]; try rfl
 exact fin_ints (zs := []) (World.ownsRow_nil _ _ _ _) (by unfold DryNodes_v0; rw [if_neg (by rw [ok56]; simp)]) ok56.symm c55
def DryPipes_v1 (m : Int) (ps : List Pp) (vs : List Vv) (a : Int) : Bool := goodV m ps vs && inB a 1 m
noncomputable def DryPipes_v0 (m : Int) (ps : List Pp) (vs : List Vv) (a : Int) : List Int := if DryPipes_v1 m ps vs a = true then idsAt ps (idxL (linked ps (openQ vs true)) ps.length a false) else []
theorem DryPipes_len (m : Int) (ps : List Pp) (vs : List Vv) (a : Int) : (DryPipes_v0 m ps vs a).length ≤ 1048576 := by
  unfold DryPipes_v0
  split
  · rename_i h
    have hg : goodV m ps vs = true := by unfold DryPipes_v1 at h; rw [Bool.and_eq_true] at h; exact h.1
    have hv := goodV_of hg
    have h1 := hv.net.hi
    have h2 := hv.net.len
    rw [idsAt_len]
    have := idxL_len (linked ps (openQ vs true)) ps.length a false
    omega
  · simp
set_option maxRecDepth 100000 in
set_option maxHeartbeats 8000000 in
theorem DryPipes_spec (m : Int) (A : Option Addr) (n c : Nat) (ps : List Pp) (A2 : Option Addr) (n2 c2 : Nat) (vs : List Vv) (a : Int) (w : World) (ha : Rd w 4 A n (pipesV ps)) (hb : Rd w 4 A2 n2 (valvesV vs)) (hn : n ≤ 1048576) (hn2 : n2 ≤ 1048576) (hfm : Fm A n c) (hfm2 : Fm A2 n2 c2) :
    Calls Try.prog 29 #[.agg #[.int .i64 m, .slice A n c], .slice A2 n2 c2, .int .i64 a] w fun e w' => ∃ A' d, e = .returned (.tuple #[.slice A' (DryPipes_v0 m ps vs a).length d, .bool (DryPipes_v1 m ps vs a)]) ∧ Rd w' 1 A' (DryPipes_v0 m ps vs a).length (intsV (DryPipes_v0 m ps vs a)) ∧ Below w.heap.size w w' := by
 have hl := rd_pipes_len ha
 have hl2 := rd_valves_len hb
 go_enter Try.func29, Try.ntmps29
 refine F.begin 31 [(0, .agg #[.int .i64 m, .slice A n c]), (1, .slice A2 n2 c2), (2, .int .i64 a)] (fun U0 => ?_)
 refine wk fun K1 h1 => ?_
 refine W.region_plain (row := none) [(0, true), (1, false), (2, false)] kk ?_
 have s1 := SG.self w none
 refine W.sn (fun b => .pointer (some ⟨b, 0, none⟩)) #[.int .i64 m, .slice A n c] 26 s1 rfl kk rfl (fun _ => by kernel_rfl) (fun b2 w3 hb4 k5 x6 s7 => ?_)
 refine F.nx ?_
 have lo8 : w.heap.size ≤ b2 := Nat.le_trans ((SG.belowR (Below.refl _ _) s1 (fun kq e => by cases e))).size (Nat.le_of_eq hb4)
 refine Fa (.slice none 0 0) ?_
 refine Fa (.bool false) ?_
 refine F.es ?_
 have c9 := (SG.belowR (Below.refl _ _) s7 (fun kq e => by cases e))
 refine h1 _ _ ?_
 refine wk fun K2 h2 => ?_
 refine wk fun K3 h3 => ?_
 refine W.region_plain (row := none) [(0, false), (1, false), (2, true), (3, false), (4, false), (5, false), (6, false), (7, true), (8, false), (9, false)] kk ?_
 have s10 := SG.self w3 none
 refine Fq (.agg #[.int .i64 m, .slice A n c]) (r_load2 rfl ek kk kk (sgS (blk_cell (j := 0) x6 kk) (Option.some_ne_none _)) (sgS (blk_cell (j := 1) x6 kk) (Option.some_ne_none _))) ?_
 refine Fv (.slice A2 n2 c2) ?_
 refine Fc [.agg #[.int .i64 m, .slice A n c], .slice A2 n2 c2] (l4Good_any m A n c ps A2 n2 c2 vs _ (Rd.kept ha (SG.belowR c9 s10 (fun kq e => by cases e))) (Rd.kept hb (SG.belowR c9 s10 (fun kq e => by cases e))) (by omega) (by omega)) ?_
 rintro e w12 ⟨rfl, b11⟩
 have s13 := SG.of_below s10 b11
 refine ⟨_, rfl, s13, ?_⟩
 refine F.nx ?_
 rcases Bool.eq_false_or_eq_true (goodV m ps vs) with q14 | q14
 ·rw [q14]
  have hv9 := goodV_of q14
  have hg := hv9.net
  have hgl := hg.lo
  have hgh := hg.hi
  have hp := hg.pipesIn
  have hlen10 := hg.len
  have hu := hv9.uniq
  have hvl := hv9.len
  refine Fq (.bool false) (r_not (b := true) rfl ek rfl) ?_
  refine Fv (.bool false) ?_
  refine Fq (.agg #[.int .i64 m, .slice A n c]) (r_load2 rfl ek kk kk (sgS (blk_cell (j := 0) x6 kk) (Option.some_ne_none _)) (sgS (blk_cell (j := 1) x6 kk) (Option.some_ne_none _))) ?_
  refine Fv (.int .i64 a) ?_
  refine Fc [.agg #[.int .i64 m, .slice A n c], .int .i64 a] (l2Node_any m A n c ps a _ (Rd.kept ha (SG.belowR c9 s13 (fun kq e => by cases e))) (by omega)) ?_
  rintro e w16 ⟨rfl, b15⟩
  have s17 := SG.of_below s13 b15
  refine ⟨_, rfl, s17, ?_⟩
  refine F.nx ?_
  rcases Bool.eq_false_or_eq_true (goodN m ps && inB a 1 m) with q18 | q18
  ·rw [q18]
   have q19 : inB a 1 m = true := (Bool.and_eq_true_iff.1 q18).2
   have ha9 := inB_iff.1 q19
   refine Fq (.bool false) (r_not (b := true) rfl ek rfl) ?_
   refine Fq (.bool false) (r_pick (b := false) rfl ek ek) ?_
   refine F.es ?_
   have x6 := SG.blk s17 x6 (Option.some_ne_none _)
   have c20 := (SG.belowR c9 s17 (fun kq e => by cases e))
   refine h3 _ _ ?_
   refine wp_cond_false ek ?_
   refine wp_skip ?_
   refine h2 _ _ ?_
   refine wk fun K4 h4 => ?_
   refine W.region_plain (row := none) [(0, false), (1, false), (2, false), (3, true), (4, false), (5, false), (6, false), (7, false), (8, false)] kk ?_
   have s21 := SG.self w16 none
   refine Fq (.agg #[.int .i64 m, .slice A n c]) (r_load2 rfl ek kk kk (sgS (blk_cell (j := 0) x6 kk) (Option.some_ne_none _)) (sgS (blk_cell (j := 1) x6 kk) (Option.some_ne_none _))) ?_
   refine Fv (.slice A2 n2 c2) ?_
   refine Fv (.int .i64 a) ?_
   refine Fc [.agg #[.int .i64 m, .slice A n c], .slice A2 n2 c2, .int .i64 a] (l4Dry_any m A n c ps A2 n2 c2 vs a _ (Rd.kept ha (SG.belowR c20 s21 (fun kq e => by cases e))) (Rd.kept hb (SG.belowR c20 s21 (fun kq e => by cases e))) (by omega) (by omega) hp (by omega) (by omega) (by omega)) ?_
   rintro e w37 ⟨A22, n23, c24, A25, n26, c27, rfl, rd28, fm29, rd30, fm31, b36⟩
   have s38 := SG.of_below s21 b36
   refine ⟨_, rfl, s38, ?_⟩
   refine F.nx ?_
   have hl34 := rd_ints_len rd28
   have hl35 := rd_ints_len rd30
   have := nodesL_len (linked ps (openQ vs true)) m.toNat a false
   have := idxL_len (linked ps (openQ vs true)) ps.length a false
   refine Fv (.tuple #[.slice A22 n23 c24, .slice A25 n26 c27]) ?_
   refine Fq (.slice A22 n23 c24) (r_extract (vs := #[.slice A22 n23 c24, .slice A25 n26 c27]) rfl ek kk) ?_
   refine Fq (.slice A25 n26 c27) (r_extract (vs := #[.slice A22 n23 c24, .slice A25 n26 c27]) rfl ek kk) ?_
   refine Fa (.slice A22 n23 c24) ?_
   refine Fa (.slice A25 n26 c27) ?_
   refine F.es ?_
   have x6 := SG.blk s38 x6 (Option.some_ne_none _)
   have c39 := (SG.belowR c20 s38 (fun kq e => by cases e))
   refine h4 _ _ ?_
   refine wk fun K5 h5 => ?_
   refine W.region_plain (row := none) [(0, false), (1, false), (2, true), (3, false), (4, false)] kk ?_
   have s40 := SG.self w37 none
   refine Fq (.agg #[.int .i64 m, .slice A n c]) (r_load2 rfl ek kk kk (sgS (blk_cell (j := 0) x6 kk) (Option.some_ne_none _)) (sgS (blk_cell (j := 1) x6 kk) (Option.some_ne_none _))) ?_
   refine Fv (.slice A25 n26 c27) ?_
   refine Fc [.agg #[.int .i64 m, .slice A n c], .slice A25 n26 c27] (l4Ids_any m A n c ps A25 n26 c27 (idxL (linked ps (openQ vs true)) ps.length a false) _ (Rd.kept ha (SG.belowR c39 s40 (fun kq e => by cases e))) (by omega) (Rd.kept rd30 (SG.below s40)) (by omega) (fun y hy => (mem_idxL.1 hy).1)) ?_
   rintro e w49 ⟨A41, n42, c43, rfl, rd44, fm45, b48⟩
   have s50 := SG.of_below s40 b48
   refine ⟨_, rfl, s50, ?_⟩
   refine F.nx ?_
   have hl46 := rd_ints_len rd44
   refine Fa (.slice A41 n42 c43) ?_
   refine Fa (.bool true) ?_
   refine F.es ?_
   have c51 := (SG.belowR c39 s50 (fun kq e => by cases e))
   refine h5 _ _ ?_
   refine wp_ret ?_
   try simp only [Exit.then]
   refine ret2 (v := .slice A41 n42 c43) (x := .bool true) rfl kk kk ?_
   have ok54 : DryPipes_v1 m ps vs a = true := by unfold DryPipes_v1; rw [q14, q19]; try rfl
   exact fin_rd  rd44 (by unfold DryPipes_v0; rw [if_pos ok54]) ok54.symm c51
  rw [q18]
  have q55 : inB a 1 m = false := by have h9 := q18; rw [hv9.good, Bool.true_and] at h9; exact h9
  refine Fq (.bool true) (r_not (b := false) rfl ek rfl) ?_
  refine Fq (.bool true) (r_pick (b := false) rfl ek ek) ?_
  refine F.es ?_
  have c56 := (SG.belowR c9 s17 (fun kq e => by cases e))
  refine h3 _ _ ?_
  refine wp_cond_true ek ?_
  refine wk fun K6 h6 => ?_
  refine W.region_plain (row := none) [(0, true), (1, false), (2, false)] kk ?_
  have s57 := SG.self w16 none
  refine W.sn (fun b => .slice (some ⟨b, 0, none⟩) 0 0) #[] 3 s57 rfl kk rfl (fun _ => by kernel_rfl) (fun b58 w59 hb60 k61 x62 s63 => ?_)
  refine F.nx ?_
  have lo64 : w.heap.size ≤ b58 := Nat.le_trans ((SG.belowR c56 s57 (fun kq e => by cases e))).size (Nat.le_of_eq hb60)
  refine Fa (.slice (some ⟨b58, 0, none⟩) 0 0) ?_
  refine Fa (.bool false) ?_
  refine F.es ?_
  have c66 := (SG.belowR c56 s63 (fun kq e => by cases e))
  refine h6 _ _ ?_
  refine wp_ret ?_
  try simp only [Exit.then]
  refine ret2 (v := .slice (some ⟨b58, 0, none⟩) 0 0) (x := .bool false) rfl kk kk ?_
  have ok67 : DryPipes_v1 m ps vs a = false := by unfold DryPipes_v1; rw [q55, Bool.and_false]
  have ho68 := own_empty (base := w.heap.size) (size := 1) x62 lo64
  replace ho68 : World.ownsRow _ _ _ _ _ _ (intsV []) := ho68
  exact fin_rd (zs := []) (own_rd ho68) (by unfold DryPipes_v0; rw [if_neg (by rw [ok67]; simp)]) ok67.symm c66
 rw [q14]
 refine Fq (.bool true) (r_not (b := false) rfl ek rfl) ?_
 refine Fv (.bool true) ?_
 refine Fs s13 ?_
 refine Fs s13 ?_
 refine Fs s13 ?_
 refine Fs s13 ?_
 refine Fq (.bool true) (r_pick (b := true) rfl ek ek) ?_
 refine F.es ?_
 have c70 := (SG.belowR c9 s13 (fun kq e => by cases e))
 refine h3 _ _ ?_
 refine wp_cond_true ek ?_
 refine wk fun K7 h7 => ?_
 refine W.region_plain (row := none) [(0, true), (1, false), (2, false)] kk ?_
 have s71 := SG.self w12 none
 refine W.sn (fun b => .slice (some ⟨b, 0, none⟩) 0 0) #[] 3 s71 rfl kk rfl (fun _ => by kernel_rfl) (fun b72 w73 hb74 k75 x76 s77 => ?_)
 refine F.nx ?_
 have lo78 : w.heap.size ≤ b72 := Nat.le_trans ((SG.belowR c70 s71 (fun kq e => by cases e))).size (Nat.le_of_eq hb74)
 refine Fa (.slice (some ⟨b72, 0, none⟩) 0 0) ?_
 refine Fa (.bool false) ?_
 refine F.es ?_
 have c80 := (SG.belowR c70 s77 (fun kq e => by cases e))
 refine h7 _ _ ?_
 refine wp_ret ?_
 try simp only [Exit.then]
 refine ret2 (v := .slice (some ⟨b72, 0, none⟩) 0 0) (x := .bool false) rfl kk kk ?_
 have ok81 : DryPipes_v1 m ps vs a = false := by unfold DryPipes_v1; rw [q14]; try rfl
 have ho82 := own_empty (base := w.heap.size) (size := 1) x76 lo78
 replace ho82 : World.ownsRow _ _ _ _ _ _ (intsV []) := ho82
 exact fin_rd (zs := []) (own_rd ho82) (by unfold DryPipes_v0; rw [if_neg (by rw [ok81]; simp)]) ok81.symm c80
set_option maxRecDepth 100000 in
set_option maxHeartbeats 8000000 in
theorem DryPipes_impl (m : Int) (A : Option Addr) (n c : Nat) (ps : List Pp) (A2 : Option Addr) (n2 c2 : Nat) (vs : List Vv) (a : Int) (w : World) (ha : Rd w 4 A n (pipesV ps)) (hb : Rd w 4 A2 n2 (valvesV vs)) (hn : n ≤ 1048576) (hn2 : n2 ≤ 1048576) (hfm : Fm A n c) (hfm2 : Fm A2 n2 c2) :
    Calls Try.prog 21 #[.agg #[.int .i64 m, .slice A n c], .slice A2 n2 c2, .int .i64 a] w fun e w' => ∃ A' d, e = .returned (.tuple #[.slice A' (DryPipes_v0 m ps vs a).length d, .bool (DryPipes_v1 m ps vs a)]) ∧ w'.ownsRow w.heap.size 3 1 (.slice A' (DryPipes_v0 m ps vs a).length d) (DryPipes_v0 m ps vs a).length (intsV (DryPipes_v0 m ps vs a)) ∧ Below w.heap.size w w' := by
 have hl := rd_pipes_len ha
 have hl2 := rd_valves_len hb
 go_enter Try.func21, Try.ntmps21
 refine F.begin 30 [(0, .agg #[.int .i64 m, .slice A n c]), (1, .slice A2 n2 c2), (2, .int .i64 a)] (fun U0 => ?_)
 refine wk fun K1 h1 => ?_
 refine W.region_plain (row := none) [(0, true), (1, false), (2, false)] kk ?_
 have s1 := SG.self w none
 refine W.sn (fun b => .pointer (some ⟨b, 0, none⟩)) #[.int .i64 m, .slice A n c] 26 s1 rfl kk rfl (fun _ => by kernel_rfl) (fun b2 w3 hb4 k5 x6 s7 => ?_)
 refine F.nx ?_
 have lo8 : w.heap.size ≤ b2 := Nat.le_trans ((SG.belowR (Below.refl _ _) s1 (fun kq e => by cases e))).size (Nat.le_of_eq hb4)
 refine Fa (.slice none 0 0) ?_
 refine Fa (.bool false) ?_
 refine F.es ?_
 have c9 := (SG.belowR (Below.refl _ _) s7 (fun kq e => by cases e))
 refine h1 _ _ ?_
 refine wk fun K2 h2 => ?_
 refine wk fun K3 h3 => ?_
 refine W.region_plain (row := none) [(0, false), (1, false), (2, true), (3, false), (4, false), (5, false), (6, false), (7, true), (8, false), (9, false)] kk ?_
 have s10 := SG.self w3 none
 refine Fq (.agg #[.int .i64 m, .slice A n c]) (r_load2 rfl ek kk kk (sgS (blk_cell (j := 0) x6 kk) (Option.some_ne_none _)) (sgS (blk_cell (j := 1) x6 kk) (Option.some_ne_none _))) ?_
 refine Fv (.slice A2 n2 c2) ?_
 refine Fc [.agg #[.int .i64 m, .slice A n c], .slice A2 n2 c2] (IsValidValves_any m A n c ps A2 n2 c2 vs _ (Rd.kept ha (SG.belowR c9 s10 (fun kq e => by cases e))) (Rd.kept hb (SG.belowR c9 s10 (fun kq e => by cases e))) (by omega) (by omega) hfm2) ?_
 rintro e w12 ⟨rfl, b11⟩
 have s13 := SG.of_below s10 b11
 refine ⟨_, rfl, s13, ?_⟩
 refine F.nx ?_
 rcases Bool.eq_false_or_eq_true (goodV m ps vs) with q14 | q14
 ·rw [q14]
  have hv9 := goodV_of q14
  have hg := hv9.net
  have hgl := hg.lo
  have hgh := hg.hi
  have hp := hg.pipesIn
  have hlen10 := hg.len
  have hu := hv9.uniq
  have hvl := hv9.len
  refine Fq (.bool false) (r_not (b := true) rfl ek rfl) ?_
  refine Fv (.bool false) ?_
  refine Fq (.agg #[.int .i64 m, .slice A n c]) (r_load2 rfl ek kk kk (sgS (blk_cell (j := 0) x6 kk) (Option.some_ne_none _)) (sgS (blk_cell (j := 1) x6 kk) (Option.some_ne_none _))) ?_
  refine Fv (.int .i64 a) ?_
  refine Fc [.agg #[.int .i64 m, .slice A n c], .int .i64 a] (has_any m A n c ps a _) ?_
  rintro e w16 ⟨rfl, b15⟩
  have s17 := SG.of_below s13 b15
  refine ⟨_, rfl, s17, ?_⟩
  refine F.nx ?_
  rcases Bool.eq_false_or_eq_true (inB a 1 m) with q18 | q18
  ·rw [q18]
   have ha9 := inB_iff.1 q18
   refine Fq (.bool false) (r_not (b := true) rfl ek rfl) ?_
   refine Fq (.bool false) (r_pick (b := false) rfl ek ek) ?_
   refine F.es ?_
   have x6 := SG.blk s17 x6 (Option.some_ne_none _)
   have c19 := (SG.belowR c9 s17 (fun kq e => by cases e))
   refine h3 _ _ ?_
   refine wp_cond_false ek ?_
   refine wp_skip ?_
   refine h2 _ _ ?_
   refine wk fun K4 h4 => ?_
   refine W.region_sch (row := none) (Sch.of [(0, false), (1, false), (2, false), (3, false), (4, true), (5, true), (6, false), (7, false), (8, false), (9, false), (10, false)]) kk kk (fun _ d _ _ _ h => by cases d <;> exact h) kk (fun w20 e21 s22 => ?_)
   refine Fq (.agg #[.int .i64 m, .slice A n c]) (r_load2 rfl ek kk kk (sgS (blk_cell (j := 0) x6 kk) (Option.some_ne_none _)) (sgS (blk_cell (j := 1) x6 kk) (Option.some_ne_none _))) ?_
   refine Fq (.agg #[.int .i64 m, .slice A n c]) (r_load2 rfl ek kk kk (sgS (blk_cell (j := 0) x6 kk) (Option.some_ne_none _)) (sgS (blk_cell (j := 1) x6 kk) (Option.some_ne_none _))) ?_
   refine Fv (.slice A2 n2 c2) ?_
   refine Fv (.int .i64 a) ?_
   refine Fc [.agg #[.int .i64 m, .slice A n c], .slice A2 n2 c2, .int .i64 a] (watered_any m A n c ps A2 n2 c2 vs (a) (a).toNat _ (Rd.kept ha (SG.belowR c19 s22 (fun kq e => by cases e))) (Rd.kept hb (SG.belowR c19 s22 (fun kq e => by cases e))) (by omega) (by omega) hp (by omega) (by omega) hu (by omega) (by omega)) ?_
   rintro e w29 ⟨pb23, rfl, lo27, rd24, b28⟩
   have s30 := SG.of_below s22 b28
   refine ⟨_, rfl, s30, ?_⟩
   refine F.nx ?_
   have hl25 := rd_bools_len rd24
   rw [wetL_len] at hl25
   have hl25 : (wetL (linked ps (openQ vs true)) (a)).length = 19 := wetL_len _ _
   have z42 := ((SG.belowR c19 s30 (fun kq e => by cases e))).size
   refine Fc [.agg #[.int .i64 m, .slice A n c], .pointer (some ⟨pb23, 0, none⟩), .bool false] (nodesAndPipes_any m A n c ps pb23 false (linked ps (openQ vs true)) (a) _ (Rd.kept ha (SG.belowR c19 s30 (fun kq e => by cases e))) (by omega) (by omega) (by omega) rd24) ?_
   rintro e w46 ⟨A31, n32, c33, A34, n35, c36, rfl, ho37, ho38, nr39, b45⟩
   have s47 := SG.of_below s30 b45
   refine ⟨_, rfl, s47, ?_⟩
   refine F.nx ?_
   have ho40 := own_base (base' := w.heap.size) ho37 z42
   have hlr43 := rd_ints_len (own_rd ho40)
   have ho41 := own_base (base' := w.heap.size) ho38 z42
   have hlr44 := rd_ints_len (own_rd ho41)
   refine Fv (.tuple #[.slice A31 n32 c33, .slice A34 n35 c36]) ?_
   refine Fq (.slice A31 n32 c33) (r_extract (vs := #[.slice A31 n32 c33, .slice A34 n35 c36]) rfl ek kk) ?_
   refine Fq (.slice A34 n35 c36) (r_extract (vs := #[.slice A31 n32 c33, .slice A34 n35 c36]) rfl ek kk) ?_
   refine Fa (.slice A31 n32 c33) ?_
   refine Fa (.slice A34 n35 c36) ?_
   refine F.es ?_
   have c51 := (SG.belowR c19 s47 (fun kq e => by cases e))
   refine h4 _ _ ?_
   refine wk fun K5 h5 => ?_
   refine W.region_quiet [(0, false), (1, false), (2, false)] kk ?_
   refine Fv (.slice A34 n35 c36) ?_
   refine Fa (.slice A34 n35 c36) ?_
   refine Fa (.bool true) ?_
   refine F.es ?_
   refine h5 _ _ ?_
   refine wp_ret ?_
   try simp only [Exit.then]
   refine ret2 (v := .slice A34 n35 c36) (x := .bool true) rfl kk kk ?_
   have ok52 : DryPipes_v1 m ps vs a = true := by unfold DryPipes_v1; rw [q14, q18]; try rfl
   exact fin_ints  ho41 (by unfold DryPipes_v0; rw [if_pos ok52]) ok52.symm c51
  rw [q18]
  refine Fq (.bool true) (r_not (b := false) rfl ek rfl) ?_
  refine Fq (.bool true) (r_pick (b := false) rfl ek ek) ?_
  refine F.es ?_
  have c53 := (SG.belowR c9 s17 (fun kq e => by cases e))
  refine h3 _ _ ?_
  refine wp_cond_true ek ?_
  refine wk fun K6 h6 => ?_
  refine W.region_quiet [(0, false), (1, false)] kk ?_
  refine Fa (.slice none 0 0) ?_
  refine Fa (.bool false) ?_
  refine F.es ?_
  refine h6 _ _ ?_
  refine wp_ret ?_
  try simp only [Exit.then]
  refine ret2 (v := .slice none 0 0) (x := .bool false) rfl kk kk ?_
  have ok54 : DryPipes_v1 m ps vs a = false := by unfold DryPipes_v1; rw [q18, Bool.and_false]
  exact fin_ints (zs := []) (World.ownsRow_nil _ _ _ _) (by unfold DryPipes_v0; rw [if_neg (by rw [ok54]; simp)]) ok54.symm c53
 rw [q14]
 refine Fq (.bool true) (r_not (b := false) rfl ek rfl) ?_
 refine Fv (.bool true) ?_
 refine Fs s13 ?_
 refine Fs s13 ?_
 refine Fs s13 ?_
 refine Fs s13 ?_
 refine Fq (.bool true) (r_pick (b := true) rfl ek ek) ?_
 refine F.es ?_
 have c55 := (SG.belowR c9 s13 (fun kq e => by cases e))
 refine h3 _ _ ?_
 refine wp_cond_true ek ?_
 refine wk fun K7 h7 => ?_
 refine W.region_quiet [(0, false), (1, false)] kk ?_
 refine Fa (.slice none 0 0) ?_
 refine Fa (.bool false) ?_
 refine F.es ?_
 refine h7 _ _ ?_
 refine wp_ret ?_
 try simp only [Exit.then]
 refine ret2 (v := .slice none 0 0) (x := .bool false) rfl kk kk ?_
 have ok56 : DryPipes_v1 m ps vs a = false := by unfold DryPipes_v1; rw [q14]; try rfl
 exact fin_ints (zs := []) (World.ownsRow_nil _ _ _ _) (by unfold DryPipes_v0; rw [if_neg (by rw [ok56]; simp)]) ok56.symm c55
end Go.Proofs.Ytdbgfejeleafgaa
namespace Go.Proofs.Ytdbgfejeleafgaa
open Go.RowKit
set_option linter.unusedVariables false
theorem above_at {ps : List Pp} {vs : List Vv} {k : Nat} {u v : Vv} (h : okVTo ps vs vs.length = true) (hu : vs[k]? = some u) (hv : vs[k + 1]? = some v) : u.id < v.id := by
  have h1 := okVTo_at h (List.getElem?_eq_some_iff.1 hv).1
  have := ((okV_iff hv).1 h1).1.2
  rw [above_next hu] at this
  exact of_decide_eq_true this
theorem vids_rise {m : Int} {ps : List Pp} {vs : List Vv} (h : GoodVal m ps vs) : ∀ d k (u v : Vv), vs[k]? = some u → vs[k + d + 1]? = some v → u.id < v.id
  | 0, k, u, v, hu, hv => above_at h.ok hu hv
  | d + 1, k, u, v, hu, hv => by
    have hl := (List.getElem?_eq_some_iff.1 hv).1
    have hm : vs[k + d + 1]? = some vs[k + d + 1] := List.getElem?_eq_getElem (by omega)
    exact Int.lt_trans (vids_rise h d k u _ hu hm) (above_at h.ok hm (by rw [show k + d + 1 + 1 = k + (d + 1) + 1 by omega]; exact hv))
theorem vids_inj {m : Int} {ps : List Pp} {vs : List Vv} (h : GoodVal m ps vs) {u v : Vv} (hu : u ∈ vs) (hv : v ∈ vs) (e : u.id = v.id) : u = v := by
  obtain ⟨i, hi, eu⟩ := List.getElem_of_mem hu
  obtain ⟨j, hj, ev⟩ := List.getElem_of_mem hv
  have hu' : vs[i]? = some u := by rw [List.getElem?_eq_getElem hi, eu]
  have hv' : vs[j]? = some v := by rw [List.getElem?_eq_getElem hj, ev]
  rcases Nat.lt_trichotomy i j with h1 | h1 | h1
  · have := vids_rise h (j - i - 1) i u v hu' (by rw [show i + (j - i - 1) + 1 = j by omega]; exact hv'); omega
  · subst h1; rw [hu'] at hv'; cases hv'; rfl
  · have := vids_rise h (i - j - 1) j v u hv' (by rw [show j + (i - j - 1) + 1 = i by omega]; exact hu'); omega
end Go.Proofs.Ytdbgfejeleafgaa
namespace Go.Proofs.Ytdbgfejeleafgaa
open Go.RowKit
set_option linter.unusedVariables false
set_option linter.unusedSimpArgs false
def nzV (v : Vv) : Vv := { v with shut := false }
theorem okV_nz (ps : List Pp) (vs : List Vv) (i : Nat) : okV ps (vs.map nzV) i = okV ps vs i := by
  unfold okV
  rw [List.getElem?_map]
  cases h : vs[i]? with
  | none => rfl
  | some v =>
    show (inB v.id 1 99 && above (vs.map nzV) i (nzV v) && endAt ps (findL ps v.pipe) v.node && !placed ((vs.map nzV).take i) v.pipe v.node) = _
    have h1 : above (vs.map nzV) i (nzV v) = above vs i v := by
      unfold above
      split
      · rfl
      · rw [List.getElem?_map]
        cases vs[i - 1]? <;> rfl
    have h2 : placed ((vs.map nzV).take i) v.pipe v.node = placed (vs.take i) v.pipe v.node := by
      unfold placed
      rw [← List.map_take, List.any_map]; rfl
    rw [h1, h2]
theorem okVTo_nz (ps : List Pp) (vs : List Vv) : ∀ n, okVTo ps (vs.map nzV) n = okVTo ps vs n
  | 0 => rfl
  | n + 1 => by unfold okVTo; rw [okV_nz, okVTo_nz ps vs n]
theorem goodV_nz (m : Int) (ps : List Pp) (vs : List Vv) : goodV m ps (vs.map nzV) = goodV m ps vs := by
  unfold goodV; rw [List.length_map, okVTo_nz]
theorem goodV_same {m : Int} {ps : List Pp} {us vs : List Vv} (h : us.map nzV = vs.map nzV) : goodV m ps us = goodV m ps vs := by rw [← goodV_nz m ps us, h, goodV_nz]
theorem nz_set {vs : List Vv} {k : Nat} {x : Vv} (h : vs[k]? = some x) (b : Bool) : (vs.set k { x with shut := b }).map nzV = vs.map nzV := by
  rw [List.map_set]
  apply List.ext_getElem?
  intro j
  have hk := (List.getElem?_eq_some_iff.1 h).1
  by_cases e : j = k
  · subst e
    rw [List.getElem?_set_self (by simpa using hk), List.getElem?_map, h]; rfl
  · rw [List.getElem?_set_ne (by omega)]
theorem idx_own {m : Int} {ps : List Pp} {vs : List Vv} (h : GoodVal m ps vs) {k : Nat} {x : Vv} (hx : vs[k]? = some x) : idxV (idQ x.id) vs = (k : Int) := by
  refine idxV_at (fun j z hj hz => decide_eq_false (fun e => ?_)) hx (decide_eq_true rfl)
  have := vids_rise h (k - j - 1) j z x hz (by rw [show j + (k - j - 1) + 1 = k by omega]; exact hx)
  omega
theorem turn_back {m : Int} {ps : List Pp} {vs : List Vv} {a : Int} {b : Bool} (h : TurnValve_v1 m ps vs a b = true) :
    TurnValve_v1 m ps (TurnValve_v0 m ps vs a b) a (!b) = true ∧ TurnValve_v0 m ps (TurnValve_v0 m ps vs a b) a (!b) = vs := by
  have h0 : TurnValve_v0 m ps vs a b = turned vs a b := if_pos h
  rw [h0]
  unfold TurnValve_v1 at h
  obtain ⟨hg, ht⟩ := Bool.and_eq_true_iff.1 h
  have hV := goodV_of hg
  rcases idxV_cases (idQ a) vs with ⟨h1, _⟩ | ⟨k, x, h1, hx, hq, _, _⟩
  · unfold turnOk at ht
    rw [h1] at ht; simp at ht
  · obtain rfl : x.id = a := of_decide_eq_true hq
    rw [turnOk_at h1 hx] at ht
    rw [turned_at h1 hx]
    have hk := (List.getElem?_eq_some_iff.1 hx).1
    have hg2 : goodV m ps (vs.set k { x with shut := b }) = true := by rw [goodV_same (nz_set hx b)]; exact hg
    have hx2 : (vs.set k { x with shut := b })[k]? = some { x with shut := b } := List.getElem?_set_self hk
    have i2 := idx_own (goodV_of hg2) hx2
    have e1 : TurnValve_v1 m ps (vs.set k { x with shut := b }) x.id (!b) = true := by
      unfold TurnValve_v1
      rw [hg2, turnOk_at i2 hx2]
      cases b <;> rfl
    refine ⟨e1, ?_⟩
    have e2 : TurnValve_v0 m ps (vs.set k { x with shut := b }) x.id (!b) = turned (vs.set k { x with shut := b }) x.id (!b) := if_pos e1
    rw [e2, turned_at i2 hx2, List.set_set]
    have e3 : ({ x with shut := !b } : Vv) = x := by
      have hb : x.shut = !b := by cases hs : x.shut <;> cases b <;> rw [hs] at ht <;> simp_all
      rw [← hb]
    show vs.set k { x with shut := !b } = vs
    rw [e3]
    apply List.ext_getElem?
    intro j
    by_cases e : j = k
    · subst e; rw [List.getElem?_set_self hk, hx]
    · rw [List.getElem?_set_ne (by omega)]
theorem find_own {m : Int} {ps : List Pp} (h : GoodNet m ps) {i : Nat} {p : Pp} (hp : ps[i]? = some p) : findL ps p.id = (i : Int) := by
  refine findL_at (fun j z hj hz e => ?_) hp rfl
  have hlt := (List.getElem?_eq_some_iff.1 hp).1
  have h1 := List.pairwise_iff_getElem.1 h.rise j i (by omega) hlt hj
  rw [(List.getElem?_eq_some_iff.1 hz).2, (List.getElem?_eq_some_iff.1 hp).2] at h1
  omega
theorem source_wet {m : Int} {ps : List Pp} {vs : List Vv} {s : Int} : (DryNodes_v0 m ps vs s).contains s = false := by
  rw [← Bool.not_eq_true, List.contains_iff_mem]
  intro h
  unfold DryNodes_v0 at h
  split at h
  · have h1 := (mem_nodesL.1 h).2
    rw [rb_iff.2 (reach_refl _ _)] at h1; cases h1
  · cases h
theorem need_not {m : Int} {ps : List Pp} {vs : List Vv} {a x : Int} (hg : goodV m ps vs = true) (hx : x ∈ ValvesAround_v0 m ps vs a) : (NeedlessValves_v0 m ps vs).contains x = false := by
  rw [← Bool.not_eq_true, List.contains_iff_mem]
  intro h
  have hV := goodV_of hg
  have e : NeedlessValves_v0 m ps vs = needL ps vs vs := if_pos hg
  rw [e] at h
  unfold needL at h
  obtain ⟨u, hu, eu⟩ := List.mem_map.1 h
  obtain ⟨hu1, hu2⟩ := List.mem_filter.1 hu
  unfold ValvesAround_v0 at hx
  split at hx
  · unfold idsV at hx
    obtain ⟨i, hi, ei⟩ := List.mem_map.1 hx
    unfold aroundI at hi
    obtain ⟨hi1, hi2⟩ := List.mem_filter.1 hi
    have hlt := mem_upTo.1 hi1
    unfold arQ at hi2
    cases hv : vs[i.toNat]? with
    | none => rw [hv] at hi2; cases hi2
    | some v =>
      rw [hv] at hi2 ei
      have : v = u := vids_inj hV (List.mem_of_getElem? hv) hu1 (by simp only at ei; omega)
      subst this
      have hr := rb_iff.1 hu2
      have e2 : rb (linked ps (openQ vs false)) (9 + findL ps a) v.node = rb (linked ps (openQ vs false)) (9 + findL ps a) (9 + findL ps v.pipe) := by
        rw [Bool.eq_iff_iff, rb_iff, rb_iff]
        exact ⟨fun h2 => reach_trans h2 hr, fun h2 => reach_trans h2 (reach_symm (linked_symm ps _) hr)⟩
      simp only [e2, BEq.rfl, Bool.not_true] at hi2
      cases hi2
  · cases hx
end Go.Proofs.Ytdbgfejeleafgaa
