/- A valve is turned: both packages answer alike. -/
import Derived.Test.YtnfmdkbelbppdaaVFin
import Derived.Test.YtnfmdkbelbppdaaVRow
namespace Go.Proofs.Ytnfmdkbelbppdaa
open Go.RowKit
set_option linter.unusedVariables false
set_option linter.unusedSimpArgs false

abbrev idQ (a : Int) : Vv → Bool := fun v => decide (v.id = a)
def turnOk (vs : List Vv) (a : Int) (b : Bool) : Bool := decide (0 ≤ idxV (idQ a) vs) && (match vs[(idxV (idQ a) vs).toNat]? with | some v => !(v.shut == b) | none => false)
def turned (vs : List Vv) (a : Int) (b : Bool) : List Vv := match vs[(idxV (idQ a) vs).toNat]? with | some v => vs.set (idxV (idQ a) vs).toNat { v with shut := b } | none => []
theorem turned_len (vs : List Vv) (a : Int) (b : Bool) : (turned vs a b).length ≤ vs.length := by
  unfold turned; split <;> simp
theorem turnOk_at {vs : List Vv} {a : Int} {b : Bool} {k : Nat} {x : Vv} (e : idxV (idQ a) vs = (k : Int)) (hx : vs[k]? = some x) : turnOk vs a b = !(x.shut == b) := by
  unfold turnOk; rw [e, Int.toNat_natCast, hx, decide_eq_true (by omega), Bool.true_and]
theorem turned_at {vs : List Vv} {a : Int} {b : Bool} {k : Nat} {x : Vv} (e : idxV (idQ a) vs = (k : Int)) (hx : vs[k]? = some x) : turned vs a b = vs.set k { x with shut := b } := by
  unfold turned; rw [e, Int.toNat_natCast, hx]
def TurnValve_v1 (m : Int) (ps : List Pp) (vs : List Vv) (a : Int) (b : Bool) : Bool := goodV m ps vs && turnOk vs a b
def TurnValve_v0 (m : Int) (ps : List Pp) (vs : List Vv) (a : Int) (b : Bool) : List Vv := if TurnValve_v1 m ps vs a b = true then turned vs a b else []
theorem TurnValve_len (m : Int) (ps : List Pp) (vs : List Vv) (a : Int) (b : Bool) : (TurnValve_v0 m ps vs a b).length ≤ 1048576 := by
  unfold TurnValve_v0
  split
  · rename_i h
    have hg : goodV m ps vs = true := by unfold TurnValve_v1 at h; rw [Bool.and_eq_true] at h; exact h.1
    have := (goodV_of hg).len
    have := turned_len vs a b
    omega
  · simp
theorem fin_valves {w w' : World} {e : TypeId} {A : Option Addr} {n c : Nat} {zs us : List Vv} {b vb : Bool} (how : w'.ownsRow w.heap.size e 4 (.slice A n c) n (valvesV zs)) (hz : zs = us) (hb : b = vb) (bel : Below w.heap.size w w') :
    ∃ A' d, Ending.returned (.tuple #[.slice A n c, .bool b]) = .returned (.tuple #[.slice A' us.length d, .bool vb]) ∧ w'.ownsRow w.heap.size e 4 (.slice A' us.length d) us.length (valvesV us) ∧ Below w.heap.size w w' := by
  subst hz hb
  have hl := rd_valves_len (own_rd how)
  subst hl
  exact ⟨_, _, rfl, how, bel⟩

set_option maxRecDepth 100000 in
set_option maxHeartbeats 1000000 in
theorem l4Turned_any (A2 : Option Addr) (n2 c2 : Nat) (vs : List Vv) (k : Nat) (x : Vv) (b : Bool) (w : World) (hb : Rd w 4 A2 n2 (valvesV vs)) (hn2 : n2 ≤ 1048576) (hfm2 : Fm A2 n2 c2) (hx : vs[k]? = some x) :
    Calls Try.prog 133 #[.slice A2 n2 c2, .int .i64 ((k : Nat) : Int), .bool b] w fun e w' => ∃ A' n' c', e = .returned (.slice A' n' c') ∧ w'.ownsRow w.heap.size 60 4 (.slice A' n' c') n' (valvesV (vs.set k { x with shut := b })) ∧ Below w.heap.size w w' := by
  have hl2 := rd_valves_len hb
  have hk9 := (List.getElem?_eq_some_iff.1 hx).1
  go_enter Try.func133, Try.ntmps133
  refine wp_seq_k (fun K1 h1 => ?_)
  refine W.region_quiet [(0, false)] (by kernel_rfl) ?_
  refine W.sq (v := .slice none 0 0) rfl (r_assign rfl (by kernel_rfl)) (by kernel_rfl) rfl rfl ?_
  refine W.sch_end (l' := [.slice A2 n2 c2, .int .i64 ((k : Nat) : Int), .bool b, undef, undef, undef, .slice none 0 0, undef, undef, undef, undef, undef, undef, undef, undef, undef, undef, undef, undef, undef, undef, undef, undef]) (by kernel_rfl) ?_
  refine h1 _ _ ?_
  refine wp_seq_k (fun K2 h2 => ?_)
  refine W.region_plain (row := none) [(0, true), (1, false), (2, true), (3, false)] (by kernel_rfl) ?_
  have s1 := SG.self w none
  refine W.sn (fun b => .slice (some ⟨b, 0, none⟩) 0 0) #[] 60 s1 rfl (by kernel_rfl) rfl (fun _ => by kernel_rfl) (fun b2 w3 hb4 k5 x6 s7 => ?_)
  have lo8 : w.heap.size ≤ b2 := by have := ((SG.belowR (Below.refl _ _) s1 (fun kq e => by cases e))).size; omega
  refine W.sq (v := .slice A2 n2 c2) rfl (r_move rfl (by kernel_rfl)) (by kernel_rfl) rfl rfl ?_
  have ho9 := own_empty (base := w.heap.size) (size := 4) x6 lo8
  replace ho9 : World.ownsRow _ _ _ _ _ _ (valvesV []) := ho9
  replace ho9 : World.ownsRow _ _ _ _ _ _ (valvesV []) := ho9
  refine W.sapR (e := 60) (size := 4) (base := w.heap.size) (v := .slice (some ⟨b2, 0, none⟩) 0 0) (A := A2) (m := n2) (c := c2) s7 rfl rfl rfl rfl (by kernel_rfl) (by kernel_rfl) (by kernel_rfl) ho9 (Rd.kept hb (SG.belowR (Below.refl _ _) s7 (fun kq e => by cases e))) hfm2 (valves_one _) (by omega) (by have := ((SG.belowR (Below.refl _ _) s7 (fun kq e => by cases e))).size; omega) (.inr (fun kq e => by have := World.grownBy.size s1; have := hb4; have e' := Option.some.inj e; simp at e'; omega)) (fun A10 cap11 w12 ho13 hg14 hat15 s16 => ?_)
  have ho13 := own_joinV ho13
  have fr17 : ∀ kq, (.slice A10 (0 + n2) cap11 : Value).ownBlock = some kq → w.heap.size ≤ kq := fun kq e => by
    have hs := World.grownBy.size s7
    rcases hat15 with h | h
    · exact (show ∀ kq, Value.ownBlock _ = some kq → w.heap.size ≤ kq from (fun kq e => by have := World.grownBy.size s1; have := hb4; have e' := Option.some.inj e; simp at e'; omega)) kq (h.symm.trans e)
    · have := Option.some.inj (h.symm.trans e); omega
  replace ho13 : World.ownsRow _ _ _ _ _ _ (valvesV vs) := ho13
  refine W.sq (v := .slice A10 (0 + n2) cap11) rfl (r_assign rfl (by kernel_rfl)) (by kernel_rfl) rfl rfl ?_
  refine W.sch_endU (fun U18 => [.slice A2 n2 c2, .int .i64 ((k : Nat) : Int), .bool b, undef, undef, undef, .slice none 0 0, .slice A10 (0 + n2) cap11, undef, U18 9, U18 10, U18 11, undef, undef, undef, undef, undef, undef, undef, undef, undef, undef, undef]) (by kernel_rfl) (fun U18 => ?_)
  have c19 := (SG.belowR (Below.refl _ _) s16 (fun kq e => by cases e))
  refine h2 _ _ ?_
  refine wp_seq_k (fun K3 h3 => ?_)
  refine W.region_plain (row := none) [(0, false), (1, false), (2, false), (3, false), (4, true), (5, true)] (by kernel_rfl) ?_
  have s20 := SG.self w12 none
  refine W.sq (v := .slice A10 (0 + n2) cap11) rfl (r_move rfl (by kernel_rfl)) (by kernel_rfl) rfl rfl ?_
  refine W.sq (v := .int .i64 ((k : Nat) : Int)) rfl (r_move rfl (by kernel_rfl)) (by kernel_rfl) rfl rfl ?_
  obtain ⟨g21, rfl, _, _⟩ := own_addr ho13 (by omega)
  refine W.sq (v := .pointer (some ⟨g21, 0 + k * 4, none⟩)) rfl (r_idx (n := (0 + n2)) (c := cap11) (k := k) (size := 4) rfl (by kernel_rfl) rfl (by kernel_rfl) (by kernel_rfl) (by omega)) (by kernel_rfl) rfl rfl ?_
  refine W.sq (v := .agg #[.int .i64 x.id, .int .i64 x.pipe, .int .i64 x.node, .bool x.shut]) rfl (r_load4 rfl (by kernel_rfl) (by kernel_rfl) (by kernel_rfl) (sgS ((own_atV ho13 hx).1) (by simp)) (sgS ((own_atV ho13 hx).2.1) (by simp)) (sgS ((own_atV ho13 hx).2.2.1) (by simp)) (sgS ((own_atV ho13 hx).2.2.2) (by simp))) (by kernel_rfl) rfl rfl ?_
  refine W.sn (fun b => .pointer (some ⟨b, 0, none⟩)) #[.int .i64 0, .int .i64 0, .int .i64 0, .bool false] 60 s20 rfl (by kernel_rfl) rfl (fun _ => by kernel_rfl) (fun b22 w23 hb24 k25 x26 s27 => ?_)
  have lo28 : w.heap.size ≤ b22 := by have := ((SG.belowR c19 s20 (fun kq e => by cases e))).size; omega
  have nb29 : Nb b22 (.slice (some ⟨g21, 0, none⟩) (0 + n2) cap11) := nb_hi ho13 (Nat.le_of_eq hb24)
  have ho30 := own_kept ho13 k25
  refine W.ss (v := .agg #[.int .i64 x.id, .int .i64 x.pipe, .int .i64 x.node, .bool x.shut]) (j := 0) (news := [.int .i64 x.id, .int .i64 x.pipe, .int .i64 x.node, .bool x.shut]) (cs' := #[.int .i64 x.id, .int .i64 x.pipe, .int .i64 x.node, .bool x.shut]) s27 rfl (by kernel_rfl) rfl rfl (by kernel_rfl) (by kernel_rfl) x26 (by kernel_rfl) (by kernel_rfl) (by simp) (by kernel_rfl) (by kernel_rfl) (.inr (by have := World.grownBy.size s20; have := hb24; omega)) (fun w31 g32 x33 s34 => ?_)
  have ho35 := own_grown ho30 g32 (fun j e1 e2 => by cases e2; exact nb29 e1.symm)
  refine W.sch_endU (fun U36 => [.slice A2 n2 c2, .int .i64 ((k : Nat) : Int), .bool b, undef, undef, undef, .slice none 0 0, .slice (some ⟨g21, 0, none⟩) (0 + n2) cap11, .pointer (some ⟨b22, 0, none⟩), (U18 9), (U18 10), (U18 11), U36 12, U36 13, U36 14, U36 15, undef, undef, undef, undef, undef, undef, undef]) (by kernel_rfl) (fun U36 => ?_)
  have c37 := (SG.belowR c19 s34 (fun kq e => by cases e))
  refine h3 _ _ ?_
  refine wp_seq_k (fun K4 h4 => ?_)
  refine W.region_plain (row := (some b22)) [(0, false), (1, false), (2, true)] (by kernel_rfl) ?_
  have s38 := SG.self w31 (some b22)
  refine W.sq (v := .bool b) rfl (r_move rfl (by kernel_rfl)) (by kernel_rfl) rfl rfl ?_
  refine W.sq (v := .pointer (some ⟨b22, 3, none⟩)) rfl (r_field (k := 3) rfl (by kernel_rfl) (by kernel_rfl)) (by kernel_rfl) rfl rfl ?_
  refine W.ss (v := .bool b) (j := 3) (news := [.bool b]) (cs' := #[.int .i64 x.id, .int .i64 x.pipe, .int .i64 x.node, .bool b]) s38 rfl (by kernel_rfl) rfl rfl (by kernel_rfl) (by kernel_rfl) x33 (by kernel_rfl) (by kernel_rfl) (by simp) (by kernel_rfl) (by kernel_rfl) (.inl rfl) (fun w39 g40 x41 s42 => ?_)
  have ho43 := own_grown ho35 g40 (fun j e1 e2 => by cases e2; exact nb29 e1.symm)
  refine W.sch_endU (fun U44 => [.slice A2 n2 c2, .int .i64 ((k : Nat) : Int), .bool b, undef, undef, undef, .slice none 0 0, .slice (some ⟨g21, 0, none⟩) (0 + n2) cap11, .pointer (some ⟨b22, 0, none⟩), (U18 9), (U18 10), (U18 11), (U36 12), (U36 13), (U36 14), (U36 15), U44 16, U44 17, undef, undef, undef, undef, undef]) (by kernel_rfl) (fun U44 => ?_)
  have c45 := (SG.belowR c37 s42 (fun kq e => by cases e; exact lo28))
  refine h4 _ _ ?_
  refine wp_seq_k (fun K5 h5 => ?_)
  refine W.region_plain (row := (Value.ownBlock (.slice (some ⟨g21, 0, none⟩) (0 + n2) cap11))) [(0, false), (1, false), (2, false), (3, false), (4, true)] (by kernel_rfl) ?_
  have s46 := SG.self w39 (Value.ownBlock (.slice (some ⟨g21, 0, none⟩) (0 + n2) cap11))
  refine W.sq (v := .slice (some ⟨g21, 0, none⟩) (0 + n2) cap11) rfl (r_move rfl (by kernel_rfl)) (by kernel_rfl) rfl rfl ?_
  refine W.sq (v := .int .i64 ((k : Nat) : Int)) rfl (r_move rfl (by kernel_rfl)) (by kernel_rfl) rfl rfl ?_
  refine W.sq (v := .agg #[.int .i64 x.id, .int .i64 x.pipe, .int .i64 x.node, .bool b]) rfl (r_load4 rfl (by kernel_rfl) (by kernel_rfl) (by kernel_rfl) (sgS (blk_cell (j := 0) x41 (by kernel_rfl)) nb29) (sgS (blk_cell (j := 1) x41 (by kernel_rfl)) nb29) (sgS (blk_cell (j := 2) x41 (by kernel_rfl)) nb29) (sgS (blk_cell (j := 3) x41 (by kernel_rfl)) nb29)) (by kernel_rfl) rfl rfl ?_
  refine W.sq (v := .pointer (some ⟨g21, 0 + k * 4, none⟩)) rfl (r_idx (n := (0 + n2)) (c := cap11) (k := k) (size := 4) rfl (by kernel_rfl) rfl (by kernel_rfl) (by kernel_rfl) (by omega)) (by kernel_rfl) rfl rfl ?_
  refine W.sst (base := w.heap.size) (e := 60) (size := 4) (n := (0 + n2)) (c := cap11) (j := 0 + k * 4) (u := .agg #[.int .i64 x.id, .int .i64 x.pipe, .int .i64 x.node, .bool b]) (news := [.int .i64 x.id, .int .i64 x.pipe, .int .i64 x.node, .bool b]) s46 rfl (by kernel_rfl) rfl rfl (by kernel_rfl) (by kernel_rfl) ho43 (by kernel_rfl) (by kernel_rfl) (by kernel_rfl) (by simp only [List.length_cons, List.length_nil]; omega) (.inl rfl) (fun w47 ho48 g49 s50 => ?_)
  have ho48 := own_setV hx ⟨x.id, x.pipe, x.node, b⟩ ho48
  refine W.sch_endU (fun U51 => [.slice A2 n2 c2, .int .i64 ((k : Nat) : Int), .bool b, undef, undef, undef, .slice none 0 0, .slice (some ⟨g21, 0, none⟩) (0 + n2) cap11, .pointer (some ⟨b22, 0, none⟩), (U18 9), (U18 10), (U18 11), (U36 12), (U36 13), (U36 14), (U36 15), (U44 16), (U44 17), U51 18, U51 19, U51 20, U51 21, undef]) (by kernel_rfl) (fun U51 => ?_)
  have x41 := SG.blk s50 x41 nb29
  have c52 := (SG.belowR c45 s50 (fun kq e => (World.ownsRow.lt ho43 kq e).1))
  refine h5 _ _ ?_
  refine wp_seq_k (fun K6 h6 => ?_)
  refine W.region_quiet [(0, false), (1, false)] (by kernel_rfl) ?_
  refine W.sq (v := .slice (some ⟨g21, 0, none⟩) (0 + n2) cap11) rfl (r_move rfl (by kernel_rfl)) (by kernel_rfl) rfl rfl ?_
  refine W.sq (v := .slice (some ⟨g21, 0, none⟩) (0 + n2) cap11) rfl (r_assign rfl (by kernel_rfl)) (by kernel_rfl) rfl rfl ?_
  refine W.sch_endU (fun U53 => [.slice A2 n2 c2, .int .i64 ((k : Nat) : Int), .bool b, undef, undef, undef, .slice (some ⟨g21, 0, none⟩) (0 + n2) cap11, .slice (some ⟨g21, 0, none⟩) (0 + n2) cap11, .pointer (some ⟨b22, 0, none⟩), (U18 9), (U18 10), (U18 11), (U36 12), (U36 13), (U36 14), (U36 15), (U44 16), (U44 17), (U51 18), (U51 19), (U51 20), (U51 21), U53 22]) (by kernel_rfl) (fun U53 => ?_)
  refine h6 _ _ ?_
  refine wp_ret ?_
  try simp only [Exit.then]
  refine ret1 (v := .slice (some ⟨g21, 0, none⟩) (0 + n2) cap11) rfl (by kernel_rfl) ?_
  exact ⟨_, _, _, rfl, ho48, c52⟩

end Go.Proofs.Ytnfmdkbelbppdaa
