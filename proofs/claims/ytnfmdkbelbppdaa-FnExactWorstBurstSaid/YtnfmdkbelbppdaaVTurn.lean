/- A valve is turned: both packages answer alike. -/
import Derived.Test.YtnfmdkbelbppdaaVFin
import Derived.Test.YtnfmdkbelbppdaaVRow
namespace Go.Proofs.Ytnfmdkbelbppdaa
open Go.RowKit
set_option linter.unusedVariables false
set_option linter.unusedSimpArgs false

abbrev idQ (a : Int) : Vv → Bool := fun v => decide (v.id = a)
def turnOk (vs : List Vv) (a : Int) (b : Bool) : Bool := decide (0 ≤ idxV (idQ a) vs) && (match vs[(idxV (idQ a) vs).toNat]? with | some v => !(v.shut == b) | none => false)
def turned (vs : List Vv) (a : Int) (b : Bool) : List Vv := match vs[(idxV (idQ a) vs).toNat]? with | some v => vs.set (idxV (idQ a) vs).toNat { v with shut := b } | none => []
theorem turned_len (vs : List Vv) (a : Int) (b : Bool) : (turned vs a b).length ≤ vs.length := by
  unfold turned; split <;> simp
theorem turnOk_at {vs : List Vv} {a : Int} {b : Bool} {k : Nat} {x : Vv} (e : idxV (idQ a) vs = (k : Int)) (hx : vs[k]? = some x) : turnOk vs a b = !(x.shut == b) := by
  unfold turnOk; rw [e, Int.toNat_natCast, hx, decide_eq_true (by omega), Bool.true_and]
theorem turned_at {vs : List Vv} {a : Int} {b : Bool} {k : Nat} {x : Vv} (e : idxV (idQ a) vs = (k : Int)) (hx : vs[k]? = some x) : turned vs a b = vs.set k { x with shut := b } := by
  unfold turned; rw [e, Int.toNat_natCast, hx]
def TurnValve_v1 (m : Int) (ps : List Pp) (vs : List Vv) (a : Int) (b : Bool) : Bool := goodV m ps vs && turnOk vs a b
def TurnValve_v0 (m : Int) (ps : List Pp) (vs : List Vv) (a : Int) (b : Bool) : List Vv := if TurnValve_v1 m ps vs a b = true then turned vs a b else []
theorem TurnValve_len (m : Int) (ps : List Pp) (vs : List Vv) (a : Int) (b : Bool) : (TurnValve_v0 m ps vs a b).length ≤ 1048576 := by
  unfold TurnValve_v0
  split
  · rename_i h
    have hg : goodV m ps vs = true := by unfold TurnValve_v1 at h; rw [Bool.and_eq_true] at h; exact h.1
    have := (goodV_of hg).len
    have := turned_len vs a b
    omega
  · simp
theorem fin_valves {w w' : World} {e : TypeId} {A : Option Addr} {n c : Nat} {zs us : List Vv} {b vb : Bool} (how : w'.ownsRow w.heap.size e 4 (.slice A n c) n (valvesV zs)) (hz : zs = us) (hb : b = vb) (bel : Below w.heap.size w w') :
    ∃ A' d, Ending.returned (.tuple #[.slice A n c, .bool b]) = .returned (.tuple #[.slice A' us.length d, .bool vb]) ∧ w'.ownsRow w.heap.size e 4 (.slice A' us.length d) us.length (valvesV us) ∧ Below w.heap.size w w' := by
  subst hz hb
  have hl := rd_valves_len (own_rd how)
  subst hl
  exact ⟨_, _, rfl, how, bel⟩

set_option maxRecDepth 100000 in
set_option maxHeartbeats 1000000 in
theorem l4Turned_any (A2 : Option Addr) (n2 c2 : Nat) (vs : List Vv) (k : Nat) (x : Vv) (b : Bool) (w : World) (hb : Rd w 4 A2 n2 (valvesV vs)) (hn2 : n2 ≤ 1048576) (hfm2 : Fm A2 n2 c2) (hx : vs[k]? = some x) :
    Calls Try.prog 133 #[.slice A2 n2 c2, .int .i64 ((k : Nat) : Int), .bool b] w fun e w' => ∃ A' n' c', e = .returned (.slice A' n' c') ∧ w'.ownsRow w.heap.size 60 4 (.slice A' n' c') n' (valvesV (vs.set k { x with shut := b })) ∧ Below w.heap.size w w' := by
  have hl2 := rd_valves_len hb
  have hk9 := (List.getElem?_eq_some_iff.1 hx).1
  go_enter Try.func133, Try.ntmps133
  refine wp_seq_k (fun K1 h1 => ?_)
  refine W.region_quiet [(0, false)] (by kernel_rfl) ?_
  refine W.as (v := .slice none 0 0) (h := ?_)
  refine W.endF 23 [(0, .slice A2 n2 c2), (1, .int .i64 ((k : Nat) : Int)), (2, .bool b), (6, .slice none 0 0)] (fun U1 => ?_)
  refine h1 _ _ ?_
  refine wp_seq_k (fun K2 h2 => ?_)
  refine W.region_plain (row := none) [(0, true), (1, false), (2, true), (3, false)] (by kernel_rfl) ?_
  have s2 := SG.self w none
  refine W.sn (fun b => .slice (some ⟨b, 0, none⟩) 0 0) #[] 60 s2 rfl (by kernel_rfl) rfl (fun _ => by kernel_rfl) (fun b3 w4 hb5 k6 x7 s8 => ?_)
  have lo9 : w.heap.size ≤ b3 := by have := ((SG.belowR (Below.refl _ _) s2 (fun kq e => by cases e))).size; omega
  refine W.mv (v := .slice A2 n2 c2) (h := ?_)
  have ho10 := own_empty (base := w.heap.size) (size := 4) x7 lo9
  replace ho10 : World.ownsRow _ _ _ _ _ _ (valvesV []) := ho10
  replace ho10 : World.ownsRow _ _ _ _ _ _ (valvesV []) := ho10
  refine W.sapR (e := 60) (size := 4) (base := w.heap.size) (v := .slice (some ⟨b3, 0, none⟩) 0 0) (A := A2) (m := n2) (c := c2) s8 rfl rfl rfl rfl (by kernel_rfl) (by kernel_rfl) (by kernel_rfl) ho10 (Rd.kept hb (SG.belowR (Below.refl _ _) s8 (fun kq e => by cases e))) hfm2 (valves_one _) (by omega) (by have := ((SG.belowR (Below.refl _ _) s8 (fun kq e => by cases e))).size; omega) (.inr (fun kq e => by have := World.grownBy.size s2; have := hb5; have e' := Option.some.inj e; simp at e'; omega)) (fun A11 cap12 w13 ho14 hg15 hat16 s17 => ?_)
  have ho14 := own_joinV ho14
  have fr18 : ∀ kq, (.slice A11 (0 + n2) cap12 : Value).ownBlock = some kq → w.heap.size ≤ kq := fun kq e => by
    have hs := World.grownBy.size s8
    rcases hat16 with h | h
    · exact (show ∀ kq, Value.ownBlock _ = some kq → w.heap.size ≤ kq from (fun kq e => by have := World.grownBy.size s2; have := hb5; have e' := Option.some.inj e; simp at e'; omega)) kq (h.symm.trans e)
    · have := Option.some.inj (h.symm.trans e); omega
  replace ho14 : World.ownsRow _ _ _ _ _ _ (valvesV vs) := ho14
  refine W.as (v := .slice A11 (0 + n2) cap12) (h := ?_)
  refine W.endF 23 [(0, .slice A2 n2 c2), (1, .int .i64 ((k : Nat) : Int)), (2, .bool b), (6, .slice none 0 0), (7, .slice A11 (0 + n2) cap12)] (fun U19 => ?_)
  have c20 := (SG.belowR (Below.refl _ _) s17 (fun kq e => by cases e))
  refine h2 _ _ ?_
  refine wp_seq_k (fun K3 h3 => ?_)
  refine W.region_plain (row := none) [(0, false), (1, false), (2, false), (3, false), (4, true), (5, true)] (by kernel_rfl) ?_
  have s21 := SG.self w13 none
  refine W.mv (v := .slice A11 (0 + n2) cap12) (h := ?_)
  refine W.mv (v := .int .i64 ((k : Nat) : Int)) (h := ?_)
  obtain ⟨g22, rfl, _, _⟩ := own_addr ho14 (by omega)
  refine W.q (v := .pointer (some ⟨g22, 0 + k * 4, none⟩)) (hr := (r_idx (n := (0 + n2)) (c := cap12) (k := k) (size := 4) rfl (by kernel_rfl) rfl (by kernel_rfl) (by kernel_rfl) (by omega))) (h := ?_)
  refine W.q (v := .agg #[.int .i64 x.id, .int .i64 x.pipe, .int .i64 x.node, .bool x.shut]) (hr := (r_load4 rfl (by kernel_rfl) (by kernel_rfl) (by kernel_rfl) (sgS ((own_atV ho14 hx).1) (by simp)) (sgS ((own_atV ho14 hx).2.1) (by simp)) (sgS ((own_atV ho14 hx).2.2.1) (by simp)) (sgS ((own_atV ho14 hx).2.2.2) (by simp)))) (h := ?_)
  refine W.sn (fun b => .pointer (some ⟨b, 0, none⟩)) #[.int .i64 0, .int .i64 0, .int .i64 0, .bool false] 60 s21 rfl (by kernel_rfl) rfl (fun _ => by kernel_rfl) (fun b23 w24 hb25 k26 x27 s28 => ?_)
  have lo29 : w.heap.size ≤ b23 := by have := ((SG.belowR c20 s21 (fun kq e => by cases e))).size; omega
  have nb30 : Nb b23 (.slice (some ⟨g22, 0, none⟩) (0 + n2) cap12) := nb_hi ho14 (Nat.le_of_eq hb25)
  have ho31 := own_kept ho14 k26
  refine W.ss (v := .agg #[.int .i64 x.id, .int .i64 x.pipe, .int .i64 x.node, .bool x.shut]) (j := 0) (news := [.int .i64 x.id, .int .i64 x.pipe, .int .i64 x.node, .bool x.shut]) (cs' := #[.int .i64 x.id, .int .i64 x.pipe, .int .i64 x.node, .bool x.shut]) s28 rfl (by kernel_rfl) rfl rfl (by kernel_rfl) (by kernel_rfl) x27 (by kernel_rfl) (by kernel_rfl) (by simp) (by kernel_rfl) (by kernel_rfl) (.inr (by have := World.grownBy.size s21; have := hb25; omega)) (fun w32 g33 x34 s35 => ?_)
  have ho36 := own_grown ho31 g33 (fun j e1 e2 => by cases e2; exact nb30 e1.symm)
  refine W.endF 23 [(0, .slice A2 n2 c2), (1, .int .i64 ((k : Nat) : Int)), (2, .bool b), (6, .slice none 0 0), (7, .slice (some ⟨g22, 0, none⟩) (0 + n2) cap12), (8, .pointer (some ⟨b23, 0, none⟩))] (fun U37 => ?_)
  have c38 := (SG.belowR c20 s35 (fun kq e => by cases e))
  refine h3 _ _ ?_
  refine wp_seq_k (fun K4 h4 => ?_)
  refine W.region_plain (row := (some b23)) [(0, false), (1, false), (2, true)] (by kernel_rfl) ?_
  have s39 := SG.self w32 (some b23)
  refine W.mv (v := .bool b) (h := ?_)
  refine W.q (v := .pointer (some ⟨b23, 3, none⟩)) (hr := (r_field (k := 3) rfl (by kernel_rfl) (by kernel_rfl))) (h := ?_)
  refine W.ss (v := .bool b) (j := 3) (news := [.bool b]) (cs' := #[.int .i64 x.id, .int .i64 x.pipe, .int .i64 x.node, .bool b]) s39 rfl (by kernel_rfl) rfl rfl (by kernel_rfl) (by kernel_rfl) x34 (by kernel_rfl) (by kernel_rfl) (by simp) (by kernel_rfl) (by kernel_rfl) (.inl rfl) (fun w40 g41 x42 s43 => ?_)
  have ho44 := own_grown ho36 g41 (fun j e1 e2 => by cases e2; exact nb30 e1.symm)
  refine W.endF 23 [(0, .slice A2 n2 c2), (1, .int .i64 ((k : Nat) : Int)), (2, .bool b), (6, .slice none 0 0), (7, .slice (some ⟨g22, 0, none⟩) (0 + n2) cap12), (8, .pointer (some ⟨b23, 0, none⟩))] (fun U45 => ?_)
  have c46 := (SG.belowR c38 s43 (fun kq e => by cases e; exact lo29))
  refine h4 _ _ ?_
  refine wp_seq_k (fun K5 h5 => ?_)
  refine W.region_plain (row := (Value.ownBlock (.slice (some ⟨g22, 0, none⟩) (0 + n2) cap12))) [(0, false), (1, false), (2, false), (3, false), (4, true)] (by kernel_rfl) ?_
  have s47 := SG.self w40 (Value.ownBlock (.slice (some ⟨g22, 0, none⟩) (0 + n2) cap12))
  refine W.mv (v := .slice (some ⟨g22, 0, none⟩) (0 + n2) cap12) (h := ?_)
  refine W.mv (v := .int .i64 ((k : Nat) : Int)) (h := ?_)
  refine W.q (v := .agg #[.int .i64 x.id, .int .i64 x.pipe, .int .i64 x.node, .bool b]) (hr := (r_load4 rfl (by kernel_rfl) (by kernel_rfl) (by kernel_rfl) (sgS (blk_cell (j := 0) x42 (by kernel_rfl)) nb30) (sgS (blk_cell (j := 1) x42 (by kernel_rfl)) nb30) (sgS (blk_cell (j := 2) x42 (by kernel_rfl)) nb30) (sgS (blk_cell (j := 3) x42 (by kernel_rfl)) nb30))) (h := ?_)
  refine W.q (v := .pointer (some ⟨g22, 0 + k * 4, none⟩)) (hr := (r_idx (n := (0 + n2)) (c := cap12) (k := k) (size := 4) rfl (by kernel_rfl) rfl (by kernel_rfl) (by kernel_rfl) (by omega))) (h := ?_)
  refine W.sst (base := w.heap.size) (e := 60) (size := 4) (n := (0 + n2)) (c := cap12) (j := 0 + k * 4) (u := .agg #[.int .i64 x.id, .int .i64 x.pipe, .int .i64 x.node, .bool b]) (news := [.int .i64 x.id, .int .i64 x.pipe, .int .i64 x.node, .bool b]) s47 rfl (by kernel_rfl) rfl rfl (by kernel_rfl) (by kernel_rfl) ho44 (by kernel_rfl) (by kernel_rfl) (by kernel_rfl) (by simp only [List.length_cons, List.length_nil]; omega) (.inl rfl) (fun w48 ho49 g50 s51 => ?_)
  have ho49 := own_setV hx ⟨x.id, x.pipe, x.node, b⟩ ho49
  refine W.endF 23 [(0, .slice A2 n2 c2), (1, .int .i64 ((k : Nat) : Int)), (2, .bool b), (6, .slice none 0 0), (7, .slice (some ⟨g22, 0, none⟩) (0 + n2) cap12), (8, .pointer (some ⟨b23, 0, none⟩))] (fun U52 => ?_)
  have x42 := SG.blk s51 x42 nb30
  have c53 := (SG.belowR c46 s51 (fun kq e => (World.ownsRow.lt ho44 kq e).1))
  refine h5 _ _ ?_
  refine wp_seq_k (fun K6 h6 => ?_)
  refine W.region_quiet [(0, false), (1, false)] (by kernel_rfl) ?_
  refine W.mv (v := .slice (some ⟨g22, 0, none⟩) (0 + n2) cap12) (h := ?_)
  refine W.as (v := .slice (some ⟨g22, 0, none⟩) (0 + n2) cap12) (h := ?_)
  refine W.endF 23 [(0, .slice A2 n2 c2), (1, .int .i64 ((k : Nat) : Int)), (2, .bool b), (6, .slice (some ⟨g22, 0, none⟩) (0 + n2) cap12), (7, .slice (some ⟨g22, 0, none⟩) (0 + n2) cap12), (8, .pointer (some ⟨b23, 0, none⟩))] (fun U54 => ?_)
  refine h6 _ _ ?_
  refine wp_ret ?_
  try simp only [Exit.then]
  refine ret1 (v := .slice (some ⟨g22, 0, none⟩) (0 + n2) cap12) rfl (by kernel_rfl) ?_
  exact ⟨_, _, _, rfl, ho49, c53⟩

end Go.Proofs.Ytnfmdkbelbppdaa
