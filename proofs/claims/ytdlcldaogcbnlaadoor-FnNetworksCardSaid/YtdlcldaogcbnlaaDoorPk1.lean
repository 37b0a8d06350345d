/- What the texts behind it build on; conditions: none. -/
import Derived.WalkKit
import Derived.WalkLawsBesides
import Derived.Below
import Derived.Lib.Hide
import Derived.Test.YtdlcldaogcbnlaaDoorProg
import Derived.Deep.QuietTactic
import Derived.BigQuiet
import Derived.Outline
import Derived.Laws.OwnMore
import Derived.OpenShut
import Derived.OneCell
import Derived.Deep.AppendLies
import Derived.Deep.RegionHeld3
import Derived.OrdersHeld
import Derived.Deep.LoopGhost
import Derived.Laws.CopyRow
import Derived.Laws.AppendOwnNone
import Derived.ArgAppend
import Derived.Laws.Tables
import Derived.Lib.SmallJoins
import Derived.Laws.IdiomStrings
namespace Go.Proofs.YtdlcldaogcbnlaaDoor
open Go.RowKit
set_option linter.unusedVariables false
theorem ret_int {k : IntKind} {a b : Int} (h : a = b) : Ending.returned (.int k a) = .returned (.int k b) := by rw [h]
theorem ret_bool {a b : Bool} (h : a = b) : Ending.returned (.bool a) = .returned (.bool b) := by rw [h]
theorem below_a1 (w : World) (o : Obj) : Below w.heap.size w (w.alloc o) := (Below.refl _ _).alloc (Nat.le_refl _) o
theorem keeps {W w1 : World} (hb : Below W.heap.size W w1) : ∀ b o, b < W.heap.size → w1.cell? ⟨b, o, none⟩ = W.cell? ⟨b, o, none⟩ := fun b o h => hb.cell (p := ⟨b, o, none⟩) h
theorem later {w0 w1 : World} {a : Addr} {u : Value} (h : Below w0.heap.size w0 w1) (c : w0.cell? a = some u) : w1.cell? a = some u := (h.cell (p := a) (World.block_lt_of_cell? w0 _ c)).trans c
end Go.Proofs.YtdlcldaogcbnlaaDoor
namespace Go.Proofs.YtdlcldaogcbnlaaDoor
open Go.RowKit
set_option linter.unusedVariables false
def inB (n lo hi : Int) : Bool := decide (lo ≤ n) && decide (n ≤ hi)
theorem inB_yes {n lo hi : Int} : inB n lo hi = true ↔ lo ≤ n ∧ n ≤ hi := by simp [inB]
theorem inB_no {n lo hi : Int} : inB n lo hi = false ↔ n < lo ∨ hi < n := by simp [inB]; omega
theorem inside_any (n lo hi : Int) (w : World) :
    Calls Tryd.prog 47 #[.int .i64 n, .int .i64 lo, .int .i64 hi] w fun e w' => e = .returned (.bool (inB n lo hi)) ∧ w = w' := by
  by_cases h1 : lo ≤ n
  · by_cases h2 : n ≤ hi
    · go_enter Tryd.func47, Tryd.ntmps47
      go_wp2
      go_ret
      exact ⟨ret_bool (inB_yes.2 ⟨h1, h2⟩).symm, rfl⟩
    · go_enter Tryd.func47, Tryd.ntmps47
      go_wp2
      go_ret
      exact ⟨ret_bool (inB_no.2 (by omega)).symm, rfl⟩
  · go_enter Tryd.func47, Tryd.ntmps47
    go_wp2
    go_ret
    exact ⟨ret_bool (inB_no.2 (by omega)).symm, rfl⟩
theorem l1In_any (n lo hi : Int) (w : World) :
    Calls Tryd.prog 67 #[.int .i64 n, .int .i64 lo, .int .i64 hi] w fun e w' => e = .returned (.bool (inB n lo hi)) ∧ w = w' := by
  by_cases h1 : lo ≤ n
  · by_cases h2 : n ≤ hi
    · go_enter Tryd.func67, Tryd.ntmps67
      go_wp2
      go_ret
      exact ⟨ret_bool (inB_yes.2 ⟨h1, h2⟩).symm, rfl⟩
    · go_enter Tryd.func67, Tryd.ntmps67
      go_wp2
      go_ret
      exact ⟨ret_bool (inB_no.2 (by omega)).symm, rfl⟩
  · go_enter Tryd.func67, Tryd.ntmps67
    go_wp2
    go_ret
    exact ⟨ret_bool (inB_no.2 (by omega)).symm, rfl⟩
end Go.Proofs.YtdlcldaogcbnlaaDoor
namespace Go.Proofs.YtdlcldaogcbnlaaDoor
open Go.RowKit
set_option linter.unusedVariables false
theorem flat_get {α β : Type} (f : α → List β) (k : Nat) (hk : 0 < k) (hf : ∀ a, (f a).length = k) : ∀ (l : List α) (j : Nat), (l.flatMap f)[j]? = (l[j / k]?).bind (fun a => (f a)[j % k]?)
  | [], j => by simp
  | a :: l, j => by
    rw [List.flatMap_cons]
    by_cases hj : j < k
    · rw [List.getElem?_append_left (by rw [hf]; exact hj), Nat.div_eq_of_lt hj, Nat.mod_eq_of_lt hj]; rfl
    · rw [List.getElem?_append_right (by rw [hf]; omega), hf, flat_get f k hk hf l (j - k)]
      obtain ⟨m, rfl⟩ : ∃ m, j = m + k := ⟨j - k, by omega⟩
      rw [Nat.add_sub_cancel, Nat.add_div_right _ hk, Nat.add_mod_right]; rfl
theorem flat_len {α β : Type} (f : α → List β) (k : Nat) (hf : ∀ a, (f a).length = k) : ∀ l : List α, (l.flatMap f).length = l.length * k
  | [] => by simp
  | a :: l => by rw [List.flatMap_cons, List.length_append, hf, flat_len f k hf l, List.length_cons, Nat.succ_mul, Nat.add_comm]
theorem flat_at {α β : Type} (f : α → List β) (k : Nat) (hf : ∀ a, (f a).length = k) (l : List α) (i r : Nat) (hr : r < k) : (l.flatMap f)[i * k + r]? = (l[i]?).bind (fun a => (f a)[r]?) := by
  rw [flat_get f k (by omega) hf]
  have h1 : (i * k + r) / k = i := by rw [Nat.mul_comm, Nat.mul_add_div (by omega), Nat.div_eq_of_lt hr]; omega
  have h2 : (i * k + r) % k = r := by rw [Nat.mul_comm, Nat.mul_add_mod, Nat.mod_eq_of_lt hr]
  rw [h1, h2]
structure Pp where
  id : Int
  fr : Int
  to : Int
  sz : Int
deriving DecidableEq
def Pp.vals (p : Pp) : List Value := [.int .i64 p.id, .int .i64 p.fr, .int .i64 p.to, .int .i64 p.sz]
def Pp.val (p : Pp) : Value := .agg #[.int .i64 p.id, .int .i64 p.fr, .int .i64 p.to, .int .i64 p.sz]
structure Vv where
  id : Int
  pipe : Int
  node : Int
  shut : Bool
deriving DecidableEq
def Vv.vals (v : Vv) : List Value := [.int .i64 v.id, .int .i64 v.pipe, .int .i64 v.node, .bool v.shut]
def Vv.val (v : Vv) : Value := .agg #[.int .i64 v.id, .int .i64 v.pipe, .int .i64 v.node, .bool v.shut]
def wf64 (n : Int) : Prop := (Lit.int .i64 n).wf = true
def Pp.wf (p : Pp) : Prop := wf64 p.id ∧ wf64 p.fr ∧ wf64 p.to ∧ wf64 p.sz
def Vv.wf (v : Vv) : Prop := wf64 v.id ∧ wf64 v.pipe ∧ wf64 v.node
def pipesV (ps : List Pp) : List Value := ps.flatMap Pp.vals
def intsV (zs : List Int) : List Value := zs.map (Value.int .i64)
def strsV (ss : List ByteArray) : List Value := ss.map Value.string
def Rd (w : World) (size : Nat) (A : Option Addr) (n : Nat) (xs : List Value) : Prop :=
  xs.length = n * size ∧ (0 < n → ∃ b off, A = some ⟨b, off, none⟩ ∧ b < w.heap.size ∧ ∀ j u, xs[j]? = some u → w.cell? ⟨b, off + j, none⟩ = some u)
section
variable {w w' : World} {size n : Nat} {A : Option Addr} {xs : List Value}
theorem Rd.nil : Rd w size A 0 [] := ⟨by simp, fun h => absurd h (by omega)⟩
theorem Rd.below (h : Rd w size A n xs) {B : Nat} (hb : Below B w w') (hB : w.heap.size ≤ B) : Rd w' size A n xs :=
  ⟨h.1, fun hn => by
    obtain ⟨b, off, e, hb1, hc⟩ := h.2 hn
    exact ⟨b, off, e, Nat.lt_of_lt_of_le hb1 hb.size, fun j u hu => (hb.cell (p := ⟨b, off + j, none⟩) (by show b < B; omega)).trans (hc j u hu)⟩⟩
theorem Rd.kept (h : Rd w size A n xs) (hb : Below w.heap.size w w') : Rd w' size A n xs := h.below hb (Nat.le_refl _)
theorem Rd.drewN (h : Rd w size A n xs) (k : Nat) : Rd (w.drewN k) size A n xs := h
theorem Rd.at1 (h : Rd w 1 A n xs) {k : Nat} (hk : k < n) : ∃ b off u, A = some ⟨b, off, none⟩ ∧ b < w.heap.size ∧ xs[k]? = some u ∧ w.cell? ⟨b, off + k, none⟩ = some u := by
  obtain ⟨b, off, e, hb, hc⟩ := h.2 (by omega)
  have hl : k < xs.length := by have := h.1; omega
  exact ⟨b, off, xs[k], e, hb, List.getElem?_eq_getElem hl, hc k _ (List.getElem?_eq_getElem hl)⟩
end
end Go.Proofs.YtdlcldaogcbnlaaDoor
namespace Go.Proofs.YtdlcldaogcbnlaaDoor
open Go.RowKit
set_option linter.unusedVariables false
theorem own_rd {w : World} {base : Nat} {e : TypeId} {size : Nat} {A : Option Addr} {n c : Nat} {xs : List Value} (h : w.ownsRow base e size (.slice A n c) n xs) : Rd w size A n xs := by
  obtain ⟨hl, h2⟩ := h
  refine ⟨hl, fun hn => ?_⟩
  rcases h2 with ⟨_, h0⟩ | ⟨g, cap, cur, hv, hb, hh, hnc, hm, hs, ht⟩
  · omega
  · simp only [Value.slice.injEq] at hv
    obtain ⟨rfl, _, rfl⟩ := hv
    refine ⟨g, 0, rfl, ?_, fun j u hu => ?_⟩
    · rcases Nat.lt_or_ge g w.heap.size with hlt | hge
      · exact hlt
      · rw [Array.getElem?_eq_none hge] at hh; cases hh
    · rw [← ht, List.getElem?_take] at hu
      split at hu
      · simp only [World.cell?, hh]; simpa using hu
      · cases hu
theorem own_len {w : World} {base : Nat} {e : TypeId} {A : Option Addr} {n c : Nat} {xs : List Value} (h : w.ownsRow base e 1 (.slice A n c) n xs) : xs.length = n := by have := h.1; omega
theorem own_form {w : World} {base : Nat} {e : TypeId} {size n : Nat} {v : Value} {xs : List Value} (h : w.ownsRow base e size v n xs) : ∃ A c, v = .slice A n c := by
  rcases h.2 with ⟨rfl, rfl⟩ | ⟨g, cap, cur, rfl, _⟩
  · exact ⟨_, _, rfl⟩
  · exact ⟨_, _, rfl⟩
theorem own_kept {w w' : World} {base : Nat} {e : TypeId} {size n : Nat} {v : Value} {xs : List Value} (h : w.ownsRow base e size v n xs) (hb : Below w.heap.size w w') : w'.ownsRow base e size v n xs := by
  obtain ⟨hl, h2⟩ := h
  refine ⟨hl, ?_⟩
  rcases h2 with h0 | ⟨g, cap, cur, hv, hg, hh, r⟩
  · exact .inl h0
  · have hlt : g < w.heap.size := by
      rcases Nat.lt_or_ge g w.heap.size with hlt | hge
      · exact hlt
      · rw [Array.getElem?_eq_none hge] at hh; cases hh
    exact .inr ⟨g, cap, cur, hv, hg, (hb.block g hlt).trans hh, r⟩
theorem own_base {w : World} {base base' : Nat} {e : TypeId} {size n : Nat} {v : Value} {xs : List Value} (h : w.ownsRow base e size v n xs) (hb : base' ≤ base) : w.ownsRow base' e size v n xs := by
  obtain ⟨hl, h2⟩ := h
  refine ⟨hl, ?_⟩
  rcases h2 with h0 | ⟨g, cap, cur, hv, hg, r⟩
  · exact .inl h0
  · exact .inr ⟨g, cap, cur, hv, by omega, r⟩
theorem ints_at {zs : List Int} {k : Nat} {u : Value} (h : (intsV zs)[k]? = some u) : ∃ z, zs[k]? = some z ∧ u = .int .i64 z := by
  unfold intsV at h
  rw [List.getElem?_map] at h
  obtain ⟨z, hz, rfl⟩ := Option.map_eq_some_iff.1 h
  exact ⟨z, hz, rfl⟩
theorem ints_len (zs : List Int) : (intsV zs).length = zs.length := by simp [intsV]
theorem own_grown {w w' : World} {base : Nat} {e : TypeId} {size n : Nat} {v : Value} {xs : List Value} {row : Option Nat} (h : w.ownsRow base e size v n xs) (hg : w.grownBy w' row) (hne : ∀ j, v.ownBlock = some j → row = some j → False) : w'.ownsRow base e size v n xs :=
  World.ownsRow.kept h hg (by
    rcases hv : v.ownBlock with _ | j
    · exact .inl rfl
    · exact .inr (fun e => hne j hv e.symm))
end Go.Proofs.YtdlcldaogcbnlaaDoor
namespace Go.Proofs.YtdlcldaogcbnlaaDoor
open Go.RowKit
set_option linter.unusedVariables false
end Go.Proofs.YtdlcldaogcbnlaaDoor
namespace Go.Proofs.YtdlcldaogcbnlaaDoor
open Go.RowKit
set_option linter.unusedVariables false
theorem pipeInfo : (Tryd.prog.info? 38).map (fun i => (i.zero, i.size, i.bytes)) = some (some (.agg #[.int .i64 0, .int .i64 0, .int .i64 0, .int .i64 0]), 4, 32) := by kernel_rfl
theorem pipesV_len (ps : List Pp) : (pipesV ps).length = ps.length * 4 := flat_len Pp.vals 4 (fun _ => rfl) ps
theorem pipesV_at (ps : List Pp) (i r : Nat) (hr : r < 4) : (pipesV ps)[i * 4 + r]? = (ps[i]?).bind (fun a => a.vals[r]?) := flat_at Pp.vals 4 (fun _ => rfl) ps i r hr
theorem Rd.atPipe {w : World} {A : Option Addr} {n : Nat} {ps : List Pp} (h : Rd w 4 A n (pipesV ps)) {k : Nat} (hk : k < n) :
    ∃ b off x, A = some ⟨b, off, none⟩ ∧ b < w.heap.size ∧ ps[k]? = some x ∧ w.cell? ⟨b, off + k * 4, none⟩ = some (.int .i64 x.id) ∧ w.cell? ⟨b, off + k * 4 + 1, none⟩ = some (.int .i64 x.fr) ∧ w.cell? ⟨b, off + k * 4 + 2, none⟩ = some (.int .i64 x.to) ∧ w.cell? ⟨b, off + k * 4 + 3, none⟩ = some (.int .i64 x.sz) := by
  have hl : k < ps.length := by have := h.1; rw [pipesV_len] at this; omega
  obtain ⟨b, off, e, hb, hc⟩ := h.2 (by omega)
  have hx : ps[k]? = some ps[k] := List.getElem?_eq_getElem hl
  refine ⟨b, off, ps[k], e, hb, hx, ?_, ?_, ?_, ?_⟩
  · exact hc (k * 4) _ (by have := pipesV_at ps k 0 (by omega); rw [hx] at this; exact this)
  · exact hc (k * 4 + 1) _ (by rw [pipesV_at ps k 1 (by omega), hx]; rfl)
  · exact hc (k * 4 + 2) _ (by rw [pipesV_at ps k 2 (by omega), hx]; rfl)
  · exact hc (k * 4 + 3) _ (by rw [pipesV_at ps k 3 (by omega), hx]; rfl)
end Go.Proofs.YtdlcldaogcbnlaaDoor
namespace Go.Proofs.YtdlcldaogcbnlaaDoor
open Go.RowKit
set_option linter.unusedVariables false
theorem get_of {α : Type} {zs : List α} {k : Nat} (h : k < zs.length) : ∃ x, zs[k]? = some x := ⟨_, List.getElem?_eq_getElem h⟩
def SG (W : World) (row : Option Nat) (w : World) : Prop := W.grownBy w row
theorem SG.cell {W w : World} {row : Option Nat} (h : SG W row w) {a : Addr} {v : Value} (hc : W.cell? a = some v) (hne : some a.block ≠ row) : w.cell? a = some v := World.grownBy.cell h hc hne
theorem SG.belowR {W w w0 : World} {row : Option Nat} (c : Below w0.heap.size w0 W) (h : SG W row w) (hr : ∀ k, row = some k → w0.heap.size ≤ k) : Below w0.heap.size w0 w :=
  ⟨h.os.trans c.os, h.tape.trans c.tape, h.output.trans c.output, Nat.le_trans c.size h.size, fun k hk => (h.block k (Nat.lt_of_lt_of_le hk c.size) (fun e => by have := hr k e.symm; omega)).trans (c.block k hk)⟩
theorem own_heap {w w' : World} {base : Nat} {e : TypeId} {size n : Nat} {v : Value} {xs : List Value} (h : w.ownsRow base e size v n xs) (e' : w'.heap = w.heap) : w'.ownsRow base e size v n xs := by
  unfold World.ownsRow at h ⊢; rw [e']; exact h
theorem SG.self (W : World) (row : Option Nat) : SG W row W := World.grownBy.refl _ _
theorem SG.below {W w : World} (h : SG W none w) : Below W.heap.size W w := (Below.refl _ _).grown h (Nat.le_refl _) (by simp)
theorem SG.of_below {W w w' : World} {row : Option Nat} (h : SG W row w) (b : Below w.heap.size w w') : SG W row w' :=
  ⟨b.os.trans h.os, b.tape.trans h.tape, b.output.trans h.output, Nat.le_trans h.size b.size, fun k hk hn => (b.block k (Nat.lt_of_lt_of_le hk h.size)).trans (h.block k hk hn)⟩
theorem SG.of_grown {W w w' : World} {row : Option Nat} (h : SG W row w) {r : Option Nat} (b : w.grownBy w' r) (hr : r = row ∨ ∀ k, r = some k → W.heap.size ≤ k) : SG W row w' :=
  ⟨b.os.trans h.os, b.tape.trans h.tape, b.output.trans h.output, Nat.le_trans h.size b.size, fun k hk hn => (b.block k (Nat.lt_of_lt_of_le hk h.size) (fun e => by
    rcases hr with hr | hr
    · exact hn (e.trans hr)
    · have := hr k e.symm; omega)).trans (h.block k hk hn)⟩
section
variable {P : Program} {ops : Array Oper} {Q : Exit → Act → World → Prop} {S : World → Prop}
inductive Sch where
  | nil
  | cons (x : Nat × Bool) (s : Sch)
  | br (i j : Nat) (s t : Sch)
  | br3 (i j k : Nat) (s t u : Sch)
def Sch.app : List (Nat × Bool) → Sch → Sch
  | [], s => s
  | x :: l, s => .cons x (Sch.app l s)
def Sch.of (l : List (Nat × Bool)) : Sch := Sch.app l .nil
def schOk (md : Region.Mode) (ops : Array Oper) : Nat → Sch → Array Bool → Bool
  | _, .nil, listed => (Region.ready md ops listed).isEmpty
  | fuel + 1, .cons (i, false) π, listed => (Region.ready md ops listed).contains i && (Region.free md ops listed i && schOk md ops fuel π (listed.setIfInBounds i true))
  | fuel + 1, .cons (i, true) π, listed => (Region.ready md ops listed == [i]) && schOk md ops fuel π (listed.setIfInBounds i true)
  | fuel + 1, .br i j s t, listed => (Region.ready md ops listed == [i, j]) && (schOk md ops fuel s (listed.setIfInBounds i true) && schOk md ops fuel t (listed.setIfInBounds j true))
  | fuel + 1, .br3 i j k s t u, listed => (Region.ready md ops listed == [i, j, k]) && (schOk md ops fuel s (listed.setIfInBounds i true) && (schOk md ops fuel t (listed.setIfInBounds j true) && schOk md ops fuel u (listed.setIfInBounds k true)))
  | 0, _, _ => false
def wpSch (P : Program) (ops : Array Oper) (Q : Exit → Act → World → Prop) (S : World → Prop) : Sch → Act → World → Prop
  | .nil, a, w => Q .normal a w
  | .cons (i, false) π, a, w => ∃ o v, ops[i]? = some o ∧ YieldsIf P ops S o v a ∧ wpSch P ops Q S π (a.put o.dst v) w
  | .cons (i, true) π, a, w => wpOp P ops Q i (fun a' w' => S w' ∧ wpSch P ops Q S π a' w') a w
  | .br i j s t, a, w => wpOp P ops Q i (fun a' w' => S w' ∧ wpSch P ops Q S s a' w') a w ∧ wpOp P ops Q j (fun a' w' => S w' ∧ wpSch P ops Q S t a' w') a w
  | .br3 i j k s t u, a, w => wpOp P ops Q i (fun a' w' => S w' ∧ wpSch P ops Q S s a' w') a w ∧ wpOp P ops Q j (fun a' w' => S w' ∧ wpSch P ops Q S t a' w') a w ∧ wpOp P ops Q k (fun a' w' => S w' ∧ wpSch P ops Q S u a' w') a w
theorem sbr3 {i j k : Nat} {s t u : Sch} {a : Act} {w : World} (h1 : wpSch P ops Q S (.cons (i, true) s) a w) (h2 : wpSch P ops Q S (.cons (j, true) t) a w) (h3 : wpSch P ops Q S (.cons (k, true) u) a w) : wpSch P ops Q S (.br3 i j k s t u) a w := ⟨h1, h2, h3⟩
theorem sbr {i j : Nat} {s t : Sch} {a : Act} {w : World} (h1 : wpSch P ops Q S (.cons (i, true) s) a w) (h2 : wpSch P ops Q S (.cons (j, true) t) a w) : wpSch P ops Q S (.br i j s t) a w := ⟨h1, h2⟩
theorem anyH_of_sch (hs : Region.noSelect ops = true) (hQ : ∀ c d v a w, Q (.panic c) (Act.put a d v) w → Q (.panic c) a w) :
    ∀ (fuel : Nat) (π : Sch) (listed : Array Bool) (a : Act) (w : World), schOk .any ops fuel π listed = true → S w → wpSch P ops Q S π a w → wpAnyH P .any ops Q S fuel listed a w
  | fuel, .nil, listed, a, w, hk, _, h => wpAnyH_done (by cases fuel <;> simpa [schOk] using hk) h fuel
  | fuel + 1, .cons (i, false) π, listed, a, w, hk, hS, h => by
    obtain ⟨o, v, ho, hy, h⟩ := h
    simp only [schOk, Bool.and_eq_true] at hk
    exact wpAnyH_take ho hs hk.2.1 hk.1 (fun c a w => hQ c _ _ a w) hy hS (anyH_of_sch hs hQ fuel π _ _ w hk.2.2 hS h)
  | fuel + 1, .cons (i, true) π, listed, a, w, hk, hS, h => by
    simp only [schOk, Bool.and_eq_true, beq_iff_eq] at hk
    refine wpAnyH_all hk.1 (by simp) (fun j hj => ?_)
    obtain rfl : j = i := by simpa using hj
    exact wpOp_mono (fun a' w' h' => ⟨h'.1, anyH_of_sch hs hQ fuel π _ a' w' hk.2 h'.1 h'.2⟩) h
  | fuel + 1, .br i j s t, listed, a, w, hk, hS, h => by
    simp only [schOk, Bool.and_eq_true, beq_iff_eq] at hk
    refine wpAnyH_all hk.1 (by simp) (fun m hm => ?_)
    simp only [List.mem_cons, List.not_mem_nil, or_false] at hm
    rcases hm with rfl | rfl
    · exact wpOp_mono (fun a' w' h' => ⟨h'.1, anyH_of_sch hs hQ fuel s _ a' w' hk.2.1 h'.1 h'.2⟩) h.1
    · exact wpOp_mono (fun a' w' h' => ⟨h'.1, anyH_of_sch hs hQ fuel t _ a' w' hk.2.2 h'.1 h'.2⟩) h.2
  | fuel + 1, .br3 i j k s t u, listed, a, w, hk, hS, h => by
    simp only [schOk, Bool.and_eq_true, beq_iff_eq] at hk
    refine wpAnyH_all hk.1 (by simp) (fun m hm => ?_)
    simp only [List.mem_cons, List.not_mem_nil, or_false] at hm
    rcases hm with rfl | rfl | rfl
    · exact wpOp_mono (fun a' w' h' => ⟨h'.1, anyH_of_sch hs hQ fuel s _ a' w' hk.2.1 h'.1 h'.2⟩) h.1
    · exact wpOp_mono (fun a' w' h' => ⟨h'.1, anyH_of_sch hs hQ fuel t _ a' w' hk.2.2.1 h'.1 h'.2⟩) h.2.1
    · exact wpOp_mono (fun a' w' h' => ⟨h'.1, anyH_of_sch hs hQ fuel u _ a' w' hk.2.2.2 h'.1 h'.2⟩) h.2.2
  | 0, .cons (i, false) π, listed, a, w, hk, _, _ => by simp [schOk] at hk
  | 0, .cons (i, true) π, listed, a, w, hk, _, _ => by simp [schOk] at hk
  | 0, .br i j s t, listed, a, w, hk, _, _ => by simp [schOk] at hk
  | 0, .br3 i j k s t u, listed, a, w, hk, _, _ => by simp [schOk] at hk
theorem region_sch {W : World} {row : Option Nat} {id : Nat} {a : Act} (π : Sch) (hm : P.follows .mixedOrders = true) (hs : Region.noSelect ops = true) (hQ : ∀ c d v a w, Q (.panic c) (Act.put a d v) w → Q (.panic c) a w)
    (hok : schOk .any ops ops.size π (Array.replicate ops.size false) = true) (h : ∀ w, w.heap = W.heap → SG W row w → wpSch P ops Q (SG W row) π a w) : (Code.region id ops true).wp P Q a W := by
  have hS : SG W row { W with drawn := W.drawn + 1 } := ⟨rfl, rfl, rfl, Nat.le_refl _, fun _ _ _ => rfl⟩
  exact wp_region_held hm (anyH_of_sch hs hQ _ π _ a _ hok hS (h _ rfl hS))
theorem ops_of_sch : ∀ (π : List (Nat × Bool)) (a : Act) (w : World), S w → wpSch P ops Q S (Sch.of π) a w → wpOps P ops Q (π.map (·.1)) a w
  | [], a, w, _, h => h
  | (i, false) :: π, a, w, hS, h => by
    obtain ⟨o, v, ho, hy, h⟩ := h
    rw [List.map_cons, wpOps_cons]
    exact hy.wpOp ho hS (ops_of_sch π _ _ hS h)
  | (i, true) :: π, a, w, hS, h => by
    rw [List.map_cons, wpOps_cons]
    exact wpOp_mono (fun a' w' h' => ops_of_sch π a' w' h'.1 h'.2) h
theorem region_plain {W : World} {row : Option Nat} {id : Nat} {a : Act} (π : List (Nat × Bool)) (hn : π.map (·.1) = List.range ops.size) (h : wpSch P ops Q (SG W row) (Sch.of π) a W) : (Code.region id ops false).wp P Q a W := by
  have := ops_of_sch π a W (SG.self W row) h
  rw [hn] at this
  exact wp_region this
theorem region_quiet {W : World} {id : Nat} {a : Act} (π : List (Nat × Bool)) (hn : π.map (·.1) = List.range ops.size) (h : wpSch P ops Q (fun w => w = W) (Sch.of π) a W) : (Code.region id ops false).wp P Q a W := by
  have := ops_of_sch (S := fun w => w = W) π a W rfl h
  rw [hn] at this
  exact wp_region this
theorem eqS {W : World} {p : Addr} {v : Value} (h : W.cell? p = some v) : ∀ w, w = W → w.cell? p = some v := fun w e => e ▸ h
theorem sgS {W : World} {row : Option Nat} {p : Addr} {v : Value} (h : W.cell? p = some v) (hne : some p.block ≠ row) : ∀ w, SG W row w → w.cell? p = some v := fun w e => SG.cell e h hne
theorem SG.blk {W w : World} {row : Option Nat} (h : SG W row w) {b : Nat} {o : Obj} (hc : W.heap[b]? = some o) (hne : some b ≠ row) : w.heap[b]? = some o := by
  have hlt : b < W.heap.size := by
    rcases Nat.lt_or_ge b W.heap.size with h | h
    · exact h
    · rw [Array.getElem?_eq_none h] at hc; cases hc
  exact (h.block b hlt hne).trans hc
theorem blk_lt {W : World} {b : Nat} {o : Obj} (hc : W.heap[b]? = some o) : b < W.heap.size := by
  rcases Nat.lt_or_ge b W.heap.size with h | h
  · exact h
  · rw [Array.getElem?_eq_none h] at hc; cases hc
theorem blk_cell {W : World} {b j : Nat} {cs : Array Value} {t : TypeId} {v : Value} (h : W.heap[b]? = some (.cells cs t (0, 0))) (hv : cs[j]? = some v) : W.cell? ⟨b, j, none⟩ = some v := by
  rw [cell_of_row W b j cs t (0, 0) h]; exact hv
theorem sch_end {a : Act} {w : World} (h : Q .normal a w) : wpSch P ops Q S .nil a w := h
theorem sq {i : Nat} {π : Sch} {l l' : List Value} {w : World} {o : Oper} {v : Value} {d : Tmp} (hi : ops[i]? = some o) (hr : ∀ w, S w → (execOp (Act.mk l.toArray []).eval o).run P w = .ok (.value v) w)
    (hw : Region.wanted o (yielded ops l.toArray) = true) (hd : o.dst = some d) (hl : l.set d v = l') (h : wpSch P ops Q S π ⟨l'.toArray, []⟩ w) : wpSch P ops Q S (.cons (i, false) π) ⟨l.toArray, []⟩ w := by
  subst hl
  refine ⟨o, v, hi, .inl ⟨hw, hr⟩, ?_⟩
  rw [hd]
  simpa [Act.put] using h
theorem sk {i : Nat} {b : Bool} {π : Sch} {l l' : List Value} {w : World} {o : Oper} {d : Tmp} (hS : S w) (hi : ops[i]? = some o)
    (hw : Region.wanted o (yielded ops l.toArray) = false) (hd : o.dst = some d) (hl : l.set d undef = l') (h : wpSch P ops Q S π ⟨l'.toArray, []⟩ w) : wpSch P ops Q S (.cons (i, b) π) ⟨l.toArray, []⟩ w := by
  subst hl
  have h' : wpSch P ops Q S π ((⟨l.toArray, []⟩ : Act).put o.dst undef) w := by rw [hd]; simpa [Act.put] using h
  cases b
  · exact ⟨o, undef, hi, .inr ⟨hw, rfl⟩, h'⟩
  · show wpOp P ops Q i _ _ w
    unfold wpOp
    simp only [hi, hw]
    exact ⟨hS, h'⟩
def enters (P : Program) (f : FuncId) : Bool := match P.funcs[f]? with | some fn => !(fn.name == "runtime.NumGoroutine") && !fn.body.isNone | none => false
theorem run_enter {o : Oper} {a : Act} {f : FuncId} {asx : Array Operand} {ts : Array TypeId} {vs : List Value} (ho : o.op = .call { callee := .value (.func f), args := asx, argTypes := ts }) (hv : asx.toList.map a.eval = vs) (he : enters P f = true) (w : World) :
    (execOp a.eval o).run P w = .ok (.enter f vs.toArray) w := by
  unfold enters at he
  split at he
  · rename_i fn hf
    simp only [Bool.and_eq_true, Bool.not_eq_true'] at he
    have h1 : ¬ fn.name = "runtime.NumGoroutine" := by simpa using he.1
    have h2 : ¬ fn.body = none := fun e => by rw [e] at he; simp at he
    have hev : a.eval (.func f) = .func (.func f) #[] #[] := rfl
    have hv' : asx.map a.eval = vs.toArray := Array.toList_inj.1 (by rw [Array.toList_map]; exact hv)
    simp [execOp, ho, resolve, hv', hev, Deferred.ofValue, invoke, callFunc, hf, h1, h2]
  · cases he
theorem sc {i : Nat} {π : Sch} {l : List Value} {w : World} {o : Oper} {d : Tmp} {f : FuncId} {asx : Array Operand} {ts : Array TypeId} {vs : List Value} {R : Ending → World → Prop} (hi : ops[i]? = some o)
    (ho : o.op = .call { callee := .value (.func f), args := asx, argTypes := ts }) (hv : asx.toList.map (Act.mk l.toArray []).eval = vs) (he : enters P f = true)
    (hw : Region.wanted o (yielded ops l.toArray) = true) (hd : o.dst = some d) (hc : Calls P f vs.toArray w R)
    (h : ∀ e w', R e w' → ∃ v, e = .returned v ∧ S w' ∧ wpSch P ops Q S π ⟨(l.set d v).toArray, []⟩ w') : wpSch P ops Q S (.cons (i, true) π) ⟨l.toArray, []⟩ w := by
  show wpOp P ops Q i _ _ w
  unfold wpOp
  simp only [hi, hw, if_true]
  left
  unfold Oper.wp
  rw [run_enter ho hv he, Oper.upon_enter]
  refine hc.mono (fun e w' hR => ?_)
  obtain ⟨v, rfl, h1, h2⟩ := h e w' hR
  refine ⟨h1, ?_⟩
  rw [hd]; simpa [Act.put] using h2
end
section
variable {P : Program} {S : World → Prop} {o : Oper} {a : Act}
theorem r_move {x : Operand} {v : Value} (ho : o.op = .move x) (hx : a.eval x = v) : ∀ w, S w → (execOp a.eval o).run P w = .ok (.value v) w := fun w _ => by subst hx; simp [execOp, ho]
theorem r_assign {x : Operand} {v : Value} (ho : o.op = .assign x) (hx : a.eval x = v) : ∀ w, S w → (execOp a.eval o).run P w = .ok (.value v) w := fun w _ => by subst hx; simp [execOp, ho]
def fldOff (P : Program) (s : TypeId) (f : Nat) : Option Nat := match P.underlying s with
  | some (.struct fs) => match fs[f]? with
    | some fd => match P.info? fd.type with
      | some i => if i.size = 0 then none else some fd.offset
      | none => none
    | none => none
  | _ => none
theorem r_field {s : TypeId} {x : Operand} {f b off k : Nat} (ho : o.op = .fieldAddr s x f) (hx : a.eval x = .pointer (some ⟨b, off, none⟩)) (hf : fldOff P s f = some k) :
    ∀ w, S w → (execOp a.eval o).run P w = .ok (.value (.pointer (some ⟨b, off + k, none⟩))) w := fun w _ => by
  unfold fldOff at hf
  split at hf <;> try cases hf
  rename_i fs hu
  split at hf <;> try cases hf
  rename_i fd hfd
  split at hf <;> try cases hf
  rename_i i hi
  split at hf <;> try cases hf
  rename_i hsz
  simp [execOp, ho, hx, Instr.fieldAt, underlying, hu, hfd, Instr.sureAddr, fieldPlace, sizeOf, typeInfo, hi, hsz, Addr.add_lit]
theorem r_field0 {s : TypeId} {x : Operand} {f b off : Nat} (ho : o.op = .fieldAddr s x f) (hx : a.eval x = .pointer (some ⟨b, off, none⟩)) (hf : fldOff P s f = some 0) :
    ∀ w, S w → (execOp a.eval o).run P w = .ok (.value (.pointer (some ⟨b, off, none⟩))) w := r_field (S := S) ho hx hf
def aggB (P : Program) (t : TypeId) : Option Bool := match P.underlying t with
  | some (.struct _) => some true
  | some (.array _ _) => some true
  | some _ => some false
  | none => none
theorem run_isAgg {t : TypeId} {b : Bool} (h : aggB P t = some b) (w : World) : (isAgg t).run P w = .ok b w := by
  unfold aggB at h
  split at h <;> simp_all [isAgg, underlying]
theorem r_load {t : TypeId} {x : Operand} {p : Addr} {v : Value} (ho : o.op = .load t x) (hx : a.eval x = .pointer (some p)) (ht : aggB P t = some false) (hc : ∀ w, S w → w.cell? p = some v) :
    ∀ w, S w → (execOp a.eval o).run P w = .ok (.value v) w := fun w hS => by
  have h := hc w hS
  simp [execOp, ho, hx, Instr.loadAt, Instr.sureAddr, loadVar, run_isAgg ht, h]
def sizeB (P : Program) (t : TypeId) : Option Nat := (P.info? t).map (·.size)
theorem run_sizeOf {t : TypeId} {n : Nat} (h : sizeB P t = some n) (w : World) : (sizeOf t).run P w = .ok n w := by
  unfold sizeB at h
  obtain ⟨i, hi, rfl⟩ := Option.map_eq_some_iff.1 h
  simp [sizeOf, typeInfo, hi]
theorem r_loadA {t : TypeId} {x : Operand} {b off : Nat} {cs : List Value} (ho : o.op = .load t x) (hx : a.eval x = .pointer (some ⟨b, off, none⟩)) (ht : aggB P t = some true) (hs : sizeB P t = some cs.length)
    (hc : ∀ w, S w → ∀ j v, cs[j]? = some v → w.cell? ⟨b, off + j, none⟩ = some v) :
    ∀ w, S w → (execOp a.eval o).run P w = .ok (.value (.agg cs.toArray)) w := fun w hS => by
  have h := run_loadCells_list (P := P) (w := w) ⟨b, off, none⟩ cs (fun j v hv => by rw [Addr.add_lit]; exact hc w hS j v hv)
  simp [execOp, ho, hx, Instr.loadAt, Instr.sureAddr, loadVar, run_isAgg ht, run_sizeOf hs, h]
theorem r_load2 {t : TypeId} {x : Operand} {b off : Nat} {u0 u1 : Value} (ho : o.op = .load t x) (hx : a.eval x = .pointer (some ⟨b, off, none⟩)) (ht : aggB P t = some true) (hs : sizeB P t = some 2)
    (h0 : ∀ w, S w → w.cell? ⟨b, off, none⟩ = some u0) (h1 : ∀ w, S w → w.cell? ⟨b, off + 1, none⟩ = some u1) :
    ∀ w, S w → (execOp a.eval o).run P w = .ok (.value (.agg #[u0, u1])) w :=
  r_loadA (cs := [u0, u1]) ho hx ht hs (fun w hS j v hv => by
    rcases j with _ | _ | j <;> simp at hv <;> subst hv
    · exact h0 w hS
    · exact h1 w hS)
theorem r_load4 {t : TypeId} {x : Operand} {b off : Nat} {u0 u1 u2 u3 : Value} (ho : o.op = .load t x) (hx : a.eval x = .pointer (some ⟨b, off, none⟩)) (ht : aggB P t = some true) (hs : sizeB P t = some 4)
    (h0 : ∀ w, S w → w.cell? ⟨b, off, none⟩ = some u0) (h1 : ∀ w, S w → w.cell? ⟨b, off + 1, none⟩ = some u1) (h2 : ∀ w, S w → w.cell? ⟨b, off + 2, none⟩ = some u2) (h3 : ∀ w, S w → w.cell? ⟨b, off + 3, none⟩ = some u3) :
    ∀ w, S w → (execOp a.eval o).run P w = .ok (.value (.agg #[u0, u1, u2, u3])) w :=
  r_loadA (cs := [u0, u1, u2, u3]) ho hx ht hs (fun w hS j v hv => by
    rcases j with _ | _ | _ | _ | j <;> simp at hv <;> subst hv
    · exact h0 w hS
    · exact h1 w hS
    · exact h2 w hS
    · exact h3 w hS)
def elSz (P : Program) (t : TypeId) : Option Nat := match P.underlying t with
  | some (.slice e) => sizeB P e
  | _ => none
theorem elSz_of {t : TypeId} {n : Nat} (h : elSz P t = some n) : ∃ e, P.underlying t = some (.slice e) ∧ sizeB P e = some n := by
  unfold elSz at h
  split at h
  · rename_i e he; exact ⟨e, he, h⟩
  · cases h
theorem r_idx {t : TypeId} {x i : Operand} {A : Option Addr} {b off n c k size : Nat} (ho : o.op = .indexAddr t x i) (hx : a.eval x = .slice A n c) (hA : A = some ⟨b, off, none⟩) (hi : a.eval i = .int .i64 (k : Int)) (ht : elSz P t = some size) (hk : k < n) :
    ∀ w, S w → (execOp a.eval o).run P w = .ok (.value (.pointer (some ⟨b, off + k * size, none⟩))) w := fun w _ => by
  have h0 : (0 : Int) ≤ (k : Int) ∧ (k : Int) < (n : Int) := by omega
  subst hA
  obtain ⟨e, hu, hs⟩ := elSz_of ht
  simp [execOp, ho, hx, hi, Instr.indexAt, asIntOf, underlying, hu, run_sizeOf hs, h0, Addr.add_lit]
  intro h; omega
theorem r_idx1 {t : TypeId} {x i : Operand} {A : Option Addr} {b off n c k : Nat} (ho : o.op = .indexAddr t x i) (hx : a.eval x = .slice A n c) (hA : A = some ⟨b, off, none⟩) (hi : a.eval i = .int .i64 (k : Int)) (ht : elSz P t = some 1) (hk : k < n) :
    ∀ w, S w → (execOp a.eval o).run P w = .ok (.value (.pointer (some ⟨b, off + k, none⟩))) w := by
  have := r_idx (S := S) ho hx hA hi ht hk
  rwa [Nat.mul_one] at this
theorem r_add {t u : TypeId} {x y : Operand} {m n z : Int} (ho : o.op = .binOp .add t x y u) (hx : a.eval x = .int .i64 m) (hy : a.eval y = .int .i64 n) (hz : m + n = z) (h0 : -9223372036854775808 ≤ z ∧ z ≤ 9223372036854775807) :
    ∀ w, S w → (execOp a.eval o).run P w = .ok (.value (.int .i64 z)) w := fun w _ => by
  have hw : IntKind.i64.wrap (m + n) = z := by rw [hz]; exact IntWalk.i64_in _ (by omega)
  simp [execOp, ho, hx, hy, eqGuard, binOp, Op.intArith, hw]
theorem r_sub {t u : TypeId} {x y : Operand} {m n z : Int} (ho : o.op = .binOp .sub t x y u) (hx : a.eval x = .int .i64 m) (hy : a.eval y = .int .i64 n) (hz : m - n = z) (h0 : -9223372036854775808 ≤ z ∧ z ≤ 9223372036854775807) :
    ∀ w, S w → (execOp a.eval o).run P w = .ok (.value (.int .i64 z)) w := fun w _ => by
  have hw : IntKind.i64.wrap (m - n) = z := by rw [hz]; exact IntWalk.i64_in _ (by omega)
  simp [execOp, ho, hx, hy, eqGuard, binOp, Op.intArith, hw]
theorem r_lss {t u : TypeId} {x y : Operand} {m n : Int} {r : Bool} (ho : o.op = .binOp .lss t x y u) (hx : a.eval x = .int .i64 m) (hy : a.eval y = .int .i64 n) (hr : decide (m < n) = r) :
    ∀ w, S w → (execOp a.eval o).run P w = .ok (.value (.bool r)) w := fun w _ => by
  subst hr
  simp [execOp, ho, hx, hy, eqGuard, binOp, Op.intCmp]
theorem r_leq {t u : TypeId} {x y : Operand} {m n : Int} {r : Bool} (ho : o.op = .binOp .leq t x y u) (hx : a.eval x = .int .i64 m) (hy : a.eval y = .int .i64 n) (hr : decide (m ≤ n) = r) :
    ∀ w, S w → (execOp a.eval o).run P w = .ok (.value (.bool r)) w := fun w _ => by
  subst hr
  simp [execOp, ho, hx, hy, eqGuard, binOp, Op.intCmp]
theorem r_gtr {t u : TypeId} {x y : Operand} {m n : Int} {r : Bool} (ho : o.op = .binOp .gtr t x y u) (hx : a.eval x = .int .i64 m) (hy : a.eval y = .int .i64 n) (hr : decide (m > n) = r) :
    ∀ w, S w → (execOp a.eval o).run P w = .ok (.value (.bool r)) w := fun w _ => by
  subst hr
  simp [execOp, ho, hx, hy, eqGuard, binOp, Op.intCmp]
theorem r_geq {t u : TypeId} {x y : Operand} {m n : Int} {r : Bool} (ho : o.op = .binOp .geq t x y u) (hx : a.eval x = .int .i64 m) (hy : a.eval y = .int .i64 n) (hr : decide (m ≥ n) = r) :
    ∀ w, S w → (execOp a.eval o).run P w = .ok (.value (.bool r)) w := fun w _ => by
  subst hr
  simp [execOp, ho, hx, hy, eqGuard, binOp, Op.intCmp]
theorem r_eql {t u : TypeId} {x y : Operand} {m n : Int} {r : Bool} (ho : o.op = .binOp .eql t x y u) (hx : a.eval x = .int .i64 m) (hy : a.eval y = .int .i64 n) (hr : decide (m = n) = r) :
    ∀ w, S w → (execOp a.eval o).run P w = .ok (.value (.bool r)) w := fun w _ => by
  subst hr
  simp [execOp, ho, hx, hy, eqGuard, binOp, Op.intCmp]
  by_cases h : m = n <;> simp [h]
theorem r_neq {t u : TypeId} {x y : Operand} {m n : Int} {r : Bool} (ho : o.op = .binOp .neq t x y u) (hx : a.eval x = .int .i64 m) (hy : a.eval y = .int .i64 n) (hr : decide (m ≠ n) = r) :
    ∀ w, S w → (execOp a.eval o).run P w = .ok (.value (.bool r)) w := fun w _ => by
  subst hr
  simp [execOp, ho, hx, hy, eqGuard, binOp, Op.intCmp, bne]
  by_cases h : m = n <;> simp [h]
theorem r_not {t : TypeId} {x : Operand} {b r : Bool} (ho : o.op = .unOp .not t x) (hx : a.eval x = .bool b) (hr : (!b) = r) : ∀ w, S w → (execOp a.eval o).run P w = .ok (.value (.bool r)) w := fun w _ => by
  subst hr
  simp [execOp, ho, hx, Op.unary]
theorem r_pick {x y z : Operand} {b : Bool} {v : Value} (ho : o.op = .pick x y z) (hx : a.eval x = .bool b) (hv : (bif b then a.eval y else a.eval z) = v) : ∀ w, S w → (execOp a.eval o).run P w = .ok (.value v) w := fun w _ => by
  subst hv
  cases b <;> simp [execOp, ho, hx, asBool]
theorem r_len {x : Operand} {t : TypeId} {A : Option Addr} {n c : Nat} (ho : o.op = .call { callee := .builtin .len, args := #[x], argTypes := #[t] }) (hx : a.eval x = .slice A n c) (ht : (elSz P t).isSome = true) :
    ∀ w, S w → (execOp a.eval o).run P w = .ok (.value (.int .i64 n)) w := fun w _ => by
  obtain ⟨m, hm⟩ := Option.isSome_iff_exists.1 ht
  obtain ⟨e, hu, _⟩ := elSz_of hm
  simp [execOp, ho, hx, resolve, invoke, builtin, Builtin.len_, underlying, hu, goInt]
theorem r_extract {x : Operand} {j : Nat} {vs : Array Value} {v : Value} (ho : o.op = .extract x j) (hx : a.eval x = .tuple vs) (hv : vs[j]? = some v) : ∀ w, S w → (execOp a.eval o).run P w = .ok (.value v) w := fun w _ => by
  simp [execOp, ho, hx, Instr.extract, hv]
theorem r_eqlB {t u : TypeId} {x y : Operand} {m n : Bool} {r : Bool} (ho : o.op = .binOp .eql t x y u) (hx : a.eval x = .bool m) (hy : a.eval y = .bool n) (ht : P.underlying t = some .bool) (hr : (m == n) = r) :
    ∀ w, S w → (execOp a.eval o).run P w = .ok (.value (.bool r)) w := fun w _ => by
  subst hr
  simp [execOp, ho, hx, hy, eqGuard, binOp, run_equal_bool _ t m n ht]
end
section
variable {P : Program} {fn : Func} {R : Ending → World → Prop} {l : List Value} {w : World}
theorem ret1 {t : Tmp} {v : Value} (hf : fn.results = #[.tmp t]) (hv : l.getD t undef = v) (h : R (.returned v) w) : bodyPost P fn R .ret ⟨l.toArray, []⟩ w :=
  bodyPost_ret (v := v) (by subst hv; simp [results, hf]) rfl h
theorem ret2 {t u : Tmp} {v x : Value} (hf : fn.results = #[.tmp t, .tmp u]) (hv : l.getD t undef = v) (hx : l.getD u undef = x) (h : R (.returned (.tuple #[v, x])) w) : bodyPost P fn R .ret ⟨l.toArray, []⟩ w :=
  bodyPost_ret (v := .tuple #[v, x]) (by subst hv hx; simp [results, hf]) rfl h
end
theorem loopK {P : Program} {Q : Exit → Act → World → Prop} {a : Act} {w : World} {c : Code} (I : Nat → Act → World → Prop) (n₀ : Nat) (h₀ : I n₀ a w)
    (round : ∀ n a w (K : Act → World → Prop), (∀ n' a w, n' < n → I n' a w → K a w) → I n a w → c.wp P (Exit.then K Q) a w) : (Code.loop c).wp P Q a w :=
  wp_loop_ghost I n₀ h₀ (fun n a w h => round n a w _ (fun n' a' w' hl hi => ⟨n', hl, hi⟩) h)
end Go.Proofs.YtdlcldaogcbnlaaDoor
namespace Go.Proofs.YtdlcldaogcbnlaaDoor
open Go.RowKit
set_option linter.unusedVariables false
theorem Rd.elInt {w : World} {A : Option Addr} {n : Nat} {zs : List Int} (h : Rd w 1 A n (intsV zs)) {k : Nat} {x : Int} (hx : zs[k]? = some x) :
    ∃ b off, A = some ⟨b, off, none⟩ ∧ b < w.heap.size ∧ w.cell? ⟨b, off + k, none⟩ = some (.int .i64 x) := by
  have hk : k < n := by have h1 := (List.getElem?_eq_some_iff.1 hx).1; have h2 := h.1; rw [ints_len] at h2; omega
  obtain ⟨b, off, u, e, hb, hu, hc⟩ := h.at1 hk
  obtain ⟨z, hz, rfl⟩ := ints_at hu
  obtain rfl := Option.some.inj (hz.symm.trans hx)
  exact ⟨b, off, e, hb, hc⟩
theorem rd_ints_len {w : World} {A : Option Addr} {n : Nat} {zs : List Int} (h : Rd w 1 A n (intsV zs)) : zs.length = n := by have := h.1; rw [ints_len] at this; omega
end Go.Proofs.YtdlcldaogcbnlaaDoor
namespace Go.Proofs.YtdlcldaogcbnlaaDoor
open Go.RowKit
set_option linter.unusedVariables false
theorem Rd.elPipe {w : World} {A : Option Addr} {n : Nat} {ps : List Pp} (h : Rd w 4 A n (pipesV ps)) {k : Nat} {x : Pp} (hx : ps[k]? = some x) :
    ∃ b off, A = some ⟨b, off, none⟩ ∧ b < w.heap.size ∧ w.cell? ⟨b, off + k * 4, none⟩ = some (.int .i64 x.id) ∧ w.cell? ⟨b, off + k * 4 + 1, none⟩ = some (.int .i64 x.fr) ∧ w.cell? ⟨b, off + k * 4 + 2, none⟩ = some (.int .i64 x.to) ∧ w.cell? ⟨b, off + k * 4 + 3, none⟩ = some (.int .i64 x.sz) := by
  have hk : k < n := by have h1 := (List.getElem?_eq_some_iff.1 hx).1; have h2 := h.1; rw [pipesV_len] at h2; omega
  obtain ⟨b, off, y, e, hb, hy, r⟩ := h.atPipe hk
  obtain rfl := Option.some.inj (hy.symm.trans hx)
  exact ⟨b, off, e, hb, r⟩
theorem rd_pipes_len {w : World} {A : Option Addr} {n : Nat} {ps : List Pp} (h : Rd w 4 A n (pipesV ps)) : ps.length = n := by have := h.1; rw [pipesV_len] at this; omega
end Go.Proofs.YtdlcldaogcbnlaaDoor
namespace Go.Proofs.YtdlcldaogcbnlaaDoor
open Go.RowKit
set_option linter.unusedVariables false
section
variable {P : Program} {ops : Array Oper} {Q : Exit → Act → World → Prop} {W : World} {row : Option Nat} {S : World → Prop}
theorem sl {i : Nat} {π : Sch} {l : List Value} {w w' : World} {o : Oper} {d : Tmp} {v : Value} (hi : ops[i]? = some o) (hw : Region.wanted o (yielded ops l.toArray) = true) (hd : o.dst = some d)
    (hr : (execOp (Act.mk l.toArray []).eval o).run P w = .ok (.value v) w') (hS : S w') (h : wpSch P ops Q S π ⟨(l.set d v).toArray, []⟩ w') : wpSch P ops Q S (.cons (i, true) π) ⟨l.toArray, []⟩ w := by
  show wpOp P ops Q i _ _ w
  unfold wpOp
  simp only [hi, hw, if_true]
  left
  unfold Oper.wp
  rw [hr, Oper.upon_value]
  refine ⟨hS, ?_⟩
  rw [hd]; simpa [Act.put] using h
theorem su {i : Nat} {π : Sch} {l : List Value} {w w' : World} {o : Oper} (hi : ops[i]? = some o) (hw : Region.wanted o (yielded ops l.toArray) = true) (hd : o.dst = none)
    (hr : (execOp (Act.mk l.toArray []).eval o).run P w = .ok .skip w') (hS : S w') (h : wpSch P ops Q S π ⟨l.toArray, []⟩ w') : wpSch P ops Q S (.cons (i, true) π) ⟨l.toArray, []⟩ w := by
  show wpOp P ops Q i _ _ w
  unfold wpOp
  simp only [hi, hw, if_true]
  left
  unfold Oper.wp
  rw [hr, Oper.upon_skip]
  refine ⟨hS, ?_⟩
  rw [hd]; exact h
theorem sn {i : Nat} {π : Sch} {l : List Value} {w : World} {o : Oper} {d : Tmp} (mk : Nat → Value) (cs : Array Value) (t : TypeId) (hS : SG W row w) (hi : ops[i]? = some o) (hw : Region.wanted o (yielded ops l.toArray) = true) (hd : o.dst = some d)
    (hr : ∀ w, (execOp (Act.mk l.toArray []).eval o).run P w = .ok (.value (mk w.heap.size)) (w.alloc (.cells cs t (0, 0))))
    (h : ∀ b w', w.heap.size = b → Below w.heap.size w w' → w'.heap[b]? = some (.cells cs t (0, 0)) → SG W row w' → wpSch P ops Q (SG W row) π ⟨(l.set d (mk b)).toArray, []⟩ w') : wpSch P ops Q (SG W row) (.cons (i, true) π) ⟨l.toArray, []⟩ w :=
  sl hi hw hd (hr w) (hS.of_below (below_a1 _ _)) (h _ _ rfl (below_a1 _ _) (heap_alloc_new w _) (hS.of_below (below_a1 _ _)))
theorem ss {i : Nat} {π : Sch} {l : List Value} {w : World} {o : Oper} {ty t : TypeId} {x y : Operand} {b j : Nat} {v : Value} {news : List Value} {cs cs' : Array Value} (hS : SG W row w) (hi : ops[i]? = some o) (hw : Region.wanted o (yielded ops l.toArray) = true) (hd : o.dst = none)
    (ho : o.op = .store ty x y) (hx : (Act.mk l.toArray []).eval x = .pointer (some ⟨b, j, none⟩)) (hy : (Act.mk l.toArray []).eval y = v) (hxb : w.heap[b]? = some (.cells cs t (0, 0))) (hv : v.cells.toList = news) (hs : sizeB P ty = some news.length)
    (hf : j + news.length ≤ cs.size) (h1 : news.all (·.oneCell') = true) (hcs : (cs.toList.take j ++ news ++ cs.toList.drop (j + news.length)).toArray = cs') (hrow : some b = row ∨ W.heap.size ≤ b)
    (h : ∀ w', w.grownBy w' (some b) → w'.heap[b]? = some (.cells cs' t (0, 0)) → SG W row w' → wpSch P ops Q (SG W row) π ⟨l.toArray, []⟩ w') : wpSch P ops Q (SG W row) (.cons (i, true) π) ⟨l.toArray, []⟩ w := by
  have hst := run_storeCells_at P b j t news 0 cs w hxb (by simpa using hf) (fun v hv => List.all_eq_true.1 h1 v hv)
  simp only [Nat.add_zero] at hst
  have hsz : v.cells.size = news.length := by rw [← hv, Array.length_toList]
  have hr : (execOp (Act.mk l.toArray []).eval o).run P w = .ok .skip (w.setRow b cs') := by
    simp [execOp, ho, hx, hy, Instr.storeAt, Instr.sureAddr, storeVar, run_sizeOf hs, hsz, hv, hst, ← hcs]
  have hg : w.grownBy (w.setRow b cs') (some b) := ⟨rfl, rfl, rfl, by simp [World.setRow], fun k _ hk => setRow_other w b k _ (fun e => hk (by rw [e]))⟩
  have hS' : SG W row (w.setRow b cs') := hS.of_grown hg (by
    rcases hrow with h | h
    · exact .inl h
    · exact .inr (fun k e => by cases e; exact h))
  exact su hi hw hd hr hS' (h _ hg (setRow_heap w b cs _ t (0, 0) hxb) hS')
theorem own_snoc {w : World} {base : Nat} {e : TypeId} {v : Value} {n : Nat} {zs : List Int} {z : Int} (h : w.ownsRow base e 1 v n (intsV zs ++ (#[Value.int .i64 z] : Array Value).toList)) : w.ownsRow base e 1 v n (intsV (zs ++ [z])) := by
  simpa [intsV] using h
theorem own_snocP {w : World} {base : Nat} {e : TypeId} {v : Value} {n : Nat} {ps : List Pp} {x : Pp} (h : w.ownsRow base e 4 v n (pipesV ps ++ (#[Value.int .i64 x.id, .int .i64 x.fr, .int .i64 x.to, .int .i64 x.sz] : Array Value).toList)) : w.ownsRow base e 4 v n (pipesV (ps ++ [x])) := by
  simpa [pipesV, Pp.vals] using h
def Nb (b : Nat) (v : Value) : Prop := some b ≠ v.ownBlock
theorem nb_lo {w : World} {base : Nat} {e : TypeId} {size : Nat} {v : Value} {n : Nat} {xs : List Value} (how : w.ownsRow base e size v n xs) {b : Nat} (h : b < base) : Nb b v := fun e => by have := (World.ownsRow.lt how b e.symm).1; omega
theorem nb_hi {w : World} {base : Nat} {e : TypeId} {size : Nat} {v : Value} {n : Nat} {xs : List Value} (how : w.ownsRow base e size v n xs) {b : Nat} (h : w.heap.size ≤ b) : Nb b v := fun e => by have := (World.ownsRow.lt how b e.symm).2; omega
theorem nb_app {b g H n c : Nat} {v : Value} (h : Nb b v) (hl : b < H) (hat : v.ownBlock = some g ∨ g = H) : Nb b (.slice (some ⟨g, 0, none⟩) n c) := fun e => by
  have e' : b = g := by simpa [Value.ownBlock] using e
  rcases hat with hat | hat
  · exact h (by rw [hat, e'])
  · omega
theorem nb_new {b g n c : Nat} (h : b ≠ g) : Nb b (.slice (some ⟨g, 0, none⟩) n c) := fun e => h (by simpa [Value.ownBlock] using e)
theorem nb_nil {b n c : Nat} : Nb b (.slice none n c) := fun e => by simp [Value.ownBlock] at e
theorem own_blk {w : World} {base b n : Nat} {e : TypeId} {size : Nat} {cs : Array Value} (h : w.heap[b]? = some (.cells cs e (0, 0))) (hb : base ≤ b) (hs : cs.size = n * size) (hm : n ≤ 1000000000) : w.ownsRow base e size (.slice (some ⟨b, 0, none⟩) n n) n cs.toList :=
  ⟨by simpa using hs, .inr ⟨b, n, cs, rfl, hb, h, Nat.le_refl _, by unfold maxLen; omega, hs, List.take_of_length_le (by rw [Array.length_toList, hs]; exact Nat.le_refl _)⟩⟩
theorem own_empty {w : World} {base b : Nat} {e : TypeId} {size : Nat} (h : w.heap[b]? = some (.cells #[] e (0, 0))) (hb : base ≤ b) : w.ownsRow base e size (.slice (some ⟨b, 0, none⟩) 0 0) 0 [] := own_blk (n := 0) h hb (by simp) (by omega)
structure ElT (P : Program) (t e : TypeId) (size : Nat) : Prop where
  und : P.underlying t = some (.slice e)
  info : ∃ i z bytes, P.info? e = some i ∧ i.zero = some z ∧ i.size = size ∧ i.bytes = bytes ∧ z.cells.size = size ∧ 0 < size ∧ bytes ≤ 1000
def elT (P : Program) (t e : TypeId) (size : Nat) : Bool := match P.underlying t with
  | some (.slice e') => e' == e && match P.info? e with
    | some i => match i.zero with
      | some z => i.size == size && (z.cells.size == size && (decide (0 < size) && decide (i.bytes ≤ 1000)))
      | none => false
    | none => false
  | _ => false
theorem elT_of {t e : TypeId} {size : Nat} (h : elT P t e size = true) : ElT P t e size := by
  unfold elT at h
  split at h <;> try cases h
  rename_i e' hu
  simp only [Bool.and_eq_true, beq_iff_eq] at h
  obtain ⟨rfl, h⟩ := h
  split at h <;> try cases h
  rename_i i hi
  split at h <;> try cases h
  rename_i z hz
  simp only [Bool.and_eq_true, beq_iff_eq, decide_eq_true_eq] at h
  exact ⟨hu, i, z, i.bytes, hi, hz, h.1, rfl, h.2.1, h.2.2.1, h.2.2.2⟩
theorem sap {i : Nat} {π : Sch} {l : List Value} {w : World} {o : Oper} {d : Tmp} {t e t' : TypeId} {s x : Operand} {v : Value} {base size n m b c : Nat} {xs : List Value} {cs : Array Value} (hS : SG W row w) (hi : ops[i]? = some o) (hg : o.guard = none) (hd : o.dst = some d)
    (ho : o.op = .call { callee := .builtin .append, args := #[s, x], argTypes := #[t, t] }) (hs : (Act.mk l.toArray []).eval s = v) (hx : (Act.mk l.toArray []).eval x = .slice (some ⟨b, 0, none⟩) m c) (hT : elT P t e size = true)
    (how : w.ownsRow base e size v n xs) (hxb : w.heap[b]? = some (.cells cs t' (0, 0))) (hl : cs.size = m * size) (h1 : cs.toList.all (·.oneCell') = true) (hm : 0 < m) (hn : n + m ≤ 1000000000) (hb : base ≤ w.heap.size) (hrow : v.ownBlock = row ∨ ∀ k, v.ownBlock = some k → W.heap.size ≤ k)
    (h : ∀ g cap w', w'.ownsRow base e size (.slice (some ⟨g, 0, none⟩) (n + m) cap) (n + m) (xs ++ cs.toList) → w.grownBy w' v.ownBlock → (v.ownBlock = some g ∨ g = w.heap.size) → g < w'.heap.size → SG W row w' →
      wpSch P ops Q (SG W row) π ⟨(l.set d (.slice (some ⟨g, 0, none⟩) (n + m) cap)).toArray, []⟩ w') : wpSch P ops Q (SG W row) (.cons (i, true) π) ⟨l.toArray, []⟩ w := by
  obtain ⟨hu, i0, z, by_, h1i, h2i, h3i, h4i, h5i, h6i, h7i⟩ := elT_of hT
  have hw : Region.wanted o (yielded ops l.toArray) = true := by simp [Region.wanted, hg]
  show wpOp P ops Q i _ _ w
  unfold wpOp
  simp only [hi, hw, if_true]
  left
  refine wp_append_lies w s x t ho base e i0 z size by_ hu h1i h2i h3i h4i h5i h6i v n xs hs how ⟨b, 0, none⟩ m c cs.toList hx (by rw [Array.length_toList, hl]) (World.news_of_block hxb) (fun u hu => List.all_eq_true.1 h1 u hu) hm (by unfold maxLen; omega) ?_ hb _ rfl (fun g cap w' a1 a2 a3 a4 => ?_)
  · have : (n + m) * by_ ≤ 1000000000 * 1000 := Nat.mul_le_mul hn h7i
    omega
  · have hS' := hS.of_grown a2 hrow
    refine ⟨hS', ?_⟩
    have := h g cap w' a1 a2 a3 a4 hS'
    rw [hd]; simpa [Act.put] using this
theorem own_addr {w : World} {base : Nat} {e : TypeId} {size : Nat} {A : Option Addr} {n c : Nat} {xs : List Value} (how : w.ownsRow base e size (.slice A n c) n xs) (hn : 0 < n) : ∃ g, A = some ⟨g, 0, none⟩ ∧ base ≤ g ∧ g < w.heap.size := by
  obtain ⟨g, cap, hv, h1, h2⟩ := how.form hn
  simp only [Value.slice.injEq] at hv
  exact ⟨g, hv.1, h1, h2⟩
end
section
variable {P : Program} {S : World → Prop} {o : Oper} {a : Act}
theorem r_idx0 {t : TypeId} {x i : Operand} {b n c k : Nat} (ho : o.op = .indexAddr t x i) (hx : a.eval x = .slice (some ⟨b, 0, none⟩) n c) (hi : a.eval i = .int .i64 (k : Int)) (ht : elSz P t = some 1) (hk : k < n) :
    ∀ w, S w → (execOp a.eval o).run P w = .ok (.value (.pointer (some ⟨b, k, none⟩))) w := by
  have := r_idx1 (S := S) ho hx rfl hi ht hk
  rwa [Nat.zero_add] at this
end
theorem fin_ints {w w' : World} {e : TypeId} {A : Option Addr} {n c : Nat} {zs vs : List Int} {b vb : Bool} (how : w'.ownsRow w.heap.size e 1 (.slice A n c) n (intsV zs)) (hz : zs = vs) (hb : b = vb) (bel : Below w.heap.size w w') :
    ∃ A' d, Ending.returned (.tuple #[.slice A n c, .bool b]) = .returned (.tuple #[.slice A' vs.length d, .bool vb]) ∧ w'.ownsRow w.heap.size e 1 (.slice A' vs.length d) vs.length (intsV vs) ∧ Below w.heap.size w w' := by
  subst hz hb
  have hl := own_len how
  rw [ints_len] at hl
  subst hl
  exact ⟨_, _, rfl, how, bel⟩
end Go.Proofs.YtdlcldaogcbnlaaDoor
namespace Go.Proofs.YtdlcldaogcbnlaaDoor
open Go.RowKit
set_option linter.unusedVariables false
theorem has_yes {zs : List Int} {k : Nat} {x v : Int} (h : zs[k]? = some x) (e : x = v) : true = zs.contains v := by
  subst e; exact (List.contains_iff_mem.2 (List.mem_of_getElem? h)).symm
theorem has_no {zs : List Int} {v : Int} {n k : Nat} (hl : zs.length = n) (h : ∀ j z, j < k → zs[j]? = some z → z ≠ v) (hk : n ≤ k) : false = zs.contains v := by
  cases hc : zs.contains v with
  | false => rfl
  | true =>
    obtain ⟨j, hj, e⟩ := List.getElem_of_mem (List.contains_iff_mem.1 hc)
    exact absurd e (h j zs[j] (by omega) (List.getElem?_eq_getElem hj))
theorem upto_succ {α : Type} {zs : List α} {k : Nat} {x : α} {Q : α → Prop} (h : ∀ j z, j < k → zs[j]? = some z → Q z) (hx : zs[k]? = some x) (hq : Q x) : ∀ j z, j < k + 1 → zs[j]? = some z → Q z := by
  intro j z hj hz
  by_cases e : j = k
  · subst e; rw [hx] at hz; cases hz; exact hq
  · exact h j z (by omega) hz
theorem upto_zero {α : Type} {zs : List α} {Q : α → Prop} : ∀ j z, j < 0 → zs[j]? = some z → Q z := fun _ _ h => absurd h (by omega)
def otherOf (p : Pp) (u : Int) : Int := if u = p.fr then p.to else if u = p.to then p.fr else 0
def rises (ps : List Pp) : Prop := ps.Pairwise (fun p q => p.id < q.id)
end Go.Proofs.YtdlcldaogcbnlaaDoor
namespace Go.Proofs.YtdlcldaogcbnlaaDoor
open Go.RowKit
set_option linter.unusedVariables false
structure Fm (A : Option Addr) (n c : Nat) : Prop where
  le : n ≤ c
  nil : A = none → c = 0
theorem own_fm {w : World} {base : Nat} {e : TypeId} {size : Nat} {A : Option Addr} {n c : Nat} {xs : List Value} (h : w.ownsRow base e size (.slice A n c) n xs) : Fm A n c := by
  rcases h.2 with ⟨hv, h0⟩ | ⟨g, cap, cur, hv, _, _, hnc, _⟩
  · simp only [Value.slice.injEq] at hv
    exact ⟨by omega, fun _ => hv.2.2⟩
  · simp only [Value.slice.injEq] at hv
    exact ⟨by rw [hv.2.2]; exact hnc, fun e => by rw [e] at hv; cases hv.1⟩
def sFrom (A : Option Addr) (c k size : Nat) : Option Addr := if c = k then A else A.map (fun a => a.add (k * size))
theorem Fm.to {A : Option Addr} {n c k : Nat} (h : Fm A n c) (hk : k ≤ c) : Fm A k c := ⟨hk, h.nil⟩
theorem Fm.from {A : Option Addr} {n c k size : Nat} (h : Fm A n c) (hk : k ≤ n) : Fm (sFrom A c k size) (n - k) (c - k) := ⟨by have := h.le; omega, fun e => by
  unfold sFrom at e
  split at e
  · omega
  · have := h.nil (by cases A with | none => rfl | some a => cases e)
    omega⟩
theorem Rd.to {w : World} {size : Nat} {A : Option Addr} {n k : Nat} {xs : List Value} (h : Rd w size A n xs) (hk : k ≤ n) : Rd w size A k (xs.take (k * size)) :=
  ⟨by rw [List.length_take, h.1]; exact Nat.min_eq_left (Nat.mul_le_mul_right _ hk), fun h0 => by
    obtain ⟨b, off, e, hb, hc⟩ := h.2 (by omega)
    exact ⟨b, off, e, hb, fun j u hu => hc j u (by rw [List.getElem?_take] at hu; split at hu; exact hu; cases hu)⟩⟩
theorem Rd.from {w : World} {size : Nat} {A : Option Addr} {n c k : Nat} {xs : List Value} (h : Rd w size A n xs) (hk : k ≤ n) (hc : n ≤ c) : Rd w size (sFrom A c k size) (n - k) (xs.drop (k * size)) :=
  ⟨by rw [List.length_drop, h.1, Nat.sub_mul], fun h0 => by
    obtain ⟨b, off, e, hb, hcell⟩ := h.2 (by omega)
    refine ⟨b, off + k * size, ?_, hb, fun j u hu => ?_⟩
    · unfold sFrom; rw [if_neg (by omega), e]; simp [Addr.add_lit]
    · rw [List.getElem?_drop] at hu
      have := hcell _ u hu
      rwa [← Nat.add_assoc] at this⟩
theorem flat_take {ps : List Pp} : ∀ k, (pipesV ps).take (k * 4) = pipesV (ps.take k) := by
  intro k
  induction ps generalizing k with
  | nil => simp [pipesV]
  | cons p ps ih =>
    cases k with
    | zero => simp [pipesV]
    | succ k => simp only [pipesV, List.flatMap_cons, List.take_succ_cons] at ih ⊢; rw [show (k + 1) * 4 = k * 4 + 4 by omega]; simp [Pp.vals, ih]
theorem flat_drop {ps : List Pp} : ∀ k, (pipesV ps).drop (k * 4) = pipesV (ps.drop k) := by
  intro k
  induction ps generalizing k with
  | nil => simp [pipesV]
  | cons p ps ih =>
    cases k with
    | zero => simp [pipesV]
    | succ k => simp only [pipesV, List.flatMap_cons, List.drop_succ_cons] at ih ⊢; rw [show (k + 1) * 4 = k * 4 + 4 by omega]; simp [Pp.vals, ih]
theorem Rd.toP {w : World} {A : Option Addr} {n k : Nat} {ps : List Pp} (h : Rd w 4 A n (pipesV ps)) (hk : k ≤ n) : Rd w 4 A k (pipesV (ps.take k)) := by
  have := h.to hk; rwa [flat_take] at this
theorem Rd.fromP {w : World} {A : Option Addr} {n c k : Nat} {ps : List Pp} (h : Rd w 4 A n (pipesV ps)) (hk : k ≤ n) (hc : n ≤ c) : Rd w 4 (sFrom A c k 4) (n - k) (pipesV (ps.drop k)) := by
  have := h.from hk hc; rwa [flat_drop] at this
section
variable {P : Program} {S : World → Prop} {o : Oper} {a : Act}
theorem r_sliceTo {t : TypeId} {x y : Operand} {A : Option Addr} {n c k size : Nat} (ho : o.op = .slice t x none (some y) none) (hx : a.eval x = .slice A n c) (hy : a.eval y = .int .i64 (k : Int)) (ht : elSz P t = some size) (hk : k ≤ c) :
    ∀ w, S w → (execOp a.eval o).run P w = .ok (.value (.slice A k c)) w := fun w _ => by
  obtain ⟨e, hu, hs⟩ := elSz_of ht
  have h0 : (0 : Int) ≤ (k : Int) ∧ (k : Int) ≤ (c : Int) := by omega
  have hA : A.map (fun a => a.add 0) = A := by cases A <;> simp [Addr.add]
  simp [execOp, ho, hx, hy, Instr.sliceAt, Instr.slice, Instr.sliceBounds, Instr.sliceBound, asIntOf, underlying, hu, run_sizeOf hs, h0, hA]
  intro h; omega
theorem r_sliceFrom {t : TypeId} {x y : Operand} {A : Option Addr} {n c k size : Nat} (ho : o.op = .slice t x (some y) none none) (hx : a.eval x = .slice A n c) (hy : a.eval y = .int .i64 (k : Int)) (ht : elSz P t = some size) (hk : k ≤ n) :
    ∀ w, S w → (execOp a.eval o).run P w = .ok (.value (.slice (sFrom A c k size) (n - k) (c - k))) w := fun w _ => by
  obtain ⟨e, hu, hs⟩ := elSz_of ht
  have h0 : (0 : Int) ≤ (k : Int) ∧ (k : Int) ≤ (n : Int) := by omega
  simp [execOp, ho, hx, hy, Instr.sliceAt, Instr.slice, Instr.sliceBounds, Instr.sliceBound, asIntOf, underlying, hu, run_sizeOf hs, h0, sFrom]
  intro h; omega
end
section
variable {P : Program} {ops : Array Oper} {Q : Exit → Act → World → Prop} {W : World} {row : Option Nat}
theorem sapR {i : Nat} {π : Sch} {l : List Value} {w : World} {o : Oper} {d : Tmp} {t e : TypeId} {s x : Operand} {v : Value} {base size n m c : Nat} {A : Option Addr} {xs news : List Value} (hS : SG W row w) (hi : ops[i]? = some o) (hg : o.guard = none) (hd : o.dst = some d)
    (ho : o.op = .call { callee := .builtin .append, args := #[s, x], argTypes := #[t, t] }) (hs : (Act.mk l.toArray []).eval s = v) (hx : (Act.mk l.toArray []).eval x = .slice A m c) (hT : elT P t e size = true)
    (how : w.ownsRow base e size v n xs) (hrd : Rd w size A m news) (hf : Fm A m c) (h1 : ∀ u ∈ news, u.oneCell' = true) (hn : n + m ≤ 1000000000) (hb : base ≤ w.heap.size) (hrow : v.ownBlock = row ∨ ∀ k, v.ownBlock = some k → W.heap.size ≤ k)
    (h : ∀ A' c' w', w'.ownsRow base e size (.slice A' (n + m) c') (n + m) (xs ++ news) → w.grownBy w' v.ownBlock → ((Value.slice A' (n + m) c').ownBlock = v.ownBlock ∨ (Value.slice A' (n + m) c').ownBlock = some w.heap.size) → SG W row w' →
      wpSch P ops Q (SG W row) π ⟨(l.set d (.slice A' (n + m) c')).toArray, []⟩ w') : wpSch P ops Q (SG W row) (.cons (i, true) π) ⟨l.toArray, []⟩ w := by
  obtain ⟨hu, i0, z, by_, h1i, h2i, h3i, h4i, h5i, h6i, h7i⟩ := elT_of hT
  have hw : Region.wanted o (yielded ops l.toArray) = true := by simp [Region.wanted, hg]
  cases A with
  | none =>
    obtain rfl : c = 0 := hf.nil rfl
    obtain rfl : m = 0 := by have := hf.le; omega
    obtain rfl : news = [] := List.eq_nil_of_length_eq_zero (by have := hrd.1; omega)
    obtain ⟨A', c', rfl⟩ := own_form how
    have hrun := run_append_owned_none (P := P) (w := w) base t o.type e i0 size hu h1i _ n xs how
    have hr : (execOp (Act.mk l.toArray []).eval o).run P w = .ok (.value (.slice A' n c')) w := by
      simp [execOp, ho, resolve, invoke, builtin, hs, hx, hrun, Result.andThen]
    refine sl hi hw hd hr hS ?_
    exact h A' c' w (by simpa using how) (World.grownBy.refl _ _) (.inl rfl) hS
  | some ad =>
    have hnews : ∀ j u, news[j]? = some u → w.cell? (ad.add j) = some u := fun j u hu => by
      have hlt : j < news.length := (List.getElem?_eq_some_iff.1 hu).1
      have hm : 0 < m := by
        rcases Nat.eq_zero_or_pos m with e | e
        · subst e; have := hrd.1; omega
        · exact e
      obtain ⟨b, off, e, _, hc⟩ := hrd.2 hm
      cases e
      rw [Addr.add_lit]; exact hc j u hu
    have hby : (n + m) * by_ ≤ 140737488355328 := Nat.le_trans (Nat.mul_le_mul hn h7i) (by decide)
    obtain ⟨v', w', hrun, a2, a3, _, a5⟩ := run_append_own_at (P := P) w base t o.type e i0 z size by_ hu h1i h2i h3i h4i h5i h6i v n xs how ad m c news hrd.1 hnews h1 (by unfold maxLen; omega) hby hb
    obtain ⟨A', c', rfl⟩ := own_form a2
    have hr : (execOp (Act.mk l.toArray []).eval o).run P w = .ok (.value (.slice A' (n + m) c')) w' := by
      simp [execOp, ho, resolve, invoke, builtin, hs, hx, hrun, Result.andThen]
    have hS' := hS.of_grown a3 hrow
    exact sl hi hw hd hr hS' (h A' c' w' a2 a3 a5 hS')
theorem pipes_one (ps : List Pp) : ∀ u ∈ pipesV ps, u.oneCell' = true := fun u hu => by
  unfold pipesV at hu; obtain ⟨p, _, hp⟩ := List.mem_flatMap.1 hu
  simp [Pp.vals] at hp
  rcases hp with rfl | rfl | rfl | rfl <;> rfl
theorem own_joinP {w : World} {base : Nat} {e : TypeId} {v : Value} {n : Nat} {zs ys : List Pp} (h : w.ownsRow base e 4 v n (pipesV zs ++ pipesV ys)) : w.ownsRow base e 4 v n (pipesV (zs ++ ys)) := by
  simpa [pipesV] using h
theorem nb_app2 {b H : Nat} {v v' : Value} (h : Nb b v) (hl : b < H) (hat : v'.ownBlock = v.ownBlock ∨ v'.ownBlock = some H) : Nb b v' := fun e => by
  rcases hat with hat | hat
  · exact h (e.trans hat)
  · have := Option.some.inj (e.trans hat); omega
end
end Go.Proofs.YtdlcldaogcbnlaaDoor
namespace Go.Proofs.YtdlcldaogcbnlaaDoor
open Go.RowKit
set_option linter.unusedVariables false
def QRow (w : World) (base : Nat) (A : Option Addr) (n c : Nat) (zs : List Int) : Prop :=
  ∃ g o, A = some ⟨g, o, none⟩ ∧ base ≤ g ∧ g < w.heap.size ∧ n ≤ c ∧ c ≤ maxLen ∧ zs.length = n ∧ (∀ j z, zs[j]? = some z → w.cell? ⟨g, o + j, none⟩ = some (.int .i64 z)) ∧
    (∀ j, j < c → (w.cell? ⟨g, o + j, none⟩).isSome = true) ∧ (∀ j, w.frozen? ⟨g, o + j, none⟩ = false)
theorem QRow.lt {w : World} {base : Nat} {A : Option Addr} {n c : Nat} {zs : List Int} (h : QRow w base A n c zs) : ∀ k, (Value.slice A n c).ownBlock = some k → base ≤ k ∧ k < w.heap.size := by
  obtain ⟨g, o, rfl, h1, h2, _⟩ := h
  intro k hk
  have : g = k := by simpa [Value.ownBlock] using hk
  omega
theorem QRow.grown {w w' : World} {base : Nat} {A : Option Addr} {n c : Nat} {zs : List Int} {row : Option Nat} (h : QRow w base A n c zs) (hg : w.grownBy w' row) (hne : ∀ j, (Value.slice A n c).ownBlock = some j → row = some j → False) : QRow w' base A n c zs := by
  obtain ⟨g, o, rfl, h1, h2, h3, h4, h5, hc, hs, hf⟩ := h
  have hb : w'.heap[g]? = w.heap[g]? := hg.block g h2 (fun e => hne g (by simp [Value.ownBlock]) e.symm)
  exact ⟨g, o, rfl, h1, Nat.lt_of_lt_of_le h2 hg.size, h3, h4, h5, fun j z hz => (World.cell?_of_block (a := ⟨g, o + j, none⟩) hb).trans (hc j z hz), fun j hj => by rw [World.cell?_of_block (a := ⟨g, o + j, none⟩) hb]; exact hs j hj, fun j => (World.frozen?_of_block (a := ⟨g, o + j, none⟩) hb).trans (hf j)⟩
theorem QRow.kept {w w' : World} {base : Nat} {A : Option Addr} {n c : Nat} {zs : List Int} (h : QRow w base A n c zs) (hb : Below w.heap.size w w') : QRow w' base A n c zs :=
  h.grown (row := none) ⟨hb.os, hb.tape, hb.output, hb.size, fun k hk _ => hb.block k hk⟩ (fun _ _ e => by cases e)
theorem QRow.heap {w w' : World} {base : Nat} {A : Option Addr} {n c : Nat} {zs : List Int} (h : QRow w base A n c zs) (e : w'.heap = w.heap) : QRow w' base A n c zs := by
  unfold QRow World.cell? World.frozen? at *; rw [e]; exact h
theorem QRow.of {w : World} {base : Nat} {e : TypeId} {A : Option Addr} {n c : Nat} {zs : List Int} (h : w.ownsRow base e 1 (.slice A n c) n (intsV zs)) (hA : A ≠ none) : QRow w base A n c zs := by
  rcases h.2 with ⟨hv, _⟩ | ⟨g, cap, cur, hv, h1, h2, h3, h4, h5, h6⟩
  · simp only [Value.slice.injEq] at hv; exact absurd hv.1 hA
  · simp only [Value.slice.injEq] at hv
    obtain ⟨rfl, _, rfl⟩ := hv
    refine ⟨g, 0, rfl, h1, blk_lt h2, h3, h4, by have := own_len h; rw [ints_len] at this; exact this, fun j z hz => ?_, fun j hj => ?_, fun j => ?_⟩
    · have hj : j < n := by have := own_len h; rw [ints_len] at this; have := (List.getElem?_eq_some_iff.1 hz).1; omega
      rw [Nat.zero_add, h.cellAt j (by omega)]; simp [intsV, hz]
    · rw [Nat.zero_add, cell_of_row w g j cur e (0, 0) h2, Array.getElem?_eq_getElem (by omega)]; rfl
    · rw [Nat.zero_add]; exact h.frozenAt j
theorem QRow.tail {w : World} {base : Nat} {A : Option Addr} {n c : Nat} {z : Int} {zs : List Int} (h : QRow w base A n c (z :: zs)) : QRow w base (sFrom A c 1 1) (n - 1) (c - 1) zs ∧ (Value.slice (sFrom A c 1 1) (n - 1) (c - 1)).ownBlock = (Value.slice A n c).ownBlock := by
  obtain ⟨g, o, rfl, h1, h2, h3, h4, h5, hc, hs, hf⟩ := h
  rw [List.length_cons] at h5
  unfold sFrom
  by_cases e : c = 1
  · rw [if_pos e]
    have e0 : zs = [] := List.eq_nil_of_length_eq_zero (by omega)
    subst e0
    exact ⟨⟨g, o, rfl, h1, h2, by omega, by omega, by simp; omega, fun j z hz => by simp at hz, fun j hj => by omega, hf⟩, rfl⟩
  · rw [if_neg e]
    refine ⟨⟨g, o + 1, by simp [Addr.add_lit], h1, h2, by omega, by omega, by omega, fun j z hz => ?_, fun j hj => ?_, fun j => ?_⟩, by simp [Value.ownBlock, Addr.add_lit]⟩
    · have := hc (j + 1) z (by simpa using hz); rwa [show o + (j + 1) = o + 1 + j by omega] at this
    · have := hs (j + 1) (by omega); rwa [show o + (j + 1) = o + 1 + j by omega] at this
    · have := hf (j + 1); rwa [show o + (j + 1) = o + 1 + j by omega] at this
def NbR (v u : Value) : Prop := ∀ j, v.ownBlock = some j → u.ownBlock = some j → False
theorem NbR.symm {v u : Value} (h : NbR v u) : NbR u v := fun j a b => h j b a
theorem nbr_new {b n c : Nat} {u : Value} (h : Nb b u) : NbR (.slice (some ⟨b, 0, none⟩) n c) u := fun j e1 e2 => h (by
  have : b = j := by simpa [Value.ownBlock] using e1
  rw [this]; exact e2.symm)
theorem nbr_app {v v' u : Value} {H : Nat} (h : NbR v u) (hl : ∀ j, u.ownBlock = some j → j < H) (hat : v'.ownBlock = v.ownBlock ∨ ∀ k, v'.ownBlock = some k → H ≤ k) : NbR v' u := fun j e1 e2 => by
  rcases hat with a | a
  · exact h j (a.symm.trans e1) e2
  · have := a j e1; have := hl j e2; omega
theorem nb_app3 {b H : Nat} {v v' : Value} (h : Nb b v) (hl : b < H) (hat : v'.ownBlock = v.ownBlock ∨ ∀ k, v'.ownBlock = some k → H ≤ k) : Nb b v' := fun e => by
  rcases hat with a | a
  · exact h (e.trans a)
  · have := a b e.symm; omega
section
variable {P : Program} {ops : Array Oper} {Q : Exit → Act → World → Prop} {W : World} {row : Option Nat} {S : World → Prop}
theorem slq {i : Nat} {π : Sch} {l : List Value} {w : World} {o : Oper} {d : Tmp} {v : Value} (hS : S w) (hi : ops[i]? = some o) (hr : ∀ w', w' = w → (execOp (Act.mk l.toArray []).eval o).run P w' = .ok (.value v) w')
    (hw : Region.wanted o (yielded ops l.toArray) = true) (hd : o.dst = some d) (h : wpSch P ops Q S π ⟨(l.set d v).toArray, []⟩ w) : wpSch P ops Q S (.cons (i, true) π) ⟨l.toArray, []⟩ w :=
  sl hi hw hd (hr w rfl) hS h
theorem sm {i : Nat} {π : Sch} {l : List Value} {w : World} {o : Oper} {d : Tmp} {t e : TypeId} {x y : Operand} {n : Nat} (base : Nat) (hS : SG W row w) (hi : ops[i]? = some o) (hw : Region.wanted o (yielded ops l.toArray) = true) (hd : o.dst = some d)
    (ho : o.op = .makeSlice t x y) (hx : (Act.mk l.toArray []).eval x = .int .i64 (n : Int)) (hy : (Act.mk l.toArray []).eval y = .int .i64 (n : Int)) (hT : elT P t e 1 = true) (hz : ∃ i0, P.info? e = some i0 ∧ i0.zero = some (.int .i64 0)) (hn : n ≤ 1000000) (hb : base ≤ w.heap.size)
    (h : ∀ b w', w.heap.size = b → Below w.heap.size w w' → w'.ownsRow base e 1 (.slice (some ⟨b, 0, none⟩) n n) n (intsV (List.replicate n 0)) → SG W row w' → wpSch P ops Q (SG W row) π ⟨(l.set d (.slice (some ⟨b, 0, none⟩) n n)).toArray, []⟩ w') :
    wpSch P ops Q (SG W row) (.cons (i, true) π) ⟨l.toArray, []⟩ w := by
  obtain ⟨hu, i0, z, by_, h1i, h2i, h3i, h4i, h5i, h6i, h7i⟩ := elT_of hT
  obtain ⟨i1, hz1, hz2⟩ := hz
  obtain rfl : i1 = i0 := Option.some.inj (hz1.symm.trans h1i)
  obtain rfl : z = .int .i64 0 := Option.some.inj (h2i.symm.trans hz2)
  have hby : i1.bytes * n ≤ 281474976710656 := by rw [h4i]; exact Nat.le_trans (Nat.mul_le_mul h7i hn) (by decide)
  obtain ⟨w', hrun, ho', hg⟩ := run_makeSlice_full (P := P) (w := w) base t e i1 (.int .i64 0) 1 hu h1i h2i h3i .i64 .i64 n (by omega) hby (by unfold maxLen; omega) hb
  rw [Nat.mul_one, show (Value.int .i64 0).cells = #[.int .i64 0] from rfl, toList_madeCells_one] at ho'
  have hb' : Below w.heap.size w w' := (Below.refl _ _).grown hg (Nat.le_refl _) (by simp)
  have hr : (execOp (Act.mk l.toArray []).eval o).run P w = .ok (.value (.slice (some ⟨w.heap.size, 0, none⟩) n n)) w' := by
    simp [execOp, ho, hx, hy, hrun, Result.andThen]
  have e1 : List.replicate n (Value.int .i64 0) = intsV (List.replicate n 0) := by simp [intsV]
  rw [e1] at ho'
  exact sl hi hw hd hr (hS.of_below hb') (h _ w' rfl hb' ho' (hS.of_below hb'))
end
end Go.Proofs.YtdlcldaogcbnlaaDoor
namespace Go.Proofs.YtdlcldaogcbnlaaDoor
open Go.RowKit
set_option linter.unusedVariables false
section
variable {P : Program} {fn : Func} {R : Ending → World → Prop} {l : List Value} {w : World}
theorem res_cell {t : Tmp} {ty e : TypeId} {b : Nat} {cs : Array Value} (hf : fn.results = #[.cell t ty]) (hv : l.getD t undef = .pointer (some ⟨b, 0, none⟩)) (ht : aggB P ty = some true) (hs : sizeB P ty = some cs.size) (hx : w.heap[b]? = some (.cells cs e (0, 0))) :
    (results fn l.toArray).run P w = .ok (.agg cs) w := by
  have h := run_loadCells_list (P := P) (w := w) ⟨b, 0, none⟩ cs.toList (fun j v hj => by
    rw [Addr.add_lit]
    have := blk_cell (j := 0 + j) (v := v) hx (by rw [Nat.zero_add]; simpa using hj)
    exact this)
  rw [Array.length_toList] at h
  have h0 : (loadVar ty ⟨b, 0, none⟩).run P w = .ok (.agg cs) w := by
    simp [loadVar, run_isAgg ht, run_sizeOf hs, h]
  have hv' : l[t]?.getD undef = .pointer (some ⟨b, 0, none⟩) := by rw [← hv]; simp
  simp [results, hf, hv', asAddr, h0]
theorem retC {t : Tmp} {ty e : TypeId} {b : Nat} {cs : Array Value} (hf : fn.results = #[.cell t ty]) (hv : l.getD t undef = .pointer (some ⟨b, 0, none⟩)) (ht : aggB P ty = some true) (hs : sizeB P ty = some cs.size) (hx : w.heap[b]? = some (.cells cs e (0, 0))) (h : R (.returned (.agg cs)) w) : bodyPost P fn R .ret ⟨l.toArray, []⟩ w :=
  bodyPost_ret (res_cell hf hv ht hs hx) rfl h
end
theorem heap_same {w W : World} {b : Nat} {x : Obj} (e : w.heap = W.heap) (h : W.heap[b]? = some x) : w.heap[b]? = some x := by rw [e]; exact h
theorem hat3 {v : Value} {g H n c : Nat} (hat : v.ownBlock = some g ∨ g = H) : (Value.slice (some ⟨g, 0, none⟩) n c).ownBlock = v.ownBlock ∨ ∀ k, (Value.slice (some ⟨g, 0, none⟩) n c).ownBlock = some k → H ≤ k := by
  rcases hat with h | h
  · exact .inl (by rw [h]; rfl)
  · exact .inr (fun k e => by have e' : g = k := by simpa [Value.ownBlock] using e
                              omega)
section
variable {P : Program} {S : World → Prop} {o : Oper} {a : Act}
theorem r_build {t : TypeId} {parts : Array (Nat × Operand)} {vs : List (Nat × Value)} {cs : Array Value} (ho : o.op = .build t parts) (hv : parts.toList.map (fun p => (p.1, a.eval p.2)) = vs) (h : P.built t vs = some cs) :
    ∀ w, S w → (execOp a.eval o).run P w = .ok (.value (.agg cs)) w := fun w _ => by
  have e : (parts.map fun p => (p.1, a.eval p.2)).toList = vs := by rw [Array.toList_map]; exact hv
  have h' := run_build w t (parts.map fun p => (p.1, a.eval p.2)) cs (by rw [e]; exact h)
  simp [execOp, ho, h']
end
end Go.Proofs.YtdlcldaogcbnlaaDoor
namespace Go.Proofs.YtdlcldaogcbnlaaDoor
open Go.RowKit
set_option linter.unusedVariables false
section
variable {P : Program} {ops : Array Oper} {Q : Exit → Act → World → Prop} {S : World → Prop}
theorem run_enterV {o : Oper} {a : Act} {g : FuncId} {lb : Array Value} {x : Operand} {asx : Array Operand} {ts : Array TypeId} {vs : List Value} (ho : o.op = .call { callee := .value x, args := asx, argTypes := ts }) (hx : a.eval x = .func (.func g) #[] lb) (hv : asx.toList.map a.eval = vs) (he : enters P g = true) (w : World) :
    (execOp a.eval o).run P w = .ok (.enter g (vs.toArray ++ lb)) w := by
  unfold enters at he
  split at he
  · rename_i fn hf
    simp only [Bool.and_eq_true, Bool.not_eq_true'] at he
    have h1 : ¬ fn.name = "runtime.NumGoroutine" := by simpa using he.1
    have h2 : ¬ fn.body = none := fun e => by rw [e] at he; simp at he
    have hv' : asx.map a.eval = vs.toArray := Array.toList_inj.1 (by rw [Array.toList_map]; exact hv)
    simp [execOp, ho, resolve, hv', hx, Deferred.ofValue, invoke, callFunc, hf, h1, h2]
  · cases he
theorem scv {i : Nat} {π : Sch} {l : List Value} {w : World} {o : Oper} {d : Tmp} {g : FuncId} {lb : Array Value} {x : Operand} {asx : Array Operand} {ts : Array TypeId} {vs : List Value} {R : Ending → World → Prop} (hi : ops[i]? = some o)
    (ho : o.op = .call { callee := .value x, args := asx, argTypes := ts }) (hx : (Act.mk l.toArray []).eval x = .func (.func g) #[] lb) (hv : asx.toList.map (Act.mk l.toArray []).eval = vs) (he : enters P g = true)
    (hw : Region.wanted o (yielded ops l.toArray) = true) (hd : o.dst = some d) (hc : Calls P g (vs.toArray ++ lb) w R)
    (h : ∀ e w', R e w' → ∃ v, e = .returned v ∧ S w' ∧ wpSch P ops Q S π ⟨(l.set d v).toArray, []⟩ w') : wpSch P ops Q S (.cons (i, true) π) ⟨l.toArray, []⟩ w := by
  show wpOp P ops Q i _ _ w
  unfold wpOp
  simp only [hi, hw, if_true]
  left
  unfold Oper.wp
  rw [run_enterV ho hx hv he, Oper.upon_enter]
  refine hc.mono (fun e w' hR => ?_)
  obtain ⟨v, rfl, h1, h2⟩ := h e w' hR
  refine ⟨h1, ?_⟩
  rw [hd]; simpa [Act.put] using h2
end
section
variable {P : Program} {S : World → Prop} {o : Oper} {a : Act}
theorem r_makeFunc {g : FuncId} {caps : Array Operand} {vs : List Value} (ho : o.op = .makeFunc (.func g) #[] caps) (hv : caps.toList.map a.eval = vs) :
    ∀ w, S w → (execOp a.eval o).run P w = .ok (.value (.func (.func g) #[] vs.toArray)) w := fun w _ => by
  have hv' : caps.map a.eval = vs.toArray := Array.toList_inj.1 (by rw [Array.toList_map]; exact hv)
  simp [execOp, ho, Instr.makeFunc, hv']
end
end Go.Proofs.YtdlcldaogcbnlaaDoor
namespace Go.Proofs.YtdlcldaogcbnlaaDoor
open Go.RowKit
set_option linter.unusedVariables false
section
variable {P : Program} {S : World → Prop} {o : Oper} {a : Act}
theorem r_nilCheck {x : Operand} {p : Addr} (ho : o.op = .nilCheck x) (hx : a.eval x = .pointer (some p)) : ∀ w, S w → (execOp a.eval o).run P w = .ok (.value (.pointer (some p))) w := fun w _ => by
  simp [execOp, ho, hx]
theorem r_neqB {t u : TypeId} {x y : Operand} {m n : Bool} {r : Bool} (ho : o.op = .binOp .neq t x y u) (hx : a.eval x = .bool m) (hy : a.eval y = .bool n) (ht : P.underlying t = some .bool) (hr : (!(m == n)) = r) :
    ∀ w, S w → (execOp a.eval o).run P w = .ok (.value (.bool r)) w := fun w _ => by
  subst hr
  simp [execOp, ho, hx, hy, eqGuard, binOp, run_equal_bool _ t m n ht]
end
end Go.Proofs.YtdlcldaogcbnlaaDoor
namespace Go.Proofs.YtdlcldaogcbnlaaDoor
open Go.RowKit
set_option linter.unusedVariables false
section
variable {P : Program} {ops : Array Oper} {Q : Exit → Act → World → Prop} {W : World} {row : Option Nat} {S : World → Prop}
structure Ws (P : Program) (ops : Array Oper) (Q : Exit → Act → World → Prop) (S : World → Prop) (π : Sch) (l : List Value) (w : World) : Prop where
  out : wpSch P ops Q S π ⟨l.toArray, []⟩ w
theorem W.sbr3 {i j k : Nat} {s t u : Sch} {l : List Value} {w : World} (h1 : Ws P ops Q S (.cons (i, true) s) l w) (h2 : Ws P ops Q S (.cons (j, true) t) l w) (h3 : Ws P ops Q S (.cons (k, true) u) l w) : Ws P ops Q S (.br3 i j k s t u) l w := ⟨Go.Proofs.YtdlcldaogcbnlaaDoor.sbr3 h1.out h2.out h3.out⟩
theorem W.sbr {i j : Nat} {s t : Sch} {l : List Value} {w : World} (h1 : Ws P ops Q S (.cons (i, true) s) l w) (h2 : Ws P ops Q S (.cons (j, true) t) l w) : Ws P ops Q S (.br i j s t) l w := ⟨Go.Proofs.YtdlcldaogcbnlaaDoor.sbr h1.out h2.out⟩
theorem W.sch_end {l l' : List Value} {w : World} (hl : l = l') (h : Q .normal ⟨l'.toArray, []⟩ w) : Ws P ops Q S .nil l w := ⟨Go.Proofs.YtdlcldaogcbnlaaDoor.sch_end (by rw [hl]; exact h)⟩
theorem W.region_sch {id : Nat} {l : List Value} (π : Sch) (hm : P.follows .mixedOrders = true) (hs : Region.noSelect ops = true) (hQ : ∀ c d v a w, Q (.panic c) (Act.put a d v) w → Q (.panic c) a w)
    (hok : schOk .any ops ops.size π (Array.replicate ops.size false) = true) (h : ∀ w, w.heap = W.heap → SG W row w → Ws P ops Q (SG W row) π l w) : (Code.region id ops true).wp P Q ⟨l.toArray, []⟩ W :=
  Go.Proofs.YtdlcldaogcbnlaaDoor.region_sch π hm hs hQ hok (fun w e s => (h w e s).out)
theorem W.region_plain {id : Nat} {l : List Value} (π : List (Nat × Bool)) (hn : π.map (·.1) = List.range ops.size) (h : Ws P ops Q (SG W row) (Sch.of π) l W) : (Code.region id ops false).wp P Q ⟨l.toArray, []⟩ W := Go.Proofs.YtdlcldaogcbnlaaDoor.region_plain π hn h.out
theorem W.region_quiet {id : Nat} {l : List Value} (π : List (Nat × Bool)) (hn : π.map (·.1) = List.range ops.size) (h : Ws P ops Q (fun w => w = W) (Sch.of π) l W) : (Code.region id ops false).wp P Q ⟨l.toArray, []⟩ W := Go.Proofs.YtdlcldaogcbnlaaDoor.region_quiet π hn h.out
theorem W.sq {i : Nat} {π : Sch} {l l' : List Value} {w : World} {o : Oper} {v : Value} {d : Tmp} (hi : ops[i]? = some o) (hr : ∀ w, S w → (execOp (Act.mk l.toArray []).eval o).run P w = .ok (.value v) w)
    (hw : Region.wanted o (yielded ops l.toArray) = true) (hd : o.dst = some d) (hl : l.set d v = l') (h : Ws P ops Q S π l' w) : Ws P ops Q S (.cons (i, false) π) l w :=
  ⟨Go.Proofs.YtdlcldaogcbnlaaDoor.sq hi hr hw hd hl h.out⟩
theorem W.sk {i : Nat} {b : Bool} {π : Sch} {l l' : List Value} {w : World} {o : Oper} {d : Tmp} (hS : S w) (hi : ops[i]? = some o)
    (hw : Region.wanted o (yielded ops l.toArray) = false) (hd : o.dst = some d) (hl : l.set d undef = l') (h : Ws P ops Q S π l' w) : Ws P ops Q S (.cons (i, b) π) l w :=
  ⟨Go.Proofs.YtdlcldaogcbnlaaDoor.sk hS hi hw hd hl h.out⟩
theorem W.sc {i : Nat} {π : Sch} {l : List Value} {w : World} {o : Oper} {d : Tmp} {f : FuncId} {asx : Array Operand} {ts : Array TypeId} {vs : List Value} {R : Ending → World → Prop} (hi : ops[i]? = some o)
    (ho : o.op = .call { callee := .value (.func f), args := asx, argTypes := ts }) (hv : asx.toList.map (Act.mk l.toArray []).eval = vs) (he : enters P f = true)
    (hw : Region.wanted o (yielded ops l.toArray) = true) (hd : o.dst = some d) (hc : Calls P f vs.toArray w R)
    (h : ∀ e w', R e w' → ∃ v, e = .returned v ∧ S w' ∧ Ws P ops Q S π (l.set d v) w') : Ws P ops Q S (.cons (i, true) π) l w :=
  ⟨Go.Proofs.YtdlcldaogcbnlaaDoor.sc hi ho hv he hw hd hc (fun e w' hR => let ⟨v, h1, h2, h3⟩ := h e w' hR; ⟨v, h1, h2, h3.out⟩)⟩
theorem W.scv {i : Nat} {π : Sch} {l : List Value} {w : World} {o : Oper} {d : Tmp} {g : FuncId} {lb : Array Value} {x : Operand} {asx : Array Operand} {ts : Array TypeId} {vs : List Value} {R : Ending → World → Prop} (hi : ops[i]? = some o)
    (ho : o.op = .call { callee := .value x, args := asx, argTypes := ts }) (hx : (Act.mk l.toArray []).eval x = .func (.func g) #[] lb) (hv : asx.toList.map (Act.mk l.toArray []).eval = vs) (he : enters P g = true)
    (hw : Region.wanted o (yielded ops l.toArray) = true) (hd : o.dst = some d) (hc : Calls P g (vs.toArray ++ lb) w R)
    (h : ∀ e w', R e w' → ∃ v, e = .returned v ∧ S w' ∧ Ws P ops Q S π (l.set d v) w') : Ws P ops Q S (.cons (i, true) π) l w :=
  ⟨Go.Proofs.YtdlcldaogcbnlaaDoor.scv hi ho hx hv he hw hd hc (fun e w' hR => let ⟨v, h1, h2, h3⟩ := h e w' hR; ⟨v, h1, h2, h3.out⟩)⟩
theorem W.sn {i : Nat} {π : Sch} {l : List Value} {w : World} {o : Oper} {d : Tmp} (mk : Nat → Value) (cs : Array Value) (t : TypeId) (hS : SG W row w) (hi : ops[i]? = some o) (hw : Region.wanted o (yielded ops l.toArray) = true) (hd : o.dst = some d)
    (hr : ∀ w, (execOp (Act.mk l.toArray []).eval o).run P w = .ok (.value (mk w.heap.size)) (w.alloc (.cells cs t (0, 0))))
    (h : ∀ b w', w.heap.size = b → Below w.heap.size w w' → w'.heap[b]? = some (.cells cs t (0, 0)) → SG W row w' → Ws P ops Q (SG W row) π (l.set d (mk b)) w') : Ws P ops Q (SG W row) (.cons (i, true) π) l w :=
  ⟨Go.Proofs.YtdlcldaogcbnlaaDoor.sn mk cs t hS hi hw hd hr (fun b w' a1 a2 a3 a4 => (h b w' a1 a2 a3 a4).out)⟩
theorem W.ss {i : Nat} {π : Sch} {l : List Value} {w : World} {o : Oper} {ty t : TypeId} {x y : Operand} {b j : Nat} {v : Value} {news : List Value} {cs cs' : Array Value} (hS : SG W row w) (hi : ops[i]? = some o) (hw : Region.wanted o (yielded ops l.toArray) = true) (hd : o.dst = none)
    (ho : o.op = .store ty x y) (hx : (Act.mk l.toArray []).eval x = .pointer (some ⟨b, j, none⟩)) (hy : (Act.mk l.toArray []).eval y = v) (hxb : w.heap[b]? = some (.cells cs t (0, 0))) (hv : v.cells.toList = news) (hs : sizeB P ty = some news.length)
    (hf : j + news.length ≤ cs.size) (h1 : news.all (·.oneCell') = true) (hcs : (cs.toList.take j ++ news ++ cs.toList.drop (j + news.length)).toArray = cs') (hrow : some b = row ∨ W.heap.size ≤ b)
    (h : ∀ w', w.grownBy w' (some b) → w'.heap[b]? = some (.cells cs' t (0, 0)) → SG W row w' → Ws P ops Q (SG W row) π l w') : Ws P ops Q (SG W row) (.cons (i, true) π) l w :=
  ⟨Go.Proofs.YtdlcldaogcbnlaaDoor.ss hS hi hw hd ho hx hy hxb hv hs hf h1 hcs hrow (fun w' a1 a2 a3 => (h w' a1 a2 a3).out)⟩
theorem W.sap {i : Nat} {π : Sch} {l : List Value} {w : World} {o : Oper} {d : Tmp} {t e t' : TypeId} {s x : Operand} {v : Value} {base size n m b c : Nat} {xs : List Value} {cs : Array Value} (hS : SG W row w) (hi : ops[i]? = some o) (hg : o.guard = none) (hd : o.dst = some d)
    (ho : o.op = .call { callee := .builtin .append, args := #[s, x], argTypes := #[t, t] }) (hs : (Act.mk l.toArray []).eval s = v) (hx : (Act.mk l.toArray []).eval x = .slice (some ⟨b, 0, none⟩) m c) (hT : elT P t e size = true)
    (how : w.ownsRow base e size v n xs) (hxb : w.heap[b]? = some (.cells cs t' (0, 0))) (hl : cs.size = m * size) (h1 : cs.toList.all (·.oneCell') = true) (hm : 0 < m) (hn : n + m ≤ 1000000000) (hb : base ≤ w.heap.size) (hrow : v.ownBlock = row ∨ ∀ k, v.ownBlock = some k → W.heap.size ≤ k)
    (h : ∀ g cap w', w'.ownsRow base e size (.slice (some ⟨g, 0, none⟩) (n + m) cap) (n + m) (xs ++ cs.toList) → w.grownBy w' v.ownBlock → (v.ownBlock = some g ∨ g = w.heap.size) → g < w'.heap.size → SG W row w' →
      Ws P ops Q (SG W row) π (l.set d (.slice (some ⟨g, 0, none⟩) (n + m) cap)) w') : Ws P ops Q (SG W row) (.cons (i, true) π) l w :=
  ⟨Go.Proofs.YtdlcldaogcbnlaaDoor.sap hS hi hg hd ho hs hx hT how hxb hl h1 hm hn hb hrow (fun g cap w' a1 a2 a3 a4 a5 => (h g cap w' a1 a2 a3 a4 a5).out)⟩
theorem W.sapR {i : Nat} {π : Sch} {l : List Value} {w : World} {o : Oper} {d : Tmp} {t e : TypeId} {s x : Operand} {v : Value} {base size n m c : Nat} {A : Option Addr} {xs news : List Value} (hS : SG W row w) (hi : ops[i]? = some o) (hg : o.guard = none) (hd : o.dst = some d)
    (ho : o.op = .call { callee := .builtin .append, args := #[s, x], argTypes := #[t, t] }) (hs : (Act.mk l.toArray []).eval s = v) (hx : (Act.mk l.toArray []).eval x = .slice A m c) (hT : elT P t e size = true)
    (how : w.ownsRow base e size v n xs) (hrd : Rd w size A m news) (hf : Fm A m c) (h1 : ∀ u ∈ news, u.oneCell' = true) (hn : n + m ≤ 1000000000) (hb : base ≤ w.heap.size) (hrow : v.ownBlock = row ∨ ∀ k, v.ownBlock = some k → W.heap.size ≤ k)
    (h : ∀ A' c' w', w'.ownsRow base e size (.slice A' (n + m) c') (n + m) (xs ++ news) → w.grownBy w' v.ownBlock → ((Value.slice A' (n + m) c').ownBlock = v.ownBlock ∨ (Value.slice A' (n + m) c').ownBlock = some w.heap.size) → SG W row w' →
      Ws P ops Q (SG W row) π (l.set d (.slice A' (n + m) c')) w') : Ws P ops Q (SG W row) (.cons (i, true) π) l w :=
  ⟨Go.Proofs.YtdlcldaogcbnlaaDoor.sapR hS hi hg hd ho hs hx hT how hrd hf h1 hn hb hrow (fun A' c'' w' a1 a2 a3 a4 => (h A' c'' w' a1 a2 a3 a4).out)⟩
theorem W.slq {i : Nat} {π : Sch} {l : List Value} {w : World} {o : Oper} {d : Tmp} {v : Value} (hS : S w) (hi : ops[i]? = some o) (hr : ∀ w', w' = w → (execOp (Act.mk l.toArray []).eval o).run P w' = .ok (.value v) w')
    (hw : Region.wanted o (yielded ops l.toArray) = true) (hd : o.dst = some d) (h : Ws P ops Q S π (l.set d v) w) : Ws P ops Q S (.cons (i, true) π) l w :=
  ⟨Go.Proofs.YtdlcldaogcbnlaaDoor.slq hS hi hr hw hd h.out⟩
theorem W.sm {i : Nat} {π : Sch} {l : List Value} {w : World} {o : Oper} {d : Tmp} {t e : TypeId} {x y : Operand} {n : Nat} (base : Nat) (hS : SG W row w) (hi : ops[i]? = some o) (hw : Region.wanted o (yielded ops l.toArray) = true) (hd : o.dst = some d)
    (ho : o.op = .makeSlice t x y) (hx : (Act.mk l.toArray []).eval x = .int .i64 (n : Int)) (hy : (Act.mk l.toArray []).eval y = .int .i64 (n : Int)) (hT : elT P t e 1 = true) (hz : ∃ i0, P.info? e = some i0 ∧ i0.zero = some (.int .i64 0)) (hn : n ≤ 1000000) (hb : base ≤ w.heap.size)
    (h : ∀ b w', w.heap.size = b → Below w.heap.size w w' → w'.ownsRow base e 1 (.slice (some ⟨b, 0, none⟩) n n) n (intsV (List.replicate n 0)) → SG W row w' → Ws P ops Q (SG W row) π (l.set d (.slice (some ⟨b, 0, none⟩) n n)) w') :
    Ws P ops Q (SG W row) (.cons (i, true) π) l w :=
  ⟨Go.Proofs.YtdlcldaogcbnlaaDoor.sm base hS hi hw hd ho hx hy hT hz hn hb (fun b w' a1 a2 a3 a4 => (h b w' a1 a2 a3 a4).out)⟩
end
end Go.Proofs.YtdlcldaogcbnlaaDoor
namespace Go.Proofs.YtdlcldaogcbnlaaDoor
open Go.RowKit
set_option linter.unusedVariables false
section
variable {P : Program} {ops : Array Oper} {Q : Exit → Act → World → Prop} {W : World} {row : Option Nat} {S : World → Prop}
def lk : List (Nat × Value) → Nat → Value → Value
  | [], _, d => d
  | (j, v) :: r, i, d => bif Nat.beq i j then v else lk r i d
def fr (U : Nat → Value) (upd : List (Nat × Value)) : Nat → Nat → List Value
  | 0, _ => []
  | n + 1, i => lk upd i (U i) :: fr U upd n (i + 1)
theorem W.endF {l : List Value} {w : World} (n : Nat) (upd : List (Nat × Value)) (h : ∀ U, Q .normal ⟨(fr U upd n 0).toArray, []⟩ w) (hl : l = fr (fun i => l.getD i undef) upd n 0 := by kernel_rfl) : Ws P ops Q S .nil l w := ⟨Go.Proofs.YtdlcldaogcbnlaaDoor.sch_end (by rw [hl]; exact h _)⟩
theorem W.q {i : Nat} {π : Sch} {l : List Value} {w : World} {o : Oper} {v : Value} {d : Tmp} (hi : ops[i]? = some o := by exact rfl) (hr : ∀ w, S w → (execOp (Act.mk l.toArray []).eval o).run P w = .ok (.value v) w)
    (hw : Region.wanted o (yielded ops l.toArray) = true := by kernel_rfl) (hd : o.dst = some d := by exact rfl) (h : Ws P ops Q S π (l.set d v) w) : Ws P ops Q S (.cons (i, false) π) l w := W.sq hi hr hw hd rfl h
theorem W.mv {i : Nat} {π : Sch} {l : List Value} {w : World} {o : Oper} {x : Operand} {v : Value} {d : Tmp} (hi : ops[i]? = some o := by exact rfl) (ho : o.op = .move x := by exact rfl) (hx : (Act.mk l.toArray []).eval x = v := by kernel_rfl)
    (hw : Region.wanted o (yielded ops l.toArray) = true := by kernel_rfl) (hd : o.dst = some d := by exact rfl) (h : Ws P ops Q S π (l.set d v) w) : Ws P ops Q S (.cons (i, false) π) l w := W.sq hi (r_move ho hx) hw hd rfl h
theorem W.as {i : Nat} {π : Sch} {l : List Value} {w : World} {o : Oper} {x : Operand} {v : Value} {d : Tmp} (hi : ops[i]? = some o := by exact rfl) (ho : o.op = .assign x := by exact rfl) (hx : (Act.mk l.toArray []).eval x = v := by kernel_rfl)
    (hw : Region.wanted o (yielded ops l.toArray) = true := by kernel_rfl) (hd : o.dst = some d := by exact rfl) (h : Ws P ops Q S π (l.set d v) w) : Ws P ops Q S (.cons (i, false) π) l w := W.sq hi (r_assign ho hx) hw hd rfl h
theorem W.ld {i : Nat} {π : Sch} {l : List Value} {w : World} {o : Oper} {x : Operand} {t : TypeId} {p : Addr} {v : Value} {d : Tmp} (hi : ops[i]? = some o := by exact rfl) (ho : o.op = .load t x := by exact rfl) (hx : (Act.mk l.toArray []).eval x = .pointer (some p) := by kernel_rfl) (ht : aggB P t = some false := by kernel_rfl) (hc : ∀ w, S w → w.cell? p = some v)
    (hw : Region.wanted o (yielded ops l.toArray) = true := by kernel_rfl) (hd : o.dst = some d := by exact rfl) (h : Ws P ops Q S π (l.set d v) w) : Ws P ops Q S (.cons (i, false) π) l w := W.sq hi (r_load ho hx ht hc) hw hd rfl h
theorem W.sp {i : Nat} {b : Bool} {π : Sch} {l : List Value} {w : World} {o : Oper} {d : Tmp} (hS : S w) (hi : ops[i]? = some o := by exact rfl) (hw : Region.wanted o (yielded ops l.toArray) = false := by kernel_rfl) (hd : o.dst = some d := by exact rfl) (h : Ws P ops Q S π (l.set d undef) w) : Ws P ops Q S (.cons (i, b) π) l w := W.sk hS hi hw hd rfl h
end
end Go.Proofs.YtdlcldaogcbnlaaDoor
namespace Go.Proofs.YtdlcldaogcbnlaaDoor
open Go.RowKit
set_option linter.unusedVariables false
structure SM (W : World) (row : List (Option Nat)) (w : World) : Prop where
  os : w.os = W.os
  tape : w.tape = W.tape
  output : w.output = W.output
  size : W.heap.size ≤ w.heap.size
  block : ∀ k, k < W.heap.size → some k ∉ row → w.heap[k]? = W.heap[k]?
theorem SM.self (W : World) (row : List (Option Nat)) : SM W row W := ⟨rfl, rfl, rfl, Nat.le_refl _, fun _ _ _ => rfl⟩
theorem SM.of_below {W w w' : World} {row : List (Option Nat)} (h : SM W row w) (b : Below w.heap.size w w') : SM W row w' :=
  ⟨b.os.trans h.os, b.tape.trans h.tape, b.output.trans h.output, Nat.le_trans h.size b.size, fun k hk hn => (b.block k (Nat.lt_of_lt_of_le hk h.size)).trans (h.block k hk hn)⟩
theorem SM.of_grown {W w w' : World} {row : List (Option Nat)} (h : SM W row w) {r : Option Nat} (b : w.grownBy w' r) (hr : r ∈ row ∨ ∀ k, r = some k → W.heap.size ≤ k) : SM W row w' :=
  ⟨b.os.trans h.os, b.tape.trans h.tape, b.output.trans h.output, Nat.le_trans h.size b.size, fun k hk hn => (b.block k (Nat.lt_of_lt_of_le hk h.size) (fun e => by
    rcases hr with hr | hr
    · exact hn (by rw [e]; exact hr)
    · have := hr k e.symm; omega)).trans (h.block k hk hn)⟩
theorem SM.cell {W w : World} {row : List (Option Nat)} (h : SM W row w) {a : Addr} {v : Value} (hc : W.cell? a = some v) (hne : some a.block ∉ row) : w.cell? a = some v :=
  (World.cell?_of_block (h.block a.block (World.block_lt_of_cell? W a hc) hne)).trans hc
theorem SM.blk {W w : World} {row : List (Option Nat)} (h : SM W row w) {b : Nat} {o : Obj} (hc : W.heap[b]? = some o) (hne : some b ∉ row) : w.heap[b]? = some o := (h.block b (blk_lt hc) hne).trans hc
theorem SM.belowR {W w w0 : World} {row : List (Option Nat)} (c : Below w0.heap.size w0 W) (h : SM W row w) (hr : ∀ k, some k ∈ row → w0.heap.size ≤ k) : Below w0.heap.size w0 w :=
  ⟨h.os.trans c.os, h.tape.trans c.tape, h.output.trans c.output, Nat.le_trans c.size h.size, fun k hk => (h.block k (Nat.lt_of_lt_of_le hk c.size) (fun e => by have := hr k e; omega)).trans (c.block k hk)⟩
theorem SM.fr {W w w0 : World} {row : List (Option Nat)} {B : Nat} (c : w0.grownBy W (some B)) (h : SM W row w) (hr : ∀ k, some k ∈ row → k = B ∨ w0.heap.size ≤ k) : w0.grownBy w (some B) :=
  ⟨h.os.trans c.os, h.tape.trans c.tape, h.output.trans c.output, Nat.le_trans c.size h.size, fun k hk hn => (h.block k (Nat.lt_of_lt_of_le hk c.size) (fun e => by
    rcases hr k e with h1 | h1
    · exact hn (by rw [h1])
    · omega)).trans (c.block k hk hn)⟩
theorem SG.fr {W w w0 : World} {row : Option Nat} {B : Nat} (c : w0.grownBy W (some B)) (h : SG W row w) (hr : ∀ k, row = some k → k = B ∨ w0.heap.size ≤ k) : w0.grownBy w (some B) :=
  ⟨h.os.trans c.os, h.tape.trans c.tape, h.output.trans c.output, Nat.le_trans c.size h.size, fun k hk hn => (h.block k (Nat.lt_of_lt_of_le hk c.size) (fun e => by
    rcases hr k e.symm with h1 | h1
    · exact hn (by rw [h1])
    · omega)).trans (c.block k hk hn)⟩
theorem smS {W : World} {row : List (Option Nat)} {p : Addr} {v : Value} (h : W.cell? p = some v) (hne : some p.block ∉ row) : ∀ w, SM W row w → w.cell? p = some v := fun w e => SM.cell e h hne
theorem ne2 {x a b : Option Nat} (h1 : x ≠ a) (h2 : x ≠ b) : x ∉ [a, b] := by simp [h1, h2]
theorem ne3 {x a b c : Option Nat} (h1 : x ≠ a) (h2 : x ≠ b) (h3 : x ≠ c) : x ∉ [a, b, c] := by simp [h1, h2, h3]
theorem in2 {p : Nat → Prop} {a b : Option Nat} (h1 : ∀ k, a = some k → p k) (h2 : ∀ k, b = some k → p k) : ∀ k, some k ∈ [a, b] → p k := fun k h => by
  simp only [List.mem_cons, List.not_mem_nil, or_false] at h
  rcases h with h | h
  · exact h1 k h.symm
  · exact h2 k h.symm
theorem in3 {p : Nat → Prop} {a b c : Option Nat} (h1 : ∀ k, a = some k → p k) (h2 : ∀ k, b = some k → p k) (h3 : ∀ k, c = some k → p k) : ∀ k, some k ∈ [a, b, c] → p k := fun k h => by
  simp only [List.mem_cons, List.not_mem_nil, or_false] at h
  rcases h with h | h | h
  · exact h1 k h.symm
  · exact h2 k h.symm
  · exact h3 k h.symm
namespace M
section
variable {P : Program} {ops : Array Oper} {Q : Exit → Act → World → Prop} {W : World} {row : List (Option Nat)} {S : World → Prop}
theorem region_sch0 {W : World} {row : List (Option Nat)} {id : Nat} {a : Act} (π : Sch) (hm : P.follows .mixedOrders = true) (hs : Region.noSelect ops = true) (hQ : ∀ c d v a w, Q (.panic c) (Act.put a d v) w → Q (.panic c) a w)
    (hok : schOk .any ops ops.size π (Array.replicate ops.size false) = true) (h : ∀ w, w.heap = W.heap → SM W row w → wpSch P ops Q (SM W row) π a w) : (Code.region id ops true).wp P Q a W := by
  have hS : SM W row { W with drawn := W.drawn + 1 } := ⟨rfl, rfl, rfl, Nat.le_refl _, fun _ _ _ => rfl⟩
  exact wp_region_held hm (anyH_of_sch hs hQ _ π _ a _ hok hS (h _ rfl hS))
theorem region_plain0 {W : World} {row : List (Option Nat)} {id : Nat} {a : Act} (π : List (Nat × Bool)) (hn : π.map (·.1) = List.range ops.size) (h : wpSch P ops Q (SM W row) (Sch.of π) a W) : (Code.region id ops false).wp P Q a W := by
  have := ops_of_sch π a W (SM.self W row) h
  rw [hn] at this
  exact wp_region this
theorem sn0 {i : Nat} {π : Sch} {l : List Value} {w : World} {o : Oper} {d : Tmp} (mk : Nat → Value) (cs : Array Value) (t : TypeId) (hS : SM W row w) (hi : ops[i]? = some o) (hw : Region.wanted o (yielded ops l.toArray) = true) (hd : o.dst = some d)
    (hr : ∀ w, (execOp (Act.mk l.toArray []).eval o).run P w = .ok (.value (mk w.heap.size)) (w.alloc (.cells cs t (0, 0))))
    (h : ∀ b w', w.heap.size = b → Below w.heap.size w w' → w'.heap[b]? = some (.cells cs t (0, 0)) → SM W row w' → wpSch P ops Q (SM W row) π ⟨(l.set d (mk b)).toArray, []⟩ w') : wpSch P ops Q (SM W row) (.cons (i, true) π) ⟨l.toArray, []⟩ w :=
  sl hi hw hd (hr w) (hS.of_below (below_a1 _ _)) (h _ _ rfl (below_a1 _ _) (heap_alloc_new w _) (hS.of_below (below_a1 _ _)))
theorem ss0 {i : Nat} {π : Sch} {l : List Value} {w : World} {o : Oper} {ty t : TypeId} {x y : Operand} {b j : Nat} {v : Value} {news : List Value} {cs cs' : Array Value} (hS : SM W row w) (hi : ops[i]? = some o) (hw : Region.wanted o (yielded ops l.toArray) = true) (hd : o.dst = none)
    (ho : o.op = .store ty x y) (hx : (Act.mk l.toArray []).eval x = .pointer (some ⟨b, j, none⟩)) (hy : (Act.mk l.toArray []).eval y = v) (hxb : w.heap[b]? = some (.cells cs t (0, 0))) (hv : v.cells.toList = news) (hs : sizeB P ty = some news.length)
    (hf : j + news.length ≤ cs.size) (h1 : news.all (·.oneCell') = true) (hcs : (cs.toList.take j ++ news ++ cs.toList.drop (j + news.length)).toArray = cs') (hrow : some b ∈ row ∨ W.heap.size ≤ b)
    (h : ∀ w', w.grownBy w' (some b) → w'.heap[b]? = some (.cells cs' t (0, 0)) → SM W row w' → wpSch P ops Q (SM W row) π ⟨l.toArray, []⟩ w') : wpSch P ops Q (SM W row) (.cons (i, true) π) ⟨l.toArray, []⟩ w := by
  have hst := run_storeCells_at P b j t news 0 cs w hxb (by simpa using hf) (fun v hv => List.all_eq_true.1 h1 v hv)
  simp only [Nat.add_zero] at hst
  have hsz : v.cells.size = news.length := by rw [← hv, Array.length_toList]
  have hr : (execOp (Act.mk l.toArray []).eval o).run P w = .ok .skip (w.setRow b cs') := by
    simp [execOp, ho, hx, hy, Instr.storeAt, Instr.sureAddr, storeVar, run_sizeOf hs, hsz, hv, hst, ← hcs]
  have hg : w.grownBy (w.setRow b cs') (some b) := ⟨rfl, rfl, rfl, by simp [World.setRow], fun k _ hk => setRow_other w b k _ (fun e => hk (by rw [e]))⟩
  have hS' : SM W row (w.setRow b cs') := hS.of_grown hg (by
    rcases hrow with h | h
    · exact .inl h
    · exact .inr (fun k e => by cases e; exact h))
  exact su hi hw hd hr hS' (h _ hg (setRow_heap w b cs _ t (0, 0) hxb) hS')
theorem sap0 {i : Nat} {π : Sch} {l : List Value} {w : World} {o : Oper} {d : Tmp} {t e t' : TypeId} {s x : Operand} {v : Value} {base size n m b c : Nat} {xs : List Value} {cs : Array Value} (hS : SM W row w) (hi : ops[i]? = some o) (hg : o.guard = none) (hd : o.dst = some d)
    (ho : o.op = .call { callee := .builtin .append, args := #[s, x], argTypes := #[t, t] }) (hs : (Act.mk l.toArray []).eval s = v) (hx : (Act.mk l.toArray []).eval x = .slice (some ⟨b, 0, none⟩) m c) (hT : elT P t e size = true)
    (how : w.ownsRow base e size v n xs) (hxb : w.heap[b]? = some (.cells cs t' (0, 0))) (hl : cs.size = m * size) (h1 : cs.toList.all (·.oneCell') = true) (hm : 0 < m) (hn : n + m ≤ 1000000000) (hb : base ≤ w.heap.size) (hrow : v.ownBlock ∈ row ∨ ∀ k, v.ownBlock = some k → W.heap.size ≤ k)
    (h : ∀ g cap w', w'.ownsRow base e size (.slice (some ⟨g, 0, none⟩) (n + m) cap) (n + m) (xs ++ cs.toList) → w.grownBy w' v.ownBlock → (v.ownBlock = some g ∨ g = w.heap.size) → g < w'.heap.size → SM W row w' →
      wpSch P ops Q (SM W row) π ⟨(l.set d (.slice (some ⟨g, 0, none⟩) (n + m) cap)).toArray, []⟩ w') : wpSch P ops Q (SM W row) (.cons (i, true) π) ⟨l.toArray, []⟩ w := by
  obtain ⟨hu, i0, z, by_, h1i, h2i, h3i, h4i, h5i, h6i, h7i⟩ := elT_of hT
  have hw : Region.wanted o (yielded ops l.toArray) = true := by simp [Region.wanted, hg]
  show wpOp P ops Q i _ _ w
  unfold wpOp
  simp only [hi, hw, if_true]
  left
  refine wp_append_lies w s x t ho base e i0 z size by_ hu h1i h2i h3i h4i h5i h6i v n xs hs how ⟨b, 0, none⟩ m c cs.toList hx (by rw [Array.length_toList, hl]) (World.news_of_block hxb) (fun u hu => List.all_eq_true.1 h1 u hu) hm (by unfold maxLen; omega) ?_ hb _ rfl (fun g cap w' a1 a2 a3 a4 => ?_)
  · have : (n + m) * by_ ≤ 1000000000 * 1000 := Nat.mul_le_mul hn h7i
    omega
  · have hS' := hS.of_grown a2 hrow
    refine ⟨hS', ?_⟩
    have := h g cap w' a1 a2 a3 a4 hS'
    rw [hd]; simpa [Act.put] using this
theorem sapR0 {i : Nat} {π : Sch} {l : List Value} {w : World} {o : Oper} {d : Tmp} {t e : TypeId} {s x : Operand} {v : Value} {base size n m c : Nat} {A : Option Addr} {xs news : List Value} (hS : SM W row w) (hi : ops[i]? = some o) (hg : o.guard = none) (hd : o.dst = some d)
    (ho : o.op = .call { callee := .builtin .append, args := #[s, x], argTypes := #[t, t] }) (hs : (Act.mk l.toArray []).eval s = v) (hx : (Act.mk l.toArray []).eval x = .slice A m c) (hT : elT P t e size = true)
    (how : w.ownsRow base e size v n xs) (hrd : Rd w size A m news) (hf : Fm A m c) (h1 : ∀ u ∈ news, u.oneCell' = true) (hn : n + m ≤ 1000000000) (hb : base ≤ w.heap.size) (hrow : v.ownBlock ∈ row ∨ ∀ k, v.ownBlock = some k → W.heap.size ≤ k)
    (h : ∀ A' c' w', w'.ownsRow base e size (.slice A' (n + m) c') (n + m) (xs ++ news) → w.grownBy w' v.ownBlock → ((Value.slice A' (n + m) c').ownBlock = v.ownBlock ∨ (Value.slice A' (n + m) c').ownBlock = some w.heap.size) → SM W row w' →
      wpSch P ops Q (SM W row) π ⟨(l.set d (.slice A' (n + m) c')).toArray, []⟩ w') : wpSch P ops Q (SM W row) (.cons (i, true) π) ⟨l.toArray, []⟩ w := by
  obtain ⟨hu, i0, z, by_, h1i, h2i, h3i, h4i, h5i, h6i, h7i⟩ := elT_of hT
  have hw : Region.wanted o (yielded ops l.toArray) = true := by simp [Region.wanted, hg]
  cases A with
  | none =>
    obtain rfl : c = 0 := hf.nil rfl
    obtain rfl : m = 0 := by have := hf.le; omega
    obtain rfl : news = [] := List.eq_nil_of_length_eq_zero (by have := hrd.1; omega)
    obtain ⟨A', c', rfl⟩ := own_form how
    have hrun := run_append_owned_none (P := P) (w := w) base t o.type e i0 size hu h1i _ n xs how
    have hr : (execOp (Act.mk l.toArray []).eval o).run P w = .ok (.value (.slice A' n c')) w := by
      simp [execOp, ho, resolve, invoke, builtin, hs, hx, hrun, Result.andThen]
    refine sl hi hw hd hr hS ?_
    exact h A' c' w (by simpa using how) (World.grownBy.refl _ _) (.inl rfl) hS
  | some ad =>
    have hnews : ∀ j u, news[j]? = some u → w.cell? (ad.add j) = some u := fun j u hu => by
      have hlt : j < news.length := (List.getElem?_eq_some_iff.1 hu).1
      have hm : 0 < m := by
        rcases Nat.eq_zero_or_pos m with e | e
        · subst e; have := hrd.1; omega
        · exact e
      obtain ⟨b, off, e, _, hc⟩ := hrd.2 hm
      cases e
      rw [Addr.add_lit]; exact hc j u hu
    have hby : (n + m) * by_ ≤ 140737488355328 := Nat.le_trans (Nat.mul_le_mul hn h7i) (by decide)
    obtain ⟨v', w', hrun, a2, a3, _, a5⟩ := run_append_own_at (P := P) w base t o.type e i0 z size by_ hu h1i h2i h3i h4i h5i h6i v n xs how ad m c news hrd.1 hnews h1 (by unfold maxLen; omega) hby hb
    obtain ⟨A', c', rfl⟩ := own_form a2
    have hr : (execOp (Act.mk l.toArray []).eval o).run P w = .ok (.value (.slice A' (n + m) c')) w' := by
      simp [execOp, ho, resolve, invoke, builtin, hs, hx, hrun, Result.andThen]
    have hS' := hS.of_grown a3 hrow
    exact sl hi hw hd hr hS' (h A' c' w' a2 a3 a5 hS')
theorem region_sch {id : Nat} {l : List Value} (π : Sch) (hm : P.follows .mixedOrders = true) (hs : Region.noSelect ops = true) (hQ : ∀ c d v a w, Q (.panic c) (Act.put a d v) w → Q (.panic c) a w)
    (hok : schOk .any ops ops.size π (Array.replicate ops.size false) = true) (h : ∀ w, w.heap = W.heap → SM W row w → Ws P ops Q (SM W row) π l w) : (Code.region id ops true).wp P Q ⟨l.toArray, []⟩ W :=
  region_sch0 π hm hs hQ hok (fun w e s => (h w e s).out)
theorem region_plain {id : Nat} {l : List Value} (π : List (Nat × Bool)) (hn : π.map (·.1) = List.range ops.size) (h : Ws P ops Q (SM W row) (Sch.of π) l W) : (Code.region id ops false).wp P Q ⟨l.toArray, []⟩ W := region_plain0 π hn h.out
theorem sn {i : Nat} {π : Sch} {l : List Value} {w : World} {o : Oper} {d : Tmp} (mk : Nat → Value) (cs : Array Value) (t : TypeId) (hS : SM W row w) (hi : ops[i]? = some o) (hw : Region.wanted o (yielded ops l.toArray) = true) (hd : o.dst = some d)
    (hr : ∀ w, (execOp (Act.mk l.toArray []).eval o).run P w = .ok (.value (mk w.heap.size)) (w.alloc (.cells cs t (0, 0))))
    (h : ∀ b w', w.heap.size = b → Below w.heap.size w w' → w'.heap[b]? = some (.cells cs t (0, 0)) → SM W row w' → Ws P ops Q (SM W row) π (l.set d (mk b)) w') : Ws P ops Q (SM W row) (.cons (i, true) π) l w :=
  ⟨sn0 mk cs t hS hi hw hd hr (fun b w' a1 a2 a3 a4 => (h b w' a1 a2 a3 a4).out)⟩
theorem ss {i : Nat} {π : Sch} {l : List Value} {w : World} {o : Oper} {ty t : TypeId} {x y : Operand} {b j : Nat} {v : Value} {news : List Value} {cs cs' : Array Value} (hS : SM W row w) (hi : ops[i]? = some o) (hw : Region.wanted o (yielded ops l.toArray) = true) (hd : o.dst = none)
    (ho : o.op = .store ty x y) (hx : (Act.mk l.toArray []).eval x = .pointer (some ⟨b, j, none⟩)) (hy : (Act.mk l.toArray []).eval y = v) (hxb : w.heap[b]? = some (.cells cs t (0, 0))) (hv : v.cells.toList = news) (hs : sizeB P ty = some news.length)
    (hf : j + news.length ≤ cs.size) (h1 : news.all (·.oneCell') = true) (hcs : (cs.toList.take j ++ news ++ cs.toList.drop (j + news.length)).toArray = cs') (hrow : some b ∈ row ∨ W.heap.size ≤ b)
    (h : ∀ w', w.grownBy w' (some b) → w'.heap[b]? = some (.cells cs' t (0, 0)) → SM W row w' → Ws P ops Q (SM W row) π l w') : Ws P ops Q (SM W row) (.cons (i, true) π) l w :=
  ⟨ss0 hS hi hw hd ho hx hy hxb hv hs hf h1 hcs hrow (fun w' a1 a2 a3 => (h w' a1 a2 a3).out)⟩
theorem sap {i : Nat} {π : Sch} {l : List Value} {w : World} {o : Oper} {d : Tmp} {t e t' : TypeId} {s x : Operand} {v : Value} {base size n m b c : Nat} {xs : List Value} {cs : Array Value} (hS : SM W row w) (hi : ops[i]? = some o) (hg : o.guard = none) (hd : o.dst = some d)
    (ho : o.op = .call { callee := .builtin .append, args := #[s, x], argTypes := #[t, t] }) (hs : (Act.mk l.toArray []).eval s = v) (hx : (Act.mk l.toArray []).eval x = .slice (some ⟨b, 0, none⟩) m c) (hT : elT P t e size = true)
    (how : w.ownsRow base e size v n xs) (hxb : w.heap[b]? = some (.cells cs t' (0, 0))) (hl : cs.size = m * size) (h1 : cs.toList.all (·.oneCell') = true) (hm : 0 < m) (hn : n + m ≤ 1000000000) (hb : base ≤ w.heap.size) (hrow : v.ownBlock ∈ row ∨ ∀ k, v.ownBlock = some k → W.heap.size ≤ k)
    (h : ∀ g cap w', w'.ownsRow base e size (.slice (some ⟨g, 0, none⟩) (n + m) cap) (n + m) (xs ++ cs.toList) → w.grownBy w' v.ownBlock → (v.ownBlock = some g ∨ g = w.heap.size) → g < w'.heap.size → SM W row w' →
      Ws P ops Q (SM W row) π (l.set d (.slice (some ⟨g, 0, none⟩) (n + m) cap)) w') : Ws P ops Q (SM W row) (.cons (i, true) π) l w :=
  ⟨sap0 hS hi hg hd ho hs hx hT how hxb hl h1 hm hn hb hrow (fun g cap w' a1 a2 a3 a4 a5 => (h g cap w' a1 a2 a3 a4 a5).out)⟩
theorem sapR {i : Nat} {π : Sch} {l : List Value} {w : World} {o : Oper} {d : Tmp} {t e : TypeId} {s x : Operand} {v : Value} {base size n m c : Nat} {A : Option Addr} {xs news : List Value} (hS : SM W row w) (hi : ops[i]? = some o) (hg : o.guard = none) (hd : o.dst = some d)
    (ho : o.op = .call { callee := .builtin .append, args := #[s, x], argTypes := #[t, t] }) (hs : (Act.mk l.toArray []).eval s = v) (hx : (Act.mk l.toArray []).eval x = .slice A m c) (hT : elT P t e size = true)
    (how : w.ownsRow base e size v n xs) (hrd : Rd w size A m news) (hf : Fm A m c) (h1 : ∀ u ∈ news, u.oneCell' = true) (hn : n + m ≤ 1000000000) (hb : base ≤ w.heap.size) (hrow : v.ownBlock ∈ row ∨ ∀ k, v.ownBlock = some k → W.heap.size ≤ k)
    (h : ∀ A' c' w', w'.ownsRow base e size (.slice A' (n + m) c') (n + m) (xs ++ news) → w.grownBy w' v.ownBlock → ((Value.slice A' (n + m) c').ownBlock = v.ownBlock ∨ (Value.slice A' (n + m) c').ownBlock = some w.heap.size) → SM W row w' →
      Ws P ops Q (SM W row) π (l.set d (.slice A' (n + m) c')) w') : Ws P ops Q (SM W row) (.cons (i, true) π) l w :=
  ⟨sapR0 hS hi hg hd ho hs hx hT how hrd hf h1 hn hb hrow (fun A' c'' w' a1 a2 a3 a4 => (h A' c'' w' a1 a2 a3 a4).out)⟩
end
end M
end Go.Proofs.YtdlcldaogcbnlaaDoor
namespace Go.Proofs.YtdlcldaogcbnlaaDoor
open Go.RowKit
set_option linter.unusedVariables false
theorem fr_skip (U : Nat → Value) (upd : List (Nat × Value)) (i : Nat) (v : Value) : ∀ n j, i < j → fr U ((i, v) :: upd) n j = fr U upd n j
  | 0, _, _ => rfl
  | n + 1, j, h => by
    unfold fr
    rw [fr_skip U upd i v n (j + 1) (by omega)]
    have : Nat.beq j i = false := by rw [Nat.beq_eq_false_iff_ne]; omega
    show (bif Nat.beq j i then v else lk upd j (U j)) :: _ = _
    rw [this]; rfl
where
  Nat.beq_eq_false_iff_ne {a b : Nat} : Nat.beq a b = false ↔ a ≠ b := by
    rw [← Bool.not_eq_true, Nat.beq_eq]
theorem fr_set (U : Nat → Value) (upd : List (Nat × Value)) (v : Value) : ∀ n i k, (fr U upd n i).set k v = fr U ((i + k, v) :: upd) n i
  | 0, _, _ => rfl
  | n + 1, i, 0 => by
    show v :: fr U upd n (i + 1) = (bif Nat.beq i (i + 0) then v else _) :: fr U ((i + 0, v) :: upd) n (i + 1)
    simp only [Nat.add_zero]
    rw [fr_skip U upd i v n (i + 1) (by omega), Nat.beq_refl]; rfl
  | n + 1, i, k + 1 => by
    show lk upd i (U i) :: (fr U upd n (i + 1)).set k v = (bif Nat.beq i (i + (k + 1)) then v else lk upd i (U i)) :: fr U ((i + (k + 1), v) :: upd) n (i + 1)
    have : Nat.beq i (i + (k + 1)) = false := by rw [← Bool.not_eq_true, Nat.beq_eq]; omega
    rw [fr_set U upd v n (i + 1) k, this, show i + 1 + k = i + (k + 1) by omega]; rfl
theorem fr_len (U : Nat → Value) (upd : List (Nat × Value)) : ∀ n i, (fr U upd n i).length = n
  | 0, _ => rfl
  | n + 1, i => by unfold fr; rw [List.length_cons, fr_len U upd n (i + 1)]
theorem fr_get (U : Nat → Value) (upd : List (Nat × Value)) : ∀ n i k, k < n → (fr U upd n i)[k]? = some (lk upd (i + k) (U (i + k)))
  | 0, _, _, h => absurd h (by omega)
  | n + 1, i, 0, _ => rfl
  | n + 1, i, k + 1, h => by
    unfold fr
    rw [List.getElem?_cons_succ, fr_get U upd n (i + 1) k (by omega), show i + 1 + k = i + (k + 1) by omega]
def evF (n : Nat) (U : Nat → Value) (upd : List (Nat × Value)) : Operand → Value
  | .tmp t => bif Nat.blt t n then lk upd t (U t) else undef
  | .const v => v
  | .global g => .pointer (some ⟨g, 0, none⟩)
  | .func f => .func (.func f) #[] #[]
theorem ev_fr (U : Nat → Value) (upd : List (Nat × Value)) (n : Nat) (x : Operand) : (Act.mk (fr U upd n 0).toArray []).eval x = evF n U upd x := by
  cases x with
  | tmp t =>
    show (fr U upd n 0).toArray.getD t undef = bif Nat.blt t n then lk upd t (U t) else undef
    have e : (fr U upd n 0).toArray.getD t undef = (fr U upd n 0)[t]?.getD undef := by simp
    rw [e]
    by_cases h : t < n
    · rw [fr_get U upd n 0 t h, Nat.zero_add]
      have : Nat.blt t n = true := by simpa [Nat.blt_eq] using h
      rw [this]; rfl
    · have : Nat.blt t n = false := by rw [← Bool.not_eq_true, Nat.blt_eq]; exact h
      rw [this, List.getElem?_eq_none (by rw [fr_len]; exact Nat.le_of_not_lt h)]; rfl
  | const v => rfl
  | global g => rfl
  | func f => rfl
theorem ev_any {U : Nat → Value} {upd : List (Nat × Value)} {n : Nat} {x : Operand} {v : Value} (h : evF n U upd x = v) : (Act.mk (fr U upd n 0).toArray []).eval x = v := (ev_fr U upd n x).trans h
def yiF (n : Nat) (U : Nat → Value) (upd : List (Nat × Value)) (ops : Array Oper) (j : Nat) : Option Bool :=
  match (ops[j]?).bind (·.dst) with
  | some d => (match (bif Nat.blt d n then lk upd d (U d) else undef) with | .bool b => bif Nat.blt d n then some b else none | _ => none)
  | none => none
theorem yi_fr (U : Nat → Value) (upd : List (Nat × Value)) (n : Nat) (ops : Array Oper) (j : Nat) : yielded ops (fr U upd n 0).toArray j = yiF n U upd ops j := by
  unfold yielded yiF
  cases (ops[j]?).bind (·.dst) with
  | none => rfl
  | some d =>
    show (match (fr U upd n 0).toArray[d]? with | some (.bool b) => some b | _ => none) = _
    rw [List.getElem?_toArray]
    by_cases h : d < n
    · rw [fr_get U upd n 0 d h, Nat.zero_add]
      have : Nat.blt d n = true := by simpa [Nat.blt_eq] using h
      simp only [this, cond_true]
      cases lk upd d (U d) <;> rfl
    · have : Nat.blt d n = false := by rw [← Bool.not_eq_true, Nat.blt_eq]; exact h
      have h2 : (fr U upd n 0)[d]? = none := List.getElem?_eq_none (by rw [fr_len]; exact Nat.le_of_not_lt h)
      rw [h2]
      simp only [this, cond_false]
      generalize (undef : Value) = u
      cases u <;> rfl
theorem wa_fr {U : Nat → Value} {upd : List (Nat × Value)} {n : Nat} {ops : Array Oper} {o : Oper} {b : Bool} (h : Region.wanted o (yiF n U upd ops) = b) : Region.wanted o (yielded ops (fr U upd n 0).toArray) = b := by
  rw [show yielded ops (fr U upd n 0).toArray = yiF n U upd ops from funext (yi_fr U upd n ops)]; exact h
def agree (U : Nat → Value) (upd : List (Nat × Value)) : List (Nat × Value) → Prop
  | [] => True
  | (j, v) :: r => lk upd j (U j) = v ∧ agree U upd r
theorem lk_agree {U : Nat → Value} {upd : List (Nat × Value)} : ∀ {r : List (Nat × Value)}, agree U upd r → ∀ i, lk r i (lk upd i (U i)) = lk upd i (U i)
  | [], _, _ => rfl
  | (j, v) :: r, h, i => by
    show (bif Nat.beq i j then v else lk r i (lk upd i (U i))) = _
    by_cases e : i = j
    · subst e; rw [Nat.beq_refl]; exact h.1.symm
    · have : Nat.beq i j = false := by rw [← Bool.not_eq_true, Nat.beq_eq]; exact e
      rw [this]; exact lk_agree h.2 i
theorem fr_agree {U : Nat → Value} {upd r : List (Nat × Value)} (h : agree U upd r) : ∀ n i, fr U upd n i = fr (fun i => lk upd i (U i)) r n i
  | 0, _ => rfl
  | n + 1, i => by unfold fr; rw [fr_agree h n (i + 1), lk_agree h i]
section
variable {P : Program} {ops : Array Oper} {Q : Exit → Act → World → Prop} {W : World} {row : Option Nat} {S : World → Prop} {U : Nat → Value} {upd : List (Nat × Value)} {n : Nat}
theorem F.nx {π : Sch} {w : World} {d : Nat} {v : Value} (h : Ws P ops Q S π (fr U ((d, v) :: upd) n 0) w) : Ws P ops Q S π ((fr U upd n 0).set d v) w := by
  rw [fr_set U upd v n 0 d, Nat.zero_add]; exact h
theorem F.endF {w : World} (r : List (Nat × Value)) (h : ∀ U, Q .normal ⟨(fr U r n 0).toArray, []⟩ w) (hr : agree U upd r := by repeat (first | exact trivial | refine And.intro (by kernel_rfl) ?_)) : Ws P ops Q S .nil (fr U upd n 0) w :=
  ⟨Go.Proofs.YtdlcldaogcbnlaaDoor.sch_end (by rw [fr_agree hr n 0]; exact h _)⟩
theorem F.q {i : Nat} {π : Sch} {w : World} {o : Oper} {v : Value} {d : Tmp} (hi : ops[i]? = some o := by exact rfl) (hr : ∀ w, S w → (execOp (Act.mk (fr U upd n 0).toArray []).eval o).run P w = .ok (.value v) w)
    (hw : Region.wanted o (yiF n U upd ops) = true := by kernel_rfl) (hd : o.dst = some d := by exact rfl) (h : Ws P ops Q S π (fr U ((d, v) :: upd) n 0) w) : Ws P ops Q S (.cons (i, false) π) (fr U upd n 0) w := W.sq hi hr (wa_fr hw) hd rfl (F.nx h)
theorem F.mv {i : Nat} {π : Sch} {w : World} {o : Oper} {x : Operand} {v : Value} {d : Tmp} (hi : ops[i]? = some o := by exact rfl) (ho : o.op = .move x := by exact rfl) (hx : evF n U upd x = v := by kernel_rfl)
    (hw : Region.wanted o (yiF n U upd ops) = true := by kernel_rfl) (hd : o.dst = some d := by exact rfl) (h : Ws P ops Q S π (fr U ((d, v) :: upd) n 0) w) : Ws P ops Q S (.cons (i, false) π) (fr U upd n 0) w := W.sq hi (r_move ho (ev_any hx)) (wa_fr hw) hd rfl (F.nx h)
theorem F.as {i : Nat} {π : Sch} {w : World} {o : Oper} {x : Operand} {v : Value} {d : Tmp} (hi : ops[i]? = some o := by exact rfl) (ho : o.op = .assign x := by exact rfl) (hx : evF n U upd x = v := by kernel_rfl)
    (hw : Region.wanted o (yiF n U upd ops) = true := by kernel_rfl) (hd : o.dst = some d := by exact rfl) (h : Ws P ops Q S π (fr U ((d, v) :: upd) n 0) w) : Ws P ops Q S (.cons (i, false) π) (fr U upd n 0) w := W.sq hi (r_assign ho (ev_any hx)) (wa_fr hw) hd rfl (F.nx h)
theorem F.ld {i : Nat} {π : Sch} {w : World} {o : Oper} {x : Operand} {t : TypeId} {p : Addr} {v : Value} {d : Tmp} (hi : ops[i]? = some o := by exact rfl) (ho : o.op = .load t x := by exact rfl) (hx : evF n U upd x = .pointer (some p) := by kernel_rfl) (ht : aggB P t = some false := by kernel_rfl) (hc : ∀ w, S w → w.cell? p = some v)
    (hw : Region.wanted o (yiF n U upd ops) = true := by kernel_rfl) (hd : o.dst = some d := by exact rfl) (h : Ws P ops Q S π (fr U ((d, v) :: upd) n 0) w) : Ws P ops Q S (.cons (i, false) π) (fr U upd n 0) w := W.sq hi (r_load ho (ev_any hx) ht hc) (wa_fr hw) hd rfl (F.nx h)
theorem F.sp {i : Nat} {b : Bool} {π : Sch} {w : World} {o : Oper} {d : Tmp} (hS : S w) (hi : ops[i]? = some o := by exact rfl) (hw : Region.wanted o (yiF n U upd ops) = false := by kernel_rfl) (hd : o.dst = some d := by exact rfl) (h : Ws P ops Q S π (fr U ((d, undef) :: upd) n 0) w) : Ws P ops Q S (.cons (i, b) π) (fr U upd n 0) w := W.sk hS hi (wa_fr hw) hd rfl (F.nx h)
end
end Go.Proofs.YtdlcldaogcbnlaaDoor
namespace Go.Proofs.YtdlcldaogcbnlaaDoor
open Go.RowKit
set_option linter.unusedVariables false
theorem F.begin {P : Program} {Q : Exit → Act → World → Prop} {c : Code} {l : List Value} {w : World} (n : Nat) (upd : List (Nat × Value)) (h : ∀ U, c.wp P Q ⟨(fr U upd n 0).toArray, []⟩ w) (hl : l = fr (fun i => l.getD i undef) upd n 0 := by kernel_rfl) : c.wp P Q ⟨l.toArray, []⟩ w := by
  rw [hl]; exact h _
section
variable {P : Program} {ops : Array Oper} {Q : Exit → Act → World → Prop} {S : World → Prop} {U : Nat → Value} {upd : List (Nat × Value)} {n : Nat}
theorem F.es {w : World} (h : Q .normal ⟨(fr U upd n 0).toArray, []⟩ w) : Ws P ops Q S .nil (fr U upd n 0) w := ⟨Go.Proofs.YtdlcldaogcbnlaaDoor.sch_end h⟩
end
section
variable {P : Program} {ops : Array Oper} {Q : Exit → Act → World → Prop} {S : World → Prop} {U : Nat → Value} {upd : List (Nat × Value)} {n : Nat}
theorem Fq {i : Nat} {π : Sch} {w : World} {o : Oper} {d : Tmp} (v : Value) (hr : ∀ w, S w → (execOp (Act.mk (fr U upd n 0).toArray []).eval o).run P w = .ok (.value v) w) (h : Ws P ops Q S π (fr U ((d, v) :: upd) n 0) w)
    (hi : ops[i]? = some o := by exact rfl) (hw : Region.wanted o (yiF n U upd ops) = true := by kernel_rfl) (hd : o.dst = some d := by exact rfl) : Ws P ops Q S (.cons (i, false) π) (fr U upd n 0) w := F.q hi hr hw hd h
theorem Fv {i : Nat} {π : Sch} {w : World} {o : Oper} {x : Operand} {d : Tmp} (v : Value) (h : Ws P ops Q S π (fr U ((d, v) :: upd) n 0) w) (hi : ops[i]? = some o := by exact rfl) (ho : o.op = .move x := by exact rfl) (hx : evF n U upd x = v := by kernel_rfl)
    (hw : Region.wanted o (yiF n U upd ops) = true := by kernel_rfl) (hd : o.dst = some d := by exact rfl) : Ws P ops Q S (.cons (i, false) π) (fr U upd n 0) w := F.mv hi ho hx hw hd h
theorem Fa {i : Nat} {π : Sch} {w : World} {o : Oper} {x : Operand} {d : Tmp} (v : Value) (h : Ws P ops Q S π (fr U ((d, v) :: upd) n 0) w) (hi : ops[i]? = some o := by exact rfl) (ho : o.op = .assign x := by exact rfl) (hx : evF n U upd x = v := by kernel_rfl)
    (hw : Region.wanted o (yiF n U upd ops) = true := by kernel_rfl) (hd : o.dst = some d := by exact rfl) : Ws P ops Q S (.cons (i, false) π) (fr U upd n 0) w := F.as hi ho hx hw hd h
theorem Fl {i : Nat} {π : Sch} {w : World} {o : Oper} {x : Operand} {t : TypeId} {p : Addr} {d : Tmp} (v : Value) (hc : ∀ w, S w → w.cell? p = some v) (h : Ws P ops Q S π (fr U ((d, v) :: upd) n 0) w) (hi : ops[i]? = some o := by exact rfl) (ho : o.op = .load t x := by exact rfl) (hx : evF n U upd x = .pointer (some p) := by kernel_rfl) (ht : aggB P t = some false := by kernel_rfl)
    (hw : Region.wanted o (yiF n U upd ops) = true := by kernel_rfl) (hd : o.dst = some d := by exact rfl) : Ws P ops Q S (.cons (i, false) π) (fr U upd n 0) w := F.ld hi ho hx ht hc hw hd h
theorem Fs {i : Nat} {b : Bool} {π : Sch} {w : World} {o : Oper} {d : Tmp} (hS : S w) (h : Ws P ops Q S π (fr U ((d, undef) :: upd) n 0) w) (hi : ops[i]? = some o := by exact rfl) (hw : Region.wanted o (yiF n U upd ops) = false := by kernel_rfl) (hd : o.dst = some d := by exact rfl) : Ws P ops Q S (.cons (i, b) π) (fr U upd n 0) w := F.sp hS hi hw hd h
theorem Fc {i : Nat} {π : Sch} {l : List Value} {w : World} {o : Oper} {d : Tmp} {f : FuncId} {asx : Array Operand} {ts : Array TypeId} {R : Ending → World → Prop} (vs : List Value) (hc : Calls P f vs.toArray w R) (h : ∀ e w', R e w' → ∃ v, e = .returned v ∧ S w' ∧ Ws P ops Q S π (l.set d v) w')
    (hi : ops[i]? = some o := by exact rfl) (ho : o.op = .call { callee := .value (.func f), args := asx, argTypes := ts } := by exact rfl) (hv : asx.toList.map (Act.mk l.toArray []).eval = vs := by kernel_rfl) (he : enters P f = true := by kernel_rfl)
    (hw : Region.wanted o (yielded ops l.toArray) = true := by kernel_rfl) (hd : o.dst = some d := by exact rfl) : Ws P ops Q S (.cons (i, true) π) l w := W.sc hi ho hv he hw hd hc h
theorem ek {x : Operand} {v : Value} (h : evF n U upd x = v := by kernel_rfl) : (Act.mk (fr U upd n 0).toArray []).eval x = v := ev_any h
end
theorem kk {α : Sort _} {a b : α} (h : a = b := by kernel_rfl) : a = b := h
theorem wk {P : Program} {Q : Exit → Act → World → Prop} {a : Act} {w : World} {x y : Code} (h : ∀ K : Act → World → Prop, (∀ a w, y.wp P Q a w → K a w) → x.wp P (Exit.then K Q) a w) : (Code.seq x y).wp P Q a w := wp_seq_k h
def Kn (a : Act) (r : List (Nat × Value)) (n : Nat) : Prop := ∃ U : Nat → Value, a = ⟨(fr U r n 0).toArray, []⟩
theorem Kn.of {U : Nat → Value} {upd r : List (Nat × Value)} {n : Nat} (hr : agree U upd r := by repeat (first | exact trivial | refine And.intro (by kernel_rfl) ?_)) : Kn ⟨(fr U upd n 0).toArray, []⟩ r n :=
  ⟨_, by rw [fr_agree hr n 0]⟩
theorem nkk {p : Nat → Prop} : ∀ k, (none : Option Nat) = some k → p k := fun k e => by cases e
theorem onn {b : Nat} : some b ≠ none := Option.some_ne_none _
def qs : Nat → Nat → Sch
  | _, 0 => .nil
  | i, k + 1 => .cons (i, false) (qs (i + 1) k)
theorem qs_of : ∀ k i, Sch.of ((List.range' i k).map (fun j => (j, false))) = qs i k
  | 0, _ => rfl
  | k + 1, i => by
    rw [List.range'_succ, List.map_cons]
    show Sch.cons (i, false) (Sch.of _) = _
    rw [qs_of k (i + 1)]; rfl
theorem Rq {P : Program} {ops : Array Oper} {Q : Exit → Act → World → Prop} {W : World} {id : Nat} {l : List Value} (n : Nat) (h : Ws P ops Q (fun w => w = W) (qs 0 n) l W) (hn : ops.size = n := by kernel_rfl) : (Code.region id ops false).wp P Q ⟨l.toArray, []⟩ W :=
  Go.Proofs.YtdlcldaogcbnlaaDoor.W.region_quiet ((List.range' 0 n).map (fun j => (j, false))) (by rw [hn, List.map_map, List.range_eq_range']; exact List.map_id _) (by rw [qs_of]; exact h)
theorem Sb {W w w0 : World} {row : Option Nat} (c : Below w0.heap.size w0 W) (h : SG W row w) (hr : ∀ k, row = some k → w0.heap.size ≤ k) : Below w0.heap.size w0 w := SG.belowR c h hr
theorem Nl {a b c : Nat} (h : a ≤ b) (g : b ≤ c) : a ≤ c := Nat.le_trans h g
theorem dt {p : Prop} [Decidable p] (h : p) : decide p = true := decide_eq_true h
theorem df {p : Prop} [Decidable p] (h : ¬ p) : decide p = false := decide_eq_false h
theorem Sk {W w : World} {row : Option Nat} (h : SG W row w) {b : Nat} {o : Obj} (hc : W.heap[b]? = some o) (hne : some b ≠ row) : w.heap[b]? = some o := SG.blk h hc hne
theorem Rk {w w' : World} {size n : Nat} {A : Option Addr} {xs : List Value} (h : Rd w size A n xs) (hb : Below w.heap.size w w') : Rd w' size A n xs := h.kept hb
end Go.Proofs.YtdlcldaogcbnlaaDoor
namespace Go.Proofs.YtdlcldaogcbnlaaDoor
open Go.RowKit
set_option linter.unusedVariables false
def pipeOk (m : Int) (p : Pp) : Bool := inB p.id 1 99 && (inB p.fr 1 m && (inB p.to 1 m && (decide (p.fr ≠ p.to) && inB p.sz 1 9)))
def okAt (m : Int) (ps : List Pp) : Nat → Bool
  | 0 => match ps[0]? with | some p => pipeOk m p | none => true
  | k + 1 => match ps[k + 1]?, ps[k]? with | some p, some q => pipeOk m p && decide (q.id < p.id) | _, _ => true
def okTo (m : Int) (ps : List Pp) : Nat → Bool
  | 0 => true
  | k + 1 => okTo m ps k && okAt m ps k
def goodN (m : Int) (ps : List Pp) : Bool := inB m 1 8 && (decide (ps.length ≤ 10) && okTo m ps ps.length)
theorem okTo_bad {m : Int} {ps : List Pp} {k : Nat} (h : okAt m ps k = false) : ∀ n, k < n → okTo m ps n = false
  | 0, hk => absurd hk (by omega)
  | n + 1, hk => by
    by_cases e : k = n
    · subst e; unfold okTo; rw [h]; simp
    · unfold okTo; rw [okTo_bad h n (by omega)]; rfl
theorem goodN_bad {m : Int} {ps : List Pp} {k : Nat} (hk : k < ps.length) (h : okAt m ps k = false) : goodN m ps = false := by
  unfold goodN; rw [okTo_bad h _ hk]; simp
theorem okAt_zero {m : Int} {ps : List Pp} {x : Pp} (h : ps[0]? = some x) : okAt m ps 0 = pipeOk m x := by unfold okAt; rw [h]
theorem okAt_next {m : Int} {ps : List Pp} {k : Nat} {x y : Pp} (h : ps[k + 1]? = some x) (h' : ps[k]? = some y) : okAt m ps (k + 1) = (pipeOk m x && decide (y.id < x.id)) := by simp [okAt, h, h']
theorem okTo_next {m : Int} {ps : List Pp} {k : Nat} (h : okTo m ps k = true) (h' : okAt m ps k = true) : okTo m ps (k + 1) = true := by unfold okTo; rw [h, h']; rfl
theorem okAt_pipe {m : Int} {ps : List Pp} {k : Nat} {x : Pp} (h : ps[k]? = some x) (hx : pipeOk m x = false) : okAt m ps k = false := by
  rcases k with _ | k
  · rw [okAt_zero h, hx]
  · have hk : k + 1 < ps.length := (List.getElem?_eq_some_iff.1 h).1
    have hy : ps[k]? = some ps[k] := List.getElem?_eq_getElem (by omega)
    rw [okAt_next h hy, hx]; rfl
theorem goodN_fin {m : Int} {ps : List Pp} {n K : Nat} (hl : ps.length = n) (hK : K ≤ n) (hok : okTo m ps K = true) (hx : ¬ (K < n) ∨ 10 < n) : goodN m ps = (inB m 1 8 && decide ((n : Int) ≤ (10 : Int))) := by
  unfold goodN
  rw [hl]
  rcases hx with hx | hx
  · obtain rfl : K = n := by omega
    rw [hok, Bool.and_true]
    congr 1
    exact decide_eq_decide.2 (by omega)
  · rw [decide_eq_false (by omega), decide_eq_false (by omega), Bool.false_and]
theorem goodN_out {m : Int} {ps : List Pp} {n : Nat} (hl : ps.length = n) (h : inB m 1 8 = false ∨ 10 < n) : goodN m ps = false := by
  unfold goodN
  rw [hl]
  rcases h with h | h
  · rw [h]; rfl
  · rw [decide_eq_false (by omega)]; simp
def findL : List Pp → Int → Int
  | [], _ => -1
  | p :: ps, v => if p.id = v then 0 else if findL ps v < 0 then -1 else findL ps v + 1
theorem findL_at : ∀ {ps : List Pp} {v : Int} {k : Nat} {x : Pp}, (∀ j z, j < k → ps[j]? = some z → z.id ≠ v) → ps[k]? = some x → x.id = v → findL ps v = (k : Int)
  | [], v, k, x, _, hx, _ => by simp at hx
  | p :: ps, v, 0, x, _, hx, e => by simp at hx; subst hx; unfold findL; rw [if_pos e]; rfl
  | p :: ps, v, k + 1, x, h, hx, e => by
    have h0 := h 0 p (by omega) rfl
    have ih := findL_at (ps := ps) (v := v) (k := k) (fun j z hj hz => h (j + 1) z (by omega) (by simpa using hz)) (by simpa using hx) e
    unfold findL; rw [if_neg h0, ih, if_neg (by omega)]; omega
theorem findL_no : ∀ {ps : List Pp} {v : Int}, (∀ z, z ∈ ps → z.id ≠ v) → findL ps v = -1
  | [], v, _ => rfl
  | p :: ps, v, h => by
    have ih := findL_no (ps := ps) (v := v) (fun z hz => h z (by simp [hz]))
    unfold findL; rw [if_neg (h p (by simp)), ih]; rfl
theorem findL_none {ps : List Pp} {v : Int} {n k : Nat} (hl : ps.length = n) (h : ∀ j z, j < k → ps[j]? = some z → z.id ≠ v) (hk : n ≤ k) : findL ps v = -1 :=
  findL_no (fun z hz => by
    obtain ⟨j, hj, e⟩ := List.getElem_of_mem hz
    exact h j z (by omega) (by rw [List.getElem?_eq_getElem hj, e]))
theorem inB_iff {x a b : Int} : inB x a b = true ↔ a ≤ x ∧ x ≤ b := inB_yes
theorem okTo_at {m : Int} {ps : List Pp} : ∀ {n k : Nat}, okTo m ps n = true → k < n → okAt m ps k = true
  | 0, k, _, hk => absurd hk (by omega)
  | n + 1, k, h, hk => by
    unfold okTo at h
    rw [Bool.and_eq_true] at h
    by_cases e : k = n
    · subst e; exact h.2
    · exact okTo_at h.1 (by omega)
structure GoodNet (m : Int) (ps : List Pp) : Prop where
  lo : 1 ≤ m
  hi : m ≤ 8
  len : ps.length ≤ 10
  ok : ∀ p, p ∈ ps → pipeOk m p = true
  rise : rises ps
theorem good_of {m : Int} {ps : List Pp} (h : goodN m ps = true) : GoodNet m ps := by
  unfold goodN at h
  rw [Bool.and_eq_true, Bool.and_eq_true, inB_iff, decide_eq_true_iff] at h
  obtain ⟨⟨h1, h2⟩, h3, h4⟩ := h
  have hat : ∀ k, k < ps.length → okAt m ps k = true := fun k hk => okTo_at h4 hk
  refine ⟨h1, h2, h3, fun p hp => ?_, ?_⟩
  · obtain ⟨k, hk, e⟩ := List.getElem_of_mem hp
    have := hat k hk
    have hg : ps[k]? = some p := by rw [List.getElem?_eq_getElem hk, e]
    rcases k with _ | k
    · rwa [okAt_zero hg] at this
    · rw [okAt_next hg (List.getElem?_eq_getElem (show k < ps.length by omega)), Bool.and_eq_true] at this; exact this.1
  · have step : ∀ k (h : k + 1 < ps.length), ps[k].id < ps[k + 1].id := fun k hk => by
      have := hat (k + 1) hk
      rw [okAt_next (List.getElem?_eq_getElem hk) (List.getElem?_eq_getElem (show k < ps.length by omega)), Bool.and_eq_true, decide_eq_true_iff] at this
      exact this.2
    have far : ∀ d k (h : k + d + 1 < ps.length), ps[k].id < ps[k + d + 1].id := by
      intro d
      induction d with
      | zero => intro k hk; exact step k hk
      | succ d ih =>
        intro k hk
        have h1 := ih k (by omega)
        have h2 := step (k + d + 1) (by omega)
        exact Int.lt_trans h1 h2
    refine List.pairwise_iff_getElem.2 (fun i j hi hj hij => ?_)
    have := far (j - i - 1) i (by omega)
    have e : i + (j - i - 1) + 1 = j := by omega
    simp only [e] at this
    exact this
theorem GoodNet.pipe {m : Int} {ps : List Pp} (h : GoodNet m ps) {p : Pp} (hp : p ∈ ps) : (1 ≤ p.id ∧ p.id ≤ 99) ∧ (1 ≤ p.fr ∧ p.fr ≤ m) ∧ (1 ≤ p.to ∧ p.to ≤ m) ∧ p.fr ≠ p.to ∧ (1 ≤ p.sz ∧ p.sz ≤ 9) := by
  have := h.ok p hp
  unfold pipeOk at this
  simp only [Bool.and_eq_true, inB_iff, decide_eq_true_iff] at this
  exact this
theorem GoodNet.at {m : Int} {ps : List Pp} (h : GoodNet m ps) {k : Nat} {p : Pp} (hp : ps[k]? = some p) : (1 ≤ p.id ∧ p.id ≤ 99) ∧ (1 ≤ p.fr ∧ p.fr ≤ m) ∧ (1 ≤ p.to ∧ p.to ≤ m) ∧ p.fr ≠ p.to ∧ (1 ≤ p.sz ∧ p.sz ≤ 9) := h.pipe (List.mem_of_getElem? hp)
theorem other_pos {p : Pp} {u : Int} (h1 : 1 ≤ p.fr) (h2 : 1 ≤ p.to) : 0 < otherOf p u ↔ p.fr = u ∨ p.to = u := by
  unfold otherOf
  by_cases e1 : u = p.fr
  · rw [if_pos e1]; constructor
    · intro _; exact .inl e1.symm
    · intro _; omega
  · rw [if_neg e1]
    by_cases e2 : u = p.to
    · rw [if_pos e2]; constructor
      · intro _; exact .inr e2.symm
      · intro _; omega
    · rw [if_neg e2]; constructor
      · intro h; omega
      · rintro (h | h)
        · exact absurd h.symm e1
        · exact absurd h.symm e2
set_option maxRecDepth 100000 in
set_option maxHeartbeats 8000000 in
theorem has_any (m : Int) (A : Option Addr) (n c : Nat) (ps : List Pp) (v : Int) (w : World) :
    Calls Tryd.prog 48 #[.agg #[.int .i64 m, .slice A n c], .int .i64 v] w fun e w' => e = .returned (.bool (inB v 1 m)) ∧ Below w.heap.size w w' := by
 go_enter Tryd.func48, Tryd.ntmps48
 refine F.begin 9 [(0, .agg #[.int .i64 m, .slice A n c]), (1, .int .i64 v)] (fun U0 => ?_)
 refine wk fun K1 h1 => ?_
 refine W.region_plain (row := none) [(0, true), (1, false)] kk ?_
 have s1 := SG.self w none
 refine W.sn (fun b => .pointer (some ⟨b, 0, none⟩)) #[.int .i64 m, .slice A n c] 24 s1 rfl kk rfl (fun _ => by kernel_rfl) (fun b2 w3 hb4 k5 x6 s7 => ?_)
 apply F.nx
 have lo8 : w.heap.size ≤ b2 := Nl ((Sb (Below.refl _ _) s1 nkk)).size (Nat.le_of_eq hb4)
 refine Fa (.bool false) ?_
 apply F.es
 have c9 := (Sb (Below.refl _ _) s7 nkk)
 apply h1
 refine wk fun K2 h2 => ?_
 refine W.region_plain (row := none) [(0, false), (1, false), (2, false), (3, true), (4, false)] kk ?_
 have s10 := SG.self w3 none
 refine Fv (.int .i64 v) ?_
 refine Fq (.pointer (some ⟨b2, 0, none⟩)) (r_field0 rfl ek kk) ?_
 refine Fl (.int .i64 m) (sgS (blk_cell (j := 0) x6 kk) onn) ?_
 refine Fc [.int .i64 v, .int .i64 1, .int .i64 m] (inside_any v 1 m _) ?_
 rintro e w' ⟨rfl, rfl⟩
 refine ⟨_, rfl, s10, ?_⟩
 apply F.nx
 refine Fa (.bool (inB v 1 m)) ?_
 apply F.es
 have c13 := (Sb c9 s10 nkk)
 apply h2
 refine wp_ret ?_
 try simp only [Exit.then]
 refine ret1 (v := .bool (inB v 1 m)) rfl kk ?_
 exact ⟨rfl, c13⟩
set_option maxRecDepth 100000 in
set_option maxHeartbeats 8000000 in
theorem l2Pipe_any (m : Int) (p : Pp) (w : World) :
    Calls Tryd.prog 82 #[.int .i64 m, .agg #[.int .i64 p.id, .int .i64 p.fr, .int .i64 p.to, .int .i64 p.sz]] w fun e w' => e = .returned (.bool (pipeOk m p)) ∧ Below w.heap.size w w' := by
 go_enter Tryd.func82, Tryd.ntmps82
 refine F.begin 32 [(0, .int .i64 m), (1, .agg #[.int .i64 p.id, .int .i64 p.fr, .int .i64 p.to, .int .i64 p.sz])] (fun U0 => ?_)
 refine wk fun K1 h1 => ?_
 refine W.region_plain (row := none) [(0, true), (1, false)] kk ?_
 have s1 := SG.self w none
 refine W.sn (fun b => .pointer (some ⟨b, 0, none⟩)) #[.int .i64 p.id, .int .i64 p.fr, .int .i64 p.to, .int .i64 p.sz] 38 s1 rfl kk rfl (fun _ => by kernel_rfl) (fun b2 w3 hb4 k5 x6 s7 => ?_)
 apply F.nx
 have lo8 : w.heap.size ≤ b2 := Nl ((Sb (Below.refl _ _) s1 nkk)).size (Nat.le_of_eq hb4)
 refine Fa (.bool false) ?_
 apply F.es
 have c9 := (Sb (Below.refl _ _) s7 nkk)
 apply h1
 refine wk fun K2 h2 => ?_
 refine W.region_plain (row := none) [(0, false), (1, false), (2, true), (3, false), (4, false), (5, false), (6, false), (7, true), (8, false), (9, false), (10, false), (11, false), (12, false), (13, true), (14, false), (15, false), (16, false), (17, false), (18, false), (19, false), (20, false), (21, false), (22, false), (23, false), (24, false), (25, true), (26, false), (27, false)] kk ?_
 have s10 := SG.self w3 none
 refine Fq (.pointer (some ⟨b2, 0, none⟩)) (r_field0 rfl ek kk) ?_
 refine Fl (.int .i64 p.id) (sgS (blk_cell (j := 0) x6 kk) onn) ?_
 refine Fc [.int .i64 p.id, .int .i64 1, .int .i64 99] (l1In_any p.id 1 99 _) ?_
 rintro e w' ⟨rfl, rfl⟩
 refine ⟨_, rfl, s10, ?_⟩
 apply F.nx
 rcases Bool.eq_false_or_eq_true (inB p.id 1 99) with q13 | q13
 ·rw [q13]
  refine Fv (.bool true) ?_
  refine Fq (.pointer (some ⟨b2, 1, none⟩)) (r_field (k := 1) rfl ek kk) ?_
  refine Fl (.int .i64 p.fr) (sgS (blk_cell (j := 1) x6 kk) onn) ?_
  refine Fv (.int .i64 m) ?_
  refine Fc [.int .i64 p.fr, .int .i64 1, .int .i64 m] (l1In_any p.fr 1 m _) ?_
  rintro e w' ⟨rfl, rfl⟩
  refine ⟨_, rfl, s10, ?_⟩
  apply F.nx
  rcases Bool.eq_false_or_eq_true (inB p.fr 1 m) with q16 | q16
  ·rw [q16]
   refine Fq (.bool true) (r_pick (b := true) rfl ek ek) ?_
   refine Fv (.bool true) ?_
   refine Fq (.pointer (some ⟨b2, 2, none⟩)) (r_field (k := 2) rfl ek kk) ?_
   refine Fl (.int .i64 p.to) (sgS (blk_cell (j := 2) x6 kk) onn) ?_
   refine Fv (.int .i64 m) ?_
   refine Fc [.int .i64 p.to, .int .i64 1, .int .i64 m] (l1In_any p.to 1 m _) ?_
   rintro e w' ⟨rfl, rfl⟩
   refine ⟨_, rfl, s10, ?_⟩
   apply F.nx
   rcases Bool.eq_false_or_eq_true (inB p.to 1 m) with q19 | q19
   ·rw [q19]
    refine Fq (.bool true) (r_pick (b := true) rfl ek ek) ?_
    refine Fv (.bool true) ?_
    refine Fq (.pointer (some ⟨b2, 1, none⟩)) (r_field (k := 1) rfl ek kk) ?_
    refine Fl (.int .i64 p.fr) (sgS (blk_cell (j := 1) x6 kk) onn) ?_
    refine Fq (.pointer (some ⟨b2, 2, none⟩)) (r_field (k := 2) rfl ek kk) ?_
    refine Fl (.int .i64 p.to) (sgS (blk_cell (j := 2) x6 kk) onn) ?_
    by_cases q20 : (p.fr : Int) ≠ (p.to : Int)
    ·refine Fq (.bool true) (r_neq (m := p.fr) (n := p.to) rfl ek ek (dt q20)) ?_
     refine Fq (.bool true) (r_pick (b := true) rfl ek ek) ?_
     refine Fv (.bool true) ?_
     refine Fq (.pointer (some ⟨b2, 3, none⟩)) (r_field (k := 3) rfl ek kk) ?_
     refine Fl (.int .i64 p.sz) (sgS (blk_cell (j := 3) x6 kk) onn) ?_
     refine Fc [.int .i64 p.sz, .int .i64 1, .int .i64 9] (l1In_any p.sz 1 9 _) ?_
     rintro e w' ⟨rfl, rfl⟩
     refine ⟨_, rfl, s10, ?_⟩
     apply F.nx
     rcases Bool.eq_false_or_eq_true (inB p.sz 1 9) with q23 | q23
     ·rw [q23]
      refine Fq (.bool true) (r_pick (b := true) rfl ek ek) ?_
      refine Fa (.bool true) ?_
      apply F.es
      have c24 := (Sb c9 s10 nkk)
      apply h2
      refine wp_ret ?_
      try simp only [Exit.then]
      refine ret1 (v := .bool true) rfl kk ?_
      exact ⟨ret_bool (by simp [pipeOk, q13, q16, q19, q20, q23]), c24⟩
     rw [q23]
     refine Fq (.bool false) (r_pick (b := true) rfl ek ek) ?_
     refine Fa (.bool false) ?_
     apply F.es
     have c25 := (Sb c9 s10 nkk)
     apply h2
     refine wp_ret ?_
     try simp only [Exit.then]
     refine ret1 (v := .bool false) rfl kk ?_
     exact ⟨ret_bool (by simp [pipeOk, q13, q16, q19, q20, q23]), c25⟩
    refine Fq (.bool false) (r_neq (m := p.fr) (n := p.to) rfl ek ek (df q20)) ?_
    refine Fq (.bool false) (r_pick (b := true) rfl ek ek) ?_
    refine Fv (.bool false) ?_
    refine Fs s10 ?_
    refine Fs s10 ?_
    refine Fs s10 ?_
    refine Fq (.bool false) (r_pick (b := false) rfl ek ek) ?_
    refine Fa (.bool false) ?_
    apply F.es
    have c26 := (Sb c9 s10 nkk)
    apply h2
    refine wp_ret ?_
    try simp only [Exit.then]
    refine ret1 (v := .bool false) rfl kk ?_
    exact ⟨ret_bool (by simp [pipeOk, q13, q16, q19, q20]), c26⟩
   rw [q19]
   refine Fq (.bool false) (r_pick (b := true) rfl ek ek) ?_
   refine Fv (.bool false) ?_
   refine Fs s10 ?_
   refine Fs s10 ?_
   refine Fs s10 ?_
   refine Fs s10 ?_
   refine Fs s10 ?_
   refine Fq (.bool false) (r_pick (b := false) rfl ek ek) ?_
   refine Fv (.bool false) ?_
   refine Fs s10 ?_
   refine Fs s10 ?_
   refine Fs s10 ?_
   refine Fq (.bool false) (r_pick (b := false) rfl ek ek) ?_
   refine Fa (.bool false) ?_
   apply F.es
   have c27 := (Sb c9 s10 nkk)
   apply h2
   refine wp_ret ?_
   try simp only [Exit.then]
   refine ret1 (v := .bool false) rfl kk ?_
   exact ⟨ret_bool (by simp [pipeOk, q13, q16, q19]), c27⟩
  rw [q16]
  refine Fq (.bool false) (r_pick (b := true) rfl ek ek) ?_
  refine Fv (.bool false) ?_
  refine Fs s10 ?_
  refine Fs s10 ?_
  refine Fs s10 ?_
  refine Fs s10 ?_
  refine Fq (.bool false) (r_pick (b := false) rfl ek ek) ?_
  refine Fv (.bool false) ?_
  refine Fs s10 ?_
  refine Fs s10 ?_
  refine Fs s10 ?_
  refine Fs s10 ?_
  refine Fs s10 ?_
  refine Fq (.bool false) (r_pick (b := false) rfl ek ek) ?_
  refine Fv (.bool false) ?_
  refine Fs s10 ?_
  refine Fs s10 ?_
  refine Fs s10 ?_
  refine Fq (.bool false) (r_pick (b := false) rfl ek ek) ?_
  refine Fa (.bool false) ?_
  apply F.es
  have c28 := (Sb c9 s10 nkk)
  apply h2
  refine wp_ret ?_
  try simp only [Exit.then]
  refine ret1 (v := .bool false) rfl kk ?_
  exact ⟨ret_bool (by simp [pipeOk, q13, q16]), c28⟩
 rw [q13]
 refine Fv (.bool false) ?_
 refine Fs s10 ?_
 refine Fs s10 ?_
 refine Fs s10 ?_
 refine Fs s10 ?_
 refine Fq (.bool false) (r_pick (b := false) rfl ek ek) ?_
 refine Fv (.bool false) ?_
 refine Fs s10 ?_
 refine Fs s10 ?_
 refine Fs s10 ?_
 refine Fs s10 ?_
 refine Fq (.bool false) (r_pick (b := false) rfl ek ek) ?_
 refine Fv (.bool false) ?_
 refine Fs s10 ?_
 refine Fs s10 ?_
 refine Fs s10 ?_
 refine Fs s10 ?_
 refine Fs s10 ?_
 refine Fq (.bool false) (r_pick (b := false) rfl ek ek) ?_
 refine Fv (.bool false) ?_
 refine Fs s10 ?_
 refine Fs s10 ?_
 refine Fs s10 ?_
 refine Fq (.bool false) (r_pick (b := false) rfl ek ek) ?_
 refine Fa (.bool false) ?_
 apply F.es
 have c29 := (Sb c9 s10 nkk)
 apply h2
 refine wp_ret ?_
 try simp only [Exit.then]
 refine ret1 (v := .bool false) rfl kk ?_
 exact ⟨ret_bool (by simp [pipeOk, q13]), c29⟩
set_option maxRecDepth 100000 in
set_option maxHeartbeats 8000000 in
theorem other_any (p : Pp) (u : Int) (w : World) :
    Calls Tryd.prog 63 #[.agg #[.int .i64 p.id, .int .i64 p.fr, .int .i64 p.to, .int .i64 p.sz], .int .i64 u] w fun e w' => e = .returned (.int .i64 (otherOf p u)) ∧ Below w.heap.size w w' := by
 go_enter Tryd.func63, Tryd.ntmps63
 refine F.begin 18 [(0, .agg #[.int .i64 p.id, .int .i64 p.fr, .int .i64 p.to, .int .i64 p.sz]), (1, .int .i64 u)] (fun U0 => ?_)
 refine wk fun K1 h1 => ?_
 refine W.region_plain (row := none) [(0, true), (1, false)] kk ?_
 have s1 := SG.self w none
 refine W.sn (fun b => .pointer (some ⟨b, 0, none⟩)) #[.int .i64 p.id, .int .i64 p.fr, .int .i64 p.to, .int .i64 p.sz] 38 s1 rfl kk rfl (fun _ => by kernel_rfl) (fun b2 w3 hb4 k5 x6 s7 => ?_)
 apply F.nx
 have lo8 : w.heap.size ≤ b2 := Nl ((Sb (Below.refl _ _) s1 nkk)).size (Nat.le_of_eq hb4)
 refine Fa (.int .i64 0) ?_
 apply F.es
 have c9 := (Sb (Below.refl _ _) s7 nkk)
 apply h1
 refine wk fun K2 h2 => ?_
 refine wk fun K3 h3 => ?_
 refine Rq 1 ?_
 refine Fv (.int .i64 u) ?_
 apply F.es
 apply h3
 refine wp_block ?_
 refine wk fun K4 h4 => ?_
 refine Rq 4 ?_
 refine Fq (.pointer (some ⟨b2, 1, none⟩)) (r_field (k := 1) rfl ek kk) ?_
 refine Fl (.int .i64 p.fr) (eqS (blk_cell (j := 1) x6 kk)) ?_
 by_cases q10 : (u : Int) = (p.fr : Int)
 ·refine Fq (.bool true) (r_eql (m := u) (n := p.fr) rfl ek ek (dt q10)) ?_
  refine Fa (.bool true) ?_
  apply F.es
  apply h4
  refine wp_cond_true ek ?_
  refine wk fun K5 h5 => ?_
  refine Rq 3 ?_
  refine Fq (.pointer (some ⟨b2, 2, none⟩)) (r_field (k := 2) rfl ek kk) ?_
  refine Fl (.int .i64 p.to) (eqS (blk_cell (j := 2) x6 kk)) ?_
  refine Fa (.int .i64 p.to) ?_
  apply F.es
  apply h5
  refine wp_ret ?_
  try simp only [Exit.then, Exit.inBlock]
  refine ret1 (v := .int .i64 p.to) rfl kk ?_
  exact ⟨ret_int (by unfold otherOf; first | rw [if_pos q10] | rw [if_neg q10, if_pos q10] | rw [if_neg q10, if_neg q10]), c9⟩
 refine Fq (.bool false) (r_eql (m := u) (n := p.fr) rfl ek ek (df q10)) ?_
 refine Fa (.bool false) ?_
 apply F.es
 apply h4
 refine wp_cond_false ek ?_
 refine wk fun K6 h6 => ?_
 refine Rq 4 ?_
 refine Fq (.pointer (some ⟨b2, 2, none⟩)) (r_field (k := 2) rfl ek kk) ?_
 refine Fl (.int .i64 p.to) (eqS (blk_cell (j := 2) x6 kk)) ?_
 by_cases q11 : (u : Int) = (p.to : Int)
 ·refine Fq (.bool true) (r_eql (m := u) (n := p.to) rfl ek ek (dt q11)) ?_
  refine Fa (.bool true) ?_
  apply F.es
  apply h6
  refine wp_cond_true ek ?_
  refine wk fun K7 h7 => ?_
  refine Rq 3 ?_
  refine Fq (.pointer (some ⟨b2, 1, none⟩)) (r_field (k := 1) rfl ek kk) ?_
  refine Fl (.int .i64 p.fr) (eqS (blk_cell (j := 1) x6 kk)) ?_
  refine Fa (.int .i64 p.fr) ?_
  apply F.es
  apply h7
  refine wp_ret ?_
  try simp only [Exit.then, Exit.inBlock]
  refine ret1 (v := .int .i64 p.fr) rfl kk ?_
  exact ⟨ret_int (by unfold otherOf; first | rw [if_pos q10] | rw [if_neg q10, if_pos q11] | rw [if_neg q10, if_neg q11]), c9⟩
 refine Fq (.bool false) (r_eql (m := u) (n := p.to) rfl ek ek (df q11)) ?_
 refine Fa (.bool false) ?_
 apply F.es
 apply h6
 refine wp_cond_false ek ?_
 apply wp_skip
 apply h2
 refine wk fun K8 h8 => ?_
 refine Rq 1 ?_
 refine Fa (.int .i64 0) ?_
 apply F.es
 apply h8
 refine wp_ret ?_
 try simp only [Exit.then]
 refine ret1 (v := .int .i64 0) rfl kk ?_
 exact ⟨ret_int (by unfold otherOf; first | rw [if_pos q10] | rw [if_neg q10, if_pos q11] | rw [if_neg q10, if_neg q11]), c9⟩
set_option maxRecDepth 100000 in
set_option maxHeartbeats 8000000 in
theorem l2Good_any (m : Int) (A : Option Addr) (n c : Nat) (ps : List Pp) (w : World) (ha : Rd w 4 A n (pipesV ps)) (hn : n ≤ 1048576) :
    Calls Tryd.prog 45 #[.agg #[.int .i64 m, .slice A n c]] w fun e w' => e = .returned (.bool (goodN m ps)) ∧ Below w.heap.size w w' := by
 have hl := rd_pipes_len ha
 go_enter Tryd.func45, Tryd.ntmps45
 refine F.begin 53 [(0, .agg #[.int .i64 m, .slice A n c])] (fun U0 => ?_)
 refine wk fun K1 h1 => ?_
 refine W.region_plain (row := none) [(0, true), (1, false)] kk ?_
 have s1 := SG.self w none
 refine W.sn (fun b => .pointer (some ⟨b, 0, none⟩)) #[.int .i64 m, .slice A n c] 24 s1 rfl kk rfl (fun _ => by kernel_rfl) (fun b2 w3 hb4 k5 x6 s7 => ?_)
 apply F.nx
 have lo8 : w.heap.size ≤ b2 := Nl ((Sb (Below.refl _ _) s1 nkk)).size (Nat.le_of_eq hb4)
 refine Fa (.bool false) ?_
 apply F.es
 have c9 := (Sb (Below.refl _ _) s7 nkk)
 apply h1
 refine wk fun K2 h2 => ?_
 refine wk fun K3 h3 => ?_
 refine Rq 1 ?_
 refine Fa (.int .i64 0) ?_
 apply F.es
 apply h3
 refine wp_block ?_
 refine loopK (fun am0 aa0 wl0 => ∃ (K : Nat) , Kn aa0 [(0, .agg #[.int .i64 m, .slice A n c]), (1, .pointer (some ⟨b2, 0, none⟩)), (2, .bool false), (3, .int .i64 (K : Int))] 53 ∧ (am0 = n - K) ∧ (K ≤ n) ∧ (K ≤ 11) ∧ (okTo m ps K = true) ∧ (wl0.heap[b2]? = some (.cells #[.int .i64 m, .slice A n c] 24 (0, 0))) ∧ (Below w.heap.size w wl0)) (n - 0) ?_ ?_
 ·exact ⟨0, Kn.of, rfl, (Nat.zero_le _), (Nat.zero_le _), rfl, x6, c9⟩
 rintro am0 aa0 wl0 K4 h4 ⟨K, ⟨U0, rfl⟩, rfl, hk, hk11, hok, x6, c10⟩
 refine wk fun K5 h5 => ?_
 refine wk fun K6 h6 => ?_
 refine Rq 9 ?_
 refine Fv (.int .i64 (K : Int)) ?_
 refine Fq (.pointer (some ⟨b2, 1, none⟩)) (r_field (k := 1) rfl ek kk) ?_
 refine Fl (.slice A n c) (eqS (blk_cell (j := 1) x6 kk)) ?_
 refine Fq (.int .i64 (n : Int)) (r_len (A := A) (n := n) (c := c) rfl ek kk) ?_
 by_cases q11 : ((K : Int) : Int) < ((n : Int) : Int)
 ·refine Fq (.bool true) (r_lss (m := (K : Int)) (n := (n : Int)) rfl ek ek (dt q11)) ?_
  refine Fv (.bool true) ?_
  refine Fv (.int .i64 (K : Int)) ?_
  by_cases q12 : ((K : Int) : Int) ≤ (10 : Int)
  ·refine Fq (.bool true) (r_leq (m := (K : Int)) (n := 10) rfl ek ek (dt q12)) ?_
   refine Fq (.bool true) (r_pick (b := true) rfl ek ek) ?_
   apply F.es
   apply h6
   refine wp_cond_true ek ?_
   apply wp_skip
   apply h5
   refine wk fun K7 h7 => ?_
   refine wp_block ?_
   refine wk fun K8 h8 => ?_
   refine W.region_sch (row := none) (Sch.of [(0, false), (1, false), (2, false), (3, false), (4, false), (5, false), (6, false), (7, true), (8, false), (9, false), (10, false), (11, false), (12, false), (13, false), (14, false), (15, false), (16, false), (17, false), (18, false), (19, false), (20, false), (21, false), (22, false), (23, false), (24, false), (25, false), (26, false), (27, false), (28, false)]) kk kk (fun _ d _ _ _ h => by cases d <;> exact h) kk (fun w13 e14 s15 => ?_)
   refine Fq (.pointer (some ⟨b2, 0, none⟩)) (r_field0 rfl ek kk) ?_
   refine Fl (.int .i64 m) (sgS (blk_cell (j := 0) x6 kk) onn) ?_
   refine Fq (.pointer (some ⟨b2, 1, none⟩)) (r_field (k := 1) rfl ek kk) ?_
   refine Fl (.slice A n c) (sgS (blk_cell (j := 1) x6 kk) onn) ?_
   refine Fv (.int .i64 (K : Int)) ?_
   obtain ⟨x16, hx17⟩ := get_of (zs := ps) (k := K) (by have := hl; omega)
   obtain ⟨b18, o19, hA20, hb21, hc22, hc23, hc24, hc25⟩ := Rd.elPipe ha hx17
   refine Fq (.pointer (some ⟨b18, o19 + K * 4, none⟩)) (r_idx (n := n) (c := c) (k := K) rfl ek hA20 kk kk (by have := hl; omega)) ?_
   refine Fq (.agg #[.int .i64 x16.id, .int .i64 x16.fr, .int .i64 x16.to, .int .i64 x16.sz]) (r_load4 rfl ek kk kk (sgS (later c10 hc22) (by simp)) (sgS (later c10 hc23) (by simp)) (sgS (later c10 hc24) (by simp)) (sgS (later c10 hc25) (by simp))) ?_
   refine Fc [.int .i64 m, .agg #[.int .i64 x16.id, .int .i64 x16.fr, .int .i64 x16.to, .int .i64 x16.sz]] (l2Pipe_any m x16 _) ?_
   rintro e w27 ⟨rfl, b26⟩
   have s28 := SG.of_below s15 b26
   refine ⟨_, rfl, s28, ?_⟩
   apply F.nx
   rcases Bool.eq_false_or_eq_true (pipeOk m x16) with q29 | q29
   ·rw [q29]
    refine Fq (.bool false) (r_not (b := true) rfl ek rfl) ?_
    refine Fv (.bool false) ?_
    refine Fv (.int .i64 (K : Int)) ?_
    by_cases q30 : ((K : Int) : Int) > (0 : Int)
    ·obtain ⟨k, rfl⟩ : ∃ k, K = k + 1 := ⟨K - 1, by omega⟩
     refine Fq (.bool true) (r_gtr (m := (((k + 1) : Nat) : Int)) (n := 0) rfl ek ek (dt q30)) ?_
     refine Fv (.bool true) ?_
     refine Fq (.pointer (some ⟨b2, 1, none⟩)) (r_field (k := 1) rfl ek kk) ?_
     refine Fl (.slice A n c) (sgS (blk_cell (j := 1) x6 kk) onn) ?_
     refine Fv (.int .i64 (((k + 1) : Nat) : Int)) ?_
     refine Fq (.int .i64 (k : Int)) (r_sub (m := (((k + 1) : Nat) : Int)) (n := 1) (z := (k : Int)) rfl ek ek (by omega) (by omega)) ?_
     obtain ⟨x31, hx32⟩ := get_of (zs := ps) (k := k) (by have := hl; omega)
     obtain ⟨b33, o34, hA35, hb36, hc37, hc38, hc39, hc40⟩ := Rd.elPipe ha hx32
     refine Fq (.pointer (some ⟨b33, o34 + k * 4, none⟩)) (r_idx (n := n) (c := c) (k := k) rfl ek hA35 kk kk (by have := hl; omega)) ?_
     refine Fq (.pointer (some ⟨b33, o34 + k * 4, none⟩)) (r_field0 rfl ek kk) ?_
     refine Fl (.int .i64 x31.id) (sgS (later c10 hc37) (by simp)) ?_
     refine Fq (.pointer (some ⟨b2, 1, none⟩)) (r_field (k := 1) rfl ek kk) ?_
     refine Fl (.slice A n c) (sgS (blk_cell (j := 1) x6 kk) onn) ?_
     refine Fv (.int .i64 (((k + 1) : Nat) : Int)) ?_
     refine Fq (.pointer (some ⟨b18, o19 + (k + 1) * 4, none⟩)) (r_idx (n := n) (c := c) (k := (k + 1)) rfl ek hA20 kk kk (by have := hl; omega)) ?_
     refine Fq (.pointer (some ⟨b18, o19 + (k + 1) * 4, none⟩)) (r_field0 rfl ek kk) ?_
     refine Fl (.int .i64 x16.id) (sgS (later c10 hc22) (by simp)) ?_
     by_cases q41 : (x31.id : Int) ≥ (x16.id : Int)
     ·refine Fq (.bool true) (r_geq (m := x31.id) (n := x16.id) rfl ek ek (dt q41)) ?_
      refine Fq (.bool true) (r_pick (b := true) rfl ek ek) ?_
      refine Fq (.bool true) (r_pick (b := false) rfl ek ek) ?_
      apply F.es
      have x6 := Sk s28 x6 onn
      have c42 := (Sb c10 s28 nkk)
      apply h8
      refine wp_cond_true ek ?_
      refine wk fun K9 h9 => ?_
      refine Rq 1 ?_
      refine Fa (.bool false) ?_
      apply F.es
      apply h9
      refine wp_ret ?_
      try simp only [Exit.then, Exit.inBlock]
      refine ret1 (v := .bool false) rfl kk ?_
      exact ⟨ret_bool (goodN_bad (k := k + 1) (by omega) (by rw [okAt_next hx17 hx32, q29]; have := q41; simp; omega)).symm, c42⟩
     refine Fq (.bool false) (r_geq (m := x31.id) (n := x16.id) rfl ek ek (df q41)) ?_
     refine Fq (.bool false) (r_pick (b := true) rfl ek ek) ?_
     refine Fq (.bool false) (r_pick (b := false) rfl ek ek) ?_
     apply F.es
     have x6 := Sk s28 x6 onn
     have c43 := (Sb c10 s28 nkk)
     apply h8
     refine wp_cond_false ek ?_
     apply wp_skip
     apply h7
     refine Rq 3 ?_
     refine Fv (.int .i64 (((k + 1) : Nat) : Int)) ?_
     refine Fq (.int .i64 (((k + 1) + 1 : Nat) : Int)) (r_add (m := (((k + 1) : Nat) : Int)) (n := 1) (z := (((k + 1) + 1 : Nat) : Int)) rfl ek ek (by omega) (by omega)) ?_
     refine Fa (.int .i64 (((k + 1) + 1 : Nat) : Int)) ?_
     apply F.es
     exact h4 _ _ _ (by omega : (n - (k + 1 + 1)) < _) ⟨k + 1 + 1, Kn.of, rfl, (by omega), (by omega), (okTo_next hok (by rw [okAt_next hx17 hx32, q29]; have := q41; simp; omega)), x6, c43⟩
    refine Fq (.bool false) (r_gtr (m := (K : Int)) (n := 0) rfl ek ek (df q30)) ?_
    refine Fv (.bool false) ?_
    refine Fs s28 ?_
    refine Fs s28 ?_
    refine Fs s28 ?_
    refine Fs s28 ?_
    refine Fs s28 ?_
    refine Fs s28 ?_
    refine Fs s28 ?_
    refine Fs s28 ?_
    refine Fs s28 ?_
    refine Fs s28 ?_
    refine Fs s28 ?_
    refine Fs s28 ?_
    refine Fs s28 ?_
    refine Fs s28 ?_
    refine Fq (.bool false) (r_pick (b := false) rfl ek ek) ?_
    refine Fq (.bool false) (r_pick (b := false) rfl ek ek) ?_
    apply F.es
    have x6 := Sk s28 x6 onn
    have c44 := (Sb c10 s28 nkk)
    apply h8
    refine wp_cond_false ek ?_
    apply wp_skip
    apply h7
    refine Rq 3 ?_
    refine Fv (.int .i64 (K : Int)) ?_
    refine Fq (.int .i64 ((K + 1 : Nat) : Int)) (r_add (m := (K : Int)) (n := 1) (z := ((K + 1 : Nat) : Int)) rfl ek ek (by omega) (by omega)) ?_
    refine Fa (.int .i64 ((K + 1 : Nat) : Int)) ?_
    apply F.es
    exact h4 _ _ _ (by omega : (n - (K + 1)) < _) ⟨K + 1, Kn.of, rfl, (by omega), (by omega), (okTo_next hok (by have e0 : K = 0 := (by omega); subst e0; rw [okAt_zero hx17]; exact q29)), x6, c44⟩
   rw [q29]
   refine Fq (.bool true) (r_not (b := false) rfl ek rfl) ?_
   refine Fv (.bool true) ?_
   refine Fs s28 ?_
   refine Fs s28 ?_
   refine Fs s28 ?_
   refine Fs s28 ?_
   refine Fs s28 ?_
   refine Fs s28 ?_
   refine Fs s28 ?_
   refine Fs s28 ?_
   refine Fs s28 ?_
   refine Fs s28 ?_
   refine Fs s28 ?_
   refine Fs s28 ?_
   refine Fs s28 ?_
   refine Fs s28 ?_
   refine Fs s28 ?_
   refine Fs s28 ?_
   refine Fs s28 ?_
   refine Fs s28 ?_
   refine Fq (.bool true) (r_pick (b := true) rfl ek ek) ?_
   apply F.es
   have x6 := Sk s28 x6 onn
   have c45 := (Sb c10 s28 nkk)
   apply h8
   refine wp_cond_true ek ?_
   refine wk fun K10 h10 => ?_
   refine Rq 1 ?_
   refine Fa (.bool false) ?_
   apply F.es
   apply h10
   refine wp_ret ?_
   try simp only [Exit.then, Exit.inBlock]
   refine ret1 (v := .bool false) rfl kk ?_
   exact ⟨ret_bool (goodN_bad (k := K) (by omega) (okAt_pipe hx17 q29)).symm, c45⟩
  refine Fq (.bool false) (r_leq (m := (K : Int)) (n := 10) rfl ek ek (df q12)) ?_
  refine Fq (.bool false) (r_pick (b := true) rfl ek ek) ?_
  apply F.es
  apply h6
  refine wp_cond_false ek ?_
  refine wp_exit ?_
  apply h2
  refine wk fun K11 h11 => ?_
  refine W.region_plain (row := none) [(0, false), (1, false), (2, true), (3, false), (4, false), (5, false), (6, false), (7, false), (8, false), (9, false)] kk ?_
  have s46 := SG.self wl0 none
  refine Fq (.pointer (some ⟨b2, 0, none⟩)) (r_field0 rfl ek kk) ?_
  refine Fl (.int .i64 m) (sgS (blk_cell (j := 0) x6 kk) onn) ?_
  refine Fc [.int .i64 m, .int .i64 1, .int .i64 8] (l1In_any m 1 8 _) ?_
  rintro e w' ⟨rfl, rfl⟩
  refine ⟨_, rfl, s46, ?_⟩
  apply F.nx
  rcases Bool.eq_false_or_eq_true (inB m 1 8) with q49 | q49
  ·rw [q49]
   refine Fv (.bool true) ?_
   refine Fq (.pointer (some ⟨b2, 1, none⟩)) (r_field (k := 1) rfl ek kk) ?_
   refine Fl (.slice A n c) (sgS (blk_cell (j := 1) x6 kk) onn) ?_
   refine Fq (.int .i64 (n : Int)) (r_len (A := A) (n := n) (c := c) rfl ek kk) ?_
   by_cases q50 : ((n : Int) : Int) ≤ (10 : Int)
   ·refine Fq (.bool true) (r_leq (m := (n : Int)) (n := 10) rfl ek ek (dt q50)) ?_
    refine Fq (.bool true) (r_pick (b := true) rfl ek ek) ?_
    refine Fa (.bool true) ?_
    apply F.es
    have x6 := Sk s46 x6 onn
    have c51 := (Sb c10 s46 nkk)
    apply h11
    refine wp_ret ?_
    try simp only [Exit.then]
    refine ret1 (v := .bool true) rfl kk ?_
    exact ⟨ret_bool (by rw [goodN_fin hl hk hok (by omega)]; simp [q49, q50]), c51⟩
   refine Fq (.bool false) (r_leq (m := (n : Int)) (n := 10) rfl ek ek (df q50)) ?_
   refine Fq (.bool false) (r_pick (b := true) rfl ek ek) ?_
   refine Fa (.bool false) ?_
   apply F.es
   have x6 := Sk s46 x6 onn
   have c52 := (Sb c10 s46 nkk)
   apply h11
   refine wp_ret ?_
   try simp only [Exit.then]
   refine ret1 (v := .bool false) rfl kk ?_
   exact ⟨ret_bool (by rw [goodN_fin hl hk hok (by omega)]; simp [q49, q50]), c52⟩
  rw [q49]
  refine Fv (.bool false) ?_
  refine Fs s46 ?_
  refine Fs s46 ?_
  refine Fs s46 ?_
  refine Fs s46 ?_
  refine Fq (.bool false) (r_pick (b := false) rfl ek ek) ?_
  refine Fa (.bool false) ?_
  apply F.es
  have x6 := Sk s46 x6 onn
  have c53 := (Sb c10 s46 nkk)
  apply h11
  refine wp_ret ?_
  try simp only [Exit.then]
  refine ret1 (v := .bool false) rfl kk ?_
  exact ⟨ret_bool (by rw [goodN_fin hl hk hok (by omega)]; simp [q49]), c53⟩
 refine Fq (.bool false) (r_lss (m := (K : Int)) (n := (n : Int)) rfl ek ek (df q11)) ?_
 refine Fv (.bool false) ?_
 refine Fs rfl ?_
 refine Fs rfl ?_
 refine Fq (.bool false) (r_pick (b := false) rfl ek ek) ?_
 apply F.es
 apply h6
 refine wp_cond_false ek ?_
 refine wp_exit ?_
 apply h2
 refine wk fun K12 h12 => ?_
 refine W.region_plain (row := none) [(0, false), (1, false), (2, true), (3, false), (4, false), (5, false), (6, false), (7, false), (8, false), (9, false)] kk ?_
 have s54 := SG.self wl0 none
 refine Fq (.pointer (some ⟨b2, 0, none⟩)) (r_field0 rfl ek kk) ?_
 refine Fl (.int .i64 m) (sgS (blk_cell (j := 0) x6 kk) onn) ?_
 refine Fc [.int .i64 m, .int .i64 1, .int .i64 8] (l1In_any m 1 8 _) ?_
 rintro e w' ⟨rfl, rfl⟩
 refine ⟨_, rfl, s54, ?_⟩
 apply F.nx
 rcases Bool.eq_false_or_eq_true (inB m 1 8) with q57 | q57
 ·rw [q57]
  refine Fv (.bool true) ?_
  refine Fq (.pointer (some ⟨b2, 1, none⟩)) (r_field (k := 1) rfl ek kk) ?_
  refine Fl (.slice A n c) (sgS (blk_cell (j := 1) x6 kk) onn) ?_
  refine Fq (.int .i64 (n : Int)) (r_len (A := A) (n := n) (c := c) rfl ek kk) ?_
  by_cases q58 : ((n : Int) : Int) ≤ (10 : Int)
  ·refine Fq (.bool true) (r_leq (m := (n : Int)) (n := 10) rfl ek ek (dt q58)) ?_
   refine Fq (.bool true) (r_pick (b := true) rfl ek ek) ?_
   refine Fa (.bool true) ?_
   apply F.es
   have c59 := (Sb c10 s54 nkk)
   apply h12
   refine wp_ret ?_
   try simp only [Exit.then]
   refine ret1 (v := .bool true) rfl kk ?_
   exact ⟨ret_bool (by rw [goodN_fin hl hk hok (by omega)]; simp [q57, q58]), c59⟩
  refine Fq (.bool false) (r_leq (m := (n : Int)) (n := 10) rfl ek ek (df q58)) ?_
  refine Fq (.bool false) (r_pick (b := true) rfl ek ek) ?_
  refine Fa (.bool false) ?_
  apply F.es
  have c60 := (Sb c10 s54 nkk)
  apply h12
  refine wp_ret ?_
  try simp only [Exit.then]
  refine ret1 (v := .bool false) rfl kk ?_
  exact ⟨ret_bool (by rw [goodN_fin hl hk hok (by omega)]; simp [q57, q58]), c60⟩
 rw [q57]
 refine Fv (.bool false) ?_
 refine Fs s54 ?_
 refine Fs s54 ?_
 refine Fs s54 ?_
 refine Fs s54 ?_
 refine Fq (.bool false) (r_pick (b := false) rfl ek ek) ?_
 refine Fa (.bool false) ?_
 apply F.es
 have c61 := (Sb c10 s54 nkk)
 apply h12
 refine wp_ret ?_
 try simp only [Exit.then]
 refine ret1 (v := .bool false) rfl kk ?_
 exact ⟨ret_bool (by rw [goodN_fin hl hk hok (by omega)]; simp [q57]), c61⟩
end Go.Proofs.YtdlcldaogcbnlaaDoor
namespace Go.Proofs.YtdlcldaogcbnlaaDoor
open Go.RowKit
set_option linter.unusedVariables false
set_option maxRecDepth 100000 in
set_option maxHeartbeats 8000000 in
theorem IsValid_any (m : Int) (A : Option Addr) (n c : Nat) (ps : List Pp) (w : World) (ha : Rd w 4 A n (pipesV ps)) (hn : n ≤ 1048576) :
    Calls Tryd.prog 15 #[.agg #[.int .i64 m, .slice A n c]] w fun e w' => e = .returned (.bool (goodN m ps)) ∧ Below w.heap.size w w' := by
 have hl := rd_pipes_len ha
 go_enter Tryd.func15, Tryd.ntmps15
 refine F.begin 71 [(0, .agg #[.int .i64 m, .slice A n c])] (fun U0 => ?_)
 refine wk fun K1 h1 => ?_
 refine W.region_plain (row := none) [(0, true), (1, false)] kk ?_
 have s1 := SG.self w none
 refine W.sn (fun b => .pointer (some ⟨b, 0, none⟩)) #[.int .i64 m, .slice A n c] 24 s1 rfl kk rfl (fun _ => by kernel_rfl) (fun b2 w3 hb4 k5 x6 s7 => ?_)
 apply F.nx
 have lo8 : w.heap.size ≤ b2 := Nl ((Sb (Below.refl _ _) s1 nkk)).size (Nat.le_of_eq hb4)
 refine Fa (.bool false) ?_
 apply F.es
 have c9 := (Sb (Below.refl _ _) s7 nkk)
 apply h1
 refine wk fun K2 h2 => ?_
 refine wk fun K3 h3 => ?_
 refine W.region_plain (row := none) [(0, false), (1, false), (2, true), (3, false), (4, false), (5, false), (6, false), (7, false), (8, false), (9, false)] kk ?_
 have s10 := SG.self w3 none
 refine Fq (.pointer (some ⟨b2, 0, none⟩)) (r_field0 rfl ek kk) ?_
 refine Fl (.int .i64 m) (sgS (blk_cell (j := 0) x6 kk) onn) ?_
 refine Fc [.int .i64 m, .int .i64 1, .int .i64 8] (inside_any m 1 8 _) ?_
 rintro e w' ⟨rfl, rfl⟩
 refine ⟨_, rfl, s10, ?_⟩
 apply F.nx
 rcases Bool.eq_false_or_eq_true (inB m 1 8) with q13 | q13
 ·rw [q13]
  refine Fq (.bool false) (r_not (b := true) rfl ek rfl) ?_
  refine Fv (.bool false) ?_
  refine Fq (.pointer (some ⟨b2, 1, none⟩)) (r_field (k := 1) rfl ek kk) ?_
  refine Fl (.slice A n c) (sgS (blk_cell (j := 1) x6 kk) onn) ?_
  refine Fq (.int .i64 (n : Int)) (r_len (A := A) (n := n) (c := c) rfl ek kk) ?_
  by_cases q14 : ((n : Int) : Int) > (10 : Int)
  ·refine Fq (.bool true) (r_gtr (m := (n : Int)) (n := 10) rfl ek ek (dt q14)) ?_
   refine Fq (.bool true) (r_pick (b := false) rfl ek ek) ?_
   apply F.es
   have x6 := Sk s10 x6 onn
   have c15 := (Sb c9 s10 nkk)
   apply h3
   refine wp_cond_true ek ?_
   refine wk fun K4 h4 => ?_
   refine Rq 1 ?_
   refine Fa (.bool false) ?_
   apply F.es
   apply h4
   refine wp_ret ?_
   try simp only [Exit.then]
   refine ret1 (v := .bool false) rfl kk ?_
   exact ⟨ret_bool (goodN_out hl (by simp [q13]; omega)).symm, c15⟩
  refine Fq (.bool false) (r_gtr (m := (n : Int)) (n := 10) rfl ek ek (df q14)) ?_
  refine Fq (.bool false) (r_pick (b := false) rfl ek ek) ?_
  apply F.es
  have x6 := Sk s10 x6 onn
  have c16 := (Sb c9 s10 nkk)
  apply h3
  refine wp_cond_false ek ?_
  apply wp_skip
  apply h2
  refine wk fun K5 h5 => ?_
  refine wk fun K6 h6 => ?_
  refine Rq 4 ?_
  refine Fq (.pointer (some ⟨b2, 1, none⟩)) (r_field (k := 1) rfl ek kk) ?_
  refine Fl (.slice A n c) (eqS (blk_cell (j := 1) x6 kk)) ?_
  refine Fq (.int .i64 (n : Int)) (r_len (A := A) (n := n) (c := c) rfl ek kk) ?_
  refine Fv (.int .i64 0) ?_
  apply F.es
  apply h6
  refine wp_block ?_
  refine loopK (fun am0 aa0 wl0 => ∃ (K : Nat) , Kn aa0 [(0, .agg #[.int .i64 m, .slice A n c]), (1, .pointer (some ⟨b2, 0, none⟩)), (2, .bool false), (14, .bool false), (16, .slice A n c), (17, .int .i64 (n : Int)), (18, .int .i64 (K : Int))] 71 ∧ (am0 = n - K) ∧ (K ≤ n) ∧ (okTo m ps K = true) ∧ (wl0.heap[b2]? = some (.cells #[.int .i64 m, .slice A n c] 24 (0, 0))) ∧ (Below w.heap.size w wl0)) (n - 0) ?_ ?_
  ·exact ⟨0, Kn.of, rfl, (Nat.zero_le _), rfl, x6, c16⟩
  rintro am0 aa0 wl0 K7 h7 ⟨K, ⟨U0, rfl⟩, rfl, hk, hok, x6, c17⟩
  refine wk fun K8 h8 => ?_
  refine Rq 1 ?_
  by_cases q18 : ((K : Int) : Int) < ((n : Int) : Int)
  ·refine Fq (.bool true) (r_lss (m := (K : Int)) (n := (n : Int)) rfl ek ek (dt q18)) ?_
   apply F.es
   apply h8
   refine wk fun K9 h9 => ?_
   refine wp_cond_true ek ?_
   apply wp_skip
   apply h9
   refine wk fun K10 h10 => ?_
   refine wp_block ?_
   refine wk fun K11 h11 => ?_
   refine W.region_plain (row := none) [(0, false), (1, false), (2, false), (3, true), (4, false), (5, true)] kk ?_
   have s19 := SG.self wl0 none
   refine Fv (.int .i64 (K : Int)) ?_
   obtain ⟨x20, hx21⟩ := get_of (zs := ps) (k := K) (by have := hl; omega)
   obtain ⟨b22, o23, hA24, hb25, hc26, hc27, hc28, hc29⟩ := Rd.elPipe ha hx21
   refine Fq (.pointer (some ⟨b22, o23 + K * 4, none⟩)) (r_idx (n := n) (c := c) (k := K) rfl ek hA24 kk kk (by have := hl; omega)) ?_
   refine Fq (.agg #[.int .i64 x20.id, .int .i64 x20.fr, .int .i64 x20.to, .int .i64 x20.sz]) (r_load4 rfl ek kk kk (sgS (later c17 hc26) (by simp)) (sgS (later c17 hc27) (by simp)) (sgS (later c17 hc28) (by simp)) (sgS (later c17 hc29) (by simp))) ?_
   refine W.sn (fun b => .pointer (some ⟨b, 0, none⟩)) #[.int .i64 0, .int .i64 0, .int .i64 0, .int .i64 0] 38 s19 rfl kk rfl (fun _ => by kernel_rfl) (fun b30 w31 hb32 k33 x34 s35 => ?_)
   apply F.nx
   have lo36 : w.heap.size ≤ b30 := Nl ((Sb c17 s19 nkk)).size (Nat.le_of_eq hb32)
   refine Fa (.int .i64 (K : Int)) ?_
   refine W.ss (v := .agg #[.int .i64 x20.id, .int .i64 x20.fr, .int .i64 x20.to, .int .i64 x20.sz]) (j := 0) (news := [.int .i64 x20.id, .int .i64 x20.fr, .int .i64 x20.to, .int .i64 x20.sz]) (cs' := #[.int .i64 x20.id, .int .i64 x20.fr, .int .i64 x20.to, .int .i64 x20.sz]) s35 rfl kk rfl rfl kk kk x34 kk kk (by simp) kk kk (.inr (Nl (s19).size (Nat.le_of_eq hb32))) (fun w38 g39 x40 s41 => ?_)
   apply F.es
   have x6 := Sk s41 x6 onn
   have c42 := (Sb c17 s41 nkk)
   apply h11
   refine wk fun K12 h12 => ?_
   refine W.region_sch (row := none) (Sch.of [(0, false), (1, false), (2, true), (3, false), (4, false), (5, false), (6, false), (7, false), (8, true), (9, false), (10, false), (11, false), (12, false), (13, false), (14, false), (15, true), (16, false), (17, false), (18, false), (19, false), (20, false), (21, false), (22, false), (23, false), (24, false), (25, false), (26, false), (27, false), (28, true), (29, false), (30, false), (31, false), (32, false), (33, false), (34, false), (35, false), (36, false), (37, false), (38, false), (39, false), (40, false), (41, false), (42, false), (43, false), (44, false), (45, false), (46, false)]) kk kk (fun _ d _ _ _ h => by cases d <;> exact h) kk (fun w43 e44 s45 => ?_)
   refine Fq (.pointer (some ⟨b30, 0, none⟩)) (r_field0 rfl ek kk) ?_
   refine Fl (.int .i64 x20.id) (sgS (blk_cell (j := 0) x40 kk) onn) ?_
   refine Fc [.int .i64 x20.id, .int .i64 1, .int .i64 99] (inside_any x20.id 1 99 _) ?_
   rintro e w' ⟨rfl, rfl⟩
   refine ⟨_, rfl, s45, ?_⟩
   apply F.nx
   rcases Bool.eq_false_or_eq_true (inB x20.id 1 99) with q48 | q48
   ·rw [q48]
    refine Fq (.bool false) (r_not (b := true) rfl ek rfl) ?_
    refine Fv (.bool false) ?_
    refine Fq (.agg #[.int .i64 m, .slice A n c]) (r_load2 rfl ek kk kk (sgS (blk_cell (j := 0) x6 kk) onn) (sgS (blk_cell (j := 1) x6 kk) onn)) ?_
    refine Fq (.pointer (some ⟨b30, 1, none⟩)) (r_field (k := 1) rfl ek kk) ?_
    refine Fl (.int .i64 x20.fr) (sgS (blk_cell (j := 1) x40 kk) onn) ?_
    refine Fc [.agg #[.int .i64 m, .slice A n c], .int .i64 x20.fr] (has_any m A n c ps x20.fr _) ?_
    rintro e w50 ⟨rfl, b49⟩
    have s51 := SG.of_below s45 b49
    refine ⟨_, rfl, s51, ?_⟩
    apply F.nx
    rcases Bool.eq_false_or_eq_true (inB x20.fr 1 m) with q52 | q52
    ·rw [q52]
     refine Fq (.bool false) (r_not (b := true) rfl ek rfl) ?_
     refine Fq (.bool false) (r_pick (b := false) rfl ek ek) ?_
     refine Fv (.bool false) ?_
     refine Fq (.agg #[.int .i64 m, .slice A n c]) (r_load2 rfl ek kk kk (sgS (blk_cell (j := 0) x6 kk) onn) (sgS (blk_cell (j := 1) x6 kk) onn)) ?_
     refine Fq (.pointer (some ⟨b30, 2, none⟩)) (r_field (k := 2) rfl ek kk) ?_
     refine Fl (.int .i64 x20.to) (sgS (blk_cell (j := 2) x40 kk) onn) ?_
     refine Fc [.agg #[.int .i64 m, .slice A n c], .int .i64 x20.to] (has_any m A n c ps x20.to _) ?_
     rintro e w54 ⟨rfl, b53⟩
     have s55 := SG.of_below s51 b53
     refine ⟨_, rfl, s55, ?_⟩
     apply F.nx
     rcases Bool.eq_false_or_eq_true (inB x20.to 1 m) with q56 | q56
     ·rw [q56]
      refine Fq (.bool false) (r_not (b := true) rfl ek rfl) ?_
      refine Fq (.bool false) (r_pick (b := false) rfl ek ek) ?_
      refine Fv (.bool false) ?_
      refine Fq (.pointer (some ⟨b30, 1, none⟩)) (r_field (k := 1) rfl ek kk) ?_
      refine Fl (.int .i64 x20.fr) (sgS (blk_cell (j := 1) x40 kk) onn) ?_
      refine Fq (.pointer (some ⟨b30, 2, none⟩)) (r_field (k := 2) rfl ek kk) ?_
      refine Fl (.int .i64 x20.to) (sgS (blk_cell (j := 2) x40 kk) onn) ?_
      by_cases q57 : (x20.fr : Int) = (x20.to : Int)
      ·refine Fq (.bool true) (r_eql (m := x20.fr) (n := x20.to) rfl ek ek (dt q57)) ?_
       refine Fq (.bool true) (r_pick (b := false) rfl ek ek) ?_
       refine Fv (.bool true) ?_
       refine Fs s55 ?_
       refine Fs s55 ?_
       refine Fs s55 ?_
       refine Fs s55 ?_
       refine Fq (.bool true) (r_pick (b := true) rfl ek ek) ?_
       refine Fv (.bool true) ?_
       refine Fs s55 ?_
       refine Fs s55 ?_
       refine Fs s55 ?_
       refine Fs s55 ?_
       refine Fs s55 ?_
       refine Fs s55 ?_
       refine Fs s55 ?_
       refine Fs s55 ?_
       refine Fs s55 ?_
       refine Fs s55 ?_
       refine Fs s55 ?_
       refine Fs s55 ?_
       refine Fs s55 ?_
       refine Fs s55 ?_
       refine Fq (.bool true) (r_pick (b := true) rfl ek ek) ?_
       apply F.es
       have x6 := Sk s55 x6 onn
       have x40 := Sk s55 x40 onn
       have c58 := (Sb c42 s55 nkk)
       apply h12
       refine wp_cond_true ek ?_
       refine wk fun K13 h13 => ?_
       refine Rq 1 ?_
       refine Fa (.bool false) ?_
       apply F.es
       apply h13
       refine wp_ret ?_
       try simp only [Exit.then, Exit.inBlock]
       refine ret1 (v := .bool false) rfl kk ?_
       exact ⟨ret_bool (goodN_bad (k := K) (by omega) (okAt_pipe hx21 (by simp [pipeOk, q57]))).symm, c58⟩
      refine Fq (.bool false) (r_eql (m := x20.fr) (n := x20.to) rfl ek ek (df q57)) ?_
      refine Fq (.bool false) (r_pick (b := false) rfl ek ek) ?_
      refine Fv (.bool false) ?_
      refine Fq (.pointer (some ⟨b30, 3, none⟩)) (r_field (k := 3) rfl ek kk) ?_
      refine Fl (.int .i64 x20.sz) (sgS (blk_cell (j := 3) x40 kk) onn) ?_
      refine Fc [.int .i64 x20.sz, .int .i64 1, .int .i64 9] (inside_any x20.sz 1 9 _) ?_
      rintro e w' ⟨rfl, rfl⟩
      refine ⟨_, rfl, s55, ?_⟩
      apply F.nx
      rcases Bool.eq_false_or_eq_true (inB x20.sz 1 9) with q61 | q61
      ·rw [q61]
       refine Fq (.bool false) (r_not (b := true) rfl ek rfl) ?_
       refine Fq (.bool false) (r_pick (b := false) rfl ek ek) ?_
       refine Fv (.bool false) ?_
       refine Fv (.int .i64 (K : Int)) ?_
       by_cases q62 : ((K : Int) : Int) > (0 : Int)
       ·obtain ⟨k, rfl⟩ : ∃ k, K = k + 1 := ⟨K - 1, by omega⟩
        refine Fq (.bool true) (r_gtr (m := (((k + 1) : Nat) : Int)) (n := 0) rfl ek ek (dt q62)) ?_
        refine Fv (.bool true) ?_
        refine Fq (.pointer (some ⟨b2, 1, none⟩)) (r_field (k := 1) rfl ek kk) ?_
        refine Fl (.slice A n c) (sgS (blk_cell (j := 1) x6 kk) onn) ?_
        refine Fv (.int .i64 (((k + 1) : Nat) : Int)) ?_
        refine Fq (.int .i64 (k : Int)) (r_sub (m := (((k + 1) : Nat) : Int)) (n := 1) (z := (k : Int)) rfl ek ek (by omega) (by omega)) ?_
        obtain ⟨x63, hx64⟩ := get_of (zs := ps) (k := k) (by have := hl; omega)
        obtain ⟨b65, o66, hA67, hb68, hc69, hc70, hc71, hc72⟩ := Rd.elPipe ha hx64
        refine Fq (.pointer (some ⟨b65, o66 + k * 4, none⟩)) (r_idx (n := n) (c := c) (k := k) rfl ek hA67 kk kk (by have := hl; omega)) ?_
        refine Fq (.pointer (some ⟨b65, o66 + k * 4, none⟩)) (r_field0 rfl ek kk) ?_
        refine Fl (.int .i64 x63.id) (sgS (later c42 hc69) (by simp)) ?_
        refine Fq (.pointer (some ⟨b30, 0, none⟩)) (r_field0 rfl ek kk) ?_
        refine Fl (.int .i64 x20.id) (sgS (blk_cell (j := 0) x40 kk) onn) ?_
        by_cases q73 : (x63.id : Int) ≥ (x20.id : Int)
        ·refine Fq (.bool true) (r_geq (m := x63.id) (n := x20.id) rfl ek ek (dt q73)) ?_
         refine Fq (.bool true) (r_pick (b := true) rfl ek ek) ?_
         refine Fq (.bool true) (r_pick (b := false) rfl ek ek) ?_
         apply F.es
         have x6 := Sk s55 x6 onn
         have c74 := (Sb c42 s55 nkk)
         apply h12
         refine wp_cond_true ek ?_
         refine wk fun K14 h14 => ?_
         refine Rq 1 ?_
         refine Fa (.bool false) ?_
         apply F.es
         apply h14
         refine wp_ret ?_
         try simp only [Exit.then, Exit.inBlock]
         refine ret1 (v := .bool false) rfl kk ?_
         exact ⟨ret_bool (goodN_bad (k := k + 1) (by omega) (by rw [okAt_next hx21 hx64]; have := q73; simp [pipeOk, q48, q52, q56, q57, q61]; omega)).symm, c74⟩
        refine Fq (.bool false) (r_geq (m := x63.id) (n := x20.id) rfl ek ek (df q73)) ?_
        refine Fq (.bool false) (r_pick (b := true) rfl ek ek) ?_
        refine Fq (.bool false) (r_pick (b := false) rfl ek ek) ?_
        apply F.es
        have x6 := Sk s55 x6 onn
        have c75 := (Sb c42 s55 nkk)
        apply h12
        refine wp_cond_false ek ?_
        apply wp_skip
        apply h10
        refine Rq 2 ?_
        refine Fq (.int .i64 (((k + 1) + 1 : Nat) : Int)) (r_add (m := (((k + 1) : Nat) : Int)) (n := 1) (z := (((k + 1) + 1 : Nat) : Int)) rfl ek ek (by omega) (by omega)) ?_
        refine Fv (.int .i64 (((k + 1) + 1 : Nat) : Int)) ?_
        apply F.es
        exact h7 _ _ _ (by omega : (n - (k + 1 + 1)) < _) ⟨k + 1 + 1, Kn.of, rfl, (by omega), (okTo_next hok (by rw [okAt_next hx21 hx64]; have := q73; simp [pipeOk, q48, q52, q56, q57, q61]; omega)), x6, c75⟩
       refine Fq (.bool false) (r_gtr (m := (K : Int)) (n := 0) rfl ek ek (df q62)) ?_
       refine Fv (.bool false) ?_
       refine Fs s55 ?_
       refine Fs s55 ?_
       refine Fs s55 ?_
       refine Fs s55 ?_
       refine Fs s55 ?_
       refine Fs s55 ?_
       refine Fs s55 ?_
       refine Fs s55 ?_
       refine Fs s55 ?_
       refine Fs s55 ?_
       refine Fq (.bool false) (r_pick (b := false) rfl ek ek) ?_
       refine Fq (.bool false) (r_pick (b := false) rfl ek ek) ?_
       apply F.es
       have x6 := Sk s55 x6 onn
       have c76 := (Sb c42 s55 nkk)
       apply h12
       refine wp_cond_false ek ?_
       apply wp_skip
       apply h10
       refine Rq 2 ?_
       refine Fq (.int .i64 ((K + 1 : Nat) : Int)) (r_add (m := (K : Int)) (n := 1) (z := ((K + 1 : Nat) : Int)) rfl ek ek (by omega) (by omega)) ?_
       refine Fv (.int .i64 ((K + 1 : Nat) : Int)) ?_
       apply F.es
       exact h7 _ _ _ (by omega : (n - (K + 1)) < _) ⟨K + 1, Kn.of, rfl, (by omega), (okTo_next hok (by have e0 : K = 0 := (by omega); subst e0; rw [okAt_zero hx21]; simp [pipeOk, q48, q52, q56, q57, q61])), x6, c76⟩
      rw [q61]
      refine Fq (.bool true) (r_not (b := false) rfl ek rfl) ?_
      refine Fq (.bool true) (r_pick (b := false) rfl ek ek) ?_
      refine Fv (.bool true) ?_
      refine Fs s55 ?_
      refine Fs s55 ?_
      refine Fs s55 ?_
      refine Fs s55 ?_
      refine Fs s55 ?_
      refine Fs s55 ?_
      refine Fs s55 ?_
      refine Fs s55 ?_
      refine Fs s55 ?_
      refine Fs s55 ?_
      refine Fs s55 ?_
      refine Fs s55 ?_
      refine Fs s55 ?_
      refine Fs s55 ?_
      refine Fq (.bool true) (r_pick (b := true) rfl ek ek) ?_
      apply F.es
      have c77 := (Sb c42 s55 nkk)
      apply h12
      refine wp_cond_true ek ?_
      refine wk fun K15 h15 => ?_
      refine Rq 1 ?_
      refine Fa (.bool false) ?_
      apply F.es
      apply h15
      refine wp_ret ?_
      try simp only [Exit.then, Exit.inBlock]
      refine ret1 (v := .bool false) rfl kk ?_
      exact ⟨ret_bool (goodN_bad (k := K) (by omega) (okAt_pipe hx21 (by simp [pipeOk, q61]))).symm, c77⟩
     rw [q56]
     refine Fq (.bool true) (r_not (b := false) rfl ek rfl) ?_
     refine Fq (.bool true) (r_pick (b := false) rfl ek ek) ?_
     refine Fv (.bool true) ?_
     refine Fs s55 ?_
     refine Fs s55 ?_
     refine Fs s55 ?_
     refine Fs s55 ?_
     refine Fs s55 ?_
     refine Fq (.bool true) (r_pick (b := true) rfl ek ek) ?_
     refine Fv (.bool true) ?_
     refine Fs s55 ?_
     refine Fs s55 ?_
     refine Fs s55 ?_
     refine Fs s55 ?_
     refine Fq (.bool true) (r_pick (b := true) rfl ek ek) ?_
     refine Fv (.bool true) ?_
     refine Fs s55 ?_
     refine Fs s55 ?_
     refine Fs s55 ?_
     refine Fs s55 ?_
     refine Fs s55 ?_
     refine Fs s55 ?_
     refine Fs s55 ?_
     refine Fs s55 ?_
     refine Fs s55 ?_
     refine Fs s55 ?_
     refine Fs s55 ?_
     refine Fs s55 ?_
     refine Fs s55 ?_
     refine Fs s55 ?_
     refine Fq (.bool true) (r_pick (b := true) rfl ek ek) ?_
     apply F.es
     have c78 := (Sb c42 s55 nkk)
     apply h12
     refine wp_cond_true ek ?_
     refine wk fun K16 h16 => ?_
     refine Rq 1 ?_
     refine Fa (.bool false) ?_
     apply F.es
     apply h16
     refine wp_ret ?_
     try simp only [Exit.then, Exit.inBlock]
     refine ret1 (v := .bool false) rfl kk ?_
     exact ⟨ret_bool (goodN_bad (k := K) (by omega) (okAt_pipe hx21 (by simp [pipeOk, q56]))).symm, c78⟩
    rw [q52]
    refine Fq (.bool true) (r_not (b := false) rfl ek rfl) ?_
    refine Fq (.bool true) (r_pick (b := false) rfl ek ek) ?_
    refine Fv (.bool true) ?_
    refine Fs s51 ?_
    refine Fs s51 ?_
    refine Fs s51 ?_
    refine Fs s51 ?_
    refine Fs s51 ?_
    refine Fq (.bool true) (r_pick (b := true) rfl ek ek) ?_
    refine Fv (.bool true) ?_
    refine Fs s51 ?_
    refine Fs s51 ?_
    refine Fs s51 ?_
    refine Fs s51 ?_
    refine Fs s51 ?_
    refine Fq (.bool true) (r_pick (b := true) rfl ek ek) ?_
    refine Fv (.bool true) ?_
    refine Fs s51 ?_
    refine Fs s51 ?_
    refine Fs s51 ?_
    refine Fs s51 ?_
    refine Fq (.bool true) (r_pick (b := true) rfl ek ek) ?_
    refine Fv (.bool true) ?_
    refine Fs s51 ?_
    refine Fs s51 ?_
    refine Fs s51 ?_
    refine Fs s51 ?_
    refine Fs s51 ?_
    refine Fs s51 ?_
    refine Fs s51 ?_
    refine Fs s51 ?_
    refine Fs s51 ?_
    refine Fs s51 ?_
    refine Fs s51 ?_
    refine Fs s51 ?_
    refine Fs s51 ?_
    refine Fs s51 ?_
    refine Fq (.bool true) (r_pick (b := true) rfl ek ek) ?_
    apply F.es
    have c79 := (Sb c42 s51 nkk)
    apply h12
    refine wp_cond_true ek ?_
    refine wk fun K17 h17 => ?_
    refine Rq 1 ?_
    refine Fa (.bool false) ?_
    apply F.es
    apply h17
    refine wp_ret ?_
    try simp only [Exit.then, Exit.inBlock]
    refine ret1 (v := .bool false) rfl kk ?_
    exact ⟨ret_bool (goodN_bad (k := K) (by omega) (okAt_pipe hx21 (by simp [pipeOk, q52]))).symm, c79⟩
   rw [q48]
   refine Fq (.bool true) (r_not (b := false) rfl ek rfl) ?_
   refine Fv (.bool true) ?_
   refine Fs s45 ?_
   refine Fs s45 ?_
   refine Fs s45 ?_
   refine Fs s45 ?_
   refine Fs s45 ?_
   refine Fq (.bool true) (r_pick (b := true) rfl ek ek) ?_
   refine Fv (.bool true) ?_
   refine Fs s45 ?_
   refine Fs s45 ?_
   refine Fs s45 ?_
   refine Fs s45 ?_
   refine Fs s45 ?_
   refine Fq (.bool true) (r_pick (b := true) rfl ek ek) ?_
   refine Fv (.bool true) ?_
   refine Fs s45 ?_
   refine Fs s45 ?_
   refine Fs s45 ?_
   refine Fs s45 ?_
   refine Fs s45 ?_
   refine Fq (.bool true) (r_pick (b := true) rfl ek ek) ?_
   refine Fv (.bool true) ?_
   refine Fs s45 ?_
   refine Fs s45 ?_
   refine Fs s45 ?_
   refine Fs s45 ?_
   refine Fq (.bool true) (r_pick (b := true) rfl ek ek) ?_
   refine Fv (.bool true) ?_
   refine Fs s45 ?_
   refine Fs s45 ?_
   refine Fs s45 ?_
   refine Fs s45 ?_
   refine Fs s45 ?_
   refine Fs s45 ?_
   refine Fs s45 ?_
   refine Fs s45 ?_
   refine Fs s45 ?_
   refine Fs s45 ?_
   refine Fs s45 ?_
   refine Fs s45 ?_
   refine Fs s45 ?_
   refine Fs s45 ?_
   refine Fq (.bool true) (r_pick (b := true) rfl ek ek) ?_
   apply F.es
   have c80 := (Sb c42 s45 nkk)
   apply h12
   refine wp_cond_true ek ?_
   refine wk fun K18 h18 => ?_
   refine Rq 1 ?_
   refine Fa (.bool false) ?_
   apply F.es
   apply h18
   refine wp_ret ?_
   try simp only [Exit.then, Exit.inBlock]
   refine ret1 (v := .bool false) rfl kk ?_
   exact ⟨ret_bool (goodN_bad (k := K) (by omega) (okAt_pipe hx21 (by simp [pipeOk, q48]))).symm, c80⟩
  refine Fq (.bool false) (r_lss (m := (K : Int)) (n := (n : Int)) rfl ek ek (df q18)) ?_
  apply F.es
  apply h8
  refine wk fun K19 h19 => ?_
  refine wp_cond_false ek ?_
  refine wp_exit ?_
  apply h5
  refine wk fun K20 h20 => ?_
  refine Rq 1 ?_
  refine Fa (.bool true) ?_
  apply F.es
  apply h20
  refine wp_ret ?_
  try simp only [Exit.then]
  refine ret1 (v := .bool true) rfl kk ?_
  exact ⟨ret_bool (by rw [goodN_fin hl hk hok (by omega)]; simp [q13]; omega), c17⟩
 rw [q13]
 refine Fq (.bool true) (r_not (b := false) rfl ek rfl) ?_
 refine Fv (.bool true) ?_
 refine Fs s10 ?_
 refine Fs s10 ?_
 refine Fs s10 ?_
 refine Fs s10 ?_
 refine Fq (.bool true) (r_pick (b := true) rfl ek ek) ?_
 apply F.es
 have c81 := (Sb c9 s10 nkk)
 apply h3
 refine wp_cond_true ek ?_
 refine wk fun K21 h21 => ?_
 refine Rq 1 ?_
 refine Fa (.bool false) ?_
 apply F.es
 apply h21
 refine wp_ret ?_
 try simp only [Exit.then]
 refine ret1 (v := .bool false) rfl kk ?_
 exact ⟨ret_bool (goodN_out hl (by simp [q13])).symm, c81⟩
end Go.Proofs.YtdlcldaogcbnlaaDoor
namespace Go.Proofs.YtdlcldaogcbnlaaDoor
open Go.RowKit
set_option linter.unusedVariables false
set_option maxRecDepth 100000 in
set_option maxHeartbeats 1000000 in
theorem hasNode_any (m : Int) (A : Option Addr) (n c : Nat) (ps : List Pp) (v : Int) (w : World) (ha : Rd w 4 A n (pipesV ps)) (hn : n ≤ 1048576) :
    Calls Tryd.prog 62 #[.agg #[.int .i64 m, .slice A n c], .int .i64 v] w fun e w' => e = .returned (.bool (goodN m ps && inB v 1 m)) ∧ Below w.heap.size w w' := by
  go_enter Tryd.func62, Tryd.ntmps62
  refine wp_seq_k (fun K1 h1 => ?_)
  refine region_plain (row := none) [(0, true), (1, false)] rfl ?_
  have s1 := SG.self w none
  refine sn (fun b => .pointer (some ⟨b, 0, none⟩)) #[.int .i64 m, .slice A n c] 24 s1 rfl rfl rfl (fun _ => by kernel_rfl) (fun b2 w3 hb4 k5 x6 s7 => ?_)
  have lo8 : w.heap.size ≤ b2 := by have := ((Sb (Below.refl _ _) s1 nkk)).size; omega
  refine sq (v := .bool false) rfl (r_assign rfl rfl) rfl rfl rfl ?_
  refine sch_end ?_
  simp only [List.set_cons_zero, List.set_cons_succ]
  have c9 := (Sb (Below.refl _ _) s7 nkk)
  apply h1
  refine wp_seq_k (fun K2 h2 => ?_)
  refine region_plain (row := none) [(0, false), (1, true), (2, false), (3, false), (4, false), (5, true), (6, false), (7, false)] rfl ?_
  have s10 := SG.self w3 none
  refine sq (v := .agg #[.int .i64 m, .slice A n c]) rfl (r_load2 rfl rfl (by kernel_rfl) (by kernel_rfl) (sgS (blk_cell (j := 0) x6 rfl) (by simp)) (sgS (blk_cell (j := 1) x6 rfl) (by simp))) rfl rfl rfl ?_
  refine sc (vs := [.agg #[.int .i64 m, .slice A n c]]) rfl rfl rfl (by kernel_rfl) rfl rfl (IsValid_any m A n c ps _ (Rk ha (Sb c9 s10 nkk)) (by omega)) ?_
  rintro e w12 ⟨rfl, b11⟩
  have s13 := SG.of_below s10 b11
  refine ⟨_, rfl, s13, ?_⟩
  rcases Bool.eq_false_or_eq_true (goodN m ps) with q14 | q14
  · rw [q14]
    refine sq (v := .bool true) rfl (r_move rfl rfl) rfl rfl rfl ?_
    refine sq (v := .agg #[.int .i64 m, .slice A n c]) rfl (r_load2 rfl rfl (by kernel_rfl) (by kernel_rfl) (sgS (blk_cell (j := 0) x6 rfl) (by simp)) (sgS (blk_cell (j := 1) x6 rfl) (by simp))) rfl rfl rfl ?_
    refine sq (v := .int .i64 v) rfl (r_move rfl rfl) rfl rfl rfl ?_
    simp only [List.set_cons_zero, List.set_cons_succ]
    refine sc (vs := [.agg #[.int .i64 m, .slice A n c], .int .i64 v]) rfl rfl rfl (by kernel_rfl) rfl rfl (has_any m A n c ps v _) ?_
    rintro e w16 ⟨rfl, b15⟩
    have s17 := SG.of_below s13 b15
    refine ⟨_, rfl, s17, ?_⟩
    rcases Bool.eq_false_or_eq_true (inB v 1 m) with q18 | q18
    · rw [q18]
      refine sq (v := .bool true) rfl (r_pick rfl rfl rfl) rfl rfl rfl ?_
      refine sq (v := .bool true) rfl (r_assign rfl rfl) rfl rfl rfl ?_
      refine sch_end ?_
      simp only [List.set_cons_zero, List.set_cons_succ]
      have x6 := Sk s17 x6 (by simp)
      have c19 := (Sb c9 s17 nkk)
      apply h2
      refine wp_ret ?_
      try simp only [Exit.then]
      refine ret1 rfl rfl ?_
      exact ⟨ret_bool (by simp [q14, q18]), c19⟩
    · rw [q18]
      refine sq (v := .bool false) rfl (r_pick rfl rfl rfl) rfl rfl rfl ?_
      refine sq (v := .bool false) rfl (r_assign rfl rfl) rfl rfl rfl ?_
      refine sch_end ?_
      simp only [List.set_cons_zero, List.set_cons_succ]
      have x6 := Sk s17 x6 (by simp)
      have c20 := (Sb c9 s17 nkk)
      apply h2
      refine wp_ret ?_
      try simp only [Exit.then]
      refine ret1 rfl rfl ?_
      exact ⟨ret_bool (by simp [q14, q18]), c20⟩
  · rw [q14]
    refine sq (v := .bool false) rfl (r_move rfl rfl) rfl rfl rfl ?_
    refine sk s13 rfl rfl rfl rfl ?_
    refine sk s13 rfl rfl rfl rfl ?_
    simp only [List.set_cons_zero, List.set_cons_succ]
    refine sk s13 rfl rfl rfl rfl ?_
    refine sq (v := .bool false) rfl (r_pick rfl rfl rfl) rfl rfl rfl ?_
    refine sq (v := .bool false) rfl (r_assign rfl rfl) rfl rfl rfl ?_
    refine sch_end ?_
    simp only [List.set_cons_zero, List.set_cons_succ]
    have x6 := Sk s13 x6 (by simp)
    have c21 := (Sb c9 s13 nkk)
    apply h2
    refine wp_ret ?_
    try simp only [Exit.then]
    refine ret1 rfl rfl ?_
    exact ⟨ret_bool (by simp [q14]), c21⟩
set_option maxRecDepth 100000 in
set_option maxHeartbeats 1000000 in
theorem l2Find_any (m : Int) (A : Option Addr) (n c : Nat) (ps : List Pp) (v : Int) (w : World) (ha : Rd w 4 A n (pipesV ps)) (hn : n ≤ 1048576) :
    Calls Tryd.prog 58 #[.agg #[.int .i64 m, .slice A n c], .int .i64 v] w fun e w' => e = .returned (.int .i64 (findL ps v)) ∧ Below w.heap.size w w' := by
  have hl := rd_pipes_len ha
  go_enter Tryd.func58, Tryd.ntmps58
  refine wp_seq_k (fun K1 h1 => ?_)
  refine region_plain (row := none) [(0, true), (1, false)] rfl ?_
  have s1 := SG.self w none
  refine sn (fun b => .pointer (some ⟨b, 0, none⟩)) #[.int .i64 m, .slice A n c] 24 s1 rfl rfl rfl (fun _ => by kernel_rfl) (fun b2 w3 hb4 k5 x6 s7 => ?_)
  have lo8 : w.heap.size ≤ b2 := by have := ((Sb (Below.refl _ _) s1 nkk)).size; omega
  refine sq (v := .int .i64 0) rfl (r_assign rfl rfl) rfl rfl rfl ?_
  refine sch_end ?_
  simp only [List.set_cons_zero, List.set_cons_succ]
  have c9 := (Sb (Below.refl _ _) s7 nkk)
  apply h1
  refine wp_seq_k (fun K2 h2 => ?_)
  refine wp_seq_k (fun K3 h3 => ?_)
  refine region_quiet [(0, false)] rfl ?_
  refine sq (v := .int .i64 0) rfl (r_assign rfl rfl) rfl rfl rfl ?_
  refine sch_end ?_
  simp only [List.set_cons_zero, List.set_cons_succ]
  apply h3
  refine wp_block ?_
  refine loopK (fun am0 aa0 wl0 => ∃ (k : Nat) (u0_6 u0_7 u0_8 u0_9 u0_10 u0_11 u0_12 u0_13 u0_14 u0_15 u0_16 u0_17 u0_18 u0_19 u0_20 u0_21 : Value), aa0 = ⟨[.agg #[.int .i64 m, .slice A n c], .int .i64 v, .pointer (some ⟨b2, 0, none⟩), undef, .int .i64 0, .int .i64 ((k : Nat) : Int), u0_6, u0_7, u0_8, u0_9, u0_10, u0_11, u0_12, u0_13, u0_14, u0_15, u0_16, u0_17, u0_18, u0_19, u0_20, u0_21].toArray, []⟩ ∧ (am0 = n - k) ∧ (k ≤ n) ∧ (∀ j z, j < k → ps[j]? = some z → z.id ≠ v) ∧ (wl0.heap[b2]? = some (.cells #[.int .i64 m, .slice A n c] 24 (0, 0))) ∧ (Below w.heap.size w wl0)) (n - 0) ?_ ?_
  · exact ⟨0, _, _, _, _, _, _, _, _, _, _, _, _, _, _, _, _, rfl, rfl, (Nat.zero_le _), upto_zero, x6, c9⟩
  rintro am0 aa0 wl0 K4 h4 ⟨k, u0_6, u0_7, u0_8, u0_9, u0_10, u0_11, u0_12, u0_13, u0_14, u0_15, u0_16, u0_17, u0_18, u0_19, u0_20, u0_21, rfl, rfl, hk, hok, x6, c10⟩
  refine wp_seq_k (fun K5 h5 => ?_)
  refine wp_seq_k (fun K6 h6 => ?_)
  refine region_quiet [(0, false), (1, false), (2, false), (3, false), (4, false)] rfl ?_
  refine sq (v := .int .i64 ((k : Nat) : Int)) rfl (r_move rfl rfl) rfl rfl rfl ?_
  refine sq (v := .pointer (some ⟨b2, 1, none⟩)) rfl (r_field (k := 1) rfl rfl (by kernel_rfl)) rfl rfl rfl ?_
  refine sq (v := .slice A n c) rfl (r_load rfl rfl (by kernel_rfl) (eqS (blk_cell (j := 1) x6 rfl))) rfl rfl rfl ?_
  refine sq (v := .int .i64 ((n : Nat) : Int)) rfl (r_len rfl rfl (by kernel_rfl)) rfl rfl rfl ?_
  by_cases q11 : (((k : Nat) : Int) : Int) < (((n : Nat) : Int) : Int)
  · refine sq (v := .bool true) rfl (r_lss rfl rfl rfl (dt q11)) rfl rfl rfl ?_
    simp only [List.set_cons_zero, List.set_cons_succ]
    refine sch_end ?_
    apply h6
    refine wp_cond_true rfl ?_
    apply wp_skip
    apply h5
    refine wp_seq_k (fun K7 h7 => ?_)
    refine wp_block ?_
    refine wp_seq_k (fun K8 h8 => ?_)
    refine region_quiet [(0, false), (1, false), (2, false), (3, false), (4, false), (5, false), (6, false), (7, false)] rfl ?_
    refine sq (v := .pointer (some ⟨b2, 1, none⟩)) rfl (r_field (k := 1) rfl rfl (by kernel_rfl)) rfl rfl rfl ?_
    refine sq (v := .slice A n c) rfl (r_load rfl rfl (by kernel_rfl) (eqS (blk_cell (j := 1) x6 rfl))) rfl rfl rfl ?_
    refine sq (v := .int .i64 ((k : Nat) : Int)) rfl (r_move rfl rfl) rfl rfl rfl ?_
    obtain ⟨x12, hx13⟩ := get_of (zs := ps) (k := k) (by have := hl; omega)
    obtain ⟨b14, o15, hA16, hb17, hc18, hc19, hc20, hc21⟩ := Rd.elPipe ha hx13
    refine sq (v := .pointer (some ⟨b14, o15 + k * 4, none⟩)) rfl (r_idx (k := k) rfl rfl hA16 rfl (by kernel_rfl) (by have := hl; omega)) rfl rfl rfl ?_
    refine sq (v := .pointer (some ⟨b14, o15 + k * 4, none⟩)) rfl (r_field0 rfl rfl (by kernel_rfl)) rfl rfl rfl ?_
    simp only [List.set_cons_zero, List.set_cons_succ]
    refine sq (v := .int .i64 x12.id) rfl (r_load rfl rfl (by kernel_rfl) (eqS (later c10 hc18))) rfl rfl rfl ?_
    refine sq (v := .int .i64 v) rfl (r_move rfl rfl) rfl rfl rfl ?_
    by_cases q22 : (x12.id : Int) = (v : Int)
    · refine sq (v := .bool true) rfl (r_eql rfl rfl rfl (dt q22)) rfl rfl rfl ?_
      refine sch_end ?_
      simp only [List.set_cons_zero, List.set_cons_succ]
      apply h8
      refine wp_cond_true rfl ?_
      refine wp_seq_k (fun K9 h9 => ?_)
      refine region_quiet [(0, false), (1, false)] rfl ?_
      refine sq (v := .int .i64 ((k : Nat) : Int)) rfl (r_move rfl rfl) rfl rfl rfl ?_
      refine sq (v := .int .i64 ((k : Nat) : Int)) rfl (r_assign rfl rfl) rfl rfl rfl ?_
      refine sch_end ?_
      simp only [List.set_cons_zero, List.set_cons_succ]
      apply h9
      refine wp_ret ?_
      try simp only [Exit.then, Exit.inBlock]
      refine ret1 rfl rfl ?_
      exact ⟨ret_int ((findL_at hok hx13 q22).symm), c10⟩
    · refine sq (v := .bool false) rfl (r_eql rfl rfl rfl (df q22)) rfl rfl rfl ?_
      refine sch_end ?_
      simp only [List.set_cons_zero, List.set_cons_succ]
      apply h8
      refine wp_cond_false rfl ?_
      apply wp_skip
      apply h7
      refine region_quiet [(0, false), (1, false), (2, false)] rfl ?_
      refine sq (v := .int .i64 ((k : Nat) : Int)) rfl (r_move rfl rfl) rfl rfl rfl ?_
      refine sq (v := .int .i64 ((k + 1 : Nat) : Int)) rfl (r_add (z := ((k + 1 : Nat) : Int)) rfl rfl rfl (by omega) (by omega)) rfl rfl rfl ?_
      refine sq (v := .int .i64 ((k + 1 : Nat) : Int)) rfl (r_assign rfl rfl) rfl rfl rfl ?_
      refine sch_end ?_
      simp only [List.set_cons_zero, List.set_cons_succ]
      exact h4 _ _ _ (by omega : (n - (k + 1)) < _) ⟨k + 1, _, _, _, _, _, _, _, _, _, _, _, _, _, _, _, _, rfl, rfl, (by omega), (upto_succ (Q := fun z => z.id ≠ v) hok hx13 q22), x6, c10⟩
  · refine sq (v := .bool false) rfl (r_lss rfl rfl rfl (df q11)) rfl rfl rfl ?_
    simp only [List.set_cons_zero, List.set_cons_succ]
    refine sch_end ?_
    apply h6
    refine wp_cond_false rfl ?_
    refine wp_exit ?_
    apply h2
    refine wp_seq_k (fun K10 h10 => ?_)
    refine region_quiet [(0, false)] rfl ?_
    refine sq (v := .int .i64 (-1)) rfl (r_assign rfl rfl) rfl rfl rfl ?_
    refine sch_end ?_
    simp only [List.set_cons_zero, List.set_cons_succ]
    apply h10
    refine wp_ret ?_
    try simp only [Exit.then]
    refine ret1 rfl rfl ?_
    exact ⟨ret_int ((findL_none hl hok (by omega)).symm), c10⟩
end Go.Proofs.YtdlcldaogcbnlaaDoor
namespace Go.Proofs.YtdlcldaogcbnlaaDoor
open Go.RowKit
set_option linter.unusedVariables false
def Sp (A : Option Addr) (n : Nat) (g : Option Nat) : Prop := 0 < n → ∀ b off, A = some ⟨b, off, none⟩ → some b ≠ g
theorem sp_new {W : World} {size n b : Nat} {A : Option Addr} {xs : List Value} (h : Rd W size A n xs) (hb : W.heap.size ≤ b) : Sp A n (some b) := fun hn b' off e e2 => by
  obtain ⟨b1, o1, e1, hlt, _⟩ := h.2 hn
  rw [e] at e1; cases e1; cases e2; omega
theorem rd_sep {w w' : World} {size n : Nat} {A : Option Addr} {xs : List Value} {g : Option Nat} (h : Rd w size A n xs) (hg : SG w g w') (hs : Sp A n g) : Rd w' size A n xs :=
  ⟨h.1, fun hn => by
    obtain ⟨b, off, e, hb, hc⟩ := h.2 hn
    exact ⟨b, off, e, Nat.lt_of_lt_of_le hb hg.size, fun j u hu => hg.cell (hc j u hu) (hs hn b off e)⟩⟩
theorem evk {a : Act} {i : Operand} {z : Int} {k : Nat} (h : a.eval i = .int .i64 z) (e : z = (k : Int)) : a.eval i = .int .i64 ((k : Nat) : Int) := by rw [h, e]
end Go.Proofs.YtdlcldaogcbnlaaDoor
namespace Go.Proofs.YtdlcldaogcbnlaaDoor
open Go.RowKit
set_option linter.unusedVariables false
set_option linter.unusedSimpArgs false
theorem sp_of_nbr {A : Option Addr} {n n' c : Nat} {u : Value} (h : NbR (.slice A n' c) u) : Sp A n u.ownBlock := fun _ b off e e2 => h b (by rw [e]; simp [Value.ownBlock]) e2.symm
theorem sp_of_nb {A : Option Addr} {n n' c b : Nat} (h : Nb b (.slice A n' c)) : Sp A n (some b) := fun _ b' off e e2 => h (by rw [e]; simp [Value.ownBlock]; cases e2; rfl)
end Go.Proofs.YtdlcldaogcbnlaaDoor
namespace Go.Proofs.YtdlcldaogcbnlaaDoor
open Go.RowKit
set_option linter.unusedVariables false
set_option linter.unusedSimpArgs false
def bAt (s : ByteArray) (k : Nat) : Nat := (s.data.toList.getD k 0).toNat
theorem bAt_lt (s : ByteArray) (k : Nat) : bAt s k < 256 := UInt8.toNat_lt _
theorem bAt_get {s : ByteArray} {k : Nat} (h : k < s.size) : bAt s k = (s[k]).toNat := by
  unfold bAt
  rw [List.getD_eq_getElem?_getD, List.getElem?_eq_getElem (by simpa using h)]; rfl
section
variable {P : Program} {S : World → Prop} {o : Oper} {a : Act}
theorem r_lenS {x : Operand} {t : TypeId} {s : ByteArray} (ho : o.op = .call { callee := .builtin .len, args := #[x], argTypes := #[t] }) (hx : a.eval x = .string s) (ht : P.underlying t = some .string) :
    ∀ w, S w → (execOp a.eval o).run P w = .ok (.value (.int .i64 ((s.size : Nat) : Int))) w := fun w _ => by
  simp [execOp, ho, hx, resolve, invoke, builtin, Builtin.len_, underlying, ht, goInt]
theorem r_indexS {t : TypeId} {x i : Operand} {s : ByteArray} {k : Nat} (ho : o.op = .index t x i) (hx : a.eval x = .string s) (hi : a.eval i = .int .i64 (k : Int)) (ht : P.underlying t = some .string) (hk : k < s.size) :
    ∀ w, S w → (execOp a.eval o).run P w = .ok (.value (.int .u8 ((bAt s k : Nat) : Int))) w := fun w _ => by
  rw [bAt_get hk]
  have h0 : (0 : Int) ≤ (k : Int) := by omega
  simp [execOp, ho, hx, hi, Instr.index, asIntOf, underlying, ht, h0, getElem?_pos s k hk]
theorem r_cutS {t : TypeId} {x y z : Operand} {s : ByteArray} {l h : Nat} (ho : o.op = .slice t x (some y) (some z) none) (hx : a.eval x = .string s) (hy : a.eval y = .int .i64 (l : Int)) (hz : a.eval z = .int .i64 (h : Int)) (ht : P.underlying t = some .string) (hl : l ≤ h) (hh : h ≤ s.size) :
    ∀ w, S w → (execOp a.eval o).run P w = .ok (.value (.string (s.extract l h))) w := fun w _ => by
  have h0 : (0 : Int) ≤ (l : Int) ∧ (l : Int) ≤ (h : Int) := by omega
  have h1 : (0 : Int) ≤ (h : Int) ∧ (h : Int) ≤ (s.size : Int) := by omega
  simp [execOp, ho, hx, hy, hz, Instr.sliceAt, Instr.slice, Instr.sliceBounds, Instr.sliceBound, asIntOf, underlying, ht, hh, hl]
theorem r_fromS {t : TypeId} {x y : Operand} {s : ByteArray} {l : Nat} (ho : o.op = .slice t x (some y) none none) (hx : a.eval x = .string s) (hy : a.eval y = .int .i64 (l : Int)) (ht : P.underlying t = some .string) (hl : l ≤ s.size) :
    ∀ w, S w → (execOp a.eval o).run P w = .ok (.value (.string (s.extract l s.size))) w := fun w _ => by
  simp [execOp, ho, hx, hy, Instr.sliceAt, Instr.slice, Instr.sliceBounds, Instr.sliceBound, asIntOf, underlying, ht, hl]
theorem r_toS {t : TypeId} {x z : Operand} {s : ByteArray} {h : Nat} (ho : o.op = .slice t x none (some z) none) (hx : a.eval x = .string s) (hz : a.eval z = .int .i64 (h : Int)) (ht : P.underlying t = some .string) (hh : h ≤ s.size) :
    ∀ w, S w → (execOp a.eval o).run P w = .ok (.value (.string (s.extract 0 h))) w := fun w _ => by
  simp [execOp, ho, hx, hz, Instr.sliceAt, Instr.slice, Instr.sliceBounds, Instr.sliceBound, asIntOf, underlying, ht, hh]
theorem r_addS {t u : TypeId} {x y : Operand} {s r : ByteArray} (ho : o.op = .binOp .add t x y u) (hx : a.eval x = .string s) (hy : a.eval y = .string r) (hl : s.size + r.size ≤ 9223372036854775807) :
    ∀ w, S w → (execOp a.eval o).run P w = .ok (.value (.string (s ++ r))) w := fun w _ => by
  have h0 : ¬ (((s.size + r.size : Nat) : Int) > IntKind.i64.max) := by
    show ¬ (((s.size + r.size : Nat) : Int) > 9223372036854775807); omega
  simp only [execOp, ho, hx, hy, eqGuard, binOp, Op.stringOp]
  simp [h0]
  omega
theorem toList_eq {s r : ByteArray} : (s.toList == r.toList) = decide (s = r) := by
  by_cases h : s = r
  · subst h; simp
  · rw [decide_eq_false h]
    refine beq_eq_false_iff_ne.2 (fun e => h ?_)
    rw [ByteArray.toList_eq, ByteArray.toList_eq] at e
    exact ByteArray.ext (Array.toList_inj.1 e)
theorem r_eqlS {t u : TypeId} {x y : Operand} {s r : ByteArray} {b : Bool} (ho : o.op = .binOp .eql t x y u) (hx : a.eval x = .string s) (hy : a.eval y = .string r) (hb : decide (s = r) = b) :
    ∀ w, S w → (execOp a.eval o).run P w = .ok (.value (.bool b)) w := fun w _ => by
  subst hb
  rw [← toList_eq]
  simp [execOp, ho, hx, hy, eqGuard, binOp, Op.stringOp]
theorem r_neqS {t u : TypeId} {x y : Operand} {s r : ByteArray} {b : Bool} (ho : o.op = .binOp .neq t x y u) (hx : a.eval x = .string s) (hy : a.eval y = .string r) (hb : (!decide (s = r)) = b) :
    ∀ w, S w → (execOp a.eval o).run P w = .ok (.value (.bool b)) w := fun w _ => by
  subst hb
  rw [← toList_eq]
  simp [execOp, ho, hx, hy, eqGuard, binOp, Op.stringOp]
theorem r_conv {src dst : TypeId} {x : Operand} {k k' : IntKind} {n m : Int} (ho : o.op = .convert src dst x) (hx : a.eval x = .int k n) (hs : P.underlying src = some (.int k)) (hd : P.underlying dst = some (.int k')) (hw : k'.wrap n = m) :
    ∀ w, S w → (execOp a.eval o).run P w = .ok (.value (.int k' m)) w := fun w _ => by
  subst hw
  simp [execOp, ho, hx, convert, underlying, hs, hd, Conv.intToInt]
theorem size1 (x : UInt8) : (⟨#[x]⟩ : ByteArray).size = 1 := rfl
theorem wrap_i64 {n : Int} (h0 : -9223372036854775808 ≤ n) (h1 : n ≤ 9223372036854775807) : IntKind.i64.wrap n = n := IntWalk.i64_in _ (by omega)
section
variable {k : IntKind}
theorem r_eqlK {t u : TypeId} {x y : Operand} {m n : Int} {r : Bool} (ho : o.op = .binOp .eql t x y u) (hx : a.eval x = .int k m) (hy : a.eval y = .int k n) (hr : decide (m = n) = r) :
    ∀ w, S w → (execOp a.eval o).run P w = .ok (.value (.bool r)) w := fun w _ => by
  subst hr
  simp [execOp, ho, hx, hy, eqGuard, binOp, Op.intCmp]
  by_cases h : m = n <;> simp [h]
theorem r_lssK {t u : TypeId} {x y : Operand} {m n : Int} {r : Bool} (ho : o.op = .binOp .lss t x y u) (hx : a.eval x = .int k m) (hy : a.eval y = .int k n) (hr : decide (m < n) = r) :
    ∀ w, S w → (execOp a.eval o).run P w = .ok (.value (.bool r)) w := fun w _ => by
  subst hr
  simp [execOp, ho, hx, hy, eqGuard, binOp, Op.intCmp]
theorem r_gtrK {t u : TypeId} {x y : Operand} {m n : Int} {r : Bool} (ho : o.op = .binOp .gtr t x y u) (hx : a.eval x = .int k m) (hy : a.eval y = .int k n) (hr : decide (m > n) = r) :
    ∀ w, S w → (execOp a.eval o).run P w = .ok (.value (.bool r)) w := fun w _ => by
  subst hr
  simp [execOp, ho, hx, hy, eqGuard, binOp, Op.intCmp]
theorem r_leqK {t u : TypeId} {x y : Operand} {m n : Int} {r : Bool} (ho : o.op = .binOp .leq t x y u) (hx : a.eval x = .int k m) (hy : a.eval y = .int k n) (hr : decide (m ≤ n) = r) :
    ∀ w, S w → (execOp a.eval o).run P w = .ok (.value (.bool r)) w := fun w _ => by
  subst hr
  simp [execOp, ho, hx, hy, eqGuard, binOp, Op.intCmp]
theorem r_geqK {t u : TypeId} {x y : Operand} {m n : Int} {r : Bool} (ho : o.op = .binOp .geq t x y u) (hx : a.eval x = .int k m) (hy : a.eval y = .int k n) (hr : decide (m ≥ n) = r) :
    ∀ w, S w → (execOp a.eval o).run P w = .ok (.value (.bool r)) w := fun w _ => by
  subst hr
  simp [execOp, ho, hx, hy, eqGuard, binOp, Op.intCmp]
theorem r_addK {t u : TypeId} {x y : Operand} {m n z : Int} (ho : o.op = .binOp .add t x y u) (hx : a.eval x = .int k m) (hy : a.eval y = .int k n) (hz : k.wrap (m + n) = z) :
    ∀ w, S w → (execOp a.eval o).run P w = .ok (.value (.int k z)) w := fun w _ => by
  subst hz
  simp [execOp, ho, hx, hy, eqGuard, binOp, Op.intArith]
theorem r_subK {t u : TypeId} {x y : Operand} {m n z : Int} (ho : o.op = .binOp .sub t x y u) (hx : a.eval x = .int k m) (hy : a.eval y = .int k n) (hz : k.wrap (m - n) = z) :
    ∀ w, S w → (execOp a.eval o).run P w = .ok (.value (.int k z)) w := fun w _ => by
  subst hz
  simp [execOp, ho, hx, hy, eqGuard, binOp, Op.intArith]
theorem r_mulK {t u : TypeId} {x y : Operand} {m n z : Int} (ho : o.op = .binOp .mul t x y u) (hx : a.eval x = .int k m) (hy : a.eval y = .int k n) (hz : k.wrap (m * n) = z) :
    ∀ w, S w → (execOp a.eval o).run P w = .ok (.value (.int k z)) w := fun w _ => by
  subst hz
  simp [execOp, ho, hx, hy, eqGuard, binOp, Op.intArith]
theorem r_quoK {t u : TypeId} {x y : Operand} {m n z : Int} (ho : o.op = .binOp .quo t x y u) (hx : a.eval x = .int k m) (hy : a.eval y = .int k n) (hn : n ≠ 0) (hz : k.wrap (m.tdiv n) = z) :
    ∀ w, S w → (execOp a.eval o).run P w = .ok (.value (.int k z)) w := fun w _ => by
  subst hz
  simp [execOp, ho, hx, hy, eqGuard, binOp, Op.intDiv, hn]
theorem r_remK {t u : TypeId} {x y : Operand} {m n z : Int} (ho : o.op = .binOp .rem t x y u) (hx : a.eval x = .int k m) (hy : a.eval y = .int k n) (hn : n ≠ 0) (hz : m.tmod n = z) :
    ∀ w, S w → (execOp a.eval o).run P w = .ok (.value (.int k z)) w := fun w _ => by
  subst hz
  simp [execOp, ho, hx, hy, eqGuard, binOp, Op.intDiv, hn]
theorem r_neg {t : TypeId} {x : Operand} {m z : Int} (ho : o.op = .unOp .neg t x) (hx : a.eval x = .int k m) (hz : k.wrap (-m) = z) : ∀ w, S w → (execOp a.eval o).run P w = .ok (.value (.int k z)) w := fun w _ => by
  subst hz
  simp [execOp, ho, hx, Op.unary, Op.intArith]
end
end
theorem strs_len (zs : List ByteArray) : (strsV zs).length = zs.length := by simp [strsV]
theorem rd_strs_len {w : World} {A : Option Addr} {n : Nat} {zs : List ByteArray} (h : Rd w 1 A n (strsV zs)) : zs.length = n := by
  have := h.1; rw [strs_len] at this; omega
theorem own_snocS {w : World} {base : Nat} {e : TypeId} {v : Value} {n : Nat} {zs : List ByteArray} {x : ByteArray} (h : w.ownsRow base e 1 v n (strsV zs ++ (#[Value.string x] : Array Value).toList)) : w.ownsRow base e 1 v n (strsV (zs ++ [x])) := by
  simpa [strsV] using h
theorem own_atS {w : World} {base : Nat} {e : TypeId} {g n c k : Nat} {zs : List ByteArray} {x : ByteArray} (h : w.ownsRow base e 1 (.slice (some ⟨g, 0, none⟩) n c) n (strsV zs)) (hx : zs[k]? = some x) : w.cell? ⟨g, k, none⟩ = some (.string x) := by
  have hl := own_len h
  rw [strs_len] at hl
  have hk := (List.getElem?_eq_some_iff.1 hx).1
  rw [h.cellAt k (by omega)]; unfold strsV; rw [List.getElem?_map, hx]; rfl
end Go.Proofs.YtdlcldaogcbnlaaDoor
