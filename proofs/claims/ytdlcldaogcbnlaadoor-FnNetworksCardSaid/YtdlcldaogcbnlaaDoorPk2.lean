/- What the texts behind it build on; conditions: none. -/
import Derived.Test.YtdlcldaogcbnlaaDoorPk1
import Derived.Test.YtdlcldaogcbnlaaDoorProg
import Derived.Laws.StructEq
namespace Go.Proofs.YtdlcldaogcbnlaaDoor
open Go.RowKit
set_option linter.unusedVariables false
set_option linter.unusedSimpArgs false
def bytesV (zs : List Int) : List Value := zs.map (Value.int .u8)
theorem bytes_len (zs : List Int) : (bytesV zs).length = zs.length := by simp [bytesV]
theorem rd_bytes_len {w : World} {A : Option Addr} {n : Nat} {zs : List Int} (h : Rd w 1 A n (bytesV zs)) : zs.length = n := by
  have := h.1; rw [bytes_len] at this; omega
theorem Rd.elByte {w : World} {A : Option Addr} {n k : Nat} {zs : List Int} {x : Int} (h : Rd w 1 A n (bytesV zs)) (hx : zs[k]? = some x) : ∃ b off, A = some ⟨b, off, none⟩ ∧ b < w.heap.size ∧ w.cell? ⟨b, off + k, none⟩ = some (.int .u8 x) := by
  have hl := rd_bytes_len h
  have hk := (List.getElem?_eq_some_iff.1 hx).1
  obtain ⟨b, off, e, hb, hc⟩ := h.2 (by omega)
  exact ⟨b, off, e, hb, hc k _ (by unfold bytesV; rw [List.getElem?_map, hx]; rfl)⟩
section
variable {P : Program} {S : World → Prop} {o : Oper} {a : Act}
theorem r_shrZ {t u : TypeId} {x y : Operand} {z : Int} {k : Nat} {yk : IntKind} (ho : o.op = .binOp .shr t x y u) (hx : a.eval x = .int .u64 z) (hy : a.eval y = .int yk (k : Int)) (hk : k ≤ 64) :
    ∀ w, S w → (execOp a.eval o).run P w = .ok (.value (.int .u64 (z / 2 ^ k))) w := fun w _ => by
  have hs := shift_shr .u64 yk z (k : Int) (by omega) (by show (k : Int) ≤ ((64 : Nat) : Int); omega)
  rw [Int.toNat_natCast] at hs
  simp [execOp, ho, hx, hy, eqGuard, binOp, hs]
def and255 (z : Int) : Nat := (BitVec.ofInt 64 z &&& BitVec.ofInt 64 255).toNat
theorem and255_lt (z : Int) : and255 z < 256 := by
  unfold and255
  rw [BitVec.toNat_and]
  have : (BitVec.ofInt 64 255).toNat = 255 := by decide
  rw [this]
  have := @Nat.and_le_right (BitVec.ofInt 64 z).toNat 255
  omega
theorem r_and255 {t u : TypeId} {x y : Operand} {z : Int} (ho : o.op = .binOp .and t x y u) (hx : a.eval x = .int .u64 z) (hy : a.eval y = .int .u64 255) :
    ∀ w, S w → (execOp a.eval o).run P w = .ok (.value (.int .u64 ((and255 z : Nat) : Int))) w := fun w _ => by
  have hs : Op.intBits .and .u64 z 255 = pure (.int .u64 ((and255 z : Nat) : Int)) := by
    unfold Op.intBits
    show (pure (Value.int .u64 (IntKind.u64.wrap ((and255 z : Nat) : Int))) : Sem Value) = _
    have := and255_lt z
    rw [show IntKind.u64.wrap ((and255 z : Nat) : Int) = ((and255 z : Nat) : Int) from IntWalk.u64_in _ (by omega)]
  simp [execOp, ho, hx, hy, eqGuard, binOp, hs]
end
theorem rd_sepG {w w' : World} {size n : Nat} {A : Option Addr} {xs : List Value} {g : Option Nat} (h : Rd w size A n xs) (hg : w.grownBy w' g) (hs : Sp A n g) : Rd w' size A n xs := rd_sep h hg hs
theorem rd_sepM {w w' : World} {size n : Nat} {A : Option Addr} {xs : List Value} {r : List (Option Nat)} (h : Rd w size A n xs) (hg : SM w r w') (hs : ∀ g ∈ r, Sp A n g) : Rd w' size A n xs :=
  ⟨h.1, fun hn => by
    obtain ⟨b, off, e, hb, hc⟩ := h.2 hn
    exact ⟨b, off, e, Nat.lt_of_lt_of_le hb hg.size, fun j u hu => hg.cell (hc j u hu) (fun hm => hs _ hm hn b off e rfl)⟩⟩
theorem sp2 {A : Option Addr} {n : Nat} {a b : Option Nat} (h1 : Sp A n a) (h2 : Sp A n b) : ∀ g ∈ [a, b], Sp A n g := fun g h => by
  simp only [List.mem_cons, List.not_mem_nil, or_false] at h
  rcases h with rfl | rfl <;> assumption
theorem sp3 {A : Option Addr} {n : Nat} {a b c : Option Nat} (h1 : Sp A n a) (h2 : Sp A n b) (h3 : Sp A n c) : ∀ g ∈ [a, b, c], Sp A n g := fun g h => by
  simp only [List.mem_cons, List.not_mem_nil, or_false] at h
  rcases h with rfl | rfl | rfl <;> assumption
theorem sp_ne {b B n : Nat} (h : b ≠ B) : Sp (some ⟨b, 0, none⟩) n (some B) := fun _ b' off e e2 => by
  cases e; cases e2; exact h rfl
theorem rd_blk {w : World} {b n : Nat} {cs : Array Value} {t : TypeId} {xs : List Value} (h : w.heap[b]? = some (.cells cs t (0, 0))) (e : cs.toList = xs) (hn : cs.size = n) : Rd w 1 (some ⟨b, 0, none⟩) n xs := by
  subst e
  refine ⟨by rw [Array.length_toList, hn]; omega, fun _ => ⟨b, 0, rfl, blk_lt h, fun j u hu => ?_⟩⟩
  rw [Nat.zero_add]
  exact blk_cell h (by rw [← Array.getElem?_toList]; exact hu)
def Cur (w : World) (B N k : Nat) : Prop := ∃ (A : Option Addr) (n c : Nat) (zs : List Int) (at_ : Nat) (sd : Int), w.heap[B]? = some (.cells #[.slice A n c, .int .i64 ((at_ : Nat) : Int), .int .u64 sd] 66 (0, 0)) ∧
  Rd w 1 A n (bytesV zs) ∧ (∀ z ∈ zs, 0 ≤ z ∧ z < 256) ∧ n ≤ 4611686018427387904 ∧ at_ ≤ k ∧ N ≤ B ∧ ∀ b off, 0 < n → A = some ⟨b, off, none⟩ → b < N
theorem Cur.lt {w : World} {B N k : Nat} (h : Cur w B N k) : B < w.heap.size := by
  obtain ⟨_, _, _, _, _, _, h1, _⟩ := h; exact blk_lt h1
theorem Cur.hN {w : World} {B N k : Nat} (h : Cur w B N k) : N ≤ w.heap.size := by
  have := h.lt
  obtain ⟨_, _, _, _, _, _, h1, _, _, _, _, h2, _⟩ := h; omega
theorem Cur.mono {w : World} {B N k k' : Nat} (h : Cur w B N k) (hk : k ≤ k') : Cur w B N k' := by
  obtain ⟨A, n, c, zs, at_, sd, h1, h2, h3, h4, h5, h6⟩ := h
  exact ⟨A, n, c, zs, at_, sd, h1, h2, h3, h4, by omega, h6⟩
theorem Cur.keeps {w w' : World} {B N k : Nat} (h : Cur w B N k) (hs : w.heap.size ≤ w'.heap.size) (hb : w'.heap[B]? = w.heap[B]?) (hn : ∀ j, j < N → w'.heap[j]? = w.heap[j]?) : Cur w' B N k := by
  obtain ⟨A, n, c, zs, at_, sd, h1, h2, h3, h4, h5, h6, h7⟩ := h
  refine ⟨A, n, c, zs, at_, sd, hb.trans h1, ⟨h2.1, fun hp => ?_⟩, h3, h4, h5, h6, h7⟩
  obtain ⟨b, off, e, hlt, hc⟩ := h2.2 hp
  exact ⟨b, off, e, by omega, fun j u hu => (World.cell?_of_block (hn b (h7 b off hp e))).trans (hc j u hu)⟩
theorem Cur.heap {w w' : World} {B N k : Nat} (h : Cur w B N k) (e : w'.heap = w.heap) : Cur w' B N k := h.keeps (by rw [e]; exact Nat.le_refl _) (by rw [e]) (fun j _ => by rw [e])
theorem Cur.below {w w' : World} {B N k : Nat} (h : Cur w B N k) (b : Below w.heap.size w w') : Cur w' B N k := h.keeps b.size (b.block _ h.lt) (fun j hj => b.block _ (Nat.lt_of_lt_of_le hj h.hN))
theorem Cur.grown {w w' : World} {B N k : Nat} {r : Option Nat} (h : Cur w B N k) (g : w.grownBy w' r) (hne : some B ≠ r) (hlo : ∀ j, r = some j → N ≤ j) : Cur w' B N k :=
  h.keeps g.size (g.block _ h.lt hne) (fun j hj => g.block _ (Nat.lt_of_lt_of_le hj h.hN) (fun e => by have := hlo j e.symm; omega))
theorem Cur.sm {w w' : World} {B N k : Nat} {r : List (Option Nat)} (h : Cur w B N k) (g : SM w r w') (hne : some B ∉ r) (hlo : ∀ j, some j ∈ r → N ≤ j) : Cur w' B N k :=
  h.keeps g.size (g.block _ h.lt hne) (fun j hj => g.block _ (Nat.lt_of_lt_of_le hj h.hN) (fun e => by have := hlo j e; omega))
theorem Cur.new {w w' : World} {B : Nat} {A : Option Addr} {n c : Nat} {zs : List Int} (h : w'.heap[B]? = some (.cells #[.slice A n c, .int .i64 0, .int .u64 0] 66 (0, 0))) (hr : Rd w 1 A n (bytesV zs)) (hz : ∀ z ∈ zs, 0 ≤ z ∧ z < 256) (hn : n ≤ 4611686018427387904)
    (b : Below w.heap.size w w') (lo : w.heap.size ≤ B) : Cur w' B w.heap.size 0 :=
  ⟨A, n, c, zs, 0, 0, h, hr.kept b, hz, hn, Nat.le_refl _, lo, fun b off hp e => by
    obtain ⟨b1, o1, e1, hlt, _⟩ := hr.2 hp
    rw [e] at e1; cases e1; exact hlt⟩
end Go.Proofs.YtdlcldaogcbnlaaDoor
namespace Go.Proofs.YtdlcldaogcbnlaaDoor
open Go.RowKit
set_option linter.unusedVariables false
set_option linter.unusedSimpArgs false
set_option maxRecDepth 100000 in
set_option maxHeartbeats 8000000 in
theorem vBig_any (A : Option Addr) (n c : Nat) (zs : List Int) (w : World) (hcode : Rd w 1 A n (bytesV zs)) (hz : ∀ z ∈ zs, 0 ≤ z ∧ z < 256) (hn : n ≤ 9223372036854775807) :
    Calls Tryd.prog 11 #[.slice A n c] w fun e w' => e = .returned (.bool (decide (65536 < n))) ∧ Below w.heap.size w w' := by
 have hl := rd_bytes_len hcode
 go_enter Tryd.func11, Tryd.ntmps11
 refine F.begin 6 [(0, .slice A n c)] (fun U0 => ?_)
 refine wk fun K1 h1 => ?_
 refine Rq 1 ?_
 refine Fa (.bool false) ?_
 apply F.es
 apply h1
 refine wk fun K2 h2 => ?_
 refine Rq 4 ?_
 refine Fv (.slice A n c) ?_
 refine Fq (.int .i64 (n : Int)) (r_len (A := A) (n := n) (c := c) rfl ek kk) ?_
 by_cases q1 : ((n : Int) : Int) > (65536 : Int)
 ·refine Fq (.bool true) (r_gtr (m := (n : Int)) (n := 65536) rfl ek ek (dt q1)) ?_
  refine Fa (.bool true) ?_
  apply F.es
  apply h2
  refine wp_ret ?_
  try simp only [Exit.then]
  refine ret1 (v := .bool true) rfl kk ?_
  exact ⟨by rw [decide_eq_true (by omega)], (Below.refl _ _)⟩
 refine Fq (.bool false) (r_gtr (m := (n : Int)) (n := 65536) rfl ek ek (df q1)) ?_
 refine Fa (.bool false) ?_
 apply F.es
 apply h2
 refine wp_ret ?_
 try simp only [Exit.then]
 refine ret1 (v := .bool false) rfl kk ?_
 exact ⟨by rw [decide_eq_false (by omega)], (Below.refl _ _)⟩
set_option maxRecDepth 100000 in
set_option maxHeartbeats 8000000 in
theorem vHas_any (A : Option Addr) (n c : Nat) (zs : List Int) (x : Int) (w : World) (ha : Rd w 1 A n (intsV zs)) (hn : n ≤ 9223372036854775807) :
    Calls Tryd.prog 23 #[.slice A n c, .int .i64 x] w fun e w' => e = .returned (.bool (zs.contains x)) ∧ Below w.heap.size w w' := by
 have hl := rd_ints_len ha
 go_enter Tryd.func23, Tryd.ntmps23
 refine F.begin 18 [(0, .slice A n c), (1, .int .i64 x)] (fun U0 => ?_)
 refine wk fun K1 h1 => ?_
 refine Rq 1 ?_
 refine Fa (.bool false) ?_
 apply F.es
 apply h1
 refine wk fun K2 h2 => ?_
 refine wk fun K3 h3 => ?_
 refine Rq 1 ?_
 refine Fa (.int .i64 0) ?_
 apply F.es
 apply h3
 refine wp_block ?_
 refine loopK (fun am0 aa0 wl0 => ∃ (i : Nat) , Kn aa0 [(0, .slice A n c), (1, .int .i64 x), (4, .bool false), (5, .int .i64 (i : Int))] 18 ∧ (am0 = n - i) ∧ (i ≤ n) ∧ (∀ j z, j < i → zs[j]? = some z → z ≠ x) ∧ (Below w.heap.size w wl0)) (n - 0) ?_ ?_
 ·exact ⟨0, Kn.of, rfl, (Nat.zero_le _), upto_zero, (Below.refl _ _)⟩
 rintro am0 aa0 wl0 K4 h4 ⟨i, ⟨U0, rfl⟩, rfl, hi, hno, c1⟩
 refine wk fun K5 h5 => ?_
 refine wk fun K6 h6 => ?_
 refine Rq 4 ?_
 refine Fv (.int .i64 (i : Int)) ?_
 refine Fv (.slice A n c) ?_
 refine Fq (.int .i64 (n : Int)) (r_len (A := A) (n := n) (c := c) rfl ek kk) ?_
 by_cases q2 : ((i : Int) : Int) < ((n : Int) : Int)
 ·refine Fq (.bool true) (r_lss (m := (i : Int)) (n := (n : Int)) rfl ek ek (dt q2)) ?_
  apply F.es
  apply h6
  refine wp_cond_true ek ?_
  apply wp_skip
  apply h5
  refine wk fun K7 h7 => ?_
  refine wp_block ?_
  refine wk fun K8 h8 => ?_
  refine Rq 6 ?_
  refine Fv (.slice A n c) ?_
  refine Fv (.int .i64 (i : Int)) ?_
  obtain ⟨x3, hx4⟩ := get_of (zs := zs) (k := i) (by have := hl; omega)
  obtain ⟨b5, o6, hA7, hb8, hc9⟩ := Rd.elInt ha hx4
  refine Fq (.pointer (some ⟨b5, o6 + i, none⟩)) (r_idx1 (n := n) (c := c) (k := i) rfl ek hA7 kk kk (by have := hl; omega)) ?_
  refine Fl (.int .i64 x3) (eqS (later c1 hc9)) ?_
  refine Fv (.int .i64 x) ?_
  by_cases q10 : (x3 : Int) = (x : Int)
  ·refine Fq (.bool true) (r_eql (m := x3) (n := x) rfl ek ek (dt q10)) ?_
   apply F.es
   apply h8
   refine wp_cond_true ek ?_
   refine wk fun K9 h9 => ?_
   refine Rq 1 ?_
   refine Fa (.bool true) ?_
   apply F.es
   apply h9
   refine wp_ret ?_
   try simp only [Exit.then, Exit.inBlock]
   refine ret1 (v := .bool true) rfl kk ?_
   exact ⟨by rw [← has_yes hx4 q10], c1⟩
  refine Fq (.bool false) (r_eql (m := x3) (n := x) rfl ek ek (df q10)) ?_
  apply F.es
  apply h8
  refine wp_cond_false ek ?_
  apply wp_skip
  apply h7
  refine Rq 3 ?_
  refine Fv (.int .i64 (i : Int)) ?_
  refine Fq (.int .i64 ((i + 1 : Nat) : Int)) (r_add (m := (i : Int)) (n := 1) (z := ((i + 1 : Nat) : Int)) rfl ek ek (by omega) (by omega)) ?_
  refine Fa (.int .i64 ((i + 1 : Nat) : Int)) ?_
  apply F.es
  exact h4 _ _ _ (by omega : (n - (i + 1)) < _) ⟨i + 1, Kn.of, rfl, (by omega), (upto_succ hno hx4 q10), c1⟩
 refine Fq (.bool false) (r_lss (m := (i : Int)) (n := (n : Int)) rfl ek ek (df q2)) ?_
 apply F.es
 apply h6
 refine wp_cond_false ek ?_
 refine wp_exit ?_
 apply h2
 refine wk fun K10 h10 => ?_
 refine Rq 1 ?_
 refine Fa (.bool false) ?_
 apply F.es
 apply h10
 refine wp_ret ?_
 try simp only [Exit.then]
 refine ret1 (v := .bool false) rfl kk ?_
 exact ⟨by rw [← has_no hl hno (by omega)], c1⟩
end Go.Proofs.YtdlcldaogcbnlaaDoor
namespace Go.Proofs.YtdlcldaogcbnlaaDoor
open Go.RowKit
set_option linter.unusedVariables false
set_option linter.unusedSimpArgs false
section
variable {S : World → Prop} {o : Oper} {a : Act}
theorem r_neqAg2 {P : Program} {t u : TypeId} {x y : Operand} {xs ys : Array Value} {r : Bool} (ho : o.op = .binOp .neq t x y u) (hx : a.eval x = .agg xs) (hy : a.eval y = .agg ys) (hg : P.eqGuardType P.depth t = false) (hr : ∀ w, (Op.equalIn 10000 t (.agg xs) (.agg ys)).run P w = .ok r w) :
    ∀ w, S w → (execOp a.eval o).run P w = .ok (.value (.bool (!r))) w := fun w _ => by
  simp [execOp, ho, hx, hy, run_eqGuard_agg w .neq t x y xs ys hg, run_neq_struct, hr w, Result.andThen]
end
theorem eqv_Pipe (a1 : Int) (a2 : Int) (a3 : Int) (a4 : Int) (b1 : Int) (b2 : Int) (b3 : Int) (b4 : Int) (w : World) : (Op.equalIn 10000 38 (.agg #[.int .i64 a1, .int .i64 a2, .int .i64 a3, .int .i64 a4]) (.agg #[.int .i64 b1, .int .i64 b2, .int .i64 b3, .int .i64 b4])).run Tryd.prog w = .ok (decide (a1 = b1 ∧ a2 = b2 ∧ a3 = b3 ∧ a4 = b4)) w := by
  rw [run_equalIn_agg w 9999 _ _ _ (by simp only [Program.fieldsOf, Tryd.underlying38]) (by kernel_rfl)]
  simp only [Program.fieldsOf, Tryd.underlying38]
  by_cases h1 : a1 = b1 <;> by_cases h2 : a2 = b2 <;> by_cases h3 : a3 = b3 <;> by_cases h4 : a4 = b4 <;> simp [go_sem, h1, h2, h3, h4]
theorem r_neq_Pipe {S : World → Prop} {o : Oper} {a : Act} {u : TypeId} {x y : Operand} {a1 : Int} {a2 : Int} {a3 : Int} {a4 : Int} {b1 : Int} {b2 : Int} {b3 : Int} {b4 : Int} {r : Bool} (ho : o.op = .binOp .neq 38 x y u) (hx : a.eval x = .agg #[.int .i64 a1, .int .i64 a2, .int .i64 a3, .int .i64 a4]) (hy : a.eval y = .agg #[.int .i64 b1, .int .i64 b2, .int .i64 b3, .int .i64 b4]) (hr : decide (a1 = b1 ∧ a2 = b2 ∧ a3 = b3 ∧ a4 = b4) = r) :
    ∀ w, S w → (execOp a.eval o).run Tryd.prog w = .ok (.value (.bool (!r))) w := r_neqAg2 ho hx hy (by kernel_rfl) (fun w => by rw [eqv_Pipe, hr])
end Go.Proofs.YtdlcldaogcbnlaaDoor
namespace Go.Proofs.YtdlcldaogcbnlaaDoor
open Go.RowKit
set_option linter.unusedVariables false
set_option linter.unusedSimpArgs false
set_option maxRecDepth 100000 in
set_option maxHeartbeats 8000000 in
theorem vPipes_same (A B : Option Addr) (n c d : Nat) (zs : List Pp) (w : World) (ha : Rd w 4 A n (pipesV zs)) (hb : Rd w 4 B n (pipesV zs)) (hn : n ≤ 9223372036854775807) :
    Calls Tryd.prog 49 #[.slice A n c, .slice B n d] w fun e w' => e = .returned (.bool true) ∧ Below w.heap.size w w' := by
  have hl := rd_pipes_len ha
  go_enter Tryd.func49, Tryd.ntmps49
  refine wp_seq_k (fun K1 h1 => ?_)
  refine W.region_quiet [(0, false)] (by kernel_rfl) ?_
  refine W.as (v := .bool false) (h := ?_)
  refine W.endF 26 [(0, .slice A n c), (1, .slice B n d), (4, .bool false)] (fun U1 => ?_)
  apply h1
  refine wp_seq_k (fun K2 h2 => ?_)
  refine wp_seq_k (fun K3 h3 => ?_)
  refine W.region_quiet [(0, false), (1, false), (2, false), (3, false), (4, false)] (by kernel_rfl) ?_
  refine F.mv (v := .slice A n c) (h := ?_)
  refine F.q (v := .int .i64 ((n : Nat) : Int)) (hr := (r_len (A := A) (n := n) (c := c) rfl (ev_any (by kernel_rfl)) (by kernel_rfl))) (h := ?_)
  refine F.mv (v := .slice B n d) (h := ?_)
  refine F.q (v := .int .i64 ((n : Nat) : Int)) (hr := (r_len (A := B) (n := n) (c := d) rfl (ev_any (by kernel_rfl)) (by kernel_rfl))) (h := ?_)
  refine F.q (v := .bool false) (hr := (r_neq (m := ((n : Nat) : Int)) (n := ((n : Nat) : Int)) rfl (ev_any (by kernel_rfl)) (ev_any (by kernel_rfl)) (df (by omega)))) (h := ?_)
  refine F.endF [(0, .slice A n c), (1, .slice B n d), (4, .bool false), (10, .bool false)] (fun U2 => ?_)
  apply h3
  refine wp_cond_false (by kernel_rfl) ?_
  apply wp_skip
  apply h2
  refine wp_seq_k (fun K4 h4 => ?_)
  refine wp_seq_k (fun K5 h5 => ?_)
  refine W.region_quiet [(0, false)] (by kernel_rfl) ?_
  refine F.as (v := .int .i64 0) (h := ?_)
  refine F.endF [(0, .slice A n c), (1, .slice B n d), (4, .bool false), (5, .int .i64 0), (10, .bool false)] (fun U3 => ?_)
  apply h5
  refine wp_block ?_
  refine loopK (fun am0 aa0 wl0 => ∃ (i : Nat) (U0 : Nat → Value), aa0 = ⟨(fr U0 [(0, .slice A n c), (1, .slice B n d), (4, .bool false), (5, .int .i64 ((i : Nat) : Int)), (10, .bool false)] 26 0).toArray, []⟩ ∧ (am0 = n - i) ∧ (i ≤ n) ∧ (Below w.heap.size w wl0)) (n - 0) ?_ ?_
  · exact ⟨0, (fun iU9 => lk [(0, .slice A n c), (1, .slice B n d), (4, .bool false), (5, .int .i64 0), (10, .bool false)] iU9 (U3 iU9)), (by kernel_rfl), rfl, (Nat.zero_le _), (Below.refl _ _)⟩
  rintro am0 aa0 wl0 K6 h6 ⟨i, U0, rfl, rfl, hi, c4⟩
  refine wp_seq_k (fun K7 h7 => ?_)
  refine wp_seq_k (fun K8 h8 => ?_)
  refine W.region_quiet [(0, false), (1, false), (2, false), (3, false)] (by kernel_rfl) ?_
  refine F.mv (v := .int .i64 ((i : Nat) : Int)) (h := ?_)
  refine F.mv (v := .slice A n c) (h := ?_)
  refine F.q (v := .int .i64 ((n : Nat) : Int)) (hr := (r_len (A := A) (n := n) (c := c) rfl (ev_any (by kernel_rfl)) (by kernel_rfl))) (h := ?_)
  by_cases q5 : (((i : Nat) : Int) : Int) < (((n : Nat) : Int) : Int)
  · refine F.q (v := .bool true) (hr := (r_lss (m := ((i : Nat) : Int)) (n := ((n : Nat) : Int)) rfl (ev_any (by kernel_rfl)) (ev_any (by kernel_rfl)) (dt q5))) (h := ?_)
    refine F.endF [(0, .slice A n c), (1, .slice B n d), (4, .bool false), (5, .int .i64 ((i : Nat) : Int)), (10, .bool false), (14, .bool true)] (fun U6 => ?_)
    apply h8
    refine wp_cond_true (by kernel_rfl) ?_
    apply wp_skip
    apply h7
    refine wp_seq_k (fun K9 h9 => ?_)
    refine wp_block ?_
    refine wp_seq_k (fun K10 h10 => ?_)
    refine W.region_sch (row := none) (Sch.of [(0, false), (1, false), (2, false), (3, false), (4, false), (5, false), (6, false), (7, false), (8, false)]) (by kernel_rfl) (by kernel_rfl) (fun _ d _ _ _ h => by cases d <;> exact h) (by kernel_rfl) (fun w7 e8 s9 => ?_)
    refine F.mv (v := .slice A n c) (h := ?_)
    refine F.mv (v := .int .i64 ((i : Nat) : Int)) (h := ?_)
    obtain ⟨x10, hx11⟩ := get_of (zs := zs) (k := i) (by have := hl; omega)
    obtain ⟨b12, o13, hA14, hb15, hc16, hc17, hc18, hc19⟩ := Rd.elPipe ha hx11
    refine F.q (v := .pointer (some ⟨b12, o13 + i * 4, none⟩)) (hr := (r_idx (n := n) (c := c) (k := i) rfl (ev_any (by kernel_rfl)) hA14 (by kernel_rfl) (by kernel_rfl) (by have := hl; omega))) (h := ?_)
    refine F.q (v := .agg #[.int .i64 x10.id, .int .i64 x10.fr, .int .i64 x10.to, .int .i64 x10.sz]) (hr := (r_load4 rfl (ev_any (by kernel_rfl)) (by kernel_rfl) (by kernel_rfl) (sgS (later c4 hc16) (by simp)) (sgS (later c4 hc17) (by simp)) (sgS (later c4 hc18) (by simp)) (sgS (later c4 hc19) (by simp)))) (h := ?_)
    refine F.mv (v := .slice B n d) (h := ?_)
    refine F.mv (v := .int .i64 ((i : Nat) : Int)) (h := ?_)
    obtain ⟨b20, o21, hA22, hb23, hc24, hc25, hc26, hc27⟩ := Rd.elPipe hb hx11
    refine F.q (v := .pointer (some ⟨b20, o21 + i * 4, none⟩)) (hr := (r_idx (n := n) (c := d) (k := i) rfl (ev_any (by kernel_rfl)) hA22 (by kernel_rfl) (by kernel_rfl) (by have := hl; omega))) (h := ?_)
    refine F.q (v := .agg #[.int .i64 x10.id, .int .i64 x10.fr, .int .i64 x10.to, .int .i64 x10.sz]) (hr := (r_load4 rfl (ev_any (by kernel_rfl)) (by kernel_rfl) (by kernel_rfl) (sgS (later c4 hc24) (by simp)) (sgS (later c4 hc25) (by simp)) (sgS (later c4 hc26) (by simp)) (sgS (later c4 hc27) (by simp)))) (h := ?_)
    refine F.q (v := .bool false) (hr := (r_neq_Pipe (a1 := x10.id) (a2 := x10.fr) (a3 := x10.to) (a4 := x10.sz) (b1 := x10.id) (b2 := x10.fr) (b3 := x10.to) (b4 := x10.sz) rfl (ev_any (by kernel_rfl)) (ev_any (by kernel_rfl)) (dt ⟨rfl, rfl, rfl, rfl⟩))) (h := ?_)
    refine F.endF [(0, .slice A n c), (1, .slice B n d), (4, .bool false), (5, .int .i64 ((i : Nat) : Int)), (10, .bool false), (14, .bool true), (25, .bool false)] (fun U28 => ?_)
    have c29 := (Sb c4 s9 nkk)
    apply h10
    refine wp_cond_false (by kernel_rfl) ?_
    apply wp_skip
    apply h9
    refine W.region_quiet [(0, false), (1, false), (2, false)] (by kernel_rfl) ?_
    refine F.mv (v := .int .i64 ((i : Nat) : Int)) (h := ?_)
    refine F.q (v := .int .i64 ((i + 1 : Nat) : Int)) (hr := (r_add (m := ((i : Nat) : Int)) (n := 1) (z := ((i + 1 : Nat) : Int)) rfl (ev_any (by kernel_rfl)) (ev_any (by kernel_rfl)) (by omega) (by omega))) (h := ?_)
    refine F.as (v := .int .i64 ((i + 1 : Nat) : Int)) (h := ?_)
    refine F.endF [(0, .slice A n c), (1, .slice B n d), (4, .bool false), (5, .int .i64 ((i + 1 : Nat) : Int)), (10, .bool false), (14, .bool true), (25, .bool false)] (fun U30 => ?_)
    exact h6 _ _ _ (by omega : (n - (i + 1)) < _) ⟨i + 1, (fun iU9 => lk [(0, .slice A n c), (1, .slice B n d), (4, .bool false), (5, .int .i64 ((i + 1 : Nat) : Int)), (10, .bool false), (14, .bool true), (25, .bool false)] iU9 (U30 iU9)), (by kernel_rfl), rfl, (by omega), c29⟩
  · refine F.q (v := .bool false) (hr := (r_lss (m := ((i : Nat) : Int)) (n := ((n : Nat) : Int)) rfl (ev_any (by kernel_rfl)) (ev_any (by kernel_rfl)) (df q5))) (h := ?_)
    refine F.endF [(0, .slice A n c), (1, .slice B n d), (4, .bool false), (5, .int .i64 ((i : Nat) : Int)), (10, .bool false), (14, .bool false)] (fun U31 => ?_)
    apply h8
    refine wp_cond_false (by kernel_rfl) ?_
    refine wp_exit ?_
    apply h4
    refine wp_seq_k (fun K11 h11 => ?_)
    refine W.region_quiet [(0, false)] (by kernel_rfl) ?_
    refine F.as (v := .bool true) (h := ?_)
    refine F.endF [(0, .slice A n c), (1, .slice B n d), (4, .bool true), (5, .int .i64 ((i : Nat) : Int)), (10, .bool false), (14, .bool false)] (fun U32 => ?_)
    apply h11
    refine wp_ret ?_
    try simp only [Exit.then]
    refine ret1 (v := .bool true) rfl (by kernel_rfl) ?_
    exact ⟨rfl, c4⟩
set_option maxRecDepth 100000 in
set_option maxHeartbeats 8000000 in
theorem vNetwork_same (m : Int) (A B : Option Addr) (n c d : Nat) (ps : List Pp) (w : World) (ha : Rd w 4 A n (pipesV ps)) (hb : Rd w 4 B n (pipesV ps)) (hn : n ≤ 9223372036854775807) :
    Calls Tryd.prog 16 #[.agg #[.int .i64 m, .slice A n c], .agg #[.int .i64 m, .slice B n d]] w fun e w' => e = .returned (.bool true) ∧ Below w.heap.size w w' := by
  have hl := rd_pipes_len ha
  go_enter Tryd.func16, Tryd.ntmps16
  refine wp_seq_k (fun K1 h1 => ?_)
  refine W.region_plain (row := none) [(0, true), (1, true), (2, false)] (by kernel_rfl) ?_
  have s1 := SG.self w none
  refine W.sn (fun b => .pointer (some ⟨b, 0, none⟩)) #[.int .i64 m, .slice A n c] 24 s1 rfl (by kernel_rfl) rfl (fun _ => by kernel_rfl) (fun b2 w3 hb4 k5 x6 s7 => ?_)
  have lo8 : w.heap.size ≤ b2 := Nl ((Sb (Below.refl _ _) s1 nkk)).size (Nat.le_of_eq hb4)
  refine W.sn (fun b => .pointer (some ⟨b, 0, none⟩)) #[.int .i64 m, .slice B n d] 24 s7 rfl (by kernel_rfl) rfl (fun _ => by kernel_rfl) (fun b9 w10 hb11 k12 x13 s14 => ?_)
  have lo15 : w.heap.size ≤ b9 := Nl ((Sb (Below.refl _ _) s7 nkk)).size (Nat.le_of_eq hb11)
  have ne16 : b2 ≠ b9 := Nat.ne_of_lt (Nat.lt_of_lt_of_eq (blk_lt x6) hb11)
  have x6 := (k12.block _ (blk_lt x6)).trans x6
  refine W.as (v := .bool false) (h := ?_)
  refine W.endF 17 [(0, .agg #[.int .i64 m, .slice A n c]), (1, .agg #[.int .i64 m, .slice B n d]), (2, .pointer (some ⟨b2, 0, none⟩)), (3, .pointer (some ⟨b9, 0, none⟩)), (4, .bool false)] (fun U17 => ?_)
  have c18 := (Sb (Below.refl _ _) s14 nkk)
  apply h1
  refine wp_seq_k (fun K2 h2 => ?_)
  refine W.region_plain (row := none) [(0, false), (1, false), (2, false), (3, false), (4, false), (5, false), (6, false), (7, false), (8, false), (9, false), (10, true), (11, false), (12, false)] (by kernel_rfl) ?_
  have s19 := SG.self w10 none
  refine F.q (v := .pointer (some ⟨b2, 0, none⟩)) (hr := (r_field0 rfl (ev_any (by kernel_rfl)) (by kernel_rfl))) (h := ?_)
  refine F.ld (v := .int .i64 m) (hc := (sgS (blk_cell (j := 0) x6 (by kernel_rfl)) onn)) (h := ?_)
  refine F.q (v := .pointer (some ⟨b9, 0, none⟩)) (hr := (r_field0 rfl (ev_any (by kernel_rfl)) (by kernel_rfl))) (h := ?_)
  refine F.ld (v := .int .i64 m) (hc := (sgS (blk_cell (j := 0) x13 (by kernel_rfl)) onn)) (h := ?_)
  refine F.q (v := .bool true) (hr := (r_eql (m := m) (n := m) rfl (ev_any (by kernel_rfl)) (ev_any (by kernel_rfl)) (dt (by omega)))) (h := ?_)
  refine F.mv (v := .bool true) (h := ?_)
  refine F.q (v := .pointer (some ⟨b2, 1, none⟩)) (hr := (r_field (k := 1) rfl (ev_any (by kernel_rfl)) (by kernel_rfl))) (h := ?_)
  refine F.ld (v := .slice A n c) (hc := (sgS (blk_cell (j := 1) x6 (by kernel_rfl)) onn)) (h := ?_)
  refine F.q (v := .pointer (some ⟨b9, 1, none⟩)) (hr := (r_field (k := 1) rfl (ev_any (by kernel_rfl)) (by kernel_rfl))) (h := ?_)
  refine F.ld (v := .slice B n d) (hc := (sgS (blk_cell (j := 1) x13 (by kernel_rfl)) onn)) (h := ?_)
  refine W.sc (vs := [.slice A n c, .slice B n d]) rfl rfl (by kernel_rfl) (by kernel_rfl) (by kernel_rfl) rfl (vPipes_same A B n c d ps _ (Rk ha (Sb c18 s19 nkk)) (Rk hb (Sb c18 s19 nkk)) hn) ?_
  rintro e w21 ⟨rfl, b20⟩
  have s22 := SG.of_below s19 b20
  refine ⟨_, rfl, s22, ?_⟩
  apply F.nx
  refine F.q (v := .bool true) (hr := (r_pick (b := true) rfl (ev_any (by kernel_rfl)) (ev_any (by kernel_rfl)))) (h := ?_)
  refine F.as (v := .bool true) (h := ?_)
  refine F.endF [(0, .agg #[.int .i64 m, .slice A n c]), (1, .agg #[.int .i64 m, .slice B n d]), (2, .pointer (some ⟨b2, 0, none⟩)), (3, .pointer (some ⟨b9, 0, none⟩)), (4, .bool true)] (fun U23 => ?_)
  have x6 := Sk s22 x6 onn
  have x13 := Sk s22 x13 onn
  have c24 := (Sb c18 s22 nkk)
  apply h2
  refine wp_ret ?_
  try simp only [Exit.then]
  refine ret1 (v := .bool true) rfl (by kernel_rfl) ?_
  exact ⟨rfl, c24⟩
end Go.Proofs.YtdlcldaogcbnlaaDoor
namespace Go.Proofs.YtdlcldaogcbnlaaDoor
open Go.RowKit
set_option linter.unusedVariables false
set_option linter.unusedSimpArgs false
set_option maxRecDepth 100000 in
set_option maxHeartbeats 8000000 in
theorem next_raw (B : Nat) (A : Option Addr) (n c : Nat) (zs : List Int) (at_ : Nat) (sd : Int) (w : World) (hB : w.heap[B]? = some (.cells #[.slice A n c, .int .i64 ((at_ : Nat) : Int), .int .u64 sd] 66 (0, 0))) (hrd : Rd w 1 A n (bytesV zs)) (hsp : Sp A n (some B)) (hz : ∀ z ∈ zs, 0 ≤ z ∧ z < 256) (hn : n ≤ 4611686018427387904) (hat : at_ ≤ 4611686018427387904) :
    Calls Tryd.prog 84 #[.pointer (some ⟨B, 0, none⟩)] w fun e w' => ∃ (x sd' : Int), e = .returned (.int .i64 x) ∧ (0 ≤ x ∧ x < 256) ∧ w'.heap[B]? = some (.cells #[.slice A n c, .int .i64 ((at_ + 1 : Nat) : Int), .int .u64 sd'] 66 (0, 0)) ∧ w.grownBy w' (some B) := by
 have hl := rd_bytes_len hrd
 go_enter Tryd.func84, Tryd.ntmps84
 refine F.begin 62 [(0, .pointer (some ⟨B, 0, none⟩))] (fun U0 => ?_)
 refine wk fun K1 h1 => ?_
 refine Rq 1 ?_
 refine Fa (.int .i64 0) ?_
 apply F.es
 apply h1
 refine wk fun K2 h2 => ?_
 refine Rq 1 ?_
 refine Fa (.int .i64 0) ?_
 apply F.es
 apply h2
 refine wk fun K3 h3 => ?_
 refine wk fun K4 h4 => ?_
 refine W.region_sch (row := none) (Sch.of [(0, false), (1, false), (2, false), (3, false), (4, false), (5, false), (6, false), (7, false), (8, false), (9, false)]) kk kk (fun _ d _ _ _ h => by cases d <;> exact h) kk (fun w1 e2 s3 => ?_)
 refine Fv (.pointer (some ⟨B, 0, none⟩)) ?_
 refine Fq (.pointer (some ⟨B, 0, none⟩)) (r_nilCheck rfl ek) ?_
 refine Fq (.pointer (some ⟨B, 1, none⟩)) (r_field (k := 1) rfl ek kk) ?_
 refine Fl (.int .i64 (at_ : Int)) (sgS (blk_cell (j := 1) hB kk) onn) ?_
 refine Fv (.pointer (some ⟨B, 0, none⟩)) ?_
 refine Fq (.pointer (some ⟨B, 0, none⟩)) (r_nilCheck rfl ek) ?_
 refine Fq (.pointer (some ⟨B, 0, none⟩)) (r_field0 rfl ek kk) ?_
 refine Fl (.slice A n c) (sgS (blk_cell (j := 0) hB kk) onn) ?_
 refine Fq (.int .i64 (n : Int)) (r_len (A := A) (n := n) (c := c) rfl ek kk) ?_
 by_cases q4 : ((at_ : Int) : Int) < ((n : Int) : Int)
 ·refine Fq (.bool true) (r_lss (m := (at_ : Int)) (n := (n : Int)) rfl ek ek (dt q4)) ?_
  apply F.es
  have hB := Sk s3 hB onn
  have c5 := (SG.fr (B := B) (World.grownBy.refl _ _) s3 nkk)
  have rd6 := Rk hrd (SG.below s3)
  apply h4
  refine wp_cond_true ek ?_
  refine W.region_sch (row := none) (Sch.of [(0, false), (1, false), (2, false), (3, false), (4, false), (5, false), (6, false), (7, false), (8, false), (9, false), (10, false), (11, false)]) kk kk (fun _ d _ _ _ h => by cases d <;> exact h) kk (fun w7 e8 s9 => ?_)
  refine Fv (.pointer (some ⟨B, 0, none⟩)) ?_
  refine Fq (.pointer (some ⟨B, 0, none⟩)) (r_nilCheck rfl ek) ?_
  refine Fq (.pointer (some ⟨B, 0, none⟩)) (r_field0 rfl ek kk) ?_
  refine Fl (.slice A n c) (sgS (blk_cell (j := 0) hB kk) onn) ?_
  refine Fv (.pointer (some ⟨B, 0, none⟩)) ?_
  refine Fq (.pointer (some ⟨B, 0, none⟩)) (r_nilCheck rfl ek) ?_
  refine Fq (.pointer (some ⟨B, 1, none⟩)) (r_field (k := 1) rfl ek kk) ?_
  refine Fl (.int .i64 (at_ : Int)) (sgS (blk_cell (j := 1) hB kk) onn) ?_
  obtain ⟨x10, hx11⟩ := get_of (zs := zs) (k := at_) (by have := hl; omega)
  obtain ⟨b12, o13, hA14, hb15, hc16⟩ := Rd.elByte rd6 hx11
  refine Fq (.pointer (some ⟨b12, o13 + at_, none⟩)) (r_idx1 (n := n) (c := c) (k := at_) rfl ek hA14 kk kk (by have := hl; omega)) ?_
  refine Fl (.int .u8 x10) (sgS hc16 (by simp)) ?_
  have hx9 := hz _ (List.mem_of_getElem? hx11)
  refine Fq (.int .i64 x10) (r_conv (k := .u8) (k' := .i64) (n := x10) (m := x10) rfl ek kk kk (wrap_i64 (by omega) (by omega))) ?_
  refine Fa (.int .i64 x10) ?_
  apply F.es
  have hB := Sk s9 hB onn
  have c17 := (SG.fr (B := B) c5 s9 nkk)
  apply h3
  refine wk fun K5 h5 => ?_
  refine W.region_plain (row := (some B)) [(0, false), (1, false), (2, false), (3, true), (4, false), (5, false), (6, false), (7, true)] kk ?_
  have s19 := SG.self w7 (some B)
  refine Fv (.pointer (some ⟨B, 0, none⟩)) ?_
  refine Fq (.pointer (some ⟨B, 0, none⟩)) (r_nilCheck rfl ek) ?_
  refine Fq (.pointer (some ⟨B, 1, none⟩)) (r_field (k := 1) rfl ek kk) ?_
  refine W.slq (v := .int .i64 (at_ : Int)) s19 rfl (r_load rfl kk kk (eqS (blk_cell (j := 1) hB kk))) kk rfl ?_
  apply F.nx
  refine Fq (.int .i64 ((at_ + 1 : Nat) : Int)) (r_add (m := (at_ : Int)) (n := 1) (z := ((at_ + 1 : Nat) : Int)) rfl ek ek (by omega) (by omega)) ?_
  refine Fq (.pointer (some ⟨B, 0, none⟩)) (r_nilCheck rfl ek) ?_
  refine Fq (.pointer (some ⟨B, 1, none⟩)) (r_field (k := 1) rfl ek kk) ?_
  refine W.ss (v := .int .i64 ((at_ + 1 : Nat) : Int)) (j := 1) (news := [.int .i64 ((at_ + 1 : Nat) : Int)]) (cs' := #[.slice A n c, .int .i64 ((at_ + 1 : Nat) : Int), .int .u64 sd]) s19 rfl kk rfl rfl kk kk hB kk kk (by simp) kk kk (.inl rfl) (fun w20 g21 x22 s23 => ?_)
  apply F.es
  have c24 := (SG.fr (B := B) c17 s23 (fun kq e => .inl (by cases e; rfl)))
  apply h5
  refine wk fun K6 h6 => ?_
  refine W.region_plain (row := (some B)) [(0, false), (1, false), (2, false), (3, false), (4, true), (5, false), (6, false), (7, false), (8, false), (9, false), (10, false), (11, false), (12, true)] kk ?_
  have s26 := SG.self w20 (some B)
  refine Fv (.pointer (some ⟨B, 0, none⟩)) ?_
  refine Fv (.pointer (some ⟨B, 0, none⟩)) ?_
  refine Fq (.pointer (some ⟨B, 0, none⟩)) (r_nilCheck rfl ek) ?_
  refine Fq (.pointer (some ⟨B, 2, none⟩)) (r_field (k := 2) rfl ek kk) ?_
  refine W.slq (v := .int .u64 sd) s26 rfl (r_load rfl kk kk (eqS (blk_cell (j := 2) x22 kk))) kk rfl ?_
  apply F.nx
  refine Fq (.int .u64 (IntKind.u64.wrap (sd * 6364136223846793005))) (r_mulK (k := .u64) (m := sd) (n := 6364136223846793005) (z := (IntKind.u64.wrap (sd * 6364136223846793005))) rfl ek ek (rfl)) ?_
  refine Fv (.int .i64 x10) ?_
  refine Fq (.int .u64 (IntKind.u64.wrap x10)) (r_conv (k := .i64) (k' := .u64) (n := x10) (m := (IntKind.u64.wrap x10)) rfl ek kk kk (rfl)) ?_
  refine Fq (.int .u64 (IntKind.u64.wrap ((IntKind.u64.wrap (sd * 6364136223846793005)) + (IntKind.u64.wrap x10)))) (r_addK (k := .u64) (m := (IntKind.u64.wrap (sd * 6364136223846793005))) (n := (IntKind.u64.wrap x10)) (z := (IntKind.u64.wrap ((IntKind.u64.wrap (sd * 6364136223846793005)) + (IntKind.u64.wrap x10)))) rfl ek ek (rfl)) ?_
  refine Fq (.int .u64 (IntKind.u64.wrap ((IntKind.u64.wrap ((IntKind.u64.wrap (sd * 6364136223846793005)) + (IntKind.u64.wrap x10))) + 853853))) (r_addK (k := .u64) (m := (IntKind.u64.wrap ((IntKind.u64.wrap (sd * 6364136223846793005)) + (IntKind.u64.wrap x10)))) (n := 853853) (z := (IntKind.u64.wrap ((IntKind.u64.wrap ((IntKind.u64.wrap (sd * 6364136223846793005)) + (IntKind.u64.wrap x10))) + 853853))) rfl ek ek (rfl)) ?_
  refine Fq (.pointer (some ⟨B, 0, none⟩)) (r_nilCheck rfl ek) ?_
  refine Fq (.pointer (some ⟨B, 2, none⟩)) (r_field (k := 2) rfl ek kk) ?_
  refine W.ss (v := .int .u64 (IntKind.u64.wrap ((IntKind.u64.wrap ((IntKind.u64.wrap (sd * 6364136223846793005)) + (IntKind.u64.wrap x10))) + 853853))) (j := 2) (news := [.int .u64 (IntKind.u64.wrap ((IntKind.u64.wrap ((IntKind.u64.wrap (sd * 6364136223846793005)) + (IntKind.u64.wrap x10))) + 853853))]) (cs' := #[.slice A n c, .int .i64 ((at_ + 1 : Nat) : Int), .int .u64 (IntKind.u64.wrap ((IntKind.u64.wrap ((IntKind.u64.wrap (sd * 6364136223846793005)) + (IntKind.u64.wrap x10))) + 853853))]) s26 rfl kk rfl rfl kk kk x22 kk kk (by simp) kk kk (.inl rfl) (fun w27 g28 x29 s30 => ?_)
  apply F.es
  have c31 := (SG.fr (B := B) c24 s30 (fun kq e => .inl (by cases e; rfl)))
  apply h6
  refine wk fun K7 h7 => ?_
  refine wk fun K8 h8 => ?_
  refine W.region_sch (row := none) (Sch.of [(0, false), (1, false), (2, false), (3, false), (4, false), (5, false), (6, false), (7, false), (8, false), (9, false)]) kk kk (fun _ d _ _ _ h => by cases d <;> exact h) kk (fun w33 e34 s35 => ?_)
  refine Fv (.pointer (some ⟨B, 0, none⟩)) ?_
  refine Fq (.pointer (some ⟨B, 0, none⟩)) (r_nilCheck rfl ek) ?_
  refine Fq (.pointer (some ⟨B, 1, none⟩)) (r_field (k := 1) rfl ek kk) ?_
  refine Fl (.int .i64 ((at_ + 1 : Nat) : Int)) (sgS (blk_cell (j := 1) x29 kk) onn) ?_
  refine Fv (.pointer (some ⟨B, 0, none⟩)) ?_
  refine Fq (.pointer (some ⟨B, 0, none⟩)) (r_nilCheck rfl ek) ?_
  refine Fq (.pointer (some ⟨B, 0, none⟩)) (r_field0 rfl ek kk) ?_
  refine Fl (.slice A n c) (sgS (blk_cell (j := 0) x29 kk) onn) ?_
  refine Fq (.int .i64 (n : Int)) (r_len (A := A) (n := n) (c := c) rfl ek kk) ?_
  by_cases q36 : (((at_ + 1 : Nat) : Int) : Int) ≤ ((n : Int) : Int)
  ·refine Fq (.bool true) (r_leq (m := ((at_ + 1 : Nat) : Int)) (n := (n : Int)) rfl ek ek (dt q36)) ?_
   apply F.es
   have x29 := Sk s35 x29 onn
   have c37 := (SG.fr (B := B) c31 s35 nkk)
   apply h8
   refine wp_cond_true ek ?_
   refine wk fun K9 h9 => ?_
   refine Rq 2 ?_
   refine Fv (.int .i64 x10) ?_
   refine Fa (.int .i64 x10) ?_
   apply F.es
   apply h9
   refine wp_ret ?_
   try simp only [Exit.then]
   refine ret1 (v := .int .i64 x10) rfl kk ?_
   exact ⟨_, _, rfl, ⟨by omega, by omega⟩, x29, c37⟩
  refine Fq (.bool false) (r_leq (m := ((at_ + 1 : Nat) : Int)) (n := (n : Int)) rfl ek ek (df q36)) ?_
  apply F.es
  have x29 := Sk s35 x29 onn
  have c39 := (SG.fr (B := B) c31 s35 nkk)
  apply h8
  refine wp_cond_false ek ?_
  apply wp_skip
  apply h7
  refine wk fun K10 h10 => ?_
  refine Rq 8 ?_
  refine Fv (.pointer (some ⟨B, 0, none⟩)) ?_
  refine Fq (.pointer (some ⟨B, 0, none⟩)) (r_nilCheck rfl ek) ?_
  refine Fq (.pointer (some ⟨B, 2, none⟩)) (r_field (k := 2) rfl ek kk) ?_
  refine Fl (.int .u64 (IntKind.u64.wrap ((IntKind.u64.wrap ((IntKind.u64.wrap (sd * 6364136223846793005)) + (IntKind.u64.wrap x10))) + 853853))) (eqS (blk_cell (j := 2) x29 kk)) ?_
  refine Fq (.int .u64 ((IntKind.u64.wrap ((IntKind.u64.wrap ((IntKind.u64.wrap (sd * 6364136223846793005)) + (IntKind.u64.wrap x10))) + 853853)) / 2 ^ 40)) (r_shrZ (z := (IntKind.u64.wrap ((IntKind.u64.wrap ((IntKind.u64.wrap (sd * 6364136223846793005)) + (IntKind.u64.wrap x10))) + 853853))) (k := 40) (yk := .u64) rfl ek kk (by omega)) ?_
  refine Fq (.int .u64 ((and255 ((IntKind.u64.wrap ((IntKind.u64.wrap ((IntKind.u64.wrap (sd * 6364136223846793005)) + (IntKind.u64.wrap x10))) + 853853)) / 2 ^ 40) : Nat) : Int)) (r_and255 (z := ((IntKind.u64.wrap ((IntKind.u64.wrap ((IntKind.u64.wrap (sd * 6364136223846793005)) + (IntKind.u64.wrap x10))) + 853853)) / 2 ^ 40)) rfl ek kk) ?_
  have hx9 := and255_lt ((IntKind.u64.wrap ((IntKind.u64.wrap ((IntKind.u64.wrap (sd * 6364136223846793005)) + (IntKind.u64.wrap x10))) + 853853)) / 2 ^ 40)
  refine Fq (.int .i64 ((and255 ((IntKind.u64.wrap ((IntKind.u64.wrap ((IntKind.u64.wrap (sd * 6364136223846793005)) + (IntKind.u64.wrap x10))) + 853853)) / 2 ^ 40) : Nat) : Int)) (r_conv (k := .u64) (k' := .i64) (n := ((and255 ((IntKind.u64.wrap ((IntKind.u64.wrap ((IntKind.u64.wrap (sd * 6364136223846793005)) + (IntKind.u64.wrap x10))) + 853853)) / 2 ^ 40) : Nat) : Int)) (m := ((and255 ((IntKind.u64.wrap ((IntKind.u64.wrap ((IntKind.u64.wrap (sd * 6364136223846793005)) + (IntKind.u64.wrap x10))) + 853853)) / 2 ^ 40) : Nat) : Int)) rfl ek kk kk (wrap_i64 (by omega) (by omega))) ?_
  refine Fa (.int .i64 ((and255 ((IntKind.u64.wrap ((IntKind.u64.wrap ((IntKind.u64.wrap (sd * 6364136223846793005)) + (IntKind.u64.wrap x10))) + 853853)) / 2 ^ 40) : Nat) : Int)) ?_
  apply F.es
  apply h10
  refine wp_ret ?_
  try simp only [Exit.then]
  refine ret1 (v := .int .i64 ((and255 ((IntKind.u64.wrap ((IntKind.u64.wrap ((IntKind.u64.wrap (sd * 6364136223846793005)) + (IntKind.u64.wrap x10))) + 853853)) / 2 ^ 40) : Nat) : Int)) rfl kk ?_
  exact ⟨_, _, rfl, ⟨by omega, by omega⟩, x29, c39⟩
 refine Fq (.bool false) (r_lss (m := (at_ : Int)) (n := (n : Int)) rfl ek ek (df q4)) ?_
 apply F.es
 have hB := Sk s3 hB onn
 have c41 := (SG.fr (B := B) (World.grownBy.refl _ _) s3 nkk)
 apply h4
 refine wp_cond_false ek ?_
 apply wp_skip
 apply h3
 refine wk fun K11 h11 => ?_
 refine W.region_plain (row := (some B)) [(0, false), (1, false), (2, false), (3, true), (4, false), (5, false), (6, false), (7, true)] kk ?_
 have s43 := SG.self w1 (some B)
 refine Fv (.pointer (some ⟨B, 0, none⟩)) ?_
 refine Fq (.pointer (some ⟨B, 0, none⟩)) (r_nilCheck rfl ek) ?_
 refine Fq (.pointer (some ⟨B, 1, none⟩)) (r_field (k := 1) rfl ek kk) ?_
 refine W.slq (v := .int .i64 (at_ : Int)) s43 rfl (r_load rfl kk kk (eqS (blk_cell (j := 1) hB kk))) kk rfl ?_
 apply F.nx
 refine Fq (.int .i64 ((at_ + 1 : Nat) : Int)) (r_add (m := (at_ : Int)) (n := 1) (z := ((at_ + 1 : Nat) : Int)) rfl ek ek (by omega) (by omega)) ?_
 refine Fq (.pointer (some ⟨B, 0, none⟩)) (r_nilCheck rfl ek) ?_
 refine Fq (.pointer (some ⟨B, 1, none⟩)) (r_field (k := 1) rfl ek kk) ?_
 refine W.ss (v := .int .i64 ((at_ + 1 : Nat) : Int)) (j := 1) (news := [.int .i64 ((at_ + 1 : Nat) : Int)]) (cs' := #[.slice A n c, .int .i64 ((at_ + 1 : Nat) : Int), .int .u64 sd]) s43 rfl kk rfl rfl kk kk hB kk kk (by simp) kk kk (.inl rfl) (fun w44 g45 x46 s47 => ?_)
 apply F.es
 have c48 := (SG.fr (B := B) c41 s47 (fun kq e => .inl (by cases e; rfl)))
 apply h11
 refine wk fun K12 h12 => ?_
 refine W.region_plain (row := (some B)) [(0, false), (1, false), (2, false), (3, false), (4, true), (5, false), (6, false), (7, false), (8, false), (9, false), (10, false), (11, false), (12, true)] kk ?_
 have s50 := SG.self w44 (some B)
 refine Fv (.pointer (some ⟨B, 0, none⟩)) ?_
 refine Fv (.pointer (some ⟨B, 0, none⟩)) ?_
 refine Fq (.pointer (some ⟨B, 0, none⟩)) (r_nilCheck rfl ek) ?_
 refine Fq (.pointer (some ⟨B, 2, none⟩)) (r_field (k := 2) rfl ek kk) ?_
 refine W.slq (v := .int .u64 sd) s50 rfl (r_load rfl kk kk (eqS (blk_cell (j := 2) x46 kk))) kk rfl ?_
 apply F.nx
 refine Fq (.int .u64 (IntKind.u64.wrap (sd * 6364136223846793005))) (r_mulK (k := .u64) (m := sd) (n := 6364136223846793005) (z := (IntKind.u64.wrap (sd * 6364136223846793005))) rfl ek ek (rfl)) ?_
 refine Fv (.int .i64 0) ?_
 refine Fq (.int .u64 (IntKind.u64.wrap 0)) (r_conv (k := .i64) (k' := .u64) (n := 0) (m := (IntKind.u64.wrap 0)) rfl ek kk kk (rfl)) ?_
 refine Fq (.int .u64 (IntKind.u64.wrap ((IntKind.u64.wrap (sd * 6364136223846793005)) + (IntKind.u64.wrap 0)))) (r_addK (k := .u64) (m := (IntKind.u64.wrap (sd * 6364136223846793005))) (n := (IntKind.u64.wrap 0)) (z := (IntKind.u64.wrap ((IntKind.u64.wrap (sd * 6364136223846793005)) + (IntKind.u64.wrap 0)))) rfl ek ek (rfl)) ?_
 refine Fq (.int .u64 (IntKind.u64.wrap ((IntKind.u64.wrap ((IntKind.u64.wrap (sd * 6364136223846793005)) + (IntKind.u64.wrap 0))) + 853853))) (r_addK (k := .u64) (m := (IntKind.u64.wrap ((IntKind.u64.wrap (sd * 6364136223846793005)) + (IntKind.u64.wrap 0)))) (n := 853853) (z := (IntKind.u64.wrap ((IntKind.u64.wrap ((IntKind.u64.wrap (sd * 6364136223846793005)) + (IntKind.u64.wrap 0))) + 853853))) rfl ek ek (rfl)) ?_
 refine Fq (.pointer (some ⟨B, 0, none⟩)) (r_nilCheck rfl ek) ?_
 refine Fq (.pointer (some ⟨B, 2, none⟩)) (r_field (k := 2) rfl ek kk) ?_
 refine W.ss (v := .int .u64 (IntKind.u64.wrap ((IntKind.u64.wrap ((IntKind.u64.wrap (sd * 6364136223846793005)) + (IntKind.u64.wrap 0))) + 853853))) (j := 2) (news := [.int .u64 (IntKind.u64.wrap ((IntKind.u64.wrap ((IntKind.u64.wrap (sd * 6364136223846793005)) + (IntKind.u64.wrap 0))) + 853853))]) (cs' := #[.slice A n c, .int .i64 ((at_ + 1 : Nat) : Int), .int .u64 (IntKind.u64.wrap ((IntKind.u64.wrap ((IntKind.u64.wrap (sd * 6364136223846793005)) + (IntKind.u64.wrap 0))) + 853853))]) s50 rfl kk rfl rfl kk kk x46 kk kk (by simp) kk kk (.inl rfl) (fun w51 g52 x53 s54 => ?_)
 apply F.es
 have c55 := (SG.fr (B := B) c48 s54 (fun kq e => .inl (by cases e; rfl)))
 apply h12
 refine wk fun K13 h13 => ?_
 refine wk fun K14 h14 => ?_
 refine W.region_sch (row := none) (Sch.of [(0, false), (1, false), (2, false), (3, false), (4, false), (5, false), (6, false), (7, false), (8, false), (9, false)]) kk kk (fun _ d _ _ _ h => by cases d <;> exact h) kk (fun w57 e58 s59 => ?_)
 refine Fv (.pointer (some ⟨B, 0, none⟩)) ?_
 refine Fq (.pointer (some ⟨B, 0, none⟩)) (r_nilCheck rfl ek) ?_
 refine Fq (.pointer (some ⟨B, 1, none⟩)) (r_field (k := 1) rfl ek kk) ?_
 refine Fl (.int .i64 ((at_ + 1 : Nat) : Int)) (sgS (blk_cell (j := 1) x53 kk) onn) ?_
 refine Fv (.pointer (some ⟨B, 0, none⟩)) ?_
 refine Fq (.pointer (some ⟨B, 0, none⟩)) (r_nilCheck rfl ek) ?_
 refine Fq (.pointer (some ⟨B, 0, none⟩)) (r_field0 rfl ek kk) ?_
 refine Fl (.slice A n c) (sgS (blk_cell (j := 0) x53 kk) onn) ?_
 refine Fq (.int .i64 (n : Int)) (r_len (A := A) (n := n) (c := c) rfl ek kk) ?_
 by_cases q60 : (((at_ + 1 : Nat) : Int) : Int) ≤ ((n : Int) : Int)
 ·refine Fq (.bool true) (r_leq (m := ((at_ + 1 : Nat) : Int)) (n := (n : Int)) rfl ek ek (dt q60)) ?_
  apply F.es
  have x53 := Sk s59 x53 onn
  have c61 := (SG.fr (B := B) c55 s59 nkk)
  apply h14
  refine wp_cond_true ek ?_
  refine wk fun K15 h15 => ?_
  refine Rq 2 ?_
  refine Fv (.int .i64 0) ?_
  refine Fa (.int .i64 0) ?_
  apply F.es
  apply h15
  refine wp_ret ?_
  try simp only [Exit.then]
  refine ret1 (v := .int .i64 0) rfl kk ?_
  exact ⟨_, _, rfl, ⟨by omega, by omega⟩, x53, c61⟩
 refine Fq (.bool false) (r_leq (m := ((at_ + 1 : Nat) : Int)) (n := (n : Int)) rfl ek ek (df q60)) ?_
 apply F.es
 have x53 := Sk s59 x53 onn
 have c63 := (SG.fr (B := B) c55 s59 nkk)
 apply h14
 refine wp_cond_false ek ?_
 apply wp_skip
 apply h13
 refine wk fun K16 h16 => ?_
 refine Rq 8 ?_
 refine Fv (.pointer (some ⟨B, 0, none⟩)) ?_
 refine Fq (.pointer (some ⟨B, 0, none⟩)) (r_nilCheck rfl ek) ?_
 refine Fq (.pointer (some ⟨B, 2, none⟩)) (r_field (k := 2) rfl ek kk) ?_
 refine Fl (.int .u64 (IntKind.u64.wrap ((IntKind.u64.wrap ((IntKind.u64.wrap (sd * 6364136223846793005)) + (IntKind.u64.wrap 0))) + 853853))) (eqS (blk_cell (j := 2) x53 kk)) ?_
 refine Fq (.int .u64 ((IntKind.u64.wrap ((IntKind.u64.wrap ((IntKind.u64.wrap (sd * 6364136223846793005)) + (IntKind.u64.wrap 0))) + 853853)) / 2 ^ 40)) (r_shrZ (z := (IntKind.u64.wrap ((IntKind.u64.wrap ((IntKind.u64.wrap (sd * 6364136223846793005)) + (IntKind.u64.wrap 0))) + 853853))) (k := 40) (yk := .u64) rfl ek kk (by omega)) ?_
 refine Fq (.int .u64 ((and255 ((IntKind.u64.wrap ((IntKind.u64.wrap ((IntKind.u64.wrap (sd * 6364136223846793005)) + (IntKind.u64.wrap 0))) + 853853)) / 2 ^ 40) : Nat) : Int)) (r_and255 (z := ((IntKind.u64.wrap ((IntKind.u64.wrap ((IntKind.u64.wrap (sd * 6364136223846793005)) + (IntKind.u64.wrap 0))) + 853853)) / 2 ^ 40)) rfl ek kk) ?_
 have hx9 := and255_lt ((IntKind.u64.wrap ((IntKind.u64.wrap ((IntKind.u64.wrap (sd * 6364136223846793005)) + (IntKind.u64.wrap 0))) + 853853)) / 2 ^ 40)
 refine Fq (.int .i64 ((and255 ((IntKind.u64.wrap ((IntKind.u64.wrap ((IntKind.u64.wrap (sd * 6364136223846793005)) + (IntKind.u64.wrap 0))) + 853853)) / 2 ^ 40) : Nat) : Int)) (r_conv (k := .u64) (k' := .i64) (n := ((and255 ((IntKind.u64.wrap ((IntKind.u64.wrap ((IntKind.u64.wrap (sd * 6364136223846793005)) + (IntKind.u64.wrap 0))) + 853853)) / 2 ^ 40) : Nat) : Int)) (m := ((and255 ((IntKind.u64.wrap ((IntKind.u64.wrap ((IntKind.u64.wrap (sd * 6364136223846793005)) + (IntKind.u64.wrap 0))) + 853853)) / 2 ^ 40) : Nat) : Int)) rfl ek kk kk (wrap_i64 (by omega) (by omega))) ?_
 refine Fa (.int .i64 ((and255 ((IntKind.u64.wrap ((IntKind.u64.wrap ((IntKind.u64.wrap (sd * 6364136223846793005)) + (IntKind.u64.wrap 0))) + 853853)) / 2 ^ 40) : Nat) : Int)) ?_
 apply F.es
 apply h16
 refine wp_ret ?_
 try simp only [Exit.then]
 refine ret1 (v := .int .i64 ((and255 ((IntKind.u64.wrap ((IntKind.u64.wrap ((IntKind.u64.wrap (sd * 6364136223846793005)) + (IntKind.u64.wrap 0))) + 853853)) / 2 ^ 40) : Nat) : Int)) rfl kk ?_
 exact ⟨_, _, rfl, ⟨by omega, by omega⟩, x53, c63⟩
theorem next_any (B N k : Nat) (w : World) (h : Cur w B N k) (hk : k ≤ 4000000000000000000) : Calls Tryd.prog 84 #[.pointer (some ⟨B, 0, none⟩)] w fun e w' => ∃ x, e = .returned (.int .i64 x) ∧ (0 ≤ x ∧ x < 256) ∧ Cur w' B N (k + 1) ∧ w.grownBy w' (some B) := by
  obtain ⟨A, n, c, zs, at_, sd, h1, h2, h3, h4, h5, h6, h7⟩ := h
  have hsp : Sp A n (some B) := fun hp b off e e2 => by
    have := h7 b off hp e
    cases e2; omega
  exact (next_raw B A n c zs at_ sd w h1 h2 hsp h3 h4 (by omega)).mono fun e w' ⟨x, sd', he, hx, hb, hg⟩ => ⟨x, he, hx, ⟨A, n, c, zs, at_ + 1, sd', hb, rd_sepG h2 hg hsp, h3, h4, by omega, h6, h7⟩, hg⟩
set_option maxRecDepth 100000 in
set_option maxHeartbeats 8000000 in
theorem pick_any (B N k : Nat) (n : Int) (w : World) (hc : Cur w B N k) (hk : k ≤ 1000000000000) (hn : n ≤ 9223372036854775807) :
    Calls Tryd.prog 54 #[.pointer (some ⟨B, 0, none⟩), .int .i64 n] w fun e w' => ∃ x, e = .returned (.int .i64 x) ∧ (0 ≤ x ∧ (n ≤ 1 → x = 0) ∧ (1 < n → x < n)) ∧ Cur w' B N (k + 2) ∧ w.grownBy w' (some B) := by
 have hN := Cur.hN hc
 go_enter Tryd.func54, Tryd.ntmps54
 refine F.begin 20 [(0, .pointer (some ⟨B, 0, none⟩)), (1, .int .i64 n)] (fun U0 => ?_)
 refine wk fun K1 h1 => ?_
 refine Rq 1 ?_
 refine Fa (.int .i64 0) ?_
 apply F.es
 apply h1
 refine wk fun K2 h2 => ?_
 refine wk fun K3 h3 => ?_
 refine Rq 2 ?_
 refine Fv (.int .i64 n) ?_
 by_cases q1 : (n : Int) ≤ (1 : Int)
 ·refine Fq (.bool true) (r_leq (m := n) (n := 1) rfl ek ek (dt q1)) ?_
  apply F.es
  apply h3
  refine wp_cond_true ek ?_
  refine wk fun K4 h4 => ?_
  refine Rq 1 ?_
  refine Fa (.int .i64 0) ?_
  apply F.es
  apply h4
  refine wp_ret ?_
  try simp only [Exit.then]
  refine ret1 (v := .int .i64 0) rfl kk ?_
  exact ⟨_, rfl, ⟨by omega, fun _ => by omega, fun _ => by omega⟩, Cur.mono hc (by omega), (World.grownBy.refl _ _)⟩
 refine Fq (.bool false) (r_leq (m := n) (n := 1) rfl ek ek (df q1)) ?_
 apply F.es
 apply h3
 refine wp_cond_false ek ?_
 apply wp_skip
 apply h2
 refine wk fun K5 h5 => ?_
 refine W.region_plain (row := (some B)) [(0, false), (1, true), (2, false)] kk ?_
 have s2 := SG.self w (some B)
 refine Fv (.pointer (some ⟨B, 0, none⟩)) ?_
 refine Fc [.pointer (some ⟨B, 0, none⟩)] (next_any B N k  _ hc (by omega) ) ?_
 rintro e w6 ⟨x3, rfl, hx4, x8, g7⟩
 have s9 := SG.of_grown s2 g7 (.inl rfl)
 refine ⟨_, rfl, s9, ?_⟩
 apply F.nx
 refine Fa (.int .i64 x3) ?_
 apply F.es
 have c10 := (SG.fr (B := B) (World.grownBy.refl _ _) s9 (fun kq e => .inl (by cases e; rfl)))
 apply h5
 refine wk fun K6 h6 => ?_
 refine wk fun K7 h7 => ?_
 refine Rq 2 ?_
 refine Fv (.int .i64 n) ?_
 by_cases q11 : (n : Int) > (200 : Int)
 ·refine Fq (.bool true) (r_gtr (m := n) (n := 200) rfl ek ek (dt q11)) ?_
  apply F.es
  apply h7
  refine wp_cond_true ek ?_
  refine W.region_plain (row := (some B)) [(0, false), (1, false), (2, false), (3, true), (4, false), (5, false)] kk ?_
  have s12 := SG.self w6 (some B)
  refine Fv (.int .i64 x3) ?_
  refine Fq (.int .i64 (x3 * 256)) (r_mulK (k := .i64) (m := x3) (n := 256) (z := (x3 * 256)) rfl ek ek (wrap_i64 (by omega) (by omega))) ?_
  refine Fv (.pointer (some ⟨B, 0, none⟩)) ?_
  refine Fc [.pointer (some ⟨B, 0, none⟩)] (next_any B N (k + 1)  _ x8 (by omega) ) ?_
  rintro e w16 ⟨x13, rfl, hx14, x18, g17⟩
  have s19 := SG.of_grown s12 g17 (.inl rfl)
  refine ⟨_, rfl, s19, ?_⟩
  apply F.nx
  refine Fq (.int .i64 ((x3 * 256) + x13)) (r_add (m := (x3 * 256)) (n := x13) (z := (x3 * 256) + x13) rfl ek ek (rfl) (by omega)) ?_
  refine Fa (.int .i64 ((x3 * 256) + x13)) ?_
  apply F.es
  have c20 := (SG.fr (B := B) c10 s19 (fun kq e => .inl (by cases e; rfl)))
  apply h6
  refine wk fun K8 h8 => ?_
  refine Rq 4 ?_
  refine Fv (.int .i64 ((x3 * 256) + x13)) ?_
  refine Fv (.int .i64 n) ?_
  have hr1 := Int.emod_nonneg ((x3 * 256) + x13) (show n ≠ 0 by omega)
  have hr2 := Int.emod_lt_of_pos ((x3 * 256) + x13) (show 0 < n by omega)
  refine Fq (.int .i64 (((x3 * 256) + x13) % n)) (r_remK (k := .i64) (m := (x3 * 256) + x13) (n := n) (z := (((x3 * 256) + x13) % n)) rfl ek ek (by omega) (Int.tmod_eq_emod_of_nonneg (by omega))) ?_
  refine Fa (.int .i64 (((x3 * 256) + x13) % n)) ?_
  apply F.es
  apply h8
  refine wp_ret ?_
  try simp only [Exit.then]
  refine ret1 (v := .int .i64 (((x3 * 256) + x13) % n)) rfl kk ?_
  exact ⟨_, rfl, ⟨by omega, fun _ => by omega, fun _ => by omega⟩, Cur.mono x18 (by omega), c20⟩
 refine Fq (.bool false) (r_gtr (m := n) (n := 200) rfl ek ek (df q11)) ?_
 apply F.es
 apply h7
 refine wp_cond_false ek ?_
 apply wp_skip
 apply h6
 refine wk fun K9 h9 => ?_
 refine Rq 4 ?_
 refine Fv (.int .i64 x3) ?_
 refine Fv (.int .i64 n) ?_
 have hr1 := Int.emod_nonneg x3 (show n ≠ 0 by omega)
 have hr2 := Int.emod_lt_of_pos x3 (show 0 < n by omega)
 refine Fq (.int .i64 (x3 % n)) (r_remK (k := .i64) (m := x3) (n := n) (z := (x3 % n)) rfl ek ek (by omega) (Int.tmod_eq_emod_of_nonneg (by omega))) ?_
 refine Fa (.int .i64 (x3 % n)) ?_
 apply F.es
 apply h9
 refine wp_ret ?_
 try simp only [Exit.then]
 refine ret1 (v := .int .i64 (x3 % n)) rfl kk ?_
 exact ⟨_, rfl, ⟨by omega, fun _ => by omega, fun _ => by omega⟩, Cur.mono x8 (by omega), c10⟩
set_option maxRecDepth 100000 in
set_option maxHeartbeats 8000000 in
theorem one_any (B N k : Nat) (n : Int) (w : World) (hc : Cur w B N k) (hk : k ≤ 1000000000000) (hn : n ≤ 9223372036854775807) :
    Calls Tryd.prog 51 #[.pointer (some ⟨B, 0, none⟩), .int .i64 n] w fun e w' => ∃ b, e = .returned (.bool b) ∧ (True) ∧ Cur w' B N (k + 2) ∧ w.grownBy w' (some B) := by
 have hN := Cur.hN hc
 go_enter Tryd.func51, Tryd.ntmps51
 refine F.begin 9 [(0, .pointer (some ⟨B, 0, none⟩)), (1, .int .i64 n)] (fun U0 => ?_)
 refine wk fun K1 h1 => ?_
 refine Rq 1 ?_
 refine Fa (.bool false) ?_
 apply F.es
 apply h1
 refine wk fun K2 h2 => ?_
 refine W.region_plain (row := (some B)) [(0, false), (1, false), (2, true), (3, false), (4, false)] kk ?_
 have s1 := SG.self w (some B)
 refine Fv (.pointer (some ⟨B, 0, none⟩)) ?_
 refine Fv (.int .i64 n) ?_
 refine Fc [.pointer (some ⟨B, 0, none⟩), .int .i64 n] (pick_any B N k n _ hc (by omega) (by omega)) ?_
 rintro e w5 ⟨x2, rfl, hx3, x7, g6⟩
 have s8 := SG.of_grown s1 g6 (.inl rfl)
 refine ⟨_, rfl, s8, ?_⟩
 apply F.nx
 by_cases q9 : (x2 : Int) = (0 : Int)
 ·refine Fq (.bool true) (r_eql (m := x2) (n := 0) rfl ek ek (dt q9)) ?_
  refine Fa (.bool true) ?_
  apply F.es
  have c10 := (SG.fr (B := B) (World.grownBy.refl _ _) s8 (fun kq e => .inl (by cases e; rfl)))
  apply h2
  refine wp_ret ?_
  try simp only [Exit.then]
  refine ret1 (v := .bool true) rfl kk ?_
  exact ⟨_, rfl, trivial, Cur.mono x7 (by omega), c10⟩
 refine Fq (.bool false) (r_eql (m := x2) (n := 0) rfl ek ek (df q9)) ?_
 refine Fa (.bool false) ?_
 apply F.es
 have c11 := (SG.fr (B := B) (World.grownBy.refl _ _) s8 (fun kq e => .inl (by cases e; rfl)))
 apply h2
 refine wp_ret ?_
 try simp only [Exit.then]
 refine ret1 (v := .bool false) rfl kk ?_
 exact ⟨_, rfl, trivial, Cur.mono x7 (by omega), c11⟩
set_option maxRecDepth 100000 in
set_option maxHeartbeats 8000000 in
theorem among_any (B N k : Nat) (A : Option Addr) (n c : Nat) (zs : List Int) (w : World) (hc : Cur w B N k) (hk : k ≤ 1000000000000) (hrd : Rd w 1 A n (intsV zs)) (hsp : Sp A n (some B)) (hn : 0 < n ∧ n ≤ 9223372036854775807) :
    Calls Tryd.prog 56 #[.pointer (some ⟨B, 0, none⟩), .slice A n c] w fun e w' => ∃ x, e = .returned (.int .i64 x) ∧ (x ∈ zs) ∧ Cur w' B N (k + 2) ∧ w.grownBy w' (some B) := by
 have hN := Cur.hN hc
 have hl := rd_ints_len hrd
 go_enter Tryd.func56, Tryd.ntmps56
 refine F.begin 12 [(0, .pointer (some ⟨B, 0, none⟩)), (1, .slice A n c)] (fun U0 => ?_)
 refine wk fun K1 h1 => ?_
 refine Rq 1 ?_
 refine Fa (.int .i64 0) ?_
 apply F.es
 apply h1
 refine wk fun K2 h2 => ?_
 refine W.region_plain (row := (some B)) [(0, false), (1, false), (2, false), (3, false), (4, true), (5, false), (6, false), (7, false)] kk ?_
 have s1 := SG.self w (some B)
 refine Fv (.slice A n c) ?_
 refine Fv (.pointer (some ⟨B, 0, none⟩)) ?_
 refine Fv (.slice A n c) ?_
 refine Fq (.int .i64 (n : Int)) (r_len (A := A) (n := n) (c := c) rfl ek kk) ?_
 refine Fc [.pointer (some ⟨B, 0, none⟩), .int .i64 (n : Int)] (pick_any B N k (n : Int) _ hc (by omega) (by omega)) ?_
 rintro e w5 ⟨x2, rfl, hx3, x7, g6⟩
 have s8 := SG.of_grown s1 g6 (.inl rfl)
 refine ⟨_, rfl, s8, ?_⟩
 apply F.nx
 obtain ⟨x9, hx10⟩ := get_of (zs := zs) (k := x2.toNat) (by have := hl; omega)
 obtain ⟨b11, o12, hA13, hb14, hc15⟩ := Rd.elInt hrd hx10
 refine Fq (.pointer (some ⟨b11, o12 + x2.toNat, none⟩)) (r_idx1 (n := n) (c := c) (k := x2.toNat) rfl ek hA13 (evk (z := x2) kk (by omega)) kk (by have := hl; omega)) ?_
 refine Fl (.int .i64 x9) (sgS hc15 (hsp (by omega) _ _ hA13)) ?_
 refine Fa (.int .i64 x9) ?_
 apply F.es
 have c16 := (SG.fr (B := B) (World.grownBy.refl _ _) s8 (fun kq e => .inl (by cases e; rfl)))
 apply h2
 refine wp_ret ?_
 try simp only [Exit.then]
 refine ret1 (v := .int .i64 x9) rfl kk ?_
 exact ⟨_, rfl, List.mem_of_getElem? hx10, Cur.mono x7 (by omega), c16⟩
end Go.Proofs.YtdlcldaogcbnlaaDoor
namespace Go.Proofs.YtdlcldaogcbnlaaDoor
open Go.RowKit
set_option linter.unusedVariables false
section
variable {P : Program} {fn : Func} {R : Ending → World → Prop} {l : List Value} {w : World}
theorem res_ct {t u : Tmp} {ty e : TypeId} {b : Nat} {cs : Array Value} {x : Value} (hf : fn.results = #[.cell t ty, .tmp u]) (hv : l.getD t undef = .pointer (some ⟨b, 0, none⟩)) (ht : aggB P ty = some true) (hs : sizeB P ty = some cs.size) (hu : l.getD u undef = x) (hx : w.heap[b]? = some (.cells cs e (0, 0))) :
    (results fn l.toArray).run P w = .ok (.tuple #[.agg cs, x]) w := by
  have h := run_loadCells_list (P := P) (w := w) ⟨b, 0, none⟩ cs.toList (fun j v hj => by
    rw [Addr.add_lit]
    have := blk_cell (j := 0 + j) (v := v) hx (by rw [Nat.zero_add]; simpa using hj)
    exact this)
  rw [Array.length_toList] at h
  have h0 : (loadVar ty ⟨b, 0, none⟩).run P w = .ok (.agg cs) w := by
    simp [loadVar, run_isAgg ht, run_sizeOf hs, h]
  have hv' : l[t]?.getD undef = .pointer (some ⟨b, 0, none⟩) := by rw [← hv]; simp
  have hu' : l[u]?.getD undef = x := by rw [← hu]; simp
  simp [results, hf, hv', hu', asAddr, h0]
theorem retCT {t u : Tmp} {ty e : TypeId} {b : Nat} {cs : Array Value} {x : Value} (hf : fn.results = #[.cell t ty, .tmp u]) (hv : l.getD t undef = .pointer (some ⟨b, 0, none⟩)) (ht : aggB P ty = some true) (hs : sizeB P ty = some cs.size) (hu : l.getD u undef = x) (hx : w.heap[b]? = some (.cells cs e (0, 0)))
    (h : R (.returned (.tuple #[.agg cs, x])) w) : bodyPost P fn R .ret ⟨l.toArray, []⟩ w := bodyPost_ret (res_ct hf hv ht hs hu hx) rfl h
end
end Go.Proofs.YtdlcldaogcbnlaaDoor
namespace Go.Proofs.YtdlcldaogcbnlaaDoor
open Go.RowKit
set_option linter.unusedVariables false
section
variable {P : Program} {fn : Func} {R : Ending → World → Prop} {l : List Value} {w : World}
theorem load_blk {ty e : TypeId} {b : Nat} {cs : Array Value} (ht : aggB P ty = some true) (hs : sizeB P ty = some cs.size) (hx : w.heap[b]? = some (.cells cs e (0, 0))) : (loadVar ty ⟨b, 0, none⟩).run P w = .ok (.agg cs) w := by
  have h := run_loadCells_list (P := P) (w := w) ⟨b, 0, none⟩ cs.toList (fun j v hj => by
    rw [Addr.add_lit]
    have := blk_cell (j := 0 + j) (v := v) hx (by rw [Nat.zero_add]; simpa using hj)
    exact this)
  rw [Array.length_toList] at h
  simp [loadVar, run_isAgg ht, run_sizeOf hs, h]
theorem getD_of {t : Nat} {v : Value} (h : l.getD t undef = v) : l[t]?.getD undef = v := by rw [← h]; simp
theorem resCC {t0 : Tmp} {ty0 e0 : TypeId} {b0 : Nat} {cs0 : Array Value} {t1 : Tmp} {ty1 e1 : TypeId} {b1 : Nat} {cs1 : Array Value} (hf : fn.results = #[.cell t0 ty0, .cell t1 ty1]) (hv0 : l.getD t0 undef = .pointer (some ⟨b0, 0, none⟩)) (ht0 : aggB P ty0 = some true) (hs0 : sizeB P ty0 = some cs0.size) (hx0 : w.heap[b0]? = some (.cells cs0 e0 (0, 0))) (hv1 : l.getD t1 undef = .pointer (some ⟨b1, 0, none⟩)) (ht1 : aggB P ty1 = some true) (hs1 : sizeB P ty1 = some cs1.size) (hx1 : w.heap[b1]? = some (.cells cs1 e1 (0, 0))) : (results fn l.toArray).run P w = .ok (.tuple #[.agg cs0, .agg cs1]) w := by
  simp [results, hf, getD_of hv0, load_blk ht0 hs0 hx0, getD_of hv1, load_blk ht1 hs1 hx1, asAddr]
theorem retCC {t0 : Tmp} {ty0 e0 : TypeId} {b0 : Nat} {cs0 : Array Value} {t1 : Tmp} {ty1 e1 : TypeId} {b1 : Nat} {cs1 : Array Value} (hf : fn.results = #[.cell t0 ty0, .cell t1 ty1]) (hv0 : l.getD t0 undef = .pointer (some ⟨b0, 0, none⟩)) (ht0 : aggB P ty0 = some true) (hs0 : sizeB P ty0 = some cs0.size) (hx0 : w.heap[b0]? = some (.cells cs0 e0 (0, 0))) (hv1 : l.getD t1 undef = .pointer (some ⟨b1, 0, none⟩)) (ht1 : aggB P ty1 = some true) (hs1 : sizeB P ty1 = some cs1.size) (hx1 : w.heap[b1]? = some (.cells cs1 e1 (0, 0)))
    (h : R (.returned (.tuple #[.agg cs0, .agg cs1])) w) : bodyPost P fn R .ret ⟨l.toArray, []⟩ w := bodyPost_ret (resCC hf hv0 ht0 hs0 hx0 hv1 ht1 hs1 hx1) rfl h
end
end Go.Proofs.YtdlcldaogcbnlaaDoor
namespace Go.Proofs.YtdlcldaogcbnlaaDoor
open Go.RowKit
set_option linter.unusedVariables false
theorem joinK {P : Program} {Q : Exit → Act → World → Prop} {a : Act} {w : World} {x y : Code} (I : Nat → Act → World → Prop) (rest : ∀ n a w, I n a w → y.wp P Q a w)
    (first : ∀ K : Act → World → Prop, (∀ n a w, I n a w → K a w) → x.wp P (Exit.then K Q) a w) : (Code.seq x y).wp P Q a w :=
  wp_seq_k fun K h => first K (fun n a w hi => h a w (rest n a w hi))
theorem pick_nat (B N k : Nat) (n : Int) (w : World) (hc : Cur w B N k) (hk : k ≤ 1000000000000) (hn : n ≤ 9223372036854775807) :
    Calls Tryd.prog 54 #[.pointer (some ⟨B, 0, none⟩), .int .i64 n] w fun e w' => ∃ x : Nat, e = .returned (.int .i64 ((x : Nat) : Int)) ∧ ((n ≤ 1 → x = 0) ∧ (1 < n → (x : Int) < n)) ∧ Cur w' B N (k + 2) ∧ w.grownBy w' (some B) :=
  (pick_any B N k n w hc hk hn).mono fun e w' ⟨x, h1, h2, h3, h4⟩ => by
    obtain ⟨y, rfl⟩ := Int.eq_ofNat_of_zero_le h2.1
    exact ⟨y, h1, ⟨fun h => by have := h2.2.1 h; omega, h2.2.2⟩, h3, h4⟩
end Go.Proofs.YtdlcldaogcbnlaaDoor
