/- The cursor of the draws: what is known of its block; what single operations on bytes and seeds yield. -/
import Derived.Test.YtdlcldaogcbnlaaDoorProg
import Derived.Test.YtdlcldaogcbnlaaDoorSm
import Derived.Test.YtdlcldaogcbnlaaDoorTxt
namespace Go.Proofs.YtdlcldaogcbnlaaDoor
open Go.RowKit
set_option linter.unusedVariables false
set_option linter.unusedSimpArgs false

def bytesV (zs : List Int) : List Value := zs.map (Value.int .u8)
theorem bytes_len (zs : List Int) : (bytesV zs).length = zs.length := by simp [bytesV]
theorem rd_bytes_len {w : World} {A : Option Addr} {n : Nat} {zs : List Int} (h : Rd w 1 A n (bytesV zs)) : zs.length = n := by
  have := h.1; rw [bytes_len] at this; omega
theorem Rd.elByte {w : World} {A : Option Addr} {n k : Nat} {zs : List Int} {x : Int} (h : Rd w 1 A n (bytesV zs)) (hx : zs[k]? = some x) : ∃ b off, A = some ⟨b, off, none⟩ ∧ b < w.heap.size ∧ w.cell? ⟨b, off + k, none⟩ = some (.int .u8 x) := by
  have hl := rd_bytes_len h
  have hk := (List.getElem?_eq_some_iff.1 hx).1
  obtain ⟨b, off, e, hb, hc⟩ := h.2 (by omega)
  exact ⟨b, off, e, hb, hc k _ (by unfold bytesV; rw [List.getElem?_map, hx]; rfl)⟩
section
variable {P : Program} {S : World → Prop} {o : Oper} {a : Act}
theorem r_shrZ {t u : TypeId} {x y : Operand} {z : Int} {k : Nat} {yk : IntKind} (ho : o.op = .binOp .shr t x y u) (hx : a.eval x = .int .u64 z) (hy : a.eval y = .int yk (k : Int)) (hk : k ≤ 64) :
    ∀ w, S w → (execOp a.eval o).run P w = .ok (.value (.int .u64 (z / 2 ^ k))) w := fun w _ => by
  have hs := shift_shr .u64 yk z (k : Int) (by omega) (by show (k : Int) ≤ ((64 : Nat) : Int); omega)
  rw [Int.toNat_natCast] at hs
  simp [execOp, ho, hx, hy, eqGuard, binOp, hs]
def and255 (z : Int) : Nat := (BitVec.ofInt 64 z &&& BitVec.ofInt 64 255).toNat
theorem and255_lt (z : Int) : and255 z < 256 := by
  unfold and255
  rw [BitVec.toNat_and]
  have : (BitVec.ofInt 64 255).toNat = 255 := by decide
  rw [this]
  have := @Nat.and_le_right (BitVec.ofInt 64 z).toNat 255
  omega
theorem r_and255 {t u : TypeId} {x y : Operand} {z : Int} (ho : o.op = .binOp .and t x y u) (hx : a.eval x = .int .u64 z) (hy : a.eval y = .int .u64 255) :
    ∀ w, S w → (execOp a.eval o).run P w = .ok (.value (.int .u64 ((and255 z : Nat) : Int))) w := fun w _ => by
  have hs : Op.intBits .and .u64 z 255 = pure (.int .u64 ((and255 z : Nat) : Int)) := by
    unfold Op.intBits
    show (pure (Value.int .u64 (IntKind.u64.wrap ((and255 z : Nat) : Int))) : Sem Value) = _
    have := and255_lt z
    rw [show IntKind.u64.wrap ((and255 z : Nat) : Int) = ((and255 z : Nat) : Int) from IntWalk.u64_in _ (by omega)]
  simp [execOp, ho, hx, hy, eqGuard, binOp, hs]
end
theorem rd_sepG {w w' : World} {size n : Nat} {A : Option Addr} {xs : List Value} {g : Option Nat} (h : Rd w size A n xs) (hg : w.grownBy w' g) (hs : Sp A n g) : Rd w' size A n xs := rd_sep h hg hs
theorem rd_sepM {w w' : World} {size n : Nat} {A : Option Addr} {xs : List Value} {r : List (Option Nat)} (h : Rd w size A n xs) (hg : SM w r w') (hs : ∀ g ∈ r, Sp A n g) : Rd w' size A n xs :=
  ⟨h.1, fun hn => by
    obtain ⟨b, off, e, hb, hc⟩ := h.2 hn
    exact ⟨b, off, e, Nat.lt_of_lt_of_le hb hg.size, fun j u hu => hg.cell (hc j u hu) (fun hm => hs _ hm hn b off e rfl)⟩⟩
theorem sp2 {A : Option Addr} {n : Nat} {a b : Option Nat} (h1 : Sp A n a) (h2 : Sp A n b) : ∀ g ∈ [a, b], Sp A n g := fun g h => by
  simp only [List.mem_cons, List.not_mem_nil, or_false] at h
  rcases h with rfl | rfl <;> assumption
theorem sp3 {A : Option Addr} {n : Nat} {a b c : Option Nat} (h1 : Sp A n a) (h2 : Sp A n b) (h3 : Sp A n c) : ∀ g ∈ [a, b, c], Sp A n g := fun g h => by
  simp only [List.mem_cons, List.not_mem_nil, or_false] at h
  rcases h with rfl | rfl | rfl <;> assumption
theorem sp_ne {b B n : Nat} (h : b ≠ B) : Sp (some ⟨b, 0, none⟩) n (some B) := fun _ b' off e e2 => by
  cases e; cases e2; exact h rfl
theorem sp_nb {A : Option Addr} {n c B : Nat} (h : Nb B (.slice A n c)) : Sp A n (some B) := fun _ b off e e2 => by
  subst e; cases e2
  exact h (by simp [Value.ownBlock])
theorem rd_blk {w : World} {b n : Nat} {cs : Array Value} {t : TypeId} {xs : List Value} (h : w.heap[b]? = some (.cells cs t (0, 0))) (e : cs.toList = xs) (hn : cs.size = n) : Rd w 1 (some ⟨b, 0, none⟩) n xs := by
  subst e
  refine ⟨by rw [Array.length_toList, hn]; omega, fun _ => ⟨b, 0, rfl, blk_lt h, fun j u hu => ?_⟩⟩
  rw [Nat.zero_add]
  exact blk_cell h (by rw [← Array.getElem?_toList]; exact hu)
/-! ### the cursor -/
/-- The cursor's block: how far it has come, at most k; the code that it reads lies in blocks before N. -/
def Cur (w : World) (B N k : Nat) : Prop := ∃ (A : Option Addr) (n c : Nat) (zs : List Int) (at_ : Nat) (sd : Int), w.heap[B]? = some (.cells #[.slice A n c, .int .i64 ((at_ : Nat) : Int), .int .u64 sd] 66 (0, 0)) ∧
  Rd w 1 A n (bytesV zs) ∧ (∀ z ∈ zs, 0 ≤ z ∧ z < 256) ∧ n ≤ 4611686018427387904 ∧ at_ ≤ k ∧ N ≤ B ∧ ∀ b off, 0 < n → A = some ⟨b, off, none⟩ → b < N
theorem Cur.lt {w : World} {B N k : Nat} (h : Cur w B N k) : B < w.heap.size := by
  obtain ⟨_, _, _, _, _, _, h1, _⟩ := h; exact blk_lt h1
theorem Cur.hN {w : World} {B N k : Nat} (h : Cur w B N k) : N ≤ w.heap.size := by
  have := h.lt
  obtain ⟨_, _, _, _, _, _, h1, _, _, _, _, h2, _⟩ := h; omega
theorem Cur.mono {w : World} {B N k k' : Nat} (h : Cur w B N k) (hk : k ≤ k') : Cur w B N k' := by
  obtain ⟨A, n, c, zs, at_, sd, h1, h2, h3, h4, h5, h6⟩ := h
  exact ⟨A, n, c, zs, at_, sd, h1, h2, h3, h4, by omega, h6⟩
/-- Whatever keeps the cursor's block and what lies before N. -/
theorem Cur.keeps {w w' : World} {B N k : Nat} (h : Cur w B N k) (hs : w.heap.size ≤ w'.heap.size) (hb : w'.heap[B]? = w.heap[B]?) (hn : ∀ j, j < N → w'.heap[j]? = w.heap[j]?) : Cur w' B N k := by
  obtain ⟨A, n, c, zs, at_, sd, h1, h2, h3, h4, h5, h6, h7⟩ := h
  refine ⟨A, n, c, zs, at_, sd, hb.trans h1, ⟨h2.1, fun hp => ?_⟩, h3, h4, h5, h6, h7⟩
  obtain ⟨b, off, e, hlt, hc⟩ := h2.2 hp
  exact ⟨b, off, e, by omega, fun j u hu => (World.cell?_of_block (hn b (h7 b off hp e))).trans (hc j u hu)⟩
theorem Cur.heap {w w' : World} {B N k : Nat} (h : Cur w B N k) (e : w'.heap = w.heap) : Cur w' B N k := h.keeps (by rw [e]; exact Nat.le_refl _) (by rw [e]) (fun j _ => by rw [e])
theorem Cur.below {w w' : World} {B N k : Nat} (h : Cur w B N k) (b : Below w.heap.size w w') : Cur w' B N k := h.keeps b.size (b.block _ h.lt) (fun j hj => b.block _ (Nat.lt_of_lt_of_le hj h.hN))
theorem Cur.grown {w w' : World} {B N k : Nat} {r : Option Nat} (h : Cur w B N k) (g : w.grownBy w' r) (hne : some B ≠ r) (hlo : ∀ j, r = some j → N ≤ j) : Cur w' B N k :=
  h.keeps g.size (g.block _ h.lt hne) (fun j hj => g.block _ (Nat.lt_of_lt_of_le hj h.hN) (fun e => by have := hlo j e.symm; omega))
theorem Cur.sm {w w' : World} {B N k : Nat} {r : List (Option Nat)} (h : Cur w B N k) (g : SM w r w') (hne : some B ∉ r) (hlo : ∀ j, some j ∈ r → N ≤ j) : Cur w' B N k :=
  h.keeps g.size (g.block _ h.lt hne) (fun j hj => g.block _ (Nat.lt_of_lt_of_le hj h.hN) (fun e => by have := hlo j e; omega))
theorem Cur.new {w w' : World} {B : Nat} {A : Option Addr} {n c : Nat} {zs : List Int} (h : w'.heap[B]? = some (.cells #[.slice A n c, .int .i64 0, .int .u64 0] 66 (0, 0))) (hr : Rd w 1 A n (bytesV zs)) (hz : ∀ z ∈ zs, 0 ≤ z ∧ z < 256) (hn : n ≤ 4611686018427387904)
    (b : Below w.heap.size w w') (lo : w.heap.size ≤ B) : Cur w' B w.heap.size 0 :=
  ⟨A, n, c, zs, 0, 0, h, hr.kept b, hz, hn, Nat.le_refl _, lo, fun b off hp e => by
    obtain ⟨b1, o1, e1, hlt, _⟩ := hr.2 hp
    rw [e] at e1; cases e1; exact hlt⟩

end Go.Proofs.YtdlcldaogcbnlaaDoor
