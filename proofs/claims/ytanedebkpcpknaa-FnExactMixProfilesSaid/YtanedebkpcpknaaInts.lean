/- Slices of whole numbers: the laws' helpers: size, copy, equality, marks. -/
import Derived.Test.YtanedebkpcpknaaProg
import Derived.Test.YtanedebkpcpknaaMem
import Derived.Deep.QuietTactic
import Derived.BigQuiet
import Derived.Outline
import Derived.OneCell
import Derived.Deep.AppendLies
namespace Go.Proofs.Ytanedebkpcpknaa
open Go.RowKit
set_option linter.unusedVariables false

theorem intInfo : (Try.prog.info? 3).map (fun i => (i.zero, i.size, i.bytes)) = some (some (.int .i64 0), 1, 8) := by kernel_rfl

/-- What is owned may be read. -/
theorem own_rd {w : World} {base : Nat} {e : TypeId} {size : Nat} {A : Option Addr} {n c : Nat} {xs : List Value} (h : w.ownsRow base e size (.slice A n c) n xs) : Rd w size A n xs := by
  obtain ⟨hl, h2⟩ := h
  refine ⟨hl, fun hn => ?_⟩
  rcases h2 with ⟨_, h0⟩ | ⟨g, cap, cur, hv, hb, hh, hnc, hm, hs, ht⟩
  · omega
  · simp only [Value.slice.injEq] at hv
    obtain ⟨rfl, _, rfl⟩ := hv
    refine ⟨g, 0, rfl, ?_, fun j u hu => ?_⟩
    · rcases Nat.lt_or_ge g w.heap.size with hlt | hge
      · exact hlt
      · rw [Array.getElem?_eq_none hge] at hh; cases hh
    · rw [← ht, List.getElem?_take] at hu
      split at hu
      · simp only [World.cell?, hh]; simpa using hu
      · cases hu
theorem own_len {w : World} {base : Nat} {e : TypeId} {A : Option Addr} {n c : Nat} {xs : List Value} (h : w.ownsRow base e 1 (.slice A n c) n xs) : xs.length = n := by have := h.1; omega
/-- An owned slice's value, written out. -/
theorem own_form {w : World} {base : Nat} {e : TypeId} {size n : Nat} {v : Value} {xs : List Value} (h : w.ownsRow base e size v n xs) : ∃ A c, v = .slice A n c := by
  rcases h.2 with ⟨rfl, rfl⟩ | ⟨g, cap, cur, rfl, _⟩
  · exact ⟨_, _, rfl⟩
  · exact ⟨_, _, rfl⟩
theorem own_max {w : World} {base : Nat} {e : TypeId} {size n : Nat} {v : Value} {xs : List Value} (h : w.ownsRow base e size v n xs) : n ≤ 9223372036854775807 := by
  rcases h.2 with ⟨rfl, rfl⟩ | ⟨g, cap, cur, rfl, _, _, h1, h2, _⟩
  · omega
  · unfold maxLen at h2; omega
/-- What is owned stays owned in a later world that keeps its block. -/
theorem own_kept {w w' : World} {base : Nat} {e : TypeId} {size n : Nat} {v : Value} {xs : List Value} (h : w.ownsRow base e size v n xs) (hb : Below w.heap.size w w') : w'.ownsRow base e size v n xs := by
  obtain ⟨hl, h2⟩ := h
  refine ⟨hl, ?_⟩
  rcases h2 with h0 | ⟨g, cap, cur, hv, hg, hh, r⟩
  · exact .inl h0
  · have hlt : g < w.heap.size := by
      rcases Nat.lt_or_ge g w.heap.size with hlt | hge
      · exact hlt
      · rw [Array.getElem?_eq_none hge] at hh; cases hh
    exact .inr ⟨g, cap, cur, hv, hg, (hb.block g hlt).trans hh, r⟩
theorem own_base {w : World} {base base' : Nat} {e : TypeId} {size n : Nat} {v : Value} {xs : List Value} (h : w.ownsRow base e size v n xs) (hb : base' ≤ base) : w.ownsRow base' e size v n xs := by
  obtain ⟨hl, h2⟩ := h
  refine ⟨hl, ?_⟩
  rcases h2 with h0 | ⟨g, cap, cur, hv, hg, r⟩
  · exact .inl h0
  · exact .inr ⟨g, cap, cur, hv, by omega, r⟩
/-- A row outside of what turned is kept. -/
theorem rd_grown {w w' : World} {size n : Nat} {A : Option Addr} {xs : List Value} {row : Option Nat} (h : Rd w size A n xs) (hg : w.grownBy w' row) (hne : ∀ b off, A = some ⟨b, off, none⟩ → some b ≠ row) : Rd w' size A n xs :=
  ⟨h.1, fun hn => by
    obtain ⟨b, off, e, hb, hc⟩ := h.2 hn
    exact ⟨b, off, e, Nat.lt_of_lt_of_le hb hg.size, fun j u hu => hg.cell (hc j u hu) (hne b off e)⟩⟩
theorem grown_trans {a b c : World} {row : Option Nat} (h : a.grownBy b row) (k : b.grownBy c row) : a.grownBy c row :=
  ⟨k.os.trans h.os, k.tape.trans h.tape, k.output.trans h.output, Nat.le_trans h.size k.size, fun i hi hn => (k.block i (Nat.lt_of_lt_of_le hi h.size) hn).trans (h.block i hi hn)⟩
theorem ints_at {zs : List Int} {k : Nat} {u : Value} (h : (intsV zs)[k]? = some u) : ∃ z, zs[k]? = some z ∧ u = .int .i64 z := by
  unfold intsV at h
  rw [List.getElem?_map] at h
  obtain ⟨z, hz, rfl⟩ := Option.map_eq_some_iff.1 h
  exact ⟨z, hz, rfl⟩
theorem ints_len (zs : List Int) : (intsV zs).length = zs.length := by simp [intsV]
theorem ints_snoc (zs : List Int) (k : Nat) (z : Int) (h : zs[k]? = some z) : intsV (zs.take (k + 1)) = intsV (zs.take k) ++ [.int .i64 z] := by
  rw [List.take_add_one, h]; simp [intsV]

/-- What is left of a size's budget. -/
def szL (left : Int) (n : Nat) : Int := if (n : Int) ≤ left then left - n else -1
theorem szL_pos {left : Int} {n : Nat} (h : (n : Int) ≤ left) : szL left n = left - n := if_pos h
theorem szL_neg {left : Int} {n : Nat} (h : ¬ (n : Int) ≤ left) : szL left n = -1 := if_neg h
theorem szIntS_any (A : Option Addr) (n c : Nat) (left : Int) (w : World) (h0 : 0 ≤ left) (h1 : left ≤ 1048576) (hn : n ≤ 9223372036854775807) :
    Calls Try.prog 26 #[.slice A n c, .int .i64 left] w fun e w' => e = .returned (.int .i64 (szL left n)) ∧ w = w' := by
  by_cases h : (n : Int) ≤ left
  · have H := Lib.hid (szL_pos h)
    go_enter Try.func26, Try.ntmps26
    go_wp2
    go_ret
    exact ⟨ret_int H.out.symm, rfl⟩
  · have H := Lib.hid (szL_neg h)
    go_enter Try.func26, Try.ntmps26
    go_wp2
    go_ret
    exact ⟨ret_int H.out.symm, rfl⟩

set_option maxHeartbeats 400000 in
theorem eqIntS_same (A B : Option Addr) (n c d : Nat) (zs : List Int) (w : World) (ha : Rd w 1 A n (intsV zs)) (hb : Rd w 1 B n (intsV zs)) (hn : n ≤ 9223372036854775807) :
    Calls Try.prog 21 #[.slice A n c, .slice B n d] w fun e w' => e = .returned (.bool true) ∧ ∃ m, w' = w.drewN m := by
  go_enter Try.func21, Try.ntmps21
  go_wp2
  go_loopw [5] (fun i wr => ∃ k m : Nat, k ≤ n ∧ i = .int .i64 k ∧ wr = w.drewN m) (fun i _ => n - (intOf i).toNat)
  case atStart => exact ⟨0, 0, Nat.zero_le _, rfl, rfl⟩
  case round =>
    obtain ⟨k, m, hk, rfl, rfl⟩ := hrel
    by_cases hlt : k < n
    · obtain ⟨b, off, u, rfl, _, hx, hc⟩ := ha.at1 hlt
      obtain ⟨b', off', u', rfl, _, hx', hc'⟩ := hb.at1 hlt
      obtain ⟨z, hz, rfl⟩ := ints_at hx
      obtain ⟨z', hz', rfl⟩ := ints_at hx'
      have e : z' = z := by rw [hz] at hz'; exact (Option.some.inj hz').symm
      subst e
      clear hx hx' hz hz' ha hb
      have hi : (k : Int) < (n : Int) := by omega
      have h0 : (0 : Int) ≤ (k : Int) := by omega
      go_wp2_with fail
      go_quiet (fail)
      go_wp2
      go_roundw
      case rel => exact ⟨k + 1, _, by omega, by go_num, rfl⟩
      case measure => simp [intOf]; omega
    · go_wp2
      go_ret
      exact ⟨rfl, m, rfl⟩

/-- A slice of the call's own, made anew, that holds these numbers. -/
def MadeInts (w : World) (n : Nat) (zs : List Int) (e : Ending) (w' : World) : Prop :=
  ∃ A c, e = .returned (.slice A n c) ∧ w'.ownsRow w.heap.size 3 1 (.slice A n c) n (intsV zs) ∧ Below w.heap.size w w'
theorem ints_fill {zs : List Int} {n k : Nat} {z : Int} (hl : zs.length = n) (hk : k < n) (hz : zs[k]? = some z) :
    (intsV (zs.take k) ++ List.replicate (n - k) (Value.int .i64 0)).set k (.int .i64 z) = intsV (zs.take (k + 1)) ++ List.replicate (n - (k + 1)) (Value.int .i64 0) := by
  have hlen : (intsV (zs.take k)).length = k := by simp [intsV]; omega
  rw [List.set_append_right _ _ (by omega), hlen, Nat.sub_self, ints_snoc zs k z hz, List.append_assoc]
  obtain ⟨m, hm⟩ : ∃ m, n - k = m + 1 := ⟨n - k - 1, by omega⟩
  rw [hm, show n - (k + 1) = m by omega, List.replicate_succ]; rfl
set_option maxHeartbeats 800000 in
theorem toIntS_any (A : Option Addr) (n c : Nat) (zs : List Int) (w : World) (ha : Rd w 1 A n (intsV zs)) (hn : n ≤ 1048576) :
    Calls Try.prog 28 #[.slice A n c] w (MadeInts w n zs) := by
  have hlen : zs.length = n := by have := ha.1; rw [ints_len] at this; omega
  obtain ⟨i0, hi, hz0, hz1, hz2⟩ := info_parts intInfo
  have hbytes : i0.bytes * n ≤ 281474976710656 := by rw [hz2]; omega
  have Hl := Lib.hid hlen
  clear hlen
  go_enter Try.func28, Try.ntmps28
  go_wp2_with (at_make; refine wpList_make_full _ rfl _ _ 22 rfl w.heap.size 3 i0 (.int .i64 0) 1 Try.underlying22 hi hz0 hz1 .i64 .i64 _ _ n rfl rfl rfl rfl hbytes (by unfold maxLen; omega) (Nat.le_refl _) ?_)
  intro w1 hown hgrow
  have hb1 : Below w.heap.size w w1 := (Below.refl _ _).grown hgrow (Nat.le_refl _) (by simp)
  rw [toList_madeCells_one] at hown
  have Hi := Lib.hid hi
  have H0 := Lib.hid hz0
  have H1 := Lib.hid hz1
  have H2 := Lib.hid hz2
  clear hi hz0 hz1 hz2 hgrow hbytes
  go_wp2_with fail
  go_loopw [4] (fun i wr => ∃ k : Nat, k ≤ n ∧ i = .int .i64 k ∧ wr.ownsRow w.heap.size 3 1 (.slice (some ⟨w.heap.size, 0, none⟩) n n) n (intsV (zs.take k) ++ List.replicate (n - k) (Value.int .i64 0)) ∧ Below w.heap.size w wr) (fun i _ => n - (intOf i).toNat)
  case atStart => exact ⟨0, Nat.zero_le _, rfl, by simpa [intsV] using hown, hb1⟩
  case round =>
    obtain ⟨k, hk, rfl, how, hbr⟩ := hrel
    by_cases hlt : k < n
    · obtain ⟨b, off, u, rfl, hbb, hx, hc⟩ := (ha.kept hbr).at1 hlt
      obtain ⟨z, hz, rfl⟩ := ints_at hx
      have hcg : wr.cell? ⟨w.heap.size, k, none⟩ = some (.int .i64 0) := by
        have hl := Hl.out
        rw [how.cellAt k (by omega), List.getElem?_append_right (by simp [intsV]; omega), List.getElem?_replicate, if_pos (by simp [intsV]; omega)]
      have hfg := how.frozenAt k
      have hst := (how.stored k (.int .i64 z)).1
      rw [ints_fill Hl.out hlt hz] at hst
      have Hst := Lib.hid hst
      clear hst hx hz ha how hown
      go_wp2
      go_roundw
      case rel => exact ⟨k + 1, by omega, by go_num, Hst.out, hbr.setCell (Nat.le_refl _) _⟩
      case measure => simp [intOf]; omega
    · have hkn : k = n := by omega
      subst hkn
      go_wp2
      go_ret
      refine ⟨_, _, rfl, ?_, hbr⟩
      have hl := Hl.out
      simpa [List.take_of_length_le, hl] using how

/-- Numbers in a row, from k on. -/
def upFrom (k : Int) (n : Nat) : List Int := (List.range n).map (fun (i : Nat) => (k + (i : Int) : Int))
theorem upFrom_len (k : Int) (n : Nat) : (upFrom k n).length = n := by simp [upFrom]
theorem upFrom_at (k : Int) (n i : Nat) (h : i < n) : (upFrom k n)[i]? = some (k + (i : Int)) := by
  simp [upFrom, h]

set_option maxHeartbeats 400000 in
theorem heldIntS_any (A : Option Addr) (n c : Nat) (k0 : Int) (w : World) (ha : Rd w 1 A n (intsV (upFrom k0 n))) (hn : n ≤ 1000000000) (h0 : 0 ≤ k0) (h1 : k0 ≤ 1000000000000) :
    Calls Try.prog 23 #[.slice A n c, .int .i64 k0] w fun e w' => e = .returned (.int .i64 (k0 + n)) ∧ w = w' := by
  go_enter Try.func23, Try.ntmps23
  go_wp2
  go_loop [1, 5] (fun x i => ∃ k : Nat, k ≤ n ∧ i = .int .i64 k ∧ x = .int .i64 (k0 + k)) (fun _ i => n - (intOf i).toNat)
  case atStart => exact ⟨0, Nat.zero_le _, rfl, by simp⟩
  case round =>
    obtain ⟨k, hk, rfl, rfl⟩ := hrel
    by_cases hlt : k < n
    · obtain ⟨b, off, u, rfl, _, hx, hc⟩ := ha.at1 hlt
      obtain ⟨z, hz, rfl⟩ := ints_at hx
      rw [upFrom_at _ _ _ hlt] at hz
      obtain rfl := Option.some.inj hz
      clear hx hz ha
      have hne : ((k0 + (k : Int)) != (k0 + (k : Int))) = false := by simp
      go_wp2
      go_round
      case rel => exact ⟨k + 1, by omega, by go_num, by go_num⟩
      case measure => simp [intOf]; omega
    · have hkn : k = n := by omega
      subst hkn
      go_wp2
      go_ret
      exact ⟨rfl, rfl⟩

/-- What a mark leaves: the row holds the numbers from k0 on; nothing else has turned. -/
def Marked (w : World) (base : Nat) (A : Option Addr) (n c : Nat) (k0 : Int) (e : Ending) (w' : World) : Prop :=
  e = .returned (.int .i64 (k0 + n)) ∧ w'.ownsRow base 3 1 (.slice A n c) n (intsV (upFrom k0 n)) ∧ w.grownBy w' (Value.slice A n c).ownBlock
theorem up_set {zs : List Int} {k0 : Int} {n k : Nat} (hl : zs.length = n) (hk : k < n) :
    (intsV (upFrom k0 k) ++ intsV (zs.drop k)).set k (.int .i64 (k0 + k)) = intsV (upFrom k0 (k + 1)) ++ intsV (zs.drop (k + 1)) := by
  have hlen : (intsV (upFrom k0 k)).length = k := by simp [intsV, upFrom]
  rw [List.set_append_right _ _ (by omega), hlen, Nat.sub_self, List.drop_eq_getElem_cons (show k < zs.length by omega)]
  simp only [List.set_cons_zero, intsV, List.map_cons, upFrom, List.range_succ, List.map_append, List.map_nil, List.append_assoc, List.singleton_append]
set_option maxHeartbeats 800000 in
theorem markIntS_any (A : Option Addr) (n c base : Nat) (k0 : Int) (zs : List Int) (w : World) (how : w.ownsRow base 3 1 (.slice A n c) n (intsV zs)) (hn : n ≤ 1000000000) (h0 : 0 ≤ k0) (h1 : k0 ≤ 1000000000000) :
    Calls Try.prog 22 #[.slice A n c, .int .i64 k0] w (Marked w base A n c k0) := by
  have hlen : zs.length = n := by have := own_len how; rw [ints_len] at this; exact this
  have Hl := Lib.hid hlen
  clear hlen
  go_enter Try.func22, Try.ntmps22
  go_wp2
  go_loopw [1, 5] (fun x i wr => ∃ k : Nat, k ≤ n ∧ i = .int .i64 k ∧ x = .int .i64 (k0 + k) ∧ wr.ownsRow base 3 1 (.slice A n c) n (intsV (upFrom k0 k) ++ intsV (zs.drop k)) ∧ w.grownBy wr (Value.slice A n c).ownBlock) (fun _ i _ => n - (intOf i).toNat)
  case atStart => exact ⟨0, Nat.zero_le _, rfl, by simp, by simpa [upFrom, intsV] using how, World.grownBy.refl _ _⟩
  case round =>
    obtain ⟨k, hk, rfl, rfl, hor, hgr⟩ := hrel
    by_cases hlt : k < n
    · obtain ⟨b, off, u, rfl, hbb, hx, hc⟩ := (own_rd hor).at1 hlt
      obtain rfl : off = 0 := by
        rcases hor.2 with ⟨hv, _⟩ | ⟨g, cap, cur, hv, _⟩
        · simp at hv
        · simp at hv; exact hv.1.2
      have hfg := hor.frozenAt k
      have hst := hor.stored k (.int .i64 (k0 + k))
      rw [up_set Hl.out hlt] at hst
      have Hst := Lib.hid hst
      rw [Nat.zero_add] at hc
      clear hst hx how
      go_wp2
      go_roundw
      case rel => exact ⟨k + 1, by omega, by go_num, by go_num, Hst.out.1, grown_trans hgr Hst.out.2⟩
      case measure => simp [intOf]; omega
    · have hkn : k = n := by omega
      subst hkn
      go_wp2
      go_ret
      refine ⟨rfl, ?_, hgr⟩
      have hl := Hl.out
      simpa [List.drop_of_length_le, hl, intsV] using hor

/-- What is owned stays owned where another block has turned. -/
theorem own_grown {w w' : World} {base : Nat} {e : TypeId} {size n : Nat} {v : Value} {xs : List Value} {row : Option Nat} (h : w.ownsRow base e size v n xs) (hg : w.grownBy w' row) (hne : ∀ j, v.ownBlock = some j → row = some j → False) : w'.ownsRow base e size v n xs :=
  World.ownsRow.kept h hg (by
    rcases hv : v.ownBlock with _ | j
    · exact .inl rfl
    · exact .inr (fun e => hne j hv e.symm))
/-- A store into a block that lies below all that is owned. -/
theorem own_set {w : World} {base : Nat} {e : TypeId} {size n : Nat} {v : Value} {xs : List Value} (h : w.ownsRow base e size v n xs) {a : Addr} (ha : a.block < base) (u : Value) : (w.setCell a u).ownsRow base e size v n xs :=
  ownsRow_setCell_other h (fun e => by have := (World.ownsRow.lt h _ e).1; omega) u
theorem eqIntS_below (A B : Option Addr) (n c d : Nat) (zs : List Int) (w : World) (ha : Rd w 1 A n (intsV zs)) (hb : Rd w 1 B n (intsV zs)) (hn : n ≤ 9223372036854775807) :
    Calls Try.prog 21 #[.slice A n c, .slice B n d] w fun e w' => e = .returned (.bool true) ∧ Below w.heap.size w w' :=
  (eqIntS_same A B n c d zs w ha hb hn).mono fun e w' ⟨h, m, hw⟩ => ⟨h, by subst hw; exact below_drewN (Below.refl _ _) m⟩
theorem heldIntS_below (A : Option Addr) (n c : Nat) (k0 : Int) (w : World) (ha : Rd w 1 A n (intsV (upFrom k0 n))) (hn : n ≤ 1000000000) (h0 : 0 ≤ k0) (h1 : k0 ≤ 1000000000000) :
    Calls Try.prog 23 #[.slice A n c, .int .i64 k0] w fun e w' => e = .returned (.int .i64 (k0 + n)) ∧ Below w.heap.size w w' :=
  (heldIntS_any A n c k0 w ha hn h0 h1).mono fun e w' ⟨h, hw⟩ => ⟨h, by subst hw; exact Below.refl _ _⟩

theorem append_int {ops : Array Oper} {rest : List Oper} {o : Oper} {a : Act} {Q : Exit → Act → World → Prop} (w : World) (hgd : o.guard = none) (s x : Operand)
    (ho : o.op = .call { callee := .builtin .append, args := #[s, x], argTypes := #[22, 22] }) (base : Nat) (v : Value) (n : Nat) (xs : List Value) (hs : a.eval s = v) (hown : w.ownsRow base 3 1 v n xs)
    (B : Nat) (z : Int) (hx : a.eval x = .slice (some ⟨B, 0, none⟩) 1 1) (hz : w.cell? ⟨B, 0, none⟩ = some (.int .i64 z)) (hn : n ≤ 1000000000) (hb : base ≤ w.heap.size)
    (h : ∀ g cap w', w'.ownsRow base 3 1 (.slice (some ⟨g, 0, none⟩) (n + 1) cap) (n + 1) (xs ++ [.int .i64 z]) → w.grownBy w' v.ownBlock → (v.ownBlock = some g ∨ g = w.heap.size) → wpList Try.prog ops Q rest (a.put o.dst (.slice (some ⟨g, 0, none⟩) (n + 1) cap)) w') : wpList Try.prog ops Q (o :: rest) a w := by
  obtain ⟨i0, hi, hz0, hz1, hz2⟩ := info_parts intInfo
  refine wpList_append_lies w hgd s x 22 ho base 3 i0 (.int .i64 0) 1 8 Try.underlying22 hi hz0 hz1 hz2 rfl (by decide) v n xs hs hown ⟨B, 0, none⟩ 1 1 [.int .i64 z] hx rfl ?_ ?_ (by decide) (by unfold maxLen; omega) (by omega) hb _ rfl (fun g cap w' h1 h2 h3 _ => h g cap w' h1 h2 h3)
  · intro j u hu
    rcases j with _ | j
    · simp at hu; subst hu; exact hz
    · simp at hu
  · intro u hu
    simp at hu; subst hu; rfl
theorem step_int {ops : Array Oper} {o : Oper} {a : Act} {K : Act → World → Prop} {Q : Exit → Act → World → Prop} {E : Prop} (w : World) (hgd : o.guard = none) (s x : Operand)
    (ho : o.op = .call { callee := .builtin .append, args := #[s, x], argTypes := #[22, 22] }) (base : Nat) (v : Value) (n : Nat) (xs : List Value) (hs : a.eval s = v) (hown : w.ownsRow base 3 1 v n xs)
    (B : Nat) (z : Int) (hx : a.eval x = .slice (some ⟨B, 0, none⟩) 1 1) (hz : w.cell? ⟨B, 0, none⟩ = some (.int .i64 z)) (hn : n ≤ 1000000000) (hb : base ≤ w.heap.size) (H : Nat) (hH : w.heap.size = H)
    (h : ∀ g cap w', w'.ownsRow base 3 1 (.slice (some ⟨g, 0, none⟩) (n + 1) cap) (n + 1) (xs ++ [.int .i64 z]) → w.grownBy w' v.ownBlock → (v.ownBlock = some g ∨ g = H) → K (a.put o.dst (.slice (some ⟨g, 0, none⟩) (n + 1) cap)) w') : if Region.wanted o (yielded ops a.tmps) = true then Oper.wp Try.prog o a w K Q else E := by
  obtain ⟨i0, hi, hz0, hz1, hz2⟩ := info_parts intInfo
  refine step_append_lies w hgd s x 22 ho base 3 i0 (.int .i64 0) 1 8 Try.underlying22 hi hz0 hz1 hz2 rfl (by decide) v n xs hs hown ⟨B, 0, none⟩ 1 1 [.int .i64 z] hx rfl ?_ ?_ (by decide) (by unfold maxLen; omega) (by omega) hb H hH (fun g cap w' h1 h2 h3 _ => h g cap w' h1 h2 h3)
  · intro j u hu
    rcases j with _ | j
    · simp at hu; subst hu; exact hz
    · simp at hu
  · intro u hu
    simp at hu; subst hu; rfl

/-- What may be read stays so in a later world: the way on first. -/
theorem rd_later {w w' : World} {size n : Nat} {A : Option Addr} {xs : List Value} (hb : Below w.heap.size w w') (h : Rd w size A n xs) : Rd w' size A n xs := h.kept hb

end Go.Proofs.Ytanedebkpcpknaa
