/- Slices of whole numbers: the laws' helpers: equality, marks; append. -/
import Derived.Test.YtdlcldaogcbnlaaProg
import Derived.Test.YtdlcldaogcbnlaaRow
namespace Go.Proofs.Ytdlcldaogcbnlaa
open Go.RowKit
set_option linter.unusedVariables false

theorem intInfo : (Try.prog.info? 3).map (fun i => (i.zero, i.size, i.bytes)) = some (some (.int .i64 0), 1, 8) := by kernel_rfl

set_option maxHeartbeats 400000 in
theorem eqIntS_same (A B : Option Addr) (n c d : Nat) (zs : List Int) (w : World) (ha : Rd w 1 A n (intsV zs)) (hb : Rd w 1 B n (intsV zs)) (hn : n ≤ 9223372036854775807) :
    Calls Try.prog 38 #[.slice A n c, .slice B n d] w fun e w' => e = .returned (.bool true) ∧ ∃ m, w' = w.drewN m := by
  go_enter Try.func38, Try.ntmps38
  go_wp2
  go_loopw [5] (fun i wr => ∃ k m : Nat, k ≤ n ∧ i = .int .i64 k ∧ wr = w.drewN m) (fun i _ => n - (intOf i).toNat)
  case atStart => exact ⟨0, 0, Nat.zero_le _, rfl, rfl⟩
  case round =>
    obtain ⟨k, m, hk, rfl, rfl⟩ := hrel
    by_cases hlt : k < n
    · obtain ⟨b, off, u, rfl, _, hx, hc⟩ := ha.at1 hlt
      obtain ⟨b', off', u', rfl, _, hx', hc'⟩ := hb.at1 hlt
      obtain ⟨z, hz, rfl⟩ := ints_at hx
      obtain ⟨z', hz', rfl⟩ := ints_at hx'
      have e : z' = z := by rw [hz] at hz'; exact (Option.some.inj hz').symm
      subst e
      clear hx hx' hz hz' ha hb
      have hi : (k : Int) < (n : Int) := by omega
      have h0 : (0 : Int) ≤ (k : Int) := by omega
      go_wp2_with fail
      go_quiet (fail)
      go_wp2
      go_roundw
      case rel => exact ⟨k + 1, _, by omega, by go_num, rfl⟩
      case measure => simp [intOf]; omega
    · go_wp2
      go_ret
      exact ⟨rfl, m, rfl⟩

set_option maxHeartbeats 400000 in
theorem heldIntS_any (A : Option Addr) (n c : Nat) (k0 : Int) (w : World) (ha : Rd w 1 A n (intsV (upFrom k0 n))) (hn : n ≤ 1000000000) (h0 : 0 ≤ k0) (h1 : k0 ≤ 1000000000000) :
    Calls Try.prog 42 #[.slice A n c, .int .i64 k0] w fun e w' => e = .returned (.int .i64 (k0 + n)) ∧ w = w' := by
  go_enter Try.func42, Try.ntmps42
  go_wp2
  go_loop [1, 5] (fun x i => ∃ k : Nat, k ≤ n ∧ i = .int .i64 k ∧ x = .int .i64 (k0 + k)) (fun _ i => n - (intOf i).toNat)
  case atStart => exact ⟨0, Nat.zero_le _, rfl, by simp⟩
  case round =>
    obtain ⟨k, hk, rfl, rfl⟩ := hrel
    by_cases hlt : k < n
    · obtain ⟨b, off, u, rfl, _, hx, hc⟩ := ha.at1 hlt
      obtain ⟨z, hz, rfl⟩ := ints_at hx
      rw [upFrom_at _ _ _ hlt] at hz
      obtain rfl := Option.some.inj hz
      clear hx hz ha
      have hne : ((k0 + (k : Int)) != (k0 + (k : Int))) = false := by simp
      go_wp2
      go_round
      case rel => exact ⟨k + 1, by omega, by go_num, by go_num⟩
      case measure => simp [intOf]; omega
    · have hkn : k = n := by omega
      subst hkn
      go_wp2
      go_ret
      exact ⟨rfl, rfl⟩

/-- What a mark leaves: the row holds the numbers from k0 on; nothing else has turned. -/
def Marked (w : World) (base : Nat) (A : Option Addr) (n c : Nat) (k0 : Int) (e : Ending) (w' : World) : Prop :=
  e = .returned (.int .i64 (k0 + n)) ∧ w'.ownsRow base 3 1 (.slice A n c) n (intsV (upFrom k0 n)) ∧ w.grownBy w' (Value.slice A n c).ownBlock
theorem up_set {zs : List Int} {k0 : Int} {n k : Nat} (hl : zs.length = n) (hk : k < n) :
    (intsV (upFrom k0 k) ++ intsV (zs.drop k)).set k (.int .i64 (k0 + k)) = intsV (upFrom k0 (k + 1)) ++ intsV (zs.drop (k + 1)) := by
  have hlen : (intsV (upFrom k0 k)).length = k := by simp [intsV, upFrom]
  rw [List.set_append_right _ _ (by omega), hlen, Nat.sub_self, List.drop_eq_getElem_cons (show k < zs.length by omega)]
  simp only [List.set_cons_zero, intsV, List.map_cons, upFrom, List.range_succ, List.map_append, List.map_nil, List.append_assoc, List.singleton_append]
set_option maxHeartbeats 800000 in
theorem markIntS_any (A : Option Addr) (n c base : Nat) (k0 : Int) (zs : List Int) (w : World) (how : w.ownsRow base 3 1 (.slice A n c) n (intsV zs)) (hn : n ≤ 1000000000) (h0 : 0 ≤ k0) (h1 : k0 ≤ 1000000000000) :
    Calls Try.prog 41 #[.slice A n c, .int .i64 k0] w (Marked w base A n c k0) := by
  have hlen : zs.length = n := by have := own_len how; rw [ints_len] at this; exact this
  have Hl := Lib.hid hlen
  clear hlen
  go_enter Try.func41, Try.ntmps41
  go_wp2
  go_loopw [1, 5] (fun x i wr => ∃ k : Nat, k ≤ n ∧ i = .int .i64 k ∧ x = .int .i64 (k0 + k) ∧ wr.ownsRow base 3 1 (.slice A n c) n (intsV (upFrom k0 k) ++ intsV (zs.drop k)) ∧ w.grownBy wr (Value.slice A n c).ownBlock) (fun _ i _ => n - (intOf i).toNat)
  case atStart => exact ⟨0, Nat.zero_le _, rfl, by simp, by simpa [upFrom, intsV] using how, World.grownBy.refl _ _⟩
  case round =>
    obtain ⟨k, hk, rfl, rfl, hor, hgr⟩ := hrel
    by_cases hlt : k < n
    · obtain ⟨b, off, u, rfl, hbb, hx, hc⟩ := (own_rd hor).at1 hlt
      obtain rfl : off = 0 := by
        rcases hor.2 with ⟨hv, _⟩ | ⟨g, cap, cur, hv, _⟩
        · simp at hv
        · simp at hv; exact hv.1.2
      have hfg := hor.frozenAt k
      have hst := hor.stored k (.int .i64 (k0 + k))
      rw [up_set Hl.out hlt] at hst
      have Hst := Lib.hid hst
      rw [Nat.zero_add] at hc
      clear hst hx how
      go_wp2
      go_roundw
      case rel => exact ⟨k + 1, by omega, by go_num, by go_num, Hst.out.1, grown_trans hgr Hst.out.2⟩
      case measure => simp [intOf]; omega
    · have hkn : k = n := by omega
      subst hkn
      go_wp2
      go_ret
      refine ⟨rfl, ?_, hgr⟩
      have hl := Hl.out
      simpa [List.drop_of_length_le, hl, intsV] using hor

theorem eqIntS_below (A B : Option Addr) (n c d : Nat) (zs : List Int) (w : World) (ha : Rd w 1 A n (intsV zs)) (hb : Rd w 1 B n (intsV zs)) (hn : n ≤ 9223372036854775807) :
    Calls Try.prog 38 #[.slice A n c, .slice B n d] w fun e w' => e = .returned (.bool true) ∧ Below w.heap.size w w' :=
  (eqIntS_same A B n c d zs w ha hb hn).mono fun e w' ⟨h, m, hw⟩ => ⟨h, by subst hw; exact below_drewN (Below.refl _ _) m⟩
theorem heldIntS_below (A : Option Addr) (n c : Nat) (k0 : Int) (w : World) (ha : Rd w 1 A n (intsV (upFrom k0 n))) (hn : n ≤ 1000000000) (h0 : 0 ≤ k0) (h1 : k0 ≤ 1000000000000) :
    Calls Try.prog 42 #[.slice A n c, .int .i64 k0] w fun e w' => e = .returned (.int .i64 (k0 + n)) ∧ Below w.heap.size w w' :=
  (heldIntS_any A n c k0 w ha hn h0 h1).mono fun e w' ⟨h, hw⟩ => ⟨h, by subst hw; exact Below.refl _ _⟩

theorem append_int {ops : Array Oper} {rest : List Oper} {o : Oper} {a : Act} {Q : Exit → Act → World → Prop} (w : World) (hgd : o.guard = none) (s x : Operand)
    (ho : o.op = .call { callee := .builtin .append, args := #[s, x], argTypes := #[41, 41] }) (base : Nat) (v : Value) (n : Nat) (xs : List Value) (hs : a.eval s = v) (hown : w.ownsRow base 3 1 v n xs)
    (B : Nat) (z : Int) (hx : a.eval x = .slice (some ⟨B, 0, none⟩) 1 1) (hz : w.cell? ⟨B, 0, none⟩ = some (.int .i64 z)) (hn : n ≤ 1000000000) (hb : base ≤ w.heap.size)
    (h : ∀ g cap w', w'.ownsRow base 3 1 (.slice (some ⟨g, 0, none⟩) (n + 1) cap) (n + 1) (xs ++ [.int .i64 z]) → w.grownBy w' v.ownBlock → (v.ownBlock = some g ∨ g = w.heap.size) → wpList Try.prog ops Q rest (a.put o.dst (.slice (some ⟨g, 0, none⟩) (n + 1) cap)) w') : wpList Try.prog ops Q (o :: rest) a w := by
  obtain ⟨i0, hi, hz0, hz1, hz2⟩ := info_parts intInfo
  refine wpList_append_lies w hgd s x 41 ho base 3 i0 (.int .i64 0) 1 8 Try.underlying41 hi hz0 hz1 hz2 rfl (by decide) v n xs hs hown ⟨B, 0, none⟩ 1 1 [.int .i64 z] hx rfl ?_ ?_ (by decide) (by unfold maxLen; omega) (by omega) hb _ rfl (fun g cap w' h1 h2 h3 _ => h g cap w' h1 h2 h3)
  · intro j u hu
    rcases j with _ | j
    · simp at hu; subst hu; exact hz
    · simp at hu
  · intro u hu
    simp at hu; subst hu; rfl
theorem step_int {ops : Array Oper} {o : Oper} {a : Act} {K : Act → World → Prop} {Q : Exit → Act → World → Prop} {E : Prop} (w : World) (hgd : o.guard = none) (s x : Operand)
    (ho : o.op = .call { callee := .builtin .append, args := #[s, x], argTypes := #[41, 41] }) (base : Nat) (v : Value) (n : Nat) (xs : List Value) (hs : a.eval s = v) (hown : w.ownsRow base 3 1 v n xs)
    (B : Nat) (z : Int) (hx : a.eval x = .slice (some ⟨B, 0, none⟩) 1 1) (hz : w.cell? ⟨B, 0, none⟩ = some (.int .i64 z)) (hn : n ≤ 1000000000) (hb : base ≤ w.heap.size) (H : Nat) (hH : w.heap.size = H)
    (h : ∀ g cap w', w'.ownsRow base 3 1 (.slice (some ⟨g, 0, none⟩) (n + 1) cap) (n + 1) (xs ++ [.int .i64 z]) → w.grownBy w' v.ownBlock → (v.ownBlock = some g ∨ g = H) → K (a.put o.dst (.slice (some ⟨g, 0, none⟩) (n + 1) cap)) w') : if Region.wanted o (yielded ops a.tmps) = true then Oper.wp Try.prog o a w K Q else E := by
  obtain ⟨i0, hi, hz0, hz1, hz2⟩ := info_parts intInfo
  refine step_append_lies w hgd s x 41 ho base 3 i0 (.int .i64 0) 1 8 Try.underlying41 hi hz0 hz1 hz2 rfl (by decide) v n xs hs hown ⟨B, 0, none⟩ 1 1 [.int .i64 z] hx rfl ?_ ?_ (by decide) (by unfold maxLen; omega) (by omega) hb H hH (fun g cap w' h1 h2 h3 _ => h g cap w' h1 h2 h3)
  · intro j u hu
    rcases j with _ | j
    · simp at hu; subst hu; exact hz
    · simp at hu
  · intro u hu
    simp at hu; subst hu; rfl

end Go.Proofs.Ytdlcldaogcbnlaa
