/- Slices of pipes: the laws' helpers: size, copy, equality, marks. -/
import Derived.Test.YtdlcldaogcbnlaaDoorInts
import Derived.Deep.RegionHeld3
namespace Go.Proofs.YtdlcldaogcbnlaaDoor
open Go.RowKit
set_option linter.unusedVariables false

theorem pipeInfo : (Tryd.prog.info? 38).map (fun i => (i.zero, i.size, i.bytes)) = some (some (.agg #[.int .i64 0, .int .i64 0, .int .i64 0, .int .i64 0]), 4, 32) := by kernel_rfl
theorem pipesV_len (ps : List Pp) : (pipesV ps).length = ps.length * 4 := flat_len Pp.vals 4 (fun _ => rfl) ps
theorem pipesV_at (ps : List Pp) (i r : Nat) (hr : r < 4) : (pipesV ps)[i * 4 + r]? = (ps[i]?).bind (fun a => a.vals[r]?) := flat_at Pp.vals 4 (fun _ => rfl) ps i r hr
/-- The four cells of the element at k. -/
theorem Rd.atPipe {w : World} {A : Option Addr} {n : Nat} {ps : List Pp} (h : Rd w 4 A n (pipesV ps)) {k : Nat} (hk : k < n) :
    ∃ b off x, A = some ⟨b, off, none⟩ ∧ b < w.heap.size ∧ ps[k]? = some x ∧ w.cell? ⟨b, off + k * 4, none⟩ = some (.int .i64 x.id) ∧ w.cell? ⟨b, off + k * 4 + 1, none⟩ = some (.int .i64 x.fr) ∧ w.cell? ⟨b, off + k * 4 + 2, none⟩ = some (.int .i64 x.to) ∧ w.cell? ⟨b, off + k * 4 + 3, none⟩ = some (.int .i64 x.sz) := by
  have hl : k < ps.length := by have := h.1; rw [pipesV_len] at this; omega
  obtain ⟨b, off, e, hb, hc⟩ := h.2 (by omega)
  have hx : ps[k]? = some ps[k] := List.getElem?_eq_getElem hl
  refine ⟨b, off, ps[k], e, hb, hx, ?_, ?_, ?_, ?_⟩
  · exact hc (k * 4) _ (by have := pipesV_at ps k 0 (by omega); rw [hx] at this; exact this)
  · exact hc (k * 4 + 1) _ (by rw [pipesV_at ps k 1 (by omega), hx]; rfl)
  · exact hc (k * 4 + 2) _ (by rw [pipesV_at ps k 2 (by omega), hx]; rfl)
  · exact hc (k * 4 + 3) _ (by rw [pipesV_at ps k 3 (by omega), hx]; rfl)
theorem pipesV_snoc {ps : List Pp} {k : Nat} {x : Pp} (h : ps[k]? = some x) : pipesV (ps.take (k + 1)) = pipesV (ps.take k) ++ x.vals := by
  rw [List.take_add_one, h]; simp [pipesV]

theorem eqPipe_any (p : Pp) (w : World) :
    Calls Tryd.prog 81 #[.agg #[.int .i64 p.id, .int .i64 p.fr, .int .i64 p.to, .int .i64 p.sz], .agg #[.int .i64 p.id, .int .i64 p.fr, .int .i64 p.to, .int .i64 p.sz]] w fun e w' => e = .returned (.bool true) ∧ Below w.heap.size w w' := by
  go_enter Tryd.func81, Tryd.ntmps81
  go_wp2
  go_ret
  exact ⟨rfl, below_a2 _ _ _⟩
theorem set4 {P : List Value} {k : Nat} (hP : P.length = k * 4) (a b c d e f g h : Value) (rest : List Value) :
    ((((P ++ a :: b :: c :: d :: rest).set (k * 4) e).set (k * 4 + 1) f).set (k * 4 + 2) g).set (k * 4 + 3) h = P ++ [e, f, g, h] ++ rest := by
  rw [List.set_append_right _ _ (by omega), List.set_append_right _ _ (by omega), List.set_append_right _ _ (by omega), List.set_append_right _ _ (by omega), hP]
  simp [show k * 4 + 1 - k * 4 = 1 by omega, show k * 4 + 2 - k * 4 = 2 by omega, show k * 4 + 3 - k * 4 = 3 by omega]
theorem own_set4 {w : World} {base g n c : Nat} {e : TypeId} {xs : List Value} (h : w.ownsRow base e 4 (.slice (some ⟨g, 0, none⟩) n c) n xs) (j0 j1 j2 j3 : Nat) (u0 u1 u2 u3 : Value) :
    ((((w.setCell ⟨g, j0, none⟩ u0).setCell ⟨g, j1, none⟩ u1).setCell ⟨g, j2, none⟩ u2).setCell ⟨g, j3, none⟩ u3).ownsRow base e 4 (.slice (some ⟨g, 0, none⟩) n c) n ((((xs.set j0 u0).set j1 u1).set j2 u2).set j3 u3) ∧ w.grownBy ((((w.setCell ⟨g, j0, none⟩ u0).setCell ⟨g, j1, none⟩ u1).setCell ⟨g, j2, none⟩ u2).setCell ⟨g, j3, none⟩ u3) (some g) := by
  obtain ⟨o1, g1⟩ := h.stored j0 u0
  obtain ⟨o2, g2⟩ := o1.stored j1 u1
  obtain ⟨o3, g3⟩ := o2.stored j2 u2
  obtain ⟨o4, g4⟩ := o3.stored j3 u3
  exact ⟨o4, grown_trans (grown_trans (grown_trans g1 g2) g3) g4⟩
theorem rest4 {P rest : List Value} {k n : Nat} (hP : P.length = k * 4) (h : (P ++ rest).length = n * 4) (hk : k < n) : ∃ a b c d r, rest = a :: b :: c :: d :: r := by
  rw [List.length_append] at h
  rcases rest with _ | ⟨a, _ | ⟨b, _ | ⟨c, _ | ⟨d, r⟩⟩⟩⟩ <;> simp at h <;> first | omega | exact ⟨_, _, _, _, _, rfl⟩
def MadePipeS (w : World) (n : Nat) (ps : List Pp) (e : Ending) (w' : World) : Prop :=
  ∃ A c, e = .returned (.slice A n c) ∧ w'.ownsRow w.heap.size 38 4 (.slice A n c) n (pipesV ps) ∧ Below w.heap.size w w'
set_option maxRecDepth 100000 in
set_option maxHeartbeats 1000000 in
theorem eqPipeS_below (A B : Option Addr) (n c d : Nat) (ps : List Pp) (w : World) (ha : Rd w 4 A n (pipesV ps)) (hb : Rd w 4 B n (pipesV ps)) (hn : n ≤ 9223372036854775807) :
    Calls Tryd.prog 41 #[.slice A n c, .slice B n d] w fun e w' => e = .returned (.bool true) ∧ Below w.heap.size w w' := by
  have Ha := Lib.hid ha
  have Hb := Lib.hid hb
  clear ha hb
  go_enter Tryd.func41, Tryd.ntmps41
  go_wp2
  go_loopw [5] (fun i wr => ∃ k : Nat, k ≤ n ∧ i = .int .i64 k ∧ Below w.heap.size w wr) (fun i _ => n - (intOf i).toNat)
  case atStart => exact ⟨0, Nat.zero_le _, rfl, Below.refl _ _⟩
  case round =>
    obtain ⟨k, hk, rfl, hbr⟩ := hrel
    by_cases hlt : k < n
    · obtain ⟨b, off, x, rfl, _, hx, hc0, hc1, hc2, hc3⟩ := (Ha.out.kept hbr).atPipe hlt
      obtain ⟨b', off', x', rfl, _, hx', hd0, hd1, hd2, hd3⟩ := (Hb.out.kept hbr).atPipe hlt
      obtain rfl : x' = x := Option.some.inj (hx'.symm.trans hx)
      have hi : (k : Int) < (n : Int) := by omega
      have h0 : (0 : Int) ≤ (k : Int) := by omega
      have He := Lib.hid (eqPipe_any x')
      have Hbr := Lib.hid hbr
      clear hx hx' hbr
      go_wp2_with fail
      go_region_held3 (fun w' => w'.cell? ⟨b, off + k * 4, none⟩ = some (.int .i64 x'.id) ∧ w'.cell? ⟨b, off + k * 4 + 1, none⟩ = some (.int .i64 x'.fr) ∧ w'.cell? ⟨b, off + k * 4 + 2, none⟩ = some (.int .i64 x'.to) ∧ w'.cell? ⟨b, off + k * 4 + 3, none⟩ = some (.int .i64 x'.sz) ∧ w'.cell? ⟨b', off' + k * 4, none⟩ = some (.int .i64 x'.id) ∧ w'.cell? ⟨b', off' + k * 4 + 1, none⟩ = some (.int .i64 x'.fr) ∧ w'.cell? ⟨b', off' + k * 4 + 2, none⟩ = some (.int .i64 x'.to) ∧ w'.cell? ⟨b', off' + k * 4 + 3, none⟩ = some (.int .i64 x'.sz) ∧ Below wr.heap.size wr w') (first | (go_split_ands; refine ⟨later ?_ hc0, later ?_ hc1, later ?_ hc2, later ?_ hc3, later ?_ hd0, later ?_ hd1, later ?_ hd2, later ?_ hd3, ?_⟩ <;> first | exact (Below.refl _ _).drew | exact also (by assumption) (by assumption) | exact below_drewN (by assumption) _ | assumption)) (first | (go_at_call 81; (with_reducible refine (He.out _).mono ?_); rintro e w3 ⟨rfl, b3⟩))
      rename_i hS
      have hS2 := hS.2.2.2.2.2.2.2.2
      clear hS
      go_wp2
      go_roundw
      case rel => exact ⟨k + 1, by omega, by go_num, also Hbr.out hS2⟩
      case measure => simp [intOf]; omega
    · go_wp2
      go_ret
      exact ⟨rfl, hbr⟩

def mkPipe (k0 : Int) (n : Nat) : List Value := (List.range n).flatMap (fun (i : Nat) => [.int .i64 (k0 + 4 * (i : Int)), .int .i64 (k0 + 4 * (i : Int) + 1), .int .i64 (k0 + 4 * (i : Int) + 1 + 1), .int .i64 (k0 + 4 * (i : Int) + 1 + 1 + 1)])
theorem mkPipe_len (k0 : Int) (n : Nat) : (mkPipe k0 n).length = n * 4 := by unfold mkPipe; rw [flat_len _ 4 (fun _ => rfl), List.length_range]
theorem mkPipe_snoc (k0 : Int) (n : Nat) (X : Int) (hX : X = k0 + 4 * (n : Int)) : mkPipe k0 (n + 1) = mkPipe k0 n ++ [.int .i64 X, .int .i64 (X + 1), .int .i64 (X + 1 + 1), .int .i64 (X + 1 + 1 + 1)] := by
  subst hX; unfold mkPipe; rw [List.range_succ, List.flatMap_append]; rfl
theorem mkPipe_at (k0 : Int) (n i r : Nat) (hi : i < n) (hr : r < 4) : (mkPipe k0 n)[i * 4 + r]? = ([.int .i64 (k0 + 4 * (i : Int)), .int .i64 (k0 + 4 * (i : Int) + 1), .int .i64 (k0 + 4 * (i : Int) + 1 + 1), .int .i64 (k0 + 4 * (i : Int) + 1 + 1 + 1)] : List Value)[r]? := by
  unfold mkPipe; rw [flat_at _ 4 (fun _ => rfl) _ i r hr, List.getElem?_range hi]; rfl
def MarkedPipeS (w : World) (base : Nat) (A : Option Addr) (n c : Nat) (k0 : Int) (e : Ending) (w' : World) : Prop :=
  e = .returned (.int .i64 (k0 + 4 * n)) ∧ w'.ownsRow base 38 4 (.slice A n c) n (mkPipe k0 n) ∧ w.grownBy w' (Value.slice A n c).ownBlock
set_option maxHeartbeats 1000000 in
theorem markPipeS_any (A : Option Addr) (n c base : Nat) (k0 : Int) (xs : List Value) (w : World) (how : w.ownsRow base 38 4 (.slice A n c) n xs) (hn : n ≤ 1000000000) (h0 : 0 ≤ k0) (h1 : k0 ≤ 1000000000000) :
    Calls Tryd.prog 42 #[.slice A n c, .int .i64 k0] w (MarkedPipeS w base A n c k0) := by
  have Ho := Lib.hid how
  clear how
  go_enter Tryd.func42, Tryd.ntmps42
  go_wp2
  go_loopw [1, 5] (fun x i wr => ∃ (k : Nat) (rest : List Value), k ≤ n ∧ i = .int .i64 k ∧ x = .int .i64 (k0 + 4 * (k : Int)) ∧ wr.ownsRow base 38 4 (.slice A n c) n (mkPipe k0 k ++ rest) ∧ w.grownBy wr (Value.slice A n c).ownBlock) (fun _ i _ => n - (intOf i).toNat)
  case atStart => exact ⟨0, xs, Nat.zero_le _, rfl, by simp, by simpa [mkPipe] using Ho.out, World.grownBy.refl _ _⟩
  case round =>
    obtain ⟨k, rest, hk, rfl, rfl, hor, hgr⟩ := hrel
    by_cases hlt : k < n
    · have hP := mkPipe_len k0 k
      obtain ⟨r0, r1, r2, r3, rest', rfl⟩ := rest4 hP hor.1 hlt
      obtain ⟨g, rfl⟩ : ∃ g, A = some ⟨g, 0, none⟩ := by
        rcases hor.2 with ⟨hv, _⟩ | ⟨g, cap, cur, hv, _⟩
        · simp at hv; omega
        · simp at hv; exact ⟨g, hv.1⟩
      have hf := hor.frozenAt
      have d0 := hor.cellAt (k * 4) (by omega)
      have d1 := hor.cellAt (k * 4 + 1) (by omega)
      have d2 := hor.cellAt (k * 4 + 2) (by omega)
      have d3 := hor.cellAt (k * 4 + 3) (by omega)
      rw [List.getElem?_append_right (by rw [hP]; omega), hP] at d0 d1 d2 d3
      simp only [Nat.sub_self, show k * 4 + 1 - k * 4 = 1 by omega, show k * 4 + 2 - k * 4 = 2 by omega, show k * 4 + 3 - k * 4 = 3 by omega, List.getElem?_cons_zero, List.getElem?_cons_succ] at d0 d1 d2 d3
      have hX0 : 0 ≤ k0 + 4 * (k : Int) := by omega
      have hX1 : k0 + 4 * (k : Int) ≤ 2000000000000 := by omega
      have HX : Hid (∀ X, X = k0 + 4 * (k : Int) → mkPipe k0 (k + 1) = mkPipe k0 k ++ [.int .i64 X, .int .i64 (X + 1), .int .i64 (X + 1 + 1), .int .i64 (X + 1 + 1 + 1)]) := Lib.hid (mkPipe_snoc k0 k)
      have Hst := Lib.hid (fun X => own_set4 hor (k * 4) (k * 4 + 1) (k * 4 + 2) (k * 4 + 3) (.int .i64 X) (.int .i64 (X + 1)) (.int .i64 (X + 1 + 1)) (.int .i64 (X + 1 + 1 + 1)))
      have Hgr := Lib.hid hgr
      have HP := Lib.hid hP
      clear hor hgr hP
      generalize hXX : k0 + 4 * (k : Int) = X at *
      go_wp2
      go_roundw
      case rel => exact ⟨k + 1, rest', by omega, by go_num, by congr 1; omega, by rw [HX.out X rfl, ← set4 HP.out r0 r1 r2 r3]; exact (Hst.out X).1, grown_trans Hgr.out (Hst.out X).2⟩
      case measure => simp [intOf]; omega
    · have hkn : k = n := by omega
      subst hkn
      go_wp2
      go_ret
      have h0 : rest = [] := by have := hor.1; rw [List.length_append, mkPipe_len] at this; exact List.eq_nil_of_length_eq_zero (by omega)
      rw [h0, List.append_nil] at hor
      exact ⟨rfl, hor, hgr⟩

theorem Rd.markPipe {w : World} {A : Option Addr} {n : Nat} {k0 : Int} (h : Rd w 4 A n (mkPipe k0 n)) {k : Nat} (hk : k < n) : ∃ b off, A = some ⟨b, off, none⟩ ∧ w.cell? ⟨b, off + k * 4, none⟩ = some (.int .i64 (k0 + 4 * (k : Int))) ∧ w.cell? ⟨b, off + k * 4 + 1, none⟩ = some (.int .i64 (k0 + 4 * (k : Int) + 1)) ∧ w.cell? ⟨b, off + k * 4 + 2, none⟩ = some (.int .i64 (k0 + 4 * (k : Int) + 1 + 1)) ∧ w.cell? ⟨b, off + k * 4 + 3, none⟩ = some (.int .i64 (k0 + 4 * (k : Int) + 1 + 1 + 1)) := by
  obtain ⟨b, off, e, hb, hc⟩ := h.2 (by omega)
  refine ⟨b, off, e, ?_, ?_, ?_, ?_⟩
  · exact hc (k * 4) _ (mkPipe_at k0 n k 0 hk (by omega))
  · exact hc (k * 4 + 1) _ (mkPipe_at k0 n k 1 hk (by omega))
  · exact hc (k * 4 + 2) _ (mkPipe_at k0 n k 2 hk (by omega))
  · exact hc (k * 4 + 3) _ (mkPipe_at k0 n k 3 hk (by omega))
set_option maxHeartbeats 1000000 in
theorem heldPipeS_below (A : Option Addr) (n c : Nat) (k0 : Int) (w : World) (ha : Rd w 4 A n (mkPipe k0 n)) (hn : n ≤ 1000000000) (h0 : 0 ≤ k0) (h1 : k0 ≤ 1000000000000) :
    Calls Tryd.prog 43 #[.slice A n c, .int .i64 k0] w fun e w' => e = .returned (.int .i64 (k0 + 4 * n)) ∧ Below w.heap.size w w' := by
  have Ha := Lib.hid ha
  clear ha
  go_enter Tryd.func43, Tryd.ntmps43
  go_wp2
  go_loopw [1, 5] (fun x i wr => ∃ k : Nat, k ≤ n ∧ i = .int .i64 k ∧ x = .int .i64 (k0 + 4 * (k : Int)) ∧ Below w.heap.size w wr) (fun _ i _ => n - (intOf i).toNat)
  case atStart => exact ⟨0, Nat.zero_le _, rfl, by simp, Below.refl _ _⟩
  case round =>
    obtain ⟨k, hk, rfl, rfl, hbr⟩ := hrel
    by_cases hlt : k < n
    · obtain ⟨b, off, rfl, d0, d1, d2, d3⟩ := (Ha.out.kept hbr).markPipe hlt
      have hX0 : 0 ≤ k0 + 4 * (k : Int) := by omega
      have hX1 : k0 + 4 * (k : Int) ≤ 2000000000000 := by omega
      generalize hXX : k0 + 4 * (k : Int) = X at *
      go_wp2
      go_roundw
      case rel => exact ⟨k + 1, by omega, by go_num, by congr 1; omega, hbr⟩
      case measure => simp [intOf]; omega
    · have hkn : k = n := by omega
      subst hkn
      go_wp2
      go_ret
      exact ⟨rfl, hbr⟩

end Go.Proofs.YtdlcldaogcbnlaaDoor
