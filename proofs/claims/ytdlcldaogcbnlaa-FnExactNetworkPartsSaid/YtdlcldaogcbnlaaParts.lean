/- The parts of a network: both packages make one table. -/
import Derived.Test.YtdlcldaogcbnlaaFresh
import Derived.Test.YtdlcldaogcbnlaaTab
import Derived.Test.YtdlcldaogcbnlaaPartP
import Derived.Test.YtdlcldaogcbnlaaReachedFrom
import Derived.Test.YtdlcldaogcbnlaaNetC
import Derived.Test.YtdlcldaogcbnlaaJoinK
import Derived.Test.YtdlcldaogcbnlaaFr
namespace Go.Proofs.Ytdlcldaogcbnlaa
open Go.RowKit
set_option linter.unusedVariables false
set_option linter.unusedSimpArgs false

theorem svs_one (vs : List Sv) : ∀ u ∈ svV vs, u.oneCell' = true := fun u hu => by
  obtain ⟨v, _, rfl⟩ := List.mem_map.1 hu
  rfl
theorem rd_svs_len {w : World} {A : Option Addr} {n : Nat} {vs : List Sv} (h : Rd w 1 A n (svV vs)) : vs.length = n := by have := h.1; rw [sv_len] at this; omega
theorem own_snocT {w : World} {base : Nat} {e : TypeId} {u : Value} {n : Nat} {vs : List Sv} {v : Sv} (h : w.ownsRow base e 1 u n (svV vs ++ (#[v.val] : Array Value).toList)) : w.ownsRow base e 1 u n (svV (vs ++ [v])) := by
  simpa [svV] using h
theorem Rd.elSv {w : World} {A : Option Addr} {n k : Nat} {vs : List Sv} {v : Sv} (h : Rd w 1 A n (svV vs)) (hv : vs[k]? = some v) : ∃ b off, A = some ⟨b, off, none⟩ ∧ b < w.heap.size ∧ w.cell? ⟨b, off + k, none⟩ = some (.slice v.A v.n v.c) := by
  have hl := rd_svs_len h
  have hk := (List.getElem?_eq_some_iff.1 hv).1
  obtain ⟨b, off, e, hb, hc⟩ := h.2 (by omega)
  exact ⟨b, off, e, hb, hc k _ (by unfold svV; rw [List.getElem?_map, hv]; rfl)⟩
theorem RdT.at {w : World} {A : Option Addr} {n : Nat} {vs : List Sv} {zss : List (List Int)} (h : RdT w A n vs zss) {i : Nat} (hi : i < n) : ∃ v zs, vs[i]? = some v ∧ zss[i]? = some zs :=
  ⟨_, _, List.getElem?_eq_getElem (by have := h.size; omega), List.getElem?_eq_getElem (by have := h.size; omega)⟩
/-- A row of the call's own with lists that are read, none of them in the row's block. -/
structure TabR (w : World) (base : Nat) (eo : TypeId) (A : Option Addr) (n c : Nat) (vs : List Sv) (zss : List (List Int)) : Prop where
  out : w.ownsRow base eo 1 (.slice A n c) n (svV vs)
  len : vs.length = zss.length
  inn : ∀ (i : Nat) (v : Sv) (zs : List Int), vs[i]? = some v → zss[i]? = some zs → Rd w 1 v.A v.n (intsV zs)
  sep : ∀ (i : Nat) (v : Sv), vs[i]? = some v → Sp v.A v.n (Value.slice A n c).ownBlock
section
variable {w w' : World} {base : Nat} {eo ei : TypeId} {A : Option Addr} {n c : Nat} {vs : List Sv} {zss : List (List Int)}
theorem TabR.rd (h : TabR w base eo A n c vs zss) : RdT w A n vs zss := ⟨own_rd h.out, h.len, h.inn⟩
theorem TabR.kept (h : TabR w base eo A n c vs zss) (b : Below w.heap.size w w') : TabR w' base eo A n c vs zss :=
  ⟨own_kept h.out b, h.len, fun i v zs h1 h2 => (h.inn i v zs h1 h2).kept b, h.sep⟩
theorem TabR.none (h : w.ownsRow base eo 1 (.slice A n c) 0 (svV [])) (hn : n = 0) : TabR w base eo A n c [] [] :=
  ⟨by subst hn; exact h, rfl, fun i v zs h1 => by simp at h1, fun i v h1 => by simp at h1⟩
theorem TabR.snoc {A' : Option Addr} {c' : Nat} {v : Sv} {zs : List Int} (h : TabR w base eo A n c vs zss) (hv : Rd w 1 v.A v.n (intsV zs)) (ho : Sp v.A v.n (Value.slice A n c).ownBlock)
    (hnew : w'.ownsRow base eo 1 (.slice A' (n + 1) c') (n + 1) (svV (vs ++ [v]))) (hg : w.grownBy w' (Value.slice A n c).ownBlock) (hat : (Value.slice A' (n + 1) c').ownBlock = (Value.slice A n c).ownBlock ∨ ∀ k, (Value.slice A' (n + 1) c').ownBlock = some k → w.heap.size ≤ k) :
    TabR w' base eo A' (n + 1) c' (vs ++ [v]) (zss ++ [zs]) := by
  have hl := h.len
  refine ⟨hnew, by rw [List.length_append, List.length_append, h.len]; rfl, ?_, ?_⟩
  · intro i u ys h1 h2
    rcases at_snoc h1 with h3 | ⟨h3, rfl⟩
    · have h4 := (List.getElem?_eq_some_iff.1 h3).1
      rw [List.getElem?_append_left (by omega)] at h2
      exact rd_sepG (h.inn i u ys h3 h2) hg (h.sep i u h3)
    · rw [h3, hl, List.getElem?_append_right (by omega)] at h2
      simp at h2; subst h2
      exact rd_sepG hv hg ho
  · intro i u h1
    rcases at_snoc h1 with h3 | ⟨h3, rfl⟩
    · have h4 := (List.getElem?_eq_some_iff.1 h3).1
      obtain ⟨ys, hy⟩ : ∃ ys, zss[i]? = some ys := ⟨_, List.getElem?_eq_getElem (by omega)⟩
      exact sp_app (h.sep i u h3) (h.inn i u ys h3 hy) (Nat.le_refl _) hat
    · exact sp_app ho hv (Nat.le_refl _) hat
theorem Tab.snoc' {A' : Option Addr} {c' : Nat} {v : Sv} {zs : List Int} (h : Tab w base eo ei A n c vs zss) (hv : w.ownsRow base ei 1 v.val v.n (intsV zs)) (ho : NbR v.val (.slice A n c)) (hs : ∀ (i : Nat) (u : Sv), vs[i]? = some u → NbR v.val u.val)
    (hnew : w'.ownsRow base eo 1 (.slice A' (n + 1) c') (n + 1) (svV (vs ++ [v]))) (hg : w.grownBy w' (Value.slice A n c).ownBlock) (hat : (Value.slice A' (n + 1) c').ownBlock = (Value.slice A n c).ownBlock ∨ ∀ k, (Value.slice A' (n + 1) c').ownBlock = some k → w.heap.size ≤ k) :
    Tab w' base eo ei A' (n + 1) c' (vs ++ [v]) (zss ++ [zs]) := Tab.snoc h hv ho hs (by simpa [svV] using hnew) hg hat
end
theorem reach_pos {E : Int → Int → Prop} {m : Nat} {b : Int} (hb : 1 ≤ b ∧ b ≤ m) : 0 < (reachList E m b).length := List.length_pos_iff.2 (reachList_ne hb)
noncomputable def NetworkParts_v0 (m : Int) (ps : List Pp) : List (List Int) := if goodN m ps = true then partsTo (joined ps) m.toNat m.toNat else []
def NetworkParts_v1 (m : Int) (ps : List Pp) : Bool := goodN m ps
theorem NetworkParts_bd (m : Int) (ps : List Pp) : (NetworkParts_v0 m ps).length ≤ 8 ∧ ∀ zs ∈ NetworkParts_v0 m ps, zs.length ≤ 8 := by
  unfold NetworkParts_v0
  split
  · rename_i h
    have hg := (good_of h).hi
    refine ⟨by have := parts_len (E := joined ps) (m := m.toNat) m.toNat; omega, fun zs hz => ?_⟩
    obtain ⟨v, hv, rfl⟩ := mem_parts hz
    have := reachList_len (joined ps) m.toNat v; omega
  · simp

set_option maxRecDepth 100000 in
set_option maxHeartbeats 8000000 in
theorem networkParts_any (m : Int) (A : Option Addr) (n c : Nat) (ps : List Pp) (w : World) (ha : Rd w 4 A n (pipesV ps)) (hn : n ≤ 1048576) (hp : pipesIn ps m.toNat) (hi0 : ∀ p, p ∈ ps → 1 ≤ p.id) (hm : 1 ≤ m ∧ m ≤ 8) :
    Calls Try.prog 37 #[.agg #[.int .i64 m, .slice A n c]] w fun e w' => ∃ A' n' c' vs, e = .returned (.slice A' n' c') ∧ Tab w' w.heap.size 41 3 A' n' c' vs (partsTo (joined ps) m.toNat m.toNat) ∧ Below w.heap.size w w' := by
  have hl := rd_pipes_len ha
  go_enter Try.func37, Try.ntmps37
  refine wp_seq_k (fun K1 h1 => ?_)
  refine W.region_plain (row := none) [(0, true), (1, false)] (by kernel_rfl) ?_
  have s1 := SG.self w none
  refine W.sn (fun b => .pointer (some ⟨b, 0, none⟩)) #[.int .i64 m, .slice A n c] 31 s1 rfl (by kernel_rfl) rfl (fun _ => by kernel_rfl) (fun b2 w3 hb4 k5 x6 s7 => ?_)
  have lo8 : w.heap.size ≤ b2 := Nat.le_trans ((SG.belowR (Below.refl _ _) s1 (fun kq e => by cases e))).size (Nat.le_of_eq hb4)
  refine W.as (v := .slice none 0 0) (h := ?_)
  refine W.endF 26 [(0, .agg #[.int .i64 m, .slice A n c]), (1, .pointer (some ⟨b2, 0, none⟩)), (2, .slice none 0 0)] (fun U9 => ?_)
  have c10 := (SG.belowR (Below.refl _ _) s7 (fun kq e => by cases e))
  refine h1 _ _ ?_
  refine wp_seq_k (fun K2 h2 => ?_)
  refine W.region_plain (row := none) [(0, true), (1, false)] (by kernel_rfl) ?_
  have s11 := SG.self w3 none
  refine W.sn (fun b => .slice (some ⟨b, 0, none⟩) 0 0) #[] 41 s11 rfl (by kernel_rfl) rfl (fun _ => by kernel_rfl) (fun b12 w13 hb14 k15 x16 s17 => ?_)
  refine F.nx ?_
  have lo18 : w.heap.size ≤ b12 := Nat.le_trans ((SG.belowR c10 s11 (fun kq e => by cases e))).size (Nat.le_of_eq hb14)
  have ne19 : b2 ≠ b12 := Nat.ne_of_lt (Nat.lt_of_lt_of_eq (Nat.lt_of_lt_of_le (blk_lt x6) (s11).size) hb14)
  refine F.as (v := .slice (some ⟨b12, 0, none⟩) 0 0) (h := ?_)
  refine F.endF [(0, .agg #[.int .i64 m, .slice A n c]), (1, .pointer (some ⟨b2, 0, none⟩)), (2, .slice none 0 0), (3, .slice (some ⟨b12, 0, none⟩) 0 0)] (fun U20 => ?_)
  have x6 := SG.blk s17 x6 (Option.some_ne_none _)
  have c21 := (SG.belowR c10 s17 (fun kq e => by cases e))
  refine h2 _ _ ?_
  refine wp_seq_k (fun K3 h3 => ?_)
  refine wp_seq_k (fun K4 h4 => ?_)
  refine W.region_quiet [(0, false)] (by kernel_rfl) ?_
  refine F.as (v := .int .i64 1) (h := ?_)
  refine F.endF [(0, .agg #[.int .i64 m, .slice A n c]), (1, .pointer (some ⟨b2, 0, none⟩)), (2, .slice none 0 0), (3, .slice (some ⟨b12, 0, none⟩) 0 0), (4, .int .i64 1)] (fun U22 => ?_)
  refine h4 _ _ ?_
  refine wp_block ?_
  have ho23 := own_empty (base := w.heap.size) (size := 1) x16 lo18
  replace ho23 : World.ownsRow _ _ _ _ _ _ (svV []) := ho23
  have nb24 : Nb b2 (.slice (some ⟨b12, 0, none⟩) 0 0) := nb_new ne19
  refine loopK (fun am0 aa0 wl0 => ∃ (k : Nat) (vs : List Sv) (A0_3 : Option Addr) (n0_3 : Nat) (c0_3 : Nat) (U0 : Nat → Value), aa0 = ⟨(fr U0 [(0, .agg #[.int .i64 m, .slice A n c]), (1, .pointer (some ⟨b2, 0, none⟩)), (2, .slice none 0 0), (3, .slice A0_3 n0_3 c0_3), (4, .int .i64 (((k : Nat) : Int) + 1))] 26 0).toArray, []⟩ ∧ (am0 = m.toNat - k) ∧ (k ≤ m.toNat) ∧ (Tab wl0 w.heap.size 41 3 A0_3 n0_3 c0_3 vs (partsTo (joined ps) m.toNat k)) ∧ (wl0.heap[b2]? = some (.cells #[.int .i64 m, .slice A n c] 31 (0, 0))) ∧ (wl0.ownsRow w.heap.size 41 1 (.slice A0_3 n0_3 c0_3) n0_3 (svV vs)) ∧ (Nb b2 (.slice A0_3 n0_3 c0_3)) ∧ (Below w.heap.size w wl0)) (m.toNat - 0) ?_ ?_
  · exact ⟨0, [], (some ⟨b12, 0, none⟩), 0, 0, (fun iU9 => lk [(0, .agg #[.int .i64 m, .slice A n c]), (1, .pointer (some ⟨b2, 0, none⟩)), (2, .slice none 0 0), (3, .slice (some ⟨b12, 0, none⟩) 0 0), (4, .int .i64 1)] iU9 (U22 iU9)), (by kernel_rfl), rfl, (Nat.zero_le _), (Tab.none ho23 rfl), x6, ho23, nb24, c21⟩
  rintro am0 aa0 wl0 K5 h5 ⟨k, vs, A0_3, n0_3, c0_3, U0, rfl, rfl, hk, htab, x6, ho0_3, nb0_3_b2, c25⟩
  have htl := parts_len (E := joined ps) (m := m.toNat) k
  have htl2 := (htab.rd).size
  refine wp_seq_k (fun K6 h6 => ?_)
  refine wp_seq_k (fun K7 h7 => ?_)
  refine W.region_quiet [(0, false), (1, false), (2, false), (3, false)] (by kernel_rfl) ?_
  refine F.mv (v := .int .i64 (((k : Nat) : Int) + 1)) (h := ?_)
  refine F.q (v := .pointer (some ⟨b2, 0, none⟩)) (hr := (r_field0 rfl (ev_any (by kernel_rfl)) (by kernel_rfl))) (h := ?_)
  refine F.ld (v := .int .i64 m) (hc := (eqS (blk_cell (j := 0) x6 (by kernel_rfl)))) (h := ?_)
  by_cases q26 : ((((k : Nat) : Int) + 1) : Int) ≤ (m : Int)
  · refine F.q (v := .bool true) (hr := (r_leq (m := (((k : Nat) : Int) + 1)) (n := m) rfl (ev_any (by kernel_rfl)) (ev_any (by kernel_rfl)) (decide_eq_true q26))) (h := ?_)
    refine F.endF [(0, .agg #[.int .i64 m, .slice A n c]), (1, .pointer (some ⟨b2, 0, none⟩)), (2, .slice none 0 0), (3, .slice A0_3 n0_3 c0_3), (4, .int .i64 (((k : Nat) : Int) + 1)), (10, .bool true)] (fun U27 => ?_)
    refine h7 _ _ ?_
    refine wp_cond_true (by kernel_rfl) ?_
    refine wp_skip ?_
    refine h6 _ _ ?_
    refine wp_seq_k (fun K8 h8 => ?_)
    refine wp_block ?_
    refine wp_seq_k (fun K9 h9 => ?_)
    refine W.region_plain (row := none) [(0, false), (1, false), (2, true), (3, false)] (by kernel_rfl) ?_
    have s28 := SG.self wl0 none
    refine F.q (v := .agg #[.int .i64 m, .slice A n c]) (hr := (r_load2 rfl (ev_any (by kernel_rfl)) (by kernel_rfl) (by kernel_rfl) (sgS (blk_cell (j := 0) x6 (by kernel_rfl)) (Option.some_ne_none _)) (sgS (blk_cell (j := 1) x6 (by kernel_rfl)) (Option.some_ne_none _)))) (h := ?_)
    refine F.mv (v := .int .i64 (((k : Nat) : Int) + 1)) (h := ?_)
    have z34 := ((SG.belowR c25 s28 (fun kq e => by cases e))).size
    refine W.sc (vs := [.agg #[.int .i64 m, .slice A n c], .int .i64 (((k : Nat) : Int) + 1)]) rfl rfl (by kernel_rfl) (by kernel_rfl) (by kernel_rfl) rfl (reachedFrom_any m A n c ps (((k : Nat) : Int) + 1) _ (Rd.kept ha (SG.belowR c25 s28 (fun kq e => by cases e))) (by omega) hp hi0 (by omega) (by omega)) ?_
    rintro e w37 ⟨A29, n30, c31, rfl, ho32, b36⟩
    have s38 := SG.of_below s28 b36
    refine ⟨_, rfl, s38, ?_⟩
    refine F.nx ?_
    have ho39 := own_kept ho0_3 b36
    have tab40 := Tab.kept htab b36
    have hsx : ∀ (i : Nat) (u : Sv), vs[i]? = some u → NbR (.slice A29 n30 c31) u.val := fun i u hu j e1 e2 => by have h8 := (World.ownsRow.lt ho32 j e1).1; have h9 := (Tab.inlt htab hu j e2).2; omega
    have hox : NbR (.slice A29 n30 c31) (.slice A0_3 n0_3 c0_3) := fun j e1 e2 => by have h8 := (World.ownsRow.lt ho32 j e1).1; have h9 := (Tab.lt htab j e2).2; omega
    have ho33 := own_base (base' := w.heap.size) ho32 z34
    have hlr35 := rd_ints_len (own_rd ho33)
    have hrp := reach_pos (E := (joined ps)) (m := m.toNat) (b := (((k : Nat) : Int) + 1)) (by omega)
    have nb41 : Nb b2 (.slice A29 n30 c31) := nb_lo ho32 (Nat.lt_of_lt_of_le (blk_lt x6) (s28).size)
    have nr42 : NbR (.slice A29 n30 c31) (.slice A0_3 n0_3 c0_3) := fun j e1 e2 => by have h8 := (World.ownsRow.lt ho32 j e1).1; have h9 := (World.ownsRow.lt ho0_3 j e2).2; omega
    obtain ⟨g43, rfl, _, _⟩ := own_addr ho33 (by omega)
    refine F.as (v := .slice (some ⟨g43, 0, none⟩) n30 c31) (h := ?_)
    have tab44 := Tab.kept htab (SG.below s38)
    refine F.endF [(0, .agg #[.int .i64 m, .slice A n c]), (1, .pointer (some ⟨b2, 0, none⟩)), (2, .slice none 0 0), (3, .slice A0_3 n0_3 c0_3), (4, .int .i64 (((k : Nat) : Int) + 1)), (5, .slice (some ⟨g43, 0, none⟩) n30 c31), (10, .bool true)] (fun U45 => ?_)
    have x6 := SG.blk s38 x6 (Option.some_ne_none _)
    have c46 := (SG.belowR c25 s38 (fun kq e => by cases e))
    refine h9 _ _ ?_
    refine wp_seq_k (fun K10 h10 => ?_)
    refine W.region_quiet [(0, false), (1, false), (2, false), (3, false), (4, false)] (by kernel_rfl) ?_
    refine F.mv (v := .slice (some ⟨g43, 0, none⟩) n30 c31) (h := ?_)
    obtain ⟨x47, hx48⟩ := get_of (zs := (reachList (joined ps) m.toNat (((k : Nat) : Int) + 1))) (k := 0) (by omega)
    refine F.q (v := .pointer (some ⟨g43, 0, none⟩)) (hr := (r_idx0 (n := n30) (c := c31) (k := 0) rfl (ev_any (by kernel_rfl)) (by kernel_rfl) (by kernel_rfl) (by omega))) (h := ?_)
    refine F.ld (v := .int .i64 x47) (hc := (eqS (own_atI ho33 hx48))) (h := ?_)
    refine F.mv (v := .int .i64 (((k : Nat) : Int) + 1)) (h := ?_)
    by_cases q49 : (x47 : Int) = ((((k : Nat) : Int) + 1) : Int)
    · refine F.q (v := .bool true) (hr := (r_eql (m := x47) (n := (((k : Nat) : Int) + 1)) rfl (ev_any (by kernel_rfl)) (ev_any (by kernel_rfl)) (decide_eq_true q49))) (h := ?_)
      refine F.endF [(0, .agg #[.int .i64 m, .slice A n c]), (1, .pointer (some ⟨b2, 0, none⟩)), (2, .slice none 0 0), (3, .slice A0_3 n0_3 c0_3), (4, .int .i64 (((k : Nat) : Int) + 1)), (5, .slice (some ⟨g43, 0, none⟩) n30 c31), (10, .bool true), (20, .bool true)] (fun U50 => ?_)
      refine h10 _ _ ?_
      refine wp_cond_true (by kernel_rfl) ?_
      refine W.region_plain (row := (Value.ownBlock (.slice A0_3 n0_3 c0_3))) [(0, false), (1, false), (2, true), (3, true), (4, false)] (by kernel_rfl) ?_
      have s51 := SG.self w37 (Value.ownBlock (.slice A0_3 n0_3 c0_3))
      refine F.mv (v := .slice A0_3 n0_3 c0_3) (h := ?_)
      refine F.mv (v := .slice (some ⟨g43, 0, none⟩) n30 c31) (h := ?_)
      refine W.sn (fun b => .slice (some ⟨b, 0, none⟩) 1 1) #[.slice (some ⟨g43, 0, none⟩) n30 c31] 41 s51 rfl (by kernel_rfl) rfl (fun _ => by kernel_rfl) (fun b52 w53 hb54 k55 x56 s57 => ?_)
      refine F.nx ?_
      have lo58 : w.heap.size ≤ b52 := Nat.le_trans ((SG.belowR c46 s51 (fun kq e => (World.ownsRow.lt ho39 kq e).1))).size (Nat.le_of_eq hb54)
      have ne59 : b2 ≠ b52 := Nat.ne_of_lt (Nat.lt_of_lt_of_eq (Nat.lt_of_lt_of_le (blk_lt x6) (s51).size) hb54)
      have nb60 : Nb b52 (.slice A0_3 n0_3 c0_3) := nb_hi ho39 (Nat.le_of_eq hb54)
      have nb61 : Nb b52 (.slice (some ⟨g43, 0, none⟩) n30 c31) := nb_hi ho33 (Nat.le_of_eq hb54)
      have ho62 := own_kept ho39 k55
      have ho63 := own_kept ho33 k55
      have tab64 := Tab.kept tab44 k55
      refine W.sap (e := 41) (size := 1) (base := w.heap.size) (m := 1) (v := .slice A0_3 n0_3 c0_3) (c := 1) s57 rfl rfl rfl rfl (by kernel_rfl) (by kernel_rfl) (by kernel_rfl) ho62 x56 (by kernel_rfl) (by kernel_rfl) (by omega) (by omega) (by have := ((SG.belowR c46 s57 (fun kq e => (World.ownsRow.lt ho39 kq e).1))).size; omega) (.inl rfl) (fun g65 cap66 w67 ho68 hg69 hat70 hlt71 s72 => ?_)
      refine F.nx ?_
      have nb73 : Nb b2 (.slice (some ⟨g65, 0, none⟩) (n0_3 + 1) cap66) := nb_app nb0_3_b2 (Nat.lt_of_lt_of_le (blk_lt x6) (s57).size) hat70
      have nb74 : Nb b52 (.slice (some ⟨g65, 0, none⟩) (n0_3 + 1) cap66) := nb_app nb60 (blk_lt x56) hat70
      have x56 := (hg69.block _ (blk_lt x56) nb60).trans x56
      have ho68 := own_snocT (v := ⟨(some ⟨g43, 0, none⟩), n30, c31⟩) ho68
      have nr75 : NbR (.slice (some ⟨g65, 0, none⟩) (n0_3 + 1) cap66) (.slice (some ⟨g43, 0, none⟩) n30 c31) := nbr_app (NbR.symm nr42) (fun j h => (World.ownsRow.lt ho63 j h).2) (hat3 (v := .slice A0_3 n0_3 c0_3) hat70)
      have ho76 := own_grown ho63 hg69 nr42
      have tab77 := Tab.snoc' tab64 (v := ⟨(some ⟨g43, 0, none⟩), n30, c31⟩) ho63 hox hsx ho68 hg69 (hat3 (v := .slice A0_3 n0_3 c0_3) hat70)
      refine F.as (v := .slice (some ⟨g65, 0, none⟩) (n0_3 + 1) cap66) (h := ?_)
      refine F.endF [(0, .agg #[.int .i64 m, .slice A n c]), (1, .pointer (some ⟨b2, 0, none⟩)), (2, .slice none 0 0), (3, .slice (some ⟨g65, 0, none⟩) (n0_3 + 1) cap66), (4, .int .i64 (((k : Nat) : Int) + 1)), (5, .slice (some ⟨g43, 0, none⟩) n30 c31), (10, .bool true), (20, .bool true)] (fun U78 => ?_)
      have x6 := SG.blk s72 x6 nb0_3_b2
      have c79 := (SG.belowR c46 s72 (fun kq e => (World.ownsRow.lt ho39 kq e).1))
      refine h8 _ _ ?_
      refine W.region_quiet [(0, false), (1, false), (2, false)] (by kernel_rfl) ?_
      refine F.mv (v := .int .i64 (((k : Nat) : Int) + 1)) (h := ?_)
      refine F.q (v := .int .i64 (((k + 1 : Nat) : Int) + 1)) (hr := (r_add (m := (((k : Nat) : Int) + 1)) (n := 1) (z := (((k + 1 : Nat) : Int) + 1)) rfl (ev_any (by kernel_rfl)) (ev_any (by kernel_rfl)) (by omega) (by omega))) (h := ?_)
      refine F.as (v := .int .i64 (((k + 1 : Nat) : Int) + 1)) (h := ?_)
      refine F.endF [(0, .agg #[.int .i64 m, .slice A n c]), (1, .pointer (some ⟨b2, 0, none⟩)), (2, .slice none 0 0), (3, .slice (some ⟨g65, 0, none⟩) (n0_3 + 1) cap66), (4, .int .i64 (((k + 1 : Nat) : Int) + 1)), (5, .slice (some ⟨g43, 0, none⟩) n30 c31), (10, .bool true), (20, .bool true)] (fun U80 => ?_)
      exact h5 _ _ _ (by omega : (m.toNat - (k + 1)) < _) ⟨k + 1, (vs ++ [⟨(some ⟨g43, 0, none⟩), n30, c31⟩]), (some ⟨g65, 0, none⟩), (n0_3 + 1), cap66, (fun iU9 => lk [(0, .agg #[.int .i64 m, .slice A n c]), (1, .pointer (some ⟨b2, 0, none⟩)), (2, .slice none 0 0), (3, .slice (some ⟨g65, 0, none⟩) (n0_3 + 1) cap66), (4, .int .i64 (((k + 1 : Nat) : Int) + 1)), (5, .slice (some ⟨g43, 0, none⟩) n30 c31), (10, .bool true), (20, .bool true)] iU9 (U80 iU9)), (by kernel_rfl), rfl, (by omega), (by rw [parts_yes hx48 q49]; exact tab77), x6, ho68, nb73, c79⟩
    · refine F.q (v := .bool false) (hr := (r_eql (m := x47) (n := (((k : Nat) : Int) + 1)) rfl (ev_any (by kernel_rfl)) (ev_any (by kernel_rfl)) (decide_eq_false q49))) (h := ?_)
      refine F.endF [(0, .agg #[.int .i64 m, .slice A n c]), (1, .pointer (some ⟨b2, 0, none⟩)), (2, .slice none 0 0), (3, .slice A0_3 n0_3 c0_3), (4, .int .i64 (((k : Nat) : Int) + 1)), (5, .slice (some ⟨g43, 0, none⟩) n30 c31), (10, .bool true), (20, .bool false)] (fun U81 => ?_)
      refine h10 _ _ ?_
      refine wp_cond_false (by kernel_rfl) ?_
      refine wp_skip ?_
      refine h8 _ _ ?_
      refine W.region_quiet [(0, false), (1, false), (2, false)] (by kernel_rfl) ?_
      refine F.mv (v := .int .i64 (((k : Nat) : Int) + 1)) (h := ?_)
      refine F.q (v := .int .i64 (((k + 1 : Nat) : Int) + 1)) (hr := (r_add (m := (((k : Nat) : Int) + 1)) (n := 1) (z := (((k + 1 : Nat) : Int) + 1)) rfl (ev_any (by kernel_rfl)) (ev_any (by kernel_rfl)) (by omega) (by omega))) (h := ?_)
      refine F.as (v := .int .i64 (((k + 1 : Nat) : Int) + 1)) (h := ?_)
      refine F.endF [(0, .agg #[.int .i64 m, .slice A n c]), (1, .pointer (some ⟨b2, 0, none⟩)), (2, .slice none 0 0), (3, .slice A0_3 n0_3 c0_3), (4, .int .i64 (((k + 1 : Nat) : Int) + 1)), (5, .slice (some ⟨g43, 0, none⟩) n30 c31), (10, .bool true), (20, .bool false)] (fun U82 => ?_)
      exact h5 _ _ _ (by omega : (m.toNat - (k + 1)) < _) ⟨k + 1, vs, A0_3, n0_3, c0_3, (fun iU9 => lk [(0, .agg #[.int .i64 m, .slice A n c]), (1, .pointer (some ⟨b2, 0, none⟩)), (2, .slice none 0 0), (3, .slice A0_3 n0_3 c0_3), (4, .int .i64 (((k + 1 : Nat) : Int) + 1)), (5, .slice (some ⟨g43, 0, none⟩) n30 c31), (10, .bool true), (20, .bool false)] iU9 (U82 iU9)), (by kernel_rfl), rfl, (by omega), (by rw [parts_no hx48 q49]; exact tab44), x6, ho39, nb0_3_b2, c46⟩
  · refine F.q (v := .bool false) (hr := (r_leq (m := (((k : Nat) : Int) + 1)) (n := m) rfl (ev_any (by kernel_rfl)) (ev_any (by kernel_rfl)) (decide_eq_false q26))) (h := ?_)
    refine F.endF [(0, .agg #[.int .i64 m, .slice A n c]), (1, .pointer (some ⟨b2, 0, none⟩)), (2, .slice none 0 0), (3, .slice A0_3 n0_3 c0_3), (4, .int .i64 (((k : Nat) : Int) + 1)), (10, .bool false)] (fun U83 => ?_)
    refine h7 _ _ ?_
    refine wp_cond_false (by kernel_rfl) ?_
    refine wp_exit ?_
    refine h3 _ _ ?_
    refine wp_seq_k (fun K11 h11 => ?_)
    refine W.region_quiet [(0, false), (1, false)] (by kernel_rfl) ?_
    refine F.mv (v := .slice A0_3 n0_3 c0_3) (h := ?_)
    refine F.as (v := .slice A0_3 n0_3 c0_3) (h := ?_)
    refine F.endF [(0, .agg #[.int .i64 m, .slice A n c]), (1, .pointer (some ⟨b2, 0, none⟩)), (2, .slice A0_3 n0_3 c0_3), (3, .slice A0_3 n0_3 c0_3), (4, .int .i64 (((k : Nat) : Int) + 1)), (10, .bool false)] (fun U84 => ?_)
    refine h11 _ _ ?_
    refine wp_ret ?_
    try simp only [Exit.then]
    refine ret1 (v := .slice A0_3 n0_3 c0_3) rfl (by kernel_rfl) ?_
    obtain rfl : k = m.toNat := by omega
    exact ⟨_, _, _, vs, rfl, htab, c25⟩

set_option maxRecDepth 100000 in
set_option maxHeartbeats 8000000 in
theorem NetworkParts_spec (m : Int) (A : Option Addr) (n c : Nat) (ps : List Pp) (w : World) (ha : Rd w 4 A n (pipesV ps)) (hn : n ≤ 1048576) :
    Calls Try.prog 7 #[.agg #[.int .i64 m, .slice A n c]] w fun e w' => ∃ A' d vs, e = .returned (.tuple #[.slice A' (NetworkParts_v0 m ps).length d, .bool (NetworkParts_v1 m ps)]) ∧ RdT w' A' (NetworkParts_v0 m ps).length vs (NetworkParts_v0 m ps) ∧ Below w.heap.size w w' := by
  have hl := rd_pipes_len ha
  go_enter Try.func7, Try.ntmps7
  refine wp_seq_k (fun K1 h1 => ?_)
  refine W.region_plain (row := none) [(0, true), (1, false), (2, false)] (by kernel_rfl) ?_
  have s1 := SG.self w none
  refine W.sn (fun b => .pointer (some ⟨b, 0, none⟩)) #[.int .i64 m, .slice A n c] 31 s1 rfl (by kernel_rfl) rfl (fun _ => by kernel_rfl) (fun b2 w3 hb4 k5 x6 s7 => ?_)
  have lo8 : w.heap.size ≤ b2 := Nat.le_trans ((SG.belowR (Below.refl _ _) s1 (fun kq e => by cases e))).size (Nat.le_of_eq hb4)
  refine W.as (v := .slice none 0 0) (h := ?_)
  refine W.as (v := .bool false) (h := ?_)
  refine W.endF 31 [(0, .agg #[.int .i64 m, .slice A n c]), (1, .pointer (some ⟨b2, 0, none⟩)), (2, .slice none 0 0), (3, .bool false)] (fun U9 => ?_)
  have c10 := (SG.belowR (Below.refl _ _) s7 (fun kq e => by cases e))
  refine h1 _ _ ?_
  refine wp_seq_k (fun K2 h2 => ?_)
  refine W.region_plain (row := none) [(0, true), (1, false)] (by kernel_rfl) ?_
  have s11 := SG.self w3 none
  refine W.sn (fun b => .slice (some ⟨b, 0, none⟩) 0 0) #[] 41 s11 rfl (by kernel_rfl) rfl (fun _ => by kernel_rfl) (fun b12 w13 hb14 k15 x16 s17 => ?_)
  refine F.nx ?_
  have lo18 : w.heap.size ≤ b12 := Nat.le_trans ((SG.belowR c10 s11 (fun kq e => by cases e))).size (Nat.le_of_eq hb14)
  have ne19 : b2 ≠ b12 := Nat.ne_of_lt (Nat.lt_of_lt_of_eq (Nat.lt_of_lt_of_le (blk_lt x6) (s11).size) hb14)
  refine F.as (v := .slice (some ⟨b12, 0, none⟩) 0 0) (h := ?_)
  refine F.endF [(0, .agg #[.int .i64 m, .slice A n c]), (1, .pointer (some ⟨b2, 0, none⟩)), (2, .slice none 0 0), (3, .bool false), (4, .slice (some ⟨b12, 0, none⟩) 0 0)] (fun U20 => ?_)
  have x6 := SG.blk s17 x6 (Option.some_ne_none _)
  have c21 := (SG.belowR c10 s17 (fun kq e => by cases e))
  refine h2 _ _ ?_
  refine wp_seq_k (fun K3 h3 => ?_)
  refine wp_seq_k (fun K4 h4 => ?_)
  refine W.region_plain (row := none) [(0, false), (1, true), (2, false)] (by kernel_rfl) ?_
  have s22 := SG.self w13 none
  refine F.q (v := .agg #[.int .i64 m, .slice A n c]) (hr := (r_load2 rfl (ev_any (by kernel_rfl)) (by kernel_rfl) (by kernel_rfl) (sgS (blk_cell (j := 0) x6 (by kernel_rfl)) (Option.some_ne_none _)) (sgS (blk_cell (j := 1) x6 (by kernel_rfl)) (Option.some_ne_none _)))) (h := ?_)
  refine W.sc (vs := [.agg #[.int .i64 m, .slice A n c]]) rfl rfl (by kernel_rfl) (by kernel_rfl) (by kernel_rfl) rfl (l2Good_any m A n c ps _ (Rd.kept ha (SG.belowR c21 s22 (fun kq e => by cases e))) (by omega)) ?_
  rintro e w24 ⟨rfl, b23⟩
  have s25 := SG.of_below s22 b23
  refine ⟨_, rfl, s25, ?_⟩
  refine F.nx ?_
  rcases Bool.eq_false_or_eq_true (goodN m ps) with q26 | q26
  · rw [q26]
    have hg := good_of q26
    have hgl := hg.lo
    have hgh := hg.hi
    have hp := hg.pipesIn
    have hi0 := fun p (h9 : p ∈ ps) => (hg.pipe h9).1.1
    have hrise := hg.rise
    refine F.q (v := .bool false) (hr := (r_not (b := true) rfl (ev_any (by kernel_rfl)) rfl)) (h := ?_)
    refine F.endF [(0, .agg #[.int .i64 m, .slice A n c]), (1, .pointer (some ⟨b2, 0, none⟩)), (2, .slice none 0 0), (3, .bool false), (4, .slice (some ⟨b12, 0, none⟩) 0 0), (10, .bool false)] (fun U27 => ?_)
    have x6 := SG.blk s25 x6 (Option.some_ne_none _)
    have x16 := SG.blk s25 x16 (Option.some_ne_none _)
    have c28 := (SG.belowR c21 s25 (fun kq e => by cases e))
    refine h4 _ _ ?_
    refine wp_cond_false (by kernel_rfl) ?_
    refine wp_skip ?_
    refine h3 _ _ ?_
    refine wp_seq_k (fun K5 h5 => ?_)
    refine wp_seq_k (fun K6 h6 => ?_)
    refine W.region_quiet [(0, false)] (by kernel_rfl) ?_
    refine F.as (v := .int .i64 1) (h := ?_)
    refine F.endF [(0, .agg #[.int .i64 m, .slice A n c]), (1, .pointer (some ⟨b2, 0, none⟩)), (2, .slice none 0 0), (3, .bool false), (4, .slice (some ⟨b12, 0, none⟩) 0 0), (5, .int .i64 1), (10, .bool false)] (fun U29 => ?_)
    refine h6 _ _ ?_
    refine wp_block ?_
    have ho30 := own_empty (base := w.heap.size) (size := 1) x16 lo18
    replace ho30 : World.ownsRow _ _ _ _ _ _ (svV []) := ho30
    have nb31 : Nb b2 (.slice (some ⟨b12, 0, none⟩) 0 0) := nb_new ne19
    refine loopK (fun am0 aa0 wl0 => ∃ (k : Nat) (vs : List Sv) (A0_4 : Option Addr) (n0_4 : Nat) (c0_4 : Nat) (U0 : Nat → Value), aa0 = ⟨(fr U0 [(0, .agg #[.int .i64 m, .slice A n c]), (1, .pointer (some ⟨b2, 0, none⟩)), (2, .slice none 0 0), (3, .bool false), (4, .slice A0_4 n0_4 c0_4), (5, .int .i64 (((k : Nat) : Int) + 1)), (10, .bool false)] 31 0).toArray, []⟩ ∧ (am0 = m.toNat - k) ∧ (k ≤ m.toNat) ∧ (TabR wl0 w.heap.size 41 A0_4 n0_4 c0_4 vs (partsTo (joined ps) m.toNat k)) ∧ (wl0.heap[b2]? = some (.cells #[.int .i64 m, .slice A n c] 31 (0, 0))) ∧ (wl0.ownsRow w.heap.size 41 1 (.slice A0_4 n0_4 c0_4) n0_4 (svV vs)) ∧ (Nb b2 (.slice A0_4 n0_4 c0_4)) ∧ (Below w.heap.size w wl0)) (m.toNat - 0) ?_ ?_
    · exact ⟨0, [], (some ⟨b12, 0, none⟩), 0, 0, (fun iU9 => lk [(0, .agg #[.int .i64 m, .slice A n c]), (1, .pointer (some ⟨b2, 0, none⟩)), (2, .slice none 0 0), (3, .bool false), (4, .slice (some ⟨b12, 0, none⟩) 0 0), (5, .int .i64 1), (10, .bool false)] iU9 (U29 iU9)), (by kernel_rfl), rfl, (Nat.zero_le _), (TabR.none ho30 rfl), x6, ho30, nb31, c28⟩
    rintro am0 aa0 wl0 K7 h7 ⟨k, vs, A0_4, n0_4, c0_4, U0, rfl, rfl, hk, htab, x6, ho0_4, nb0_4_b2, c32⟩
    have htl := parts_len (E := joined ps) (m := m.toNat) k
    have htl2 := (htab.rd).size
    refine wp_seq_k (fun K8 h8 => ?_)
    refine wp_seq_k (fun K9 h9 => ?_)
    refine W.region_quiet [(0, false), (1, false), (2, false), (3, false)] (by kernel_rfl) ?_
    refine F.mv (v := .int .i64 (((k : Nat) : Int) + 1)) (h := ?_)
    refine F.q (v := .pointer (some ⟨b2, 0, none⟩)) (hr := (r_field0 rfl (ev_any (by kernel_rfl)) (by kernel_rfl))) (h := ?_)
    refine F.ld (v := .int .i64 m) (hc := (eqS (blk_cell (j := 0) x6 (by kernel_rfl)))) (h := ?_)
    by_cases q33 : ((((k : Nat) : Int) + 1) : Int) ≤ (m : Int)
    · refine F.q (v := .bool true) (hr := (r_leq (m := (((k : Nat) : Int) + 1)) (n := m) rfl (ev_any (by kernel_rfl)) (ev_any (by kernel_rfl)) (decide_eq_true q33))) (h := ?_)
      refine F.endF [(0, .agg #[.int .i64 m, .slice A n c]), (1, .pointer (some ⟨b2, 0, none⟩)), (2, .slice none 0 0), (3, .bool false), (4, .slice A0_4 n0_4 c0_4), (5, .int .i64 (((k : Nat) : Int) + 1)), (10, .bool false), (15, .bool true)] (fun U34 => ?_)
      refine h9 _ _ ?_
      refine wp_cond_true (by kernel_rfl) ?_
      refine wp_skip ?_
      refine h8 _ _ ?_
      refine wp_seq_k (fun K10 h10 => ?_)
      refine wp_block ?_
      refine wp_seq_k (fun K11 h11 => ?_)
      refine W.region_plain (row := none) [(0, false), (1, false), (2, true), (3, false)] (by kernel_rfl) ?_
      have s35 := SG.self wl0 none
      refine F.q (v := .agg #[.int .i64 m, .slice A n c]) (hr := (r_load2 rfl (ev_any (by kernel_rfl)) (by kernel_rfl) (by kernel_rfl) (sgS (blk_cell (j := 0) x6 (by kernel_rfl)) (Option.some_ne_none _)) (sgS (blk_cell (j := 1) x6 (by kernel_rfl)) (Option.some_ne_none _)))) (h := ?_)
      refine F.mv (v := .int .i64 (((k : Nat) : Int) + 1)) (h := ?_)
      have hlt9 := fun j e => (World.ownsRow.lt (htab).out j e).2
      refine W.sc (vs := [.agg #[.int .i64 m, .slice A n c], .int .i64 (((k : Nat) : Int) + 1)]) rfl rfl (by kernel_rfl) (by kernel_rfl) (by kernel_rfl) rfl (l2Reached_fr m A n c ps (((k : Nat) : Int) + 1) _ (Rd.kept ha (SG.belowR c32 s35 (fun kq e => by cases e))) (by omega) hp (by omega) (by omega)) ?_
      rintro e w45 ⟨A36, n37, c38, rfl, rd39, fm40, fr43, b44⟩
      have s46 := SG.of_below s35 b44
      refine ⟨_, rfl, s46, ?_⟩
      refine F.nx ?_
      have ho47 := own_kept ho0_4 b44
      have tab48 := TabR.kept htab b44
      have hl41 := rd_ints_len rd39
      have hrp := reach_pos (E := (joined ps)) (m := m.toNat) (b := (((k : Nat) : Int) + 1)) (by omega)
      have hspx : Sp A36 n37 (Value.ownBlock (.slice A0_4 n0_4 c0_4)) := fun hn9 b9 off9 e1 e2 => by have h8 := fr43 b9 off9 e1; have h9 := hlt9 b9 e2.symm; omega
      refine F.as (v := .slice A36 n37 c38) (h := ?_)
      have tab49 := TabR.kept htab (SG.below s46)
      refine F.endF [(0, .agg #[.int .i64 m, .slice A n c]), (1, .pointer (some ⟨b2, 0, none⟩)), (2, .slice none 0 0), (3, .bool false), (4, .slice A0_4 n0_4 c0_4), (5, .int .i64 (((k : Nat) : Int) + 1)), (6, .slice A36 n37 c38), (10, .bool false), (15, .bool true)] (fun U50 => ?_)
      have x6 := SG.blk s46 x6 (Option.some_ne_none _)
      have c51 := (SG.belowR c32 s46 (fun kq e => by cases e))
      refine h11 _ _ ?_
      refine wp_seq_k (fun K12 h12 => ?_)
      refine W.region_quiet [(0, false), (1, false), (2, false), (3, false), (4, false)] (by kernel_rfl) ?_
      refine F.mv (v := .slice A36 n37 c38) (h := ?_)
      obtain ⟨x52, hx53⟩ := get_of (zs := reachList (joined ps) m.toNat (((k : Nat) : Int) + 1)) (k := 0) (by have := hl41; omega)
      obtain ⟨b54, o55, hA56, hb57, hc58⟩ := Rd.elInt rd39 hx53
      refine F.q (v := .pointer (some ⟨b54, o55 + 0, none⟩)) (hr := (r_idx1 (n := n37) (c := c38) (k := 0) rfl (ev_any (by kernel_rfl)) hA56 (by kernel_rfl) (by kernel_rfl) (by have := hl41; omega))) (h := ?_)
      refine F.ld (v := .int .i64 x52) (hc := (eqS hc58)) (h := ?_)
      refine F.mv (v := .int .i64 (((k : Nat) : Int) + 1)) (h := ?_)
      by_cases q59 : (x52 : Int) = ((((k : Nat) : Int) + 1) : Int)
      · refine F.q (v := .bool true) (hr := (r_eql (m := x52) (n := (((k : Nat) : Int) + 1)) rfl (ev_any (by kernel_rfl)) (ev_any (by kernel_rfl)) (decide_eq_true q59))) (h := ?_)
        refine F.endF [(0, .agg #[.int .i64 m, .slice A n c]), (1, .pointer (some ⟨b2, 0, none⟩)), (2, .slice none 0 0), (3, .bool false), (4, .slice A0_4 n0_4 c0_4), (5, .int .i64 (((k : Nat) : Int) + 1)), (6, .slice A36 n37 c38), (10, .bool false), (15, .bool true), (25, .bool true)] (fun U60 => ?_)
        refine h12 _ _ ?_
        refine wp_cond_true (by kernel_rfl) ?_
        refine W.region_plain (row := (Value.ownBlock (.slice A0_4 n0_4 c0_4))) [(0, false), (1, false), (2, true), (3, true), (4, false)] (by kernel_rfl) ?_
        have s61 := SG.self w45 (Value.ownBlock (.slice A0_4 n0_4 c0_4))
        refine F.mv (v := .slice A0_4 n0_4 c0_4) (h := ?_)
        refine F.mv (v := .slice A36 n37 c38) (h := ?_)
        refine W.sn (fun b => .slice (some ⟨b, 0, none⟩) 1 1) #[.slice A36 n37 c38] 41 s61 rfl (by kernel_rfl) rfl (fun _ => by kernel_rfl) (fun b62 w63 hb64 k65 x66 s67 => ?_)
        refine F.nx ?_
        have lo68 : w.heap.size ≤ b62 := Nat.le_trans ((SG.belowR c51 s61 (fun kq e => (World.ownsRow.lt ho47 kq e).1))).size (Nat.le_of_eq hb64)
        have sp69 : Sp A36 n37 (some b62) := sp_new rd39 (by have := (s61).size; have := hb64; omega)
        have ne70 : b2 ≠ b62 := Nat.ne_of_lt (Nat.lt_of_lt_of_eq (Nat.lt_of_lt_of_le (blk_lt x6) (s61).size) hb64)
        have nb71 : Nb b62 (.slice A0_4 n0_4 c0_4) := nb_hi ho47 (Nat.le_of_eq hb64)
        have ho72 := own_kept ho47 k65
        have tab73 := TabR.kept tab49 k65
        refine W.sap (e := 41) (size := 1) (base := w.heap.size) (m := 1) (v := .slice A0_4 n0_4 c0_4) (c := 1) s67 rfl rfl rfl rfl (by kernel_rfl) (by kernel_rfl) (by kernel_rfl) ho72 x66 (by kernel_rfl) (by kernel_rfl) (by omega) (by omega) (by have := ((SG.belowR c51 s67 (fun kq e => (World.ownsRow.lt ho47 kq e).1))).size; omega) (.inl rfl) (fun g74 cap75 w76 ho77 hg78 hat79 hlt80 s81 => ?_)
        refine F.nx ?_
        have nb82 : Nb b2 (.slice (some ⟨g74, 0, none⟩) (n0_4 + 1) cap75) := nb_app nb0_4_b2 (Nat.lt_of_lt_of_le (blk_lt x6) (s67).size) hat79
        have nb83 : Nb b62 (.slice (some ⟨g74, 0, none⟩) (n0_4 + 1) cap75) := nb_app nb71 (blk_lt x66) hat79
        have x66 := (hg78.block _ (blk_lt x66) nb71).trans x66
        have ho77 := own_snocT (v := ⟨A36, n37, c38⟩) ho77
        have sp84 := sp_app (v' := .slice (some ⟨g74, 0, none⟩) (n0_4 + 1) cap75) hspx rd39 ((s67).size) (hat3 (v := .slice A0_4 n0_4 c0_4) hat79)
        have tab85 := TabR.snoc tab73 (v := ⟨A36, n37, c38⟩) (rd_sep rd39 s67 hspx) hspx ho77 hg78 (hat3 (v := .slice A0_4 n0_4 c0_4) hat79)
        refine F.as (v := .slice (some ⟨g74, 0, none⟩) (n0_4 + 1) cap75) (h := ?_)
        refine F.endF [(0, .agg #[.int .i64 m, .slice A n c]), (1, .pointer (some ⟨b2, 0, none⟩)), (2, .slice none 0 0), (3, .bool false), (4, .slice (some ⟨g74, 0, none⟩) (n0_4 + 1) cap75), (5, .int .i64 (((k : Nat) : Int) + 1)), (6, .slice A36 n37 c38), (10, .bool false), (15, .bool true), (25, .bool true)] (fun U86 => ?_)
        have x6 := SG.blk s81 x6 nb0_4_b2
        have c87 := (SG.belowR c51 s81 (fun kq e => (World.ownsRow.lt ho47 kq e).1))
        have rd88 := rd_sep rd39 s81 hspx
        refine h10 _ _ ?_
        refine W.region_quiet [(0, false), (1, false), (2, false)] (by kernel_rfl) ?_
        refine F.mv (v := .int .i64 (((k : Nat) : Int) + 1)) (h := ?_)
        refine F.q (v := .int .i64 (((k + 1 : Nat) : Int) + 1)) (hr := (r_add (m := (((k : Nat) : Int) + 1)) (n := 1) (z := (((k + 1 : Nat) : Int) + 1)) rfl (ev_any (by kernel_rfl)) (ev_any (by kernel_rfl)) (by omega) (by omega))) (h := ?_)
        refine F.as (v := .int .i64 (((k + 1 : Nat) : Int) + 1)) (h := ?_)
        refine F.endF [(0, .agg #[.int .i64 m, .slice A n c]), (1, .pointer (some ⟨b2, 0, none⟩)), (2, .slice none 0 0), (3, .bool false), (4, .slice (some ⟨g74, 0, none⟩) (n0_4 + 1) cap75), (5, .int .i64 (((k + 1 : Nat) : Int) + 1)), (6, .slice A36 n37 c38), (10, .bool false), (15, .bool true), (25, .bool true)] (fun U89 => ?_)
        exact h7 _ _ _ (by omega : (m.toNat - (k + 1)) < _) ⟨k + 1, (vs ++ [⟨A36, n37, c38⟩]), (some ⟨g74, 0, none⟩), (n0_4 + 1), cap75, (fun iU9 => lk [(0, .agg #[.int .i64 m, .slice A n c]), (1, .pointer (some ⟨b2, 0, none⟩)), (2, .slice none 0 0), (3, .bool false), (4, .slice (some ⟨g74, 0, none⟩) (n0_4 + 1) cap75), (5, .int .i64 (((k + 1 : Nat) : Int) + 1)), (6, .slice A36 n37 c38), (10, .bool false), (15, .bool true), (25, .bool true)] iU9 (U89 iU9)), (by kernel_rfl), rfl, (by omega), (by rw [parts_yes hx53 q59]; exact tab85), x6, ho77, nb82, c87⟩
      · refine F.q (v := .bool false) (hr := (r_eql (m := x52) (n := (((k : Nat) : Int) + 1)) rfl (ev_any (by kernel_rfl)) (ev_any (by kernel_rfl)) (decide_eq_false q59))) (h := ?_)
        refine F.endF [(0, .agg #[.int .i64 m, .slice A n c]), (1, .pointer (some ⟨b2, 0, none⟩)), (2, .slice none 0 0), (3, .bool false), (4, .slice A0_4 n0_4 c0_4), (5, .int .i64 (((k : Nat) : Int) + 1)), (6, .slice A36 n37 c38), (10, .bool false), (15, .bool true), (25, .bool false)] (fun U90 => ?_)
        refine h12 _ _ ?_
        refine wp_cond_false (by kernel_rfl) ?_
        refine wp_skip ?_
        refine h10 _ _ ?_
        refine W.region_quiet [(0, false), (1, false), (2, false)] (by kernel_rfl) ?_
        refine F.mv (v := .int .i64 (((k : Nat) : Int) + 1)) (h := ?_)
        refine F.q (v := .int .i64 (((k + 1 : Nat) : Int) + 1)) (hr := (r_add (m := (((k : Nat) : Int) + 1)) (n := 1) (z := (((k + 1 : Nat) : Int) + 1)) rfl (ev_any (by kernel_rfl)) (ev_any (by kernel_rfl)) (by omega) (by omega))) (h := ?_)
        refine F.as (v := .int .i64 (((k + 1 : Nat) : Int) + 1)) (h := ?_)
        refine F.endF [(0, .agg #[.int .i64 m, .slice A n c]), (1, .pointer (some ⟨b2, 0, none⟩)), (2, .slice none 0 0), (3, .bool false), (4, .slice A0_4 n0_4 c0_4), (5, .int .i64 (((k + 1 : Nat) : Int) + 1)), (6, .slice A36 n37 c38), (10, .bool false), (15, .bool true), (25, .bool false)] (fun U91 => ?_)
        exact h7 _ _ _ (by omega : (m.toNat - (k + 1)) < _) ⟨k + 1, vs, A0_4, n0_4, c0_4, (fun iU9 => lk [(0, .agg #[.int .i64 m, .slice A n c]), (1, .pointer (some ⟨b2, 0, none⟩)), (2, .slice none 0 0), (3, .bool false), (4, .slice A0_4 n0_4 c0_4), (5, .int .i64 (((k + 1 : Nat) : Int) + 1)), (6, .slice A36 n37 c38), (10, .bool false), (15, .bool true), (25, .bool false)] iU9 (U91 iU9)), (by kernel_rfl), rfl, (by omega), (by rw [parts_no hx53 q59]; exact tab49), x6, ho47, nb0_4_b2, c51⟩
    · refine F.q (v := .bool false) (hr := (r_leq (m := (((k : Nat) : Int) + 1)) (n := m) rfl (ev_any (by kernel_rfl)) (ev_any (by kernel_rfl)) (decide_eq_false q33))) (h := ?_)
      refine F.endF [(0, .agg #[.int .i64 m, .slice A n c]), (1, .pointer (some ⟨b2, 0, none⟩)), (2, .slice none 0 0), (3, .bool false), (4, .slice A0_4 n0_4 c0_4), (5, .int .i64 (((k : Nat) : Int) + 1)), (10, .bool false), (15, .bool false)] (fun U92 => ?_)
      refine h9 _ _ ?_
      refine wp_cond_false (by kernel_rfl) ?_
      refine wp_exit ?_
      refine h5 _ _ ?_
      refine wp_seq_k (fun K13 h13 => ?_)
      refine W.region_quiet [(0, false), (1, false), (2, false)] (by kernel_rfl) ?_
      refine F.mv (v := .slice A0_4 n0_4 c0_4) (h := ?_)
      refine F.as (v := .slice A0_4 n0_4 c0_4) (h := ?_)
      refine F.as (v := .bool true) (h := ?_)
      refine F.endF [(0, .agg #[.int .i64 m, .slice A n c]), (1, .pointer (some ⟨b2, 0, none⟩)), (2, .slice A0_4 n0_4 c0_4), (3, .bool true), (4, .slice A0_4 n0_4 c0_4), (5, .int .i64 (((k : Nat) : Int) + 1)), (10, .bool false), (15, .bool false)] (fun U93 => ?_)
      refine h13 _ _ ?_
      refine wp_ret ?_
      try simp only [Exit.then]
      refine ret2 (v := .slice A0_4 n0_4 c0_4) (x := .bool true) rfl (by kernel_rfl) (by kernel_rfl) ?_
      obtain rfl : k = m.toNat := by omega
      have e8 : NetworkParts_v0 m ps = partsTo (joined ps) m.toNat m.toNat := by unfold NetworkParts_v0; rw [if_pos q26]
      have hn8 : n0_4 = (partsTo (joined ps) m.toNat m.toNat).length := by have := (htab).rd.size; omega
      exact ⟨_, _, vs, by rw [e8, ← hn8]; unfold NetworkParts_v1; rw [q26], by rw [e8, ← hn8]; exact (htab).rd, c32⟩
  · rw [q26]
    refine F.q (v := .bool true) (hr := (r_not (b := false) rfl (ev_any (by kernel_rfl)) rfl)) (h := ?_)
    refine F.endF [(0, .agg #[.int .i64 m, .slice A n c]), (1, .pointer (some ⟨b2, 0, none⟩)), (2, .slice none 0 0), (3, .bool false), (4, .slice (some ⟨b12, 0, none⟩) 0 0), (10, .bool true)] (fun U94 => ?_)
    have x6 := SG.blk s25 x6 (Option.some_ne_none _)
    have x16 := SG.blk s25 x16 (Option.some_ne_none _)
    have c95 := (SG.belowR c21 s25 (fun kq e => by cases e))
    refine h4 _ _ ?_
    refine wp_cond_true (by kernel_rfl) ?_
    refine wp_seq_k (fun K14 h14 => ?_)
    refine W.region_quiet [(0, false), (1, false), (2, false)] (by kernel_rfl) ?_
    refine F.mv (v := .slice (some ⟨b12, 0, none⟩) 0 0) (h := ?_)
    refine F.as (v := .slice (some ⟨b12, 0, none⟩) 0 0) (h := ?_)
    refine F.as (v := .bool false) (h := ?_)
    refine F.endF [(0, .agg #[.int .i64 m, .slice A n c]), (1, .pointer (some ⟨b2, 0, none⟩)), (2, .slice (some ⟨b12, 0, none⟩) 0 0), (3, .bool false), (4, .slice (some ⟨b12, 0, none⟩) 0 0), (10, .bool true)] (fun U96 => ?_)
    refine h14 _ _ ?_
    refine wp_ret ?_
    try simp only [Exit.then]
    refine ret2 (v := .slice (some ⟨b12, 0, none⟩) 0 0) (x := .bool false) rfl (by kernel_rfl) (by kernel_rfl) ?_
    have e8 : NetworkParts_v0 m ps = [] := by unfold NetworkParts_v0; rw [if_neg (by rw [q26]; simp)]
    have ho97 := own_empty (base := w.heap.size) (size := 1) x16 lo18
    replace ho97 : World.ownsRow _ _ _ _ _ _ (svV []) := ho97
    have nb98 : Nb b2 (.slice (some ⟨b12, 0, none⟩) 0 0) := nb_new ne19
    exact ⟨(some ⟨b12, 0, none⟩), 0, [], by rw [e8]; unfold NetworkParts_v1; rw [q26]; rfl, by rw [e8]; exact (TabR.none ho97 rfl).rd, c95⟩

set_option maxRecDepth 100000 in
set_option maxHeartbeats 8000000 in
theorem NetworkParts_impl (m : Int) (A : Option Addr) (n c : Nat) (ps : List Pp) (w : World) (ha : Rd w 4 A n (pipesV ps)) (hn : n ≤ 1048576) :
    Calls Try.prog 9 #[.agg #[.int .i64 m, .slice A n c]] w fun e w' => ∃ A' d vs, e = .returned (.tuple #[.slice A' (NetworkParts_v0 m ps).length d, .bool (NetworkParts_v1 m ps)]) ∧ Tab w' w.heap.size 41 3 A' (NetworkParts_v0 m ps).length d vs (NetworkParts_v0 m ps) ∧ Below w.heap.size w w' := by
  have hl := rd_pipes_len ha
  go_enter Try.func9, Try.ntmps9
  refine wp_seq_k (fun K1 h1 => ?_)
  refine W.region_plain (row := none) [(0, true), (1, false), (2, false)] (by kernel_rfl) ?_
  have s1 := SG.self w none
  refine W.sn (fun b => .pointer (some ⟨b, 0, none⟩)) #[.int .i64 m, .slice A n c] 31 s1 rfl (by kernel_rfl) rfl (fun _ => by kernel_rfl) (fun b2 w3 hb4 k5 x6 s7 => ?_)
  have lo8 : w.heap.size ≤ b2 := Nat.le_trans ((SG.belowR (Below.refl _ _) s1 (fun kq e => by cases e))).size (Nat.le_of_eq hb4)
  refine W.as (v := .slice none 0 0) (h := ?_)
  refine W.as (v := .bool false) (h := ?_)
  refine W.endF 9 [(0, .agg #[.int .i64 m, .slice A n c]), (1, .pointer (some ⟨b2, 0, none⟩)), (2, .slice none 0 0), (3, .bool false)] (fun U9 => ?_)
  have c10 := (SG.belowR (Below.refl _ _) s7 (fun kq e => by cases e))
  refine h1 _ _ ?_
  refine wp_seq_k (fun K2 h2 => ?_)
  refine wp_seq_k (fun K3 h3 => ?_)
  refine W.region_plain (row := none) [(0, false), (1, true), (2, false)] (by kernel_rfl) ?_
  have s11 := SG.self w3 none
  refine F.q (v := .agg #[.int .i64 m, .slice A n c]) (hr := (r_load2 rfl (ev_any (by kernel_rfl)) (by kernel_rfl) (by kernel_rfl) (sgS (blk_cell (j := 0) x6 (by kernel_rfl)) (Option.some_ne_none _)) (sgS (blk_cell (j := 1) x6 (by kernel_rfl)) (Option.some_ne_none _)))) (h := ?_)
  refine W.sc (vs := [.agg #[.int .i64 m, .slice A n c]]) rfl rfl (by kernel_rfl) (by kernel_rfl) (by kernel_rfl) rfl (IsValid_any m A n c ps _ (Rd.kept ha (SG.belowR c10 s11 (fun kq e => by cases e))) (by omega)) ?_
  rintro e w13 ⟨rfl, b12⟩
  have s14 := SG.of_below s11 b12
  refine ⟨_, rfl, s14, ?_⟩
  refine F.nx ?_
  rcases Bool.eq_false_or_eq_true (goodN m ps) with q15 | q15
  · rw [q15]
    have hg := good_of q15
    have hgl := hg.lo
    have hgh := hg.hi
    have hp := hg.pipesIn
    have hi0 := fun p (h9 : p ∈ ps) => (hg.pipe h9).1.1
    have hrise := hg.rise
    refine F.q (v := .bool false) (hr := (r_not (b := true) rfl (ev_any (by kernel_rfl)) rfl)) (h := ?_)
    refine F.endF [(0, .agg #[.int .i64 m, .slice A n c]), (1, .pointer (some ⟨b2, 0, none⟩)), (2, .slice none 0 0), (3, .bool false), (6, .bool false)] (fun U16 => ?_)
    have x6 := SG.blk s14 x6 (Option.some_ne_none _)
    have c17 := (SG.belowR c10 s14 (fun kq e => by cases e))
    refine h3 _ _ ?_
    refine wp_cond_false (by kernel_rfl) ?_
    refine wp_skip ?_
    refine h2 _ _ ?_
    refine wp_seq_k (fun K4 h4 => ?_)
    refine W.region_plain (row := none) [(0, false), (1, true), (2, false), (3, false)] (by kernel_rfl) ?_
    have s18 := SG.self w13 none
    refine F.q (v := .agg #[.int .i64 m, .slice A n c]) (hr := (r_load2 rfl (ev_any (by kernel_rfl)) (by kernel_rfl) (by kernel_rfl) (sgS (blk_cell (j := 0) x6 (by kernel_rfl)) (Option.some_ne_none _)) (sgS (blk_cell (j := 1) x6 (by kernel_rfl)) (Option.some_ne_none _)))) (h := ?_)
    have z24 := ((SG.belowR c17 s18 (fun kq e => by cases e))).size
    refine W.sc (vs := [.agg #[.int .i64 m, .slice A n c]]) rfl rfl (by kernel_rfl) (by kernel_rfl) (by kernel_rfl) rfl (networkParts_any m A n c ps _ (Rd.kept ha (SG.belowR c17 s18 (fun kq e => by cases e))) (by omega) hp hi0 (by omega)) ?_
    rintro e w26 ⟨A19, n20, c21, vs22, rfl, tab23, b25⟩
    have s27 := SG.of_below s18 b25
    refine ⟨_, rfl, s27, ?_⟩
    refine F.nx ?_
    refine F.as (v := .slice A19 n20 c21) (h := ?_)
    refine F.as (v := .bool true) (h := ?_)
    refine F.endF [(0, .agg #[.int .i64 m, .slice A n c]), (1, .pointer (some ⟨b2, 0, none⟩)), (2, .slice A19 n20 c21), (3, .bool true), (6, .bool false)] (fun U28 => ?_)
    have x6 := SG.blk s27 x6 (Option.some_ne_none _)
    have c29 := (SG.belowR c17 s27 (fun kq e => by cases e))
    refine h4 _ _ ?_
    refine wp_ret ?_
    try simp only [Exit.then]
    refine ret2 (v := .slice A19 n20 c21) (x := .bool true) rfl (by kernel_rfl) (by kernel_rfl) ?_
    have e8 : NetworkParts_v0 m ps = partsTo (joined ps) m.toNat m.toNat := by unfold NetworkParts_v0; rw [if_pos q15]
    have hn8 : n20 = (partsTo (joined ps) m.toNat m.toNat).length := by have := (tab23).rd.size; omega
    exact ⟨_, _, vs22, by rw [e8, ← hn8]; unfold NetworkParts_v1; rw [q15], by rw [e8, ← hn8]; exact Tab.lower tab23 z24, c29⟩
  · rw [q15]
    refine F.q (v := .bool true) (hr := (r_not (b := false) rfl (ev_any (by kernel_rfl)) rfl)) (h := ?_)
    refine F.endF [(0, .agg #[.int .i64 m, .slice A n c]), (1, .pointer (some ⟨b2, 0, none⟩)), (2, .slice none 0 0), (3, .bool false), (6, .bool true)] (fun U30 => ?_)
    have x6 := SG.blk s14 x6 (Option.some_ne_none _)
    have c31 := (SG.belowR c10 s14 (fun kq e => by cases e))
    refine h3 _ _ ?_
    refine wp_cond_true (by kernel_rfl) ?_
    refine wp_seq_k (fun K5 h5 => ?_)
    refine W.region_quiet [(0, false), (1, false)] (by kernel_rfl) ?_
    refine F.as (v := .slice none 0 0) (h := ?_)
    refine F.as (v := .bool false) (h := ?_)
    refine F.endF [(0, .agg #[.int .i64 m, .slice A n c]), (1, .pointer (some ⟨b2, 0, none⟩)), (2, .slice none 0 0), (3, .bool false), (6, .bool true)] (fun U32 => ?_)
    refine h5 _ _ ?_
    refine wp_ret ?_
    try simp only [Exit.then]
    refine ret2 (v := .slice none 0 0) (x := .bool false) rfl (by kernel_rfl) (by kernel_rfl) ?_
    have e8 : NetworkParts_v0 m ps = [] := by unfold NetworkParts_v0; rw [if_neg (by rw [q15]; simp)]
    exact ⟨none, 0, [], by rw [e8]; unfold NetworkParts_v1; rw [q15]; rfl, by rw [e8]; exact Tab.none (World.ownsRow_nil _ _ _ _) rfl, c31⟩

end Go.Proofs.Ytdlcldaogcbnlaa
