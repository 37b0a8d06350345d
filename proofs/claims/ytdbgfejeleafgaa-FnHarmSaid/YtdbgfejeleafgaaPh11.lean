/- What the texts behind it build on; conditions: none. -/
import Derived.Test.YtdbgfejeleafgaaPh10
import Derived.Laws.IdiomCopy
import Derived.Laws.CopyOwn
import Derived.Lib.AppendZerosOnto
import Derived.Lib.SliceRun
import Derived.Lib.Overlaps
namespace Go.Proofs.Ytdbgfejeleafgaa
open Go.RowKit
set_option linter.unusedVariables false
set_option linter.unusedSimpArgs false
theorem flatV_drop {ps : List Vv} : ∀ k, (valvesV ps).drop (k * 4) = valvesV (ps.drop k) := by
  intro k
  induction ps generalizing k with
  | nil => simp [valvesV]
  | cons p ps ih =>
    cases k with
    | zero => simp [valvesV]
    | succ k => simp only [valvesV, List.flatMap_cons, List.drop_succ_cons] at ih ⊢; rw [show (k + 1) * 4 = k * 4 + 4 by omega]; simp [Vv.vals, ih]
theorem Rd.fromV {w : World} {A : Option Addr} {n c k : Nat} {ps : List Vv} (h : Rd w 4 A n (valvesV ps)) (hk : k ≤ n) (hc : n ≤ c) : Rd w 4 (sFrom A c k 4) (n - k) (valvesV (ps.drop k)) := by
  have := h.from hk hc; rwa [flatV_drop] at this
def insAt (vs : List Vv) (a : Int) : Nat := (vs.takeWhile (fun v => decide (v.id < a))).length
theorem insAt_at {a : Int} : ∀ {vs : List Vv} {k : Nat}, (∀ j z, j < k → vs[j]? = some z → z.id < a) → k ≤ vs.length → (∀ z, vs[k]? = some z → ¬ z.id < a) → insAt vs a = k
  | [], k, _, hk, _ => by simp at hk; subst hk; rfl
  | v :: vs, 0, _, _, h => by
    have := h v rfl
    unfold insAt; rw [List.takeWhile_cons, if_neg (by simpa using this)]; rfl
  | v :: vs, k + 1, h0, hk, h => by
    have h1 := h0 0 v (by omega) rfl
    have ih := insAt_at (a := a) (vs := vs) (k := k) (fun j z hj hz => h0 (j + 1) z (by omega) (by simpa using hz)) (by simpa using hk) (fun z hz => h z (by simpa using hz))
    unfold insAt at ih ⊢
    rw [List.takeWhile_cons, if_pos (by simpa using h1), List.length_cons, ih]
def moreV (vs : List Vv) (x : Vv) : List Vv := insV vs (insAt vs x.id) x
noncomputable def NewValveGain_v1 (m : Int) (ps : List Pp) (vs : List Vv) (s id : Int) (x : Vv) (cs : List Int) : Bool := canB m ps vs s id && (custOk m cs && (decide (idxV (idQ x.id) vs < 0) && ((bestR ps vs s id cs).isSome && goodV m ps (moreV vs x))))
noncomputable def NewValveGain_v0 (m : Int) (ps : List Pp) (vs : List Vv) (s id : Int) (x : Vv) (cs : List Int) : Int := if NewValveGain_v1 m ps vs s id x cs = true then leastOf (bestR ps vs s id cs) - leastOf (bestR ps (moreV vs x) s id cs) else 0
theorem least_bd {ps : List Pp} {vs : List Vv} {s id : Int} {cs : List Int} (hc : ∀ c, c ∈ cs → 0 ≤ c ∧ c ≤ 1000) : -1 ≤ leastOf (bestR ps vs s id cs) ∧ leastOf (bestR ps vs s id cs) ≤ 1000 * (cs.length : Int) := by
  unfold bestR
  cases e : bestOf (cutB ps vs s id) (harmL ps vs s cs) (openIds vs) with
  | none => exact ⟨by show (-1 : Int) ≤ -1; omega, by show (-1 : Int) ≤ 1000 * (cs.length : Int); omega⟩
  | some b =>
    obtain ⟨t, h1, h2, h3⟩ := bestOf_in e
    show -1 ≤ b.2 ∧ b.2 ≤ 1000 * (cs.length : Int)
    rw [h3]
    have := harmTo_bd (E := linked ps (openQ (shutV vs b.1) true)) (s := s) hc cs.length (Nat.le_refl _)
    unfold harmL; omega
set_option maxRecDepth 100000 in
set_option maxHeartbeats 8000000 in
theorem NewValveGain_spec (m : Int) (A : Option Addr) (n c : Nat) (ps : List Pp) (A2 : Option Addr) (n2 c2 : Nat) (vs : List Vv) (s id : Int) (x : Vv) (A4 : Option Addr) (n4 c4 : Nat) (cs : List Int) (w : World) (ha : Rd w 4 A n (pipesV ps)) (hb : Rd w 4 A2 n2 (valvesV vs)) (hc4 : Rd w 1 A4 n4 (intsV cs)) (hn : n ≤ 1048576) (hn2 : n2 ≤ 1048576) (hn4 : n4 ≤ 1048576) (hfm : Fm A n c) (hfm2 : Fm A2 n2 c2) (hfc : Fm A4 n4 c4) :
    Calls Try.prog 37 #[.agg #[.int .i64 m, .slice A n c], .slice A2 n2 c2, .int .i64 s, .int .i64 id, .agg #[.int .i64 x.id, .int .i64 x.pipe, .int .i64 x.node, .bool x.shut], .slice A4 n4 c4] w fun e w' => e = .returned (.tuple #[.int .i64 (NewValveGain_v0 m ps vs s id x cs), .bool (NewValveGain_v1 m ps vs s id x cs)]) ∧ Below w.heap.size w w' := by
 have hl := rd_pipes_len ha
 have hl2 := rd_valves_len hb
 have hl4 := rd_ints_len hc4
 have hfl := findL_lt ps id
 go_enter Try.func37, Try.ntmps37
 refine F.begin 96 [(0, .agg #[.int .i64 m, .slice A n c]), (1, .slice A2 n2 c2), (2, .int .i64 s), (3, .int .i64 id), (4, .agg #[.int .i64 x.id, .int .i64 x.pipe, .int .i64 x.node, .bool x.shut]), (5, .slice A4 n4 c4)] (fun U0 => ?_)
 refine wk fun K1 h1 => ?_
 refine W.region_plain (row := none) [(0, true), (1, true), (2, false), (3, false)] kk ?_
 have s1 := SG.self w none
 refine W.sn (fun b => .pointer (some ⟨b, 0, none⟩)) #[.int .i64 m, .slice A n c] 26 s1 rfl kk rfl (fun _ => by kernel_rfl) (fun b2 w3 hb4 k5 x6 s7 => ?_)
 apply F.nx
 have lo8 : w.heap.size ≤ b2 := Nl ((Sb (Below.refl _ _) s1 nkk)).size (Nat.le_of_eq hb4)
 refine W.sn (fun b => .pointer (some ⟨b, 0, none⟩)) #[.int .i64 x.id, .int .i64 x.pipe, .int .i64 x.node, .bool x.shut] 40 s7 rfl kk rfl (fun _ => by kernel_rfl) (fun b9 w10 hb11 k12 x13 s14 => ?_)
 apply F.nx
 have lo15 : w.heap.size ≤ b9 := Nl ((Sb (Below.refl _ _) s7 nkk)).size (Nat.le_of_eq hb11)
 have x6 := (k12.block _ (blk_lt x6)).trans x6
 refine Fa (.int .i64 0) ?_
 refine Fa (.bool false) ?_
 apply F.es
 have c17 := (Sb (Below.refl _ _) s14 nkk)
 apply h1
 refine wk fun K2 h2 => ?_
 refine wk fun K3 h3 => ?_
 refine W.region_plain (row := none) [(0, false), (1, false), (2, false), (3, false), (4, true), (5, false), (6, false), (7, false), (8, false), (9, true), (10, false), (11, false), (12, false), (13, false), (14, false), (15, false), (16, true), (17, false), (18, false)] kk ?_
 have s18 := SG.self w10 none
 refine Fq (.agg #[.int .i64 m, .slice A n c]) (r_load2 rfl ek kk kk (sgS (blk_cell (j := 0) x6 kk) onn) (sgS (blk_cell (j := 1) x6 kk) onn)) ?_
 refine Fv (.slice A2 n2 c2) ?_
 refine Fv (.int .i64 s) ?_
 refine Fv (.int .i64 id) ?_
 refine Fc [.agg #[.int .i64 m, .slice A n c], .slice A2 n2 c2, .int .i64 s, .int .i64 id] (l5Asked_any m A n c ps A2 n2 c2 vs s id _ (Rk ha (Sb c17 s18 nkk)) (Rk hb (Sb c17 s18 nkk)) (by omega) (by omega) hfm2) ?_
 rintro e w20 ⟨rfl, b19⟩
 have s21 := SG.of_below s18 b19
 refine ⟨_, rfl, s21, ?_⟩
 apply F.nx
 rcases Bool.eq_false_or_eq_true (canB m ps vs s id) with q22 | q22
 ·rw [q22]
  obtain ⟨hv9, hs, hfa⟩ := canB_of q22
  have hg := hv9.net
  have hgl := hg.lo
  have hgh := hg.hi
  have hp := hg.pipesIn
  have hlen10 := hg.len
  have hu := hv9.uniq
  have hvl := hv9.len
  refine Fq (.bool false) (r_not (b := true) rfl ek rfl) ?_
  refine Fv (.bool false) ?_
  refine Fq (.agg #[.int .i64 m, .slice A n c]) (r_load2 rfl ek kk kk (sgS (blk_cell (j := 0) x6 kk) onn) (sgS (blk_cell (j := 1) x6 kk) onn)) ?_
  refine Fv (.slice A4 n4 c4) ?_
  refine Fc [.agg #[.int .i64 m, .slice A n c], .slice A4 n4 c4] (l5Customers_any m A n c ps A4 n4 c4 cs _ (Rk ha (Sb c17 s21 nkk)) (by omega) (Rk hc4 (Sb c17 s21 nkk)) (by omega)) ?_
  rintro e w24 ⟨rfl, b23⟩
  have s25 := SG.of_below s21 b23
  refine ⟨_, rfl, s25, ?_⟩
  apply F.nx
  rcases Bool.eq_false_or_eq_true (custOk m cs) with q26 | q26
  ·rw [q26]
   have hco := q26
   have hco9 := custOk_of hco
   refine Fq (.bool false) (r_not (b := true) rfl ek rfl) ?_
   refine Fq (.bool false) (r_pick (b := false) rfl ek ek) ?_
   refine Fv (.bool false) ?_
   refine Fv (.slice A2 n2 c2) ?_
   refine Fq (.pointer (some ⟨b9, 0, none⟩)) (r_field0 rfl ek kk) ?_
   refine Fl (.int .i64 x.id) (sgS (blk_cell (j := 0) x13 kk) onn) ?_
   refine Fc [.slice A2 n2 c2, .int .i64 x.id] (l4Find_any A2 n2 c2 vs x.id _ (Rk hb (Sb c17 s25 nkk)) (by omega)) ?_
   rintro e w28 ⟨rfl, b27⟩
   have s29 := SG.of_below s25 b27
   refine ⟨_, rfl, s29, ?_⟩
   apply F.nx
   by_cases q30 : ((idxV (idQ x.id) vs) : Int) ≥ (0 : Int)
   ·refine Fq (.bool true) (r_geq (m := (idxV (idQ x.id) vs)) (n := 0) rfl ek ek (dt q30)) ?_
    refine Fq (.bool true) (r_pick (b := false) rfl ek ek) ?_
    apply F.es
    have x6 := Sk s29 x6 onn
    have x13 := Sk s29 x13 onn
    have c31 := (Sb c17 s29 nkk)
    apply h3
    refine wp_cond_true ek ?_
    refine wk fun K4 h4 => ?_
    refine Rq 2 ?_
    refine Fa (.int .i64 0) ?_
    refine Fa (.bool false) ?_
    apply F.es
    apply h4
    refine wp_ret ?_
    try simp only [Exit.then]
    refine ret2 (v := .int .i64 0) (x := .bool false) rfl kk kk ?_
    have e8 : NewValveGain_v1 m ps vs s id x cs = false := by unfold NewValveGain_v1; rw [q22, q26, decide_eq_false (by omega)]; try rfl
    exact ⟨by unfold NewValveGain_v0; rw [if_neg (by rw [e8]; simp), e8], c31⟩
   refine Fq (.bool false) (r_geq (m := (idxV (idQ x.id) vs)) (n := 0) rfl ek ek (df q30)) ?_
   refine Fq (.bool false) (r_pick (b := false) rfl ek ek) ?_
   apply F.es
   have x6 := Sk s29 x6 onn
   have x13 := Sk s29 x13 onn
   have c32 := (Sb c17 s29 nkk)
   apply h3
   refine wp_cond_false ek ?_
   apply wp_skip
   apply h2
   refine wk fun K5 h5 => ?_
   refine Rq 1 ?_
   refine Fa (.int .i64 0) ?_
   apply F.es
   apply h5
   refine joinK (fun amj1 aaj1 wlj1 => ∃ (k2 : Nat) , Kn aaj1 [(1, .slice A2 n2 c2), (2, .int .i64 s), (3, .int .i64 id), (5, .slice A4 n4 c4), (6, .pointer (some ⟨b2, 0, none⟩)), (10, .pointer (some ⟨b9, 0, none⟩)), (12, .int .i64 0), (13, .bool false), (14, .int .i64 (k2 : Int))] 96 ∧ (amj1 = 0) ∧ (k2 ≤ n2) ∧ (insAt vs x.id = k2) ∧ (wlj1.heap[b2]? = some (.cells #[.int .i64 m, .slice A n c] 26 (0, 0))) ∧ (wlj1.heap[b9]? = some (.cells #[.int .i64 x.id, .int .i64 x.pipe, .int .i64 x.node, .bool x.shut] 40 (0, 0))) ∧ (Below w.heap.size w wlj1)) ?_ ?_
   ·rintro amj1 aaj1 wlj1 ⟨k2, ⟨Uj1, rfl⟩, rfl, hk2, hkk, x6, x13, c33⟩
    refine wk fun K6 h6 => ?_
    refine W.region_sch (row := none) (Sch.app [(1, false), (2, false), (3, false), (5, false), (8, false), (9, false), (10, false)] (.br 0 6 (Sch.app [] (.br 4 6 (Sch.of [(6, true), (7, true), (11, true), (12, false)]) (Sch.of [(4, true), (7, true), (11, true), (12, false)]))) (Sch.of [(0, true), (4, true), (7, true), (11, true), (12, false)]))) kk kk (fun _ d _ _ _ h => by cases d <;> exact h) kk (fun w34 e35 s36 => ?_)
    refine Fv (.slice A2 n2 c2) ?_
    refine Fv (.int .i64 (k2 : Int)) ?_
    refine Fq (.slice A2 k2 c2) (r_sliceTo (A := A2) (n := n2) (c := c2) (k := k2) (size := 4) rfl ek ek kk (by have := (hfm2).le; omega)) ?_
    refine Fq (.agg #[.int .i64 x.id, .int .i64 x.pipe, .int .i64 x.node, .bool x.shut]) (r_load4 rfl ek kk kk (sgS (blk_cell (j := 0) x13 kk) onn) (sgS (blk_cell (j := 1) x13 kk) onn) (sgS (blk_cell (j := 2) x13 kk) onn) (sgS (blk_cell (j := 3) x13 kk) onn)) ?_
    refine Fv (.slice A2 n2 c2) ?_
    refine Fv (.int .i64 (k2 : Int)) ?_
    refine Fq (.slice (sFrom A2 c2 k2 4) (n2 - k2) (c2 - k2)) (r_sliceFrom (A := A2) (n := n2) (c := c2) (k := k2) (size := 4) rfl ek ek kk (by omega)) ?_
    refine W.sbr ?_ ?_
    ·refine W.sn (fun b => .slice (some ⟨b, 0, none⟩) 0 0) #[] 40 s36 rfl kk rfl (fun _ => by kernel_rfl) (fun b37 w38 hb39 k40 x41 s42 => ?_)
     apply F.nx
     have lo43 : w.heap.size ≤ b37 := Nl ((Sb c33 s36 nkk)).size (Nat.le_of_eq hb39)
     refine W.sbr ?_ ?_
     ·have ho46 := own_empty (base := w.heap.size) (size := 4) x41 lo43
      replace ho46 : World.ownsRow _ _ _ _ _ _ (valvesV []) := ho46
      replace ho46 : World.ownsRow _ _ _ _ _ _ (valvesV []) := ho46
      refine W.sapR (e := 40) (size := 4) (base := w.heap.size) (v := .slice (some ⟨b37, 0, none⟩) 0 0) (A := A2) (m := k2) (c := c2) s42 rfl rfl rfl rfl kk kk kk ho46 (Rd.toV (Rk hb (Sb c33 s42 nkk)) (by omega)) (Fm.to hfm2 (by have := (hfm2).le; omega)) (valves_one _) (by omega) (by have := ((Sb c33 s42 nkk)).size; omega) (.inr (fun kq e => by have := (s36).size; have := hb39; have e' := Option.some.inj e; simp at e'; omega)) (fun A49 cap50 w51 ho52 hg53 hat54 s55 => ?_)
      apply F.nx
      have ho52 := own_joinV ho52
      have fr58 : ∀ kq, (.slice A49 (0 + k2) cap50 : Value).ownBlock = some kq → wlj1.heap.size ≤ kq := fun kq e => by
        have hs := (s42).size
        rcases hat54 with h | h
        · exact (show ∀ kq, Value.ownBlock _ = some kq → wlj1.heap.size ≤ kq from (fun kq e => by have := (s36).size; have := hb39; have e' := Option.some.inj e; simp at e'; omega)) kq (h.symm.trans e)
        · have := Option.some.inj (h.symm.trans e); omega
      replace ho52 : World.ownsRow _ _ _ _ _ _ (valvesV (vs.take k2)) := ho52
      refine W.sn (fun b => .slice (some ⟨b, 0, none⟩) 1 1) #[.int .i64 x.id, .int .i64 x.pipe, .int .i64 x.node, .bool x.shut] 40 s55 rfl kk rfl (fun _ => by kernel_rfl) (fun b59 w60 hb61 k62 x63 s64 => ?_)
      apply F.nx
      have lo65 : w.heap.size ≤ b59 := Nl ((Sb c33 s55 nkk)).size (Nat.le_of_eq hb61)
      have ho69 := own_kept ho52 k62
      refine W.sap (e := 40) (size := 4) (base := w.heap.size) (m := 1) (v := .slice A49 (0 + k2) cap50) (c := 1) s64 rfl rfl rfl rfl kk kk kk ho69 x63 kk kk (by omega) (by omega) (by have := ((Sb c33 s64 nkk)).size; omega) (.inr fr58) (fun g70 cap71 w72 ho73 hg74 hat75 hlt76 s77 => ?_)
      apply F.nx
      have ho73 := own_snocV (x := x) ho73
      have fr81 : ∀ kq, (.slice (some ⟨g70, 0, none⟩) ((0 + k2) + 1) cap71 : Value).ownBlock = some kq → wlj1.heap.size ≤ kq := fun kq e => by
        have hs := (s64).size
        have e' : g70 = kq := by simpa [Value.ownBlock] using e
        rcases hat75 with h | h
        · exact (show ∀ kq, Value.ownBlock _ = some kq → wlj1.heap.size ≤ kq from fr58) kq (by rw [← e']; exact h)
        · omega
      refine W.sapR (e := 40) (size := 4) (base := w.heap.size) (v := .slice (some ⟨g70, 0, none⟩) ((0 + k2) + 1) cap71) (A := (sFrom A2 c2 k2 4)) (m := (n2 - k2)) (c := (c2 - k2)) s77 rfl rfl rfl rfl kk kk kk ho73 (Rd.fromV (Rk hb (Sb c33 s77 nkk)) (by omega) (hfm2).le) (Fm.from (size := 4) hfm2 (by omega)) (valves_one _) (by omega) (by have := ((Sb c33 s77 nkk)).size; omega) (.inr fr81) (fun A82 cap83 w84 ho85 hg86 hat87 s88 => ?_)
      apply F.nx
      have ho85 := own_joinV ho85
      have fr92 : ∀ kq, (.slice A82 (((0 + k2) + 1) + (n2 - k2)) cap83 : Value).ownBlock = some kq → wlj1.heap.size ≤ kq := fun kq e => by
        have hs := (s77).size
        rcases hat87 with h | h
        · exact (show ∀ kq, Value.ownBlock _ = some kq → wlj1.heap.size ≤ kq from fr81) kq (h.symm.trans e)
        · have := Option.some.inj (h.symm.trans e); omega
      refine Fa (.slice A82 (((0 + k2) + 1) + (n2 - k2)) cap83) ?_
      apply F.es
      have x6 := Sk s88 x6 onn
      have x13 := Sk s88 x13 onn
      have c93 := (Sb c33 s88 nkk)
      apply h6
      refine wk fun K7 h7 => ?_
      refine W.region_plain (row := none) [(0, false), (1, false), (2, false), (3, false), (4, false), (5, true), (6, false), (7, false), (8, false), (9, false), (10, false)] kk ?_
      have s94 := SG.self w84 none
      refine Fq (.agg #[.int .i64 m, .slice A n c]) (r_load2 rfl ek kk kk (sgS (blk_cell (j := 0) x6 kk) onn) (sgS (blk_cell (j := 1) x6 kk) onn)) ?_
      refine Fv (.slice A2 n2 c2) ?_
      refine Fv (.int .i64 s) ?_
      refine Fv (.int .i64 id) ?_
      refine Fv (.slice A4 n4 c4) ?_
      have lr102 := World.ownsRow.lt ho85
      have z100 := ((Sb c93 s94 nkk)).size
      refine Fc [.agg #[.int .i64 m, .slice A n c], .slice A2 n2 c2, .int .i64 s, .int .i64 id, .slice A4 n4 c4] (l5Best_any m A n c ps A2 n2 c2 vs s id A4 n4 c4 cs _ (Rk ha (Sb c93 s94 nkk)) (Rk hb (Sb c93 s94 nkk)) (by omega) (by omega) hfm2 hv9 hs hfa (Rk hc4 (Sb c93 s94 nkk)) (by omega) hco9.2 (.inr hco)) ?_
      rintro e w104 ⟨A95, n96, c97, rfl, ho98, b103⟩
      have s105 := SG.of_below s94 b103
      refine ⟨_, rfl, s105, ?_⟩
      apply F.nx
      have ho106 := own_kept ho85 b103
      have ho99 := own_base (base' := w.heap.size) ho98 z100
      have bd111 := least_bd (ps := ps) (vs := vs) (s := s) (id := id) hco9.2
      refine Fv (.tuple #[.slice A95 n96 c97, .int .i64 (leastOf (bestR ps vs s id cs))]) ?_
      refine Fq (.slice A95 n96 c97) (r_extract (vs := #[.slice A95 n96 c97, .int .i64 (leastOf (bestR ps vs s id cs))]) rfl ek kk) ?_
      refine Fq (.int .i64 (leastOf (bestR ps vs s id cs))) (r_extract (vs := #[.slice A95 n96 c97, .int .i64 (leastOf (bestR ps vs s id cs))]) rfl ek kk) ?_
      refine Fa (.slice A95 n96 c97) ?_
      refine Fa (.int .i64 (leastOf (bestR ps vs s id cs))) ?_
      apply F.es
      have x6 := Sk s105 x6 onn
      have x13 := Sk s105 x13 onn
      have c112 := (Sb c93 s105 nkk)
      apply h7
      refine wk fun K8 h8 => ?_
      refine wk fun K9 h9 => ?_
      refine W.region_plain (row := none) [(0, false), (1, false), (2, false), (3, false), (4, false), (5, true), (6, false), (7, false)] kk ?_
      have s113 := SG.self w104 none
      refine Fv (.int .i64 (leastOf (bestR ps vs s id cs))) ?_
      by_cases q114 : ((leastOf (bestR ps vs s id cs)) : Int) < (0 : Int)
      ·refine Fq (.bool true) (r_lss (m := (leastOf (bestR ps vs s id cs))) (n := 0) rfl ek ek (dt q114)) ?_
       refine Fv (.bool true) ?_
       refine Fs s113 ?_
       refine Fs s113 ?_
       refine Fs s113 ?_
       refine Fs s113 ?_
       refine Fq (.bool true) (r_pick (b := true) rfl ek ek) ?_
       apply F.es
       have x6 := Sk s113 x6 onn
       have x13 := Sk s113 x13 onn
       have c115 := (Sb c112 s113 nkk)
       apply h9
       refine wp_cond_true ek ?_
       refine wk fun K10 h10 => ?_
       refine Rq 2 ?_
       refine Fa (.int .i64 0) ?_
       refine Fa (.bool false) ?_
       apply F.es
       apply h10
       refine wp_ret ?_
       try simp only [Exit.then]
       refine ret2 (v := .int .i64 0) (x := .bool false) rfl kk kk ?_
       have e7 : (bestR ps vs s id cs).isSome = false := least_no hco9.2 (by omega)
       have e8 : NewValveGain_v1 m ps vs s id x cs = false := by unfold NewValveGain_v1; rw [q22, q26, decide_eq_true (by omega), e7]; try rfl
       exact ⟨by unfold NewValveGain_v0; rw [if_neg (by rw [e8]; simp), e8], c115⟩
      refine Fq (.bool false) (r_lss (m := (leastOf (bestR ps vs s id cs))) (n := 0) rfl ek ek (df q114)) ?_
      refine Fv (.bool false) ?_
      refine Fq (.agg #[.int .i64 m, .slice A n c]) (r_load2 rfl ek kk kk (sgS (blk_cell (j := 0) x6 kk) onn) (sgS (blk_cell (j := 1) x6 kk) onn)) ?_
      refine Fv (.slice A82 (((0 + k2) + 1) + (n2 - k2)) cap83) ?_
      refine Fc [.agg #[.int .i64 m, .slice A n c], .slice A82 (((0 + k2) + 1) + (n2 - k2)) cap83] (l4Good_any m A n c ps A82 (((0 + k2) + 1) + (n2 - k2)) cap83 (((vs.take k2) ++ [x]) ++ (vs.drop k2)) _ (Rk ha (Sb c112 s113 nkk)) (own_rd ho106) (by omega) (by omega)) ?_
      rintro e w117 ⟨rfl, b116⟩
      have s118 := SG.of_below s113 b116
      refine ⟨_, rfl, s118, ?_⟩
      apply F.nx
      have ho119 := own_kept ho106 b116
      have ho120 := own_kept ho99 b116
      rcases Bool.eq_false_or_eq_true (goodV m ps (((vs.take k2) ++ [x]) ++ (vs.drop k2))) with q121 | q121
      ·rw [q121]
       have hvm := goodV_of q121
       refine Fq (.bool false) (r_not (b := true) rfl ek rfl) ?_
       refine Fq (.bool false) (r_pick (b := false) rfl ek ek) ?_
       apply F.es
       have x6 := Sk s118 x6 onn
       have x13 := Sk s118 x13 onn
       have c122 := (Sb c112 s118 nkk)
       apply h9
       refine wp_cond_false ek ?_
       apply wp_skip
       apply h8
       refine wk fun K11 h11 => ?_
       refine W.region_plain (row := none) [(0, false), (1, false), (2, false), (3, false), (4, false), (5, true), (6, false), (7, false), (8, false), (9, false), (10, false)] kk ?_
       have s123 := SG.self w117 none
       refine Fq (.agg #[.int .i64 m, .slice A n c]) (r_load2 rfl ek kk kk (sgS (blk_cell (j := 0) x6 kk) onn) (sgS (blk_cell (j := 1) x6 kk) onn)) ?_
       refine Fv (.slice A82 (((0 + k2) + 1) + (n2 - k2)) cap83) ?_
       refine Fv (.int .i64 s) ?_
       refine Fv (.int .i64 id) ?_
       refine Fv (.slice A4 n4 c4) ?_
       have lr131 := World.ownsRow.lt ho119
       have lr132 := World.ownsRow.lt ho120
       have z129 := ((Sb c122 s123 nkk)).size
       refine Fc [.agg #[.int .i64 m, .slice A n c], .slice A82 (((0 + k2) + 1) + (n2 - k2)) cap83, .int .i64 s, .int .i64 id, .slice A4 n4 c4] (l5Best_any m A n c ps A82 (((0 + k2) + 1) + (n2 - k2)) cap83 (((vs.take k2) ++ [x]) ++ (vs.drop k2)) s id A4 n4 c4 cs _ (Rk ha (Sb c122 s123 nkk)) (own_rd ho119) (by omega) (by omega) (own_fm ho119) hvm hs hfa (Rk hc4 (Sb c122 s123 nkk)) (by omega) hco9.2 (.inr hco)) ?_
       rintro e w134 ⟨A124, n125, c126, rfl, ho127, b133⟩
       have s135 := SG.of_below s123 b133
       refine ⟨_, rfl, s135, ?_⟩
       apply F.nx
       have bd143 := least_bd (ps := ps) (vs := (((vs.take k2) ++ [x]) ++ (vs.drop k2))) (s := s) (id := id) hco9.2
       refine Fv (.tuple #[.slice A124 n125 c126, .int .i64 (leastOf (bestR ps (((vs.take k2) ++ [x]) ++ (vs.drop k2)) s id cs))]) ?_
       refine Fq (.slice A124 n125 c126) (r_extract (vs := #[.slice A124 n125 c126, .int .i64 (leastOf (bestR ps (((vs.take k2) ++ [x]) ++ (vs.drop k2)) s id cs))]) rfl ek kk) ?_
       refine Fq (.int .i64 (leastOf (bestR ps (((vs.take k2) ++ [x]) ++ (vs.drop k2)) s id cs))) (r_extract (vs := #[.slice A124 n125 c126, .int .i64 (leastOf (bestR ps (((vs.take k2) ++ [x]) ++ (vs.drop k2)) s id cs))]) rfl ek kk) ?_
       refine Fa (.slice A124 n125 c126) ?_
       refine Fa (.int .i64 (leastOf (bestR ps (((vs.take k2) ++ [x]) ++ (vs.drop k2)) s id cs))) ?_
       apply F.es
       have x6 := Sk s135 x6 onn
       have x13 := Sk s135 x13 onn
       have c144 := (Sb c122 s135 nkk)
       apply h11
       refine wk fun K12 h12 => ?_
       refine Rq 5 ?_
       refine Fv (.int .i64 (leastOf (bestR ps vs s id cs))) ?_
       refine Fv (.int .i64 (leastOf (bestR ps (((vs.take k2) ++ [x]) ++ (vs.drop k2)) s id cs))) ?_
       refine Fq (.int .i64 ((leastOf (bestR ps vs s id cs)) - (leastOf (bestR ps (((vs.take k2) ++ [x]) ++ (vs.drop k2)) s id cs)))) (r_sub (m := (leastOf (bestR ps vs s id cs))) (n := (leastOf (bestR ps (((vs.take k2) ++ [x]) ++ (vs.drop k2)) s id cs))) (z := (leastOf (bestR ps vs s id cs)) - (leastOf (bestR ps (((vs.take k2) ++ [x]) ++ (vs.drop k2)) s id cs))) rfl ek ek (rfl) (by omega)) ?_
       refine Fa (.int .i64 ((leastOf (bestR ps vs s id cs)) - (leastOf (bestR ps (((vs.take k2) ++ [x]) ++ (vs.drop k2)) s id cs)))) ?_
       refine Fa (.bool true) ?_
       apply F.es
       apply h12
       refine wp_ret ?_
       try simp only [Exit.then]
       refine ret2 (v := .int .i64 ((leastOf (bestR ps vs s id cs)) - (leastOf (bestR ps (((vs.take k2) ++ [x]) ++ (vs.drop k2)) s id cs)))) (x := .bool true) rfl kk kk ?_
       have e7 : (bestR ps vs s id cs).isSome = true := least_yes (by omega)
       have hm9 : moreV vs x = ((vs.take k2) ++ [x]) ++ (vs.drop k2) := by unfold moreV insV; rw [hkk, List.append_assoc]; try rfl
       have e8 : NewValveGain_v1 m ps vs s id x cs = true := by unfold NewValveGain_v1; rw [q22, q26, decide_eq_true (by omega), e7, hm9, q121]; try rfl
       exact ⟨by unfold NewValveGain_v0; rw [if_pos e8, e8, hm9], c144⟩
      rw [q121]
      refine Fq (.bool true) (r_not (b := false) rfl ek rfl) ?_
      refine Fq (.bool true) (r_pick (b := false) rfl ek ek) ?_
      apply F.es
      have x6 := Sk s118 x6 onn
      have x13 := Sk s118 x13 onn
      have c145 := (Sb c112 s118 nkk)
      apply h9
      refine wp_cond_true ek ?_
      refine wk fun K13 h13 => ?_
      refine Rq 2 ?_
      refine Fa (.int .i64 0) ?_
      refine Fa (.bool false) ?_
      apply F.es
      apply h13
      refine wp_ret ?_
      try simp only [Exit.then]
      refine ret2 (v := .int .i64 0) (x := .bool false) rfl kk kk ?_
      have e7 : (bestR ps vs s id cs).isSome = true := least_yes (by omega)
      have hm9 : moreV vs x = ((vs.take k2) ++ [x]) ++ (vs.drop k2) := by unfold moreV insV; rw [hkk, List.append_assoc]; try rfl
      have e8 : NewValveGain_v1 m ps vs s id x cs = false := by unfold NewValveGain_v1; rw [q22, q26, decide_eq_true (by omega), e7, hm9, q121]; try rfl
      exact ⟨by unfold NewValveGain_v0; rw [if_neg (by rw [e8]; simp), e8], c145⟩
     refine W.sn (fun b => .slice (some ⟨b, 0, none⟩) 1 1) #[.int .i64 x.id, .int .i64 x.pipe, .int .i64 x.node, .bool x.shut] 40 s42 rfl kk rfl (fun _ => by kernel_rfl) (fun b146 w147 hb148 k149 x150 s151 => ?_)
     apply F.nx
     have lo152 : w.heap.size ≤ b146 := Nl ((Sb c33 s42 nkk)).size (Nat.le_of_eq hb148)
     have ne155 : b37 ≠ b146 := Nat.ne_of_lt (Nat.lt_of_lt_of_eq (blk_lt x41) hb148)
     have x41 := (k149.block _ (blk_lt x41)).trans x41
     have ho156 := own_empty (base := w.heap.size) (size := 4) x41 lo43
     replace ho156 : World.ownsRow _ _ _ _ _ _ (valvesV []) := ho156
     have nb159 : Nb b146 (.slice (some ⟨b37, 0, none⟩) 0 0) := nb_new (Ne.symm ne155)
     replace ho156 : World.ownsRow _ _ _ _ _ _ (valvesV []) := ho156
     refine W.sapR (e := 40) (size := 4) (base := w.heap.size) (v := .slice (some ⟨b37, 0, none⟩) 0 0) (A := A2) (m := k2) (c := c2) s151 rfl rfl rfl rfl kk kk kk ho156 (Rd.toV (Rk hb (Sb c33 s151 nkk)) (by omega)) (Fm.to hfm2 (by have := (hfm2).le; omega)) (valves_one _) (by omega) (by have := ((Sb c33 s151 nkk)).size; omega) (.inr (fun kq e => by have := (s36).size; have := hb39; have e' := Option.some.inj e; simp at e'; omega)) (fun A160 cap161 w162 ho163 hg164 hat165 s166 => ?_)
     apply F.nx
     have x150 := (hg164.block _ (blk_lt x150) nb159).trans x150
     have ho163 := own_joinV ho163
     have fr170 : ∀ kq, (.slice A160 (0 + k2) cap161 : Value).ownBlock = some kq → wlj1.heap.size ≤ kq := fun kq e => by
       have hs := (s151).size
       rcases hat165 with h | h
       · exact (show ∀ kq, Value.ownBlock _ = some kq → wlj1.heap.size ≤ kq from (fun kq e => by have := (s36).size; have := hb39; have e' := Option.some.inj e; simp at e'; omega)) kq (h.symm.trans e)
       · have := Option.some.inj (h.symm.trans e); omega
     replace ho163 : World.ownsRow _ _ _ _ _ _ (valvesV (vs.take k2)) := ho163
     refine W.sap (e := 40) (size := 4) (base := w.heap.size) (m := 1) (v := .slice A160 (0 + k2) cap161) (c := 1) s166 rfl rfl rfl rfl kk kk kk ho163 x150 kk kk (by omega) (by omega) (by have := ((Sb c33 s166 nkk)).size; omega) (.inr fr170) (fun g171 cap172 w173 ho174 hg175 hat176 hlt177 s178 => ?_)
     apply F.nx
     have ho174 := own_snocV (x := x) ho174
     have fr182 : ∀ kq, (.slice (some ⟨g171, 0, none⟩) ((0 + k2) + 1) cap172 : Value).ownBlock = some kq → wlj1.heap.size ≤ kq := fun kq e => by
       have hs := (s166).size
       have e' : g171 = kq := by simpa [Value.ownBlock] using e
       rcases hat176 with h | h
       · exact (show ∀ kq, Value.ownBlock _ = some kq → wlj1.heap.size ≤ kq from fr170) kq (by rw [← e']; exact h)
       · omega
     refine W.sapR (e := 40) (size := 4) (base := w.heap.size) (v := .slice (some ⟨g171, 0, none⟩) ((0 + k2) + 1) cap172) (A := (sFrom A2 c2 k2 4)) (m := (n2 - k2)) (c := (c2 - k2)) s178 rfl rfl rfl rfl kk kk kk ho174 (Rd.fromV (Rk hb (Sb c33 s178 nkk)) (by omega) (hfm2).le) (Fm.from (size := 4) hfm2 (by omega)) (valves_one _) (by omega) (by have := ((Sb c33 s178 nkk)).size; omega) (.inr fr182) (fun A183 cap184 w185 ho186 hg187 hat188 s189 => ?_)
     apply F.nx
     have ho186 := own_joinV ho186
     have fr193 : ∀ kq, (.slice A183 (((0 + k2) + 1) + (n2 - k2)) cap184 : Value).ownBlock = some kq → wlj1.heap.size ≤ kq := fun kq e => by
       have hs := (s178).size
       rcases hat188 with h | h
       · exact (show ∀ kq, Value.ownBlock _ = some kq → wlj1.heap.size ≤ kq from fr182) kq (h.symm.trans e)
       · have := Option.some.inj (h.symm.trans e); omega
     refine Fa (.slice A183 (((0 + k2) + 1) + (n2 - k2)) cap184) ?_
     apply F.es
     have x6 := Sk s189 x6 onn
     have x13 := Sk s189 x13 onn
     have c194 := (Sb c33 s189 nkk)
     apply h6
     refine wk fun K14 h14 => ?_
     refine W.region_plain (row := none) [(0, false), (1, false), (2, false), (3, false), (4, false), (5, true), (6, false), (7, false), (8, false), (9, false), (10, false)] kk ?_
     have s195 := SG.self w185 none
     refine Fq (.agg #[.int .i64 m, .slice A n c]) (r_load2 rfl ek kk kk (sgS (blk_cell (j := 0) x6 kk) onn) (sgS (blk_cell (j := 1) x6 kk) onn)) ?_
     refine Fv (.slice A2 n2 c2) ?_
     refine Fv (.int .i64 s) ?_
     refine Fv (.int .i64 id) ?_
     refine Fv (.slice A4 n4 c4) ?_
     have lr203 := World.ownsRow.lt ho186
     have z201 := ((Sb c194 s195 nkk)).size
     refine Fc [.agg #[.int .i64 m, .slice A n c], .slice A2 n2 c2, .int .i64 s, .int .i64 id, .slice A4 n4 c4] (l5Best_any m A n c ps A2 n2 c2 vs s id A4 n4 c4 cs _ (Rk ha (Sb c194 s195 nkk)) (Rk hb (Sb c194 s195 nkk)) (by omega) (by omega) hfm2 hv9 hs hfa (Rk hc4 (Sb c194 s195 nkk)) (by omega) hco9.2 (.inr hco)) ?_
     rintro e w205 ⟨A196, n197, c198, rfl, ho199, b204⟩
     have s206 := SG.of_below s195 b204
     refine ⟨_, rfl, s206, ?_⟩
     apply F.nx
     have ho207 := own_kept ho186 b204
     have ho200 := own_base (base' := w.heap.size) ho199 z201
     have bd212 := least_bd (ps := ps) (vs := vs) (s := s) (id := id) hco9.2
     refine Fv (.tuple #[.slice A196 n197 c198, .int .i64 (leastOf (bestR ps vs s id cs))]) ?_
     refine Fq (.slice A196 n197 c198) (r_extract (vs := #[.slice A196 n197 c198, .int .i64 (leastOf (bestR ps vs s id cs))]) rfl ek kk) ?_
     refine Fq (.int .i64 (leastOf (bestR ps vs s id cs))) (r_extract (vs := #[.slice A196 n197 c198, .int .i64 (leastOf (bestR ps vs s id cs))]) rfl ek kk) ?_
     refine Fa (.slice A196 n197 c198) ?_
     refine Fa (.int .i64 (leastOf (bestR ps vs s id cs))) ?_
     apply F.es
     have x6 := Sk s206 x6 onn
     have x13 := Sk s206 x13 onn
     have c213 := (Sb c194 s206 nkk)
     apply h14
     refine wk fun K15 h15 => ?_
     refine wk fun K16 h16 => ?_
     refine W.region_plain (row := none) [(0, false), (1, false), (2, false), (3, false), (4, false), (5, true), (6, false), (7, false)] kk ?_
     have s214 := SG.self w205 none
     refine Fv (.int .i64 (leastOf (bestR ps vs s id cs))) ?_
     by_cases q215 : ((leastOf (bestR ps vs s id cs)) : Int) < (0 : Int)
     ·refine Fq (.bool true) (r_lss (m := (leastOf (bestR ps vs s id cs))) (n := 0) rfl ek ek (dt q215)) ?_
      refine Fv (.bool true) ?_
      refine Fs s214 ?_
      refine Fs s214 ?_
      refine Fs s214 ?_
      refine Fs s214 ?_
      refine Fq (.bool true) (r_pick (b := true) rfl ek ek) ?_
      apply F.es
      have x6 := Sk s214 x6 onn
      have x13 := Sk s214 x13 onn
      have c216 := (Sb c213 s214 nkk)
      apply h16
      refine wp_cond_true ek ?_
      refine wk fun K17 h17 => ?_
      refine Rq 2 ?_
      refine Fa (.int .i64 0) ?_
      refine Fa (.bool false) ?_
      apply F.es
      apply h17
      refine wp_ret ?_
      try simp only [Exit.then]
      refine ret2 (v := .int .i64 0) (x := .bool false) rfl kk kk ?_
      have e7 : (bestR ps vs s id cs).isSome = false := least_no hco9.2 (by omega)
      have e8 : NewValveGain_v1 m ps vs s id x cs = false := by unfold NewValveGain_v1; rw [q22, q26, decide_eq_true (by omega), e7]; try rfl
      exact ⟨by unfold NewValveGain_v0; rw [if_neg (by rw [e8]; simp), e8], c216⟩
     refine Fq (.bool false) (r_lss (m := (leastOf (bestR ps vs s id cs))) (n := 0) rfl ek ek (df q215)) ?_
     refine Fv (.bool false) ?_
     refine Fq (.agg #[.int .i64 m, .slice A n c]) (r_load2 rfl ek kk kk (sgS (blk_cell (j := 0) x6 kk) onn) (sgS (blk_cell (j := 1) x6 kk) onn)) ?_
     refine Fv (.slice A183 (((0 + k2) + 1) + (n2 - k2)) cap184) ?_
     refine Fc [.agg #[.int .i64 m, .slice A n c], .slice A183 (((0 + k2) + 1) + (n2 - k2)) cap184] (l4Good_any m A n c ps A183 (((0 + k2) + 1) + (n2 - k2)) cap184 (((vs.take k2) ++ [x]) ++ (vs.drop k2)) _ (Rk ha (Sb c213 s214 nkk)) (own_rd ho207) (by omega) (by omega)) ?_
     rintro e w218 ⟨rfl, b217⟩
     have s219 := SG.of_below s214 b217
     refine ⟨_, rfl, s219, ?_⟩
     apply F.nx
     have ho220 := own_kept ho207 b217
     have ho221 := own_kept ho200 b217
     rcases Bool.eq_false_or_eq_true (goodV m ps (((vs.take k2) ++ [x]) ++ (vs.drop k2))) with q222 | q222
     ·rw [q222]
      have hvm := goodV_of q222
      refine Fq (.bool false) (r_not (b := true) rfl ek rfl) ?_
      refine Fq (.bool false) (r_pick (b := false) rfl ek ek) ?_
      apply F.es
      have x6 := Sk s219 x6 onn
      have x13 := Sk s219 x13 onn
      have c223 := (Sb c213 s219 nkk)
      apply h16
      refine wp_cond_false ek ?_
      apply wp_skip
      apply h15
      refine wk fun K18 h18 => ?_
      refine W.region_plain (row := none) [(0, false), (1, false), (2, false), (3, false), (4, false), (5, true), (6, false), (7, false), (8, false), (9, false), (10, false)] kk ?_
      have s224 := SG.self w218 none
      refine Fq (.agg #[.int .i64 m, .slice A n c]) (r_load2 rfl ek kk kk (sgS (blk_cell (j := 0) x6 kk) onn) (sgS (blk_cell (j := 1) x6 kk) onn)) ?_
      refine Fv (.slice A183 (((0 + k2) + 1) + (n2 - k2)) cap184) ?_
      refine Fv (.int .i64 s) ?_
      refine Fv (.int .i64 id) ?_
      refine Fv (.slice A4 n4 c4) ?_
      have lr232 := World.ownsRow.lt ho220
      have lr233 := World.ownsRow.lt ho221
      have z230 := ((Sb c223 s224 nkk)).size
      refine Fc [.agg #[.int .i64 m, .slice A n c], .slice A183 (((0 + k2) + 1) + (n2 - k2)) cap184, .int .i64 s, .int .i64 id, .slice A4 n4 c4] (l5Best_any m A n c ps A183 (((0 + k2) + 1) + (n2 - k2)) cap184 (((vs.take k2) ++ [x]) ++ (vs.drop k2)) s id A4 n4 c4 cs _ (Rk ha (Sb c223 s224 nkk)) (own_rd ho220) (by omega) (by omega) (own_fm ho220) hvm hs hfa (Rk hc4 (Sb c223 s224 nkk)) (by omega) hco9.2 (.inr hco)) ?_
      rintro e w235 ⟨A225, n226, c227, rfl, ho228, b234⟩
      have s236 := SG.of_below s224 b234
      refine ⟨_, rfl, s236, ?_⟩
      apply F.nx
      have bd244 := least_bd (ps := ps) (vs := (((vs.take k2) ++ [x]) ++ (vs.drop k2))) (s := s) (id := id) hco9.2
      refine Fv (.tuple #[.slice A225 n226 c227, .int .i64 (leastOf (bestR ps (((vs.take k2) ++ [x]) ++ (vs.drop k2)) s id cs))]) ?_
      refine Fq (.slice A225 n226 c227) (r_extract (vs := #[.slice A225 n226 c227, .int .i64 (leastOf (bestR ps (((vs.take k2) ++ [x]) ++ (vs.drop k2)) s id cs))]) rfl ek kk) ?_
      refine Fq (.int .i64 (leastOf (bestR ps (((vs.take k2) ++ [x]) ++ (vs.drop k2)) s id cs))) (r_extract (vs := #[.slice A225 n226 c227, .int .i64 (leastOf (bestR ps (((vs.take k2) ++ [x]) ++ (vs.drop k2)) s id cs))]) rfl ek kk) ?_
      refine Fa (.slice A225 n226 c227) ?_
      refine Fa (.int .i64 (leastOf (bestR ps (((vs.take k2) ++ [x]) ++ (vs.drop k2)) s id cs))) ?_
      apply F.es
      have x6 := Sk s236 x6 onn
      have x13 := Sk s236 x13 onn
      have c245 := (Sb c223 s236 nkk)
      apply h18
      refine wk fun K19 h19 => ?_
      refine Rq 5 ?_
      refine Fv (.int .i64 (leastOf (bestR ps vs s id cs))) ?_
      refine Fv (.int .i64 (leastOf (bestR ps (((vs.take k2) ++ [x]) ++ (vs.drop k2)) s id cs))) ?_
      refine Fq (.int .i64 ((leastOf (bestR ps vs s id cs)) - (leastOf (bestR ps (((vs.take k2) ++ [x]) ++ (vs.drop k2)) s id cs)))) (r_sub (m := (leastOf (bestR ps vs s id cs))) (n := (leastOf (bestR ps (((vs.take k2) ++ [x]) ++ (vs.drop k2)) s id cs))) (z := (leastOf (bestR ps vs s id cs)) - (leastOf (bestR ps (((vs.take k2) ++ [x]) ++ (vs.drop k2)) s id cs))) rfl ek ek (rfl) (by omega)) ?_
      refine Fa (.int .i64 ((leastOf (bestR ps vs s id cs)) - (leastOf (bestR ps (((vs.take k2) ++ [x]) ++ (vs.drop k2)) s id cs)))) ?_
      refine Fa (.bool true) ?_
      apply F.es
      apply h19
      refine wp_ret ?_
      try simp only [Exit.then]
      refine ret2 (v := .int .i64 ((leastOf (bestR ps vs s id cs)) - (leastOf (bestR ps (((vs.take k2) ++ [x]) ++ (vs.drop k2)) s id cs)))) (x := .bool true) rfl kk kk ?_
      have e7 : (bestR ps vs s id cs).isSome = true := least_yes (by omega)
      have hm9 : moreV vs x = ((vs.take k2) ++ [x]) ++ (vs.drop k2) := by unfold moreV insV; rw [hkk, List.append_assoc]; try rfl
      have e8 : NewValveGain_v1 m ps vs s id x cs = true := by unfold NewValveGain_v1; rw [q22, q26, decide_eq_true (by omega), e7, hm9, q222]; try rfl
      exact ⟨by unfold NewValveGain_v0; rw [if_pos e8, e8, hm9], c245⟩
     rw [q222]
     refine Fq (.bool true) (r_not (b := false) rfl ek rfl) ?_
     refine Fq (.bool true) (r_pick (b := false) rfl ek ek) ?_
     apply F.es
     have x6 := Sk s219 x6 onn
     have x13 := Sk s219 x13 onn
     have c246 := (Sb c213 s219 nkk)
     apply h16
     refine wp_cond_true ek ?_
     refine wk fun K20 h20 => ?_
     refine Rq 2 ?_
     refine Fa (.int .i64 0) ?_
     refine Fa (.bool false) ?_
     apply F.es
     apply h20
     refine wp_ret ?_
     try simp only [Exit.then]
     refine ret2 (v := .int .i64 0) (x := .bool false) rfl kk kk ?_
     have e7 : (bestR ps vs s id cs).isSome = true := least_yes (by omega)
     have hm9 : moreV vs x = ((vs.take k2) ++ [x]) ++ (vs.drop k2) := by unfold moreV insV; rw [hkk, List.append_assoc]; try rfl
     have e8 : NewValveGain_v1 m ps vs s id x cs = false := by unfold NewValveGain_v1; rw [q22, q26, decide_eq_true (by omega), e7, hm9, q222]; try rfl
     exact ⟨by unfold NewValveGain_v0; rw [if_neg (by rw [e8]; simp), e8], c246⟩
    refine W.sn (fun b => .slice (some ⟨b, 0, none⟩) 1 1) #[.int .i64 x.id, .int .i64 x.pipe, .int .i64 x.node, .bool x.shut] 40 s36 rfl kk rfl (fun _ => by kernel_rfl) (fun b247 w248 hb249 k250 x251 s252 => ?_)
    apply F.nx
    have lo253 : w.heap.size ≤ b247 := Nl ((Sb c33 s36 nkk)).size (Nat.le_of_eq hb249)
    refine W.sn (fun b => .slice (some ⟨b, 0, none⟩) 0 0) #[] 40 s252 rfl kk rfl (fun _ => by kernel_rfl) (fun b256 w257 hb258 k259 x260 s261 => ?_)
    apply F.nx
    have lo262 : w.heap.size ≤ b256 := Nl ((Sb c33 s252 nkk)).size (Nat.le_of_eq hb258)
    have ne265 : b247 ≠ b256 := Nat.ne_of_lt (Nat.lt_of_lt_of_eq (blk_lt x251) hb258)
    have x251 := (k259.block _ (blk_lt x251)).trans x251
    have ho266 := own_empty (base := w.heap.size) (size := 4) x260 lo262
    replace ho266 : World.ownsRow _ _ _ _ _ _ (valvesV []) := ho266
    have nb269 : Nb b247 (.slice (some ⟨b256, 0, none⟩) 0 0) := nb_new ne265
    replace ho266 : World.ownsRow _ _ _ _ _ _ (valvesV []) := ho266
    refine W.sapR (e := 40) (size := 4) (base := w.heap.size) (v := .slice (some ⟨b256, 0, none⟩) 0 0) (A := A2) (m := k2) (c := c2) s261 rfl rfl rfl rfl kk kk kk ho266 (Rd.toV (Rk hb (Sb c33 s261 nkk)) (by omega)) (Fm.to hfm2 (by have := (hfm2).le; omega)) (valves_one _) (by omega) (by have := ((Sb c33 s261 nkk)).size; omega) (.inr (fun kq e => by have := (s252).size; have := hb258; have e' := Option.some.inj e; simp at e'; omega)) (fun A270 cap271 w272 ho273 hg274 hat275 s276 => ?_)
    apply F.nx
    have x251 := (hg274.block _ (blk_lt x251) nb269).trans x251
    have ho273 := own_joinV ho273
    have fr280 : ∀ kq, (.slice A270 (0 + k2) cap271 : Value).ownBlock = some kq → wlj1.heap.size ≤ kq := fun kq e => by
      have hs := (s261).size
      rcases hat275 with h | h
      · exact (show ∀ kq, Value.ownBlock _ = some kq → wlj1.heap.size ≤ kq from (fun kq e => by have := (s252).size; have := hb258; have e' := Option.some.inj e; simp at e'; omega)) kq (h.symm.trans e)
      · have := Option.some.inj (h.symm.trans e); omega
    replace ho273 : World.ownsRow _ _ _ _ _ _ (valvesV (vs.take k2)) := ho273
    refine W.sap (e := 40) (size := 4) (base := w.heap.size) (m := 1) (v := .slice A270 (0 + k2) cap271) (c := 1) s276 rfl rfl rfl rfl kk kk kk ho273 x251 kk kk (by omega) (by omega) (by have := ((Sb c33 s276 nkk)).size; omega) (.inr fr280) (fun g281 cap282 w283 ho284 hg285 hat286 hlt287 s288 => ?_)
    apply F.nx
    have ho284 := own_snocV (x := x) ho284
    have fr292 : ∀ kq, (.slice (some ⟨g281, 0, none⟩) ((0 + k2) + 1) cap282 : Value).ownBlock = some kq → wlj1.heap.size ≤ kq := fun kq e => by
      have hs := (s276).size
      have e' : g281 = kq := by simpa [Value.ownBlock] using e
      rcases hat286 with h | h
      · exact (show ∀ kq, Value.ownBlock _ = some kq → wlj1.heap.size ≤ kq from fr280) kq (by rw [← e']; exact h)
      · omega
    refine W.sapR (e := 40) (size := 4) (base := w.heap.size) (v := .slice (some ⟨g281, 0, none⟩) ((0 + k2) + 1) cap282) (A := (sFrom A2 c2 k2 4)) (m := (n2 - k2)) (c := (c2 - k2)) s288 rfl rfl rfl rfl kk kk kk ho284 (Rd.fromV (Rk hb (Sb c33 s288 nkk)) (by omega) (hfm2).le) (Fm.from (size := 4) hfm2 (by omega)) (valves_one _) (by omega) (by have := ((Sb c33 s288 nkk)).size; omega) (.inr fr292) (fun A293 cap294 w295 ho296 hg297 hat298 s299 => ?_)
    apply F.nx
    have ho296 := own_joinV ho296
    have fr303 : ∀ kq, (.slice A293 (((0 + k2) + 1) + (n2 - k2)) cap294 : Value).ownBlock = some kq → wlj1.heap.size ≤ kq := fun kq e => by
      have hs := (s288).size
      rcases hat298 with h | h
      · exact (show ∀ kq, Value.ownBlock _ = some kq → wlj1.heap.size ≤ kq from fr292) kq (h.symm.trans e)
      · have := Option.some.inj (h.symm.trans e); omega
    refine Fa (.slice A293 (((0 + k2) + 1) + (n2 - k2)) cap294) ?_
    apply F.es
    have x6 := Sk s299 x6 onn
    have x13 := Sk s299 x13 onn
    have c304 := (Sb c33 s299 nkk)
    apply h6
    refine wk fun K21 h21 => ?_
    refine W.region_plain (row := none) [(0, false), (1, false), (2, false), (3, false), (4, false), (5, true), (6, false), (7, false), (8, false), (9, false), (10, false)] kk ?_
    have s305 := SG.self w295 none
    refine Fq (.agg #[.int .i64 m, .slice A n c]) (r_load2 rfl ek kk kk (sgS (blk_cell (j := 0) x6 kk) onn) (sgS (blk_cell (j := 1) x6 kk) onn)) ?_
    refine Fv (.slice A2 n2 c2) ?_
    refine Fv (.int .i64 s) ?_
    refine Fv (.int .i64 id) ?_
    refine Fv (.slice A4 n4 c4) ?_
    have lr313 := World.ownsRow.lt ho296
    have z311 := ((Sb c304 s305 nkk)).size
    refine Fc [.agg #[.int .i64 m, .slice A n c], .slice A2 n2 c2, .int .i64 s, .int .i64 id, .slice A4 n4 c4] (l5Best_any m A n c ps A2 n2 c2 vs s id A4 n4 c4 cs _ (Rk ha (Sb c304 s305 nkk)) (Rk hb (Sb c304 s305 nkk)) (by omega) (by omega) hfm2 hv9 hs hfa (Rk hc4 (Sb c304 s305 nkk)) (by omega) hco9.2 (.inr hco)) ?_
    rintro e w315 ⟨A306, n307, c308, rfl, ho309, b314⟩
    have s316 := SG.of_below s305 b314
    refine ⟨_, rfl, s316, ?_⟩
    apply F.nx
    have ho317 := own_kept ho296 b314
    have ho310 := own_base (base' := w.heap.size) ho309 z311
    have bd322 := least_bd (ps := ps) (vs := vs) (s := s) (id := id) hco9.2
    refine Fv (.tuple #[.slice A306 n307 c308, .int .i64 (leastOf (bestR ps vs s id cs))]) ?_
    refine Fq (.slice A306 n307 c308) (r_extract (vs := #[.slice A306 n307 c308, .int .i64 (leastOf (bestR ps vs s id cs))]) rfl ek kk) ?_
    refine Fq (.int .i64 (leastOf (bestR ps vs s id cs))) (r_extract (vs := #[.slice A306 n307 c308, .int .i64 (leastOf (bestR ps vs s id cs))]) rfl ek kk) ?_
    refine Fa (.slice A306 n307 c308) ?_
    refine Fa (.int .i64 (leastOf (bestR ps vs s id cs))) ?_
    apply F.es
    have x6 := Sk s316 x6 onn
    have x13 := Sk s316 x13 onn
    have c323 := (Sb c304 s316 nkk)
    apply h21
    refine wk fun K22 h22 => ?_
    refine wk fun K23 h23 => ?_
    refine W.region_plain (row := none) [(0, false), (1, false), (2, false), (3, false), (4, false), (5, true), (6, false), (7, false)] kk ?_
    have s324 := SG.self w315 none
    refine Fv (.int .i64 (leastOf (bestR ps vs s id cs))) ?_
    by_cases q325 : ((leastOf (bestR ps vs s id cs)) : Int) < (0 : Int)
    ·refine Fq (.bool true) (r_lss (m := (leastOf (bestR ps vs s id cs))) (n := 0) rfl ek ek (dt q325)) ?_
     refine Fv (.bool true) ?_
     refine Fs s324 ?_
     refine Fs s324 ?_
     refine Fs s324 ?_
     refine Fs s324 ?_
     refine Fq (.bool true) (r_pick (b := true) rfl ek ek) ?_
     apply F.es
     have x6 := Sk s324 x6 onn
     have x13 := Sk s324 x13 onn
     have c326 := (Sb c323 s324 nkk)
     apply h23
     refine wp_cond_true ek ?_
     refine wk fun K24 h24 => ?_
     refine Rq 2 ?_
     refine Fa (.int .i64 0) ?_
     refine Fa (.bool false) ?_
     apply F.es
     apply h24
     refine wp_ret ?_
     try simp only [Exit.then]
     refine ret2 (v := .int .i64 0) (x := .bool false) rfl kk kk ?_
     have e7 : (bestR ps vs s id cs).isSome = false := least_no hco9.2 (by omega)
     have e8 : NewValveGain_v1 m ps vs s id x cs = false := by unfold NewValveGain_v1; rw [q22, q26, decide_eq_true (by omega), e7]; try rfl
     exact ⟨by unfold NewValveGain_v0; rw [if_neg (by rw [e8]; simp), e8], c326⟩
    refine Fq (.bool false) (r_lss (m := (leastOf (bestR ps vs s id cs))) (n := 0) rfl ek ek (df q325)) ?_
    refine Fv (.bool false) ?_
    refine Fq (.agg #[.int .i64 m, .slice A n c]) (r_load2 rfl ek kk kk (sgS (blk_cell (j := 0) x6 kk) onn) (sgS (blk_cell (j := 1) x6 kk) onn)) ?_
    refine Fv (.slice A293 (((0 + k2) + 1) + (n2 - k2)) cap294) ?_
    refine Fc [.agg #[.int .i64 m, .slice A n c], .slice A293 (((0 + k2) + 1) + (n2 - k2)) cap294] (l4Good_any m A n c ps A293 (((0 + k2) + 1) + (n2 - k2)) cap294 (((vs.take k2) ++ [x]) ++ (vs.drop k2)) _ (Rk ha (Sb c323 s324 nkk)) (own_rd ho317) (by omega) (by omega)) ?_
    rintro e w328 ⟨rfl, b327⟩
    have s329 := SG.of_below s324 b327
    refine ⟨_, rfl, s329, ?_⟩
    apply F.nx
    have ho330 := own_kept ho317 b327
    have ho331 := own_kept ho310 b327
    rcases Bool.eq_false_or_eq_true (goodV m ps (((vs.take k2) ++ [x]) ++ (vs.drop k2))) with q332 | q332
    ·rw [q332]
     have hvm := goodV_of q332
     refine Fq (.bool false) (r_not (b := true) rfl ek rfl) ?_
     refine Fq (.bool false) (r_pick (b := false) rfl ek ek) ?_
     apply F.es
     have x6 := Sk s329 x6 onn
     have x13 := Sk s329 x13 onn
     have c333 := (Sb c323 s329 nkk)
     apply h23
     refine wp_cond_false ek ?_
     apply wp_skip
     apply h22
     refine wk fun K25 h25 => ?_
     refine W.region_plain (row := none) [(0, false), (1, false), (2, false), (3, false), (4, false), (5, true), (6, false), (7, false), (8, false), (9, false), (10, false)] kk ?_
     have s334 := SG.self w328 none
     refine Fq (.agg #[.int .i64 m, .slice A n c]) (r_load2 rfl ek kk kk (sgS (blk_cell (j := 0) x6 kk) onn) (sgS (blk_cell (j := 1) x6 kk) onn)) ?_
     refine Fv (.slice A293 (((0 + k2) + 1) + (n2 - k2)) cap294) ?_
     refine Fv (.int .i64 s) ?_
     refine Fv (.int .i64 id) ?_
     refine Fv (.slice A4 n4 c4) ?_
     have lr342 := World.ownsRow.lt ho330
     have lr343 := World.ownsRow.lt ho331
     have z340 := ((Sb c333 s334 nkk)).size
     refine Fc [.agg #[.int .i64 m, .slice A n c], .slice A293 (((0 + k2) + 1) + (n2 - k2)) cap294, .int .i64 s, .int .i64 id, .slice A4 n4 c4] (l5Best_any m A n c ps A293 (((0 + k2) + 1) + (n2 - k2)) cap294 (((vs.take k2) ++ [x]) ++ (vs.drop k2)) s id A4 n4 c4 cs _ (Rk ha (Sb c333 s334 nkk)) (own_rd ho330) (by omega) (by omega) (own_fm ho330) hvm hs hfa (Rk hc4 (Sb c333 s334 nkk)) (by omega) hco9.2 (.inr hco)) ?_
     rintro e w345 ⟨A335, n336, c337, rfl, ho338, b344⟩
     have s346 := SG.of_below s334 b344
     refine ⟨_, rfl, s346, ?_⟩
     apply F.nx
     have bd354 := least_bd (ps := ps) (vs := (((vs.take k2) ++ [x]) ++ (vs.drop k2))) (s := s) (id := id) hco9.2
     refine Fv (.tuple #[.slice A335 n336 c337, .int .i64 (leastOf (bestR ps (((vs.take k2) ++ [x]) ++ (vs.drop k2)) s id cs))]) ?_
     refine Fq (.slice A335 n336 c337) (r_extract (vs := #[.slice A335 n336 c337, .int .i64 (leastOf (bestR ps (((vs.take k2) ++ [x]) ++ (vs.drop k2)) s id cs))]) rfl ek kk) ?_
     refine Fq (.int .i64 (leastOf (bestR ps (((vs.take k2) ++ [x]) ++ (vs.drop k2)) s id cs))) (r_extract (vs := #[.slice A335 n336 c337, .int .i64 (leastOf (bestR ps (((vs.take k2) ++ [x]) ++ (vs.drop k2)) s id cs))]) rfl ek kk) ?_
     refine Fa (.slice A335 n336 c337) ?_
     refine Fa (.int .i64 (leastOf (bestR ps (((vs.take k2) ++ [x]) ++ (vs.drop k2)) s id cs))) ?_
     apply F.es
     have x6 := Sk s346 x6 onn
     have x13 := Sk s346 x13 onn
     have c355 := (Sb c333 s346 nkk)
     apply h25
     refine wk fun K26 h26 => ?_
     refine Rq 5 ?_
     refine Fv (.int .i64 (leastOf (bestR ps vs s id cs))) ?_
     refine Fv (.int .i64 (leastOf (bestR ps (((vs.take k2) ++ [x]) ++ (vs.drop k2)) s id cs))) ?_
     refine Fq (.int .i64 ((leastOf (bestR ps vs s id cs)) - (leastOf (bestR ps (((vs.take k2) ++ [x]) ++ (vs.drop k2)) s id cs)))) (r_sub (m := (leastOf (bestR ps vs s id cs))) (n := (leastOf (bestR ps (((vs.take k2) ++ [x]) ++ (vs.drop k2)) s id cs))) (z := (leastOf (bestR ps vs s id cs)) - (leastOf (bestR ps (((vs.take k2) ++ [x]) ++ (vs.drop k2)) s id cs))) rfl ek ek (rfl) (by omega)) ?_
     refine Fa (.int .i64 ((leastOf (bestR ps vs s id cs)) - (leastOf (bestR ps (((vs.take k2) ++ [x]) ++ (vs.drop k2)) s id cs)))) ?_
     refine Fa (.bool true) ?_
     apply F.es
     apply h26
     refine wp_ret ?_
     try simp only [Exit.then]
     refine ret2 (v := .int .i64 ((leastOf (bestR ps vs s id cs)) - (leastOf (bestR ps (((vs.take k2) ++ [x]) ++ (vs.drop k2)) s id cs)))) (x := .bool true) rfl kk kk ?_
     have e7 : (bestR ps vs s id cs).isSome = true := least_yes (by omega)
     have hm9 : moreV vs x = ((vs.take k2) ++ [x]) ++ (vs.drop k2) := by unfold moreV insV; rw [hkk, List.append_assoc]; try rfl
     have e8 : NewValveGain_v1 m ps vs s id x cs = true := by unfold NewValveGain_v1; rw [q22, q26, decide_eq_true (by omega), e7, hm9, q332]; try rfl
     exact ⟨by unfold NewValveGain_v0; rw [if_pos e8, e8, hm9], c355⟩
    rw [q332]
    refine Fq (.bool true) (r_not (b := false) rfl ek rfl) ?_
    refine Fq (.bool true) (r_pick (b := false) rfl ek ek) ?_
    apply F.es
    have x6 := Sk s329 x6 onn
    have x13 := Sk s329 x13 onn
    have c356 := (Sb c323 s329 nkk)
    apply h23
    refine wp_cond_true ek ?_
    refine wk fun K27 h27 => ?_
    refine Rq 2 ?_
    refine Fa (.int .i64 0) ?_
    refine Fa (.bool false) ?_
    apply F.es
    apply h27
    refine wp_ret ?_
    try simp only [Exit.then]
    refine ret2 (v := .int .i64 0) (x := .bool false) rfl kk kk ?_
    have e7 : (bestR ps vs s id cs).isSome = true := least_yes (by omega)
    have hm9 : moreV vs x = ((vs.take k2) ++ [x]) ++ (vs.drop k2) := by unfold moreV insV; rw [hkk, List.append_assoc]; try rfl
    have e8 : NewValveGain_v1 m ps vs s id x cs = false := by unfold NewValveGain_v1; rw [q22, q26, decide_eq_true (by omega), e7, hm9, q332]; try rfl
    exact ⟨by unfold NewValveGain_v0; rw [if_neg (by rw [e8]; simp), e8], c356⟩
   intro K28 h28
   refine wp_block ?_
   refine loopK (fun am0 aa0 wl0 => ∃ (k : Nat) , Kn aa0 [(0, .agg #[.int .i64 m, .slice A n c]), (1, .slice A2 n2 c2), (2, .int .i64 s), (3, .int .i64 id), (4, .agg #[.int .i64 x.id, .int .i64 x.pipe, .int .i64 x.node, .bool x.shut]), (5, .slice A4 n4 c4), (6, .pointer (some ⟨b2, 0, none⟩)), (10, .pointer (some ⟨b9, 0, none⟩)), (12, .int .i64 0), (13, .bool false), (14, .int .i64 (k : Int)), (38, .bool false)] 96 ∧ (am0 = n2 - k) ∧ (k ≤ n2) ∧ (∀ j z, j < k → vs[j]? = some z → z.id < x.id) ∧ (wl0.heap[b2]? = some (.cells #[.int .i64 m, .slice A n c] 26 (0, 0))) ∧ (wl0.heap[b9]? = some (.cells #[.int .i64 x.id, .int .i64 x.pipe, .int .i64 x.node, .bool x.shut] 40 (0, 0))) ∧ (Below w.heap.size w wl0)) (n2 - 0) ?_ ?_
   ·exact ⟨0, Kn.of, rfl, (Nat.zero_le _), (fun j z hj => absurd hj (by omega)), x6, x13, c32⟩
   rintro am0 aa0 wl0 K29 h29 ⟨k, ⟨U0, rfl⟩, rfl, hk, hpre, x6, x13, c357⟩
   refine wk fun K30 h30 => ?_
   refine wk fun K31 h31 => ?_
   refine W.region_sch (row := none) (Sch.of [(0, false), (1, false), (2, false), (3, false), (4, false), (5, false), (6, false), (7, false), (8, false), (9, false), (10, false), (11, false), (12, false), (13, false)]) kk kk (fun _ d _ _ _ h => by cases d <;> exact h) kk (fun w358 e359 s360 => ?_)
   refine Fv (.int .i64 (k : Int)) ?_
   refine Fv (.slice A2 n2 c2) ?_
   refine Fq (.int .i64 (n2 : Int)) (r_len (A := A2) (n := n2) (c := c2) rfl ek kk) ?_
   by_cases q361 : ((k : Int) : Int) < ((n2 : Int) : Int)
   ·refine Fq (.bool true) (r_lss (m := (k : Int)) (n := (n2 : Int)) rfl ek ek (dt q361)) ?_
    refine Fv (.bool true) ?_
    refine Fv (.slice A2 n2 c2) ?_
    refine Fv (.int .i64 (k : Int)) ?_
    obtain ⟨x362, hx363⟩ := get_of (zs := vs) (k := k) (by have := hl2; omega)
    obtain ⟨b364, o365, hA366, hb367, hc368, hc369, hc370, hc371⟩ := Rd.elValve hb hx363
    refine Fq (.pointer (some ⟨b364, o365 + k * 4, none⟩)) (r_idx (n := n2) (c := c2) (k := k) rfl ek hA366 kk kk (by have := hl2; omega)) ?_
    refine Fq (.pointer (some ⟨b364, o365 + k * 4, none⟩)) (r_field0 rfl ek kk) ?_
    refine Fl (.int .i64 x362.id) (sgS (later c357 hc368) (by simp)) ?_
    refine Fq (.pointer (some ⟨b9, 0, none⟩)) (r_field0 rfl ek kk) ?_
    refine Fl (.int .i64 x.id) (sgS (blk_cell (j := 0) x13 kk) onn) ?_
    by_cases q372 : (x362.id : Int) < (x.id : Int)
    ·refine Fq (.bool true) (r_lss (m := x362.id) (n := x.id) rfl ek ek (dt q372)) ?_
     refine Fq (.bool true) (r_pick (b := true) rfl ek ek) ?_
     apply F.es
     have x6 := Sk s360 x6 onn
     have x13 := Sk s360 x13 onn
     have c373 := (Sb c357 s360 nkk)
     apply h31
     refine wp_cond_true ek ?_
     apply wp_skip
     apply h30
     refine wp_block ?_
     refine Rq 3 ?_
     refine Fv (.int .i64 (k : Int)) ?_
     refine Fq (.int .i64 ((k + 1 : Nat) : Int)) (r_add (m := (k : Int)) (n := 1) (z := ((k + 1 : Nat) : Int)) rfl ek ek (by omega) (by omega)) ?_
     refine Fa (.int .i64 ((k + 1 : Nat) : Int)) ?_
     apply F.es
     exact h29 _ _ _ (by omega : (n2 - (k + 1)) < _) ⟨k + 1, Kn.of, rfl, (by omega), (upto_succ (Q := fun z => z.id < x.id) hpre hx363 (by omega)), x6, x13, c373⟩
    refine Fq (.bool false) (r_lss (m := x362.id) (n := x.id) rfl ek ek (df q372)) ?_
    refine Fq (.bool false) (r_pick (b := true) rfl ek ek) ?_
    apply F.es
    have x6 := Sk s360 x6 onn
    have x13 := Sk s360 x13 onn
    have c374 := (Sb c357 s360 nkk)
    apply h31
    refine wp_cond_false ek ?_
    refine wp_exit ?_
    have hkk9 : insAt vs x.id = k := insAt_at hpre (by omega) (fun z9 hz9 => by rw [hx363] at hz9; cases hz9; omega)
    exact h28 _ _ _ ⟨k, Kn.of, rfl, (by omega), hkk9, x6, x13, c374⟩
   refine Fq (.bool false) (r_lss (m := (k : Int)) (n := (n2 : Int)) rfl ek ek (df q361)) ?_
   refine Fv (.bool false) ?_
   refine Fs s360 ?_
   refine Fs s360 ?_
   refine Fs s360 ?_
   refine Fs s360 ?_
   refine Fs s360 ?_
   refine Fs s360 ?_
   refine Fs s360 ?_
   refine Fs s360 ?_
   refine Fq (.bool false) (r_pick (b := false) rfl ek ek) ?_
   apply F.es
   have x6 := Sk s360 x6 onn
   have x13 := Sk s360 x13 onn
   have c375 := (Sb c357 s360 nkk)
   apply h31
   refine wp_cond_false ek ?_
   refine wp_exit ?_
   have hkk9 : insAt vs x.id = k := insAt_at hpre (by omega) (fun z9 hz9 => by have h8 := (List.getElem?_eq_some_iff.1 hz9).1; omega)
   exact h28 _ _ _ ⟨k, Kn.of, rfl, (by omega), hkk9, x6, x13, c375⟩
  rw [q26]
  refine Fq (.bool true) (r_not (b := false) rfl ek rfl) ?_
  refine Fq (.bool true) (r_pick (b := false) rfl ek ek) ?_
  refine Fv (.bool true) ?_
  refine Fs s25 ?_
  refine Fs s25 ?_
  refine Fs s25 ?_
  refine Fs s25 ?_
  refine Fs s25 ?_
  refine Fq (.bool true) (r_pick (b := true) rfl ek ek) ?_
  apply F.es
  have c376 := (Sb c17 s25 nkk)
  apply h3
  refine wp_cond_true ek ?_
  refine wk fun K32 h32 => ?_
  refine Rq 2 ?_
  refine Fa (.int .i64 0) ?_
  refine Fa (.bool false) ?_
  apply F.es
  apply h32
  refine wp_ret ?_
  try simp only [Exit.then]
  refine ret2 (v := .int .i64 0) (x := .bool false) rfl kk kk ?_
  have e8 : NewValveGain_v1 m ps vs s id x cs = false := by unfold NewValveGain_v1; rw [q22, q26]; try rfl
  exact ⟨by unfold NewValveGain_v0; rw [if_neg (by rw [e8]; simp), e8], c376⟩
 rw [q22]
 refine Fq (.bool true) (r_not (b := false) rfl ek rfl) ?_
 refine Fv (.bool true) ?_
 refine Fs s21 ?_
 refine Fs s21 ?_
 refine Fs s21 ?_
 refine Fs s21 ?_
 refine Fq (.bool true) (r_pick (b := true) rfl ek ek) ?_
 refine Fv (.bool true) ?_
 refine Fs s21 ?_
 refine Fs s21 ?_
 refine Fs s21 ?_
 refine Fs s21 ?_
 refine Fs s21 ?_
 refine Fq (.bool true) (r_pick (b := true) rfl ek ek) ?_
 apply F.es
 have c377 := (Sb c17 s21 nkk)
 apply h3
 refine wp_cond_true ek ?_
 refine wk fun K33 h33 => ?_
 refine Rq 2 ?_
 refine Fa (.int .i64 0) ?_
 refine Fa (.bool false) ?_
 apply F.es
 apply h33
 refine wp_ret ?_
 try simp only [Exit.then]
 refine ret2 (v := .int .i64 0) (x := .bool false) rfl kk kk ?_
 have e8 : NewValveGain_v1 m ps vs s id x cs = false := by unfold NewValveGain_v1; rw [q22]; try rfl
 exact ⟨by unfold NewValveGain_v0; rw [if_neg (by rw [e8]; simp), e8], c377⟩
end Go.Proofs.Ytdbgfejeleafgaa
namespace Go.Proofs.Ytdbgfejeleafgaa
open Go.RowKit
set_option linter.unusedVariables false
section
variable {P : Program}
theorem run_copy_blk (w : World) (dT sT ty elem : TypeId) (g off dLen dCap : Nat) (a : Addr) (sLen sCap size : Nat) (cs : List Value) (cur : Array Value) (E : TypeId)
    (hu : P.underlying dT = some (.slice elem)) (hs : (P.info? elem).map (·.size) = some size) (hn : cs.length = Nat.min sLen dLen * size)
    (hsrc : ∀ j v, cs[j]? = some v → w.cell? (a.add j) = some v) (hg : w.heap[g]? = some (.cells cur E (0, 0))) (hfit : off + cs.length ≤ cur.size) (h1 : ∀ v ∈ cs, v.oneCell' = true) :
    (Builtin.copy_ #[dT, sT] ty #[.slice (some ⟨g, off, none⟩) dLen dCap, .slice (some a) sLen sCap]).run P w = .ok (goInt (Nat.min sLen dLen)) (w.setRow g (cur.toList.take off ++ cs ++ cur.toList.drop (off + cs.length)).toArray) := by
  have hl := run_loadCells_list (P := P) w a cs hsrc
  have hst := run_storeCells_at P g off E cs 0 cur w hg (by simpa using hfit) h1
  simp only [Nat.add_zero] at hst
  cases hq : P.info? elem with
  | none => simp [hq] at hs
  | some i =>
    have hi : i.size = size := by simpa [hq] using hs
    simp [Builtin.copy_, run_underlying hu, Builtin.lenOf, Builtin.firstCells, sizeOf, typeInfo, hq, hi, ← hn, hl, hst]
theorem grown_row {w : World} {g : Nat} {cs : Array Value} : w.grownBy (w.setRow g cs) (some g) := ⟨rfl, rfl, rfl, by simp [World.setRow], fun k _ hk => setRow_other w g k _ (fun e => hk (by rw [e]))⟩
theorem own_shut {w : World} {base : Nat} {e : TypeId} {size n c g : Nat} {cur : Array Value} {xs : List Value} (hb : base ≤ g) (hh : w.heap[g]? = some (.cells cur e (0, 0))) (hnc : n ≤ c) (hm : c ≤ maxLen) (hs : cur.size = c * size) (ht : cur.toList.take (n * size) = xs) (hl : xs.length = n * size) :
    w.ownsRow base e size (.slice (some ⟨g, 0, none⟩) n c) n xs := ⟨hl, .inr ⟨g, c, cur, rfl, hb, hh, hnc, hm, hs, ht⟩⟩
end
section
variable {P : Program} {ops : Array Oper} {Q : Exit → Act → World → Prop} {W : World} {row : Option Nat}
theorem lv {i : Nat} {π : Sch} {l : List Value} {w w' : World} {o : Oper} {v : Value} {d : Tmp} (hi : ops[i]? = some o) (hw : Region.wanted o (yielded ops l.toArray) = true) (hd : o.dst = some d) (hr : (execOp (Act.mk l.toArray []).eval o).run P w = .ok (.value v) w') (hS : SG W row w')
    (h : wpSch P ops Q (SG W row) π ⟨(l.set d v).toArray, []⟩ w') : wpSch P ops Q (SG W row) (.cons (i, true) π) ⟨l.toArray, []⟩ w := by
  show wpOp P ops Q i _ _ w
  unfold wpOp
  simp only [hi, hw, if_true]
  left
  unfold Oper.wp
  rw [hr, Oper.upon_value]
  refine ⟨hS, ?_⟩
  rw [hd]; simpa [Act.put] using h
theorem W.lv {i : Nat} {π : Sch} {l : List Value} {w w' : World} {o : Oper} {v : Value} {d : Tmp} (hi : ops[i]? = some o) (hw : Region.wanted o (yielded ops l.toArray) = true) (hd : o.dst = some d) (hr : (execOp (Act.mk l.toArray []).eval o).run P w = .ok (.value v) w') (hS : SG W row w')
    (h : Ws P ops Q (SG W row) π (l.set d v) w') : Ws P ops Q (SG W row) (.cons (i, true) π) l w := ⟨Go.Proofs.Ytdbgfejeleafgaa.lv hi hw hd hr hS h.out⟩
theorem run_copyOp {l : List Value} {w w' : World} {o : Oper} {d s : Operand} {dT sT : TypeId} {x y v : Value} (ho : o.op = .call { callee := .builtin .copy, args := #[d, s], argTypes := #[dT, sT] }) (hx : (Act.mk l.toArray []).eval d = x) (hy : (Act.mk l.toArray []).eval s = y)
    (hr : (Builtin.copy_ #[dT, sT] o.type #[x, y]).run P w = .ok v w') : (execOp (Act.mk l.toArray []).eval o).run P w = .ok (.value v) w' := by
  simp [execOp, ho, resolve, invoke, builtin, hx, hy, hr, Result.andThen]
theorem run_appendOp {l : List Value} {w w' : World} {o : Oper} {d s : Operand} {dT sT : TypeId} {x y v : Value} (ho : o.op = .call { callee := .builtin .append, args := #[d, s], argTypes := #[dT, sT] }) (hx : (Act.mk l.toArray []).eval d = x) (hy : (Act.mk l.toArray []).eval s = y)
    (hr : (Builtin.append_ #[dT, sT] o.type #[x, y]).run P w = .ok v w') : (execOp (Act.mk l.toArray []).eval o).run P w = .ok (.value v) w' := by
  simp [execOp, ho, resolve, invoke, builtin, hx, hy, hr, Result.andThen]
end
end Go.Proofs.Ytdbgfejeleafgaa
namespace Go.Proofs.Ytdbgfejeleafgaa
open Go.RowKit
set_option linter.unusedVariables false
set_option linter.unusedSimpArgs false
def spl (L : List Value) (off : Nat) (cs : List Value) : List Value := L.take off ++ cs ++ L.drop (off + cs.length)
theorem spl_len {L : List Value} {off : Nat} {cs : List Value} (h : off + cs.length ≤ L.length) : (spl L off cs).length = L.length := by
  unfold spl; rw [List.length_append, List.length_append, List.length_take, List.length_drop]; omega
theorem ins_A {L P X R : List Value} {i n : Nat} (hL : (n + 1) * 4 ≤ L.length) (hi : i ≤ n) (hP : L.take (i * 4) = P) (hX : X.length = 4) (hR : R.length = (n - i) * 4) : (spl (spl L (i * 4) X) ((i + 1) * 4) R).take ((n + 1) * 4) = P ++ (X ++ R) := by
  have hp : P.length = i * 4 := by rw [← hP, List.length_take]; omega
  have e1 : spl L (i * 4) X = (P ++ X) ++ L.drop (i * 4 + X.length) := by unfold spl; rw [hP]
  have e2 : (spl L (i * 4) X).take ((i + 1) * 4) = P ++ X := by rw [e1]; exact List.take_left' (by rw [List.length_append, hp, hX]; omega)
  unfold spl at e2 ⊢
  rw [e2, ← List.append_assoc]
  exact List.take_left' (by rw [List.length_append, List.length_append, hp, hX, hR]; omega)
theorem ins_B {L P X R : List Value} {i n : Nat} (hL : (n + 1) * 4 ≤ L.length) (hi : i ≤ n) (hP : L.take (i * 4) = P) (hX : X.length = 4) (hR : R.length = (n - i) * 4) : (spl (spl L ((i + 1) * 4) R) (i * 4) X).take ((n + 1) * 4) = P ++ (X ++ R) := by
  have hp : P.length = i * 4 := by rw [← hP, List.length_take]; omega
  have ht : (L.take ((i + 1) * 4)).length = (i + 1) * 4 := by rw [List.length_take]; omega
  have e1 : (spl L ((i + 1) * 4) R).take (i * 4) = P := by
    unfold spl
    rw [List.append_assoc, List.take_append_of_le_length (by rw [ht]; omega), List.take_take, Nat.min_eq_left (by omega), hP]
  have e2 : (spl L ((i + 1) * 4) R).drop (i * 4 + X.length) = R ++ L.drop ((i + 1) * 4 + R.length) := by
    unfold spl
    rw [List.append_assoc]
    exact List.drop_left' (by rw [ht, hX]; omega)
  show ((spl L ((i + 1) * 4) R).take (i * 4) ++ X ++ (spl L ((i + 1) * 4) R).drop (i * 4 + X.length)).take ((n + 1) * 4) = _
  rw [e1, e2, ← List.append_assoc, List.append_assoc P X R |>.symm]
  exact List.take_left' (by rw [List.length_append, List.length_append, hp, hX, hR]; omega)
theorem insInfo : (Try.prog.info? 40).map (fun i => (i.zero, i.size, i.bytes)) = some (some (.agg #[.int .i64 0, .int .i64 0, .int .i64 0, .bool false]), 4, 32) := by kernel_rfl
theorem ins_one (ps : List Vv) : ∀ u ∈ valvesV ps, u.oneCell' = true := valves_one ps
theorem ins_len (ps : List Vv) : (valvesV ps).length = ps.length * 4 := by rw [valvesV_len]
theorem ins_cat (xs ys : List Vv) : valvesV (xs ++ ys) = valvesV xs ++ valvesV ys := by simp [valvesV]
theorem ins_take (ps : List Vv) : ∀ k, valvesV (ps.take k) = (valvesV ps).take (k * 4) := by
  induction ps with
  | nil => intro k; simp [valvesV]
  | cons p ps ih =>
    intro k
    cases k with
    | zero => simp [valvesV]
    | succ k =>
      have e : valvesV (p :: ps) = p.vals ++ valvesV ps := by simp [valvesV]
      rw [List.take_succ_cons, show valvesV (p :: ps.take k) = p.vals ++ valvesV (ps.take k) by simp [valvesV], e, ih k, show (k + 1) * 4 = p.vals.length + k * 4 by simp [Vv.vals]; omega, List.take_length_add_append]
theorem ins_drop (ps : List Vv) : ∀ k, valvesV (ps.drop k) = (valvesV ps).drop (k * 4) := by
  induction ps with
  | nil => intro k; simp [valvesV]
  | cons p ps ih =>
    intro k
    cases k with
    | zero => simp [valvesV]
    | succ k =>
      have e : valvesV (p :: ps) = p.vals ++ valvesV ps := by simp [valvesV]
      rw [List.drop_succ_cons, e, ih k, show (k + 1) * 4 = p.vals.length + k * 4 by simp [Vv.vals]; omega, List.drop_length_add_append]
theorem ins_fin (ps : List Vv) (x : Vv) (i : Nat) : valvesV (ps.take i) ++ (x.vals ++ valvesV (ps.drop i)) = valvesV (ps.take i ++ x :: ps.drop i) := by
  rw [ins_cat]; simp [valvesV]
theorem cells_at {w : World} {g o : Nat} {cur : Array Value} {E : TypeId} {L : List Value} {k : Nat} (hg : w.heap[g]? = some (.cells cur E (0, 0))) (h : (cur.toList.take k).drop o = L) : ∀ j u, L[j]? = some u → w.cell? (Addr.add ⟨g, o, none⟩ j) = some u := fun j u hu => by
  rw [← h, List.getElem?_drop, List.getElem?_take] at hu
  split at hu
  · simp only [Addr.add_lit, World.cell?, hg]; simpa using hu
  · cases hu
theorem r_capS {P : Program} {S : World → Prop} {o : Oper} {a : Act} {x : Operand} {t : TypeId} {A : Option Addr} {n c : Nat} (ho : o.op = .call { callee := .builtin .cap, args := #[x], argTypes := #[t] }) (hx : a.eval x = .slice A n c) (ht : (elSz P t).isSome = true) :
    ∀ w, S w → (execOp a.eval o).run P w = .ok (.value (.int .i64 (c : Int))) w := fun w _ => by
  obtain ⟨s, hs⟩ := Option.isSome_iff_exists.1 ht
  obtain ⟨e, hu, _⟩ := elSz_of hs
  simp [execOp, ho, resolve, invoke, builtin, hx, Builtin.cap_, run_underlying hu, Result.andThen, goInt]
theorem x_one (x : Vv) : ∀ u ∈ x.vals, u.oneCell' = true := fun u hu => ins_one [x] u (by simpa [valvesV] using hu)
theorem x_len (x : Vv) : x.vals.length = 1 * 4 := rfl
theorem r_sliceFrome {P : Program} {S : World → Prop} {o : Oper} {a : Act} {t : TypeId} {x y : Operand} {A A2 : Option Addr} {n c k size : Nat} (ho : o.op = .slice t x (some y) none none) (hx : a.eval x = .slice A n c) (hy : a.eval y = .int .i64 (k : Int)) (ht : elSz P t = some size) (hk : k ≤ n) (e : sFrom A c k size = A2) :
    ∀ w, S w → (execOp a.eval o).run P w = .ok (.value (.slice A2 (n - k) (c - k))) w := by
  subst e
  exact r_sliceFrom ho hx hy ht hk
theorem run_externOp {P : Program} {l : List Value} {w : World} {o : Oper} {f : FuncId} {as9 : Array Operand} {ts : Array TypeId} {vs : List Value} {v : Value} (ho : o.op = .call { callee := .value (.func f), args := as9, argTypes := ts }) (hv : as9.toList.map (Act.mk l.toArray []).eval = vs) (hr : (callFunc f vs.toArray).run P w = .ok (.value v) w) :
    (execOp (Act.mk l.toArray []).eval o).run P w = .ok (.value v) w := by
  have hv' : as9.map (Act.mk l.toArray []).eval = vs.toArray := Array.toList_inj.1 (by rw [Array.toList_map]; exact hv)
  obtain ⟨dst, op, ty, pos, after, guard⟩ := o
  simp only at ho
  subst ho
  have e : execOp (Act.mk l.toArray []).eval ⟨dst, .call { callee := .value (.func f), args := as9, argTypes := ts }, ty, pos, after, guard⟩ = callFunc f (#[] ++ as9.map (Act.mk l.toArray []).eval ++ #[]) := rfl
  rw [e, hv']
  simpa using hr
theorem ov_run (w : World) (vb g o la ca lb cb : Nat) (vc cur : Array Value) (hv : w.heap[vb]? = some (.cells vc 40 (0, 0))) (hh : w.heap[g]? = some (.cells cur 40 (0, 0))) (hne : vb ≠ g) (hk : cur.size ≠ 0) :
    (callFunc 141 #[.slice (some ⟨vb, 0, none⟩) la ca, .slice (some ⟨g, o, none⟩) lb cb]).run Try.prog w = .ok (.value (.bool false)) w := by
  rw [run_callFunc_extern Try.func141 (by kernel_rfl) (by kernel_rfl) (by kernel_rfl) (e := Extern.SlicesOverlaps.overlaps #[27, 27] #[4]) (by kernel_rfl),
    Lib.run_overlaps_apart w 27 4 40 (by kernel_rfl) 4 (run_sizeOf (by kernel_rfl)) ⟨vb, 0, none⟩ ⟨g, o, none⟩ la ca lb cb hne 40 40 vc.size cur.size (by simp [World.shape?, hv]) (by simp [World.shape?, hh]) hk (by simp [World.frozen?, hv]) (by simp [World.frozen?, hv])]
  rfl
theorem run_zeros (w : World) (tn ty : TypeId) (kn : IntKind) (htn : Try.prog.underlying tn = some (.int kn)) (g i c k : Nat) (cur : Array Value) (hg : w.heap[g]? = some (.cells cur 40 (0, 0))) (hs : cur.size = c * 4) (hi : i ≤ c) (h0 : 0 < k) (hgr : c < i + k) (hm : i + k ≤ 1000001) :
    ∃ c2 cur2, (Builtin.append_ #[27, tn] ty #[.slice (some ⟨g, 0, none⟩) i c, .int .i64 k]).run Try.prog w = .ok (.slice (some ⟨w.heap.size, 0, none⟩) (i + k) c2) (w.drew.alloc (.cells cur2 40)) ∧ cur2.size = c2 * 4 ∧ i + k ≤ c2 ∧ c2 ≤ maxLen ∧ cur2.toList.take (i * 4) = cur.toList.take (i * 4) := by
  obtain ⟨i0, hi0, hz0, hz1, hz2⟩ := info_parts insInfo
  have hl : (cur.toList.take (i * 4)).length = i * 4 := by rw [List.length_take, Array.length_toList, hs]; omega
  have hold : (Builtin.firstCells i0.size i (.slice (some ⟨g, 0, none⟩) i c)).run Try.prog w.drew = .ok (cur.toList.take (i * 4)).toArray w.drew := by
    rw [hz1]
    exact run_firstCells_some _ 4 i ⟨g, 0, none⟩ i c _ hl (fun j v hj => by
      rw [List.getElem?_take] at hj
      split at hj
      · rw [Addr.add_lit, Nat.zero_add]; exact blk_cell (W := w.drew) hg (by simpa using hj)
      · cases hj)
  have hb : (i + k) * 32 ≤ 140737488355328 := by omega
  have hf := growslice_fits (bytes := 32) hgr hb
  have hr := Lib.run_append_grow_zeros w 27 tn ty 40 i0 _ .i64 kn (by kernel_rfl) htn hi0 hz0 (some ⟨g, 0, none⟩) i c _ hold k h0 (by omega) hgr (by omega) (by rw [hz2]; omega) (by rw [hz2]; exact hf)
  have hge := grownCap_ge w (i + k) c 40
  refine ⟨_, _, hr, ?_, hge, grownCap_le_maxLen w (i + k) c 40 (by unfold maxLen; omega), ?_⟩
  · simp only [Array.size_append, size_zeroCells, List.size_toArray, hl]
    show i * 4 + k * 4 + (grownCap w (i + k) c 40 - (i + k)) * 4 = _
    omega
  · simp only [Array.toList_append, List.append_assoc]
    exact List.take_left' hl
theorem grown_da (w : World) (o : Obj) (r : Option Nat) : w.grownBy (w.drew.alloc o) r := ⟨rfl, rfl, rfl, (World.grownBy_alloc w.drew o r).size, (World.grownBy_alloc w.drew o r).block⟩
theorem da_new (w : World) (o : Obj) : (w.drew.alloc o).heap[w.heap.size]? = some o := heap_alloc_new w.drew o
theorem ins_end {ps : List Vv} {x : Vv} {n i : Nat} (hl : ps.length = n) (hi : (i : Int) = (n : Int)) : ps ++ [x] = ps.take i ++ x :: ps.drop i := by
  have e : i = ps.length := by omega
  subst e
  simp
set_option maxRecDepth 100000 in
set_option maxHeartbeats 8000000 in
theorem InsertV_some (g n c i vb base : Nat) (cur : Array Value) (ps : List Vv) (x : Vv) (w : World) (hbs : base ≤ w.heap.size) (hb : base ≤ g) (hh : w.heap[g]? = some (.cells cur 40 (0, 0))) (hnc : n ≤ c) (hcm : c ≤ maxLen) (hcs : cur.size = c * 4) (hct : cur.toList.take (n * 4) = valvesV ps) (hl : ps.length = n) (hv : w.heap[vb]? = some (.cells #[.int .i64 x.id, .int .i64 x.pipe, .int .i64 x.node, .bool x.shut] 40 (0, 0))) (hvg : vb ≠ g) (hi : i ≤ n) (hn : n ≤ 1000000) :
    Calls Try.prog 105 #[.slice (some ⟨g, 0, none⟩) n c, .int .i64 ((i : Nat) : Int), .slice (some ⟨vb, 0, none⟩) 1 1] w fun e w' => ∃ A' c', e = .returned (.slice A' (n + 1) c') ∧ w'.ownsRow base 40 4 (.slice A' (n + 1) c') (n + 1) (valvesV (ps.take i ++ x :: ps.drop i)) ∧ w.grownBy w' (Value.slice (some ⟨g, 0, none⟩) n c).ownBlock ∧ ((Value.slice A' (n + 1) c').ownBlock = (Value.slice (some ⟨g, 0, none⟩) n c).ownBlock ∨ ∀ k, (Value.slice A' (n + 1) c').ownBlock = some k → w.heap.size ≤ k) := by
 have how := own_shut hb hh hnc hcm hcs hct (by rw [ins_len, hl])
 have hnb : Nb vb (.slice (some ⟨g, 0, none⟩) n c) := fun e => hvg (Option.some.inj e)
 go_enter Try.func105, Try.ntmps105
 refine F.begin 95 [(0, .slice (some ⟨g, 0, none⟩) n c), (1, .int .i64 (i : Int)), (2, .slice (some ⟨vb, 0, none⟩) 1 1)] (fun U0 => ?_)
 refine wk fun K1 h1 => ?_
 refine Rq 1 ?_
 refine Fa (.slice none 0 0) ?_
 apply F.es
 apply h1
 refine wk fun K2 h2 => ?_
 refine Rq 3 ?_
 refine Fv (.slice (some ⟨g, 0, none⟩) n c) ?_
 refine Fv (.int .i64 (i : Int)) ?_
 refine Fq (.slice (sFrom (some ⟨g, 0, none⟩) c i 4) (n - i) (c - i)) (r_sliceFrom (A := (some ⟨g, 0, none⟩)) (n := n) (c := c) (k := i) (size := 4) rfl ek ek kk (by omega)) ?_
 apply F.es
 apply h2
 refine wk fun K3 h3 => ?_
 refine Rq 3 ?_
 refine Fv (.slice (some ⟨vb, 0, none⟩) 1 1) ?_
 refine Fq (.int .i64 1) (r_len (A := (some ⟨vb, 0, none⟩)) (n := 1) (c := 1) rfl ek kk) ?_
 refine Fa (.int .i64 1) ?_
 apply F.es
 apply h3
 refine wk fun K4 h4 => ?_
 refine wk fun K5 h5 => ?_
 refine Rq 2 ?_
 refine Fv (.int .i64 1) ?_
 refine Fq (.bool false) (r_eql (m := 1) (n := 0) rfl ek ek (df (by decide))) ?_
 apply F.es
 apply h5
 refine wp_cond_false ek ?_
 apply wp_skip
 apply h4
 refine wk fun K6 h6 => ?_
 refine Rq 3 ?_
 refine Fv (.slice (some ⟨g, 0, none⟩) n c) ?_
 refine Fq (.int .i64 (n : Int)) (r_len (A := (some ⟨g, 0, none⟩)) (n := n) (c := c) rfl ek kk) ?_
 refine Fa (.int .i64 (n : Int)) ?_
 apply F.es
 apply h6
 refine wk fun K7 h7 => ?_
 refine wk fun K8 h8 => ?_
 refine Rq 3 ?_
 refine Fv (.int .i64 (i : Int)) ?_
 refine Fv (.int .i64 (n : Int)) ?_
 by_cases q1 : ((i : Int) : Int) = ((n : Int) : Int)
 ·refine Fq (.bool true) (r_eql (m := (i : Int)) (n := (n : Int)) rfl ek ek (dt q1)) ?_
  apply F.es
  apply h8
  refine wp_cond_true ek ?_
  refine wk fun K9 h9 => ?_
  refine W.region_plain (row := (Value.ownBlock (.slice (some ⟨g, 0, none⟩) n c))) [(0, false), (1, false), (2, true), (3, false)] kk ?_
  have s2 := SG.self w (Value.ownBlock (.slice (some ⟨g, 0, none⟩) n c))
  refine Fv (.slice (some ⟨g, 0, none⟩) n c) ?_
  refine Fv (.slice (some ⟨vb, 0, none⟩) 1 1) ?_
  refine W.sap (e := 40) (size := 4) (base := base) (m := 1) (v := .slice (some ⟨g, 0, none⟩) n c) (c := 1) s2 rfl rfl rfl rfl kk kk kk how hv kk kk (by omega) (by omega) (by have := ((SG.fr (B := g) (World.grownBy.refl _ _) s2 (fun kq e => .inl (Option.some.inj e).symm))).size; omega) (.inl rfl) (fun g3 cap4 w5 ho6 hg7 hat8 hlt9 s10 => ?_)
  apply F.nx
  have ho6 := own_snocV (x := x) ho6
  refine Fa (.slice (some ⟨g3, 0, none⟩) (n + 1) cap4) ?_
  apply F.es
  have hv := Sk s10 hv hnb
  have c12 := (SG.fr (B := g) (World.grownBy.refl _ _) s10 (fun kq e => .inl (Option.some.inj e).symm))
  apply h9
  refine wp_ret ?_
  try simp only [Exit.then]
  refine ret1 (v := .slice (some ⟨g3, 0, none⟩) (n + 1) cap4) rfl kk ?_
  have hpl := ins_end (x := x) hl (by omega : (i : Int) = (n : Int))
  refine ⟨_, _, rfl, by rw [← hpl]; exact ho6, c12, ?_⟩
  first | exact hat3 (by assumption) | (rename_i hat9; exact hat3 hat9) | (show _ ∨ _; simp_all [Value.ownBlock])
 refine Fq (.bool false) (r_eql (m := (i : Int)) (n := (n : Int)) rfl ek ek (df q1)) ?_
 apply F.es
 apply h8
 refine wp_cond_false ek ?_
 apply wp_skip
 apply h7
 refine wk fun K10 h10 => ?_
 refine wk fun K11 h11 => ?_
 refine Rq 6 ?_
 refine Fv (.int .i64 (n : Int)) ?_
 refine Fv (.int .i64 1) ?_
 refine Fq (.int .i64 ((n + 1 : Nat) : Int)) (r_add (m := (n : Int)) (n := 1) (z := ((n + 1 : Nat) : Int)) rfl ek ek (by omega) (by omega)) ?_
 refine Fv (.slice (some ⟨g, 0, none⟩) n c) ?_
 refine Fq (.int .i64 (c : Int)) (r_capS (A := (some ⟨g, 0, none⟩)) (n := n) (c := c) rfl ek kk) ?_
 by_cases q13 : (((n + 1 : Nat) : Int) : Int) > ((c : Int) : Int)
 ·have hrl : (valvesV (ps.drop i)).length = (n - i) * 4 := by rw [ins_len, List.length_drop, hl]
  have htk : cur.toList.take (i * 4) = valvesV (ps.take i) := by rw [ins_take, ← hct, List.take_take, Nat.min_eq_left (by omega)]
  have hdr : (cur.toList.take (n * 4)).drop (i * 4) = valvesV (ps.drop i) := by rw [hct, ← ins_drop]
  have hin : i < n := by omega
  refine Fq (.bool true) (r_gtr (m := ((n + 1 : Nat) : Int)) (n := (c : Int)) rfl ek ek (dt q13)) ?_
  apply F.es
  apply h11
  refine wp_cond_true ek ?_
  refine wk fun K12 h12 => ?_
  refine W.region_plain (row := (Value.ownBlock (.slice (some ⟨g, 0, none⟩) n c))) [(0, false), (1, false), (2, false), (3, false), (4, false), (5, false), (6, false), (7, false), (8, true), (9, false)] kk ?_
  have s14 := SG.self w (Value.ownBlock (.slice (some ⟨g, 0, none⟩) n c))
  refine Fv (.slice (some ⟨g, 0, none⟩) n c) ?_
  refine Fv (.int .i64 (i : Int)) ?_
  refine Fq (.slice (some ⟨g, 0, none⟩) i c) (r_sliceTo (A := (some ⟨g, 0, none⟩)) (n := n) (c := c) (k := i) (size := 4) rfl ek ek kk (by omega)) ?_
  refine Fv (.int .i64 (n : Int)) ?_
  refine Fv (.int .i64 1) ?_
  refine Fq (.int .i64 ((n + 1 : Nat) : Int)) (r_add (m := (n : Int)) (n := 1) (z := ((n + 1 : Nat) : Int)) rfl ek ek (by omega) (by omega)) ?_
  refine Fv (.int .i64 (i : Int)) ?_
  refine Fq (.int .i64 ((n + 1 - i : Nat) : Int)) (r_sub (m := ((n + 1 : Nat) : Int)) (n := (i : Int)) (z := ((n + 1 - i : Nat) : Int)) rfl ek ek (by omega) (by omega)) ?_
  obtain ⟨c9, cur9, hr9, hs9, hc9, hm9, ht9⟩ := run_zeros w 3 27 .i64 kk g i c (n + 1 - i) cur hh hcs (by omega) (by omega) (by omega) (by omega)
  have hn9 : i + (n + 1 - i) = n + 1 := by omega
  rw [hn9] at hr9 hc9
  have s16 := SG.of_grown s14 (grown_da w (.cells cur9 40) (some g)) (.inl rfl)
  refine W.lv (v := .slice (some ⟨w.heap.size, 0, none⟩) (n + 1) c9) (w' := w.drew.alloc (.cells cur9 40)) rfl kk rfl (run_appendOp (x := .slice (some ⟨g, 0, none⟩) i c) (y := .int .i64 ((n + 1 - i : Nat) : Int)) rfl kk kk hr9) s16 ?_
  apply F.nx
  have hx9 := da_new w (.cells cur9 40)
  have ho9 : (w.drew.alloc (.cells cur9 40)).heap[g]? = some (.cells cur 40 (0, 0)) := (Below.heap_alloc w.drew _ g (blk_lt hh)).trans hh
  have hlg : g < w.heap.size := blk_lt hh
  have hlv : vb < w.heap.size := blk_lt hv
  have hb8 := ((SG.fr (B := g) (World.grownBy.refl _ _) s14 (fun kq e => .inl (Option.some.inj e).symm))).size
  obtain ⟨g9, hg9⟩ : ∃ g9, g9 = w.heap.size := ⟨_, rfl⟩
  have hb9 : w.heap.size ≤ g9 := by rw [hg9]; exact hb8
  rw [← hg9] at hx9 hlg hlv ⊢
  obtain ⟨w15, hw9⟩ : ∃ w2, w2 = w.drew.alloc (.cells cur9 40) := ⟨_, rfl⟩
  rw [← hw9] at hx9 ho9 s16 ⊢
  clear hw9 hr9
  have how9 := own_shut (n := n + 1) hb9 hx9 hc9 hm9 hs9 rfl (by rw [List.length_take, Array.length_toList, hs9]; omega)
  have nbv : Nb vb (.slice (some ⟨g9, 0, none⟩) (n + 1) c9) := fun e => by have := Option.some.inj e; simp only at this; omega
  have nbo : Nb g (.slice (some ⟨g9, 0, none⟩) (n + 1) c9) := fun e => by have := Option.some.inj e; simp only at this; omega
  refine Fa (.slice (some ⟨g9, 0, none⟩) (n + 1) c9) ?_
  apply F.es
  have hv := Sk s16 hv hnb
  have c17 := (SG.fr (B := g) (World.grownBy.refl _ _) s16 (fun kq e => .inl (Option.some.inj e).symm))
  apply h12
  refine wk fun K13 h13 => ?_
  refine W.region_plain (row := (Value.ownBlock (.slice (some ⟨g9, 0, none⟩) (n + 1) c9))) [(0, false), (1, false), (2, false), (3, false), (4, true)] kk ?_
  have s18 := SG.self w15 (Value.ownBlock (.slice (some ⟨g9, 0, none⟩) (n + 1) c9))
  refine Fv (.slice (some ⟨g9, 0, none⟩) (n + 1) c9) ?_
  refine Fv (.int .i64 (i : Int)) ?_
  have hsf19 : sFrom (some ⟨g9, 0, none⟩) c9 (i) 4 = some ⟨g9, (i) * 4, none⟩ := by unfold sFrom; rw [if_neg (by omega)]; show some (Addr.add ⟨g9, 0, none⟩ ((i) * 4)) = _; rw [Addr.add_lit, Nat.zero_add]
  refine Fq (.slice (some ⟨g9, (i) * 4, none⟩) ((n + 1) - (i)) (c9 - (i))) (r_sliceFrome (A := (some ⟨g9, 0, none⟩)) (n := (n + 1)) (c := c9) (k := i) (size := 4) rfl ek ek kk (by omega) hsf19) ?_
  refine Fv (.slice (some ⟨vb, 0, none⟩) 1 1) ?_
  obtain ⟨cur22, hc23⟩ : ∃ cur22 : Array Value, cur22 = (spl cur9.toList ((i) * 4) (x.vals)).toArray := ⟨_, rfl⟩
  have s21 := SG.of_grown s18 (grown_row (w := w15) (g := g9) (cs := cur22)) (.inl rfl)
  refine W.lv (v := .int .i64 ((Nat.min (1) (n + 1 - (i)) : Nat) : Int)) (w' := w15.setRow g9 cur22) rfl kk rfl (run_copyOp (x := .slice (some ⟨g9, (i) * 4, none⟩) (n + 1 - (i)) (c9 - (i))) (y := .slice (some ⟨vb, 0, none⟩) (1) (1)) rfl kk kk (by rw [hc23]; exact run_copy_blk _ _ _ _ 40 g9 ((i) * 4) _ _ ⟨vb, 0, none⟩ _ _ 4 (x.vals) cur9 _ kk kk (by rw [x_len, show Nat.min (1) (n + 1 - (i)) = 1 from by show min (1) (n + 1 - (i)) = 1; rw [Nat.min_def]; split <;> omega]) (fun j u hj => by rw [Addr.add_lit, Nat.zero_add]; exact blk_cell (j := j) (Sk s18 hv nbv) (by simpa [Vv.vals] using hj)) hx9 (by rw [x_len, hs9]; omega) (x_one x))) s21 ?_
  apply F.nx
  have hx24 : (w15.setRow g9 cur22).heap[g9]? = some (.cells cur22 40 (0, 0)) := setRow_heap w15 g9 cur9 cur22 40 (0, 0) hx9
  have hs25 : cur22.size = c9 * 4 := by rw [hc23, List.size_toArray, spl_len (by rw [x_len, Array.length_toList, hs9]; omega), Array.length_toList, hs9]
  obtain ⟨w20, hw9⟩ : ∃ w2, w2 = w15.setRow g9 cur22 := ⟨_, rfl⟩
  rw [← hw9] at hx24 s21 ⊢
  clear hw9
  have ho26 := own_shut (n := n + 1) hb9 hx24 (by omega) hm9 hs25 rfl (by rw [List.length_take, Array.length_toList, hs25]; omega)
  apply F.es
  have hv := Sk s21 hv nbv
  have ho9 := Sk s21 ho9 nbo
  have c27 := (SG.fr (B := g) c17 s21 (fun kq e => .inr (World.ownsRow.lt how9 kq e).1))
  apply h13
  refine wk fun K14 h14 => ?_
  refine W.region_sch (row := (Value.ownBlock (.slice (some ⟨g9, 0, none⟩) (n + 1) c9))) (Sch.of [(0, false), (1, false), (2, false), (3, false), (4, false), (5, false), (6, false), (7, false), (8, true)]) kk kk (fun _ d _ _ _ h => by cases d <;> exact h) kk (fun w28 e29 s30 => ?_)
  refine Fv (.slice (some ⟨g9, 0, none⟩) (n + 1) c9) ?_
  refine Fv (.int .i64 (i : Int)) ?_
  refine Fv (.int .i64 1) ?_
  refine Fq (.int .i64 ((i + 1 : Nat) : Int)) (r_add (m := (i : Int)) (n := 1) (z := ((i + 1 : Nat) : Int)) rfl ek ek (by omega) (by omega)) ?_
  have hsf32 : sFrom (some ⟨g9, 0, none⟩) c9 (i + 1) 4 = some ⟨g9, (i + 1) * 4, none⟩ := by unfold sFrom; rw [if_neg (by omega)]; show some (Addr.add ⟨g9, 0, none⟩ ((i + 1) * 4)) = _; rw [Addr.add_lit, Nat.zero_add]
  refine Fq (.slice (some ⟨g9, (i + 1) * 4, none⟩) ((n + 1) - (i + 1)) (c9 - (i + 1))) (r_sliceFrome (A := (some ⟨g9, 0, none⟩)) (n := (n + 1)) (c := c9) (k := i + 1) (size := 4) rfl ek ek kk (by omega) hsf32) ?_
  refine Fv (.slice (some ⟨g, 0, none⟩) n c) ?_
  refine Fv (.int .i64 (i : Int)) ?_
  have hsf33 : sFrom (some ⟨g, 0, none⟩) c (i) 4 = some ⟨g, (i) * 4, none⟩ := by unfold sFrom; rw [if_neg (by omega)]; show some (Addr.add ⟨g, 0, none⟩ ((i) * 4)) = _; rw [Addr.add_lit, Nat.zero_add]
  refine Fq (.slice (some ⟨g, (i) * 4, none⟩) (n - (i)) (c - (i))) (r_sliceFrome (A := (some ⟨g, 0, none⟩)) (n := n) (c := c) (k := i) (size := 4) rfl ek ek kk (by omega) hsf33) ?_
  have hk34 := heap_same e29 hx24
  obtain ⟨cur37, hc38⟩ : ∃ cur37 : Array Value, cur37 = (spl cur22.toList ((i + 1) * 4) (valvesV (ps.drop i))).toArray := ⟨_, rfl⟩
  have s36 := SG.of_grown s30 (grown_row (w := w28) (g := g9) (cs := cur37)) (.inl rfl)
  refine W.lv (v := .int .i64 ((Nat.min (n - (i)) (n + 1 - (i + 1)) : Nat) : Int)) (w' := w28.setRow g9 cur37) rfl kk rfl (run_copyOp (x := .slice (some ⟨g9, (i + 1) * 4, none⟩) (n + 1 - (i + 1)) (c9 - (i + 1))) (y := .slice (some ⟨g, (i) * 4, none⟩) (n - (i)) (c - (i))) rfl kk kk (by rw [hc38]; exact run_copy_blk _ _ _ _ 40 g9 ((i + 1) * 4) _ _ ⟨g, (i) * 4, none⟩ _ _ 4 (valvesV (ps.drop i)) cur22 _ kk kk (by rw [hrl, show Nat.min (n - (i)) (n + 1 - (i + 1)) = n - i from by show min (n - (i)) (n + 1 - (i + 1)) = n - i; rw [Nat.min_def]; split <;> omega]) (cells_at (Sk s30 ho9 nbo) hdr) hk34 (by rw [hrl, hs25]; omega) (ins_one _))) s36 ?_
  apply F.nx
  have hx39 : (w28.setRow g9 cur37).heap[g9]? = some (.cells cur37 40 (0, 0)) := setRow_heap w28 g9 cur22 cur37 40 (0, 0) hk34
  have hs40 : cur37.size = c9 * 4 := by rw [hc38, List.size_toArray, spl_len (by rw [hrl, Array.length_toList, hs25]; omega), Array.length_toList, hs25]
  obtain ⟨w35, hw9⟩ : ∃ w2, w2 = w28.setRow g9 cur37 := ⟨_, rfl⟩
  rw [← hw9] at hx39 s36 ⊢
  clear hw9
  apply F.es
  have hv := Sk s36 hv nbv
  have c42 := (SG.fr (B := g) c27 s36 (fun kq e => .inr (World.ownsRow.lt ho26 kq e).1))
  apply h14
  refine wk fun K15 h15 => ?_
  refine Rq 2 ?_
  refine Fv (.slice (some ⟨g9, 0, none⟩) (n + 1) c9) ?_
  refine Fa (.slice (some ⟨g9, 0, none⟩) (n + 1) c9) ?_
  apply F.es
  apply h15
  refine wp_ret ?_
  try simp only [Exit.then]
  refine ret1 (v := .slice (some ⟨g9, 0, none⟩) (n + 1) c9) rfl kk ?_
  have hfin : cur37.toList.take ((n + 1) * 4) = valvesV (ps.take i ++ x :: ps.drop i) := by rw [hc38, hc23]; exact (ins_A (L := cur9.toList) (X := x.vals) (by rw [Array.length_toList, hs9]; omega) (Nat.le_of_lt hin) (ht9.trans htk) rfl hrl).trans (ins_fin ps x i)
  exact ⟨_, _, rfl, own_shut (Nl hbs hb9) hx39 (by omega) hm9 hs40 hfin (by rw [ins_len, List.length_append, List.length_cons, List.length_take, List.length_drop, hl]; omega), c42, (.inr (fun k e => by have := Option.some.inj e; simp only at this; omega))⟩
 have hrl : (valvesV (ps.drop i)).length = (n - i) * 4 := by rw [ins_len, List.length_drop, hl]
 have htk : cur.toList.take (i * 4) = valvesV (ps.take i) := by rw [ins_take, ← hct, List.take_take, Nat.min_eq_left (by omega)]
 have hdr : (cur.toList.take (n * 4)).drop (i * 4) = valvesV (ps.drop i) := by rw [hct, ← ins_drop]
 have hin : i < n := by omega
 refine Fq (.bool false) (r_gtr (m := ((n + 1 : Nat) : Int)) (n := (c : Int)) rfl ek ek (df q13)) ?_
 apply F.es
 apply h11
 refine wp_cond_false ek ?_
 apply wp_skip
 apply h10
 refine wk fun K16 h16 => ?_
 refine Rq 6 ?_
 refine Fv (.slice (some ⟨g, 0, none⟩) n c) ?_
 refine Fv (.int .i64 (n : Int)) ?_
 refine Fv (.int .i64 1) ?_
 refine Fq (.int .i64 ((n + 1 : Nat) : Int)) (r_add (m := (n : Int)) (n := 1) (z := ((n + 1 : Nat) : Int)) rfl ek ek (by omega) (by omega)) ?_
 refine Fq (.slice (some ⟨g, 0, none⟩) (n + 1) c) (r_sliceTo (A := (some ⟨g, 0, none⟩)) (n := n) (c := c) (k := (n + 1)) (size := 4) rfl ek ek kk (by omega)) ?_
 refine Fa (.slice (some ⟨g, 0, none⟩) (n + 1) c) ?_
 apply F.es
 apply h16
 refine wk fun K17 h17 => ?_
 refine wk fun K18 h18 => ?_
 refine W.region_plain (row := none) [(0, false), (1, false), (2, false), (3, false), (4, false), (5, false), (6, true), (7, false)] kk ?_
 have s43 := SG.self w none
 refine Fv (.slice (some ⟨vb, 0, none⟩) 1 1) ?_
 refine Fv (.slice (some ⟨g, 0, none⟩) (n + 1) c) ?_
 refine Fv (.int .i64 (i : Int)) ?_
 refine Fv (.int .i64 1) ?_
 refine Fq (.int .i64 ((i + 1 : Nat) : Int)) (r_add (m := (i : Int)) (n := 1) (z := ((i + 1 : Nat) : Int)) rfl ek ek (by omega) (by omega)) ?_
 have hsf44 : sFrom (some ⟨g, 0, none⟩) c (i + 1) 4 = some ⟨g, (i + 1) * 4, none⟩ := by unfold sFrom; rw [if_neg (by omega)]; show some (Addr.add ⟨g, 0, none⟩ ((i + 1) * 4)) = _; rw [Addr.add_lit, Nat.zero_add]
 refine Fq (.slice (some ⟨g, (i + 1) * 4, none⟩) ((n + 1) - (i + 1)) (c - (i + 1))) (r_sliceFrome (A := (some ⟨g, 0, none⟩)) (n := (n + 1)) (c := c) (k := i + 1) (size := 4) rfl ek ek kk (by omega) hsf44) ?_
 refine W.lv (v := .bool false) (w' := w) rfl kk rfl (run_externOp (vs := [.slice (some ⟨vb, 0, none⟩) 1 1, .slice (some ⟨g, (i + 1) * 4, none⟩) ((n + 1) - (i + 1)) (c - (i + 1))]) rfl kk (ov_run w vb g ((i + 1) * 4) 1 1 (n + 1 - (i + 1)) (c - (i + 1)) _ cur hv hh hvg (by rw [hcs]; omega))) s43 ?_
 apply F.nx
 refine Fq (.bool true) (r_not (b := false) rfl ek rfl) ?_
 apply F.es
 have hv := Sk s43 hv onn
 have c45 := (SG.fr (B := g) (World.grownBy.refl _ _) s43 nkk)
 apply h18
 refine wp_cond_true ek ?_
 refine wk fun K19 h19 => ?_
 refine W.region_sch (row := (Value.ownBlock (.slice (some ⟨g, 0, none⟩) n c))) (Sch.of [(0, false), (1, false), (2, false), (3, false), (4, false), (5, false), (6, false), (7, false), (8, true)]) kk kk (fun _ d _ _ _ h => by cases d <;> exact h) kk (fun w46 e47 s48 => ?_)
 refine Fv (.slice (some ⟨g, 0, none⟩) (n + 1) c) ?_
 refine Fv (.int .i64 (i : Int)) ?_
 refine Fv (.int .i64 1) ?_
 refine Fq (.int .i64 ((i + 1 : Nat) : Int)) (r_add (m := (i : Int)) (n := 1) (z := ((i + 1 : Nat) : Int)) rfl ek ek (by omega) (by omega)) ?_
 have hsf50 : sFrom (some ⟨g, 0, none⟩) c (i + 1) 4 = some ⟨g, (i + 1) * 4, none⟩ := by unfold sFrom; rw [if_neg (by omega)]; show some (Addr.add ⟨g, 0, none⟩ ((i + 1) * 4)) = _; rw [Addr.add_lit, Nat.zero_add]
 refine Fq (.slice (some ⟨g, (i + 1) * 4, none⟩) ((n + 1) - (i + 1)) (c - (i + 1))) (r_sliceFrome (A := (some ⟨g, 0, none⟩)) (n := (n + 1)) (c := c) (k := i + 1) (size := 4) rfl ek ek kk (by omega) hsf50) ?_
 refine Fv (.slice (some ⟨g, 0, none⟩) (n + 1) c) ?_
 refine Fv (.int .i64 (i : Int)) ?_
 have hsf51 : sFrom (some ⟨g, 0, none⟩) c (i) 4 = some ⟨g, (i) * 4, none⟩ := by unfold sFrom; rw [if_neg (by omega)]; show some (Addr.add ⟨g, 0, none⟩ ((i) * 4)) = _; rw [Addr.add_lit, Nat.zero_add]
 refine Fq (.slice (some ⟨g, (i) * 4, none⟩) ((n + 1) - (i)) (c - (i))) (r_sliceFrome (A := (some ⟨g, 0, none⟩)) (n := (n + 1)) (c := c) (k := i) (size := 4) rfl ek ek kk (by omega) hsf51) ?_
 have hk52 := heap_same e47 hh
 obtain ⟨cur55, hc56⟩ : ∃ cur55 : Array Value, cur55 = (spl cur.toList ((i + 1) * 4) (valvesV (ps.drop i))).toArray := ⟨_, rfl⟩
 have s54 := SG.of_grown s48 (grown_row (w := w46) (g := g) (cs := cur55)) (.inl rfl)
 refine W.lv (v := .int .i64 ((Nat.min (n + 1 - (i)) (n + 1 - (i + 1)) : Nat) : Int)) (w' := w46.setRow g cur55) rfl kk rfl (run_copyOp (x := .slice (some ⟨g, (i + 1) * 4, none⟩) (n + 1 - (i + 1)) (c - (i + 1))) (y := .slice (some ⟨g, (i) * 4, none⟩) (n + 1 - (i)) (c - (i))) rfl kk kk (by rw [hc56]; exact run_copy_blk _ _ _ _ 40 g ((i + 1) * 4) _ _ ⟨g, (i) * 4, none⟩ _ _ 4 (valvesV (ps.drop i)) cur _ kk kk (by rw [hrl, show Nat.min (n + 1 - (i)) (n + 1 - (i + 1)) = n - i from by show min (n + 1 - (i)) (n + 1 - (i + 1)) = n - i; rw [Nat.min_def]; split <;> omega]) (cells_at hk52 hdr) hk52 (by rw [hrl, hcs]; omega) (ins_one _))) s54 ?_
 apply F.nx
 have hx57 : (w46.setRow g cur55).heap[g]? = some (.cells cur55 40 (0, 0)) := setRow_heap w46 g cur cur55 40 (0, 0) hk52
 have hs58 : cur55.size = c * 4 := by rw [hc56, List.size_toArray, spl_len (by rw [hrl, Array.length_toList, hcs]; omega), Array.length_toList, hcs]
 obtain ⟨w53, hw9⟩ : ∃ w2, w2 = w46.setRow g cur55 := ⟨_, rfl⟩
 rw [← hw9] at hx57 s54 ⊢
 clear hw9
 apply F.es
 have hv := Sk s54 hv hnb
 have c60 := (SG.fr (B := g) c45 s54 (fun kq e => .inl (Option.some.inj e).symm))
 apply h19
 refine wk fun K20 h20 => ?_
 refine W.region_plain (row := (Value.ownBlock (.slice (some ⟨g, 0, none⟩) (n + 1) c))) [(0, false), (1, false), (2, false), (3, false), (4, true)] kk ?_
 have s61 := SG.self w53 (Value.ownBlock (.slice (some ⟨g, 0, none⟩) (n + 1) c))
 refine Fv (.slice (some ⟨g, 0, none⟩) (n + 1) c) ?_
 refine Fv (.int .i64 (i : Int)) ?_
 have hsf62 : sFrom (some ⟨g, 0, none⟩) c (i) 4 = some ⟨g, (i) * 4, none⟩ := by unfold sFrom; rw [if_neg (by omega)]; show some (Addr.add ⟨g, 0, none⟩ ((i) * 4)) = _; rw [Addr.add_lit, Nat.zero_add]
 refine Fq (.slice (some ⟨g, (i) * 4, none⟩) ((n + 1) - (i)) (c - (i))) (r_sliceFrome (A := (some ⟨g, 0, none⟩)) (n := (n + 1)) (c := c) (k := i) (size := 4) rfl ek ek kk (by omega) hsf62) ?_
 refine Fv (.slice (some ⟨vb, 0, none⟩) 1 1) ?_
 obtain ⟨cur65, hc66⟩ : ∃ cur65 : Array Value, cur65 = (spl cur55.toList ((i) * 4) (x.vals)).toArray := ⟨_, rfl⟩
 have s64 := SG.of_grown s61 (grown_row (w := w53) (g := g) (cs := cur65)) (.inl rfl)
 refine W.lv (v := .int .i64 ((Nat.min (1) (n + 1 - (i)) : Nat) : Int)) (w' := w53.setRow g cur65) rfl kk rfl (run_copyOp (x := .slice (some ⟨g, (i) * 4, none⟩) (n + 1 - (i)) (c - (i))) (y := .slice (some ⟨vb, 0, none⟩) (1) (1)) rfl kk kk (by rw [hc66]; exact run_copy_blk _ _ _ _ 40 g ((i) * 4) _ _ ⟨vb, 0, none⟩ _ _ 4 (x.vals) cur55 _ kk kk (by rw [x_len, show Nat.min (1) (n + 1 - (i)) = 1 from by show min (1) (n + 1 - (i)) = 1; rw [Nat.min_def]; split <;> omega]) (fun j u hj => by rw [Addr.add_lit, Nat.zero_add]; exact blk_cell (j := j) (Sk s61 hv hnb) (by simpa [Vv.vals] using hj)) hx57 (by rw [x_len, hs58]; omega) (x_one x))) s64 ?_
 apply F.nx
 have hx67 : (w53.setRow g cur65).heap[g]? = some (.cells cur65 40 (0, 0)) := setRow_heap w53 g cur55 cur65 40 (0, 0) hx57
 have hs68 : cur65.size = c * 4 := by rw [hc66, List.size_toArray, spl_len (by rw [x_len, Array.length_toList, hs58]; omega), Array.length_toList, hs58]
 obtain ⟨w63, hw9⟩ : ∃ w2, w2 = w53.setRow g cur65 := ⟨_, rfl⟩
 rw [← hw9] at hx67 s64 ⊢
 clear hw9
 apply F.es
 have hv := Sk s64 hv hnb
 have c70 := (SG.fr (B := g) c60 s64 (fun kq e => .inl (Option.some.inj e).symm))
 apply h20
 refine wk fun K21 h21 => ?_
 refine Rq 2 ?_
 refine Fv (.slice (some ⟨g, 0, none⟩) (n + 1) c) ?_
 refine Fa (.slice (some ⟨g, 0, none⟩) (n + 1) c) ?_
 apply F.es
 apply h21
 refine wp_ret ?_
 try simp only [Exit.then]
 refine ret1 (v := .slice (some ⟨g, 0, none⟩) (n + 1) c) rfl kk ?_
 have hfin : cur65.toList.take ((n + 1) * 4) = valvesV (ps.take i ++ x :: ps.drop i) := by rw [hc66, hc56]; exact (ins_B (L := cur.toList) (X := x.vals) (by rw [Array.length_toList, hcs]; omega) (Nat.le_of_lt hin) htk rfl hrl).trans (ins_fin ps x i)
 exact ⟨_, _, rfl, own_shut hb hx67 (by omega) hcm hs68 hfin (by rw [ins_len, List.length_append, List.length_cons, List.length_take, List.length_drop, hl]; omega), c70, (.inl rfl)⟩
theorem InsertV_any (A : Option Addr) (n c i vb base : Nat) (ps : List Vv) (x : Vv) (w : World) (hbs : base ≤ w.heap.size) (how : w.ownsRow base 40 4 (.slice A n c) n (valvesV ps)) (hob : (Value.slice A n c).ownBlock ≠ none) (hv : w.heap[vb]? = some (.cells #[.int .i64 x.id, .int .i64 x.pipe, .int .i64 x.node, .bool x.shut] 40 (0, 0))) (hnb : Nb vb (.slice A n c)) (hi : i ≤ n) (hn : n ≤ 1000000) :
    Calls Try.prog 105 #[.slice A n c, .int .i64 ((i : Nat) : Int), .slice (some ⟨vb, 0, none⟩) 1 1] w fun e w' => ∃ A' c', e = .returned (.slice A' (n + 1) c') ∧ w'.ownsRow base 40 4 (.slice A' (n + 1) c') (n + 1) (valvesV (ps.take i ++ x :: ps.drop i)) ∧ w.grownBy w' (Value.slice A n c).ownBlock ∧ ((Value.slice A' (n + 1) c').ownBlock = (Value.slice A n c).ownBlock ∨ ∀ k, (Value.slice A' (n + 1) c').ownBlock = some k → w.heap.size ≤ k) := by
  have hl : ps.length = n := by have := how.1; rw [ins_len] at this; omega
  rcases how.2 with ⟨hv0, _⟩ | ⟨g, cap, cur, hv0, hb, hh, hnc, hm, hs, ht⟩
  · exact absurd (by rw [hv0]; rfl) hob
  · simp only [Value.slice.injEq] at hv0
    obtain ⟨rfl, _, rfl⟩ := hv0
    exact InsertV_some g n c i vb base cur ps x w hbs hb hh hnc hm hs ht hl hv (fun e => hnb (by rw [e]; rfl)) hi hn
end Go.Proofs.Ytdbgfejeleafgaa
namespace Go.Proofs.Ytdbgfejeleafgaa
open Go.RowKit
set_option linter.unusedVariables false
set_option linter.unusedSimpArgs false
theorem lt_least {r : Option (List Int × Int)} (h : r.isSome = true) : ltOf r = leastOf r := by cases r with | none => cases h | some b => rfl
theorem lt_bd {ps : List Pp} {vs : List Vv} {s id : Int} {cs : List Int} (hc : ∀ c, c ∈ cs → 0 ≤ c ∧ c ≤ 1000) : -1 ≤ ltOf (bestR ps vs s id cs) ∧ ltOf (bestR ps vs s id cs) ≤ 1000 * (cs.length : Int) := by
  have h := least_bd (ps := ps) (vs := vs) (s := s) (id := id) hc
  cases e : bestR ps vs s id cs with
  | none => exact ⟨by show (-1 : Int) ≤ 0; omega, by show (0 : Int) ≤ 1000 * (cs.length : Int); omega⟩
  | some b => rw [e] at h; exact h
set_option maxRecDepth 100000 in
set_option maxHeartbeats 8000000 in
theorem NewValveGain_impl (m : Int) (A : Option Addr) (n c : Nat) (ps : List Pp) (A2 : Option Addr) (n2 c2 : Nat) (vs : List Vv) (s id : Int) (x : Vv) (A4 : Option Addr) (n4 c4 : Nat) (cs : List Int) (w : World) (ha : Rd w 4 A n (pipesV ps)) (hb : Rd w 4 A2 n2 (valvesV vs)) (hc4 : Rd w 1 A4 n4 (intsV cs)) (hn : n ≤ 1048576) (hn2 : n2 ≤ 1048576) (hn4 : n4 ≤ 1048576) (hfm : Fm A n c) (hfm2 : Fm A2 n2 c2) (hfc : Fm A4 n4 c4) :
    Calls Try.prog 42 #[.agg #[.int .i64 m, .slice A n c], .slice A2 n2 c2, .int .i64 s, .int .i64 id, .agg #[.int .i64 x.id, .int .i64 x.pipe, .int .i64 x.node, .bool x.shut], .slice A4 n4 c4] w fun e w' => e = .returned (.tuple #[.int .i64 (NewValveGain_v0 m ps vs s id x cs), .bool (NewValveGain_v1 m ps vs s id x cs)]) ∧ Below w.heap.size w w' := by
 have hl := rd_pipes_len ha
 have hl2 := rd_valves_len hb
 have hl4 := rd_ints_len hc4
 have hfl := findL_lt ps id
 go_enter Try.func42, Try.ntmps42
 refine F.begin 95 [(0, .agg #[.int .i64 m, .slice A n c]), (1, .slice A2 n2 c2), (2, .int .i64 s), (3, .int .i64 id), (4, .agg #[.int .i64 x.id, .int .i64 x.pipe, .int .i64 x.node, .bool x.shut]), (5, .slice A4 n4 c4)] (fun U0 => ?_)
 refine wk fun K1 h1 => ?_
 refine W.region_plain (row := none) [(0, true), (1, true), (2, false), (3, false)] kk ?_
 have s1 := SG.self w none
 refine W.sn (fun b => .pointer (some ⟨b, 0, none⟩)) #[.int .i64 m, .slice A n c] 26 s1 rfl kk rfl (fun _ => by kernel_rfl) (fun b2 w3 hb4 k5 x6 s7 => ?_)
 apply F.nx
 have lo8 : w.heap.size ≤ b2 := Nl ((Sb (Below.refl _ _) s1 nkk)).size (Nat.le_of_eq hb4)
 refine W.sn (fun b => .pointer (some ⟨b, 0, none⟩)) #[.int .i64 x.id, .int .i64 x.pipe, .int .i64 x.node, .bool x.shut] 40 s7 rfl kk rfl (fun _ => by kernel_rfl) (fun b9 w10 hb11 k12 x13 s14 => ?_)
 apply F.nx
 have lo15 : w.heap.size ≤ b9 := Nl ((Sb (Below.refl _ _) s7 nkk)).size (Nat.le_of_eq hb11)
 have x6 := (k12.block _ (blk_lt x6)).trans x6
 refine Fa (.int .i64 0) ?_
 refine Fa (.bool false) ?_
 apply F.es
 have c17 := (Sb (Below.refl _ _) s14 nkk)
 apply h1
 refine wk fun K2 h2 => ?_
 refine wk fun K3 h3 => ?_
 refine W.region_plain (row := none) [(0, false), (1, false), (2, false), (3, false), (4, true), (5, false), (6, false), (7, false), (8, false), (9, true), (10, false), (11, false), (12, false), (13, false), (14, false), (15, false), (16, true), (17, false), (18, false)] kk ?_
 have s18 := SG.self w10 none
 refine Fq (.agg #[.int .i64 m, .slice A n c]) (r_load2 rfl ek kk kk (sgS (blk_cell (j := 0) x6 kk) onn) (sgS (blk_cell (j := 1) x6 kk) onn)) ?_
 refine Fv (.slice A2 n2 c2) ?_
 refine Fv (.int .i64 s) ?_
 refine Fv (.int .i64 id) ?_
 refine Fc [.agg #[.int .i64 m, .slice A n c], .slice A2 n2 c2, .int .i64 s, .int .i64 id] (canBurst_any m A n c ps A2 n2 c2 vs s id _ (Rk ha (Sb c17 s18 nkk)) (Rk hb (Sb c17 s18 nkk)) (by omega) (by omega) hfm2) ?_
 rintro e w20 ⟨rfl, b19⟩
 have s21 := SG.of_below s18 b19
 refine ⟨_, rfl, s21, ?_⟩
 apply F.nx
 rcases Bool.eq_false_or_eq_true (canB m ps vs s id) with q22 | q22
 ·rw [q22]
  obtain ⟨hv9, hs, hfa⟩ := canB_of q22
  have hg := hv9.net
  have hgl := hg.lo
  have hgh := hg.hi
  have hp := hg.pipesIn
  have hlen10 := hg.len
  have hu := hv9.uniq
  have hvl := hv9.len
  refine Fq (.bool false) (r_not (b := true) rfl ek rfl) ?_
  refine Fv (.bool false) ?_
  refine Fq (.agg #[.int .i64 m, .slice A n c]) (r_load2 rfl ek kk kk (sgS (blk_cell (j := 0) x6 kk) onn) (sgS (blk_cell (j := 1) x6 kk) onn)) ?_
  refine Fv (.slice A4 n4 c4) ?_
  refine Fc [.agg #[.int .i64 m, .slice A n c], .slice A4 n4 c4] (areCustomers_any m A n c ps A4 n4 c4 cs _ (Rk ha (Sb c17 s21 nkk)) (by omega) (Rk hc4 (Sb c17 s21 nkk)) (by omega)) ?_
  rintro e w24 ⟨rfl, b23⟩
  have s25 := SG.of_below s21 b23
  refine ⟨_, rfl, s25, ?_⟩
  apply F.nx
  rcases Bool.eq_false_or_eq_true (custOk m cs) with q26 | q26
  ·rw [q26]
   have hco := q26
   have hco9 := custOk_of hco
   refine Fq (.bool false) (r_not (b := true) rfl ek rfl) ?_
   refine Fq (.bool false) (r_pick (b := false) rfl ek ek) ?_
   refine Fv (.bool false) ?_
   refine Fv (.slice A2 n2 c2) ?_
   refine Fq (.pointer (some ⟨b9, 0, none⟩)) (r_field0 rfl ek kk) ?_
   refine Fl (.int .i64 x.id) (sgS (blk_cell (j := 0) x13 kk) onn) ?_
   refine Fc [.slice A2 n2 c2, .int .i64 x.id] (valveIndex_any A2 n2 c2 vs x.id _ (Rk hb (Sb c17 s25 nkk)) (by omega)) ?_
   rintro e w28 ⟨rfl, b27⟩
   have s29 := SG.of_below s25 b27
   refine ⟨_, rfl, s29, ?_⟩
   apply F.nx
   by_cases q30 : ((idxV (idQ x.id) vs) : Int) ≥ (0 : Int)
   ·refine Fq (.bool true) (r_geq (m := (idxV (idQ x.id) vs)) (n := 0) rfl ek ek (dt q30)) ?_
    refine Fq (.bool true) (r_pick (b := false) rfl ek ek) ?_
    apply F.es
    have x6 := Sk s29 x6 onn
    have x13 := Sk s29 x13 onn
    have c31 := (Sb c17 s29 nkk)
    apply h3
    refine wp_cond_true ek ?_
    refine wk fun K4 h4 => ?_
    refine Rq 2 ?_
    refine Fa (.int .i64 0) ?_
    refine Fa (.bool false) ?_
    apply F.es
    apply h4
    refine wp_ret ?_
    try simp only [Exit.then]
    refine ret2 (v := .int .i64 0) (x := .bool false) rfl kk kk ?_
    have e8 : NewValveGain_v1 m ps vs s id x cs = false := by unfold NewValveGain_v1; rw [q22, q26, decide_eq_false (by omega)]; try rfl
    exact ⟨by unfold NewValveGain_v0; rw [if_neg (by rw [e8]; simp), e8], c31⟩
   refine Fq (.bool false) (r_geq (m := (idxV (idQ x.id) vs)) (n := 0) rfl ek ek (df q30)) ?_
   refine Fq (.bool false) (r_pick (b := false) rfl ek ek) ?_
   apply F.es
   have x6 := Sk s29 x6 onn
   have x13 := Sk s29 x13 onn
   have c32 := (Sb c17 s29 nkk)
   apply h3
   refine wp_cond_false ek ?_
   apply wp_skip
   apply h2
   refine wk fun K5 h5 => ?_
   refine Rq 1 ?_
   refine Fa (.int .i64 0) ?_
   apply F.es
   apply h5
   refine joinK (fun amj1 aaj1 wlj1 => ∃ (k2 : Nat) , Kn aaj1 [(1, .slice A2 n2 c2), (2, .int .i64 s), (3, .int .i64 id), (5, .slice A4 n4 c4), (6, .pointer (some ⟨b2, 0, none⟩)), (10, .pointer (some ⟨b9, 0, none⟩)), (12, .int .i64 0), (13, .bool false), (14, .int .i64 (k2 : Int))] 95 ∧ (amj1 = 0) ∧ (k2 ≤ n2) ∧ (insAt vs x.id = k2) ∧ (wlj1.heap[b2]? = some (.cells #[.int .i64 m, .slice A n c] 26 (0, 0))) ∧ (wlj1.heap[b9]? = some (.cells #[.int .i64 x.id, .int .i64 x.pipe, .int .i64 x.node, .bool x.shut] 40 (0, 0))) ∧ (Below w.heap.size w wlj1)) ?_ ?_
   ·rintro amj1 aaj1 wlj1 ⟨k2, ⟨Uj1, rfl⟩, rfl, hk2, hkk, x6, x13, c33⟩
    refine wk fun K6 h6 => ?_
    refine W.region_sch (row := none) (Sch.app [(1, false), (3, false), (4, false)] (.br 0 5 (Sch.app [] (.br 2 5 (Sch.of [(5, true), (6, true), (7, false)]) (Sch.of [(2, true), (6, true), (7, false)]))) (Sch.of [(0, true), (2, true), (6, true), (7, false)]))) kk kk (fun _ d _ _ _ h => by cases d <;> exact h) kk (fun w34 e35 s36 => ?_)
    refine Fv (.slice A2 n2 c2) ?_
    refine Fv (.int .i64 (k2 : Int)) ?_
    refine Fq (.agg #[.int .i64 x.id, .int .i64 x.pipe, .int .i64 x.node, .bool x.shut]) (r_load4 rfl ek kk kk (sgS (blk_cell (j := 0) x13 kk) onn) (sgS (blk_cell (j := 1) x13 kk) onn) (sgS (blk_cell (j := 2) x13 kk) onn) (sgS (blk_cell (j := 3) x13 kk) onn)) ?_
    refine W.sbr ?_ ?_
    ·refine W.sn (fun b => .slice (some ⟨b, 0, none⟩) 0 0) #[] 40 s36 rfl kk rfl (fun _ => by kernel_rfl) (fun b37 w38 hb39 k40 x41 s42 => ?_)
     apply F.nx
     have lo43 : w.heap.size ≤ b37 := Nl ((Sb c33 s36 nkk)).size (Nat.le_of_eq hb39)
     refine W.sbr ?_ ?_
     ·have ho46 := own_empty (base := w.heap.size) (size := 4) x41 lo43
      replace ho46 : World.ownsRow _ _ _ _ _ _ (valvesV []) := ho46
      replace ho46 : World.ownsRow _ _ _ _ _ _ (valvesV []) := ho46
      refine W.sapR (e := 40) (size := 4) (base := w.heap.size) (v := .slice (some ⟨b37, 0, none⟩) 0 0) (A := A2) (m := n2) (c := c2) s42 rfl rfl rfl rfl kk kk kk ho46 (Rk hb (Sb c33 s42 nkk)) hfm2 (valves_one _) (by omega) (by have := ((Sb c33 s42 nkk)).size; omega) (.inr (fun kq e => by have := (s36).size; have := hb39; have e' := Option.some.inj e; simp at e'; omega)) (fun A49 cap50 w51 ho52 hg53 hat54 s55 => ?_)
      apply F.nx
      have ho52 := own_joinV ho52
      have fr58 : ∀ kq, (.slice A49 (0 + n2) cap50 : Value).ownBlock = some kq → wlj1.heap.size ≤ kq := fun kq e => by
        have hs := (s42).size
        rcases hat54 with h | h
        · exact (show ∀ kq, Value.ownBlock _ = some kq → wlj1.heap.size ≤ kq from (fun kq e => by have := (s36).size; have := hb39; have e' := Option.some.inj e; simp at e'; omega)) kq (h.symm.trans e)
        · have := Option.some.inj (h.symm.trans e); omega
      replace ho52 : World.ownsRow _ _ _ _ _ _ (valvesV vs) := ho52
      refine W.sn (fun b => .slice (some ⟨b, 0, none⟩) 1 1) #[.int .i64 x.id, .int .i64 x.pipe, .int .i64 x.node, .bool x.shut] 40 s55 rfl kk rfl (fun _ => by kernel_rfl) (fun b59 w60 hb61 k62 x63 s64 => ?_)
      apply F.nx
      have lo65 : w.heap.size ≤ b59 := Nl ((Sb c33 s55 nkk)).size (Nat.le_of_eq hb61)
      have nb68 : Nb b59 (.slice A49 (0 + n2) cap50) := nb_hi ho52 (Nat.le_of_eq hb61)
      have ho69 := own_kept ho52 k62
      refine Fc [.slice A49 (0 + n2) cap50, .int .i64 (k2 : Int), .slice (some ⟨b59, 0, none⟩) 1 1] (InsertV_any A49 (0 + n2) cap50 k2 b59 w.heap.size vs x _ ((Sb c33 s64 nkk)).size ho69 (by rcases hat54 with h | h <;> rw [h] <;> simp [Value.ownBlock]) x63 nb68 (by omega) (by omega)) ?_
      rintro e w73 ⟨A70, c71, rfl, ho75, g74, hat77⟩
      have s76 := SG.of_grown s64 g74 (.inr fr58)
      refine ⟨_, rfl, s76, ?_⟩
      apply F.nx
      have fr81 : ∀ kq, (.slice A70 ((0 + n2) + 1) c71 : Value).ownBlock = some kq → wlj1.heap.size ≤ kq := fun kq e => by
        have hs := (s64).size
        rcases (show (.slice A70 ((0 + n2) + 1) c71 : Value).ownBlock = (.slice A49 (0 + n2) cap50 : Value).ownBlock ∨ ∀ k9, (.slice A70 ((0 + n2) + 1) c71 : Value).ownBlock = some k9 → w60.heap.size ≤ k9 from hat77) with h | h
        · exact (show ∀ kq, (.slice A49 (0 + n2) cap50 : Value).ownBlock = some kq → wlj1.heap.size ≤ kq from fr58) kq (by rw [← h]; exact e)
        · have := h kq e; omega
      refine Fa (.slice A70 ((0 + n2) + 1) c71) ?_
      apply F.es
      have x6 := Sk s76 x6 onn
      have x13 := Sk s76 x13 onn
      have c82 := (Sb c33 s76 nkk)
      apply h6
      refine wk fun K7 h7 => ?_
      refine W.region_plain (row := none) [(0, false), (1, false), (2, false), (3, false), (4, false), (5, true), (6, false), (7, false), (8, false), (9, false), (10, false), (11, false), (12, false)] kk ?_
      have s83 := SG.self w73 none
      refine Fq (.agg #[.int .i64 m, .slice A n c]) (r_load2 rfl ek kk kk (sgS (blk_cell (j := 0) x6 kk) onn) (sgS (blk_cell (j := 1) x6 kk) onn)) ?_
      refine Fv (.slice A2 n2 c2) ?_
      refine Fv (.int .i64 s) ?_
      refine Fv (.int .i64 id) ?_
      refine Fv (.slice A4 n4 c4) ?_
      have lr90 := World.ownsRow.lt ho75
      have z88 := ((Sb c82 s83 nkk)).size
      refine Fc [.agg #[.int .i64 m, .slice A n c], .slice A2 n2 c2, .int .i64 s, .int .i64 id, .slice A4 n4 c4] (gentlest_any m A n c ps A2 n2 c2 vs s id A4 n4 c4 cs _ (Rk ha (Sb c82 s83 nkk)) (Rk hb (Sb c82 s83 nkk)) (by omega) (by omega) hfm2 hv9 hs hfa (Rk hc4 (Sb c82 s83 nkk)) (by omega) hco) ?_
      rintro e w92 ⟨A84, c85, rfl, ho86, b91⟩
      have s93 := SG.of_below s83 b91
      refine ⟨_, rfl, s93, ?_⟩
      apply F.nx
      have ho94 := own_kept ho75 b91
      have ho87 := own_base (base' := w.heap.size) ho86 z88
      have bd99 := lt_bd (ps := ps) (vs := vs) (s := s) (id := id) hco9.2
      rcases Bool.eq_false_or_eq_true ((bestR ps vs s id cs).isSome) with q100 | q100
      ·rw [q100]
       refine Fv (.tuple #[.slice A84 ((bpOf (bestR ps vs s id cs)).length) c85, .int .i64 (ltOf (bestR ps vs s id cs)), .bool true]) ?_
       refine Fq (.slice A84 ((bpOf (bestR ps vs s id cs)).length) c85) (r_extract (vs := #[.slice A84 ((bpOf (bestR ps vs s id cs)).length) c85, .int .i64 (ltOf (bestR ps vs s id cs)), .bool true]) rfl ek kk) ?_
       refine Fq (.int .i64 (ltOf (bestR ps vs s id cs))) (r_extract (vs := #[.slice A84 ((bpOf (bestR ps vs s id cs)).length) c85, .int .i64 (ltOf (bestR ps vs s id cs)), .bool true]) rfl ek kk) ?_
       refine Fq (.bool true) (r_extract (vs := #[.slice A84 ((bpOf (bestR ps vs s id cs)).length) c85, .int .i64 (ltOf (bestR ps vs s id cs)), .bool true]) rfl ek kk) ?_
       refine Fa (.slice A84 ((bpOf (bestR ps vs s id cs)).length) c85) ?_
       refine Fa (.int .i64 (ltOf (bestR ps vs s id cs))) ?_
       refine Fa (.bool true) ?_
       apply F.es
       have x6 := Sk s93 x6 onn
       have x13 := Sk s93 x13 onn
       have c101 := (Sb c82 s93 nkk)
       apply h7
       refine wk fun K8 h8 => ?_
       refine wk fun K9 h9 => ?_
       refine W.region_plain (row := none) [(0, false), (1, false), (2, false), (3, false), (4, false), (5, true), (6, false), (7, false)] kk ?_
       have s102 := SG.self w92 none
       refine Fv (.bool true) ?_
       refine Fq (.bool false) (r_not (b := true) rfl ek rfl) ?_
       refine Fv (.bool false) ?_
       refine Fq (.agg #[.int .i64 m, .slice A n c]) (r_load2 rfl ek kk kk (sgS (blk_cell (j := 0) x6 kk) onn) (sgS (blk_cell (j := 1) x6 kk) onn)) ?_
       refine Fv (.slice A70 ((0 + n2) + 1) c71) ?_
       refine Fc [.agg #[.int .i64 m, .slice A n c], .slice A70 ((0 + n2) + 1) c71] (IsValidValves_any m A n c ps A70 ((0 + n2) + 1) c71 (vs.take k2 ++ x :: vs.drop k2) _ (Rk ha (Sb c101 s102 nkk)) (own_rd ho94) (by omega) (by omega) (own_fm ho94)) ?_
       rintro e w104 ⟨rfl, b103⟩
       have s105 := SG.of_below s102 b103
       refine ⟨_, rfl, s105, ?_⟩
       apply F.nx
       have ho106 := own_kept ho94 b103
       have ho107 := own_kept ho87 b103
       rcases Bool.eq_false_or_eq_true (goodV m ps (vs.take k2 ++ x :: vs.drop k2)) with q108 | q108
       ·rw [q108]
        have hvm := goodV_of q108
        refine Fq (.bool false) (r_not (b := true) rfl ek rfl) ?_
        refine Fq (.bool false) (r_pick (b := false) rfl ek ek) ?_
        apply F.es
        have x6 := Sk s105 x6 onn
        have x13 := Sk s105 x13 onn
        have c109 := (Sb c101 s105 nkk)
        apply h9
        refine wp_cond_false ek ?_
        apply wp_skip
        apply h8
        refine wk fun K10 h10 => ?_
        refine W.region_plain (row := none) [(0, false), (1, false), (2, false), (3, false), (4, false), (5, true), (6, false), (7, false), (8, false), (9, false), (10, false), (11, false), (12, false)] kk ?_
        have s110 := SG.self w104 none
        refine Fq (.agg #[.int .i64 m, .slice A n c]) (r_load2 rfl ek kk kk (sgS (blk_cell (j := 0) x6 kk) onn) (sgS (blk_cell (j := 1) x6 kk) onn)) ?_
        refine Fv (.slice A70 ((0 + n2) + 1) c71) ?_
        refine Fv (.int .i64 s) ?_
        refine Fv (.int .i64 id) ?_
        refine Fv (.slice A4 n4 c4) ?_
        have lr117 := World.ownsRow.lt ho106
        have lr118 := World.ownsRow.lt ho107
        have z115 := ((Sb c109 s110 nkk)).size
        refine Fc [.agg #[.int .i64 m, .slice A n c], .slice A70 ((0 + n2) + 1) c71, .int .i64 s, .int .i64 id, .slice A4 n4 c4] (gentlest_any m A n c ps A70 ((0 + n2) + 1) c71 (vs.take k2 ++ x :: vs.drop k2) s id A4 n4 c4 cs _ (Rk ha (Sb c109 s110 nkk)) (own_rd ho106) (by omega) (by omega) (own_fm ho106) hvm hs hfa (Rk hc4 (Sb c109 s110 nkk)) (by omega) hco) ?_
        rintro e w120 ⟨A111, c112, rfl, ho113, b119⟩
        have s121 := SG.of_below s110 b119
        refine ⟨_, rfl, s121, ?_⟩
        apply F.nx
        have bd129 := lt_bd (ps := ps) (vs := (vs.take k2 ++ x :: vs.drop k2)) (s := s) (id := id) hco9.2
        have q130 : ((bestR ps (vs.take k2 ++ x :: vs.drop k2) s id cs).isSome) = true := bestR_more (fun u9 hu9 => insV_mem (k := k2) (v := x) hu9) q100
        rw [q130]
        refine Fv (.tuple #[.slice A111 ((bpOf (bestR ps (vs.take k2 ++ x :: vs.drop k2) s id cs)).length) c112, .int .i64 (ltOf (bestR ps (vs.take k2 ++ x :: vs.drop k2) s id cs)), .bool true]) ?_
        refine Fq (.slice A111 ((bpOf (bestR ps (vs.take k2 ++ x :: vs.drop k2) s id cs)).length) c112) (r_extract (vs := #[.slice A111 ((bpOf (bestR ps (vs.take k2 ++ x :: vs.drop k2) s id cs)).length) c112, .int .i64 (ltOf (bestR ps (vs.take k2 ++ x :: vs.drop k2) s id cs)), .bool true]) rfl ek kk) ?_
        refine Fq (.int .i64 (ltOf (bestR ps (vs.take k2 ++ x :: vs.drop k2) s id cs))) (r_extract (vs := #[.slice A111 ((bpOf (bestR ps (vs.take k2 ++ x :: vs.drop k2) s id cs)).length) c112, .int .i64 (ltOf (bestR ps (vs.take k2 ++ x :: vs.drop k2) s id cs)), .bool true]) rfl ek kk) ?_
        refine Fq (.bool true) (r_extract (vs := #[.slice A111 ((bpOf (bestR ps (vs.take k2 ++ x :: vs.drop k2) s id cs)).length) c112, .int .i64 (ltOf (bestR ps (vs.take k2 ++ x :: vs.drop k2) s id cs)), .bool true]) rfl ek kk) ?_
        refine Fa (.slice A111 ((bpOf (bestR ps (vs.take k2 ++ x :: vs.drop k2) s id cs)).length) c112) ?_
        refine Fa (.int .i64 (ltOf (bestR ps (vs.take k2 ++ x :: vs.drop k2) s id cs))) ?_
        refine Fa (.bool true) ?_
        apply F.es
        have x6 := Sk s121 x6 onn
        have x13 := Sk s121 x13 onn
        have c131 := (Sb c109 s121 nkk)
        apply h10
        refine wk fun K11 h11 => ?_
        refine Rq 6 ?_
        refine Fv (.int .i64 (ltOf (bestR ps vs s id cs))) ?_
        refine Fv (.int .i64 (ltOf (bestR ps (vs.take k2 ++ x :: vs.drop k2) s id cs))) ?_
        refine Fq (.int .i64 ((ltOf (bestR ps vs s id cs)) - (ltOf (bestR ps (vs.take k2 ++ x :: vs.drop k2) s id cs)))) (r_sub (m := (ltOf (bestR ps vs s id cs))) (n := (ltOf (bestR ps (vs.take k2 ++ x :: vs.drop k2) s id cs))) (z := (ltOf (bestR ps vs s id cs)) - (ltOf (bestR ps (vs.take k2 ++ x :: vs.drop k2) s id cs))) rfl ek ek (rfl) (by omega)) ?_
        refine Fv (.bool true) ?_
        refine Fa (.int .i64 ((ltOf (bestR ps vs s id cs)) - (ltOf (bestR ps (vs.take k2 ++ x :: vs.drop k2) s id cs)))) ?_
        refine Fa (.bool true) ?_
        apply F.es
        apply h11
        refine wp_ret ?_
        try simp only [Exit.then]
        refine ret2 (v := .int .i64 ((ltOf (bestR ps vs s id cs)) - (ltOf (bestR ps (vs.take k2 ++ x :: vs.drop k2) s id cs)))) (x := .bool true) rfl kk kk ?_
        have hm9 : moreV vs x = (vs.take k2 ++ x :: vs.drop k2) := by unfold moreV insV; rw [hkk]
        have e8 : NewValveGain_v1 m ps vs s id x cs = true := by unfold NewValveGain_v1; rw [q22, q26, decide_eq_true (by omega), q100, hm9, q108]; try rfl
        exact ⟨by unfold NewValveGain_v0; rw [if_pos e8, e8, hm9, ← lt_least q100, ← lt_least (bestR_more (ps := ps) (s := s) (id := id) (cs := cs) (vs' := (vs.take k2 ++ x :: vs.drop k2)) (fun u9 hu9 => insV_mem (k := k2) (v := x) hu9) q100)], c131⟩
       rw [q108]
       refine Fq (.bool true) (r_not (b := false) rfl ek rfl) ?_
       refine Fq (.bool true) (r_pick (b := false) rfl ek ek) ?_
       apply F.es
       have x6 := Sk s105 x6 onn
       have x13 := Sk s105 x13 onn
       have c132 := (Sb c101 s105 nkk)
       apply h9
       refine wp_cond_true ek ?_
       refine wk fun K12 h12 => ?_
       refine Rq 2 ?_
       refine Fa (.int .i64 0) ?_
       refine Fa (.bool false) ?_
       apply F.es
       apply h12
       refine wp_ret ?_
       try simp only [Exit.then]
       refine ret2 (v := .int .i64 0) (x := .bool false) rfl kk kk ?_
       have hm9 : moreV vs x = (vs.take k2 ++ x :: vs.drop k2) := by unfold moreV insV; rw [hkk]
       have e8 : NewValveGain_v1 m ps vs s id x cs = false := by unfold NewValveGain_v1; rw [q22, q26, decide_eq_true (by omega), q100, hm9, q108]; try rfl
       exact ⟨by unfold NewValveGain_v0; rw [if_neg (by rw [e8]; simp), e8], c132⟩
      rw [q100]
      refine Fv (.tuple #[.slice A84 ((bpOf (bestR ps vs s id cs)).length) c85, .int .i64 (ltOf (bestR ps vs s id cs)), .bool false]) ?_
      refine Fq (.slice A84 ((bpOf (bestR ps vs s id cs)).length) c85) (r_extract (vs := #[.slice A84 ((bpOf (bestR ps vs s id cs)).length) c85, .int .i64 (ltOf (bestR ps vs s id cs)), .bool false]) rfl ek kk) ?_
      refine Fq (.int .i64 (ltOf (bestR ps vs s id cs))) (r_extract (vs := #[.slice A84 ((bpOf (bestR ps vs s id cs)).length) c85, .int .i64 (ltOf (bestR ps vs s id cs)), .bool false]) rfl ek kk) ?_
      refine Fq (.bool false) (r_extract (vs := #[.slice A84 ((bpOf (bestR ps vs s id cs)).length) c85, .int .i64 (ltOf (bestR ps vs s id cs)), .bool false]) rfl ek kk) ?_
      refine Fa (.slice A84 ((bpOf (bestR ps vs s id cs)).length) c85) ?_
      refine Fa (.int .i64 (ltOf (bestR ps vs s id cs))) ?_
      refine Fa (.bool false) ?_
      apply F.es
      have x6 := Sk s93 x6 onn
      have x13 := Sk s93 x13 onn
      have c133 := (Sb c82 s93 nkk)
      apply h7
      refine wk fun K13 h13 => ?_
      refine wk fun K14 h14 => ?_
      refine W.region_plain (row := none) [(0, false), (1, false), (2, false), (3, false), (4, false), (5, true), (6, false), (7, false)] kk ?_
      have s134 := SG.self w92 none
      refine Fv (.bool false) ?_
      refine Fq (.bool true) (r_not (b := false) rfl ek rfl) ?_
      refine Fv (.bool true) ?_
      refine Fs s134 ?_
      refine Fs s134 ?_
      refine Fs s134 ?_
      refine Fs s134 ?_
      refine Fq (.bool true) (r_pick (b := true) rfl ek ek) ?_
      apply F.es
      have x6 := Sk s134 x6 onn
      have x13 := Sk s134 x13 onn
      have c135 := (Sb c133 s134 nkk)
      apply h14
      refine wp_cond_true ek ?_
      refine wk fun K15 h15 => ?_
      refine Rq 2 ?_
      refine Fa (.int .i64 0) ?_
      refine Fa (.bool false) ?_
      apply F.es
      apply h15
      refine wp_ret ?_
      try simp only [Exit.then]
      refine ret2 (v := .int .i64 0) (x := .bool false) rfl kk kk ?_
      have e8 : NewValveGain_v1 m ps vs s id x cs = false := by unfold NewValveGain_v1; rw [q22, q26, decide_eq_true (by omega), q100]; try rfl
      exact ⟨by unfold NewValveGain_v0; rw [if_neg (by rw [e8]; simp), e8], c135⟩
     refine W.sn (fun b => .slice (some ⟨b, 0, none⟩) 1 1) #[.int .i64 x.id, .int .i64 x.pipe, .int .i64 x.node, .bool x.shut] 40 s42 rfl kk rfl (fun _ => by kernel_rfl) (fun b136 w137 hb138 k139 x140 s141 => ?_)
     apply F.nx
     have lo142 : w.heap.size ≤ b136 := Nl ((Sb c33 s42 nkk)).size (Nat.le_of_eq hb138)
     have ne145 : b37 ≠ b136 := Nat.ne_of_lt (Nat.lt_of_lt_of_eq (blk_lt x41) hb138)
     have x41 := (k139.block _ (blk_lt x41)).trans x41
     have ho146 := own_empty (base := w.heap.size) (size := 4) x41 lo43
     replace ho146 : World.ownsRow _ _ _ _ _ _ (valvesV []) := ho146
     have nb149 : Nb b136 (.slice (some ⟨b37, 0, none⟩) 0 0) := nb_new (Ne.symm ne145)
     replace ho146 : World.ownsRow _ _ _ _ _ _ (valvesV []) := ho146
     refine W.sapR (e := 40) (size := 4) (base := w.heap.size) (v := .slice (some ⟨b37, 0, none⟩) 0 0) (A := A2) (m := n2) (c := c2) s141 rfl rfl rfl rfl kk kk kk ho146 (Rk hb (Sb c33 s141 nkk)) hfm2 (valves_one _) (by omega) (by have := ((Sb c33 s141 nkk)).size; omega) (.inr (fun kq e => by have := (s36).size; have := hb39; have e' := Option.some.inj e; simp at e'; omega)) (fun A150 cap151 w152 ho153 hg154 hat155 s156 => ?_)
     apply F.nx
     have nb159 : Nb b136 (.slice A150 (0 + n2) cap151) := nb_app2 nb149 (blk_lt x140) hat155
     have x140 := (hg154.block _ (blk_lt x140) nb149).trans x140
     have ho153 := own_joinV ho153
     have fr160 : ∀ kq, (.slice A150 (0 + n2) cap151 : Value).ownBlock = some kq → wlj1.heap.size ≤ kq := fun kq e => by
       have hs := (s141).size
       rcases hat155 with h | h
       · exact (show ∀ kq, Value.ownBlock _ = some kq → wlj1.heap.size ≤ kq from (fun kq e => by have := (s36).size; have := hb39; have e' := Option.some.inj e; simp at e'; omega)) kq (h.symm.trans e)
       · have := Option.some.inj (h.symm.trans e); omega
     replace ho153 : World.ownsRow _ _ _ _ _ _ (valvesV vs) := ho153
     refine Fc [.slice A150 (0 + n2) cap151, .int .i64 (k2 : Int), .slice (some ⟨b136, 0, none⟩) 1 1] (InsertV_any A150 (0 + n2) cap151 k2 b136 w.heap.size vs x _ ((Sb c33 s156 nkk)).size ho153 (by rcases hat155 with h | h <;> rw [h] <;> simp [Value.ownBlock]) x140 nb159 (by omega) (by omega)) ?_
     rintro e w164 ⟨A161, c162, rfl, ho166, g165, hat168⟩
     have s167 := SG.of_grown s156 g165 (.inr fr160)
     refine ⟨_, rfl, s167, ?_⟩
     apply F.nx
     have fr172 : ∀ kq, (.slice A161 ((0 + n2) + 1) c162 : Value).ownBlock = some kq → wlj1.heap.size ≤ kq := fun kq e => by
       have hs := (s156).size
       rcases (show (.slice A161 ((0 + n2) + 1) c162 : Value).ownBlock = (.slice A150 (0 + n2) cap151 : Value).ownBlock ∨ ∀ k9, (.slice A161 ((0 + n2) + 1) c162 : Value).ownBlock = some k9 → w152.heap.size ≤ k9 from hat168) with h | h
       · exact (show ∀ kq, (.slice A150 (0 + n2) cap151 : Value).ownBlock = some kq → wlj1.heap.size ≤ kq from fr160) kq (by rw [← h]; exact e)
       · have := h kq e; omega
     refine Fa (.slice A161 ((0 + n2) + 1) c162) ?_
     apply F.es
     have x6 := Sk s167 x6 onn
     have x13 := Sk s167 x13 onn
     have c173 := (Sb c33 s167 nkk)
     apply h6
     refine wk fun K16 h16 => ?_
     refine W.region_plain (row := none) [(0, false), (1, false), (2, false), (3, false), (4, false), (5, true), (6, false), (7, false), (8, false), (9, false), (10, false), (11, false), (12, false)] kk ?_
     have s174 := SG.self w164 none
     refine Fq (.agg #[.int .i64 m, .slice A n c]) (r_load2 rfl ek kk kk (sgS (blk_cell (j := 0) x6 kk) onn) (sgS (blk_cell (j := 1) x6 kk) onn)) ?_
     refine Fv (.slice A2 n2 c2) ?_
     refine Fv (.int .i64 s) ?_
     refine Fv (.int .i64 id) ?_
     refine Fv (.slice A4 n4 c4) ?_
     have lr181 := World.ownsRow.lt ho166
     have z179 := ((Sb c173 s174 nkk)).size
     refine Fc [.agg #[.int .i64 m, .slice A n c], .slice A2 n2 c2, .int .i64 s, .int .i64 id, .slice A4 n4 c4] (gentlest_any m A n c ps A2 n2 c2 vs s id A4 n4 c4 cs _ (Rk ha (Sb c173 s174 nkk)) (Rk hb (Sb c173 s174 nkk)) (by omega) (by omega) hfm2 hv9 hs hfa (Rk hc4 (Sb c173 s174 nkk)) (by omega) hco) ?_
     rintro e w183 ⟨A175, c176, rfl, ho177, b182⟩
     have s184 := SG.of_below s174 b182
     refine ⟨_, rfl, s184, ?_⟩
     apply F.nx
     have ho185 := own_kept ho166 b182
     have ho178 := own_base (base' := w.heap.size) ho177 z179
     have bd190 := lt_bd (ps := ps) (vs := vs) (s := s) (id := id) hco9.2
     rcases Bool.eq_false_or_eq_true ((bestR ps vs s id cs).isSome) with q191 | q191
     ·rw [q191]
      refine Fv (.tuple #[.slice A175 ((bpOf (bestR ps vs s id cs)).length) c176, .int .i64 (ltOf (bestR ps vs s id cs)), .bool true]) ?_
      refine Fq (.slice A175 ((bpOf (bestR ps vs s id cs)).length) c176) (r_extract (vs := #[.slice A175 ((bpOf (bestR ps vs s id cs)).length) c176, .int .i64 (ltOf (bestR ps vs s id cs)), .bool true]) rfl ek kk) ?_
      refine Fq (.int .i64 (ltOf (bestR ps vs s id cs))) (r_extract (vs := #[.slice A175 ((bpOf (bestR ps vs s id cs)).length) c176, .int .i64 (ltOf (bestR ps vs s id cs)), .bool true]) rfl ek kk) ?_
      refine Fq (.bool true) (r_extract (vs := #[.slice A175 ((bpOf (bestR ps vs s id cs)).length) c176, .int .i64 (ltOf (bestR ps vs s id cs)), .bool true]) rfl ek kk) ?_
      refine Fa (.slice A175 ((bpOf (bestR ps vs s id cs)).length) c176) ?_
      refine Fa (.int .i64 (ltOf (bestR ps vs s id cs))) ?_
      refine Fa (.bool true) ?_
      apply F.es
      have x6 := Sk s184 x6 onn
      have x13 := Sk s184 x13 onn
      have c192 := (Sb c173 s184 nkk)
      apply h16
      refine wk fun K17 h17 => ?_
      refine wk fun K18 h18 => ?_
      refine W.region_plain (row := none) [(0, false), (1, false), (2, false), (3, false), (4, false), (5, true), (6, false), (7, false)] kk ?_
      have s193 := SG.self w183 none
      refine Fv (.bool true) ?_
      refine Fq (.bool false) (r_not (b := true) rfl ek rfl) ?_
      refine Fv (.bool false) ?_
      refine Fq (.agg #[.int .i64 m, .slice A n c]) (r_load2 rfl ek kk kk (sgS (blk_cell (j := 0) x6 kk) onn) (sgS (blk_cell (j := 1) x6 kk) onn)) ?_
      refine Fv (.slice A161 ((0 + n2) + 1) c162) ?_
      refine Fc [.agg #[.int .i64 m, .slice A n c], .slice A161 ((0 + n2) + 1) c162] (IsValidValves_any m A n c ps A161 ((0 + n2) + 1) c162 (vs.take k2 ++ x :: vs.drop k2) _ (Rk ha (Sb c192 s193 nkk)) (own_rd ho185) (by omega) (by omega) (own_fm ho185)) ?_
      rintro e w195 ⟨rfl, b194⟩
      have s196 := SG.of_below s193 b194
      refine ⟨_, rfl, s196, ?_⟩
      apply F.nx
      have ho197 := own_kept ho185 b194
      have ho198 := own_kept ho178 b194
      rcases Bool.eq_false_or_eq_true (goodV m ps (vs.take k2 ++ x :: vs.drop k2)) with q199 | q199
      ·rw [q199]
       have hvm := goodV_of q199
       refine Fq (.bool false) (r_not (b := true) rfl ek rfl) ?_
       refine Fq (.bool false) (r_pick (b := false) rfl ek ek) ?_
       apply F.es
       have x6 := Sk s196 x6 onn
       have x13 := Sk s196 x13 onn
       have c200 := (Sb c192 s196 nkk)
       apply h18
       refine wp_cond_false ek ?_
       apply wp_skip
       apply h17
       refine wk fun K19 h19 => ?_
       refine W.region_plain (row := none) [(0, false), (1, false), (2, false), (3, false), (4, false), (5, true), (6, false), (7, false), (8, false), (9, false), (10, false), (11, false), (12, false)] kk ?_
       have s201 := SG.self w195 none
       refine Fq (.agg #[.int .i64 m, .slice A n c]) (r_load2 rfl ek kk kk (sgS (blk_cell (j := 0) x6 kk) onn) (sgS (blk_cell (j := 1) x6 kk) onn)) ?_
       refine Fv (.slice A161 ((0 + n2) + 1) c162) ?_
       refine Fv (.int .i64 s) ?_
       refine Fv (.int .i64 id) ?_
       refine Fv (.slice A4 n4 c4) ?_
       have lr208 := World.ownsRow.lt ho197
       have lr209 := World.ownsRow.lt ho198
       have z206 := ((Sb c200 s201 nkk)).size
       refine Fc [.agg #[.int .i64 m, .slice A n c], .slice A161 ((0 + n2) + 1) c162, .int .i64 s, .int .i64 id, .slice A4 n4 c4] (gentlest_any m A n c ps A161 ((0 + n2) + 1) c162 (vs.take k2 ++ x :: vs.drop k2) s id A4 n4 c4 cs _ (Rk ha (Sb c200 s201 nkk)) (own_rd ho197) (by omega) (by omega) (own_fm ho197) hvm hs hfa (Rk hc4 (Sb c200 s201 nkk)) (by omega) hco) ?_
       rintro e w211 ⟨A202, c203, rfl, ho204, b210⟩
       have s212 := SG.of_below s201 b210
       refine ⟨_, rfl, s212, ?_⟩
       apply F.nx
       have bd220 := lt_bd (ps := ps) (vs := (vs.take k2 ++ x :: vs.drop k2)) (s := s) (id := id) hco9.2
       have q221 : ((bestR ps (vs.take k2 ++ x :: vs.drop k2) s id cs).isSome) = true := bestR_more (fun u9 hu9 => insV_mem (k := k2) (v := x) hu9) q191
       rw [q221]
       refine Fv (.tuple #[.slice A202 ((bpOf (bestR ps (vs.take k2 ++ x :: vs.drop k2) s id cs)).length) c203, .int .i64 (ltOf (bestR ps (vs.take k2 ++ x :: vs.drop k2) s id cs)), .bool true]) ?_
       refine Fq (.slice A202 ((bpOf (bestR ps (vs.take k2 ++ x :: vs.drop k2) s id cs)).length) c203) (r_extract (vs := #[.slice A202 ((bpOf (bestR ps (vs.take k2 ++ x :: vs.drop k2) s id cs)).length) c203, .int .i64 (ltOf (bestR ps (vs.take k2 ++ x :: vs.drop k2) s id cs)), .bool true]) rfl ek kk) ?_
       refine Fq (.int .i64 (ltOf (bestR ps (vs.take k2 ++ x :: vs.drop k2) s id cs))) (r_extract (vs := #[.slice A202 ((bpOf (bestR ps (vs.take k2 ++ x :: vs.drop k2) s id cs)).length) c203, .int .i64 (ltOf (bestR ps (vs.take k2 ++ x :: vs.drop k2) s id cs)), .bool true]) rfl ek kk) ?_
       refine Fq (.bool true) (r_extract (vs := #[.slice A202 ((bpOf (bestR ps (vs.take k2 ++ x :: vs.drop k2) s id cs)).length) c203, .int .i64 (ltOf (bestR ps (vs.take k2 ++ x :: vs.drop k2) s id cs)), .bool true]) rfl ek kk) ?_
       refine Fa (.slice A202 ((bpOf (bestR ps (vs.take k2 ++ x :: vs.drop k2) s id cs)).length) c203) ?_
       refine Fa (.int .i64 (ltOf (bestR ps (vs.take k2 ++ x :: vs.drop k2) s id cs))) ?_
       refine Fa (.bool true) ?_
       apply F.es
       have x6 := Sk s212 x6 onn
       have x13 := Sk s212 x13 onn
       have c222 := (Sb c200 s212 nkk)
       apply h19
       refine wk fun K20 h20 => ?_
       refine Rq 6 ?_
       refine Fv (.int .i64 (ltOf (bestR ps vs s id cs))) ?_
       refine Fv (.int .i64 (ltOf (bestR ps (vs.take k2 ++ x :: vs.drop k2) s id cs))) ?_
       refine Fq (.int .i64 ((ltOf (bestR ps vs s id cs)) - (ltOf (bestR ps (vs.take k2 ++ x :: vs.drop k2) s id cs)))) (r_sub (m := (ltOf (bestR ps vs s id cs))) (n := (ltOf (bestR ps (vs.take k2 ++ x :: vs.drop k2) s id cs))) (z := (ltOf (bestR ps vs s id cs)) - (ltOf (bestR ps (vs.take k2 ++ x :: vs.drop k2) s id cs))) rfl ek ek (rfl) (by omega)) ?_
       refine Fv (.bool true) ?_
       refine Fa (.int .i64 ((ltOf (bestR ps vs s id cs)) - (ltOf (bestR ps (vs.take k2 ++ x :: vs.drop k2) s id cs)))) ?_
       refine Fa (.bool true) ?_
       apply F.es
       apply h20
       refine wp_ret ?_
       try simp only [Exit.then]
       refine ret2 (v := .int .i64 ((ltOf (bestR ps vs s id cs)) - (ltOf (bestR ps (vs.take k2 ++ x :: vs.drop k2) s id cs)))) (x := .bool true) rfl kk kk ?_
       have hm9 : moreV vs x = (vs.take k2 ++ x :: vs.drop k2) := by unfold moreV insV; rw [hkk]
       have e8 : NewValveGain_v1 m ps vs s id x cs = true := by unfold NewValveGain_v1; rw [q22, q26, decide_eq_true (by omega), q191, hm9, q199]; try rfl
       exact ⟨by unfold NewValveGain_v0; rw [if_pos e8, e8, hm9, ← lt_least q191, ← lt_least (bestR_more (ps := ps) (s := s) (id := id) (cs := cs) (vs' := (vs.take k2 ++ x :: vs.drop k2)) (fun u9 hu9 => insV_mem (k := k2) (v := x) hu9) q191)], c222⟩
      rw [q199]
      refine Fq (.bool true) (r_not (b := false) rfl ek rfl) ?_
      refine Fq (.bool true) (r_pick (b := false) rfl ek ek) ?_
      apply F.es
      have x6 := Sk s196 x6 onn
      have x13 := Sk s196 x13 onn
      have c223 := (Sb c192 s196 nkk)
      apply h18
      refine wp_cond_true ek ?_
      refine wk fun K21 h21 => ?_
      refine Rq 2 ?_
      refine Fa (.int .i64 0) ?_
      refine Fa (.bool false) ?_
      apply F.es
      apply h21
      refine wp_ret ?_
      try simp only [Exit.then]
      refine ret2 (v := .int .i64 0) (x := .bool false) rfl kk kk ?_
      have hm9 : moreV vs x = (vs.take k2 ++ x :: vs.drop k2) := by unfold moreV insV; rw [hkk]
      have e8 : NewValveGain_v1 m ps vs s id x cs = false := by unfold NewValveGain_v1; rw [q22, q26, decide_eq_true (by omega), q191, hm9, q199]; try rfl
      exact ⟨by unfold NewValveGain_v0; rw [if_neg (by rw [e8]; simp), e8], c223⟩
     rw [q191]
     refine Fv (.tuple #[.slice A175 ((bpOf (bestR ps vs s id cs)).length) c176, .int .i64 (ltOf (bestR ps vs s id cs)), .bool false]) ?_
     refine Fq (.slice A175 ((bpOf (bestR ps vs s id cs)).length) c176) (r_extract (vs := #[.slice A175 ((bpOf (bestR ps vs s id cs)).length) c176, .int .i64 (ltOf (bestR ps vs s id cs)), .bool false]) rfl ek kk) ?_
     refine Fq (.int .i64 (ltOf (bestR ps vs s id cs))) (r_extract (vs := #[.slice A175 ((bpOf (bestR ps vs s id cs)).length) c176, .int .i64 (ltOf (bestR ps vs s id cs)), .bool false]) rfl ek kk) ?_
     refine Fq (.bool false) (r_extract (vs := #[.slice A175 ((bpOf (bestR ps vs s id cs)).length) c176, .int .i64 (ltOf (bestR ps vs s id cs)), .bool false]) rfl ek kk) ?_
     refine Fa (.slice A175 ((bpOf (bestR ps vs s id cs)).length) c176) ?_
     refine Fa (.int .i64 (ltOf (bestR ps vs s id cs))) ?_
     refine Fa (.bool false) ?_
     apply F.es
     have x6 := Sk s184 x6 onn
     have x13 := Sk s184 x13 onn
     have c224 := (Sb c173 s184 nkk)
     apply h16
     refine wk fun K22 h22 => ?_
     refine wk fun K23 h23 => ?_
     refine W.region_plain (row := none) [(0, false), (1, false), (2, false), (3, false), (4, false), (5, true), (6, false), (7, false)] kk ?_
     have s225 := SG.self w183 none
     refine Fv (.bool false) ?_
     refine Fq (.bool true) (r_not (b := false) rfl ek rfl) ?_
     refine Fv (.bool true) ?_
     refine Fs s225 ?_
     refine Fs s225 ?_
     refine Fs s225 ?_
     refine Fs s225 ?_
     refine Fq (.bool true) (r_pick (b := true) rfl ek ek) ?_
     apply F.es
     have x6 := Sk s225 x6 onn
     have x13 := Sk s225 x13 onn
     have c226 := (Sb c224 s225 nkk)
     apply h23
     refine wp_cond_true ek ?_
     refine wk fun K24 h24 => ?_
     refine Rq 2 ?_
     refine Fa (.int .i64 0) ?_
     refine Fa (.bool false) ?_
     apply F.es
     apply h24
     refine wp_ret ?_
     try simp only [Exit.then]
     refine ret2 (v := .int .i64 0) (x := .bool false) rfl kk kk ?_
     have e8 : NewValveGain_v1 m ps vs s id x cs = false := by unfold NewValveGain_v1; rw [q22, q26, decide_eq_true (by omega), q191]; try rfl
     exact ⟨by unfold NewValveGain_v0; rw [if_neg (by rw [e8]; simp), e8], c226⟩
    refine W.sn (fun b => .slice (some ⟨b, 0, none⟩) 1 1) #[.int .i64 x.id, .int .i64 x.pipe, .int .i64 x.node, .bool x.shut] 40 s36 rfl kk rfl (fun _ => by kernel_rfl) (fun b227 w228 hb229 k230 x231 s232 => ?_)
    apply F.nx
    have lo233 : w.heap.size ≤ b227 := Nl ((Sb c33 s36 nkk)).size (Nat.le_of_eq hb229)
    refine W.sn (fun b => .slice (some ⟨b, 0, none⟩) 0 0) #[] 40 s232 rfl kk rfl (fun _ => by kernel_rfl) (fun b236 w237 hb238 k239 x240 s241 => ?_)
    apply F.nx
    have lo242 : w.heap.size ≤ b236 := Nl ((Sb c33 s232 nkk)).size (Nat.le_of_eq hb238)
    have ne245 : b227 ≠ b236 := Nat.ne_of_lt (Nat.lt_of_lt_of_eq (blk_lt x231) hb238)
    have x231 := (k239.block _ (blk_lt x231)).trans x231
    have ho246 := own_empty (base := w.heap.size) (size := 4) x240 lo242
    replace ho246 : World.ownsRow _ _ _ _ _ _ (valvesV []) := ho246
    have nb249 : Nb b227 (.slice (some ⟨b236, 0, none⟩) 0 0) := nb_new ne245
    replace ho246 : World.ownsRow _ _ _ _ _ _ (valvesV []) := ho246
    refine W.sapR (e := 40) (size := 4) (base := w.heap.size) (v := .slice (some ⟨b236, 0, none⟩) 0 0) (A := A2) (m := n2) (c := c2) s241 rfl rfl rfl rfl kk kk kk ho246 (Rk hb (Sb c33 s241 nkk)) hfm2 (valves_one _) (by omega) (by have := ((Sb c33 s241 nkk)).size; omega) (.inr (fun kq e => by have := (s232).size; have := hb238; have e' := Option.some.inj e; simp at e'; omega)) (fun A250 cap251 w252 ho253 hg254 hat255 s256 => ?_)
    apply F.nx
    have nb259 : Nb b227 (.slice A250 (0 + n2) cap251) := nb_app2 nb249 (blk_lt x231) hat255
    have x231 := (hg254.block _ (blk_lt x231) nb249).trans x231
    have ho253 := own_joinV ho253
    have fr260 : ∀ kq, (.slice A250 (0 + n2) cap251 : Value).ownBlock = some kq → wlj1.heap.size ≤ kq := fun kq e => by
      have hs := (s241).size
      rcases hat255 with h | h
      · exact (show ∀ kq, Value.ownBlock _ = some kq → wlj1.heap.size ≤ kq from (fun kq e => by have := (s232).size; have := hb238; have e' := Option.some.inj e; simp at e'; omega)) kq (h.symm.trans e)
      · have := Option.some.inj (h.symm.trans e); omega
    replace ho253 : World.ownsRow _ _ _ _ _ _ (valvesV vs) := ho253
    refine Fc [.slice A250 (0 + n2) cap251, .int .i64 (k2 : Int), .slice (some ⟨b227, 0, none⟩) 1 1] (InsertV_any A250 (0 + n2) cap251 k2 b227 w.heap.size vs x _ ((Sb c33 s256 nkk)).size ho253 (by rcases hat255 with h | h <;> rw [h] <;> simp [Value.ownBlock]) x231 nb259 (by omega) (by omega)) ?_
    rintro e w264 ⟨A261, c262, rfl, ho266, g265, hat268⟩
    have s267 := SG.of_grown s256 g265 (.inr fr260)
    refine ⟨_, rfl, s267, ?_⟩
    apply F.nx
    have fr272 : ∀ kq, (.slice A261 ((0 + n2) + 1) c262 : Value).ownBlock = some kq → wlj1.heap.size ≤ kq := fun kq e => by
      have hs := (s256).size
      rcases (show (.slice A261 ((0 + n2) + 1) c262 : Value).ownBlock = (.slice A250 (0 + n2) cap251 : Value).ownBlock ∨ ∀ k9, (.slice A261 ((0 + n2) + 1) c262 : Value).ownBlock = some k9 → w252.heap.size ≤ k9 from hat268) with h | h
      · exact (show ∀ kq, (.slice A250 (0 + n2) cap251 : Value).ownBlock = some kq → wlj1.heap.size ≤ kq from fr260) kq (by rw [← h]; exact e)
      · have := h kq e; omega
    refine Fa (.slice A261 ((0 + n2) + 1) c262) ?_
    apply F.es
    have x6 := Sk s267 x6 onn
    have x13 := Sk s267 x13 onn
    have c273 := (Sb c33 s267 nkk)
    apply h6
    refine wk fun K25 h25 => ?_
    refine W.region_plain (row := none) [(0, false), (1, false), (2, false), (3, false), (4, false), (5, true), (6, false), (7, false), (8, false), (9, false), (10, false), (11, false), (12, false)] kk ?_
    have s274 := SG.self w264 none
    refine Fq (.agg #[.int .i64 m, .slice A n c]) (r_load2 rfl ek kk kk (sgS (blk_cell (j := 0) x6 kk) onn) (sgS (blk_cell (j := 1) x6 kk) onn)) ?_
    refine Fv (.slice A2 n2 c2) ?_
    refine Fv (.int .i64 s) ?_
    refine Fv (.int .i64 id) ?_
    refine Fv (.slice A4 n4 c4) ?_
    have lr281 := World.ownsRow.lt ho266
    have z279 := ((Sb c273 s274 nkk)).size
    refine Fc [.agg #[.int .i64 m, .slice A n c], .slice A2 n2 c2, .int .i64 s, .int .i64 id, .slice A4 n4 c4] (gentlest_any m A n c ps A2 n2 c2 vs s id A4 n4 c4 cs _ (Rk ha (Sb c273 s274 nkk)) (Rk hb (Sb c273 s274 nkk)) (by omega) (by omega) hfm2 hv9 hs hfa (Rk hc4 (Sb c273 s274 nkk)) (by omega) hco) ?_
    rintro e w283 ⟨A275, c276, rfl, ho277, b282⟩
    have s284 := SG.of_below s274 b282
    refine ⟨_, rfl, s284, ?_⟩
    apply F.nx
    have ho285 := own_kept ho266 b282
    have ho278 := own_base (base' := w.heap.size) ho277 z279
    have bd290 := lt_bd (ps := ps) (vs := vs) (s := s) (id := id) hco9.2
    rcases Bool.eq_false_or_eq_true ((bestR ps vs s id cs).isSome) with q291 | q291
    ·rw [q291]
     refine Fv (.tuple #[.slice A275 ((bpOf (bestR ps vs s id cs)).length) c276, .int .i64 (ltOf (bestR ps vs s id cs)), .bool true]) ?_
     refine Fq (.slice A275 ((bpOf (bestR ps vs s id cs)).length) c276) (r_extract (vs := #[.slice A275 ((bpOf (bestR ps vs s id cs)).length) c276, .int .i64 (ltOf (bestR ps vs s id cs)), .bool true]) rfl ek kk) ?_
     refine Fq (.int .i64 (ltOf (bestR ps vs s id cs))) (r_extract (vs := #[.slice A275 ((bpOf (bestR ps vs s id cs)).length) c276, .int .i64 (ltOf (bestR ps vs s id cs)), .bool true]) rfl ek kk) ?_
     refine Fq (.bool true) (r_extract (vs := #[.slice A275 ((bpOf (bestR ps vs s id cs)).length) c276, .int .i64 (ltOf (bestR ps vs s id cs)), .bool true]) rfl ek kk) ?_
     refine Fa (.slice A275 ((bpOf (bestR ps vs s id cs)).length) c276) ?_
     refine Fa (.int .i64 (ltOf (bestR ps vs s id cs))) ?_
     refine Fa (.bool true) ?_
     apply F.es
     have x6 := Sk s284 x6 onn
     have x13 := Sk s284 x13 onn
     have c292 := (Sb c273 s284 nkk)
     apply h25
     refine wk fun K26 h26 => ?_
     refine wk fun K27 h27 => ?_
     refine W.region_plain (row := none) [(0, false), (1, false), (2, false), (3, false), (4, false), (5, true), (6, false), (7, false)] kk ?_
     have s293 := SG.self w283 none
     refine Fv (.bool true) ?_
     refine Fq (.bool false) (r_not (b := true) rfl ek rfl) ?_
     refine Fv (.bool false) ?_
     refine Fq (.agg #[.int .i64 m, .slice A n c]) (r_load2 rfl ek kk kk (sgS (blk_cell (j := 0) x6 kk) onn) (sgS (blk_cell (j := 1) x6 kk) onn)) ?_
     refine Fv (.slice A261 ((0 + n2) + 1) c262) ?_
     refine Fc [.agg #[.int .i64 m, .slice A n c], .slice A261 ((0 + n2) + 1) c262] (IsValidValves_any m A n c ps A261 ((0 + n2) + 1) c262 (vs.take k2 ++ x :: vs.drop k2) _ (Rk ha (Sb c292 s293 nkk)) (own_rd ho285) (by omega) (by omega) (own_fm ho285)) ?_
     rintro e w295 ⟨rfl, b294⟩
     have s296 := SG.of_below s293 b294
     refine ⟨_, rfl, s296, ?_⟩
     apply F.nx
     have ho297 := own_kept ho285 b294
     have ho298 := own_kept ho278 b294
     rcases Bool.eq_false_or_eq_true (goodV m ps (vs.take k2 ++ x :: vs.drop k2)) with q299 | q299
     ·rw [q299]
      have hvm := goodV_of q299
      refine Fq (.bool false) (r_not (b := true) rfl ek rfl) ?_
      refine Fq (.bool false) (r_pick (b := false) rfl ek ek) ?_
      apply F.es
      have x6 := Sk s296 x6 onn
      have x13 := Sk s296 x13 onn
      have c300 := (Sb c292 s296 nkk)
      apply h27
      refine wp_cond_false ek ?_
      apply wp_skip
      apply h26
      refine wk fun K28 h28 => ?_
      refine W.region_plain (row := none) [(0, false), (1, false), (2, false), (3, false), (4, false), (5, true), (6, false), (7, false), (8, false), (9, false), (10, false), (11, false), (12, false)] kk ?_
      have s301 := SG.self w295 none
      refine Fq (.agg #[.int .i64 m, .slice A n c]) (r_load2 rfl ek kk kk (sgS (blk_cell (j := 0) x6 kk) onn) (sgS (blk_cell (j := 1) x6 kk) onn)) ?_
      refine Fv (.slice A261 ((0 + n2) + 1) c262) ?_
      refine Fv (.int .i64 s) ?_
      refine Fv (.int .i64 id) ?_
      refine Fv (.slice A4 n4 c4) ?_
      have lr308 := World.ownsRow.lt ho297
      have lr309 := World.ownsRow.lt ho298
      have z306 := ((Sb c300 s301 nkk)).size
      refine Fc [.agg #[.int .i64 m, .slice A n c], .slice A261 ((0 + n2) + 1) c262, .int .i64 s, .int .i64 id, .slice A4 n4 c4] (gentlest_any m A n c ps A261 ((0 + n2) + 1) c262 (vs.take k2 ++ x :: vs.drop k2) s id A4 n4 c4 cs _ (Rk ha (Sb c300 s301 nkk)) (own_rd ho297) (by omega) (by omega) (own_fm ho297) hvm hs hfa (Rk hc4 (Sb c300 s301 nkk)) (by omega) hco) ?_
      rintro e w311 ⟨A302, c303, rfl, ho304, b310⟩
      have s312 := SG.of_below s301 b310
      refine ⟨_, rfl, s312, ?_⟩
      apply F.nx
      have bd320 := lt_bd (ps := ps) (vs := (vs.take k2 ++ x :: vs.drop k2)) (s := s) (id := id) hco9.2
      have q321 : ((bestR ps (vs.take k2 ++ x :: vs.drop k2) s id cs).isSome) = true := bestR_more (fun u9 hu9 => insV_mem (k := k2) (v := x) hu9) q291
      rw [q321]
      refine Fv (.tuple #[.slice A302 ((bpOf (bestR ps (vs.take k2 ++ x :: vs.drop k2) s id cs)).length) c303, .int .i64 (ltOf (bestR ps (vs.take k2 ++ x :: vs.drop k2) s id cs)), .bool true]) ?_
      refine Fq (.slice A302 ((bpOf (bestR ps (vs.take k2 ++ x :: vs.drop k2) s id cs)).length) c303) (r_extract (vs := #[.slice A302 ((bpOf (bestR ps (vs.take k2 ++ x :: vs.drop k2) s id cs)).length) c303, .int .i64 (ltOf (bestR ps (vs.take k2 ++ x :: vs.drop k2) s id cs)), .bool true]) rfl ek kk) ?_
      refine Fq (.int .i64 (ltOf (bestR ps (vs.take k2 ++ x :: vs.drop k2) s id cs))) (r_extract (vs := #[.slice A302 ((bpOf (bestR ps (vs.take k2 ++ x :: vs.drop k2) s id cs)).length) c303, .int .i64 (ltOf (bestR ps (vs.take k2 ++ x :: vs.drop k2) s id cs)), .bool true]) rfl ek kk) ?_
      refine Fq (.bool true) (r_extract (vs := #[.slice A302 ((bpOf (bestR ps (vs.take k2 ++ x :: vs.drop k2) s id cs)).length) c303, .int .i64 (ltOf (bestR ps (vs.take k2 ++ x :: vs.drop k2) s id cs)), .bool true]) rfl ek kk) ?_
      refine Fa (.slice A302 ((bpOf (bestR ps (vs.take k2 ++ x :: vs.drop k2) s id cs)).length) c303) ?_
      refine Fa (.int .i64 (ltOf (bestR ps (vs.take k2 ++ x :: vs.drop k2) s id cs))) ?_
      refine Fa (.bool true) ?_
      apply F.es
      have x6 := Sk s312 x6 onn
      have x13 := Sk s312 x13 onn
      have c322 := (Sb c300 s312 nkk)
      apply h28
      refine wk fun K29 h29 => ?_
      refine Rq 6 ?_
      refine Fv (.int .i64 (ltOf (bestR ps vs s id cs))) ?_
      refine Fv (.int .i64 (ltOf (bestR ps (vs.take k2 ++ x :: vs.drop k2) s id cs))) ?_
      refine Fq (.int .i64 ((ltOf (bestR ps vs s id cs)) - (ltOf (bestR ps (vs.take k2 ++ x :: vs.drop k2) s id cs)))) (r_sub (m := (ltOf (bestR ps vs s id cs))) (n := (ltOf (bestR ps (vs.take k2 ++ x :: vs.drop k2) s id cs))) (z := (ltOf (bestR ps vs s id cs)) - (ltOf (bestR ps (vs.take k2 ++ x :: vs.drop k2) s id cs))) rfl ek ek (rfl) (by omega)) ?_
      refine Fv (.bool true) ?_
      refine Fa (.int .i64 ((ltOf (bestR ps vs s id cs)) - (ltOf (bestR ps (vs.take k2 ++ x :: vs.drop k2) s id cs)))) ?_
      refine Fa (.bool true) ?_
      apply F.es
      apply h29
      refine wp_ret ?_
      try simp only [Exit.then]
      refine ret2 (v := .int .i64 ((ltOf (bestR ps vs s id cs)) - (ltOf (bestR ps (vs.take k2 ++ x :: vs.drop k2) s id cs)))) (x := .bool true) rfl kk kk ?_
      have hm9 : moreV vs x = (vs.take k2 ++ x :: vs.drop k2) := by unfold moreV insV; rw [hkk]
      have e8 : NewValveGain_v1 m ps vs s id x cs = true := by unfold NewValveGain_v1; rw [q22, q26, decide_eq_true (by omega), q291, hm9, q299]; try rfl
      exact ⟨by unfold NewValveGain_v0; rw [if_pos e8, e8, hm9, ← lt_least q291, ← lt_least (bestR_more (ps := ps) (s := s) (id := id) (cs := cs) (vs' := (vs.take k2 ++ x :: vs.drop k2)) (fun u9 hu9 => insV_mem (k := k2) (v := x) hu9) q291)], c322⟩
     rw [q299]
     refine Fq (.bool true) (r_not (b := false) rfl ek rfl) ?_
     refine Fq (.bool true) (r_pick (b := false) rfl ek ek) ?_
     apply F.es
     have x6 := Sk s296 x6 onn
     have x13 := Sk s296 x13 onn
     have c323 := (Sb c292 s296 nkk)
     apply h27
     refine wp_cond_true ek ?_
     refine wk fun K30 h30 => ?_
     refine Rq 2 ?_
     refine Fa (.int .i64 0) ?_
     refine Fa (.bool false) ?_
     apply F.es
     apply h30
     refine wp_ret ?_
     try simp only [Exit.then]
     refine ret2 (v := .int .i64 0) (x := .bool false) rfl kk kk ?_
     have hm9 : moreV vs x = (vs.take k2 ++ x :: vs.drop k2) := by unfold moreV insV; rw [hkk]
     have e8 : NewValveGain_v1 m ps vs s id x cs = false := by unfold NewValveGain_v1; rw [q22, q26, decide_eq_true (by omega), q291, hm9, q299]; try rfl
     exact ⟨by unfold NewValveGain_v0; rw [if_neg (by rw [e8]; simp), e8], c323⟩
    rw [q291]
    refine Fv (.tuple #[.slice A275 ((bpOf (bestR ps vs s id cs)).length) c276, .int .i64 (ltOf (bestR ps vs s id cs)), .bool false]) ?_
    refine Fq (.slice A275 ((bpOf (bestR ps vs s id cs)).length) c276) (r_extract (vs := #[.slice A275 ((bpOf (bestR ps vs s id cs)).length) c276, .int .i64 (ltOf (bestR ps vs s id cs)), .bool false]) rfl ek kk) ?_
    refine Fq (.int .i64 (ltOf (bestR ps vs s id cs))) (r_extract (vs := #[.slice A275 ((bpOf (bestR ps vs s id cs)).length) c276, .int .i64 (ltOf (bestR ps vs s id cs)), .bool false]) rfl ek kk) ?_
    refine Fq (.bool false) (r_extract (vs := #[.slice A275 ((bpOf (bestR ps vs s id cs)).length) c276, .int .i64 (ltOf (bestR ps vs s id cs)), .bool false]) rfl ek kk) ?_
    refine Fa (.slice A275 ((bpOf (bestR ps vs s id cs)).length) c276) ?_
    refine Fa (.int .i64 (ltOf (bestR ps vs s id cs))) ?_
    refine Fa (.bool false) ?_
    apply F.es
    have x6 := Sk s284 x6 onn
    have x13 := Sk s284 x13 onn
    have c324 := (Sb c273 s284 nkk)
    apply h25
    refine wk fun K31 h31 => ?_
    refine wk fun K32 h32 => ?_
    refine W.region_plain (row := none) [(0, false), (1, false), (2, false), (3, false), (4, false), (5, true), (6, false), (7, false)] kk ?_
    have s325 := SG.self w283 none
    refine Fv (.bool false) ?_
    refine Fq (.bool true) (r_not (b := false) rfl ek rfl) ?_
    refine Fv (.bool true) ?_
    refine Fs s325 ?_
    refine Fs s325 ?_
    refine Fs s325 ?_
    refine Fs s325 ?_
    refine Fq (.bool true) (r_pick (b := true) rfl ek ek) ?_
    apply F.es
    have x6 := Sk s325 x6 onn
    have x13 := Sk s325 x13 onn
    have c326 := (Sb c324 s325 nkk)
    apply h32
    refine wp_cond_true ek ?_
    refine wk fun K33 h33 => ?_
    refine Rq 2 ?_
    refine Fa (.int .i64 0) ?_
    refine Fa (.bool false) ?_
    apply F.es
    apply h33
    refine wp_ret ?_
    try simp only [Exit.then]
    refine ret2 (v := .int .i64 0) (x := .bool false) rfl kk kk ?_
    have e8 : NewValveGain_v1 m ps vs s id x cs = false := by unfold NewValveGain_v1; rw [q22, q26, decide_eq_true (by omega), q291]; try rfl
    exact ⟨by unfold NewValveGain_v0; rw [if_neg (by rw [e8]; simp), e8], c326⟩
   intro K34 h34
   refine wp_block ?_
   refine loopK (fun am0 aa0 wl0 => ∃ (k : Nat) , Kn aa0 [(0, .agg #[.int .i64 m, .slice A n c]), (1, .slice A2 n2 c2), (2, .int .i64 s), (3, .int .i64 id), (4, .agg #[.int .i64 x.id, .int .i64 x.pipe, .int .i64 x.node, .bool x.shut]), (5, .slice A4 n4 c4), (6, .pointer (some ⟨b2, 0, none⟩)), (10, .pointer (some ⟨b9, 0, none⟩)), (12, .int .i64 0), (13, .bool false), (14, .int .i64 (k : Int)), (39, .bool false)] 95 ∧ (am0 = n2 - k) ∧ (k ≤ n2) ∧ (∀ j z, j < k → vs[j]? = some z → z.id < x.id) ∧ (wl0.heap[b2]? = some (.cells #[.int .i64 m, .slice A n c] 26 (0, 0))) ∧ (wl0.heap[b9]? = some (.cells #[.int .i64 x.id, .int .i64 x.pipe, .int .i64 x.node, .bool x.shut] 40 (0, 0))) ∧ (Below w.heap.size w wl0)) (n2 - 0) ?_ ?_
   ·exact ⟨0, Kn.of, rfl, (Nat.zero_le _), (fun j z hj => absurd hj (by omega)), x6, x13, c32⟩
   rintro am0 aa0 wl0 K35 h35 ⟨k, ⟨U0, rfl⟩, rfl, hk, hpre, x6, x13, c327⟩
   refine wk fun K36 h36 => ?_
   refine wk fun K37 h37 => ?_
   refine W.region_sch (row := none) (Sch.of [(0, false), (1, false), (2, false), (3, false), (4, false), (5, false), (6, false), (7, false), (8, false), (9, false), (10, false), (11, false), (12, false), (13, false)]) kk kk (fun _ d _ _ _ h => by cases d <;> exact h) kk (fun w328 e329 s330 => ?_)
   refine Fv (.int .i64 (k : Int)) ?_
   refine Fv (.slice A2 n2 c2) ?_
   refine Fq (.int .i64 (n2 : Int)) (r_len (A := A2) (n := n2) (c := c2) rfl ek kk) ?_
   by_cases q331 : ((k : Int) : Int) < ((n2 : Int) : Int)
   ·refine Fq (.bool true) (r_lss (m := (k : Int)) (n := (n2 : Int)) rfl ek ek (dt q331)) ?_
    refine Fv (.bool true) ?_
    refine Fv (.slice A2 n2 c2) ?_
    refine Fv (.int .i64 (k : Int)) ?_
    obtain ⟨x332, hx333⟩ := get_of (zs := vs) (k := k) (by have := hl2; omega)
    obtain ⟨b334, o335, hA336, hb337, hc338, hc339, hc340, hc341⟩ := Rd.elValve hb hx333
    refine Fq (.pointer (some ⟨b334, o335 + k * 4, none⟩)) (r_idx (n := n2) (c := c2) (k := k) rfl ek hA336 kk kk (by have := hl2; omega)) ?_
    refine Fq (.pointer (some ⟨b334, o335 + k * 4, none⟩)) (r_field0 rfl ek kk) ?_
    refine Fl (.int .i64 x332.id) (sgS (later c327 hc338) (by simp)) ?_
    refine Fq (.pointer (some ⟨b9, 0, none⟩)) (r_field0 rfl ek kk) ?_
    refine Fl (.int .i64 x.id) (sgS (blk_cell (j := 0) x13 kk) onn) ?_
    by_cases q342 : (x332.id : Int) < (x.id : Int)
    ·refine Fq (.bool true) (r_lss (m := x332.id) (n := x.id) rfl ek ek (dt q342)) ?_
     refine Fq (.bool true) (r_pick (b := true) rfl ek ek) ?_
     apply F.es
     have x6 := Sk s330 x6 onn
     have x13 := Sk s330 x13 onn
     have c343 := (Sb c327 s330 nkk)
     apply h37
     refine wp_cond_true ek ?_
     apply wp_skip
     apply h36
     refine wp_block ?_
     refine Rq 3 ?_
     refine Fv (.int .i64 (k : Int)) ?_
     refine Fq (.int .i64 ((k + 1 : Nat) : Int)) (r_add (m := (k : Int)) (n := 1) (z := ((k + 1 : Nat) : Int)) rfl ek ek (by omega) (by omega)) ?_
     refine Fa (.int .i64 ((k + 1 : Nat) : Int)) ?_
     apply F.es
     exact h35 _ _ _ (by omega : (n2 - (k + 1)) < _) ⟨k + 1, Kn.of, rfl, (by omega), (upto_succ (Q := fun z => z.id < x.id) hpre hx333 (by omega)), x6, x13, c343⟩
    refine Fq (.bool false) (r_lss (m := x332.id) (n := x.id) rfl ek ek (df q342)) ?_
    refine Fq (.bool false) (r_pick (b := true) rfl ek ek) ?_
    apply F.es
    have x6 := Sk s330 x6 onn
    have x13 := Sk s330 x13 onn
    have c344 := (Sb c327 s330 nkk)
    apply h37
    refine wp_cond_false ek ?_
    refine wp_exit ?_
    have hkk9 : insAt vs x.id = k := insAt_at hpre (by omega) (fun z9 hz9 => by rw [hx333] at hz9; cases hz9; omega)
    exact h34 _ _ _ ⟨k, Kn.of, rfl, (by omega), hkk9, x6, x13, c344⟩
   refine Fq (.bool false) (r_lss (m := (k : Int)) (n := (n2 : Int)) rfl ek ek (df q331)) ?_
   refine Fv (.bool false) ?_
   refine Fs s330 ?_
   refine Fs s330 ?_
   refine Fs s330 ?_
   refine Fs s330 ?_
   refine Fs s330 ?_
   refine Fs s330 ?_
   refine Fs s330 ?_
   refine Fs s330 ?_
   refine Fq (.bool false) (r_pick (b := false) rfl ek ek) ?_
   apply F.es
   have x6 := Sk s330 x6 onn
   have x13 := Sk s330 x13 onn
   have c345 := (Sb c327 s330 nkk)
   apply h37
   refine wp_cond_false ek ?_
   refine wp_exit ?_
   have hkk9 : insAt vs x.id = k := insAt_at hpre (by omega) (fun z9 hz9 => by have h8 := (List.getElem?_eq_some_iff.1 hz9).1; omega)
   exact h34 _ _ _ ⟨k, Kn.of, rfl, (by omega), hkk9, x6, x13, c345⟩
  rw [q26]
  refine Fq (.bool true) (r_not (b := false) rfl ek rfl) ?_
  refine Fq (.bool true) (r_pick (b := false) rfl ek ek) ?_
  refine Fv (.bool true) ?_
  refine Fs s25 ?_
  refine Fs s25 ?_
  refine Fs s25 ?_
  refine Fs s25 ?_
  refine Fs s25 ?_
  refine Fq (.bool true) (r_pick (b := true) rfl ek ek) ?_
  apply F.es
  have c346 := (Sb c17 s25 nkk)
  apply h3
  refine wp_cond_true ek ?_
  refine wk fun K38 h38 => ?_
  refine Rq 2 ?_
  refine Fa (.int .i64 0) ?_
  refine Fa (.bool false) ?_
  apply F.es
  apply h38
  refine wp_ret ?_
  try simp only [Exit.then]
  refine ret2 (v := .int .i64 0) (x := .bool false) rfl kk kk ?_
  have e8 : NewValveGain_v1 m ps vs s id x cs = false := by unfold NewValveGain_v1; rw [q22, q26]; try rfl
  exact ⟨by unfold NewValveGain_v0; rw [if_neg (by rw [e8]; simp), e8], c346⟩
 rw [q22]
 refine Fq (.bool true) (r_not (b := false) rfl ek rfl) ?_
 refine Fv (.bool true) ?_
 refine Fs s21 ?_
 refine Fs s21 ?_
 refine Fs s21 ?_
 refine Fs s21 ?_
 refine Fq (.bool true) (r_pick (b := true) rfl ek ek) ?_
 refine Fv (.bool true) ?_
 refine Fs s21 ?_
 refine Fs s21 ?_
 refine Fs s21 ?_
 refine Fs s21 ?_
 refine Fs s21 ?_
 refine Fq (.bool true) (r_pick (b := true) rfl ek ek) ?_
 apply F.es
 have c347 := (Sb c17 s21 nkk)
 apply h3
 refine wp_cond_true ek ?_
 refine wk fun K39 h39 => ?_
 refine Rq 2 ?_
 refine Fa (.int .i64 0) ?_
 refine Fa (.bool false) ?_
 apply F.es
 apply h39
 refine wp_ret ?_
 try simp only [Exit.then]
 refine ret2 (v := .int .i64 0) (x := .bool false) rfl kk kk ?_
 have e8 : NewValveGain_v1 m ps vs s id x cs = false := by unfold NewValveGain_v1; rw [q22]; try rfl
 exact ⟨by unfold NewValveGain_v0; rw [if_neg (by rw [e8]; simp), e8], c347⟩
end Go.Proofs.Ytdbgfejeleafgaa
