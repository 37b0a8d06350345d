/- What the texts behind it build on; conditions: none. -/
import Derived.Test.YtdbgfejeleafgaaPh4
namespace Go.Proofs.Ytdbgfejeleafgaa
open Go.RowKit
set_option linter.unusedVariables false
set_option linter.unusedSimpArgs false
set_option maxRecDepth 100000 in
set_option maxHeartbeats 8000000 in
theorem l1Put_any (A : Option Addr) (n c : Nat) (zs : List Int) (v : Int) (w : World) (ha : Rd w 1 A n (intsV zs)) (hf : Fm A n c) (hn : n ≤ 1000000) :
    Calls Try.prog 133 #[.slice A n c, .int .i64 v] w fun e w' => ∃ A' n' c', e = .returned (.slice A' n' c') ∧ Rd w' 1 A' n' (intsV (putL zs v)) ∧ Fm A' n' c' ∧ Below w.heap.size w w' := by
 have hl := rd_ints_len ha
 go_enter Try.func133, Try.ntmps133
 refine F.begin 45 [(0, .slice A n c), (1, .int .i64 v)] (fun U0 => ?_)
 refine wk fun K1 h1 => ?_
 refine Rq 1 ?_
 refine Fa (.slice none 0 0) ?_
 apply F.es
 apply h1
 refine wk fun K2 h2 => ?_
 refine Rq 1 ?_
 refine Fa (.int .i64 0) ?_
 apply F.es
 apply h2
 refine wk fun K3 h3 => ?_
 refine wp_block ?_
 refine loopK (fun am0 aa0 wl0 => ∃ (k : Nat) , Kn aa0 [(0, .slice A n c), (1, .int .i64 v), (4, .slice none 0 0), (5, .int .i64 (k : Int))] 45 ∧ (am0 = n - k) ∧ (k ≤ n) ∧ (∀ j z, j < k → zs[j]? = some z → z < v) ∧ (Below w.heap.size w wl0)) (n - 0) ?_ ?_
 ·exact ⟨0, Kn.of, rfl, (Nat.zero_le _), upto_zero, (Below.refl _ _)⟩
 rintro am0 aa0 wl0 K4 h4 ⟨k, ⟨U0, rfl⟩, rfl, hk, hok, c1⟩
 refine wk fun K5 h5 => ?_
 refine wk fun K6 h6 => ?_
 refine Rq 12 ?_
 refine Fv (.int .i64 (k : Int)) ?_
 refine Fv (.slice A n c) ?_
 refine Fq (.int .i64 (n : Int)) (r_len (A := A) (n := n) (c := c) rfl ek kk) ?_
 by_cases q2 : ((k : Int) : Int) < ((n : Int) : Int)
 ·refine Fq (.bool true) (r_lss (m := (k : Int)) (n := (n : Int)) rfl ek ek (dt q2)) ?_
  refine Fv (.bool true) ?_
  refine Fv (.slice A n c) ?_
  refine Fv (.int .i64 (k : Int)) ?_
  obtain ⟨x3, hx4⟩ := get_of (zs := zs) (k := k) (by have := hl; omega)
  obtain ⟨b5, o6, hA7, hb8, hc9⟩ := Rd.elInt ha hx4
  refine Fq (.pointer (some ⟨b5, o6 + k, none⟩)) (r_idx1 (n := n) (c := c) (k := k) rfl ek hA7 kk kk (by have := hl; omega)) ?_
  refine Fl (.int .i64 x3) (eqS (later c1 hc9)) ?_
  refine Fv (.int .i64 v) ?_
  by_cases q10 : (x3 : Int) < (v : Int)
  ·refine Fq (.bool true) (r_lss (m := x3) (n := v) rfl ek ek (dt q10)) ?_
   refine Fq (.bool true) (r_pick (b := true) rfl ek ek) ?_
   apply F.es
   apply h6
   refine wp_cond_true ek ?_
   apply wp_skip
   apply h5
   refine wp_block ?_
   refine Rq 3 ?_
   refine Fv (.int .i64 (k : Int)) ?_
   refine Fq (.int .i64 ((k + 1 : Nat) : Int)) (r_add (m := (k : Int)) (n := 1) (z := ((k + 1 : Nat) : Int)) rfl ek ek (by omega) (by omega)) ?_
   refine Fa (.int .i64 ((k + 1 : Nat) : Int)) ?_
   apply F.es
   exact h4 _ _ _ (by omega : (n - (k + 1)) < _) ⟨k + 1, Kn.of, rfl, (by omega), (upto_succ hok hx4 q10), c1⟩
  refine Fq (.bool false) (r_lss (m := x3) (n := v) rfl ek ek (df q10)) ?_
  refine Fq (.bool false) (r_pick (b := true) rfl ek ek) ?_
  apply F.es
  apply h6
  refine wp_cond_false ek ?_
  refine wp_exit ?_
  apply h3
  refine wk fun K7 h7 => ?_
  refine wk fun K8 h8 => ?_
  refine Rq 12 ?_
  refine Fv (.int .i64 (k : Int)) ?_
  refine Fv (.slice A n c) ?_
  refine Fq (.int .i64 (n : Int)) (r_len (A := A) (n := n) (c := c) rfl ek kk) ?_
  refine Fq (.bool true) (r_lss (m := (k : Int)) (n := (n : Int)) rfl ek ek (dt q2)) ?_
  refine Fv (.bool true) ?_
  refine Fv (.slice A n c) ?_
  refine Fv (.int .i64 (k : Int)) ?_
  refine Fq (.pointer (some ⟨b5, o6 + k, none⟩)) (r_idx1 (n := n) (c := c) (k := k) rfl ek hA7 kk kk (by have := hl; omega)) ?_
  refine Fl (.int .i64 x3) (eqS (later c1 hc9)) ?_
  refine Fv (.int .i64 v) ?_
  by_cases q11 : (x3 : Int) = (v : Int)
  ·refine Fq (.bool true) (r_eql (m := x3) (n := v) rfl ek ek (dt q11)) ?_
   refine Fq (.bool true) (r_pick (b := true) rfl ek ek) ?_
   apply F.es
   apply h8
   refine wp_cond_true ek ?_
   refine wk fun K9 h9 => ?_
   refine Rq 2 ?_
   refine Fv (.slice A n c) ?_
   refine Fa (.slice A n c) ?_
   apply F.es
   apply h9
   refine wp_ret ?_
   try simp only [Exit.then]
   refine ret1 (v := .slice A n c) rfl kk ?_
   have e9 : putL zs v = zs := by
     rw [putL_at v zs k hok (by omega) (fun z hz => by first | (have h9 := (List.getElem?_eq_some_iff.1 hz).1; omega) | (rw [hx4] at hz; cases hz; omega)), if_pos (by rw [hx4, q11])]
   exact ⟨_, _, _, rfl, (by rw [e9]; exact (Rk ha c1)), hf, c1⟩
  refine Fq (.bool false) (r_eql (m := x3) (n := v) rfl ek ek (df q11)) ?_
  refine Fq (.bool false) (r_pick (b := true) rfl ek ek) ?_
  apply F.es
  apply h8
  refine wp_cond_false ek ?_
  apply wp_skip
  apply h7
  refine wk fun K10 h10 => ?_
  refine W.region_sch (row := none) (Sch.app [(1, false), (2, false), (3, false), (5, false), (8, false), (9, false), (10, false)] (.br 0 6 (Sch.app [] (.br 4 6 (Sch.of [(6, true), (7, true), (11, true), (12, false)]) (Sch.of [(4, true), (7, true), (11, true), (12, false)]))) (Sch.of [(0, true), (4, true), (7, true), (11, true), (12, false)]))) kk kk (fun _ d _ _ _ h => by cases d <;> exact h) kk (fun w12 e13 s14 => ?_)
  refine Fv (.slice A n c) ?_
  refine Fv (.int .i64 (k : Int)) ?_
  refine Fq (.slice A k c) (r_sliceTo (A := A) (n := n) (c := c) (k := k) (size := 1) rfl ek ek kk (by have := (hf).le; omega)) ?_
  refine Fv (.int .i64 v) ?_
  refine Fv (.slice A n c) ?_
  refine Fv (.int .i64 (k : Int)) ?_
  refine Fq (.slice (sFrom A c k 1) (n - k) (c - k)) (r_sliceFrom (A := A) (n := n) (c := c) (k := k) (size := 1) rfl ek ek kk (by omega)) ?_
  refine W.sbr ?_ ?_
  ·refine W.sn (fun b => .slice (some ⟨b, 0, none⟩) 0 0) #[] 3 s14 rfl kk rfl (fun _ => by kernel_rfl) (fun b15 w16 hb17 k18 x19 s20 => ?_)
   apply F.nx
   have lo21 : w.heap.size ≤ b15 := Nl ((Sb c1 s14 nkk)).size (Nat.le_of_eq hb17)
   refine W.sbr ?_ ?_
   ·have ho22 := own_empty (base := w.heap.size) (size := 1) x19 lo21
    replace ho22 : World.ownsRow _ _ _ _ _ _ (intsV []) := ho22
    replace ho22 : World.ownsRow _ _ _ _ _ _ (intsV []) := ho22
    refine W.sapR (e := 3) (size := 1) (base := w.heap.size) (v := .slice (some ⟨b15, 0, none⟩) 0 0) (A := A) (m := k) (c := c) s20 rfl rfl rfl rfl kk kk kk ho22 (Rd.toI (Rk ha (Sb c1 s20 nkk)) (by omega)) (Fm.to hf (by have := (hf).le; omega)) (ints_one _) (by omega) (by have := ((Sb c1 s20 nkk)).size; omega) (.inr (fun kq e => by have := (s14).size; have := hb17; have e' := Option.some.inj e; simp at e'; omega)) (fun A23 cap24 w25 ho26 hg27 hat28 s29 => ?_)
    apply F.nx
    have ho26 := own_joinI ho26
    have fr30 : ∀ kq, (.slice A23 (0 + k) cap24 : Value).ownBlock = some kq → wl0.heap.size ≤ kq := fun kq e => by
      have hs := (s20).size
      rcases hat28 with h | h
      · exact (show ∀ kq, Value.ownBlock _ = some kq → wl0.heap.size ≤ kq from (fun kq e => by have := (s14).size; have := hb17; have e' := Option.some.inj e; simp at e'; omega)) kq (h.symm.trans e)
      · have := Option.some.inj (h.symm.trans e); omega
    refine W.sn (fun b => .slice (some ⟨b, 0, none⟩) 1 1) #[.int .i64 v] 3 s29 rfl kk rfl (fun _ => by kernel_rfl) (fun b31 w32 hb33 k34 x35 s36 => ?_)
    apply F.nx
    have lo37 : w.heap.size ≤ b31 := Nl ((Sb c1 s29 nkk)).size (Nat.le_of_eq hb33)
    have ho39 := own_kept ho26 k34
    refine W.sap (e := 3) (size := 1) (base := w.heap.size) (m := 1) (v := .slice A23 (0 + k) cap24) (c := 1) s36 rfl rfl rfl rfl kk kk kk ho39 x35 kk kk (by omega) (by omega) (by have := ((Sb c1 s36 nkk)).size; omega) (.inr fr30) (fun g40 cap41 w42 ho43 hg44 hat45 hlt46 s47 => ?_)
    apply F.nx
    have ho43 := own_snoc ho43
    have fr49 : ∀ kq, (.slice (some ⟨g40, 0, none⟩) ((0 + k) + 1) cap41 : Value).ownBlock = some kq → wl0.heap.size ≤ kq := fun kq e => by
      have hs := (s36).size
      have e' : g40 = kq := by simpa [Value.ownBlock] using e
      rcases hat45 with h | h
      · exact (show ∀ kq, Value.ownBlock _ = some kq → wl0.heap.size ≤ kq from fr30) kq (by rw [← e']; exact h)
      · omega
    refine W.sapR (e := 3) (size := 1) (base := w.heap.size) (v := .slice (some ⟨g40, 0, none⟩) ((0 + k) + 1) cap41) (A := (sFrom A c k 1)) (m := (n - k)) (c := (c - k)) s47 rfl rfl rfl rfl kk kk kk ho43 (Rd.fromI (Rk ha (Sb c1 s47 nkk)) (by omega) (hf).le) (Fm.from (size := 1) hf (by omega)) (ints_one _) (by omega) (by have := ((Sb c1 s47 nkk)).size; omega) (.inr fr49) (fun A50 cap51 w52 ho53 hg54 hat55 s56 => ?_)
    apply F.nx
    have ho53 := own_joinI ho53
    have fr58 : ∀ kq, (.slice A50 (((0 + k) + 1) + (n - k)) cap51 : Value).ownBlock = some kq → wl0.heap.size ≤ kq := fun kq e => by
      have hs := (s47).size
      rcases hat55 with h | h
      · exact (show ∀ kq, Value.ownBlock _ = some kq → wl0.heap.size ≤ kq from fr49) kq (h.symm.trans e)
      · have := Option.some.inj (h.symm.trans e); omega
    refine Fa (.slice A50 (((0 + k) + 1) + (n - k)) cap51) ?_
    apply F.es
    have c59 := (Sb c1 s56 nkk)
    apply h10
    refine wp_ret ?_
    try simp only [Exit.then]
    refine ret1 (v := .slice A50 (((0 + k) + 1) + (n - k)) cap51) rfl kk ?_
    have e9 : putL zs v = ((([] ++ (zs.take k)) ++ [v]) ++ (zs.drop k)) := by
      rw [putL_at v zs k hok (by omega) (fun z hz => by first | (have h9 := (List.getElem?_eq_some_iff.1 hz).1; omega) | (rw [hx4] at hz; cases hz; omega)), if_neg (by rw [hx4]; intro e; cases e; omega)]; simp
    exact ⟨_, _, _, rfl, (by rw [e9]; exact own_rd ho53), own_fm ho53, c59⟩
   refine W.sn (fun b => .slice (some ⟨b, 0, none⟩) 1 1) #[.int .i64 v] 3 s20 rfl kk rfl (fun _ => by kernel_rfl) (fun b60 w61 hb62 k63 x64 s65 => ?_)
   apply F.nx
   have lo66 : w.heap.size ≤ b60 := Nl ((Sb c1 s20 nkk)).size (Nat.le_of_eq hb62)
   have ne67 : b15 ≠ b60 := Nat.ne_of_lt (Nat.lt_of_lt_of_eq (blk_lt x19) hb62)
   have x19 := (k63.block _ (blk_lt x19)).trans x19
   have ho68 := own_empty (base := w.heap.size) (size := 1) x19 lo21
   replace ho68 : World.ownsRow _ _ _ _ _ _ (intsV []) := ho68
   have nb69 : Nb b60 (.slice (some ⟨b15, 0, none⟩) 0 0) := nb_new (Ne.symm ne67)
   replace ho68 : World.ownsRow _ _ _ _ _ _ (intsV []) := ho68
   refine W.sapR (e := 3) (size := 1) (base := w.heap.size) (v := .slice (some ⟨b15, 0, none⟩) 0 0) (A := A) (m := k) (c := c) s65 rfl rfl rfl rfl kk kk kk ho68 (Rd.toI (Rk ha (Sb c1 s65 nkk)) (by omega)) (Fm.to hf (by have := (hf).le; omega)) (ints_one _) (by omega) (by have := ((Sb c1 s65 nkk)).size; omega) (.inr (fun kq e => by have := (s14).size; have := hb17; have e' := Option.some.inj e; simp at e'; omega)) (fun A70 cap71 w72 ho73 hg74 hat75 s76 => ?_)
   apply F.nx
   have x64 := (hg74.block _ (blk_lt x64) nb69).trans x64
   have ho73 := own_joinI ho73
   have fr78 : ∀ kq, (.slice A70 (0 + k) cap71 : Value).ownBlock = some kq → wl0.heap.size ≤ kq := fun kq e => by
     have hs := (s65).size
     rcases hat75 with h | h
     · exact (show ∀ kq, Value.ownBlock _ = some kq → wl0.heap.size ≤ kq from (fun kq e => by have := (s14).size; have := hb17; have e' := Option.some.inj e; simp at e'; omega)) kq (h.symm.trans e)
     · have := Option.some.inj (h.symm.trans e); omega
   refine W.sap (e := 3) (size := 1) (base := w.heap.size) (m := 1) (v := .slice A70 (0 + k) cap71) (c := 1) s76 rfl rfl rfl rfl kk kk kk ho73 x64 kk kk (by omega) (by omega) (by have := ((Sb c1 s76 nkk)).size; omega) (.inr fr78) (fun g79 cap80 w81 ho82 hg83 hat84 hlt85 s86 => ?_)
   apply F.nx
   have ho82 := own_snoc ho82
   have fr88 : ∀ kq, (.slice (some ⟨g79, 0, none⟩) ((0 + k) + 1) cap80 : Value).ownBlock = some kq → wl0.heap.size ≤ kq := fun kq e => by
     have hs := (s76).size
     have e' : g79 = kq := by simpa [Value.ownBlock] using e
     rcases hat84 with h | h
     · exact (show ∀ kq, Value.ownBlock _ = some kq → wl0.heap.size ≤ kq from fr78) kq (by rw [← e']; exact h)
     · omega
   refine W.sapR (e := 3) (size := 1) (base := w.heap.size) (v := .slice (some ⟨g79, 0, none⟩) ((0 + k) + 1) cap80) (A := (sFrom A c k 1)) (m := (n - k)) (c := (c - k)) s86 rfl rfl rfl rfl kk kk kk ho82 (Rd.fromI (Rk ha (Sb c1 s86 nkk)) (by omega) (hf).le) (Fm.from (size := 1) hf (by omega)) (ints_one _) (by omega) (by have := ((Sb c1 s86 nkk)).size; omega) (.inr fr88) (fun A89 cap90 w91 ho92 hg93 hat94 s95 => ?_)
   apply F.nx
   have ho92 := own_joinI ho92
   have fr97 : ∀ kq, (.slice A89 (((0 + k) + 1) + (n - k)) cap90 : Value).ownBlock = some kq → wl0.heap.size ≤ kq := fun kq e => by
     have hs := (s86).size
     rcases hat94 with h | h
     · exact (show ∀ kq, Value.ownBlock _ = some kq → wl0.heap.size ≤ kq from fr88) kq (h.symm.trans e)
     · have := Option.some.inj (h.symm.trans e); omega
   refine Fa (.slice A89 (((0 + k) + 1) + (n - k)) cap90) ?_
   apply F.es
   have c98 := (Sb c1 s95 nkk)
   apply h10
   refine wp_ret ?_
   try simp only [Exit.then]
   refine ret1 (v := .slice A89 (((0 + k) + 1) + (n - k)) cap90) rfl kk ?_
   have e9 : putL zs v = ((([] ++ (zs.take k)) ++ [v]) ++ (zs.drop k)) := by
     rw [putL_at v zs k hok (by omega) (fun z hz => by first | (have h9 := (List.getElem?_eq_some_iff.1 hz).1; omega) | (rw [hx4] at hz; cases hz; omega)), if_neg (by rw [hx4]; intro e; cases e; omega)]; simp
   exact ⟨_, _, _, rfl, (by rw [e9]; exact own_rd ho92), own_fm ho92, c98⟩
  refine W.sn (fun b => .slice (some ⟨b, 0, none⟩) 1 1) #[.int .i64 v] 3 s14 rfl kk rfl (fun _ => by kernel_rfl) (fun b99 w100 hb101 k102 x103 s104 => ?_)
  apply F.nx
  have lo105 : w.heap.size ≤ b99 := Nl ((Sb c1 s14 nkk)).size (Nat.le_of_eq hb101)
  refine W.sn (fun b => .slice (some ⟨b, 0, none⟩) 0 0) #[] 3 s104 rfl kk rfl (fun _ => by kernel_rfl) (fun b106 w107 hb108 k109 x110 s111 => ?_)
  apply F.nx
  have lo112 : w.heap.size ≤ b106 := Nl ((Sb c1 s104 nkk)).size (Nat.le_of_eq hb108)
  have ne113 : b99 ≠ b106 := Nat.ne_of_lt (Nat.lt_of_lt_of_eq (blk_lt x103) hb108)
  have x103 := (k109.block _ (blk_lt x103)).trans x103
  have ho114 := own_empty (base := w.heap.size) (size := 1) x110 lo112
  replace ho114 : World.ownsRow _ _ _ _ _ _ (intsV []) := ho114
  have nb115 : Nb b99 (.slice (some ⟨b106, 0, none⟩) 0 0) := nb_new ne113
  replace ho114 : World.ownsRow _ _ _ _ _ _ (intsV []) := ho114
  refine W.sapR (e := 3) (size := 1) (base := w.heap.size) (v := .slice (some ⟨b106, 0, none⟩) 0 0) (A := A) (m := k) (c := c) s111 rfl rfl rfl rfl kk kk kk ho114 (Rd.toI (Rk ha (Sb c1 s111 nkk)) (by omega)) (Fm.to hf (by have := (hf).le; omega)) (ints_one _) (by omega) (by have := ((Sb c1 s111 nkk)).size; omega) (.inr (fun kq e => by have := (s104).size; have := hb108; have e' := Option.some.inj e; simp at e'; omega)) (fun A116 cap117 w118 ho119 hg120 hat121 s122 => ?_)
  apply F.nx
  have x103 := (hg120.block _ (blk_lt x103) nb115).trans x103
  have ho119 := own_joinI ho119
  have fr124 : ∀ kq, (.slice A116 (0 + k) cap117 : Value).ownBlock = some kq → wl0.heap.size ≤ kq := fun kq e => by
    have hs := (s111).size
    rcases hat121 with h | h
    · exact (show ∀ kq, Value.ownBlock _ = some kq → wl0.heap.size ≤ kq from (fun kq e => by have := (s104).size; have := hb108; have e' := Option.some.inj e; simp at e'; omega)) kq (h.symm.trans e)
    · have := Option.some.inj (h.symm.trans e); omega
  refine W.sap (e := 3) (size := 1) (base := w.heap.size) (m := 1) (v := .slice A116 (0 + k) cap117) (c := 1) s122 rfl rfl rfl rfl kk kk kk ho119 x103 kk kk (by omega) (by omega) (by have := ((Sb c1 s122 nkk)).size; omega) (.inr fr124) (fun g125 cap126 w127 ho128 hg129 hat130 hlt131 s132 => ?_)
  apply F.nx
  have ho128 := own_snoc ho128
  have fr134 : ∀ kq, (.slice (some ⟨g125, 0, none⟩) ((0 + k) + 1) cap126 : Value).ownBlock = some kq → wl0.heap.size ≤ kq := fun kq e => by
    have hs := (s122).size
    have e' : g125 = kq := by simpa [Value.ownBlock] using e
    rcases hat130 with h | h
    · exact (show ∀ kq, Value.ownBlock _ = some kq → wl0.heap.size ≤ kq from fr124) kq (by rw [← e']; exact h)
    · omega
  refine W.sapR (e := 3) (size := 1) (base := w.heap.size) (v := .slice (some ⟨g125, 0, none⟩) ((0 + k) + 1) cap126) (A := (sFrom A c k 1)) (m := (n - k)) (c := (c - k)) s132 rfl rfl rfl rfl kk kk kk ho128 (Rd.fromI (Rk ha (Sb c1 s132 nkk)) (by omega) (hf).le) (Fm.from (size := 1) hf (by omega)) (ints_one _) (by omega) (by have := ((Sb c1 s132 nkk)).size; omega) (.inr fr134) (fun A135 cap136 w137 ho138 hg139 hat140 s141 => ?_)
  apply F.nx
  have ho138 := own_joinI ho138
  have fr143 : ∀ kq, (.slice A135 (((0 + k) + 1) + (n - k)) cap136 : Value).ownBlock = some kq → wl0.heap.size ≤ kq := fun kq e => by
    have hs := (s132).size
    rcases hat140 with h | h
    · exact (show ∀ kq, Value.ownBlock _ = some kq → wl0.heap.size ≤ kq from fr134) kq (h.symm.trans e)
    · have := Option.some.inj (h.symm.trans e); omega
  refine Fa (.slice A135 (((0 + k) + 1) + (n - k)) cap136) ?_
  apply F.es
  have c144 := (Sb c1 s141 nkk)
  apply h10
  refine wp_ret ?_
  try simp only [Exit.then]
  refine ret1 (v := .slice A135 (((0 + k) + 1) + (n - k)) cap136) rfl kk ?_
  have e9 : putL zs v = ((([] ++ (zs.take k)) ++ [v]) ++ (zs.drop k)) := by
    rw [putL_at v zs k hok (by omega) (fun z hz => by first | (have h9 := (List.getElem?_eq_some_iff.1 hz).1; omega) | (rw [hx4] at hz; cases hz; omega)), if_neg (by rw [hx4]; intro e; cases e; omega)]; simp
  exact ⟨_, _, _, rfl, (by rw [e9]; exact own_rd ho138), own_fm ho138, c144⟩
 refine Fq (.bool false) (r_lss (m := (k : Int)) (n := (n : Int)) rfl ek ek (df q2)) ?_
 refine Fv (.bool false) ?_
 refine Fs rfl ?_
 refine Fs rfl ?_
 refine Fs rfl ?_
 refine Fs rfl ?_
 refine Fs rfl ?_
 refine Fs rfl ?_
 refine Fq (.bool false) (r_pick (b := false) rfl ek ek) ?_
 apply F.es
 apply h6
 refine wp_cond_false ek ?_
 refine wp_exit ?_
 apply h3
 refine wk fun K11 h11 => ?_
 refine wk fun K12 h12 => ?_
 refine Rq 12 ?_
 refine Fv (.int .i64 (k : Int)) ?_
 refine Fv (.slice A n c) ?_
 refine Fq (.int .i64 (n : Int)) (r_len (A := A) (n := n) (c := c) rfl ek kk) ?_
 refine Fq (.bool false) (r_lss (m := (k : Int)) (n := (n : Int)) rfl ek ek (df q2)) ?_
 refine Fv (.bool false) ?_
 refine Fs rfl ?_
 refine Fs rfl ?_
 refine Fs rfl ?_
 refine Fs rfl ?_
 refine Fs rfl ?_
 refine Fs rfl ?_
 refine Fq (.bool false) (r_pick (b := false) rfl ek ek) ?_
 apply F.es
 apply h12
 refine wp_cond_false ek ?_
 apply wp_skip
 apply h11
 refine wk fun K13 h13 => ?_
 refine W.region_sch (row := none) (Sch.app [(1, false), (2, false), (3, false), (5, false), (8, false), (9, false), (10, false)] (.br 0 6 (Sch.app [] (.br 4 6 (Sch.of [(6, true), (7, true), (11, true), (12, false)]) (Sch.of [(4, true), (7, true), (11, true), (12, false)]))) (Sch.of [(0, true), (4, true), (7, true), (11, true), (12, false)]))) kk kk (fun _ d _ _ _ h => by cases d <;> exact h) kk (fun w145 e146 s147 => ?_)
 refine Fv (.slice A n c) ?_
 refine Fv (.int .i64 (k : Int)) ?_
 refine Fq (.slice A k c) (r_sliceTo (A := A) (n := n) (c := c) (k := k) (size := 1) rfl ek ek kk (by have := (hf).le; omega)) ?_
 refine Fv (.int .i64 v) ?_
 refine Fv (.slice A n c) ?_
 refine Fv (.int .i64 (k : Int)) ?_
 refine Fq (.slice (sFrom A c k 1) (n - k) (c - k)) (r_sliceFrom (A := A) (n := n) (c := c) (k := k) (size := 1) rfl ek ek kk (by omega)) ?_
 refine W.sbr ?_ ?_
 ·refine W.sn (fun b => .slice (some ⟨b, 0, none⟩) 0 0) #[] 3 s147 rfl kk rfl (fun _ => by kernel_rfl) (fun b148 w149 hb150 k151 x152 s153 => ?_)
  apply F.nx
  have lo154 : w.heap.size ≤ b148 := Nl ((Sb c1 s147 nkk)).size (Nat.le_of_eq hb150)
  refine W.sbr ?_ ?_
  ·have ho155 := own_empty (base := w.heap.size) (size := 1) x152 lo154
   replace ho155 : World.ownsRow _ _ _ _ _ _ (intsV []) := ho155
   replace ho155 : World.ownsRow _ _ _ _ _ _ (intsV []) := ho155
   refine W.sapR (e := 3) (size := 1) (base := w.heap.size) (v := .slice (some ⟨b148, 0, none⟩) 0 0) (A := A) (m := k) (c := c) s153 rfl rfl rfl rfl kk kk kk ho155 (Rd.toI (Rk ha (Sb c1 s153 nkk)) (by omega)) (Fm.to hf (by have := (hf).le; omega)) (ints_one _) (by omega) (by have := ((Sb c1 s153 nkk)).size; omega) (.inr (fun kq e => by have := (s147).size; have := hb150; have e' := Option.some.inj e; simp at e'; omega)) (fun A156 cap157 w158 ho159 hg160 hat161 s162 => ?_)
   apply F.nx
   have ho159 := own_joinI ho159
   have fr163 : ∀ kq, (.slice A156 (0 + k) cap157 : Value).ownBlock = some kq → wl0.heap.size ≤ kq := fun kq e => by
     have hs := (s153).size
     rcases hat161 with h | h
     · exact (show ∀ kq, Value.ownBlock _ = some kq → wl0.heap.size ≤ kq from (fun kq e => by have := (s147).size; have := hb150; have e' := Option.some.inj e; simp at e'; omega)) kq (h.symm.trans e)
     · have := Option.some.inj (h.symm.trans e); omega
   refine W.sn (fun b => .slice (some ⟨b, 0, none⟩) 1 1) #[.int .i64 v] 3 s162 rfl kk rfl (fun _ => by kernel_rfl) (fun b164 w165 hb166 k167 x168 s169 => ?_)
   apply F.nx
   have lo170 : w.heap.size ≤ b164 := Nl ((Sb c1 s162 nkk)).size (Nat.le_of_eq hb166)
   have ho172 := own_kept ho159 k167
   refine W.sap (e := 3) (size := 1) (base := w.heap.size) (m := 1) (v := .slice A156 (0 + k) cap157) (c := 1) s169 rfl rfl rfl rfl kk kk kk ho172 x168 kk kk (by omega) (by omega) (by have := ((Sb c1 s169 nkk)).size; omega) (.inr fr163) (fun g173 cap174 w175 ho176 hg177 hat178 hlt179 s180 => ?_)
   apply F.nx
   have ho176 := own_snoc ho176
   have fr182 : ∀ kq, (.slice (some ⟨g173, 0, none⟩) ((0 + k) + 1) cap174 : Value).ownBlock = some kq → wl0.heap.size ≤ kq := fun kq e => by
     have hs := (s169).size
     have e' : g173 = kq := by simpa [Value.ownBlock] using e
     rcases hat178 with h | h
     · exact (show ∀ kq, Value.ownBlock _ = some kq → wl0.heap.size ≤ kq from fr163) kq (by rw [← e']; exact h)
     · omega
   refine W.sapR (e := 3) (size := 1) (base := w.heap.size) (v := .slice (some ⟨g173, 0, none⟩) ((0 + k) + 1) cap174) (A := (sFrom A c k 1)) (m := (n - k)) (c := (c - k)) s180 rfl rfl rfl rfl kk kk kk ho176 (Rd.fromI (Rk ha (Sb c1 s180 nkk)) (by omega) (hf).le) (Fm.from (size := 1) hf (by omega)) (ints_one _) (by omega) (by have := ((Sb c1 s180 nkk)).size; omega) (.inr fr182) (fun A183 cap184 w185 ho186 hg187 hat188 s189 => ?_)
   apply F.nx
   have ho186 := own_joinI ho186
   have fr191 : ∀ kq, (.slice A183 (((0 + k) + 1) + (n - k)) cap184 : Value).ownBlock = some kq → wl0.heap.size ≤ kq := fun kq e => by
     have hs := (s180).size
     rcases hat188 with h | h
     · exact (show ∀ kq, Value.ownBlock _ = some kq → wl0.heap.size ≤ kq from fr182) kq (h.symm.trans e)
     · have := Option.some.inj (h.symm.trans e); omega
   refine Fa (.slice A183 (((0 + k) + 1) + (n - k)) cap184) ?_
   apply F.es
   have c192 := (Sb c1 s189 nkk)
   apply h13
   refine wp_ret ?_
   try simp only [Exit.then]
   refine ret1 (v := .slice A183 (((0 + k) + 1) + (n - k)) cap184) rfl kk ?_
   have e9 : putL zs v = ((([] ++ (zs.take k)) ++ [v]) ++ (zs.drop k)) := by
     rw [putL_at v zs k hok (by omega) (fun z hz => by first | (have h9 := (List.getElem?_eq_some_iff.1 hz).1; omega)), if_neg (by intro e; have h9 := (List.getElem?_eq_some_iff.1 e).1; omega)]; simp
   exact ⟨_, _, _, rfl, (by rw [e9]; exact own_rd ho186), own_fm ho186, c192⟩
  refine W.sn (fun b => .slice (some ⟨b, 0, none⟩) 1 1) #[.int .i64 v] 3 s153 rfl kk rfl (fun _ => by kernel_rfl) (fun b193 w194 hb195 k196 x197 s198 => ?_)
  apply F.nx
  have lo199 : w.heap.size ≤ b193 := Nl ((Sb c1 s153 nkk)).size (Nat.le_of_eq hb195)
  have ne200 : b148 ≠ b193 := Nat.ne_of_lt (Nat.lt_of_lt_of_eq (blk_lt x152) hb195)
  have x152 := (k196.block _ (blk_lt x152)).trans x152
  have ho201 := own_empty (base := w.heap.size) (size := 1) x152 lo154
  replace ho201 : World.ownsRow _ _ _ _ _ _ (intsV []) := ho201
  have nb202 : Nb b193 (.slice (some ⟨b148, 0, none⟩) 0 0) := nb_new (Ne.symm ne200)
  replace ho201 : World.ownsRow _ _ _ _ _ _ (intsV []) := ho201
  refine W.sapR (e := 3) (size := 1) (base := w.heap.size) (v := .slice (some ⟨b148, 0, none⟩) 0 0) (A := A) (m := k) (c := c) s198 rfl rfl rfl rfl kk kk kk ho201 (Rd.toI (Rk ha (Sb c1 s198 nkk)) (by omega)) (Fm.to hf (by have := (hf).le; omega)) (ints_one _) (by omega) (by have := ((Sb c1 s198 nkk)).size; omega) (.inr (fun kq e => by have := (s147).size; have := hb150; have e' := Option.some.inj e; simp at e'; omega)) (fun A203 cap204 w205 ho206 hg207 hat208 s209 => ?_)
  apply F.nx
  have x197 := (hg207.block _ (blk_lt x197) nb202).trans x197
  have ho206 := own_joinI ho206
  have fr211 : ∀ kq, (.slice A203 (0 + k) cap204 : Value).ownBlock = some kq → wl0.heap.size ≤ kq := fun kq e => by
    have hs := (s198).size
    rcases hat208 with h | h
    · exact (show ∀ kq, Value.ownBlock _ = some kq → wl0.heap.size ≤ kq from (fun kq e => by have := (s147).size; have := hb150; have e' := Option.some.inj e; simp at e'; omega)) kq (h.symm.trans e)
    · have := Option.some.inj (h.symm.trans e); omega
  refine W.sap (e := 3) (size := 1) (base := w.heap.size) (m := 1) (v := .slice A203 (0 + k) cap204) (c := 1) s209 rfl rfl rfl rfl kk kk kk ho206 x197 kk kk (by omega) (by omega) (by have := ((Sb c1 s209 nkk)).size; omega) (.inr fr211) (fun g212 cap213 w214 ho215 hg216 hat217 hlt218 s219 => ?_)
  apply F.nx
  have ho215 := own_snoc ho215
  have fr221 : ∀ kq, (.slice (some ⟨g212, 0, none⟩) ((0 + k) + 1) cap213 : Value).ownBlock = some kq → wl0.heap.size ≤ kq := fun kq e => by
    have hs := (s209).size
    have e' : g212 = kq := by simpa [Value.ownBlock] using e
    rcases hat217 with h | h
    · exact (show ∀ kq, Value.ownBlock _ = some kq → wl0.heap.size ≤ kq from fr211) kq (by rw [← e']; exact h)
    · omega
  refine W.sapR (e := 3) (size := 1) (base := w.heap.size) (v := .slice (some ⟨g212, 0, none⟩) ((0 + k) + 1) cap213) (A := (sFrom A c k 1)) (m := (n - k)) (c := (c - k)) s219 rfl rfl rfl rfl kk kk kk ho215 (Rd.fromI (Rk ha (Sb c1 s219 nkk)) (by omega) (hf).le) (Fm.from (size := 1) hf (by omega)) (ints_one _) (by omega) (by have := ((Sb c1 s219 nkk)).size; omega) (.inr fr221) (fun A222 cap223 w224 ho225 hg226 hat227 s228 => ?_)
  apply F.nx
  have ho225 := own_joinI ho225
  have fr230 : ∀ kq, (.slice A222 (((0 + k) + 1) + (n - k)) cap223 : Value).ownBlock = some kq → wl0.heap.size ≤ kq := fun kq e => by
    have hs := (s219).size
    rcases hat227 with h | h
    · exact (show ∀ kq, Value.ownBlock _ = some kq → wl0.heap.size ≤ kq from fr221) kq (h.symm.trans e)
    · have := Option.some.inj (h.symm.trans e); omega
  refine Fa (.slice A222 (((0 + k) + 1) + (n - k)) cap223) ?_
  apply F.es
  have c231 := (Sb c1 s228 nkk)
  apply h13
  refine wp_ret ?_
  try simp only [Exit.then]
  refine ret1 (v := .slice A222 (((0 + k) + 1) + (n - k)) cap223) rfl kk ?_
  have e9 : putL zs v = ((([] ++ (zs.take k)) ++ [v]) ++ (zs.drop k)) := by
    rw [putL_at v zs k hok (by omega) (fun z hz => by first | (have h9 := (List.getElem?_eq_some_iff.1 hz).1; omega)), if_neg (by intro e; have h9 := (List.getElem?_eq_some_iff.1 e).1; omega)]; simp
  exact ⟨_, _, _, rfl, (by rw [e9]; exact own_rd ho225), own_fm ho225, c231⟩
 refine W.sn (fun b => .slice (some ⟨b, 0, none⟩) 1 1) #[.int .i64 v] 3 s147 rfl kk rfl (fun _ => by kernel_rfl) (fun b232 w233 hb234 k235 x236 s237 => ?_)
 apply F.nx
 have lo238 : w.heap.size ≤ b232 := Nl ((Sb c1 s147 nkk)).size (Nat.le_of_eq hb234)
 refine W.sn (fun b => .slice (some ⟨b, 0, none⟩) 0 0) #[] 3 s237 rfl kk rfl (fun _ => by kernel_rfl) (fun b239 w240 hb241 k242 x243 s244 => ?_)
 apply F.nx
 have lo245 : w.heap.size ≤ b239 := Nl ((Sb c1 s237 nkk)).size (Nat.le_of_eq hb241)
 have ne246 : b232 ≠ b239 := Nat.ne_of_lt (Nat.lt_of_lt_of_eq (blk_lt x236) hb241)
 have x236 := (k242.block _ (blk_lt x236)).trans x236
 have ho247 := own_empty (base := w.heap.size) (size := 1) x243 lo245
 replace ho247 : World.ownsRow _ _ _ _ _ _ (intsV []) := ho247
 have nb248 : Nb b232 (.slice (some ⟨b239, 0, none⟩) 0 0) := nb_new ne246
 replace ho247 : World.ownsRow _ _ _ _ _ _ (intsV []) := ho247
 refine W.sapR (e := 3) (size := 1) (base := w.heap.size) (v := .slice (some ⟨b239, 0, none⟩) 0 0) (A := A) (m := k) (c := c) s244 rfl rfl rfl rfl kk kk kk ho247 (Rd.toI (Rk ha (Sb c1 s244 nkk)) (by omega)) (Fm.to hf (by have := (hf).le; omega)) (ints_one _) (by omega) (by have := ((Sb c1 s244 nkk)).size; omega) (.inr (fun kq e => by have := (s237).size; have := hb241; have e' := Option.some.inj e; simp at e'; omega)) (fun A249 cap250 w251 ho252 hg253 hat254 s255 => ?_)
 apply F.nx
 have x236 := (hg253.block _ (blk_lt x236) nb248).trans x236
 have ho252 := own_joinI ho252
 have fr257 : ∀ kq, (.slice A249 (0 + k) cap250 : Value).ownBlock = some kq → wl0.heap.size ≤ kq := fun kq e => by
   have hs := (s244).size
   rcases hat254 with h | h
   · exact (show ∀ kq, Value.ownBlock _ = some kq → wl0.heap.size ≤ kq from (fun kq e => by have := (s237).size; have := hb241; have e' := Option.some.inj e; simp at e'; omega)) kq (h.symm.trans e)
   · have := Option.some.inj (h.symm.trans e); omega
 refine W.sap (e := 3) (size := 1) (base := w.heap.size) (m := 1) (v := .slice A249 (0 + k) cap250) (c := 1) s255 rfl rfl rfl rfl kk kk kk ho252 x236 kk kk (by omega) (by omega) (by have := ((Sb c1 s255 nkk)).size; omega) (.inr fr257) (fun g258 cap259 w260 ho261 hg262 hat263 hlt264 s265 => ?_)
 apply F.nx
 have ho261 := own_snoc ho261
 have fr267 : ∀ kq, (.slice (some ⟨g258, 0, none⟩) ((0 + k) + 1) cap259 : Value).ownBlock = some kq → wl0.heap.size ≤ kq := fun kq e => by
   have hs := (s255).size
   have e' : g258 = kq := by simpa [Value.ownBlock] using e
   rcases hat263 with h | h
   · exact (show ∀ kq, Value.ownBlock _ = some kq → wl0.heap.size ≤ kq from fr257) kq (by rw [← e']; exact h)
   · omega
 refine W.sapR (e := 3) (size := 1) (base := w.heap.size) (v := .slice (some ⟨g258, 0, none⟩) ((0 + k) + 1) cap259) (A := (sFrom A c k 1)) (m := (n - k)) (c := (c - k)) s265 rfl rfl rfl rfl kk kk kk ho261 (Rd.fromI (Rk ha (Sb c1 s265 nkk)) (by omega) (hf).le) (Fm.from (size := 1) hf (by omega)) (ints_one _) (by omega) (by have := ((Sb c1 s265 nkk)).size; omega) (.inr fr267) (fun A268 cap269 w270 ho271 hg272 hat273 s274 => ?_)
 apply F.nx
 have ho271 := own_joinI ho271
 have fr276 : ∀ kq, (.slice A268 (((0 + k) + 1) + (n - k)) cap269 : Value).ownBlock = some kq → wl0.heap.size ≤ kq := fun kq e => by
   have hs := (s265).size
   rcases hat273 with h | h
   · exact (show ∀ kq, Value.ownBlock _ = some kq → wl0.heap.size ≤ kq from fr267) kq (h.symm.trans e)
   · have := Option.some.inj (h.symm.trans e); omega
 refine Fa (.slice A268 (((0 + k) + 1) + (n - k)) cap269) ?_
 apply F.es
 have c277 := (Sb c1 s274 nkk)
 apply h13
 refine wp_ret ?_
 try simp only [Exit.then]
 refine ret1 (v := .slice A268 (((0 + k) + 1) + (n - k)) cap269) rfl kk ?_
 have e9 : putL zs v = ((([] ++ (zs.take k)) ++ [v]) ++ (zs.drop k)) := by
   rw [putL_at v zs k hok (by omega) (fun z hz => by first | (have h9 := (List.getElem?_eq_some_iff.1 hz).1; omega)), if_neg (by intro e; have h9 := (List.getElem?_eq_some_iff.1 e).1; omega)]; simp
 exact ⟨_, _, _, rfl, (by rw [e9]; exact own_rd ho271), own_fm ho271, c277⟩
end Go.Proofs.Ytdbgfejeleafgaa
namespace Go.Proofs.Ytdbgfejeleafgaa
open Go.RowKit
set_option linter.unusedVariables false
set_option linter.unusedSimpArgs false
theorem putL_len_ge (zs : List Int) (n : Int) : zs.length ≤ (putL zs n).length := by
  induction zs with
  | nil => simp [putL]
  | cons z zs ih => unfold putL; split
                    · simp; omega
                    · split <;> simp
structure Fnd (ps : List Pp) (m : Nat) (v : Int) (ys : List Int) : Prop where
  s : sorted ys
  h0 : v ∈ ys
  r : ∀ b, b ∈ ys → Reach (joined ps) v b
theorem Fnd.len {ps : List Pp} {m : Nat} {v : Int} {ys : List Int} (h : Fnd ps m v ys) (hp : pipesIn ps m) (hv : 1 ≤ v ∧ v ≤ m) : ys.length ≤ m :=
  sorted_len h.s (fun b hb => reach_in (joined_in hp) hv (h.r b hb))
theorem Fnd.put {ps : List Pp} {m : Nat} {v : Int} {ys : List Int} (h : Fnd ps m v ys) {k : Nat} {x : Pp} (hx : ps[k]? = some x) (hne : ys.contains x.fr ≠ ys.contains x.to) : Fnd ps m v (putL (putL ys x.fr) x.to) := by
  refine ⟨sorted_putL _ _ (sorted_putL _ _ h.s), (mem_putL _ _ _).2 (.inr ((mem_putL _ _ _).2 (.inr h.h0))), fun b hb => ?_⟩
  have hj : joined ps x.fr x.to := ⟨x, List.mem_of_getElem? hx, .inl ⟨rfl, rfl⟩⟩
  have hone : x.fr ∈ ys ∨ x.to ∈ ys := by
    by_cases h1 : x.fr ∈ ys
    · exact .inl h1
    · by_cases h2 : x.to ∈ ys
      · exact .inr h2
      · exact absurd (by rw [show ys.contains x.fr = false by simpa using h1, show ys.contains x.to = false by simpa using h2]) hne
  have hr : Reach (joined ps) v x.fr ∧ Reach (joined ps) v x.to := by
    rcases hone with h1 | h1
    · exact ⟨h.r _ h1, reach_step (h.r _ h1) hj⟩
    · exact ⟨reach_step (h.r _ h1) (joined_symm ps _ _ hj), h.r _ h1⟩
  rcases (mem_putL _ _ _).1 hb with e | e
  · rw [e]; exact hr.2
  · rcases (mem_putL _ _ _).1 e with e | e
    · rw [e]; exact hr.1
    · exact h.r b e
def shutTo (ps : List Pp) (ys : List Int) (i : Nat) : Prop := ∀ j p, j < i → ps[j]? = some p → (p.fr ∈ ys ↔ p.to ∈ ys)
theorem shutTo.next {ps : List Pp} {ys : List Int} {i : Nat} {x : Pp} (h : shutTo ps ys i) (hx : ps[i]? = some x) (he : ys.contains x.fr = ys.contains x.to) : shutTo ps ys (i + 1) := by
  unfold shutTo at h ⊢
  exact upto_succ (Q := fun p => p.fr ∈ ys ↔ p.to ∈ ys) h hx (by rw [← List.contains_iff_mem, ← List.contains_iff_mem, he])
theorem Fnd.fin {ps : List Pp} {m : Nat} {v : Int} {ys : List Int} (h : Fnd ps m v ys) (hp : pipesIn ps m) (hv : 1 ≤ v ∧ v ≤ m) (hc : shutTo ps ys ps.length) : ys = reachList (joined ps) m v := by
  refine reachList_of (joined_in hp) hv h.s h.h0 h.r (fun b c hb hj => ?_)
  obtain ⟨p, hm, he⟩ := hj
  obtain ⟨i, hi, hg⟩ := List.getElem_of_mem hm
  have := hc i p hi (by rw [List.getElem?_eq_getElem hi, hg])
  rcases he with ⟨rfl, rfl⟩ | ⟨rfl, rfl⟩
  · exact this.1 hb
  · exact this.2 hb
end Go.Proofs.Ytdbgfejeleafgaa
namespace Go.Proofs.Ytdbgfejeleafgaa
open Go.RowKit
set_option linter.unusedVariables false
noncomputable def rb (E : Int → Int → Prop) (a b : Int) : Bool := decide (0 ≤ distOf E a b)
theorem rb_iff {E : Int → Int → Prop} {a b : Int} : rb E a b = true ↔ Reach E a b := by unfold rb; rw [decide_eq_true_iff, dist_pos]
noncomputable def wetL (E : Int → Int → Prop) (a : Int) : List Bool := (List.range 19).map (fun i => rb E a ((i : Nat) : Int))
theorem wetL_len (E : Int → Int → Prop) (a : Int) : (wetL E a).length = 19 := by simp [wetL]
theorem wetL_at (E : Int → Int → Prop) (a : Int) {i : Nat} (h : i < 19) : (wetL E a)[i]? = some (rb E a (i : Int)) := by simp [wetL, h]
structure FndE (E : Int → Int → Prop) (a : Int) (S : Int → Prop) : Prop where
  h0 : S a
  r : ∀ b, S b → Reach E a b
def okP (q : Pp → Int → Bool) (S : Int → Prop) (j : Nat) (p : Pp) (v : Int) : Prop := q p v = true → (S v ↔ S (9 + (j : Int)))
def shutE (ps : List Pp) (q : Pp → Int → Bool) (S : Int → Prop) (i : Nat) : Prop := ∀ j p, j < i → ps[j]? = some p → okP q S j p p.fr ∧ okP q S j p p.to
theorem shutE_zero (ps : List Pp) (q : Pp → Int → Bool) (S : Int → Prop) : shutE ps q S 0 := fun _ _ h => absurd h (by omega)
theorem shutE.next {ps : List Pp} {q : Pp → Int → Bool} {S : Int → Prop} {i : Nat} {x : Pp} (h : shutE ps q S i) (hx : ps[i]? = some x) (h1 : okP q S i x x.fr) (h2 : okP q S i x x.to) : shutE ps q S (i + 1) := by
  intro j p hj hp
  by_cases e : j = i
  · subst e; rw [hx] at hp; cases hp; exact ⟨h1, h2⟩
  · exact h j p (by omega) hp
theorem FndE.fin {ps : List Pp} {q : Pp → Int → Bool} {a : Int} {S : Int → Prop} (h : FndE (linked ps q) a S) (hc : shutE ps q S ps.length) (b : Int) : S b ↔ Reach (linked ps q) a b := by
  refine ⟨h.r b, fun hr => reach_closed h.h0 (fun b c hb he => ?_) hr⟩
  obtain ⟨i, p, v, hp, hv, hq, he⟩ := he
  have hi : i < ps.length := (List.getElem?_eq_some_iff.1 hp).1
  have hk := hc i p hi hp
  have hk' : S v ↔ S (9 + (i : Int)) := by
    rcases hv with e | e
    · subst e; exact hk.1 hq
    · subst e; exact hk.2 hq
  rcases he with ⟨rfl, rfl⟩ | ⟨rfl, rfl⟩
  · exact hk'.1 hb
  · exact hk'.2 hb
theorem FndE.add {ps : List Pp} {q : Pp → Int → Bool} {a : Int} {S S' : Int → Prop} (h : FndE (linked ps q) a S) {i : Nat} {x : Pp} {v : Int} (hx : ps[i]? = some x) (hv : v = x.fr ∨ v = x.to) (hq : q x v = true) (hone : S v ∨ S (9 + (i : Int)))
    (hS : ∀ b, S' b ↔ S b ∨ b = v ∨ b = 9 + (i : Int)) : FndE (linked ps q) a S' := by
  have l1 : linked ps q v (9 + (i : Int)) := ⟨i, x, v, hx, hv, hq, .inl ⟨rfl, rfl⟩⟩
  have hr : Reach (linked ps q) a v ∧ Reach (linked ps q) a (9 + (i : Int)) := by
    rcases hone with h1 | h1
    · exact ⟨h.r _ h1, reach_step (h.r _ h1) l1⟩
    · exact ⟨reach_step (h.r _ h1) (linked_symm ps q _ _ l1), h.r _ h1⟩
  refine ⟨(hS a).2 (.inl h.h0), fun b hb => ?_⟩
  rcases (hS b).1 hb with h1 | rfl | rfl
  · exact h.r b h1
  · exact hr.1
  · exact hr.2
def inL (bs : List Bool) (b : Int) : Prop := 0 ≤ b ∧ bs[b.toNat]? = some true
theorem inL_nat {bs : List Bool} {k : Nat} {b : Int} (e : b = (k : Int)) : inL bs b ↔ bs[k]? = some true := by subst e; unfold inL; rw [Int.toNat_natCast]; exact ⟨fun h => h.2, fun h => ⟨by omega, h⟩⟩
theorem inL_set {bs : List Bool} {k : Nat} (hk : k < bs.length) (b : Int) : inL (bs.set k true) b ↔ inL bs b ∨ b = (k : Int) := by
  unfold inL
  by_cases h0 : 0 ≤ b
  · by_cases e : b.toNat = k
    · rw [e, List.getElem?_set_self hk]; exact ⟨fun _ => .inr (by omega), fun _ => ⟨h0, rfl⟩⟩
    · rw [List.getElem?_set_ne (by omega)]; exact ⟨fun h => .inl h, fun h => h.elim id (fun h' => absurd h' (by omega))⟩
  · exact ⟨fun h => absurd h.1 h0, fun h => h.elim (fun h' => absurd h'.1 h0) (fun h' => absurd h' (by omega))⟩
def offs (bs : List Bool) : Nat := bs.countP (fun b => !b)
theorem offs_set : ∀ {bs : List Bool} {i : Nat}, bs[i]? = some false → offs (bs.set i true) + 1 = offs bs
  | [], i, h => by simp at h
  | y :: bs, 0, h => by simp at h; subst h; simp [offs]
  | y :: bs, i + 1, h => by
    have ih := offs_set (bs := bs) (i := i) (by simpa using h)
    unfold offs at ih ⊢
    rw [List.set_cons_succ, List.countP_cons, List.countP_cons, ← ih]
    omega
theorem offs_set_le : ∀ (bs : List Bool) (i : Nat), offs (bs.set i true) ≤ offs bs
  | [], i => by simp
  | y :: bs, 0 => by cases y <;> simp [offs]
  | y :: bs, i + 1 => by
    have ih := offs_set_le bs i
    unfold offs at ih ⊢
    rw [List.set_cons_succ, List.countP_cons, List.countP_cons]
    omega
theorem offs_two {bs : List Bool} {v u : Nat} {x y : Bool} (hx : bs[v]? = some x) (hy : bs[u]? = some y) (hne : x ≠ y) : offs ((bs.set v true).set u true) < offs bs := by
  have h1 := offs_set_le (bs.set v true) u
  cases x with
  | false => have := offs_set hx; omega
  | true =>
    cases y with
    | true => exact absurd rfl hne
    | false =>
      have hvu : v ≠ u := fun e => by subst e; rw [hx] at hy; cases hy
      have := offs_set (bs := bs.set v true) (i := u) (by rw [List.getElem?_set_ne hvu]; exact hy)
      have := offs_set_le bs v
      omega
theorem wetL_of {E : Int → Int → Prop} {a : Int} {bs : List Bool} (hl : bs.length = 19) (h : ∀ b, inL bs b ↔ Reach E a b) : bs = wetL E a := by
  apply List.ext_getElem?
  intro i
  by_cases hi : i < 19
  · rw [wetL_at E a hi]
    have hx : bs[i]? = some bs[i] := List.getElem?_eq_getElem (by omega)
    rw [hx]
    refine congrArg some ?_
    rw [Bool.eq_iff_iff, rb_iff, ← h, inL_nat (k := i) rfl, hx, Option.some.injEq]
  · rw [List.getElem?_eq_none (by omega), List.getElem?_eq_none (by rw [wetL_len]; omega)]
theorem inL_start {k : Nat} (hk : k < 19) (b : Int) : inL ((List.replicate 19 false).set k true) b ↔ b = (k : Int) := by
  rw [inL_set (by simpa using hk)]
  constructor
  · rintro (h | h)
    · have := h.2; rw [List.getElem?_replicate] at this; split at this <;> cases this
    · exact h
  · exact .inr
theorem FndE_start {E : Int → Int → Prop} {k : Nat} {a : Int} (hk : k < 19) (e : a = (k : Int)) : FndE E a (inL ((List.replicate 19 false).set k true)) :=
  ⟨(inL_start hk _).2 e, fun b hb => by rw [(inL_start hk b).1 hb, e]; exact reach_refl _ _⟩
theorem FndE.mark {ps : List Pp} {q : Pp → Int → Bool} {a : Int} {bs : List Bool} (h : FndE (linked ps q) a (inL bs)) {i k : Nat} {x : Pp} {v : Int} {b c : Bool} (hx : ps[i]? = some x) (hv : v = x.fr ∨ v = x.to) (hq : q x v = true) (e : v = (k : Int)) (hl : 9 + i < bs.length) (hb : bs[k]? = some b) (hc : bs[9 + i]? = some c) (hne : b ≠ c) :
    FndE (linked ps q) a (inL ((bs.set k true).set (9 + i) true)) := by
  have hk : k < bs.length := (List.getElem?_eq_some_iff.1 hb).1
  refine h.add (v := v) (i := i) hx hv hq ?_ (fun b => ?_)
  · cases b with
    | true => exact .inl ((inL_nat e).2 hb)
    | false =>
      cases c with
      | true => exact .inr ((inL_nat (k := 9 + i) (by omega)).2 hc)
      | false => exact absurd rfl hne
  · rw [inL_set (by rw [List.length_set]; exact hl), inL_set hk, e, or_assoc]
    have : ((9 + i : Nat) : Int) = 9 + (i : Int) := by omega
    rw [this]
theorem okP_same {q : Pp → Int → Bool} {bs : List Bool} {i k : Nat} {x : Pp} {v : Int} {b c : Bool} (e : v = (k : Int)) (hb : bs[k]? = some b) (hc : bs[9 + i]? = some c) (he : b = c) : okP q (inL bs) i x v := fun _ => by
  rw [inL_nat e, inL_nat (k := 9 + i) (by omega), hb, hc, he]
theorem okP_shut {q : Pp → Int → Bool} {S : Int → Prop} {i : Nat} {x : Pp} {v : Int} (h : q x v = false) : okP q S i x v := fun h' => by rw [h] at h'; cases h'
def upTo (n : Nat) : List Int := (List.range n).map (fun i => ((i : Nat) : Int))
theorem upTo_succ (n : Nat) : upTo (n + 1) = upTo n ++ [(n : Int)] := by unfold upTo; rw [List.range_succ, List.map_append]; rfl
theorem mem_upTo {n : Nat} {b : Int} : b ∈ upTo n ↔ 0 ≤ b ∧ b < n := by
  unfold upTo
  rw [List.mem_map]
  constructor
  · rintro ⟨i, hi, rfl⟩; have := List.mem_range.1 hi; omega
  · rintro ⟨h1, h2⟩; exact ⟨b.toNat, List.mem_range.2 (by omega), by omega⟩
theorem sorted_upTo (n : Nat) : sorted (upTo n) := sorted_map_range _ (fun i j h => by omega) n
theorem upTo_len (n : Nat) : (upTo n).length = n := by simp [upTo]
noncomputable def nodesL (E : Int → Int → Prop) (m : Nat) (a : Int) (told : Bool) : List Int := (nodesTo m).filter (fun b => rb E a b == told)
noncomputable def idxL (E : Int → Int → Prop) (n : Nat) (a : Int) (told : Bool) : List Int := (upTo n).filter (fun b => rb E a (9 + b) == told)
theorem mem_nodesL {E : Int → Int → Prop} {m : Nat} {a b : Int} {told : Bool} : b ∈ nodesL E m a told ↔ (1 ≤ b ∧ b ≤ m) ∧ rb E a b = told := by unfold nodesL; rw [List.mem_filter, mem_nodesTo, beq_iff_eq]
theorem mem_idxL {E : Int → Int → Prop} {n : Nat} {a b : Int} {told : Bool} : b ∈ idxL E n a told ↔ (0 ≤ b ∧ b < n) ∧ rb E a (9 + b) = told := by unfold idxL; rw [List.mem_filter, mem_upTo, beq_iff_eq]
theorem nodesL_len (E : Int → Int → Prop) (m : Nat) (a : Int) (told : Bool) : (nodesL E m a told).length ≤ m := by
  have := List.length_filter_le (fun b => rb E a b == told) (nodesTo m); rw [nodesTo_len] at this; exact this
theorem idxL_len (E : Int → Int → Prop) (n : Nat) (a : Int) (told : Bool) : (idxL E n a told).length ≤ n := by
  have := List.length_filter_le (fun b => rb E a (9 + b) == told) (upTo n); rw [upTo_len] at this; exact this
def inQ (ys xs : List Int) (b : Int) : Prop := b ∈ ys ∨ (9 ≤ b ∧ b - 9 ∈ xs)
structure FndQ (E : Int → Int → Prop) (m n : Nat) (a : Int) (ys xs : List Int) : Prop where
  s1 : sorted ys
  s2 : sorted xs
  b1 : ∀ b, b ∈ ys → 1 ≤ b ∧ b ≤ m
  b2 : ∀ b, b ∈ xs → 0 ≤ b ∧ b < n
  f : FndE E a (inQ ys xs)
theorem sorted_len0 {zs : List Int} {n : Nat} (h : sorted zs) (hi : ∀ b, b ∈ zs → 0 ≤ b ∧ b < n) : zs.length ≤ n := by
  have := sorted_len (zs := zs.map (· + 1)) (m := n) (by unfold sorted; rw [List.pairwise_map]; exact h.imp (fun h => by omega)) (fun b hb => by
    obtain ⟨c, hc, rfl⟩ := List.mem_map.1 hb
    have := hi c hc; omega)
  rwa [List.length_map] at this
theorem FndQ.len {E : Int → Int → Prop} {m n : Nat} {a : Int} {ys xs : List Int} (h : FndQ E m n a ys xs) : ys.length ≤ m ∧ xs.length ≤ n := ⟨sorted_len h.s1 h.b1, sorted_len0 h.s2 h.b2⟩
theorem FndQ.startN (E : Int → Int → Prop) {m n : Nat} {a : Int} (ha : 1 ≤ a ∧ a ≤ m) : FndQ E m n a [a] [] :=
  ⟨by simp [sorted], by simp [sorted], fun b hb => by simp at hb; omega, fun b hb => by simp at hb, ⟨.inl (by simp), fun b hb => by rcases hb with hb | hb <;> simp at hb; subst hb; exact reach_refl _ _⟩⟩
theorem inQ_node {ys xs : List Int} {m : Nat} {v : Int} (hm : m ≤ 8) (hv : v ≤ m) : inQ ys xs v ↔ v ∈ ys := ⟨fun h => h.elim id (fun h' => absurd h'.1 (by omega)), .inl⟩
theorem inQ_pipe {ys xs : List Int} {m i : Nat} (hm : m ≤ 8) (hb : ∀ b, b ∈ ys → 1 ≤ b ∧ b ≤ m) : inQ ys xs (9 + (i : Int)) ↔ (i : Int) ∈ xs := by
  have e : 9 + (i : Int) - 9 = i := by omega
  constructor
  · rintro (h | ⟨_, h⟩)
    · have := hb _ h; omega
    · rwa [e] at h
  · intro h; exact .inr ⟨by omega, by rwa [e]⟩
theorem FndQ.put {ps : List Pp} {q : Pp → Int → Bool} {m : Nat} {a : Int} {ys xs : List Int} (h : FndQ (linked ps q) m ps.length a ys xs) (hm : m ≤ 8) {i : Nat} {x : Pp} {v : Int} (hx : ps[i]? = some x) (hv : v = x.fr ∨ v = x.to) (hin : 1 ≤ v ∧ v ≤ m) (hq : q x v = true) (hne : ys.contains v ≠ xs.contains (i : Int)) :
    FndQ (linked ps q) m ps.length a (putL ys v) (putL xs (i : Int)) := by
  have hi : i < ps.length := (List.getElem?_eq_some_iff.1 hx).1
  refine ⟨sorted_putL _ _ h.s1, sorted_putL _ _ h.s2, fun b hb => ?_, fun b hb => ?_, h.f.add hx hv hq ?_ (fun b => ?_)⟩
  · rcases (mem_putL _ _ _).1 hb with rfl | hb
    · exact hin
    · exact h.b1 b hb
  · rcases (mem_putL _ _ _).1 hb with rfl | hb
    · omega
    · exact h.b2 b hb
  · rw [inQ_node hm hin.2, inQ_pipe hm h.b1]
    by_cases h1 : v ∈ ys
    · exact .inl h1
    · by_cases h2 : (i : Int) ∈ xs
      · exact .inr h2
      · exact absurd (by rw [show ys.contains v = false by simpa using h1, show xs.contains (i : Int) = false by simpa using h2]) hne
  · unfold inQ
    rw [mem_putL, mem_putL]
    constructor
    · rintro ((h | h) | ⟨h1, h2 | h2⟩)
      · exact .inr (.inl h)
      · exact .inl (.inl h)
      · exact .inr (.inr (by omega))
      · exact .inl (.inr ⟨h1, h2⟩)
    · rintro ((h | h) | h | h)
      · exact .inl (.inr h)
      · exact .inr ⟨h.1, .inr h.2⟩
      · exact .inl (.inl h)
      · exact .inr ⟨by omega, .inl (by omega)⟩
theorem put2_len2 {ys xs : List Int} {v i : Int} (h : ys.contains v ≠ xs.contains i) : ys.length + xs.length < (putL ys v).length + (putL xs i).length := by
  have h1 := putL_len_ge ys v
  have h2 := putL_len_ge xs i
  by_cases ha : v ∈ ys
  · have hc : i ∉ xs := fun hc => h (by rw [List.contains_iff_mem.2 ha, List.contains_iff_mem.2 hc])
    have := putL_len hc; omega
  · have := putL_len ha; omega
theorem okQ_same {q : Pp → Int → Bool} {m : Nat} {ys xs : List Int} {i : Nat} {x : Pp} {v : Int} (hm : m ≤ 8) (hb : ∀ b, b ∈ ys → 1 ≤ b ∧ b ≤ m) (hin : 1 ≤ v ∧ v ≤ m) (he : ys.contains v = xs.contains (i : Int)) : okP q (inQ ys xs) i x v := fun _ => by
  rw [inQ_node hm hin.2, inQ_pipe hm hb, ← List.contains_iff_mem, ← List.contains_iff_mem, he]
theorem FndQ.fin {ps : List Pp} {q : Pp → Int → Bool} {m : Nat} {a : Int} {ys xs : List Int} (h : FndQ (linked ps q) m ps.length a ys xs) (hm : m ≤ 8) (hc : shutE ps q (inQ ys xs) ps.length) :
    ys = nodesL (linked ps q) m a true ∧ xs = idxL (linked ps q) ps.length a true := by
  have hf := h.f.fin hc
  refine ⟨sorted_ext _ _ h.s1 (sorted_filter _ (sorted_nodesTo m)) (fun b => ?_), sorted_ext _ _ h.s2 (sorted_filter _ (sorted_upTo _)) (fun b => ?_)⟩
  · show b ∈ ys ↔ b ∈ nodesL _ m a true
    rw [mem_nodesL, rb_iff, ← hf]
    constructor
    · intro hb; exact ⟨h.b1 b hb, .inl hb⟩
    · rintro ⟨h1, h2⟩; exact (inQ_node hm h1.2).1 h2
  · show b ∈ xs ↔ b ∈ idxL _ ps.length a true
    rw [mem_idxL, rb_iff, ← hf]
    constructor
    · intro hb
      have := h.b2 b hb
      exact ⟨this, .inr ⟨by omega, by rwa [show 9 + b - 9 = b by omega]⟩⟩
    · rintro ⟨h1, h2⟩
      obtain ⟨i, rfl⟩ : ∃ i : Nat, b = (i : Int) := ⟨b.toNat, by omega⟩
      exact (inQ_pipe hm h.b1).1 h2
theorem nodesL_succ (E : Int → Int → Prop) (m : Nat) (a : Int) (told : Bool) : nodesL E (m + 1) a told = nodesL E m a told ++ (if rb E a ((m : Int) + 1) = told then [(m : Int) + 1] else []) := by
  unfold nodesL; rw [nodesTo_succ, List.filter_append]; congr 1
  by_cases h : rb E a ((m : Int) + 1) = told
  · rw [if_pos h, List.filter_cons_of_pos (by simpa using h)]; rfl
  · rw [if_neg h, List.filter_cons_of_neg (by simpa using h)]; rfl
theorem idxL_succ (E : Int → Int → Prop) (n : Nat) (a : Int) (told : Bool) : idxL E (n + 1) a told = idxL E n a told ++ (if rb E a (9 + (n : Int)) = told then [(n : Int)] else []) := by
  unfold idxL; rw [upTo_succ, List.filter_append]; congr 1
  by_cases h : rb E a (9 + (n : Int)) = told
  · rw [if_pos h, List.filter_cons_of_pos (by simpa using h)]; rfl
  · rw [if_neg h, List.filter_cons_of_neg (by simpa using h)]; rfl
end Go.Proofs.Ytdbgfejeleafgaa
namespace Go.Proofs.Ytdbgfejeleafgaa
open Go.RowKit
set_option linter.unusedVariables false
set_option linter.unusedSimpArgs false
def openQ (vs : List Vv) (only : Bool) (p : Pp) (v : Int) : Bool := !blocked vs p.id v only
theorem two_of {a b y : Int} {k : Nat} (h : [a, b][k]? = some y) : (k = 0 ∧ y = a) ∨ (k = 1 ∧ y = b) := by
  rcases k with _ | _ | k
  · simp at h; exact .inl ⟨rfl, h.symm⟩
  · simp at h; exact .inr ⟨rfl, h.symm⟩
  · simp at h
theorem two_next {q : Pp → Int → Bool} {S : Int → Prop} {i k : Nat} {x : Pp} {y : Int} (hy : (k = 0 ∧ y = x.fr) ∨ (k = 1 ∧ y = x.to)) (h1 : 1 ≤ k → okP q S i x x.fr) (h : okP q S i x y) : (1 ≤ k + 1 → okP q S i x x.fr) ∧ (2 ≤ k + 1 → okP q S i x x.to) := by
  rcases hy with ⟨rfl, rfl⟩ | ⟨rfl, rfl⟩
  · exact ⟨fun _ => h, fun h' => absurd h' (by omega)⟩
  · exact ⟨fun _ => h1 (by omega), fun _ => h⟩
def uniqV (vs : List Vv) : Prop := ∀ u v, u ∈ vs → v ∈ vs → u.pipe = v.pipe → u.node = v.node → u = v
abbrev atQ (p : Pp) (v : Int) : Vv → Bool := fun u => decide (u.pipe = p.id) && decide (u.node = v)
theorem idx_neg {vs : List Vv} {p : Pp} {v : Int} (only : Bool) (h : idxV (atQ p v) vs < 0) : openQ vs only p v = true := by
  have h2 : vs.any (atQ p v) = false := by rw [← idxV_pos]; exact decide_eq_false (by omega)
  unfold openQ blocked
  rw [Bool.not_eq_true', List.any_eq_false]
  intro u hu
  have := List.any_eq_false.1 h2 u hu
  simp only [Bool.and_eq_true, not_and] at this ⊢
  exact fun h => absurd h.2 (fun h' => this h.1 h')
theorem idx_some {vs : List Vv} {q : Vv → Bool} (h : ¬ idxV q vs < 0) : ∃ (k : Nat) (x : Vv), idxV q vs = (k : Int) ∧ vs[k]? = some x ∧ q x = true := by
  rcases idxV_cases q vs with ⟨h1, _⟩ | ⟨k, x, h1, h2, h3, _⟩
  · omega
  · exact ⟨k, x, h1, h2, h3⟩
theorem idx_shut {vs : List Vv} {p : Pp} {v : Int} (hu : uniqV vs) {k : Nat} {x : Vv} (hx : vs[k]? = some x) (hq : atQ p v x = true) : openQ vs true p v = !x.shut := by
  unfold openQ blocked
  refine congrArg (!·) ?_
  have hq' : x.pipe = p.id ∧ x.node = v := by simpa using hq
  rw [Bool.eq_iff_iff, List.any_eq_true]
  constructor
  · rintro ⟨u, hm, h⟩
    have h' : (u.pipe = p.id ∧ u.node = v) ∧ u.shut = true := by simpa using h
    have e := hu u x hm (List.mem_of_getElem? hx) (by omega) (by omega)
    rw [← e]; exact h'.2
  · intro h; exact ⟨x, List.mem_of_getElem? hx, by simp [hq', h]⟩
set_option maxRecDepth 100000 in
set_option maxHeartbeats 8000000 in
theorem element_any (i : Int) (w : World) (h0 : -1 ≤ i ∧ i ≤ 1000) :
    Calls Try.prog 74 #[.int .i64 i] w fun e w' => e = .returned (.int .i64 (9 + i)) ∧ w = w' := by
 go_enter Try.func74, Try.ntmps74
 refine F.begin 5 [(0, .int .i64 i)] (fun U0 => ?_)
 refine wk fun K1 h1 => ?_
 refine Rq 1 ?_
 refine Fa (.int .i64 0) ?_
 apply F.es
 apply h1
 refine wk fun K2 h2 => ?_
 refine Rq 3 ?_
 refine Fv (.int .i64 i) ?_
 refine Fq (.int .i64 (9 + i)) (r_add (m := 9) (n := i) (z := 9 + i) rfl ek ek (rfl) (by omega)) ?_
 refine Fa (.int .i64 (9 + i)) ?_
 apply F.es
 apply h2
 refine wp_ret ?_
 try simp only [Exit.then]
 refine ret1 (v := .int .i64 (9 + i)) rfl kk ?_
 exact ⟨rfl, rfl⟩
theorem elementN_any (i : Nat) (w : World) (h0 : i ≤ 1000) : Calls Try.prog 74 #[.int .i64 ((i : Nat) : Int)] w fun e w' => e = .returned (.int .i64 ((9 + i : Nat) : Int)) ∧ w = w' := by
  refine (element_any (i : Int) w (by omega)).mono ?_
  rintro e w' ⟨rfl, rfl⟩
  exact ⟨by rw [show ((9 + i : Nat) : Int) = 9 + (i : Int) by omega], rfl⟩
set_option maxRecDepth 100000 in
set_option maxHeartbeats 8000000 in
theorem watF_any (p : Pp) (v : Int) (B : Nat) (A2 : Option Addr) (n2 c2 : Nat) (vs : List Vv) (w : World) (hB : w.heap[B]? = some (.cells #[.slice A2 n2 c2] 27 (0, 0))) (hb : Rd w 4 A2 n2 (valvesV vs)) (hn2 : n2 ≤ 1048576) (hu : uniqV vs) :
    Calls Try.prog 136 #[.agg #[.int .i64 p.id, .int .i64 p.fr, .int .i64 p.to, .int .i64 p.sz], .int .i64 v, .pointer (some ⟨B, 0, none⟩)] w fun e w' => e = .returned (.bool (openQ vs true p v)) ∧ Below w.heap.size w w' := by
 have hl2 := rd_valves_len hb
 go_enter Try.func136, Try.ntmps136
 refine F.begin 21 [(0, .agg #[.int .i64 p.id, .int .i64 p.fr, .int .i64 p.to, .int .i64 p.sz]), (1, .int .i64 v), (2, .pointer (some ⟨B, 0, none⟩))] (fun U0 => ?_)
 refine wk fun K1 h1 => ?_
 refine W.region_plain (row := none) [(0, true), (1, false)] kk ?_
 have s1 := SG.self w none
 refine W.sn (fun b => .pointer (some ⟨b, 0, none⟩)) #[.int .i64 p.id, .int .i64 p.fr, .int .i64 p.to, .int .i64 p.sz] 51 s1 rfl kk rfl (fun _ => by kernel_rfl) (fun b2 w3 hb4 k5 x6 s7 => ?_)
 apply F.nx
 have lo8 : w.heap.size ≤ b2 := Nl ((Sb (Below.refl _ _) s1 nkk)).size (Nat.le_of_eq hb4)
 refine Fa (.bool false) ?_
 apply F.es
 have hB := Sk s7 hB onn
 have c10 := (Sb (Below.refl _ _) s7 nkk)
 apply h1
 refine wk fun K2 h2 => ?_
 refine W.region_plain (row := none) [(0, false), (1, false), (2, false), (3, true), (4, false)] kk ?_
 have s11 := SG.self w3 none
 refine Fl (.slice A2 n2 c2) (sgS (blk_cell (j := 0) hB kk) onn) ?_
 refine Fq (.agg #[.int .i64 p.id, .int .i64 p.fr, .int .i64 p.to, .int .i64 p.sz]) (r_load4 rfl ek kk kk (sgS (blk_cell (j := 0) x6 kk) onn) (sgS (blk_cell (j := 1) x6 kk) onn) (sgS (blk_cell (j := 2) x6 kk) onn) (sgS (blk_cell (j := 3) x6 kk) onn)) ?_
 refine Fv (.int .i64 v) ?_
 refine Fc [.slice A2 n2 c2, .agg #[.int .i64 p.id, .int .i64 p.fr, .int .i64 p.to, .int .i64 p.sz], .int .i64 v] (valveAt_any A2 n2 c2 vs p v _ (Rk hb (Sb c10 s11 nkk)) (by omega)) ?_
 rintro e w13 ⟨rfl, b12⟩
 have s14 := SG.of_below s11 b12
 refine ⟨_, rfl, s14, ?_⟩
 apply F.nx
 refine Fa (.int .i64 (idxV (atQ p v) vs)) ?_
 apply F.es
 have hB := Sk s14 hB onn
 have c15 := (Sb c10 s14 nkk)
 apply h2
 refine wk fun K3 h3 => ?_
 refine Rq 11 ?_
 refine Fv (.int .i64 (idxV (atQ p v) vs)) ?_
 by_cases q16 : (idxV (atQ p v) vs : Int) < (0 : Int)
 ·refine Fq (.bool true) (r_lss (m := idxV (atQ p v) vs) (n := 0) rfl ek ek (dt q16)) ?_
  refine Fv (.bool true) ?_
  refine Fs rfl ?_
  refine Fs rfl ?_
  refine Fs rfl ?_
  refine Fs rfl ?_
  refine Fs rfl ?_
  refine Fs rfl ?_
  refine Fq (.bool true) (r_pick (b := true) rfl ek ek) ?_
  refine Fa (.bool true) ?_
  apply F.es
  apply h3
  refine wp_ret ?_
  try simp only [Exit.then]
  refine ret1 (v := .bool true) rfl kk ?_
  exact ⟨ret_bool (idx_neg true q16).symm, c15⟩
 refine Fq (.bool false) (r_lss (m := idxV (atQ p v) vs) (n := 0) rfl ek ek (df q16)) ?_
 refine Fv (.bool false) ?_
 refine Fl (.slice A2 n2 c2) (eqS (blk_cell (j := 0) hB kk)) ?_
 refine Fv (.int .i64 (idxV (atQ p v) vs)) ?_
 obtain ⟨k9, x9, e9, hx9, hq9⟩ := idx_some q16
 have hk9 := (List.getElem?_eq_some_iff.1 hx9).1
 obtain ⟨b17, o18, hA19, hb20, hc21, hc22, hc23, hc24⟩ := Rd.elValve hb hx9
 refine Fq (.pointer (some ⟨b17, o18 + k9 * 4, none⟩)) (r_idx (n := n2) (c := c2) (k := k9) rfl ek hA19 (evk (z := idxV (atQ p v) vs) kk e9) kk (by have := hl2; omega)) ?_
 refine Fq (.pointer (some ⟨b17, o18 + k9 * 4 + 3, none⟩)) (r_field (k := 3) rfl ek kk) ?_
 refine Fl (.bool x9.shut) (eqS (later c15 hc24)) ?_
 refine Fq (.bool (!x9.shut)) (r_not (b := x9.shut) rfl ek rfl) ?_
 refine Fq (.bool (!x9.shut)) (r_pick (b := false) rfl ek ek) ?_
 refine Fa (.bool (!x9.shut)) ?_
 apply F.es
 apply h3
 refine wp_ret ?_
 try simp only [Exit.then]
 refine ret1 (v := .bool (!x9.shut)) rfl kk ?_
 exact ⟨ret_bool (idx_shut hu hx9 hq9).symm, c15⟩
set_option maxRecDepth 100000 in
set_option maxHeartbeats 8000000 in
theorem reached_any (m : Int) (A : Option Addr) (n c : Nat) (ps : List Pp) (a : Int) (s : Nat) (g : FuncId) (lb : Array Value) (q : Pp → Int → Bool) (w : World) (ha : Rd w 4 A n (pipesV ps)) (hn : n ≤ 1048576) (hp : pipesIn ps m.toNat) (hm : 1 ≤ m ∧ m ≤ 8) (hlen10 : ps.length ≤ 10) (hs : s < 19) (has : a = (s : Int)) (he : enters Try.prog g = true) (HG : ∀ W (p : Pp) (v : Int), Below w.heap.size w W → Calls Try.prog g (#[.agg #[.int .i64 p.id, .int .i64 p.fr, .int .i64 p.to, .int .i64 p.sz], .int .i64 v] ++ lb) W fun e w' => e = .returned (.bool (q p v)) ∧ Below W.heap.size W w') :
    Calls Try.prog 127 #[.agg #[.int .i64 m, .slice A n c], .int .i64 a, .func (.func g) #[] lb] w fun e w' => ∃ b, e = .returned (.pointer (some ⟨b, 0, none⟩)) ∧ w.heap.size ≤ b ∧ Rd w' 1 (some ⟨b, 0, none⟩) 19 (boolsV (wetL (linked ps q) a)) ∧ Below w.heap.size w w' := by
 have hl := rd_pipes_len ha
 subst has
 go_enter Try.func127, Try.ntmps127
 refine F.begin 68 [(0, .agg #[.int .i64 m, .slice A n c]), (1, .int .i64 (s : Int)), (2, .func (.func g) #[] lb)] (fun U0 => ?_)
 refine wk fun K1 h1 => ?_
 refine W.region_plain (row := none) [(0, true), (1, false)] kk ?_
 have s1 := SG.self w none
 refine W.sn (fun b => .pointer (some ⟨b, 0, none⟩)) #[.int .i64 m, .slice A n c] 26 s1 rfl kk rfl (fun _ => by kernel_rfl) (fun b2 w3 hb4 k5 x6 s7 => ?_)
 apply F.nx
 have lo8 : w.heap.size ≤ b2 := Nl ((Sb (Below.refl _ _) s1 nkk)).size (Nat.le_of_eq hb4)
 refine Fa (.pointer none) ?_
 apply F.es
 have c9 := (Sb (Below.refl _ _) s7 nkk)
 apply h1
 refine wk fun K2 h2 => ?_
 refine W.region_plain (row := none) [(0, false), (1, true), (2, false)] kk ?_
 have s10 := SG.self w3 none
 refine Fq (.agg #[.bool false, .bool false, .bool false, .bool false, .bool false, .bool false, .bool false, .bool false, .bool false, .bool false, .bool false, .bool false, .bool false, .bool false, .bool false, .bool false, .bool false, .bool false, .bool false]) (r_build rfl (vs := []) kk kk) ?_
 refine W.sn (fun b => .pointer (some ⟨b, 0, none⟩)) #[.bool false, .bool false, .bool false, .bool false, .bool false, .bool false, .bool false, .bool false, .bool false, .bool false, .bool false, .bool false, .bool false, .bool false, .bool false, .bool false, .bool false, .bool false, .bool false] 111 s10 rfl kk rfl (fun _ => by kernel_rfl) (fun b11 w12 hb13 k14 x15 s16 => ?_)
 apply F.nx
 have lo17 : w.heap.size ≤ b11 := Nl ((Sb c9 s10 nkk)).size (Nat.le_of_eq hb13)
 have ne18 : b2 ≠ b11 := Nat.ne_of_lt (Nat.lt_of_lt_of_eq (Nat.lt_of_lt_of_le (blk_lt x6) (s10).size) hb13)
 have ho19 := own_blk (base := w.heap.size) (size := 1) (n := 19) x15 lo17 rfl (by omega)
 replace ho19 : World.ownsRow _ _ _ _ _ _ (boolsV (List.replicate 19 false)) := ho19
 have nb20 : Nb b2 (.slice (some ⟨b11, 0, none⟩) 19 19) := nb_new ne18
 refine Fa (.pointer (some ⟨b11, 0, none⟩)) ?_
 apply F.es
 have x6 := Sk s16 x6 onn
 have c21 := (Sb c9 s16 nkk)
 apply h2
 refine wk fun K3 h3 => ?_
 refine W.region_plain (row := (Value.ownBlock (.slice (some ⟨b11, 0, none⟩) 19 19))) [(0, false), (1, false), (2, false), (3, false), (4, true)] kk ?_
 have s22 := SG.self w12 (Value.ownBlock (.slice (some ⟨b11, 0, none⟩) 19 19))
 refine Fv (.pointer (some ⟨b11, 0, none⟩)) ?_
 refine Fv (.int .i64 (s : Int)) ?_
 refine Fq (.pointer (some ⟨b11, 0, none⟩)) (r_nilCheck rfl ek) ?_
 refine Fq (.pointer (some ⟨b11, s, none⟩)) (r_idxA (len := 19) (k := s) rfl ek kk kk (by omega)) ?_
 refine W.ssr (base := w.heap.size) (e := 111) (j := s) (u := .bool true) s22 rfl kk rfl rfl kk kk ho19 kk kk kk (by omega) (.inl rfl) (fun w23 ho24 g25 s26 => ?_)
 have ho24 := own_setB ho24
 apply F.es
 have x6 := Sk s26 x6 nb20
 have c27 := (Sb c21 s26 (fun kq e => (World.ownsRow.lt ho19 kq e).1))
 apply h3
 refine wk fun K4 h4 => ?_
 refine wk fun K5 h5 => ?_
 refine Rq 1 ?_
 refine Fa (.bool true) ?_
 apply F.es
 apply h5
 refine wp_block ?_
 refine loopK (fun am0 aa0 wl0 => ∃ (bs0 : List Bool) (mo : Bool) , Kn aa0 [(0, .agg #[.int .i64 m, .slice A n c]), (1, .int .i64 (s : Int)), (2, .func (.func g) #[] lb), (3, .pointer (some ⟨b2, 0, none⟩)), (7, .pointer (some ⟨b11, 0, none⟩)), (8, .bool mo)] 68 ∧ (am0 = 2 * offs bs0 + mo.toNat) ∧ (FndE (linked ps q) (s : Int) (inL bs0)) ∧ (bs0.length = 19) ∧ (mo = false → shutE ps q (inL bs0) ps.length) ∧ (wl0.heap[b2]? = some (.cells #[.int .i64 m, .slice A n c] 26 (0, 0))) ∧ (wl0.ownsRow w.heap.size 111 1 (.slice (some ⟨b11, 0, none⟩) 19 19) 19 (boolsV bs0)) ∧ (Below w.heap.size w wl0)) (2 * offs ((List.replicate 19 false).set s true) + true.toNat) ?_ ?_
 ·exact ⟨(List.replicate 19 false).set s true, true, Kn.of, rfl, (FndE_start hs rfl), (by simp), (fun e => by cases e), x6, ho24, c27⟩
 rintro am0 aa0 wl0 K6 h6 ⟨bs0, mo, ⟨U0, rfl⟩, rfl, hf, hlen, hsh, x6, ho0_7, c28⟩
 refine wk fun K7 h7 => ?_
 refine wk fun K8 h8 => ?_
 refine Rq 1 ?_
 refine Fv (.bool mo) ?_
 apply F.es
 apply h8
 rcases Bool.eq_false_or_eq_true mo with q29 | q29
 ·rw [q29]
  have qmo := q29
  refine wp_cond_true ek ?_
  apply wp_skip
  apply h7
  refine wp_block ?_
  refine wk fun K9 h9 => ?_
  refine Rq 1 ?_
  refine Fa (.bool false) ?_
  apply F.es
  apply h9
  refine wk fun K10 h10 => ?_
  refine Rq 4 ?_
  refine Fq (.pointer (some ⟨b2, 1, none⟩)) (r_field (k := 1) rfl ek kk) ?_
  refine Fl (.slice A n c) (eqS (blk_cell (j := 1) x6 kk)) ?_
  refine Fq (.int .i64 (n : Int)) (r_len (A := A) (n := n) (c := c) rfl ek kk) ?_
  refine Fv (.int .i64 0) ?_
  apply F.es
  apply h10
  refine wp_block ?_
  refine loopK (fun am1 aa1 wl1 => ∃ (i : Nat) (bs : List Bool) (mo2 : Bool) , Kn aa1 [(0, .agg #[.int .i64 m, .slice A n c]), (1, .int .i64 (s : Int)), (2, .func (.func g) #[] lb), (3, .pointer (some ⟨b2, 0, none⟩)), (7, .pointer (some ⟨b11, 0, none⟩)), (8, .bool mo2), (19, .bool true), (21, .slice A n c), (22, .int .i64 (n : Int)), (23, .int .i64 (i : Int))] 68 ∧ (am1 = n - i) ∧ (i ≤ n) ∧ (FndE (linked ps q) (s : Int) (inL bs)) ∧ (bs.length = 19) ∧ (mo2 = true → offs bs < offs bs0) ∧ (mo2 = false → bs = bs0 ∧ shutE ps q (inL bs) i) ∧ (wl1.heap[b2]? = some (.cells #[.int .i64 m, .slice A n c] 26 (0, 0))) ∧ (wl1.ownsRow w.heap.size 111 1 (.slice (some ⟨b11, 0, none⟩) 19 19) 19 (boolsV bs)) ∧ (Below w.heap.size w wl1)) (n - 0) ?_ ?_
  ·exact ⟨0, bs0, false, Kn.of, rfl, (Nat.zero_le _), hf, hlen, (fun e => by cases e), (fun _ => ⟨rfl, shutE_zero _ _ _⟩), x6, ho0_7, c28⟩
  rintro am1 aa1 wl1 K11 h11 ⟨i, bs, mo2, ⟨U1, rfl⟩, rfl, hi, hf2, hlen2, hmt2, hmf2, x6, ho1_7, c30⟩
  refine wk fun K12 h12 => ?_
  refine Rq 1 ?_
  by_cases q31 : ((i : Int) : Int) < ((n : Int) : Int)
  ·refine Fq (.bool true) (r_lss (m := (i : Int)) (n := (n : Int)) rfl ek ek (dt q31)) ?_
   apply F.es
   apply h12
   refine wk fun K13 h13 => ?_
   refine wp_cond_true ek ?_
   apply wp_skip
   apply h13
   refine wk fun K14 h14 => ?_
   refine wp_block ?_
   refine wk fun K15 h15 => ?_
   refine W.region_plain (row := none) [(0, false), (1, false), (2, false), (3, true), (4, false), (5, true)] kk ?_
   have s32 := SG.self wl1 none
   refine Fv (.int .i64 (i : Int)) ?_
   obtain ⟨x33, hx34⟩ := get_of (zs := ps) (k := i) (by have := hl; omega)
   obtain ⟨b35, o36, hA37, hb38, hc39, hc40, hc41, hc42⟩ := Rd.elPipe ha hx34
   refine Fq (.pointer (some ⟨b35, o36 + i * 4, none⟩)) (r_idx (n := n) (c := c) (k := i) rfl ek hA37 kk kk (by have := hl; omega)) ?_
   refine Fq (.agg #[.int .i64 x33.id, .int .i64 x33.fr, .int .i64 x33.to, .int .i64 x33.sz]) (r_load4 rfl ek kk kk (sgS (later c30 hc39) (by simp)) (sgS (later c30 hc40) (by simp)) (sgS (later c30 hc41) (by simp)) (sgS (later c30 hc42) (by simp))) ?_
   refine W.sn (fun b => .pointer (some ⟨b, 0, none⟩)) #[.int .i64 0, .int .i64 0, .int .i64 0, .int .i64 0] 51 s32 rfl kk rfl (fun _ => by kernel_rfl) (fun b43 w44 hb45 k46 x47 s48 => ?_)
   apply F.nx
   have lo49 : w.heap.size ≤ b43 := Nl ((Sb c30 s32 nkk)).size (Nat.le_of_eq hb45)
   have nb51 : Nb b43 (.slice (some ⟨b11, 0, none⟩) 19 19) := nb_hi ho1_7 (Nat.le_of_eq hb45)
   have ho52 := own_kept ho1_7 k46
   refine Fa (.int .i64 (i : Int)) ?_
   refine W.ss (v := .agg #[.int .i64 x33.id, .int .i64 x33.fr, .int .i64 x33.to, .int .i64 x33.sz]) (j := 0) (news := [.int .i64 x33.id, .int .i64 x33.fr, .int .i64 x33.to, .int .i64 x33.sz]) (cs' := #[.int .i64 x33.id, .int .i64 x33.fr, .int .i64 x33.to, .int .i64 x33.sz]) s48 rfl kk rfl rfl kk kk x47 kk kk (by simp) kk kk (.inr (Nl (s32).size (Nat.le_of_eq hb45))) (fun w53 g54 x55 s56 => ?_)
   have ho57 := own_grown ho52 g54 (fun j e1 e2 => by cases e2; exact nb51 e1.symm)
   apply F.es
   have x6 := Sk s56 x6 onn
   have c58 := (Sb c30 s56 nkk)
   apply h15
   refine wk fun K16 h16 => ?_
   refine W.region_plain (row := none) [(0, false), (1, false), (2, false), (3, false), (4, true), (5, false), (6, false)] kk ?_
   have s59 := SG.self w53 none
   refine Fq (.pointer (some ⟨b43, 1, none⟩)) (r_field (k := 1) rfl ek kk) ?_
   refine Fl (.int .i64 x33.fr) (sgS (blk_cell (j := 1) x55 kk) onn) ?_
   refine Fq (.pointer (some ⟨b43, 2, none⟩)) (r_field (k := 2) rfl ek kk) ?_
   refine Fl (.int .i64 x33.to) (sgS (blk_cell (j := 2) x55 kk) onn) ?_
   refine W.sn (fun b => .slice (some ⟨b, 0, none⟩) 2 2) #[.int .i64 x33.fr, .int .i64 x33.to] 3 s59 rfl kk rfl (fun _ => by kernel_rfl) (fun b60 w61 hb62 k63 x64 s65 => ?_)
   apply F.nx
   have lo66 : w.heap.size ≤ b60 := Nl ((Sb c58 s59 nkk)).size (Nat.le_of_eq hb62)
   have nb69 : Nb b60 (.slice (some ⟨b11, 0, none⟩) 19 19) := nb_hi ho57 (Nat.le_of_eq hb62)
   have ho70 := own_kept ho57 k63
   refine Fq (.int .i64 2) (r_len (A := (some ⟨b60, 0, none⟩)) (n := 2) (c := 2) rfl ek kk) ?_
   refine Fv (.int .i64 0) ?_
   apply F.es
   have x6 := Sk s65 x6 onn
   have x55 := Sk s65 x55 onn
   have c71 := (Sb c58 s65 nkk)
   apply h16
   refine wp_block ?_
   have ho72 := own_blk (base := w.heap.size) (size := 1) (n := 2) x64 lo66 rfl (by omega)
   replace ho72 : World.ownsRow _ _ _ _ _ _ (intsV [x33.fr, x33.to]) := ho72
   have nr73 : NbR (.slice (some ⟨b60, 0, none⟩) 2 2) (.slice (some ⟨b11, 0, none⟩) 19 19) := nbr_new nb69
   have rd77 := own_rd ho72
   have hl78 := rd_ints_len rd77
   refine loopK (fun am2 aa2 wl2 => ∃ (k : Nat) (cs : List Bool) (mo3 : Bool) , Kn aa2 [(0, .agg #[.int .i64 m, .slice A n c]), (1, .int .i64 (s : Int)), (2, .func (.func g) #[] lb), (3, .pointer (some ⟨b2, 0, none⟩)), (7, .pointer (some ⟨b11, 0, none⟩)), (8, .bool mo3), (9, .int .i64 (i : Int)), (10, .pointer (some ⟨b43, 0, none⟩)), (19, .bool true), (21, .slice A n c), (22, .int .i64 (n : Int)), (23, .int .i64 (i : Int)), (24, .bool true), (32, .slice (some ⟨b60, 0, none⟩) 2 2), (33, .int .i64 2), (34, .int .i64 (k : Int))] 68 ∧ (am2 = 2 - k) ∧ (k ≤ 2) ∧ (FndE (linked ps q) (s : Int) (inL cs)) ∧ (cs.length = 19) ∧ (mo3 = true → offs cs < offs bs0) ∧ (mo3 = false → cs = bs0 ∧ shutE ps q (inL cs) i ∧ (1 ≤ k → okP q (inL cs) i x33 x33.fr) ∧ (2 ≤ k → okP q (inL cs) i x33 x33.to)) ∧ (wl2.heap[b2]? = some (.cells #[.int .i64 m, .slice A n c] 26 (0, 0))) ∧ (wl2.heap[b43]? = some (.cells #[.int .i64 x33.id, .int .i64 x33.fr, .int .i64 x33.to, .int .i64 x33.sz] 51 (0, 0))) ∧ (wl2.ownsRow w.heap.size 111 1 (.slice (some ⟨b11, 0, none⟩) 19 19) 19 (boolsV cs)) ∧ (Rd wl2 1 (some ⟨b60, 0, none⟩) 2 (intsV ([x33.fr, x33.to]))) ∧ (Below w.heap.size w wl2)) (2 - 0) ?_ ?_
   ·exact ⟨0, bs, mo2, Kn.of, rfl, (Nat.zero_le _), hf2, hlen2, hmt2, (fun e => ⟨(hmf2 e).1, (hmf2 e).2, fun h => absurd h (by omega), fun h => absurd h (by omega)⟩), x6, x55, ho70, rd77, c71⟩
   rintro am2 aa2 wl2 K17 h17 ⟨k, cs, mo3, ⟨U2, rfl⟩, rfl, hk, hf3, hlen3, hmt3, hmf3, x6, x55, ho2_7, rd2_32, c79⟩
   refine wk fun K18 h18 => ?_
   refine Rq 1 ?_
   by_cases q80 : ((k : Int) : Int) < (2 : Int)
   ·refine Fq (.bool true) (r_lss (m := (k : Int)) (n := 2) rfl ek ek (dt q80)) ?_
    apply F.es
    apply h18
    refine wk fun K19 h19 => ?_
    refine wp_cond_true ek ?_
    apply wp_skip
    apply h19
    refine wk fun K20 h20 => ?_
    refine wp_block ?_
    refine wk fun K21 h21 => ?_
    refine Rq 3 ?_
    obtain ⟨x81, hx82⟩ := get_of (zs := [x33.fr, x33.to]) (k := k) (by have := hl78; omega)
    have hy2 := two_of hx82
    have hpx := hp x33 (List.mem_of_getElem? hx34)
    obtain ⟨b83, o84, hA85, hb86, hc87⟩ := Rd.elInt rd2_32 hx82
    refine Fq (.pointer (some ⟨b83, o84 + k, none⟩)) (r_idx1 (n := 2) (c := 2) (k := k) rfl ek hA85 kk kk (by have := hl78; omega)) ?_
    refine Fl (.int .i64 x81) (eqS hc87) ?_
    refine Fa (.int .i64 x81) ?_
    apply F.es
    apply h21
    refine wk fun K22 h22 => ?_
    refine W.region_sch (row := none) (Sch.of [(0, false), (1, false), (2, false), (3, false), (4, false), (5, false), (6, false), (8, false), (7, true), (9, false), (10, false), (11, false), (12, false), (13, false), (14, false), (15, false), (16, true), (17, false)]) kk kk (fun _ d _ _ _ h => by cases d <;> exact h) kk (fun w88 e89 s90 => ?_)
    have ho91 := own_heap ho2_7 e89
    refine Fv (.pointer (some ⟨b11, 0, none⟩)) ?_
    refine Fv (.int .i64 x81) ?_
    refine Fq (.pointer (some ⟨b11, 0, none⟩)) (r_nilCheck rfl ek) ?_
    refine Fq (.pointer (some ⟨b11, x81.toNat, none⟩)) (r_idxA (len := 19) (k := x81.toNat) rfl ek (evk (z := x81) kk (by omega)) kk (by omega)) ?_
    obtain ⟨x92, hx93⟩ := get_of (zs := cs) (k := x81.toNat) (by have h9 := own_len ho91; rw [bools_len] at h9; omega)
    refine Fl (.bool x92) (sgS (own_atB ho2_7 hx93) (by simp)) ?_
    refine Fv (.pointer (some ⟨b11, 0, none⟩)) ?_
    refine Fv (.int .i64 (i : Int)) ?_
    refine Fq (.pointer (some ⟨b11, 0, none⟩)) (r_nilCheck rfl ek) ?_
    refine Fc [.int .i64 (i : Int)] (elementN_any i _ (by omega)) ?_
    rintro e w' ⟨rfl, rfl⟩
    refine ⟨_, rfl, s90, ?_⟩
    apply F.nx
    refine Fq (.pointer (some ⟨b11, 9 + i, none⟩)) (r_idxA (len := 19) (k := 9 + i) rfl ek kk kk (by omega)) ?_
    obtain ⟨x96, hx97⟩ := get_of (zs := cs) (k := 9 + i) (by have h9 := own_len ho91; rw [bools_len] at h9; omega)
    refine Fl (.bool x96) (sgS (own_atB ho2_7 hx97) (by simp)) ?_
    by_cases q98 : x92 = x96
    ·refine Fq (.bool false) (r_neqB (m := x92) (n := x96) rfl ek ek kk (by rw [(beq_iff_eq.2 q98)]; try rfl)) ?_
     refine Fv (.bool false) ?_
     refine Fs s90 ?_
     refine Fs s90 ?_
     refine Fs s90 ?_
     refine Fs s90 ?_
     refine Fq (.bool false) (r_pick (b := false) rfl ek ek) ?_
     apply F.es
     have x6 := Sk s90 x6 onn
     have x55 := Sk s90 x55 onn
     have c99 := (Sb c79 s90 nkk)
     have rd100 := Rk rd2_32 (SG.below s90)
     apply h22
     refine wp_cond_false ek ?_
     apply wp_skip
     apply h20
     refine Rq 2 ?_
     refine Fq (.int .i64 ((k + 1 : Nat) : Int)) (r_add (m := (k : Int)) (n := 1) (z := ((k + 1 : Nat) : Int)) rfl ek ek (by omega) (by omega)) ?_
     refine Fv (.int .i64 ((k + 1 : Nat) : Int)) ?_
     apply F.es
     exact h17 _ _ _ (by omega : (2 - (k + 1)) < _) ⟨k + 1, cs, mo3, Kn.of, rfl, (by omega), hf3, hlen3, hmt3, (fun e => ⟨(hmf3 e).1, (hmf3 e).2.1, two_next hy2 (hmf3 e).2.2.1 (okP_same (k := x81.toNat) (by omega) hx93 hx97 q98)⟩), x6, x55, ho91, rd100, c99⟩
    refine Fq (.bool true) (r_neqB (m := x92) (n := x96) rfl ek ek kk (by rw [(beq_eq_false_iff_ne.2 q98)]; try rfl)) ?_
    refine Fv (.bool true) ?_
    refine Fv (.func (.func g) #[] lb) ?_
    refine Fq (.agg #[.int .i64 x33.id, .int .i64 x33.fr, .int .i64 x33.to, .int .i64 x33.sz]) (r_load4 rfl ek kk kk (sgS (blk_cell (j := 0) x55 kk) onn) (sgS (blk_cell (j := 1) x55 kk) onn) (sgS (blk_cell (j := 2) x55 kk) onn) (sgS (blk_cell (j := 3) x55 kk) onn)) ?_
    refine Fv (.int .i64 x81) ?_
    refine W.scv (vs := [.agg #[.int .i64 x33.id, .int .i64 x33.fr, .int .i64 x33.to, .int .i64 x33.sz], .int .i64 x81]) (g := g) (lb := lb) rfl rfl kk kk he kk rfl (HG _ x33 x81 ((Sb c79 s90 nkk))) ?_
    rintro e w102 ⟨rfl, b101⟩
    have s103 := SG.of_below s90 b101
    refine ⟨_, rfl, s103, ?_⟩
    apply F.nx
    have ho104 := own_kept ho91 b101
    rcases Bool.eq_false_or_eq_true (q x33 x81) with q105 | q105
    ·rw [q105]
     refine Fq (.bool true) (r_pick (b := true) rfl ek ek) ?_
     apply F.es
     have x6 := Sk s103 x6 onn
     have x55 := Sk s103 x55 onn
     have c106 := (Sb c79 s103 nkk)
     have rd107 := Rk rd2_32 (SG.below s103)
     apply h22
     refine wp_cond_true ek ?_
     refine W.region_sch (row := (Value.ownBlock (.slice (some ⟨b11, 0, none⟩) 19 19))) (Sch.of [(0, false), (1, false), (2, false), (3, false), (5, false), (8, false), (4, true), (6, false), (7, true), (9, false), (10, true), (11, false)]) kk kk (fun _ d _ _ _ h => by cases d <;> exact h) kk (fun w108 e109 s110 => ?_)
     have ho111 := own_heap ho104 e109
     refine Fv (.pointer (some ⟨b11, 0, none⟩)) ?_
     refine Fv (.int .i64 x81) ?_
     refine Fv (.pointer (some ⟨b11, 0, none⟩)) ?_
     refine Fv (.int .i64 (i : Int)) ?_
     refine Fq (.pointer (some ⟨b11, 0, none⟩)) (r_nilCheck rfl ek) ?_
     refine Fq (.pointer (some ⟨b11, 0, none⟩)) (r_nilCheck rfl ek) ?_
     refine Fc [.int .i64 (i : Int)] (elementN_any i _ (by omega)) ?_
     rintro e w' ⟨rfl, rfl⟩
     refine ⟨_, rfl, s110, ?_⟩
     apply F.nx
     refine Fq (.pointer (some ⟨b11, x81.toNat, none⟩)) (r_idxA (len := 19) (k := x81.toNat) rfl ek (evk (z := x81) kk (by omega)) kk (by omega)) ?_
     refine W.ssr (base := w.heap.size) (e := 111) (j := x81.toNat) (u := .bool true) s110 rfl kk rfl rfl kk kk ho111 kk kk kk (by omega) (.inl rfl) (fun w114 ho115 g116 s117 => ?_)
     have ho115 := own_setB ho115
     refine Fq (.pointer (some ⟨b11, 9 + i, none⟩)) (r_idxA (len := 19) (k := 9 + i) rfl ek kk kk (by omega)) ?_
     refine W.ssr (base := w.heap.size) (e := 111) (j := 9 + i) (u := .bool true) s117 rfl kk rfl rfl kk kk ho115 kk kk kk (by omega) (.inl rfl) (fun w118 ho119 g120 s121 => ?_)
     have ho119 := own_setB ho119
     refine Fa (.bool true) ?_
     apply F.es
     have x6 := Sk s121 x6 nb20
     have x55 := Sk s121 x55 nb51
     have c122 := (Sb c106 s121 (fun kq e => (World.ownsRow.lt ho104 kq e).1))
     have rd123 := rd_nbr rd107 s121 nr73
     apply h20
     refine Rq 2 ?_
     refine Fq (.int .i64 ((k + 1 : Nat) : Int)) (r_add (m := (k : Int)) (n := 1) (z := ((k + 1 : Nat) : Int)) rfl ek ek (by omega) (by omega)) ?_
     refine Fv (.int .i64 ((k + 1 : Nat) : Int)) ?_
     apply F.es
     exact h17 _ _ _ (by omega : (2 - (k + 1)) < _) ⟨k + 1, ((cs.set x81.toNat true).set (9 + i) true), true, Kn.of, rfl, (by omega), (FndE.mark hf3 hx34 (by omega) q105 (by omega) (by omega) hx93 hx97 q98), (by simp [hlen3]), (fun _ => by have h9 := offs_two hx93 hx97 q98; rcases Bool.eq_false_or_eq_true mo3 with e | e <;> first | (have h8 := hmt3 e; omega) | (have h8 := (hmf3 e).1; rw [h8] at h9; rw [h8]; exact h9)), (fun e => by cases e), x6, x55, ho119, rd123, c122⟩
    rw [q105]
    refine Fq (.bool false) (r_pick (b := true) rfl ek ek) ?_
    apply F.es
    have x6 := Sk s103 x6 onn
    have x55 := Sk s103 x55 onn
    have c124 := (Sb c79 s103 nkk)
    have rd125 := Rk rd2_32 (SG.below s103)
    apply h22
    refine wp_cond_false ek ?_
    apply wp_skip
    apply h20
    refine Rq 2 ?_
    refine Fq (.int .i64 ((k + 1 : Nat) : Int)) (r_add (m := (k : Int)) (n := 1) (z := ((k + 1 : Nat) : Int)) rfl ek ek (by omega) (by omega)) ?_
    refine Fv (.int .i64 ((k + 1 : Nat) : Int)) ?_
    apply F.es
    exact h17 _ _ _ (by omega : (2 - (k + 1)) < _) ⟨k + 1, cs, mo3, Kn.of, rfl, (by omega), hf3, hlen3, hmt3, (fun e => ⟨(hmf3 e).1, (hmf3 e).2.1, two_next hy2 (hmf3 e).2.2.1 (okP_shut q105)⟩), x6, x55, ho104, rd125, c124⟩
   refine Fq (.bool false) (r_lss (m := (k : Int)) (n := 2) rfl ek ek (df q80)) ?_
   apply F.es
   apply h18
   refine wk fun K23 h23 => ?_
   refine wp_cond_false ek ?_
   refine wp_exit ?_
   apply h14
   refine Rq 2 ?_
   refine Fq (.int .i64 ((i + 1 : Nat) : Int)) (r_add (m := (i : Int)) (n := 1) (z := ((i + 1 : Nat) : Int)) rfl ek ek (by omega) (by omega)) ?_
   refine Fv (.int .i64 ((i + 1 : Nat) : Int)) ?_
   apply F.es
   exact h11 _ _ _ (by omega : (n - (i + 1)) < _) ⟨i + 1, cs, mo3, Kn.of, rfl, (by omega), hf3, hlen3, hmt3, (fun e => ⟨(hmf3 e).1, (hmf3 e).2.1.next hx34 ((hmf3 e).2.2.1 (by omega)) ((hmf3 e).2.2.2 (by omega))⟩), x6, ho2_7, c79⟩
  refine Fq (.bool false) (r_lss (m := (i : Int)) (n := (n : Int)) rfl ek ek (df q31)) ?_
  apply F.es
  apply h12
  refine wk fun K24 h24 => ?_
  refine wp_cond_false ek ?_
  refine wp_exit ?_
  exact h6 _ _ _ (by rcases Bool.eq_false_or_eq_true mo2 with e | e <;> rw [e] <;> simp only [Bool.toNat_true, Bool.toNat_false, qmo] <;> first | (have h9 := hmt2 e; omega) | (rw [(hmf2 e).1]; omega) : (2 * offs bs + mo2.toNat) < _) ⟨bs, mo2, Kn.of, rfl, hf2, hlen2, (fun e => by have h9 := (hmf2 e).2; rw [show i = ps.length by omega] at h9; exact h9), x6, ho1_7, c30⟩
 rw [q29]
 have qmo := q29
 refine wp_cond_false ek ?_
 refine wp_exit ?_
 apply h4
 refine wk fun K25 h25 => ?_
 refine Rq 2 ?_
 refine Fv (.pointer (some ⟨b11, 0, none⟩)) ?_
 refine Fa (.pointer (some ⟨b11, 0, none⟩)) ?_
 apply F.es
 apply h25
 refine wp_ret ?_
 try simp only [Exit.then]
 refine ret1 (v := .pointer (some ⟨b11, 0, none⟩)) rfl kk ?_
 have e9 := wetL_of hlen (FndE.fin hf (hsh qmo))
 exact ⟨_, rfl, (World.ownsRow.lt ho0_7 _ (by simp [Value.ownBlock])).1, (by rw [← e9]; exact own_rd ho0_7), c28⟩
set_option maxRecDepth 100000 in
set_option maxHeartbeats 8000000 in
theorem watered_any (m : Int) (A : Option Addr) (n c : Nat) (ps : List Pp) (A2 : Option Addr) (n2 c2 : Nat) (vs : List Vv) (a : Int) (s : Nat) (w : World) (ha : Rd w 4 A n (pipesV ps)) (hb : Rd w 4 A2 n2 (valvesV vs)) (hn : n ≤ 1048576) (hn2 : n2 ≤ 1048576) (hp : pipesIn ps m.toNat) (hm : 1 ≤ m ∧ m ≤ 8) (hlen10 : ps.length ≤ 10) (hu : uniqV vs) (hs : s < 19) (has : a = (s : Int)) :
    Calls Try.prog 88 #[.agg #[.int .i64 m, .slice A n c], .slice A2 n2 c2, .int .i64 a] w fun e w' => ∃ b, e = .returned (.pointer (some ⟨b, 0, none⟩)) ∧ w.heap.size ≤ b ∧ Rd w' 1 (some ⟨b, 0, none⟩) 19 (boolsV (wetL (linked ps (openQ vs true)) a)) ∧ Below w.heap.size w w' := by
 have hl := rd_pipes_len ha
 have hl2 := rd_valves_len hb
 go_enter Try.func88, Try.ntmps88
 refine F.begin 11 [(0, .agg #[.int .i64 m, .slice A n c]), (1, .slice A2 n2 c2), (2, .int .i64 a)] (fun U0 => ?_)
 refine wk fun K1 h1 => ?_
 refine W.region_plain (row := none) [(0, true), (1, true), (2, false)] kk ?_
 have s1 := SG.self w none
 refine W.sn (fun b => .pointer (some ⟨b, 0, none⟩)) #[.int .i64 m, .slice A n c] 26 s1 rfl kk rfl (fun _ => by kernel_rfl) (fun b2 w3 hb4 k5 x6 s7 => ?_)
 apply F.nx
 have lo8 : w.heap.size ≤ b2 := Nl ((Sb (Below.refl _ _) s1 nkk)).size (Nat.le_of_eq hb4)
 refine W.sn (fun b => .pointer (some ⟨b, 0, none⟩)) #[.slice A2 n2 c2] 27 s7 rfl kk rfl (fun _ => by kernel_rfl) (fun b9 w10 hb11 k12 x13 s14 => ?_)
 apply F.nx
 have lo15 : w.heap.size ≤ b9 := Nl ((Sb (Below.refl _ _) s7 nkk)).size (Nat.le_of_eq hb11)
 have x6 := (k12.block _ (blk_lt x6)).trans x6
 refine Fa (.pointer none) ?_
 apply F.es
 have c17 := (Sb (Below.refl _ _) s14 nkk)
 apply h1
 refine wk fun K2 h2 => ?_
 refine W.region_plain (row := none) [(0, false), (1, false), (2, false), (3, true), (4, false)] kk ?_
 have s18 := SG.self w10 none
 refine Fq (.agg #[.int .i64 m, .slice A n c]) (r_load2 rfl ek kk kk (sgS (blk_cell (j := 0) x6 kk) onn) (sgS (blk_cell (j := 1) x6 kk) onn)) ?_
 refine Fv (.int .i64 a) ?_
 refine Fq (.func (.func 136) #[] #[.pointer (some ⟨b9, 0, none⟩)]) (r_makeFunc (vs := [.pointer (some ⟨b9, 0, none⟩)]) rfl kk) ?_
 refine Fc [.agg #[.int .i64 m, .slice A n c], .int .i64 a, .func (.func 136) #[] #[.pointer (some ⟨b9, 0, none⟩)]] (reached_any m A n c ps a s 136 #[.pointer (some ⟨b9, 0, none⟩)] (openQ vs true) _ (Rk ha (Sb c17 s18 nkk)) (by omega) hp hm hlen10 hs has kk (fun W p v hW => watF_any p v b9 A2 n2 c2 vs W ((hW.block _ (blk_lt x13)).trans x13) (Rk (Rk hb (Sb c17 s18 nkk)) hW) (by omega) hu)) ?_
 rintro e w25 ⟨pb19, rfl, lo23, rd20, b24⟩
 have s26 := SG.of_below s18 b24
 refine ⟨_, rfl, s26, ?_⟩
 apply F.nx
 have hl21 := rd_bools_len rd20
 refine Fa (.pointer (some ⟨pb19, 0, none⟩)) ?_
 apply F.es
 have c27 := (Sb c17 s26 nkk)
 apply h2
 refine wp_ret ?_
 try simp only [Exit.then]
 refine ret1 (v := .pointer (some ⟨pb19, 0, none⟩)) rfl kk ?_
 exact ⟨_, rfl, (by have := ((Sb c17 s18 nkk)).size; omega), rd20, c27⟩
end Go.Proofs.Ytdbgfejeleafgaa
namespace Go.Proofs.Ytdbgfejeleafgaa
open Go.RowKit
set_option linter.unusedVariables false
set_option linter.unusedSimpArgs false
theorem openQ_no {vs : List Vv} {only : Bool} {p : Pp} {v : Int} (h : blocked vs p.id v only = true) : openQ vs only p v = false := by unfold openQ; rw [h]; rfl
theorem openQ_yes {vs : List Vv} {only : Bool} {p : Pp} {v : Int} (h : blocked vs p.id v only = false) : openQ vs only p v = true := by unfold openQ; rw [h]; rfl
set_option maxRecDepth 100000 in
set_option maxHeartbeats 8000000 in
theorem l4Spread_true (m : Int) (A : Option Addr) (n c : Nat) (ps : List Pp) (A2 : Option Addr) (n2 c2 : Nat) (vs : List Vv) (a : Int) (A3 : Option Addr) (n3 c3 : Nat) (ys : List Int) (A4 : Option Addr) (n4 c4 : Nat) (xs : List Int) (w : World) (ha : Rd w 4 A n (pipesV ps)) (hb : Rd w 4 A2 n2 (valvesV vs)) (hn : n ≤ 1048576) (hn2 : n2 ≤ 1048576) (hp : pipesIn ps m.toNat) (hm : 1 ≤ m ∧ m ≤ 8) (hlen10 : ps.length ≤ 10) (hy : Rd w 1 A3 n3 (intsV ys)) (hfy : Fm A3 n3 c3) (hx : Rd w 1 A4 n4 (intsV xs)) (hfx : Fm A4 n4 c4) (hq0 : FndQ (linked ps (openQ vs true)) m.toNat ps.length a ys xs) :
    Calls Try.prog 77 #[.agg #[.int .i64 m, .slice A n c], .slice A2 n2 c2, .bool true, .slice A3 n3 c3, .slice A4 n4 c4] w fun e w' => ∃ A5 n5 c5 A6 n6 c6, e = .returned (.tuple #[.slice A5 n5 c5, .slice A6 n6 c6]) ∧ Rd w' 1 A5 n5 (intsV (nodesL (linked ps (openQ vs true)) m.toNat a true)) ∧ Fm A5 n5 c5 ∧ Rd w' 1 A6 n6 (intsV (idxL (linked ps (openQ vs true)) ps.length a true)) ∧ Fm A6 n6 c6 ∧ Below w.heap.size w w' := by
 have hl := rd_pipes_len ha
 have hl2 := rd_valves_len hb
 have hly := rd_ints_len hy
 have hlx := rd_ints_len hx
 have hfl0 := hq0.len
 go_enter Try.func77, Try.ntmps77
 refine F.begin 65 [(0, .agg #[.int .i64 m, .slice A n c]), (1, .slice A2 n2 c2), (2, .bool true), (3, .slice A3 n3 c3), (4, .slice A4 n4 c4)] (fun U0 => ?_)
 refine wk fun K1 h1 => ?_
 refine W.region_plain (row := none) [(0, true), (1, false), (2, false)] kk ?_
 have s1 := SG.self w none
 refine W.sn (fun b => .pointer (some ⟨b, 0, none⟩)) #[.int .i64 m, .slice A n c] 26 s1 rfl kk rfl (fun _ => by kernel_rfl) (fun b2 w3 hb4 k5 x6 s7 => ?_)
 apply F.nx
 have lo8 : w.heap.size ≤ b2 := Nl ((Sb (Below.refl _ _) s1 nkk)).size (Nat.le_of_eq hb4)
 refine Fa (.slice none 0 0) ?_
 refine Fa (.slice none 0 0) ?_
 apply F.es
 have c9 := (Sb (Below.refl _ _) s7 nkk)
 apply h1
 refine wk fun K2 h2 => ?_
 refine wk fun K3 h3 => ?_
 refine Rq 1 ?_
 refine Fa (.bool true) ?_
 apply F.es
 apply h3
 refine wp_block ?_
 refine loopK (fun am0 aa0 wl0 => ∃ (ys0 : List Int) (xs0 : List Int) (mo : Bool) (A0_3 : Option Addr) (n0_3 : Nat) (c0_3 : Nat) (A0_4 : Option Addr) (n0_4 : Nat) (c0_4 : Nat) , Kn aa0 [(0, .agg #[.int .i64 m, .slice A n c]), (1, .slice A2 n2 c2), (2, .bool true), (3, .slice A0_3 n0_3 c0_3), (4, .slice A0_4 n0_4 c0_4), (5, .pointer (some ⟨b2, 0, none⟩)), (10, .slice none 0 0), (11, .slice none 0 0), (12, .bool mo)] 65 ∧ (am0 = 2 * (18 - ys0.length - xs0.length) + mo.toNat) ∧ (FndQ (linked ps (openQ vs true)) m.toNat ps.length a ys0 xs0) ∧ (mo = false → shutE ps (openQ vs true) (inQ ys0 xs0) ps.length) ∧ (wl0.heap[b2]? = some (.cells #[.int .i64 m, .slice A n c] 26 (0, 0))) ∧ (Fm A0_3 n0_3 c0_3) ∧ (Rd wl0 1 A0_3 n0_3 (intsV ys0)) ∧ (Fm A0_4 n0_4 c0_4) ∧ (Rd wl0 1 A0_4 n0_4 (intsV xs0)) ∧ (Below w.heap.size w wl0)) (2 * (18 - ys.length - xs.length) + true.toNat) ?_ ?_
 ·exact ⟨ys, xs, true, A3, n3, c3, A4, n4, c4, Kn.of, rfl, hq0, (fun e => by cases e), x6, hfy, (Rk hy c9), hfx, (Rk hx c9), c9⟩
 rintro am0 aa0 wl0 K4 h4 ⟨ys0, xs0, mo, A0_3, n0_3, c0_3, A0_4, n0_4, c0_4, ⟨U0, rfl⟩, rfl, hf, hsh, x6, fm0_3, rd0_3, fm0_4, rd0_4, c10⟩
 have hl0_3 := rd_ints_len rd0_3
 have hl0_4 := rd_ints_len rd0_4
 have hfl := hf.len
 refine wk fun K5 h5 => ?_
 refine wk fun K6 h6 => ?_
 refine Rq 1 ?_
 refine Fv (.bool mo) ?_
 apply F.es
 apply h6
 rcases Bool.eq_false_or_eq_true mo with q11 | q11
 ·rw [q11]
  have qmo := q11
  refine wp_cond_true ek ?_
  apply wp_skip
  apply h5
  refine wp_block ?_
  refine wk fun K7 h7 => ?_
  refine Rq 1 ?_
  refine Fa (.bool false) ?_
  apply F.es
  apply h7
  refine wk fun K8 h8 => ?_
  refine Rq 1 ?_
  refine Fa (.int .i64 0) ?_
  apply F.es
  apply h8
  refine wp_block ?_
  refine loopK (fun am1 aa1 wl1 => ∃ (i : Nat) (yt : List Int) (xt : List Int) (mo2 : Bool) (A1_3 : Option Addr) (n1_3 : Nat) (c1_3 : Nat) (A1_4 : Option Addr) (n1_4 : Nat) (c1_4 : Nat) , Kn aa1 [(0, .agg #[.int .i64 m, .slice A n c]), (1, .slice A2 n2 c2), (2, .bool true), (3, .slice A1_3 n1_3 c1_3), (4, .slice A1_4 n1_4 c1_4), (5, .pointer (some ⟨b2, 0, none⟩)), (10, .slice none 0 0), (11, .slice none 0 0), (12, .bool mo2), (13, .int .i64 (i : Int)), (17, .bool true)] 65 ∧ (am1 = n - i) ∧ (i ≤ n) ∧ (FndQ (linked ps (openQ vs true)) m.toNat ps.length a yt xt) ∧ (mo2 = true → ys0.length + xs0.length < yt.length + xt.length) ∧ (mo2 = false → yt = ys0 ∧ xt = xs0 ∧ shutE ps (openQ vs true) (inQ yt xt) i) ∧ (wl1.heap[b2]? = some (.cells #[.int .i64 m, .slice A n c] 26 (0, 0))) ∧ (Fm A1_3 n1_3 c1_3) ∧ (Rd wl1 1 A1_3 n1_3 (intsV yt)) ∧ (Fm A1_4 n1_4 c1_4) ∧ (Rd wl1 1 A1_4 n1_4 (intsV xt)) ∧ (Below w.heap.size w wl1)) (n - 0) ?_ ?_
  ·exact ⟨0, ys0, xs0, false, A0_3, n0_3, c0_3, A0_4, n0_4, c0_4, Kn.of, rfl, (Nat.zero_le _), hf, (fun e => by cases e), (fun _ => ⟨rfl, rfl, shutE_zero _ _ _⟩), x6, fm0_3, rd0_3, fm0_4, rd0_4, c10⟩
  rintro am1 aa1 wl1 K9 h9 ⟨i, yt, xt, mo2, A1_3, n1_3, c1_3, A1_4, n1_4, c1_4, ⟨U1, rfl⟩, rfl, hi, hf2, hmt2, hmf2, x6, fm1_3, rd1_3, fm1_4, rd1_4, c12⟩
  have hl1_3 := rd_ints_len rd1_3
  have hl1_4 := rd_ints_len rd1_4
  have hfl2 := hf2.len
  refine wk fun K10 h10 => ?_
  refine wk fun K11 h11 => ?_
  refine Rq 5 ?_
  refine Fv (.int .i64 (i : Int)) ?_
  refine Fq (.pointer (some ⟨b2, 1, none⟩)) (r_field (k := 1) rfl ek kk) ?_
  refine Fl (.slice A n c) (eqS (blk_cell (j := 1) x6 kk)) ?_
  refine Fq (.int .i64 (n : Int)) (r_len (A := A) (n := n) (c := c) rfl ek kk) ?_
  by_cases q13 : ((i : Int) : Int) < ((n : Int) : Int)
  ·refine Fq (.bool true) (r_lss (m := (i : Int)) (n := (n : Int)) rfl ek ek (dt q13)) ?_
   apply F.es
   apply h11
   refine wp_cond_true ek ?_
   apply wp_skip
   apply h10
   refine wk fun K12 h12 => ?_
   refine wp_block ?_
   refine wk fun K13 h13 => ?_
   refine W.region_plain (row := none) [(0, false), (1, false), (2, false), (3, false), (4, false), (5, true), (6, true)] kk ?_
   have s14 := SG.self wl1 none
   refine Fq (.pointer (some ⟨b2, 1, none⟩)) (r_field (k := 1) rfl ek kk) ?_
   refine Fl (.slice A n c) (sgS (blk_cell (j := 1) x6 kk) onn) ?_
   refine Fv (.int .i64 (i : Int)) ?_
   obtain ⟨x15, hx16⟩ := get_of (zs := ps) (k := i) (by have := hl; omega)
   obtain ⟨b17, o18, hA19, hb20, hc21, hc22, hc23, hc24⟩ := Rd.elPipe ha hx16
   refine Fq (.pointer (some ⟨b17, o18 + i * 4, none⟩)) (r_idx (n := n) (c := c) (k := i) rfl ek hA19 kk kk (by have := hl; omega)) ?_
   refine Fq (.agg #[.int .i64 x15.id, .int .i64 x15.fr, .int .i64 x15.to, .int .i64 x15.sz]) (r_load4 rfl ek kk kk (sgS (later c12 hc21) (by simp)) (sgS (later c12 hc22) (by simp)) (sgS (later c12 hc23) (by simp)) (sgS (later c12 hc24) (by simp))) ?_
   refine W.sn (fun b => .pointer (some ⟨b, 0, none⟩)) #[.int .i64 0, .int .i64 0, .int .i64 0, .int .i64 0] 51 s14 rfl kk rfl (fun _ => by kernel_rfl) (fun b25 w26 hb27 k28 x29 s30 => ?_)
   apply F.nx
   have lo31 : w.heap.size ≤ b25 := Nl ((Sb c12 s14 nkk)).size (Nat.le_of_eq hb27)
   refine W.ss (v := .agg #[.int .i64 x15.id, .int .i64 x15.fr, .int .i64 x15.to, .int .i64 x15.sz]) (j := 0) (news := [.int .i64 x15.id, .int .i64 x15.fr, .int .i64 x15.to, .int .i64 x15.sz]) (cs' := #[.int .i64 x15.id, .int .i64 x15.fr, .int .i64 x15.to, .int .i64 x15.sz]) s30 rfl kk rfl rfl kk kk x29 kk kk (by simp) kk kk (.inr (Nl (s14).size (Nat.le_of_eq hb27))) (fun w35 g36 x37 s38 => ?_)
   apply F.es
   have x6 := Sk s38 x6 onn
   have c39 := (Sb c12 s38 nkk)
   have rd40 := Rk rd1_3 (SG.below s38)
   have rd41 := Rk rd1_4 (SG.below s38)
   apply h13
   refine wk fun K14 h14 => ?_
   refine Rq 1 ?_
   refine Fa (.int .i64 0) ?_
   apply F.es
   apply h14
   refine wp_block ?_
   refine loopK (fun am2 aa2 wl2 => ∃ (k : Nat) (yu : List Int) (xu : List Int) (mo3 : Bool) (A2_3 : Option Addr) (n2_3 : Nat) (c2_3 : Nat) (A2_4 : Option Addr) (n2_4 : Nat) (c2_4 : Nat) , Kn aa2 [(0, .agg #[.int .i64 m, .slice A n c]), (1, .slice A2 n2 c2), (2, .bool true), (3, .slice A2_3 n2_3 c2_3), (4, .slice A2_4 n2_4 c2_4), (5, .pointer (some ⟨b2, 0, none⟩)), (10, .slice none 0 0), (11, .slice none 0 0), (12, .bool mo3), (13, .int .i64 (i : Int)), (14, .pointer (some ⟨b25, 0, none⟩)), (15, .int .i64 (k : Int)), (17, .bool true), (22, .bool true)] 65 ∧ (am2 = 2 - k) ∧ (k ≤ 2) ∧ (FndQ (linked ps (openQ vs true)) m.toNat ps.length a yu xu) ∧ (mo3 = true → ys0.length + xs0.length < yu.length + xu.length) ∧ (mo3 = false → yu = ys0 ∧ xu = xs0 ∧ shutE ps (openQ vs true) (inQ yu xu) i ∧ (1 ≤ k → okP (openQ vs true) (inQ yu xu) i x15 x15.fr) ∧ (2 ≤ k → okP (openQ vs true) (inQ yu xu) i x15 x15.to)) ∧ (wl2.heap[b2]? = some (.cells #[.int .i64 m, .slice A n c] 26 (0, 0))) ∧ (wl2.heap[b25]? = some (.cells #[.int .i64 x15.id, .int .i64 x15.fr, .int .i64 x15.to, .int .i64 x15.sz] 51 (0, 0))) ∧ (Fm A2_3 n2_3 c2_3) ∧ (Rd wl2 1 A2_3 n2_3 (intsV yu)) ∧ (Fm A2_4 n2_4 c2_4) ∧ (Rd wl2 1 A2_4 n2_4 (intsV xu)) ∧ (Below w.heap.size w wl2)) (2 - 0) ?_ ?_
   ·exact ⟨0, yt, xt, mo2, A1_3, n1_3, c1_3, A1_4, n1_4, c1_4, Kn.of, rfl, (Nat.zero_le _), hf2, hmt2, (fun e => ⟨(hmf2 e).1, (hmf2 e).2.1, (hmf2 e).2.2, fun h => absurd h (by omega), fun h => absurd h (by omega)⟩), x6, x37, fm1_3, rd40, fm1_4, rd41, c39⟩
   rintro am2 aa2 wl2 K15 h15 ⟨k, yu, xu, mo3, A2_3, n2_3, c2_3, A2_4, n2_4, c2_4, ⟨U2, rfl⟩, rfl, hk, hf3, hmt3, hmf3, x6, x37, fm2_3, rd2_3, fm2_4, rd2_4, c42⟩
   have hl2_3 := rd_ints_len rd2_3
   have hl2_4 := rd_ints_len rd2_4
   have hfl3 := hf3.len
   refine wk fun K16 h16 => ?_
   refine wk fun K17 h17 => ?_
   refine Rq 2 ?_
   refine Fv (.int .i64 (k : Int)) ?_
   by_cases q43 : ((k : Int) : Int) < (2 : Int)
   ·refine Fq (.bool true) (r_lss (m := (k : Int)) (n := 2) rfl ek ek (dt q43)) ?_
    apply F.es
    apply h17
    refine wp_cond_true ek ?_
    apply wp_skip
    apply h16
    refine wk fun K18 h18 => ?_
    refine wp_block ?_
    refine wk fun K19 h19 => ?_
    refine W.region_plain (row := none) [(0, false), (1, false), (2, false), (3, false), (4, true), (5, false), (6, false), (7, true), (8, false)] kk ?_
    have s44 := SG.self wl2 none
    refine Fq (.pointer (some ⟨b25, 1, none⟩)) (r_field (k := 1) rfl ek kk) ?_
    refine Fl (.int .i64 x15.fr) (sgS (blk_cell (j := 1) x37 kk) onn) ?_
    refine Fq (.pointer (some ⟨b25, 2, none⟩)) (r_field (k := 2) rfl ek kk) ?_
    refine Fl (.int .i64 x15.to) (sgS (blk_cell (j := 2) x37 kk) onn) ?_
    refine W.sn (fun b => .slice (some ⟨b, 0, none⟩) 2 2) #[.int .i64 x15.fr, .int .i64 x15.to] 3 s44 rfl kk rfl (fun _ => by kernel_rfl) (fun b45 w46 hb47 k48 x49 s50 => ?_)
    apply F.nx
    have lo51 : w.heap.size ≤ b45 := Nl ((Sb c42 s44 nkk)).size (Nat.le_of_eq hb47)
    refine Fv (.int .i64 (k : Int)) ?_
    have ho56 := own_blk (base := w.heap.size) (size := 1) (n := 2) x49 lo51 rfl (by omega)
    replace ho56 : World.ownsRow _ _ _ _ _ _ (intsV [x15.fr, x15.to]) := ho56
    have rd62 := own_rd ho56
    have hl63 := rd_ints_len rd62
    obtain ⟨x64, hx65⟩ := get_of (zs := [x15.fr, x15.to]) (k := k) (by have := hl63; omega)
    have hy2 := two_of hx65
    have hpx := hp x15 (List.mem_of_getElem? hx16)
    obtain ⟨b66, o67, hA68, hb69, hc70⟩ := Rd.elInt rd62 hx65
    refine Fq (.pointer (some ⟨b66, o67 + k, none⟩)) (r_idx1 (n := 2) (c := 2) (k := k) rfl ek hA68 kk kk (by have := hl63; omega)) ?_
    refine W.slq (v := .int .i64 x64) s50 rfl (r_load rfl kk kk (eqS hc70)) kk rfl ?_
    apply F.nx
    refine Fa (.int .i64 x64) ?_
    apply F.es
    have x6 := Sk s50 x6 onn
    have x37 := Sk s50 x37 onn
    have c71 := (Sb c42 s50 nkk)
    have rd72 := Rk rd2_3 (SG.below s50)
    have rd73 := Rk rd2_4 (SG.below s50)
    apply h19
    refine wk fun K20 h20 => ?_
    refine wk fun K21 h21 => ?_
    refine W.region_plain (row := none) [(0, false), (1, false), (2, false), (3, false), (4, false), (5, true), (6, false), (7, false), (8, false), (9, true), (10, false), (11, false), (12, true), (13, false), (14, false)] kk ?_
    have s74 := SG.self w46 none
    refine Fv (.slice A2 n2 c2) ?_
    refine Fq (.pointer (some ⟨b25, 0, none⟩)) (r_field0 rfl ek kk) ?_
    refine Fl (.int .i64 x15.id) (sgS (blk_cell (j := 0) x37 kk) onn) ?_
    refine Fv (.int .i64 x64) ?_
    refine Fv (.bool true) ?_
    refine Fc [.slice A2 n2 c2, .int .i64 x15.id, .int .i64 x64, .bool true] (l4Blocked_true A2 n2 c2 vs x15.id x64 _ (Rk hb (Sb c71 s74 nkk)) (by omega)) ?_
    rintro e w76 ⟨rfl, b75⟩
    have s77 := SG.of_below s74 b75
    refine ⟨_, rfl, s77, ?_⟩
    apply F.nx
    rcases Bool.eq_false_or_eq_true (blocked vs x15.id x64 true) with q78 | q78
    ·rw [q78]
     refine Fv (.bool true) ?_
     refine Fs s77 ?_
     refine Fs s77 ?_
     refine Fs s77 ?_
     refine Fs s77 ?_
     refine Fs s77 ?_
     refine Fs s77 ?_
     refine Fs s77 ?_
     refine Fq (.bool true) (r_pick (b := true) rfl ek ek) ?_
     apply F.es
     have x6 := Sk s77 x6 onn
     have x37 := Sk s77 x37 onn
     have c79 := (Sb c71 s77 nkk)
     have rd80 := Rk rd72 (SG.below s77)
     have rd81 := Rk rd73 (SG.below s77)
     apply h21
     refine wp_cond_true ek ?_
     refine wp_exit ?_
     apply h18
     refine Rq 3 ?_
     refine Fv (.int .i64 (k : Int)) ?_
     refine Fq (.int .i64 ((k + 1 : Nat) : Int)) (r_add (m := (k : Int)) (n := 1) (z := ((k + 1 : Nat) : Int)) rfl ek ek (by omega) (by omega)) ?_
     refine Fa (.int .i64 ((k + 1 : Nat) : Int)) ?_
     apply F.es
     exact h15 _ _ _ (by omega : (2 - (k + 1)) < _) ⟨k + 1, yu, xu, mo3, A2_3, n2_3, c2_3, A2_4, n2_4, c2_4, Kn.of, rfl, (by omega), hf3, hmt3, (fun e => ⟨(hmf3 e).1, (hmf3 e).2.1, (hmf3 e).2.2.1, two_next hy2 (hmf3 e).2.2.2.1 (okP_shut (openQ_no q78))⟩), x6, x37, fm2_3, rd80, fm2_4, rd81, c79⟩
    rw [q78]
    refine Fv (.bool false) ?_
    refine Fv (.slice A2_3 n2_3 c2_3) ?_
    refine Fv (.int .i64 x64) ?_
    refine Fc [.slice A2_3 n2_3 c2_3, .int .i64 x64] (l1Has_any A2_3 n2_3 c2_3 yu x64 _ (Rk rd72 (SG.below s77)) (by omega)) ?_
    rintro e w84 ⟨rfl, b83⟩
    have s85 := SG.of_below s77 b83
    refine ⟨_, rfl, s85, ?_⟩
    apply F.nx
    refine Fv (.slice A2_4 n2_4 c2_4) ?_
    refine Fv (.int .i64 (i : Int)) ?_
    refine Fc [.slice A2_4 n2_4 c2_4, .int .i64 (i : Int)] (l1Has_any A2_4 n2_4 c2_4 xu (i : Int) _ (Rk rd73 (SG.below s85)) (by omega)) ?_
    rintro e w87 ⟨rfl, b86⟩
    have s88 := SG.of_below s85 b86
    refine ⟨_, rfl, s88, ?_⟩
    apply F.nx
    by_cases q89 : (yu.contains x64) = (xu.contains (i : Int))
    ·refine Fq (.bool true) (r_eqlB (m := (yu.contains x64)) (n := (xu.contains (i : Int))) rfl ek ek kk (beq_iff_eq.2 q89)) ?_
     refine Fq (.bool true) (r_pick (b := false) rfl ek ek) ?_
     apply F.es
     have x6 := Sk s88 x6 onn
     have x37 := Sk s88 x37 onn
     have c90 := (Sb c71 s88 nkk)
     have rd91 := Rk rd72 (SG.below s88)
     have rd92 := Rk rd73 (SG.below s88)
     apply h21
     refine wp_cond_true ek ?_
     refine wp_exit ?_
     apply h18
     refine Rq 3 ?_
     refine Fv (.int .i64 (k : Int)) ?_
     refine Fq (.int .i64 ((k + 1 : Nat) : Int)) (r_add (m := (k : Int)) (n := 1) (z := ((k + 1 : Nat) : Int)) rfl ek ek (by omega) (by omega)) ?_
     refine Fa (.int .i64 ((k + 1 : Nat) : Int)) ?_
     apply F.es
     exact h15 _ _ _ (by omega : (2 - (k + 1)) < _) ⟨k + 1, yu, xu, mo3, A2_3, n2_3, c2_3, A2_4, n2_4, c2_4, Kn.of, rfl, (by omega), hf3, hmt3, (fun e => ⟨(hmf3 e).1, (hmf3 e).2.1, (hmf3 e).2.2.1, two_next hy2 (hmf3 e).2.2.2.1 (okQ_same (m := m.toNat) (by omega) hf3.b1 (by omega) q89)⟩), x6, x37, fm2_3, rd91, fm2_4, rd92, c90⟩
    refine Fq (.bool false) (r_eqlB (m := (yu.contains x64)) (n := (xu.contains (i : Int))) rfl ek ek kk (beq_eq_false_iff_ne.2 q89)) ?_
    refine Fq (.bool false) (r_pick (b := false) rfl ek ek) ?_
    apply F.es
    have x6 := Sk s88 x6 onn
    have x37 := Sk s88 x37 onn
    have c94 := (Sb c71 s88 nkk)
    have rd95 := Rk rd72 (SG.below s88)
    have rd96 := Rk rd73 (SG.below s88)
    apply h21
    refine wp_cond_false ek ?_
    apply wp_skip
    apply h20
    refine wk fun K22 h22 => ?_
    refine W.region_plain (row := none) [(0, false), (1, false), (2, true), (3, false)] kk ?_
    have s98 := SG.self w87 none
    refine Fv (.slice A2_3 n2_3 c2_3) ?_
    refine Fv (.int .i64 x64) ?_
    refine Fc [.slice A2_3 n2_3 c2_3, .int .i64 x64] (l1Put_any A2_3 n2_3 c2_3 yu x64 _ (Rk rd95 (SG.below s98)) fm2_3 (by have h7 := hl2_3; first | omega)) ?_
    rintro e w107 ⟨A99, n100, c101, rfl, rd102, fm103, b106⟩
    have s108 := SG.of_below s98 b106
    refine ⟨_, rfl, s108, ?_⟩
    apply F.nx
    have hl104 := rd_ints_len rd102
    refine Fa (.slice A99 n100 c101) ?_
    apply F.es
    have x6 := Sk s108 x6 onn
    have x37 := Sk s108 x37 onn
    have c109 := (Sb c94 s108 nkk)
    have rd111 := Rk rd96 (SG.below s108)
    apply h22
    refine wk fun K23 h23 => ?_
    refine W.region_plain (row := none) [(0, false), (1, false), (2, true), (3, false)] kk ?_
    have s113 := SG.self w107 none
    refine Fv (.slice A2_4 n2_4 c2_4) ?_
    refine Fv (.int .i64 (i : Int)) ?_
    refine Fc [.slice A2_4 n2_4 c2_4, .int .i64 (i : Int)] (l1Put_any A2_4 n2_4 c2_4 xu (i : Int) _ (Rk rd111 (SG.below s113)) fm2_4 (by have h7 := hl2_4; first | omega)) ?_
    rintro e w122 ⟨A114, n115, c116, rfl, rd117, fm118, b121⟩
    have s123 := SG.of_below s113 b121
    refine ⟨_, rfl, s123, ?_⟩
    apply F.nx
    have hl119 := rd_ints_len rd117
    refine Fa (.slice A114 n115 c116) ?_
    apply F.es
    have x6 := Sk s123 x6 onn
    have x37 := Sk s123 x37 onn
    have c124 := (Sb c109 s123 nkk)
    have rd128 := Rk rd102 (SG.below s123)
    apply h23
    refine Rq 1 ?_
    refine Fa (.bool true) ?_
    apply F.es
    apply h18
    refine Rq 3 ?_
    refine Fv (.int .i64 (k : Int)) ?_
    refine Fq (.int .i64 ((k + 1 : Nat) : Int)) (r_add (m := (k : Int)) (n := 1) (z := ((k + 1 : Nat) : Int)) rfl ek ek (by omega) (by omega)) ?_
    refine Fa (.int .i64 ((k + 1 : Nat) : Int)) ?_
    apply F.es
    exact h15 _ _ _ (by omega : (2 - (k + 1)) < _) ⟨k + 1, putL yu x64, putL xu (i : Int), true, A99, n100, c101, A114, n115, c116, Kn.of, rfl, (by omega), (hf3.put (by omega) hx16 (by omega) (by omega) (openQ_yes q78) q89), (fun _ => by have h9 := put2_len2 q89; rcases Bool.eq_false_or_eq_true mo3 with e | e <;> first | (have h8 := hmt3 e; omega) | (have h8 := hmf3 e; rw [h8.1, h8.2.1] at h9; rw [h8.1, h8.2.1]; exact h9)), (fun e => by cases e), x6, x37, fm103, rd128, fm118, rd117, c124⟩
   refine Fq (.bool false) (r_lss (m := (k : Int)) (n := 2) rfl ek ek (df q43)) ?_
   apply F.es
   apply h17
   refine wp_cond_false ek ?_
   refine wp_exit ?_
   apply h12
   refine Rq 3 ?_
   refine Fv (.int .i64 (i : Int)) ?_
   refine Fq (.int .i64 ((i + 1 : Nat) : Int)) (r_add (m := (i : Int)) (n := 1) (z := ((i + 1 : Nat) : Int)) rfl ek ek (by omega) (by omega)) ?_
   refine Fa (.int .i64 ((i + 1 : Nat) : Int)) ?_
   apply F.es
   exact h9 _ _ _ (by omega : (n - (i + 1)) < _) ⟨i + 1, yu, xu, mo3, A2_3, n2_3, c2_3, A2_4, n2_4, c2_4, Kn.of, rfl, (by omega), hf3, hmt3, (fun e => ⟨(hmf3 e).1, (hmf3 e).2.1, (hmf3 e).2.2.1.next hx16 ((hmf3 e).2.2.2.1 (by omega)) ((hmf3 e).2.2.2.2 (by omega))⟩), x6, fm2_3, rd2_3, fm2_4, rd2_4, c42⟩
  refine Fq (.bool false) (r_lss (m := (i : Int)) (n := (n : Int)) rfl ek ek (df q13)) ?_
  apply F.es
  apply h11
  refine wp_cond_false ek ?_
  refine wp_exit ?_
  exact h4 _ _ _ (by rcases Bool.eq_false_or_eq_true mo2 with e | e <;> rw [e] <;> simp only [Bool.toNat_true, Bool.toNat_false, qmo] <;> first | (have h9 := hmt2 e; omega) | (rw [(hmf2 e).1, (hmf2 e).2.1]; omega) : (2 * (18 - yt.length - xt.length) + mo2.toNat) < _) ⟨yt, xt, mo2, A1_3, n1_3, c1_3, A1_4, n1_4, c1_4, Kn.of, rfl, hf2, (fun e => by have h9 := (hmf2 e).2.2; rw [show i = ps.length by omega] at h9; exact h9), x6, fm1_3, rd1_3, fm1_4, rd1_4, c12⟩
 rw [q11]
 have qmo := q11
 refine wp_cond_false ek ?_
 refine wp_exit ?_
 apply h2
 refine wk fun K24 h24 => ?_
 refine Rq 4 ?_
 refine Fv (.slice A0_3 n0_3 c0_3) ?_
 refine Fv (.slice A0_4 n0_4 c0_4) ?_
 refine Fa (.slice A0_3 n0_3 c0_3) ?_
 refine Fa (.slice A0_4 n0_4 c0_4) ?_
 apply F.es
 apply h24
 refine wp_ret ?_
 try simp only [Exit.then]
 refine ret2 (v := .slice A0_3 n0_3 c0_3) (x := .slice A0_4 n0_4 c0_4) rfl kk kk ?_
 have e9 := hf.fin (by omega) (hsh qmo)
 exact ⟨_, _, _, _, _, _, rfl, (by rw [← e9.1]; exact rd0_3), fm0_3, (by rw [← e9.2]; exact rd0_4), fm0_4, c10⟩
end Go.Proofs.Ytdbgfejeleafgaa
namespace Go.Proofs.Ytdbgfejeleafgaa
open Go.RowKit
set_option linter.unusedVariables false
set_option linter.unusedSimpArgs false
theorem nodesL_yes {E : Int → Int → Prop} {m : Nat} {a : Int} {told : Bool} (h : rb E a ((m : Int) + 1) = told) : nodesL E (m + 1) a told = nodesL E m a told ++ [((m + 1 : Nat) : Int)] := by
  rw [nodesL_succ, if_pos h]; simp
theorem nodesL_no {E : Int → Int → Prop} {m : Nat} {a : Int} {told : Bool} (h : rb E a ((m : Int) + 1) ≠ told) : nodesL E (m + 1) a told = nodesL E m a told := by
  rw [nodesL_succ, if_neg h]; simp
theorem wet_eq {E : Int → Int → Prop} {a : Int} {k : Nat} {x : Bool} (hx : (wetL E a)[k]? = some x) : x = rb E a (k : Int) := by
  have hk : k < 19 := by have := (List.getElem?_eq_some_iff.1 hx).1; rw [wetL_len] at this; exact this
  rw [wetL_at E a hk] at hx; exact (Option.some.inj hx).symm
theorem wet_eq1 {E : Int → Int → Prop} {a : Int} {m : Nat} {x : Bool} (hx : (wetL E a)[m + 1]? = some x) : rb E a ((m : Int) + 1) = x := by
  rw [wet_eq hx]; rfl
theorem nodesL_has {E : Int → Int → Prop} {m : Nat} {a b : Int} (hb : 1 ≤ b ∧ b ≤ m) : (nodesL E m a true).contains b = rb E a b := by
  rw [Bool.eq_iff_iff, List.contains_iff_mem, mem_nodesL]
  exact ⟨fun h => h.2, fun h => ⟨hb, h⟩⟩
theorem idxL_has {E : Int → Int → Prop} {n : Nat} {a b : Int} (hb : 0 ≤ b ∧ b < n) : (idxL E n a true).contains b = rb E a (9 + b) := by
  rw [Bool.eq_iff_iff, List.contains_iff_mem, mem_idxL]
  exact ⟨fun h => h.2, fun h => ⟨hb, h⟩⟩
theorem idxL_yes {E : Int → Int → Prop} {i : Nat} {a : Int} {told : Bool} (h : rb E a (9 + (i : Int)) = told) : idxL E (i + 1) a told = idxL E i a told ++ [(i : Int)] := by rw [idxL_succ, if_pos h]
theorem idxL_no {E : Int → Int → Prop} {i : Nat} {a : Int} {told : Bool} (h : rb E a (9 + (i : Int)) ≠ told) : idxL E (i + 1) a told = idxL E i a told := by rw [idxL_succ, if_neg h, List.append_nil]
theorem ne_of_not {a b : Bool} (h : a = !b) : a ≠ b := by cases b <;> simp_all
set_option maxRecDepth 100000 in
set_option maxHeartbeats 8000000 in
theorem l4Dry_any (m : Int) (A : Option Addr) (n c : Nat) (ps : List Pp) (A2 : Option Addr) (n2 c2 : Nat) (vs : List Vv) (a : Int) (w : World) (ha : Rd w 4 A n (pipesV ps)) (hb : Rd w 4 A2 n2 (valvesV vs)) (hn : n ≤ 1048576) (hn2 : n2 ≤ 1048576) (hp : pipesIn ps m.toNat) (hm : 1 ≤ m ∧ m ≤ 8) (hlen10 : ps.length ≤ 10) (hav : 1 ≤ a ∧ a ≤ m) :
    Calls Try.prog 95 #[.agg #[.int .i64 m, .slice A n c], .slice A2 n2 c2, .int .i64 a] w fun e w' => ∃ A5 n5 c5 A6 n6 c6, e = .returned (.tuple #[.slice A5 n5 c5, .slice A6 n6 c6]) ∧ Rd w' 1 A5 n5 (intsV (nodesL (linked ps (openQ vs true)) m.toNat a false)) ∧ Fm A5 n5 c5 ∧ Rd w' 1 A6 n6 (intsV (idxL (linked ps (openQ vs true)) ps.length a false)) ∧ Fm A6 n6 c6 ∧ Below w.heap.size w w' := by
 have hl := rd_pipes_len ha
 have hl2 := rd_valves_len hb
 go_enter Try.func95, Try.ntmps95
 refine F.begin 56 [(0, .agg #[.int .i64 m, .slice A n c]), (1, .slice A2 n2 c2), (2, .int .i64 a)] (fun U0 => ?_)
 refine wk fun K1 h1 => ?_
 refine W.region_plain (row := none) [(0, true), (1, false), (2, false)] kk ?_
 have s1 := SG.self w none
 refine W.sn (fun b => .pointer (some ⟨b, 0, none⟩)) #[.int .i64 m, .slice A n c] 26 s1 rfl kk rfl (fun _ => by kernel_rfl) (fun b2 w3 hb4 k5 x6 s7 => ?_)
 apply F.nx
 have lo8 : w.heap.size ≤ b2 := Nl ((Sb (Below.refl _ _) s1 nkk)).size (Nat.le_of_eq hb4)
 refine Fa (.slice none 0 0) ?_
 refine Fa (.slice none 0 0) ?_
 apply F.es
 have c9 := (Sb (Below.refl _ _) s7 nkk)
 apply h1
 refine wk fun K2 h2 => ?_
 refine W.region_plain (row := none) [(0, false), (1, false), (2, false), (3, true), (4, true), (5, true), (6, false), (7, false), (8, false), (9, false), (10, false)] kk ?_
 have s10 := SG.self w3 none
 refine Fq (.agg #[.int .i64 m, .slice A n c]) (r_load2 rfl ek kk kk (sgS (blk_cell (j := 0) x6 kk) onn) (sgS (blk_cell (j := 1) x6 kk) onn)) ?_
 refine Fv (.slice A2 n2 c2) ?_
 refine Fv (.int .i64 a) ?_
 refine W.sn (fun b => .slice (some ⟨b, 0, none⟩) 1 1) #[.int .i64 a] 3 s10 rfl kk rfl (fun _ => by kernel_rfl) (fun b11 w12 hb13 k14 x15 s16 => ?_)
 apply F.nx
 have lo17 : w.heap.size ≤ b11 := Nl ((Sb c9 s10 nkk)).size (Nat.le_of_eq hb13)
 refine W.sn (fun b => .slice (some ⟨b, 0, none⟩) 0 0) #[] 3 s16 rfl kk rfl (fun _ => by kernel_rfl) (fun b19 w20 hb21 k22 x23 s24 => ?_)
 apply F.nx
 have lo25 : w.heap.size ≤ b19 := Nl ((Sb c9 s16 nkk)).size (Nat.le_of_eq hb21)
 have x15 := (k22.block _ (blk_lt x15)).trans x15
 have ho28 := own_blk (base := w.heap.size) (size := 1) (n := 1) x15 lo17 rfl (by omega)
 replace ho28 : World.ownsRow _ _ _ _ _ _ (intsV [a]) := ho28
 have rd32 := own_rd ho28
 have hl33 := rd_ints_len rd32
 have ho34 := own_empty (base := w.heap.size) (size := 1) x23 lo25
 replace ho34 : World.ownsRow _ _ _ _ _ _ (intsV []) := ho34
 have rd37 := own_rd ho34
 have hl38 := rd_ints_len rd37
 refine Fc [.agg #[.int .i64 m, .slice A n c], .slice A2 n2 c2, .bool true, .slice (some ⟨b11, 0, none⟩) 1 1, .slice (some ⟨b19, 0, none⟩) 0 0] (l4Spread_true m A n c ps A2 n2 c2 vs a (some ⟨b11, 0, none⟩) 1 1 ([a]) (some ⟨b19, 0, none⟩) 0 0 ([]) _ (Rk ha (Sb c9 s24 nkk)) (Rk hb (Sb c9 s24 nkk)) (by omega) (by omega) hp (by omega) (by omega) rd32 (own_fm ho28) rd37 (own_fm ho34) (FndQ.startN _ (by omega))) ?_
 rintro e w54 ⟨A39, n40, c41, A42, n43, c44, rfl, rd45, fm46, rd47, fm48, b53⟩
 have s55 := SG.of_below s24 b53
 refine ⟨_, rfl, s55, ?_⟩
 apply F.nx
 have hl51 := rd_ints_len rd45
 have hl52 := rd_ints_len rd47
 have := nodesL_len (linked ps (openQ vs true)) m.toNat a true
 have := idxL_len (linked ps (openQ vs true)) ps.length a true
 refine Fv (.tuple #[.slice A39 n40 c41, .slice A42 n43 c44]) ?_
 refine Fq (.slice A39 n40 c41) (r_extract (vs := #[.slice A39 n40 c41, .slice A42 n43 c44]) rfl ek kk) ?_
 refine Fq (.slice A42 n43 c44) (r_extract (vs := #[.slice A39 n40 c41, .slice A42 n43 c44]) rfl ek kk) ?_
 refine Fa (.slice A39 n40 c41) ?_
 refine Fa (.slice A42 n43 c44) ?_
 apply F.es
 have x6 := Sk s55 x6 onn
 have c58 := (Sb c9 s55 nkk)
 apply h2
 refine wk fun K3 h3 => ?_
 refine W.region_plain (row := none) [(0, true), (1, true), (2, false), (3, false)] kk ?_
 have s59 := SG.self w54 none
 refine W.sn (fun b => .slice (some ⟨b, 0, none⟩) 0 0) #[] 3 s59 rfl kk rfl (fun _ => by kernel_rfl) (fun b60 w61 hb62 k63 x64 s65 => ?_)
 apply F.nx
 have lo66 : w.heap.size ≤ b60 := Nl ((Sb c58 s59 nkk)).size (Nat.le_of_eq hb62)
 have sp67 : Sp A39 n40 (some b60) := sp_new rd45 (by have := (s59).size; have := hb62; omega)
 have sp68 : Sp A42 n43 (some b60) := sp_new rd47 (by have := (s59).size; have := hb62; omega)
 have ne71 : b2 ≠ b60 := Nat.ne_of_lt (Nat.lt_of_lt_of_eq (Nat.lt_of_lt_of_le (blk_lt x6) (s59).size) hb62)
 refine W.sn (fun b => .slice (some ⟨b, 0, none⟩) 0 0) #[] 3 s65 rfl kk rfl (fun _ => by kernel_rfl) (fun b72 w73 hb74 k75 x76 s77 => ?_)
 apply F.nx
 have lo78 : w.heap.size ≤ b72 := Nl ((Sb c58 s65 nkk)).size (Nat.le_of_eq hb74)
 have sp80 : Sp A42 n43 (some b72) := sp_new rd47 (by have := (s65).size; have := hb74; omega)
 have ne83 : b2 ≠ b72 := Nat.ne_of_lt (Nat.lt_of_lt_of_eq (Nat.lt_of_lt_of_le (blk_lt x6) (s65).size) hb74)
 have ne84 : b60 ≠ b72 := Nat.ne_of_lt (Nat.lt_of_lt_of_eq (blk_lt x64) hb74)
 have x64 := (k75.block _ (blk_lt x64)).trans x64
 refine Fa (.slice (some ⟨b60, 0, none⟩) 0 0) ?_
 refine Fa (.slice (some ⟨b72, 0, none⟩) 0 0) ?_
 apply F.es
 have x6 := Sk s77 x6 onn
 have c85 := (Sb c58 s77 nkk)
 have rd88 := Rk rd45 (SG.below s77)
 have rd89 := Rk rd47 (SG.below s77)
 apply h3
 refine wk fun K4 h4 => ?_
 refine wk fun K5 h5 => ?_
 refine Rq 1 ?_
 refine Fa (.int .i64 1) ?_
 apply F.es
 apply h5
 refine wp_block ?_
 have ho90 := own_empty (base := w.heap.size) (size := 1) x64 lo66
 replace ho90 : World.ownsRow _ _ _ _ _ _ (intsV []) := ho90
 have sp91 := sp_own (n' := 0) (c := 0) sp67
 have sp92 := sp_own (n' := 0) (c := 0) sp68
 have nb95 : Nb b2 (.slice (some ⟨b60, 0, none⟩) 0 0) := nb_new ne71
 have nb96 : Nb b72 (.slice (some ⟨b60, 0, none⟩) 0 0) := nb_new (Ne.symm ne84)
 refine loopK (fun am0 aa0 wl0 => ∃ (j : Nat) (A0_10 : Option Addr) (n0_10 : Nat) (c0_10 : Nat) , Kn aa0 [(0, .agg #[.int .i64 m, .slice A n c]), (1, .slice A2 n2 c2), (2, .int .i64 a), (3, .pointer (some ⟨b2, 0, none⟩)), (6, .slice none 0 0), (7, .slice none 0 0), (8, .slice A39 n40 c41), (9, .slice A42 n43 c44), (10, .slice A0_10 n0_10 c0_10), (11, .slice (some ⟨b72, 0, none⟩) 0 0), (12, .int .i64 ((j + 1 : Nat) : Int))] 56 ∧ (am0 = m.toNat - j) ∧ (j ≤ m.toNat) ∧ (n0_10 ≤ j) ∧ (wl0.heap[b2]? = some (.cells #[.int .i64 m, .slice A n c] 26 (0, 0))) ∧ (wl0.heap[b72]? = some (.cells #[] 3 (0, 0))) ∧ (wl0.ownsRow w.heap.size 3 1 (.slice A0_10 n0_10 c0_10) n0_10 (intsV (nodesL (linked ps (openQ vs true)) j a false))) ∧ (Nb b2 (.slice A0_10 n0_10 c0_10)) ∧ (Nb b72 (.slice A0_10 n0_10 c0_10)) ∧ (Rd wl0 1 A39 n40 (intsV (nodesL (linked ps (openQ vs true)) m.toNat a true))) ∧ (Rd wl0 1 A42 n43 (intsV (idxL (linked ps (openQ vs true)) ps.length a true))) ∧ (Sp A39 n40 (Value.ownBlock (.slice A0_10 n0_10 c0_10))) ∧ (Sp A42 n43 (Value.ownBlock (.slice A0_10 n0_10 c0_10))) ∧ (Below w.heap.size w wl0)) (m.toNat - 0) ?_ ?_
 ·exact ⟨0, (some ⟨b60, 0, none⟩), 0, 0, Kn.of, rfl, (Nat.zero_le _), (Nat.zero_le _), x6, x76, ho90, nb95, nb96, rd88, rd89, sp91, sp92, c85⟩
 rintro am0 aa0 wl0 K6 h6 ⟨j, A0_10, n0_10, c0_10, ⟨U0, rfl⟩, rfl, hj, hb10, x6, x76, ho0_10, nb0_10_b2, nb0_10_b72, rd0_8, rd0_9, sp0_8_10, sp0_9_10, c97⟩
 refine wk fun K7 h7 => ?_
 refine wk fun K8 h8 => ?_
 refine Rq 4 ?_
 refine Fv (.int .i64 ((j + 1 : Nat) : Int)) ?_
 refine Fq (.pointer (some ⟨b2, 0, none⟩)) (r_field0 rfl ek kk) ?_
 refine Fl (.int .i64 m) (eqS (blk_cell (j := 0) x6 kk)) ?_
 by_cases q98 : (((j + 1 : Nat) : Int) : Int) ≤ (m : Int)
 ·refine Fq (.bool true) (r_leq (m := ((j + 1 : Nat) : Int)) (n := m) rfl ek ek (dt q98)) ?_
  apply F.es
  apply h8
  refine wp_cond_true ek ?_
  apply wp_skip
  apply h7
  refine wk fun K9 h9 => ?_
  refine wp_block ?_
  refine wk fun K10 h10 => ?_
  refine W.region_plain (row := none) [(0, false), (1, false), (2, true), (3, false)] kk ?_
  have s99 := SG.self wl0 none
  refine Fv (.slice A39 n40 c41) ?_
  refine Fv (.int .i64 ((j + 1 : Nat) : Int)) ?_
  refine Fc [.slice A39 n40 c41, .int .i64 ((j + 1 : Nat) : Int)] (l1Has_any A39 n40 c41 (nodesL (linked ps (openQ vs true)) m.toNat a true) ((j + 1 : Nat) : Int) _ (Rk rd0_8 (SG.below s99)) (by omega)) ?_
  rintro e w101 ⟨rfl, b100⟩
  have s102 := SG.of_below s99 b100
  refine ⟨_, rfl, s102, ?_⟩
  apply F.nx
  have ho103 := own_kept ho0_10 b100
  rcases Bool.eq_false_or_eq_true ((nodesL (linked ps (openQ vs true)) m.toNat a true).contains ((j + 1 : Nat) : Int)) with q104 | q104
  ·rw [q104]
   refine Fq (.bool false) (r_not (b := true) rfl ek rfl) ?_
   apply F.es
   have x6 := Sk s102 x6 onn
   have x76 := Sk s102 x76 onn
   have c105 := (Sb c97 s102 nkk)
   have rd106 := Rk rd0_8 (SG.below s102)
   have rd107 := Rk rd0_9 (SG.below s102)
   apply h10
   refine wp_cond_false ek ?_
   apply wp_skip
   apply h9
   refine Rq 3 ?_
   refine Fv (.int .i64 ((j + 1 : Nat) : Int)) ?_
   refine Fq (.int .i64 ((j + 1 + 1 : Nat) : Int)) (r_add (m := ((j + 1 : Nat) : Int)) (n := 1) (z := ((j + 1 + 1 : Nat) : Int)) rfl ek ek (by omega) (by omega)) ?_
   refine Fa (.int .i64 ((j + 1 + 1 : Nat) : Int)) ?_
   apply F.es
   exact h6 _ _ _ (by omega : (m.toNat - (j + 1)) < _) ⟨j + 1, A0_10, n0_10, c0_10, Kn.of, rfl, (by omega), (by omega), x6, x76, (by rw [nodesL_no (ne_of_not (by rw [show rb (linked ps (openQ vs true)) a ((j : Int) + 1) = true from (nodesL_has (by omega : 1 ≤ ((j + 1 : Nat) : Int) ∧ ((j + 1 : Nat) : Int) ≤ m.toNat)).symm.trans q104]; try rfl))]; exact ho103), nb0_10_b2, nb0_10_b72, rd106, rd107, sp0_8_10, sp0_9_10, c105⟩
  rw [q104]
  refine Fq (.bool true) (r_not (b := false) rfl ek rfl) ?_
  apply F.es
  have x6 := Sk s102 x6 onn
  have x76 := Sk s102 x76 onn
  have c108 := (Sb c97 s102 nkk)
  have rd109 := Rk rd0_8 (SG.below s102)
  have rd110 := Rk rd0_9 (SG.below s102)
  apply h10
  refine wp_cond_true ek ?_
  refine W.region_plain (row := (Value.ownBlock (.slice A0_10 n0_10 c0_10))) [(0, false), (1, false), (2, true), (3, true), (4, false)] kk ?_
  have s111 := SG.self w101 (Value.ownBlock (.slice A0_10 n0_10 c0_10))
  refine Fv (.slice A0_10 n0_10 c0_10) ?_
  refine Fv (.int .i64 ((j + 1 : Nat) : Int)) ?_
  refine W.sn (fun b => .slice (some ⟨b, 0, none⟩) 1 1) #[.int .i64 ((j + 1 : Nat) : Int)] 3 s111 rfl kk rfl (fun _ => by kernel_rfl) (fun b112 w113 hb114 k115 x116 s117 => ?_)
  apply F.nx
  have lo118 : w.heap.size ≤ b112 := Nl ((Sb c108 s111 (fun kq e => (World.ownsRow.lt ho103 kq e).1))).size (Nat.le_of_eq hb114)
  have ho124 := own_kept ho103 k115
  refine W.sap (e := 3) (size := 1) (base := w.heap.size) (m := 1) (v := .slice A0_10 n0_10 c0_10) (c := 1) s117 rfl rfl rfl rfl kk kk kk ho124 x116 kk kk (by omega) (by omega) (by have := ((Sb c108 s117 (fun kq e => (World.ownsRow.lt ho103 kq e).1))).size; omega) (.inl rfl) (fun g125 cap126 w127 ho128 hg129 hat130 hlt131 s132 => ?_)
  apply F.nx
  have nb133 : Nb b2 (.slice (some ⟨g125, 0, none⟩) (n0_10 + 1) cap126) := nb_app nb0_10_b2 (Nat.lt_of_lt_of_le (blk_lt x6) (s117).size) hat130
  have nb134 : Nb b72 (.slice (some ⟨g125, 0, none⟩) (n0_10 + 1) cap126) := nb_app nb0_10_b72 (Nat.lt_of_lt_of_le (blk_lt x76) (s117).size) hat130
  have ho128 := own_snoc ho128
  have sp136 := sp_app (v' := .slice (some ⟨g125, 0, none⟩) (n0_10 + 1) cap126) sp0_8_10 rd109 ((s117).size) (hat3 (v := .slice A0_10 n0_10 c0_10) hat130)
  have sp137 := sp_app (v' := .slice (some ⟨g125, 0, none⟩) (n0_10 + 1) cap126) sp0_9_10 rd110 ((s117).size) (hat3 (v := .slice A0_10 n0_10 c0_10) hat130)
  refine Fa (.slice (some ⟨g125, 0, none⟩) (n0_10 + 1) cap126) ?_
  apply F.es
  have x6 := Sk s132 x6 nb0_10_b2
  have x76 := Sk s132 x76 nb0_10_b72
  have c138 := (Sb c108 s132 (fun kq e => (World.ownsRow.lt ho103 kq e).1))
  have rd139 := rd_sep rd109 s132 sp0_8_10
  have rd140 := rd_sep rd110 s132 sp0_9_10
  apply h9
  refine Rq 3 ?_
  refine Fv (.int .i64 ((j + 1 : Nat) : Int)) ?_
  refine Fq (.int .i64 ((j + 1 + 1 : Nat) : Int)) (r_add (m := ((j + 1 : Nat) : Int)) (n := 1) (z := ((j + 1 + 1 : Nat) : Int)) rfl ek ek (by omega) (by omega)) ?_
  refine Fa (.int .i64 ((j + 1 + 1 : Nat) : Int)) ?_
  apply F.es
  exact h6 _ _ _ (by omega : (m.toNat - (j + 1)) < _) ⟨j + 1, (some ⟨g125, 0, none⟩), (n0_10 + 1), cap126, Kn.of, rfl, (by omega), (by omega), x6, x76, (by rw [nodesL_yes ((nodesL_has (by omega : 1 ≤ ((j + 1 : Nat) : Int) ∧ ((j + 1 : Nat) : Int) ≤ m.toNat)).symm.trans q104)]; exact ho128), nb133, nb134, rd139, rd140, sp136, sp137, c138⟩
 refine Fq (.bool false) (r_leq (m := ((j + 1 : Nat) : Int)) (n := m) rfl ek ek (df q98)) ?_
 apply F.es
 apply h8
 refine wp_cond_false ek ?_
 refine wp_exit ?_
 apply h4
 refine wk fun K11 h11 => ?_
 refine wk fun K12 h12 => ?_
 refine Rq 1 ?_
 refine Fa (.int .i64 0) ?_
 apply F.es
 apply h12
 refine wp_block ?_
 have ho141 := own_empty (base := w.heap.size) (size := 1) x76 lo78
 replace ho141 : World.ownsRow _ _ _ _ _ _ (intsV []) := ho141
 have nr142 : NbR (.slice (some ⟨b72, 0, none⟩) 0 0) (.slice A0_10 n0_10 c0_10) := nbr_new nb0_10_b72
 have sp144 := sp_own (n' := 0) (c := 0) sp80
 have nb145 : Nb b2 (.slice (some ⟨b72, 0, none⟩) 0 0) := nb_new ne83
 refine loopK (fun am1 aa1 wl1 => ∃ (i : Nat) (A1_11 : Option Addr) (n1_11 : Nat) (c1_11 : Nat) , Kn aa1 [(0, .agg #[.int .i64 m, .slice A n c]), (1, .slice A2 n2 c2), (2, .int .i64 a), (3, .pointer (some ⟨b2, 0, none⟩)), (6, .slice none 0 0), (7, .slice none 0 0), (8, .slice A39 n40 c41), (9, .slice A42 n43 c44), (10, .slice A0_10 n0_10 c0_10), (11, .slice A1_11 n1_11 c1_11), (12, .int .i64 ((j + 1 : Nat) : Int)), (13, .int .i64 (i : Int)), (28, .bool false)] 56 ∧ (am1 = n - i) ∧ (i ≤ n) ∧ (n1_11 ≤ i) ∧ (wl1.heap[b2]? = some (.cells #[.int .i64 m, .slice A n c] 26 (0, 0))) ∧ (wl1.ownsRow w.heap.size 3 1 (.slice A0_10 n0_10 c0_10) n0_10 (intsV (nodesL (linked ps (openQ vs true)) m.toNat a false))) ∧ (wl1.ownsRow w.heap.size 3 1 (.slice A1_11 n1_11 c1_11) n1_11 (intsV (idxL (linked ps (openQ vs true)) i a false))) ∧ (Nb b2 (.slice A1_11 n1_11 c1_11)) ∧ (NbR (.slice A1_11 n1_11 c1_11) (.slice A0_10 n0_10 c0_10)) ∧ (Rd wl1 1 A42 n43 (intsV (idxL (linked ps (openQ vs true)) ps.length a true))) ∧ (Sp A42 n43 (Value.ownBlock (.slice A1_11 n1_11 c1_11))) ∧ (Below w.heap.size w wl1)) (n - 0) ?_ ?_
 ·exact ⟨0, (some ⟨b72, 0, none⟩), 0, 0, Kn.of, rfl, (Nat.zero_le _), (Nat.zero_le _), x6, (by rw [show m.toNat = j by omega]; exact ho0_10), ho141, nb145, nr142, rd0_9, sp144, c97⟩
 rintro am1 aa1 wl1 K13 h13 ⟨i, A1_11, n1_11, c1_11, ⟨U1, rfl⟩, rfl, hi, hb11, x6, ho1_10, ho1_11, nb1_11_b2, nr1_1_0, rd1_9, sp1_9_11, c146⟩
 refine wk fun K14 h14 => ?_
 refine wk fun K15 h15 => ?_
 refine Rq 5 ?_
 refine Fv (.int .i64 (i : Int)) ?_
 refine Fq (.pointer (some ⟨b2, 1, none⟩)) (r_field (k := 1) rfl ek kk) ?_
 refine Fl (.slice A n c) (eqS (blk_cell (j := 1) x6 kk)) ?_
 refine Fq (.int .i64 (n : Int)) (r_len (A := A) (n := n) (c := c) rfl ek kk) ?_
 by_cases q147 : ((i : Int) : Int) < ((n : Int) : Int)
 ·refine Fq (.bool true) (r_lss (m := (i : Int)) (n := (n : Int)) rfl ek ek (dt q147)) ?_
  apply F.es
  apply h15
  refine wp_cond_true ek ?_
  apply wp_skip
  apply h14
  refine wk fun K16 h16 => ?_
  refine wp_block ?_
  refine wk fun K17 h17 => ?_
  refine W.region_plain (row := none) [(0, false), (1, false), (2, true), (3, false)] kk ?_
  have s148 := SG.self wl1 none
  refine Fv (.slice A42 n43 c44) ?_
  refine Fv (.int .i64 (i : Int)) ?_
  refine Fc [.slice A42 n43 c44, .int .i64 (i : Int)] (l1Has_any A42 n43 c44 (idxL (linked ps (openQ vs true)) ps.length a true) (i : Int) _ (Rk rd1_9 (SG.below s148)) (by omega)) ?_
  rintro e w150 ⟨rfl, b149⟩
  have s151 := SG.of_below s148 b149
  refine ⟨_, rfl, s151, ?_⟩
  apply F.nx
  have ho152 := own_kept ho1_10 b149
  have ho153 := own_kept ho1_11 b149
  rcases Bool.eq_false_or_eq_true ((idxL (linked ps (openQ vs true)) ps.length a true).contains (i : Int)) with q154 | q154
  ·rw [q154]
   refine Fq (.bool false) (r_not (b := true) rfl ek rfl) ?_
   apply F.es
   have x6 := Sk s151 x6 onn
   have c155 := (Sb c146 s151 nkk)
   have rd156 := Rk rd1_9 (SG.below s151)
   apply h17
   refine wp_cond_false ek ?_
   apply wp_skip
   apply h16
   refine Rq 3 ?_
   refine Fv (.int .i64 (i : Int)) ?_
   refine Fq (.int .i64 ((i + 1 : Nat) : Int)) (r_add (m := (i : Int)) (n := 1) (z := ((i + 1 : Nat) : Int)) rfl ek ek (by omega) (by omega)) ?_
   refine Fa (.int .i64 ((i + 1 : Nat) : Int)) ?_
   apply F.es
   exact h13 _ _ _ (by omega : (n - (i + 1)) < _) ⟨i + 1, A1_11, n1_11, c1_11, Kn.of, rfl, (by omega), (by omega), x6, ho152, (by rw [idxL_no (ne_of_not (by rw [show rb (linked ps (openQ vs true)) a (9 + (i : Int)) = true from (idxL_has (by omega : 0 ≤ (i : Int) ∧ (i : Int) < ps.length)).symm.trans q154]; try rfl))]; exact ho153), nb1_11_b2, nr1_1_0, rd156, sp1_9_11, c155⟩
  rw [q154]
  refine Fq (.bool true) (r_not (b := false) rfl ek rfl) ?_
  apply F.es
  have x6 := Sk s151 x6 onn
  have c157 := (Sb c146 s151 nkk)
  have rd158 := Rk rd1_9 (SG.below s151)
  apply h17
  refine wp_cond_true ek ?_
  refine W.region_plain (row := (Value.ownBlock (.slice A1_11 n1_11 c1_11))) [(0, false), (1, false), (2, true), (3, true), (4, false)] kk ?_
  have s159 := SG.self w150 (Value.ownBlock (.slice A1_11 n1_11 c1_11))
  refine Fv (.slice A1_11 n1_11 c1_11) ?_
  refine Fv (.int .i64 (i : Int)) ?_
  refine W.sn (fun b => .slice (some ⟨b, 0, none⟩) 1 1) #[.int .i64 (i : Int)] 3 s159 rfl kk rfl (fun _ => by kernel_rfl) (fun b160 w161 hb162 k163 x164 s165 => ?_)
  apply F.nx
  have lo166 : w.heap.size ≤ b160 := Nl ((Sb c157 s159 (fun kq e => (World.ownsRow.lt ho153 kq e).1))).size (Nat.le_of_eq hb162)
  have ho171 := own_kept ho152 k163
  have ho172 := own_kept ho153 k163
  refine W.sap (e := 3) (size := 1) (base := w.heap.size) (m := 1) (v := .slice A1_11 n1_11 c1_11) (c := 1) s165 rfl rfl rfl rfl kk kk kk ho172 x164 kk kk (by omega) (by omega) (by have := ((Sb c157 s165 (fun kq e => (World.ownsRow.lt ho153 kq e).1))).size; omega) (.inl rfl) (fun g173 cap174 w175 ho176 hg177 hat178 hlt179 s180 => ?_)
  apply F.nx
  have nb181 : Nb b2 (.slice (some ⟨g173, 0, none⟩) (n1_11 + 1) cap174) := nb_app nb1_11_b2 (Nat.lt_of_lt_of_le (blk_lt x6) (s165).size) hat178
  have ho176 := own_snoc ho176
  have sp183 := sp_app (v' := .slice (some ⟨g173, 0, none⟩) (n1_11 + 1) cap174) sp1_9_11 rd158 ((s165).size) (hat3 (v := .slice A1_11 n1_11 c1_11) hat178)
  have nr184 : NbR (.slice (some ⟨g173, 0, none⟩) (n1_11 + 1) cap174) (.slice A0_10 n0_10 c0_10) := nbr_app nr1_1_0 (fun j h => (World.ownsRow.lt ho171 j h).2) (hat3 (v := .slice A1_11 n1_11 c1_11) hat178)
  have ho185 := own_grown ho171 hg177 (NbR.symm nr1_1_0)
  refine Fa (.slice (some ⟨g173, 0, none⟩) (n1_11 + 1) cap174) ?_
  apply F.es
  have x6 := Sk s180 x6 nb1_11_b2
  have c186 := (Sb c157 s180 (fun kq e => (World.ownsRow.lt ho153 kq e).1))
  have rd187 := rd_sep rd158 s180 sp1_9_11
  apply h16
  refine Rq 3 ?_
  refine Fv (.int .i64 (i : Int)) ?_
  refine Fq (.int .i64 ((i + 1 : Nat) : Int)) (r_add (m := (i : Int)) (n := 1) (z := ((i + 1 : Nat) : Int)) rfl ek ek (by omega) (by omega)) ?_
  refine Fa (.int .i64 ((i + 1 : Nat) : Int)) ?_
  apply F.es
  exact h13 _ _ _ (by omega : (n - (i + 1)) < _) ⟨i + 1, (some ⟨g173, 0, none⟩), (n1_11 + 1), cap174, Kn.of, rfl, (by omega), (by omega), x6, ho185, (by rw [idxL_yes ((idxL_has (by omega : 0 ≤ (i : Int) ∧ (i : Int) < ps.length)).symm.trans q154)]; exact ho176), nb181, nr184, rd187, sp183, c186⟩
 refine Fq (.bool false) (r_lss (m := (i : Int)) (n := (n : Int)) rfl ek ek (df q147)) ?_
 apply F.es
 apply h15
 refine wp_cond_false ek ?_
 refine wp_exit ?_
 apply h11
 refine wk fun K18 h18 => ?_
 refine Rq 4 ?_
 refine Fv (.slice A0_10 n0_10 c0_10) ?_
 refine Fv (.slice A1_11 n1_11 c1_11) ?_
 refine Fa (.slice A0_10 n0_10 c0_10) ?_
 refine Fa (.slice A1_11 n1_11 c1_11) ?_
 apply F.es
 apply h18
 refine wp_ret ?_
 try simp only [Exit.then]
 refine ret2 (v := .slice A0_10 n0_10 c0_10) (x := .slice A1_11 n1_11 c1_11) rfl kk kk ?_
 exact ⟨_, _, _, _, _, _, rfl, own_rd ho1_10, own_fm ho1_10, (by rw [show ps.length = i by omega]; exact own_rd ho1_11), own_fm ho1_11, c146⟩
end Go.Proofs.Ytdbgfejeleafgaa
