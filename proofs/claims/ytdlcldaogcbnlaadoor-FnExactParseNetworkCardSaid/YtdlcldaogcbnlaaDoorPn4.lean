/- What the texts behind it build on; conditions: none. -/
import Derived.Test.YtdlcldaogcbnlaaDoorPn3
import Derived.ProofKit
import Derived.OpenShut
import Derived.Lib.SmallJoins
import Derived.Deep.Slices
import Derived.Deep.Fields
import Derived.Lib.LaidTab
import Derived.MakeChecks
import Derived.Deep.DeepHandedRow
import Derived.Deep.DeepWitnessRowRef
namespace Go.Proofs.YtdlcldaogcbnlaaDoor
open Go.RowKit
set_option linter.unusedVariables false
set_option linter.unusedSimpArgs false
def OraI (s : ByteArray) (i : Nat) (nd : Int) (pl : List Pp) : Prop := ∀ m ps, goodN m ps = true → textN m ps = s → (0 < i → nd = m) ∧ pl = ps.take (i - 1)
theorem oi_at {s x : ByteArray} {i : Nat} {m : Int} {ps : List Pp} (hx : (splitL s 10)[i + 1]? = some x) (hl : i + 2 < (splitL s 10).length) (hg : goodN m ps = true) (e : textN m ps = s) : ∃ h : i < ps.length, numsOf x 5 = [ps[i].id, ps[i].fr, ps[i].to, ps[i].sz] := by
  have hlen := ora_len e
  have hk : i < ps.length := by omega
  rw [← e, split_text, List.getElem?_cons_succ, List.getElem?_append_left (by rw [List.length_map]; omega), List.getElem?_map, List.getElem?_eq_getElem hk] at hx
  obtain rfl := Option.some.inj hx
  exact ⟨hk, nums_line (good_okP hg (List.getElem_mem hk))⟩
theorem oi_head {s x : ByteArray} {m : Int} {ps : List Pp} (hx : (splitL s 10)[0]? = some x) (hg : goodN m ps = true) (e : textN m ps = s) : numsOf x 5 = [m] := by
  rw [ora_first hx e]
  have g := good_of hg
  exact nums_head (by have := g.lo; have := g.hi; omega)
theorem oi_len {s x : ByteArray} {i : Nat} {m : Int} {ps : List Pp} (hx : (splitL s 10)[i]? = some x) (hl : i + 1 < (splitL s 10).length) (hg : goodN m ps = true) (e : textN m ps = s) : (i = 0 → (numsOf x 5).length = 1) ∧ (0 < i → (numsOf x 5).length = 4) := by
  refine ⟨fun h => ?_, fun h => ?_⟩
  · subst h; rw [oi_head hx hg e]; rfl
  · obtain ⟨k, rfl⟩ : ∃ k, i = k + 1 := ⟨i - 1, by omega⟩
    obtain ⟨_, h2⟩ := oi_at hx (by omega) hg e
    rw [h2]; rfl
theorem oi_start (s : ByteArray) : OraI s 0 0 [] := fun m ps _ _ => ⟨fun h => absurd h (by omega), by simp⟩
theorem oi_zero {s x : ByteArray} {x0 nd : Int} {pl : List Pp} {i : Nat} (h : OraI s i nd pl) (hi : i = 0) (hx : (splitL s 10)[i]? = some x) (h0 : (numsOf x 5)[0]? = some x0) : OraI s (i + 1) x0 pl := fun m ps hg e => by
  subst hi
  rw [oi_head hx hg e] at h0
  obtain rfl := Option.some.inj h0
  have := (h m ps hg e).2
  exact ⟨fun _ => rfl, by rw [this]⟩
theorem oi_next {s x : ByteArray} {x0 x1 x2 x3 nd : Int} {pl : List Pp} {i : Nat} (h : OraI s i nd pl) (hi : 0 < i) (hl : i + 1 < (splitL s 10).length) (hx : (splitL s 10)[i]? = some x) (h0 : (numsOf x 5)[0]? = some x0) (h1 : (numsOf x 5)[1]? = some x1) (h2 : (numsOf x 5)[2]? = some x2) (h3 : (numsOf x 5)[3]? = some x3) :
    OraI s (i + 1) nd (pl ++ [⟨x0, x1, x2, x3⟩]) := fun m ps hg e => by
  obtain ⟨k, rfl⟩ : ∃ k, i = k + 1 := ⟨i - 1, by omega⟩
  obtain ⟨hk, h9⟩ := oi_at hx (by omega) hg e
  obtain ⟨a, b⟩ := h m ps hg e
  rw [h9] at h0 h1 h2 h3
  obtain rfl := Option.some.inj h0
  obtain rfl := Option.some.inj h1
  obtain rfl := Option.some.inj h2
  obtain rfl := Option.some.inj h3
  refine ⟨fun _ => a (by omega), ?_⟩
  rw [b]
  show ps.take k ++ [ps[k]] = ps.take (k + 1)
  rw [List.take_add_one, List.getElem?_eq_getElem hk]; rfl
theorem oi_end {s : ByteArray} {i : Nat} {nd : Int} {pl : List Pp} (h : OraI s i nd pl) (hi : (splitL s 10).length ≤ i + 1) : ∀ m ps, goodN m ps = true → textN m ps = s → nd = m ∧ pl = ps := fun m ps hg e => by
  obtain ⟨h1, h3⟩ := h m ps hg e
  have := ora_len e
  exact ⟨h1 (by omega), by rw [h3, List.take_of_length_le (by omega)]⟩
theorem nums_le (s : ByteArray) (k : Nat) : (numsOf s k).length ≤ k := by unfold numsOf; rw [List.length_take]; omega
set_option maxRecDepth 100000 in
set_option maxHeartbeats 8000000 in
theorem ParseNetwork_impl (s : ByteArray) (w : World) (hs : s.size ≤ 1048576) (htab : Lib.TabIs Tryd.prog w "internal/strconv.uint64pow10" .u64 Lib.pow10Tab) (hmax : MaxIs w) :
    Calls Tryd.prog 7 #[.string s] w fun e w' => ∃ A' d, e = .returned (.tuple #[.agg #[.int .i64 (ParseNetwork_v0m s), .slice A' (ParseNetwork_v0 s).length d], .bool (ParseNetwork_v1 s)]) ∧ w'.ownsRow w.heap.size 38 4 (.slice A' (ParseNetwork_v0 s).length d) (ParseNetwork_v0 s).length (pipesV (ParseNetwork_v0 s)) ∧ Below w.heap.size w w' := by
 go_enter Tryd.func7, Tryd.ntmps7
 refine F.begin 81 [(0, .string s)] (fun U0 => ?_)
 refine wk fun K1 h1 => ?_
 refine W.region_plain (row := none) [(0, true), (1, false)] kk ?_
 have s1 := SG.self w none
 refine W.sn (fun b => .pointer (some ⟨b, 0, none⟩)) #[.int .i64 0, .slice none 0 0] 24 s1 rfl kk rfl (fun _ => by kernel_rfl) (fun b2 w3 hb4 k5 x6 s7 => ?_)
 apply F.nx
 have lo8 : w.heap.size ≤ b2 := Nl ((Sb (Below.refl _ _) s1 nkk)).size (Nat.le_of_eq hb4)
 refine Fa (.bool false) ?_
 apply F.es
 have c9 := (Sb (Below.refl _ _) s7 nkk)
 apply h1
 refine wk fun K2 h2 => ?_
 refine W.region_plain (row := none) [(0, false), (1, true), (2, false)] kk ?_
 have s10 := SG.self w3 none
 refine Fv (.string s) ?_
 have lb20 := (Nat.lt_of_lt_of_le (blk_lt x6) (s10).size)
 have z16 := ((Sb c9 s10 nkk)).size
 refine Fc [.string s, .string (⟨#[10]⟩ : ByteArray)] (split_lib s _ hs (max_kept hmax (Sb c9 s10 nkk))) ?_
 rintro e w22 ⟨A11, n12, c13, rfl, ho14, b21⟩
 have s23 := SG.of_below s10 b21
 refine ⟨_, rfl, s23, ?_⟩
 apply F.nx
 have ho15 := own_base (base' := w.heap.size) ho14 z16
 have hl18 := rd_strs_len (own_rd ho15)
 have hl18p := splitL_pos s 10
 have hl18q := splitL_len s 10
 obtain ⟨g19, rfl, _, _⟩ := own_addr ho15 (by omega)
 refine Fa (.slice (some ⟨g19, 0, none⟩) n12 c13) ?_
 apply F.es
 have x6 := Sk s23 x6 onn
 have c25 := (Sb c9 s23 nkk)
 apply h2
 refine wk fun K3 h3 => ?_
 refine wk fun K4 h4 => ?_
 refine Rq 3 ?_
 refine Fv (.slice (some ⟨g19, 0, none⟩) n12 c13) ?_
 refine Fq (.int .i64 (n12 : Int)) (r_len (A := (some ⟨g19, 0, none⟩)) (n := n12) (c := c13) rfl ek kk) ?_
 by_cases q26 : ((n12 : Int) : Int) > (12 : Int)
 ·refine Fq (.bool true) (r_gtr (m := (n12 : Int)) (n := 12) rfl ek ek (dt q26)) ?_
  apply F.es
  apply h4
  refine wp_cond_true ek ?_
  refine wk fun K5 h5 => ?_
  refine W.region_plain (row := (some b2)) [(0, false), (1, true), (2, false)] kk ?_
  have s27 := SG.self w22 (some b2)
  refine Fq (.agg #[.int .i64 0, .slice none 0 0]) (r_build rfl (vs := []) kk kk) ?_
  refine W.ss (v := .agg #[.int .i64 0, .slice none 0 0]) (j := 0) (news := [.int .i64 0, .slice none 0 0]) (cs' := #[.int .i64 0, .slice none 0 0]) s27 rfl kk rfl rfl kk kk x6 kk kk (by simp) kk kk (.inl rfl) (fun w28 g29 x30 s31 => ?_)
  refine Fa (.bool false) ?_
  apply F.es
  have c33 := (Sb c25 s31 (fun kq e => by cases e; exact lo8))
  apply h5
  refine wp_ret ?_
  try simp only [Exit.then]
  refine retCT (x := .bool false) rfl kk kk kk kk x30 ?_
  have hpn := pn_no (s := s) (fun m ps h1 h2 => by have h9 := (good_of h1).len; have h8 := ora_len h2; omega)
  exact fin_net (zs := []) (World.ownsRow_nil _ _ _ _) hpn.2.2.symm hpn.2.1.symm hpn.1.symm c33
 refine Fq (.bool false) (r_gtr (m := (n12 : Int)) (n := 12) rfl ek ek (df q26)) ?_
 apply F.es
 apply h4
 as_aux_lemma =>
  refine wp_cond_false ek ?_
  apply wp_skip
  apply h3
  refine wk fun K6 h6 => ?_
  refine W.region_plain (row := none) [(0, true), (1, false), (2, true), (3, true)] kk ?_
  have s34 := SG.self w22 none
  refine W.sn (fun b => .slice (some ⟨b, 0, none⟩) 0 0) #[] 38 s34 rfl kk rfl (fun _ => by kernel_rfl) (fun b35 w36 hb37 k38 x39 s40 => ?_)
  apply F.nx
  have lo41 : w.heap.size ≤ b35 := Nl ((Sb c25 s34 nkk)).size (Nat.le_of_eq hb37)
  have ne42 : b2 ≠ b35 := Nat.ne_of_lt (Nat.lt_of_lt_of_eq (Nat.lt_of_lt_of_le (blk_lt x6) (s34).size) hb37)
  have nb43 : Nb b35 (.slice (some ⟨g19, 0, none⟩) n12 c13) := nb_hi ho15 (Nat.le_of_eq hb37)
  have ho44 := own_kept ho15 k38
  refine Fq (.agg #[.int .i64 0, .slice (some ⟨b35, 0, none⟩) 0 0]) (r_build rfl (vs := [(1, .slice (some ⟨b35, 0, none⟩) 0 0)]) kk kk) ?_
  refine W.sn (fun b => .pointer (some ⟨b, 0, none⟩)) #[.int .i64 0, .slice none 0 0] 24 s40 rfl kk rfl (fun _ => by kernel_rfl) (fun b45 w46 hb47 k48 x49 s50 => ?_)
  apply F.nx
  have lo51 : w.heap.size ≤ b45 := Nl ((Sb c25 s40 nkk)).size (Nat.le_of_eq hb47)
  have ne52 : b2 ≠ b45 := Nat.ne_of_lt (Nat.lt_of_lt_of_eq (Nat.lt_of_lt_of_le (blk_lt x6) (s40).size) hb47)
  have ne53 : b35 ≠ b45 := Nat.ne_of_lt (Nat.lt_of_lt_of_eq (blk_lt x39) hb47)
  have nb54 : Nb b45 (.slice (some ⟨g19, 0, none⟩) n12 c13) := nb_hi ho44 (Nat.le_of_eq hb47)
  have x39 := (k48.block _ (blk_lt x39)).trans x39
  have ho55 := own_kept ho44 k48
  refine W.ss (v := .agg #[.int .i64 0, .slice (some ⟨b35, 0, none⟩) 0 0]) (j := 0) (news := [.int .i64 0, .slice (some ⟨b35, 0, none⟩) 0 0]) (cs' := #[.int .i64 0, .slice (some ⟨b35, 0, none⟩) 0 0]) s50 rfl kk rfl rfl kk kk x49 kk kk (by simp) kk kk (.inr (Nl (s40).size (Nat.le_of_eq hb47))) (fun w56 g57 x58 s59 => ?_)
  have x39 := (g57.block _ (blk_lt x39) (fun e9 => ne53 (Option.some.inj e9))).trans x39
  have ho60 := own_grown ho55 g57 (fun j e1 e2 => by cases e2; exact nb54 e1.symm)
  apply F.es
  have x6 := Sk s59 x6 onn
  have c61 := (Sb c25 s59 nkk)
  apply h6
  refine wk fun K7 h7 => ?_
  refine wk fun K8 h8 => ?_
  refine Rq 7 ?_
  refine Fv (.slice (some ⟨g19, 0, none⟩) n12 c13) ?_
  refine Fv (.slice (some ⟨g19, 0, none⟩) n12 c13) ?_
  refine Fq (.int .i64 (n12 : Int)) (r_len (A := (some ⟨g19, 0, none⟩)) (n := n12) (c := c13) rfl ek kk) ?_
  refine Fq (.int .i64 (((n12 - 1) : Nat) : Int)) (r_sub (m := (n12 : Int)) (n := 1) (z := (((n12 - 1) : Nat) : Int)) rfl ek ek (by omega) (by omega)) ?_
  have fm62 := own_fm ho60
  refine Fq (.slice (some ⟨g19, 0, none⟩) (n12 - 1) c13) (r_sliceTo (A := (some ⟨g19, 0, none⟩)) (n := n12) (c := c13) (k := (n12 - 1)) (size := 1) rfl ek ek kk (by have := (fm62).le; omega)) ?_
  refine Fq (.int .i64 (((n12 - 1) : Nat) : Int)) (r_len (A := (some ⟨g19, 0, none⟩)) (n := (n12 - 1)) (c := c13) rfl ek kk) ?_
  refine Fv (.int .i64 0) ?_
  apply F.es
  apply h8
  refine wp_block ?_
  have ho63 := own_empty (base := w.heap.size) (size := 4) x39 lo41
  replace ho63 : World.ownsRow _ _ _ _ _ _ (pipesV []) := ho63
  have nr64 : NbR (.slice (some ⟨b35, 0, none⟩) 0 0) (.slice (some ⟨g19, 0, none⟩) n12 c13) := nbr_new nb43
  have nb65 : Nb b2 (.slice (some ⟨b35, 0, none⟩) 0 0) := nb_new ne42
  have nb66 : Nb b45 (.slice (some ⟨b35, 0, none⟩) 0 0) := nb_new (Ne.symm ne53)
  refine loopK (fun am0 aa0 wl0 => ∃ (i : Nat) (nd : Int) (pl : List Pp) (A0_c5_1 : Option Addr) (n0_c5_1 : Nat) (c0_c5_1 : Nat) , Kn aa0 [(0, .string s), (2, .pointer (some ⟨b2, 0, none⟩)), (3, .bool false), (4, .slice (some ⟨g19, 0, none⟩) n12 c13), (5, .pointer (some ⟨b45, 0, none⟩)), (13, .bool false), (21, .slice (some ⟨g19, 0, none⟩) (n12 - 1) c13), (22, .int .i64 (((n12 - 1) : Nat) : Int)), (23, .int .i64 (i : Int))] 81 ∧ (am0 = (splitL s 10).length - i) ∧ (i + 1 ≤ (splitL s 10).length) ∧ (pl.length = i - 1) ∧ (OraI s i nd pl) ∧ (wl0.heap[b2]? = some (.cells #[.int .i64 0, .slice none 0 0] 24 (0, 0))) ∧ (wl0.heap[b45]? = some (.cells #[.int .i64 nd, .slice A0_c5_1 n0_c5_1 c0_c5_1] 24 (0, 0))) ∧ (wl0.ownsRow w.heap.size 9 1 (.slice (some ⟨g19, 0, none⟩) n12 c13) n12 (strsV (splitL s 10))) ∧ (wl0.ownsRow w.heap.size 38 4 (.slice A0_c5_1 n0_c5_1 c0_c5_1) n0_c5_1 (pipesV pl)) ∧ (Nb b2 (.slice A0_c5_1 n0_c5_1 c0_c5_1)) ∧ (Nb b45 (.slice A0_c5_1 n0_c5_1 c0_c5_1)) ∧ (NbR (.slice A0_c5_1 n0_c5_1 c0_c5_1) (.slice (some ⟨g19, 0, none⟩) n12 c13)) ∧ (Below w.heap.size w wl0)) ((splitL s 10).length - 0) ?_ ?_
  ·exact ⟨0, 0, [], (some ⟨b35, 0, none⟩), 0, 0, Kn.of, rfl, (by omega), rfl, (oi_start s), x6, x58, ho60, ho63, nb65, nb66, nr64, c61⟩
  rintro am0 aa0 wl0 K9 h9 ⟨i, nd, pl, A0_c5_1, n0_c5_1, c0_c5_1, ⟨U0, rfl⟩, rfl, hi, hpl, hor, x6, x58, ho0_4, ho0_c5_1, nb0_c5_1_b2, nb0_c5_1_b45, nr0_1_0, c67⟩
  have hl9 := rd_pipes_len (own_rd ho0_c5_1)
  refine wk fun K10 h10 => ?_
  refine Rq 1 ?_
  by_cases q68 : ((i : Int) : Int) < ((((n12 - 1) : Nat) : Int) : Int)
  ·refine Fq (.bool true) (r_lss (m := (i : Int)) (n := (((n12 - 1) : Nat) : Int)) rfl ek ek (dt q68)) ?_
   apply F.es
   apply h10
   refine wk fun K11 h11 => ?_
   refine wp_cond_true ek ?_
   apply wp_skip
   apply h11
   as_aux_lemma =>
    refine wk fun K12 h12 => ?_
    refine wp_block ?_
    refine wk fun K13 h13 => ?_
    refine Rq 5 ?_
    refine Fv (.int .i64 (i : Int)) ?_
    refine Fq (.pointer (some ⟨g19, i, none⟩)) (r_idx0 (n := (n12 - 1)) (c := c13) (k := i) rfl ek kk kk (by omega)) ?_
    obtain ⟨x69, hx70⟩ := get_of (zs := (splitL s 10)) (k := i) (by have h9 := own_len ho0_4; rw [strs_len] at h9; omega)
    have hx69 := split_part (c := 10) (by omega) hx70
    refine Fl (.string x69) (eqS (own_atS ho0_4 hx70)) ?_
    refine Fa (.int .i64 (i : Int)) ?_
    refine Fa (.string x69) ?_
    apply F.es
    apply h13
    refine wk fun K14 h14 => ?_
    refine W.region_plain (row := none) [(0, false), (1, true), (2, false)] kk ?_
    have s71 := SG.self wl0 none
    refine Fv (.string x69) ?_
    have lb81 := (Nat.lt_of_lt_of_le (blk_lt x6) (s71).size)
    have lb82 := (Nat.lt_of_lt_of_le (blk_lt x58) (s71).size)
    have z77 := ((Sb c67 s71 nkk)).size
    refine Fc [.string x69, .int .i64 5] (numbersOf_any x69 5 _ (by omega) (by omega)) ?_
    rintro e w84 ⟨A72, _, c74, rfl, ho75, rfl, b83⟩
    have s85 := SG.of_below s71 b83
    refine ⟨_, rfl, s85, ?_⟩
    apply F.nx
    have ho86 := own_kept ho0_4 b83
    have ho87 := own_kept ho0_c5_1 b83
    have ho76 := own_base (base' := w.heap.size) ho75 z77
    have hl79 := rd_ints_len (own_rd ho76)
    have hl79n := nums_le x69 5
    have nb89 : Nb b45 (.slice A72 ((numsOf x69 5).length) c74) := nb_lo ho75 lb82
    have nr91 : NbR (.slice A72 ((numsOf x69 5).length) c74) (.slice A0_c5_1 n0_c5_1 c0_c5_1) := fun j e1 e2 => by have h8 := (World.ownsRow.lt ho75 j e1).1; have h9 := (World.ownsRow.lt ho0_c5_1 j e2).2; omega
    have rd93 := own_rd ho76
    have hl94 := rd_ints_len rd93
    have sp97 := sp_of_nbr (n := (numsOf x69 5).length) nr91
    have sp99 := sp_of_nb (n := (numsOf x69 5).length) nb89
    refine Fa (.slice A72 ((numsOf x69 5).length) c74) ?_
    apply F.es
    have x6 := Sk s85 x6 onn
    have x58 := Sk s85 x58 onn
    have c100 := (Sb c67 s85 nkk)
    apply h14
    refine wp_block ?_
    refine wk fun K15 h15 => ?_
    refine Rq 8 ?_
    refine Fv (.int .i64 (i : Int)) ?_
    by_cases q101 : ((i : Int) : Int) = (0 : Int)
    ·refine Fq (.bool true) (r_eql (m := (i : Int)) (n := 0) rfl ek ek (dt q101)) ?_
     refine Fv (.bool true) ?_
     refine Fv (.slice A72 ((numsOf x69 5).length) c74) ?_
     refine Fq (.int .i64 (((numsOf x69 5).length : Nat) : Int)) (r_len (A := A72) (n := (numsOf x69 5).length) (c := c74) rfl ek kk) ?_
     by_cases q102 : ((((numsOf x69 5).length : Nat) : Int) : Int) = (1 : Int)
     ·refine Fq (.bool true) (r_eql (m := (((numsOf x69 5).length : Nat) : Int)) (n := 1) rfl ek ek (dt q102)) ?_
      refine Fq (.bool true) (r_pick (b := true) rfl ek ek) ?_
      refine Fa (.bool true) ?_
      apply F.es
      apply h15
      as_aux_lemma =>
       refine wp_cond_true ek ?_
       refine W.region_plain (row := (some b45)) [(0, false), (1, false), (2, false), (3, false), (4, true)] kk ?_
       have s103 := SG.self w84 (some b45)
       refine Fv (.slice A72 ((numsOf x69 5).length) c74) ?_
       obtain ⟨x104, hx105⟩ := get_of (zs := (numsOf x69 5)) (k := 0) (by have := hl94; omega)
       obtain ⟨b106, o107, hA108, hb109, hc110⟩ := Rd.elInt rd93 hx105
       refine Fq (.pointer (some ⟨b106, o107 + 0, none⟩)) (r_idx1 (n := (numsOf x69 5).length) (c := c74) (k := 0) rfl ek hA108 kk kk (by have := hl94; omega)) ?_
       refine Fl (.int .i64 x104) (sgS hc110 (sp99 (by omega) _ _ hA108)) ?_
       refine Fq (.pointer (some ⟨b45, 0, none⟩)) (r_field0 rfl ek kk) ?_
       refine W.ss (v := .int .i64 x104) (j := 0) (news := [.int .i64 x104]) (cs' := #[.int .i64 x104, .slice A0_c5_1 n0_c5_1 c0_c5_1]) s103 rfl kk rfl rfl kk kk x58 kk kk (by simp) kk kk (.inl rfl) (fun w111 g112 x113 s114 => ?_)
       have ho115 := own_grown ho86 g112 (fun j e1 e2 => by cases e2; exact nb54 e1.symm)
       have ho116 := own_grown ho87 g112 (fun j e1 e2 => by cases e2; exact nb0_c5_1_b45 e1.symm)
       apply F.es
       have x6 := Sk s114 x6 (fun e9 => ne52 (Option.some.inj e9))
       have c117 := (Sb c100 s114 (fun kq e => by cases e; exact lo51))
       apply h12
       refine Rq 2 ?_
       refine Fq (.int .i64 ((i + 1 : Nat) : Int)) (r_add (m := (i : Int)) (n := 1) (z := ((i + 1 : Nat) : Int)) rfl ek ek (by omega) (by omega)) ?_
       refine Fv (.int .i64 ((i + 1 : Nat) : Int)) ?_
       apply F.es
       exact h9 _ _ _ (by omega : ((splitL s 10).length - (i + 1)) < _) ⟨i + 1, x104, pl, A0_c5_1, n0_c5_1, c0_c5_1, Kn.of, rfl, (by omega), (by (try rw [List.length_append, List.length_singleton]); omega), (oi_zero hor (by omega) hx70 hx105), x6, x113, ho115, ho116, nb0_c5_1_b2, nb0_c5_1_b45, nr0_1_0, c117⟩
     refine Fq (.bool false) (r_eql (m := (((numsOf x69 5).length : Nat) : Int)) (n := 1) rfl ek ek (df q102)) ?_
     refine Fq (.bool false) (r_pick (b := true) rfl ek ek) ?_
     refine Fa (.bool false) ?_
     apply F.es
     apply h15
     refine wp_cond_false ek ?_
     refine wk fun K16 h16 => ?_
     refine Rq 8 ?_
     refine Fv (.int .i64 (i : Int)) ?_
     by_cases q119 : ((i : Int) : Int) > (0 : Int)
     ·refine Fq (.bool true) (r_gtr (m := (i : Int)) (n := 0) rfl ek ek (dt q119)) ?_
      refine Fv (.bool true) ?_
      refine Fv (.slice A72 ((numsOf x69 5).length) c74) ?_
      refine Fq (.int .i64 (((numsOf x69 5).length : Nat) : Int)) (r_len (A := A72) (n := (numsOf x69 5).length) (c := c74) rfl ek kk) ?_
      by_cases q120 : ((((numsOf x69 5).length : Nat) : Int) : Int) = (4 : Int)
      ·refine Fq (.bool true) (r_eql (m := (((numsOf x69 5).length : Nat) : Int)) (n := 4) rfl ek ek (dt q120)) ?_
       refine Fq (.bool true) (r_pick (b := true) rfl ek ek) ?_
       refine Fa (.bool true) ?_
       apply F.es
       apply h16
       refine wp_cond_true ek ?_
       refine M.region_sch (row := [(Value.ownBlock (.slice A0_c5_1 n0_c5_1 c0_c5_1)), (some b45)]) (Sch.app [(0, false), (2, false), (3, false), (4, false), (5, false), (6, false), (7, false), (8, false), (9, false), (10, false), (11, false), (12, false), (13, false), (14, false)] (.br 1 15 (Sch.of [(15, true), (16, true), (17, false), (18, true)]) (Sch.of [(1, true), (16, true), (17, false), (18, true)]))) kk kk (fun _ d _ _ _ h => by cases d <;> exact h) kk (fun w121 e122 s123 => ?_)
       have ho124 := own_heap ho86 e122
       have ho125 := own_heap ho87 e122
       have x126 := (heap_same e122 x58)
       refine Fq (.pointer (some ⟨b45, 1, none⟩)) (r_field (k := 1) rfl ek kk) ?_
       refine Fv (.slice A72 ((numsOf x69 5).length) c74) ?_
       obtain ⟨x127, hx128⟩ := get_of (zs := (numsOf x69 5)) (k := 0) (by have := hl94; omega)
       obtain ⟨b129, o130, hA131, hb132, hc133⟩ := Rd.elInt rd93 hx128
       refine Fq (.pointer (some ⟨b129, o130 + 0, none⟩)) (r_idx1 (n := (numsOf x69 5).length) (c := c74) (k := 0) rfl ek hA131 kk kk (by have := hl94; omega)) ?_
       refine Fl (.int .i64 x127) (smS hc133 (ne2 (sp97 (by omega) _ _ hA131) (sp99 (by omega) _ _ hA131))) ?_
       refine Fv (.slice A72 ((numsOf x69 5).length) c74) ?_
       obtain ⟨x134, hx135⟩ := get_of (zs := (numsOf x69 5)) (k := 1) (by have := hl94; omega)
       obtain ⟨b136, o137, hA138, hb139, hc140⟩ := Rd.elInt rd93 hx135
       refine Fq (.pointer (some ⟨b136, o137 + 1, none⟩)) (r_idx1 (n := (numsOf x69 5).length) (c := c74) (k := 1) rfl ek hA138 kk kk (by have := hl94; omega)) ?_
       refine Fl (.int .i64 x134) (smS hc140 (ne2 (sp97 (by omega) _ _ hA138) (sp99 (by omega) _ _ hA138))) ?_
       refine Fv (.slice A72 ((numsOf x69 5).length) c74) ?_
       obtain ⟨x141, hx142⟩ := get_of (zs := (numsOf x69 5)) (k := 2) (by have := hl94; omega)
       obtain ⟨b143, o144, hA145, hb146, hc147⟩ := Rd.elInt rd93 hx142
       refine Fq (.pointer (some ⟨b143, o144 + 2, none⟩)) (r_idx1 (n := (numsOf x69 5).length) (c := c74) (k := 2) rfl ek hA145 kk kk (by have := hl94; omega)) ?_
       refine Fl (.int .i64 x141) (smS hc147 (ne2 (sp97 (by omega) _ _ hA145) (sp99 (by omega) _ _ hA145))) ?_
       refine Fv (.slice A72 ((numsOf x69 5).length) c74) ?_
       obtain ⟨x148, hx149⟩ := get_of (zs := (numsOf x69 5)) (k := 3) (by have := hl94; omega)
       obtain ⟨b150, o151, hA152, hb153, hc154⟩ := Rd.elInt rd93 hx149
       refine Fq (.pointer (some ⟨b150, o151 + 3, none⟩)) (r_idx1 (n := (numsOf x69 5).length) (c := c74) (k := 3) rfl ek hA152 kk kk (by have := hl94; omega)) ?_
       refine Fl (.int .i64 x148) (smS hc154 (ne2 (sp97 (by omega) _ _ hA152) (sp99 (by omega) _ _ hA152))) ?_
       refine Fq (.agg #[.int .i64 x127, .int .i64 x134, .int .i64 x141, .int .i64 x148]) (r_build rfl (vs := [(0, .int .i64 x127), (1, .int .i64 x134), (2, .int .i64 x141), (3, .int .i64 x148)]) kk kk) ?_
       refine W.sbr ?_ ?_
       ·refine W.slq (v := .slice A0_c5_1 n0_c5_1 c0_c5_1) s123 rfl (r_load rfl kk kk (eqS (blk_cell (j := 1) x126 kk))) kk rfl ?_
        apply F.nx
        refine M.sn (fun b => .slice (some ⟨b, 0, none⟩) 1 1) #[.int .i64 x127, .int .i64 x134, .int .i64 x141, .int .i64 x148] 38 s123 rfl kk rfl (fun _ => by kernel_rfl) (fun b155 w156 hb157 k158 x159 s160 => ?_)
        apply F.nx
        have lo161 : w.heap.size ≤ b155 := Nl ((SM.belowR c100 s123 (in2 (fun kq e => (World.ownsRow.lt ho87 kq e).1) (fun kq e => (by cases e; exact lo51))))).size (Nat.le_of_eq hb157)
        have x126 := (k158.block _ (blk_lt x126)).trans x126
        have ho167 := own_kept ho124 k158
        have ho168 := own_kept ho125 k158
        refine M.sap (e := 38) (size := 4) (base := w.heap.size) (m := 1) (v := .slice A0_c5_1 n0_c5_1 c0_c5_1) (c := 1) s160 rfl rfl rfl rfl kk kk kk ho168 x159 kk kk (by omega) (by omega) (by have := ((SM.belowR c100 s160 (in2 (fun kq e => (World.ownsRow.lt ho87 kq e).1) (fun kq e => (by cases e; exact lo51))))).size; omega) (.inl (by simp)) (fun g169 cap170 w171 ho172 hg173 hat174 hlt175 s176 => ?_)
        apply F.nx
        have nb177 : Nb b2 (.slice (some ⟨g169, 0, none⟩) (n0_c5_1 + 1) cap170) := nb_app nb0_c5_1_b2 (Nat.lt_of_lt_of_le (blk_lt x6) (s160).size) hat174
        have nb178 : Nb b45 (.slice (some ⟨g169, 0, none⟩) (n0_c5_1 + 1) cap170) := nb_app nb0_c5_1_b45 (blk_lt x126) hat174
        have x126 := (hg173.block _ (blk_lt x126) nb0_c5_1_b45).trans x126
        have ho172 := own_snocP (x := (Pp.mk x127 x134 x141 x148)) ho172
        have nr181 : NbR (.slice (some ⟨g169, 0, none⟩) (n0_c5_1 + 1) cap170) (.slice (some ⟨g19, 0, none⟩) n12 c13) := nbr_app nr0_1_0 (fun j h => (World.ownsRow.lt ho167 j h).2) (hat3 (v := .slice A0_c5_1 n0_c5_1 c0_c5_1) hat174)
        have ho182 := own_grown ho167 hg173 (NbR.symm nr0_1_0)
        refine Fq (.pointer (some ⟨b45, 1, none⟩)) (r_field (k := 1) rfl ek kk) ?_
        refine M.ss (v := .slice (some ⟨g169, 0, none⟩) (n0_c5_1 + 1) cap170) (j := 1) (news := [.slice (some ⟨g169, 0, none⟩) (n0_c5_1 + 1) cap170]) (cs' := #[.int .i64 nd, .slice (some ⟨g169, 0, none⟩) (n0_c5_1 + 1) cap170]) s176 rfl kk rfl rfl kk kk x126 kk kk (by simp) kk kk (.inl (by simp)) (fun w183 g184 x185 s186 => ?_)
        have ho187 := own_grown ho182 g184 (fun j e1 e2 => by cases e2; exact nb54 e1.symm)
        have ho188 := own_grown ho172 g184 (fun j e1 e2 => by cases e2; exact nb178 e1.symm)
        apply F.es
        have x6 := SM.blk s186 x6 (ne2 nb0_c5_1_b2 (fun e9 => ne52 (Option.some.inj e9)))
        have c189 := (SM.belowR c100 s186 (in2 (fun kq e => (World.ownsRow.lt ho87 kq e).1) (fun kq e => (by cases e; exact lo51))))
        apply h12
        as_aux_lemma =>
         refine Rq 2 ?_
         refine Fq (.int .i64 ((i + 1 : Nat) : Int)) (r_add (m := (i : Int)) (n := 1) (z := ((i + 1 : Nat) : Int)) rfl ek ek (by omega) (by omega)) ?_
         refine Fv (.int .i64 ((i + 1 : Nat) : Int)) ?_
         apply F.es
         exact h9 _ _ _ (by omega : ((splitL s 10).length - (i + 1)) < _) ⟨i + 1, nd, (pl ++ [(Pp.mk x127 x134 x141 x148)]), (some ⟨g169, 0, none⟩), (n0_c5_1 + 1), cap170, Kn.of, rfl, (by omega), (by (try rw [List.length_append, List.length_singleton]); omega), (oi_next hor (by omega) (by omega) hx70 hx128 hx135 hx142 hx149), x6, x185, ho187, ho188, nb177, nb178, nr181, c189⟩
       refine M.sn (fun b => .slice (some ⟨b, 0, none⟩) 1 1) #[.int .i64 x127, .int .i64 x134, .int .i64 x141, .int .i64 x148] 38 s123 rfl kk rfl (fun _ => by kernel_rfl) (fun b191 w192 hb193 k194 x195 s196 => ?_)
       apply F.nx
       have lo197 : w.heap.size ≤ b191 := Nl ((SM.belowR c100 s123 (in2 (fun kq e => (World.ownsRow.lt ho87 kq e).1) (fun kq e => (by cases e; exact lo51))))).size (Nat.le_of_eq hb193)
       have x126 := (k194.block _ (blk_lt x126)).trans x126
       have ho203 := own_kept ho124 k194
       have ho204 := own_kept ho125 k194
       refine W.slq (v := .slice A0_c5_1 n0_c5_1 c0_c5_1) s196 rfl (r_load rfl kk kk (eqS (blk_cell (j := 1) x126 kk))) kk rfl ?_
       apply F.nx
       refine M.sap (e := 38) (size := 4) (base := w.heap.size) (m := 1) (v := .slice A0_c5_1 n0_c5_1 c0_c5_1) (c := 1) s196 rfl rfl rfl rfl kk kk kk ho204 x195 kk kk (by omega) (by omega) (by have := ((SM.belowR c100 s196 (in2 (fun kq e => (World.ownsRow.lt ho87 kq e).1) (fun kq e => (by cases e; exact lo51))))).size; omega) (.inl (by simp)) (fun g205 cap206 w207 ho208 hg209 hat210 hlt211 s212 => ?_)
       apply F.nx
       have nb213 : Nb b2 (.slice (some ⟨g205, 0, none⟩) (n0_c5_1 + 1) cap206) := nb_app nb0_c5_1_b2 (Nat.lt_of_lt_of_le (blk_lt x6) (s196).size) hat210
       have nb214 : Nb b45 (.slice (some ⟨g205, 0, none⟩) (n0_c5_1 + 1) cap206) := nb_app nb0_c5_1_b45 (blk_lt x126) hat210
       have x126 := (hg209.block _ (blk_lt x126) nb0_c5_1_b45).trans x126
       have ho208 := own_snocP (x := (Pp.mk x127 x134 x141 x148)) ho208
       have nr217 : NbR (.slice (some ⟨g205, 0, none⟩) (n0_c5_1 + 1) cap206) (.slice (some ⟨g19, 0, none⟩) n12 c13) := nbr_app nr0_1_0 (fun j h => (World.ownsRow.lt ho203 j h).2) (hat3 (v := .slice A0_c5_1 n0_c5_1 c0_c5_1) hat210)
       have ho218 := own_grown ho203 hg209 (NbR.symm nr0_1_0)
       refine Fq (.pointer (some ⟨b45, 1, none⟩)) (r_field (k := 1) rfl ek kk) ?_
       refine M.ss (v := .slice (some ⟨g205, 0, none⟩) (n0_c5_1 + 1) cap206) (j := 1) (news := [.slice (some ⟨g205, 0, none⟩) (n0_c5_1 + 1) cap206]) (cs' := #[.int .i64 nd, .slice (some ⟨g205, 0, none⟩) (n0_c5_1 + 1) cap206]) s212 rfl kk rfl rfl kk kk x126 kk kk (by simp) kk kk (.inl (by simp)) (fun w219 g220 x221 s222 => ?_)
       have ho223 := own_grown ho218 g220 (fun j e1 e2 => by cases e2; exact nb54 e1.symm)
       have ho224 := own_grown ho208 g220 (fun j e1 e2 => by cases e2; exact nb214 e1.symm)
       apply F.es
       have x6 := SM.blk s222 x6 (ne2 nb0_c5_1_b2 (fun e9 => ne52 (Option.some.inj e9)))
       have c225 := (SM.belowR c100 s222 (in2 (fun kq e => (World.ownsRow.lt ho87 kq e).1) (fun kq e => (by cases e; exact lo51))))
       apply h12
       refine Rq 2 ?_
       refine Fq (.int .i64 ((i + 1 : Nat) : Int)) (r_add (m := (i : Int)) (n := 1) (z := ((i + 1 : Nat) : Int)) rfl ek ek (by omega) (by omega)) ?_
       refine Fv (.int .i64 ((i + 1 : Nat) : Int)) ?_
       apply F.es
       exact h9 _ _ _ (by omega : ((splitL s 10).length - (i + 1)) < _) ⟨i + 1, nd, (pl ++ [(Pp.mk x127 x134 x141 x148)]), (some ⟨g205, 0, none⟩), (n0_c5_1 + 1), cap206, Kn.of, rfl, (by omega), (by (try rw [List.length_append, List.length_singleton]); omega), (oi_next hor (by omega) (by omega) hx70 hx128 hx135 hx142 hx149), x6, x221, ho223, ho224, nb213, nb214, nr217, c225⟩
      refine Fq (.bool false) (r_eql (m := (((numsOf x69 5).length : Nat) : Int)) (n := 4) rfl ek ek (df q120)) ?_
      refine Fq (.bool false) (r_pick (b := true) rfl ek ek) ?_
      refine Fa (.bool false) ?_
      apply F.es
      apply h16
      refine wp_cond_false ek ?_
      refine wk fun K17 h17 => ?_
      refine W.region_plain (row := (some b2)) [(0, false), (1, true), (2, false)] kk ?_
      have s227 := SG.self w84 (some b2)
      refine Fq (.agg #[.int .i64 0, .slice none 0 0]) (r_build rfl (vs := []) kk kk) ?_
      refine W.ss (v := .agg #[.int .i64 0, .slice none 0 0]) (j := 0) (news := [.int .i64 0, .slice none 0 0]) (cs' := #[.int .i64 0, .slice none 0 0]) s227 rfl kk rfl rfl kk kk x6 kk kk (by simp) kk kk (.inl rfl) (fun w228 g229 x230 s231 => ?_)
      refine Fa (.bool false) ?_
      apply F.es
      have x58 := Sk s231 x58 (fun e9 => ne52 (Option.some.inj e9).symm)
      have c234 := (Sb c100 s231 (fun kq e => by cases e; exact lo8))
      apply h17
      as_aux_lemma =>
       refine wp_ret ?_
       try simp only [Exit.then, Exit.inBlock]
       refine retCT (x := .bool false) rfl kk kk kk kk x230 ?_
       have hpn := pn_no (s := s) (fun m ps h1 h2 => by have h9 := oi_len hx70 (by omega) h1 h2; omega)
       exact fin_net (zs := []) (World.ownsRow_nil _ _ _ _) hpn.2.2.symm hpn.2.1.symm hpn.1.symm c234
     refine Fq (.bool false) (r_gtr (m := (i : Int)) (n := 0) rfl ek ek (df q119)) ?_
     refine Fv (.bool false) ?_
     refine Fs rfl ?_
     refine Fs rfl ?_
     refine Fs rfl ?_
     refine Fq (.bool false) (r_pick (b := false) rfl ek ek) ?_
     refine Fa (.bool false) ?_
     apply F.es
     apply h16
     refine wp_cond_false ek ?_
     refine wk fun K18 h18 => ?_
     refine W.region_plain (row := (some b2)) [(0, false), (1, true), (2, false)] kk ?_
     have s236 := SG.self w84 (some b2)
     refine Fq (.agg #[.int .i64 0, .slice none 0 0]) (r_build rfl (vs := []) kk kk) ?_
     refine W.ss (v := .agg #[.int .i64 0, .slice none 0 0]) (j := 0) (news := [.int .i64 0, .slice none 0 0]) (cs' := #[.int .i64 0, .slice none 0 0]) s236 rfl kk rfl rfl kk kk x6 kk kk (by simp) kk kk (.inl rfl) (fun w237 g238 x239 s240 => ?_)
     refine Fa (.bool false) ?_
     apply F.es
     have x58 := Sk s240 x58 (fun e9 => ne52 (Option.some.inj e9).symm)
     have c243 := (Sb c100 s240 (fun kq e => by cases e; exact lo8))
     apply h18
     refine wp_ret ?_
     try simp only [Exit.then, Exit.inBlock]
     refine retCT (x := .bool false) rfl kk kk kk kk x239 ?_
     have hpn := pn_no (s := s) (fun m ps h1 h2 => by have h9 := oi_len hx70 (by omega) h1 h2; omega)
     exact fin_net (zs := []) (World.ownsRow_nil _ _ _ _) hpn.2.2.symm hpn.2.1.symm hpn.1.symm c243
    refine Fq (.bool false) (r_eql (m := (i : Int)) (n := 0) rfl ek ek (df q101)) ?_
    refine Fv (.bool false) ?_
    refine Fs rfl ?_
    refine Fs rfl ?_
    refine Fs rfl ?_
    refine Fq (.bool false) (r_pick (b := false) rfl ek ek) ?_
    refine Fa (.bool false) ?_
    apply F.es
    apply h15
    refine wp_cond_false ek ?_
    refine wk fun K19 h19 => ?_
    refine Rq 8 ?_
    refine Fv (.int .i64 (i : Int)) ?_
    by_cases q245 : ((i : Int) : Int) > (0 : Int)
    ·refine Fq (.bool true) (r_gtr (m := (i : Int)) (n := 0) rfl ek ek (dt q245)) ?_
     refine Fv (.bool true) ?_
     refine Fv (.slice A72 ((numsOf x69 5).length) c74) ?_
     refine Fq (.int .i64 (((numsOf x69 5).length : Nat) : Int)) (r_len (A := A72) (n := (numsOf x69 5).length) (c := c74) rfl ek kk) ?_
     by_cases q246 : ((((numsOf x69 5).length : Nat) : Int) : Int) = (4 : Int)
     ·refine Fq (.bool true) (r_eql (m := (((numsOf x69 5).length : Nat) : Int)) (n := 4) rfl ek ek (dt q246)) ?_
      refine Fq (.bool true) (r_pick (b := true) rfl ek ek) ?_
      refine Fa (.bool true) ?_
      apply F.es
      apply h19
      refine wp_cond_true ek ?_
      refine M.region_sch (row := [(Value.ownBlock (.slice A0_c5_1 n0_c5_1 c0_c5_1)), (some b45)]) (Sch.app [(0, false), (2, false), (3, false), (4, false), (5, false), (6, false), (7, false), (8, false), (9, false), (10, false), (11, false), (12, false), (13, false), (14, false)] (.br 1 15 (Sch.of [(15, true), (16, true), (17, false), (18, true)]) (Sch.of [(1, true), (16, true), (17, false), (18, true)]))) kk kk (fun _ d _ _ _ h => by cases d <;> exact h) kk (fun w247 e248 s249 => ?_)
      have ho250 := own_heap ho86 e248
      have ho251 := own_heap ho87 e248
      have x252 := (heap_same e248 x58)
      refine Fq (.pointer (some ⟨b45, 1, none⟩)) (r_field (k := 1) rfl ek kk) ?_
      refine Fv (.slice A72 ((numsOf x69 5).length) c74) ?_
      obtain ⟨x253, hx254⟩ := get_of (zs := (numsOf x69 5)) (k := 0) (by have := hl94; omega)
      obtain ⟨b255, o256, hA257, hb258, hc259⟩ := Rd.elInt rd93 hx254
      refine Fq (.pointer (some ⟨b255, o256 + 0, none⟩)) (r_idx1 (n := (numsOf x69 5).length) (c := c74) (k := 0) rfl ek hA257 kk kk (by have := hl94; omega)) ?_
      refine Fl (.int .i64 x253) (smS hc259 (ne2 (sp97 (by omega) _ _ hA257) (sp99 (by omega) _ _ hA257))) ?_
      refine Fv (.slice A72 ((numsOf x69 5).length) c74) ?_
      obtain ⟨x260, hx261⟩ := get_of (zs := (numsOf x69 5)) (k := 1) (by have := hl94; omega)
      obtain ⟨b262, o263, hA264, hb265, hc266⟩ := Rd.elInt rd93 hx261
      refine Fq (.pointer (some ⟨b262, o263 + 1, none⟩)) (r_idx1 (n := (numsOf x69 5).length) (c := c74) (k := 1) rfl ek hA264 kk kk (by have := hl94; omega)) ?_
      refine Fl (.int .i64 x260) (smS hc266 (ne2 (sp97 (by omega) _ _ hA264) (sp99 (by omega) _ _ hA264))) ?_
      refine Fv (.slice A72 ((numsOf x69 5).length) c74) ?_
      obtain ⟨x267, hx268⟩ := get_of (zs := (numsOf x69 5)) (k := 2) (by have := hl94; omega)
      obtain ⟨b269, o270, hA271, hb272, hc273⟩ := Rd.elInt rd93 hx268
      refine Fq (.pointer (some ⟨b269, o270 + 2, none⟩)) (r_idx1 (n := (numsOf x69 5).length) (c := c74) (k := 2) rfl ek hA271 kk kk (by have := hl94; omega)) ?_
      refine Fl (.int .i64 x267) (smS hc273 (ne2 (sp97 (by omega) _ _ hA271) (sp99 (by omega) _ _ hA271))) ?_
      refine Fv (.slice A72 ((numsOf x69 5).length) c74) ?_
      obtain ⟨x274, hx275⟩ := get_of (zs := (numsOf x69 5)) (k := 3) (by have := hl94; omega)
      obtain ⟨b276, o277, hA278, hb279, hc280⟩ := Rd.elInt rd93 hx275
      refine Fq (.pointer (some ⟨b276, o277 + 3, none⟩)) (r_idx1 (n := (numsOf x69 5).length) (c := c74) (k := 3) rfl ek hA278 kk kk (by have := hl94; omega)) ?_
      refine Fl (.int .i64 x274) (smS hc280 (ne2 (sp97 (by omega) _ _ hA278) (sp99 (by omega) _ _ hA278))) ?_
      refine Fq (.agg #[.int .i64 x253, .int .i64 x260, .int .i64 x267, .int .i64 x274]) (r_build rfl (vs := [(0, .int .i64 x253), (1, .int .i64 x260), (2, .int .i64 x267), (3, .int .i64 x274)]) kk kk) ?_
      refine W.sbr ?_ ?_
      ·refine W.slq (v := .slice A0_c5_1 n0_c5_1 c0_c5_1) s249 rfl (r_load rfl kk kk (eqS (blk_cell (j := 1) x252 kk))) kk rfl ?_
       apply F.nx
       refine M.sn (fun b => .slice (some ⟨b, 0, none⟩) 1 1) #[.int .i64 x253, .int .i64 x260, .int .i64 x267, .int .i64 x274] 38 s249 rfl kk rfl (fun _ => by kernel_rfl) (fun b281 w282 hb283 k284 x285 s286 => ?_)
       apply F.nx
       have lo287 : w.heap.size ≤ b281 := Nl ((SM.belowR c100 s249 (in2 (fun kq e => (World.ownsRow.lt ho87 kq e).1) (fun kq e => (by cases e; exact lo51))))).size (Nat.le_of_eq hb283)
       have x252 := (k284.block _ (blk_lt x252)).trans x252
       have ho293 := own_kept ho250 k284
       have ho294 := own_kept ho251 k284
       refine M.sap (e := 38) (size := 4) (base := w.heap.size) (m := 1) (v := .slice A0_c5_1 n0_c5_1 c0_c5_1) (c := 1) s286 rfl rfl rfl rfl kk kk kk ho294 x285 kk kk (by omega) (by omega) (by have := ((SM.belowR c100 s286 (in2 (fun kq e => (World.ownsRow.lt ho87 kq e).1) (fun kq e => (by cases e; exact lo51))))).size; omega) (.inl (by simp)) (fun g295 cap296 w297 ho298 hg299 hat300 hlt301 s302 => ?_)
       apply F.nx
       have nb303 : Nb b2 (.slice (some ⟨g295, 0, none⟩) (n0_c5_1 + 1) cap296) := nb_app nb0_c5_1_b2 (Nat.lt_of_lt_of_le (blk_lt x6) (s286).size) hat300
       have nb304 : Nb b45 (.slice (some ⟨g295, 0, none⟩) (n0_c5_1 + 1) cap296) := nb_app nb0_c5_1_b45 (blk_lt x252) hat300
       have x252 := (hg299.block _ (blk_lt x252) nb0_c5_1_b45).trans x252
       have ho298 := own_snocP (x := (Pp.mk x253 x260 x267 x274)) ho298
       have nr307 : NbR (.slice (some ⟨g295, 0, none⟩) (n0_c5_1 + 1) cap296) (.slice (some ⟨g19, 0, none⟩) n12 c13) := nbr_app nr0_1_0 (fun j h => (World.ownsRow.lt ho293 j h).2) (hat3 (v := .slice A0_c5_1 n0_c5_1 c0_c5_1) hat300)
       have ho308 := own_grown ho293 hg299 (NbR.symm nr0_1_0)
       refine Fq (.pointer (some ⟨b45, 1, none⟩)) (r_field (k := 1) rfl ek kk) ?_
       refine M.ss (v := .slice (some ⟨g295, 0, none⟩) (n0_c5_1 + 1) cap296) (j := 1) (news := [.slice (some ⟨g295, 0, none⟩) (n0_c5_1 + 1) cap296]) (cs' := #[.int .i64 nd, .slice (some ⟨g295, 0, none⟩) (n0_c5_1 + 1) cap296]) s302 rfl kk rfl rfl kk kk x252 kk kk (by simp) kk kk (.inl (by simp)) (fun w309 g310 x311 s312 => ?_)
       have ho313 := own_grown ho308 g310 (fun j e1 e2 => by cases e2; exact nb54 e1.symm)
       have ho314 := own_grown ho298 g310 (fun j e1 e2 => by cases e2; exact nb304 e1.symm)
       apply F.es
       have x6 := SM.blk s312 x6 (ne2 nb0_c5_1_b2 (fun e9 => ne52 (Option.some.inj e9)))
       have c315 := (SM.belowR c100 s312 (in2 (fun kq e => (World.ownsRow.lt ho87 kq e).1) (fun kq e => (by cases e; exact lo51))))
       apply h12
       as_aux_lemma =>
        refine Rq 2 ?_
        refine Fq (.int .i64 ((i + 1 : Nat) : Int)) (r_add (m := (i : Int)) (n := 1) (z := ((i + 1 : Nat) : Int)) rfl ek ek (by omega) (by omega)) ?_
        refine Fv (.int .i64 ((i + 1 : Nat) : Int)) ?_
        apply F.es
        exact h9 _ _ _ (by omega : ((splitL s 10).length - (i + 1)) < _) ⟨i + 1, nd, (pl ++ [(Pp.mk x253 x260 x267 x274)]), (some ⟨g295, 0, none⟩), (n0_c5_1 + 1), cap296, Kn.of, rfl, (by omega), (by (try rw [List.length_append, List.length_singleton]); omega), (oi_next hor (by omega) (by omega) hx70 hx254 hx261 hx268 hx275), x6, x311, ho313, ho314, nb303, nb304, nr307, c315⟩
      refine M.sn (fun b => .slice (some ⟨b, 0, none⟩) 1 1) #[.int .i64 x253, .int .i64 x260, .int .i64 x267, .int .i64 x274] 38 s249 rfl kk rfl (fun _ => by kernel_rfl) (fun b317 w318 hb319 k320 x321 s322 => ?_)
      apply F.nx
      have lo323 : w.heap.size ≤ b317 := Nl ((SM.belowR c100 s249 (in2 (fun kq e => (World.ownsRow.lt ho87 kq e).1) (fun kq e => (by cases e; exact lo51))))).size (Nat.le_of_eq hb319)
      have x252 := (k320.block _ (blk_lt x252)).trans x252
      have ho329 := own_kept ho250 k320
      have ho330 := own_kept ho251 k320
      refine W.slq (v := .slice A0_c5_1 n0_c5_1 c0_c5_1) s322 rfl (r_load rfl kk kk (eqS (blk_cell (j := 1) x252 kk))) kk rfl ?_
      apply F.nx
      refine M.sap (e := 38) (size := 4) (base := w.heap.size) (m := 1) (v := .slice A0_c5_1 n0_c5_1 c0_c5_1) (c := 1) s322 rfl rfl rfl rfl kk kk kk ho330 x321 kk kk (by omega) (by omega) (by have := ((SM.belowR c100 s322 (in2 (fun kq e => (World.ownsRow.lt ho87 kq e).1) (fun kq e => (by cases e; exact lo51))))).size; omega) (.inl (by simp)) (fun g331 cap332 w333 ho334 hg335 hat336 hlt337 s338 => ?_)
      apply F.nx
      have nb339 : Nb b2 (.slice (some ⟨g331, 0, none⟩) (n0_c5_1 + 1) cap332) := nb_app nb0_c5_1_b2 (Nat.lt_of_lt_of_le (blk_lt x6) (s322).size) hat336
      have nb340 : Nb b45 (.slice (some ⟨g331, 0, none⟩) (n0_c5_1 + 1) cap332) := nb_app nb0_c5_1_b45 (blk_lt x252) hat336
      have x252 := (hg335.block _ (blk_lt x252) nb0_c5_1_b45).trans x252
      have ho334 := own_snocP (x := (Pp.mk x253 x260 x267 x274)) ho334
      have nr343 : NbR (.slice (some ⟨g331, 0, none⟩) (n0_c5_1 + 1) cap332) (.slice (some ⟨g19, 0, none⟩) n12 c13) := nbr_app nr0_1_0 (fun j h => (World.ownsRow.lt ho329 j h).2) (hat3 (v := .slice A0_c5_1 n0_c5_1 c0_c5_1) hat336)
      have ho344 := own_grown ho329 hg335 (NbR.symm nr0_1_0)
      refine Fq (.pointer (some ⟨b45, 1, none⟩)) (r_field (k := 1) rfl ek kk) ?_
      refine M.ss (v := .slice (some ⟨g331, 0, none⟩) (n0_c5_1 + 1) cap332) (j := 1) (news := [.slice (some ⟨g331, 0, none⟩) (n0_c5_1 + 1) cap332]) (cs' := #[.int .i64 nd, .slice (some ⟨g331, 0, none⟩) (n0_c5_1 + 1) cap332]) s338 rfl kk rfl rfl kk kk x252 kk kk (by simp) kk kk (.inl (by simp)) (fun w345 g346 x347 s348 => ?_)
      have ho349 := own_grown ho344 g346 (fun j e1 e2 => by cases e2; exact nb54 e1.symm)
      have ho350 := own_grown ho334 g346 (fun j e1 e2 => by cases e2; exact nb340 e1.symm)
      apply F.es
      have x6 := SM.blk s348 x6 (ne2 nb0_c5_1_b2 (fun e9 => ne52 (Option.some.inj e9)))
      have c351 := (SM.belowR c100 s348 (in2 (fun kq e => (World.ownsRow.lt ho87 kq e).1) (fun kq e => (by cases e; exact lo51))))
      apply h12
      refine Rq 2 ?_
      refine Fq (.int .i64 ((i + 1 : Nat) : Int)) (r_add (m := (i : Int)) (n := 1) (z := ((i + 1 : Nat) : Int)) rfl ek ek (by omega) (by omega)) ?_
      refine Fv (.int .i64 ((i + 1 : Nat) : Int)) ?_
      apply F.es
      exact h9 _ _ _ (by omega : ((splitL s 10).length - (i + 1)) < _) ⟨i + 1, nd, (pl ++ [(Pp.mk x253 x260 x267 x274)]), (some ⟨g331, 0, none⟩), (n0_c5_1 + 1), cap332, Kn.of, rfl, (by omega), (by (try rw [List.length_append, List.length_singleton]); omega), (oi_next hor (by omega) (by omega) hx70 hx254 hx261 hx268 hx275), x6, x347, ho349, ho350, nb339, nb340, nr343, c351⟩
     refine Fq (.bool false) (r_eql (m := (((numsOf x69 5).length : Nat) : Int)) (n := 4) rfl ek ek (df q246)) ?_
     refine Fq (.bool false) (r_pick (b := true) rfl ek ek) ?_
     refine Fa (.bool false) ?_
     apply F.es
     apply h19
     refine wp_cond_false ek ?_
     refine wk fun K20 h20 => ?_
     refine W.region_plain (row := (some b2)) [(0, false), (1, true), (2, false)] kk ?_
     have s353 := SG.self w84 (some b2)
     refine Fq (.agg #[.int .i64 0, .slice none 0 0]) (r_build rfl (vs := []) kk kk) ?_
     refine W.ss (v := .agg #[.int .i64 0, .slice none 0 0]) (j := 0) (news := [.int .i64 0, .slice none 0 0]) (cs' := #[.int .i64 0, .slice none 0 0]) s353 rfl kk rfl rfl kk kk x6 kk kk (by simp) kk kk (.inl rfl) (fun w354 g355 x356 s357 => ?_)
     refine Fa (.bool false) ?_
     apply F.es
     have x58 := Sk s357 x58 (fun e9 => ne52 (Option.some.inj e9).symm)
     have c360 := (Sb c100 s357 (fun kq e => by cases e; exact lo8))
     apply h20
     as_aux_lemma =>
      refine wp_ret ?_
      try simp only [Exit.then, Exit.inBlock]
      refine retCT (x := .bool false) rfl kk kk kk kk x356 ?_
      have hpn := pn_no (s := s) (fun m ps h1 h2 => by have h9 := oi_len hx70 (by omega) h1 h2; omega)
      exact fin_net (zs := []) (World.ownsRow_nil _ _ _ _) hpn.2.2.symm hpn.2.1.symm hpn.1.symm c360
    refine Fq (.bool false) (r_gtr (m := (i : Int)) (n := 0) rfl ek ek (df q245)) ?_
    refine Fv (.bool false) ?_
    refine Fs rfl ?_
    refine Fs rfl ?_
    refine Fs rfl ?_
    refine Fq (.bool false) (r_pick (b := false) rfl ek ek) ?_
    refine Fa (.bool false) ?_
    apply F.es
    apply h19
    refine wp_cond_false ek ?_
    refine wk fun K21 h21 => ?_
    refine W.region_plain (row := (some b2)) [(0, false), (1, true), (2, false)] kk ?_
    have s362 := SG.self w84 (some b2)
    refine Fq (.agg #[.int .i64 0, .slice none 0 0]) (r_build rfl (vs := []) kk kk) ?_
    refine W.ss (v := .agg #[.int .i64 0, .slice none 0 0]) (j := 0) (news := [.int .i64 0, .slice none 0 0]) (cs' := #[.int .i64 0, .slice none 0 0]) s362 rfl kk rfl rfl kk kk x6 kk kk (by simp) kk kk (.inl rfl) (fun w363 g364 x365 s366 => ?_)
    refine Fa (.bool false) ?_
    apply F.es
    have x58 := Sk s366 x58 (fun e9 => ne52 (Option.some.inj e9).symm)
    have c369 := (Sb c100 s366 (fun kq e => by cases e; exact lo8))
    apply h21
    refine wp_ret ?_
    try simp only [Exit.then, Exit.inBlock]
    refine retCT (x := .bool false) rfl kk kk kk kk x365 ?_
    have hpn := pn_no (s := s) (fun m ps h1 h2 => by have h9 := oi_len hx70 (by omega) h1 h2; omega)
    exact fin_net (zs := []) (World.ownsRow_nil _ _ _ _) hpn.2.2.symm hpn.2.1.symm hpn.1.symm c369
  refine Fq (.bool false) (r_lss (m := (i : Int)) (n := (((n12 - 1) : Nat) : Int)) rfl ek ek (df q68)) ?_
  apply F.es
  apply h10
  refine wk fun K22 h22 => ?_
  refine wp_cond_false ek ?_
  refine wp_exit ?_
  apply h7
  refine wk fun K23 h23 => ?_
  refine wk fun K24 h24 => ?_
  refine W.region_plain (row := none) [(0, false), (1, true), (2, false), (3, false), (4, false), (5, true), (6, false), (7, false), (8, false)] kk ?_
  have s371 := SG.self wl0 none
  refine Fq (.agg #[.int .i64 nd, .slice A0_c5_1 n0_c5_1 c0_c5_1]) (r_load2 rfl ek kk kk (sgS (blk_cell (j := 0) x58 kk) onn) (sgS (blk_cell (j := 1) x58 kk) onn)) ?_
  refine Fc [.agg #[.int .i64 nd, .slice A0_c5_1 n0_c5_1 c0_c5_1]] (IsValid_any nd A0_c5_1 n0_c5_1 c0_c5_1 pl _ (own_rd ho0_c5_1) (by omega)) ?_
  rintro e w373 ⟨rfl, b372⟩
  have s374 := SG.of_below s371 b372
  refine ⟨_, rfl, s374, ?_⟩
  apply F.nx
  have ho376 := own_kept ho0_c5_1 b372
  rcases Bool.eq_false_or_eq_true (goodN nd pl) with q377 | q377
  ·rw [q377]
   have hgl378 := (good_of q377).len
   refine Fq (.bool false) (r_not (b := true) rfl ek rfl) ?_
   refine Fv (.bool false) ?_
   refine Fq (.agg #[.int .i64 nd, .slice A0_c5_1 n0_c5_1 c0_c5_1]) (r_load2 rfl ek kk kk (sgS (blk_cell (j := 0) x58 kk) onn) (sgS (blk_cell (j := 1) x58 kk) onn)) ?_
   refine Fc [.agg #[.int .i64 nd, .slice A0_c5_1 n0_c5_1 c0_c5_1]] (networkText_any nd A0_c5_1 n0_c5_1 c0_c5_1 pl _ (own_rd ho376) (good_small q377) (tab_kept htab (Sb c67 s374 nkk))) ?_
   rintro e w380 ⟨rfl, b379⟩
   have s381 := SG.of_below s374 b379
   refine ⟨_, rfl, s381, ?_⟩
   apply F.nx
   have ho383 := own_kept ho376 b379
   refine Fv (.string s) ?_
   by_cases q384 : (textN nd pl) = s
   ·refine Fq (.bool false) (r_neqS (s := (textN nd pl)) (r := s) rfl ek ek (by rw [decide_eq_true q384]; try rfl)) ?_
    refine Fq (.bool false) (r_pick (b := false) rfl ek ek) ?_
    apply F.es
    have x6 := Sk s381 x6 onn
    have x58 := Sk s381 x58 onn
    have c385 := (Sb c67 s381 nkk)
    apply h24
    as_aux_lemma =>
     refine wp_cond_false ek ?_
     apply wp_skip
     apply h23
     refine wk fun K25 h25 => ?_
     refine W.region_plain (row := (some b2)) [(0, false), (1, true), (2, false)] kk ?_
     have s386 := SG.self w380 (some b2)
     refine Fq (.agg #[.int .i64 nd, .slice A0_c5_1 n0_c5_1 c0_c5_1]) (r_load2 rfl ek kk kk (sgS (blk_cell (j := 0) x58 kk) (fun e9 => ne52 (Option.some.inj e9).symm)) (sgS (blk_cell (j := 1) x58 kk) (fun e9 => ne52 (Option.some.inj e9).symm))) ?_
     refine W.ss (v := .agg #[.int .i64 nd, .slice A0_c5_1 n0_c5_1 c0_c5_1]) (j := 0) (news := [.int .i64 nd, .slice A0_c5_1 n0_c5_1 c0_c5_1]) (cs' := #[.int .i64 nd, .slice A0_c5_1 n0_c5_1 c0_c5_1]) s386 rfl kk rfl rfl kk kk x6 kk kk (by simp) kk kk (.inl rfl) (fun w387 g388 x389 s390 => ?_)
     have ho392 := own_grown ho383 g388 (fun j e1 e2 => by cases e2; exact nb0_c5_1_b2 e1.symm)
     refine Fa (.bool true) ?_
     apply F.es
     have c393 := (Sb c385 s390 (fun kq e => by cases e; exact lo8))
     apply h25
     refine wp_ret ?_
     try simp only [Exit.then]
     refine retCT (x := .bool true) rfl kk kk kk kk x389 ?_
     have hpn := pn_yes q377 q384 (fun m ps h1 h2 => oi_end hor (by omega) m ps h1 h2)
     exact fin_net ho392 hpn.2.2.symm hpn.2.1.symm hpn.1.symm c393
   refine Fq (.bool true) (r_neqS (s := (textN nd pl)) (r := s) rfl ek ek (by rw [decide_eq_false q384]; try rfl)) ?_
   refine Fq (.bool true) (r_pick (b := false) rfl ek ek) ?_
   apply F.es
   have x6 := Sk s381 x6 onn
   have c394 := (Sb c67 s381 nkk)
   apply h24
   refine wp_cond_true ek ?_
   refine wk fun K26 h26 => ?_
   refine W.region_plain (row := (some b2)) [(0, false), (1, true), (2, false)] kk ?_
   have s395 := SG.self w380 (some b2)
   refine Fq (.agg #[.int .i64 0, .slice none 0 0]) (r_build rfl (vs := []) kk kk) ?_
   refine W.ss (v := .agg #[.int .i64 0, .slice none 0 0]) (j := 0) (news := [.int .i64 0, .slice none 0 0]) (cs' := #[.int .i64 0, .slice none 0 0]) s395 rfl kk rfl rfl kk kk x6 kk kk (by simp) kk kk (.inl rfl) (fun w396 g397 x398 s399 => ?_)
   refine Fa (.bool false) ?_
   apply F.es
   have c402 := (Sb c394 s399 (fun kq e => by cases e; exact lo8))
   apply h26
   refine wp_ret ?_
   try simp only [Exit.then]
   refine retCT (x := .bool false) rfl kk kk kk kk x398 ?_
   have hpn := pn_no (s := s) (fun m ps h1 h2 => by have h9 := oi_end hor (by omega) m ps h1 h2; exact q384 (by rw [h9.1, h9.2]; exact h2))
   exact fin_net (zs := []) (World.ownsRow_nil _ _ _ _) hpn.2.2.symm hpn.2.1.symm hpn.1.symm c402
  rw [q377]
  refine Fq (.bool true) (r_not (b := false) rfl ek rfl) ?_
  refine Fv (.bool true) ?_
  refine Fs s374 ?_
  refine Fs s374 ?_
  refine Fs s374 ?_
  refine Fs s374 ?_
  refine Fq (.bool true) (r_pick (b := true) rfl ek ek) ?_
  apply F.es
  have x6 := Sk s374 x6 onn
  have c403 := (Sb c67 s374 nkk)
  apply h24
  refine wp_cond_true ek ?_
  refine wk fun K27 h27 => ?_
  refine W.region_plain (row := (some b2)) [(0, false), (1, true), (2, false)] kk ?_
  have s404 := SG.self w373 (some b2)
  refine Fq (.agg #[.int .i64 0, .slice none 0 0]) (r_build rfl (vs := []) kk kk) ?_
  refine W.ss (v := .agg #[.int .i64 0, .slice none 0 0]) (j := 0) (news := [.int .i64 0, .slice none 0 0]) (cs' := #[.int .i64 0, .slice none 0 0]) s404 rfl kk rfl rfl kk kk x6 kk kk (by simp) kk kk (.inl rfl) (fun w405 g406 x407 s408 => ?_)
  refine Fa (.bool false) ?_
  apply F.es
  have c411 := (Sb c403 s408 (fun kq e => by cases e; exact lo8))
  apply h27
  as_aux_lemma =>
   refine wp_ret ?_
   try simp only [Exit.then]
   refine retCT (x := .bool false) rfl kk kk kk kk x407 ?_
   have hpn := pn_no (s := s) (fun m ps h1 h2 => by have h9 := oi_end hor (by omega) m ps h1 h2; have h8 := q377; rw [h9.1, h9.2, h1] at h8; cases h8)
   exact fin_net (zs := []) (World.ownsRow_nil _ _ _ _) hpn.2.2.symm hpn.2.1.symm hpn.1.symm c411
end Go.Proofs.YtdlcldaogcbnlaaDoor
namespace Go.Proofs.YtdlcldaogcbnlaaDoor
open Go.RowKit
set_option linter.unusedVariables false
theorem eqNetwork_below (m : Int) (A B : Option Addr) (n c d : Nat) (ps : List Pp) (w : World) (ha : Rd w 4 A n (pipesV ps)) (hb : Rd w 4 B n (pipesV ps)) (hn : n ≤ 9223372036854775807) :
    Calls Tryd.prog 8 #[.agg #[.int .i64 m, .slice A n c], .agg #[.int .i64 m, .slice B n d]] w fun e w' => e = .returned (.bool true) ∧ Below w.heap.size w w' := by
  have Ht := Lib.hid (fun W (h1 : Rd W 4 A n (pipesV ps)) (h2 : Rd W 4 B n (pipesV ps)) => eqPipeS_below A B n c d ps W h1 h2 hn)
  have Ha := Lib.hid ha
  have Hb := Lib.hid hb
  clear ha hb
  go_enter Tryd.func8, Tryd.ntmps8
  go_wp2_with fail
  refine (Ht.out _ (Ha.out.kept (below_a2 _ _ _)) (Hb.out.kept (below_a2 _ _ _))).mono ?_
  rintro e w1 ⟨rfl, b1⟩
  go_wp2
  go_ret
  exact ⟨rfl, below_step (below_a2 _ _ _) b1 (by simp)⟩
theorem heldNetwork_below (m : Int) (A : Option Addr) (n c : Nat) (k0 : Int) (w : World) (ha : Rd w 4 A n (mkPipe k0 n)) (hn : n ≤ 1000000000) (h0 : 0 ≤ k0) (h1 : k0 ≤ 1000000000000) :
    Calls Tryd.prog 10 #[.agg #[.int .i64 m, .slice A n c], .int .i64 k0] w fun e w' => e = .returned (.int .i64 (k0 + 4 * n)) ∧ Below w.heap.size w w' := by
  have Ha := Lib.hid ha
  clear ha
  go_enter Tryd.func10, Tryd.ntmps10
  go_wp2_with fail
  refine (heldPipeS_below A n c k0 _ (Ha.out.kept (below_a1 _ _)) hn h0 h1).mono ?_
  rintro e w1 ⟨rfl, b1⟩
  have hneg : ¬ (k0 + 4 * (n : Int) < 0) := by omega
  go_wp2
  go_ret
  exact ⟨rfl, below_step (below_a1 _ _) b1 (by simp)⟩
theorem markNetwork_any (m : Int) (A : Option Addr) (n c base : Nat) (k0 : Int) (xs : List Value) (w : World) (how : w.ownsRow base 38 4 (.slice A n c) n xs) (hn : n ≤ 1000000000) (h0 : 0 ≤ k0) (h1 : k0 ≤ 1000000000000) :
    Calls Tryd.prog 9 #[.agg #[.int .i64 m, .slice A n c], .int .i64 k0] w (MarkedPipeS w base A n c k0) := by
  have Ho := Lib.hid how
  clear how
  go_enter Tryd.func9, Tryd.ntmps9
  go_wp2_with fail
  refine (markPipeS_any A n c base k0 xs _ (own_kept Ho.out (below_a1 _ _)) hn h0 h1).mono ?_
  rintro e w1 ⟨rfl, o1, g1⟩
  have H := Lib.hid (And.intro o1 (grown_trans (World.grownBy_alloc _ _ _) g1))
  clear o1 g1
  go_wp2
  go_ret
  exact ⟨rfl, H.out.1, H.out.2⟩
end Go.Proofs.YtdlcldaogcbnlaaDoor
namespace Go.Proofs.YtdlcldaogcbnlaaDoor
open Go.RowKit Go.ChangeShapes Go.WideShapes Go.Deep Go.Joins
set_option linter.unusedVariables false
end Go.Proofs.YtdlcldaogcbnlaaDoor
namespace Go.Proofs.YtdlcldaogcbnlaaDoor
open Go.RowKit Go.ChangeShapes Go.WideShapes Go.Deep Go.Joins
set_option linter.unusedVariables false
end Go.Proofs.YtdlcldaogcbnlaaDoor
namespace Go.Proofs.YtdlcldaogcbnlaaDoor
open Go.RowKit
set_option linter.unusedVariables false
set_option linter.unusedSimpArgs false
theorem sp_row {W w : World} {size n base sz k : Nat} {A : Option Addr} {xs ys : List Value} {e : TypeId} {v : Value} (h : Rd W size A n xs) (how : w.ownsRow base e sz v k ys) (hb : W.heap.size ≤ base) : Sp A n v.ownBlock := fun hn b off e1 e2 => by
  obtain ⟨b9, off9, e9, h9, _⟩ := h.2 hn
  rw [e1] at e9
  cases e9
  have := (World.ownsRow.lt how b e2.symm).1
  omega
set_option maxRecDepth 100000 in
set_option maxHeartbeats 8000000 in
theorem w_FnExactParseNetwork (a0 : ByteArray) (k0 : a0.size ≤ maxLen) (w : World) (htab : Lib.TabIs Tryd.prog w "internal/strconv.uint64pow10" .u64 Lib.pow10Tab) (hmax : MaxIs w) :
    Calls Tryd.prog 3 #[.string a0] w fun e w' => e = .returned (.bool true) ∧ Below w.heap.size w w' := by
 unfold maxLen at k0
 have hvl := pn_len a0
 go_enter Tryd.func3, Tryd.ntmps3
 refine F.begin 66 [(0, .string a0)] (fun U0 => ?_)
 refine wk fun K1 h1 => ?_
 refine Rq 1 ?_
 refine Fa (.bool false) ?_
 apply F.es
 apply h1
 refine wk fun K2 h2 => ?_
 refine wk fun K3 h3 => ?_
 refine Rq 3 ?_
 refine Fv (.string a0) ?_
 refine Fq (.int .i64 ((a0.size : Nat) : Int)) (r_lenS (s := a0) rfl ek kk) ?_
 by_cases q1 : (((a0.size : Nat) : Int) : Int) > (1048576 : Int)
 ·refine Fq (.bool true) (r_gtr (m := ((a0.size : Nat) : Int)) (n := 1048576) rfl ek ek (dt q1)) ?_
  apply F.es
  apply h3
  refine wp_cond_true ek ?_
  refine wk fun K4 h4 => ?_
  refine Rq 1 ?_
  refine Fa (.bool true) ?_
  apply F.es
  apply h4
  refine wp_ret ?_
  try simp only [Exit.then]
  refine ret1 (v := .bool true) rfl kk ?_
  exact ⟨rfl, (Below.refl _ _)⟩
 refine Fq (.bool false) (r_gtr (m := ((a0.size : Nat) : Int)) (n := 1048576) rfl ek ek (df q1)) ?_
 apply F.es
 apply h3
 refine wp_cond_false ek ?_
 apply wp_skip
 apply h2
 refine wk fun K5 h5 => ?_
 refine W.region_plain (row := none) [(0, false), (1, true), (2, false), (3, false), (4, false), (5, true), (6, true), (7, false)] kk ?_
 have s2 := SG.self w none
 refine Fv (.string a0) ?_
 refine Fc [.string a0] (ParseNetwork_spec a0 _ (by omega)) ?_
 rintro e w9 ⟨A3, d4, rfl, rd5, b8⟩
 have s10 := SG.of_below s2 b8
 refine ⟨_, rfl, s10, ?_⟩
 apply F.nx
 have hl6 := rd_pipes_len rd5
 refine Fv (.tuple #[.agg #[.int .i64 (ParseNetwork_v0m a0), .slice A3 ((ParseNetwork_v0 a0).length) d4], .bool (ParseNetwork_v1 a0)]) ?_
 refine Fq (.agg #[.int .i64 (ParseNetwork_v0m a0), .slice A3 ((ParseNetwork_v0 a0).length) d4]) (r_extract (vs := #[.agg #[.int .i64 (ParseNetwork_v0m a0), .slice A3 ((ParseNetwork_v0 a0).length) d4], .bool (ParseNetwork_v1 a0)]) rfl ek kk) ?_
 refine Fq (.bool (ParseNetwork_v1 a0)) (r_extract (vs := #[.agg #[.int .i64 (ParseNetwork_v0m a0), .slice A3 ((ParseNetwork_v0 a0).length) d4], .bool (ParseNetwork_v1 a0)]) rfl ek kk) ?_
 refine W.sn (fun b => .pointer (some ⟨b, 0, none⟩)) #[.int .i64 0, .slice none 0 0] 24 s10 rfl kk rfl (fun _ => by kernel_rfl) (fun b11 w12 hb13 k14 x15 s16 => ?_)
 apply F.nx
 have lo17 : w.heap.size ≤ b11 := Nl ((Sb (Below.refl _ _) s10 nkk)).size (Nat.le_of_eq hb13)
 have sp18 : Sp A3 ((ParseNetwork_v0 a0).length) (some b11) := sp_new rd5 (by have := hb13; omega)
 have rd19 := Rk rd5 k14
 refine W.ss (v := .agg #[.int .i64 (ParseNetwork_v0m a0), .slice A3 ((ParseNetwork_v0 a0).length) d4]) (j := 0) (news := [.int .i64 (ParseNetwork_v0m a0), .slice A3 ((ParseNetwork_v0 a0).length) d4]) (cs' := #[.int .i64 (ParseNetwork_v0m a0), .slice A3 ((ParseNetwork_v0 a0).length) d4]) s16 rfl kk rfl rfl kk kk x15 kk kk (by simp) kk kk (.inr (Nl (s10).size (Nat.le_of_eq hb13))) (fun w20 g21 x22 s23 => ?_)
 have rd24 := rd_sepG rd19 g21 sp18
 refine Fa (.bool (ParseNetwork_v1 a0)) ?_
 apply F.es
 have c25 := (Sb (Below.refl _ _) s23 nkk)
 apply h5
 refine wk fun K6 h6 => ?_
 refine W.region_plain (row := none) [(0, false), (1, true), (2, false), (3, false), (4, false), (5, true), (6, true), (7, false)] kk ?_
 have s26 := SG.self w20 none
 refine Fv (.string a0) ?_
 have lb33 := (Nat.lt_of_lt_of_le (blk_lt x22) (s26).size)
 have zl34 := Nat.le_refl w20.heap.size
 have z31 := ((Sb c25 s26 nkk)).size
 refine Fc [.string a0] (ParseNetwork_impl a0 _ (by omega) (tab_kept htab (Sb c25 s26 nkk)) (max_kept hmax (Sb c25 s26 nkk))) ?_
 rintro e w36 ⟨A27, d28, rfl, ho29, b35⟩
 have s37 := SG.of_below s26 b35
 refine ⟨_, rfl, s37, ?_⟩
 apply F.nx
 have ho30 := own_base (base' := w.heap.size) ho29 z31
 have hlr32 := rd_pipes_len (own_rd ho30)
 have nb38 : Nb b11 (.slice A27 ((ParseNetwork_v0 a0).length) d28) := nb_lo ho29 lb33
 have sp39 : Sp A3 ((ParseNetwork_v0 a0).length) (Value.ownBlock (.slice A27 ((ParseNetwork_v0 a0).length) d28)) := sp_row rd24 ho29 (by omega)
 refine Fv (.tuple #[.agg #[.int .i64 (ParseNetwork_v0m a0), .slice A27 ((ParseNetwork_v0 a0).length) d28], .bool (ParseNetwork_v1 a0)]) ?_
 refine Fq (.agg #[.int .i64 (ParseNetwork_v0m a0), .slice A27 ((ParseNetwork_v0 a0).length) d28]) (r_extract (vs := #[.agg #[.int .i64 (ParseNetwork_v0m a0), .slice A27 ((ParseNetwork_v0 a0).length) d28], .bool (ParseNetwork_v1 a0)]) rfl ek kk) ?_
 refine Fq (.bool (ParseNetwork_v1 a0)) (r_extract (vs := #[.agg #[.int .i64 (ParseNetwork_v0m a0), .slice A27 ((ParseNetwork_v0 a0).length) d28], .bool (ParseNetwork_v1 a0)]) rfl ek kk) ?_
 refine W.sn (fun b => .pointer (some ⟨b, 0, none⟩)) #[.int .i64 0, .slice none 0 0] 24 s37 rfl kk rfl (fun _ => by kernel_rfl) (fun b40 w41 hb42 k43 x44 s45 => ?_)
 apply F.nx
 have lo46 : w.heap.size ≤ b40 := Nl ((Sb c25 s37 nkk)).size (Nat.le_of_eq hb42)
 have nb49 : Nb b40 (.slice A27 ((ParseNetwork_v0 a0).length) d28) := nb_hi ho30 (Nat.le_of_eq hb42)
 have ho50 := own_kept ho30 k43
 refine W.ss (v := .agg #[.int .i64 (ParseNetwork_v0m a0), .slice A27 ((ParseNetwork_v0 a0).length) d28]) (j := 0) (news := [.int .i64 (ParseNetwork_v0m a0), .slice A27 ((ParseNetwork_v0 a0).length) d28]) (cs' := #[.int .i64 (ParseNetwork_v0m a0), .slice A27 ((ParseNetwork_v0 a0).length) d28]) s45 rfl kk rfl rfl kk kk x44 kk kk (by simp) kk kk (.inr (Nl (s37).size (Nat.le_of_eq hb42))) (fun w51 g52 x53 s54 => ?_)
 have ho55 := own_grown ho50 g52 (fun j e1 e2 => by cases e2; exact nb49 e1.symm)
 refine Fa (.bool (ParseNetwork_v1 a0)) ?_
 apply F.es
 have x22 := Sk s54 x22 onn
 have c56 := (Sb c25 s54 nkk)
 have rd57 := Rk rd24 (SG.below s54)
 apply h6
 as_aux_lemma =>
  refine wk fun K7 h7 => ?_
  refine wk fun K8 h8 => ?_
  refine W.region_plain (row := none) [(0, false), (1, false), (2, true), (3, false), (4, false), (5, false), (6, false), (7, false), (8, false)] kk ?_
  have s58 := SG.self w51 none
  refine Fq (.agg #[.int .i64 (ParseNetwork_v0m a0), .slice A27 ((ParseNetwork_v0 a0).length) d28]) (r_load2 rfl ek kk kk (sgS (blk_cell (j := 0) x53 kk) onn) (sgS (blk_cell (j := 1) x53 kk) onn)) ?_
  refine Fq (.agg #[.int .i64 (ParseNetwork_v0m a0), .slice A3 ((ParseNetwork_v0 a0).length) d4]) (r_load2 rfl ek kk kk (sgS (blk_cell (j := 0) x22 kk) onn) (sgS (blk_cell (j := 1) x22 kk) onn)) ?_
  refine Fc [.agg #[.int .i64 (ParseNetwork_v0m a0), .slice A27 ((ParseNetwork_v0 a0).length) d28], .agg #[.int .i64 (ParseNetwork_v0m a0), .slice A3 ((ParseNetwork_v0 a0).length) d4]] (eqNetwork_below (ParseNetwork_v0m a0) A27 A3 ((ParseNetwork_v0 a0).length) d28 d4 (ParseNetwork_v0 a0) _ (own_rd ho55) (Rk rd57 (SG.below s58)) (by omega)) ?_
  rintro e w60 ⟨rfl, b59⟩
  have s61 := SG.of_below s58 b59
  refine ⟨_, rfl, s61, ?_⟩
  apply F.nx
  have ho62 := own_kept ho55 b59
  refine Fq (.bool false) (r_not (b := true) rfl ek rfl) ?_
  refine Fv (.bool false) ?_
  refine Fv (.bool (ParseNetwork_v1 a0)) ?_
  refine Fv (.bool (ParseNetwork_v1 a0)) ?_
  refine Fq (.bool false) (r_neqB (m := (ParseNetwork_v1 a0)) (n := (ParseNetwork_v1 a0)) rfl ek ek kk (by rw [show ((ParseNetwork_v1 a0) == (ParseNetwork_v1 a0)) = true from beq_iff_eq.2 rfl]; try rfl)) ?_
  refine Fq (.bool false) (r_pick (b := false) rfl ek ek) ?_
  apply F.es
  have x22 := Sk s61 x22 onn
  have x53 := Sk s61 x53 onn
  have c63 := (Sb c56 s61 nkk)
  have rd64 := Rk rd57 (SG.below s61)
  apply h8
  refine wp_cond_false ek ?_
  apply wp_skip
  apply h7
  refine wk fun K9 h9 => ?_
  refine Rq 1 ?_
  refine Fa (.int .i64 1) ?_
  apply F.es
  apply h9
  refine wk fun K10 h10 => ?_
  refine W.region_plain (row := (Value.ownBlock (.slice A27 ((ParseNetwork_v0 a0).length) d28))) [(0, false), (1, false), (2, true), (3, false)] kk ?_
  have s65 := SG.self w60 (Value.ownBlock (.slice A27 ((ParseNetwork_v0 a0).length) d28))
  refine Fq (.agg #[.int .i64 (ParseNetwork_v0m a0), .slice A27 ((ParseNetwork_v0 a0).length) d28]) (r_load2 rfl ek kk kk (sgS (blk_cell (j := 0) x53 kk) nb49) (sgS (blk_cell (j := 1) x53 kk) nb49)) ?_
  refine Fv (.int .i64 1) ?_
  refine Fc [.agg #[.int .i64 (ParseNetwork_v0m a0), .slice A27 ((ParseNetwork_v0 a0).length) d28], .int .i64 1] (markNetwork_any (ParseNetwork_v0m a0) A27 ((ParseNetwork_v0 a0).length) d28 w.heap.size 1 _ _ ho62 (by omega) (by omega) (by omega)) ?_
  rintro e w67 ⟨rfl, ho69, g68⟩
  have s70 := SG.of_grown s65 g68 (.inl rfl)
  refine ⟨_, rfl, s70, ?_⟩
  apply F.nx
  refine Fa (.int .i64 (1 + 4 * (((ParseNetwork_v0 a0).length : Nat) : Int))) ?_
  apply F.es
  have x22 := Sk s70 x22 nb38
  have x53 := Sk s70 x53 nb49
  have c75 := (Sb c63 s70 (fun kq e => (World.ownsRow.lt ho62 kq e).1))
  have rd76 := rd_sep rd64 s70 sp39
  apply h10
  refine wk fun K11 h11 => ?_
  refine Rq 1 ?_
  refine Fa (.int .i64 1) ?_
  apply F.es
  apply h11
  refine wk fun K12 h12 => ?_
  refine W.region_plain (row := none) [(0, false), (1, false), (2, true), (3, false)] kk ?_
  have s77 := SG.self w67 none
  refine Fq (.agg #[.int .i64 (ParseNetwork_v0m a0), .slice A27 ((ParseNetwork_v0 a0).length) d28]) (r_load2 rfl ek kk kk (sgS (blk_cell (j := 0) x53 kk) onn) (sgS (blk_cell (j := 1) x53 kk) onn)) ?_
  refine Fv (.int .i64 1) ?_
  refine Fc [.agg #[.int .i64 (ParseNetwork_v0m a0), .slice A27 ((ParseNetwork_v0 a0).length) d28], .int .i64 1] (heldNetwork_below (ParseNetwork_v0m a0) A27 ((ParseNetwork_v0 a0).length) d28 1 _ (own_rd ho69) (by omega) (by omega) (by omega)) ?_
  rintro e w79 ⟨rfl, b78⟩
  have s80 := SG.of_below s77 b78
  refine ⟨_, rfl, s80, ?_⟩
  apply F.nx
  have ho81 := own_kept ho69 b78
  refine Fa (.int .i64 (1 + 4 * (((ParseNetwork_v0 a0).length : Nat) : Int))) ?_
  apply F.es
  have x22 := Sk s80 x22 onn
  have x53 := Sk s80 x53 onn
  have c82 := (Sb c75 s80 nkk)
  have rd83 := Rk rd76 (SG.below s80)
  apply h12
  as_aux_lemma =>
   refine wk fun K13 h13 => ?_
   refine wk fun K14 h14 => ?_
   refine Rq 2 ?_
   refine Fv (.int .i64 (1 + 4 * (((ParseNetwork_v0 a0).length : Nat) : Int))) ?_
   refine Fq (.bool false) (r_lss (m := (1 + 4 * (((ParseNetwork_v0 a0).length : Nat) : Int))) (n := 0) rfl ek ek (df (by omega))) ?_
   apply F.es
   apply h14
   refine wp_cond_false ek ?_
   apply wp_skip
   apply h13
   refine wk fun K15 h15 => ?_
   refine wk fun K16 h16 => ?_
   refine Rq 3 ?_
   refine Fv (.int .i64 (1 + 4 * (((ParseNetwork_v0 a0).length : Nat) : Int))) ?_
   refine Fv (.int .i64 (1 + 4 * (((ParseNetwork_v0 a0).length : Nat) : Int))) ?_
   refine Fq (.bool false) (r_neq (m := (1 + 4 * (((ParseNetwork_v0 a0).length : Nat) : Int))) (n := (1 + 4 * (((ParseNetwork_v0 a0).length : Nat) : Int))) rfl ek ek (df (by omega))) ?_
   apply F.es
   apply h16
   refine wp_cond_false ek ?_
   apply wp_skip
   apply h15
   refine wk fun K17 h17 => ?_
   refine W.region_plain (row := none) [(0, false), (1, true), (2, false), (3, false), (4, false), (5, true), (6, true), (7, false)] kk ?_
   have s84 := SG.self w79 none
   refine Fv (.string a0) ?_
   have lb91 := (Nat.lt_of_lt_of_le (blk_lt x22) (s84).size)
   have lb92 := (Nat.lt_of_lt_of_le (blk_lt x53) (s84).size)
   have zl93 := Nat.le_refl w79.heap.size
   have z89 := ((Sb c82 s84 nkk)).size
   refine Fc [.string a0] (ParseNetwork_impl a0 _ (by omega) (tab_kept htab (Sb c82 s84 nkk)) (max_kept hmax (Sb c82 s84 nkk))) ?_
   rintro e w95 ⟨A85, d86, rfl, ho87, b94⟩
   have s96 := SG.of_below s84 b94
   refine ⟨_, rfl, s96, ?_⟩
   apply F.nx
   have ho97 := own_kept ho81 b94
   have ho88 := own_base (base' := w.heap.size) ho87 z89
   have hlr90 := rd_pipes_len (own_rd ho88)
   refine Fv (.tuple #[.agg #[.int .i64 (ParseNetwork_v0m a0), .slice A85 ((ParseNetwork_v0 a0).length) d86], .bool (ParseNetwork_v1 a0)]) ?_
   refine Fq (.agg #[.int .i64 (ParseNetwork_v0m a0), .slice A85 ((ParseNetwork_v0 a0).length) d86]) (r_extract (vs := #[.agg #[.int .i64 (ParseNetwork_v0m a0), .slice A85 ((ParseNetwork_v0 a0).length) d86], .bool (ParseNetwork_v1 a0)]) rfl ek kk) ?_
   refine Fq (.bool (ParseNetwork_v1 a0)) (r_extract (vs := #[.agg #[.int .i64 (ParseNetwork_v0m a0), .slice A85 ((ParseNetwork_v0 a0).length) d86], .bool (ParseNetwork_v1 a0)]) rfl ek kk) ?_
   refine W.sn (fun b => .pointer (some ⟨b, 0, none⟩)) #[.int .i64 0, .slice none 0 0] 24 s96 rfl kk rfl (fun _ => by kernel_rfl) (fun b102 w103 hb104 k105 x106 s107 => ?_)
   apply F.nx
   have lo108 : w.heap.size ≤ b102 := Nl ((Sb c82 s96 nkk)).size (Nat.le_of_eq hb104)
   have nb112 : Nb b102 (.slice A27 ((ParseNetwork_v0 a0).length) d28) := nb_hi ho97 (Nat.le_of_eq hb104)
   have nb113 : Nb b102 (.slice A85 ((ParseNetwork_v0 a0).length) d86) := nb_hi ho88 (Nat.le_of_eq hb104)
   have ho114 := own_kept ho97 k105
   have ho115 := own_kept ho88 k105
   refine W.ss (v := .agg #[.int .i64 (ParseNetwork_v0m a0), .slice A85 ((ParseNetwork_v0 a0).length) d86]) (j := 0) (news := [.int .i64 (ParseNetwork_v0m a0), .slice A85 ((ParseNetwork_v0 a0).length) d86]) (cs' := #[.int .i64 (ParseNetwork_v0m a0), .slice A85 ((ParseNetwork_v0 a0).length) d86]) s107 rfl kk rfl rfl kk kk x106 kk kk (by simp) kk kk (.inr (Nl (s96).size (Nat.le_of_eq hb104))) (fun w116 g117 x118 s119 => ?_)
   have ho120 := own_grown ho114 g117 (fun j e1 e2 => by cases e2; exact nb112 e1.symm)
   have ho121 := own_grown ho115 g117 (fun j e1 e2 => by cases e2; exact nb113 e1.symm)
   refine Fa (.bool (ParseNetwork_v1 a0)) ?_
   apply F.es
   have x22 := Sk s119 x22 onn
   have x53 := Sk s119 x53 onn
   have c122 := (Sb c82 s119 nkk)
   have rd123 := Rk rd83 (SG.below s119)
   apply h17
   as_aux_lemma =>
    refine wk fun K18 h18 => ?_
    refine wk fun K19 h19 => ?_
    refine W.region_plain (row := none) [(0, false), (1, false), (2, true), (3, false), (4, false), (5, false), (6, false), (7, false), (8, false)] kk ?_
    have s124 := SG.self w116 none
    refine Fq (.agg #[.int .i64 (ParseNetwork_v0m a0), .slice A85 ((ParseNetwork_v0 a0).length) d86]) (r_load2 rfl ek kk kk (sgS (blk_cell (j := 0) x118 kk) onn) (sgS (blk_cell (j := 1) x118 kk) onn)) ?_
    refine Fq (.agg #[.int .i64 (ParseNetwork_v0m a0), .slice A3 ((ParseNetwork_v0 a0).length) d4]) (r_load2 rfl ek kk kk (sgS (blk_cell (j := 0) x22 kk) onn) (sgS (blk_cell (j := 1) x22 kk) onn)) ?_
    refine Fc [.agg #[.int .i64 (ParseNetwork_v0m a0), .slice A85 ((ParseNetwork_v0 a0).length) d86], .agg #[.int .i64 (ParseNetwork_v0m a0), .slice A3 ((ParseNetwork_v0 a0).length) d4]] (eqNetwork_below (ParseNetwork_v0m a0) A85 A3 ((ParseNetwork_v0 a0).length) d86 d4 (ParseNetwork_v0 a0) _ (own_rd ho121) (Rk rd123 (SG.below s124)) (by omega)) ?_
    rintro e w126 ⟨rfl, b125⟩
    have s127 := SG.of_below s124 b125
    refine ⟨_, rfl, s127, ?_⟩
    apply F.nx
    have ho128 := own_kept ho120 b125
    refine Fq (.bool false) (r_not (b := true) rfl ek rfl) ?_
    refine Fv (.bool false) ?_
    refine Fv (.bool (ParseNetwork_v1 a0)) ?_
    refine Fv (.bool (ParseNetwork_v1 a0)) ?_
    refine Fq (.bool false) (r_neqB (m := (ParseNetwork_v1 a0)) (n := (ParseNetwork_v1 a0)) rfl ek ek kk (by rw [show ((ParseNetwork_v1 a0) == (ParseNetwork_v1 a0)) = true from beq_iff_eq.2 rfl]; try rfl)) ?_
    refine Fq (.bool false) (r_pick (b := false) rfl ek ek) ?_
    apply F.es
    have x53 := Sk s127 x53 onn
    have c130 := (Sb c122 s127 nkk)
    apply h19
    refine wp_cond_false ek ?_
    apply wp_skip
    apply h18
    refine wk fun K20 h20 => ?_
    refine Rq 1 ?_
    refine Fa (.int .i64 1) ?_
    apply F.es
    apply h20
    refine wk fun K21 h21 => ?_
    refine W.region_plain (row := none) [(0, false), (1, false), (2, true), (3, false)] kk ?_
    have s132 := SG.self w126 none
    refine Fq (.agg #[.int .i64 (ParseNetwork_v0m a0), .slice A27 ((ParseNetwork_v0 a0).length) d28]) (r_load2 rfl ek kk kk (sgS (blk_cell (j := 0) x53 kk) onn) (sgS (blk_cell (j := 1) x53 kk) onn)) ?_
    refine Fv (.int .i64 1) ?_
    refine Fc [.agg #[.int .i64 (ParseNetwork_v0m a0), .slice A27 ((ParseNetwork_v0 a0).length) d28], .int .i64 1] (heldNetwork_below (ParseNetwork_v0m a0) A27 ((ParseNetwork_v0 a0).length) d28 1 _ (own_rd ho128) (by omega) (by omega) (by omega)) ?_
    rintro e w134 ⟨rfl, b133⟩
    have s135 := SG.of_below s132 b133
    refine ⟨_, rfl, s135, ?_⟩
    apply F.nx
    refine Fa (.int .i64 (1 + 4 * (((ParseNetwork_v0 a0).length : Nat) : Int))) ?_
    apply F.es
    have c138 := (Sb c130 s135 nkk)
    apply h21
    refine wk fun K22 h22 => ?_
    refine wk fun K23 h23 => ?_
    refine Rq 2 ?_
    refine Fv (.int .i64 (1 + 4 * (((ParseNetwork_v0 a0).length : Nat) : Int))) ?_
    refine Fq (.bool false) (r_lss (m := (1 + 4 * (((ParseNetwork_v0 a0).length : Nat) : Int))) (n := 0) rfl ek ek (df (by omega))) ?_
    apply F.es
    apply h23
    as_aux_lemma =>
     refine wp_cond_false ek ?_
     apply wp_skip
     apply h22
     refine wk fun K24 h24 => ?_
     refine wk fun K25 h25 => ?_
     refine Rq 3 ?_
     refine Fv (.int .i64 (1 + 4 * (((ParseNetwork_v0 a0).length : Nat) : Int))) ?_
     refine Fv (.int .i64 (1 + 4 * (((ParseNetwork_v0 a0).length : Nat) : Int))) ?_
     refine Fq (.bool false) (r_neq (m := (1 + 4 * (((ParseNetwork_v0 a0).length : Nat) : Int))) (n := (1 + 4 * (((ParseNetwork_v0 a0).length : Nat) : Int))) rfl ek ek (df (by omega))) ?_
     apply F.es
     apply h25
     refine wp_cond_false ek ?_
     apply wp_skip
     apply h24
     refine wk fun K26 h26 => ?_
     refine Rq 1 ?_
     refine Fa (.bool true) ?_
     apply F.es
     apply h26
     refine wp_ret ?_
     try simp only [Exit.then]
     refine ret1 (v := .bool true) rfl kk ?_
     exact ⟨rfl, c138⟩
end Go.Proofs.YtdlcldaogcbnlaaDoor
