/- What the texts behind it build on; conditions: none. -/
import Derived.Test.YtdbgfejeleafgaaPh9
namespace Go.Proofs.Ytdbgfejeleafgaa
open Go.RowKit
set_option linter.unusedVariables false
set_option linter.unusedSimpArgs false
def bpOf (r : Option (List Int × Int)) : List Int := match r with | some b => b.1 | none => []
def ltOf (r : Option (List Int × Int)) : Int := match r with | some b => b.2 | none => 0
theorem fd_some {fd : Bool} {b : List Int × Int} (h : fd = true) : (bif fd then some b else none) = some b := by rw [h]; rfl
theorem fd_none {fd : Bool} {b : List Int × Int} (h : fd = false) : (bif fd then some b else none) = none := by rw [h]; rfl
theorem best_fin {r : Option (List Int × Int)} {fd : Bool} {bp : List Int} {lt : Int} (h : r = bif fd then some (bp, lt) else none) (hn : fd = false → bp = [] ∧ lt = 0) : bp = bpOf r ∧ lt = ltOf r ∧ fd = r.isSome := by
  subst h
  cases fd with
  | true => exact ⟨rfl, rfl, rfl⟩
  | false => obtain ⟨rfl, rfl⟩ := hn rfl; exact ⟨rfl, rfl, rfl⟩
theorem bestP_len {ps : List Pp} {vs : List Vv} {s id : Int} {h : List Int → Int} (hv : vs.length ≤ 10) : (bpOf (bestOf (cutB ps vs s id) h (openIds vs))).length ≤ 10 := by
  have := openIds_len vs
  cases hr : bestOf (cutB ps vs s id) h (openIds vs) with
  | none => simp [bpOf]
  | some b => have := bestOf_len hr; show b.1.length ≤ 10; omega
set_option maxRecDepth 100000 in
set_option maxHeartbeats 8000000 in
theorem bestPlan_any (m : Int) (A : Option Addr) (n c : Nat) (ps : List Pp) (A2 : Option Addr) (n2 c2 : Nat) (vs : List Vv) (s id : Int) (g : FuncId) (lb : Array Value) (h : List Int → Int) (w : World) (ha : Rd w 4 A n (pipesV ps)) (hb : Rd w 4 A2 n2 (valvesV vs)) (hn : n ≤ 1048576) (hn2 : n2 ≤ 1048576) (hfm2 : Fm A2 n2 c2) (hv9 : GoodVal m ps vs) (hs : 1 ≤ s ∧ s ≤ m) (hfa : 0 ≤ findL ps id) (he : enters Try.prog g = true) (HG : ∀ W (A : Option Addr) (n c : Nat) (pl : List Int), Below w.heap.size w W → Rd W 1 A n (intsV pl) → n ≤ 1000000 → Calls Try.prog g (#[.slice A n c] ++ lb) W fun e w' => e = .returned (.int .i64 (h pl)) ∧ Below W.heap.size W w') :
    Calls Try.prog 110 #[.agg #[.int .i64 m, .slice A n c], .slice A2 n2 c2, .int .i64 s, .int .i64 id, .func (.func g) #[] lb] w fun e w' => ∃ A' d, e = .returned (.tuple #[.slice A' (bpOf (bestOf (cutB ps vs s id) h (openIds vs))).length d, .int .i64 (ltOf (bestOf (cutB ps vs s id) h (openIds vs))), .bool (bestOf (cutB ps vs s id) h (openIds vs)).isSome]) ∧ w'.ownsRow w.heap.size 3 1 (.slice A' (bpOf (bestOf (cutB ps vs s id) h (openIds vs))).length d) (bpOf (bestOf (cutB ps vs s id) h (openIds vs))).length (intsV (bpOf (bestOf (cutB ps vs s id) h (openIds vs)))) ∧ Below w.heap.size w w' := by
 have hl := rd_pipes_len ha
 have hl2 := rd_valves_len hb
 have hg := hv9.net
 have hgl := hg.lo
 have hgh := hg.hi
 have hp := hg.pipesIn
 have hlen10 := hg.len
 have hu := hv9.uniq
 have hvl := hv9.len
 have hfl := findL_lt ps id
 go_enter Try.func110, Try.ntmps110
 refine F.begin 107 [(0, .agg #[.int .i64 m, .slice A n c]), (1, .slice A2 n2 c2), (2, .int .i64 s), (3, .int .i64 id), (4, .func (.func g) #[] lb)] (fun U0 => ?_)
 refine wk fun K1 h1 => ?_
 refine W.region_plain (row := none) [(0, true), (1, false), (2, false), (3, false)] kk ?_
 have s10 := SG.self w none
 refine W.sn (fun b => .pointer (some ⟨b, 0, none⟩)) #[.int .i64 m, .slice A n c] 26 s10 rfl kk rfl (fun _ => by kernel_rfl) (fun b11 w12 hb13 k14 x15 s16 => ?_)
 apply F.nx
 have lo17 : w.heap.size ≤ b11 := Nl ((Sb (Below.refl _ _) s10 nkk)).size (Nat.le_of_eq hb13)
 refine Fa (.slice none 0 0) ?_
 refine Fa (.int .i64 0) ?_
 refine Fa (.bool false) ?_
 apply F.es
 have c18 := (Sb (Below.refl _ _) s16 nkk)
 apply h1
 refine wk fun K2 h2 => ?_
 refine W.region_plain (row := none) [(0, true), (1, false)] kk ?_
 have s19 := SG.self w12 none
 refine W.sn (fun b => .slice (some ⟨b, 0, none⟩) 0 0) #[] 3 s19 rfl kk rfl (fun _ => by kernel_rfl) (fun b20 w21 hb22 k23 x24 s25 => ?_)
 apply F.nx
 have lo26 : w.heap.size ≤ b20 := Nl ((Sb c18 s19 nkk)).size (Nat.le_of_eq hb22)
 have ne27 : b11 ≠ b20 := Nat.ne_of_lt (Nat.lt_of_lt_of_eq (Nat.lt_of_lt_of_le (blk_lt x15) (s19).size) hb22)
 refine Fa (.slice (some ⟨b20, 0, none⟩) 0 0) ?_
 apply F.es
 have x15 := Sk s25 x15 onn
 have c28 := (Sb c18 s25 nkk)
 apply h2
 refine wk fun K3 h3 => ?_
 refine wk fun K4 h4 => ?_
 refine Rq 3 ?_
 refine Fv (.slice A2 n2 c2) ?_
 refine Fq (.int .i64 (n2 : Int)) (r_len (A := A2) (n := n2) (c := c2) rfl ek kk) ?_
 refine Fv (.int .i64 0) ?_
 apply F.es
 apply h4
 refine wp_block ?_
 have ho29 := own_empty (base := w.heap.size) (size := 1) x24 lo26
 replace ho29 : World.ownsRow _ _ _ _ _ _ (intsV []) := ho29
 have nb30 : Nb b11 (.slice (some ⟨b20, 0, none⟩) 0 0) := nb_new ne27
 refine loopK (fun am0 aa0 wl0 => ∃ (j : Nat) (A0_13 : Option Addr) (n0_13 : Nat) (c0_13 : Nat) , Kn aa0 [(0, .agg #[.int .i64 m, .slice A n c]), (1, .slice A2 n2 c2), (2, .int .i64 s), (3, .int .i64 id), (4, .func (.func g) #[] lb), (5, .pointer (some ⟨b11, 0, none⟩)), (10, .slice none 0 0), (11, .int .i64 0), (12, .bool false), (13, .slice A0_13 n0_13 c0_13), (26, .slice A2 n2 c2), (27, .int .i64 (n2 : Int)), (28, .int .i64 (j : Int))] 107 ∧ (am0 = n2 - j) ∧ (j ≤ n2) ∧ (n0_13 ≤ j) ∧ (wl0.heap[b11]? = some (.cells #[.int .i64 m, .slice A n c] 26 (0, 0))) ∧ (wl0.ownsRow w.heap.size 3 1 (.slice A0_13 n0_13 c0_13) n0_13 (intsV (openIds (vs.take j)))) ∧ (Nb b11 (.slice A0_13 n0_13 c0_13)) ∧ (Below w.heap.size w wl0)) (n2 - 0) ?_ ?_
 ·exact ⟨0, (some ⟨b20, 0, none⟩), 0, 0, Kn.of, rfl, (Nat.zero_le _), (Nat.zero_le _), x15, ho29, nb30, c28⟩
 rintro am0 aa0 wl0 K5 h5 ⟨j, A0_13, n0_13, c0_13, ⟨U0, rfl⟩, rfl, hj, hb13, x15, ho0_13, nb0_13_b11, c31⟩
 refine wk fun K6 h6 => ?_
 refine Rq 1 ?_
 by_cases q32 : ((j : Int) : Int) < ((n2 : Int) : Int)
 ·refine Fq (.bool true) (r_lss (m := (j : Int)) (n := (n2 : Int)) rfl ek ek (dt q32)) ?_
  apply F.es
  apply h6
  refine wk fun K7 h7 => ?_
  refine wp_cond_true ek ?_
  apply wp_skip
  apply h7
  refine wk fun K8 h8 => ?_
  refine wp_block ?_
  refine wk fun K9 h9 => ?_
  refine W.region_plain (row := none) [(0, false), (1, false), (2, true), (3, true)] kk ?_
  have s33 := SG.self wl0 none
  obtain ⟨x34, hx35⟩ := get_of (zs := vs) (k := j) (by have := hl2; omega)
  obtain ⟨b36, o37, hA38, hb39, hc40, hc41, hc42, hc43⟩ := Rd.elValve hb hx35
  refine Fq (.pointer (some ⟨b36, o37 + j * 4, none⟩)) (r_idx (n := n2) (c := c2) (k := j) rfl ek hA38 kk kk (by have := hl2; omega)) ?_
  refine Fq (.agg #[.int .i64 x34.id, .int .i64 x34.pipe, .int .i64 x34.node, .bool x34.shut]) (r_load4 rfl ek kk kk (sgS (later c31 hc40) (by simp)) (sgS (later c31 hc41) (by simp)) (sgS (later c31 hc42) (by simp)) (sgS (later c31 hc43) (by simp))) ?_
  refine W.sn (fun b => .pointer (some ⟨b, 0, none⟩)) #[.int .i64 0, .int .i64 0, .int .i64 0, .bool false] 40 s33 rfl kk rfl (fun _ => by kernel_rfl) (fun b44 w45 hb46 k47 x48 s49 => ?_)
  apply F.nx
  have lo50 : w.heap.size ≤ b44 := Nl ((Sb c31 s33 nkk)).size (Nat.le_of_eq hb46)
  have nb52 : Nb b44 (.slice A0_13 n0_13 c0_13) := nb_hi ho0_13 (Nat.le_of_eq hb46)
  have ho53 := own_kept ho0_13 k47
  refine W.ss (v := .agg #[.int .i64 x34.id, .int .i64 x34.pipe, .int .i64 x34.node, .bool x34.shut]) (j := 0) (news := [.int .i64 x34.id, .int .i64 x34.pipe, .int .i64 x34.node, .bool x34.shut]) (cs' := #[.int .i64 x34.id, .int .i64 x34.pipe, .int .i64 x34.node, .bool x34.shut]) s49 rfl kk rfl rfl kk kk x48 kk kk (by simp) kk kk (.inr (Nl (s33).size (Nat.le_of_eq hb46))) (fun w54 g55 x56 s57 => ?_)
  have ho58 := own_grown ho53 g55 (fun j e1 e2 => by cases e2; exact nb52 e1.symm)
  apply F.es
  have x15 := Sk s57 x15 onn
  have c59 := (Sb c31 s57 nkk)
  apply h9
  refine wk fun K10 h10 => ?_
  refine Rq 3 ?_
  refine Fq (.pointer (some ⟨b44, 3, none⟩)) (r_field (k := 3) rfl ek kk) ?_
  refine Fl (.bool x34.shut) (eqS (blk_cell (j := 3) x56 kk)) ?_
  refine Fq (.bool (!x34.shut)) (r_not (b := x34.shut) rfl ek rfl) ?_
  apply F.es
  apply h10
  rcases Bool.eq_false_or_eq_true (!x34.shut) with q60 | q60
  ·rw [q60]
   refine wp_cond_true ek ?_
   refine W.region_plain (row := (Value.ownBlock (.slice A0_13 n0_13 c0_13))) [(0, false), (1, false), (2, false), (3, true), (4, true), (5, false)] kk ?_
   have s61 := SG.self w54 (Value.ownBlock (.slice A0_13 n0_13 c0_13))
   refine Fv (.slice A0_13 n0_13 c0_13) ?_
   refine Fq (.pointer (some ⟨b44, 0, none⟩)) (r_field0 rfl ek kk) ?_
   refine Fl (.int .i64 x34.id) (sgS (blk_cell (j := 0) x56 kk) nb52) ?_
   refine W.sn (fun b => .slice (some ⟨b, 0, none⟩) 1 1) #[.int .i64 x34.id] 3 s61 rfl kk rfl (fun _ => by kernel_rfl) (fun b62 w63 hb64 k65 x66 s67 => ?_)
   apply F.nx
   have lo68 : w.heap.size ≤ b62 := Nl ((Sb c59 s61 (fun kq e => (World.ownsRow.lt ho58 kq e).1))).size (Nat.le_of_eq hb64)
   have ho72 := own_kept ho58 k65
   refine W.sap (e := 3) (size := 1) (base := w.heap.size) (m := 1) (v := .slice A0_13 n0_13 c0_13) (c := 1) s67 rfl rfl rfl rfl kk kk kk ho72 x66 kk kk (by omega) (by omega) (by have := ((Sb c59 s67 (fun kq e => (World.ownsRow.lt ho58 kq e).1))).size; omega) (.inl rfl) (fun g73 cap74 w75 ho76 hg77 hat78 hlt79 s80 => ?_)
   apply F.nx
   have nb81 : Nb b11 (.slice (some ⟨g73, 0, none⟩) (n0_13 + 1) cap74) := nb_app nb0_13_b11 (Nat.lt_of_lt_of_le (blk_lt x15) (s67).size) hat78
   have ho76 := own_snoc ho76
   refine Fa (.slice (some ⟨g73, 0, none⟩) (n0_13 + 1) cap74) ?_
   apply F.es
   have x15 := Sk s80 x15 nb0_13_b11
   have c84 := (Sb c59 s80 (fun kq e => (World.ownsRow.lt ho58 kq e).1))
   apply h8
   refine Rq 2 ?_
   refine Fq (.int .i64 ((j + 1 : Nat) : Int)) (r_add (m := (j : Int)) (n := 1) (z := ((j + 1 : Nat) : Int)) rfl ek ek (by omega) (by omega)) ?_
   refine Fv (.int .i64 ((j + 1 : Nat) : Int)) ?_
   apply F.es
   exact h5 _ _ _ (by omega : (n2 - (j + 1)) < _) ⟨j + 1, (some ⟨g73, 0, none⟩), (n0_13 + 1), cap74, Kn.of, rfl, (by omega), (by omega), x15, (by rw [openIds_yes hx35 (by simpa using q60)]; exact ho76), nb81, c84⟩
  rw [q60]
  refine wp_cond_false ek ?_
  apply wp_skip
  apply h8
  refine Rq 2 ?_
  refine Fq (.int .i64 ((j + 1 : Nat) : Int)) (r_add (m := (j : Int)) (n := 1) (z := ((j + 1 : Nat) : Int)) rfl ek ek (by omega) (by omega)) ?_
  refine Fv (.int .i64 ((j + 1 : Nat) : Int)) ?_
  apply F.es
  exact h5 _ _ _ (by omega : (n2 - (j + 1)) < _) ⟨j + 1, A0_13, n0_13, c0_13, Kn.of, rfl, (by omega), (by omega), x15, (by rw [openIds_no hx35 (by simpa using q60)]; exact ho58), nb0_13_b11, c59⟩
 refine Fq (.bool false) (r_lss (m := (j : Int)) (n := (n2 : Int)) rfl ek ek (df q32)) ?_
 apply F.es
 apply h6
 refine wk fun K11 h11 => ?_
 refine wp_cond_false ek ?_
 refine wp_exit ?_
 apply h3
 refine wk fun K12 h12 => ?_
 refine W.region_plain (row := none) [(0, true), (1, false), (2, false), (3, false)] kk ?_
 have s85 := SG.self wl0 none
 refine W.sn (fun b => .slice (some ⟨b, 0, none⟩) 0 0) #[] 3 s85 rfl kk rfl (fun _ => by kernel_rfl) (fun b86 w87 hb88 k89 x90 s91 => ?_)
 apply F.nx
 have lo92 : w.heap.size ≤ b86 := Nl ((Sb c31 s85 nkk)).size (Nat.le_of_eq hb88)
 have ne93 : b11 ≠ b86 := Nat.ne_of_lt (Nat.lt_of_lt_of_eq (Nat.lt_of_lt_of_le (blk_lt x15) (s85).size) hb88)
 have nb94 : Nb b86 (.slice A0_13 n0_13 c0_13) := nb_hi ho0_13 (Nat.le_of_eq hb88)
 have ho95 := own_kept ho0_13 k89
 refine Fa (.slice (some ⟨b86, 0, none⟩) 0 0) ?_
 refine Fa (.int .i64 0) ?_
 refine Fa (.bool false) ?_
 apply F.es
 have x15 := Sk s91 x15 onn
 have c96 := (Sb c31 s91 nkk)
 apply h12
 refine wk fun K13 h13 => ?_
 refine wk fun K14 h14 => ?_
 refine Rq 4 ?_
 refine Fv (.slice A0_13 n0_13 c0_13) ?_
 refine Fq (.int .i64 (n0_13 : Int)) (r_len (A := A0_13) (n := n0_13) (c := c0_13) rfl ek kk) ?_
 refine Fq (.int .i64 ((2 ^ n0_13 : Nat) : Int)) (r_shl (k := n0_13) (yk := .i64) rfl ek ek (by omega)) ?_
 refine Fv (.int .i64 0) ?_
 apply F.es
 apply h14
 refine wp_block ?_
 have e13 : openIds (vs.take j) = (openIds vs) := by rw [List.take_of_length_le (by omega)]
 have holn := openIds_len vs
 have ho97 := ho95
 rw [e13] at ho97
 have ho98 := own_empty (base := w.heap.size) (size := 1) x90 lo92
 replace ho98 : World.ownsRow _ _ _ _ _ _ (intsV []) := ho98
 have nr99 : NbR (.slice (some ⟨b86, 0, none⟩) 0 0) (.slice A0_13 n0_13 c0_13) := nbr_new nb94
 have nb100 : Nb b11 (.slice (some ⟨b86, 0, none⟩) 0 0) := nb_new ne93
 have rd102 := own_rd ho97
 have hl103 := rd_ints_len rd102
 have sp105 := sp_of_nbr (n := n0_13) (NbR.symm nr99)
 have hpw : 2 ^ n0_13 ≤ 2 ^ 10 := Nat.pow_le_pow_right (by omega) (by omega)
 refine loopK (fun am1 aa1 wl1 => ∃ (t : Nat) (bp : List Int) (lt : Int) (fd : Bool) (A1_16 : Option Addr) (n1_16 : Nat) (c1_16 : Nat) , Kn aa1 [(0, .agg #[.int .i64 m, .slice A n c]), (1, .slice A2 n2 c2), (2, .int .i64 s), (3, .int .i64 id), (4, .func (.func g) #[] lb), (5, .pointer (some ⟨b11, 0, none⟩)), (10, .slice none 0 0), (11, .int .i64 0), (12, .bool false), (13, .slice A0_13 n0_13 c0_13), (16, .slice A1_16 n1_16 c1_16), (17, .int .i64 lt), (18, .bool fd), (26, .slice A2 n2 c2), (27, .int .i64 (n2 : Int)), (28, .int .i64 (j : Int)), (29, .bool false), (44, .int .i64 ((2 ^ n0_13 : Nat) : Int)), (45, .int .i64 (t : Int))] 107 ∧ (am1 = 2 ^ n0_13 - t) ∧ (t ≤ 2 ^ n0_13) ∧ (bestTo (cutB ps vs s id) h (openIds vs) t = bif fd then some (bp, lt) else none) ∧ (fd = false → bp = [] ∧ lt = 0) ∧ (n1_16 ≤ 10) ∧ (wl1.heap[b11]? = some (.cells #[.int .i64 m, .slice A n c] 26 (0, 0))) ∧ (wl1.ownsRow w.heap.size 3 1 (.slice A1_16 n1_16 c1_16) n1_16 (intsV bp)) ∧ (Nb b11 (.slice A1_16 n1_16 c1_16)) ∧ (Rd wl1 1 A0_13 n0_13 (intsV (openIds vs))) ∧ (Sp A0_13 n0_13 (Value.ownBlock (.slice A1_16 n1_16 c1_16))) ∧ (Below w.heap.size w wl1)) (2 ^ n0_13 - 0) ?_ ?_
 ·exact ⟨0, [], 0, false, (some ⟨b86, 0, none⟩), 0, 0, Kn.of, rfl, (Nat.zero_le _), rfl, (fun _ => ⟨rfl, rfl⟩), (by omega), x15, ho98, nb100, rd102, sp105, c96⟩
 rintro am1 aa1 wl1 K15 h15 ⟨t, bp, lt, fd, A1_16, n1_16, c1_16, ⟨U1, rfl⟩, rfl, ht, hst, hnf, hb16, x15, ho1_16, nb1_16_b11, rd1_13, sp1_13_16, c107⟩
 refine wk fun K16 h16 => ?_
 refine Rq 1 ?_
 by_cases q108 : ((t : Int) : Int) < (((2 ^ n0_13 : Nat) : Int) : Int)
 ·refine Fq (.bool true) (r_lss (m := (t : Int)) (n := ((2 ^ n0_13 : Nat) : Int)) rfl ek ek (dt q108)) ?_
  apply F.es
  apply h16
  refine wk fun K17 h17 => ?_
  refine wp_cond_true ek ?_
  apply wp_skip
  apply h17
  refine wk fun K18 h18 => ?_
  refine wp_block ?_
  refine wk fun K19 h19 => ?_
  refine Rq 2 ?_
  refine Fv (.int .i64 (t : Int)) ?_
  refine Fa (.int .i64 (t : Int)) ?_
  apply F.es
  apply h19
  refine wk fun K20 h20 => ?_
  refine W.region_plain (row := none) [(0, true), (1, false)] kk ?_
  have s109 := SG.self wl1 none
  refine W.sn (fun b => .slice (some ⟨b, 0, none⟩) 0 0) #[] 3 s109 rfl kk rfl (fun _ => by kernel_rfl) (fun b110 w111 hb112 k113 x114 s115 => ?_)
  apply F.nx
  have lo116 : w.heap.size ≤ b110 := Nl ((Sb c107 s109 nkk)).size (Nat.le_of_eq hb112)
  have sp117 : Sp A0_13 n0_13 (some b110) := sp_new rd1_13 (by have := (s109).size; have := hb112; omega)
  have ne118 : b11 ≠ b110 := Nat.ne_of_lt (Nat.lt_of_lt_of_eq (Nat.lt_of_lt_of_le (blk_lt x15) (s109).size) hb112)
  have nb119 : Nb b110 (.slice A1_16 n1_16 c1_16) := nb_hi ho1_16 (Nat.le_of_eq hb112)
  have ho120 := own_kept ho1_16 k113
  refine Fa (.slice (some ⟨b110, 0, none⟩) 0 0) ?_
  apply F.es
  have x15 := Sk s115 x15 onn
  have c121 := (Sb c107 s115 nkk)
  have rd122 := Rk rd1_13 (SG.below s115)
  apply h20
  refine wk fun K21 h21 => ?_
  refine wk fun K22 h22 => ?_
  refine Rq 3 ?_
  refine Fv (.slice A0_13 n0_13 c0_13) ?_
  refine Fq (.int .i64 (n0_13 : Int)) (r_len (A := A0_13) (n := n0_13) (c := c0_13) rfl ek kk) ?_
  refine Fv (.int .i64 0) ?_
  apply F.es
  apply h22
  refine wp_block ?_
  have ho123 := own_empty (base := w.heap.size) (size := 1) x114 lo116
  replace ho123 : World.ownsRow _ _ _ _ _ _ (intsV []) := ho123
  have nr124 : NbR (.slice (some ⟨b110, 0, none⟩) 0 0) (.slice A1_16 n1_16 c1_16) := nbr_new nb119
  have sp125 := sp_own (n' := 0) (c := 0) sp117
  have nb126 : Nb b11 (.slice (some ⟨b110, 0, none⟩) 0 0) := nb_new ne118
  refine loopK (fun am2 aa2 wl2 => ∃ (i : Nat) (A2_20 : Option Addr) (n2_20 : Nat) (c2_20 : Nat) , Kn aa2 [(0, .agg #[.int .i64 m, .slice A n c]), (1, .slice A2 n2 c2), (2, .int .i64 s), (3, .int .i64 id), (4, .func (.func g) #[] lb), (5, .pointer (some ⟨b11, 0, none⟩)), (10, .slice none 0 0), (11, .int .i64 0), (12, .bool false), (13, .slice A0_13 n0_13 c0_13), (16, .slice A1_16 n1_16 c1_16), (17, .int .i64 lt), (18, .bool fd), (19, .int .i64 (t : Int)), (20, .slice A2_20 n2_20 c2_20), (26, .slice A2 n2 c2), (27, .int .i64 (n2 : Int)), (28, .int .i64 (j : Int)), (29, .bool false), (44, .int .i64 ((2 ^ n0_13 : Nat) : Int)), (45, .int .i64 (t : Int)), (46, .bool true), (49, .slice A0_13 n0_13 c0_13), (50, .int .i64 (n0_13 : Int)), (51, .int .i64 (i : Int))] 107 ∧ (am2 = n0_13 - i) ∧ (i ≤ n0_13) ∧ (n2_20 ≤ i) ∧ (wl2.heap[b11]? = some (.cells #[.int .i64 m, .slice A n c] 26 (0, 0))) ∧ (wl2.ownsRow w.heap.size 3 1 (.slice A1_16 n1_16 c1_16) n1_16 (intsV bp)) ∧ (wl2.ownsRow w.heap.size 3 1 (.slice A2_20 n2_20 c2_20) n2_20 (intsV (choiceTo (openIds vs) t i))) ∧ (Nb b11 (.slice A2_20 n2_20 c2_20)) ∧ (NbR (.slice A2_20 n2_20 c2_20) (.slice A1_16 n1_16 c1_16)) ∧ (Rd wl2 1 A0_13 n0_13 (intsV (openIds vs))) ∧ (Rd wl2 1 A0_13 n0_13 (intsV (openIds vs))) ∧ (Sp A0_13 n0_13 (Value.ownBlock (.slice A2_20 n2_20 c2_20))) ∧ (Sp A0_13 n0_13 (Value.ownBlock (.slice A2_20 n2_20 c2_20))) ∧ (Below w.heap.size w wl2)) (n0_13 - 0) ?_ ?_
  ·exact ⟨0, (some ⟨b110, 0, none⟩), 0, 0, Kn.of, rfl, (Nat.zero_le _), (Nat.zero_le _), x15, ho120, ho123, nb126, nr124, rd122, rd122, sp125, sp125, c121⟩
  rintro am2 aa2 wl2 K23 h23 ⟨i, A2_20, n2_20, c2_20, ⟨U2, rfl⟩, rfl, hi, hb20, x15, ho2_16, ho2_20, nb2_20_b11, nr2_1_0, rd2_49, rd2_13, sp2_49_20, sp2_13_20, c127⟩
  refine wk fun K24 h24 => ?_
  refine Rq 1 ?_
  by_cases q128 : ((i : Int) : Int) < ((n0_13 : Int) : Int)
  ·refine Fq (.bool true) (r_lss (m := (i : Int)) (n := (n0_13 : Int)) rfl ek ek (dt q128)) ?_
   apply F.es
   apply h24
   refine wk fun K25 h25 => ?_
   refine wp_cond_true ek ?_
   apply wp_skip
   apply h25
   refine wk fun K26 h26 => ?_
   refine wp_block ?_
   refine wk fun K27 h27 => ?_
   refine Rq 5 ?_
   refine Fv (.int .i64 (i : Int)) ?_
   obtain ⟨x129, hx130⟩ := get_of (zs := (openIds vs)) (k := i) (by have := hl103; omega)
   obtain ⟨b131, o132, hA133, hb134, hc135⟩ := Rd.elInt rd2_49 hx130
   refine Fq (.pointer (some ⟨b131, o132 + i, none⟩)) (r_idx1 (n := n0_13) (c := c0_13) (k := i) rfl ek hA133 kk kk (by have := hl103; omega)) ?_
   refine Fl (.int .i64 x129) (eqS hc135) ?_
   refine Fa (.int .i64 (i : Int)) ?_
   refine Fa (.int .i64 x129) ?_
   apply F.es
   apply h27
   refine wk fun K28 h28 => ?_
   refine Rq 5 ?_
   refine Fv (.int .i64 (t : Int)) ?_
   refine Fv (.int .i64 (i : Int)) ?_
   refine Fq (.int .i64 ((t / 2 ^ i : Nat) : Int)) (r_shr (q := t) (k := i) (yk := .i64) rfl ek ek (by omega)) ?_
   refine Fq (.int .i64 (((t / 2 ^ i) % 2 : Nat) : Int)) (r_and1 (q := t / 2 ^ i) rfl ek kk (by have h9 := Nat.div_le_self t (2 ^ i); have h8 : (2 : Nat) ^ 10 = 1024 := rfl; omega)) ?_
   by_cases q136 : ((((t / 2 ^ i) % 2 : Nat) : Int) : Int) = (1 : Int)
   ·refine Fq (.bool true) (r_eql (m := (((t / 2 ^ i) % 2 : Nat) : Int)) (n := 1) rfl ek ek (dt q136)) ?_
    apply F.es
    apply h28
    refine wp_cond_true ek ?_
    refine W.region_plain (row := (Value.ownBlock (.slice A2_20 n2_20 c2_20))) [(0, false), (1, false), (2, true), (3, true), (4, false)] kk ?_
    have s137 := SG.self wl2 (Value.ownBlock (.slice A2_20 n2_20 c2_20))
    refine Fv (.slice A2_20 n2_20 c2_20) ?_
    refine Fv (.int .i64 x129) ?_
    refine W.sn (fun b => .slice (some ⟨b, 0, none⟩) 1 1) #[.int .i64 x129] 3 s137 rfl kk rfl (fun _ => by kernel_rfl) (fun b138 w139 hb140 k141 x142 s143 => ?_)
    apply F.nx
    have lo144 : w.heap.size ≤ b138 := Nl ((Sb c127 s137 (fun kq e => (World.ownsRow.lt ho2_20 kq e).1))).size (Nat.le_of_eq hb140)
    have ho150 := own_kept ho2_16 k141
    have ho151 := own_kept ho2_20 k141
    refine W.sap (e := 3) (size := 1) (base := w.heap.size) (m := 1) (v := .slice A2_20 n2_20 c2_20) (c := 1) s143 rfl rfl rfl rfl kk kk kk ho151 x142 kk kk (by omega) (by omega) (by have := ((Sb c127 s143 (fun kq e => (World.ownsRow.lt ho2_20 kq e).1))).size; omega) (.inl rfl) (fun g152 cap153 w154 ho155 hg156 hat157 hlt158 s159 => ?_)
    apply F.nx
    have nb160 : Nb b11 (.slice (some ⟨g152, 0, none⟩) (n2_20 + 1) cap153) := nb_app nb2_20_b11 (Nat.lt_of_lt_of_le (blk_lt x15) (s143).size) hat157
    have ho155 := own_snoc ho155
    have sp162 := sp_app (v' := .slice (some ⟨g152, 0, none⟩) (n2_20 + 1) cap153) sp2_49_20 rd2_49 ((s143).size) (hat3 (v := .slice A2_20 n2_20 c2_20) hat157)
    have sp163 := sp_app (v' := .slice (some ⟨g152, 0, none⟩) (n2_20 + 1) cap153) sp2_13_20 rd2_13 ((s143).size) (hat3 (v := .slice A2_20 n2_20 c2_20) hat157)
    have nr164 : NbR (.slice (some ⟨g152, 0, none⟩) (n2_20 + 1) cap153) (.slice A1_16 n1_16 c1_16) := nbr_app nr2_1_0 (fun j h => (World.ownsRow.lt ho150 j h).2) (hat3 (v := .slice A2_20 n2_20 c2_20) hat157)
    have ho165 := own_grown ho150 hg156 (NbR.symm nr2_1_0)
    refine Fa (.slice (some ⟨g152, 0, none⟩) (n2_20 + 1) cap153) ?_
    apply F.es
    have x15 := Sk s159 x15 nb2_20_b11
    have c166 := (Sb c127 s159 (fun kq e => (World.ownsRow.lt ho2_20 kq e).1))
    have rd167 := rd_sep rd2_49 s159 sp2_49_20
    have rd168 := rd_sep rd2_13 s159 sp2_13_20
    apply h26
    refine Rq 2 ?_
    refine Fq (.int .i64 ((i + 1 : Nat) : Int)) (r_add (m := (i : Int)) (n := 1) (z := ((i + 1 : Nat) : Int)) rfl ek ek (by omega) (by omega)) ?_
    refine Fv (.int .i64 ((i + 1 : Nat) : Int)) ?_
    apply F.es
    exact h23 _ _ _ (by omega : (n0_13 - (i + 1)) < _) ⟨i + 1, (some ⟨g152, 0, none⟩), (n2_20 + 1), cap153, Kn.of, rfl, (by omega), (by omega), x15, ho165, (by rw [choiceTo_yes hx130 (by omega)]; exact ho155), nb160, nr164, rd167, rd168, sp162, sp163, c166⟩
   refine Fq (.bool false) (r_eql (m := (((t / 2 ^ i) % 2 : Nat) : Int)) (n := 1) rfl ek ek (df q136)) ?_
   apply F.es
   apply h28
   refine wp_cond_false ek ?_
   apply wp_skip
   apply h26
   refine Rq 2 ?_
   refine Fq (.int .i64 ((i + 1 : Nat) : Int)) (r_add (m := (i : Int)) (n := 1) (z := ((i + 1 : Nat) : Int)) rfl ek ek (by omega) (by omega)) ?_
   refine Fv (.int .i64 ((i + 1 : Nat) : Int)) ?_
   apply F.es
   exact h23 _ _ _ (by omega : (n0_13 - (i + 1)) < _) ⟨i + 1, A2_20, n2_20, c2_20, Kn.of, rfl, (by omega), (by omega), x15, ho2_16, (by rw [choiceTo_no (by omega)]; exact ho2_20), nb2_20_b11, nr2_1_0, rd2_49, rd2_13, sp2_49_20, sp2_13_20, c127⟩
  refine Fq (.bool false) (r_lss (m := (i : Int)) (n := (n0_13 : Int)) rfl ek ek (df q128)) ?_
  apply F.es
  apply h24
  refine wk fun K29 h29 => ?_
  refine wp_cond_false ek ?_
  refine wp_exit ?_
  apply h21
  refine wk fun K30 h30 => ?_
  refine wk fun K31 h31 => ?_
  refine W.region_plain (row := none) [(0, false), (1, false), (2, false), (3, false), (4, false), (5, true), (6, false)] kk ?_
  have s169 := SG.self wl2 none
  refine Fq (.agg #[.int .i64 m, .slice A n c]) (r_load2 rfl ek kk kk (sgS (blk_cell (j := 0) x15 kk) onn) (sgS (blk_cell (j := 1) x15 kk) onn)) ?_
  refine Fv (.slice A2 n2 c2) ?_
  refine Fv (.int .i64 s) ?_
  refine Fv (.int .i64 id) ?_
  refine Fv (.slice A2_20 n2_20 c2_20) ?_
  refine Fc [.agg #[.int .i64 m, .slice A n c], .slice A2 n2 c2, .int .i64 s, .int .i64 id, .slice A2_20 n2_20 c2_20] (isolates_any m A n c ps A2 n2 c2 vs s id A2_20 n2_20 c2_20 (choiceTo (openIds vs) t i) _ (Rk ha (Sb c127 s169 nkk)) (Rk hb (Sb c127 s169 nkk)) (by omega) (by omega) hfm2 hv9 hs hfa (own_rd ho2_20) (by omega)) ?_
  rintro e w171 ⟨rfl, b170⟩
  have s172 := SG.of_below s169 b170
  refine ⟨_, rfl, s172, ?_⟩
  apply F.nx
  have ho173 := own_kept ho2_16 b170
  have ho174 := own_kept ho2_20 b170
  rcases Bool.eq_false_or_eq_true (cutB ps vs s id (choiceTo (openIds vs) t i)) with q175 | q175
  ·rw [q175]
   refine Fq (.bool false) (r_not (b := true) rfl ek rfl) ?_
   apply F.es
   have x15 := Sk s172 x15 onn
   have c176 := (Sb c127 s172 nkk)
   have rd178 := Rk rd2_13 (SG.below s172)
   apply h31
   refine wp_cond_false ek ?_
   apply wp_skip
   apply h30
   refine wk fun K32 h32 => ?_
   refine W.region_plain (row := none) [(0, false), (1, false), (2, true), (3, false)] kk ?_
   have s179 := SG.self w171 none
   refine Fv (.func (.func g) #[] lb) ?_
   refine Fv (.slice A2_20 n2_20 c2_20) ?_
   refine W.scv (vs := [.slice A2_20 n2_20 c2_20]) (g := g) (lb := lb) rfl rfl kk kk he kk rfl (HG _ A2_20 n2_20 c2_20 (choiceTo (openIds vs) t i) ((Sb c176 s179 nkk)) (own_rd ho174) (by omega)) ?_
   rintro e w181 ⟨rfl, b180⟩
   have s182 := SG.of_below s179 b180
   refine ⟨_, rfl, s182, ?_⟩
   apply F.nx
   have ho183 := own_kept ho173 b180
   have ho184 := own_kept ho174 b180
   refine Fa (.int .i64 (h (choiceTo (openIds vs) t i))) ?_
   apply F.es
   have x15 := Sk s182 x15 onn
   have c185 := (Sb c176 s182 nkk)
   have rd187 := Rk rd178 (SG.below s182)
   apply h32
   refine wk fun K33 h33 => ?_
   refine W.region_plain (row := none) [(0, false), (1, false), (2, false), (3, true), (4, false), (5, false), (6, false), (7, true), (8, true), (9, false)] kk ?_
   have s188 := SG.self w181 none
   refine Fv (.int .i64 (h (choiceTo (openIds vs) t i))) ?_
   refine Fv (.slice A2_20 n2_20 c2_20) ?_
   refine Fq (.int .i64 (n2_20 : Int)) (r_len (A := A2_20) (n := n2_20) (c := c2_20) rfl ek kk) ?_
   refine W.sn (fun b => .slice (some ⟨b, 0, none⟩) 2 2) #[.int .i64 (h (choiceTo (openIds vs) t i)), .int .i64 (n2_20 : Int)] 3 s188 rfl kk rfl (fun _ => by kernel_rfl) (fun b189 w190 hb191 k192 x193 s194 => ?_)
   apply F.nx
   have lo195 : w.heap.size ≤ b189 := Nl ((Sb c185 s188 nkk)).size (Nat.le_of_eq hb191)
   have ho201 := own_kept ho183 k192
   have ho202 := own_kept ho184 k192
   refine Fv (.int .i64 lt) ?_
   refine Fv (.slice A1_16 n1_16 c1_16) ?_
   refine Fq (.int .i64 (n1_16 : Int)) (r_len (A := A1_16) (n := n1_16) (c := c1_16) rfl ek kk) ?_
   refine W.sn (fun b => .slice (some ⟨b, 0, none⟩) 2 2) #[.int .i64 lt, .int .i64 (n1_16 : Int)] 3 s194 rfl kk rfl (fun _ => by kernel_rfl) (fun b203 w204 hb205 k206 x207 s208 => ?_)
   apply F.nx
   have lo209 : w.heap.size ≤ b203 := Nl ((Sb c185 s194 nkk)).size (Nat.le_of_eq hb205)
   have x193 := (k206.block _ (blk_lt x193)).trans x193
   have ho216 := own_kept ho201 k206
   have ho217 := own_kept ho202 k206
   have ho218 := own_blk (base := w.heap.size) (size := 1) (n := 2) x193 lo195 rfl (by omega)
   replace ho218 : World.ownsRow _ _ _ _ _ _ (intsV [(h (choiceTo (openIds vs) t i)), (n2_20 : Int)]) := ho218
   have ho225 := own_blk (base := w.heap.size) (size := 1) (n := 2) x207 lo209 rfl (by omega)
   replace ho225 : World.ownsRow _ _ _ _ _ _ (intsV [lt, (n1_16 : Int)]) := ho225
   refine Fc [.slice (some ⟨b189, 0, none⟩) 2 2, .slice (some ⟨b203, 0, none⟩) 2 2] (slCompare_any (some ⟨b189, 0, none⟩) 2 2 ([(h (choiceTo (openIds vs) t i)), (n2_20 : Int)]) (some ⟨b203, 0, none⟩) 2 2 ([lt, (n1_16 : Int)]) _ (own_rd ho218) (by omega) (own_rd ho225) (by omega)) ?_
   rintro e w233 ⟨rfl, b232⟩
   have s234 := SG.of_below s208 b232
   refine ⟨_, rfl, s234, ?_⟩
   apply F.nx
   have ho235 := own_kept ho216 b232
   have ho236 := own_kept ho217 b232
   refine Fa (.int .i64 (cmpL ([(h (choiceTo (openIds vs) t i)), (n2_20 : Int)]) ([lt, (n1_16 : Int)]))) ?_
   apply F.es
   have x15 := Sk s234 x15 onn
   have c239 := (Sb c185 s234 nkk)
   have rd241 := Rk rd187 (SG.below s234)
   apply h33
   refine wk fun K34 h34 => ?_
   refine W.region_plain (row := none) [(0, false), (1, false), (2, false), (3, false), (4, false), (5, false), (6, false), (7, false), (8, false), (9, false), (10, false), (11, false), (12, true), (13, false), (14, false), (15, false)] kk ?_
   have s242 := SG.self w233 none
   refine Fv (.bool fd) ?_
   refine Fq (.bool (!fd)) (r_not (b := fd) rfl ek rfl) ?_
   refine Fv (.bool (!fd)) ?_
   rcases Bool.eq_false_or_eq_true (!fd) with q243 | q243
   ·rw [q243]
    refine Fs s242 ?_
    refine Fs s242 ?_
    refine Fq (.bool true) (r_pick (b := true) rfl ek ek) ?_
    refine Fv (.bool true) ?_
    refine Fs s242 ?_
    refine Fs s242 ?_
    refine Fs s242 ?_
    refine Fs s242 ?_
    refine Fs s242 ?_
    refine Fs s242 ?_
    refine Fs s242 ?_
    refine Fs s242 ?_
    refine Fq (.bool true) (r_pick (b := true) rfl ek ek) ?_
    apply F.es
    have x15 := Sk s242 x15 onn
    have c244 := (Sb c239 s242 nkk)
    have rd246 := Rk rd241 (SG.below s242)
    apply h34
    refine wp_cond_true ek ?_
    refine Rq 5 ?_
    refine Fv (.slice A2_20 n2_20 c2_20) ?_
    refine Fv (.int .i64 (h (choiceTo (openIds vs) t i))) ?_
    refine Fa (.slice A2_20 n2_20 c2_20) ?_
    refine Fa (.int .i64 (h (choiceTo (openIds vs) t i))) ?_
    refine Fa (.bool true) ?_
    apply F.es
    apply h18
    refine Rq 2 ?_
    refine Fq (.int .i64 ((t + 1 : Nat) : Int)) (r_add (m := (t : Int)) (n := 1) (z := ((t + 1 : Nat) : Int)) rfl ek ek (by omega) (by omega)) ?_
    refine Fv (.int .i64 ((t + 1 : Nat) : Int)) ?_
    apply F.es
    exact h15 _ _ _ (by omega : (2 ^ n0_13 - (t + 1)) < _) ⟨t + 1, (choiceTo (openIds vs) t i), (h (choiceTo (openIds vs) t i)), true, A2_20, n2_20, c2_20, Kn.of, rfl, (by omega), ((bestTo_next (hst.trans (fd_none (by simpa using q243)))).trans (by rw [show choice (openIds vs) t = choiceTo (openIds vs) t i from by unfold choice; rw [show (openIds vs).length = i by omega]]; exact bestStep_first q175)), (fun e => by cases e), (by omega), x15, ho236, nb2_20_b11, rd246, sp2_13_20, c244⟩
   rw [q243]
   refine Fv (.int .i64 (cmpL ([(h (choiceTo (openIds vs) t i)), (n2_20 : Int)]) ([lt, (n1_16 : Int)]))) ?_
   by_cases q247 : ((cmpL ([(h (choiceTo (openIds vs) t i)), (n2_20 : Int)]) ([lt, (n1_16 : Int)])) : Int) < (0 : Int)
   ·have hlp := rd_ints_len (own_rd ho236)
    have hlb := rd_ints_len (own_rd ho235)
    refine Fq (.bool true) (r_lss (m := (cmpL ([(h (choiceTo (openIds vs) t i)), (n2_20 : Int)]) ([lt, (n1_16 : Int)]))) (n := 0) rfl ek ek (dt q247)) ?_
    refine Fq (.bool true) (r_pick (b := false) rfl ek ek) ?_
    refine Fv (.bool true) ?_
    refine Fs s242 ?_
    refine Fs s242 ?_
    refine Fs s242 ?_
    refine Fs s242 ?_
    refine Fs s242 ?_
    refine Fs s242 ?_
    refine Fs s242 ?_
    refine Fs s242 ?_
    refine Fq (.bool true) (r_pick (b := true) rfl ek ek) ?_
    apply F.es
    have x15 := Sk s242 x15 onn
    have c248 := (Sb c239 s242 nkk)
    have rd250 := Rk rd241 (SG.below s242)
    apply h34
    refine wp_cond_true ek ?_
    refine Rq 5 ?_
    refine Fv (.slice A2_20 n2_20 c2_20) ?_
    refine Fv (.int .i64 (h (choiceTo (openIds vs) t i))) ?_
    refine Fa (.slice A2_20 n2_20 c2_20) ?_
    refine Fa (.int .i64 (h (choiceTo (openIds vs) t i))) ?_
    refine Fa (.bool true) ?_
    apply F.es
    apply h18
    refine Rq 2 ?_
    refine Fq (.int .i64 ((t + 1 : Nat) : Int)) (r_add (m := (t : Int)) (n := 1) (z := ((t + 1 : Nat) : Int)) rfl ek ek (by omega) (by omega)) ?_
    refine Fv (.int .i64 ((t + 1 : Nat) : Int)) ?_
    apply F.es
    exact h15 _ _ _ (by omega : (2 ^ n0_13 - (t + 1)) < _) ⟨t + 1, (choiceTo (openIds vs) t i), (h (choiceTo (openIds vs) t i)), true, A2_20, n2_20, c2_20, Kn.of, rfl, (by omega), ((bestTo_next (hst.trans (fd_some (by simpa using q243)))).trans (by rw [show choice (openIds vs) t = choiceTo (openIds vs) t i from by unfold choice; rw [show (openIds vs).length = i by omega]]; exact bestStep_yes q175 (by rw [better_cmp, show (((choiceTo (openIds vs) t i).length : Nat) : Int) = (n2_20 : Int) from by omega, show ((bp.length : Nat) : Int) = (n1_16 : Int) from by omega, decide_eq_true q247]; try rfl))), (fun e => by cases e), (by omega), x15, ho236, nb2_20_b11, rd250, sp2_13_20, c248⟩
   have hlp := rd_ints_len (own_rd ho236)
   have hlb := rd_ints_len (own_rd ho235)
   refine Fq (.bool false) (r_lss (m := (cmpL ([(h (choiceTo (openIds vs) t i)), (n2_20 : Int)]) ([lt, (n1_16 : Int)]))) (n := 0) rfl ek ek (df q247)) ?_
   refine Fq (.bool false) (r_pick (b := false) rfl ek ek) ?_
   refine Fv (.bool false) ?_
   refine Fv (.int .i64 (cmpL ([(h (choiceTo (openIds vs) t i)), (n2_20 : Int)]) ([lt, (n1_16 : Int)]))) ?_
   by_cases q251 : ((cmpL ([(h (choiceTo (openIds vs) t i)), (n2_20 : Int)]) ([lt, (n1_16 : Int)])) : Int) = (0 : Int)
   ·refine Fq (.bool true) (r_eql (m := (cmpL ([(h (choiceTo (openIds vs) t i)), (n2_20 : Int)]) ([lt, (n1_16 : Int)]))) (n := 0) rfl ek ek (dt q251)) ?_
    refine Fv (.bool true) ?_
    refine Fv (.slice A2_20 n2_20 c2_20) ?_
    refine Fv (.slice A1_16 n1_16 c1_16) ?_
    refine Fc [.slice A2_20 n2_20 c2_20, .slice A1_16 n1_16 c1_16] (slCompare_any A2_20 n2_20 c2_20 (choiceTo (openIds vs) t i) A1_16 n1_16 c1_16 bp _ (own_rd ho236) (by omega) (own_rd ho235) (by omega)) ?_
    rintro e w253 ⟨rfl, b252⟩
    have s254 := SG.of_below s242 b252
    refine ⟨_, rfl, s254, ?_⟩
    apply F.nx
    have ho255 := own_kept ho235 b252
    have ho256 := own_kept ho236 b252
    by_cases q259 : ((cmpL (choiceTo (openIds vs) t i) bp) : Int) < (0 : Int)
    ·refine Fq (.bool true) (r_lss (m := (cmpL (choiceTo (openIds vs) t i) bp)) (n := 0) rfl ek ek (dt q259)) ?_
     refine Fq (.bool true) (r_pick (b := true) rfl ek ek) ?_
     refine Fq (.bool true) (r_pick (b := false) rfl ek ek) ?_
     apply F.es
     have x15 := Sk s254 x15 onn
     have c260 := (Sb c239 s254 nkk)
     have rd262 := Rk rd241 (SG.below s254)
     apply h34
     refine wp_cond_true ek ?_
     refine Rq 5 ?_
     refine Fv (.slice A2_20 n2_20 c2_20) ?_
     refine Fv (.int .i64 (h (choiceTo (openIds vs) t i))) ?_
     refine Fa (.slice A2_20 n2_20 c2_20) ?_
     refine Fa (.int .i64 (h (choiceTo (openIds vs) t i))) ?_
     refine Fa (.bool true) ?_
     apply F.es
     apply h18
     refine Rq 2 ?_
     refine Fq (.int .i64 ((t + 1 : Nat) : Int)) (r_add (m := (t : Int)) (n := 1) (z := ((t + 1 : Nat) : Int)) rfl ek ek (by omega) (by omega)) ?_
     refine Fv (.int .i64 ((t + 1 : Nat) : Int)) ?_
     apply F.es
     exact h15 _ _ _ (by omega : (2 ^ n0_13 - (t + 1)) < _) ⟨t + 1, (choiceTo (openIds vs) t i), (h (choiceTo (openIds vs) t i)), true, A2_20, n2_20, c2_20, Kn.of, rfl, (by omega), ((bestTo_next (hst.trans (fd_some (by simpa using q243)))).trans (by rw [show choice (openIds vs) t = choiceTo (openIds vs) t i from by unfold choice; rw [show (openIds vs).length = i by omega]]; exact bestStep_yes q175 (by rw [better_cmp, show (((choiceTo (openIds vs) t i).length : Nat) : Int) = (n2_20 : Int) from by omega, show ((bp.length : Nat) : Int) = (n1_16 : Int) from by omega, decide_eq_false q247, decide_eq_true q251, decide_eq_true q259]; try rfl))), (fun e => by cases e), (by omega), x15, ho256, nb2_20_b11, rd262, sp2_13_20, c260⟩
    refine Fq (.bool false) (r_lss (m := (cmpL (choiceTo (openIds vs) t i) bp)) (n := 0) rfl ek ek (df q259)) ?_
    refine Fq (.bool false) (r_pick (b := true) rfl ek ek) ?_
    refine Fq (.bool false) (r_pick (b := false) rfl ek ek) ?_
    apply F.es
    have x15 := Sk s254 x15 onn
    have c263 := (Sb c239 s254 nkk)
    have rd265 := Rk rd241 (SG.below s254)
    apply h34
    refine wp_cond_false ek ?_
    apply wp_skip
    apply h18
    refine Rq 2 ?_
    refine Fq (.int .i64 ((t + 1 : Nat) : Int)) (r_add (m := (t : Int)) (n := 1) (z := ((t + 1 : Nat) : Int)) rfl ek ek (by omega) (by omega)) ?_
    refine Fv (.int .i64 ((t + 1 : Nat) : Int)) ?_
    apply F.es
    exact h15 _ _ _ (by omega : (2 ^ n0_13 - (t + 1)) < _) ⟨t + 1, bp, lt, fd, A1_16, n1_16, c1_16, Kn.of, rfl, (by omega), ((bestTo_next (hst.trans (fd_some (by simpa using q243)))).trans (by rw [show choice (openIds vs) t = choiceTo (openIds vs) t i from by unfold choice; rw [show (openIds vs).length = i by omega], bestStep_keep (by rw [better_cmp, show (((choiceTo (openIds vs) t i).length : Nat) : Int) = (n2_20 : Int) from by omega, show ((bp.length : Nat) : Int) = (n1_16 : Int) from by omega, decide_eq_false q247, decide_eq_true q251, decide_eq_false q259]; try rfl), show fd = true from (by simpa using q243)]; try rfl)), hnf, (by omega), x15, ho255, nb1_16_b11, rd265, sp1_13_16, c263⟩
   refine Fq (.bool false) (r_eql (m := (cmpL ([(h (choiceTo (openIds vs) t i)), (n2_20 : Int)]) ([lt, (n1_16 : Int)]))) (n := 0) rfl ek ek (df q251)) ?_
   refine Fv (.bool false) ?_
   refine Fs s242 ?_
   refine Fs s242 ?_
   refine Fs s242 ?_
   refine Fs s242 ?_
   refine Fq (.bool false) (r_pick (b := false) rfl ek ek) ?_
   refine Fq (.bool false) (r_pick (b := false) rfl ek ek) ?_
   apply F.es
   have x15 := Sk s242 x15 onn
   have c266 := (Sb c239 s242 nkk)
   have rd268 := Rk rd241 (SG.below s242)
   apply h34
   refine wp_cond_false ek ?_
   apply wp_skip
   apply h18
   refine Rq 2 ?_
   refine Fq (.int .i64 ((t + 1 : Nat) : Int)) (r_add (m := (t : Int)) (n := 1) (z := ((t + 1 : Nat) : Int)) rfl ek ek (by omega) (by omega)) ?_
   refine Fv (.int .i64 ((t + 1 : Nat) : Int)) ?_
   apply F.es
   exact h15 _ _ _ (by omega : (2 ^ n0_13 - (t + 1)) < _) ⟨t + 1, bp, lt, fd, A1_16, n1_16, c1_16, Kn.of, rfl, (by omega), ((bestTo_next (hst.trans (fd_some (by simpa using q243)))).trans (by rw [show choice (openIds vs) t = choiceTo (openIds vs) t i from by unfold choice; rw [show (openIds vs).length = i by omega], bestStep_keep (by rw [better_cmp, show (((choiceTo (openIds vs) t i).length : Nat) : Int) = (n2_20 : Int) from by omega, show ((bp.length : Nat) : Int) = (n1_16 : Int) from by omega, decide_eq_false q247, decide_eq_false q251]; try rfl), show fd = true from (by simpa using q243)]; try rfl)), hnf, (by omega), x15, ho235, nb1_16_b11, rd268, sp1_13_16, c266⟩
  rw [q175]
  refine Fq (.bool true) (r_not (b := false) rfl ek rfl) ?_
  apply F.es
  have x15 := Sk s172 x15 onn
  have c269 := (Sb c127 s172 nkk)
  have rd271 := Rk rd2_13 (SG.below s172)
  apply h31
  refine wp_cond_true ek ?_
  refine wp_exit ?_
  apply h18
  refine Rq 2 ?_
  refine Fq (.int .i64 ((t + 1 : Nat) : Int)) (r_add (m := (t : Int)) (n := 1) (z := ((t + 1 : Nat) : Int)) rfl ek ek (by omega) (by omega)) ?_
  refine Fv (.int .i64 ((t + 1 : Nat) : Int)) ?_
  apply F.es
  exact h15 _ _ _ (by omega : (2 ^ n0_13 - (t + 1)) < _) ⟨t + 1, bp, lt, fd, A1_16, n1_16, c1_16, Kn.of, rfl, (by omega), ((bestTo_next hst).trans (bestStep_no (by rw [show choice (openIds vs) t = choiceTo (openIds vs) t i from by unfold choice; rw [show (openIds vs).length = i by omega]]; exact q175))), hnf, (by omega), x15, ho173, nb1_16_b11, rd271, sp1_13_16, c269⟩
 refine Fq (.bool false) (r_lss (m := (t : Int)) (n := ((2 ^ n0_13 : Nat) : Int)) rfl ek ek (df q108)) ?_
 apply F.es
 apply h16
 refine wk fun K35 h35 => ?_
 refine wp_cond_false ek ?_
 refine wp_exit ?_
 apply h13
 refine wk fun K36 h36 => ?_
 refine Rq 6 ?_
 refine Fv (.slice A1_16 n1_16 c1_16) ?_
 refine Fv (.int .i64 lt) ?_
 refine Fv (.bool fd) ?_
 refine Fa (.slice A1_16 n1_16 c1_16) ?_
 refine Fa (.int .i64 lt) ?_
 refine Fa (.bool fd) ?_
 apply F.es
 apply h36
 refine wp_ret ?_
 try simp only [Exit.then]
 refine ret3 (v := .slice A1_16 n1_16 c1_16) (x := .int .i64 lt) (y := .bool fd) rfl kk kk kk ?_
 obtain ⟨e1, e2, e3⟩ := best_fin (r := bestOf (cutB ps vs s id) h (openIds vs)) (by unfold bestOf; rw [show 2 ^ (openIds vs).length = t by rw [show (openIds vs).length = n0_13 by omega]; omega]; exact hst) hnf
 have hbl := rd_ints_len (own_rd ho1_16)
 exact ⟨_, _, by rw [← e1, ← e2, ← e3, hbl], (by rw [← e1, hbl]; exact ho1_16), c107⟩
end Go.Proofs.Ytdbgfejeleafgaa
namespace Go.Proofs.Ytdbgfejeleafgaa
open Go.RowKit
set_option linter.unusedVariables false
set_option linter.unusedSimpArgs false
noncomputable def bestR (ps : List Pp) (vs : List Vv) (s id : Int) (cs : List Int) : Option (List Int × Int) := bestOf (cutB ps vs s id) (harmL ps vs s cs) (openIds vs)
theorem lt_some {r : Option (List Int × Int)} (h : r.isSome = true) : leastOf r = ltOf r := by
  cases r with
  | none => cases h
  | some b => rfl
theorem least_yes {r : Option (List Int × Int)} (h : 0 ≤ leastOf r) : r.isSome = true := by
  cases r with
  | none => exact absurd h (by show ¬ (0 : Int) ≤ -1; omega)
  | some b => rfl
theorem least_no {ps : List Pp} {vs : List Vv} {s id : Int} {cs : List Int} (hc : ∀ c, c ∈ cs → 0 ≤ c ∧ c ≤ 1000) (h : ¬ 0 ≤ leastOf (bestR ps vs s id cs)) : (bestR ps vs s id cs).isSome = false := by
  cases e : bestR ps vs s id cs with
  | none => rfl
  | some b =>
    unfold bestR at e
    obtain ⟨t, h1, h2, h3⟩ := bestOf_in e
    exfalso; apply h
    unfold bestR
    rw [e]
    show 0 ≤ b.2
    rw [h3]; exact harmL_nn hc
set_option maxRecDepth 100000 in
set_option maxHeartbeats 8000000 in
theorem gentF_any (m : Int) (A : Option Addr) (n c : Nat) (ps : List Pp) (A2 : Option Addr) (n2 c2 : Nat) (vs : List Vv) (s : Int) (A4 : Option Addr) (n4 c4 : Nat) (cs : List Int) (A3 : Option Addr) (n3 c3 : Nat) (pl : List Int) (B1 B2 B3 B4 : Nat) (w : World) (ha : Rd w 4 A n (pipesV ps)) (hb : Rd w 4 A2 n2 (valvesV vs)) (hn : n ≤ 1048576) (hn2 : n2 ≤ 1048576) (hfm2 : Fm A2 n2 c2) (hv9 : GoodVal m ps vs) (hs : 1 ≤ s ∧ s ≤ m) (hp3 : Rd w 1 A3 n3 (intsV pl)) (hn3 : n3 ≤ 1000000) (hc4 : Rd w 1 A4 n4 (intsV cs)) (hn4 : n4 ≤ 1048576) (hco : custOk m cs = true) (hB1 : w.heap[B1]? = some (.cells #[.int .i64 m, .slice A n c] 26 (0, 0))) (hB2 : w.heap[B2]? = some (.cells #[.slice A2 n2 c2] 27 (0, 0))) (hB3 : w.heap[B3]? = some (.cells #[.int .i64 s] 3 (0, 0))) (hB4 : w.heap[B4]? = some (.cells #[.slice A4 n4 c4] 30 (0, 0))) :
    Calls Try.prog 143 #[.slice A3 n3 c3, .pointer (some ⟨B1, 0, none⟩), .pointer (some ⟨B2, 0, none⟩), .pointer (some ⟨B3, 0, none⟩), .pointer (some ⟨B4, 0, none⟩)] w fun e w' => e = .returned (.int .i64 (harmL ps vs s cs pl)) ∧ Below w.heap.size w w' := by
 have hl := rd_pipes_len ha
 have hl2 := rd_valves_len hb
 have hl3 := rd_ints_len hp3
 have hl4 := rd_ints_len hc4
 go_enter Try.func143, Try.ntmps143
 refine F.begin 13 [(0, .slice A3 n3 c3), (1, .pointer (some ⟨B1, 0, none⟩)), (2, .pointer (some ⟨B2, 0, none⟩)), (3, .pointer (some ⟨B3, 0, none⟩)), (4, .pointer (some ⟨B4, 0, none⟩))] (fun U0 => ?_)
 refine wk fun K1 h1 => ?_
 refine Rq 1 ?_
 refine Fa (.int .i64 0) ?_
 apply F.es
 apply h1
 refine wk fun K2 h2 => ?_
 refine W.region_plain (row := none) [(0, false), (1, false), (2, false), (3, false), (4, false), (5, true), (6, false)] kk ?_
 have s1 := SG.self w none
 refine Fq (.agg #[.int .i64 m, .slice A n c]) (r_load2 rfl ek kk kk (sgS (blk_cell (j := 0) hB1 kk) onn) (sgS (blk_cell (j := 1) hB1 kk) onn)) ?_
 refine Fl (.slice A2 n2 c2) (sgS (blk_cell (j := 0) hB2 kk) onn) ?_
 refine Fl (.int .i64 s) (sgS (blk_cell (j := 0) hB3 kk) onn) ?_
 refine Fv (.slice A3 n3 c3) ?_
 refine Fl (.slice A4 n4 c4) (sgS (blk_cell (j := 0) hB4 kk) onn) ?_
 refine Fc [.agg #[.int .i64 m, .slice A n c], .slice A2 n2 c2, .int .i64 s, .slice A3 n3 c3, .slice A4 n4 c4] (harmOf_any m A n c ps A2 n2 c2 vs s A3 n3 c3 pl A4 n4 c4 cs _ (Rk ha (Sb (Below.refl _ _) s1 nkk)) (Rk hb (Sb (Below.refl _ _) s1 nkk)) (by omega) (by omega) hfm2 hv9 hs (Rk hp3 (Sb (Below.refl _ _) s1 nkk)) (by omega) (Rk hc4 (Sb (Below.refl _ _) s1 nkk)) (by omega) hco) ?_
 rintro e w3 ⟨rfl, b2⟩
 have s4 := SG.of_below s1 b2
 refine ⟨_, rfl, s4, ?_⟩
 apply F.nx
 refine Fa (.int .i64 (harmL ps vs s cs pl)) ?_
 apply F.es
 have hB1 := Sk s4 hB1 onn
 have hB2 := Sk s4 hB2 onn
 have hB3 := Sk s4 hB3 onn
 have hB4 := Sk s4 hB4 onn
 have c5 := (Sb (Below.refl _ _) s4 nkk)
 apply h2
 refine wp_ret ?_
 try simp only [Exit.then]
 refine ret1 (v := .int .i64 (harmL ps vs s cs pl)) rfl kk ?_
 exact ⟨rfl, c5⟩
set_option maxRecDepth 100000 in
set_option maxHeartbeats 8000000 in
theorem gentlest_any (m : Int) (A : Option Addr) (n c : Nat) (ps : List Pp) (A2 : Option Addr) (n2 c2 : Nat) (vs : List Vv) (s id : Int) (A4 : Option Addr) (n4 c4 : Nat) (cs : List Int) (w : World) (ha : Rd w 4 A n (pipesV ps)) (hb : Rd w 4 A2 n2 (valvesV vs)) (hn : n ≤ 1048576) (hn2 : n2 ≤ 1048576) (hfm2 : Fm A2 n2 c2) (hv9 : GoodVal m ps vs) (hs : 1 ≤ s ∧ s ≤ m) (hfa : 0 ≤ findL ps id) (hc4 : Rd w 1 A4 n4 (intsV cs)) (hn4 : n4 ≤ 1048576) (hco : custOk m cs = true) :
    Calls Try.prog 106 #[.agg #[.int .i64 m, .slice A n c], .slice A2 n2 c2, .int .i64 s, .int .i64 id, .slice A4 n4 c4] w fun e w' => ∃ A' d, e = .returned (.tuple #[.slice A' (bpOf (bestR ps vs s id cs)).length d, .int .i64 (ltOf (bestR ps vs s id cs)), .bool (bestR ps vs s id cs).isSome]) ∧ w'.ownsRow w.heap.size 3 1 (.slice A' (bpOf (bestR ps vs s id cs)).length d) (bpOf (bestR ps vs s id cs)).length (intsV (bpOf (bestR ps vs s id cs))) ∧ Below w.heap.size w w' := by
 have hl := rd_pipes_len ha
 have hl2 := rd_valves_len hb
 have hl4 := rd_ints_len hc4
 have hfl := findL_lt ps id
 go_enter Try.func106, Try.ntmps106
 refine F.begin 22 [(0, .agg #[.int .i64 m, .slice A n c]), (1, .slice A2 n2 c2), (2, .int .i64 s), (3, .int .i64 id), (4, .slice A4 n4 c4)] (fun U0 => ?_)
 refine wk fun K1 h1 => ?_
 refine W.region_plain (row := none) [(0, true), (1, true), (2, true), (3, true), (4, false), (5, false), (6, false)] kk ?_
 have s1 := SG.self w none
 refine W.sn (fun b => .pointer (some ⟨b, 0, none⟩)) #[.int .i64 m, .slice A n c] 26 s1 rfl kk rfl (fun _ => by kernel_rfl) (fun b2 w3 hb4 k5 x6 s7 => ?_)
 apply F.nx
 have lo8 : w.heap.size ≤ b2 := Nl ((Sb (Below.refl _ _) s1 nkk)).size (Nat.le_of_eq hb4)
 refine W.sn (fun b => .pointer (some ⟨b, 0, none⟩)) #[.slice A2 n2 c2] 27 s7 rfl kk rfl (fun _ => by kernel_rfl) (fun b9 w10 hb11 k12 x13 s14 => ?_)
 apply F.nx
 have lo15 : w.heap.size ≤ b9 := Nl ((Sb (Below.refl _ _) s7 nkk)).size (Nat.le_of_eq hb11)
 have x6 := (k12.block _ (blk_lt x6)).trans x6
 refine W.sn (fun b => .pointer (some ⟨b, 0, none⟩)) #[.int .i64 s] 3 s14 rfl kk rfl (fun _ => by kernel_rfl) (fun b17 w18 hb19 k20 x21 s22 => ?_)
 apply F.nx
 have lo23 : w.heap.size ≤ b17 := Nl ((Sb (Below.refl _ _) s14 nkk)).size (Nat.le_of_eq hb19)
 have x6 := (k20.block _ (blk_lt x6)).trans x6
 have x13 := (k20.block _ (blk_lt x13)).trans x13
 refine W.sn (fun b => .pointer (some ⟨b, 0, none⟩)) #[.slice A4 n4 c4] 30 s22 rfl kk rfl (fun _ => by kernel_rfl) (fun b26 w27 hb28 k29 x30 s31 => ?_)
 apply F.nx
 have lo32 : w.heap.size ≤ b26 := Nl ((Sb (Below.refl _ _) s22 nkk)).size (Nat.le_of_eq hb28)
 have x6 := (k29.block _ (blk_lt x6)).trans x6
 have x13 := (k29.block _ (blk_lt x13)).trans x13
 have x21 := (k29.block _ (blk_lt x21)).trans x21
 refine Fa (.slice none 0 0) ?_
 refine Fa (.int .i64 0) ?_
 refine Fa (.bool false) ?_
 apply F.es
 have c36 := (Sb (Below.refl _ _) s31 nkk)
 apply h1
 refine wk fun K2 h2 => ?_
 refine W.region_plain (row := none) [(0, false), (1, false), (2, false), (3, false), (4, false), (5, true), (6, false), (7, false), (8, false), (9, false), (10, false), (11, false)] kk ?_
 have s37 := SG.self w27 none
 refine Fq (.agg #[.int .i64 m, .slice A n c]) (r_load2 rfl ek kk kk (sgS (blk_cell (j := 0) x6 kk) onn) (sgS (blk_cell (j := 1) x6 kk) onn)) ?_
 refine Fl (.slice A2 n2 c2) (sgS (blk_cell (j := 0) x13 kk) onn) ?_
 refine Fl (.int .i64 s) (sgS (blk_cell (j := 0) x21 kk) onn) ?_
 refine Fv (.int .i64 id) ?_
 refine Fq (.func (.func 143) #[] #[.pointer (some ⟨b2, 0, none⟩), .pointer (some ⟨b9, 0, none⟩), .pointer (some ⟨b17, 0, none⟩), .pointer (some ⟨b26, 0, none⟩)]) (r_makeFunc (vs := [.pointer (some ⟨b2, 0, none⟩), .pointer (some ⟨b9, 0, none⟩), .pointer (some ⟨b17, 0, none⟩), .pointer (some ⟨b26, 0, none⟩)]) rfl kk) ?_
 have z42 := ((Sb c36 s37 nkk)).size
 refine Fc [.agg #[.int .i64 m, .slice A n c], .slice A2 n2 c2, .int .i64 s, .int .i64 id, .func (.func 143) #[] #[.pointer (some ⟨b2, 0, none⟩), .pointer (some ⟨b9, 0, none⟩), .pointer (some ⟨b17, 0, none⟩), .pointer (some ⟨b26, 0, none⟩)]] (bestPlan_any m A n c ps A2 n2 c2 vs s id 143 #[.pointer (some ⟨b2, 0, none⟩), .pointer (some ⟨b9, 0, none⟩), .pointer (some ⟨b17, 0, none⟩), .pointer (some ⟨b26, 0, none⟩)] (harmL ps vs s cs) _ (Rk ha (Sb c36 s37 nkk)) (Rk hb (Sb c36 s37 nkk)) (by omega) (by omega) hfm2 hv9 hs hfa kk (fun W A9 n9 c9 pl9 hW hr9 hn9 => gentF_any m A n c ps A2 n2 c2 vs s A4 n4 c4 cs A9 n9 c9 pl9 b2 b9 b17 b26 W (Rk (Rk ha (Sb c36 s37 nkk)) hW) (Rk (Rk hb (Sb c36 s37 nkk)) hW) (by omega) (by omega) hfm2 hv9 hs hr9 hn9 (Rk (Rk hc4 (Sb c36 s37 nkk)) hW) (by omega) hco ((hW.block _ (blk_lt x6)).trans x6) ((hW.block _ (blk_lt x13)).trans x13) ((hW.block _ (blk_lt x21)).trans x21) ((hW.block _ (blk_lt x30)).trans x30))) ?_
 rintro e w45 ⟨A38, c39, rfl, ho40, b44⟩
 have s46 := SG.of_below s37 b44
 refine ⟨_, rfl, s46, ?_⟩
 apply F.nx
 have ho41 := own_base (base' := w.heap.size) ho40 z42
 refine Fq (.slice A38 ((bpOf (bestR ps vs s id cs)).length) c39) (r_extract (vs := #[.slice A38 ((bpOf (bestR ps vs s id cs)).length) c39, .int .i64 (ltOf (bestR ps vs s id cs)), .bool ((bestR ps vs s id cs).isSome)]) rfl ek kk) ?_
 refine Fq (.int .i64 (ltOf (bestR ps vs s id cs))) (r_extract (vs := #[.slice A38 ((bpOf (bestR ps vs s id cs)).length) c39, .int .i64 (ltOf (bestR ps vs s id cs)), .bool ((bestR ps vs s id cs).isSome)]) rfl ek kk) ?_
 refine Fq (.bool ((bestR ps vs s id cs).isSome)) (r_extract (vs := #[.slice A38 ((bpOf (bestR ps vs s id cs)).length) c39, .int .i64 (ltOf (bestR ps vs s id cs)), .bool ((bestR ps vs s id cs).isSome)]) rfl ek kk) ?_
 refine Fa (.slice A38 ((bpOf (bestR ps vs s id cs)).length) c39) ?_
 refine Fa (.int .i64 (ltOf (bestR ps vs s id cs))) ?_
 refine Fa (.bool ((bestR ps vs s id cs).isSome)) ?_
 apply F.es
 have c51 := (Sb c36 s46 nkk)
 apply h2
 refine wp_ret ?_
 try simp only [Exit.then]
 refine ret3 (v := .slice A38 ((bpOf (bestR ps vs s id cs)).length) c39) (x := .int .i64 (ltOf (bestR ps vs s id cs))) (y := .bool ((bestR ps vs s id cs).isSome)) rfl kk kk kk ?_
 exact ⟨_, _, rfl, ho41, c51⟩
end Go.Proofs.Ytdbgfejeleafgaa
namespace Go.Proofs.Ytdbgfejeleafgaa
open Go.RowKit
set_option linter.unusedVariables false
set_option linter.unusedSimpArgs false
end Go.Proofs.Ytdbgfejeleafgaa
namespace Go.Proofs.Ytdbgfejeleafgaa
open Go.RowKit
set_option linter.unusedVariables false
set_option linter.unusedSimpArgs false
noncomputable def GentlestPlan_v2 (m : Int) (ps : List Pp) (vs : List Vv) (s id : Int) (cs : List Int) : Bool := canB m ps vs s id && (custOk m cs && (bestR ps vs s id cs).isSome)
noncomputable def GentlestPlan_v0 (m : Int) (ps : List Pp) (vs : List Vv) (s id : Int) (cs : List Int) : List Int := if GentlestPlan_v2 m ps vs s id cs = true then bpOf (bestR ps vs s id cs) else []
noncomputable def GentlestPlan_v1 (m : Int) (ps : List Pp) (vs : List Vv) (s id : Int) (cs : List Int) : Int := if GentlestPlan_v2 m ps vs s id cs = true then ltOf (bestR ps vs s id cs) else 0
theorem GentlestPlan_len (m : Int) (ps : List Pp) (vs : List Vv) (s id : Int) (cs : List Int) : (GentlestPlan_v0 m ps vs s id cs).length ≤ 1048576 := by
  unfold GentlestPlan_v0
  split
  · rename_i h
    have hc : canB m ps vs s id = true := by unfold GentlestPlan_v2 at h; rw [Bool.and_eq_true] at h; exact h.1
    have h9 := bestP_len (ps := ps) (s := s) (id := id) (h := harmL ps vs s cs) (canB_of hc).1.len
    unfold bestR; omega
  · simp
theorem fin_ints3 {w w' : World} {e : TypeId} {A : Option Addr} {n c : Nat} {zs vs : List Int} {z v : Int} {b vb : Bool} (how : w'.ownsRow w.heap.size e 1 (.slice A n c) n (intsV zs)) (hz : zs = vs) (hv : z = v) (hb : b = vb) (bel : Below w.heap.size w w') :
    ∃ A' d, Ending.returned (.tuple #[.slice A n c, .int .i64 z, .bool b]) = .returned (.tuple #[.slice A' vs.length d, .int .i64 v, .bool vb]) ∧ w'.ownsRow w.heap.size e 1 (.slice A' vs.length d) vs.length (intsV vs) ∧ Below w.heap.size w w' := by
  subst hz hv hb
  have hl := own_len how
  rw [ints_len] at hl
  subst hl
  exact ⟨_, _, rfl, how, bel⟩
theorem fin_rd3 {w w' : World} {A : Option Addr} {n c : Nat} {zs vs : List Int} {z v : Int} {b vb : Bool} (how : Rd w' 1 A n (intsV zs)) (hz : zs = vs) (hv : z = v) (hb : b = vb) (bel : Below w.heap.size w w') :
    ∃ A' d, Ending.returned (.tuple #[.slice A n c, .int .i64 z, .bool b]) = .returned (.tuple #[.slice A' vs.length d, .int .i64 v, .bool vb]) ∧ Rd w' 1 A' vs.length (intsV vs) ∧ Below w.heap.size w w' := by
  subst hz hv hb
  have hl := rd_ints_len how
  subst hl
  exact ⟨_, _, rfl, how, bel⟩
set_option maxRecDepth 100000 in
set_option maxHeartbeats 8000000 in
theorem GentlestPlan_impl (m : Int) (A : Option Addr) (n c : Nat) (ps : List Pp) (A2 : Option Addr) (n2 c2 : Nat) (vs : List Vv) (s id : Int) (A4 : Option Addr) (n4 c4 : Nat) (cs : List Int) (w : World) (ha : Rd w 4 A n (pipesV ps)) (hb : Rd w 4 A2 n2 (valvesV vs)) (hc4 : Rd w 1 A4 n4 (intsV cs)) (hn : n ≤ 1048576) (hn2 : n2 ≤ 1048576) (hn4 : n4 ≤ 1048576) (hfm : Fm A n c) (hfm2 : Fm A2 n2 c2) (hfc : Fm A4 n4 c4) :
    Calls Try.prog 61 #[.agg #[.int .i64 m, .slice A n c], .slice A2 n2 c2, .int .i64 s, .int .i64 id, .slice A4 n4 c4] w fun e w' => ∃ A' d, e = .returned (.tuple #[.slice A' (GentlestPlan_v0 m ps vs s id cs).length d, .int .i64 (GentlestPlan_v1 m ps vs s id cs), .bool (GentlestPlan_v2 m ps vs s id cs)]) ∧ w'.ownsRow w.heap.size 3 1 (.slice A' (GentlestPlan_v0 m ps vs s id cs).length d) (GentlestPlan_v0 m ps vs s id cs).length (intsV (GentlestPlan_v0 m ps vs s id cs)) ∧ Below w.heap.size w w' := by
 have hl := rd_pipes_len ha
 have hl2 := rd_valves_len hb
 have hl4 := rd_ints_len hc4
 have hfl := findL_lt ps id
 go_enter Try.func61, Try.ntmps61
 refine F.begin 42 [(0, .agg #[.int .i64 m, .slice A n c]), (1, .slice A2 n2 c2), (2, .int .i64 s), (3, .int .i64 id), (4, .slice A4 n4 c4)] (fun U0 => ?_)
 refine wk fun K1 h1 => ?_
 refine W.region_plain (row := none) [(0, true), (1, false), (2, false), (3, false)] kk ?_
 have s1 := SG.self w none
 refine W.sn (fun b => .pointer (some ⟨b, 0, none⟩)) #[.int .i64 m, .slice A n c] 26 s1 rfl kk rfl (fun _ => by kernel_rfl) (fun b2 w3 hb4 k5 x6 s7 => ?_)
 apply F.nx
 have lo8 : w.heap.size ≤ b2 := Nl ((Sb (Below.refl _ _) s1 nkk)).size (Nat.le_of_eq hb4)
 refine Fa (.slice none 0 0) ?_
 refine Fa (.int .i64 0) ?_
 refine Fa (.bool false) ?_
 apply F.es
 have c9 := (Sb (Below.refl _ _) s7 nkk)
 apply h1
 refine wk fun K2 h2 => ?_
 refine wk fun K3 h3 => ?_
 refine W.region_plain (row := none) [(0, false), (1, false), (2, false), (3, false), (4, true), (5, false), (6, false), (7, false), (8, false), (9, true), (10, false), (11, false)] kk ?_
 have s10 := SG.self w3 none
 refine Fq (.agg #[.int .i64 m, .slice A n c]) (r_load2 rfl ek kk kk (sgS (blk_cell (j := 0) x6 kk) onn) (sgS (blk_cell (j := 1) x6 kk) onn)) ?_
 refine Fv (.slice A2 n2 c2) ?_
 refine Fv (.int .i64 s) ?_
 refine Fv (.int .i64 id) ?_
 refine Fc [.agg #[.int .i64 m, .slice A n c], .slice A2 n2 c2, .int .i64 s, .int .i64 id] (canBurst_any m A n c ps A2 n2 c2 vs s id _ (Rk ha (Sb c9 s10 nkk)) (Rk hb (Sb c9 s10 nkk)) (by omega) (by omega) hfm2) ?_
 rintro e w12 ⟨rfl, b11⟩
 have s13 := SG.of_below s10 b11
 refine ⟨_, rfl, s13, ?_⟩
 apply F.nx
 rcases Bool.eq_false_or_eq_true (canB m ps vs s id) with q14 | q14
 ·rw [q14]
  obtain ⟨hv9, hs, hfa⟩ := canB_of q14
  have hg := hv9.net
  have hgl := hg.lo
  have hgh := hg.hi
  have hp := hg.pipesIn
  have hlen10 := hg.len
  have hu := hv9.uniq
  have hvl := hv9.len
  refine Fq (.bool false) (r_not (b := true) rfl ek rfl) ?_
  refine Fv (.bool false) ?_
  refine Fq (.agg #[.int .i64 m, .slice A n c]) (r_load2 rfl ek kk kk (sgS (blk_cell (j := 0) x6 kk) onn) (sgS (blk_cell (j := 1) x6 kk) onn)) ?_
  refine Fv (.slice A4 n4 c4) ?_
  refine Fc [.agg #[.int .i64 m, .slice A n c], .slice A4 n4 c4] (areCustomers_any m A n c ps A4 n4 c4 cs _ (Rk ha (Sb c9 s13 nkk)) (by omega) (Rk hc4 (Sb c9 s13 nkk)) (by omega)) ?_
  rintro e w16 ⟨rfl, b15⟩
  have s17 := SG.of_below s13 b15
  refine ⟨_, rfl, s17, ?_⟩
  apply F.nx
  rcases Bool.eq_false_or_eq_true (custOk m cs) with q18 | q18
  ·rw [q18]
   have hco := q18
   have hco9 := custOk_of hco
   refine Fq (.bool false) (r_not (b := true) rfl ek rfl) ?_
   refine Fq (.bool false) (r_pick (b := false) rfl ek ek) ?_
   apply F.es
   have x6 := Sk s17 x6 onn
   have c19 := (Sb c9 s17 nkk)
   apply h3
   refine wp_cond_false ek ?_
   apply wp_skip
   apply h2
   refine wk fun K4 h4 => ?_
   refine W.region_plain (row := none) [(0, false), (1, false), (2, false), (3, false), (4, false), (5, true), (6, false), (7, false), (8, false), (9, false), (10, false), (11, false), (12, false)] kk ?_
   have s20 := SG.self w16 none
   refine Fq (.agg #[.int .i64 m, .slice A n c]) (r_load2 rfl ek kk kk (sgS (blk_cell (j := 0) x6 kk) onn) (sgS (blk_cell (j := 1) x6 kk) onn)) ?_
   refine Fv (.slice A2 n2 c2) ?_
   refine Fv (.int .i64 s) ?_
   refine Fv (.int .i64 id) ?_
   refine Fv (.slice A4 n4 c4) ?_
   have z25 := ((Sb c19 s20 nkk)).size
   refine Fc [.agg #[.int .i64 m, .slice A n c], .slice A2 n2 c2, .int .i64 s, .int .i64 id, .slice A4 n4 c4] (gentlest_any m A n c ps A2 n2 c2 vs s id A4 n4 c4 cs _ (Rk ha (Sb c19 s20 nkk)) (Rk hb (Sb c19 s20 nkk)) (by omega) (by omega) hfm2 hv9 hs hfa (Rk hc4 (Sb c19 s20 nkk)) (by omega) hco) ?_
   rintro e w28 ⟨A21, c22, rfl, ho23, b27⟩
   have s29 := SG.of_below s20 b27
   refine ⟨_, rfl, s29, ?_⟩
   apply F.nx
   have ho24 := own_base (base' := w.heap.size) ho23 z25
   refine Fv (.tuple #[.slice A21 ((bpOf (bestR ps vs s id cs)).length) c22, .int .i64 (ltOf (bestR ps vs s id cs)), .bool ((bestR ps vs s id cs).isSome)]) ?_
   refine Fq (.slice A21 ((bpOf (bestR ps vs s id cs)).length) c22) (r_extract (vs := #[.slice A21 ((bpOf (bestR ps vs s id cs)).length) c22, .int .i64 (ltOf (bestR ps vs s id cs)), .bool ((bestR ps vs s id cs).isSome)]) rfl ek kk) ?_
   refine Fq (.int .i64 (ltOf (bestR ps vs s id cs))) (r_extract (vs := #[.slice A21 ((bpOf (bestR ps vs s id cs)).length) c22, .int .i64 (ltOf (bestR ps vs s id cs)), .bool ((bestR ps vs s id cs).isSome)]) rfl ek kk) ?_
   refine Fq (.bool ((bestR ps vs s id cs).isSome)) (r_extract (vs := #[.slice A21 ((bpOf (bestR ps vs s id cs)).length) c22, .int .i64 (ltOf (bestR ps vs s id cs)), .bool ((bestR ps vs s id cs).isSome)]) rfl ek kk) ?_
   refine Fa (.slice A21 ((bpOf (bestR ps vs s id cs)).length) c22) ?_
   refine Fa (.int .i64 (ltOf (bestR ps vs s id cs))) ?_
   refine Fa (.bool ((bestR ps vs s id cs).isSome)) ?_
   apply F.es
   have c31 := (Sb c19 s29 nkk)
   apply h4
   refine wk fun K5 h5 => ?_
   refine wk fun K6 h6 => ?_
   refine Rq 2 ?_
   refine Fv (.bool ((bestR ps vs s id cs).isSome)) ?_
   refine Fq (.bool (!((bestR ps vs s id cs).isSome))) (r_not (b := ((bestR ps vs s id cs).isSome)) rfl ek rfl) ?_
   apply F.es
   apply h6
   rcases Bool.eq_false_or_eq_true (!((bestR ps vs s id cs).isSome)) with q32 | q32
   ·rw [q32]
    refine wp_cond_true ek ?_
    refine wk fun K7 h7 => ?_
    refine Rq 3 ?_
    refine Fa (.slice none 0 0) ?_
    refine Fa (.int .i64 0) ?_
    refine Fa (.bool false) ?_
    apply F.es
    apply h7
    refine wp_ret ?_
    try simp only [Exit.then]
    refine ret3 (v := .slice none 0 0) (x := .int .i64 0) (y := .bool false) rfl kk kk kk ?_
    have e7 : (bestR ps vs s id cs).isSome = false := (by have h9 := q32; rw [Bool.not_eq_true'] at h9; exact h9)
    have e8 : GentlestPlan_v2 m ps vs s id cs = false := by unfold GentlestPlan_v2; rw [q14, q18, e7]; try rfl
    exact fin_ints3 (zs := []) (World.ownsRow_nil _ _ _ _) (by unfold GentlestPlan_v0; rw [if_neg (by rw [e8]; simp)]) (by unfold GentlestPlan_v1; rw [if_neg (by rw [e8]; simp)]) e8.symm c31
   rw [q32]
   refine wp_cond_false ek ?_
   apply wp_skip
   apply h5
   refine wk fun K8 h8 => ?_
   refine Rq 5 ?_
   refine Fv (.slice A21 ((bpOf (bestR ps vs s id cs)).length) c22) ?_
   refine Fv (.int .i64 (ltOf (bestR ps vs s id cs))) ?_
   refine Fa (.slice A21 ((bpOf (bestR ps vs s id cs)).length) c22) ?_
   refine Fa (.int .i64 (ltOf (bestR ps vs s id cs))) ?_
   refine Fa (.bool true) ?_
   apply F.es
   apply h8
   refine wp_ret ?_
   try simp only [Exit.then]
   refine ret3 (v := .slice A21 ((bpOf (bestR ps vs s id cs)).length) c22) (x := .int .i64 (ltOf (bestR ps vs s id cs))) (y := .bool true) rfl kk kk kk ?_
   have e7 : (bestR ps vs s id cs).isSome = true := (by have h9 := q32; rw [Bool.not_eq_false'] at h9; exact h9)
   have e8 : GentlestPlan_v2 m ps vs s id cs = true := by unfold GentlestPlan_v2; rw [q14, q18, e7]; try rfl
   exact fin_ints3  ho24 (by unfold GentlestPlan_v0; rw [if_pos e8] <;> first | done | rfl) (by unfold GentlestPlan_v1; rw [if_pos e8] <;> first | done | rfl) e8.symm c31
  rw [q18]
  refine Fq (.bool true) (r_not (b := false) rfl ek rfl) ?_
  refine Fq (.bool true) (r_pick (b := false) rfl ek ek) ?_
  apply F.es
  have c33 := (Sb c9 s17 nkk)
  apply h3
  refine wp_cond_true ek ?_
  refine wk fun K9 h9 => ?_
  refine Rq 3 ?_
  refine Fa (.slice none 0 0) ?_
  refine Fa (.int .i64 0) ?_
  refine Fa (.bool false) ?_
  apply F.es
  apply h9
  refine wp_ret ?_
  try simp only [Exit.then]
  refine ret3 (v := .slice none 0 0) (x := .int .i64 0) (y := .bool false) rfl kk kk kk ?_
  have e8 : GentlestPlan_v2 m ps vs s id cs = false := by unfold GentlestPlan_v2; rw [q18, Bool.false_and, Bool.and_false]
  exact fin_ints3 (zs := []) (World.ownsRow_nil _ _ _ _) (by unfold GentlestPlan_v0; rw [if_neg (by rw [e8]; simp)]) (by unfold GentlestPlan_v1; rw [if_neg (by rw [e8]; simp)]) e8.symm c33
 rw [q14]
 refine Fq (.bool true) (r_not (b := false) rfl ek rfl) ?_
 refine Fv (.bool true) ?_
 refine Fs s13 ?_
 refine Fs s13 ?_
 refine Fs s13 ?_
 refine Fs s13 ?_
 refine Fq (.bool true) (r_pick (b := true) rfl ek ek) ?_
 apply F.es
 have c34 := (Sb c9 s13 nkk)
 apply h3
 refine wp_cond_true ek ?_
 refine wk fun K10 h10 => ?_
 refine Rq 3 ?_
 refine Fa (.slice none 0 0) ?_
 refine Fa (.int .i64 0) ?_
 refine Fa (.bool false) ?_
 apply F.es
 apply h10
 refine wp_ret ?_
 try simp only [Exit.then]
 refine ret3 (v := .slice none 0 0) (x := .int .i64 0) (y := .bool false) rfl kk kk kk ?_
 have e8 : GentlestPlan_v2 m ps vs s id cs = false := by unfold GentlestPlan_v2; rw [q14]; try rfl
 exact fin_ints3 (zs := []) (World.ownsRow_nil _ _ _ _) (by unfold GentlestPlan_v0; rw [if_neg (by rw [e8]; simp)]) (by unfold GentlestPlan_v1; rw [if_neg (by rw [e8]; simp)]) e8.symm c34
set_option maxRecDepth 100000 in
set_option maxHeartbeats 8000000 in
theorem GentlestPlan_spec (m : Int) (A : Option Addr) (n c : Nat) (ps : List Pp) (A2 : Option Addr) (n2 c2 : Nat) (vs : List Vv) (s id : Int) (A4 : Option Addr) (n4 c4 : Nat) (cs : List Int) (w : World) (ha : Rd w 4 A n (pipesV ps)) (hb : Rd w 4 A2 n2 (valvesV vs)) (hc4 : Rd w 1 A4 n4 (intsV cs)) (hn : n ≤ 1048576) (hn2 : n2 ≤ 1048576) (hn4 : n4 ≤ 1048576) (hfm : Fm A n c) (hfm2 : Fm A2 n2 c2) (hfc : Fm A4 n4 c4) :
    Calls Try.prog 63 #[.agg #[.int .i64 m, .slice A n c], .slice A2 n2 c2, .int .i64 s, .int .i64 id, .slice A4 n4 c4] w fun e w' => ∃ A' d, e = .returned (.tuple #[.slice A' (GentlestPlan_v0 m ps vs s id cs).length d, .int .i64 (GentlestPlan_v1 m ps vs s id cs), .bool (GentlestPlan_v2 m ps vs s id cs)]) ∧ Rd w' 1 A' (GentlestPlan_v0 m ps vs s id cs).length (intsV (GentlestPlan_v0 m ps vs s id cs)) ∧ Below w.heap.size w w' := by
 have hl := rd_pipes_len ha
 have hl2 := rd_valves_len hb
 have hl4 := rd_ints_len hc4
 have hfl := findL_lt ps id
 go_enter Try.func63, Try.ntmps63
 refine F.begin 42 [(0, .agg #[.int .i64 m, .slice A n c]), (1, .slice A2 n2 c2), (2, .int .i64 s), (3, .int .i64 id), (4, .slice A4 n4 c4)] (fun U0 => ?_)
 refine wk fun K1 h1 => ?_
 refine W.region_plain (row := none) [(0, true), (1, false), (2, false), (3, false)] kk ?_
 have s1 := SG.self w none
 refine W.sn (fun b => .pointer (some ⟨b, 0, none⟩)) #[.int .i64 m, .slice A n c] 26 s1 rfl kk rfl (fun _ => by kernel_rfl) (fun b2 w3 hb4 k5 x6 s7 => ?_)
 apply F.nx
 have lo8 : w.heap.size ≤ b2 := Nl ((Sb (Below.refl _ _) s1 nkk)).size (Nat.le_of_eq hb4)
 refine Fa (.slice none 0 0) ?_
 refine Fa (.int .i64 0) ?_
 refine Fa (.bool false) ?_
 apply F.es
 have c9 := (Sb (Below.refl _ _) s7 nkk)
 apply h1
 refine wk fun K2 h2 => ?_
 refine wk fun K3 h3 => ?_
 refine W.region_plain (row := none) [(0, false), (1, false), (2, false), (3, false), (4, true), (5, false), (6, false), (7, false), (8, false), (9, true), (10, false), (11, false)] kk ?_
 have s10 := SG.self w3 none
 refine Fq (.agg #[.int .i64 m, .slice A n c]) (r_load2 rfl ek kk kk (sgS (blk_cell (j := 0) x6 kk) onn) (sgS (blk_cell (j := 1) x6 kk) onn)) ?_
 refine Fv (.slice A2 n2 c2) ?_
 refine Fv (.int .i64 s) ?_
 refine Fv (.int .i64 id) ?_
 refine Fc [.agg #[.int .i64 m, .slice A n c], .slice A2 n2 c2, .int .i64 s, .int .i64 id] (l5Asked_any m A n c ps A2 n2 c2 vs s id _ (Rk ha (Sb c9 s10 nkk)) (Rk hb (Sb c9 s10 nkk)) (by omega) (by omega) hfm2) ?_
 rintro e w12 ⟨rfl, b11⟩
 have s13 := SG.of_below s10 b11
 refine ⟨_, rfl, s13, ?_⟩
 apply F.nx
 rcases Bool.eq_false_or_eq_true (canB m ps vs s id) with q14 | q14
 ·rw [q14]
  obtain ⟨hv9, hs, hfa⟩ := canB_of q14
  have hg := hv9.net
  have hgl := hg.lo
  have hgh := hg.hi
  have hp := hg.pipesIn
  have hlen10 := hg.len
  have hu := hv9.uniq
  have hvl := hv9.len
  refine Fq (.bool false) (r_not (b := true) rfl ek rfl) ?_
  refine Fv (.bool false) ?_
  refine Fq (.agg #[.int .i64 m, .slice A n c]) (r_load2 rfl ek kk kk (sgS (blk_cell (j := 0) x6 kk) onn) (sgS (blk_cell (j := 1) x6 kk) onn)) ?_
  refine Fv (.slice A4 n4 c4) ?_
  refine Fc [.agg #[.int .i64 m, .slice A n c], .slice A4 n4 c4] (l5Customers_any m A n c ps A4 n4 c4 cs _ (Rk ha (Sb c9 s13 nkk)) (by omega) (Rk hc4 (Sb c9 s13 nkk)) (by omega)) ?_
  rintro e w16 ⟨rfl, b15⟩
  have s17 := SG.of_below s13 b15
  refine ⟨_, rfl, s17, ?_⟩
  apply F.nx
  rcases Bool.eq_false_or_eq_true (custOk m cs) with q18 | q18
  ·rw [q18]
   have hco := q18
   have hco9 := custOk_of hco
   refine Fq (.bool false) (r_not (b := true) rfl ek rfl) ?_
   refine Fq (.bool false) (r_pick (b := false) rfl ek ek) ?_
   apply F.es
   have x6 := Sk s17 x6 onn
   have c19 := (Sb c9 s17 nkk)
   apply h3
   refine wp_cond_false ek ?_
   apply wp_skip
   apply h2
   refine wk fun K4 h4 => ?_
   refine W.region_plain (row := none) [(0, false), (1, false), (2, false), (3, false), (4, false), (5, true), (6, false), (7, false), (8, false), (9, false), (10, false)] kk ?_
   have s20 := SG.self w16 none
   refine Fq (.agg #[.int .i64 m, .slice A n c]) (r_load2 rfl ek kk kk (sgS (blk_cell (j := 0) x6 kk) onn) (sgS (blk_cell (j := 1) x6 kk) onn)) ?_
   refine Fv (.slice A2 n2 c2) ?_
   refine Fv (.int .i64 s) ?_
   refine Fv (.int .i64 id) ?_
   refine Fv (.slice A4 n4 c4) ?_
   have z26 := ((Sb c19 s20 nkk)).size
   refine Fc [.agg #[.int .i64 m, .slice A n c], .slice A2 n2 c2, .int .i64 s, .int .i64 id, .slice A4 n4 c4] (l5Best_any m A n c ps A2 n2 c2 vs s id A4 n4 c4 cs _ (Rk ha (Sb c19 s20 nkk)) (Rk hb (Sb c19 s20 nkk)) (by omega) (by omega) hfm2 hv9 hs hfa (Rk hc4 (Sb c19 s20 nkk)) (by omega) hco9.2 (.inr hco)) ?_
   rintro e w29 ⟨A21, n22, c23, rfl, ho24, b28⟩
   have s30 := SG.of_below s20 b28
   refine ⟨_, rfl, s30, ?_⟩
   apply F.nx
   have ho25 := own_base (base' := w.heap.size) ho24 z26
   refine Fv (.tuple #[.slice A21 n22 c23, .int .i64 (leastOf (bestR ps vs s id cs))]) ?_
   refine Fq (.slice A21 n22 c23) (r_extract (vs := #[.slice A21 n22 c23, .int .i64 (leastOf (bestR ps vs s id cs))]) rfl ek kk) ?_
   refine Fq (.int .i64 (leastOf (bestR ps vs s id cs))) (r_extract (vs := #[.slice A21 n22 c23, .int .i64 (leastOf (bestR ps vs s id cs))]) rfl ek kk) ?_
   refine Fa (.slice A21 n22 c23) ?_
   refine Fa (.int .i64 (leastOf (bestR ps vs s id cs))) ?_
   apply F.es
   have c32 := (Sb c19 s30 nkk)
   apply h4
   refine wk fun K5 h5 => ?_
   refine wk fun K6 h6 => ?_
   refine Rq 2 ?_
   refine Fv (.int .i64 (leastOf (bestR ps vs s id cs))) ?_
   by_cases q33 : ((leastOf (bestR ps vs s id cs)) : Int) < (0 : Int)
   ·refine Fq (.bool true) (r_lss (m := (leastOf (bestR ps vs s id cs))) (n := 0) rfl ek ek (dt q33)) ?_
    apply F.es
    apply h6
    refine wp_cond_true ek ?_
    refine wk fun K7 h7 => ?_
    refine W.region_plain (row := none) [(0, true), (1, false), (2, false), (3, false)] kk ?_
    have s34 := SG.self w29 none
    refine W.sn (fun b => .slice (some ⟨b, 0, none⟩) 0 0) #[] 3 s34 rfl kk rfl (fun _ => by kernel_rfl) (fun b35 w36 hb37 k38 x39 s40 => ?_)
    apply F.nx
    have lo41 : w.heap.size ≤ b35 := Nl ((Sb c32 s34 nkk)).size (Nat.le_of_eq hb37)
    refine Fa (.slice (some ⟨b35, 0, none⟩) 0 0) ?_
    refine Fa (.int .i64 0) ?_
    refine Fa (.bool false) ?_
    apply F.es
    have c45 := (Sb c32 s40 nkk)
    apply h7
    refine wp_ret ?_
    try simp only [Exit.then]
    refine ret3 (v := .slice (some ⟨b35, 0, none⟩) 0 0) (x := .int .i64 0) (y := .bool false) rfl kk kk kk ?_
    have ho46 := own_empty (base := w.heap.size) (size := 1) x39 lo41
    replace ho46 : World.ownsRow _ _ _ _ _ _ (intsV []) := ho46
    have e7 : (bestR ps vs s id cs).isSome = false := least_no hco9.2 (by omega)
    have e8 : GentlestPlan_v2 m ps vs s id cs = false := by unfold GentlestPlan_v2; rw [q14, q18, e7]; try rfl
    exact fin_rd3 (zs := []) (own_rd ho46) (by unfold GentlestPlan_v0; rw [if_neg (by rw [e8]; simp)]) (by unfold GentlestPlan_v1; rw [if_neg (by rw [e8]; simp)]) e8.symm c45
   refine Fq (.bool false) (r_lss (m := (leastOf (bestR ps vs s id cs))) (n := 0) rfl ek ek (df q33)) ?_
   apply F.es
   apply h6
   refine wp_cond_false ek ?_
   apply wp_skip
   apply h5
   refine wk fun K8 h8 => ?_
   refine Rq 5 ?_
   refine Fv (.slice A21 n22 c23) ?_
   refine Fv (.int .i64 (leastOf (bestR ps vs s id cs))) ?_
   refine Fa (.slice A21 n22 c23) ?_
   refine Fa (.int .i64 (leastOf (bestR ps vs s id cs))) ?_
   refine Fa (.bool true) ?_
   apply F.es
   apply h8
   refine wp_ret ?_
   try simp only [Exit.then]
   refine ret3 (v := .slice A21 n22 c23) (x := .int .i64 (leastOf (bestR ps vs s id cs))) (y := .bool true) rfl kk kk kk ?_
   have e7 : (bestR ps vs s id cs).isSome = true := least_yes (by omega)
   have e8 : GentlestPlan_v2 m ps vs s id cs = true := by unfold GentlestPlan_v2; rw [q14, q18, e7]; try rfl
   exact fin_rd3  (own_rd ho25) (by unfold GentlestPlan_v0; rw [if_pos e8] <;> first | done | rfl) (by unfold GentlestPlan_v1; rw [if_pos e8]; exact lt_some e7) e8.symm c32
  rw [q18]
  refine Fq (.bool true) (r_not (b := false) rfl ek rfl) ?_
  refine Fq (.bool true) (r_pick (b := false) rfl ek ek) ?_
  apply F.es
  have c49 := (Sb c9 s17 nkk)
  apply h3
  refine wp_cond_true ek ?_
  refine wk fun K9 h9 => ?_
  refine W.region_plain (row := none) [(0, true), (1, false), (2, false), (3, false)] kk ?_
  have s50 := SG.self w16 none
  refine W.sn (fun b => .slice (some ⟨b, 0, none⟩) 0 0) #[] 3 s50 rfl kk rfl (fun _ => by kernel_rfl) (fun b51 w52 hb53 k54 x55 s56 => ?_)
  apply F.nx
  have lo57 : w.heap.size ≤ b51 := Nl ((Sb c49 s50 nkk)).size (Nat.le_of_eq hb53)
  refine Fa (.slice (some ⟨b51, 0, none⟩) 0 0) ?_
  refine Fa (.int .i64 0) ?_
  refine Fa (.bool false) ?_
  apply F.es
  have c59 := (Sb c49 s56 nkk)
  apply h9
  refine wp_ret ?_
  try simp only [Exit.then]
  refine ret3 (v := .slice (some ⟨b51, 0, none⟩) 0 0) (x := .int .i64 0) (y := .bool false) rfl kk kk kk ?_
  have ho60 := own_empty (base := w.heap.size) (size := 1) x55 lo57
  replace ho60 : World.ownsRow _ _ _ _ _ _ (intsV []) := ho60
  have e8 : GentlestPlan_v2 m ps vs s id cs = false := by unfold GentlestPlan_v2; rw [q18, Bool.false_and, Bool.and_false]
  exact fin_rd3 (zs := []) (own_rd ho60) (by unfold GentlestPlan_v0; rw [if_neg (by rw [e8]; simp)]) (by unfold GentlestPlan_v1; rw [if_neg (by rw [e8]; simp)]) e8.symm c59
 rw [q14]
 refine Fq (.bool true) (r_not (b := false) rfl ek rfl) ?_
 refine Fv (.bool true) ?_
 refine Fs s13 ?_
 refine Fs s13 ?_
 refine Fs s13 ?_
 refine Fs s13 ?_
 refine Fq (.bool true) (r_pick (b := true) rfl ek ek) ?_
 apply F.es
 have c62 := (Sb c9 s13 nkk)
 apply h3
 refine wp_cond_true ek ?_
 refine wk fun K10 h10 => ?_
 refine W.region_plain (row := none) [(0, true), (1, false), (2, false), (3, false)] kk ?_
 have s63 := SG.self w12 none
 refine W.sn (fun b => .slice (some ⟨b, 0, none⟩) 0 0) #[] 3 s63 rfl kk rfl (fun _ => by kernel_rfl) (fun b64 w65 hb66 k67 x68 s69 => ?_)
 apply F.nx
 have lo70 : w.heap.size ≤ b64 := Nl ((Sb c62 s63 nkk)).size (Nat.le_of_eq hb66)
 refine Fa (.slice (some ⟨b64, 0, none⟩) 0 0) ?_
 refine Fa (.int .i64 0) ?_
 refine Fa (.bool false) ?_
 apply F.es
 have c72 := (Sb c62 s69 nkk)
 apply h10
 refine wp_ret ?_
 try simp only [Exit.then]
 refine ret3 (v := .slice (some ⟨b64, 0, none⟩) 0 0) (x := .int .i64 0) (y := .bool false) rfl kk kk kk ?_
 have ho73 := own_empty (base := w.heap.size) (size := 1) x68 lo70
 replace ho73 : World.ownsRow _ _ _ _ _ _ (intsV []) := ho73
 have e8 : GentlestPlan_v2 m ps vs s id cs = false := by unfold GentlestPlan_v2; rw [q14]; try rfl
 exact fin_rd3 (zs := []) (own_rd ho73) (by unfold GentlestPlan_v0; rw [if_neg (by rw [e8]; simp)]) (by unfold GentlestPlan_v1; rw [if_neg (by rw [e8]; simp)]) e8.symm c72
end Go.Proofs.Ytdbgfejeleafgaa
namespace Go.Proofs.Ytdbgfejeleafgaa
open Go.RowKit
set_option linter.unusedVariables false
set_option linter.unusedSimpArgs false
end Go.Proofs.Ytdbgfejeleafgaa
namespace Go.Proofs.Ytdbgfejeleafgaa
open Go.RowKit
set_option linter.unusedVariables false
set_option linter.unusedSimpArgs false
end Go.Proofs.Ytdbgfejeleafgaa
namespace Go.Proofs.Ytdbgfejeleafgaa
open Go.RowKit
set_option linter.unusedVariables false
set_option linter.unusedSimpArgs false
end Go.Proofs.Ytdbgfejeleafgaa
namespace Go.Proofs.Ytdbgfejeleafgaa
open Go.RowKit
set_option linter.unusedVariables false
def insV (vs : List Vv) (k : Nat) (v : Vv) : List Vv := vs.take k ++ v :: vs.drop k
theorem insV_mem {vs : List Vv} {k : Nat} {v u : Vv} (h : u ∈ vs) : u ∈ insV vs k v := by
  rw [← List.take_append_drop k vs] at h
  unfold insV
  rcases List.mem_append.1 h with h | h
  · exact List.mem_append.2 (.inl h)
  · exact List.mem_append.2 (.inr (List.mem_cons_of_mem _ h))
theorem more_link {ps : List Pp} {vs vs' : List Vv} (h : ∀ u, u ∈ vs → u ∈ vs') {a b : Int} (hl : linked ps (openQ (shutV vs' (openIds vs')) true) a b) : linked ps (openQ (shutV vs (openIds vs)) true) a b := by
  obtain ⟨i, p, v, hp, hv, hq, he⟩ := hl
  refine ⟨i, p, v, hp, hv, openQ_shut.2 (fun u hu e1 e2 => ?_), he⟩
  have h1 := openQ_shut.1 hq u (h u hu) e1 e2
  have h2 : (openIds vs').contains u.id = true := List.contains_iff_mem.2 (mem_openIds.2 ⟨u, h u hu, h1.1, rfl⟩)
  rw [h2] at h1; cases h1.2
theorem more_cut {ps : List Pp} {vs vs' : List Vv} {s id : Int} (h : ∀ u, u ∈ vs → u ∈ vs') (hc : cutB ps vs s id (openIds vs) = true) : cutB ps vs' s id (openIds vs') = true := by
  unfold cutB at hc ⊢
  rw [Bool.not_eq_true'] at hc ⊢
  rw [← Bool.not_eq_true] at hc ⊢
  intro hr
  exact hc (rb_iff.2 (reach_mono (fun a b => more_link h) (rb_iff.1 hr)))
theorem choiceTo_all {l : List Int} {t : Nat} : ∀ {i : Nat}, i ≤ l.length → (∀ j, j < i → t / 2 ^ j % 2 = 1) → choiceTo l t i = l.take i
  | 0, _, _ => by simp [choiceTo]
  | i + 1, hi, h => by
    have hx : l[i]? = some l[i] := List.getElem?_eq_getElem (by omega)
    rw [choiceTo_yes hx (h i (by omega)), choiceTo_all (by omega) (fun j hj => h j (by omega)), List.take_add_one, hx]; rfl
theorem choice_all (l : List Int) : choice l (2 ^ l.length - 1) = l := by
  unfold choice
  rw [choiceTo_all (Nat.le_refl _) (fun j hj => ?_), List.take_length]
  have h1 : (2 ^ l.length - 1).testBit j = decide (j < l.length) := Nat.testBit_two_pow_sub_one ..
  rw [Nat.testBit_eq_decide_div_mod_eq, decide_eq_true hj, decide_eq_true_eq] at h1
  exact h1
theorem bestR_more {ps : List Pp} {vs vs' : List Vv} {s id : Int} {cs : List Int} (h : ∀ u, u ∈ vs → u ∈ vs') (hs : (bestR ps vs s id cs).isSome = true) : (bestR ps vs' s id cs).isSome = true := by
  unfold bestR at hs ⊢
  cases hr : bestOf (cutB ps vs s id) (harmL ps vs s cs) (openIds vs) with
  | none => rw [hr] at hs; cases hs
  | some b =>
    obtain ⟨t, h1, h2, h3⟩ := bestOf_in hr
    have h4 := more_cut h (cut_open h2)
    have h5 := bestOf_some (P := cutB ps vs' s id) (h := harmL ps vs' s cs) (l := openIds vs') (t := 2 ^ (openIds vs').length - 1) (by have := Nat.two_pow_pos (openIds vs').length; omega) (by rw [choice_all]; exact h4)
    cases e : bestOf (cutB ps vs' s id) (harmL ps vs' s cs) (openIds vs') with
    | none => exact absurd e h5
    | some c => rfl
end Go.Proofs.Ytdbgfejeleafgaa
namespace Go.Proofs.Ytdbgfejeleafgaa
open Go.RowKit
set_option linter.unusedVariables false
set_option linter.unusedSimpArgs false
def bitsTo (q : Int → Bool) (l : List Int) : Nat → Nat
  | 0 => 0
  | i + 1 => bitsTo q l i + (if q (l.getD i 0) = true then 2 ^ i else 0)
theorem bitsTo_lt (q : Int → Bool) (l : List Int) : ∀ i, bitsTo q l i < 2 ^ i
  | 0 => by simp [bitsTo]
  | i + 1 => by
    have := bitsTo_lt q l i
    unfold bitsTo; rw [Nat.pow_succ]
    split <;> omega
theorem bit_skip (a c : Nat) {i j : Nat} (h : j < i) : (a + 2 ^ i * c) / 2 ^ j % 2 = a / 2 ^ j % 2 := by
  obtain ⟨d, rfl⟩ : ∃ d, i = j + (d + 1) := ⟨i - j - 1, by omega⟩
  have e : a + 2 ^ (j + (d + 1)) * c = a + 2 ^ j * (2 * (2 ^ d * c)) := by
    rw [Nat.pow_add, Nat.pow_succ]; congr 1; ac_rfl
  rw [e, Nat.add_mul_div_left _ _ (Nat.pow_pos (by omega))]; omega
theorem bitsTo_bit (q : Int → Bool) (l : List Int) : ∀ i j, j < i → (bitsTo q l i / 2 ^ j % 2 = 1 ↔ q (l.getD j 0) = true)
  | 0, j, h => absurd h (by omega)
  | i + 1, j, h => by
    have ih := bitsTo_bit q l i j
    have hlt := bitsTo_lt q l i
    unfold bitsTo
    by_cases e : j = i
    · subst e
      by_cases hq : q (l.getD j 0) = true
      · rw [if_pos hq, Nat.add_div_right _ (Nat.pow_pos (by omega)), Nat.div_eq_of_lt hlt]
        exact ⟨fun _ => hq, fun _ => rfl⟩
      · rw [if_neg hq, Nat.add_zero, Nat.div_eq_of_lt hlt]
        exact ⟨fun h9 => by simp at h9, fun h9 => absurd h9 hq⟩
    · split
      · rw [show 2 ^ i = 2 ^ i * 1 by omega, bit_skip _ _ (by omega)]; exact ih (by omega)
      · rw [Nat.add_zero]; exact ih (by omega)
theorem choice_bits (q : Int → Bool) (l : List Int) (n : Nat) : ∀ i, i ≤ n → i ≤ l.length → choiceTo l (bitsTo q l n) i = (l.take i).filter q
  | 0, _, _ => by simp [choiceTo]
  | i + 1, hn, hi => by
    have ih := choice_bits q l n i (by omega) (by omega)
    have hx : l[i]? = some l[i] := List.getElem?_eq_getElem (by omega)
    have hb := bitsTo_bit q l n i (by omega)
    have hg : l.getD i 0 = l[i] := by rw [List.getD_eq_getElem?_getD, hx]; rfl
    rw [hg] at hb
    rw [List.take_add_one, hx, List.filter_append]
    by_cases hq : q l[i] = true
    · rw [choiceTo_yes hx (hb.2 hq), ih]; simp [hq]
    · rw [choiceTo_no (fun h9 => hq (hb.1 h9)), ih]; simp [hq]
theorem choice_of {l pl : List Int} (hl : sorted l) (hp : sorted pl) (h : ∀ z, z ∈ pl → z ∈ l) : ∃ t, t < 2 ^ l.length ∧ choice l t = pl := by
  refine ⟨bitsTo (fun z => pl.contains z) l l.length, bitsTo_lt _ _ _, ?_⟩
  unfold choice
  rw [choice_bits _ l l.length l.length (Nat.le_refl _) (Nat.le_refl _), List.take_length]
  refine sorted_ext _ _ (sorted_filter _ hl) hp (fun z => ?_)
  rw [List.mem_filter, List.contains_iff_mem]
  exact ⟨fun h9 => h9.2, fun h9 => ⟨h z h9, h9⟩⟩
theorem choiceTo_sub (l : List Int) (t : Nat) : ∀ i, i ≤ l.length → (choiceTo l t i).Sublist (l.take i)
  | 0, _ => by simp [choiceTo]
  | i + 1, hi => by
    have ih := choiceTo_sub l t i (by omega)
    have hx : l[i]? = some l[i] := List.getElem?_eq_getElem (by omega)
    rw [List.take_add_one, hx]
    by_cases h : t / 2 ^ i % 2 = 1
    · rw [choiceTo_yes hx h]; exact ih.append (List.Sublist.refl _)
    · rw [choiceTo_no h]; exact ih.trans (List.sublist_append_left _ _)
theorem choice_sorted {l : List Int} (hl : sorted l) (t : Nat) : sorted (choice l t) := by
  have := choiceTo_sub l t l.length (Nat.le_refl _)
  rw [List.take_length] at this
  exact hl.sublist this
def keyLe (h : List Int → Int) (b : List Int × Int) (x : List Int) : Prop := b.2 < h x ∨ (b.2 = h x ∧ b.1.length ≤ x.length)
theorem better_no {h : List Int → Int} {x : List Int} {b : List Int × Int} (hb : better h x b = false) : keyLe h b x := by
  unfold better at hb
  rw [Bool.or_eq_false_iff, decide_eq_false_iff_not] at hb
  obtain ⟨h1, h2⟩ := hb
  by_cases e : h x = b.2
  · rw [decide_eq_true e, Bool.true_and] at h2
    refine .inr ⟨e.symm, ?_⟩
    unfold lessL at h2
    split at h2
    · omega
    · have := of_decide_eq_false h2; omega
  · exact .inl (by omega)
theorem better_key {h : List Int → Int} {x : List Int} {b : List Int × Int} (hb : better h x b = true) : h x < b.2 ∨ (h x = b.2 ∧ x.length ≤ b.1.length) := by
  unfold better at hb
  rw [Bool.or_eq_true, decide_eq_true_iff] at hb
  rcases hb with h1 | h1
  · exact .inl h1
  · rw [Bool.and_eq_true, decide_eq_true_iff] at h1
    refine .inr ⟨h1.1, ?_⟩
    have h2 := h1.2
    unfold lessL at h2
    split at h2
    · omega
    · have := of_decide_eq_true h2; omega
theorem keyLe_trans {h : List Int → Int} {x y : List Int} {b : List Int × Int} (h1 : h x < b.2 ∨ (h x = b.2 ∧ x.length ≤ b.1.length)) (h2 : keyLe h b y) : keyLe h (x, h x) y := by
  unfold keyLe at h2 ⊢
  dsimp only
  omega
theorem bestTo_min {P : List Int → Bool} {h : List Int → Int} {l : List Int} : ∀ {s : Nat} {b : List Int × Int}, bestTo P h l s = some b → ∀ t, t < s → P (choice l t) = true → keyLe h b (choice l t)
  | 0, _, e, _, ht, _ => absurd ht (by omega)
  | s + 1, b, e, t, ht, hP => by
    cases hr : bestTo P h l s with
    | none =>
      by_cases hs : P (choice l s) = true
      · rw [bestTo_next hr, bestStep_first hs] at e
        cases e
        by_cases e2 : t = s
        · subst e2; exact .inr ⟨rfl, Nat.le_refl _⟩
        · exact absurd hr (bestTo_some (t := t) (by omega) hP)
      · rw [bestTo_next hr, bestStep_no (by simpa using hs)] at e; cases e
    | some c =>
      have ih := bestTo_min hr
      by_cases hs : P (choice l s) = true
      · by_cases hb : better h (choice l s) c = true
        · rw [bestTo_next hr, bestStep_yes hs hb] at e
          cases e
          by_cases e2 : t = s
          · subst e2; exact .inr ⟨rfl, Nat.le_refl _⟩
          · exact keyLe_trans (better_key hb) (ih t (by omega) hP)
        · rw [bestTo_next hr, bestStep_keep (by simpa using hb)] at e
          cases e
          by_cases e2 : t = s
          · subst e2; exact better_no (by simpa using hb)
          · exact ih t (by omega) hP
      · rw [bestTo_next hr, bestStep_no (by simpa using hs)] at e
        cases e
        by_cases e2 : t = s
        · subst e2; exact absurd hP hs
        · exact ih t (by omega) hP
where
  bestTo_some {P : List Int → Bool} {h : List Int → Int} {l : List Int} {t s : Nat} (ht : t < s) (hP : P (choice l t) = true) : bestTo P h l s ≠ none := by
    have h1 : bestTo P h l (t + 1) ≠ none := by
      cases hr : bestTo P h l t with
      | none => rw [bestTo_next hr, bestStep_first hP]; simp
      | some c => rw [bestTo_next hr]; unfold bestStep; rw [if_pos hP]; simp only []; split <;> simp
    have := bestTo_mono h1 (s - (t + 1))
    rwa [show t + 1 + (s - (t + 1)) = s by omega] at this
theorem openIds_sorted {m : Int} {ps : List Pp} {vs : List Vv} (h : GoodVal m ps vs) : sorted (openIds vs) := by
  have h1 : vs.Pairwise (fun u v => u.id < v.id) := by
    rw [List.pairwise_iff_getElem]
    intro i j hi hj hij
    exact vids_rise h (j - i - 1) i _ _ (List.getElem?_eq_getElem hi) (by rw [show i + (j - i - 1) + 1 = j by omega]; exact List.getElem?_eq_getElem hj)
  unfold openIds sorted
  rw [List.pairwise_map]
  exact h1.sublist List.filter_sublist
theorem rise_of {lo hi : Int} {zs : List Int} (hs : sorted zs) (hb : ∀ z, z ∈ zs → lo ≤ z ∧ z ≤ hi) : riseL lo hi zs = true := by
  have hat : ∀ k, k < zs.length → okI lo hi zs k = true := by
    intro k hk
    have hz : zs[k]? = some zs[k] := List.getElem?_eq_getElem hk
    have hin := hb _ (List.getElem_mem hk)
    cases k with
    | zero => rw [okI_zero hz]; exact inB_iff.2 hin
    | succ k =>
      have hy : zs[k]? = some zs[k] := List.getElem?_eq_getElem (by omega)
      rw [okI_next hz hy, inB_iff.2 hin]
      exact decide_eq_true (List.pairwise_iff_getElem.1 hs k (k + 1) (by omega) hk (by omega))
  have : ∀ n, n ≤ zs.length → riseTo lo hi zs n = true := by
    intro n
    induction n with
    | zero => intro _; rfl
    | succ n ih => intro hn; unfold riseTo; rw [ih (by omega), hat n (by omega)]; rfl
  exact this _ (Nat.le_refl _)
theorem rise_sorted {lo hi : Int} {zs : List Int} (h : riseL lo hi zs = true) : sorted zs := by
  have next : ∀ k (hk : k + 1 < zs.length), zs[k] < zs[k + 1] := by
    intro k hk
    have := riseTo_at h hk
    rw [okI_next (List.getElem?_eq_getElem hk) (List.getElem?_eq_getElem (by omega : k < zs.length)), Bool.and_eq_true, decide_eq_true_eq] at this
    exact this.2
  have far : ∀ d k (hk : k + d + 1 < zs.length), zs[k]'(by omega) < zs[k + d + 1] := by
    intro d
    induction d with
    | zero => intro k hk; exact next k hk
    | succ d ih =>
      intro k hk
      have h1 := ih k (by omega)
      have h2 := next (k + d + 1) (by omega)
      exact Int.lt_trans h1 h2
  unfold sorted
  rw [List.pairwise_iff_getElem]
  intro i j hi hj hij
  obtain ⟨d, rfl⟩ : ∃ d, j = i + d + 1 := ⟨j - i - 1, by omega⟩
  exact far d i hj
theorem plan_choice {m : Int} {ps : List Pp} {vs : List Vv} {s id : Int} {pl : List Int} (h : IsPlan_v0 m ps vs s id pl = true) : ∃ t, t < 2 ^ (openIds vs).length ∧ choice (openIds vs) t = pl ∧ cutB ps vs s id (choice (openIds vs) t) = true := by
  obtain ⟨h1, h2, h3, h4⟩ := IsPlan_of h
  obtain ⟨t, ht, e⟩ := choice_of (openIds_sorted (canB_of h1).1) (rise_sorted h2) (fun z hz => by
    unfold planAll at h3
    rw [List.all_eq_true] at h3
    exact List.contains_iff_mem.1 (h3 z hz))
  exact ⟨t, ht, e, by rw [e]; exact h4⟩
theorem best_plan {m : Int} {ps : List Pp} {vs : List Vv} {s id : Int} {cs : List Int} {b : List Int × Int} (hc : canB m ps vs s id = true) (e : bestR ps vs s id cs = some b) : IsPlan_v0 m ps vs s id b.1 = true ∧ b.2 = harmL ps vs s cs b.1 := by
  have hV := (canB_of hc).1
  obtain ⟨t, h1, h2, h3⟩ := bestOf_in e
  refine ⟨?_, h3⟩
  have hmem : ∀ z, z ∈ b.1 → z ∈ openIds vs := fun z hz => by rw [h1] at hz; exact choice_mem hz
  have hr : riseL 1 99 b.1 = true := rise_of (by rw [h1]; exact choice_sorted (openIds_sorted hV) t) (fun z hz => by
    obtain ⟨v, hv, _, ev⟩ := mem_openIds.1 (hmem z hz)
    have := hV.ids v hv; omega)
  have hp : planAll vs b.1 = true := by
    unfold planAll; rw [List.all_eq_true]
    exact fun z hz => List.contains_iff_mem.2 (hmem z hz)
  unfold IsPlan_v0
  rw [hc, hr, hp, h2]; rfl
theorem best_min {m : Int} {ps : List Pp} {vs : List Vv} {s id : Int} {cs : List Int} {b : List Int × Int} {pl : List Int} (e : bestR ps vs s id cs = some b) (h : IsPlan_v0 m ps vs s id pl = true) : keyLe (harmL ps vs s cs) b pl := by
  obtain ⟨t, ht, e1, h1⟩ := plan_choice h
  have := bestTo_min e t ht h1
  rw [e1] at this; exact this
theorem gentle_of {m : Int} {ps : List Pp} {vs : List Vv} {s id : Int} {pl cs : List Int} (h : HarmOf_v1 m ps vs s id pl cs = true) :
    GentlestPlan_v2 m ps vs s id cs = true ∧ GentlestPlan_v1 m ps vs s id cs ≤ HarmOf_v0 m ps vs s id pl cs ∧ HarmOf_v1 m ps vs s id (GentlestPlan_v0 m ps vs s id cs) cs = true ∧ HarmOf_v0 m ps vs s id (GentlestPlan_v0 m ps vs s id cs) cs = GentlestPlan_v1 m ps vs s id cs := by
  have h0 : HarmOf_v0 m ps vs s id pl cs = harmL ps vs s cs pl := if_pos h
  unfold HarmOf_v1 at h
  rw [Bool.and_eq_true] at h
  obtain ⟨hp, hcu⟩ := h
  have hc := (IsPlan_of hp).1
  obtain ⟨t, ht, e1, hcut⟩ := plan_choice hp
  have hsome : bestR ps vs s id cs ≠ none := bestOf_some ht hcut
  obtain ⟨b, hb⟩ := Option.ne_none_iff_exists'.1 hsome
  have h2 : GentlestPlan_v2 m ps vs s id cs = true := by unfold GentlestPlan_v2; rw [hc, hcu, hb]; rfl
  have e0 : GentlestPlan_v0 m ps vs s id cs = b.1 := by unfold GentlestPlan_v0; rw [if_pos h2, hb]; rfl
  have e2 : GentlestPlan_v1 m ps vs s id cs = b.2 := by unfold GentlestPlan_v1; rw [if_pos h2, hb]; rfl
  obtain ⟨hb1, hb2⟩ := best_plan hc hb
  have h3 : HarmOf_v1 m ps vs s id b.1 cs = true := by unfold HarmOf_v1; rw [hb1, hcu]; rfl
  refine ⟨h2, ?_, by rw [e0]; exact h3, ?_⟩
  · have := best_min hb hp
    unfold keyLe at this
    rw [e2, h0]; omega
  · rw [e0, e2]
    unfold HarmOf_v0; rw [if_pos h3, hb2]
end Go.Proofs.Ytdbgfejeleafgaa
namespace Go.Proofs.Ytdbgfejeleafgaa
open Go.RowKit
set_option linter.unusedVariables false
set_option linter.unusedSimpArgs false
set_option maxRecDepth 100000 in
set_option maxHeartbeats 8000000 in
theorem IsPlan_impl (m : Int) (A : Option Addr) (n c : Nat) (ps : List Pp) (A2 : Option Addr) (n2 c2 : Nat) (vs : List Vv) (s id : Int) (A3 : Option Addr) (n3 c3 : Nat) (pl : List Int) (w : World) (ha : Rd w 4 A n (pipesV ps)) (hb : Rd w 4 A2 n2 (valvesV vs)) (hp3 : Rd w 1 A3 n3 (intsV pl)) (hn : n ≤ 1048576) (hn2 : n2 ≤ 1048576) (hn3 : n3 ≤ 1048576) (hfm : Fm A n c) (hfm2 : Fm A2 n2 c2) (hfp : Fm A3 n3 c3) :
    Calls Try.prog 49 #[.agg #[.int .i64 m, .slice A n c], .slice A2 n2 c2, .int .i64 s, .int .i64 id, .slice A3 n3 c3] w fun e w' => e = .returned (.bool (IsPlan_v0 m ps vs s id pl)) ∧ Below w.heap.size w w' := by
 have hl := rd_pipes_len ha
 have hl2 := rd_valves_len hb
 have hl3 := rd_ints_len hp3
 go_enter Try.func49, Try.ntmps49
 refine F.begin 50 [(0, .agg #[.int .i64 m, .slice A n c]), (1, .slice A2 n2 c2), (2, .int .i64 s), (3, .int .i64 id), (4, .slice A3 n3 c3)] (fun U0 => ?_)
 refine wk fun K1 h1 => ?_
 refine W.region_plain (row := none) [(0, true), (1, false)] kk ?_
 have s1 := SG.self w none
 refine W.sn (fun b => .pointer (some ⟨b, 0, none⟩)) #[.int .i64 m, .slice A n c] 26 s1 rfl kk rfl (fun _ => by kernel_rfl) (fun b2 w3 hb4 k5 x6 s7 => ?_)
 apply F.nx
 have lo8 : w.heap.size ≤ b2 := Nl ((Sb (Below.refl _ _) s1 nkk)).size (Nat.le_of_eq hb4)
 refine Fa (.bool false) ?_
 apply F.es
 have c9 := (Sb (Below.refl _ _) s7 nkk)
 apply h1
 refine wk fun K2 h2 => ?_
 refine wk fun K3 h3 => ?_
 refine W.region_plain (row := none) [(0, false), (1, false), (2, false), (3, false), (4, true), (5, false), (6, false), (7, false), (8, true), (9, false), (10, false)] kk ?_
 have s10 := SG.self w3 none
 refine Fq (.agg #[.int .i64 m, .slice A n c]) (r_load2 rfl ek kk kk (sgS (blk_cell (j := 0) x6 kk) onn) (sgS (blk_cell (j := 1) x6 kk) onn)) ?_
 refine Fv (.slice A2 n2 c2) ?_
 refine Fv (.int .i64 s) ?_
 refine Fv (.int .i64 id) ?_
 refine Fc [.agg #[.int .i64 m, .slice A n c], .slice A2 n2 c2, .int .i64 s, .int .i64 id] (canBurst_any m A n c ps A2 n2 c2 vs s id _ (Rk ha (Sb c9 s10 nkk)) (Rk hb (Sb c9 s10 nkk)) (by omega) (by omega) hfm2) ?_
 rintro e w12 ⟨rfl, b11⟩
 have s13 := SG.of_below s10 b11
 refine ⟨_, rfl, s13, ?_⟩
 apply F.nx
 rcases Bool.eq_false_or_eq_true (canB m ps vs s id) with q14 | q14
 ·rw [q14]
  obtain ⟨hv9, hs, hfa⟩ := canB_of q14
  have hg := hv9.net
  have hgl := hg.lo
  have hgh := hg.hi
  have hp := hg.pipesIn
  have hlen10 := hg.len
  have hu := hv9.uniq
  have hvl := hv9.len
  refine Fq (.bool false) (r_not (b := true) rfl ek rfl) ?_
  refine Fv (.bool false) ?_
  refine Fv (.slice A3 n3 c3) ?_
  refine Fc [.slice A3 n3 c3, .int .i64 1, .int .i64 99] (ascending_any A3 n3 c3 pl 1 99 _ (Rk hp3 (Sb c9 s13 nkk)) (by omega)) ?_
  rintro e w16 ⟨rfl, b15⟩
  have s17 := SG.of_below s13 b15
  refine ⟨_, rfl, s17, ?_⟩
  apply F.nx
  rcases Bool.eq_false_or_eq_true (riseL 1 99 pl) with q18 | q18
  ·rw [q18]
   have hrl := riseL_len q18
   refine Fq (.bool false) (r_not (b := true) rfl ek rfl) ?_
   refine Fq (.bool false) (r_pick (b := false) rfl ek ek) ?_
   apply F.es
   have x6 := Sk s17 x6 onn
   have c19 := (Sb c9 s17 nkk)
   apply h3
   refine wp_cond_false ek ?_
   apply wp_skip
   apply h2
   refine wk fun K4 h4 => ?_
   refine wk fun K5 h5 => ?_
   refine Rq 3 ?_
   refine Fv (.slice A3 n3 c3) ?_
   refine Fq (.int .i64 (n3 : Int)) (r_len (A := A3) (n := n3) (c := c3) rfl ek kk) ?_
   refine Fv (.int .i64 0) ?_
   apply F.es
   apply h5
   refine wp_block ?_
   refine loopK (fun am0 aa0 wl0 => ∃ (k : Nat) , Kn aa0 [(0, .agg #[.int .i64 m, .slice A n c]), (1, .slice A2 n2 c2), (2, .int .i64 s), (3, .int .i64 id), (4, .slice A3 n3 c3), (5, .pointer (some ⟨b2, 0, none⟩)), (10, .bool false), (24, .bool false), (25, .slice A3 n3 c3), (26, .int .i64 (n3 : Int)), (27, .int .i64 (k : Int))] 50 ∧ (am0 = n3 - k) ∧ (k ≤ n3) ∧ (∀ j z, j < k → pl[j]? = some z → (openIds vs).contains z = true) ∧ (wl0.heap[b2]? = some (.cells #[.int .i64 m, .slice A n c] 26 (0, 0))) ∧ (Below w.heap.size w wl0)) (n3 - 0) ?_ ?_
   ·exact ⟨0, Kn.of, rfl, (Nat.zero_le _), (fun j z hj => absurd hj (by omega)), x6, c19⟩
   rintro am0 aa0 wl0 K6 h6 ⟨k, ⟨U0, rfl⟩, rfl, hk, hall, x6, c20⟩
   refine wk fun K7 h7 => ?_
   refine Rq 1 ?_
   by_cases q21 : ((k : Int) : Int) < ((n3 : Int) : Int)
   ·refine Fq (.bool true) (r_lss (m := (k : Int)) (n := (n3 : Int)) rfl ek ek (dt q21)) ?_
    apply F.es
    apply h7
    refine wk fun K8 h8 => ?_
    refine wp_cond_true ek ?_
    apply wp_skip
    apply h8
    refine wk fun K9 h9 => ?_
    refine wp_block ?_
    refine wk fun K10 h10 => ?_
    refine Rq 3 ?_
    obtain ⟨x22, hx23⟩ := get_of (zs := pl) (k := k) (by have := hl3; omega)
    obtain ⟨b24, o25, hA26, hb27, hc28⟩ := Rd.elInt hp3 hx23
    refine Fq (.pointer (some ⟨b24, o25 + k, none⟩)) (r_idx1 (n := n3) (c := c3) (k := k) rfl ek hA26 kk kk (by have := hl3; omega)) ?_
    refine Fl (.int .i64 x22) (eqS (later c20 hc28)) ?_
    refine Fa (.int .i64 x22) ?_
    apply F.es
    apply h10
    refine wk fun K11 h11 => ?_
    refine W.region_plain (row := none) [(0, false), (1, false), (2, true), (3, false)] kk ?_
    have s29 := SG.self wl0 none
    refine Fv (.slice A2 n2 c2) ?_
    refine Fv (.int .i64 x22) ?_
    refine Fc [.slice A2 n2 c2, .int .i64 x22] (valveIndex_any A2 n2 c2 vs x22 _ (Rk hb (Sb c20 s29 nkk)) (by omega)) ?_
    rintro e w31 ⟨rfl, b30⟩
    have s32 := SG.of_below s29 b30
    refine ⟨_, rfl, s32, ?_⟩
    apply F.nx
    refine Fa (.int .i64 (idxV (idQ x22) vs)) ?_
    apply F.es
    have x6 := Sk s32 x6 onn
    have c33 := (Sb c20 s32 nkk)
    apply h11
    refine wk fun K12 h12 => ?_
    refine Rq 9 ?_
    refine Fv (.int .i64 (idxV (idQ x22) vs)) ?_
    by_cases q34 : ((idxV (idQ x22) vs) : Int) < (0 : Int)
    ·refine Fq (.bool true) (r_lss (m := (idxV (idQ x22) vs)) (n := 0) rfl ek ek (dt q34)) ?_
     refine Fv (.bool true) ?_
     refine Fs rfl ?_
     refine Fs rfl ?_
     refine Fs rfl ?_
     refine Fs rfl ?_
     refine Fs rfl ?_
     refine Fq (.bool true) (r_pick (b := true) rfl ek ek) ?_
     apply F.es
     apply h12
     refine wp_cond_true ek ?_
     refine wk fun K13 h13 => ?_
     refine Rq 1 ?_
     refine Fa (.bool false) ?_
     apply F.es
     apply h13
     refine wp_ret ?_
     try simp only [Exit.then, Exit.inBlock]
     refine ret1 (v := .bool false) rfl kk ?_
     have e8 := planAll_no (vs := vs) hx23 (open_none (vs := vs) (a := x22) (by omega))
     exact ⟨ret_bool (show false = IsPlan_v0 m ps vs s id pl from by unfold IsPlan_v0; rw [q14, q18, e8]; try rfl), c33⟩
    refine Fq (.bool false) (r_lss (m := (idxV (idQ x22) vs)) (n := 0) rfl ek ek (df q34)) ?_
    refine Fv (.bool false) ?_
    refine Fv (.slice A2 n2 c2) ?_
    refine Fv (.int .i64 (idxV (idQ x22) vs)) ?_
    obtain ⟨k9, x9, e9, hx9, hq9⟩ := idx_some (vs := vs) (q := idQ x22) (by omega)
    have hk9 := (List.getElem?_eq_some_iff.1 hx9).1
    obtain ⟨b35, o36, hA37, hb38, hc39, hc40, hc41, hc42⟩ := Rd.elValve hb hx9
    refine Fq (.pointer (some ⟨b35, o36 + k9 * 4, none⟩)) (r_idx (n := n2) (c := c2) (k := k9) rfl ek hA37 (evk (z := (idxV (idQ x22) vs)) kk e9) kk (by have := hl2; omega)) ?_
    refine Fq (.pointer (some ⟨b35, o36 + k9 * 4 + 3, none⟩)) (r_field (k := 3) rfl ek kk) ?_
    refine Fl (.bool x9.shut) (eqS (later c33 hc42)) ?_
    refine Fq (.bool x9.shut) (r_pick (b := false) rfl ek ek) ?_
    apply F.es
    apply h12
    rcases Bool.eq_false_or_eq_true x9.shut with q43 | q43
    ·rw [q43]
     refine wp_cond_true ek ?_
     refine wk fun K14 h14 => ?_
     refine Rq 1 ?_
     refine Fa (.bool false) ?_
     apply F.es
     apply h14
     refine wp_ret ?_
     try simp only [Exit.then, Exit.inBlock]
     refine ret1 (v := .bool false) rfl kk ?_
     have e8 := planAll_no (vs := vs) hx23 (by rw [open_first hv9 hx9 (of_decide_eq_true hq9), q43]; try rfl)
     exact ⟨ret_bool (show false = IsPlan_v0 m ps vs s id pl from by unfold IsPlan_v0; rw [q14, q18, e8]; try rfl), c33⟩
    rw [q43]
    refine wp_cond_false ek ?_
    apply wp_skip
    apply h9
    refine Rq 2 ?_
    refine Fq (.int .i64 ((k + 1 : Nat) : Int)) (r_add (m := (k : Int)) (n := 1) (z := ((k + 1 : Nat) : Int)) rfl ek ek (by omega) (by omega)) ?_
    refine Fv (.int .i64 ((k + 1 : Nat) : Int)) ?_
    apply F.es
    exact h6 _ _ _ (by omega : (n3 - (k + 1)) < _) ⟨k + 1, Kn.of, rfl, (by omega), (upto_succ (Q := fun z => (openIds vs).contains z = true) hall hx23 (by rw [open_first hv9 hx9 (of_decide_eq_true hq9), q43]; try rfl)), x6, c33⟩
   refine Fq (.bool false) (r_lss (m := (k : Int)) (n := (n3 : Int)) rfl ek ek (df q21)) ?_
   apply F.es
   apply h7
   refine wk fun K15 h15 => ?_
   refine wp_cond_false ek ?_
   refine wp_exit ?_
   apply h4
   refine wk fun K16 h16 => ?_
   refine W.region_plain (row := none) [(0, false), (1, false), (2, false), (3, false), (4, false), (5, true), (6, false)] kk ?_
   have s44 := SG.self wl0 none
   refine Fq (.agg #[.int .i64 m, .slice A n c]) (r_load2 rfl ek kk kk (sgS (blk_cell (j := 0) x6 kk) onn) (sgS (blk_cell (j := 1) x6 kk) onn)) ?_
   refine Fv (.slice A2 n2 c2) ?_
   refine Fv (.int .i64 s) ?_
   refine Fv (.int .i64 id) ?_
   refine Fv (.slice A3 n3 c3) ?_
   refine Fc [.agg #[.int .i64 m, .slice A n c], .slice A2 n2 c2, .int .i64 s, .int .i64 id, .slice A3 n3 c3] (isolates_any m A n c ps A2 n2 c2 vs s id A3 n3 c3 pl _ (Rk ha (Sb c20 s44 nkk)) (Rk hb (Sb c20 s44 nkk)) (by omega) (by omega) hfm2 hv9 hs hfa (Rk hp3 (Sb c20 s44 nkk)) (by omega)) ?_
   rintro e w46 ⟨rfl, b45⟩
   have s47 := SG.of_below s44 b45
   refine ⟨_, rfl, s47, ?_⟩
   apply F.nx
   rcases Bool.eq_false_or_eq_true (cutB ps vs s id pl) with q48 | q48
   ·rw [q48]
    refine Fa (.bool true) ?_
    apply F.es
    have c49 := (Sb c20 s47 nkk)
    apply h16
    refine wp_ret ?_
    try simp only [Exit.then]
    refine ret1 (v := .bool true) rfl kk ?_
    have e8 := planAll_yes (vs := vs) hl3 hall (by omega)
    exact ⟨ret_bool (show true = IsPlan_v0 m ps vs s id pl from by unfold IsPlan_v0; rw [q14, q18, e8, q48]; try rfl), c49⟩
   rw [q48]
   refine Fa (.bool false) ?_
   apply F.es
   have c50 := (Sb c20 s47 nkk)
   apply h16
   refine wp_ret ?_
   try simp only [Exit.then]
   refine ret1 (v := .bool false) rfl kk ?_
   have e8 := planAll_yes (vs := vs) hl3 hall (by omega)
   exact ⟨ret_bool (show false = IsPlan_v0 m ps vs s id pl from by unfold IsPlan_v0; rw [q14, q18, e8, q48]; try rfl), c50⟩
  rw [q18]
  refine Fq (.bool true) (r_not (b := false) rfl ek rfl) ?_
  refine Fq (.bool true) (r_pick (b := false) rfl ek ek) ?_
  apply F.es
  have c51 := (Sb c9 s17 nkk)
  apply h3
  refine wp_cond_true ek ?_
  refine wk fun K17 h17 => ?_
  refine Rq 1 ?_
  refine Fa (.bool false) ?_
  apply F.es
  apply h17
  refine wp_ret ?_
  try simp only [Exit.then]
  refine ret1 (v := .bool false) rfl kk ?_
  exact ⟨ret_bool (show false = IsPlan_v0 m ps vs s id pl from by unfold IsPlan_v0; rw [q14, q18]; try rfl), c51⟩
 rw [q14]
 refine Fq (.bool true) (r_not (b := false) rfl ek rfl) ?_
 refine Fv (.bool true) ?_
 refine Fs s13 ?_
 refine Fs s13 ?_
 refine Fs s13 ?_
 refine Fq (.bool true) (r_pick (b := true) rfl ek ek) ?_
 apply F.es
 have c52 := (Sb c9 s13 nkk)
 apply h3
 refine wp_cond_true ek ?_
 refine wk fun K18 h18 => ?_
 refine Rq 1 ?_
 refine Fa (.bool false) ?_
 apply F.es
 apply h18
 refine wp_ret ?_
 try simp only [Exit.then]
 refine ret1 (v := .bool false) rfl kk ?_
 exact ⟨ret_bool (show false = IsPlan_v0 m ps vs s id pl from by unfold IsPlan_v0; rw [q14]; try rfl), c52⟩
set_option maxRecDepth 100000 in
set_option maxHeartbeats 8000000 in
theorem l5Plan_any (m : Int) (A : Option Addr) (n c : Nat) (ps : List Pp) (A2 : Option Addr) (n2 c2 : Nat) (vs : List Vv) (s id : Int) (A3 : Option Addr) (n3 c3 : Nat) (pl : List Int) (w : World) (ha : Rd w 4 A n (pipesV ps)) (hb : Rd w 4 A2 n2 (valvesV vs)) (hp3 : Rd w 1 A3 n3 (intsV pl)) (hn : n ≤ 1048576) (hn2 : n2 ≤ 1048576) (hn3 : n3 ≤ 1048576) (hfm : Fm A n c) (hfm2 : Fm A2 n2 c2) (hfp : Fm A3 n3 c3) :
    Calls Try.prog 117 #[.agg #[.int .i64 m, .slice A n c], .slice A2 n2 c2, .int .i64 s, .int .i64 id, .slice A3 n3 c3] w fun e w' => e = .returned (.bool (IsPlan_v0 m ps vs s id pl)) ∧ Below w.heap.size w w' := by
 have hl := rd_pipes_len ha
 have hl2 := rd_valves_len hb
 have hl3 := rd_ints_len hp3
 go_enter Try.func117, Try.ntmps117
 refine F.begin 45 [(0, .agg #[.int .i64 m, .slice A n c]), (1, .slice A2 n2 c2), (2, .int .i64 s), (3, .int .i64 id), (4, .slice A3 n3 c3)] (fun U0 => ?_)
 refine wk fun K1 h1 => ?_
 refine W.region_plain (row := none) [(0, true), (1, false)] kk ?_
 have s1 := SG.self w none
 refine W.sn (fun b => .pointer (some ⟨b, 0, none⟩)) #[.int .i64 m, .slice A n c] 26 s1 rfl kk rfl (fun _ => by kernel_rfl) (fun b2 w3 hb4 k5 x6 s7 => ?_)
 apply F.nx
 have lo8 : w.heap.size ≤ b2 := Nl ((Sb (Below.refl _ _) s1 nkk)).size (Nat.le_of_eq hb4)
 refine Fa (.bool false) ?_
 apply F.es
 have c9 := (Sb (Below.refl _ _) s7 nkk)
 apply h1
 refine wk fun K2 h2 => ?_
 refine wk fun K3 h3 => ?_
 refine W.region_plain (row := none) [(0, false), (1, false), (2, false), (3, false), (4, true), (5, false), (6, false), (7, false), (8, true), (9, false), (10, false)] kk ?_
 have s10 := SG.self w3 none
 refine Fq (.agg #[.int .i64 m, .slice A n c]) (r_load2 rfl ek kk kk (sgS (blk_cell (j := 0) x6 kk) onn) (sgS (blk_cell (j := 1) x6 kk) onn)) ?_
 refine Fv (.slice A2 n2 c2) ?_
 refine Fv (.int .i64 s) ?_
 refine Fv (.int .i64 id) ?_
 refine Fc [.agg #[.int .i64 m, .slice A n c], .slice A2 n2 c2, .int .i64 s, .int .i64 id] (l5Asked_any m A n c ps A2 n2 c2 vs s id _ (Rk ha (Sb c9 s10 nkk)) (Rk hb (Sb c9 s10 nkk)) (by omega) (by omega) hfm2) ?_
 rintro e w12 ⟨rfl, b11⟩
 have s13 := SG.of_below s10 b11
 refine ⟨_, rfl, s13, ?_⟩
 apply F.nx
 rcases Bool.eq_false_or_eq_true (canB m ps vs s id) with q14 | q14
 ·rw [q14]
  obtain ⟨hv9, hs, hfa⟩ := canB_of q14
  have hg := hv9.net
  have hgl := hg.lo
  have hgh := hg.hi
  have hp := hg.pipesIn
  have hlen10 := hg.len
  have hu := hv9.uniq
  have hvl := hv9.len
  refine Fq (.bool false) (r_not (b := true) rfl ek rfl) ?_
  refine Fv (.bool false) ?_
  refine Fv (.slice A3 n3 c3) ?_
  refine Fc [.slice A3 n3 c3, .int .i64 1, .int .i64 99] (l1Rising_any A3 n3 c3 pl 1 99 _ (Rk hp3 (Sb c9 s13 nkk)) (by omega)) ?_
  rintro e w16 ⟨rfl, b15⟩
  have s17 := SG.of_below s13 b15
  refine ⟨_, rfl, s17, ?_⟩
  apply F.nx
  rcases Bool.eq_false_or_eq_true (riseL 1 99 pl) with q18 | q18
  ·rw [q18]
   have hrl := riseL_len q18
   refine Fq (.bool false) (r_not (b := true) rfl ek rfl) ?_
   refine Fq (.bool false) (r_pick (b := false) rfl ek ek) ?_
   apply F.es
   have x6 := Sk s17 x6 onn
   have c19 := (Sb c9 s17 nkk)
   apply h3
   refine wp_cond_false ek ?_
   apply wp_skip
   apply h2
   refine wk fun K4 h4 => ?_
   refine W.region_plain (row := none) [(0, false), (1, true), (2, false)] kk ?_
   have s20 := SG.self w16 none
   refine Fv (.slice A2 n2 c2) ?_
   refine Fc [.slice A2 n2 c2] (l5Open_any A2 n2 c2 vs _ (Rk hb (Sb c19 s20 nkk)) (by omega)) ?_
   rintro e w30 ⟨A21, n22, c23, rfl, ho24, b29⟩
   have s31 := SG.of_below s20 b29
   refine ⟨_, rfl, s31, ?_⟩
   apply F.nx
   have rd25 := own_rd ho24
   have hl26 := rd_ints_len rd25
   have := openIds_len vs
   refine Fa (.slice A21 n22 c23) ?_
   apply F.es
   have x6 := Sk s31 x6 onn
   have c33 := (Sb c19 s31 nkk)
   apply h4
   refine wk fun K5 h5 => ?_
   refine wk fun K6 h6 => ?_
   refine Rq 1 ?_
   refine Fa (.int .i64 0) ?_
   apply F.es
   apply h6
   refine wp_block ?_
   refine loopK (fun am0 aa0 wl0 => ∃ (k : Nat) , Kn aa0 [(0, .agg #[.int .i64 m, .slice A n c]), (1, .slice A2 n2 c2), (2, .int .i64 s), (3, .int .i64 id), (4, .slice A3 n3 c3), (5, .pointer (some ⟨b2, 0, none⟩)), (10, .bool false), (11, .slice A21 n22 c23), (12, .int .i64 (k : Int)), (23, .bool false)] 45 ∧ (am0 = n3 - k) ∧ (k ≤ n3) ∧ (∀ j z, j < k → pl[j]? = some z → (openIds vs).contains z = true) ∧ (wl0.heap[b2]? = some (.cells #[.int .i64 m, .slice A n c] 26 (0, 0))) ∧ (Rd wl0 1 A21 n22 (intsV (openIds vs))) ∧ (Below w.heap.size w wl0)) (n3 - 0) ?_ ?_
   ·exact ⟨0, Kn.of, rfl, (Nat.zero_le _), (fun j z hj => absurd hj (by omega)), x6, rd25, c33⟩
   rintro am0 aa0 wl0 K7 h7 ⟨k, ⟨U0, rfl⟩, rfl, hk, hall, x6, rd0_11, c34⟩
   refine wk fun K8 h8 => ?_
   refine wk fun K9 h9 => ?_
   refine Rq 4 ?_
   refine Fv (.int .i64 (k : Int)) ?_
   refine Fv (.slice A3 n3 c3) ?_
   refine Fq (.int .i64 (n3 : Int)) (r_len (A := A3) (n := n3) (c := c3) rfl ek kk) ?_
   by_cases q35 : ((k : Int) : Int) < ((n3 : Int) : Int)
   ·refine Fq (.bool true) (r_lss (m := (k : Int)) (n := (n3 : Int)) rfl ek ek (dt q35)) ?_
    apply F.es
    apply h9
    refine wp_cond_true ek ?_
    apply wp_skip
    apply h8
    refine wk fun K10 h10 => ?_
    refine wp_block ?_
    refine wk fun K11 h11 => ?_
    refine W.region_plain (row := none) [(0, false), (1, false), (2, false), (3, false), (4, false), (5, true), (6, false)] kk ?_
    have s36 := SG.self wl0 none
    refine Fv (.slice A21 n22 c23) ?_
    refine Fv (.slice A3 n3 c3) ?_
    refine Fv (.int .i64 (k : Int)) ?_
    obtain ⟨x37, hx38⟩ := get_of (zs := pl) (k := k) (by have := hl3; omega)
    obtain ⟨b39, o40, hA41, hb42, hc43⟩ := Rd.elInt hp3 hx38
    refine Fq (.pointer (some ⟨b39, o40 + k, none⟩)) (r_idx1 (n := n3) (c := c3) (k := k) rfl ek hA41 kk kk (by have := hl3; omega)) ?_
    refine Fl (.int .i64 x37) (sgS (later c34 hc43) (by simp)) ?_
    refine Fc [.slice A21 n22 c23, .int .i64 x37] (l1Has_any A21 n22 c23 (openIds vs) x37 _ (Rk rd0_11 (SG.below s36)) (by omega)) ?_
    rintro e w45 ⟨rfl, b44⟩
    have s46 := SG.of_below s36 b44
    refine ⟨_, rfl, s46, ?_⟩
    apply F.nx
    rcases Bool.eq_false_or_eq_true ((openIds vs).contains x37) with q47 | q47
    ·rw [q47]
     refine Fq (.bool false) (r_not (b := true) rfl ek rfl) ?_
     apply F.es
     have x6 := Sk s46 x6 onn
     have c48 := (Sb c34 s46 nkk)
     have rd49 := Rk rd0_11 (SG.below s46)
     apply h11
     refine wp_cond_false ek ?_
     apply wp_skip
     apply h10
     refine Rq 3 ?_
     refine Fv (.int .i64 (k : Int)) ?_
     refine Fq (.int .i64 ((k + 1 : Nat) : Int)) (r_add (m := (k : Int)) (n := 1) (z := ((k + 1 : Nat) : Int)) rfl ek ek (by omega) (by omega)) ?_
     refine Fa (.int .i64 ((k + 1 : Nat) : Int)) ?_
     apply F.es
     exact h7 _ _ _ (by omega : (n3 - (k + 1)) < _) ⟨k + 1, Kn.of, rfl, (by omega), (upto_succ (Q := fun z => (openIds vs).contains z = true) hall hx38 (q47)), x6, rd49, c48⟩
    rw [q47]
    refine Fq (.bool true) (r_not (b := false) rfl ek rfl) ?_
    apply F.es
    have x6 := Sk s46 x6 onn
    have c50 := (Sb c34 s46 nkk)
    apply h11
    refine wp_cond_true ek ?_
    refine wk fun K12 h12 => ?_
    refine Rq 1 ?_
    refine Fa (.bool false) ?_
    apply F.es
    apply h12
    refine wp_ret ?_
    try simp only [Exit.then, Exit.inBlock]
    refine ret1 (v := .bool false) rfl kk ?_
    have e8 := planAll_no (vs := vs) hx38 (q47)
    exact ⟨ret_bool (show false = IsPlan_v0 m ps vs s id pl from by unfold IsPlan_v0; rw [q14, q18, e8]; try rfl), c50⟩
   refine Fq (.bool false) (r_lss (m := (k : Int)) (n := (n3 : Int)) rfl ek ek (df q35)) ?_
   apply F.es
   apply h9
   refine wp_cond_false ek ?_
   refine wp_exit ?_
   apply h5
   refine wk fun K13 h13 => ?_
   refine W.region_plain (row := none) [(0, false), (1, false), (2, false), (3, false), (4, false), (5, true), (6, false)] kk ?_
   have s52 := SG.self wl0 none
   refine Fq (.agg #[.int .i64 m, .slice A n c]) (r_load2 rfl ek kk kk (sgS (blk_cell (j := 0) x6 kk) onn) (sgS (blk_cell (j := 1) x6 kk) onn)) ?_
   refine Fv (.slice A2 n2 c2) ?_
   refine Fv (.int .i64 s) ?_
   refine Fv (.int .i64 id) ?_
   refine Fv (.slice A3 n3 c3) ?_
   refine Fc [.agg #[.int .i64 m, .slice A n c], .slice A2 n2 c2, .int .i64 s, .int .i64 id, .slice A3 n3 c3] (l5Cut_any m A n c ps A2 n2 c2 vs s id A3 n3 c3 pl _ (Rk ha (Sb c34 s52 nkk)) (Rk hb (Sb c34 s52 nkk)) (by omega) (by omega) hfm2 hv9 hs hfa (Rk hp3 (Sb c34 s52 nkk)) (by omega)) ?_
   rintro e w54 ⟨rfl, b53⟩
   have s55 := SG.of_below s52 b53
   refine ⟨_, rfl, s55, ?_⟩
   apply F.nx
   rcases Bool.eq_false_or_eq_true (cutB ps vs s id pl) with q56 | q56
   ·rw [q56]
    refine Fa (.bool true) ?_
    apply F.es
    have c57 := (Sb c34 s55 nkk)
    apply h13
    refine wp_ret ?_
    try simp only [Exit.then]
    refine ret1 (v := .bool true) rfl kk ?_
    have e8 := planAll_yes (vs := vs) hl3 hall (by omega)
    exact ⟨ret_bool (show true = IsPlan_v0 m ps vs s id pl from by unfold IsPlan_v0; rw [q14, q18, e8, q56]; try rfl), c57⟩
   rw [q56]
   refine Fa (.bool false) ?_
   apply F.es
   have c59 := (Sb c34 s55 nkk)
   apply h13
   refine wp_ret ?_
   try simp only [Exit.then]
   refine ret1 (v := .bool false) rfl kk ?_
   have e8 := planAll_yes (vs := vs) hl3 hall (by omega)
   exact ⟨ret_bool (show false = IsPlan_v0 m ps vs s id pl from by unfold IsPlan_v0; rw [q14, q18, e8, q56]; try rfl), c59⟩
  rw [q18]
  refine Fq (.bool true) (r_not (b := false) rfl ek rfl) ?_
  refine Fq (.bool true) (r_pick (b := false) rfl ek ek) ?_
  apply F.es
  have c61 := (Sb c9 s17 nkk)
  apply h3
  refine wp_cond_true ek ?_
  refine wk fun K14 h14 => ?_
  refine Rq 1 ?_
  refine Fa (.bool false) ?_
  apply F.es
  apply h14
  refine wp_ret ?_
  try simp only [Exit.then]
  refine ret1 (v := .bool false) rfl kk ?_
  exact ⟨ret_bool (show false = IsPlan_v0 m ps vs s id pl from by unfold IsPlan_v0; rw [q14, q18]; try rfl), c61⟩
 rw [q14]
 refine Fq (.bool true) (r_not (b := false) rfl ek rfl) ?_
 refine Fv (.bool true) ?_
 refine Fs s13 ?_
 refine Fs s13 ?_
 refine Fs s13 ?_
 refine Fq (.bool true) (r_pick (b := true) rfl ek ek) ?_
 apply F.es
 have c62 := (Sb c9 s13 nkk)
 apply h3
 refine wp_cond_true ek ?_
 refine wk fun K15 h15 => ?_
 refine Rq 1 ?_
 refine Fa (.bool false) ?_
 apply F.es
 apply h15
 refine wp_ret ?_
 try simp only [Exit.then]
 refine ret1 (v := .bool false) rfl kk ?_
 exact ⟨ret_bool (show false = IsPlan_v0 m ps vs s id pl from by unfold IsPlan_v0; rw [q14]; try rfl), c62⟩
set_option maxRecDepth 100000 in
set_option maxHeartbeats 8000000 in
theorem HarmOf_impl (m : Int) (A : Option Addr) (n c : Nat) (ps : List Pp) (A2 : Option Addr) (n2 c2 : Nat) (vs : List Vv) (s id : Int) (A3 : Option Addr) (n3 c3 : Nat) (pl : List Int) (A4 : Option Addr) (n4 c4 : Nat) (cs : List Int) (w : World) (ha : Rd w 4 A n (pipesV ps)) (hb : Rd w 4 A2 n2 (valvesV vs)) (hp3 : Rd w 1 A3 n3 (intsV pl)) (hc4 : Rd w 1 A4 n4 (intsV cs)) (hn : n ≤ 1048576) (hn2 : n2 ≤ 1048576) (hn3 : n3 ≤ 1048576) (hn4 : n4 ≤ 1048576) (hfm : Fm A n c) (hfm2 : Fm A2 n2 c2) (hfp : Fm A3 n3 c3) (hfc : Fm A4 n4 c4) :
    Calls Try.prog 59 #[.agg #[.int .i64 m, .slice A n c], .slice A2 n2 c2, .int .i64 s, .int .i64 id, .slice A3 n3 c3, .slice A4 n4 c4] w fun e w' => e = .returned (.tuple #[.int .i64 (HarmOf_v0 m ps vs s id pl cs), .bool (HarmOf_v1 m ps vs s id pl cs)]) ∧ Below w.heap.size w w' := by
 have hl := rd_pipes_len ha
 have hl2 := rd_valves_len hb
 have hl3 := rd_ints_len hp3
 have hl4 := rd_ints_len hc4
 go_enter Try.func59, Try.ntmps59
 refine F.begin 33 [(0, .agg #[.int .i64 m, .slice A n c]), (1, .slice A2 n2 c2), (2, .int .i64 s), (3, .int .i64 id), (4, .slice A3 n3 c3), (5, .slice A4 n4 c4)] (fun U0 => ?_)
 refine wk fun K1 h1 => ?_
 refine W.region_plain (row := none) [(0, true), (1, false), (2, false)] kk ?_
 have s1 := SG.self w none
 refine W.sn (fun b => .pointer (some ⟨b, 0, none⟩)) #[.int .i64 m, .slice A n c] 26 s1 rfl kk rfl (fun _ => by kernel_rfl) (fun b2 w3 hb4 k5 x6 s7 => ?_)
 apply F.nx
 have lo8 : w.heap.size ≤ b2 := Nl ((Sb (Below.refl _ _) s1 nkk)).size (Nat.le_of_eq hb4)
 refine Fa (.int .i64 0) ?_
 refine Fa (.bool false) ?_
 apply F.es
 have c9 := (Sb (Below.refl _ _) s7 nkk)
 apply h1
 refine wk fun K2 h2 => ?_
 refine wk fun K3 h3 => ?_
 refine W.region_plain (row := none) [(0, false), (1, false), (2, false), (3, false), (4, false), (5, true), (6, false), (7, false), (8, false), (9, false), (10, true), (11, false), (12, false)] kk ?_
 have s10 := SG.self w3 none
 refine Fq (.agg #[.int .i64 m, .slice A n c]) (r_load2 rfl ek kk kk (sgS (blk_cell (j := 0) x6 kk) onn) (sgS (blk_cell (j := 1) x6 kk) onn)) ?_
 refine Fv (.slice A2 n2 c2) ?_
 refine Fv (.int .i64 s) ?_
 refine Fv (.int .i64 id) ?_
 refine Fv (.slice A3 n3 c3) ?_
 refine Fc [.agg #[.int .i64 m, .slice A n c], .slice A2 n2 c2, .int .i64 s, .int .i64 id, .slice A3 n3 c3] (IsPlan_impl m A n c ps A2 n2 c2 vs s id A3 n3 c3 pl _ (Rk ha (Sb c9 s10 nkk)) (Rk hb (Sb c9 s10 nkk)) (Rk hp3 (Sb c9 s10 nkk)) (by omega) (by omega) (by omega) hfm hfm2 hfp) ?_
 rintro e w12 ⟨rfl, b11⟩
 have s13 := SG.of_below s10 b11
 refine ⟨_, rfl, s13, ?_⟩
 apply F.nx
 rcases Bool.eq_false_or_eq_true (IsPlan_v0 m ps vs s id pl) with q14 | q14
 ·rw [q14]
  obtain ⟨hcb9, hri9, _, _⟩ := IsPlan_of q14
  obtain ⟨hv9, hs, hfa⟩ := canB_of hcb9
  have hrl := riseL_len hri9
  have hvl := hv9.len
  refine Fq (.bool false) (r_not (b := true) rfl ek rfl) ?_
  refine Fv (.bool false) ?_
  refine Fq (.agg #[.int .i64 m, .slice A n c]) (r_load2 rfl ek kk kk (sgS (blk_cell (j := 0) x6 kk) onn) (sgS (blk_cell (j := 1) x6 kk) onn)) ?_
  refine Fv (.slice A4 n4 c4) ?_
  refine Fc [.agg #[.int .i64 m, .slice A n c], .slice A4 n4 c4] (areCustomers_any m A n c ps A4 n4 c4 cs _ (Rk ha (Sb c9 s13 nkk)) (by omega) (Rk hc4 (Sb c9 s13 nkk)) (by omega)) ?_
  rintro e w16 ⟨rfl, b15⟩
  have s17 := SG.of_below s13 b15
  refine ⟨_, rfl, s17, ?_⟩
  apply F.nx
  rcases Bool.eq_false_or_eq_true (custOk m cs) with q18 | q18
  ·rw [q18]
   have hco := q18
   have hco9 := custOk_of hco
   refine Fq (.bool false) (r_not (b := true) rfl ek rfl) ?_
   refine Fq (.bool false) (r_pick (b := false) rfl ek ek) ?_
   apply F.es
   have x6 := Sk s17 x6 onn
   have c19 := (Sb c9 s17 nkk)
   apply h3
   refine wp_cond_false ek ?_
   apply wp_skip
   apply h2
   refine wk fun K4 h4 => ?_
   refine W.region_plain (row := none) [(0, false), (1, false), (2, false), (3, false), (4, false), (5, true), (6, false), (7, false)] kk ?_
   have s20 := SG.self w16 none
   refine Fq (.agg #[.int .i64 m, .slice A n c]) (r_load2 rfl ek kk kk (sgS (blk_cell (j := 0) x6 kk) onn) (sgS (blk_cell (j := 1) x6 kk) onn)) ?_
   refine Fv (.slice A2 n2 c2) ?_
   refine Fv (.int .i64 s) ?_
   refine Fv (.slice A3 n3 c3) ?_
   refine Fv (.slice A4 n4 c4) ?_
   refine Fc [.agg #[.int .i64 m, .slice A n c], .slice A2 n2 c2, .int .i64 s, .slice A3 n3 c3, .slice A4 n4 c4] (harmOf_any m A n c ps A2 n2 c2 vs s A3 n3 c3 pl A4 n4 c4 cs _ (Rk ha (Sb c19 s20 nkk)) (Rk hb (Sb c19 s20 nkk)) (by omega) (by omega) hfm2 hv9 hs (Rk hp3 (Sb c19 s20 nkk)) (by omega) (Rk hc4 (Sb c19 s20 nkk)) (by omega) hco) ?_
   rintro e w22 ⟨rfl, b21⟩
   have s23 := SG.of_below s20 b21
   refine ⟨_, rfl, s23, ?_⟩
   apply F.nx
   refine Fa (.int .i64 (harmL ps vs s cs pl)) ?_
   refine Fa (.bool true) ?_
   apply F.es
   have c24 := (Sb c19 s23 nkk)
   apply h4
   refine wp_ret ?_
   try simp only [Exit.then]
   refine ret2 (v := .int .i64 (harmL ps vs s cs pl)) (x := .bool true) rfl kk kk ?_
   have e8 : HarmOf_v1 m ps vs s id pl cs = true := by unfold HarmOf_v1; rw [q14, q18]; try rfl
   exact ⟨by unfold HarmOf_v0; rw [if_pos e8, e8], c24⟩
  rw [q18]
  refine Fq (.bool true) (r_not (b := false) rfl ek rfl) ?_
  refine Fq (.bool true) (r_pick (b := false) rfl ek ek) ?_
  apply F.es
  have c25 := (Sb c9 s17 nkk)
  apply h3
  refine wp_cond_true ek ?_
  refine wk fun K5 h5 => ?_
  refine Rq 2 ?_
  refine Fa (.int .i64 0) ?_
  refine Fa (.bool false) ?_
  apply F.es
  apply h5
  refine wp_ret ?_
  try simp only [Exit.then]
  refine ret2 (v := .int .i64 0) (x := .bool false) rfl kk kk ?_
  have e8 : HarmOf_v1 m ps vs s id pl cs = false := by unfold HarmOf_v1; rw [q18, Bool.and_false]
  exact ⟨by unfold HarmOf_v0; rw [if_neg (by rw [e8]; simp), e8], c25⟩
 rw [q14]
 refine Fq (.bool true) (r_not (b := false) rfl ek rfl) ?_
 refine Fv (.bool true) ?_
 refine Fs s13 ?_
 refine Fs s13 ?_
 refine Fs s13 ?_
 refine Fs s13 ?_
 refine Fq (.bool true) (r_pick (b := true) rfl ek ek) ?_
 apply F.es
 have c26 := (Sb c9 s13 nkk)
 apply h3
 refine wp_cond_true ek ?_
 refine wk fun K6 h6 => ?_
 refine Rq 2 ?_
 refine Fa (.int .i64 0) ?_
 refine Fa (.bool false) ?_
 apply F.es
 apply h6
 refine wp_ret ?_
 try simp only [Exit.then]
 refine ret2 (v := .int .i64 0) (x := .bool false) rfl kk kk ?_
 have e8 : HarmOf_v1 m ps vs s id pl cs = false := by unfold HarmOf_v1; rw [q14]; try rfl
 exact ⟨by unfold HarmOf_v0; rw [if_neg (by rw [e8]; simp), e8], c26⟩
set_option maxRecDepth 100000 in
set_option maxHeartbeats 8000000 in
theorem HarmOf_spec (m : Int) (A : Option Addr) (n c : Nat) (ps : List Pp) (A2 : Option Addr) (n2 c2 : Nat) (vs : List Vv) (s id : Int) (A3 : Option Addr) (n3 c3 : Nat) (pl : List Int) (A4 : Option Addr) (n4 c4 : Nat) (cs : List Int) (w : World) (ha : Rd w 4 A n (pipesV ps)) (hb : Rd w 4 A2 n2 (valvesV vs)) (hp3 : Rd w 1 A3 n3 (intsV pl)) (hc4 : Rd w 1 A4 n4 (intsV cs)) (hn : n ≤ 1048576) (hn2 : n2 ≤ 1048576) (hn3 : n3 ≤ 1048576) (hn4 : n4 ≤ 1048576) (hfm : Fm A n c) (hfm2 : Fm A2 n2 c2) (hfp : Fm A3 n3 c3) (hfc : Fm A4 n4 c4) :
    Calls Try.prog 60 #[.agg #[.int .i64 m, .slice A n c], .slice A2 n2 c2, .int .i64 s, .int .i64 id, .slice A3 n3 c3, .slice A4 n4 c4] w fun e w' => e = .returned (.tuple #[.int .i64 (HarmOf_v0 m ps vs s id pl cs), .bool (HarmOf_v1 m ps vs s id pl cs)]) ∧ Below w.heap.size w w' := by
 have hl := rd_pipes_len ha
 have hl2 := rd_valves_len hb
 have hl3 := rd_ints_len hp3
 have hl4 := rd_ints_len hc4
 go_enter Try.func60, Try.ntmps60
 refine F.begin 33 [(0, .agg #[.int .i64 m, .slice A n c]), (1, .slice A2 n2 c2), (2, .int .i64 s), (3, .int .i64 id), (4, .slice A3 n3 c3), (5, .slice A4 n4 c4)] (fun U0 => ?_)
 refine wk fun K1 h1 => ?_
 refine W.region_plain (row := none) [(0, true), (1, false), (2, false)] kk ?_
 have s1 := SG.self w none
 refine W.sn (fun b => .pointer (some ⟨b, 0, none⟩)) #[.int .i64 m, .slice A n c] 26 s1 rfl kk rfl (fun _ => by kernel_rfl) (fun b2 w3 hb4 k5 x6 s7 => ?_)
 apply F.nx
 have lo8 : w.heap.size ≤ b2 := Nl ((Sb (Below.refl _ _) s1 nkk)).size (Nat.le_of_eq hb4)
 refine Fa (.int .i64 0) ?_
 refine Fa (.bool false) ?_
 apply F.es
 have c9 := (Sb (Below.refl _ _) s7 nkk)
 apply h1
 refine wk fun K2 h2 => ?_
 refine wk fun K3 h3 => ?_
 refine W.region_plain (row := none) [(0, false), (1, false), (2, false), (3, false), (4, false), (5, true), (6, false), (7, false), (8, false), (9, false), (10, true), (11, false), (12, false)] kk ?_
 have s10 := SG.self w3 none
 refine Fq (.agg #[.int .i64 m, .slice A n c]) (r_load2 rfl ek kk kk (sgS (blk_cell (j := 0) x6 kk) onn) (sgS (blk_cell (j := 1) x6 kk) onn)) ?_
 refine Fv (.slice A2 n2 c2) ?_
 refine Fv (.int .i64 s) ?_
 refine Fv (.int .i64 id) ?_
 refine Fv (.slice A3 n3 c3) ?_
 refine Fc [.agg #[.int .i64 m, .slice A n c], .slice A2 n2 c2, .int .i64 s, .int .i64 id, .slice A3 n3 c3] (l5Plan_any m A n c ps A2 n2 c2 vs s id A3 n3 c3 pl _ (Rk ha (Sb c9 s10 nkk)) (Rk hb (Sb c9 s10 nkk)) (Rk hp3 (Sb c9 s10 nkk)) (by omega) (by omega) (by omega) hfm hfm2 hfp) ?_
 rintro e w12 ⟨rfl, b11⟩
 have s13 := SG.of_below s10 b11
 refine ⟨_, rfl, s13, ?_⟩
 apply F.nx
 rcases Bool.eq_false_or_eq_true (IsPlan_v0 m ps vs s id pl) with q14 | q14
 ·rw [q14]
  obtain ⟨hcb9, hri9, _, _⟩ := IsPlan_of q14
  obtain ⟨hv9, hs, hfa⟩ := canB_of hcb9
  have hrl := riseL_len hri9
  have hvl := hv9.len
  refine Fq (.bool false) (r_not (b := true) rfl ek rfl) ?_
  refine Fv (.bool false) ?_
  refine Fq (.agg #[.int .i64 m, .slice A n c]) (r_load2 rfl ek kk kk (sgS (blk_cell (j := 0) x6 kk) onn) (sgS (blk_cell (j := 1) x6 kk) onn)) ?_
  refine Fv (.slice A4 n4 c4) ?_
  refine Fc [.agg #[.int .i64 m, .slice A n c], .slice A4 n4 c4] (l5Customers_any m A n c ps A4 n4 c4 cs _ (Rk ha (Sb c9 s13 nkk)) (by omega) (Rk hc4 (Sb c9 s13 nkk)) (by omega)) ?_
  rintro e w16 ⟨rfl, b15⟩
  have s17 := SG.of_below s13 b15
  refine ⟨_, rfl, s17, ?_⟩
  apply F.nx
  rcases Bool.eq_false_or_eq_true (custOk m cs) with q18 | q18
  ·rw [q18]
   have hco := q18
   have hco9 := custOk_of hco
   refine Fq (.bool false) (r_not (b := true) rfl ek rfl) ?_
   refine Fq (.bool false) (r_pick (b := false) rfl ek ek) ?_
   apply F.es
   have x6 := Sk s17 x6 onn
   have c19 := (Sb c9 s17 nkk)
   apply h3
   refine wp_cond_false ek ?_
   apply wp_skip
   apply h2
   refine wk fun K4 h4 => ?_
   refine W.region_plain (row := none) [(0, false), (1, false), (2, false), (3, false), (4, false), (5, true), (6, false), (7, false)] kk ?_
   have s20 := SG.self w16 none
   refine Fq (.agg #[.int .i64 m, .slice A n c]) (r_load2 rfl ek kk kk (sgS (blk_cell (j := 0) x6 kk) onn) (sgS (blk_cell (j := 1) x6 kk) onn)) ?_
   refine Fv (.slice A2 n2 c2) ?_
   refine Fv (.int .i64 s) ?_
   refine Fv (.slice A3 n3 c3) ?_
   refine Fv (.slice A4 n4 c4) ?_
   refine Fc [.agg #[.int .i64 m, .slice A n c], .slice A2 n2 c2, .int .i64 s, .slice A3 n3 c3, .slice A4 n4 c4] (l5Harm_any m A n c ps A2 n2 c2 vs s A3 n3 c3 pl A4 n4 c4 cs _ (Rk ha (Sb c19 s20 nkk)) (Rk hb (Sb c19 s20 nkk)) (by omega) (by omega) hfm2 hv9 hs (Rk hp3 (Sb c19 s20 nkk)) (by omega) (Rk hc4 (Sb c19 s20 nkk)) (by omega) hco) ?_
   rintro e w22 ⟨rfl, b21⟩
   have s23 := SG.of_below s20 b21
   refine ⟨_, rfl, s23, ?_⟩
   apply F.nx
   refine Fa (.int .i64 (harmL ps vs s cs pl)) ?_
   refine Fa (.bool true) ?_
   apply F.es
   have c24 := (Sb c19 s23 nkk)
   apply h4
   refine wp_ret ?_
   try simp only [Exit.then]
   refine ret2 (v := .int .i64 (harmL ps vs s cs pl)) (x := .bool true) rfl kk kk ?_
   have e8 : HarmOf_v1 m ps vs s id pl cs = true := by unfold HarmOf_v1; rw [q14, q18]; try rfl
   exact ⟨by unfold HarmOf_v0; rw [if_pos e8, e8], c24⟩
  rw [q18]
  refine Fq (.bool true) (r_not (b := false) rfl ek rfl) ?_
  refine Fq (.bool true) (r_pick (b := false) rfl ek ek) ?_
  apply F.es
  have c25 := (Sb c9 s17 nkk)
  apply h3
  refine wp_cond_true ek ?_
  refine wk fun K5 h5 => ?_
  refine Rq 2 ?_
  refine Fa (.int .i64 0) ?_
  refine Fa (.bool false) ?_
  apply F.es
  apply h5
  refine wp_ret ?_
  try simp only [Exit.then]
  refine ret2 (v := .int .i64 0) (x := .bool false) rfl kk kk ?_
  have e8 : HarmOf_v1 m ps vs s id pl cs = false := by unfold HarmOf_v1; rw [q18, Bool.and_false]
  exact ⟨by unfold HarmOf_v0; rw [if_neg (by rw [e8]; simp), e8], c25⟩
 rw [q14]
 refine Fq (.bool true) (r_not (b := false) rfl ek rfl) ?_
 refine Fv (.bool true) ?_
 refine Fs s13 ?_
 refine Fs s13 ?_
 refine Fs s13 ?_
 refine Fs s13 ?_
 refine Fq (.bool true) (r_pick (b := true) rfl ek ek) ?_
 apply F.es
 have c26 := (Sb c9 s13 nkk)
 apply h3
 refine wp_cond_true ek ?_
 refine wk fun K6 h6 => ?_
 refine Rq 2 ?_
 refine Fa (.int .i64 0) ?_
 refine Fa (.bool false) ?_
 apply F.es
 apply h6
 refine wp_ret ?_
 try simp only [Exit.then]
 refine ret2 (v := .int .i64 0) (x := .bool false) rfl kk kk ?_
 have e8 : HarmOf_v1 m ps vs s id pl cs = false := by unfold HarmOf_v1; rw [q14]; try rfl
 exact ⟨by unfold HarmOf_v0; rw [if_neg (by rw [e8]; simp), e8], c26⟩
end Go.Proofs.Ytdbgfejeleafgaa
namespace Go.Proofs.Ytdbgfejeleafgaa
open Go.RowKit
set_option linter.unusedVariables false
set_option linter.unusedSimpArgs false
theorem findL_pos' {ps : List Pp} {p : Pp} (h : p ∈ ps) : 0 ≤ findL ps p.id := by
  induction ps with
  | nil => cases h
  | cons q ps ih =>
    unfold findL
    by_cases e : q.id = p.id
    · rw [if_pos e]; exact Int.le_refl _
    · rw [if_neg e]
      have hp : p ∈ ps := (List.mem_cons.1 h).elim (fun e' => absurd (by rw [e']) e) id
      have := ih hp
      rw [if_neg (by omega)]; omega
theorem lt_none {r : Option (List Int × Int)} (h : r.isSome = false) : leastOf r = -1 := by
  cases r with
  | none => rfl
  | some b => cases h
noncomputable def worstTo (ps : List Pp) (vs : List Vv) (s : Int) (cs : List Int) : Nat → Int × Int
  | 0 => (0, -1)
  | i + 1 => match ps[i]? with
    | some p => if (worstTo ps vs s cs i).2 < leastOf (bestR ps vs s p.id cs) then (p.id, leastOf (bestR ps vs s p.id cs)) else worstTo ps vs s cs i
    | none => worstTo ps vs s cs i
theorem worst_yes {ps : List Pp} {vs : List Vv} {s : Int} {cs : List Int} {i : Nat} {u z : Int} {p : Pp} (h : worstTo ps vs s cs i = (u, z)) (hp : ps[i]? = some p) (hz : z < leastOf (bestR ps vs s p.id cs)) : worstTo ps vs s cs (i + 1) = (p.id, leastOf (bestR ps vs s p.id cs)) := by
  rw [worstTo, hp]; simp only []; rw [if_pos (by rw [h]; exact hz)]
theorem worst_no {ps : List Pp} {vs : List Vv} {s : Int} {cs : List Int} {i : Nat} {u z : Int} {p : Pp} (h : worstTo ps vs s cs i = (u, z)) (hp : ps[i]? = some p) (hz : ¬ z < leastOf (bestR ps vs s p.id cs)) : worstTo ps vs s cs (i + 1) = (u, z) := by
  rw [worstTo, hp]; simp only []; rw [if_neg (by rw [h]; exact hz), h]
noncomputable def worstR (ps : List Pp) (vs : List Vv) (s : Int) (cs : List Int) : Int × Int := worstTo ps vs s cs ps.length
noncomputable def WorstBurst_v2 (m : Int) (ps : List Pp) (vs : List Vv) (s : Int) (cs : List Int) : Bool := goodV m ps vs && (inB s 1 m && (custOk m cs && decide (0 ≤ (worstR ps vs s cs).2)))
noncomputable def WorstBurst_v0 (m : Int) (ps : List Pp) (vs : List Vv) (s : Int) (cs : List Int) : Int := if WorstBurst_v2 m ps vs s cs = true then (worstR ps vs s cs).1 else 0
noncomputable def WorstBurst_v1 (m : Int) (ps : List Pp) (vs : List Vv) (s : Int) (cs : List Int) : Int := if WorstBurst_v2 m ps vs s cs = true then (worstR ps vs s cs).2 else 0
set_option maxRecDepth 100000 in
set_option maxHeartbeats 8000000 in
theorem WorstBurst_impl (m : Int) (A : Option Addr) (n c : Nat) (ps : List Pp) (A2 : Option Addr) (n2 c2 : Nat) (vs : List Vv) (s : Int) (A4 : Option Addr) (n4 c4 : Nat) (cs : List Int) (w : World) (ha : Rd w 4 A n (pipesV ps)) (hb : Rd w 4 A2 n2 (valvesV vs)) (hc4 : Rd w 1 A4 n4 (intsV cs)) (hn : n ≤ 1048576) (hn2 : n2 ≤ 1048576) (hn4 : n4 ≤ 1048576) (hfm : Fm A n c) (hfm2 : Fm A2 n2 c2) (hfc : Fm A4 n4 c4) :
    Calls Try.prog 65 #[.agg #[.int .i64 m, .slice A n c], .slice A2 n2 c2, .int .i64 s, .slice A4 n4 c4] w fun e w' => e = .returned (.tuple #[.int .i64 (WorstBurst_v0 m ps vs s cs), .int .i64 (WorstBurst_v1 m ps vs s cs), .bool (WorstBurst_v2 m ps vs s cs)]) ∧ Below w.heap.size w w' := by
 have hl := rd_pipes_len ha
 have hl2 := rd_valves_len hb
 have hl4 := rd_ints_len hc4
 go_enter Try.func65, Try.ntmps65
 refine F.begin 66 [(0, .agg #[.int .i64 m, .slice A n c]), (1, .slice A2 n2 c2), (2, .int .i64 s), (3, .slice A4 n4 c4)] (fun U0 => ?_)
 refine wk fun K1 h1 => ?_
 refine W.region_plain (row := none) [(0, true), (1, false), (2, false), (3, false)] kk ?_
 have s1 := SG.self w none
 refine W.sn (fun b => .pointer (some ⟨b, 0, none⟩)) #[.int .i64 m, .slice A n c] 26 s1 rfl kk rfl (fun _ => by kernel_rfl) (fun b2 w3 hb4 k5 x6 s7 => ?_)
 apply F.nx
 have lo8 : w.heap.size ≤ b2 := Nl ((Sb (Below.refl _ _) s1 nkk)).size (Nat.le_of_eq hb4)
 refine Fa (.int .i64 0) ?_
 refine Fa (.int .i64 0) ?_
 refine Fa (.bool false) ?_
 apply F.es
 have c9 := (Sb (Below.refl _ _) s7 nkk)
 apply h1
 refine wk fun K2 h2 => ?_
 refine wk fun K3 h3 => ?_
 refine W.region_plain (row := none) [(0, false), (1, false), (2, true), (3, false), (4, false), (5, false), (6, false), (7, true), (8, false), (9, false), (10, false), (11, false), (12, false), (13, true), (14, false), (15, false)] kk ?_
 have s10 := SG.self w3 none
 refine Fq (.agg #[.int .i64 m, .slice A n c]) (r_load2 rfl ek kk kk (sgS (blk_cell (j := 0) x6 kk) onn) (sgS (blk_cell (j := 1) x6 kk) onn)) ?_
 refine Fv (.slice A2 n2 c2) ?_
 refine Fc [.agg #[.int .i64 m, .slice A n c], .slice A2 n2 c2] (IsValidValves_any m A n c ps A2 n2 c2 vs _ (Rk ha (Sb c9 s10 nkk)) (Rk hb (Sb c9 s10 nkk)) (by omega) (by omega) hfm2) ?_
 rintro e w12 ⟨rfl, b11⟩
 have s13 := SG.of_below s10 b11
 refine ⟨_, rfl, s13, ?_⟩
 apply F.nx
 rcases Bool.eq_false_or_eq_true (goodV m ps vs) with q14 | q14
 ·rw [q14]
  have hv9 := goodV_of q14
  have hg := hv9.net
  have hgl := hg.lo
  have hgh := hg.hi
  have hp := hg.pipesIn
  have hlen10 := hg.len
  have hu := hv9.uniq
  have hvl := hv9.len
  refine Fq (.bool false) (r_not (b := true) rfl ek rfl) ?_
  refine Fv (.bool false) ?_
  refine Fq (.agg #[.int .i64 m, .slice A n c]) (r_load2 rfl ek kk kk (sgS (blk_cell (j := 0) x6 kk) onn) (sgS (blk_cell (j := 1) x6 kk) onn)) ?_
  refine Fv (.int .i64 s) ?_
  refine Fc [.agg #[.int .i64 m, .slice A n c], .int .i64 s] (has_any m A n c ps s _) ?_
  rintro e w16 ⟨rfl, b15⟩
  have s17 := SG.of_below s13 b15
  refine ⟨_, rfl, s17, ?_⟩
  apply F.nx
  rcases Bool.eq_false_or_eq_true (inB s 1 m) with q18 | q18
  ·rw [q18]
   have hs := inB_iff.1 q18
   refine Fq (.bool false) (r_not (b := true) rfl ek rfl) ?_
   refine Fq (.bool false) (r_pick (b := false) rfl ek ek) ?_
   refine Fv (.bool false) ?_
   refine Fq (.agg #[.int .i64 m, .slice A n c]) (r_load2 rfl ek kk kk (sgS (blk_cell (j := 0) x6 kk) onn) (sgS (blk_cell (j := 1) x6 kk) onn)) ?_
   refine Fv (.slice A4 n4 c4) ?_
   refine Fc [.agg #[.int .i64 m, .slice A n c], .slice A4 n4 c4] (areCustomers_any m A n c ps A4 n4 c4 cs _ (Rk ha (Sb c9 s17 nkk)) (by omega) (Rk hc4 (Sb c9 s17 nkk)) (by omega)) ?_
   rintro e w20 ⟨rfl, b19⟩
   have s21 := SG.of_below s17 b19
   refine ⟨_, rfl, s21, ?_⟩
   apply F.nx
   rcases Bool.eq_false_or_eq_true (custOk m cs) with q22 | q22
   ·rw [q22]
    have hco := q22
    have hco9 := custOk_of hco
    refine Fq (.bool false) (r_not (b := true) rfl ek rfl) ?_
    refine Fq (.bool false) (r_pick (b := false) rfl ek ek) ?_
    apply F.es
    have x6 := Sk s21 x6 onn
    have c23 := (Sb c9 s21 nkk)
    apply h3
    refine wp_cond_false ek ?_
    apply wp_skip
    apply h2
    refine wk fun K4 h4 => ?_
    refine Rq 2 ?_
    refine Fa (.int .i64 0) ?_
    refine Fa (.int .i64 (-1)) ?_
    apply F.es
    apply h4
    refine wk fun K5 h5 => ?_
    refine wk fun K6 h6 => ?_
    refine Rq 4 ?_
    refine Fq (.pointer (some ⟨b2, 1, none⟩)) (r_field (k := 1) rfl ek kk) ?_
    refine Fl (.slice A n c) (eqS (blk_cell (j := 1) x6 kk)) ?_
    refine Fq (.int .i64 (n : Int)) (r_len (A := A) (n := n) (c := c) rfl ek kk) ?_
    refine Fv (.int .i64 0) ?_
    apply F.es
    apply h6
    refine wp_block ?_
    refine loopK (fun am0 aa0 wl0 => ∃ (i : Nat) (u : Int) (z : Int) , Kn aa0 [(0, .agg #[.int .i64 m, .slice A n c]), (1, .slice A2 n2 c2), (2, .int .i64 s), (3, .slice A4 n4 c4), (4, .pointer (some ⟨b2, 0, none⟩)), (8, .int .i64 0), (9, .int .i64 0), (10, .bool false), (11, .int .i64 u), (12, .int .i64 z), (33, .bool false), (35, .slice A n c), (36, .int .i64 (n : Int)), (37, .int .i64 (i : Int))] 66 ∧ (am0 = n - i) ∧ (i ≤ n) ∧ (worstTo ps vs s cs i = (u, z)) ∧ (-1 ≤ z) ∧ (wl0.heap[b2]? = some (.cells #[.int .i64 m, .slice A n c] 26 (0, 0))) ∧ (Below w.heap.size w wl0)) (n - 0) ?_ ?_
    ·exact ⟨0, 0, -1, Kn.of, rfl, (Nat.zero_le _), rfl, (by omega), x6, c23⟩
    rintro am0 aa0 wl0 K7 h7 ⟨i, u, z, ⟨U0, rfl⟩, rfl, hi, huz, hz, x6, c24⟩
    refine wk fun K8 h8 => ?_
    refine Rq 1 ?_
    by_cases q25 : ((i : Int) : Int) < ((n : Int) : Int)
    ·refine Fq (.bool true) (r_lss (m := (i : Int)) (n := (n : Int)) rfl ek ek (dt q25)) ?_
     apply F.es
     apply h8
     refine wk fun K9 h9 => ?_
     refine wp_cond_true ek ?_
     apply wp_skip
     apply h9
     refine wk fun K10 h10 => ?_
     refine wp_block ?_
     refine wk fun K11 h11 => ?_
     refine W.region_plain (row := none) [(0, false), (1, false), (2, true), (3, true)] kk ?_
     have s26 := SG.self wl0 none
     obtain ⟨x27, hx28⟩ := get_of (zs := ps) (k := i) (by have := hl; omega)
     obtain ⟨b29, o30, hA31, hb32, hc33, hc34, hc35, hc36⟩ := Rd.elPipe ha hx28
     refine Fq (.pointer (some ⟨b29, o30 + i * 4, none⟩)) (r_idx (n := n) (c := c) (k := i) rfl ek hA31 kk kk (by have := hl; omega)) ?_
     refine Fq (.agg #[.int .i64 x27.id, .int .i64 x27.fr, .int .i64 x27.to, .int .i64 x27.sz]) (r_load4 rfl ek kk kk (sgS (later c24 hc33) (by simp)) (sgS (later c24 hc34) (by simp)) (sgS (later c24 hc35) (by simp)) (sgS (later c24 hc36) (by simp))) ?_
     refine W.sn (fun b => .pointer (some ⟨b, 0, none⟩)) #[.int .i64 0, .int .i64 0, .int .i64 0, .int .i64 0] 51 s26 rfl kk rfl (fun _ => by kernel_rfl) (fun b37 w38 hb39 k40 x41 s42 => ?_)
     apply F.nx
     have lo43 : w.heap.size ≤ b37 := Nl ((Sb c24 s26 nkk)).size (Nat.le_of_eq hb39)
     refine W.ss (v := .agg #[.int .i64 x27.id, .int .i64 x27.fr, .int .i64 x27.to, .int .i64 x27.sz]) (j := 0) (news := [.int .i64 x27.id, .int .i64 x27.fr, .int .i64 x27.to, .int .i64 x27.sz]) (cs' := #[.int .i64 x27.id, .int .i64 x27.fr, .int .i64 x27.to, .int .i64 x27.sz]) s42 rfl kk rfl rfl kk kk x41 kk kk (by simp) kk kk (.inr (Nl (s26).size (Nat.le_of_eq hb39))) (fun w45 g46 x47 s48 => ?_)
     apply F.es
     have x6 := Sk s48 x6 onn
     have c49 := (Sb c24 s48 nkk)
     apply h11
     refine wk fun K12 h12 => ?_
     refine W.region_plain (row := none) [(0, false), (1, false), (2, false), (3, false), (4, false), (5, false), (6, true), (7, false), (8, false), (9, false), (10, false), (11, false), (12, false), (13, false)] kk ?_
     have s50 := SG.self w45 none
     refine Fq (.agg #[.int .i64 m, .slice A n c]) (r_load2 rfl ek kk kk (sgS (blk_cell (j := 0) x6 kk) onn) (sgS (blk_cell (j := 1) x6 kk) onn)) ?_
     refine Fv (.slice A2 n2 c2) ?_
     refine Fv (.int .i64 s) ?_
     refine Fq (.pointer (some ⟨b37, 0, none⟩)) (r_field0 rfl ek kk) ?_
     refine Fl (.int .i64 x27.id) (sgS (blk_cell (j := 0) x47 kk) onn) ?_
     refine Fv (.slice A4 n4 c4) ?_
     have z55 := ((Sb c49 s50 nkk)).size
     refine Fc [.agg #[.int .i64 m, .slice A n c], .slice A2 n2 c2, .int .i64 s, .int .i64 x27.id, .slice A4 n4 c4] (gentlest_any m A n c ps A2 n2 c2 vs s x27.id A4 n4 c4 cs _ (Rk ha (Sb c49 s50 nkk)) (Rk hb (Sb c49 s50 nkk)) (by omega) (by omega) hfm2 hv9 hs (findL_pos' (List.mem_of_getElem? hx28)) (Rk hc4 (Sb c49 s50 nkk)) (by omega) hco) ?_
     rintro e w58 ⟨A51, c52, rfl, ho53, b57⟩
     have s59 := SG.of_below s50 b57
     refine ⟨_, rfl, s59, ?_⟩
     apply F.nx
     refine Fv (.tuple #[.slice A51 ((bpOf (bestR ps vs s x27.id cs)).length) c52, .int .i64 (ltOf (bestR ps vs s x27.id cs)), .bool ((bestR ps vs s x27.id cs).isSome)]) ?_
     refine Fq (.slice A51 ((bpOf (bestR ps vs s x27.id cs)).length) c52) (r_extract (vs := #[.slice A51 ((bpOf (bestR ps vs s x27.id cs)).length) c52, .int .i64 (ltOf (bestR ps vs s x27.id cs)), .bool ((bestR ps vs s x27.id cs).isSome)]) rfl ek kk) ?_
     refine Fq (.int .i64 (ltOf (bestR ps vs s x27.id cs))) (r_extract (vs := #[.slice A51 ((bpOf (bestR ps vs s x27.id cs)).length) c52, .int .i64 (ltOf (bestR ps vs s x27.id cs)), .bool ((bestR ps vs s x27.id cs).isSome)]) rfl ek kk) ?_
     refine Fq (.bool ((bestR ps vs s x27.id cs).isSome)) (r_extract (vs := #[.slice A51 ((bpOf (bestR ps vs s x27.id cs)).length) c52, .int .i64 (ltOf (bestR ps vs s x27.id cs)), .bool ((bestR ps vs s x27.id cs).isSome)]) rfl ek kk) ?_
     refine Fa (.slice A51 ((bpOf (bestR ps vs s x27.id cs)).length) c52) ?_
     refine Fa (.int .i64 (ltOf (bestR ps vs s x27.id cs))) ?_
     refine Fa (.bool ((bestR ps vs s x27.id cs).isSome)) ?_
     apply F.es
     have x6 := Sk s59 x6 onn
     have x47 := Sk s59 x47 onn
     have c62 := (Sb c49 s59 nkk)
     apply h12
     refine wk fun K13 h13 => ?_
     refine Rq 6 ?_
     refine Fv (.bool ((bestR ps vs s x27.id cs).isSome)) ?_
     refine Fv (.bool ((bestR ps vs s x27.id cs).isSome)) ?_
     rcases Bool.eq_false_or_eq_true ((bestR ps vs s x27.id cs).isSome) with q63 | q63
     ·rw [q63]
      refine Fv (.int .i64 (ltOf (bestR ps vs s x27.id cs))) ?_
      refine Fv (.int .i64 z) ?_
      by_cases q64 : ((ltOf (bestR ps vs s x27.id cs)) : Int) > (z : Int)
      ·refine Fq (.bool true) (r_gtr (m := (ltOf (bestR ps vs s x27.id cs))) (n := z) rfl ek ek (dt q64)) ?_
       refine Fq (.bool true) (r_pick (b := true) rfl ek ek) ?_
       apply F.es
       apply h13
       refine wp_cond_true ek ?_
       refine Rq 5 ?_
       refine Fq (.pointer (some ⟨b37, 0, none⟩)) (r_field0 rfl ek kk) ?_
       refine Fl (.int .i64 x27.id) (eqS (blk_cell (j := 0) x47 kk)) ?_
       refine Fv (.int .i64 (ltOf (bestR ps vs s x27.id cs))) ?_
       refine Fa (.int .i64 x27.id) ?_
       refine Fa (.int .i64 (ltOf (bestR ps vs s x27.id cs))) ?_
       apply F.es
       apply h10
       refine Rq 2 ?_
       refine Fq (.int .i64 ((i + 1 : Nat) : Int)) (r_add (m := (i : Int)) (n := 1) (z := ((i + 1 : Nat) : Int)) rfl ek ek (by omega) (by omega)) ?_
       refine Fv (.int .i64 ((i + 1 : Nat) : Int)) ?_
       apply F.es
       have hl9 := lt_some q63
       exact h7 _ _ _ (by omega : (n - (i + 1)) < _) ⟨i + 1, x27.id, (ltOf (bestR ps vs s x27.id cs)), Kn.of, rfl, (by omega), ((worst_yes huz hx28 (by omega)).trans (by rw [hl9])), (by omega), x6, c62⟩
      refine Fq (.bool false) (r_gtr (m := (ltOf (bestR ps vs s x27.id cs))) (n := z) rfl ek ek (df q64)) ?_
      refine Fq (.bool false) (r_pick (b := true) rfl ek ek) ?_
      apply F.es
      apply h13
      refine wp_cond_false ek ?_
      apply wp_skip
      apply h10
      refine Rq 2 ?_
      refine Fq (.int .i64 ((i + 1 : Nat) : Int)) (r_add (m := (i : Int)) (n := 1) (z := ((i + 1 : Nat) : Int)) rfl ek ek (by omega) (by omega)) ?_
      refine Fv (.int .i64 ((i + 1 : Nat) : Int)) ?_
      apply F.es
      have hl9 := lt_some q63
      exact h7 _ _ _ (by omega : (n - (i + 1)) < _) ⟨i + 1, u, z, Kn.of, rfl, (by omega), (worst_no huz hx28 (by omega)), hz, x6, c62⟩
     rw [q63]
     refine Fs rfl ?_
     refine Fs rfl ?_
     refine Fs rfl ?_
     refine Fq (.bool false) (r_pick (b := false) rfl ek ek) ?_
     apply F.es
     apply h13
     refine wp_cond_false ek ?_
     apply wp_skip
     apply h10
     refine Rq 2 ?_
     refine Fq (.int .i64 ((i + 1 : Nat) : Int)) (r_add (m := (i : Int)) (n := 1) (z := ((i + 1 : Nat) : Int)) rfl ek ek (by omega) (by omega)) ?_
     refine Fv (.int .i64 ((i + 1 : Nat) : Int)) ?_
     apply F.es
     have hl9 := lt_none q63
     exact h7 _ _ _ (by omega : (n - (i + 1)) < _) ⟨i + 1, u, z, Kn.of, rfl, (by omega), (worst_no huz hx28 (by omega)), hz, x6, c62⟩
    refine Fq (.bool false) (r_lss (m := (i : Int)) (n := (n : Int)) rfl ek ek (df q25)) ?_
    apply F.es
    apply h8
    refine wk fun K14 h14 => ?_
    refine wp_cond_false ek ?_
    refine wp_exit ?_
    apply h5
    refine wk fun K15 h15 => ?_
    refine wk fun K16 h16 => ?_
    refine Rq 2 ?_
    refine Fv (.int .i64 z) ?_
    by_cases q65 : (z : Int) < (0 : Int)
    ·refine Fq (.bool true) (r_lss (m := z) (n := 0) rfl ek ek (dt q65)) ?_
     apply F.es
     apply h16
     refine wp_cond_true ek ?_
     refine wk fun K17 h17 => ?_
     refine Rq 3 ?_
     refine Fa (.int .i64 0) ?_
     refine Fa (.int .i64 0) ?_
     refine Fa (.bool false) ?_
     apply F.es
     apply h17
     refine wp_ret ?_
     try simp only [Exit.then]
     refine ret3 (v := .int .i64 0) (x := .int .i64 0) (y := .bool false) rfl kk kk kk ?_
     have e6 : worstR ps vs s cs = (u, z) := by unfold worstR; rw [show ps.length = i by omega]; exact huz
     have e5 : decide (0 ≤ (worstR ps vs s cs).2) = false := by rw [e6]; exact decide_eq_false (show ¬ 0 ≤ z by omega)
     have e8 : WorstBurst_v2 m ps vs s cs = false := by unfold WorstBurst_v2; rw [q14, q18, q22, e5]; try rfl
     exact ⟨by unfold WorstBurst_v0 WorstBurst_v1; rw [if_neg (by rw [e8]; simp), if_neg (by rw [e8]; simp), e8], c24⟩
    refine Fq (.bool false) (r_lss (m := z) (n := 0) rfl ek ek (df q65)) ?_
    apply F.es
    apply h16
    refine wp_cond_false ek ?_
    apply wp_skip
    apply h15
    refine wk fun K18 h18 => ?_
    refine Rq 5 ?_
    refine Fv (.int .i64 u) ?_
    refine Fv (.int .i64 z) ?_
    refine Fa (.int .i64 u) ?_
    refine Fa (.int .i64 z) ?_
    refine Fa (.bool true) ?_
    apply F.es
    apply h18
    refine wp_ret ?_
    try simp only [Exit.then]
    refine ret3 (v := .int .i64 u) (x := .int .i64 z) (y := .bool true) rfl kk kk kk ?_
    have e6 : worstR ps vs s cs = (u, z) := by unfold worstR; rw [show ps.length = i by omega]; exact huz
    have e5 : decide (0 ≤ (worstR ps vs s cs).2) = true := by rw [e6]; exact decide_eq_true (show 0 ≤ z by omega)
    have e8 : WorstBurst_v2 m ps vs s cs = true := by unfold WorstBurst_v2; rw [q14, q18, q22, e5]; try rfl
    exact ⟨by unfold WorstBurst_v0 WorstBurst_v1; rw [if_pos e8, if_pos e8, e6, e8], c24⟩
   rw [q22]
   refine Fq (.bool true) (r_not (b := false) rfl ek rfl) ?_
   refine Fq (.bool true) (r_pick (b := false) rfl ek ek) ?_
   apply F.es
   have c66 := (Sb c9 s21 nkk)
   apply h3
   refine wp_cond_true ek ?_
   refine wk fun K19 h19 => ?_
   refine Rq 3 ?_
   refine Fa (.int .i64 0) ?_
   refine Fa (.int .i64 0) ?_
   refine Fa (.bool false) ?_
   apply F.es
   apply h19
   refine wp_ret ?_
   try simp only [Exit.then]
   refine ret3 (v := .int .i64 0) (x := .int .i64 0) (y := .bool false) rfl kk kk kk ?_
   have e8 : WorstBurst_v2 m ps vs s cs = false := by unfold WorstBurst_v2; rw [q14, q18, q22]; try rfl
   exact ⟨by unfold WorstBurst_v0 WorstBurst_v1; rw [if_neg (by rw [e8]; simp), if_neg (by rw [e8]; simp), e8], c66⟩
  rw [q18]
  refine Fq (.bool true) (r_not (b := false) rfl ek rfl) ?_
  refine Fq (.bool true) (r_pick (b := false) rfl ek ek) ?_
  refine Fv (.bool true) ?_
  refine Fs s17 ?_
  refine Fs s17 ?_
  refine Fs s17 ?_
  refine Fs s17 ?_
  refine Fq (.bool true) (r_pick (b := true) rfl ek ek) ?_
  apply F.es
  have c67 := (Sb c9 s17 nkk)
  apply h3
  refine wp_cond_true ek ?_
  refine wk fun K20 h20 => ?_
  refine Rq 3 ?_
  refine Fa (.int .i64 0) ?_
  refine Fa (.int .i64 0) ?_
  refine Fa (.bool false) ?_
  apply F.es
  apply h20
  refine wp_ret ?_
  try simp only [Exit.then]
  refine ret3 (v := .int .i64 0) (x := .int .i64 0) (y := .bool false) rfl kk kk kk ?_
  have e8 : WorstBurst_v2 m ps vs s cs = false := by unfold WorstBurst_v2; rw [q14, q18]; try rfl
  exact ⟨by unfold WorstBurst_v0 WorstBurst_v1; rw [if_neg (by rw [e8]; simp), if_neg (by rw [e8]; simp), e8], c67⟩
 rw [q14]
 refine Fq (.bool true) (r_not (b := false) rfl ek rfl) ?_
 refine Fv (.bool true) ?_
 refine Fs s13 ?_
 refine Fs s13 ?_
 refine Fs s13 ?_
 refine Fs s13 ?_
 refine Fq (.bool true) (r_pick (b := true) rfl ek ek) ?_
 refine Fv (.bool true) ?_
 refine Fs s13 ?_
 refine Fs s13 ?_
 refine Fs s13 ?_
 refine Fs s13 ?_
 refine Fq (.bool true) (r_pick (b := true) rfl ek ek) ?_
 apply F.es
 have c68 := (Sb c9 s13 nkk)
 apply h3
 refine wp_cond_true ek ?_
 refine wk fun K21 h21 => ?_
 refine Rq 3 ?_
 refine Fa (.int .i64 0) ?_
 refine Fa (.int .i64 0) ?_
 refine Fa (.bool false) ?_
 apply F.es
 apply h21
 refine wp_ret ?_
 try simp only [Exit.then]
 refine ret3 (v := .int .i64 0) (x := .int .i64 0) (y := .bool false) rfl kk kk kk ?_
 have e8 : WorstBurst_v2 m ps vs s cs = false := by unfold WorstBurst_v2; rw [q14]; try rfl
 exact ⟨by unfold WorstBurst_v0 WorstBurst_v1; rw [if_neg (by rw [e8]; simp), if_neg (by rw [e8]; simp), e8], c68⟩
set_option maxRecDepth 100000 in
set_option maxHeartbeats 8000000 in
theorem WorstBurst_spec (m : Int) (A : Option Addr) (n c : Nat) (ps : List Pp) (A2 : Option Addr) (n2 c2 : Nat) (vs : List Vv) (s : Int) (A4 : Option Addr) (n4 c4 : Nat) (cs : List Int) (w : World) (ha : Rd w 4 A n (pipesV ps)) (hb : Rd w 4 A2 n2 (valvesV vs)) (hc4 : Rd w 1 A4 n4 (intsV cs)) (hn : n ≤ 1048576) (hn2 : n2 ≤ 1048576) (hn4 : n4 ≤ 1048576) (hfm : Fm A n c) (hfm2 : Fm A2 n2 c2) (hfc : Fm A4 n4 c4) :
    Calls Try.prog 66 #[.agg #[.int .i64 m, .slice A n c], .slice A2 n2 c2, .int .i64 s, .slice A4 n4 c4] w fun e w' => e = .returned (.tuple #[.int .i64 (WorstBurst_v0 m ps vs s cs), .int .i64 (WorstBurst_v1 m ps vs s cs), .bool (WorstBurst_v2 m ps vs s cs)]) ∧ Below w.heap.size w w' := by
 have hl := rd_pipes_len ha
 have hl2 := rd_valves_len hb
 have hl4 := rd_ints_len hc4
 go_enter Try.func66, Try.ntmps66
 refine F.begin 67 [(0, .agg #[.int .i64 m, .slice A n c]), (1, .slice A2 n2 c2), (2, .int .i64 s), (3, .slice A4 n4 c4)] (fun U0 => ?_)
 refine wk fun K1 h1 => ?_
 refine W.region_plain (row := none) [(0, true), (1, false), (2, false), (3, false)] kk ?_
 have s1 := SG.self w none
 refine W.sn (fun b => .pointer (some ⟨b, 0, none⟩)) #[.int .i64 m, .slice A n c] 26 s1 rfl kk rfl (fun _ => by kernel_rfl) (fun b2 w3 hb4 k5 x6 s7 => ?_)
 apply F.nx
 have lo8 : w.heap.size ≤ b2 := Nl ((Sb (Below.refl _ _) s1 nkk)).size (Nat.le_of_eq hb4)
 refine Fa (.int .i64 0) ?_
 refine Fa (.int .i64 0) ?_
 refine Fa (.bool false) ?_
 apply F.es
 have c9 := (Sb (Below.refl _ _) s7 nkk)
 apply h1
 refine wk fun K2 h2 => ?_
 refine wk fun K3 h3 => ?_
 refine W.region_plain (row := none) [(0, false), (1, false), (2, true), (3, false), (4, false), (5, false), (6, false), (7, true), (8, false), (9, false), (10, false), (11, false), (12, false), (13, true), (14, false), (15, false)] kk ?_
 have s10 := SG.self w3 none
 refine Fq (.agg #[.int .i64 m, .slice A n c]) (r_load2 rfl ek kk kk (sgS (blk_cell (j := 0) x6 kk) onn) (sgS (blk_cell (j := 1) x6 kk) onn)) ?_
 refine Fv (.slice A2 n2 c2) ?_
 refine Fc [.agg #[.int .i64 m, .slice A n c], .slice A2 n2 c2] (l4Good_any m A n c ps A2 n2 c2 vs _ (Rk ha (Sb c9 s10 nkk)) (Rk hb (Sb c9 s10 nkk)) (by omega) (by omega)) ?_
 rintro e w12 ⟨rfl, b11⟩
 have s13 := SG.of_below s10 b11
 refine ⟨_, rfl, s13, ?_⟩
 apply F.nx
 rcases Bool.eq_false_or_eq_true (goodV m ps vs) with q14 | q14
 ·rw [q14]
  have hv9 := goodV_of q14
  have hg := hv9.net
  have hgl := hg.lo
  have hgh := hg.hi
  have hp := hg.pipesIn
  have hlen10 := hg.len
  have hu := hv9.uniq
  have hvl := hv9.len
  refine Fq (.bool false) (r_not (b := true) rfl ek rfl) ?_
  refine Fv (.bool false) ?_
  refine Fq (.agg #[.int .i64 m, .slice A n c]) (r_load2 rfl ek kk kk (sgS (blk_cell (j := 0) x6 kk) onn) (sgS (blk_cell (j := 1) x6 kk) onn)) ?_
  refine Fv (.int .i64 s) ?_
  refine Fc [.agg #[.int .i64 m, .slice A n c], .int .i64 s] (l2Node_any m A n c ps s _ (Rk ha (Sb c9 s13 nkk)) (by omega)) ?_
  rintro e w16 ⟨rfl, b15⟩
  have s17 := SG.of_below s13 b15
  refine ⟨_, rfl, s17, ?_⟩
  apply F.nx
  rcases Bool.eq_false_or_eq_true (goodN m ps && inB s 1 m) with q18 | q18
  ·rw [q18]
   have q19 : inB s 1 m = true := (Bool.and_eq_true_iff.1 q18).2
   have hs := inB_iff.1 q19
   refine Fq (.bool false) (r_not (b := true) rfl ek rfl) ?_
   refine Fq (.bool false) (r_pick (b := false) rfl ek ek) ?_
   refine Fv (.bool false) ?_
   refine Fq (.agg #[.int .i64 m, .slice A n c]) (r_load2 rfl ek kk kk (sgS (blk_cell (j := 0) x6 kk) onn) (sgS (blk_cell (j := 1) x6 kk) onn)) ?_
   refine Fv (.slice A4 n4 c4) ?_
   refine Fc [.agg #[.int .i64 m, .slice A n c], .slice A4 n4 c4] (l5Customers_any m A n c ps A4 n4 c4 cs _ (Rk ha (Sb c9 s17 nkk)) (by omega) (Rk hc4 (Sb c9 s17 nkk)) (by omega)) ?_
   rintro e w21 ⟨rfl, b20⟩
   have s22 := SG.of_below s17 b20
   refine ⟨_, rfl, s22, ?_⟩
   apply F.nx
   rcases Bool.eq_false_or_eq_true (custOk m cs) with q23 | q23
   ·rw [q23]
    have hco := q23
    have hco9 := custOk_of hco
    refine Fq (.bool false) (r_not (b := true) rfl ek rfl) ?_
    refine Fq (.bool false) (r_pick (b := false) rfl ek ek) ?_
    apply F.es
    have x6 := Sk s22 x6 onn
    have c24 := (Sb c9 s22 nkk)
    apply h3
    refine wp_cond_false ek ?_
    apply wp_skip
    apply h2
    refine wk fun K4 h4 => ?_
    refine Rq 2 ?_
    refine Fa (.int .i64 0) ?_
    refine Fa (.int .i64 (-1)) ?_
    apply F.es
    apply h4
    refine wk fun K5 h5 => ?_
    refine wk fun K6 h6 => ?_
    refine Rq 1 ?_
    refine Fa (.int .i64 0) ?_
    apply F.es
    apply h6
    refine wp_block ?_
    refine loopK (fun am0 aa0 wl0 => ∃ (i : Nat) (u : Int) (z : Int) , Kn aa0 [(0, .agg #[.int .i64 m, .slice A n c]), (1, .slice A2 n2 c2), (2, .int .i64 s), (3, .slice A4 n4 c4), (4, .pointer (some ⟨b2, 0, none⟩)), (8, .int .i64 0), (9, .int .i64 0), (10, .bool false), (11, .int .i64 u), (12, .int .i64 z), (13, .int .i64 (i : Int)), (31, .bool false)] 67 ∧ (am0 = n - i) ∧ (i ≤ n) ∧ (worstTo ps vs s cs i = (u, z)) ∧ (-1 ≤ z) ∧ (wl0.heap[b2]? = some (.cells #[.int .i64 m, .slice A n c] 26 (0, 0))) ∧ (Below w.heap.size w wl0)) (n - 0) ?_ ?_
    ·exact ⟨0, 0, -1, Kn.of, rfl, (Nat.zero_le _), rfl, (by omega), x6, c24⟩
    rintro am0 aa0 wl0 K7 h7 ⟨i, u, z, ⟨U0, rfl⟩, rfl, hi, huz, hz, x6, c25⟩
    refine wk fun K8 h8 => ?_
    refine wk fun K9 h9 => ?_
    refine Rq 5 ?_
    refine Fv (.int .i64 (i : Int)) ?_
    refine Fq (.pointer (some ⟨b2, 1, none⟩)) (r_field (k := 1) rfl ek kk) ?_
    refine Fl (.slice A n c) (eqS (blk_cell (j := 1) x6 kk)) ?_
    refine Fq (.int .i64 (n : Int)) (r_len (A := A) (n := n) (c := c) rfl ek kk) ?_
    by_cases q26 : ((i : Int) : Int) < ((n : Int) : Int)
    ·refine Fq (.bool true) (r_lss (m := (i : Int)) (n := (n : Int)) rfl ek ek (dt q26)) ?_
     apply F.es
     apply h9
     refine wp_cond_true ek ?_
     apply wp_skip
     apply h8
     refine wk fun K10 h10 => ?_
     refine wp_block ?_
     refine wk fun K11 h11 => ?_
     refine W.region_sch (row := none) (Sch.of [(0, false), (1, false), (2, false), (3, false), (4, false), (5, false), (6, false), (7, false), (8, false), (9, false), (10, true), (11, false), (12, false), (13, false), (14, false), (15, false)]) kk kk (fun _ d _ _ _ h => by cases d <;> exact h) kk (fun w27 e28 s29 => ?_)
     refine Fq (.agg #[.int .i64 m, .slice A n c]) (r_load2 rfl ek kk kk (sgS (blk_cell (j := 0) x6 kk) onn) (sgS (blk_cell (j := 1) x6 kk) onn)) ?_
     refine Fv (.slice A2 n2 c2) ?_
     refine Fv (.int .i64 s) ?_
     refine Fq (.pointer (some ⟨b2, 1, none⟩)) (r_field (k := 1) rfl ek kk) ?_
     refine Fl (.slice A n c) (sgS (blk_cell (j := 1) x6 kk) onn) ?_
     refine Fv (.int .i64 (i : Int)) ?_
     obtain ⟨x30, hx31⟩ := get_of (zs := ps) (k := i) (by have := hl; omega)
     obtain ⟨b32, o33, hA34, hb35, hc36, hc37, hc38, hc39⟩ := Rd.elPipe ha hx31
     refine Fq (.pointer (some ⟨b32, o33 + i * 4, none⟩)) (r_idx (n := n) (c := c) (k := i) rfl ek hA34 kk kk (by have := hl; omega)) ?_
     refine Fq (.pointer (some ⟨b32, o33 + i * 4, none⟩)) (r_field0 rfl ek kk) ?_
     refine Fl (.int .i64 x30.id) (sgS (later c25 hc36) (by simp)) ?_
     refine Fv (.slice A4 n4 c4) ?_
     have z45 := ((Sb c25 s29 nkk)).size
     refine Fc [.agg #[.int .i64 m, .slice A n c], .slice A2 n2 c2, .int .i64 s, .int .i64 x30.id, .slice A4 n4 c4] (l5Best_any m A n c ps A2 n2 c2 vs s x30.id A4 n4 c4 cs _ (Rk ha (Sb c25 s29 nkk)) (Rk hb (Sb c25 s29 nkk)) (by omega) (by omega) hfm2 hv9 hs (findL_pos' (List.mem_of_getElem? hx31)) (Rk hc4 (Sb c25 s29 nkk)) (by omega) hco9.2 (.inr hco)) ?_
     rintro e w48 ⟨A40, n41, c42, rfl, ho43, b47⟩
     have s49 := SG.of_below s29 b47
     refine ⟨_, rfl, s49, ?_⟩
     apply F.nx
     refine Fv (.tuple #[.slice A40 n41 c42, .int .i64 (leastOf (bestR ps vs s x30.id cs))]) ?_
     refine Fq (.slice A40 n41 c42) (r_extract (vs := #[.slice A40 n41 c42, .int .i64 (leastOf (bestR ps vs s x30.id cs))]) rfl ek kk) ?_
     refine Fq (.int .i64 (leastOf (bestR ps vs s x30.id cs))) (r_extract (vs := #[.slice A40 n41 c42, .int .i64 (leastOf (bestR ps vs s x30.id cs))]) rfl ek kk) ?_
     refine Fa (.slice A40 n41 c42) ?_
     refine Fa (.int .i64 (leastOf (bestR ps vs s x30.id cs))) ?_
     apply F.es
     have x6 := Sk s49 x6 onn
     have c51 := (Sb c25 s49 nkk)
     apply h11
     refine wk fun K12 h12 => ?_
     refine Rq 3 ?_
     refine Fv (.int .i64 (leastOf (bestR ps vs s x30.id cs))) ?_
     refine Fv (.int .i64 z) ?_
     by_cases q52 : ((leastOf (bestR ps vs s x30.id cs)) : Int) > (z : Int)
     ·refine Fq (.bool true) (r_gtr (m := (leastOf (bestR ps vs s x30.id cs))) (n := z) rfl ek ek (dt q52)) ?_
      apply F.es
      apply h12
      refine wp_cond_true ek ?_
      refine wk fun K13 h13 => ?_
      refine Rq 7 ?_
      refine Fq (.pointer (some ⟨b2, 1, none⟩)) (r_field (k := 1) rfl ek kk) ?_
      refine Fl (.slice A n c) (eqS (blk_cell (j := 1) x6 kk)) ?_
      refine Fv (.int .i64 (i : Int)) ?_
      refine Fq (.pointer (some ⟨b32, o33 + i * 4, none⟩)) (r_idx (n := n) (c := c) (k := i) rfl ek hA34 kk kk (by have := hl; omega)) ?_
      refine Fq (.pointer (some ⟨b32, o33 + i * 4, none⟩)) (r_field0 rfl ek kk) ?_
      refine Fl (.int .i64 x30.id) (eqS (later c51 hc36)) ?_
      refine Fa (.int .i64 x30.id) ?_
      apply F.es
      apply h13
      refine Rq 2 ?_
      refine Fv (.int .i64 (leastOf (bestR ps vs s x30.id cs))) ?_
      refine Fa (.int .i64 (leastOf (bestR ps vs s x30.id cs))) ?_
      apply F.es
      apply h10
      refine Rq 3 ?_
      refine Fv (.int .i64 (i : Int)) ?_
      refine Fq (.int .i64 ((i + 1 : Nat) : Int)) (r_add (m := (i : Int)) (n := 1) (z := ((i + 1 : Nat) : Int)) rfl ek ek (by omega) (by omega)) ?_
      refine Fa (.int .i64 ((i + 1 : Nat) : Int)) ?_
      apply F.es
      exact h7 _ _ _ (by omega : (n - (i + 1)) < _) ⟨i + 1, x30.id, (leastOf (bestR ps vs s x30.id cs)), Kn.of, rfl, (by omega), (worst_yes huz hx31 (by omega)), (by omega), x6, c51⟩
     refine Fq (.bool false) (r_gtr (m := (leastOf (bestR ps vs s x30.id cs))) (n := z) rfl ek ek (df q52)) ?_
     apply F.es
     apply h12
     refine wp_cond_false ek ?_
     apply wp_skip
     apply h10
     refine Rq 3 ?_
     refine Fv (.int .i64 (i : Int)) ?_
     refine Fq (.int .i64 ((i + 1 : Nat) : Int)) (r_add (m := (i : Int)) (n := 1) (z := ((i + 1 : Nat) : Int)) rfl ek ek (by omega) (by omega)) ?_
     refine Fa (.int .i64 ((i + 1 : Nat) : Int)) ?_
     apply F.es
     exact h7 _ _ _ (by omega : (n - (i + 1)) < _) ⟨i + 1, u, z, Kn.of, rfl, (by omega), (worst_no huz hx31 (by omega)), hz, x6, c51⟩
    refine Fq (.bool false) (r_lss (m := (i : Int)) (n := (n : Int)) rfl ek ek (df q26)) ?_
    apply F.es
    apply h9
    refine wp_cond_false ek ?_
    refine wp_exit ?_
    apply h5
    refine wk fun K14 h14 => ?_
    refine wk fun K15 h15 => ?_
    refine Rq 2 ?_
    refine Fv (.int .i64 z) ?_
    by_cases q53 : (z : Int) < (0 : Int)
    ·refine Fq (.bool true) (r_lss (m := z) (n := 0) rfl ek ek (dt q53)) ?_
     apply F.es
     apply h15
     refine wp_cond_true ek ?_
     refine wk fun K16 h16 => ?_
     refine Rq 3 ?_
     refine Fa (.int .i64 0) ?_
     refine Fa (.int .i64 0) ?_
     refine Fa (.bool false) ?_
     apply F.es
     apply h16
     refine wp_ret ?_
     try simp only [Exit.then]
     refine ret3 (v := .int .i64 0) (x := .int .i64 0) (y := .bool false) rfl kk kk kk ?_
     have e6 : worstR ps vs s cs = (u, z) := by unfold worstR; rw [show ps.length = i by omega]; exact huz
     have e5 : decide (0 ≤ (worstR ps vs s cs).2) = false := by rw [e6]; exact decide_eq_false (show ¬ 0 ≤ z by omega)
     have e8 : WorstBurst_v2 m ps vs s cs = false := by unfold WorstBurst_v2; rw [q14, q19, q23, e5]; try rfl
     exact ⟨by unfold WorstBurst_v0 WorstBurst_v1; rw [if_neg (by rw [e8]; simp), if_neg (by rw [e8]; simp), e8], c25⟩
    refine Fq (.bool false) (r_lss (m := z) (n := 0) rfl ek ek (df q53)) ?_
    apply F.es
    apply h15
    refine wp_cond_false ek ?_
    apply wp_skip
    apply h14
    refine wk fun K17 h17 => ?_
    refine Rq 5 ?_
    refine Fv (.int .i64 u) ?_
    refine Fv (.int .i64 z) ?_
    refine Fa (.int .i64 u) ?_
    refine Fa (.int .i64 z) ?_
    refine Fa (.bool true) ?_
    apply F.es
    apply h17
    refine wp_ret ?_
    try simp only [Exit.then]
    refine ret3 (v := .int .i64 u) (x := .int .i64 z) (y := .bool true) rfl kk kk kk ?_
    have e6 : worstR ps vs s cs = (u, z) := by unfold worstR; rw [show ps.length = i by omega]; exact huz
    have e5 : decide (0 ≤ (worstR ps vs s cs).2) = true := by rw [e6]; exact decide_eq_true (show 0 ≤ z by omega)
    have e8 : WorstBurst_v2 m ps vs s cs = true := by unfold WorstBurst_v2; rw [q14, q19, q23, e5]; try rfl
    exact ⟨by unfold WorstBurst_v0 WorstBurst_v1; rw [if_pos e8, if_pos e8, e6, e8], c25⟩
   rw [q23]
   refine Fq (.bool true) (r_not (b := false) rfl ek rfl) ?_
   refine Fq (.bool true) (r_pick (b := false) rfl ek ek) ?_
   apply F.es
   have c54 := (Sb c9 s22 nkk)
   apply h3
   refine wp_cond_true ek ?_
   refine wk fun K18 h18 => ?_
   refine Rq 3 ?_
   refine Fa (.int .i64 0) ?_
   refine Fa (.int .i64 0) ?_
   refine Fa (.bool false) ?_
   apply F.es
   apply h18
   refine wp_ret ?_
   try simp only [Exit.then]
   refine ret3 (v := .int .i64 0) (x := .int .i64 0) (y := .bool false) rfl kk kk kk ?_
   have e8 : WorstBurst_v2 m ps vs s cs = false := by unfold WorstBurst_v2; rw [q14, q19, q23]; try rfl
   exact ⟨by unfold WorstBurst_v0 WorstBurst_v1; rw [if_neg (by rw [e8]; simp), if_neg (by rw [e8]; simp), e8], c54⟩
  rw [q18]
  have q55 : inB s 1 m = false := by have h9 := q18; rw [hv9.good, Bool.true_and] at h9; exact h9
  refine Fq (.bool true) (r_not (b := false) rfl ek rfl) ?_
  refine Fq (.bool true) (r_pick (b := false) rfl ek ek) ?_
  refine Fv (.bool true) ?_
  refine Fs s17 ?_
  refine Fs s17 ?_
  refine Fs s17 ?_
  refine Fs s17 ?_
  refine Fq (.bool true) (r_pick (b := true) rfl ek ek) ?_
  apply F.es
  have c56 := (Sb c9 s17 nkk)
  apply h3
  refine wp_cond_true ek ?_
  refine wk fun K19 h19 => ?_
  refine Rq 3 ?_
  refine Fa (.int .i64 0) ?_
  refine Fa (.int .i64 0) ?_
  refine Fa (.bool false) ?_
  apply F.es
  apply h19
  refine wp_ret ?_
  try simp only [Exit.then]
  refine ret3 (v := .int .i64 0) (x := .int .i64 0) (y := .bool false) rfl kk kk kk ?_
  have e8 : WorstBurst_v2 m ps vs s cs = false := by unfold WorstBurst_v2; rw [q14, q55]; try rfl
  exact ⟨by unfold WorstBurst_v0 WorstBurst_v1; rw [if_neg (by rw [e8]; simp), if_neg (by rw [e8]; simp), e8], c56⟩
 rw [q14]
 refine Fq (.bool true) (r_not (b := false) rfl ek rfl) ?_
 refine Fv (.bool true) ?_
 refine Fs s13 ?_
 refine Fs s13 ?_
 refine Fs s13 ?_
 refine Fs s13 ?_
 refine Fq (.bool true) (r_pick (b := true) rfl ek ek) ?_
 refine Fv (.bool true) ?_
 refine Fs s13 ?_
 refine Fs s13 ?_
 refine Fs s13 ?_
 refine Fs s13 ?_
 refine Fq (.bool true) (r_pick (b := true) rfl ek ek) ?_
 apply F.es
 have c57 := (Sb c9 s13 nkk)
 apply h3
 refine wp_cond_true ek ?_
 refine wk fun K20 h20 => ?_
 refine Rq 3 ?_
 refine Fa (.int .i64 0) ?_
 refine Fa (.int .i64 0) ?_
 refine Fa (.bool false) ?_
 apply F.es
 apply h20
 refine wp_ret ?_
 try simp only [Exit.then]
 refine ret3 (v := .int .i64 0) (x := .int .i64 0) (y := .bool false) rfl kk kk kk ?_
 have e8 : WorstBurst_v2 m ps vs s cs = false := by unfold WorstBurst_v2; rw [q14]; try rfl
 exact ⟨by unfold WorstBurst_v0 WorstBurst_v1; rw [if_neg (by rw [e8]; simp), if_neg (by rw [e8]; simp), e8], c57⟩
end Go.Proofs.Ytdbgfejeleafgaa
