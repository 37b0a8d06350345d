/- The walk of the law FnStrings. -/
import Derived.Test.YtdlcldaogcbnlaaDoorByt
import Derived.Test.YtdlcldaogcbnlaaDoorDraw1
import Derived.Test.YtdlcldaogcbnlaaDoorNum3
import Derived.Test.YtdlcldaogcbnlaaDoorChk
import Derived.Test.YtdlcldaogcbnlaaDoorSealP
import Derived.Test.YtdlcldaogcbnlaaDoorLaid
import Derived.Test.YtdlcldaogcbnlaaDoorVLib
import Derived.Test.YtdlcldaogcbnlaaDoorJoinK
import Derived.Test.YtdlcldaogcbnlaaDoorFr2
import Derived.Test.YtdlcldaogcbnlaaDoorFr2
namespace Go.Proofs.YtdlcldaogcbnlaaDoor
open Go.RowKit
set_option linter.unusedVariables false
set_option linter.unusedSimpArgs false

theorem int_back {n : Int} (h : FormatInt_v1 n = true) : ParseInt_v1 (FormatInt_v0 n) = true ∧ ParseInt_v0 (FormatInt_v0 n) = n := by
  have e : FormatInt_v0 n = itoaB n := if_pos h
  have hb := inB_iff.1 (show inB n (-999999) 999999 = true from h)
  rw [e]
  exact num_yes hb rfl
theorem int_small (n : Int) : (FormatInt_v0 n).size ≤ 21 := by
  unfold FormatInt_v0
  split
  · rename_i h
    have hb := inB_iff.1 (show inB n (-999999) 999999 = true from h)
    exact itoaB_le (by omega) (by omega)
  · exact Nat.zero_le _
theorem app_facts {x : ByteArray} (h : AppendChecksum_v1 x = true) : x.size ≤ 4000 ∧ standsB x 35 = false ∧ (sealB x).size ≤ 4000 := by
  unfold AppendChecksum_v1 at h
  simpa using h
theorem app_len {x : ByteArray} (h : AppendChecksum_v1 x = true) : 1 ≤ (AppendChecksum_v0 x).size ∧ (AppendChecksum_v0 x).size ≤ 4000 := by
  rw [app_v0 h]
  have := seal_size x
  have := app_facts h
  omega
theorem head_seal {x : ByteArray} (hx : standsB x 35 = false) : headB (sealB x) 35 = x := by
  obtain ⟨h1, h2, h3, _⟩ := first_facts (sealB x) (c := 35) (by omega)
  have hn := stands_not (c := 35) (by omega) hx
  have hl := seal_list x
  have hs := seal_size x
  have hxl : x.data.toList.length = x.size := Array.length_toList
  have e : firstAt (sealB x) 35 = x.size := by
    rcases Nat.lt_trichotomy (firstAt (sealB x) 35) x.size with h | h | h
    · exfalso
      have h4 := h3 (by omega)
      rw [bAt_is (by omega) (by omega), hl, List.getElem?_append_left (by omega)] at h4
      exact hn (List.mem_of_getElem? h4)
    · exact h
    · exfalso
      refine h2 x.size h ?_
      rw [bAt_is (by omega) (by omega), hl, List.getElem?_append_right (by omega), hxl, Nat.sub_self]
      rfl
  unfold headB
  rw [e]
  apply bytes_ext
  rw [Lib.extract_data, hl]
  simp
theorem ver_app {x : ByteArray} (h : AppendChecksum_v1 x = true) : VerifyChecksum_v1 (AppendChecksum_v0 x) = true ∧ VerifyChecksum_v0 (AppendChecksum_v0 x) = x := by
  obtain ⟨h1, h2, h3⟩ := app_facts h
  rw [app_v0 h]
  have e := head_seal h2
  obtain ⟨a, b⟩ := ver_yes h3 (by rw [e])
  exact ⟨a, b.trans e⟩
theorem bad_app {x : ByteArray} {k : Nat} {a b : UInt8} (h : AppendChecksum_v1 x = true) (ha : (AppendChecksum_v0 x).data.toList[0 + k]? = some a) (hb : b.toNat ≠ a.toNat) : VerifyChecksum_v1 (⟨((AppendChecksum_v0 x).data.toList.set (0 + k) b).toArray⟩ : ByteArray) = false := by
  obtain ⟨h1, h2, h3⟩ := app_facts h
  rw [app_v0 h] at ha ⊢
  have hlt := (List.getElem?_eq_some_iff.1 ha).1
  refine seal_broken (k := 0 + k) (b := b) h2 (by rw [Array.length_toList] at hlt; exact hlt) (by simp) ?_
  have : bAt (sealB x) (0 + k) = a.toNat := by rw [bAt_list, List.getD_eq_getElem?_getD, ha]; rfl
  rw [this]; exact hb
theorem set_size {l : List UInt8} {k : Nat} {b : UInt8} {m : Nat} (h : l.length ≤ m) : (⟨(l.set k b).toArray⟩ : ByteArray).size ≤ m := by
  show (l.set k b).toArray.size ≤ m
  rw [List.size_toArray, List.length_set]; exact h

set_option maxRecDepth 100000 in
set_option maxHeartbeats 1500000 in
theorem vAt_any (A : Option Addr) (n c : Nat) (zs : List Int) (i : Nat) (w : World) (hcode : Rd w 1 A n (bytesV zs)) (hz : ∀ z ∈ zs, 0 ≤ z ∧ z < 256) (hn : n ≤ 65536) (hi : i ≤ 100) :
    Calls Tryd.prog 36 #[.slice A n c, .int .i64 ((i : Nat) : Int)] w fun e w' => ∃ x : Int, e = .returned (.int .i64 x) ∧ (0 ≤ x ∧ x < 256) ∧ Below w.heap.size w w' := by
 have hl := rd_bytes_len hcode
 go_enter Tryd.func36, Tryd.ntmps36
 refine F.begin 20 [(0, .slice A n c), (1, .int .i64 (i : Int))] (fun U0 => ?_)
 refine wk fun K1 h1 => ?_
 refine W.region_quiet [(0, false)] kk ?_
 refine Fa (.int .i64 0) ?_
 refine F.es ?_
 refine h1 _ _ ?_
 refine wk fun K2 h2 => ?_
 refine wk fun K3 h3 => ?_
 refine W.region_quiet [(0, false), (1, false), (2, false), (3, false)] kk ?_
 refine Fv (.int .i64 (i : Int)) ?_
 refine Fv (.slice A n c) ?_
 refine Fq (.int .i64 (n : Int)) (r_len (A := A) (n := n) (c := c) rfl ek kk) ?_
 by_cases q1 : ((i : Int) : Int) < ((n : Int) : Int)
 ·refine Fq (.bool true) (r_lss (m := (i : Int)) (n := (n : Int)) rfl ek ek (decide_eq_true q1)) ?_
  refine F.es ?_
  refine h3 _ _ ?_
  refine wp_cond_true ek ?_
  refine wk fun K4 h4 => ?_
  refine W.region_quiet [(0, false), (1, false), (2, false), (3, false), (4, false), (5, false)] kk ?_
  refine Fv (.slice A n c) ?_
  refine Fv (.int .i64 (i : Int)) ?_
  obtain ⟨x2, hx3⟩ := get_of (zs := zs) (k := i) (by have := hl; omega)
  obtain ⟨b4, o5, hA6, hb7, hc8⟩ := Rd.elByte hcode hx3
  refine Fq (.pointer (some ⟨b4, o5 + i, none⟩)) (r_idx1 (n := n) (c := c) (k := i) rfl ek hA6 kk kk (by have := hl; omega)) ?_
  refine Fl (.int .u8 x2) (eqS hc8) ?_
  have hx9 := hz _ (List.mem_of_getElem? hx3)
  refine Fq (.int .i64 x2) (r_conv (k := .u8) (k' := .i64) (n := x2) (m := x2) rfl ek kk kk (wrap_i64 (by omega) (by omega))) ?_
  refine Fa (.int .i64 x2) ?_
  refine F.es ?_
  refine h4 _ _ ?_
  refine wp_ret ?_
  try simp only [Exit.then]
  refine ret1 (v := .int .i64 x2) rfl kk ?_
  exact ⟨_, rfl, ⟨by omega, by omega⟩, (Below.refl _ _)⟩
 refine Fq (.bool false) (r_lss (m := (i : Int)) (n := (n : Int)) rfl ek ek (decide_eq_false q1)) ?_
 refine F.es ?_
 refine h3 _ _ ?_
 refine wp_cond_false ek ?_
 refine wp_skip ?_
 refine h2 _ _ ?_
 refine wk fun K5 h5 => ?_
 refine W.region_quiet [(0, false), (1, false), (2, false), (3, false), (4, false), (5, false), (6, false)] kk ?_
 refine Fv (.int .i64 (i : Int)) ?_
 refine Fq (.int .i64 ((i : Int) * 7)) (r_mulK (k := .i64) (m := (i : Int)) (n := 7) (z := ((i : Int) * 7)) rfl ek ek (wrap_i64 (by omega) (by omega))) ?_
 refine Fv (.slice A n c) ?_
 refine Fq (.int .i64 (n : Int)) (r_len (A := A) (n := n) (c := c) rfl ek kk) ?_
 refine Fq (.int .i64 (((i : Int) * 7) + (n : Int))) (r_add (m := ((i : Int) * 7)) (n := (n : Int)) (z := ((i : Int) * 7) + (n : Int)) rfl ek ek (rfl) (by omega)) ?_
 have hr1 := Int.emod_nonneg (((i : Int) * 7) + (n : Int)) (show 256 ≠ 0 by omega)
 have hr2 := Int.emod_lt_of_pos (((i : Int) * 7) + (n : Int)) (show 0 < 256 by omega)
 refine Fq (.int .i64 ((((i : Int) * 7) + (n : Int)) % 256)) (r_remK (k := .i64) (m := ((i : Int) * 7) + (n : Int)) (n := 256) (z := ((((i : Int) * 7) + (n : Int)) % 256)) rfl ek ek (by omega) (Int.tmod_eq_emod_of_nonneg (by omega))) ?_
 refine Fa (.int .i64 ((((i : Int) * 7) + (n : Int)) % 256)) ?_
 refine F.es ?_
 refine h5 _ _ ?_
 refine wp_ret ?_
 try simp only [Exit.then]
 refine ret1 (v := .int .i64 ((((i : Int) * 7) + (n : Int)) % 256)) rfl kk ?_
 exact ⟨_, rfl, ⟨by omega, by omega⟩, (Below.refl _ _)⟩

set_option maxRecDepth 100000 in
set_option maxHeartbeats 1500000 in
theorem wi_FnStrings (A : Option Addr) (n c : Nat) (zs : List Int) (w : World) (hcode : Rd w 1 A n (bytesV zs)) (hz : ∀ z ∈ zs, 0 ≤ z ∧ z < 256) (hn : n ≤ 9223372036854775807) (htab : Lib.TabIs Tryd.prog w "internal/strconv.uint64pow10" .u64 Lib.pow10Tab) (hmax : MaxIs w) (hev : EvIs w) :
    Calls Tryd.prog 5 #[.slice A n c] w fun e w' => e = .returned (.bool true) ∧ Below w.heap.size w w' := by
 have hl := rd_bytes_len hcode
 go_enter Tryd.func5, Tryd.ntmps5
 refine F.begin 152 [(0, .slice A n c)] (fun U0 => ?_)
 refine wk fun K1 h1 => ?_
 refine W.region_quiet [(0, false)] kk ?_
 refine Fa (.bool false) ?_
 refine F.es ?_
 refine h1 _ _ ?_
 refine wk fun K2 h2 => ?_
 refine wk fun K3 h3 => ?_
 refine W.region_plain (row := none) [(0, false), (1, true)] kk ?_
 have s1 := SG.self w none
 refine Fv (.slice A n c) ?_
 refine Fc [.slice A n c] (vBig_any A n c zs _ (Rd.kept hcode (SG.belowR (Below.refl _ _) s1 (fun kq e => by cases e))) hz hn) ?_
 rintro e w3 ⟨rfl, b2⟩
 have s4 := SG.of_below s1 b2
 refine ⟨_, rfl, s4, ?_⟩
 refine F.nx ?_
 rcases Bool.eq_false_or_eq_true (decide (65536 < n)) with q5 | q5
 ·rw [q5]
  refine F.es ?_
  have c6 := (SG.belowR (Below.refl _ _) s4 (fun kq e => by cases e))
  refine h3 _ _ ?_
  refine wp_cond_true ek ?_
  refine wk fun K4 h4 => ?_
  refine W.region_quiet [(0, false)] kk ?_
  refine Fa (.bool true) ?_
  refine F.es ?_
  refine h4 _ _ ?_
  refine wp_ret ?_
  try simp only [Exit.then]
  refine ret1 (v := .bool true) rfl kk ?_
  exact ⟨rfl, c6⟩
 rw [q5]
 refine F.es ?_
 have c7 := (SG.belowR (Below.refl _ _) s4 (fun kq e => by cases e))
 refine h3 _ _ ?_
 refine wp_cond_false ek ?_
 refine wp_skip ?_
 refine h2 _ _ ?_
 refine wk fun K5 h5 => ?_
 refine W.region_plain (row := none) [(0, false), (1, true), (2, false)] kk ?_
 have s8 := SG.self w3 none
 refine Fv (.slice A n c) ?_
 refine Fc [.slice A n c] (DrawFormatInt_any A n c zs _ (Rd.kept hcode (SG.belowR c7 s8 (fun kq e => by cases e))) hz (by have h9 := of_decide_eq_false q5; omega)) ?_
 rintro e w10 ⟨dn, rfl, b9⟩
 have s11 := SG.of_below s8 b9
 refine ⟨_, rfl, s11, ?_⟩
 refine F.nx ?_
 refine Fa (.int .i64 dn) ?_
 refine F.es ?_
 have c12 := (SG.belowR c7 s11 (fun kq e => by cases e))
 refine h5 _ _ ?_
 refine wk fun K6 h6 => ?_
 refine W.region_plain (row := none) [(0, false), (1, true), (2, false), (3, false), (4, false), (5, false), (6, false)] kk ?_
 have s13 := SG.self w10 none
 refine Fv (.int .i64 dn) ?_
 have hfs := int_small dn
 refine Fc [.int .i64 dn] (FormatInt_impl dn _ (tab_kept htab (SG.belowR c12 s13 (fun kq e => by cases e)))) ?_
 rintro e w15 ⟨rfl, b14⟩
 have s16 := SG.of_below s13 b14
 refine ⟨_, rfl, s16, ?_⟩
 refine F.nx ?_
 refine Fv (.tuple #[.string (FormatInt_v0 dn), .bool (FormatInt_v1 dn)]) ?_
 refine Fq (.string (FormatInt_v0 dn)) (r_extract (vs := #[.string (FormatInt_v0 dn), .bool (FormatInt_v1 dn)]) rfl ek kk) ?_
 refine Fq (.bool (FormatInt_v1 dn)) (r_extract (vs := #[.string (FormatInt_v0 dn), .bool (FormatInt_v1 dn)]) rfl ek kk) ?_
 refine Fa (.string (FormatInt_v0 dn)) ?_
 refine Fa (.bool (FormatInt_v1 dn)) ?_
 refine F.es ?_
 have c17 := (SG.belowR c12 s16 (fun kq e => by cases e))
 refine h6 _ _ ?_
 as_aux_lemma =>
  refine wk fun K7 h7 => ?_
  refine W.region_plain (row := none) [(0, false), (1, true), (2, false), (3, false), (4, false), (5, false), (6, false)] kk ?_
  have s18 := SG.self w15 none
  refine Fv (.int .i64 dn) ?_
  have hfs := int_small dn
  refine Fc [.int .i64 dn] (FormatInt_spec dn _ ) ?_
  rintro e w20 ⟨rfl, b19⟩
  have s21 := SG.of_below s18 b19
  refine ⟨_, rfl, s21, ?_⟩
  refine F.nx ?_
  refine Fv (.tuple #[.string (FormatInt_v0 dn), .bool (FormatInt_v1 dn)]) ?_
  refine Fq (.string (FormatInt_v0 dn)) (r_extract (vs := #[.string (FormatInt_v0 dn), .bool (FormatInt_v1 dn)]) rfl ek kk) ?_
  refine Fq (.bool (FormatInt_v1 dn)) (r_extract (vs := #[.string (FormatInt_v0 dn), .bool (FormatInt_v1 dn)]) rfl ek kk) ?_
  refine Fa (.string (FormatInt_v0 dn)) ?_
  refine Fa (.bool (FormatInt_v1 dn)) ?_
  refine F.es ?_
  have c22 := (SG.belowR c17 s21 (fun kq e => by cases e))
  refine h7 _ _ ?_
  refine wk fun K8 h8 => ?_
  refine W.region_plain (row := none) [(0, false), (1, true), (2, false)] kk ?_
  have s23 := SG.self w20 none
  refine Fv (.slice A n c) ?_
  refine Fc [.slice A n c] (DrawParseInt_any A n c zs _ (Rd.kept hcode (SG.belowR c22 s23 (fun kq e => by cases e))) hz (by have h9 := of_decide_eq_false q5; omega)) ?_
  rintro e w25 ⟨dt9, rfl, hdt, b24⟩
  have s26 := SG.of_below s23 b24
  refine ⟨_, rfl, s26, ?_⟩
  refine F.nx ?_
  refine Fa (.string dt9) ?_
  refine F.es ?_
  have c27 := (SG.belowR c22 s26 (fun kq e => by cases e))
  refine h8 _ _ ?_
  refine wk fun K9 h9 => ?_
  refine W.region_plain (row := none) [(0, false), (1, true), (2, false), (3, false), (4, false), (5, false), (6, false)] kk ?_
  have s28 := SG.self w25 none
  refine Fv (.string dt9) ?_
  refine Fc [.string dt9] (ParseInt_impl dt9 _ (by omega) (tab_kept htab (SG.belowR c27 s28 (fun kq e => by cases e))) (ev_kept hev (SG.belowR c27 s28 (fun kq e => by cases e)))) ?_
  rintro e w30 ⟨rfl, b29⟩
  have s31 := SG.of_below s28 b29
  refine ⟨_, rfl, s31, ?_⟩
  refine F.nx ?_
  refine Fv (.tuple #[.int .i64 (ParseInt_v0 dt9), .bool (ParseInt_v1 dt9)]) ?_
  refine Fq (.int .i64 (ParseInt_v0 dt9)) (r_extract (vs := #[.int .i64 (ParseInt_v0 dt9), .bool (ParseInt_v1 dt9)]) rfl ek kk) ?_
  refine Fq (.bool (ParseInt_v1 dt9)) (r_extract (vs := #[.int .i64 (ParseInt_v0 dt9), .bool (ParseInt_v1 dt9)]) rfl ek kk) ?_
  refine Fa (.int .i64 (ParseInt_v0 dt9)) ?_
  refine Fa (.bool (ParseInt_v1 dt9)) ?_
  refine F.es ?_
  have c32 := (SG.belowR c27 s31 (fun kq e => by cases e))
  refine h9 _ _ ?_
  refine wk fun K10 h10 => ?_
  refine W.region_plain (row := none) [(0, false), (1, true), (2, false), (3, false), (4, false), (5, false), (6, false)] kk ?_
  have s33 := SG.self w30 none
  refine Fv (.string dt9) ?_
  refine Fc [.string dt9] (ParseInt_spec dt9 _ (by omega)) ?_
  rintro e w35 ⟨rfl, b34⟩
  have s36 := SG.of_below s33 b34
  refine ⟨_, rfl, s36, ?_⟩
  refine F.nx ?_
  refine Fv (.tuple #[.int .i64 (ParseInt_v0 dt9), .bool (ParseInt_v1 dt9)]) ?_
  refine Fq (.int .i64 (ParseInt_v0 dt9)) (r_extract (vs := #[.int .i64 (ParseInt_v0 dt9), .bool (ParseInt_v1 dt9)]) rfl ek kk) ?_
  refine Fq (.bool (ParseInt_v1 dt9)) (r_extract (vs := #[.int .i64 (ParseInt_v0 dt9), .bool (ParseInt_v1 dt9)]) rfl ek kk) ?_
  refine Fa (.int .i64 (ParseInt_v0 dt9)) ?_
  refine Fa (.bool (ParseInt_v1 dt9)) ?_
  refine F.es ?_
  have c37 := (SG.belowR c32 s36 (fun kq e => by cases e))
  refine h10 _ _ ?_
  as_aux_lemma =>
   refine wk fun K11 h11 => ?_
   refine W.region_plain (row := none) [(0, false), (1, true), (2, false)] kk ?_
   have s38 := SG.self w35 none
   refine Fv (.slice A n c) ?_
   refine Fc [.slice A n c] (DrawAppendChecksum_any A n c zs _ (Rd.kept hcode (SG.belowR c37 s38 (fun kq e => by cases e))) hz (by have h9 := of_decide_eq_false q5; omega)) ?_
   rintro e w40 ⟨dx, rfl, hdx, b39⟩
   have s41 := SG.of_below s38 b39
   refine ⟨_, rfl, s41, ?_⟩
   refine F.nx ?_
   refine Fa (.string dx) ?_
   refine F.es ?_
   have c42 := (SG.belowR c37 s41 (fun kq e => by cases e))
   refine h11 _ _ ?_
   refine wk fun K12 h12 => ?_
   refine W.region_plain (row := none) [(0, false), (1, true), (2, false), (3, false), (4, false), (5, false), (6, false)] kk ?_
   have s43 := SG.self w40 none
   refine Fv (.string dx) ?_
   refine Fc [.string dx] (AppendChecksum_impl dx _ (by omega) (tab_kept htab (SG.belowR c42 s43 (fun kq e => by cases e)))) ?_
   rintro e w45 ⟨rfl, b44⟩
   have s46 := SG.of_below s43 b44
   refine ⟨_, rfl, s46, ?_⟩
   refine F.nx ?_
   refine Fv (.tuple #[.string (AppendChecksum_v0 dx), .bool (AppendChecksum_v1 dx)]) ?_
   refine Fq (.string (AppendChecksum_v0 dx)) (r_extract (vs := #[.string (AppendChecksum_v0 dx), .bool (AppendChecksum_v1 dx)]) rfl ek kk) ?_
   refine Fq (.bool (AppendChecksum_v1 dx)) (r_extract (vs := #[.string (AppendChecksum_v0 dx), .bool (AppendChecksum_v1 dx)]) rfl ek kk) ?_
   refine Fa (.string (AppendChecksum_v0 dx)) ?_
   refine Fa (.bool (AppendChecksum_v1 dx)) ?_
   refine F.es ?_
   have c47 := (SG.belowR c42 s46 (fun kq e => by cases e))
   refine h12 _ _ ?_
   refine wk fun K13 h13 => ?_
   refine W.region_plain (row := none) [(0, false), (1, true), (2, false), (3, false), (4, false), (5, false), (6, false)] kk ?_
   have s48 := SG.self w45 none
   refine Fv (.string dx) ?_
   refine Fc [.string dx] (AppendChecksum_spec dx _ (by omega)) ?_
   rintro e w50 ⟨rfl, b49⟩
   have s51 := SG.of_below s48 b49
   refine ⟨_, rfl, s51, ?_⟩
   refine F.nx ?_
   refine Fv (.tuple #[.string (AppendChecksum_v0 dx), .bool (AppendChecksum_v1 dx)]) ?_
   refine Fq (.string (AppendChecksum_v0 dx)) (r_extract (vs := #[.string (AppendChecksum_v0 dx), .bool (AppendChecksum_v1 dx)]) rfl ek kk) ?_
   refine Fq (.bool (AppendChecksum_v1 dx)) (r_extract (vs := #[.string (AppendChecksum_v0 dx), .bool (AppendChecksum_v1 dx)]) rfl ek kk) ?_
   refine Fa (.string (AppendChecksum_v0 dx)) ?_
   refine Fa (.bool (AppendChecksum_v1 dx)) ?_
   refine F.es ?_
   have c52 := (SG.belowR c47 s51 (fun kq e => by cases e))
   refine h13 _ _ ?_
   refine wk fun K14 h14 => ?_
   refine wk fun K15 h15 => ?_
   refine W.region_quiet [(0, false), (1, false), (2, false), (3, false), (4, false), (5, false), (6, false), (7, false), (8, false), (9, false), (10, false), (11, false), (12, false), (13, false), (14, false), (15, false), (16, false), (17, false), (18, false), (19, false), (20, false), (21, false), (22, false), (23, false), (24, false), (25, false), (26, false), (27, false)] kk ?_
   refine Fv (.string (FormatInt_v0 dn)) ?_
   refine Fv (.string (FormatInt_v0 dn)) ?_
   refine Fq (.bool false) (r_neqS (s := (FormatInt_v0 dn)) (r := (FormatInt_v0 dn)) rfl ek ek (by rw [decide_eq_true rfl]; try rfl)) ?_
   refine Fv (.bool false) ?_
   refine Fv (.bool (FormatInt_v1 dn)) ?_
   refine Fv (.bool (FormatInt_v1 dn)) ?_
   refine Fq (.bool false) (r_neqB (m := (FormatInt_v1 dn)) (n := (FormatInt_v1 dn)) rfl ek ek kk (by rw [show ((FormatInt_v1 dn) == (FormatInt_v1 dn)) = true from beq_iff_eq.2 rfl]; try rfl)) ?_
   refine Fq (.bool false) (r_pick (b := false) rfl ek ek) ?_
   refine Fv (.bool false) ?_
   refine Fv (.int .i64 (ParseInt_v0 dt9)) ?_
   refine Fv (.int .i64 (ParseInt_v0 dt9)) ?_
   refine Fq (.bool false) (r_neq (m := (ParseInt_v0 dt9)) (n := (ParseInt_v0 dt9)) rfl ek ek (decide_eq_false (by omega))) ?_
   refine Fq (.bool false) (r_pick (b := false) rfl ek ek) ?_
   refine Fv (.bool false) ?_
   refine Fv (.bool (ParseInt_v1 dt9)) ?_
   refine Fv (.bool (ParseInt_v1 dt9)) ?_
   refine Fq (.bool false) (r_neqB (m := (ParseInt_v1 dt9)) (n := (ParseInt_v1 dt9)) rfl ek ek kk (by rw [show ((ParseInt_v1 dt9) == (ParseInt_v1 dt9)) = true from beq_iff_eq.2 rfl]; try rfl)) ?_
   refine Fq (.bool false) (r_pick (b := false) rfl ek ek) ?_
   refine Fv (.bool false) ?_
   refine Fv (.string (AppendChecksum_v0 dx)) ?_
   refine Fv (.string (AppendChecksum_v0 dx)) ?_
   refine Fq (.bool false) (r_neqS (s := (AppendChecksum_v0 dx)) (r := (AppendChecksum_v0 dx)) rfl ek ek (by rw [decide_eq_true rfl]; try rfl)) ?_
   refine Fq (.bool false) (r_pick (b := false) rfl ek ek) ?_
   refine Fv (.bool false) ?_
   refine Fv (.bool (AppendChecksum_v1 dx)) ?_
   refine Fv (.bool (AppendChecksum_v1 dx)) ?_
   refine Fq (.bool false) (r_neqB (m := (AppendChecksum_v1 dx)) (n := (AppendChecksum_v1 dx)) rfl ek ek kk (by rw [show ((AppendChecksum_v1 dx) == (AppendChecksum_v1 dx)) = true from beq_iff_eq.2 rfl]; try rfl)) ?_
   refine Fq (.bool false) (r_pick (b := false) rfl ek ek) ?_
   refine F.es ?_
   refine h15 _ _ ?_
   as_aux_lemma =>
    refine wp_cond_false ek ?_
    refine wp_skip ?_
    refine h14 _ _ ?_
    refine wk fun K16 h16 => ?_
    refine wk fun K17 h17 => ?_
    refine W.region_plain (row := none) [(0, false), (1, true), (2, false), (3, false), (4, false), (5, false), (6, false)] kk ?_
    have s53 := SG.self w50 none
    refine Fv (.string (FormatInt_v0 dn)) ?_
    refine Fc [.string (FormatInt_v0 dn)] (ParseInt_impl (FormatInt_v0 dn) _ (by omega) (tab_kept htab (SG.belowR c52 s53 (fun kq e => by cases e))) (ev_kept hev (SG.belowR c52 s53 (fun kq e => by cases e)))) ?_
    rintro e w55 ⟨rfl, b54⟩
    have s56 := SG.of_below s53 b54
    refine ⟨_, rfl, s56, ?_⟩
    refine F.nx ?_
    refine Fv (.tuple #[.int .i64 (ParseInt_v0 (FormatInt_v0 dn)), .bool (ParseInt_v1 (FormatInt_v0 dn))]) ?_
    refine Fq (.int .i64 (ParseInt_v0 (FormatInt_v0 dn))) (r_extract (vs := #[.int .i64 (ParseInt_v0 (FormatInt_v0 dn)), .bool (ParseInt_v1 (FormatInt_v0 dn))]) rfl ek kk) ?_
    refine Fq (.bool (ParseInt_v1 (FormatInt_v0 dn))) (r_extract (vs := #[.int .i64 (ParseInt_v0 (FormatInt_v0 dn)), .bool (ParseInt_v1 (FormatInt_v0 dn))]) rfl ek kk) ?_
    refine Fa (.int .i64 (ParseInt_v0 (FormatInt_v0 dn))) ?_
    refine Fa (.bool (ParseInt_v1 (FormatInt_v0 dn))) ?_
    refine F.es ?_
    have c57 := (SG.belowR c52 s56 (fun kq e => by cases e))
    refine h17 _ _ ?_
    refine wk fun K18 h18 => ?_
    refine W.region_quiet [(0, false), (1, false), (2, false), (3, false), (4, false), (5, false), (6, false), (7, false), (8, false), (9, false)] kk ?_
    refine Fv (.bool (FormatInt_v1 dn)) ?_
    refine Fv (.bool (FormatInt_v1 dn)) ?_
    rcases Bool.eq_false_or_eq_true (FormatInt_v1 dn) with q58 | q58
    ·rw [q58]
     refine Fv (.bool (ParseInt_v1 (FormatInt_v0 dn))) ?_
     have q59 : (ParseInt_v1 (FormatInt_v0 dn)) = true := (int_back q58).1
     rw [q59]
     refine Fq (.bool false) (r_not (b := true) rfl ek rfl) ?_
     refine Fv (.bool false) ?_
     refine Fv (.int .i64 (ParseInt_v0 (FormatInt_v0 dn))) ?_
     refine Fv (.int .i64 dn) ?_
     refine Fq (.bool false) (r_neq (m := (ParseInt_v0 (FormatInt_v0 dn))) (n := dn) rfl ek ek (decide_eq_false (by rw [(int_back q58).2]; exact fun h9 => h9 rfl))) ?_
     refine Fq (.bool false) (r_pick (b := false) rfl ek ek) ?_
     refine Fq (.bool false) (r_pick (b := true) rfl ek ek) ?_
     refine F.es ?_
     refine h18 _ _ ?_
     refine wp_cond_false ek ?_
     refine wp_skip ?_
     refine h16 _ _ ?_
     refine wk fun K19 h19 => ?_
     refine wk fun K20 h20 => ?_
     refine W.region_quiet [(0, false), (1, false)] kk ?_
     refine Fv (.bool (AppendChecksum_v1 dx)) ?_
     rcases Bool.eq_false_or_eq_true (AppendChecksum_v1 dx) with q60 | q60
     ·rw [q60]
      refine Fq (.bool false) (r_not (b := true) rfl ek rfl) ?_
      refine F.es ?_
      refine h20 _ _ ?_
      refine wp_cond_false ek ?_
      refine wp_skip ?_
      refine h19 _ _ ?_
      refine wk fun K21 h21 => ?_
      refine W.region_plain (row := none) [(0, false), (1, true), (2, false), (3, false), (4, false), (5, false), (6, false)] kk ?_
      have s61 := SG.self w55 none
      refine Fv (.string (AppendChecksum_v0 dx)) ?_
      have hal := app_len q60
      refine Fc [.string (AppendChecksum_v0 dx)] (VerifyChecksum_impl (AppendChecksum_v0 dx) _ (by omega) (tab_kept htab (SG.belowR c57 s61 (fun kq e => by cases e))) (max_kept hmax (SG.belowR c57 s61 (fun kq e => by cases e)))) ?_
      rintro e w63 ⟨rfl, b62⟩
      have s64 := SG.of_below s61 b62
      refine ⟨_, rfl, s64, ?_⟩
      refine F.nx ?_
      refine Fv (.tuple #[.string (VerifyChecksum_v0 (AppendChecksum_v0 dx)), .bool (VerifyChecksum_v1 (AppendChecksum_v0 dx))]) ?_
      refine Fq (.string (VerifyChecksum_v0 (AppendChecksum_v0 dx))) (r_extract (vs := #[.string (VerifyChecksum_v0 (AppendChecksum_v0 dx)), .bool (VerifyChecksum_v1 (AppendChecksum_v0 dx))]) rfl ek kk) ?_
      refine Fq (.bool (VerifyChecksum_v1 (AppendChecksum_v0 dx))) (r_extract (vs := #[.string (VerifyChecksum_v0 (AppendChecksum_v0 dx)), .bool (VerifyChecksum_v1 (AppendChecksum_v0 dx))]) rfl ek kk) ?_
      refine Fa (.string (VerifyChecksum_v0 (AppendChecksum_v0 dx))) ?_
      refine Fa (.bool (VerifyChecksum_v1 (AppendChecksum_v0 dx))) ?_
      refine F.es ?_
      have c65 := (SG.belowR c57 s64 (fun kq e => by cases e))
      refine h21 _ _ ?_
      as_aux_lemma =>
       refine wk fun K22 h22 => ?_
       refine W.region_plain (row := none) [(0, false), (1, true), (2, false)] kk ?_
       have s66 := SG.self w63 none
       refine Fv (.string (AppendChecksum_v0 dx)) ?_
       refine W.cvb (s := (AppendChecksum_v0 dx)) s66 rfl kk rfl rfl kk kk kk (fun b67 w68 cap74 cs75 e76 f77 hb69 k70 x71 hc78 hf79 s72 => ?_)
       refine F.nx ?_
       have lo73 : w.heap.size ≤ b67 := Nat.le_trans ((SG.belowR c65 s66 (fun kq e => by cases e))).size (Nat.le_of_eq hb69)
       have hl80 : ((AppendChecksum_v0 dx)).data.toList.length = ((AppendChecksum_v0 dx)).size := Array.length_toList ..
       refine Fa (.slice (some ⟨b67, 0, none⟩) (((AppendChecksum_v0 dx)).size) cap74) ?_
       refine F.es ?_
       have c81 := (SG.belowR c65 s72 (fun kq e => by cases e))
       refine h22 _ _ ?_
       refine wk fun K23 h23 => ?_
       refine W.region_plain (row := none) [(0, false), (1, true), (2, false), (3, false), (4, false), (5, false)] kk ?_
       have s82 := SG.self w68 none
       refine Fv (.slice A n c) ?_
       refine Fc [.slice A n c, .int .i64 9] (vAt_any A n c zs 9 _ (Rd.kept hcode (SG.belowR c81 s82 (fun kq e => by cases e))) hz (by have h9 := of_decide_eq_false q5; omega) (by omega)) ?_
       rintro e w86 ⟨x83, rfl, hx84, b85⟩
       have s87 := SG.of_below s82 b85
       refine ⟨_, rfl, s87, ?_⟩
       refine F.nx ?_
       refine Fv (.slice (some ⟨b67, 0, none⟩) (((AppendChecksum_v0 dx)).size) cap74) ?_
       refine Fq (.int .i64 ((((AppendChecksum_v0 dx)).size : Nat) : Int)) (r_len (A := (some ⟨b67, 0, none⟩)) (n := ((AppendChecksum_v0 dx)).size) (c := cap74) rfl ek kk) ?_
       obtain ⟨k9, hk9, hkl9⟩ : ∃ k : Nat, x83 % ((((AppendChecksum_v0 dx)).size : Nat) : Int) = (k : Int) ∧ k < ((AppendChecksum_v0 dx)).size := by
         have h1 := Int.emod_nonneg x83 (show ((((AppendChecksum_v0 dx)).size : Nat) : Int) ≠ 0 by omega)
         have h2 := Int.emod_lt_of_pos x83 (show 0 < ((((AppendChecksum_v0 dx)).size : Nat) : Int) by omega)
         exact ⟨(x83 % ((((AppendChecksum_v0 dx)).size : Nat) : Int)).toNat, by omega, by omega⟩
       refine Fq (.int .i64 (k9 : Int)) (r_remK (k := .i64) (m := x83) (n := ((((AppendChecksum_v0 dx)).size : Nat) : Int)) (z := (k9 : Int)) rfl ek ek (by omega) (by rw [Int.tmod_eq_emod_of_nonneg (by omega)]; exact hk9)) ?_
       refine Fa (.int .i64 (k9 : Int)) ?_
       refine F.es ?_
       have x71 := SG.blk s87 x71 (Option.some_ne_none _)
       have c88 := (SG.belowR c81 s87 (fun kq e => by cases e))
       refine h23 _ _ ?_
       refine wk fun K24 h24 => ?_
       refine W.region_sch (row := (some b67)) (Sch.app [(0, false), (1, false), (2, false), (3, false), (4, false), (6, false)] (.br 5 7 (Sch.of [(7, true), (8, false), (9, false), (10, false), (11, false), (12, false), (13, true)]) (Sch.of [(8, false), (9, false), (10, false), (5, true), (11, false), (12, false), (13, true)]))) kk kk (fun _ d _ _ _ h => by cases d <;> exact h) kk (fun w89 e90 s91 => ?_)
       have x92 := (heap_same e90 x71)
       refine Fv (.slice (some ⟨b67, 0, none⟩) (((AppendChecksum_v0 dx)).size) cap74) ?_
       refine Fv (.int .i64 (k9 : Int)) ?_
       refine Fv (.slice (some ⟨b67, 0, none⟩) (((AppendChecksum_v0 dx)).size) cap74) ?_
       refine Fv (.int .i64 (k9 : Int)) ?_
       refine Fq (.pointer (some ⟨b67, 0 + k9, none⟩)) (r_idx1 (n := ((AppendChecksum_v0 dx)).size) (c := cap74) (k := k9) rfl ek rfl kk kk (by omega)) ?_
       refine Fv (.slice A n c) ?_
       refine W.sbr ?_ ?_
       ·obtain ⟨x93, hx94⟩ := get_of (zs := ((AppendChecksum_v0 dx)).data.toList) (k := 0 + k9) (by have := hl80; omega)
        refine W.slq (v := .int .u8 ((x93.toNat : Nat) : Int)) s91 rfl (r_load rfl kk kk (eqS (byc_cell x92 hc78 hx94))) kk rfl ?_
        refine F.nx ?_
        refine Fc [.slice A n c, .int .i64 10] (vAt_any A n c zs 10 _ (Rd.kept hcode (SG.belowR c88 s91 (fun kq e => by cases e; exact lo73))) hz (by have h9 := of_decide_eq_false q5; omega) (by omega)) ?_
        rintro e w98 ⟨x95, rfl, hx96, b97⟩
        have s99 := SG.of_below s91 b97
        refine ⟨_, rfl, s99, ?_⟩
        refine F.nx ?_
        have x92 := (b97.block _ (blk_lt x92)).trans x92
        have hr1 := Int.emod_nonneg x95 (show 255 ≠ 0 by omega)
        have hr2 := Int.emod_lt_of_pos x95 (show 0 < 255 by omega)
        refine Fq (.int .i64 (x95 % 255)) (r_remK (k := .i64) (m := x95) (n := 255) (z := (x95 % 255)) rfl ek ek (by omega) (Int.tmod_eq_emod_of_nonneg (by omega))) ?_
        refine Fq (.int .i64 (1 + (x95 % 255))) (r_add (m := 1) (n := (x95 % 255)) (z := 1 + (x95 % 255)) rfl ek ek (rfl) (by omega)) ?_
        refine Fq (.int .u8 (1 + (x95 % 255))) (r_conv (k := .i64) (k' := .u8) (n := 1 + (x95 % 255)) (m := 1 + (x95 % 255)) rfl ek kk kk ((by rw [IntKind.wrap_u8']; omega))) ?_
        refine Fq (.int .u8 (((((x93.toNat : Nat) : Int)).toNat ^^^ (1 + (x95 % 255)).toNat : Nat) : Int)) (r_xor8 (m := ((x93.toNat : Nat) : Int)) (n := 1 + (x95 % 255)) rfl ek ek (by have := UInt8.toNat_lt x93; omega) (by omega)) ?_
        refine Fq (.pointer (some ⟨b67, 0 + k9, none⟩)) (r_idx1 (n := ((AppendChecksum_v0 dx)).size) (c := cap74) (k := k9) rfl ek rfl kk kk (by omega)) ?_
        obtain ⟨b109, hb110, hne111⟩ := xor_byte (a := x93) (m := 1 + (x95 % 255)) (by omega)
        have hbad := bad_app q60 hx94 hne111
        have h112 := byc_size hc78 hx94
        refine W.ssb (z := (((b109).toNat : Nat) : Int)) s99 rfl kk rfl rfl kk (by rw [← hb110]; kernel_rfl) x92 hf79 h112 kk (.inl rfl) (fun w100 g101 x102 s103 => ?_)
        have hc104 := byc_set hc78 (0 + k9) b109 h112
        have hl106 : (((AppendChecksum_v0 dx)).data.toList.set (0 + k9) b109).length = ((AppendChecksum_v0 dx)).size := by rw [List.length_set]; exact hl80
        refine F.es ?_
        have c113 := (SG.belowR c88 s103 (fun kq e => by cases e; exact lo73))
        refine h24 _ _ ?_
        as_aux_lemma =>
         refine wk fun K25 h25 => ?_
         refine W.region_plain (row := none) [(0, false), (1, true), (2, true), (3, false), (4, false), (5, false), (6, false), (7, false)] kk ?_
         have s114 := SG.self w100 none
         refine Fv (.slice (some ⟨b67, 0, none⟩) (((AppendChecksum_v0 dx)).size) cap74) ?_
         refine W.slq (v := .string (⟨(((AppendChecksum_v0 dx)).data.toList.set (0 + k9) b109).toArray⟩ : ByteArray)) s114 rfl (r_bytesB (c := cap74) (((AppendChecksum_v0 dx)).data.toList.set (0 + k9) b109) rfl kk kk kk x102 hc104 hl106) kk rfl ?_
         refine F.nx ?_
         refine Fc [.string (⟨(((AppendChecksum_v0 dx)).data.toList.set (0 + k9) b109).toArray⟩ : ByteArray)] (VerifyChecksum_impl (⟨(((AppendChecksum_v0 dx)).data.toList.set (0 + k9) b109).toArray⟩ : ByteArray) _ (set_size (by rw [Array.length_toList]; exact Nat.le_trans hal.2 (by omega))) (tab_kept htab (SG.belowR c113 s114 (fun kq e => by cases e))) (max_kept hmax (SG.belowR c113 s114 (fun kq e => by cases e)))) ?_
         rintro e w116 ⟨rfl, b115⟩
         have s117 := SG.of_below s114 b115
         refine ⟨_, rfl, s117, ?_⟩
         refine F.nx ?_
         refine Fv (.tuple #[.string (VerifyChecksum_v0 (⟨(((AppendChecksum_v0 dx)).data.toList.set (0 + k9) b109).toArray⟩ : ByteArray)), .bool (VerifyChecksum_v1 (⟨(((AppendChecksum_v0 dx)).data.toList.set (0 + k9) b109).toArray⟩ : ByteArray))]) ?_
         refine Fq (.string (VerifyChecksum_v0 (⟨(((AppendChecksum_v0 dx)).data.toList.set (0 + k9) b109).toArray⟩ : ByteArray))) (r_extract (vs := #[.string (VerifyChecksum_v0 (⟨(((AppendChecksum_v0 dx)).data.toList.set (0 + k9) b109).toArray⟩ : ByteArray)), .bool (VerifyChecksum_v1 (⟨(((AppendChecksum_v0 dx)).data.toList.set (0 + k9) b109).toArray⟩ : ByteArray))]) rfl ek kk) ?_
         refine Fq (.bool (VerifyChecksum_v1 (⟨(((AppendChecksum_v0 dx)).data.toList.set (0 + k9) b109).toArray⟩ : ByteArray))) (r_extract (vs := #[.string (VerifyChecksum_v0 (⟨(((AppendChecksum_v0 dx)).data.toList.set (0 + k9) b109).toArray⟩ : ByteArray)), .bool (VerifyChecksum_v1 (⟨(((AppendChecksum_v0 dx)).data.toList.set (0 + k9) b109).toArray⟩ : ByteArray))]) rfl ek kk) ?_
         refine Fa (.string (VerifyChecksum_v0 (⟨(((AppendChecksum_v0 dx)).data.toList.set (0 + k9) b109).toArray⟩ : ByteArray))) ?_
         refine Fa (.bool (VerifyChecksum_v1 (⟨(((AppendChecksum_v0 dx)).data.toList.set (0 + k9) b109).toArray⟩ : ByteArray))) ?_
         refine F.es ?_
         have c118 := (SG.belowR c113 s117 (fun kq e => by cases e))
         refine h25 _ _ ?_
         refine wk fun K26 h26 => ?_
         refine W.region_quiet [(0, false), (1, false), (2, false), (3, false), (4, false), (5, false), (6, false), (7, false), (8, false), (9, false), (10, false)] kk ?_
         refine Fv (.bool (VerifyChecksum_v1 (AppendChecksum_v0 dx))) ?_
         refine Fv (.bool (VerifyChecksum_v1 (AppendChecksum_v0 dx))) ?_
         have q119 : (VerifyChecksum_v1 (AppendChecksum_v0 dx)) = true := (ver_app q60).1
         rw [q119]
         refine Fv (.string (VerifyChecksum_v0 (AppendChecksum_v0 dx))) ?_
         refine Fv (.string dx) ?_
         refine Fq (.bool true) (r_eqlS (s := (VerifyChecksum_v0 (AppendChecksum_v0 dx))) (r := dx) rfl ek ek (decide_eq_true (ver_app q60).2)) ?_
         refine Fq (.bool true) (r_pick (b := true) rfl ek ek) ?_
         refine Fv (.bool true) ?_
         refine Fv (.bool (VerifyChecksum_v1 (⟨(((AppendChecksum_v0 dx)).data.toList.set (0 + k9) b109).toArray⟩ : ByteArray))) ?_
         have q120 : (VerifyChecksum_v1 (⟨(((AppendChecksum_v0 dx)).data.toList.set (0 + k9) b109).toArray⟩ : ByteArray)) = false := hbad
         rw [q120]
         refine Fq (.bool true) (r_not (b := false) rfl ek rfl) ?_
         refine Fq (.bool true) (r_pick (b := true) rfl ek ek) ?_
         refine Fa (.bool true) ?_
         refine F.es ?_
         refine h26 _ _ ?_
         refine wp_ret ?_
         try simp only [Exit.then]
         refine ret1 (v := .bool true) rfl kk ?_
         exact ⟨rfl, c118⟩
       refine Fc [.slice A n c, .int .i64 10] (vAt_any A n c zs 10 _ (Rd.kept hcode (SG.belowR c88 s91 (fun kq e => by cases e; exact lo73))) hz (by have h9 := of_decide_eq_false q5; omega) (by omega)) ?_
       rintro e w124 ⟨x121, rfl, hx122, b123⟩
       have s125 := SG.of_below s91 b123
       refine ⟨_, rfl, s125, ?_⟩
       refine F.nx ?_
       have x92 := (b123.block _ (blk_lt x92)).trans x92
       have hr1 := Int.emod_nonneg x121 (show 255 ≠ 0 by omega)
       have hr2 := Int.emod_lt_of_pos x121 (show 0 < 255 by omega)
       refine Fq (.int .i64 (x121 % 255)) (r_remK (k := .i64) (m := x121) (n := 255) (z := (x121 % 255)) rfl ek ek (by omega) (Int.tmod_eq_emod_of_nonneg (by omega))) ?_
       refine Fq (.int .i64 (1 + (x121 % 255))) (r_add (m := 1) (n := (x121 % 255)) (z := 1 + (x121 % 255)) rfl ek ek (rfl) (by omega)) ?_
       refine Fq (.int .u8 (1 + (x121 % 255))) (r_conv (k := .i64) (k' := .u8) (n := 1 + (x121 % 255)) (m := 1 + (x121 % 255)) rfl ek kk kk ((by rw [IntKind.wrap_u8']; omega))) ?_
       obtain ⟨x126, hx127⟩ := get_of (zs := ((AppendChecksum_v0 dx)).data.toList) (k := 0 + k9) (by have := hl80; omega)
       refine W.slq (v := .int .u8 ((x126.toNat : Nat) : Int)) s125 rfl (r_load rfl kk kk (eqS (byc_cell x92 hc78 hx127))) kk rfl ?_
       refine F.nx ?_
       refine Fq (.int .u8 (((((x126.toNat : Nat) : Int)).toNat ^^^ (1 + (x121 % 255)).toNat : Nat) : Int)) (r_xor8 (m := ((x126.toNat : Nat) : Int)) (n := 1 + (x121 % 255)) rfl ek ek (by have := UInt8.toNat_lt x126; omega) (by omega)) ?_
       refine Fq (.pointer (some ⟨b67, 0 + k9, none⟩)) (r_idx1 (n := ((AppendChecksum_v0 dx)).size) (c := cap74) (k := k9) rfl ek rfl kk kk (by omega)) ?_
       obtain ⟨b137, hb138, hne139⟩ := xor_byte (a := x126) (m := 1 + (x121 % 255)) (by omega)
       have hbad := bad_app q60 hx127 hne139
       have h140 := byc_size hc78 hx127
       refine W.ssb (z := (((b137).toNat : Nat) : Int)) s125 rfl kk rfl rfl kk (by rw [← hb138]; kernel_rfl) x92 hf79 h140 kk (.inl rfl) (fun w128 g129 x130 s131 => ?_)
       have hc132 := byc_set hc78 (0 + k9) b137 h140
       have hl134 : (((AppendChecksum_v0 dx)).data.toList.set (0 + k9) b137).length = ((AppendChecksum_v0 dx)).size := by rw [List.length_set]; exact hl80
       refine F.es ?_
       have c141 := (SG.belowR c88 s131 (fun kq e => by cases e; exact lo73))
       refine h24 _ _ ?_
       as_aux_lemma =>
        refine wk fun K27 h27 => ?_
        refine W.region_plain (row := none) [(0, false), (1, true), (2, true), (3, false), (4, false), (5, false), (6, false), (7, false)] kk ?_
        have s142 := SG.self w128 none
        refine Fv (.slice (some ⟨b67, 0, none⟩) (((AppendChecksum_v0 dx)).size) cap74) ?_
        refine W.slq (v := .string (⟨(((AppendChecksum_v0 dx)).data.toList.set (0 + k9) b137).toArray⟩ : ByteArray)) s142 rfl (r_bytesB (c := cap74) (((AppendChecksum_v0 dx)).data.toList.set (0 + k9) b137) rfl kk kk kk x130 hc132 hl134) kk rfl ?_
        refine F.nx ?_
        refine Fc [.string (⟨(((AppendChecksum_v0 dx)).data.toList.set (0 + k9) b137).toArray⟩ : ByteArray)] (VerifyChecksum_impl (⟨(((AppendChecksum_v0 dx)).data.toList.set (0 + k9) b137).toArray⟩ : ByteArray) _ (set_size (by rw [Array.length_toList]; exact Nat.le_trans hal.2 (by omega))) (tab_kept htab (SG.belowR c141 s142 (fun kq e => by cases e))) (max_kept hmax (SG.belowR c141 s142 (fun kq e => by cases e)))) ?_
        rintro e w144 ⟨rfl, b143⟩
        have s145 := SG.of_below s142 b143
        refine ⟨_, rfl, s145, ?_⟩
        refine F.nx ?_
        refine Fv (.tuple #[.string (VerifyChecksum_v0 (⟨(((AppendChecksum_v0 dx)).data.toList.set (0 + k9) b137).toArray⟩ : ByteArray)), .bool (VerifyChecksum_v1 (⟨(((AppendChecksum_v0 dx)).data.toList.set (0 + k9) b137).toArray⟩ : ByteArray))]) ?_
        refine Fq (.string (VerifyChecksum_v0 (⟨(((AppendChecksum_v0 dx)).data.toList.set (0 + k9) b137).toArray⟩ : ByteArray))) (r_extract (vs := #[.string (VerifyChecksum_v0 (⟨(((AppendChecksum_v0 dx)).data.toList.set (0 + k9) b137).toArray⟩ : ByteArray)), .bool (VerifyChecksum_v1 (⟨(((AppendChecksum_v0 dx)).data.toList.set (0 + k9) b137).toArray⟩ : ByteArray))]) rfl ek kk) ?_
        refine Fq (.bool (VerifyChecksum_v1 (⟨(((AppendChecksum_v0 dx)).data.toList.set (0 + k9) b137).toArray⟩ : ByteArray))) (r_extract (vs := #[.string (VerifyChecksum_v0 (⟨(((AppendChecksum_v0 dx)).data.toList.set (0 + k9) b137).toArray⟩ : ByteArray)), .bool (VerifyChecksum_v1 (⟨(((AppendChecksum_v0 dx)).data.toList.set (0 + k9) b137).toArray⟩ : ByteArray))]) rfl ek kk) ?_
        refine Fa (.string (VerifyChecksum_v0 (⟨(((AppendChecksum_v0 dx)).data.toList.set (0 + k9) b137).toArray⟩ : ByteArray))) ?_
        refine Fa (.bool (VerifyChecksum_v1 (⟨(((AppendChecksum_v0 dx)).data.toList.set (0 + k9) b137).toArray⟩ : ByteArray))) ?_
        refine F.es ?_
        have c146 := (SG.belowR c141 s145 (fun kq e => by cases e))
        refine h27 _ _ ?_
        refine wk fun K28 h28 => ?_
        refine W.region_quiet [(0, false), (1, false), (2, false), (3, false), (4, false), (5, false), (6, false), (7, false), (8, false), (9, false), (10, false)] kk ?_
        refine Fv (.bool (VerifyChecksum_v1 (AppendChecksum_v0 dx))) ?_
        refine Fv (.bool (VerifyChecksum_v1 (AppendChecksum_v0 dx))) ?_
        have q147 : (VerifyChecksum_v1 (AppendChecksum_v0 dx)) = true := (ver_app q60).1
        rw [q147]
        refine Fv (.string (VerifyChecksum_v0 (AppendChecksum_v0 dx))) ?_
        refine Fv (.string dx) ?_
        refine Fq (.bool true) (r_eqlS (s := (VerifyChecksum_v0 (AppendChecksum_v0 dx))) (r := dx) rfl ek ek (decide_eq_true (ver_app q60).2)) ?_
        refine Fq (.bool true) (r_pick (b := true) rfl ek ek) ?_
        refine Fv (.bool true) ?_
        refine Fv (.bool (VerifyChecksum_v1 (⟨(((AppendChecksum_v0 dx)).data.toList.set (0 + k9) b137).toArray⟩ : ByteArray))) ?_
        have q148 : (VerifyChecksum_v1 (⟨(((AppendChecksum_v0 dx)).data.toList.set (0 + k9) b137).toArray⟩ : ByteArray)) = false := hbad
        rw [q148]
        refine Fq (.bool true) (r_not (b := false) rfl ek rfl) ?_
        refine Fq (.bool true) (r_pick (b := true) rfl ek ek) ?_
        refine Fa (.bool true) ?_
        refine F.es ?_
        refine h28 _ _ ?_
        refine wp_ret ?_
        try simp only [Exit.then]
        refine ret1 (v := .bool true) rfl kk ?_
        exact ⟨rfl, c146⟩
     rw [q60]
     refine Fq (.bool true) (r_not (b := false) rfl ek rfl) ?_
     refine F.es ?_
     refine h20 _ _ ?_
     refine wp_cond_true ek ?_
     refine wk fun K29 h29 => ?_
     refine W.region_quiet [(0, false), (1, false), (2, false)] kk ?_
     refine Fv (.string (AppendChecksum_v0 dx)) ?_
     refine Fq (.bool true) (r_eqlS (s := (AppendChecksum_v0 dx)) (r := (⟨#[]⟩ : ByteArray)) rfl ek ek (decide_eq_true (app_v0_no q60))) ?_
     refine Fa (.bool true) ?_
     refine F.es ?_
     refine h29 _ _ ?_
     refine wp_ret ?_
     try simp only [Exit.then]
     refine ret1 (v := .bool true) rfl kk ?_
     exact ⟨rfl, c57⟩
    rw [q58]
    refine Fs rfl ?_
    refine Fs rfl ?_
    refine Fs rfl ?_
    refine Fs rfl ?_
    refine Fs rfl ?_
    refine Fs rfl ?_
    refine Fs rfl ?_
    refine Fq (.bool false) (r_pick (b := false) rfl ek ek) ?_
    refine F.es ?_
    refine h18 _ _ ?_
    as_aux_lemma =>
     refine wp_cond_false ek ?_
     refine wp_skip ?_
     refine h16 _ _ ?_
     refine wk fun K30 h30 => ?_
     refine wk fun K31 h31 => ?_
     refine W.region_quiet [(0, false), (1, false)] kk ?_
     refine Fv (.bool (AppendChecksum_v1 dx)) ?_
     rcases Bool.eq_false_or_eq_true (AppendChecksum_v1 dx) with q149 | q149
     ·rw [q149]
      refine Fq (.bool false) (r_not (b := true) rfl ek rfl) ?_
      refine F.es ?_
      refine h31 _ _ ?_
      refine wp_cond_false ek ?_
      refine wp_skip ?_
      refine h30 _ _ ?_
      refine wk fun K32 h32 => ?_
      refine W.region_plain (row := none) [(0, false), (1, true), (2, false), (3, false), (4, false), (5, false), (6, false)] kk ?_
      have s150 := SG.self w55 none
      refine Fv (.string (AppendChecksum_v0 dx)) ?_
      have hal := app_len q149
      refine Fc [.string (AppendChecksum_v0 dx)] (VerifyChecksum_impl (AppendChecksum_v0 dx) _ (by omega) (tab_kept htab (SG.belowR c57 s150 (fun kq e => by cases e))) (max_kept hmax (SG.belowR c57 s150 (fun kq e => by cases e)))) ?_
      rintro e w152 ⟨rfl, b151⟩
      have s153 := SG.of_below s150 b151
      refine ⟨_, rfl, s153, ?_⟩
      refine F.nx ?_
      refine Fv (.tuple #[.string (VerifyChecksum_v0 (AppendChecksum_v0 dx)), .bool (VerifyChecksum_v1 (AppendChecksum_v0 dx))]) ?_
      refine Fq (.string (VerifyChecksum_v0 (AppendChecksum_v0 dx))) (r_extract (vs := #[.string (VerifyChecksum_v0 (AppendChecksum_v0 dx)), .bool (VerifyChecksum_v1 (AppendChecksum_v0 dx))]) rfl ek kk) ?_
      refine Fq (.bool (VerifyChecksum_v1 (AppendChecksum_v0 dx))) (r_extract (vs := #[.string (VerifyChecksum_v0 (AppendChecksum_v0 dx)), .bool (VerifyChecksum_v1 (AppendChecksum_v0 dx))]) rfl ek kk) ?_
      refine Fa (.string (VerifyChecksum_v0 (AppendChecksum_v0 dx))) ?_
      refine Fa (.bool (VerifyChecksum_v1 (AppendChecksum_v0 dx))) ?_
      refine F.es ?_
      have c154 := (SG.belowR c57 s153 (fun kq e => by cases e))
      refine h32 _ _ ?_
      refine wk fun K33 h33 => ?_
      refine W.region_plain (row := none) [(0, false), (1, true), (2, false)] kk ?_
      have s155 := SG.self w152 none
      refine Fv (.string (AppendChecksum_v0 dx)) ?_
      refine W.cvb (s := (AppendChecksum_v0 dx)) s155 rfl kk rfl rfl kk kk kk (fun b156 w157 cap163 cs164 e165 f166 hb158 k159 x160 hc167 hf168 s161 => ?_)
      refine F.nx ?_
      have lo162 : w.heap.size ≤ b156 := Nat.le_trans ((SG.belowR c154 s155 (fun kq e => by cases e))).size (Nat.le_of_eq hb158)
      have hl169 : ((AppendChecksum_v0 dx)).data.toList.length = ((AppendChecksum_v0 dx)).size := Array.length_toList ..
      refine Fa (.slice (some ⟨b156, 0, none⟩) (((AppendChecksum_v0 dx)).size) cap163) ?_
      refine F.es ?_
      have c170 := (SG.belowR c154 s161 (fun kq e => by cases e))
      refine h33 _ _ ?_
      refine wk fun K34 h34 => ?_
      refine W.region_plain (row := none) [(0, false), (1, true), (2, false), (3, false), (4, false), (5, false)] kk ?_
      have s171 := SG.self w157 none
      refine Fv (.slice A n c) ?_
      refine Fc [.slice A n c, .int .i64 9] (vAt_any A n c zs 9 _ (Rd.kept hcode (SG.belowR c170 s171 (fun kq e => by cases e))) hz (by have h9 := of_decide_eq_false q5; omega) (by omega)) ?_
      rintro e w175 ⟨x172, rfl, hx173, b174⟩
      have s176 := SG.of_below s171 b174
      refine ⟨_, rfl, s176, ?_⟩
      refine F.nx ?_
      refine Fv (.slice (some ⟨b156, 0, none⟩) (((AppendChecksum_v0 dx)).size) cap163) ?_
      refine Fq (.int .i64 ((((AppendChecksum_v0 dx)).size : Nat) : Int)) (r_len (A := (some ⟨b156, 0, none⟩)) (n := ((AppendChecksum_v0 dx)).size) (c := cap163) rfl ek kk) ?_
      obtain ⟨k9, hk9, hkl9⟩ : ∃ k : Nat, x172 % ((((AppendChecksum_v0 dx)).size : Nat) : Int) = (k : Int) ∧ k < ((AppendChecksum_v0 dx)).size := by
        have h1 := Int.emod_nonneg x172 (show ((((AppendChecksum_v0 dx)).size : Nat) : Int) ≠ 0 by omega)
        have h2 := Int.emod_lt_of_pos x172 (show 0 < ((((AppendChecksum_v0 dx)).size : Nat) : Int) by omega)
        exact ⟨(x172 % ((((AppendChecksum_v0 dx)).size : Nat) : Int)).toNat, by omega, by omega⟩
      refine Fq (.int .i64 (k9 : Int)) (r_remK (k := .i64) (m := x172) (n := ((((AppendChecksum_v0 dx)).size : Nat) : Int)) (z := (k9 : Int)) rfl ek ek (by omega) (by rw [Int.tmod_eq_emod_of_nonneg (by omega)]; exact hk9)) ?_
      refine Fa (.int .i64 (k9 : Int)) ?_
      refine F.es ?_
      have x160 := SG.blk s176 x160 (Option.some_ne_none _)
      have c177 := (SG.belowR c170 s176 (fun kq e => by cases e))
      refine h34 _ _ ?_
      as_aux_lemma =>
       refine wk fun K35 h35 => ?_
       refine W.region_sch (row := (some b156)) (Sch.app [(0, false), (1, false), (2, false), (3, false), (4, false), (6, false)] (.br 5 7 (Sch.of [(7, true), (8, false), (9, false), (10, false), (11, false), (12, false), (13, true)]) (Sch.of [(8, false), (9, false), (10, false), (5, true), (11, false), (12, false), (13, true)]))) kk kk (fun _ d _ _ _ h => by cases d <;> exact h) kk (fun w178 e179 s180 => ?_)
       have x181 := (heap_same e179 x160)
       refine Fv (.slice (some ⟨b156, 0, none⟩) (((AppendChecksum_v0 dx)).size) cap163) ?_
       refine Fv (.int .i64 (k9 : Int)) ?_
       refine Fv (.slice (some ⟨b156, 0, none⟩) (((AppendChecksum_v0 dx)).size) cap163) ?_
       refine Fv (.int .i64 (k9 : Int)) ?_
       refine Fq (.pointer (some ⟨b156, 0 + k9, none⟩)) (r_idx1 (n := ((AppendChecksum_v0 dx)).size) (c := cap163) (k := k9) rfl ek rfl kk kk (by omega)) ?_
       refine Fv (.slice A n c) ?_
       refine W.sbr ?_ ?_
       ·obtain ⟨x182, hx183⟩ := get_of (zs := ((AppendChecksum_v0 dx)).data.toList) (k := 0 + k9) (by have := hl169; omega)
        refine W.slq (v := .int .u8 ((x182.toNat : Nat) : Int)) s180 rfl (r_load rfl kk kk (eqS (byc_cell x181 hc167 hx183))) kk rfl ?_
        refine F.nx ?_
        refine Fc [.slice A n c, .int .i64 10] (vAt_any A n c zs 10 _ (Rd.kept hcode (SG.belowR c177 s180 (fun kq e => by cases e; exact lo162))) hz (by have h9 := of_decide_eq_false q5; omega) (by omega)) ?_
        rintro e w187 ⟨x184, rfl, hx185, b186⟩
        have s188 := SG.of_below s180 b186
        refine ⟨_, rfl, s188, ?_⟩
        refine F.nx ?_
        have x181 := (b186.block _ (blk_lt x181)).trans x181
        have hr1 := Int.emod_nonneg x184 (show 255 ≠ 0 by omega)
        have hr2 := Int.emod_lt_of_pos x184 (show 0 < 255 by omega)
        refine Fq (.int .i64 (x184 % 255)) (r_remK (k := .i64) (m := x184) (n := 255) (z := (x184 % 255)) rfl ek ek (by omega) (Int.tmod_eq_emod_of_nonneg (by omega))) ?_
        refine Fq (.int .i64 (1 + (x184 % 255))) (r_add (m := 1) (n := (x184 % 255)) (z := 1 + (x184 % 255)) rfl ek ek (rfl) (by omega)) ?_
        refine Fq (.int .u8 (1 + (x184 % 255))) (r_conv (k := .i64) (k' := .u8) (n := 1 + (x184 % 255)) (m := 1 + (x184 % 255)) rfl ek kk kk ((by rw [IntKind.wrap_u8']; omega))) ?_
        refine Fq (.int .u8 (((((x182.toNat : Nat) : Int)).toNat ^^^ (1 + (x184 % 255)).toNat : Nat) : Int)) (r_xor8 (m := ((x182.toNat : Nat) : Int)) (n := 1 + (x184 % 255)) rfl ek ek (by have := UInt8.toNat_lt x182; omega) (by omega)) ?_
        refine Fq (.pointer (some ⟨b156, 0 + k9, none⟩)) (r_idx1 (n := ((AppendChecksum_v0 dx)).size) (c := cap163) (k := k9) rfl ek rfl kk kk (by omega)) ?_
        obtain ⟨b198, hb199, hne200⟩ := xor_byte (a := x182) (m := 1 + (x184 % 255)) (by omega)
        have hbad := bad_app q149 hx183 hne200
        have h201 := byc_size hc167 hx183
        refine W.ssb (z := (((b198).toNat : Nat) : Int)) s188 rfl kk rfl rfl kk (by rw [← hb199]; kernel_rfl) x181 hf168 h201 kk (.inl rfl) (fun w189 g190 x191 s192 => ?_)
        have hc193 := byc_set hc167 (0 + k9) b198 h201
        have hl195 : (((AppendChecksum_v0 dx)).data.toList.set (0 + k9) b198).length = ((AppendChecksum_v0 dx)).size := by rw [List.length_set]; exact hl169
        refine F.es ?_
        have c202 := (SG.belowR c177 s192 (fun kq e => by cases e; exact lo162))
        refine h35 _ _ ?_
        refine wk fun K36 h36 => ?_
        refine W.region_plain (row := none) [(0, false), (1, true), (2, true), (3, false), (4, false), (5, false), (6, false), (7, false)] kk ?_
        have s203 := SG.self w189 none
        refine Fv (.slice (some ⟨b156, 0, none⟩) (((AppendChecksum_v0 dx)).size) cap163) ?_
        refine W.slq (v := .string (⟨(((AppendChecksum_v0 dx)).data.toList.set (0 + k9) b198).toArray⟩ : ByteArray)) s203 rfl (r_bytesB (c := cap163) (((AppendChecksum_v0 dx)).data.toList.set (0 + k9) b198) rfl kk kk kk x191 hc193 hl195) kk rfl ?_
        refine F.nx ?_
        refine Fc [.string (⟨(((AppendChecksum_v0 dx)).data.toList.set (0 + k9) b198).toArray⟩ : ByteArray)] (VerifyChecksum_impl (⟨(((AppendChecksum_v0 dx)).data.toList.set (0 + k9) b198).toArray⟩ : ByteArray) _ (set_size (by rw [Array.length_toList]; exact Nat.le_trans hal.2 (by omega))) (tab_kept htab (SG.belowR c202 s203 (fun kq e => by cases e))) (max_kept hmax (SG.belowR c202 s203 (fun kq e => by cases e)))) ?_
        rintro e w205 ⟨rfl, b204⟩
        have s206 := SG.of_below s203 b204
        refine ⟨_, rfl, s206, ?_⟩
        refine F.nx ?_
        refine Fv (.tuple #[.string (VerifyChecksum_v0 (⟨(((AppendChecksum_v0 dx)).data.toList.set (0 + k9) b198).toArray⟩ : ByteArray)), .bool (VerifyChecksum_v1 (⟨(((AppendChecksum_v0 dx)).data.toList.set (0 + k9) b198).toArray⟩ : ByteArray))]) ?_
        refine Fq (.string (VerifyChecksum_v0 (⟨(((AppendChecksum_v0 dx)).data.toList.set (0 + k9) b198).toArray⟩ : ByteArray))) (r_extract (vs := #[.string (VerifyChecksum_v0 (⟨(((AppendChecksum_v0 dx)).data.toList.set (0 + k9) b198).toArray⟩ : ByteArray)), .bool (VerifyChecksum_v1 (⟨(((AppendChecksum_v0 dx)).data.toList.set (0 + k9) b198).toArray⟩ : ByteArray))]) rfl ek kk) ?_
        refine Fq (.bool (VerifyChecksum_v1 (⟨(((AppendChecksum_v0 dx)).data.toList.set (0 + k9) b198).toArray⟩ : ByteArray))) (r_extract (vs := #[.string (VerifyChecksum_v0 (⟨(((AppendChecksum_v0 dx)).data.toList.set (0 + k9) b198).toArray⟩ : ByteArray)), .bool (VerifyChecksum_v1 (⟨(((AppendChecksum_v0 dx)).data.toList.set (0 + k9) b198).toArray⟩ : ByteArray))]) rfl ek kk) ?_
        refine Fa (.string (VerifyChecksum_v0 (⟨(((AppendChecksum_v0 dx)).data.toList.set (0 + k9) b198).toArray⟩ : ByteArray))) ?_
        refine Fa (.bool (VerifyChecksum_v1 (⟨(((AppendChecksum_v0 dx)).data.toList.set (0 + k9) b198).toArray⟩ : ByteArray))) ?_
        refine F.es ?_
        have c207 := (SG.belowR c202 s206 (fun kq e => by cases e))
        refine h36 _ _ ?_
        refine wk fun K37 h37 => ?_
        refine W.region_quiet [(0, false), (1, false), (2, false), (3, false), (4, false), (5, false), (6, false), (7, false), (8, false), (9, false), (10, false)] kk ?_
        refine Fv (.bool (VerifyChecksum_v1 (AppendChecksum_v0 dx))) ?_
        refine Fv (.bool (VerifyChecksum_v1 (AppendChecksum_v0 dx))) ?_
        have q208 : (VerifyChecksum_v1 (AppendChecksum_v0 dx)) = true := (ver_app q149).1
        rw [q208]
        refine Fv (.string (VerifyChecksum_v0 (AppendChecksum_v0 dx))) ?_
        refine Fv (.string dx) ?_
        refine Fq (.bool true) (r_eqlS (s := (VerifyChecksum_v0 (AppendChecksum_v0 dx))) (r := dx) rfl ek ek (decide_eq_true (ver_app q149).2)) ?_
        refine Fq (.bool true) (r_pick (b := true) rfl ek ek) ?_
        refine Fv (.bool true) ?_
        refine Fv (.bool (VerifyChecksum_v1 (⟨(((AppendChecksum_v0 dx)).data.toList.set (0 + k9) b198).toArray⟩ : ByteArray))) ?_
        have q209 : (VerifyChecksum_v1 (⟨(((AppendChecksum_v0 dx)).data.toList.set (0 + k9) b198).toArray⟩ : ByteArray)) = false := hbad
        rw [q209]
        refine Fq (.bool true) (r_not (b := false) rfl ek rfl) ?_
        refine Fq (.bool true) (r_pick (b := true) rfl ek ek) ?_
        refine Fa (.bool true) ?_
        refine F.es ?_
        refine h37 _ _ ?_
        as_aux_lemma =>
         refine wp_ret ?_
         try simp only [Exit.then]
         refine ret1 (v := .bool true) rfl kk ?_
         exact ⟨rfl, c207⟩
       refine Fc [.slice A n c, .int .i64 10] (vAt_any A n c zs 10 _ (Rd.kept hcode (SG.belowR c177 s180 (fun kq e => by cases e; exact lo162))) hz (by have h9 := of_decide_eq_false q5; omega) (by omega)) ?_
       rintro e w213 ⟨x210, rfl, hx211, b212⟩
       have s214 := SG.of_below s180 b212
       refine ⟨_, rfl, s214, ?_⟩
       refine F.nx ?_
       have x181 := (b212.block _ (blk_lt x181)).trans x181
       have hr1 := Int.emod_nonneg x210 (show 255 ≠ 0 by omega)
       have hr2 := Int.emod_lt_of_pos x210 (show 0 < 255 by omega)
       refine Fq (.int .i64 (x210 % 255)) (r_remK (k := .i64) (m := x210) (n := 255) (z := (x210 % 255)) rfl ek ek (by omega) (Int.tmod_eq_emod_of_nonneg (by omega))) ?_
       refine Fq (.int .i64 (1 + (x210 % 255))) (r_add (m := 1) (n := (x210 % 255)) (z := 1 + (x210 % 255)) rfl ek ek (rfl) (by omega)) ?_
       refine Fq (.int .u8 (1 + (x210 % 255))) (r_conv (k := .i64) (k' := .u8) (n := 1 + (x210 % 255)) (m := 1 + (x210 % 255)) rfl ek kk kk ((by rw [IntKind.wrap_u8']; omega))) ?_
       obtain ⟨x215, hx216⟩ := get_of (zs := ((AppendChecksum_v0 dx)).data.toList) (k := 0 + k9) (by have := hl169; omega)
       refine W.slq (v := .int .u8 ((x215.toNat : Nat) : Int)) s214 rfl (r_load rfl kk kk (eqS (byc_cell x181 hc167 hx216))) kk rfl ?_
       refine F.nx ?_
       refine Fq (.int .u8 (((((x215.toNat : Nat) : Int)).toNat ^^^ (1 + (x210 % 255)).toNat : Nat) : Int)) (r_xor8 (m := ((x215.toNat : Nat) : Int)) (n := 1 + (x210 % 255)) rfl ek ek (by have := UInt8.toNat_lt x215; omega) (by omega)) ?_
       refine Fq (.pointer (some ⟨b156, 0 + k9, none⟩)) (r_idx1 (n := ((AppendChecksum_v0 dx)).size) (c := cap163) (k := k9) rfl ek rfl kk kk (by omega)) ?_
       obtain ⟨b226, hb227, hne228⟩ := xor_byte (a := x215) (m := 1 + (x210 % 255)) (by omega)
       have hbad := bad_app q149 hx216 hne228
       have h229 := byc_size hc167 hx216
       refine W.ssb (z := (((b226).toNat : Nat) : Int)) s214 rfl kk rfl rfl kk (by rw [← hb227]; kernel_rfl) x181 hf168 h229 kk (.inl rfl) (fun w217 g218 x219 s220 => ?_)
       have hc221 := byc_set hc167 (0 + k9) b226 h229
       have hl223 : (((AppendChecksum_v0 dx)).data.toList.set (0 + k9) b226).length = ((AppendChecksum_v0 dx)).size := by rw [List.length_set]; exact hl169
       refine F.es ?_
       have c230 := (SG.belowR c177 s220 (fun kq e => by cases e; exact lo162))
       refine h35 _ _ ?_
       refine wk fun K38 h38 => ?_
       refine W.region_plain (row := none) [(0, false), (1, true), (2, true), (3, false), (4, false), (5, false), (6, false), (7, false)] kk ?_
       have s231 := SG.self w217 none
       refine Fv (.slice (some ⟨b156, 0, none⟩) (((AppendChecksum_v0 dx)).size) cap163) ?_
       refine W.slq (v := .string (⟨(((AppendChecksum_v0 dx)).data.toList.set (0 + k9) b226).toArray⟩ : ByteArray)) s231 rfl (r_bytesB (c := cap163) (((AppendChecksum_v0 dx)).data.toList.set (0 + k9) b226) rfl kk kk kk x219 hc221 hl223) kk rfl ?_
       refine F.nx ?_
       refine Fc [.string (⟨(((AppendChecksum_v0 dx)).data.toList.set (0 + k9) b226).toArray⟩ : ByteArray)] (VerifyChecksum_impl (⟨(((AppendChecksum_v0 dx)).data.toList.set (0 + k9) b226).toArray⟩ : ByteArray) _ (set_size (by rw [Array.length_toList]; exact Nat.le_trans hal.2 (by omega))) (tab_kept htab (SG.belowR c230 s231 (fun kq e => by cases e))) (max_kept hmax (SG.belowR c230 s231 (fun kq e => by cases e)))) ?_
       rintro e w233 ⟨rfl, b232⟩
       have s234 := SG.of_below s231 b232
       refine ⟨_, rfl, s234, ?_⟩
       refine F.nx ?_
       refine Fv (.tuple #[.string (VerifyChecksum_v0 (⟨(((AppendChecksum_v0 dx)).data.toList.set (0 + k9) b226).toArray⟩ : ByteArray)), .bool (VerifyChecksum_v1 (⟨(((AppendChecksum_v0 dx)).data.toList.set (0 + k9) b226).toArray⟩ : ByteArray))]) ?_
       refine Fq (.string (VerifyChecksum_v0 (⟨(((AppendChecksum_v0 dx)).data.toList.set (0 + k9) b226).toArray⟩ : ByteArray))) (r_extract (vs := #[.string (VerifyChecksum_v0 (⟨(((AppendChecksum_v0 dx)).data.toList.set (0 + k9) b226).toArray⟩ : ByteArray)), .bool (VerifyChecksum_v1 (⟨(((AppendChecksum_v0 dx)).data.toList.set (0 + k9) b226).toArray⟩ : ByteArray))]) rfl ek kk) ?_
       refine Fq (.bool (VerifyChecksum_v1 (⟨(((AppendChecksum_v0 dx)).data.toList.set (0 + k9) b226).toArray⟩ : ByteArray))) (r_extract (vs := #[.string (VerifyChecksum_v0 (⟨(((AppendChecksum_v0 dx)).data.toList.set (0 + k9) b226).toArray⟩ : ByteArray)), .bool (VerifyChecksum_v1 (⟨(((AppendChecksum_v0 dx)).data.toList.set (0 + k9) b226).toArray⟩ : ByteArray))]) rfl ek kk) ?_
       refine Fa (.string (VerifyChecksum_v0 (⟨(((AppendChecksum_v0 dx)).data.toList.set (0 + k9) b226).toArray⟩ : ByteArray))) ?_
       refine Fa (.bool (VerifyChecksum_v1 (⟨(((AppendChecksum_v0 dx)).data.toList.set (0 + k9) b226).toArray⟩ : ByteArray))) ?_
       refine F.es ?_
       have c235 := (SG.belowR c230 s234 (fun kq e => by cases e))
       refine h38 _ _ ?_
       refine wk fun K39 h39 => ?_
       refine W.region_quiet [(0, false), (1, false), (2, false), (3, false), (4, false), (5, false), (6, false), (7, false), (8, false), (9, false), (10, false)] kk ?_
       refine Fv (.bool (VerifyChecksum_v1 (AppendChecksum_v0 dx))) ?_
       refine Fv (.bool (VerifyChecksum_v1 (AppendChecksum_v0 dx))) ?_
       have q236 : (VerifyChecksum_v1 (AppendChecksum_v0 dx)) = true := (ver_app q149).1
       rw [q236]
       refine Fv (.string (VerifyChecksum_v0 (AppendChecksum_v0 dx))) ?_
       refine Fv (.string dx) ?_
       refine Fq (.bool true) (r_eqlS (s := (VerifyChecksum_v0 (AppendChecksum_v0 dx))) (r := dx) rfl ek ek (decide_eq_true (ver_app q149).2)) ?_
       refine Fq (.bool true) (r_pick (b := true) rfl ek ek) ?_
       refine Fv (.bool true) ?_
       refine Fv (.bool (VerifyChecksum_v1 (⟨(((AppendChecksum_v0 dx)).data.toList.set (0 + k9) b226).toArray⟩ : ByteArray))) ?_
       have q237 : (VerifyChecksum_v1 (⟨(((AppendChecksum_v0 dx)).data.toList.set (0 + k9) b226).toArray⟩ : ByteArray)) = false := hbad
       rw [q237]
       refine Fq (.bool true) (r_not (b := false) rfl ek rfl) ?_
       refine Fq (.bool true) (r_pick (b := true) rfl ek ek) ?_
       refine Fa (.bool true) ?_
       refine F.es ?_
       refine h39 _ _ ?_
       as_aux_lemma =>
        refine wp_ret ?_
        try simp only [Exit.then]
        refine ret1 (v := .bool true) rfl kk ?_
        exact ⟨rfl, c235⟩
     rw [q149]
     refine Fq (.bool true) (r_not (b := false) rfl ek rfl) ?_
     refine F.es ?_
     refine h31 _ _ ?_
     refine wp_cond_true ek ?_
     refine wk fun K40 h40 => ?_
     refine W.region_quiet [(0, false), (1, false), (2, false)] kk ?_
     refine Fv (.string (AppendChecksum_v0 dx)) ?_
     refine Fq (.bool true) (r_eqlS (s := (AppendChecksum_v0 dx)) (r := (⟨#[]⟩ : ByteArray)) rfl ek ek (decide_eq_true (app_v0_no q149))) ?_
     refine Fa (.bool true) ?_
     refine F.es ?_
     refine h40 _ _ ?_
     refine wp_ret ?_
     try simp only [Exit.then]
     refine ret1 (v := .bool true) rfl kk ?_
     exact ⟨rfl, c57⟩

theorem byte_of {n : Int} (h : (Lit.int .u8 n).wf = true) : 0 ≤ n ∧ n < 256 := by
  have h2 : (decide ((0 : Int) ≤ n) && decide (n ≤ 255)) = true := h
  simp only [Bool.and_eq_true, decide_eq_true_eq] at h2
  omega
theorem w_FnStrings (x0 : Option Addr) (n0 p0 : Nat) (a0 : List Int) (w : World) (H0 : a0.length = n0 ∧ Rd w 1 x0 n0 (a0.map (Value.int .u8)) ∧ n0 ≤ maxLen ∧ ∀ n ∈ a0, (Lit.int .u8 n).wf = true) (htab : Lib.TabIs Tryd.prog w "internal/strconv.uint64pow10" .u64 Lib.pow10Tab) (hmax : MaxIs w) (hev : EvIs w) :
    Calls Tryd.prog 5 #[.slice x0 n0 p0] w fun e w' => e = .returned (.bool true) ∧ Below w.heap.size w w' :=
  wi_FnStrings x0 n0 p0 a0 w H0.2.1 (fun z hz => byte_of (H0.2.2.2 z hz)) (by have := H0.2.2.1; unfold maxLen at this; omega) htab hmax hev

end Go.Proofs.YtdlcldaogcbnlaaDoor
