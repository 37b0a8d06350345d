/- What the texts behind it build on; conditions: none. -/
import Derived.Test.YtdlcldaogcbnlaaDoorPk5
import Derived.Lib.SplitLaws
namespace Go.Proofs.YtdlcldaogcbnlaaDoor
open Go.RowKit
set_option linter.unusedVariables false
set_option linter.unusedSimpArgs false
def runTo (s : ByteArray) : Nat → Nat → Nat → Nat × Nat
  | 0, i, n => (n, i)
  | k + 1, i, n => if i < s.size ∧ 48 ≤ bAt s i ∧ bAt s i ≤ 57 then runTo s k (i + 1) (10 * n + (bAt s i - 48)) else (n, i)
def numsTo (s : ByteArray) : Nat → Nat → List Int
  | 0, _ => []
  | f + 1, i => if i < s.size then (if 48 ≤ bAt s i ∧ bAt s i ≤ 57 then (((runTo s 6 i 0).1 : Nat) : Int) :: numsTo s f ((runTo s 6 i 0).2 + 1) else numsTo s f (i + 1)) else []
def numsOf (s : ByteArray) (k : Nat) : List Int := (numsTo s (s.size + 1) 0).take k
theorem nums_end {s : ByteArray} {i : Nat} (h : ¬ i < s.size) : ∀ f, numsTo s f i = []
  | 0 => rfl
  | f + 1 => by unfold numsTo; rw [if_neg h]
theorem nums_skip {s : ByteArray} {i f : Nat} (h : i < s.size) (h2 : ¬ (48 ≤ bAt s i ∧ bAt s i ≤ 57)) : numsTo s (f + 1) i = numsTo s f (i + 1) := by
  rw [numsTo, if_pos h, if_neg h2]
theorem nums_run {s : ByteArray} {i f v j : Nat} (h : i < s.size) (h2 : 48 ≤ bAt s i ∧ bAt s i ≤ 57) (hr : runTo s 6 i 0 = (v, j)) : numsTo s (f + 1) i = ((v : Nat) : Int) :: numsTo s f (j + 1) := by
  rw [numsTo, if_pos h, if_pos h2, hr]
theorem run_step {s : ByteArray} {d j v : Nat} {r : Nat × Nat} (hr : runTo s (6 - d) j v = r) (hd : d < 6) (h : j < s.size) (h1 : 48 ≤ bAt s j) (h2 : bAt s j ≤ 57) : runTo s (6 - (d + 1)) (j + 1) (10 * v + (bAt s j - 48)) = r := by
  rw [show 6 - d = (6 - (d + 1)) + 1 by omega, runTo, if_pos ⟨h, h1, h2⟩] at hr
  exact hr
theorem run_end {s : ByteArray} {d j v : Nat} {r : Nat × Nat} (hr : runTo s (6 - d) j v = r) (h : ¬ (d < 6 ∧ j < s.size ∧ 48 ≤ bAt s j ∧ bAt s j ≤ 57)) : r = (v, j) := by
  cases hk : 6 - d with
  | zero => rw [hk] at hr; exact hr.symm
  | succ k =>
    rw [hk, runTo, if_neg (fun h9 => h ⟨by omega, h9⟩)] at hr
    exact hr.symm
theorem pow6 {v d : Nat} (h : v < 10 ^ d) (hd : d ≤ 6) : v < 1000000 := Nat.lt_of_lt_of_le h (Nat.pow_le_pow_right (by omega) hd)
theorem pow_step {v d c : Nat} (h : v < 10 ^ d) (hc : c ≤ 9) : 10 * v + c < 10 ^ (d + 1) := by rw [Nat.pow_succ]; omega
theorem nums_done {s : ByteArray} {k : Nat} {zs r : List Int} (h : zs ++ r = numsTo s (s.size + 1) 0) (hl : zs.length ≤ k) (h2 : r = [] ∨ zs.length = k) : numsOf s k = zs := by
  unfold numsOf
  rw [← h]
  rcases h2 with h2 | h2
  · rw [h2, List.append_nil, List.take_of_length_le hl]
  · rw [← h2, List.take_left]
end Go.Proofs.YtdlcldaogcbnlaaDoor
namespace Go.Proofs.YtdlcldaogcbnlaaDoor
open Go.RowKit
set_option linter.unusedVariables false
def numL (D : List UInt8) (n : Nat) : Nat := D.foldl (fun n b => 10 * n + (b.toNat - 48)) n
theorem decFrom_num : ∀ (D : List UInt8) (n : Nat), (∀ b ∈ D, 48 ≤ b.toNat ∧ b.toNat ≤ 57) → Lib.decFrom n D = some (numL D n)
  | [], n, _ => rfl
  | b :: D, n, h => by
    have hb := h b (List.mem_cons_self ..)
    have hd : Lib.digitVal b = some (b.toNat - 48) := by
      have := digitVal_of (d := b.toNat - 48) (by omega)
      rw [show 48 + (b.toNat - 48) = b.toNat by omega, UInt8.ofNat_toNat] at this
      exact this
    have ih := decFrom_num D (n * 10 + (b.toNat - 48)) (fun x hx => h x (List.mem_cons_of_mem _ hx))
    have e : Lib.decFrom n (b :: D) = Lib.decFrom (n * 10 + (b.toNat - 48)) D := by
      conv => lhs; unfold Lib.decFrom
      rw [hd]
    rw [e, ih]
    unfold numL
    rw [List.foldl_cons, Nat.mul_comm n 10]
theorem bAt_drop {s : ByteArray} {i : Nat} {b : UInt8} {l : List UInt8} (h : s.data.toList.drop i = b :: l) : i < s.size ∧ bAt s i = b.toNat ∧ s.data.toList.drop (i + 1) = l := by
  have h1 : s.data.toList[i]? = some b := by
    have := congrArg (fun l => l[0]?) h
    simpa [List.getElem?_drop] using this
  have hlt := (List.getElem?_eq_some_iff.1 h1).1
  rw [Array.length_toList] at hlt
  refine ⟨hlt, by rw [bAt_list, List.getD_eq_getElem?_getD, h1]; rfl, ?_⟩
  rw [← List.drop_drop, h]; rfl
theorem run_num {s : ByteArray} : ∀ (D : List UInt8) (k n i : Nat) (t : List UInt8), s.data.toList.drop i = D ++ t → (∀ b ∈ D, 48 ≤ b.toNat ∧ b.toNat ≤ 57) → D.length ≤ k → (∀ c r, t = c :: r → ¬ (48 ≤ c.toNat ∧ c.toNat ≤ 57)) →
    runTo s k i n = (numL D n, i + D.length)
  | [], 0, n, i, t, _, _, _, _ => rfl
  | [], k + 1, n, i, t, h, _, _, ht => by
    unfold runTo
    rw [if_neg]; · rfl
    intro ⟨h1, h2⟩
    cases t with
    | nil =>
      have := congrArg List.length h
      rw [List.length_drop, Array.length_toList] at this
      simp at this
      have : s.data.size = s.size := rfl
      omega
    | cons c r =>
      have := bAt_drop (s := s) (i := i) (b := c) (l := r) h
      rw [this.2.1] at h2
      exact ht c r rfl h2
  | b :: D, 0, n, i, t, _, _, hl, _ => by simp at hl
  | b :: D, k + 1, n, i, t, h, hd, hl, ht => by
    obtain ⟨h1, h2, h3⟩ := bAt_drop (s := s) (i := i) (b := b) (l := D ++ t) h
    have hb := hd b (List.mem_cons_self ..)
    have ih := run_num D k (10 * n + (b.toNat - 48)) (i + 1) t h3 (fun x hx => hd x (List.mem_cons_of_mem _ hx)) (by simpa using hl) ht
    unfold runTo
    rw [if_pos ⟨h1, by omega, by omega⟩, h2, ih]
    unfold numL
    rw [List.foldl_cons, List.length_cons]
    congr 1; omega
def Nm (s : ByteArray) (l : List UInt8) (zs : List Int) : Prop := ∀ i f, s.data.toList.drop i = l → s.size < i + f → numsTo s f i = zs
theorem nm_nil (s : ByteArray) : Nm s [] [] := fun i f h hf => nums_end (by
  have := congrArg List.length h
  rw [List.length_drop, Array.length_toList] at this
  simp at this
  have : s.data.size = s.size := rfl
  omega) f
theorem nm_skip {s : ByteArray} {c : UInt8} {l : List UInt8} {zs : List Int} (h : ¬ (48 ≤ c.toNat ∧ c.toNat ≤ 57)) (hn : Nm s l zs) : Nm s (c :: l) zs := fun i f hi hf => by
  obtain ⟨h1, h2, h3⟩ := bAt_drop hi
  obtain ⟨g, rfl⟩ : ∃ g, f = g + 1 := ⟨f - 1, by omega⟩
  rw [nums_skip h1 (by rw [h2]; exact h)]
  exact hn (i + 1) g h3 (by omega)
theorem nm_num {s : ByteArray} {u : Nat} {t : List UInt8} {zs : List Int} (hu : u ≤ 999999) (ht : ∀ c r, t = c :: r → ¬ (48 ≤ c.toNat ∧ c.toNat ≤ 57)) (hn : Nm s (t.drop 1) zs) : Nm s (Lib.decDigits u ++ t) (((u : Nat) : Int) :: zs) := fun i f hi hf => by
  have hd := fun b hb => digits_in u b hb
  have hlen := digits_len6 hu
  have hpos := digits_len_pos u
  have hr := run_num (s := s) (Lib.decDigits u) 6 0 i t hi hd hlen ht
  have hv : numL (Lib.decDigits u) 0 = u := by
    have h1 := decFrom_num (Lib.decDigits u) 0 hd
    rw [decFrom_digits] at h1
    exact (Option.some.inj h1).symm
  rw [hv] at hr
  obtain ⟨b, D, hD⟩ : ∃ b D, Lib.decDigits u = b :: D := by
    cases hc : Lib.decDigits u with
    | nil => rw [hc] at hpos; simp at hpos
    | cons b D => exact ⟨b, D, rfl⟩
  have hi2 : s.data.toList.drop i = b :: (D ++ t) := by rw [hi, hD]; rfl
  obtain ⟨h1, h2, _⟩ := bAt_drop hi2
  have hb := hd b (by rw [hD]; exact List.mem_cons_self ..)
  obtain ⟨g, rfl⟩ : ∃ g, f = g + 1 := ⟨f - 1, by omega⟩
  rw [nums_run h1 (by omega) hr]
  congr 1
  refine hn _ g ?_ (by omega)
  rw [show i + (Lib.decDigits u).length + 1 = i + ((Lib.decDigits u).length + 1) by omega, ← List.drop_drop, hi, ← List.drop_drop, List.drop_left]
theorem nm_itoa {s : ByteArray} {n : Int} {t : List UInt8} {zs : List Int} (h0 : 0 ≤ n ∧ n ≤ 999999) (ht : ∀ c r, t = c :: r → ¬ (48 ≤ c.toNat ∧ c.toNat ≤ 57)) (hn : Nm s (t.drop 1) zs) : Nm s ((itoaB n).data.toList ++ t) (n :: zs) := by
  obtain ⟨k, rfl⟩ := Int.eq_ofNat_of_zero_le h0.1
  have e : (itoaB ((k : Nat) : Int)).data.toList = Lib.decDigits k := by rw [itoaB_list]; unfold Lib.itoa; rw [if_neg (by omega)]; simp
  rw [e]
  exact nm_num (by omega) ht hn
theorem nm_of {s : ByteArray} {zs : List Int} (h : Nm s s.data.toList zs) (k : Nat) : numsOf s k = zs.take k := by
  unfold numsOf; rw [h 0 (s.size + 1) (List.drop_zero ..) (by omega)]
theorem nums_head {m : Int} (h : 0 ≤ m ∧ m ≤ 999999) : numsOf (headOf m) 5 = [m] := by
  have e : (headOf m).data.toList = [110, 111, 100, 101, 115, 32] ++ ((itoaB m).data.toList ++ []) := by
    unfold headOf; rw [ByteArray.data_append, Array.toList_append, List.append_nil]
  have key : Nm (headOf m) (headOf m).data.toList [m] := by
    conv => arg 2; rw [e]
    refine nm_skip (by decide) (nm_skip (by decide) (nm_skip (by decide) (nm_skip (by decide) (nm_skip (by decide) (nm_skip (by decide) ?_)))))
    exact nm_itoa h (fun c r h9 => by cases h9) (nm_nil _)
  rw [nm_of key]; rfl
theorem nums_line {q : Pp} (h : okP q) : numsOf (lineOf q) 5 = [q.id, q.fr, q.to, q.sz] := by
  have e : (lineOf q).data.toList = (itoaB q.id).data.toList ++ (58 :: 32 :: ((itoaB q.fr).data.toList ++ (45 :: ((itoaB q.to).data.toList ++ (32 :: 115 :: 105 :: 122 :: 101 :: 32 :: ((itoaB q.sz).data.toList ++ [])))))) := by
    unfold lineOf
    simp only [ByteArray.data_append, Array.toList_append, List.append_assoc, List.append_nil]
    rfl
  have key : Nm (lineOf q) (lineOf q).data.toList [q.id, q.fr, q.to, q.sz] := by
    conv => arg 2; rw [e]
    refine nm_itoa h.1 (fun c r h9 => by cases h9; decide) (nm_skip (by decide) ?_)
    refine nm_itoa h.2.1 (fun c r h9 => by cases h9; decide) ?_
    refine nm_itoa h.2.2.1 (fun c r h9 => by cases h9; decide) ?_
    refine nm_skip (by decide) (nm_skip (by decide) (nm_skip (by decide) (nm_skip (by decide) (nm_skip (by decide) ?_))))
    exact nm_itoa h.2.2.2 (fun c r h9 => by cases h9) (nm_nil _)
  rw [nm_of key]; rfl
end Go.Proofs.YtdlcldaogcbnlaaDoor
namespace Go.Proofs.YtdlcldaogcbnlaaDoor
open Go.RowKit
set_option linter.unusedVariables false
set_option linter.unusedSimpArgs false
set_option maxRecDepth 100000 in
set_option maxHeartbeats 600000 in
theorem numbersOf_any (s : ByteArray) (mo : Nat) (w : World) (hs : s.size ≤ 1048576) (hmo : mo ≤ 1000) :
    Calls Tryd.prog 39 #[.string s, .int .i64 ((mo : Nat) : Int)] w fun e w' => ∃ A' n' c', e = .returned (.slice A' n' c') ∧ w'.ownsRow w.heap.size 3 1 (.slice A' n' c') n' (intsV (numsOf s mo)) ∧ n' = (numsOf s mo).length ∧ Below w.heap.size w w' := by
 go_enter Tryd.func39, Tryd.ntmps39
 refine F.begin 69 [(0, .string s), (1, .int .i64 (mo : Int))] (fun U0 => ?_)
 refine wk fun K1 h1 => ?_
 refine Rq 1 ?_
 refine Fa (.slice none 0 0) ?_
 apply F.es
 apply h1
 refine wk fun K2 h2 => ?_
 refine W.region_plain (row := none) [(0, true), (1, false)] kk ?_
 have s1 := SG.self w none
 refine W.sn (fun b => .slice (some ⟨b, 0, none⟩) 0 0) #[] 3 s1 rfl kk rfl (fun _ => by kernel_rfl) (fun b2 w3 hb4 k5 x6 s7 => ?_)
 apply F.nx
 have lo8 : w.heap.size ≤ b2 := Nl ((Sb (Below.refl _ _) s1 nkk)).size (Nat.le_of_eq hb4)
 refine Fa (.slice (some ⟨b2, 0, none⟩) 0 0) ?_
 apply F.es
 have c9 := (Sb (Below.refl _ _) s7 nkk)
 apply h2
 refine wk fun K3 h3 => ?_
 refine wk fun K4 h4 => ?_
 refine Rq 1 ?_
 refine Fa (.int .i64 0) ?_
 apply F.es
 apply h4
 refine wp_block ?_
 have ho10 := own_empty (base := w.heap.size) (size := 1) x6 lo8
 replace ho10 : World.ownsRow _ _ _ _ _ _ (intsV []) := ho10
 refine loopK (fun am0 aa0 wl0 => ∃ (i : Nat) (f : Nat) (zs : List Int) (A0_5 : Option Addr) (n0_5 : Nat) (c0_5 : Nat) , Kn aa0 [(0, .string s), (1, .int .i64 (mo : Int)), (4, .slice none 0 0), (5, .slice A0_5 n0_5 c0_5), (6, .int .i64 (i : Int))] 69 ∧ (am0 = s.size + 1 - i) ∧ (i ≤ s.size + 1) ∧ (s.size < i + f) ∧ (zs ++ numsTo s f i = numsTo s (s.size + 1) 0) ∧ (zs.length ≤ mo) ∧ (wl0.ownsRow w.heap.size 3 1 (.slice A0_5 n0_5 c0_5) n0_5 (intsV zs)) ∧ (Below w.heap.size w wl0)) (s.size + 1 - 0) ?_ ?_
 ·exact ⟨0, (s.size + 1), [], (some ⟨b2, 0, none⟩), 0, 0, Kn.of, rfl, (Nat.zero_le _), (by omega), rfl, (Nat.zero_le _), ho10, c9⟩
 rintro am0 aa0 wl0 K5 h5 ⟨i, f, zs, A0_5, n0_5, c0_5, ⟨U0, rfl⟩, rfl, hi, hf, hacc, hzl, ho0_5, c11⟩
 have hl9 := rd_ints_len (own_rd ho0_5)
 refine wk fun K6 h6 => ?_
 refine wk fun K7 h7 => ?_
 refine Rq 10 ?_
 refine Fv (.int .i64 (i : Int)) ?_
 refine Fv (.string s) ?_
 refine Fq (.int .i64 ((s.size : Nat) : Int)) (r_lenS (s := s) rfl ek kk) ?_
 by_cases q12 : ((i : Int) : Int) < (((s.size : Nat) : Int) : Int)
 ·refine Fq (.bool true) (r_lss (m := (i : Int)) (n := ((s.size : Nat) : Int)) rfl ek ek (dt q12)) ?_
  refine Fv (.bool true) ?_
  refine Fv (.slice A0_5 n0_5 c0_5) ?_
  refine Fq (.int .i64 (n0_5 : Int)) (r_len (A := A0_5) (n := n0_5) (c := c0_5) rfl ek kk) ?_
  refine Fv (.int .i64 (mo : Int)) ?_
  by_cases q13 : ((n0_5 : Int) : Int) < ((mo : Int) : Int)
  ·refine Fq (.bool true) (r_lss (m := (n0_5 : Int)) (n := (mo : Int)) rfl ek ek (dt q13)) ?_
   refine Fq (.bool true) (r_pick (b := true) rfl ek ek) ?_
   apply F.es
   apply h7
   refine wp_cond_true ek ?_
   apply wp_skip
   apply h6
   refine wk fun K8 h8 => ?_
   refine wp_block ?_
   refine wk fun K9 h9 => ?_
   refine wk fun K10 h10 => ?_
   refine Rq 10 ?_
   refine Fv (.string s) ?_
   refine Fv (.int .i64 (i : Int)) ?_
   refine Fq (.int .u8 ((bAt s i : Nat) : Int)) (r_indexS (s := s) (k := i) rfl ek ek kk (by omega)) ?_
   by_cases q14 : (((bAt s i : Nat) : Int) : Int) < (48 : Int)
   ·refine Fq (.bool true) (r_lssK (k := .u8) (m := ((bAt s i : Nat) : Int)) (n := 48) rfl ek ek (dt q14)) ?_
    refine Fv (.bool true) ?_
    refine Fs rfl ?_
    refine Fs rfl ?_
    refine Fs rfl ?_
    refine Fs rfl ?_
    refine Fq (.bool true) (r_pick (b := true) rfl ek ek) ?_
    apply F.es
    apply h10
    as_aux_lemma =>
     refine wp_cond_true ek ?_
     refine wp_exit ?_
     apply h8
     refine Rq 3 ?_
     refine Fv (.int .i64 (i : Int)) ?_
     refine Fq (.int .i64 ((i + 1 : Nat) : Int)) (r_add (m := (i : Int)) (n := 1) (z := ((i + 1 : Nat) : Int)) rfl ek ek (by omega) (by omega)) ?_
     refine Fa (.int .i64 ((i + 1 : Nat) : Int)) ?_
     apply F.es
     obtain ⟨f9, rfl⟩ : ∃ f9, f = f9 + 1 := ⟨f - 1, by omega⟩
     exact h5 _ _ _ (by omega : (s.size + 1 - (i + 1)) < _) ⟨i + 1, f9, zs, A0_5, n0_5, c0_5, Kn.of, rfl, (by omega), (by omega), (by rw [← hacc, nums_skip (by omega) (by omega)]), (by omega), ho0_5, c11⟩
   refine Fq (.bool false) (r_lssK (k := .u8) (m := ((bAt s i : Nat) : Int)) (n := 48) rfl ek ek (df q14)) ?_
   refine Fv (.bool false) ?_
   refine Fv (.string s) ?_
   refine Fv (.int .i64 (i : Int)) ?_
   refine Fq (.int .u8 ((bAt s i : Nat) : Int)) (r_indexS (s := s) (k := i) rfl ek ek kk (by omega)) ?_
   by_cases q15 : (((bAt s i : Nat) : Int) : Int) > (57 : Int)
   ·refine Fq (.bool true) (r_gtrK (k := .u8) (m := ((bAt s i : Nat) : Int)) (n := 57) rfl ek ek (dt q15)) ?_
    refine Fq (.bool true) (r_pick (b := false) rfl ek ek) ?_
    apply F.es
    apply h10
    refine wp_cond_true ek ?_
    refine wp_exit ?_
    apply h8
    refine Rq 3 ?_
    refine Fv (.int .i64 (i : Int)) ?_
    refine Fq (.int .i64 ((i + 1 : Nat) : Int)) (r_add (m := (i : Int)) (n := 1) (z := ((i + 1 : Nat) : Int)) rfl ek ek (by omega) (by omega)) ?_
    refine Fa (.int .i64 ((i + 1 : Nat) : Int)) ?_
    apply F.es
    obtain ⟨f9, rfl⟩ : ∃ f9, f = f9 + 1 := ⟨f - 1, by omega⟩
    exact h5 _ _ _ (by omega : (s.size + 1 - (i + 1)) < _) ⟨i + 1, f9, zs, A0_5, n0_5, c0_5, Kn.of, rfl, (by omega), (by omega), (by rw [← hacc, nums_skip (by omega) (by omega)]), (by omega), ho0_5, c11⟩
   refine Fq (.bool false) (r_gtrK (k := .u8) (m := ((bAt s i : Nat) : Int)) (n := 57) rfl ek ek (df q15)) ?_
   refine Fq (.bool false) (r_pick (b := false) rfl ek ek) ?_
   apply F.es
   apply h10
   refine wp_cond_false ek ?_
   apply wp_skip
   apply h9
   refine wk fun K11 h11 => ?_
   refine Rq 2 ?_
   refine Fa (.int .i64 0) ?_
   refine Fa (.int .i64 0) ?_
   apply F.es
   apply h11
   refine wk fun K12 h12 => ?_
   refine wp_block ?_
   refine loopK (fun am1 aa1 wl1 => ∃ (j : Nat) (v : Nat) (d : Nat) , Kn aa1 [(0, .string s), (1, .int .i64 (mo : Int)), (4, .slice none 0 0), (5, .slice A0_5 n0_5 c0_5), (6, .int .i64 (j : Int)), (7, .int .i64 (v : Int)), (8, .int .i64 (d : Int)), (19, .bool true), (31, .bool false)] 69 ∧ (am1 = s.size - j) ∧ (i ≤ j ∧ j ≤ s.size) ∧ (d ≤ 6 ∧ i + d = j) ∧ (runTo s (6 - d) j v = runTo s 6 i 0) ∧ (v < 10 ^ d) ∧ (wl1.ownsRow w.heap.size 3 1 (.slice A0_5 n0_5 c0_5) n0_5 (intsV zs)) ∧ (Below w.heap.size w wl1)) (s.size - i) ?_ ?_
   ·exact ⟨i, 0, 0, Kn.of, rfl, (⟨by omega, by omega⟩), (⟨by omega, by omega⟩), rfl, (by decide), ho0_5, c11⟩
   rintro am1 aa1 wl1 K13 h13 ⟨j, v, d, ⟨U1, rfl⟩, rfl, hj, hd, hrun, hv, ho1_5, c16⟩
   refine wk fun K14 h14 => ?_
   refine wk fun K15 h15 => ?_
   refine Rq 20 ?_
   refine Fv (.int .i64 (j : Int)) ?_
   refine Fv (.string s) ?_
   refine Fq (.int .i64 ((s.size : Nat) : Int)) (r_lenS (s := s) rfl ek kk) ?_
   by_cases q17 : ((j : Int) : Int) < (((s.size : Nat) : Int) : Int)
   ·refine Fq (.bool true) (r_lss (m := (j : Int)) (n := ((s.size : Nat) : Int)) rfl ek ek (dt q17)) ?_
    refine Fv (.bool true) ?_
    refine Fv (.string s) ?_
    refine Fv (.int .i64 (j : Int)) ?_
    refine Fq (.int .u8 ((bAt s j : Nat) : Int)) (r_indexS (s := s) (k := j) rfl ek ek kk (by omega)) ?_
    by_cases q18 : (((bAt s j : Nat) : Int) : Int) ≥ (48 : Int)
    ·refine Fq (.bool true) (r_geqK (k := .u8) (m := ((bAt s j : Nat) : Int)) (n := 48) rfl ek ek (dt q18)) ?_
     refine Fq (.bool true) (r_pick (b := true) rfl ek ek) ?_
     refine Fv (.bool true) ?_
     refine Fv (.string s) ?_
     refine Fv (.int .i64 (j : Int)) ?_
     refine Fq (.int .u8 ((bAt s j : Nat) : Int)) (r_indexS (s := s) (k := j) rfl ek ek kk (by omega)) ?_
     by_cases q19 : (((bAt s j : Nat) : Int) : Int) ≤ (57 : Int)
     ·refine Fq (.bool true) (r_leqK (k := .u8) (m := ((bAt s j : Nat) : Int)) (n := 57) rfl ek ek (dt q19)) ?_
      refine Fq (.bool true) (r_pick (b := true) rfl ek ek) ?_
      refine Fv (.bool true) ?_
      refine Fv (.int .i64 (d : Int)) ?_
      by_cases q20 : ((d : Int) : Int) < (6 : Int)
      ·refine Fq (.bool true) (r_lss (m := (d : Int)) (n := 6) rfl ek ek (dt q20)) ?_
       refine Fq (.bool true) (r_pick (b := true) rfl ek ek) ?_
       apply F.es
       apply h15
       as_aux_lemma =>
        refine wp_cond_true ek ?_
        apply wp_skip
        apply h14
        refine wk fun K16 h16 => ?_
        refine wp_block ?_
        refine wk fun K17 h17 => ?_
        refine Rq 9 ?_
        refine Fv (.int .i64 (v : Int)) ?_
        have hv6 := pow6 hv hd.1
        refine Fq (.int .i64 ((10 * v : Nat) : Int)) (r_mulK (k := .i64) (m := 10) (n := (v : Int)) (z := ((10 * v : Nat) : Int)) rfl ek ek (by rw [show (10 : Int) * (v : Int) = ((10 * v : Nat) : Int) by omega]; exact wrap_i64 (by omega) (by omega))) ?_
        refine Fv (.string s) ?_
        refine Fv (.int .i64 (j : Int)) ?_
        refine Fq (.int .u8 ((bAt s j : Nat) : Int)) (r_indexS (s := s) (k := j) rfl ek ek kk (by omega)) ?_
        refine Fq (.int .u8 (((bAt s j - 48) : Nat) : Int)) (r_subK (k := .u8) (m := ((bAt s j : Nat) : Int)) (n := 48) (z := (((bAt s j - 48) : Nat) : Int)) rfl ek ek (by rw [show (((bAt s j : Nat) : Int) - 48) = (((bAt s j - 48 : Nat)) : Int) by omega]; exact IntWalk.u8_in _ (by have := bAt_lt s j; omega))) ?_
        refine Fq (.int .i64 (((bAt s j - 48) : Nat) : Int)) (r_conv (k := .u8) (k' := .i64) (n := (((bAt s j - 48) : Nat) : Int)) (m := (((bAt s j - 48) : Nat) : Int)) rfl ek kk kk (wrap_i64 (by omega) (by omega))) ?_
        refine Fq (.int .i64 ((10 * v + (bAt s j - 48) : Nat) : Int)) (r_add (m := ((10 * v : Nat) : Int)) (n := (((bAt s j - 48) : Nat) : Int)) (z := ((10 * v + (bAt s j - 48) : Nat) : Int)) rfl ek ek (by omega) (by omega)) ?_
        refine Fa (.int .i64 ((10 * v + (bAt s j - 48) : Nat) : Int)) ?_
        apply F.es
        apply h17
        refine Rq 3 ?_
        refine Fv (.int .i64 (d : Int)) ?_
        refine Fq (.int .i64 ((d + 1 : Nat) : Int)) (r_add (m := (d : Int)) (n := 1) (z := ((d + 1 : Nat) : Int)) rfl ek ek (by omega) (by omega)) ?_
        refine Fa (.int .i64 ((d + 1 : Nat) : Int)) ?_
        apply F.es
        apply h16
        refine Rq 3 ?_
        refine Fv (.int .i64 (j : Int)) ?_
        refine Fq (.int .i64 ((j + 1 : Nat) : Int)) (r_add (m := (j : Int)) (n := 1) (z := ((j + 1 : Nat) : Int)) rfl ek ek (by omega) (by omega)) ?_
        refine Fa (.int .i64 ((j + 1 : Nat) : Int)) ?_
        apply F.es
        exact h13 _ _ _ (by omega : (s.size - (j + 1)) < _) ⟨j + 1, 10 * v + (bAt s j - 48), d + 1, Kn.of, rfl, (⟨by omega, by omega⟩), (⟨by omega, by omega⟩), (run_step hrun (by omega) (by omega) (by omega) (by omega)), (pow_step hv (by omega)), ho1_5, c16⟩
      refine Fq (.bool false) (r_lss (m := (d : Int)) (n := 6) rfl ek ek (df q20)) ?_
      refine Fq (.bool false) (r_pick (b := true) rfl ek ek) ?_
      apply F.es
      apply h15
      refine wp_cond_false ek ?_
      refine wp_exit ?_
      apply h12
      refine W.region_plain (row := (Value.ownBlock (.slice A0_5 n0_5 c0_5))) [(0, false), (1, false), (2, true), (3, true), (4, false)] kk ?_
      have s21 := SG.self wl1 (Value.ownBlock (.slice A0_5 n0_5 c0_5))
      refine Fv (.slice A0_5 n0_5 c0_5) ?_
      refine Fv (.int .i64 (v : Int)) ?_
      refine W.sn (fun b => .slice (some ⟨b, 0, none⟩) 1 1) #[.int .i64 (v : Int)] 3 s21 rfl kk rfl (fun _ => by kernel_rfl) (fun b22 w23 hb24 k25 x26 s27 => ?_)
      apply F.nx
      have lo28 : w.heap.size ≤ b22 := Nl ((Sb c16 s21 (fun kq e => (World.ownsRow.lt ho1_5 kq e).1))).size (Nat.le_of_eq hb24)
      have ho30 := own_kept ho1_5 k25
      refine W.sap (e := 3) (size := 1) (base := w.heap.size) (m := 1) (v := .slice A0_5 n0_5 c0_5) (c := 1) s27 rfl rfl rfl rfl kk kk kk ho30 x26 kk kk (by omega) (by omega) (by have := ((Sb c16 s27 (fun kq e => (World.ownsRow.lt ho1_5 kq e).1))).size; omega) (.inl rfl) (fun g31 cap32 w33 ho34 hg35 hat36 hlt37 s38 => ?_)
      apply F.nx
      have ho34 := own_snoc ho34
      refine Fa (.slice (some ⟨g31, 0, none⟩) (n0_5 + 1) cap32) ?_
      apply F.es
      have c40 := (Sb c16 s38 (fun kq e => (World.ownsRow.lt ho1_5 kq e).1))
      apply h8
      refine Rq 3 ?_
      refine Fv (.int .i64 (j : Int)) ?_
      refine Fq (.int .i64 ((j + 1 : Nat) : Int)) (r_add (m := (j : Int)) (n := 1) (z := ((j + 1 : Nat) : Int)) rfl ek ek (by omega) (by omega)) ?_
      refine Fa (.int .i64 ((j + 1 : Nat) : Int)) ?_
      apply F.es
      obtain ⟨f9, rfl⟩ : ∃ f9, f = f9 + 1 := ⟨f - 1, by omega⟩
      have hrr : runTo s 6 i 0 = (v, j) := run_end hrun (by omega)
      exact h5 _ _ _ (by omega : (s.size + 1 - (j + 1)) < _) ⟨j + 1, f9, (zs ++ [(v : Int)]), (some ⟨g31, 0, none⟩), (n0_5 + 1), cap32, Kn.of, rfl, (by omega), (by omega), (by rw [List.append_assoc, ← hacc, nums_run (v := v) (j := j) (by omega) ⟨by omega, by omega⟩ hrr]; try rfl), (by rw [List.length_append, List.length_singleton]; omega), ho34, c40⟩
     refine Fq (.bool false) (r_leqK (k := .u8) (m := ((bAt s j : Nat) : Int)) (n := 57) rfl ek ek (df q19)) ?_
     refine Fq (.bool false) (r_pick (b := true) rfl ek ek) ?_
     refine Fv (.bool false) ?_
     refine Fs rfl ?_
     refine Fs rfl ?_
     refine Fq (.bool false) (r_pick (b := false) rfl ek ek) ?_
     apply F.es
     apply h15
     as_aux_lemma =>
      refine wp_cond_false ek ?_
      refine wp_exit ?_
      apply h12
      refine W.region_plain (row := (Value.ownBlock (.slice A0_5 n0_5 c0_5))) [(0, false), (1, false), (2, true), (3, true), (4, false)] kk ?_
      have s41 := SG.self wl1 (Value.ownBlock (.slice A0_5 n0_5 c0_5))
      refine Fv (.slice A0_5 n0_5 c0_5) ?_
      refine Fv (.int .i64 (v : Int)) ?_
      refine W.sn (fun b => .slice (some ⟨b, 0, none⟩) 1 1) #[.int .i64 (v : Int)] 3 s41 rfl kk rfl (fun _ => by kernel_rfl) (fun b42 w43 hb44 k45 x46 s47 => ?_)
      apply F.nx
      have lo48 : w.heap.size ≤ b42 := Nl ((Sb c16 s41 (fun kq e => (World.ownsRow.lt ho1_5 kq e).1))).size (Nat.le_of_eq hb44)
      have ho50 := own_kept ho1_5 k45
      refine W.sap (e := 3) (size := 1) (base := w.heap.size) (m := 1) (v := .slice A0_5 n0_5 c0_5) (c := 1) s47 rfl rfl rfl rfl kk kk kk ho50 x46 kk kk (by omega) (by omega) (by have := ((Sb c16 s47 (fun kq e => (World.ownsRow.lt ho1_5 kq e).1))).size; omega) (.inl rfl) (fun g51 cap52 w53 ho54 hg55 hat56 hlt57 s58 => ?_)
      apply F.nx
      have ho54 := own_snoc ho54
      refine Fa (.slice (some ⟨g51, 0, none⟩) (n0_5 + 1) cap52) ?_
      apply F.es
      have c60 := (Sb c16 s58 (fun kq e => (World.ownsRow.lt ho1_5 kq e).1))
      apply h8
      refine Rq 3 ?_
      refine Fv (.int .i64 (j : Int)) ?_
      refine Fq (.int .i64 ((j + 1 : Nat) : Int)) (r_add (m := (j : Int)) (n := 1) (z := ((j + 1 : Nat) : Int)) rfl ek ek (by omega) (by omega)) ?_
      refine Fa (.int .i64 ((j + 1 : Nat) : Int)) ?_
      apply F.es
      obtain ⟨f9, rfl⟩ : ∃ f9, f = f9 + 1 := ⟨f - 1, by omega⟩
      have hrr : runTo s 6 i 0 = (v, j) := run_end hrun (by omega)
      exact h5 _ _ _ (by omega : (s.size + 1 - (j + 1)) < _) ⟨j + 1, f9, (zs ++ [(v : Int)]), (some ⟨g51, 0, none⟩), (n0_5 + 1), cap52, Kn.of, rfl, (by omega), (by omega), (by rw [List.append_assoc, ← hacc, nums_run (v := v) (j := j) (by omega) ⟨by omega, by omega⟩ hrr]; try rfl), (by rw [List.length_append, List.length_singleton]; omega), ho54, c60⟩
    refine Fq (.bool false) (r_geqK (k := .u8) (m := ((bAt s j : Nat) : Int)) (n := 48) rfl ek ek (df q18)) ?_
    refine Fq (.bool false) (r_pick (b := true) rfl ek ek) ?_
    refine Fv (.bool false) ?_
    refine Fs rfl ?_
    refine Fs rfl ?_
    refine Fs rfl ?_
    refine Fs rfl ?_
    refine Fq (.bool false) (r_pick (b := false) rfl ek ek) ?_
    refine Fv (.bool false) ?_
    refine Fs rfl ?_
    refine Fs rfl ?_
    refine Fq (.bool false) (r_pick (b := false) rfl ek ek) ?_
    apply F.es
    apply h15
    refine wp_cond_false ek ?_
    refine wp_exit ?_
    apply h12
    refine W.region_plain (row := (Value.ownBlock (.slice A0_5 n0_5 c0_5))) [(0, false), (1, false), (2, true), (3, true), (4, false)] kk ?_
    have s61 := SG.self wl1 (Value.ownBlock (.slice A0_5 n0_5 c0_5))
    refine Fv (.slice A0_5 n0_5 c0_5) ?_
    refine Fv (.int .i64 (v : Int)) ?_
    refine W.sn (fun b => .slice (some ⟨b, 0, none⟩) 1 1) #[.int .i64 (v : Int)] 3 s61 rfl kk rfl (fun _ => by kernel_rfl) (fun b62 w63 hb64 k65 x66 s67 => ?_)
    apply F.nx
    have lo68 : w.heap.size ≤ b62 := Nl ((Sb c16 s61 (fun kq e => (World.ownsRow.lt ho1_5 kq e).1))).size (Nat.le_of_eq hb64)
    have ho70 := own_kept ho1_5 k65
    refine W.sap (e := 3) (size := 1) (base := w.heap.size) (m := 1) (v := .slice A0_5 n0_5 c0_5) (c := 1) s67 rfl rfl rfl rfl kk kk kk ho70 x66 kk kk (by omega) (by omega) (by have := ((Sb c16 s67 (fun kq e => (World.ownsRow.lt ho1_5 kq e).1))).size; omega) (.inl rfl) (fun g71 cap72 w73 ho74 hg75 hat76 hlt77 s78 => ?_)
    apply F.nx
    have ho74 := own_snoc ho74
    refine Fa (.slice (some ⟨g71, 0, none⟩) (n0_5 + 1) cap72) ?_
    apply F.es
    have c80 := (Sb c16 s78 (fun kq e => (World.ownsRow.lt ho1_5 kq e).1))
    apply h8
    as_aux_lemma =>
     refine Rq 3 ?_
     refine Fv (.int .i64 (j : Int)) ?_
     refine Fq (.int .i64 ((j + 1 : Nat) : Int)) (r_add (m := (j : Int)) (n := 1) (z := ((j + 1 : Nat) : Int)) rfl ek ek (by omega) (by omega)) ?_
     refine Fa (.int .i64 ((j + 1 : Nat) : Int)) ?_
     apply F.es
     obtain ⟨f9, rfl⟩ : ∃ f9, f = f9 + 1 := ⟨f - 1, by omega⟩
     have hrr : runTo s 6 i 0 = (v, j) := run_end hrun (by omega)
     exact h5 _ _ _ (by omega : (s.size + 1 - (j + 1)) < _) ⟨j + 1, f9, (zs ++ [(v : Int)]), (some ⟨g71, 0, none⟩), (n0_5 + 1), cap72, Kn.of, rfl, (by omega), (by omega), (by rw [List.append_assoc, ← hacc, nums_run (v := v) (j := j) (by omega) ⟨by omega, by omega⟩ hrr]; try rfl), (by rw [List.length_append, List.length_singleton]; omega), ho74, c80⟩
   refine Fq (.bool false) (r_lss (m := (j : Int)) (n := ((s.size : Nat) : Int)) rfl ek ek (df q17)) ?_
   refine Fv (.bool false) ?_
   refine Fs rfl ?_
   refine Fs rfl ?_
   refine Fs rfl ?_
   refine Fs rfl ?_
   refine Fq (.bool false) (r_pick (b := false) rfl ek ek) ?_
   refine Fv (.bool false) ?_
   refine Fs rfl ?_
   refine Fs rfl ?_
   refine Fs rfl ?_
   refine Fs rfl ?_
   refine Fq (.bool false) (r_pick (b := false) rfl ek ek) ?_
   refine Fv (.bool false) ?_
   refine Fs rfl ?_
   refine Fs rfl ?_
   refine Fq (.bool false) (r_pick (b := false) rfl ek ek) ?_
   apply F.es
   apply h15
   refine wp_cond_false ek ?_
   refine wp_exit ?_
   apply h12
   refine W.region_plain (row := (Value.ownBlock (.slice A0_5 n0_5 c0_5))) [(0, false), (1, false), (2, true), (3, true), (4, false)] kk ?_
   have s81 := SG.self wl1 (Value.ownBlock (.slice A0_5 n0_5 c0_5))
   refine Fv (.slice A0_5 n0_5 c0_5) ?_
   refine Fv (.int .i64 (v : Int)) ?_
   refine W.sn (fun b => .slice (some ⟨b, 0, none⟩) 1 1) #[.int .i64 (v : Int)] 3 s81 rfl kk rfl (fun _ => by kernel_rfl) (fun b82 w83 hb84 k85 x86 s87 => ?_)
   apply F.nx
   have lo88 : w.heap.size ≤ b82 := Nl ((Sb c16 s81 (fun kq e => (World.ownsRow.lt ho1_5 kq e).1))).size (Nat.le_of_eq hb84)
   have ho90 := own_kept ho1_5 k85
   refine W.sap (e := 3) (size := 1) (base := w.heap.size) (m := 1) (v := .slice A0_5 n0_5 c0_5) (c := 1) s87 rfl rfl rfl rfl kk kk kk ho90 x86 kk kk (by omega) (by omega) (by have := ((Sb c16 s87 (fun kq e => (World.ownsRow.lt ho1_5 kq e).1))).size; omega) (.inl rfl) (fun g91 cap92 w93 ho94 hg95 hat96 hlt97 s98 => ?_)
   apply F.nx
   have ho94 := own_snoc ho94
   refine Fa (.slice (some ⟨g91, 0, none⟩) (n0_5 + 1) cap92) ?_
   apply F.es
   have c100 := (Sb c16 s98 (fun kq e => (World.ownsRow.lt ho1_5 kq e).1))
   apply h8
   refine Rq 3 ?_
   refine Fv (.int .i64 (j : Int)) ?_
   refine Fq (.int .i64 ((j + 1 : Nat) : Int)) (r_add (m := (j : Int)) (n := 1) (z := ((j + 1 : Nat) : Int)) rfl ek ek (by omega) (by omega)) ?_
   refine Fa (.int .i64 ((j + 1 : Nat) : Int)) ?_
   apply F.es
   obtain ⟨f9, rfl⟩ : ∃ f9, f = f9 + 1 := ⟨f - 1, by omega⟩
   have hrr : runTo s 6 i 0 = (v, j) := run_end hrun (by omega)
   exact h5 _ _ _ (by omega : (s.size + 1 - (j + 1)) < _) ⟨j + 1, f9, (zs ++ [(v : Int)]), (some ⟨g91, 0, none⟩), (n0_5 + 1), cap92, Kn.of, rfl, (by omega), (by omega), (by rw [List.append_assoc, ← hacc, nums_run (v := v) (j := j) (by omega) ⟨by omega, by omega⟩ hrr]; try rfl), (by rw [List.length_append, List.length_singleton]; omega), ho94, c100⟩
  refine Fq (.bool false) (r_lss (m := (n0_5 : Int)) (n := (mo : Int)) rfl ek ek (df q13)) ?_
  refine Fq (.bool false) (r_pick (b := true) rfl ek ek) ?_
  apply F.es
  apply h7
  refine wp_cond_false ek ?_
  refine wp_exit ?_
  apply h3
  as_aux_lemma =>
   refine wk fun K18 h18 => ?_
   refine Rq 2 ?_
   refine Fv (.slice A0_5 n0_5 c0_5) ?_
   refine Fa (.slice A0_5 n0_5 c0_5) ?_
   apply F.es
   apply h18
   refine wp_ret ?_
   try simp only [Exit.then]
   refine ret1 (v := .slice A0_5 n0_5 c0_5) rfl kk ?_
   have hdn : numsOf s mo = zs := nums_done hacc hzl (by by_cases h9 : i < s.size; exact .inr (by omega); exact .inl (nums_end h9 _))
   rw [hdn]
   exact ⟨_, _, _, rfl, ho0_5, by omega, c11⟩
 refine Fq (.bool false) (r_lss (m := (i : Int)) (n := ((s.size : Nat) : Int)) rfl ek ek (df q12)) ?_
 refine Fv (.bool false) ?_
 refine Fs rfl ?_
 refine Fs rfl ?_
 refine Fs rfl ?_
 refine Fs rfl ?_
 refine Fq (.bool false) (r_pick (b := false) rfl ek ek) ?_
 apply F.es
 apply h7
 refine wp_cond_false ek ?_
 refine wp_exit ?_
 apply h3
 refine wk fun K19 h19 => ?_
 refine Rq 2 ?_
 refine Fv (.slice A0_5 n0_5 c0_5) ?_
 refine Fa (.slice A0_5 n0_5 c0_5) ?_
 apply F.es
 apply h19
 refine wp_ret ?_
 try simp only [Exit.then]
 refine ret1 (v := .slice A0_5 n0_5 c0_5) rfl kk ?_
 have hdn : numsOf s mo = zs := nums_done hacc hzl (by by_cases h9 : i < s.size; exact .inr (by omega); exact .inl (nums_end h9 _))
 rw [hdn]
 exact ⟨_, _, _, rfl, ho0_5, by omega, c11⟩
end Go.Proofs.YtdlcldaogcbnlaaDoor
namespace Go.Proofs.YtdlcldaogcbnlaaDoor
open Go.RowKit
set_option linter.unusedVariables false
set_option linter.unusedSimpArgs false
def OraI (s : ByteArray) (i : Nat) (nd : Int) (pl : List Pp) : Prop := ∀ m ps, goodN m ps = true → textN m ps = s → (0 < i → nd = m) ∧ pl = ps.take (i - 1)
theorem oi_at {s x : ByteArray} {i : Nat} {m : Int} {ps : List Pp} (hx : (splitL s 10)[i + 1]? = some x) (hl : i + 2 < (splitL s 10).length) (hg : goodN m ps = true) (e : textN m ps = s) : ∃ h : i < ps.length, numsOf x 5 = [ps[i].id, ps[i].fr, ps[i].to, ps[i].sz] := by
  have hlen := ora_len e
  have hk : i < ps.length := by omega
  rw [← e, split_text, List.getElem?_cons_succ, List.getElem?_append_left (by rw [List.length_map]; omega), List.getElem?_map, List.getElem?_eq_getElem hk] at hx
  obtain rfl := Option.some.inj hx
  exact ⟨hk, nums_line (good_okP hg (List.getElem_mem hk))⟩
theorem oi_head {s x : ByteArray} {m : Int} {ps : List Pp} (hx : (splitL s 10)[0]? = some x) (hg : goodN m ps = true) (e : textN m ps = s) : numsOf x 5 = [m] := by
  rw [ora_first hx e]
  have g := good_of hg
  exact nums_head (by have := g.lo; have := g.hi; omega)
theorem oi_len {s x : ByteArray} {i : Nat} {m : Int} {ps : List Pp} (hx : (splitL s 10)[i]? = some x) (hl : i + 1 < (splitL s 10).length) (hg : goodN m ps = true) (e : textN m ps = s) : (i = 0 → (numsOf x 5).length = 1) ∧ (0 < i → (numsOf x 5).length = 4) := by
  refine ⟨fun h => ?_, fun h => ?_⟩
  · subst h; rw [oi_head hx hg e]; rfl
  · obtain ⟨k, rfl⟩ : ∃ k, i = k + 1 := ⟨i - 1, by omega⟩
    obtain ⟨_, h2⟩ := oi_at hx (by omega) hg e
    rw [h2]; rfl
theorem oi_start (s : ByteArray) : OraI s 0 0 [] := fun m ps _ _ => ⟨fun h => absurd h (by omega), by simp⟩
theorem oi_zero {s x : ByteArray} {x0 nd : Int} {pl : List Pp} {i : Nat} (h : OraI s i nd pl) (hi : i = 0) (hx : (splitL s 10)[i]? = some x) (h0 : (numsOf x 5)[0]? = some x0) : OraI s (i + 1) x0 pl := fun m ps hg e => by
  subst hi
  rw [oi_head hx hg e] at h0
  obtain rfl := Option.some.inj h0
  have := (h m ps hg e).2
  exact ⟨fun _ => rfl, by rw [this]⟩
theorem oi_next {s x : ByteArray} {x0 x1 x2 x3 nd : Int} {pl : List Pp} {i : Nat} (h : OraI s i nd pl) (hi : 0 < i) (hl : i + 1 < (splitL s 10).length) (hx : (splitL s 10)[i]? = some x) (h0 : (numsOf x 5)[0]? = some x0) (h1 : (numsOf x 5)[1]? = some x1) (h2 : (numsOf x 5)[2]? = some x2) (h3 : (numsOf x 5)[3]? = some x3) :
    OraI s (i + 1) nd (pl ++ [⟨x0, x1, x2, x3⟩]) := fun m ps hg e => by
  obtain ⟨k, rfl⟩ : ∃ k, i = k + 1 := ⟨i - 1, by omega⟩
  obtain ⟨hk, h9⟩ := oi_at hx (by omega) hg e
  obtain ⟨a, b⟩ := h m ps hg e
  rw [h9] at h0 h1 h2 h3
  obtain rfl := Option.some.inj h0
  obtain rfl := Option.some.inj h1
  obtain rfl := Option.some.inj h2
  obtain rfl := Option.some.inj h3
  refine ⟨fun _ => a (by omega), ?_⟩
  rw [b]
  show ps.take k ++ [ps[k]] = ps.take (k + 1)
  rw [List.take_add_one, List.getElem?_eq_getElem hk]; rfl
theorem oi_end {s : ByteArray} {i : Nat} {nd : Int} {pl : List Pp} (h : OraI s i nd pl) (hi : (splitL s 10).length ≤ i + 1) : ∀ m ps, goodN m ps = true → textN m ps = s → nd = m ∧ pl = ps := fun m ps hg e => by
  obtain ⟨h1, h3⟩ := h m ps hg e
  have := ora_len e
  exact ⟨h1 (by omega), by rw [h3, List.take_of_length_le (by omega)]⟩
theorem nums_le (s : ByteArray) (k : Nat) : (numsOf s k).length ≤ k := by unfold numsOf; rw [List.length_take]; omega
set_option maxRecDepth 100000 in
set_option maxHeartbeats 8000000 in
theorem ParseNetwork_impl (s : ByteArray) (w : World) (hs : s.size ≤ 1048576) (htab : Lib.TabIs Tryd.prog w "internal/strconv.uint64pow10" .u64 Lib.pow10Tab) (hmax : MaxIs w) :
    Calls Tryd.prog 7 #[.string s] w fun e w' => ∃ A' d, e = .returned (.tuple #[.agg #[.int .i64 (ParseNetwork_v0m s), .slice A' (ParseNetwork_v0 s).length d], .bool (ParseNetwork_v1 s)]) ∧ w'.ownsRow w.heap.size 38 4 (.slice A' (ParseNetwork_v0 s).length d) (ParseNetwork_v0 s).length (pipesV (ParseNetwork_v0 s)) ∧ Below w.heap.size w w' := by
 go_enter Tryd.func7, Tryd.ntmps7
 refine F.begin 81 [(0, .string s)] (fun U0 => ?_)
 refine wk fun K1 h1 => ?_
 refine W.region_plain (row := none) [(0, true), (1, false)] kk ?_
 have s1 := SG.self w none
 refine W.sn (fun b => .pointer (some ⟨b, 0, none⟩)) #[.int .i64 0, .slice none 0 0] 24 s1 rfl kk rfl (fun _ => by kernel_rfl) (fun b2 w3 hb4 k5 x6 s7 => ?_)
 apply F.nx
 have lo8 : w.heap.size ≤ b2 := Nl ((Sb (Below.refl _ _) s1 nkk)).size (Nat.le_of_eq hb4)
 refine Fa (.bool false) ?_
 apply F.es
 have c9 := (Sb (Below.refl _ _) s7 nkk)
 apply h1
 refine wk fun K2 h2 => ?_
 refine W.region_plain (row := none) [(0, false), (1, true), (2, false)] kk ?_
 have s10 := SG.self w3 none
 refine Fv (.string s) ?_
 have lb20 := (Nat.lt_of_lt_of_le (blk_lt x6) (s10).size)
 have z16 := ((Sb c9 s10 nkk)).size
 refine Fc [.string s, .string (⟨#[10]⟩ : ByteArray)] (split_lib s _ hs (max_kept hmax (Sb c9 s10 nkk))) ?_
 rintro e w22 ⟨A11, n12, c13, rfl, ho14, b21⟩
 have s23 := SG.of_below s10 b21
 refine ⟨_, rfl, s23, ?_⟩
 apply F.nx
 have ho15 := own_base (base' := w.heap.size) ho14 z16
 have hl18 := rd_strs_len (own_rd ho15)
 have hl18p := splitL_pos s 10
 have hl18q := splitL_len s 10
 obtain ⟨g19, rfl, _, _⟩ := own_addr ho15 (by omega)
 refine Fa (.slice (some ⟨g19, 0, none⟩) n12 c13) ?_
 apply F.es
 have x6 := Sk s23 x6 onn
 have c25 := (Sb c9 s23 nkk)
 apply h2
 refine wk fun K3 h3 => ?_
 refine wk fun K4 h4 => ?_
 refine Rq 3 ?_
 refine Fv (.slice (some ⟨g19, 0, none⟩) n12 c13) ?_
 refine Fq (.int .i64 (n12 : Int)) (r_len (A := (some ⟨g19, 0, none⟩)) (n := n12) (c := c13) rfl ek kk) ?_
 by_cases q26 : ((n12 : Int) : Int) > (12 : Int)
 ·refine Fq (.bool true) (r_gtr (m := (n12 : Int)) (n := 12) rfl ek ek (dt q26)) ?_
  apply F.es
  apply h4
  refine wp_cond_true ek ?_
  refine wk fun K5 h5 => ?_
  refine W.region_plain (row := (some b2)) [(0, false), (1, true), (2, false)] kk ?_
  have s27 := SG.self w22 (some b2)
  refine Fq (.agg #[.int .i64 0, .slice none 0 0]) (r_build rfl (vs := []) kk kk) ?_
  refine W.ss (v := .agg #[.int .i64 0, .slice none 0 0]) (j := 0) (news := [.int .i64 0, .slice none 0 0]) (cs' := #[.int .i64 0, .slice none 0 0]) s27 rfl kk rfl rfl kk kk x6 kk kk (by simp) kk kk (.inl rfl) (fun w28 g29 x30 s31 => ?_)
  refine Fa (.bool false) ?_
  apply F.es
  have c33 := (Sb c25 s31 (fun kq e => by cases e; exact lo8))
  apply h5
  refine wp_ret ?_
  try simp only [Exit.then]
  refine retCT (x := .bool false) rfl kk kk kk kk x30 ?_
  have hpn := pn_no (s := s) (fun m ps h1 h2 => by have h9 := (good_of h1).len; have h8 := ora_len h2; omega)
  exact fin_net (zs := []) (World.ownsRow_nil _ _ _ _) hpn.2.2.symm hpn.2.1.symm hpn.1.symm c33
 refine Fq (.bool false) (r_gtr (m := (n12 : Int)) (n := 12) rfl ek ek (df q26)) ?_
 apply F.es
 apply h4
 as_aux_lemma =>
  refine wp_cond_false ek ?_
  apply wp_skip
  apply h3
  refine wk fun K6 h6 => ?_
  refine W.region_plain (row := none) [(0, true), (1, false), (2, true), (3, true)] kk ?_
  have s34 := SG.self w22 none
  refine W.sn (fun b => .slice (some ⟨b, 0, none⟩) 0 0) #[] 38 s34 rfl kk rfl (fun _ => by kernel_rfl) (fun b35 w36 hb37 k38 x39 s40 => ?_)
  apply F.nx
  have lo41 : w.heap.size ≤ b35 := Nl ((Sb c25 s34 nkk)).size (Nat.le_of_eq hb37)
  have ne42 : b2 ≠ b35 := Nat.ne_of_lt (Nat.lt_of_lt_of_eq (Nat.lt_of_lt_of_le (blk_lt x6) (s34).size) hb37)
  have nb43 : Nb b35 (.slice (some ⟨g19, 0, none⟩) n12 c13) := nb_hi ho15 (Nat.le_of_eq hb37)
  have ho44 := own_kept ho15 k38
  refine Fq (.agg #[.int .i64 0, .slice (some ⟨b35, 0, none⟩) 0 0]) (r_build rfl (vs := [(1, .slice (some ⟨b35, 0, none⟩) 0 0)]) kk kk) ?_
  refine W.sn (fun b => .pointer (some ⟨b, 0, none⟩)) #[.int .i64 0, .slice none 0 0] 24 s40 rfl kk rfl (fun _ => by kernel_rfl) (fun b45 w46 hb47 k48 x49 s50 => ?_)
  apply F.nx
  have lo51 : w.heap.size ≤ b45 := Nl ((Sb c25 s40 nkk)).size (Nat.le_of_eq hb47)
  have ne52 : b2 ≠ b45 := Nat.ne_of_lt (Nat.lt_of_lt_of_eq (Nat.lt_of_lt_of_le (blk_lt x6) (s40).size) hb47)
  have ne53 : b35 ≠ b45 := Nat.ne_of_lt (Nat.lt_of_lt_of_eq (blk_lt x39) hb47)
  have nb54 : Nb b45 (.slice (some ⟨g19, 0, none⟩) n12 c13) := nb_hi ho44 (Nat.le_of_eq hb47)
  have x39 := (k48.block _ (blk_lt x39)).trans x39
  have ho55 := own_kept ho44 k48
  refine W.ss (v := .agg #[.int .i64 0, .slice (some ⟨b35, 0, none⟩) 0 0]) (j := 0) (news := [.int .i64 0, .slice (some ⟨b35, 0, none⟩) 0 0]) (cs' := #[.int .i64 0, .slice (some ⟨b35, 0, none⟩) 0 0]) s50 rfl kk rfl rfl kk kk x49 kk kk (by simp) kk kk (.inr (Nl (s40).size (Nat.le_of_eq hb47))) (fun w56 g57 x58 s59 => ?_)
  have x39 := (g57.block _ (blk_lt x39) (fun e9 => ne53 (Option.some.inj e9))).trans x39
  have ho60 := own_grown ho55 g57 (fun j e1 e2 => by cases e2; exact nb54 e1.symm)
  apply F.es
  have x6 := Sk s59 x6 onn
  have c61 := (Sb c25 s59 nkk)
  apply h6
  refine wk fun K7 h7 => ?_
  refine wk fun K8 h8 => ?_
  refine Rq 7 ?_
  refine Fv (.slice (some ⟨g19, 0, none⟩) n12 c13) ?_
  refine Fv (.slice (some ⟨g19, 0, none⟩) n12 c13) ?_
  refine Fq (.int .i64 (n12 : Int)) (r_len (A := (some ⟨g19, 0, none⟩)) (n := n12) (c := c13) rfl ek kk) ?_
  refine Fq (.int .i64 (((n12 - 1) : Nat) : Int)) (r_sub (m := (n12 : Int)) (n := 1) (z := (((n12 - 1) : Nat) : Int)) rfl ek ek (by omega) (by omega)) ?_
  have fm62 := own_fm ho60
  refine Fq (.slice (some ⟨g19, 0, none⟩) (n12 - 1) c13) (r_sliceTo (A := (some ⟨g19, 0, none⟩)) (n := n12) (c := c13) (k := (n12 - 1)) (size := 1) rfl ek ek kk (by have := (fm62).le; omega)) ?_
  refine Fq (.int .i64 (((n12 - 1) : Nat) : Int)) (r_len (A := (some ⟨g19, 0, none⟩)) (n := (n12 - 1)) (c := c13) rfl ek kk) ?_
  refine Fv (.int .i64 0) ?_
  apply F.es
  apply h8
  refine wp_block ?_
  have ho63 := own_empty (base := w.heap.size) (size := 4) x39 lo41
  replace ho63 : World.ownsRow _ _ _ _ _ _ (pipesV []) := ho63
  have nr64 : NbR (.slice (some ⟨b35, 0, none⟩) 0 0) (.slice (some ⟨g19, 0, none⟩) n12 c13) := nbr_new nb43
  have nb65 : Nb b2 (.slice (some ⟨b35, 0, none⟩) 0 0) := nb_new ne42
  have nb66 : Nb b45 (.slice (some ⟨b35, 0, none⟩) 0 0) := nb_new (Ne.symm ne53)
  refine loopK (fun am0 aa0 wl0 => ∃ (i : Nat) (nd : Int) (pl : List Pp) (A0_c5_1 : Option Addr) (n0_c5_1 : Nat) (c0_c5_1 : Nat) , Kn aa0 [(0, .string s), (2, .pointer (some ⟨b2, 0, none⟩)), (3, .bool false), (4, .slice (some ⟨g19, 0, none⟩) n12 c13), (5, .pointer (some ⟨b45, 0, none⟩)), (13, .bool false), (21, .slice (some ⟨g19, 0, none⟩) (n12 - 1) c13), (22, .int .i64 (((n12 - 1) : Nat) : Int)), (23, .int .i64 (i : Int))] 81 ∧ (am0 = (splitL s 10).length - i) ∧ (i + 1 ≤ (splitL s 10).length) ∧ (pl.length = i - 1) ∧ (OraI s i nd pl) ∧ (wl0.heap[b2]? = some (.cells #[.int .i64 0, .slice none 0 0] 24 (0, 0))) ∧ (wl0.heap[b45]? = some (.cells #[.int .i64 nd, .slice A0_c5_1 n0_c5_1 c0_c5_1] 24 (0, 0))) ∧ (wl0.ownsRow w.heap.size 9 1 (.slice (some ⟨g19, 0, none⟩) n12 c13) n12 (strsV (splitL s 10))) ∧ (wl0.ownsRow w.heap.size 38 4 (.slice A0_c5_1 n0_c5_1 c0_c5_1) n0_c5_1 (pipesV pl)) ∧ (Nb b2 (.slice A0_c5_1 n0_c5_1 c0_c5_1)) ∧ (Nb b45 (.slice A0_c5_1 n0_c5_1 c0_c5_1)) ∧ (NbR (.slice A0_c5_1 n0_c5_1 c0_c5_1) (.slice (some ⟨g19, 0, none⟩) n12 c13)) ∧ (Below w.heap.size w wl0)) ((splitL s 10).length - 0) ?_ ?_
  ·exact ⟨0, 0, [], (some ⟨b35, 0, none⟩), 0, 0, Kn.of, rfl, (by omega), rfl, (oi_start s), x6, x58, ho60, ho63, nb65, nb66, nr64, c61⟩
  rintro am0 aa0 wl0 K9 h9 ⟨i, nd, pl, A0_c5_1, n0_c5_1, c0_c5_1, ⟨U0, rfl⟩, rfl, hi, hpl, hor, x6, x58, ho0_4, ho0_c5_1, nb0_c5_1_b2, nb0_c5_1_b45, nr0_1_0, c67⟩
  have hl9 := rd_pipes_len (own_rd ho0_c5_1)
  refine wk fun K10 h10 => ?_
  refine Rq 1 ?_
  by_cases q68 : ((i : Int) : Int) < ((((n12 - 1) : Nat) : Int) : Int)
  ·refine Fq (.bool true) (r_lss (m := (i : Int)) (n := (((n12 - 1) : Nat) : Int)) rfl ek ek (dt q68)) ?_
   apply F.es
   apply h10
   refine wk fun K11 h11 => ?_
   refine wp_cond_true ek ?_
   apply wp_skip
   apply h11
   as_aux_lemma =>
    refine wk fun K12 h12 => ?_
    refine wp_block ?_
    refine wk fun K13 h13 => ?_
    refine Rq 5 ?_
    refine Fv (.int .i64 (i : Int)) ?_
    refine Fq (.pointer (some ⟨g19, i, none⟩)) (r_idx0 (n := (n12 - 1)) (c := c13) (k := i) rfl ek kk kk (by omega)) ?_
    obtain ⟨x69, hx70⟩ := get_of (zs := (splitL s 10)) (k := i) (by have h9 := own_len ho0_4; rw [strs_len] at h9; omega)
    have hx69 := split_part (c := 10) (by omega) hx70
    refine Fl (.string x69) (eqS (own_atS ho0_4 hx70)) ?_
    refine Fa (.int .i64 (i : Int)) ?_
    refine Fa (.string x69) ?_
    apply F.es
    apply h13
    refine wk fun K14 h14 => ?_
    refine W.region_plain (row := none) [(0, false), (1, true), (2, false)] kk ?_
    have s71 := SG.self wl0 none
    refine Fv (.string x69) ?_
    have lb81 := (Nat.lt_of_lt_of_le (blk_lt x6) (s71).size)
    have lb82 := (Nat.lt_of_lt_of_le (blk_lt x58) (s71).size)
    have z77 := ((Sb c67 s71 nkk)).size
    refine Fc [.string x69, .int .i64 5] (numbersOf_any x69 5 _ (by omega) (by omega)) ?_
    rintro e w84 ⟨A72, _, c74, rfl, ho75, rfl, b83⟩
    have s85 := SG.of_below s71 b83
    refine ⟨_, rfl, s85, ?_⟩
    apply F.nx
    have ho86 := own_kept ho0_4 b83
    have ho87 := own_kept ho0_c5_1 b83
    have ho76 := own_base (base' := w.heap.size) ho75 z77
    have hl79 := rd_ints_len (own_rd ho76)
    have hl79n := nums_le x69 5
    have nb89 : Nb b45 (.slice A72 ((numsOf x69 5).length) c74) := nb_lo ho75 lb82
    have nr91 : NbR (.slice A72 ((numsOf x69 5).length) c74) (.slice A0_c5_1 n0_c5_1 c0_c5_1) := fun j e1 e2 => by have h8 := (World.ownsRow.lt ho75 j e1).1; have h9 := (World.ownsRow.lt ho0_c5_1 j e2).2; omega
    have rd93 := own_rd ho76
    have hl94 := rd_ints_len rd93
    have sp97 := sp_of_nbr (n := (numsOf x69 5).length) nr91
    have sp99 := sp_of_nb (n := (numsOf x69 5).length) nb89
    refine Fa (.slice A72 ((numsOf x69 5).length) c74) ?_
    apply F.es
    have x6 := Sk s85 x6 onn
    have x58 := Sk s85 x58 onn
    have c100 := (Sb c67 s85 nkk)
    apply h14
    refine wp_block ?_
    refine wk fun K15 h15 => ?_
    refine Rq 8 ?_
    refine Fv (.int .i64 (i : Int)) ?_
    by_cases q101 : ((i : Int) : Int) = (0 : Int)
    ·refine Fq (.bool true) (r_eql (m := (i : Int)) (n := 0) rfl ek ek (dt q101)) ?_
     refine Fv (.bool true) ?_
     refine Fv (.slice A72 ((numsOf x69 5).length) c74) ?_
     refine Fq (.int .i64 (((numsOf x69 5).length : Nat) : Int)) (r_len (A := A72) (n := (numsOf x69 5).length) (c := c74) rfl ek kk) ?_
     by_cases q102 : ((((numsOf x69 5).length : Nat) : Int) : Int) = (1 : Int)
     ·refine Fq (.bool true) (r_eql (m := (((numsOf x69 5).length : Nat) : Int)) (n := 1) rfl ek ek (dt q102)) ?_
      refine Fq (.bool true) (r_pick (b := true) rfl ek ek) ?_
      refine Fa (.bool true) ?_
      apply F.es
      apply h15
      as_aux_lemma =>
       refine wp_cond_true ek ?_
       refine W.region_plain (row := (some b45)) [(0, false), (1, false), (2, false), (3, false), (4, true)] kk ?_
       have s103 := SG.self w84 (some b45)
       refine Fv (.slice A72 ((numsOf x69 5).length) c74) ?_
       obtain ⟨x104, hx105⟩ := get_of (zs := (numsOf x69 5)) (k := 0) (by have := hl94; omega)
       obtain ⟨b106, o107, hA108, hb109, hc110⟩ := Rd.elInt rd93 hx105
       refine Fq (.pointer (some ⟨b106, o107 + 0, none⟩)) (r_idx1 (n := (numsOf x69 5).length) (c := c74) (k := 0) rfl ek hA108 kk kk (by have := hl94; omega)) ?_
       refine Fl (.int .i64 x104) (sgS hc110 (sp99 (by omega) _ _ hA108)) ?_
       refine Fq (.pointer (some ⟨b45, 0, none⟩)) (r_field0 rfl ek kk) ?_
       refine W.ss (v := .int .i64 x104) (j := 0) (news := [.int .i64 x104]) (cs' := #[.int .i64 x104, .slice A0_c5_1 n0_c5_1 c0_c5_1]) s103 rfl kk rfl rfl kk kk x58 kk kk (by simp) kk kk (.inl rfl) (fun w111 g112 x113 s114 => ?_)
       have ho115 := own_grown ho86 g112 (fun j e1 e2 => by cases e2; exact nb54 e1.symm)
       have ho116 := own_grown ho87 g112 (fun j e1 e2 => by cases e2; exact nb0_c5_1_b45 e1.symm)
       apply F.es
       have x6 := Sk s114 x6 (fun e9 => ne52 (Option.some.inj e9))
       have c117 := (Sb c100 s114 (fun kq e => by cases e; exact lo51))
       apply h12
       refine Rq 2 ?_
       refine Fq (.int .i64 ((i + 1 : Nat) : Int)) (r_add (m := (i : Int)) (n := 1) (z := ((i + 1 : Nat) : Int)) rfl ek ek (by omega) (by omega)) ?_
       refine Fv (.int .i64 ((i + 1 : Nat) : Int)) ?_
       apply F.es
       exact h9 _ _ _ (by omega : ((splitL s 10).length - (i + 1)) < _) ⟨i + 1, x104, pl, A0_c5_1, n0_c5_1, c0_c5_1, Kn.of, rfl, (by omega), (by (try rw [List.length_append, List.length_singleton]); omega), (oi_zero hor (by omega) hx70 hx105), x6, x113, ho115, ho116, nb0_c5_1_b2, nb0_c5_1_b45, nr0_1_0, c117⟩
     refine Fq (.bool false) (r_eql (m := (((numsOf x69 5).length : Nat) : Int)) (n := 1) rfl ek ek (df q102)) ?_
     refine Fq (.bool false) (r_pick (b := true) rfl ek ek) ?_
     refine Fa (.bool false) ?_
     apply F.es
     apply h15
     refine wp_cond_false ek ?_
     refine wk fun K16 h16 => ?_
     refine Rq 8 ?_
     refine Fv (.int .i64 (i : Int)) ?_
     by_cases q119 : ((i : Int) : Int) > (0 : Int)
     ·refine Fq (.bool true) (r_gtr (m := (i : Int)) (n := 0) rfl ek ek (dt q119)) ?_
      refine Fv (.bool true) ?_
      refine Fv (.slice A72 ((numsOf x69 5).length) c74) ?_
      refine Fq (.int .i64 (((numsOf x69 5).length : Nat) : Int)) (r_len (A := A72) (n := (numsOf x69 5).length) (c := c74) rfl ek kk) ?_
      by_cases q120 : ((((numsOf x69 5).length : Nat) : Int) : Int) = (4 : Int)
      ·refine Fq (.bool true) (r_eql (m := (((numsOf x69 5).length : Nat) : Int)) (n := 4) rfl ek ek (dt q120)) ?_
       refine Fq (.bool true) (r_pick (b := true) rfl ek ek) ?_
       refine Fa (.bool true) ?_
       apply F.es
       apply h16
       refine wp_cond_true ek ?_
       refine M.region_sch (row := [(Value.ownBlock (.slice A0_c5_1 n0_c5_1 c0_c5_1)), (some b45)]) (Sch.app [(0, false), (2, false), (3, false), (4, false), (5, false), (6, false), (7, false), (8, false), (9, false), (10, false), (11, false), (12, false), (13, false), (14, false)] (.br 1 15 (Sch.of [(15, true), (16, true), (17, false), (18, true)]) (Sch.of [(1, true), (16, true), (17, false), (18, true)]))) kk kk (fun _ d _ _ _ h => by cases d <;> exact h) kk (fun w121 e122 s123 => ?_)
       have ho124 := own_heap ho86 e122
       have ho125 := own_heap ho87 e122
       have x126 := (heap_same e122 x58)
       refine Fq (.pointer (some ⟨b45, 1, none⟩)) (r_field (k := 1) rfl ek kk) ?_
       refine Fv (.slice A72 ((numsOf x69 5).length) c74) ?_
       obtain ⟨x127, hx128⟩ := get_of (zs := (numsOf x69 5)) (k := 0) (by have := hl94; omega)
       obtain ⟨b129, o130, hA131, hb132, hc133⟩ := Rd.elInt rd93 hx128
       refine Fq (.pointer (some ⟨b129, o130 + 0, none⟩)) (r_idx1 (n := (numsOf x69 5).length) (c := c74) (k := 0) rfl ek hA131 kk kk (by have := hl94; omega)) ?_
       refine Fl (.int .i64 x127) (smS hc133 (ne2 (sp97 (by omega) _ _ hA131) (sp99 (by omega) _ _ hA131))) ?_
       refine Fv (.slice A72 ((numsOf x69 5).length) c74) ?_
       obtain ⟨x134, hx135⟩ := get_of (zs := (numsOf x69 5)) (k := 1) (by have := hl94; omega)
       obtain ⟨b136, o137, hA138, hb139, hc140⟩ := Rd.elInt rd93 hx135
       refine Fq (.pointer (some ⟨b136, o137 + 1, none⟩)) (r_idx1 (n := (numsOf x69 5).length) (c := c74) (k := 1) rfl ek hA138 kk kk (by have := hl94; omega)) ?_
       refine Fl (.int .i64 x134) (smS hc140 (ne2 (sp97 (by omega) _ _ hA138) (sp99 (by omega) _ _ hA138))) ?_
       refine Fv (.slice A72 ((numsOf x69 5).length) c74) ?_
       obtain ⟨x141, hx142⟩ := get_of (zs := (numsOf x69 5)) (k := 2) (by have := hl94; omega)
       obtain ⟨b143, o144, hA145, hb146, hc147⟩ := Rd.elInt rd93 hx142
       refine Fq (.pointer (some ⟨b143, o144 + 2, none⟩)) (r_idx1 (n := (numsOf x69 5).length) (c := c74) (k := 2) rfl ek hA145 kk kk (by have := hl94; omega)) ?_
       refine Fl (.int .i64 x141) (smS hc147 (ne2 (sp97 (by omega) _ _ hA145) (sp99 (by omega) _ _ hA145))) ?_
       refine Fv (.slice A72 ((numsOf x69 5).length) c74) ?_
       obtain ⟨x148, hx149⟩ := get_of (zs := (numsOf x69 5)) (k := 3) (by have := hl94; omega)
       obtain ⟨b150, o151, hA152, hb153, hc154⟩ := Rd.elInt rd93 hx149
       refine Fq (.pointer (some ⟨b150, o151 + 3, none⟩)) (r_idx1 (n := (numsOf x69 5).length) (c := c74) (k := 3) rfl ek hA152 kk kk (by have := hl94; omega)) ?_
       refine Fl (.int .i64 x148) (smS hc154 (ne2 (sp97 (by omega) _ _ hA152) (sp99 (by omega) _ _ hA152))) ?_
       refine Fq (.agg #[.int .i64 x127, .int .i64 x134, .int .i64 x141, .int .i64 x148]) (r_build rfl (vs := [(0, .int .i64 x127), (1, .int .i64 x134), (2, .int .i64 x141), (3, .int .i64 x148)]) kk kk) ?_
       refine W.sbr ?_ ?_
       ·refine W.slq (v := .slice A0_c5_1 n0_c5_1 c0_c5_1) s123 rfl (r_load rfl kk kk (eqS (blk_cell (j := 1) x126 kk))) kk rfl ?_
        apply F.nx
        refine M.sn (fun b => .slice (some ⟨b, 0, none⟩) 1 1) #[.int .i64 x127, .int .i64 x134, .int .i64 x141, .int .i64 x148] 38 s123 rfl kk rfl (fun _ => by kernel_rfl) (fun b155 w156 hb157 k158 x159 s160 => ?_)
        apply F.nx
        have lo161 : w.heap.size ≤ b155 := Nl ((SM.belowR c100 s123 (in2 (fun kq e => (World.ownsRow.lt ho87 kq e).1) (fun kq e => (by cases e; exact lo51))))).size (Nat.le_of_eq hb157)
        have x126 := (k158.block _ (blk_lt x126)).trans x126
        have ho167 := own_kept ho124 k158
        have ho168 := own_kept ho125 k158
        refine M.sap (e := 38) (size := 4) (base := w.heap.size) (m := 1) (v := .slice A0_c5_1 n0_c5_1 c0_c5_1) (c := 1) s160 rfl rfl rfl rfl kk kk kk ho168 x159 kk kk (by omega) (by omega) (by have := ((SM.belowR c100 s160 (in2 (fun kq e => (World.ownsRow.lt ho87 kq e).1) (fun kq e => (by cases e; exact lo51))))).size; omega) (.inl (by simp)) (fun g169 cap170 w171 ho172 hg173 hat174 hlt175 s176 => ?_)
        apply F.nx
        have nb177 : Nb b2 (.slice (some ⟨g169, 0, none⟩) (n0_c5_1 + 1) cap170) := nb_app nb0_c5_1_b2 (Nat.lt_of_lt_of_le (blk_lt x6) (s160).size) hat174
        have nb178 : Nb b45 (.slice (some ⟨g169, 0, none⟩) (n0_c5_1 + 1) cap170) := nb_app nb0_c5_1_b45 (blk_lt x126) hat174
        have x126 := (hg173.block _ (blk_lt x126) nb0_c5_1_b45).trans x126
        have ho172 := own_snocP (x := (Pp.mk x127 x134 x141 x148)) ho172
        have nr181 : NbR (.slice (some ⟨g169, 0, none⟩) (n0_c5_1 + 1) cap170) (.slice (some ⟨g19, 0, none⟩) n12 c13) := nbr_app nr0_1_0 (fun j h => (World.ownsRow.lt ho167 j h).2) (hat3 (v := .slice A0_c5_1 n0_c5_1 c0_c5_1) hat174)
        have ho182 := own_grown ho167 hg173 (NbR.symm nr0_1_0)
        refine Fq (.pointer (some ⟨b45, 1, none⟩)) (r_field (k := 1) rfl ek kk) ?_
        refine M.ss (v := .slice (some ⟨g169, 0, none⟩) (n0_c5_1 + 1) cap170) (j := 1) (news := [.slice (some ⟨g169, 0, none⟩) (n0_c5_1 + 1) cap170]) (cs' := #[.int .i64 nd, .slice (some ⟨g169, 0, none⟩) (n0_c5_1 + 1) cap170]) s176 rfl kk rfl rfl kk kk x126 kk kk (by simp) kk kk (.inl (by simp)) (fun w183 g184 x185 s186 => ?_)
        have ho187 := own_grown ho182 g184 (fun j e1 e2 => by cases e2; exact nb54 e1.symm)
        have ho188 := own_grown ho172 g184 (fun j e1 e2 => by cases e2; exact nb178 e1.symm)
        apply F.es
        have x6 := SM.blk s186 x6 (ne2 nb0_c5_1_b2 (fun e9 => ne52 (Option.some.inj e9)))
        have c189 := (SM.belowR c100 s186 (in2 (fun kq e => (World.ownsRow.lt ho87 kq e).1) (fun kq e => (by cases e; exact lo51))))
        apply h12
        as_aux_lemma =>
         refine Rq 2 ?_
         refine Fq (.int .i64 ((i + 1 : Nat) : Int)) (r_add (m := (i : Int)) (n := 1) (z := ((i + 1 : Nat) : Int)) rfl ek ek (by omega) (by omega)) ?_
         refine Fv (.int .i64 ((i + 1 : Nat) : Int)) ?_
         apply F.es
         exact h9 _ _ _ (by omega : ((splitL s 10).length - (i + 1)) < _) ⟨i + 1, nd, (pl ++ [(Pp.mk x127 x134 x141 x148)]), (some ⟨g169, 0, none⟩), (n0_c5_1 + 1), cap170, Kn.of, rfl, (by omega), (by (try rw [List.length_append, List.length_singleton]); omega), (oi_next hor (by omega) (by omega) hx70 hx128 hx135 hx142 hx149), x6, x185, ho187, ho188, nb177, nb178, nr181, c189⟩
       refine M.sn (fun b => .slice (some ⟨b, 0, none⟩) 1 1) #[.int .i64 x127, .int .i64 x134, .int .i64 x141, .int .i64 x148] 38 s123 rfl kk rfl (fun _ => by kernel_rfl) (fun b191 w192 hb193 k194 x195 s196 => ?_)
       apply F.nx
       have lo197 : w.heap.size ≤ b191 := Nl ((SM.belowR c100 s123 (in2 (fun kq e => (World.ownsRow.lt ho87 kq e).1) (fun kq e => (by cases e; exact lo51))))).size (Nat.le_of_eq hb193)
       have x126 := (k194.block _ (blk_lt x126)).trans x126
       have ho203 := own_kept ho124 k194
       have ho204 := own_kept ho125 k194
       refine W.slq (v := .slice A0_c5_1 n0_c5_1 c0_c5_1) s196 rfl (r_load rfl kk kk (eqS (blk_cell (j := 1) x126 kk))) kk rfl ?_
       apply F.nx
       refine M.sap (e := 38) (size := 4) (base := w.heap.size) (m := 1) (v := .slice A0_c5_1 n0_c5_1 c0_c5_1) (c := 1) s196 rfl rfl rfl rfl kk kk kk ho204 x195 kk kk (by omega) (by omega) (by have := ((SM.belowR c100 s196 (in2 (fun kq e => (World.ownsRow.lt ho87 kq e).1) (fun kq e => (by cases e; exact lo51))))).size; omega) (.inl (by simp)) (fun g205 cap206 w207 ho208 hg209 hat210 hlt211 s212 => ?_)
       apply F.nx
       have nb213 : Nb b2 (.slice (some ⟨g205, 0, none⟩) (n0_c5_1 + 1) cap206) := nb_app nb0_c5_1_b2 (Nat.lt_of_lt_of_le (blk_lt x6) (s196).size) hat210
       have nb214 : Nb b45 (.slice (some ⟨g205, 0, none⟩) (n0_c5_1 + 1) cap206) := nb_app nb0_c5_1_b45 (blk_lt x126) hat210
       have x126 := (hg209.block _ (blk_lt x126) nb0_c5_1_b45).trans x126
       have ho208 := own_snocP (x := (Pp.mk x127 x134 x141 x148)) ho208
       have nr217 : NbR (.slice (some ⟨g205, 0, none⟩) (n0_c5_1 + 1) cap206) (.slice (some ⟨g19, 0, none⟩) n12 c13) := nbr_app nr0_1_0 (fun j h => (World.ownsRow.lt ho203 j h).2) (hat3 (v := .slice A0_c5_1 n0_c5_1 c0_c5_1) hat210)
       have ho218 := own_grown ho203 hg209 (NbR.symm nr0_1_0)
       refine Fq (.pointer (some ⟨b45, 1, none⟩)) (r_field (k := 1) rfl ek kk) ?_
       refine M.ss (v := .slice (some ⟨g205, 0, none⟩) (n0_c5_1 + 1) cap206) (j := 1) (news := [.slice (some ⟨g205, 0, none⟩) (n0_c5_1 + 1) cap206]) (cs' := #[.int .i64 nd, .slice (some ⟨g205, 0, none⟩) (n0_c5_1 + 1) cap206]) s212 rfl kk rfl rfl kk kk x126 kk kk (by simp) kk kk (.inl (by simp)) (fun w219 g220 x221 s222 => ?_)
       have ho223 := own_grown ho218 g220 (fun j e1 e2 => by cases e2; exact nb54 e1.symm)
       have ho224 := own_grown ho208 g220 (fun j e1 e2 => by cases e2; exact nb214 e1.symm)
       apply F.es
       have x6 := SM.blk s222 x6 (ne2 nb0_c5_1_b2 (fun e9 => ne52 (Option.some.inj e9)))
       have c225 := (SM.belowR c100 s222 (in2 (fun kq e => (World.ownsRow.lt ho87 kq e).1) (fun kq e => (by cases e; exact lo51))))
       apply h12
       refine Rq 2 ?_
       refine Fq (.int .i64 ((i + 1 : Nat) : Int)) (r_add (m := (i : Int)) (n := 1) (z := ((i + 1 : Nat) : Int)) rfl ek ek (by omega) (by omega)) ?_
       refine Fv (.int .i64 ((i + 1 : Nat) : Int)) ?_
       apply F.es
       exact h9 _ _ _ (by omega : ((splitL s 10).length - (i + 1)) < _) ⟨i + 1, nd, (pl ++ [(Pp.mk x127 x134 x141 x148)]), (some ⟨g205, 0, none⟩), (n0_c5_1 + 1), cap206, Kn.of, rfl, (by omega), (by (try rw [List.length_append, List.length_singleton]); omega), (oi_next hor (by omega) (by omega) hx70 hx128 hx135 hx142 hx149), x6, x221, ho223, ho224, nb213, nb214, nr217, c225⟩
      refine Fq (.bool false) (r_eql (m := (((numsOf x69 5).length : Nat) : Int)) (n := 4) rfl ek ek (df q120)) ?_
      refine Fq (.bool false) (r_pick (b := true) rfl ek ek) ?_
      refine Fa (.bool false) ?_
      apply F.es
      apply h16
      refine wp_cond_false ek ?_
      refine wk fun K17 h17 => ?_
      refine W.region_plain (row := (some b2)) [(0, false), (1, true), (2, false)] kk ?_
      have s227 := SG.self w84 (some b2)
      refine Fq (.agg #[.int .i64 0, .slice none 0 0]) (r_build rfl (vs := []) kk kk) ?_
      refine W.ss (v := .agg #[.int .i64 0, .slice none 0 0]) (j := 0) (news := [.int .i64 0, .slice none 0 0]) (cs' := #[.int .i64 0, .slice none 0 0]) s227 rfl kk rfl rfl kk kk x6 kk kk (by simp) kk kk (.inl rfl) (fun w228 g229 x230 s231 => ?_)
      refine Fa (.bool false) ?_
      apply F.es
      have x58 := Sk s231 x58 (fun e9 => ne52 (Option.some.inj e9).symm)
      have c234 := (Sb c100 s231 (fun kq e => by cases e; exact lo8))
      apply h17
      as_aux_lemma =>
       refine wp_ret ?_
       try simp only [Exit.then, Exit.inBlock]
       refine retCT (x := .bool false) rfl kk kk kk kk x230 ?_
       have hpn := pn_no (s := s) (fun m ps h1 h2 => by have h9 := oi_len hx70 (by omega) h1 h2; omega)
       exact fin_net (zs := []) (World.ownsRow_nil _ _ _ _) hpn.2.2.symm hpn.2.1.symm hpn.1.symm c234
     refine Fq (.bool false) (r_gtr (m := (i : Int)) (n := 0) rfl ek ek (df q119)) ?_
     refine Fv (.bool false) ?_
     refine Fs rfl ?_
     refine Fs rfl ?_
     refine Fs rfl ?_
     refine Fq (.bool false) (r_pick (b := false) rfl ek ek) ?_
     refine Fa (.bool false) ?_
     apply F.es
     apply h16
     refine wp_cond_false ek ?_
     refine wk fun K18 h18 => ?_
     refine W.region_plain (row := (some b2)) [(0, false), (1, true), (2, false)] kk ?_
     have s236 := SG.self w84 (some b2)
     refine Fq (.agg #[.int .i64 0, .slice none 0 0]) (r_build rfl (vs := []) kk kk) ?_
     refine W.ss (v := .agg #[.int .i64 0, .slice none 0 0]) (j := 0) (news := [.int .i64 0, .slice none 0 0]) (cs' := #[.int .i64 0, .slice none 0 0]) s236 rfl kk rfl rfl kk kk x6 kk kk (by simp) kk kk (.inl rfl) (fun w237 g238 x239 s240 => ?_)
     refine Fa (.bool false) ?_
     apply F.es
     have x58 := Sk s240 x58 (fun e9 => ne52 (Option.some.inj e9).symm)
     have c243 := (Sb c100 s240 (fun kq e => by cases e; exact lo8))
     apply h18
     refine wp_ret ?_
     try simp only [Exit.then, Exit.inBlock]
     refine retCT (x := .bool false) rfl kk kk kk kk x239 ?_
     have hpn := pn_no (s := s) (fun m ps h1 h2 => by have h9 := oi_len hx70 (by omega) h1 h2; omega)
     exact fin_net (zs := []) (World.ownsRow_nil _ _ _ _) hpn.2.2.symm hpn.2.1.symm hpn.1.symm c243
    refine Fq (.bool false) (r_eql (m := (i : Int)) (n := 0) rfl ek ek (df q101)) ?_
    refine Fv (.bool false) ?_
    refine Fs rfl ?_
    refine Fs rfl ?_
    refine Fs rfl ?_
    refine Fq (.bool false) (r_pick (b := false) rfl ek ek) ?_
    refine Fa (.bool false) ?_
    apply F.es
    apply h15
    refine wp_cond_false ek ?_
    refine wk fun K19 h19 => ?_
    refine Rq 8 ?_
    refine Fv (.int .i64 (i : Int)) ?_
    by_cases q245 : ((i : Int) : Int) > (0 : Int)
    ·refine Fq (.bool true) (r_gtr (m := (i : Int)) (n := 0) rfl ek ek (dt q245)) ?_
     refine Fv (.bool true) ?_
     refine Fv (.slice A72 ((numsOf x69 5).length) c74) ?_
     refine Fq (.int .i64 (((numsOf x69 5).length : Nat) : Int)) (r_len (A := A72) (n := (numsOf x69 5).length) (c := c74) rfl ek kk) ?_
     by_cases q246 : ((((numsOf x69 5).length : Nat) : Int) : Int) = (4 : Int)
     ·refine Fq (.bool true) (r_eql (m := (((numsOf x69 5).length : Nat) : Int)) (n := 4) rfl ek ek (dt q246)) ?_
      refine Fq (.bool true) (r_pick (b := true) rfl ek ek) ?_
      refine Fa (.bool true) ?_
      apply F.es
      apply h19
      refine wp_cond_true ek ?_
      refine M.region_sch (row := [(Value.ownBlock (.slice A0_c5_1 n0_c5_1 c0_c5_1)), (some b45)]) (Sch.app [(0, false), (2, false), (3, false), (4, false), (5, false), (6, false), (7, false), (8, false), (9, false), (10, false), (11, false), (12, false), (13, false), (14, false)] (.br 1 15 (Sch.of [(15, true), (16, true), (17, false), (18, true)]) (Sch.of [(1, true), (16, true), (17, false), (18, true)]))) kk kk (fun _ d _ _ _ h => by cases d <;> exact h) kk (fun w247 e248 s249 => ?_)
      have ho250 := own_heap ho86 e248
      have ho251 := own_heap ho87 e248
      have x252 := (heap_same e248 x58)
      refine Fq (.pointer (some ⟨b45, 1, none⟩)) (r_field (k := 1) rfl ek kk) ?_
      refine Fv (.slice A72 ((numsOf x69 5).length) c74) ?_
      obtain ⟨x253, hx254⟩ := get_of (zs := (numsOf x69 5)) (k := 0) (by have := hl94; omega)
      obtain ⟨b255, o256, hA257, hb258, hc259⟩ := Rd.elInt rd93 hx254
      refine Fq (.pointer (some ⟨b255, o256 + 0, none⟩)) (r_idx1 (n := (numsOf x69 5).length) (c := c74) (k := 0) rfl ek hA257 kk kk (by have := hl94; omega)) ?_
      refine Fl (.int .i64 x253) (smS hc259 (ne2 (sp97 (by omega) _ _ hA257) (sp99 (by omega) _ _ hA257))) ?_
      refine Fv (.slice A72 ((numsOf x69 5).length) c74) ?_
      obtain ⟨x260, hx261⟩ := get_of (zs := (numsOf x69 5)) (k := 1) (by have := hl94; omega)
      obtain ⟨b262, o263, hA264, hb265, hc266⟩ := Rd.elInt rd93 hx261
      refine Fq (.pointer (some ⟨b262, o263 + 1, none⟩)) (r_idx1 (n := (numsOf x69 5).length) (c := c74) (k := 1) rfl ek hA264 kk kk (by have := hl94; omega)) ?_
      refine Fl (.int .i64 x260) (smS hc266 (ne2 (sp97 (by omega) _ _ hA264) (sp99 (by omega) _ _ hA264))) ?_
      refine Fv (.slice A72 ((numsOf x69 5).length) c74) ?_
      obtain ⟨x267, hx268⟩ := get_of (zs := (numsOf x69 5)) (k := 2) (by have := hl94; omega)
      obtain ⟨b269, o270, hA271, hb272, hc273⟩ := Rd.elInt rd93 hx268
      refine Fq (.pointer (some ⟨b269, o270 + 2, none⟩)) (r_idx1 (n := (numsOf x69 5).length) (c := c74) (k := 2) rfl ek hA271 kk kk (by have := hl94; omega)) ?_
      refine Fl (.int .i64 x267) (smS hc273 (ne2 (sp97 (by omega) _ _ hA271) (sp99 (by omega) _ _ hA271))) ?_
      refine Fv (.slice A72 ((numsOf x69 5).length) c74) ?_
      obtain ⟨x274, hx275⟩ := get_of (zs := (numsOf x69 5)) (k := 3) (by have := hl94; omega)
      obtain ⟨b276, o277, hA278, hb279, hc280⟩ := Rd.elInt rd93 hx275
      refine Fq (.pointer (some ⟨b276, o277 + 3, none⟩)) (r_idx1 (n := (numsOf x69 5).length) (c := c74) (k := 3) rfl ek hA278 kk kk (by have := hl94; omega)) ?_
      refine Fl (.int .i64 x274) (smS hc280 (ne2 (sp97 (by omega) _ _ hA278) (sp99 (by omega) _ _ hA278))) ?_
      refine Fq (.agg #[.int .i64 x253, .int .i64 x260, .int .i64 x267, .int .i64 x274]) (r_build rfl (vs := [(0, .int .i64 x253), (1, .int .i64 x260), (2, .int .i64 x267), (3, .int .i64 x274)]) kk kk) ?_
      refine W.sbr ?_ ?_
      ·refine W.slq (v := .slice A0_c5_1 n0_c5_1 c0_c5_1) s249 rfl (r_load rfl kk kk (eqS (blk_cell (j := 1) x252 kk))) kk rfl ?_
       apply F.nx
       refine M.sn (fun b => .slice (some ⟨b, 0, none⟩) 1 1) #[.int .i64 x253, .int .i64 x260, .int .i64 x267, .int .i64 x274] 38 s249 rfl kk rfl (fun _ => by kernel_rfl) (fun b281 w282 hb283 k284 x285 s286 => ?_)
       apply F.nx
       have lo287 : w.heap.size ≤ b281 := Nl ((SM.belowR c100 s249 (in2 (fun kq e => (World.ownsRow.lt ho87 kq e).1) (fun kq e => (by cases e; exact lo51))))).size (Nat.le_of_eq hb283)
       have x252 := (k284.block _ (blk_lt x252)).trans x252
       have ho293 := own_kept ho250 k284
       have ho294 := own_kept ho251 k284
       refine M.sap (e := 38) (size := 4) (base := w.heap.size) (m := 1) (v := .slice A0_c5_1 n0_c5_1 c0_c5_1) (c := 1) s286 rfl rfl rfl rfl kk kk kk ho294 x285 kk kk (by omega) (by omega) (by have := ((SM.belowR c100 s286 (in2 (fun kq e => (World.ownsRow.lt ho87 kq e).1) (fun kq e => (by cases e; exact lo51))))).size; omega) (.inl (by simp)) (fun g295 cap296 w297 ho298 hg299 hat300 hlt301 s302 => ?_)
       apply F.nx
       have nb303 : Nb b2 (.slice (some ⟨g295, 0, none⟩) (n0_c5_1 + 1) cap296) := nb_app nb0_c5_1_b2 (Nat.lt_of_lt_of_le (blk_lt x6) (s286).size) hat300
       have nb304 : Nb b45 (.slice (some ⟨g295, 0, none⟩) (n0_c5_1 + 1) cap296) := nb_app nb0_c5_1_b45 (blk_lt x252) hat300
       have x252 := (hg299.block _ (blk_lt x252) nb0_c5_1_b45).trans x252
       have ho298 := own_snocP (x := (Pp.mk x253 x260 x267 x274)) ho298
       have nr307 : NbR (.slice (some ⟨g295, 0, none⟩) (n0_c5_1 + 1) cap296) (.slice (some ⟨g19, 0, none⟩) n12 c13) := nbr_app nr0_1_0 (fun j h => (World.ownsRow.lt ho293 j h).2) (hat3 (v := .slice A0_c5_1 n0_c5_1 c0_c5_1) hat300)
       have ho308 := own_grown ho293 hg299 (NbR.symm nr0_1_0)
       refine Fq (.pointer (some ⟨b45, 1, none⟩)) (r_field (k := 1) rfl ek kk) ?_
       refine M.ss (v := .slice (some ⟨g295, 0, none⟩) (n0_c5_1 + 1) cap296) (j := 1) (news := [.slice (some ⟨g295, 0, none⟩) (n0_c5_1 + 1) cap296]) (cs' := #[.int .i64 nd, .slice (some ⟨g295, 0, none⟩) (n0_c5_1 + 1) cap296]) s302 rfl kk rfl rfl kk kk x252 kk kk (by simp) kk kk (.inl (by simp)) (fun w309 g310 x311 s312 => ?_)
       have ho313 := own_grown ho308 g310 (fun j e1 e2 => by cases e2; exact nb54 e1.symm)
       have ho314 := own_grown ho298 g310 (fun j e1 e2 => by cases e2; exact nb304 e1.symm)
       apply F.es
       have x6 := SM.blk s312 x6 (ne2 nb0_c5_1_b2 (fun e9 => ne52 (Option.some.inj e9)))
       have c315 := (SM.belowR c100 s312 (in2 (fun kq e => (World.ownsRow.lt ho87 kq e).1) (fun kq e => (by cases e; exact lo51))))
       apply h12
       as_aux_lemma =>
        refine Rq 2 ?_
        refine Fq (.int .i64 ((i + 1 : Nat) : Int)) (r_add (m := (i : Int)) (n := 1) (z := ((i + 1 : Nat) : Int)) rfl ek ek (by omega) (by omega)) ?_
        refine Fv (.int .i64 ((i + 1 : Nat) : Int)) ?_
        apply F.es
        exact h9 _ _ _ (by omega : ((splitL s 10).length - (i + 1)) < _) ⟨i + 1, nd, (pl ++ [(Pp.mk x253 x260 x267 x274)]), (some ⟨g295, 0, none⟩), (n0_c5_1 + 1), cap296, Kn.of, rfl, (by omega), (by (try rw [List.length_append, List.length_singleton]); omega), (oi_next hor (by omega) (by omega) hx70 hx254 hx261 hx268 hx275), x6, x311, ho313, ho314, nb303, nb304, nr307, c315⟩
      refine M.sn (fun b => .slice (some ⟨b, 0, none⟩) 1 1) #[.int .i64 x253, .int .i64 x260, .int .i64 x267, .int .i64 x274] 38 s249 rfl kk rfl (fun _ => by kernel_rfl) (fun b317 w318 hb319 k320 x321 s322 => ?_)
      apply F.nx
      have lo323 : w.heap.size ≤ b317 := Nl ((SM.belowR c100 s249 (in2 (fun kq e => (World.ownsRow.lt ho87 kq e).1) (fun kq e => (by cases e; exact lo51))))).size (Nat.le_of_eq hb319)
      have x252 := (k320.block _ (blk_lt x252)).trans x252
      have ho329 := own_kept ho250 k320
      have ho330 := own_kept ho251 k320
      refine W.slq (v := .slice A0_c5_1 n0_c5_1 c0_c5_1) s322 rfl (r_load rfl kk kk (eqS (blk_cell (j := 1) x252 kk))) kk rfl ?_
      apply F.nx
      refine M.sap (e := 38) (size := 4) (base := w.heap.size) (m := 1) (v := .slice A0_c5_1 n0_c5_1 c0_c5_1) (c := 1) s322 rfl rfl rfl rfl kk kk kk ho330 x321 kk kk (by omega) (by omega) (by have := ((SM.belowR c100 s322 (in2 (fun kq e => (World.ownsRow.lt ho87 kq e).1) (fun kq e => (by cases e; exact lo51))))).size; omega) (.inl (by simp)) (fun g331 cap332 w333 ho334 hg335 hat336 hlt337 s338 => ?_)
      apply F.nx
      have nb339 : Nb b2 (.slice (some ⟨g331, 0, none⟩) (n0_c5_1 + 1) cap332) := nb_app nb0_c5_1_b2 (Nat.lt_of_lt_of_le (blk_lt x6) (s322).size) hat336
      have nb340 : Nb b45 (.slice (some ⟨g331, 0, none⟩) (n0_c5_1 + 1) cap332) := nb_app nb0_c5_1_b45 (blk_lt x252) hat336
      have x252 := (hg335.block _ (blk_lt x252) nb0_c5_1_b45).trans x252
      have ho334 := own_snocP (x := (Pp.mk x253 x260 x267 x274)) ho334
      have nr343 : NbR (.slice (some ⟨g331, 0, none⟩) (n0_c5_1 + 1) cap332) (.slice (some ⟨g19, 0, none⟩) n12 c13) := nbr_app nr0_1_0 (fun j h => (World.ownsRow.lt ho329 j h).2) (hat3 (v := .slice A0_c5_1 n0_c5_1 c0_c5_1) hat336)
      have ho344 := own_grown ho329 hg335 (NbR.symm nr0_1_0)
      refine Fq (.pointer (some ⟨b45, 1, none⟩)) (r_field (k := 1) rfl ek kk) ?_
      refine M.ss (v := .slice (some ⟨g331, 0, none⟩) (n0_c5_1 + 1) cap332) (j := 1) (news := [.slice (some ⟨g331, 0, none⟩) (n0_c5_1 + 1) cap332]) (cs' := #[.int .i64 nd, .slice (some ⟨g331, 0, none⟩) (n0_c5_1 + 1) cap332]) s338 rfl kk rfl rfl kk kk x252 kk kk (by simp) kk kk (.inl (by simp)) (fun w345 g346 x347 s348 => ?_)
      have ho349 := own_grown ho344 g346 (fun j e1 e2 => by cases e2; exact nb54 e1.symm)
      have ho350 := own_grown ho334 g346 (fun j e1 e2 => by cases e2; exact nb340 e1.symm)
      apply F.es
      have x6 := SM.blk s348 x6 (ne2 nb0_c5_1_b2 (fun e9 => ne52 (Option.some.inj e9)))
      have c351 := (SM.belowR c100 s348 (in2 (fun kq e => (World.ownsRow.lt ho87 kq e).1) (fun kq e => (by cases e; exact lo51))))
      apply h12
      refine Rq 2 ?_
      refine Fq (.int .i64 ((i + 1 : Nat) : Int)) (r_add (m := (i : Int)) (n := 1) (z := ((i + 1 : Nat) : Int)) rfl ek ek (by omega) (by omega)) ?_
      refine Fv (.int .i64 ((i + 1 : Nat) : Int)) ?_
      apply F.es
      exact h9 _ _ _ (by omega : ((splitL s 10).length - (i + 1)) < _) ⟨i + 1, nd, (pl ++ [(Pp.mk x253 x260 x267 x274)]), (some ⟨g331, 0, none⟩), (n0_c5_1 + 1), cap332, Kn.of, rfl, (by omega), (by (try rw [List.length_append, List.length_singleton]); omega), (oi_next hor (by omega) (by omega) hx70 hx254 hx261 hx268 hx275), x6, x347, ho349, ho350, nb339, nb340, nr343, c351⟩
     refine Fq (.bool false) (r_eql (m := (((numsOf x69 5).length : Nat) : Int)) (n := 4) rfl ek ek (df q246)) ?_
     refine Fq (.bool false) (r_pick (b := true) rfl ek ek) ?_
     refine Fa (.bool false) ?_
     apply F.es
     apply h19
     refine wp_cond_false ek ?_
     refine wk fun K20 h20 => ?_
     refine W.region_plain (row := (some b2)) [(0, false), (1, true), (2, false)] kk ?_
     have s353 := SG.self w84 (some b2)
     refine Fq (.agg #[.int .i64 0, .slice none 0 0]) (r_build rfl (vs := []) kk kk) ?_
     refine W.ss (v := .agg #[.int .i64 0, .slice none 0 0]) (j := 0) (news := [.int .i64 0, .slice none 0 0]) (cs' := #[.int .i64 0, .slice none 0 0]) s353 rfl kk rfl rfl kk kk x6 kk kk (by simp) kk kk (.inl rfl) (fun w354 g355 x356 s357 => ?_)
     refine Fa (.bool false) ?_
     apply F.es
     have x58 := Sk s357 x58 (fun e9 => ne52 (Option.some.inj e9).symm)
     have c360 := (Sb c100 s357 (fun kq e => by cases e; exact lo8))
     apply h20
     as_aux_lemma =>
      refine wp_ret ?_
      try simp only [Exit.then, Exit.inBlock]
      refine retCT (x := .bool false) rfl kk kk kk kk x356 ?_
      have hpn := pn_no (s := s) (fun m ps h1 h2 => by have h9 := oi_len hx70 (by omega) h1 h2; omega)
      exact fin_net (zs := []) (World.ownsRow_nil _ _ _ _) hpn.2.2.symm hpn.2.1.symm hpn.1.symm c360
    refine Fq (.bool false) (r_gtr (m := (i : Int)) (n := 0) rfl ek ek (df q245)) ?_
    refine Fv (.bool false) ?_
    refine Fs rfl ?_
    refine Fs rfl ?_
    refine Fs rfl ?_
    refine Fq (.bool false) (r_pick (b := false) rfl ek ek) ?_
    refine Fa (.bool false) ?_
    apply F.es
    apply h19
    refine wp_cond_false ek ?_
    refine wk fun K21 h21 => ?_
    refine W.region_plain (row := (some b2)) [(0, false), (1, true), (2, false)] kk ?_
    have s362 := SG.self w84 (some b2)
    refine Fq (.agg #[.int .i64 0, .slice none 0 0]) (r_build rfl (vs := []) kk kk) ?_
    refine W.ss (v := .agg #[.int .i64 0, .slice none 0 0]) (j := 0) (news := [.int .i64 0, .slice none 0 0]) (cs' := #[.int .i64 0, .slice none 0 0]) s362 rfl kk rfl rfl kk kk x6 kk kk (by simp) kk kk (.inl rfl) (fun w363 g364 x365 s366 => ?_)
    refine Fa (.bool false) ?_
    apply F.es
    have x58 := Sk s366 x58 (fun e9 => ne52 (Option.some.inj e9).symm)
    have c369 := (Sb c100 s366 (fun kq e => by cases e; exact lo8))
    apply h21
    refine wp_ret ?_
    try simp only [Exit.then, Exit.inBlock]
    refine retCT (x := .bool false) rfl kk kk kk kk x365 ?_
    have hpn := pn_no (s := s) (fun m ps h1 h2 => by have h9 := oi_len hx70 (by omega) h1 h2; omega)
    exact fin_net (zs := []) (World.ownsRow_nil _ _ _ _) hpn.2.2.symm hpn.2.1.symm hpn.1.symm c369
  refine Fq (.bool false) (r_lss (m := (i : Int)) (n := (((n12 - 1) : Nat) : Int)) rfl ek ek (df q68)) ?_
  apply F.es
  apply h10
  refine wk fun K22 h22 => ?_
  refine wp_cond_false ek ?_
  refine wp_exit ?_
  apply h7
  refine wk fun K23 h23 => ?_
  refine wk fun K24 h24 => ?_
  refine W.region_plain (row := none) [(0, false), (1, true), (2, false), (3, false), (4, false), (5, true), (6, false), (7, false), (8, false)] kk ?_
  have s371 := SG.self wl0 none
  refine Fq (.agg #[.int .i64 nd, .slice A0_c5_1 n0_c5_1 c0_c5_1]) (r_load2 rfl ek kk kk (sgS (blk_cell (j := 0) x58 kk) onn) (sgS (blk_cell (j := 1) x58 kk) onn)) ?_
  refine Fc [.agg #[.int .i64 nd, .slice A0_c5_1 n0_c5_1 c0_c5_1]] (IsValid_any nd A0_c5_1 n0_c5_1 c0_c5_1 pl _ (own_rd ho0_c5_1) (by omega)) ?_
  rintro e w373 ⟨rfl, b372⟩
  have s374 := SG.of_below s371 b372
  refine ⟨_, rfl, s374, ?_⟩
  apply F.nx
  have ho376 := own_kept ho0_c5_1 b372
  rcases Bool.eq_false_or_eq_true (goodN nd pl) with q377 | q377
  ·rw [q377]
   have hgl378 := (good_of q377).len
   refine Fq (.bool false) (r_not (b := true) rfl ek rfl) ?_
   refine Fv (.bool false) ?_
   refine Fq (.agg #[.int .i64 nd, .slice A0_c5_1 n0_c5_1 c0_c5_1]) (r_load2 rfl ek kk kk (sgS (blk_cell (j := 0) x58 kk) onn) (sgS (blk_cell (j := 1) x58 kk) onn)) ?_
   refine Fc [.agg #[.int .i64 nd, .slice A0_c5_1 n0_c5_1 c0_c5_1]] (networkText_any nd A0_c5_1 n0_c5_1 c0_c5_1 pl _ (own_rd ho376) (good_small q377) (tab_kept htab (Sb c67 s374 nkk))) ?_
   rintro e w380 ⟨rfl, b379⟩
   have s381 := SG.of_below s374 b379
   refine ⟨_, rfl, s381, ?_⟩
   apply F.nx
   have ho383 := own_kept ho376 b379
   refine Fv (.string s) ?_
   by_cases q384 : (textN nd pl) = s
   ·refine Fq (.bool false) (r_neqS (s := (textN nd pl)) (r := s) rfl ek ek (by rw [decide_eq_true q384]; try rfl)) ?_
    refine Fq (.bool false) (r_pick (b := false) rfl ek ek) ?_
    apply F.es
    have x6 := Sk s381 x6 onn
    have x58 := Sk s381 x58 onn
    have c385 := (Sb c67 s381 nkk)
    apply h24
    as_aux_lemma =>
     refine wp_cond_false ek ?_
     apply wp_skip
     apply h23
     refine wk fun K25 h25 => ?_
     refine W.region_plain (row := (some b2)) [(0, false), (1, true), (2, false)] kk ?_
     have s386 := SG.self w380 (some b2)
     refine Fq (.agg #[.int .i64 nd, .slice A0_c5_1 n0_c5_1 c0_c5_1]) (r_load2 rfl ek kk kk (sgS (blk_cell (j := 0) x58 kk) (fun e9 => ne52 (Option.some.inj e9).symm)) (sgS (blk_cell (j := 1) x58 kk) (fun e9 => ne52 (Option.some.inj e9).symm))) ?_
     refine W.ss (v := .agg #[.int .i64 nd, .slice A0_c5_1 n0_c5_1 c0_c5_1]) (j := 0) (news := [.int .i64 nd, .slice A0_c5_1 n0_c5_1 c0_c5_1]) (cs' := #[.int .i64 nd, .slice A0_c5_1 n0_c5_1 c0_c5_1]) s386 rfl kk rfl rfl kk kk x6 kk kk (by simp) kk kk (.inl rfl) (fun w387 g388 x389 s390 => ?_)
     have ho392 := own_grown ho383 g388 (fun j e1 e2 => by cases e2; exact nb0_c5_1_b2 e1.symm)
     refine Fa (.bool true) ?_
     apply F.es
     have c393 := (Sb c385 s390 (fun kq e => by cases e; exact lo8))
     apply h25
     refine wp_ret ?_
     try simp only [Exit.then]
     refine retCT (x := .bool true) rfl kk kk kk kk x389 ?_
     have hpn := pn_yes q377 q384 (fun m ps h1 h2 => oi_end hor (by omega) m ps h1 h2)
     exact fin_net ho392 hpn.2.2.symm hpn.2.1.symm hpn.1.symm c393
   refine Fq (.bool true) (r_neqS (s := (textN nd pl)) (r := s) rfl ek ek (by rw [decide_eq_false q384]; try rfl)) ?_
   refine Fq (.bool true) (r_pick (b := false) rfl ek ek) ?_
   apply F.es
   have x6 := Sk s381 x6 onn
   have c394 := (Sb c67 s381 nkk)
   apply h24
   refine wp_cond_true ek ?_
   refine wk fun K26 h26 => ?_
   refine W.region_plain (row := (some b2)) [(0, false), (1, true), (2, false)] kk ?_
   have s395 := SG.self w380 (some b2)
   refine Fq (.agg #[.int .i64 0, .slice none 0 0]) (r_build rfl (vs := []) kk kk) ?_
   refine W.ss (v := .agg #[.int .i64 0, .slice none 0 0]) (j := 0) (news := [.int .i64 0, .slice none 0 0]) (cs' := #[.int .i64 0, .slice none 0 0]) s395 rfl kk rfl rfl kk kk x6 kk kk (by simp) kk kk (.inl rfl) (fun w396 g397 x398 s399 => ?_)
   refine Fa (.bool false) ?_
   apply F.es
   have c402 := (Sb c394 s399 (fun kq e => by cases e; exact lo8))
   apply h26
   refine wp_ret ?_
   try simp only [Exit.then]
   refine retCT (x := .bool false) rfl kk kk kk kk x398 ?_
   have hpn := pn_no (s := s) (fun m ps h1 h2 => by have h9 := oi_end hor (by omega) m ps h1 h2; exact q384 (by rw [h9.1, h9.2]; exact h2))
   exact fin_net (zs := []) (World.ownsRow_nil _ _ _ _) hpn.2.2.symm hpn.2.1.symm hpn.1.symm c402
  rw [q377]
  refine Fq (.bool true) (r_not (b := false) rfl ek rfl) ?_
  refine Fv (.bool true) ?_
  refine Fs s374 ?_
  refine Fs s374 ?_
  refine Fs s374 ?_
  refine Fs s374 ?_
  refine Fq (.bool true) (r_pick (b := true) rfl ek ek) ?_
  apply F.es
  have x6 := Sk s374 x6 onn
  have c403 := (Sb c67 s374 nkk)
  apply h24
  refine wp_cond_true ek ?_
  refine wk fun K27 h27 => ?_
  refine W.region_plain (row := (some b2)) [(0, false), (1, true), (2, false)] kk ?_
  have s404 := SG.self w373 (some b2)
  refine Fq (.agg #[.int .i64 0, .slice none 0 0]) (r_build rfl (vs := []) kk kk) ?_
  refine W.ss (v := .agg #[.int .i64 0, .slice none 0 0]) (j := 0) (news := [.int .i64 0, .slice none 0 0]) (cs' := #[.int .i64 0, .slice none 0 0]) s404 rfl kk rfl rfl kk kk x6 kk kk (by simp) kk kk (.inl rfl) (fun w405 g406 x407 s408 => ?_)
  refine Fa (.bool false) ?_
  apply F.es
  have c411 := (Sb c403 s408 (fun kq e => by cases e; exact lo8))
  apply h27
  as_aux_lemma =>
   refine wp_ret ?_
   try simp only [Exit.then]
   refine retCT (x := .bool false) rfl kk kk kk kk x407 ?_
   have hpn := pn_no (s := s) (fun m ps h1 h2 => by have h9 := oi_end hor (by omega) m ps h1 h2; have h8 := q377; rw [h9.1, h9.2, h1] at h8; cases h8)
   exact fin_net (zs := []) (World.ownsRow_nil _ _ _ _) hpn.2.2.symm hpn.2.1.symm hpn.1.symm c411
end Go.Proofs.YtdlcldaogcbnlaaDoor
