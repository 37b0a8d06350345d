/- The mixture of two profiles: both packages make the same list of twenty-four numbers. -/
import Derived.Test.YtanedebkpcpknaaGood
import Derived.Deep.RegionHeld3
namespace Go.Proofs.Ytanedebkpcpknaa
open Go.RowKit
set_option linter.unusedVariables false

def mixAt (a b : List Int) (s : Int) (k : Nat) : Int := a.getD k 0 * s + b.getD k 0 * (100 - s)
def mix (a b : List Int) (s : Int) (k : Nat) : List Int := (List.range k).map (mixAt a b s)
theorem mix_len (a b : List Int) (s : Int) (k : Nat) : (mix a b s k).length = k := by simp [mix]
theorem mix_snoc (a b : List Int) (s : Int) (k : Nat) : intsV (mix a b s k) ++ [.int .i64 (mixAt a b s k)] = intsV (mix a b s (k + 1)) := by
  unfold mix intsV; rw [List.range_succ, List.map_append, List.map_append]; rfl
theorem own3 (w : World) (x y : Obj) (base : Nat) (hb : base ≤ w.heap.size + 2) : (((w.alloc x).alloc y).alloc (.cells #[] 3 (0, 0))).ownsRow base 3 1 (.slice (some ⟨w.heap.size + 1 + 1, 0, none⟩) 0 0) 0 (intsV []) := by
  have h := World.ownsRow_lit (base := base) (e := 3) (size := 1) ((w.alloc x).alloc y) #[] 0 (by simp; omega) (by decide) rfl
  have e : ((w.alloc x).alloc y).heap.size = w.heap.size + 1 + 1 := by simp
  rw [e] at h; exact h
def mixOk (a b : List Int) (s : Int) : Bool := goodP a && (goodP b && inB s 0 100)
def MixProfiles_v0 (a b : List Int) (s : Int) : List Int := if mixOk a b s then mix a b s 24 else []
def MixProfiles_v1 (a b : List Int) (s : Int) : Bool := mixOk a b s
theorem MixProfiles_len (a b : List Int) (s : Int) : (MixProfiles_v0 a b s).length ≤ 1048576 := by
  unfold MixProfiles_v0; split
  · rw [mix_len]; omega
  · simp
theorem good_len3 {zs : List Int} (h : goodP zs = true) : zs.length = 24 ∧ allIn zs = true := by unfold goodP at h; simp at h; exact ⟨h.1, h.2.1⟩
theorem prod_in {x s : Int} (h0 : 0 ≤ x) (h1 : x ≤ 1000) (s0 : 0 ≤ s) (s1 : s ≤ 100) : 0 ≤ x * s ∧ x * s ≤ 100000 := by
  constructor
  · exact Int.mul_nonneg h0 s0
  · have := Int.mul_le_mul h1 s1 s0 (by omega); omega

set_option maxRecDepth 100000 in
set_option maxHeartbeats 1000000 in
theorem MixProfiles_spec (A : Option Addr) (n c : Nat) (a : List Int) (B : Option Addr) (m d : Nat) (b : List Int) (s : Int) (w : World) (ha : Rd w 1 A n (intsV a)) (hb : Rd w 1 B m (intsV b)) (hn : n ≤ 1048576) (hm : m ≤ 1048576) :
    Calls Try.prog 19 #[.agg #[.slice A n c], .agg #[.slice B m d], .int .i64 s] w fun e w' => ∃ C q, e = .returned (.tuple #[.slice C (MixProfiles_v0 a b s).length q, .bool (MixProfiles_v1 a b s)]) ∧ w'.ownsRow w.heap.size 3 1 (.slice C (MixProfiles_v0 a b s).length q) (MixProfiles_v0 a b s).length (intsV (MixProfiles_v0 a b s)) ∧ Below w.heap.size w w' := by
  have hga := fun W (h : Rd W 1 A n (intsV a)) => l6Good_any A n c a W h hn
  have hgb := fun W (h : Rd W 1 B m (intsV b)) => l6Good_any B m d b W h hm
  skip
  have hla : a.length = n := by have := ha.1; rw [ints_len] at this; omega
  have hlb : b.length = m := by have := hb.1; rw [ints_len] at this; omega
  have Ha := Lib.hid ha
  have Hb := Lib.hid hb
  clear ha hb
  have hi := l1In_any s 0 100
  rcases Bool.eq_false_or_eq_true (goodP a) with h1 | h1
  · rcases Bool.eq_false_or_eq_true (goodP b) with h2 | h2
    · rcases Bool.eq_false_or_eq_true (inB s 0 100) with h3 | h3
      · have e0 : MixProfiles_v0 a b s = mix a b s 24 := by simp [MixProfiles_v0, mixOk, h1, h2, h3]
        have e1 : MixProfiles_v1 a b s = true := by simp [MixProfiles_v1, mixOk, h1, h2, h3]
        rw [e0, e1, mix_len]
        obtain rfl : n = 24 := by have := (good_len3 h1).1; omega
        obtain rfl : m = 24 := by have := (good_len3 h2).1; omega
        rw [h1] at hga
        rw [h2] at hgb
        have hs := inB_yes.1 h3
        rw [h3] at hi
        have Hga := Lib.hid hga
        have Hgb := Lib.hid hgb
        have Hi := Lib.hid hi
        have Hall := Lib.hid (And.intro (good_len3 h1).2 (good_len3 h2).2)
        have hs0 := hs.1
        have hs1 := hs.2
        clear hga hgb hi e0 e1 h1 h2 h3 hs hla hlb
        have HO := Lib.hid (own3 w (.cells #[.slice A 24 c] 24 (0, 0)) (.cells #[.slice B 24 d] 24 (0, 0)) (w.heap.size + 2) (by omega))
        go_enter Try.func19, Try.ntmps19
        go_wp2_with fail
        refine (Hga.out _ (Ha.out.kept (below_a3 _ _ _ _))).mono ?_
        rintro e w1 ⟨rfl, b1⟩
        have c1 := below_step (below_a3 _ _ _ _) b1 (by simp <;> omega)
        have hk1 := keeps b1
        go_wp2_with fail
        refine (Hgb.out _ (Hb.out.kept c1)).mono ?_
        rintro e w2 ⟨rfl, b2⟩
        have c2 := also c1 b2
        have hx : w2.cell? ⟨w.heap.size, 0, none⟩ = some (.slice A 24 c) := later b2 ((hk1 _ _ (by simp <;> omega)).trans (by simp [go_sem]))
        have hy : w2.cell? ⟨w.heap.size + 1, 0, none⟩ = some (.slice B 24 d) := later b2 ((hk1 _ _ (by simp <;> omega)).trans (by simp [go_sem]))
        have hz2 : w.heap.size + 2 ≤ w2.heap.size := by have q1 := b1.size; have q2 := b2.size; simp at q1; omega
        have HO2 := Lib.hid (own_kept (own_kept HO.out b1) b2)
        clear hk1
        go_wp2_with fail
        refine (Hi.out _).mono ?_
        rintro e w' ⟨rfl, rfl⟩
        skip
        go_wp2
        skip
        go_loopw [8, 9] (fun v i wr => ∃ k : Nat, k ≤ 24 ∧ i = .int .i64 k ∧ wr.cell? ⟨w.heap.size, 0, none⟩ = some (.slice A 24 c) ∧ wr.cell? ⟨w.heap.size + 1, 0, none⟩ = some (.slice B 24 d) ∧ w.heap.size + 2 ≤ wr.heap.size ∧ wr.ownsRow (w.heap.size + 2) 3 1 v k (intsV (mix a b s k)) ∧ Below w.heap.size w wr) (fun _ i _ => 24 - (intOf i).toNat)
        case atStart => exact ⟨0, by omega, rfl, hx, hy, hz2, HO2.out, c2⟩
        case round =>
          obtain ⟨k, hk, rfl, hx', hy', hz', how, hbel⟩ := hrel
          clear hx hy
          by_cases hlt : k < 24
          · obtain ⟨g, off, u, rfl, hg1, hu, hc⟩ := Ha.out.at1 hlt
            obtain ⟨g', off', u', rfl, hg2, hu', hc'⟩ := Hb.out.at1 hlt
            obtain ⟨x, ex, rfl⟩ := ints_at hu
            obtain ⟨y, ey, rfl⟩ := ints_at hu'
            have hcx := (hbel.cell (p := ⟨g, off + k, none⟩) hg1).trans hc
            have hcy := (hbel.cell (p := ⟨g', off' + k, none⟩) hg2).trans hc'
            have hxi := allIn_at ex Hall.out.1
            have hyi := allIn_at ey Hall.out.2
            have p1 := prod_in hxi.1 hxi.2 hs0 hs1
            have p2 := prod_in hyi.1 hyi.2 (show 0 ≤ 100 - s by omega) (show 100 - s ≤ 100 by omega)
            have hq : mixAt a b s k = x * s + y * (100 - s) := by unfold mixAt; simp [ex, ey]
            have hsn := mix_snoc a b s k
            rw [hq] at hsn
            have Hsn := Lib.hid hsn
            have w1' : IntKind.i64.wrap (100 - s) = 100 - s := IntWalk.i64_in _ (by omega)
            have w2' : IntKind.i64.wrap (x * s) = x * s := IntWalk.i64_in _ (by omega)
            have w3' : IntKind.i64.wrap (y * (100 - s)) = y * (100 - s) := IntWalk.i64_in _ (by omega)
            have w4' : IntKind.i64.wrap (x * s + y * (100 - s)) = x * s + y * (100 - s) := IntWalk.i64_in _ (by omega)
            have hi1 : (k : Int) < 24 := by omega
            have hi0 : (0 : Int) ≤ (k : Int) := by omega
            have hl := World.ownsRow.lt how
            obtain ⟨A8, c8, rfl⟩ := own_form how
            have Hl := Lib.hid (fun bk (hb : bk < w.heap.size + 2) (e : some bk = (Value.slice A8 k c8).ownBlock) => (absurd (hl bk e.symm).1 (by omega) : False))
            have How := Lib.hid how
            have lt1 : w.heap.size < wr.heap.size := by omega
            have lt2 : w.heap.size + 1 < wr.heap.size := by omega
            have lt3 : g < wr.heap.size := by omega
            have lt4 : g' < wr.heap.size := by omega
            clear hu hu' ex ey hc hc' hq hsn hl how hxi hyi p1 p2
            go_wp2_with fail
            go_region_held3 (fun w' => w'.cell? ⟨w.heap.size, 0, none⟩ = some (.slice (some ⟨g, off, none⟩) 24 c) ∧ w'.cell? ⟨w.heap.size + 1, 0, none⟩ = some (.slice (some ⟨g', off', none⟩) 24 d) ∧ w'.cell? ⟨g, off + k, none⟩ = some (.int .i64 x) ∧ w'.cell? ⟨g', off' + k, none⟩ = some (.int .i64 y)) (first | go_keep | (go_split_ands; refine ⟨?_, ?_, ?_, ?_⟩ <;> (rw [hgrow.cell_far _ (by simp <;> omega) (Hl.out _ (by simp <;> omega))]; assumption))) ((refine step_int _ (by rfl) _ _ (by rfl) (w.heap.size + 2) (.slice A8 k c8) k _ (by rfl) ((How.out.alloc _).drew) wr.heap.size (x * s + y * (100 - s)) (by rfl) (by simp [go_sem]) (by omega) (by simp; omega) (wr.heap.size + 1) (by simp) ?_; intro gg cap w3 hown hgrow hat))
            have f1 := hgrow.cell (later (below_a1 _ _).drew hx') (Hl.out _ (by simp))
            have f2 := hgrow.cell (later (below_a1 _ _).drew hy') (Hl.out _ (by simp))
            have f3 := hgrow.size
            have f4 : Below w.heap.size w w3 := Below.grown (Below.alloc hbel (by omega) _).drew hgrow (by simp; omega) (fun j e => by rcases Nat.lt_or_ge j (w.heap.size + 2) with q | q; exact (Hl.out j q e.symm).elim; omega)
            rw [Hsn.out] at hown
            simp at f3
            go_wp2
            go_roundw
            case rel => exact ⟨k + 1, by omega, by go_num, f1, f2, by omega, hown, f4⟩
            case measure => simp [intOf]; omega
          · obtain rfl : k = 24 := by omega
            obtain ⟨A8, c8, rfl⟩ := own_form how
            have How := Lib.hid how
            clear how
            go_wp2
            go_ret2
            exact ⟨_, _, rfl, own_base How.out (by omega), hbel⟩
      · have e0 : MixProfiles_v0 a b s = [] := by simp [MixProfiles_v0, mixOk, h1, h2, h3]
        have e1 : MixProfiles_v1 a b s = false := by simp [MixProfiles_v1, mixOk, h1, h2, h3]
        rw [e0, e1]
        rw [h1] at hga
        rw [h2] at hgb
        rw [h3] at hi
        have Hga := Lib.hid hga
        have Hgb := Lib.hid hgb
        have Hi := Lib.hid hi
        have HO := Lib.hid (own3 w (.cells #[.slice A n c] 24 (0, 0)) (.cells #[.slice B m d] 24 (0, 0)) w.heap.size (by omega))
        clear hga hgb hi e0 e1 h1 h2 h3 hla hlb
        go_enter Try.func19, Try.ntmps19
        go_wp2_with fail
        refine (Hga.out _ (Ha.out.kept (below_a3 _ _ _ _))).mono ?_
        rintro e w1 ⟨rfl, b1⟩
        have c1 := below_step (below_a3 _ _ _ _) b1 (by simp <;> omega)
        have hk1 := keeps b1
        have hy : w1.cell? ⟨w.heap.size + 1, 0, none⟩ = some (.slice B m d) := (hk1 _ _ (by simp <;> omega)).trans (by simp [go_sem])
        have hyq := World.block_lt_of_cell? _ _ hy
        go_wp2_with fail
        refine (Hgb.out _ (Hb.out.kept c1)).mono ?_
        rintro e w2 ⟨rfl, b2⟩
        have c2 := also c1 b2
        go_wp2_with fail
        refine (Hi.out _).mono ?_
        rintro e w' ⟨rfl, rfl⟩
        go_wp2
        go_ret2
        exact ⟨_, _, rfl, (own_kept (own_kept HO.out b1) b2), c2⟩
    · have e0 : MixProfiles_v0 a b s = [] := by simp [MixProfiles_v0, mixOk, h1, h2]
      have e1 : MixProfiles_v1 a b s = false := by simp [MixProfiles_v1, mixOk, h1, h2]
      rw [e0, e1]
      rw [h1] at hga
      rw [h2] at hgb
      skip
      have Hga := Lib.hid hga
      have Hgb := Lib.hid hgb
      have Hi := Lib.hid hi
      have HO := Lib.hid (own3 w (.cells #[.slice A n c] 24 (0, 0)) (.cells #[.slice B m d] 24 (0, 0)) w.heap.size (by omega))
      clear hga hgb hi e0 e1 h1 h2  hla hlb
      go_enter Try.func19, Try.ntmps19
      go_wp2_with fail
      refine (Hga.out _ (Ha.out.kept (below_a3 _ _ _ _))).mono ?_
      rintro e w1 ⟨rfl, b1⟩
      have c1 := below_step (below_a3 _ _ _ _) b1 (by simp <;> omega)
      have hk1 := keeps b1
      have hy : w1.cell? ⟨w.heap.size + 1, 0, none⟩ = some (.slice B m d) := (hk1 _ _ (by simp <;> omega)).trans (by simp [go_sem])
      have hyq := World.block_lt_of_cell? _ _ hy
      go_wp2_with fail
      refine (Hgb.out _ (Hb.out.kept c1)).mono ?_
      rintro e w2 ⟨rfl, b2⟩
      have c2 := also c1 b2
      go_wp2
      go_ret2
      exact ⟨_, _, rfl, (own_kept (own_kept HO.out b1) b2), c2⟩
  · have e0 : MixProfiles_v0 a b s = [] := by simp [MixProfiles_v0, mixOk, h1]
    have e1 : MixProfiles_v1 a b s = false := by simp [MixProfiles_v1, mixOk, h1]
    rw [e0, e1]
    rw [h1] at hga
    skip
    skip
    have Hga := Lib.hid hga
    have Hgb := Lib.hid hgb
    have Hi := Lib.hid hi
    have HO := Lib.hid (own3 w (.cells #[.slice A n c] 24 (0, 0)) (.cells #[.slice B m d] 24 (0, 0)) w.heap.size (by omega))
    clear hga hgb hi e0 e1 h1   hla hlb
    go_enter Try.func19, Try.ntmps19
    go_wp2_with fail
    refine (Hga.out _ (Ha.out.kept (below_a3 _ _ _ _))).mono ?_
    rintro e w1 ⟨rfl, b1⟩
    have c1 := below_step (below_a3 _ _ _ _) b1 (by simp <;> omega)
    go_wp2
    go_ret2
    exact ⟨_, _, rfl, (own_kept HO.out b1), c1⟩

set_option maxRecDepth 100000 in
set_option maxHeartbeats 1000000 in
theorem MixProfiles_impl (A : Option Addr) (n c : Nat) (a : List Int) (B : Option Addr) (m d : Nat) (b : List Int) (s : Int) (w : World) (ha : Rd w 1 A n (intsV a)) (hb : Rd w 1 B m (intsV b)) (hn : n ≤ 1048576) (hm : m ≤ 1048576) :
    Calls Try.prog 20 #[.agg #[.slice A n c], .agg #[.slice B m d], .int .i64 s] w fun e w' => ∃ C q, e = .returned (.tuple #[.slice C (MixProfiles_v0 a b s).length q, .bool (MixProfiles_v1 a b s)]) ∧ w'.ownsRow w.heap.size 3 1 (.slice C (MixProfiles_v0 a b s).length q) (MixProfiles_v0 a b s).length (intsV (MixProfiles_v0 a b s)) ∧ Below w.heap.size w w' := by
  have hga := fun W (h : Rd W 1 A n (intsV a)) => IsValidProfile_impl A n c a W h hn
  have hgb := fun W (h : Rd W 1 B m (intsV b)) => IsValidProfile_impl B m d b W h hm
  unfold IsValidProfile_v0 at hga hgb
  have hla : a.length = n := by have := ha.1; rw [ints_len] at this; omega
  have hlb : b.length = m := by have := hb.1; rw [ints_len] at this; omega
  have Ha := Lib.hid ha
  have Hb := Lib.hid hb
  clear ha hb
  have hi := inside_any s 0 100
  rcases Bool.eq_false_or_eq_true (goodP a) with h1 | h1
  · rcases Bool.eq_false_or_eq_true (goodP b) with h2 | h2
    · rcases Bool.eq_false_or_eq_true (inB s 0 100) with h3 | h3
      · have e0 : MixProfiles_v0 a b s = mix a b s 24 := by simp [MixProfiles_v0, mixOk, h1, h2, h3]
        have e1 : MixProfiles_v1 a b s = true := by simp [MixProfiles_v1, mixOk, h1, h2, h3]
        rw [e0, e1, mix_len]
        obtain rfl : n = 24 := by have := (good_len3 h1).1; omega
        obtain rfl : m = 24 := by have := (good_len3 h2).1; omega
        rw [h1] at hga
        rw [h2] at hgb
        have hs := inB_yes.1 h3
        rw [h3] at hi
        have Hga := Lib.hid hga
        have Hgb := Lib.hid hgb
        have Hi := Lib.hid hi
        have Hall := Lib.hid (And.intro (good_len3 h1).2 (good_len3 h2).2)
        have hs0 := hs.1
        have hs1 := hs.2
        clear hga hgb hi e0 e1 h1 h2 h3 hs hla hlb
        skip
        go_enter Try.func20, Try.ntmps20
        go_wp2_with fail
        refine (Hga.out _ (Ha.out.kept (below_a2 _ _ _))).mono ?_
        rintro e w1 ⟨rfl, b1⟩
        have c1 := below_step (below_a2 _ _ _) b1 (by simp <;> omega)
        have hk1 := keeps b1
        go_wp2_with fail
        refine (Hgb.out _ (Hb.out.kept c1)).mono ?_
        rintro e w2 ⟨rfl, b2⟩
        have c2 := also c1 b2
        have hx : w2.cell? ⟨w.heap.size, 0, none⟩ = some (.slice A 24 c) := later b2 ((hk1 _ _ (by simp <;> omega)).trans (by simp [go_sem]))
        have hy : w2.cell? ⟨w.heap.size + 1, 0, none⟩ = some (.slice B 24 d) := later b2 ((hk1 _ _ (by simp <;> omega)).trans (by simp [go_sem]))
        have hz2 : w.heap.size + 2 ≤ w2.heap.size := by have q1 := b1.size; have q2 := b2.size; simp at q1; omega
        skip
        clear hk1
        go_wp2_with fail
        refine (Hi.out _).mono ?_
        rintro e w' ⟨rfl, rfl⟩
        have hxq : w.heap.size < w2.heap.size := by omega
        go_wp2
        have HO2 := Lib.hid (World.ownsRow_lit (base := w.heap.size + 2) (e := 3) (size := 1) w2 #[] 0 hz2 (by decide) rfl)
        go_loopw [8, 28] (fun v i wr => ∃ k : Nat, k ≤ 24 ∧ i = .int .i64 k ∧ wr.cell? ⟨w.heap.size, 0, none⟩ = some (.slice A 24 c) ∧ wr.cell? ⟨w.heap.size + 1, 0, none⟩ = some (.slice B 24 d) ∧ w.heap.size + 2 ≤ wr.heap.size ∧ wr.ownsRow (w.heap.size + 2) 3 1 v k (intsV (mix a b s k)) ∧ Below w.heap.size w wr) (fun _ i _ => 24 - (intOf i).toNat)
        case atStart => exact ⟨0, by omega, rfl, later (below_a1 _ _) hx, later (below_a1 _ _) hy, by simp; omega, HO2.out, also c2 (below_a1 _ _)⟩
        case round =>
          obtain ⟨k, hk, rfl, hx', hy', hz', how, hbel⟩ := hrel
          clear hx hy
          by_cases hlt : k < 24
          · obtain ⟨g, off, u, rfl, hg1, hu, hc⟩ := Ha.out.at1 hlt
            obtain ⟨g', off', u', rfl, hg2, hu', hc'⟩ := Hb.out.at1 hlt
            obtain ⟨x, ex, rfl⟩ := ints_at hu
            obtain ⟨y, ey, rfl⟩ := ints_at hu'
            have hcx := (hbel.cell (p := ⟨g, off + k, none⟩) hg1).trans hc
            have hcy := (hbel.cell (p := ⟨g', off' + k, none⟩) hg2).trans hc'
            have hxi := allIn_at ex Hall.out.1
            have hyi := allIn_at ey Hall.out.2
            have p1 := prod_in hxi.1 hxi.2 hs0 hs1
            have p2 := prod_in hyi.1 hyi.2 (show 0 ≤ 100 - s by omega) (show 100 - s ≤ 100 by omega)
            have hq : mixAt a b s k = x * s + y * (100 - s) := by unfold mixAt; simp [ex, ey]
            have hsn := mix_snoc a b s k
            rw [hq] at hsn
            have Hsn := Lib.hid hsn
            have w1' : IntKind.i64.wrap (100 - s) = 100 - s := IntWalk.i64_in _ (by omega)
            have w2' : IntKind.i64.wrap (x * s) = x * s := IntWalk.i64_in _ (by omega)
            have w3' : IntKind.i64.wrap (y * (100 - s)) = y * (100 - s) := IntWalk.i64_in _ (by omega)
            have w4' : IntKind.i64.wrap (x * s + y * (100 - s)) = x * s + y * (100 - s) := IntWalk.i64_in _ (by omega)
            have hi1 : (k : Int) < 24 := by omega
            have hi0 : (0 : Int) ≤ (k : Int) := by omega
            have hl := World.ownsRow.lt how
            obtain ⟨A8, c8, rfl⟩ := own_form how
            have Hl := Lib.hid (fun bk (hb : bk < w.heap.size + 2) (e : some bk = (Value.slice A8 k c8).ownBlock) => (absurd (hl bk e.symm).1 (by omega) : False))
            have How := Lib.hid how
            have lt1 : w.heap.size < wr.heap.size := by omega
            have lt2 : w.heap.size + 1 < wr.heap.size := by omega
            have lt3 : g < wr.heap.size := by omega
            have lt4 : g' < wr.heap.size := by omega
            clear hu hu' ex ey hc hc' hq hsn hl how hxi hyi p1 p2
            go_wp2_with (at_builtin; refine append_int _ rfl _ _ rfl (w.heap.size + 2) (.slice A8 k c8) k _ rfl (How.out.alloc _) wr.heap.size (x * s + y * (100 - s)) rfl (by simp [go_sem]) (by omega) (by simp; omega) ?_; intro gg cap w3 hown hgrow hat)
            have f1 := hgrow.cell (later (below_a1 _ _) hx') (Hl.out _ (by simp))
            have f2 := hgrow.cell (later (below_a1 _ _) hy') (Hl.out _ (by simp))
            have f3 := hgrow.size
            have f4 : Below w.heap.size w w3 := Below.grown (Below.alloc hbel (by omega) _) hgrow (by simp; omega) (fun j e => by rcases Nat.lt_or_ge j (w.heap.size + 2) with q | q; exact (Hl.out j q e.symm).elim; omega)
            rw [Hsn.out] at hown
            simp at f3
            skip
            go_roundw
            case rel => exact ⟨k + 1, by omega, by go_num, f1, f2, by omega, hown, f4⟩
            case measure => simp [intOf]; omega
          · obtain rfl : k = 24 := by omega
            obtain ⟨A8, c8, rfl⟩ := own_form how
            have How := Lib.hid how
            clear how
            go_wp2
            go_ret2
            exact ⟨_, _, rfl, own_base How.out (by omega), hbel⟩
      · have e0 : MixProfiles_v0 a b s = [] := by simp [MixProfiles_v0, mixOk, h1, h2, h3]
        have e1 : MixProfiles_v1 a b s = false := by simp [MixProfiles_v1, mixOk, h1, h2, h3]
        rw [e0, e1]
        rw [h1] at hga
        rw [h2] at hgb
        rw [h3] at hi
        have Hga := Lib.hid hga
        have Hgb := Lib.hid hgb
        have Hi := Lib.hid hi
        skip
        clear hga hgb hi e0 e1 h1 h2 h3 hla hlb
        go_enter Try.func20, Try.ntmps20
        go_wp2_with fail
        refine (Hga.out _ (Ha.out.kept (below_a2 _ _ _))).mono ?_
        rintro e w1 ⟨rfl, b1⟩
        have c1 := below_step (below_a2 _ _ _) b1 (by simp <;> omega)
        have hk1 := keeps b1
        have hy : w1.cell? ⟨w.heap.size + 1, 0, none⟩ = some (.slice B m d) := (hk1 _ _ (by simp <;> omega)).trans (by simp [go_sem])
        have hyq := World.block_lt_of_cell? _ _ hy
        go_wp2_with fail
        refine (Hgb.out _ (Hb.out.kept c1)).mono ?_
        rintro e w2 ⟨rfl, b2⟩
        have c2 := also c1 b2
        go_wp2_with fail
        refine (Hi.out _).mono ?_
        rintro e w' ⟨rfl, rfl⟩
        go_wp2
        go_ret2
        exact ⟨_, _, rfl, ⟨rfl, .inl ⟨rfl, rfl⟩⟩, c2⟩
    · have e0 : MixProfiles_v0 a b s = [] := by simp [MixProfiles_v0, mixOk, h1, h2]
      have e1 : MixProfiles_v1 a b s = false := by simp [MixProfiles_v1, mixOk, h1, h2]
      rw [e0, e1]
      rw [h1] at hga
      rw [h2] at hgb
      skip
      have Hga := Lib.hid hga
      have Hgb := Lib.hid hgb
      have Hi := Lib.hid hi
      skip
      clear hga hgb hi e0 e1 h1 h2  hla hlb
      go_enter Try.func20, Try.ntmps20
      go_wp2_with fail
      refine (Hga.out _ (Ha.out.kept (below_a2 _ _ _))).mono ?_
      rintro e w1 ⟨rfl, b1⟩
      have c1 := below_step (below_a2 _ _ _) b1 (by simp <;> omega)
      have hk1 := keeps b1
      have hy : w1.cell? ⟨w.heap.size + 1, 0, none⟩ = some (.slice B m d) := (hk1 _ _ (by simp <;> omega)).trans (by simp [go_sem])
      have hyq := World.block_lt_of_cell? _ _ hy
      go_wp2_with fail
      refine (Hgb.out _ (Hb.out.kept c1)).mono ?_
      rintro e w2 ⟨rfl, b2⟩
      have c2 := also c1 b2
      go_wp2
      go_ret2
      exact ⟨_, _, rfl, ⟨rfl, .inl ⟨rfl, rfl⟩⟩, c2⟩
  · have e0 : MixProfiles_v0 a b s = [] := by simp [MixProfiles_v0, mixOk, h1]
    have e1 : MixProfiles_v1 a b s = false := by simp [MixProfiles_v1, mixOk, h1]
    rw [e0, e1]
    rw [h1] at hga
    skip
    skip
    have Hga := Lib.hid hga
    have Hgb := Lib.hid hgb
    have Hi := Lib.hid hi
    skip
    clear hga hgb hi e0 e1 h1   hla hlb
    go_enter Try.func20, Try.ntmps20
    go_wp2_with fail
    refine (Hga.out _ (Ha.out.kept (below_a2 _ _ _))).mono ?_
    rintro e w1 ⟨rfl, b1⟩
    have c1 := below_step (below_a2 _ _ _) b1 (by simp <;> omega)
    go_wp2
    go_ret2
    exact ⟨_, _, rfl, ⟨rfl, .inl ⟨rfl, rfl⟩⟩, c1⟩

end Go.Proofs.Ytanedebkpcpknaa
