/- Ways back, ways without a bridge, plainly. No program is named here. -/
import Derived.Test.YtdlcldaogcbnlaaWaysP
import Derived.Test.YtdlcldaogcbnlaaShortestWay
import Derived.Test.YtdlcldaogcbnlaaBridgePipes
import Derived.Test.YtdlcldaogcbnlaaRemove
namespace Go.Proofs.Ytdlcldaogcbnlaa
open Go.RowKit
set_option linter.unusedVariables false

theorem goodN_of {m : Int} {ps : List Pp} (h : GoodNet m ps) : goodN m ps = true := by
  unfold goodN
  rw [Bool.and_eq_true, Bool.and_eq_true, inB_iff, decide_eq_true_iff]
  refine ⟨⟨h.lo, h.hi⟩, h.len, ?_⟩
  have key : ∀ n, n ≤ ps.length → okTo m ps n = true := by
    intro n
    induction n with
    | zero => intro _; rfl
    | succ n ih =>
      intro hn
      unfold okTo
      rw [ih (by omega), Bool.true_and]
      have hx : ps[n]? = some ps[n] := List.getElem?_eq_getElem (by omega)
      have ok := h.ok _ (List.getElem_mem (show n < ps.length by omega))
      rcases n with _ | k
      · rw [okAt_zero hx, ok]
      · rw [okAt_next hx (List.getElem?_eq_getElem (show k < ps.length by omega)), ok, Bool.true_and, decide_eq_true_iff]
        exact List.pairwise_iff_getElem.1 h.rise k (k + 1) (by omega) (by omega) (by omega)
  exact key _ (Nat.le_refl _)
theorem GoodNet.without {m : Int} {ps : List Pp} (h : GoodNet m ps) (id : Int) : GoodNet m (without ps id) :=
  ⟨h.lo, h.hi, Nat.le_trans (without_len ps id) h.len, fun p hp => h.ok p (mem_without.1 hp).1, List.Pairwise.filter _ h.rise⟩
theorem find_at {m : Int} {ps : List Pp} (h : GoodNet m ps) {i : Nat} {p : Pp} (hp : ps[i]? = some p) : findL ps p.id = (i : Int) := by
  refine findL_at (fun j z hj hz e => ?_) hp rfl
  have hlt := (List.getElem?_eq_some_iff.1 hp).1
  have h1 := List.pairwise_iff_getElem.1 h.rise j i (by omega) hlt hj
  rw [(List.getElem?_eq_some_iff.1 hz).2, (List.getElem?_eq_some_iff.1 hp).2] at h1
  omega
theorem brL_mem {all ps : List Pp} {id : Int} : id ∈ brL all ps ↔ ∃ p, p ∈ ps ∧ ¬ Reach (joined (without all p.id)) p.fr p.to ∧ p.id = id := by
  unfold brL
  simp [List.mem_map, List.mem_filter, and_assoc]
/-- A pipe is no bridge exactly if there is a way without it. -/
theorem bridge_law {m : Int} {ps : List Pp} {i : Nat} {p : Pp} (h : goodN m ps = true) (hp : ps[i]? = some p) :
    RemovePipe_v1 m ps p.id = true ∧ ShortestWay_v1 (RemovePipe_m0 m ps p.id) (RemovePipe_v0 m ps p.id) p.fr p.to = !(BridgePipes_v0 m ps).contains p.id := by
  have hg := good_of h
  have hf := find_at hg hp
  obtain ⟨r1, r2, r3⟩ := rem_yes (id := p.id) h (by omega)
  refine ⟨r1, ?_⟩
  rw [r2, r3, hf, Int.toNat_natCast, erase_without hg.rise hp]
  have hb : BridgePipes_v0 m ps = brL ps ps := if_pos h
  have hg2 := hg.without p.id
  have he := hg.at hp
  rw [hb]
  have key : (brL ps ps).contains p.id = true ↔ ¬ Reach (joined (without ps p.id)) p.fr p.to := by
    rw [List.contains_iff_mem, brL_mem]
    constructor
    · rintro ⟨q, hq, h1, h2⟩
      have := rises_inj hg.rise hq (List.mem_of_getElem? hp) h2
      subst this; exact h1
    · intro h1; exact ⟨p, List.mem_of_getElem? hp, h1, rfl⟩
  have k2 : ShortestWay_v1 m (without ps p.id) p.fr p.to = true ↔ Reach (joined (without ps p.id)) p.fr p.to := by
    rw [ShortestWay_ok, dist_pos, inB_iff, inB_iff]
    constructor
    · intro h1; exact reach_symm (joined_symm _) h1.2
    · intro h1; exact ⟨⟨⟨goodN_of hg2, he.2.1⟩, goodN_of hg2, he.2.2.1⟩, reach_symm (joined_symm _) h1⟩
  rw [Bool.eq_iff_iff, k2, Bool.not_eq_true', ← Bool.not_eq_true, key]
  exact Classical.not_not.symm
theorem way_wise {m : Int} {ps : List Pp} {u v : Int} (h : ShortestWay_v1 m ps u v = true) :
    goodN m ps = true ∧ pipesIn ps m.toNat ∧ ps.Pairwise (fun a b => a.id < b.id) ∧ ((1 ≤ u ∧ u ≤ m) ∧ (1 ≤ v ∧ v ≤ m)) ∧ 0 ≤ distOf (joined ps) v u ∧ ShortestWay_v0 m ps u v = wayL (distOf (joined ps) v) ps (distOf (joined ps) v u).toNat u := by
  have h2 := ShortestWay_ok.1 h
  have hg := good_of h2.1.1.1
  exact ⟨h2.1.1.1, hg.pipesIn, hg.rise, ⟨inB_iff.1 h2.1.1.2, inB_iff.1 h2.1.2.2⟩, h2.2, if_pos h⟩
theorem way_start {m : Int} {ps : List Pp} {u v : Int} (h : ShortestWay_v1 m ps u v = true) : Onway ps v (ShortestWay_v0 m ps u v) 0 u := by
  obtain ⟨_, _, _, _, h1, h2⟩ := way_wise h
  rw [h2]; exact Onway.start h1
theorem way_back {m : Int} {ps : List Pp} {u v : Int} (h : ShortestWay_v1 m ps u v = true) : ShortestWay_v1 m ps v u = true ∧ (ShortestWay_v0 m ps v u).length = (ShortestWay_v0 m ps u v).length := by
  have h2 := ShortestWay_ok.1 h
  have hg := good_of h2.1.1.1
  have hd : distOf (joined ps) u v = distOf (joined ps) v u := dist_symm (joined_symm ps) _ _
  have hb : ShortestWay_v1 m ps v u = true := ShortestWay_ok.2 ⟨⟨h2.1.2, h2.1.1⟩, by rw [hd]; exact h2.2⟩
  refine ⟨hb, ?_⟩
  obtain ⟨k, hk⟩ := Int.eq_ofNat_of_zero_le h2.2
  have e1 : ShortestWay_v0 m ps u v = wayL (distOf (joined ps) v) ps (distOf (joined ps) v u).toNat u := if_pos h
  have e2 : ShortestWay_v0 m ps v u = wayL (distOf (joined ps) u) ps (distOf (joined ps) u v).toNat v := if_pos hb
  rw [e1, e2, hd, hk, Int.toNat_natCast, wayL_len hg.pipesIn k u hk, wayL_len hg.pipesIn k v (by rw [hd]; exact hk)]

end Go.Proofs.Ytdlcldaogcbnlaa
