import PyProof.Rows.All
import HandS.TupSets
import KE.KDictKeyed
import KE.KeyNested
import Wide.All
import OpenK.AllK
import Wide.FinOn
import HandS.ForMost
import HandS.ForExc
import HandS.More
import HandS.Defaults
import HandS.MakeKwOnly
import HandS.TupAny
import HandS.Rev
import HandS.Zip
import HandS.NoneIn
import HandS.Small
import HandS.Style
import HandS.Flow
import HandS.IsInst
import HandS.Deep
import HandS.AnyAll
import HandS.HeadHook1
import KE.KDictDisplayH
import KE.GoesEnum
import HandS.Nested
import HandS.Head0
import HandS.Head1
import HandS.Head2
import HandS.HeadEnd
import HandS.HeadHook2
import HandS.HeadWalk
import HandS.Conv
import PyProof.AutoSeq1
import PyProof.Rows.CountFlat
import KE.DataMinMax
import KE.SortData
import HandS.SetIn
import HandS.TupLen
import HandS.List
import HandS.Exc
import HandS.ExcInit
import HandS.ExcIs
import KE.KExcSuper
import HandS.ExcField
import HandS.TryMany
import HandS.WordsExc
import HandS.TupMul
import HandS.GenList
import PyProof.ToksMono
import PyProof.GenRules
import PyProof.RangeFor
import PyProof.EnumIter
import HandS.Iter
import PySem.Challenge.RW_rollwarden_k02_all_records_in_order
set_option Elab.async false
set_option linter.all false
set_option maxRecDepth 100000
set_option maxHeartbeats 4000000
/-! The tables of sets at every size: masks 2^k - 1. -/
namespace Hs
open PySem PySem.Spec PyProof.Rows L2
/-! ### i -> 5 i + 1 runs through all numbers below 2^k -/
def xq : Nat → Nat
  | 0 => 0
  | n + 1 => xq n * 5 + 1
theorem xq_add (a : Nat) : ∀ b, xq (a + b) = 5 ^ b * xq a + xq b
  | 0 => by simp [xq]
  | b + 1 => by
    show xq (a + b) * 5 + 1 = 5 ^ (b + 1) * xq a + (xq b * 5 + 1)
    rw [xq_add a b, Nat.pow_succ, Nat.add_mul]
    have : 5 ^ b * xq a * 5 = 5 ^ b * 5 * xq a := by rw [Nat.mul_right_comm]
    omega
theorem five_odd (n : Nat) : ∃ c, 5 ^ n = 4 * c + 1 := by
  induction n with
  | zero => exact ⟨0, rfl⟩
  | succ n ih =>
    obtain ⟨c, e⟩ := ih
    exact ⟨5 * c + 1, by rw [Nat.pow_succ, e]; omega⟩
theorem xq_pow (k : Nat) : ∃ c, xq (2 ^ k) = 2 ^ k * (2 * c + 1) := by
  induction k with
  | zero => exact ⟨0, rfl⟩
  | succ k ih =>
    obtain ⟨c, e⟩ := ih
    obtain ⟨d, e5⟩ := five_odd (2 ^ k)
    have h2 : 2 ^ (k + 1) = 2 ^ k + 2 ^ k := by rw [Nat.pow_succ]; omega
    refine ⟨d * (2 * c + 1) + c, ?_⟩
    rw [h2, xq_add, e5, e]
    generalize 2 ^ k = m
    have h1 : (4 * d + 1) * (m * (2 * c + 1)) + m * (2 * c + 1) = (4 * d + 2) * (m * (2 * c + 1)) := by
      generalize m * (2 * c + 1) = X
      rw [show 4 * d + 2 = (4 * d + 1) + 1 from rfl, Nat.add_mul (4 * d + 1) 1 X, Nat.one_mul]
    rw [h1]
    have h3 : (m + m) * (2 * (d * (2 * c + 1) + c) + 1) = m * (2 * (2 * (d * (2 * c + 1) + c) + 1)) := by rw [Nat.add_mul, ← Nat.mul_add]; congr 1; omega
    rw [h3, Nat.mul_left_comm (4 * d + 2) m (2 * c + 1)]
    congr 1
    have h4 : (4 * d + 2) * (2 * c + 1) = 4 * (d * (2 * c + 1)) + 2 * (2 * c + 1) := by rw [Nat.add_mul, Nat.mul_assoc]
    rw [h4]
    omega
theorem lcg_xq (m : Nat) : ∀ b, lcgN m b = xq b % (m + 1)
  | 0 => by simp [lcgN, xq]
  | b + 1 => by
    show (lcgN m b * 5 + 1) % (m + 1) = (xq b * 5 + 1) % (m + 1)
    rw [lcg_xq m b, Nat.add_mod, Nat.mod_mul_mod, ← Nat.add_mod]
/-- a number times something odd, by twice the number -/
theorem odd_mod (n c : Nat) (h : 0 < n) : (n * (2 * c + 1)) % (2 * n) = n := by
  have e : n * (2 * c + 1) = n + 2 * n * c := by rw [Nat.mul_add, Nat.mul_one, Nat.add_comm, Nat.mul_left_comm, Nat.mul_assoc]
  rw [e, Nat.add_mul_mod_self_left]
  exact Nat.mod_eq_of_lt (by omega)
theorem xq_step (k b : Nat) : xq (2 ^ k + b) % 2 ^ (k + 1) = (2 ^ k + xq b) % 2 ^ (k + 1) := by
  obtain ⟨c, e⟩ := xq_pow k
  obtain ⟨d, e5⟩ := five_odd b
  have h2 : 2 ^ (k + 1) = 2 * 2 ^ k := by rw [Nat.pow_succ]; omega
  have hp : 0 < 2 ^ k := Nat.pow_pos (by decide)
  rw [xq_add, e, e5, h2]
  have h1 : (4 * d + 1) * (2 ^ k * (2 * c + 1)) = 2 ^ k * (2 * (d * (2 * c + 1) * 2 + c) + 1) := by
    rw [Nat.mul_left_comm]
    congr 1
    rw [Nat.add_mul, Nat.one_mul, Nat.mul_assoc]
    have h5 : d * (2 * c + 1) * 2 = 2 * (d * (2 * c + 1)) := Nat.mul_comm _ _
    omega
  rw [h1, Nat.add_mod, odd_mod _ _ hp]
  conv => rhs; rw [Nat.add_mod, Nat.mod_eq_of_lt (show 2 ^ k < 2 * 2 ^ k by omega)]
theorem xq_all : ∀ (k j : Nat), j < 2 ^ k → ∃ b, b < 2 ^ k ∧ xq b % 2 ^ k = j
  | 0, j, h => ⟨0, by decide, by have : j = 0 := by simpa using h
                                 rw [this]; rfl⟩
  | k + 1, j, h => by
    have h2 : 2 ^ (k + 1) = 2 ^ k + 2 ^ k := by rw [Nat.pow_succ]; omega
    have hp : 0 < 2 ^ k := Nat.pow_pos (by decide)
    obtain ⟨b, hb, e⟩ := xq_all k (j % 2 ^ k) (Nat.mod_lt _ hp)
    have hy : xq b % 2 ^ (k + 1) < 2 ^ (k + 1) := Nat.mod_lt _ (by omega)
    have hym : xq b % 2 ^ (k + 1) % 2 ^ k = j % 2 ^ k := by
      rw [← e, h2, show 2 ^ k + 2 ^ k = 2 ^ k * 2 by omega, Nat.mod_mul_right_mod]
    generalize hyy : xq b % 2 ^ (k + 1) = y at hy hym
    have hsp : ∀ z, z < 2 ^ (k + 1) → z % 2 ^ k = if z < 2 ^ k then z else z - 2 ^ k := fun z hz => by
      split
      · exact Nat.mod_eq_of_lt (by assumption)
      · rw [Nat.mod_eq_sub_mod (by omega)]
        exact Nat.mod_eq_of_lt (by omega)
    rw [hsp y hy, hsp j h] at hym
    by_cases ey : y = j
    · exact ⟨b, by omega, by rw [hyy]; exact ey⟩
    · refine ⟨2 ^ k + b, by omega, ?_⟩
      rw [xq_step, Nat.add_mod, hyy]
      have hl : 2 ^ k % 2 ^ (k + 1) = 2 ^ k := Nat.mod_eq_of_lt (by omega)
      rw [hl]
      split at hym <;> split at hym
      · omega
      · have : 2 ^ k + y = j := by omega
        rw [this]; exact Nat.mod_eq_of_lt h
      · have : 2 ^ k + y = j + 2 ^ (k + 1) := by omega
        rw [this, Nat.add_mod_right]; exact Nat.mod_eq_of_lt h
      · omega
/-- the masks that come -/
def Msk (m : Nat) : Prop := ∃ k, 1 ≤ k ∧ k ≤ 20 ∧ m + 1 = 2 ^ k
theorem msk_odd {m : Nat} (h : Msk m) : m % 2 = 1 := by
  obtain ⟨k, h1, _, e⟩ := h
  obtain ⟨j, rfl⟩ : ∃ j, k = j + 1 := ⟨k - 1, by omega⟩
  rw [Nat.pow_succ] at e
  omega
theorem msk_le {m : Nat} (h : Msk m) : m < 1048576 := by
  obtain ⟨k, _, h2, e⟩ := h
  have : 2 ^ k ≤ 2 ^ 20 := Nat.pow_le_pow_right (by decide) h2
  have e2 : 2 ^ 20 = 1048576 := by decide
  omega
theorem all_slots {m : Nat} (hm : Msk m) {j : Nat} (hj : j ≤ m) : ∃ b, b ≤ m ∧ lcgN m b = j := by
  obtain ⟨k, _, _, e⟩ := hm
  obtain ⟨b, h1, h2⟩ := xq_all k j (by omega)
  exact ⟨b, by omega, by rw [lcg_xq, e]; exact h2⟩
theorem round_back {m : Nat} (hm : Msk m) : ∀ k, lcgN m (m + 1 + k) = lcgN m k := by
  obtain ⟨k0, _, _, e⟩ := hm
  obtain ⟨c, ex⟩ := xq_pow k0
  intro k
  rw [lcg_xq, lcg_xq, e, xq_add, ex, Nat.mul_left_comm, Nat.add_comm, Nat.add_mul_mod_self_left]
theorem from_any {m : Nat} (hm : Msk m) {i j : Nat} (hi : i ≤ m) (hj : j ≤ m) : ∃ k, k ≤ m ∧ lcgI m i k = j := by
  obtain ⟨a, ha, ea⟩ := all_slots hm hi
  obtain ⟨b, hb, eb⟩ := all_slots hm hj
  by_cases c : a ≤ b
  · refine ⟨b - a, by omega, ?_⟩
    have e := lcgN_add m a (b - a)
    rw [ea, show a + (b - a) = b by omega, eb] at e
    exact e
  · refine ⟨m + 1 + b - a, by omega, ?_⟩
    have e := lcgN_add m a (m + 1 + b - a)
    rw [ea, show a + (m + 1 + b - a) = m + 1 + b by omega, round_back hm, eb] at e
    exact e
theorem meets_run {m : Nat} (hm : Msk m) (h : Int) {j : Nat} (hj : j ≤ m) : ∃ n, n ≤ m + 12 ∧ runI m (SetTable.bits h) n = j := by
  obtain ⟨k, h1, h2⟩ := from_any hm (runI_le m (SetTable.bits h) 12) hj
  refine ⟨12 + k, by omega, ?_⟩
  rw [runI_tail (bits_lt h), h2]
theorem meets_way {m : Nat} (hm : Msk m) (h : Int) {j : Nat} (hj : j ≤ m) : ∃ k, k < 10 * SetTable.turns m ∧ way m h k = j := by
  obtain ⟨n, h1, h2⟩ := meets_run hm h hj
  obtain ⟨k, h3, h4⟩ := run_nth m (SetTable.bits h) n
  refine ⟨k, ?_, ?_⟩
  · show k < 10 * (m + 15)
    omega
  · unfold way
    rw [h4]
    exact h2
theorem way_bd {m : Nat} {h : Int} {k : Nat} : way m h k ≤ m := by
  have hi : SetTable.bits h % (m + 1) ≤ m := by have := Nat.mod_lt (SetTable.bits h) (show 0 < m + 1 by omega); omega
  have r := runEnd_bd hi
  have q := nth_in (m := m) k (runAt m (SetTable.bits h % (m + 1)) (SetTable.bits h)) (by
    show SetTable.bits h % (m + 1) + (SetTable.runEnd m _ - SetTable.bits h % (m + 1)) ≤ m
    omega)
  unfold way
  omega
/-! ### a right table -/
structure Tab (t : SetTable) (hs : List Int) : Prop where
  asc : Ris t.place.toList
  nod : t.dummies = #[]
  len : t.place.size = hs.length
  msk : Msk t.mask
  low : ∀ x ∈ t.place.toList, x ≤ t.mask
  rch : ∀ (i : Nat) (h : Int) (j : Nat), hs[i]? = some h → t.place.toList[i]? = some j → ∃ k, L2.way t.mask h k = j ∧ ∀ k', k' < k → L2.way t.mask h k' ∈ t.place.toList
theorem Tab.hole {t : SetTable} {hs : List Int} (T : Tab t hs) (hl : hs.length ≤ t.mask) (h : Int) : ∃ K, K < 10 * SetTable.turns t.mask ∧ way t.mask h K ∉ t.place.toList ∧ ∀ k, k < K → way t.mask h k ∈ t.place.toList := by
  have hlen : t.place.toList.length < t.mask + 1 := by have := T.len; rw [Array.length_toList]; omega
  obtain ⟨j, hj, hn⟩ := st_missing t.place.toList (t.mask + 1) hlen
  obtain ⟨k, hk, e⟩ := meets_way T.msk h (j := j) (by omega)
  obtain ⟨K, h1, h2, h3⟩ := st_least (p := fun k => way t.mask h k ∉ t.place.toList) k (by show way t.mask h k ∉ _; rw [e]; exact hn)
  exact ⟨K, by omega, h2, fun k' hk' => Classical.not_not.mp (h3 k' hk')⟩
theorem Tab.ahead {t : SetTable} {hs : List Int} (T : Tab t hs) {h : Int} {K i j : Nat} (hK : way t.mask h K ∉ t.place.toList) (hi : hs[i]? = some h) (hj : t.place.toList[i]? = some j) : ∃ k, k < K ∧ way t.mask h k = j := by
  obtain ⟨k, e, hb⟩ := T.rch i h j hi hj
  refine ⟨k, ?_, e⟩
  by_cases c : k < K
  · exact c
  · exfalso
    by_cases d : k = K
    · subst d; rw [e] at hK; exact hK (List.mem_of_getElem? hj)
    · exact hK (hb K (by omega))
theorem Tab.put {t : SetTable} {hs : List Int} (T : Tab t hs) {h : Int} {K : Nat} (hK : way t.mask h K ∉ t.place.toList) (hb : ∀ k, k < K → way t.mask h k ∈ t.place.toList) :
    ∃ p, p ≤ hs.length ∧ t.put (way t.mask h K) = ((t.put (way t.mask h K)).1, p) ∧ Tab (t.put (way t.mask h K)).1 (hs.take p ++ h :: hs.drop p) ∧ (t.put (way t.mask h K)).1.fill = hs.length + 1 := by
  obtain ⟨j, hj⟩ : ∃ j, j = way t.mask h K := ⟨_, rfl⟩
  have hjm : j ≤ t.mask := by rw [hj]; exact way_bd
  rw [← hj] at hK ⊢
  have hc := (below_cut T.asc j).1
  have hsz : t.place.toList.length = hs.length := by rw [Array.length_toList]; exact T.len
  have hpl : SetTable.below t.place j ≤ t.place.toList.length := by rw [Array.length_toList]; exact hc
  have hph : SetTable.below t.place j ≤ hs.length := by omega
  have hpp := put_place t j
  have hsize : (t.put j).1.place.size = hs.length + 1 := by rw [← Array.length_toList, hpp, len_ins _ hpl, hsz]
  have hnp : t.place[SetTable.below t.place j]? ≠ some j := fun e => hK (List.mem_of_getElem? (by rw [Array.getElem?_toList]; exact e))
  have more : ∀ x, x ∈ t.place.toList → x ∈ (t.put j).1.place.toList := fun x hx => by rw [hpp]; exact mem_ins.mpr (.inr hx)
  refine ⟨SetTable.below t.place j, hph, rfl, ⟨ris_insert T.asc hnp, put_dm T.nod j, by rw [len_ins _ hph]; exact hsize, T.msk, fun x hx => ?_, fun i h' j' e1 e2 => ?_⟩, ?_⟩
  · rw [hpp] at hx
    rcases mem_ins.mp hx with z | z
    · rw [z]; exact hjm
    · exact T.low x z
  · rw [tins_get hs hph] at e1
    rw [hpp, tins_get _ hpl] at e2
    have old : ∀ i', hs[i']? = some h' → t.place.toList[i']? = some j' → ∃ k, L2.way t.mask h' k = j' ∧ ∀ k', k' < k → L2.way t.mask h' k' ∈ (t.put j).1.place.toList := fun i' a b => by
      obtain ⟨k, e, z⟩ := T.rch i' h' j' a b
      exact ⟨k, e, fun k' hk' => more _ (z k' hk')⟩
    by_cases c : i < SetTable.below t.place j
    · rw [if_pos c] at e1 e2
      exact old i e1 e2
    · rw [if_neg c] at e1 e2
      by_cases d : i = SetTable.below t.place j
      · rw [if_pos d] at e1 e2
        cases e1
        cases e2
        exact ⟨K, hj.symm, fun k' hk' => more _ (hb k' hk')⟩
      · rw [if_neg d] at e1 e2
        exact old _ e1 e2
  · show (t.put j).1.place.size + (t.put j).1.dummies.size = hs.length + 1
    rw [hsize, put_dm T.nod j]
    rfl
/-! ### all laid anew -/
theorem find_free {m : Nat} (hm : Msk m) (ow : Array (Option Nat)) (h : Int) {j : Nat} (hj : j ≤ m) (hf : oAt ow j = none) :
    ∃ K, SetTable.layClean.free m ow (SetTable.turns m) (SetTable.bits h % (m + 1)) (SetTable.bits h) = some (way m h K) ∧ oAt ow (way m h K) = none ∧ ∀ k, k < K → oAt ow (way m h k) ≠ none := by
  obtain ⟨n, hn, e⟩ := meets_run hm h hj
  have hw : way m h (off m (SetTable.bits h % (m + 1)) (SetTable.bits h) n) = j := by
    unfold way
    rw [nth_off, itL_run]
    exact e
  obtain ⟨K, k1, k2, k3⟩ := st_least (p := fun k => oAt ow (way m h k) = none) (off m (SetTable.bits h % (m + 1)) (SetTable.bits h) n) (by show oAt ow (way m h _) = none; rw [hw]; exact hf)
  refine ⟨K, free_spec m ow (SetTable.turns m) n _ _ K (by show n < m + 15; omega) k1 (fun k hk => ?_) (by
    show (oAt ow (way m h K)).isNone = true
    rw [k2]; rfl), k2, k3⟩
  show (oAt ow (way m h k)).isNone = false
  cases z : oAt ow (way m h k) with
  | none => exact absurd z (k3 k hk)
  | some _ => rfl
theorem own_more {m : Nat} (hm : Msk m) {dn : List Int} {ow : Array (Option Nat)} (W : Own m dn ow) (hl : dn.length ≤ m) (h : Int) :
    ∃ j, SetTable.layClean.free m ow (SetTable.turns m) (SetTable.bits h % (m + 1)) (SetTable.bits h) = some j ∧ Own m (dn ++ [h]) (ow.setIfInBounds j (some dn.length)) := by
  obtain ⟨ps, hps, hin⟩ := W.ps
  obtain ⟨j0, h0, hn0⟩ := st_missing ps (m + 1) (by omega)
  have hj0 : oAt ow j0 = none := Classical.byContradiction fun z => hn0 (hin j0 (by omega) z)
  obtain ⟨K, e1, e2, e3⟩ := find_free hm ow h (show j0 ≤ m by omega) hj0
  have hjm : way m h K ≤ m := way_bd
  have self := oAt_set_self (owner := ow) (j := way m h K) (some dn.length) (by rw [W.sz]; omega)
  have others : ∀ i, i ≠ way m h K → oAt (ow.setIfInBounds (way m h K) (some dn.length)) i = oAt ow i := fun i hi => oAt_set_ne _ hi
  have taken : ∀ i, oAt ow i ≠ none → oAt (ow.setIfInBounds (way m h K) (some dn.length)) i ≠ none := fun i hi => by
    by_cases c : i = way m h K
    · rw [c, self]; intro z; cases z
    · rw [others i c]; exact hi
  refine ⟨_, e1, ⟨by rw [Array.size_setIfInBounds]; exact W.sz, fun j k hj e => ?_, fun k hk => ?_, ⟨way m h K :: ps, by simp [hps], fun j hj e => ?_⟩⟩⟩
  · by_cases c : j = way m h K
    · rw [c, self] at e
      cases e
      exact ⟨h, K, by simp, c.symm, fun k' hk' => taken _ (e3 k' hk')⟩
    · rw [others j c] at e
      obtain ⟨h', K', a1, a2, a3⟩ := W.at_ j k hj e
      exact ⟨h', K', by rw [List.getElem?_append_left (List.getElem?_eq_some_iff.mp a1).1]; exact a1, a2, fun k' hk' => taken _ (a3 k' hk')⟩
  · by_cases c : k < dn.length
    · obtain ⟨j, hj, e⟩ := W.all k c
      exact ⟨j, hj, by rw [others j (fun z => by rw [z, e2] at e; cases e)]; exact e⟩
    · rw [List.length_append, List.length_singleton] at hk
      exact ⟨_, hjm, by rw [self, show k = dn.length by omega]⟩
  · by_cases c : j = way m h K
    · rw [c]; exact List.mem_cons_self
    · rw [others j c] at e
      exact List.mem_cons_of_mem _ (hin j hj e)
theorem fold_more {m : Nat} (hm : Msk m) : ∀ (r dn : List Int) (ow : Array (Option Nat)), Own m dn ow → dn.length + r.length ≤ m → ∃ ow', r.foldl (stepF m) (some (ow, dn.length)) = some (ow', (dn ++ r).length) ∧ Own m (dn ++ r) ow'
  | [], dn, ow, W, _ => ⟨ow, by simp, by simpa using W⟩
  | h :: r, dn, ow, W, hl => by
    rw [List.length_cons] at hl
    obtain ⟨j, e, W2⟩ := own_more hm W (by omega) h
    obtain ⟨ow', f, W3⟩ := fold_more hm r (dn ++ [h]) _ W2 (by rw [List.length_append, List.length_singleton]; omega)
    have ea : dn ++ [h] ++ r = dn ++ h :: r := by simp
    rw [ea, List.length_append, List.length_singleton] at f
    rw [ea] at W3
    exact ⟨ow', by rw [List.foldl_cons, stepF_some e]; exact f, W3⟩
theorem clean_ok {m : Nat} (hm : Msk m) {hs : Array Int} (hn : hs.size ≤ m) : ∃ ow, SetTable.layClean m hs = some ow ∧ Own m hs.toList ow := by
  obtain ⟨ow, f, W⟩ := fold_more hm hs.toList [] _ (Own.init m) (by rw [Array.length_toList]; show 0 + hs.size ≤ m; omega)
  rw [List.nil_append] at W f
  refine ⟨ow, ?_, W⟩
  rw [layClean_eq]
  have f' : hs.toList.foldl (stepF m) (some (Array.replicate (m + 1) none, 0)) = some (ow, hs.toList.length) := f
  rw [f']
  rfl
theorem relay_ok (t : SetTable) {hs : Array Int} {wanted M : Nat} (hw : SetTable.sizeAbove wanted - 1 = M) (hM : Msk M) (hn : hs.size ≤ M) :
    ∃ t' ord, t.relaid hs wanted = some (t', ord) ∧ ord.toList.Perm (List.range hs.size) ∧ Tab t' (ord.toList.map fun i => hs.getD i 0) ∧ t'.mask = M ∧ t'.led = t.led ∧ t'.plain = t.plain := by
  obtain ⟨ow, e, W⟩ := clean_ok hM hn
  have hr : t.relaid hs wanted = some (tabOf t M ow, ((liveOf M ow).map (·.2)).toArray) := by
    rw [relaid_eq, hw, e]
    rfl
  have ris := ris_live (fun j => ow.getD j none) (List.range (M + 1)) (by
    unfold Ris
    first | exact List.pairwise_lt_range | exact List.pairwise_lt_range _)
  have r1 : Ris ((liveOf M ow).map (·.1)) := ris.1
  have r2 : ∀ x ∈ (liveOf M ow).map (·.1), x ∈ List.range (M + 1) := ris.2
  have nd : ((liveOf M ow).map (·.1)).Nodup := r1.imp fun z => Nat.ne_of_lt z
  have hlen : (liveOf M ow).length = hs.size := by
    obtain ⟨ps, p1, p2⟩ := W.ps
    have a := nat_nodup_len ((liveOf M ow).map (·.1)) ps nd fun x hx => by
      obtain ⟨⟨y, k⟩, hq, rfl⟩ := List.mem_map.mp hx
      obtain ⟨b1, b2⟩ := (mem_live W.sz).1 hq
      exact p2 y b1 (by rw [b2]; intro z; cases z)
    have b := nat_nodup_len (List.range hs.size) ((liveOf M ow).map (·.2)) List.nodup_range fun k hk => by
      obtain ⟨j, b1, b2⟩ := W.all k (List.mem_range.mp hk)
      exact List.mem_map.mpr ⟨(j, k), (mem_live W.sz).2 ⟨b1, b2⟩, rfl⟩
    rw [List.length_map, p1, Array.length_toList (xs := hs)] at a
    rw [List.length_map, List.length_range] at b
    omega
  refine ⟨_, _, hr, perm_range hs.size _ (by show ((liveOf M ow).map (·.2)).length = _; rw [List.length_map]; exact hlen) fun k hk => ?_, ⟨r1, rfl, ?_, hM, fun x hx => ?_, fun i h j h1 h2 => ?_⟩, rfl, rfl, rfl⟩
  · obtain ⟨j, b1, b2⟩ := W.all k hk
    exact List.mem_map.mpr ⟨(j, k), (mem_live W.sz).2 ⟨b1, b2⟩, rfl⟩
  · show ((liveOf M ow).map (·.1)).toArray.size = _
    simp
  · have := List.mem_range.mp (r2 x hx)
    exact Nat.le_of_lt_succ this
  · have g1 : (((liveOf M ow).map (·.2)).map fun i => hs.getD i 0)[i]? = some h := h1
    have g2 : ((liveOf M ow).map (·.1))[i]? = some j := h2
    rw [List.getElem?_map, List.getElem?_map] at g1
    rw [List.getElem?_map] at g2
    cases hq : (liveOf M ow)[i]? with
    | none => rw [hq] at g2; cases g2
    | some q =>
      obtain ⟨y, k⟩ := q
      rw [hq] at g1 g2
      obtain rfl : y = j := Option.some.inj g2
      have eh : hs.getD k 0 = h := Option.some.inj g1
      obtain ⟨b1, b2⟩ := (mem_live W.sz).1 (List.mem_of_getElem? hq)
      obtain ⟨h0, K, a1, a2, a3⟩ := W.at_ y k b1 b2
      have e0 : hs.getD k 0 = h0 := by rw [Array.getD_eq_getD_getElem?, ← Array.getElem?_toList, a1]; rfl
      obtain rfl : h0 = h := e0.symm.trans eh
      refine ⟨K, a2, fun k' hk' => ?_⟩
      show way M h0 k' ∈ (liveOf M ow).map (·.1)
      cases z : oAt ow (way M h0 k') with
      | none => exact absurd z (a3 k' hk')
      | some k2 => exact List.mem_map.mpr ⟨(way M h0 k', k2), (mem_live W.sz).2 ⟨way_bd, z⟩, rfl⟩
/-- how large the next table is -/
theorem size_go : ∀ (f s k : Nat) (n : Nat), s = 2 ^ k → n < s * 2 ^ f → ∃ j, k ≤ j ∧ SetTable.sizeAbove.go n f s = 2 ^ j ∧ n < 2 ^ j ∧ (2 ^ j ≤ 2 * n ∨ j = k)
  | 0, s, k, n, e, h => ⟨k, Nat.le_refl _, by rw [← e]; rfl, by rw [← e]; simpa using h, .inr rfl⟩
  | f + 1, s, k, n, e, h => by
    unfold SetTable.sizeAbove.go
    split
    · rename_i hc
      obtain ⟨j, h1, h2, h3, h4⟩ := size_go f (s * 2) (k + 1) n (by rw [e, Nat.pow_succ]) (by rw [Nat.mul_assoc, ← Nat.pow_succ']; exact h)
      refine ⟨j, by omega, h2, h3, ?_⟩
      rcases h4 with h4 | h4
      · exact .inl h4
      · left; rw [h4, Nat.pow_succ, ← e]; omega
    · exact ⟨k, Nat.le_refl _, e, by omega, .inr rfl⟩
theorem size_above {n : Nat} (h : n < 400000) : ∃ j, 3 ≤ j ∧ j ≤ 20 ∧ SetTable.sizeAbove n = 2 ^ j ∧ n < 2 ^ j := by
  obtain ⟨j, h1, h2, h3, h4⟩ := size_go 64 8 3 n rfl (by
    have : (400000 : Nat) ≤ 8 * 2 ^ 64 := by decide
    omega)
  refine ⟨j, h1, ?_, h2, h3⟩
  rcases h4 with h4 | h4
  · refine Classical.byContradiction fun z => ?_
    have : 2 ^ 21 ≤ 2 ^ j := Nat.pow_le_pow_right (by decide) (by omega)
    have e : 2 ^ 21 = 2097152 := by decide
    omega
  · omega
end Hs

set_option Elab.async false
set_option linter.all false
set_option maxRecDepth 100000
set_option maxHeartbeats 4000000
/-! Sets of nested tuples: what the model asks of their elements. -/
namespace Hs
open PySem PySem.Spec PyProof.Rows L2
section
variable {P : Program} {w : World}
def NoClass (P : Program) (w : World) (n : Nat) (s : Shared) (v : Value) : Prop := ∀ (A : Around) (E : Value → Shared → Prop) (Q : Bool → Shared → Prop), Q false s → wpAny (model P w) A (ofAClassStatement n v) Q E s
def ByVal (P : Program) (w : World) (n : Nat) (s : Shared) (v : Value) : Prop := ∀ (A : Around) (E : Value → Shared → Prop) (Q : Bool → Shared → Prop), Q true s → wpAny (model P w) A (hashByValue n v) Q E s
theorem NoClass.flat {n : Nat} {s : Shared} {v : Value} (h : ofAClassStatement n v = pure false) : NoClass P w n s v := fun _ _ _ q => by rw [h]; exact wpAny_pure q
theorem ByVal.flat {n : Nat} {s : Shared} {v : Value} (h : hashByValue n v = pure true) : ByVal P w n s v := fun _ _ _ q => by rw [h]; exact wpAny_pure q
theorem NoClass.tuple {n : Nat} {s : Shared} {a : Addr} {o : Obj} {vs : Array Value} {m : Nat} (ho : s.heap.get? a = some o) (hc : o.cls = .type "tuple") (hd : o.data = .seq vs m) (hq : ∀ v ∈ vs.toList, NoClass P w n s v) : NoClass P w (n + 1) s (.ref a) := fun A E Q h => by
  have hT : s.TypeIs (.ref a) "tuple" := ⟨o, ho, hc⟩
  unfold ofAClassStatement
  refine wpAny_bind (wpAny_typeOf hT ?_)
  have e : (("tuple" : String) == "tuple") = true := by decide
  simp only [e, if_true, Bool.not_true, Bool.false_eq_true, if_false]
  try refine wpAny_bind (wpAny_pure ?_)
  try simp only [Bool.not_true, Bool.false_eq_true, if_false]
  refine wpAny_bind (wpAny_seqItems ho hd ?_)
  refine wpAny_bind (show wpAny _ _ (forIn vs _ _) _ _ s from ?_)
  rw [← Array.forIn_toList]
  refine wpAny_forIn_list _ (fun l r s1 => (r.1 = none ∧ s1 = s) ∧ ∀ x ∈ l, NoClass P w n s x) _ (fun v l r s1 i => ?_) (fun r s1 i => ?_) _ _ ⟨⟨rfl, rfl⟩, hq⟩
  · obtain ⟨⟨_, rfl⟩, a2⟩ := i
    refine wpAny_bind (a2 v List.mem_cons_self _ _ _ ?_)
    simp only [Bool.false_eq_true, if_false]
    exact wpAny_pure ⟨⟨rfl, rfl⟩, fun x hx => a2 x (List.mem_cons_of_mem _ hx)⟩
  · obtain ⟨r1, r2⟩ := r
    obtain ⟨⟨a1, rfl⟩, _⟩ := i
    obtain rfl : r1 = none := a1
    exact wpAny_pure h
theorem ByVal.tuple {n : Nat} {s : Shared} {a : Addr} {o : Obj} {vs : Array Value} {m : Nat} (ho : s.heap.get? a = some o) (hc : o.cls = .type "tuple") (hd : o.data = .seq vs m) (hq : ∀ v ∈ vs.toList, ByVal P w n s v) : ByVal P w (n + 1) s (.ref a) := fun A E Q h => by
  have hT : s.TypeIs (.ref a) "tuple" := ⟨o, ho, hc⟩
  unfold hashByValue
  refine wpAny_bind (wpAny_specialOf hT F.slot_tuple_hash.lookup ?_)
  refine (show wpAny _ _ (seqItems? (.ref a) >>= _) _ _ s from wpAny_bind (wpAny_seqItems ho hd ?_))
  refine wpAny_bind (show wpAny _ _ (forIn vs _ _) _ _ s from ?_)
  rw [← Array.forIn_toList]
  refine wpAny_forIn_list _ (fun l r s1 => (r.1 = none ∧ s1 = s) ∧ ∀ x ∈ l, ByVal P w n s x) _ (fun v l r s1 i => ?_) (fun r s1 i => ?_) _ _ ⟨⟨rfl, rfl⟩, hq⟩
  · obtain ⟨⟨_, rfl⟩, a2⟩ := i
    refine wpAny_bind (a2 v List.mem_cons_self _ _ _ ?_)
    simp only [Bool.not_true, Bool.false_eq_true, if_false]
    exact wpAny_pure ⟨⟨rfl, rfl⟩, fun x hx => a2 x (List.mem_cons_of_mem _ hx)⟩
  · obtain ⟨r1, r2⟩ := r
    obtain ⟨⟨a1, rfl⟩, _⟩ := i
    obtain rfl : r1 = none := a1
    exact wpAny_pure h
mutual
theorem noClass_key : ∀ (k : NestedKey) (v : Value) (n : Nat) (s : Shared), NestedIs s.heap k v → k.depth ≤ n → NoClass P w n s v
  | .none, _, n, s, x, _ => by cases x; exact .flat (by cases n <;> rfl)
  | .num i, _, n, s, x, _ => by cases x <;> exact .flat (by cases n <;> rfl)
  | .text y, _, n, s, x, _ => by cases x; exact .flat (by cases n <;> rfl)
  | .tup ks, _, 0, s, x, hn => absurd hn (by simp only [NestedKey.depth]; omega)
  | .tup ks, _, n + 1, s, x, hn => by
    cases x with
    | tup h1 h2 h3 h4 => exact .tuple h1 h2 h3 (noClass_keys ks _ n s h4 (by simp only [NestedKey.depth] at hn; omega))
theorem noClass_keys : ∀ (ks : List NestedKey) (vs : List Value) (n : Nat) (s : Shared), NestedAll s.heap ks vs → NestedKey.depthAll ks ≤ n → ∀ v ∈ vs, NoClass P w n s v
  | [], _, n, s, x, _, v, hv => by cases x; cases hv
  | k :: ks, _, n, s, x, hn, v, hv => by
    cases x with
    | cons x1 x2 =>
      simp only [NestedKey.depthAll] at hn
      cases hv with
      | head => exact noClass_key k _ n s x1 (by omega)
      | tail _ hv => exact noClass_keys ks _ n s x2 (by omega) v hv
end
mutual
/-- no text stands in the key -/
def numb : NestedKey → Bool
  | .none => true
  | .num _ => true
  | .text _ => false
  | .tup ks => numbs ks
def numbs : List NestedKey → Bool
  | [] => true
  | k :: ks => numb k && numbs ks
end
mutual
theorem byVal_key : ∀ (k : NestedKey) (v : Value) (n : Nat) (s : Shared), NestedIs s.heap k v → numb k = true → k.depth ≤ n → ByVal P w n s v
  | .none, _, n, s, x, _, _ => by cases x; exact .flat (by cases n <;> rfl)
  | .num i, _, n, s, x, _, _ => by cases x <;> exact .flat (by cases n <;> rfl)
  | .text y, _, n, s, x, hf, _ => absurd hf (by simp [numb])
  | .tup ks, _, 0, s, x, _, hn => absurd hn (by simp only [NestedKey.depth]; omega)
  | .tup ks, _, n + 1, s, x, hf, hn => by
    cases x with
    | tup h1 h2 h3 h4 => exact .tuple h1 h2 h3 (byVal_keys ks _ n s h4 (by simpa [numb] using hf) (by simp only [NestedKey.depth] at hn; omega))
theorem byVal_keys : ∀ (ks : List NestedKey) (vs : List Value) (n : Nat) (s : Shared), NestedAll s.heap ks vs → numbs ks = true → NestedKey.depthAll ks ≤ n → ∀ v ∈ vs, ByVal P w n s v
  | [], _, n, s, x, _, _, v, hv => by cases x; cases hv
  | k :: ks, _, n, s, x, hf, hn, v, hv => by
    cases x with
    | cons x1 x2 =>
      simp only [NestedKey.depthAll] at hn
      simp only [numbs, Bool.and_eq_true] at hf
      cases hv with
      | head => exact byVal_key k _ n s x1 hf.1 (by omega)
      | tail _ hv => exact byVal_keys ks _ n s x2 hf.2 (by omega) v hv
end
/-- the element at a: a nested tuple of numbers -/
structure El (h : Heap) (k : NestedKey) (a : Addr) : Prop where
  is : NestedIs h k (.ref a)
  deep : k.depth ≤ 8
  num : numb k = true
variable {A : Around} {E : Value → Shared → Prop} {s : Shared}
theorem El.key {h : Heap} {k : NestedKey} {a : Addr} (e : El h k a) : (nestedKind P w).is h k a := ⟨e.is, e.deep⟩
theorem El.inj {h : Heap} {k k' : NestedKey} {a : Addr} (e : El h k a) (e' : El h k' a) : k = k' := NestedIs.inj _ _ _ e.is e'.is
theorem El.keep {h h' : Heap} {k : NestedKey} {a : Addr} (e : El h k a) (hk : ∀ b o, h.get? b = some o → h'.get? b = some o) : El h' k a := ⟨NestedIs.at (fun b o _ _ g _ => hk b o g) _ _ e.is, e.deep, e.num⟩
/-- a set's change leaves it -/
theorem El.but {h h' : Heap} {k : NestedKey} {a b : Addr} {o : Obj} {es : Array (Int × Value)} {ep : Nat} {t : SetTable} (e : El h k b) (ho : h.get? a = some o) (hd : o.data = .set es ep t) (hs : Heap.SameBut a h h') : El h' k b := by
  refine ⟨NestedIs.at (fun c u vs n g q => ?_) _ _ e.is, e.deep, e.num⟩
  refine (hs.2 c fun z => ?_).trans g
  subst z
  rw [ho] at g
  cases g
  rw [hd] at q
  cases q
/-- a search among them shows nothing -/
theorem seen_none {k : NestedKey} {b : Addr} {Q : Bool → Shared → Prop} (hb : El s.heap k b) {ys : List Value} (hy : ∀ y ∈ ys, ∃ k' c, y = Value.ref c ∧ El s.heap k' c) (h : Q false s) :
    wpAny (model P w) A (searchCouldBeSeen (.ref b) ys) Q E s := by
  unfold searchCouldBeSeen
  refine wpAny_bind (wpAny_forIn_list _ (fun l r s1 => (r.1 = none ∧ s1 = s) ∧ ∀ y ∈ l, ∃ k' c, y = Value.ref c ∧ El s.heap k' c) _ (fun v l r s1 i => ?_) (fun r s1 i => ?_) _ _ ⟨⟨rfl, rfl⟩, hy⟩)
  · obtain ⟨⟨_, rfl⟩, a2⟩ := i
    obtain ⟨k', c, rfl, hc⟩ := a2 v List.mem_cons_self
    have more : ∀ y ∈ l, ∃ k' c, y = Value.ref c ∧ El s1.heap k' c := fun y m => a2 y (List.mem_cons_of_mem _ m)
    dsimp only
    by_cases hv : (b == c || (carriedByValue (.ref b) && carriedByValue (.ref c))) = true
    · exact wp_if_pos hv (wpAny_pure ⟨⟨rfl, rfl⟩, more⟩)
    · refine wp_if_neg hv (wpAny_bind ((nestedKind P w).quiet hb.key ?_))
      simp only [Bool.not_true, Bool.false_eq_true, if_false]
      refine wpAny_bind ((nestedKind P w).quiet hc.key ?_)
      simp only [Bool.not_true, Bool.false_eq_true, if_false]
      refine wpAny_bind (noClass_key k _ 8 _ hb.is hb.deep _ _ _ ?_)
      simp only [Bool.false_eq_true, if_false]
      refine wpAny_bind (noClass_key k' _ 8 _ hc.is hc.deep _ _ _ ?_)
      simp only [Bool.false_eq_true, if_false]
      exact wpAny_pure ⟨⟨rfl, rfl⟩, more⟩
  · obtain ⟨r1, r2⟩ := r
    obtain ⟨⟨a1, rfl⟩, _⟩ := i
    obtain rfl : r1 = none := a1
    exact wpAny_pure h
end
/-! ### the set -/
def M6 (m : Nat) : Prop := m = 7 ∨ m = 31 ∨ m = 127 ∨ m = 511 ∨ m = 2047 ∨ m = 8191
theorem M6.msk {m : Nat} (h : M6 m) : Msk m := by
  rcases h with e | e | e | e | e | e <;> subst e
  · exact ⟨3, by decide, by decide, by decide⟩
  · exact ⟨5, by decide, by decide, by decide⟩
  · exact ⟨7, by decide, by decide, by decide⟩
  · exact ⟨9, by decide, by decide, by decide⟩
  · exact ⟨11, by decide, by decide, by decide⟩
  · exact ⟨13, by decide, by decide, by decide⟩
theorem M6.le {m : Nat} (h : M6 m) : m ≤ 8191 := by rcases h with e | e | e | e | e | e <;> omega
/-- how the table grows -/
theorem M6.next {m n : Nat} (h : M6 m) (h1 : n * 5 < m * 3) (h2 : (n + 1) * 5 ≥ m * 3) (h3 : n + 1 < 4000) : ∃ M, M6 M ∧ SetTable.sizeAbove (SetTable.grown (n + 1)) - 1 = M ∧ SetTable.sizeAbove (SetTable.grown (n + 1)) ≤ 8192 ∧ (n + 1) * 5 < M * 3 ∧ n + 1 ≤ m := by
  rcases h with e | e | e | e | e | e <;> subst e
  · obtain rfl : n = 4 := by omega
    exact ⟨31, .inr (.inl rfl), by decide +kernel, by decide +kernel, by decide, by decide⟩
  · obtain rfl : n = 18 := by omega
    exact ⟨127, .inr (.inr (.inl rfl)), by decide +kernel, by decide +kernel, by decide, by decide⟩
  · obtain rfl : n = 76 := by omega
    exact ⟨511, .inr (.inr (.inr (.inl rfl))), by decide +kernel, by decide +kernel, by decide, by decide⟩
  · obtain rfl : n = 306 := by omega
    exact ⟨2047, .inr (.inr (.inr (.inr (.inl rfl)))), by decide +kernel, by decide +kernel, by decide, by decide⟩
  · obtain rfl : n = 1228 := by omega
    exact ⟨8191, .inr (.inr (.inr (.inr (.inr rfl)))), by decide +kernel, by decide +kernel, by decide, by decide⟩
  · omega
end Hs

set_option Elab.async false
set_option linter.all false
set_option maxRecDepth 100000
set_option maxHeartbeats 4000000
/-! Sets of nested tuples of numbers: asking, adding. -/
namespace Hs
open PySem PySem.Spec PyProof.Rows L2
abbrev Row := Addr × NestedKey
def rowsH (w : World) (L : List Row) : List (Int × Value) := L.map fun p => (p.2.hash w, Value.ref p.1)
def hashesH (w : World) (L : List Row) : List Int := L.map fun p => p.2.hash w
theorem rowsH_len (w : World) (L : List Row) : (rowsH w L).length = L.length := List.length_map ..
theorem hashesH_len (w : World) (L : List Row) : (hashesH w L).length = L.length := List.length_map ..
structure SN (w : World) (h : Heap) (a : Addr) (L : List Row) (es : Array (Int × Value)) (ep : Nat) (t : SetTable) : Prop where
  ob : ∃ o, h.get? a = some o ∧ o.ExactSet ∧ o.data = .set es ep t
  rows : es.toList = rowsH w L
  tab : Tab t (hashesH w L)
  m6 : M6 t.mask
  nd : (L.map (·.2)).Nodup
  els : ∀ p ∈ L, El h p.2 p.1
  plain : t.plain = true
  led : w.params.followText "set-order" = true ∨ t.led = true
  room : L.length * 5 < t.mask * 3
  few : L.length < 4000
section
variable {P : Program} {w : World} {A : Around} {E : Value → Shared → Prop} {s : Shared} {a : Addr} {L : List Row} {es : Array (Int × Value)} {ep : Nat} {t : SetTable}
theorem SN.len {h : Heap} (R : SN w h a L es ep t) : es.size = L.length := by
  rw [← Array.length_toList, R.rows, rowsH_len]
theorem fits_of {t : SetTable} {hs : List Int} {n : Nat} (T : Tab t hs) (h : n = hs.length) (hm : hs.length ≤ t.mask) : t.fits n = true := by
  have h1 := T.len
  unfold SetTable.fits SetTable.fill
  rw [T.nod, Bool.and_eq_true, beq_iff_eq, decide_eq_true_eq]
  refine ⟨by omega, ?_⟩
  show t.place.size + 0 ≤ t.mask
  omega
theorem SN.fit {h : Heap} (R : SN w h a L es ep t) : t.fits es.size = true := fits_of R.tab (by rw [R.len, hashesH_len]) (by have := R.room; rw [hashesH_len]; omega)
theorem rowsH_at {w : World} {L : List Row} {es : Array (Int × Value)} (hr : es.toList = rowsH w L) {i : Nat} {p : Row} (h : L[i]? = some p) : es[i]? = some (p.2.hash w, Value.ref p.1) := by
  rw [← Array.getElem?_toList, hr]
  show (L.map _)[i]? = _
  rw [List.getElem?_map, h]
  rfl
theorem nth_clean (m : Nat) : ∀ (n : Nat) (p : SetTable.Probe), p.dummy = none → (nth m p n).dummy = none
  | 0, _, h => h
  | n + 1, p, h => nth_clean m n (adv m p) (by unfold adv; split <;> exact h)
/-- the state of a search, c steps on -/
abbrev stp (m : Nat) (h : Int) (c : Nat) : SetTable.Probe := nth m (runAt m (SetTable.bits h % (m + 1)) (SetTable.bits h)) c
theorem stp_on (m : Nat) (h : Int) (c q : Nat) : nth m (stp m h c) q = stp m h (c + q) := (nth_add m c _ q).symm
theorem way_on (m : Nat) (h : Int) (c q : Nat) : (nth m (stp m h c) q).j = way m h (c + q) := congrArg SetTable.Probe.j (stp_on m h c q)
theorem seek_from (R : SN w s.heap a L es ep t) {x : Addr} {k : NestedKey} (hx : El s.heap k x) (hu : A.units + 8 < cLine) (ad : Bool) {H : Int} (eH : k.hash w = H) {K : Nat} (hKf : K < 10 * SetTable.turns t.mask)
    (hK : way t.mask H K ∉ t.place.toList) (hKb : ∀ c, c < K → way t.mask H c ∈ t.place.toList) {Q : SetFound → Shared → Prop}
    (hin : k ∈ L.map (·.2) → ∀ r : Option Nat, (ad = false → r.isSome = true) → Q (.there r) s) (hout : k ∉ L.map (·.2) → Q (.free (way t.mask H K) false) s) :
    ∀ (f c : Nat) (st : Option SetTable.Probe), st.getD (t.probeStart H) = stp t.mask H c → c ≤ K → K - c < f →
      (∀ (i : Nat) p, L[i]? = some p → p.2 = k → ∃ c', c ≤ c' ∧ c' < K ∧ t.place.toList[i]? = some (way t.mask H c')) →
      wpAny (model P w) A (setSearchFrom a (.ref x) H ad f st) Q E s
  | 0, _, _, _, _, hf, _ => absurd hf (Nat.not_lt_zero _)
  | f + 1, c, st, hst, hc, hf, hre => by
    obtain ⟨o, ho, _, hd⟩ := R.ob
    have odd : ¬ t.gaveWay = true := by
      unfold SetTable.gaveWay
      rw [msk_odd R.m6.msk]
      decide
    have sz := R.tab.len
    rw [hashesH_len] at sz
    have at_ : ∀ (i : Nat) p, L[i]? = some p → (es[i]?.map (·.1)).getD 0 = p.2.hash w := fun i p hp => by rw [rowsH_at R.rows hp]; rfl
    have spec := go_spec t R.tab.asc R.tab.nod (fun i => (es[i]?.map (·.1)).getD 0) H (10 * SetTable.turns t.mask) (K - c) _ (nth_clean t.mask c _ rfl : (stp t.mask H c).dummy = none) (by omega)
      (fun q hq => by rw [way_on]; exact hKb _ (by omega)) (by rw [way_on, show c + (K - c) = K by omega]; exact hK)
    rw [setSearchFrom_succ]
    refine wpAny_bind (wpAny_setState_of ho hd R.fit ?_)
    dsimp only
    refine wp_if_neg odd ?_
    try refine wpAny_bind (wpAny_pure ?_)
    rw [hst]
    rcases spec with ⟨q, i, hq, hi, hh, hno, hpr⟩ | ⟨hno, hpr⟩
    · rw [way_on] at hi
      have hpr2 : t.probe (fun i => (es[i]?.map (·.1)).getD 0) H (stp t.mask H c) = some (.candidate (way t.mask H (c + q)) i (stp t.mask H (c + (q + 1)))) := by
        rw [← way_on t.mask H c q, ← stp_on t.mask H c (q + 1)]
        exact hpr
      rw [hpr2]
      dsimp only
      have hil : i < L.length := by
        have := (List.getElem?_eq_some_iff.mp hi).1
        rw [Array.length_toList] at this
        omega
      obtain ⟨p, hp⟩ : ∃ p, L[i]? = some p := ⟨L[i], List.getElem?_eq_getElem hil⟩
      have hm : p ∈ L := List.mem_of_getElem? hp
      have ent := rowsH_at R.rows hp
      have lv : t.slot (way t.mask H (c + q)) = .live i := slot_live R.tab.asc hi
      have rest : wpAny (model P w) A (searchRest a (.ref x) H ad f es t (way t.mask H (c + q)) i (stp t.mask H (c + (q + 1)))) Q E s := by
        unfold searchRest
        rw [ent]
        dsimp only
        refine wpAny_bind (wpAny_holding ((nestedKind P w).eqBool hu (R.els p hm).key hx.key ?_))
        refine wpAny_bind (wpAny_setState_of ho hd R.fit ?_)
        dsimp only
        by_cases same : p.2 = k
        · have hk : k ∈ L.map (·.2) := List.mem_map.mpr ⟨p, hm, same⟩
          cases ad with
          | true => exact wp_if_pos (by simp [same]) (wpAny_pure (hin hk none (fun z => nomatch z)))
          | false =>
            refine wp_if_neg (by simp) ?_
            try refine wpAny_bind (wpAny_pure ?_)
            rw [sameMem]
            dsimp only
            simp only [if_true, lv, ent]
            refine wpAny_bind (wpAny_isSame_ref_self (wpAny_bind (wpAny_pure ?_)))
            simp only [if_true]
            exact wp_if_pos (by simp [same]) (wpAny_pure (hin hk (some i) fun _ => rfl))
        · refine wp_if_neg (by simp [same]) ?_
          try refine wpAny_bind (wpAny_pure ?_)
          rw [sameMem]
          dsimp only
          simp only [if_true, lv, ent]
          refine wpAny_bind (wpAny_isSame_ref_self (wpAny_bind (wpAny_pure ?_)))
          simp only [if_true]
          refine wp_if_neg (by simp [same]) (seek_from R hx hu ad eH hKf hK hKb hin hout f (c + (q + 1)) _ rfl (by omega) (by omega) fun i0 p0 g1 g2 => ?_)
          obtain ⟨c', b1, b2, b3⟩ := hre i0 p0 g1 g2
          refine ⟨c', Classical.byContradiction fun z => ?_, b2, b3⟩
          by_cases y : c' = c + q
          · rw [y] at b3
            have s0 := slot_live R.tab.asc b3
            rw [lv] at s0
            cases s0
            rw [hp] at g1
            cases g1
            exact same g2
          · refine hno (c' - c) i0 (by omega) (by rw [way_on, show c + (c' - c) = c' by omega]; exact b3) ?_
            show (es[i0]?.map (·.1)).getD 0 = H
            rw [at_ i0 p0 g1, g2, eH]
      by_cases hl : t.led = true
      · refine wp_if_neg (by simp [hl]) ?_
        try refine wpAny_bind (wpAny_pure ?_)
        exact rest
      · refine wp_if_pos (by simp [hl]) (wpAny_bind (seen_none hx (fun y hy => ?_) ?_))
        · have hy' : y ∈ (es.toList.filter (·.1 == H)).map (·.2) := by simpa using hy
          obtain ⟨e, he, rfl⟩ := List.mem_map.mp hy'
          have he2 := (List.mem_filter.mp he).1
          rw [R.rows] at he2
          obtain ⟨p2, hp2, rfl⟩ := List.mem_map.mp he2
          exact ⟨p2.2, p2.1, rfl, R.els p2 hp2⟩
        · refine wp_if_neg (by decide) ?_
          try refine wpAny_bind (wpAny_pure ?_)
          exact rest
    · have hpr2 : t.probe (fun i => (es[i]?.map (·.1)).getD 0) H (stp t.mask H c) = some (.empty (way t.mask H K) none) := by
        have e : way t.mask H K = (nth t.mask (stp t.mask H c) (K - c)).j := by rw [way_on, show c + (K - c) = K by omega]
        rw [e]
        exact hpr
      rw [hpr2]
      dsimp only
      refine wpAny_pure (hout fun hm => ?_)
      obtain ⟨p0, h0, hk0⟩ := List.mem_map.mp hm
      obtain ⟨i0, hi0, e0⟩ := List.getElem_of_mem h0
      have g1 : L[i0]? = some p0 := by rw [List.getElem?_eq_getElem hi0, e0]
      obtain ⟨c', b1, b2, b3⟩ := hre i0 p0 g1 hk0
      refine hno (c' - c) i0 (by omega) (by rw [way_on, show c + (c' - c) = c' by omega]; exact b3) ?_
      show (es[i0]?.map (·.1)).getD 0 = H
      rw [at_ i0 p0 g1, hk0, eH]
theorem seek (R : SN w s.heap a L es ep t) {x : Addr} {k : NestedKey} (hx : El s.heap k x) (hu : A.units + 8 < cLine) (ad : Bool) {Q : SetFound → Shared → Prop}
    (hin : k ∈ L.map (·.2) → ∀ r : Option Nat, (ad = false → r.isSome = true) → Q (.there r) s)
    (hout : ∀ K, k ∉ L.map (·.2) → way t.mask (k.hash w) K ∉ t.place.toList → (∀ c, c < K → way t.mask (k.hash w) c ∈ t.place.toList) → Q (.free (way t.mask (k.hash w) K) false) s) :
    wpAny (model P w) A (setSearch a (.ref x) (k.hash w) ad) Q E s := by
  have room := R.room
  have hle := R.m6.le
  obtain ⟨K, hKf, hK, hKb⟩ := R.tab.hole (by rw [hashesH_len]; omega) (k.hash w)
  have far : K < 100000 := by
    have : 10 * SetTable.turns t.mask = 10 * (t.mask + 15) := rfl
    omega
  unfold setSearch
  refine seek_from R hx hu ad rfl hKf hK hKb hin (fun hn => hout K hn hK hKb) 100000 0 none rfl (Nat.zero_le _) (by omega) fun i p hp hk => ?_
  have hi : (hashesH w L)[i]? = some (k.hash w) := by
    show (L.map _)[i]? = _
    rw [List.getElem?_map, hp, ← hk]
    rfl
  have hil : i < t.place.toList.length := by
    have h1 := (List.getElem?_eq_some_iff.mp hp).1
    have h2 := R.tab.len
    rw [hashesH_len] at h2
    rw [Array.length_toList]
    omega
  have hj := List.getElem?_eq_getElem hil
  obtain ⟨c, c1, c2⟩ := R.tab.ahead hK hi hj
  exact ⟨c, Nat.zero_le _, c1, by rw [hj, c2]⟩
theorem not_scan {x : Addr} {es : Array (Int × Value)} : ¬ byScan (.ref x) es = true := by simp [byScan, Value.scannable]
/-- x in a -/
theorem holds_at (R : SN w s.heap a L es ep t) {x : Addr} {k : NestedKey} (hx : El s.heap k x) (hu : A.units + 8 < cLine) {Q : Bool → Shared → Prop} (h : ∀ tk, Q (decide (k ∈ L.map (·.2))) { s with toks := tk }) :
    wpAny (model P w) A (setContains a (.ref x)) Q E s := by
  unfold setContains
  refine wpAny_holding (wpAny_bind ((nestedKind P w).pyHash hu hx.key ?_))
  refine wpAny_bind ?_
  unfold setFind
  rw [show (100000 : Nat) = 99999 + 1 from rfl]
  unfold setFindIn
  obtain ⟨o, ho, _, hd⟩ := R.ob
  refine wpAny_bind (wpAny_setState_of (s := { s with toks := s.toks + k.draws }) ho hd R.fit ?_)
  dsimp only
  refine wp_if_neg not_scan ?_
  try refine wpAny_bind (wpAny_pure ?_)
  refine wpAny_bind (seek (s := { s with toks := s.toks + k.draws }) R hx hu false (fun hm r hr => ?_) fun K hm _ _ => ?_)
  · refine wpAny_pure (wpAny_pure ?_)
    rw [hr rfl]
    have := h (s.toks + k.draws)
    rwa [decide_eq_true hm] at this
  · refine wpAny_pure (wpAny_pure ?_)
    have := h (s.toks + k.draws)
    rwa [decide_eq_false hm] at this
end
end Hs

set_option Elab.async false
set_option linter.all false
set_option maxRecDepth 100000
set_option maxHeartbeats 4000000
/-! The value layer: Python's data by value (tuples as trees), lists, dicts and instances in a store. Over HandS. -/
namespace Mv
open PySem PySem.Spec PyProof.Rows L2

/-! ### values, objects -/
inductive MV where
  | non
  | bl (b : Bool)
  | int (i : Int)
  | str (s : String)
  | tup (l : List MV)
  | ref (a : Addr)
  /-- a list that is only read (the script) -/
  | frz (l : List MV)
inductive MO where
  /-- a list -/
  | lst (l : List MV)
  /-- a list that is only read (the script) -/
  | rl (l : List MV)
  /-- a dict whose keys are texts -/
  | dct (kvs : List (String × MV))
  /-- an instance of the class with that name -/
  | ins (c : String) (fs : List (String × MV))
  /-- a dict whose keys are tuples of numbers, None and such tuples -/
  | kd (kvs : List (MV × MV))
  /-- a set of tuples of numbers, None and such tuples -/
  | ks (l : List MV)
  /-- a set of ints -/
  | si (l : List Int)
  /-- an own error's dict: its value -/
  | xd (m : MV)
abbrev Env := List (Option MV)
abbrev Sto := Addr → Option MO
def supd (S : Sto) (a : Addr) (o : MO) : Sto := fun b => if b = a then some o else S b
theorem supd_same {S : Sto} {a : Addr} {o : MO} : supd S a o a = some o := by unfold supd; rw [if_pos rfl]
theorem supd_ne {S : Sto} {a b : Addr} {o : MO} (h : b ≠ a) : supd S a o b = S b := by unfold supd; rw [if_neg h]
abbrev MK := MV → Sto → Prop
abbrev ME := Env → Sto → MK → Prop
abbrev MA := Env → Sto → (List MV → Sto → Prop) → Prop
abbrev MT := Env → Sto → (Bool → Sto → Prop) → Prop
structure MD where
  nx : Env → Sto → Prop
  rt : MK
  bk : Env → Sto → Prop := fun _ _ => False
  ct : Env → Sto → Prop := fun _ _ => False
abbrev MS := MD → Env → Sto → Prop
abbrev so (s : String) : Str := Str.ofString s
theorem so_inj {s t : String} (h : so s = so t) : s = t := by
  have h1 : Str.ofString s = Str.ofString t := h
  rw [Str.ofString_eq_toList, Str.ofString_eq_toList] at h1
  injection h1 with h2
  have h3 : s.toList.map Char.toNat = t.toList.map Char.toNat := by
    have := congrArg Array.toList h2
    simpa using this
  have inj : ∀ (l r : List Char), l.map Char.toNat = r.map Char.toNat → l = r := by
    intro l
    induction l with
    | nil => intro r h; cases r with
      | nil => rfl
      | cons a r => cases h
    | cons a l ih => intro r h; cases r with
      | nil => cases h
      | cons b r =>
        injection h with e1 e2
        have e3 : a = b := by
          have : a.val = b.val := by
            apply UInt32.toNat_inj.mp
            exact e1
          exact Char.ext this
        rw [e3, ih r e2]
  have h4 := inj _ _ h3
  exact String.toList_inj.mp h4

/-! ### the relation -/
/-- a list that no one writes -/
def FzL (K : PySem.W.Frag) (H : Hp) (a : Addr) (xs : List V) : Prop := (∃ o, H a = some (.frz o (.lst xs))) ∨
  ∃ (o : Obj) (its : Array Value) (n : Nat), K.lookup a = some o ∧ o.cls = .type "list" ∧ o.dict = none ∧ o.data = .seq its n ∧ its.size ≤ sizeLine ∧ Vals xs its.toList
theorem FzL.sq {K : PySem.W.Frag} {H : Hp} {a : Addr} {xs : List V} (h : FzL K H a xs) : SqL K H a xs := h.elim (fun h => .inl (.inr h)) .inr
mutual
def RM (K : PySem.W.Frag) (H : Hp) : MV → V → Prop
  | .non, v => v = .non
  | .bl b, v => v = .bl b
  | .int i, v => v = .int i
  | .str s, v => v = .str (so s)
  | .ref a, v => v = .ref a
  | .tup l, v => ∃ a xs, v = .ref a ∧ SqT K H a xs ∧ RMs K H l xs
  | .frz l, v => ∃ a xs, v = .ref a ∧ FzL K H a xs ∧ RMs K H l xs
def RMs (K : PySem.W.Frag) (H : Hp) : List MV → List V → Prop
  | [], xs => xs = []
  | m :: l, xs => ∃ x r, xs = x :: r ∧ RM K H m x ∧ RMs K H l r
end
/-- tuples stand, and the lists that no one writes -/
structure TK (K : PySem.W.Frag) (H H' : Hp) : Prop where
  tup : ∀ a xs, SqT K H a xs → SqT K H' a xs
  frz : ∀ a xs, FzL K H a xs → FzL K H' a xs
theorem TK.refl {K : PySem.W.Frag} {H : Hp} : TK K H H := ⟨fun _ _ h => h, fun _ _ h => h⟩
theorem TK.trans {K : PySem.W.Frag} {H H1 H2 : Hp} (a : TK K H H1) (b : TK K H1 H2) : TK K H H2 := ⟨fun c xs h => b.tup c xs (a.tup c xs h), fun c xs h => b.frz c xs (a.frz c xs h)⟩
mutual
theorem RM.monoT {K : PySem.W.Frag} {H H' : Hp} (t : TK K H H') : ∀ (m : MV) {v : V}, RM K H m v → RM K H' m v
  | .non, _, h => h
  | .bl _, _, h => h
  | .int _, _, h => h
  | .str _, _, h => h
  | .ref _, _, h => h
  | .tup l, _, h => by
    unfold RM at h ⊢
    obtain ⟨a, xs, e, s, r⟩ := h
    exact ⟨a, xs, e, t.tup _ _ s, RMs.monoT t l r⟩
  | .frz l, _, h => by
    unfold RM at h ⊢
    obtain ⟨a, xs, e, s, r⟩ := h
    exact ⟨a, xs, e, t.frz _ _ s, RMs.monoT t l r⟩
theorem RMs.monoT {K : PySem.W.Frag} {H H' : Hp} (t : TK K H H') : ∀ (l : List MV) {xs : List V}, RMs K H l xs → RMs K H' l xs
  | [], _, h => h
  | m :: l, _, h => by
    unfold RMs at h ⊢
    obtain ⟨x, r, e, h1, h2⟩ := h
    exact ⟨x, r, e, RM.monoT t m h1, RMs.monoT t l h2⟩
end
theorem RMs.length {K : PySem.W.Frag} {H : Hp} : ∀ {l : List MV} {xs : List V}, RMs K H l xs → xs.length = l.length
  | [], _, h => by unfold RMs at h; rw [h]; rfl
  | m :: l, _, h => by
    unfold RMs at h
    obtain ⟨x, r, e, _, h2⟩ := h
    rw [e, List.length_cons, List.length_cons, RMs.length h2]
theorem RMs.nil {K : PySem.W.Frag} {H : Hp} : RMs K H [] [] := by unfold RMs; rfl
theorem RMs.cons {K : PySem.W.Frag} {H : Hp} {m : MV} {l : List MV} {x : V} {r : List V} (a : RM K H m x) (b : RMs K H l r) : RMs K H (m :: l) (x :: r) := by
  unfold RMs; exact ⟨x, r, rfl, a, b⟩
theorem RMs.get {K : PySem.W.Frag} {H : Hp} : ∀ {l : List MV} {xs : List V} {i : Nat} {m : MV}, RMs K H l xs → l[i]? = some m → ∃ x, xs[i]? = some x ∧ RM K H m x
  | [], _, _, _, _, e => by simp at e
  | m :: l, _, 0, m', h, e => by
    unfold RMs at h
    obtain ⟨x, r, ex, h1, _⟩ := h
    simp at e; subst e; subst ex
    exact ⟨x, rfl, h1⟩
  | m :: l, _, i + 1, m', h, e => by
    unfold RMs at h
    obtain ⟨x, r, ex, _, h2⟩ := h
    subst ex
    obtain ⟨y, e1, e2⟩ := RMs.get (i := i) (m := m') h2 (by simpa using e)
    exact ⟨y, by simpa using e1, e2⟩
theorem RMs.append {K : PySem.W.Frag} {H : Hp} : ∀ {l k : List MV} {xs ys : List V}, RMs K H l xs → RMs K H k ys → RMs K H (l ++ k) (xs ++ ys)
  | [], _, _, _, h, h' => by unfold RMs at h; subst h; exact h'
  | m :: l, _, _, _, h, h' => by
    unfold RMs at h
    obtain ⟨x, r, ex, h1, h2⟩ := h
    subst ex
    exact RMs.cons h1 (RMs.append h2 h')
theorem RMs.take {K : PySem.W.Frag} {H : Hp} : ∀ (n : Nat) {l : List MV} {xs : List V}, RMs K H l xs → RMs K H (l.take n) (xs.take n)
  | 0, _, _, _ => RMs.nil
  | n + 1, [], _, h => by unfold RMs at h; subst h; exact RMs.nil
  | n + 1, m :: l, _, h => by
    unfold RMs at h
    obtain ⟨x, r, ex, h1, h2⟩ := h
    subst ex
    exact RMs.cons h1 (RMs.take n h2)
theorem RMs.drop {K : PySem.W.Frag} {H : Hp} : ∀ (n : Nat) {l : List MV} {xs : List V}, RMs K H l xs → RMs K H (l.drop n) (xs.drop n)
  | 0, _, _, h => h
  | n + 1, [], _, h => by unfold RMs at h; subst h; exact RMs.nil
  | n + 1, m :: l, _, h => by
    unfold RMs at h
    obtain ⟨x, r, ex, h1, h2⟩ := h
    subst ex
    exact RMs.drop n h2
theorem RMs.set {K : PySem.W.Frag} {H : Hp} {m : MV} {x : V} (r : RM K H m x) : ∀ (i : Nat) {l : List MV} {xs : List V}, RMs K H l xs → RMs K H (l.set i m) (xs.set i x)
  | _, [], _, h => by unfold RMs at h; subst h; exact RMs.nil
  | 0, m' :: l, _, h => by
    unfold RMs at h
    obtain ⟨x', r', ex, h1, h2⟩ := h
    subst ex
    exact RMs.cons r h2
  | i + 1, m' :: l, _, h => by
    unfold RMs at h
    obtain ⟨x', r', ex, h1, h2⟩ := h
    subst ex
    exact RMs.cons h1 (RMs.set r i h2)
theorem RMs.erase {K : PySem.W.Frag} {H : Hp} : ∀ (i : Nat) {l : List MV} {xs : List V}, RMs K H l xs → RMs K H (l.eraseIdx i) (xs.eraseIdx i)
  | _, [], _, h => by unfold RMs at h; subst h; exact RMs.nil
  | 0, m' :: l, _, h => by
    unfold RMs at h
    obtain ⟨x', r', ex, h1, h2⟩ := h
    subst ex
    exact h2
  | i + 1, m' :: l, _, h => by
    unfold RMs at h
    obtain ⟨x', r', ex, h1, h2⟩ := h
    subst ex
    exact RMs.cons h1 (RMs.erase i h2)
theorem RMs.reverse {K : PySem.W.Frag} {H : Hp} : ∀ {l : List MV} {xs : List V}, RMs K H l xs → RMs K H l.reverse xs.reverse
  | [], _, h => by unfold RMs at h; subst h; exact RMs.nil
  | m :: l, _, h => by
    unfold RMs at h
    obtain ⟨x, r, ex, h1, h2⟩ := h
    subst ex
    rw [List.reverse_cons, List.reverse_cons]
    exact RMs.append (RMs.reverse h2) (RMs.cons h1 RMs.nil)
theorem RMs.isEmpty {K : PySem.W.Frag} {H : Hp} {l : List MV} {xs : List V} (h : RMs K H l xs) : xs.isEmpty = l.isEmpty := by
  cases l with
  | nil => unfold RMs at h; subst h; rfl
  | cons m l => unfold RMs at h; obtain ⟨x, r, e, _⟩ := h; subst e; rfl

/-! ### dicts whose keys are tuples -/
mutual
def keyN : MV → NestedKey
  | .int i => .num i
  | .tup l => .tup (keyNs l)
  | _ => .none
def keyNs : List MV → List NestedKey
  | [] => []
  | m :: l => keyN m :: keyNs l
end
mutual
/-- a key: numbers, None, tuples of such, to a depth -/
def keyF : MV → Nat → Bool
  | .non, _ => true
  | .int _, _ => true
  | .tup l, n + 1 => keyFs l n
  | _, _ => false
def keyFs : List MV → Nat → Bool
  | [], _ => true
  | m :: l, n => keyF m n && keyFs l n
end
/-- the dict at a, without the keys' tuples -/
def KdH (h : Heap) (a : Addr) (L : List (NestedKey × Addr × V)) : Prop := L.length ≤ sizeLine ∧ (a == sysModules) = false ∧ ∃ xs : List (NestedKey × Addr × Value),
  Paired (fun (p : NestedKey × Addr × V) (q : NestedKey × Addr × Value) => p.1 = q.1 ∧ p.2.1 = q.2.1 ∧ RelV p.2.2 q.2.2) L xs ∧
  ∃ o es ep, h.get? a = some o ∧ o.ExactDict ∧ o.data = .dict es ep ∧ (∀ (P : Program) (w : World), es.toList = xs.map (entryOfKey (nestedKind P w))) ∧ (xs.map (·.1)).Nodup
def KdO (a : Addr) (L : List (NestedKey × Addr × V)) : HO := .ext fun h => KdH h a L
/-- keys and values of the dict -/
def KdR (K : PySem.W.Frag) (H : Hp) : List (MV × MV) → List (NestedKey × Addr × V) → Prop
  | [], L => L = []
  | p :: kvs, L => ∃ x r, L = x :: r ∧ x.1 = keyN p.1 ∧ keyF p.1 8 = true ∧ RM K H p.1 (.ref x.2.1) ∧ RM K H p.2 x.2.2 ∧ KdR K H kvs r
theorem KdR.monoT {K : PySem.W.Frag} {H H' : Hp} (t : TK K H H') : ∀ {kvs : List (MV × MV)} {L : List (NestedKey × Addr × V)}, KdR K H kvs L → KdR K H' kvs L
  | [], _, h => h
  | p :: kvs, _, ⟨x, r, e, h1, h2, h3, h4, h5⟩ => ⟨x, r, e, h1, h2, RM.monoT t _ h3, RM.monoT t _ h4, KdR.monoT t h5⟩
/-- the set at a, without the tuples themselves -/
def KsH (ft : Bool) (h : Heap) (a : Addr) (L : List Hs.Row) : Prop := ∃ (es : Array (Int × Value)) (ep : Nat) (t : SetTable), (∃ o, h.get? a = some o ∧ o.ExactSet ∧ o.data = .set es ep t) ∧ (∀ w, es.toList = Hs.rowsH w L) ∧ (∀ w, Hs.Tab t (Hs.hashesH w L)) ∧ Hs.M6 t.mask ∧
  (L.map (·.2)).Nodup ∧ t.plain = true ∧ (ft = true ∨ t.led = true) ∧ L.length * 5 < t.mask * 3 ∧ L.length < 4000
def KsO (ft : Bool) (a : Addr) (L : List Hs.Row) : HO := .ext fun h => KsH ft h a L
/-- the elements, with their addresses -/
def KsR (K : PySem.W.Frag) (H : Hp) : List MV → List Hs.Row → Prop
  | [], L => L = []
  | m :: l, L => ∃ x r, L = x :: r ∧ x.2 = keyN m ∧ keyF m 8 = true ∧ RM K H m (.ref x.1) ∧ KsR K H l r
theorem KsR.monoT {K : PySem.W.Frag} {H H' : Hp} (t : TK K H H') : ∀ {l : List MV} {L : List Hs.Row}, KsR K H l L → KsR K H' l L
  | [], _, h => h
  | p :: l, _, ⟨x, r, e, h1, h2, h3, h4⟩ => ⟨x, r, e, h1, h2, RM.monoT t _ h3, KsR.monoT t h4⟩
/-- a set of ints at a -/
def SiH (h : Heap) (a : Addr) (l : List Int) : Prop := ∃ (o : Obj) (n : Nat), h.get? a = some o ∧ o.IntSetOf (fun k => decide (k ∈ l)) n ∧ n ≤ l.length ∧ l.length < 4000
def SiO (a : Addr) (l : List Int) : HO := .ext fun h => SiH h a l
/-- the tables that stand; whether sets stand in a text's order -/
structure ZT where
  tabs : List Addr
  ft : Bool
instance : Membership Addr ZT := ⟨fun z a => a ∈ z.tabs⟩
/-- what stands at an address -/
def RO (K : PySem.W.Frag) (ft : Bool) (H : Hp) : MO → Addr → Prop
  | .lst l, a => ∃ xs, H a = some (.lst xs) ∧ RMs K H l xs
  | .rl l, a => ∃ xs, Rd H a (.lst xs) ∧ RMs K H l xs
  | .dct kvs, a => ∃ ks : List (Key × V), H a = some (.dK ks) ∧ ks.map (·.1) = kvs.map (fun p => (Sum.inr (so p.1) : Key)) ∧ RMs K H (kvs.map (·.2)) (ks.map (·.2))
  | .ins c fs, a => ∃ (dx : Addr) (xs : List (Str × V)), H a = some (.ins (He.ga K (so c)) dx xs) ∧ xs.map (·.1) = fs.map (fun p => so p.1) ∧ RMs K H (fs.map (·.2)) (xs.map (·.2))
  | .kd kvs, a => ∃ L : List (NestedKey × Addr × V), H a = some (KdO a L) ∧ KdR K H kvs L
  | .ks l, a => ∃ L L' : List Hs.Row, H a = some (KsO ft a L) ∧ L'.Perm L ∧ KsR K H l L'
  | .si l, a => H a = some (SiO a l)
  | .xd m, a => ∃ x, H a = some (.xd [(("value" : Str), x)]) ∧ RM K H m x
theorem RO.monoT {K : PySem.W.Frag} {ft : Bool} {H H' : Hp} {o : MO} {a : Addr} (r : RO K ft H o a) (t : TK K H H') (e : H' a = H a) : RO K ft H' o a := by
  cases o with
  | lst l => obtain ⟨xs, h1, h2⟩ := r; exact ⟨xs, by rw [e]; exact h1, h2.monoT t l⟩
  | rl l =>
    obtain ⟨xs, h1, h2⟩ := r
    refine ⟨xs, ?_, h2.monoT t l⟩
    rcases h1 with h1 | ⟨o, h1⟩
    · exact .inl (by rw [e]; exact h1)
    · exact .inr ⟨o, by rw [e]; exact h1⟩
  | dct kvs => obtain ⟨ks, h1, h2, h3⟩ := r; exact ⟨ks, by rw [e]; exact h1, h2, h3.monoT t _⟩
  | ins c fs => obtain ⟨dx, xs, h1, h2, h3⟩ := r; exact ⟨dx, xs, by rw [e]; exact h1, h2, h3.monoT t _⟩
  | kd kvs => obtain ⟨L, h1, h2⟩ := r; exact ⟨L, by rw [e]; exact h1, h2.monoT t⟩
  | ks l => obtain ⟨L, L', h1, h2, h3⟩ := r; exact ⟨L, L', by rw [e]; exact h1, h2, h3.monoT t⟩
  | si l => exact e.trans r
  | xd m => obtain ⟨x, h1, h2⟩ := r; exact ⟨x, by rw [e]; exact h1, h2.monoT t m⟩
theorem RO.some {K : PySem.W.Frag} {ft : Bool} {H : Hp} {o : MO} {a : Addr} (r : RO K ft H o a) : ∃ u, H a = some u := by
  cases o with
  | lst l => obtain ⟨xs, h1, h2⟩ := r; exact ⟨_, h1⟩
  | rl l =>
    obtain ⟨xs, h1, h2⟩ := r
    rcases h1 with h1 | ⟨o, h1⟩
    · exact ⟨_, h1⟩
    · exact ⟨_, h1⟩
  | dct kvs => obtain ⟨ks, h1, h2, h3⟩ := r; exact ⟨_, h1⟩
  | ins c fs => obtain ⟨dx, xs, h1, h2, h3⟩ := r; exact ⟨_, h1⟩
  | kd kvs => obtain ⟨L, h1, h2⟩ := r; exact ⟨_, h1⟩
  | ks l => obtain ⟨L, L', h1, h2, h3⟩ := r; exact ⟨_, h1⟩
  | si l => exact ⟨_, r⟩
  | xd m => obtain ⟨x, h1, h2⟩ := r; exact ⟨_, h1⟩
/-- the store is held; the tables at Z stand -/
structure RS (K : PySem.W.Frag) (Z : ZT) (S : Sto) (H : Hp) : Prop where
  ob : ∀ a o, S a = some o → RO K Z.ft H o a
  tab : ∀ P ∈ Z, GxR.TabG H P
/-- the slots -/
structure RE (K : PySem.W.Frag) (H : Hp) (ρ : Env) (σ : L2.St) : Prop where
  len : ρ.length = σ.length
  at_ : ∀ (i : Nat) (m : MV), ρ[i]? = some (some m) → ∃ x, σ[i]? = some (some x) ∧ RM K H m x
theorem RE.monoT {K : PySem.W.Frag} {H H' : Hp} {ρ : Env} {σ : L2.St} (r : RE K H ρ σ) (t : TK K H H') : RE K H' ρ σ :=
  ⟨r.len, fun i m h => let ⟨x, e, q⟩ := r.at_ i m h; ⟨x, e, q.monoT t m⟩⟩
theorem RE.set {K : PySem.W.Frag} {H : Hp} {ρ : Env} {σ : L2.St} {i : Nat} {m : MV} {x : V} (r : RE K H ρ σ) (q : RM K H m x) : RE K H (ρ.set i (some m)) (σ.set i (some x)) := by
  refine ⟨by rw [List.length_set, List.length_set]; exact r.len, fun j m' h => ?_⟩
  by_cases e : i = j
  · subst e
    by_cases hl : i < ρ.length
    · rw [List.getElem?_set_self hl] at h
      cases h
      exact ⟨x, by rw [List.getElem?_set_self (by rw [← r.len]; exact hl)], q⟩
    · rw [List.getElem?_eq_none (by rw [List.length_set]; omega)] at h
      cases h
  · rw [List.getElem?_set_ne e] at h
    obtain ⟨y, e1, e2⟩ := r.at_ j m' h
    exact ⟨y, by rw [List.getElem?_set_ne e]; exact e1, e2⟩
theorem RE.unset {K : PySem.W.Frag} {H : Hp} {ρ : Env} {σ : L2.St} {i : Nat} (r : RE K H ρ σ) : RE K H (ρ.set i none) (σ.set i none) := by
  refine ⟨by rw [List.length_set, List.length_set]; exact r.len, fun j m' h => ?_⟩
  by_cases e : i = j
  · subst e
    by_cases hl : i < ρ.length
    · rw [List.getElem?_set_self hl] at h
      cases h
    · rw [List.getElem?_eq_none (by rw [List.length_set]; omega)] at h
      cases h
  · rw [List.getElem?_set_ne e] at h
    obtain ⟨y, e1, e2⟩ := r.at_ j m' h
    exact ⟨y, by rw [List.getElem?_set_ne e]; exact e1, e2⟩
def wipeM (ρ : Env) : List Nat → Env
  | [] => ρ
  | v :: vs => (wipeM ρ vs).set v none
theorem RE.wiped {K : PySem.W.Frag} {H : Hp} {ρ : Env} {σ : L2.St} (r : RE K H ρ σ) : ∀ vs : List Nat, RE K H (wipeM ρ vs) (L2.wipe σ vs)
  | [] => r
  | v :: vs => by
    unfold wipeM L2.wipe
    exact (r.wiped vs).unset
/-! tuples stand where something else is laid or written -/
theorem TK.upd {K : PySem.W.Frag} {H : Hp} {a : Addr} {o : HO} (h : ∀ xs, ¬ Rd H a (.tup xs)) (h2 : ∀ q xs, H a ≠ some (.frz q (.lst xs))) : TK K H (L2.upd H a o) := by
  refine ⟨fun b xs s => ?_, fun b xs s => ?_⟩
  · rcases s with s | s
    · have hne : b ≠ a := fun e => by subst e; exact h xs s
      left
      rcases s with s | ⟨q, s⟩
      · exact .inl (by rw [upd_ne hne]; exact s)
      · exact .inr ⟨q, by rw [upd_ne hne]; exact s⟩
    · exact .inr s
  · rcases s with ⟨q, s⟩ | s
    · have hne : b ≠ a := fun e => by subst e; exact h2 q xs s
      exact .inl ⟨q, by rw [upd_ne hne]; exact s⟩
    · exact .inr s
theorem TK.new {K : PySem.W.Frag} {H : Hp} {a : Addr} {o : HO} (h : H a = none) : TK K H (L2.upd H a o) := TK.upd (fun xs s => by
  rcases s with s | ⟨q, s⟩ <;> (rw [h] at s; cases s)) fun q xs s => by rw [h] at s; cases s
theorem TK.lst {K : PySem.W.Frag} {H : Hp} {a : Addr} {o : HO} {ys : List V} (h : H a = some (.lst ys)) : TK K H (L2.upd H a o) := TK.upd (fun xs s => by
  rcases s with s | ⟨q, s⟩ <;> (rw [h] at s; cases s)) fun q xs s => by rw [h] at s; cases s
theorem TK.dK {K : PySem.W.Frag} {H : Hp} {a : Addr} {o : HO} {ys : List (Key × V)} (h : H a = some (.dK ys)) : TK K H (L2.upd H a o) := TK.upd (fun xs s => by
  rcases s with s | ⟨q, s⟩ <;> (rw [h] at s; cases s)) fun q xs s => by rw [h] at s; cases s
theorem TK.ins {K : PySem.W.Frag} {H : Hp} {a C dx : Addr} {o : HO} {ys : List (Str × V)} (h : H a = some (.ins C dx ys)) : TK K H (L2.upd H a o) := TK.upd (fun xs s => by
  rcases s with s | ⟨q, s⟩ <;> (rw [h] at s; cases s)) fun q xs s => by rw [h] at s; cases s
theorem TK.kd {K : PySem.W.Frag} {H : Hp} {a b : Addr} {o : HO} {L : List (NestedKey × Addr × V)} (h : H a = some (KdO b L)) : TK K H (L2.upd H a o) := TK.upd (fun xs s => by
  rcases s with s | ⟨q, s⟩ <;> (rw [h] at s; cases s)) fun q xs s => by rw [h] at s; cases s
theorem TK.ks {K : PySem.W.Frag} {H : Hp} {a b : Addr} {o : HO} {ft : Bool} {L : List Hs.Row} (h : H a = some (KsO ft b L)) : TK K H (L2.upd H a o) := TK.upd (fun xs s => by
  rcases s with s | ⟨q, s⟩ <;> (rw [h] at s; cases s)) fun q xs s => by rw [h] at s; cases s
theorem TK.si {K : PySem.W.Frag} {H : Hp} {a b : Addr} {o : HO} {l : List Int} (h : H a = some (SiO b l)) : TK K H (L2.upd H a o) := TK.upd (fun xs s => by
  rcases s with s | ⟨q, s⟩ <;> (rw [h] at s; cases s)) fun q xs s => by rw [h] at s; cases s
theorem TabG.upd {H : Hp} {a P : Addr} {o : HO} (t : GxR.TabG H P) (h : ∀ ps, H a ≠ some (.tbl ps)) : GxR.TabG (L2.upd H a o) P := by
  obtain ⟨ps, e, q⟩ := t
  exact ⟨ps, by rw [upd_ne (fun z => by subst z; exact h ps e)]; exact e, q⟩
section
variable {K : PySem.W.Frag} {Z : ZT} {S : Sto} {H : Hp} {a : Addr}
theorem RS.free (r : RS K Z S H) (h : H a = none) : S a = none := by
  cases e : S a with
  | none => rfl
  | some o =>
    obtain ⟨u, hu⟩ := (r.ob a o e).some
    rw [h] at hu; cases hu
/-- something that is not in the store is laid -/
theorem RS.hid {o : HO} (r : RS K Z S H) (h : H a = none) : RS K Z S (upd H a o) := by
  refine ⟨fun b u e => (r.ob b u e).monoT (TK.new h) ?_, fun P hP => TabG.upd (r.tab P hP) fun ps e => by rw [h] at e; cases e⟩
  rw [upd_ne]
  rintro rfl
  rw [r.free h] at e; cases e
/-- something that is not in the store is changed -/
theorem RS.hidW {o : HO} {ys : List V} (r : RS K Z S H) (h : H a = some (.lst ys)) (n : S a = none) : RS K Z S (upd H a o) := by
  refine ⟨fun b u e => (r.ob b u e).monoT (TK.lst h) ?_, fun P hP => TabG.upd (r.tab P hP) fun ps e => by rw [h] at e; cases e⟩
  rw [upd_ne]
  rintro rfl
  rw [n] at e; cases e
theorem RS.put {o : HO} {m : MO} (r : RS K Z S H) (t : TK K H (upd H a o)) (nt : ∀ ps, H a ≠ some (.tbl ps)) (q : RO K Z.ft (upd H a o) m a) : RS K Z (supd S a m) (upd H a o) := by
  refine ⟨fun b u e => ?_, fun P hP => TabG.upd (r.tab P hP) nt⟩
  by_cases hb : b = a
  · subst hb
    rw [supd_same] at e; cases e
    exact q
  · rw [supd_ne hb] at e
    exact (r.ob b u e).monoT t (upd_ne hb)
/-- a new list -/
theorem RS.newL {l : List MV} {xs : List V} (r : RS K Z S H) (h : H a = none) (q : RMs K H l xs) : RS K Z (supd S a (.lst l)) (upd H a (.lst xs)) :=
  r.put (TK.new h) (fun ps e => by rw [h] at e; cases e) ⟨xs, upd_same, q.monoT (TK.new h) l⟩
theorem RS.setL {l l' : List MV} {xs ys : List V} (r : RS K Z S H) (h : H a = some (.lst ys)) (q : RMs K H l' xs) : RS K Z (supd S a (.lst l')) (upd H a (.lst xs)) :=
  r.put (TK.lst h) (fun ps e => by rw [h] at e; cases e) ⟨xs, upd_same, q.monoT (TK.lst h) l'⟩
theorem RS.lst {l : List MV} (r : RS K Z S H) (e : S a = some (.lst l)) : ∃ xs, H a = some (.lst xs) ∧ RMs K H l xs := r.ob a _ e
end

/-- tuples stand; what is not in the store is left alone -/
structure GK (K : PySem.W.Frag) (S : Sto) (H : Hp) (S' : Sto) (H' : Hp) : Prop where
  tk : TK K H H'
  fr : ∀ a o, S a = none → H a = some o → (∀ ps, o ≠ .tbl ps) → H' a = some o ∧ S' a = none
theorem GK.refl {K : PySem.W.Frag} {S : Sto} {H : Hp} : GK K S H S H := ⟨TK.refl, fun a o h e _ => ⟨e, h⟩⟩
theorem GK.trans {K : PySem.W.Frag} {S S1 S2 : Sto} {H H1 H2 : Hp} (a : GK K S H S1 H1) (b : GK K S1 H1 S2 H2) : GK K S H S2 H2 :=
  ⟨a.tk.trans b.tk, fun c o h e n => let ⟨e1, n1⟩ := a.fr c o h e n; b.fr c o n1 e1 n⟩
theorem GK.hid {K : PySem.W.Frag} {S : Sto} {H : Hp} {p : Addr} {o : HO} (h : H p = none) : GK K S H S (upd H p o) :=
  ⟨TK.new h, fun c u n e _ => ⟨by rw [upd_ne (ne_of_none e h)]; exact e, n⟩⟩
theorem GK.new {K : PySem.W.Frag} {S : Sto} {H : Hp} {p : Addr} {o : HO} {m : MO} (h : H p = none) : GK K S H (supd S p m) (upd H p o) :=
  ⟨TK.new h, fun c u n e _ => ⟨by rw [upd_ne (ne_of_none e h)]; exact e, by rw [supd_ne (ne_of_none e h)]; exact n⟩⟩
theorem GK.put {K : PySem.W.Frag} {S : Sto} {H : Hp} {p : Addr} {o : HO} {m m' : MO} (t : TK K H (upd H p o)) (h : S p = some m') : GK K S H (supd S p m) (upd H p o) :=
  ⟨t, fun c u n e _ => by
    have hne : c ≠ p := fun z => by subst z; rw [h] at n; cases n
    exact ⟨by rw [upd_ne hne]; exact e, by rw [supd_ne hne]; exact n⟩⟩
theorem RM.mono {K : PySem.W.Frag} {S S' : Sto} {H H' : Hp} {m : MV} {v : V} (r : RM K H m v) (g : GK K S H S' H') : RM K H' m v := RM.monoT g.tk m r
theorem RMs.mono {K : PySem.W.Frag} {S S' : Sto} {H H' : Hp} {m : List MV} {v : List V} (r : RMs K H m v) (g : GK K S H S' H') : RMs K H' m v := RMs.monoT g.tk m r
theorem RE.mono {K : PySem.W.Frag} {S S' : Sto} {H H' : Hp} {ρ : Env} {σ : L2.St} (r : RE K H ρ σ) (g : GK K S H S' H') : RE K H' ρ σ := RE.monoT r g.tk

/-! ### the judgements -/
def PEat (X : Cx) (e : Expr) (σ : L2.St) (H : Hp) (Q : VK) : Prop := ∀ (pins : List (Addr × Obj)) (s : Shared), Inv X pins σ H s → wpAny (model X.prog X.w) X.A (eval e X.env) (EP X pins σ Q) X.xe s
def PTat (X : Cx) (e : Expr) (σ : L2.St) (H : Hp) (Q : Bool → Hp → Prop) : Prop := ∀ (pins : List (Addr × Obj)) (s : Shared), Inv X pins σ H s → wpAny (model X.prog X.w) X.A (isTrue e X.env (eval e X.env)) (TP X pins σ Q) X.xe s
/-- the value-level wish, for the layer below -/
def MQ (K : PySem.W.Frag) (Z : ZT) (S : Sto) (H : Hp) (R : MK) : VK := fun v H' => ∃ m S', GK K S H S' H' ∧ RM K H' m v ∧ RS K Z S' H' ∧ R m S'
/-- what is not needed any more is dropped -/
def dropK (R : MK) : MK := fun v S' => ∃ S2 : Sto, (∀ a o, S2 a = some o → S' a = some o) ∧ R v S2
theorem RS.drop {K : PySem.W.Frag} {Z : ZT} {S S2 : Sto} {H : Hp} (r : RS K Z S H) (h : ∀ a o, S2 a = some o → S a = some o) : RS K Z S2 H := ⟨fun a o e => r.ob a o (h a o e), r.tab⟩
theorem GK.drop {K : PySem.W.Frag} {S S' S2 : Sto} {H H' : Hp} (g : GK K S H S' H') (h : ∀ a o, S2 a = some o → S' a = some o) : GK K S H S2 H' :=
  ⟨g.tk, fun a o n e nt => by
    obtain ⟨e1, n1⟩ := g.fr a o n e nt
    refine ⟨e1, ?_⟩
    cases q : S2 a with
    | none => rfl
    | some u => rw [h a u q] at n1; cases n1⟩
theorem MQ.drop {K : PySem.W.Frag} {Z : ZT} {S : Sto} {H : Hp} {R : MK} {v : V} {H' : Hp} (q : MQ K Z S H (dropK R) v H') : MQ K Z S H R v H' :=
  let ⟨m, _, g, r, s, S2, h, q⟩ := q; ⟨m, S2, g.drop h, r, s.drop h, q⟩
def MQs (K : PySem.W.Frag) (Z : ZT) (S : Sto) (H : Hp) (R : List MV → Sto → Prop) : List V → Hp → Prop := fun vs H' => ∃ ms S', GK K S H S' H' ∧ RMs K H' ms vs ∧ RS K Z S' H' ∧ R ms S'
def MQb (K : PySem.W.Frag) (Z : ZT) (S : Sto) (H : Hp) (R : Bool → Sto → Prop) : Bool → Hp → Prop := fun b H' => ∃ S', GK K S H S' H' ∧ RS K Z S' H' ∧ R b S'
def MQd (K : PySem.W.Frag) (Z : ZT) (S : Sto) (H : Hp) (R : Env → Sto → Prop) : L2.St → Hp → Prop := fun σ' H' => ∃ ρ' S', GK K S H S' H' ∧ RE K H' ρ' σ' ∧ RS K Z S' H' ∧ R ρ' S'
def toE (K : PySem.W.Frag) (Z : ZT) (S : Sto) (H : Hp) (D : MD) : Ends := { nx := MQd K Z S H D.nx, rt := MQ K Z S H D.rt, bk := MQd K Z S H D.bk, ct := MQd K Z S H D.ct }
structure EE (X : Cx) (Z : ZT) (e : Expr) (m : ME) : Prop where
  run : ∀ (σ : L2.St) (H : Hp) (ρ : Env) (S : Sto) (R : MK), RE X.K H ρ σ → RS X.K Z S H → m ρ S R → PEat X e σ H (MQ X.K Z S H R)
structure ET (X : Cx) (Z : ZT) (e : Expr) (m : MT) : Prop where
  run : ∀ (σ : L2.St) (H : Hp) (ρ : Env) (S : Sto) (R : Bool → Sto → Prop), RE X.K H ρ σ → RS X.K Z S H → m ρ S R → PTat X e σ H (MQb X.K Z S H R)
def tM (K : PySem.W.Frag) (Z : ZT) (m : ME) : TE := fun σ H Q => ∃ ρ S R, RE K H ρ σ ∧ RS K Z S H ∧ m ρ S R ∧ ∀ v H', MQ K Z S H R v H' → Q v H'
def tMT (K : PySem.W.Frag) (Z : ZT) (m : MT) : TT := fun σ H Q => ∃ ρ S R, RE K H ρ σ ∧ RS K Z S H ∧ m ρ S R ∧ ∀ v H', MQb K Z S H R v H' → Q v H'
def tMA (K : PySem.W.Frag) (Z : ZT) (m : MA) : TA := fun σ H Q => ∃ ρ S R, RE K H ρ σ ∧ RS K Z S H ∧ m ρ S R ∧ ∀ v H', MQs K Z S H R v H' → Q v H'
def tMS (K : PySem.W.Frag) (Z : ZT) (m : MS) : TS := fun D σ H => ∃ ρ S D', RE K H ρ σ ∧ RS K Z S H ∧ m D' ρ S ∧ (∀ σ' H', MQd K Z S H D'.nx σ' H' → D.nx σ' H') ∧ (∀ v H', MQ K Z S H D'.rt v H' → D.rt v H') ∧
  (∀ σ' H', MQd K Z S H D'.bk σ' H' → D.bk σ' H') ∧ (∀ σ' H', MQd K Z S H D'.ct σ' H' → D.ct σ' H')
/-- arguments, statements, blocks: by the layer below's own form -/
structure EA (X : Cx) (Z : ZT) (es : List Expr) (m : MA) : Prop where
  pa : PA X es (tMA X.K Z m)
structure EK (X : Cx) (Z : ZT) (ks : List Keyword) (m : MA) : Prop where
  pk : PK X ks (tMA X.K Z m)
structure ES (X : Cx) (Z : ZT) (st : Stmt) (m : MS) : Prop where
  ps : PS X st (tMS X.K Z m)
structure EB (X : Cx) (Z : ZT) (sts : List Stmt) (m : MS) : Prop where
  pss : PSs X sts (tMS X.K Z m)
section
variable {X : Cx} {Z : ZT} {e a b : Expr} {m ma mb : ME} {mt : MT} {t : TE}
theorem EE.pe (h : EE X Z e m) : PE X e (tM X.K Z m) := ⟨fun pins s σ H Q I ⟨ρ, S, R, hE, hS, hm, hQ⟩ =>
  thn (h.run σ H ρ S R hE hS hm pins s I) fun u s' ⟨v, H', I', r, q⟩ => ⟨v, H', I', r, hQ v H' q⟩⟩
theorem ET.pt (h : ET X Z e mt) : PT X e (tMT X.K Z mt) := ⟨fun pins s σ H Q I ⟨ρ, S, R, hE, hS, hm, hQ⟩ =>
  thn (h.run σ H ρ S R hE hS hm pins s I) fun u s' ⟨H', I', q⟩ => ⟨H', I', hQ u H' q⟩⟩
theorem ee_of (h : PE X e t) (k : ∀ σ H ρ S R, RE X.K H ρ σ → RS X.K Z S H → m ρ S R → t σ H (MQ X.K Z S H R)) : EE X Z e m :=
  ⟨fun σ H ρ S R hE hS hm pins s I => h.run pins s σ H _ I (k σ H ρ S R hE hS hm)⟩
theorem et_of {t : TT} (h : PT X e t) (k : ∀ σ H ρ S R, RE X.K H ρ σ → RS X.K Z S H → mt ρ S R → t σ H (MQb X.K Z S H R)) : ET X Z e mt :=
  ⟨fun σ H ρ S R hE hS hm pins s I => h.run pins s σ H _ I (k σ H ρ S R hE hS hm)⟩
theorem PA.imp {es : List Expr} {t t' : TA} (h : PA X es t) (k : ∀ σ H Q, t' σ H Q → t σ H Q) : PA X es t' := ⟨fun pos pins s σ H Q I hw => h.run pos pins s σ H Q I (k σ H Q hw)⟩
theorem PK.imp {es : List Keyword} {t t' : TA} (h : PK X es t) (k : ∀ σ H Q, t' σ H Q → t σ H Q) : PK X es t' := ⟨fun pos pins s σ H Q I hw => h.run pos pins s σ H Q I (k σ H Q hw)⟩
theorem PS.imp {st : Stmt} {t t' : TS} (h : PS X st t) (k : ∀ D σ H, t' D σ H → t D σ H) : PS X st t' := ⟨fun pins s σ H D I hw => h.run pins s σ H D I (k D σ H hw)⟩
theorem PSs.imp {st : List Stmt} {t t' : TS} (h : PSs X st t) (k : ∀ D σ H, t' D σ H → t D σ H) : PSs X st t' := ⟨fun pins s σ H D I hw => h.run pins s σ H D I (k D σ H hw)⟩
theorem PE.or {t t' : TE} (h : PE X e t) (h' : PE X e t') : PE X e (fun σ H Q => t σ H Q ∨ t' σ H Q) := ⟨fun pins s σ H Q I hw => hw.elim (h.run pins s σ H Q I) (h'.run pins s σ H Q I)⟩
theorem PS.or {st : Stmt} {t t' : TS} (h : PS X st t) (h' : PS X st t') : PS X st (fun D σ H => t D σ H ∨ t' D σ H) := ⟨fun pins s σ H D I hw => hw.elim (h.run pins s σ H D I) (h'.run pins s σ H D I)⟩

/-! ### names, constants -/
def mVar (i : Nat) : ME := fun ρ S R => match ρ[i]? with
  | some (some v) => R v S
  | _ => False
def mC (v : MV) : ME := fun _ S R => R v S
theorem ee_var {i : Nat} (h : PE X e (tVar i)) : EE X Z e (mVar i) := ee_of h fun σ H ρ S R hE hS hm => by
  unfold mVar at hm
  split at hm
  · rename_i v hv
    obtain ⟨x, e1, e2⟩ := hE.at_ i v hv
    exact ⟨x, e1, v, S, GK.refl, e2, hS, hm⟩
  · exact hm.elim
theorem ee_c {v : V} {mv : MV} (h : PE X e (tC v)) (r : ∀ H, RM X.K H mv v) : EE X Z e (mC mv) := ee_of h fun σ H ρ S R hE hS hm => ⟨mv, S, GK.refl, r H, hS, hm⟩
theorem ee_int {i j pos} : EE X Z (.Constant (.int i) j pos) (mC (.int i)) := ee_c pe_int fun _ => by unfold RM; rfl
theorem ee_bl {b j pos} : EE X Z (.Constant (.bool b) j pos) (mC (.bl b)) := ee_c pe_bl fun _ => by unfold RM; rfl
theorem ee_non {j pos} : EE X Z (.Constant .none j pos) (mC .non) := ee_c pe_non fun _ => by unfold RM; rfl
theorem ee_str {x : String} {j pos} : EE X Z (.Constant (.str (Str.ofString x)) j pos) (mC (.str x)) := ee_c pe_str fun _ => by unfold RM; rfl
/-! ### two values and an operation -/
abbrev M2 := MV → MV → Sto → MK → Prop
def mOp (f : M2) (ma mb : ME) : ME := fun ρ S R => ma ρ S fun x S1 => mb ρ S1 fun y S2 => f x y S2 R
def rM (K : PySem.W.Frag) (Z : ZT) (f : M2) : R2 := fun x y H Q => ∃ mx my S R, RM K H mx x ∧ RM K H my y ∧ RS K Z S H ∧ f mx my S R ∧ ∀ v H', MQ K Z S H R v H' → Q v H'
theorem seq2 {f : M2} {σ H ρ S R} (hE : RE X.K H ρ σ) (hS : RS X.K Z S H) (h : mOp f ma mb ρ S R) : tOp (rM X.K Z f) (tM X.K Z ma) (tM X.K Z mb) σ H (MQ X.K Z S H R) := by
  refine ⟨ρ, S, _, hE, hS, h, fun v H1 ⟨x, S1, t1, r1, s1, q1⟩ => ?_⟩
  refine ⟨ρ, S1, _, hE.mono t1, s1, q1, fun u H2 ⟨y, S2, t2, r2, s2, q2⟩ => ?_⟩
  exact ⟨x, y, S2, R, r1.mono t2, r2, s2, q2, fun v H' ⟨m, S', t3, r3, s3, q3⟩ => ⟨m, S', t1.trans (t2.trans t3), r3, s3, q3⟩⟩
theorem ee_op {op : Operator} {f : M2} {pos} (ho : OpR X (binaryOp op) (rM X.K Z f)) (ha : EE X Z a ma) (hb : EE X Z b mb) : EE X Z (.BinOp a op b pos) (mOp f ma mb) :=
  ee_of (pe_op ho ha.pe hb.pe) fun σ H ρ S R hE hS hm => seq2 hE hS hm
theorem ee_cmp {op : CmpOp} {f : M2} {pos} (ho : OpR X (compareOp op) (rM X.K Z f)) (ha : EE X Z a ma) (hb : EE X Z b mb) (hm : behindInMarks op b = false) : EE X Z (.Compare a [op] [b] pos) (mOp f ma mb) :=
  ee_of (pe_cmpR ho ha.pe hb.pe hm) fun σ H ρ S R hE hS hm => seq2 hE hS hm
theorem ee_ix {f : M2} {pos} (ho : IxR X (rM X.K Z f)) (ha : EE X Z a ma) (hb : EE X Z b mb) (hs : PlainIx b) : EE X Z (.Subscript a b pos) (mOp f ma mb) :=
  ee_of (pe_ix ho ha.pe hb.pe hs) fun σ H ρ S R hE hS hm => seq2 hE hS hm
/-- a comparison as a test -/
def asB (R : Bool → Sto → Prop) : MK := fun v S => match v with
  | .bl b => R b S
  | _ => False
def mTst (m : ME) : MT := fun ρ S R => m ρ S (asB R)
theorem asB_out {K : PySem.W.Frag} {S : Sto} {H : Hp} {R : Bool → Sto → Prop} {v : V} {H' : Hp} (h : MQ K Z S H (asB R) v H') : ∃ k, v = .bl k ∧ MQb K Z S H R k H' := by
  obtain ⟨m, S', t, r, s, q⟩ := h
  unfold asB at q
  split at q
  · unfold RM at r
    exact ⟨_, r, S', t, s, q⟩
  · exact q.elim
theorem et_cmp {op : CmpOp} {f : M2} {pos} (ho : OpR X (compareOp op) (rM X.K Z f)) (ha : EE X Z a ma) (hb : EE X Z b mb) (hm : behindInMarks op b = false) : ET X Z (.Compare a [op] [b] pos) (mTst (mOp f ma mb)) :=
  et_of (pt_cmpR ho ha.pe hb.pe hm) fun σ H ρ S R hE hS hm => by
    obtain ⟨ρ1, S1, R1, e1, e2, e3, e4⟩ := seq2 hE hS hm
    refine ⟨ρ1, S1, R1, e1, e2, e3, fun v H1 q1 => ?_⟩
    obtain ⟨ρ2, S2, R2, f1, f2, f3, f4⟩ := e4 v H1 q1
    refine ⟨ρ2, S2, R2, f1, f2, f3, fun u H2 q2 => ?_⟩
    obtain ⟨mx, my, S3, R3, g1, g2, g3, g4, g5⟩ := f4 u H2 q2
    exact ⟨mx, my, S3, R3, g1, g2, g3, g4, fun v H' q => asB_out (g5 v H' q)⟩
end
end Mv

set_option Elab.async false
set_option linter.all false
set_option maxRecDepth 100000
set_option maxHeartbeats 4000000
namespace Mv
open PySem PySem.Spec PyProof.Rows L2
/-! ### data -/
mutual
def pd : MV → PyData
  | .non => .none
  | .bl b => .bool b
  | .int i => .int i
  | .str s => .str (so s)
  | .tup l => .tuple (pds l)
  | .ref _ => .none
  | .frz l => .list (pds l)
def pds : List MV → List PyData
  | [] => []
  | m :: l => pd m :: pds l
end
mutual
/-- no references, not too deep, its texts plain -/
def fit : MV → Nat → Bool
  | .non, _ => true
  | .bl _, _ => true
  | .int _, _ => true
  | .str s, _ => PyData.strOk (so s)
  | .tup _, 0 => false
  | .tup l, n + 1 => fits l n
  | .ref _, _ => false
  | .frz _, 0 => false
  | .frz l, n + 1 => fits l n
def fits : List MV → Nat → Bool
  | [], _ => true
  | m :: l, n => fit m n && fits l n
end
mutual
theorem fit_lay : ∀ (m : MV) (n : Nat), fit m n = true → (pd m).canLay0 = true ∧ (pd m).depth ≤ n
  | .non, n, _ => by simp [pd, PyData.canLay0, PyData.depth]
  | .bl _, n, _ => by simp [pd, PyData.canLay0, PyData.depth]
  | .int _, n, _ => by simp [pd, PyData.canLay0, PyData.depth]
  | .str s, n, h => by
    simp only [fit] at h
    simp [pd, PyData.canLay0, PyData.depth, h]
  | .tup l, 0, h => by simp [fit] at h
  | .tup l, n + 1, h => by
    simp only [fit] at h
    have := fits_lay l n h
    simp only [pd, PyData.canLay0, PyData.depth]
    exact ⟨this.1, Nat.succ_le_succ this.2⟩
  | .ref _, n, h => by simp [fit] at h
  | .frz l, 0, h => by simp [fit] at h
  | .frz l, n + 1, h => by
    simp only [fit] at h
    have := fits_lay l n h
    simp only [pd, PyData.canLay0, PyData.depth]
    exact ⟨this.1, Nat.succ_le_succ this.2⟩
theorem fits_lay : ∀ (l : List MV) (n : Nat), fits l n = true → PyData.canLayAll0 (pds l) = true ∧ PyData.depthAll (pds l) ≤ n
  | [], n, _ => by simp [pds, PyData.canLayAll0, PyData.depthAll]
  | m :: l, n, h => by
    simp only [fits, Bool.and_eq_true] at h
    have h1 := fit_lay m n h.1
    have h2 := fits_lay l n h.2
    simp only [pds, PyData.canLayAll0, PyData.depthAll, h1.1, h2.1]
    exact ⟨rfl, Nat.max_le.mpr ⟨h1.2, h2.2⟩⟩
end
theorem fit_shaped {m : MV} (h : fit m 60 = true) : SeqAt.shaped (pd m) = true := by
  have q := fit_lay m 60 h
  unfold SeqAt.shaped
  rw [q.1, decide_eq_true (by omega)]; rfl
theorem fits_shaped {l : List MV} (h : fits l 59 = true) : SeqAt.shaped (.list (pds l)) = true := by
  have q := fits_lay l 59 h
  unfold SeqAt.shaped
  rw [show (PyData.list (pds l)).canLay0 = PyData.canLayAll0 (pds l) by simp only [PyData.canLay0], show (PyData.list (pds l)).depth = PyData.depthAll (pds l) + 1 by simp only [PyData.depth], q.1, decide_eq_true (by omega)]; rfl
mutual
theorem dp_of {K : PySem.W.Frag} {H : Hp} : ∀ (m : MV) (n : Nat) {v : V}, fit m n = true → RM K H m v → Dp K H v (pd m)
  | .non, _, _, _, r => by unfold RM at r; subst r; exact .non
  | .bl _, _, _, _, r => by unfold RM at r; subst r; exact .bl _
  | .int _, _, _, _, r => by unfold RM at r; subst r; exact .int _
  | .str _, _, _, _, r => by unfold RM at r; subst r; exact .str _
  | .ref _, _, _, h, _ => by simp [fit] at h
  | .frz l, 0, _, h, _ => by simp [fit] at h
  | .frz l, n + 1, _, h, r => by
    unfold RM at r
    obtain ⟨a, xs, e, s, q⟩ := r
    subst e
    simp only [fit] at h
    exact .lst s.sq (dps_of l n h q)
  | .tup l, 0, _, h, _ => by simp [fit] at h
  | .tup l, n + 1, _, h, r => by
    unfold RM at r
    obtain ⟨a, xs, e, s, q⟩ := r
    subst e
    simp only [fit] at h
    exact .tup s (dps_of l n h q)
theorem dps_of {K : PySem.W.Frag} {H : Hp} : ∀ (l : List MV) (n : Nat) {xs : List V}, fits l n = true → RMs K H l xs → DpAll K H xs (pds l)
  | [], _, _, _, r => by unfold RMs at r; subst r; exact .nil
  | m :: l, n, _, h, r => by
    unfold RMs at r
    obtain ⟨x, r', e, h1, h2⟩ := r
    subst e
    simp only [fits, Bool.and_eq_true] at h
    exact .cons (dp_of m n h.1 h1) (dps_of l n h.2 h2)
end
/-- the list at a, whatever may be done with it -/
def lookL (S : Sto) (a : Addr) : Option (List MV) := match S a with
  | some (.lst l) => some l
  | some (.rl l) => some l
  | _ => none
theorem look_sq {K : PySem.W.Frag} {Z : ZT} {S : Sto} {H : Hp} {a : Addr} {l : List MV} (r : RS K Z S H) (e : lookL S a = some l) : ∃ xs, SqL K H a xs ∧ RMs K H l xs := by
  unfold lookL at e
  cases q : S a with
  | none => rw [q] at e; cases e
  | some o =>
    have h := r.ob a o q
    rw [q] at e
    cases o with
    | lst l' =>
      cases e
      obtain ⟨xs, h1, h2⟩ := h
      exact ⟨xs, .inl (.inl h1), h2⟩
    | rl l' =>
      cases e
      obtain ⟨xs, h1, h2⟩ := h
      exact ⟨xs, .inl h1, h2⟩
    | _ => cases e
/-- what == reads of a value -/
def datL (S : Sto) (a : Addr) : Option PyData := match lookL S a with
  | some l => if fits l 59 = true then some (.list (pds l)) else none
  | none => none
def dat (S : Sto) : MV → Option PyData
  | .non => some .none
  | .bl b => some (.bool b)
  | .int i => some (.int i)
  | .str s => if PyData.strOk (so s) = true then some (.str (so s)) else none
  | .tup l => if fits l 59 = true then some (.tuple (pds l)) else none
  | .ref a => datL S a
  | .frz l => if fits l 59 = true then some (.list (pds l)) else none
theorem dat_dp {K : PySem.W.Frag} {Z : ZT} {S : Sto} {H : Hp} (r : RS K Z S H) {m : MV} {v : V} {d : PyData} (e : dat S m = some d) (q : RM K H m v) : Dp K H v d ∧ SeqAt.shaped d = true := by
  have fin : ∀ m, fit m 60 = true → RM K H m v → Dp K H v (pd m) ∧ SeqAt.shaped (pd m) = true := fun m hf q => ⟨dp_of m 60 hf q, fit_shaped hf⟩
  cases m with
  | ref a =>
    have e : datL S a = some d := e
    unfold datL at e
    cases h : lookL S a with
    | none => rw [h] at e; cases e
    | some l =>
      rw [h] at e
      have e : (if fits l 59 = true then some (PyData.list (pds l)) else none) = some d := e
      split at e
      · rename_i hf
        cases e
        obtain ⟨xs, h1, h2⟩ := look_sq r h
        unfold RM at q; subst q
        exact ⟨.lst h1 (dps_of l 59 hf h2), fits_shaped hf⟩
      · cases e
  | frz l =>
    have e : (if fits l 59 = true then some (PyData.list (pds l)) else none) = some d := e
    split at e
    · rename_i hf; cases e
      have h := fin (.frz l) (by simpa [fit] using hf) q
      simpa [pd] using h
    · cases e
  | non => cases e; exact fin .non rfl q
  | bl b => cases e; exact fin (.bl b) rfl q
  | int i => cases e; exact fin (.int i) rfl q
  | str s =>
    have e : (if PyData.strOk (so s) = true then some (PyData.str (so s)) else none) = some d := e
    split at e
    · rename_i hf; cases e; exact fin (.str s) (by simpa [fit] using hf) q
    · cases e
  | tup l =>
    have e : (if fits l 59 = true then some (PyData.tuple (pds l)) else none) = some d := e
    split at e
    · rename_i hf; cases e
      have h := fin (.tup l) (by simpa [fit] using hf) q
      simpa [pd] using h
    · cases e
/-! ### what follows -/
section
variable {K : PySem.W.Frag} {Z : ZT} {S : Sto} {H : Hp} {R : MK} {Q : VK}
theorem mq (hQ : ∀ v H', MQ K Z S H R v H' → Q v H') {m : MV} {v : V} (r : RM K H m v) (s : RS K Z S H) (h : R m S) : Q v H := hQ _ _ ⟨m, S, GK.refl, r, s, h⟩
theorem mq_int (hQ : ∀ v H', MQ K Z S H R v H' → Q v H') {i : Int} (s : RS K Z S H) (h : R (.int i) S) : Q (.int i) H := mq hQ (by unfold RM; rfl) s h
theorem mq_bl (hQ : ∀ v H', MQ K Z S H R v H' → Q v H') {b : Bool} (s : RS K Z S H) (h : R (.bl b) S) : Q (.bl b) H := mq hQ (by unfold RM; rfl) s h
theorem mq_non (hQ : ∀ v H', MQ K Z S H R v H' → Q v H') (s : RS K Z S H) (h : R .non S) : Q .non H := mq hQ (by unfold RM; rfl) s h
def newL (l : List MV) (S : Sto) (R : MK) : Prop := ∀ p, S p = none → R (.ref p) (supd S p (.lst l))
theorem mq_lst (hQ : ∀ v H', MQ K Z S H R v H' → Q v H') {l : List MV} {xs : List V} {p : Addr} (s : RS K Z S H) (r : RMs K H l xs) (hp : H p = none) (h : newL l S R) : Q (.ref p) (upd H p (.lst xs)) :=
  hQ _ _ ⟨.ref p, _, GK.new hp, by unfold RM; rfl, s.newL hp r, h p (s.free hp)⟩
theorem mq_tup (hQ : ∀ v H', MQ K Z S H R v H' → Q v H') {l : List MV} {xs : List V} {p : Addr} (s : RS K Z S H) (r : RMs K H l xs) (hp : H p = none) (h : R (.tup l) S) : Q (.ref p) (upd H p (.tup xs)) :=
  hQ _ _ ⟨.tup l, S, GK.hid hp, by unfold RM; exact ⟨p, xs, rfl, .inl (.inl upd_same), r.mono (GK.hid (S := S) hp)⟩, s.hid hp, h⟩
end
/-! ### the operations -/
def addV : M2 := fun x y S R => match x, y with
  | .int i, .int j => R (.int (i + j)) S
  | .tup l, .tup k => l.length + k.length ≤ sizeLine ∧ R (.tup (l ++ k)) S
  | .ref a, .ref b => (match S a, S b with
    | some (.lst l), some (.lst k) => l.length + k.length ≤ sizeLine ∧ newL (l ++ k) S R
    | _, _ => False)
  | .frz l, .frz k => l.length + k.length ≤ sizeLine ∧ newL (l ++ k) S R
  | _, _ => False
def subV : M2 := fun x y S R => match x, y with
  | .int i, .int j => R (.int (i - j)) S
  | _, _ => False
def mulV : M2 := fun x y S R => match x, y with
  | .int i, .int j => CMul i j ∧ R (.int (i * j)) S
  | _, _ => False
def modV : M2 := fun x y S R => match x, y with
  | .int i, .int j => 0 < j ∧ R (.int (i % j)) S
  | _, _ => False
def fdivV : M2 := fun x y S R => match x, y with
  | .int i, .int j => CDiv i j ∧ R (.int (i / j)) S
  | _, _ => False
def powV : M2 := fun x y S R => match x, y with
  | .int i, .int j => CPow i j ∧ R (.int (i ^ j.toNat)) S
  | _, _ => False
def ltV : M2 := fun x y S R => match x, y with
  | .int i, .int j => R (.bl (decide (i < j))) S
  | _, _ => False
def leV : M2 := fun x y S R => match x, y with
  | .int i, .int j => R (.bl (decide (i ≤ j))) S
  | _, _ => False
def gtV : M2 := fun x y S R => match x, y with
  | .int i, .int j => R (.bl (decide (j < i))) S
  | _, _ => False
def geV : M2 := fun x y S R => match x, y with
  | .int i, .int j => R (.bl (decide (j ≤ i))) S
  | _, _ => False
def eqV' : M2 := fun x y S R => match dat S x, dat S y with
  | some d, some e => R (.bl (PyData.eqv d e)) S
  | _, _ => False
def neV' : M2 := fun x y S R => match dat S x, dat S y with
  | some d, some e => R (.bl (!PyData.eqv d e)) S
  | _, _ => False
def isV : M2 := fun x y S R => match x, y with
  | .bl a, .bl b => R (.bl (decide (a = b))) S
  | .non, .non => R (.bl true) S
  | _, .non => R (.bl false) S
  | _, _ => False
def isnotV : M2 := fun x y S R => match x, y with
  | .bl a, .bl b => R (.bl (!decide (a = b))) S
  | .non, .non => R (.bl false) S
  | _, .non => R (.bl true) S
  | _, _ => False
/-- nothing within -/
def flatM : MV → Bool
  | .non => true
  | .bl _ => true
  | .int _ => true
  | .str s => PyData.strOk (so s)
  | _ => false
def inB (x : MV) (l : List MV) : Bool := l.any fun y => PyData.eqv (pd y) (pd x)
def inM : M2 := fun x y S R => match y with
  | .tup l => (flatM x && l.all flatM) = true ∧ R (.bl (inB x l)) S
  | .ref a => (match lookL S a with
    | some l => (fit x 60 && fits l 59) = true ∧ R (.bl (inB x l)) S
    | none => False)
  | .frz l => (fit x 60 && fits l 59) = true ∧ R (.bl (inB x l)) S
  | _ => False
def notInM : M2 := fun x y S R => match y with
  | .tup l => (flatM x && l.all flatM) = true ∧ R (.bl (!inB x l)) S
  | .ref a => (match lookL S a with
    | some l => (fit x 60 && fits l 59) = true ∧ R (.bl (!inB x l)) S
    | none => False)
  | .frz l => (fit x 60 && fits l 59) = true ∧ R (.bl (!inB x l)) S
  | _ => False
section
variable {X : Cx} {Z : ZT}
theorem op_catS : OpR X (binaryOp .Add) (fun x y H Q => ∃ a b xs ys, x = .ref a ∧ y = .ref b ∧ SqL X.K H a xs ∧ SqL X.K H b ys ∧ xs.length + ys.length ≤ sizeLine ∧ ∀ p, H p = none → Q (.ref p) (upd H p (.lst (xs ++ ys)))) := by
  intro pins s σ H x y v u Q I rx ry h
  obtain ⟨a, b, xs, ys, rfl, rfl, ha, hb, hz, q⟩ := h
  cases rx
  cases ry
  obtain ⟨its, r, p1, _⟩ := I.list ha
  obtain ⟨its2, r2, p2, _⟩ := I.list hb
  obtain ⟨⟨cls, dd, data, sl⟩, ho, hc, n, hd⟩ := p1.isList
  obtain ⟨⟨cls2, dd2, data2, sl2⟩, ho2, hc2, n2, hd2⟩ := p2.isList
  simp only at hc hd hc2 hd2
  subst hc hd hc2 hd2
  have l1 := r.length
  have l2 := r2.length
  have ea : its.toArray ++ its2.toArray = (its ++ its2).toArray := by simp
  refine concat_meets ⟨_, ho, rfl⟩ ⟨_, ho2, rfl⟩ noFill_list_add seq_list_add PySem.F.slot_list_add PySem.F.entry_list_add (PySem.F.args_list_add_2 _ _) (list_addW a b its.toArray its2.toArray n n2 dd dd2 sl sl2 (by rw [List.size_toArray, List.size_toArray]; omega)) ⟨ho, ho2, ?_⟩
  rw [ea]
  exact ⟨.ref _, _, I.lnew (t' := s.toks) (r.append r2) (by rw [List.length_append]; omega), rfl, q _ I.fresh⟩
theorem ro_add : OpR X (binaryOp .Add) (rM X.K Z addV) := by
  intro pins s σ H x y v u Q I rx ry h
  obtain ⟨mx, my, S, R, r1, r2, hS, hf, hQ⟩ := h
  unfold addV at hf
  split at hf
  · unfold RM at r1 r2
    exact op_add pins s σ H x y v u Q I rx ry ⟨_, _, r1, r2, mq_int hQ hS hf⟩
  · rename_i l k
    have r1' := r1; have r2' := r2
    unfold RM at r1 r2
    obtain ⟨a, xs, e1, s1, q1⟩ := r1
    obtain ⟨b, ys, e2, s2, q2⟩ := r2
    refine op_catA pins s σ H x y v u Q I rx ry ⟨a, b, xs, ys, e1, e2, s1, s2, by rw [q1.length, q2.length]; exact hf.1, fun e => ?_, fun _ e => ?_, fun _ _ p hp => ?_⟩
    · have : l = [] := by
        have := q1.length; rw [e] at this; exact List.eq_nil_of_length_eq_zero this.symm
      subst this
      subst e2
      exact mq hQ r2' hS hf.2
    · have : k = [] := by
        have := q2.length; rw [e] at this; exact List.eq_nil_of_length_eq_zero this.symm
      subst this
      subst e1
      have hf2 := hf.2
      rw [List.append_nil] at hf2
      exact mq hQ r1' hS hf2
    · exact mq_tup hQ hS (q1.append q2) hp hf.2
  · rename_i a b
    split at hf
    · rename_i l k ea eb
      obtain ⟨xs, h1, q1⟩ := hS.lst ea
      obtain ⟨ys, h2, q2⟩ := hS.lst eb
      unfold RM at r1 r2
      exact op_cat pins s σ H x y v u Q I rx ry ⟨a, b, xs, ys, r1, r2, h1, h2, by rw [q1.length, q2.length]; exact hf.1, fun p hp => mq_lst hQ hS (q1.append q2) hp hf.2⟩
    · exact hf.elim
  · rename_i l k
    unfold RM at r1 r2
    obtain ⟨a, xs, e1, s1, q1⟩ := r1
    obtain ⟨b, ys, e2, s2, q2⟩ := r2
    exact op_catS pins s σ H x y v u Q I rx ry ⟨a, b, xs, ys, e1, e2, s1.sq, s2.sq, by rw [q1.length, q2.length]; exact hf.1, fun p hp => mq_lst hQ hS (q1.append q2) hp hf.2⟩
  · exact hf.elim
theorem roI {f : Value → Value → Sem Value} {C : Int → Int → Prop} {g : Int → Int → Int} {h2 : M2} (ho : OpR X f (rI C fun i j => .int (g i j)))
    (hh : ∀ x y S R, h2 x y S R → ∃ i j, x = .int i ∧ y = .int j ∧ C i j ∧ R (.int (g i j)) S) : OpR X f (rM X.K Z h2) := by
  intro pins s σ H x y v u Q I rx ry h
  obtain ⟨mx, my, S, R, r1, r2, hS, hf, hQ⟩ := h
  obtain ⟨i, j, e1, e2, c, q⟩ := hh _ _ _ _ hf
  subst e1; subst e2
  unfold RM at r1 r2
  exact ho pins s σ H x y v u Q I rx ry ⟨i, j, r1, r2, c, mq_int hQ hS q⟩
theorem roB {f : Value → Value → Sem Value} {g : Int → Int → Bool} {h2 : M2} (ho : OpR X f (rI0 fun i j => .bl (g i j)))
    (hh : ∀ x y S R, h2 x y S R → ∃ i j, x = .int i ∧ y = .int j ∧ R (.bl (g i j)) S) : OpR X f (rM X.K Z h2) := by
  intro pins s σ H x y v u Q I rx ry h
  obtain ⟨mx, my, S, R, r1, r2, hS, hf, hQ⟩ := h
  obtain ⟨i, j, e1, e2, q⟩ := hh _ _ _ _ hf
  subst e1; subst e2
  unfold RM at r1 r2
  exact ho pins s σ H x y v u Q I rx ry ⟨i, j, r1, r2, mq_bl hQ hS q⟩
theorem ro_sub : OpR X (binaryOp .Sub) (rM X.K Z subV) := by
  intro pins s σ H x y v u Q I rx ry h
  obtain ⟨mx, my, S, R, r1, r2, hS, hf, hQ⟩ := h
  unfold subV at hf
  split at hf
  · unfold RM at r1 r2
    exact op_sub pins s σ H x y v u Q I rx ry ⟨_, _, r1, r2, mq_int hQ hS hf⟩
  · exact hf.elim
theorem ro_mul : OpR X (binaryOp .Mult) (rM X.K Z mulV) := roI op_mul fun x y S R h => by
  unfold mulV at h; split at h
  · exact ⟨_, _, rfl, rfl, h.1, h.2⟩
  · exact h.elim
theorem ro_mod : OpR X (binaryOp .Mod) (rM X.K Z modV) := roI op_mod fun x y S R h => by
  unfold modV at h; split at h
  · exact ⟨_, _, rfl, rfl, h.1, h.2⟩
  · exact h.elim
theorem ro_fdiv : OpR X (binaryOp .FloorDiv) (rM X.K Z fdivV) := roI op_fdiv fun x y S R h => by
  unfold fdivV at h; split at h
  · exact ⟨_, _, rfl, rfl, h.1, h.2⟩
  · exact h.elim
theorem ro_pow : OpR X (binaryOp .Pow) (rM X.K Z powV) := roI op_pow fun x y S R h => by
  unfold powV at h; split at h
  · exact ⟨_, _, rfl, rfl, h.1, h.2⟩
  · exact h.elim
theorem ro_lt : OpR X (compareOp .Lt) (rM X.K Z ltV) := roB op_lt fun x y S R h => by
  unfold ltV at h; split at h
  · exact ⟨_, _, rfl, rfl, h⟩
  · exact h.elim
theorem ro_le : OpR X (compareOp .LtE) (rM X.K Z leV) := roB op_le fun x y S R h => by
  unfold leV at h; split at h
  · exact ⟨_, _, rfl, rfl, h⟩
  · exact h.elim
theorem ro_gt : OpR X (compareOp .Gt) (rM X.K Z gtV) := roB op_gt fun x y S R h => by
  unfold gtV at h; split at h
  · exact ⟨_, _, rfl, rfl, h⟩
  · exact h.elim
theorem ro_ge : OpR X (compareOp .GtE) (rM X.K Z geV) := roB op_ge fun x y S R h => by
  unfold geV at h; split at h
  · exact ⟨_, _, rfl, rfl, h⟩
  · exact h.elim
theorem ro_eq (hu : X.A.units + 64 < cLine) : OpR X (compareOp .Eq) (rM X.K Z eqV') := by
  intro pins s σ H x y v u Q I rx ry h
  obtain ⟨mx, my, S, R, r1, r2, hS, hf, hQ⟩ := h
  unfold eqV' at hf
  split at hf
  · rename_i d e e1 e2
    obtain ⟨d1, s1⟩ := dat_dp hS e1 r1
    obtain ⟨d2, s2⟩ := dat_dp hS e2 r2
    exact op_eqD hu pins s σ H x y v u Q I rx ry ⟨d, e, d1, d2, s1, s2, mq_bl hQ hS hf⟩
  · exact hf.elim
theorem ro_ne (hu : X.A.units + 64 < cLine) : OpR X (compareOp .NotEq) (rM X.K Z neV') := by
  intro pins s σ H x y v u Q I rx ry h
  obtain ⟨mx, my, S, R, r1, r2, hS, hf, hQ⟩ := h
  unfold neV' at hf
  split at hf
  · rename_i d e e1 e2
    obtain ⟨d1, s1⟩ := dat_dp hS e1 r1
    obtain ⟨d2, s2⟩ := dat_dp hS e2 r2
    exact op_neD hu pins s σ H x y v u Q I rx ry ⟨d, e, d1, d2, s1, s2, mq_bl hQ hS hf⟩
  · exact hf.elim
theorem rm_non {K : PySem.W.Frag} {H : Hp} {m : MV} {v : V} (r : RM K H m v) : (v = .non) ↔ m = .non := by
  constructor
  · intro e; subst e
    cases m with
    | non => rfl
    | tup l => unfold RM at r; obtain ⟨a, xs, e, _⟩ := r; cases e
    | frz l => unfold RM at r; obtain ⟨a, xs, e, _⟩ := r; cases e
    | _ => unfold RM at r; cases r
  · intro e; subst e; unfold RM at r; exact r
theorem ro_is : OpR X (compareOp .Is) (rM X.K Z isV) := by
  intro pins s σ H x y v u Q I rx ry h
  obtain ⟨mx, my, S, R, r1, r2, hS, hf, hQ⟩ := h
  unfold isV at hf
  split at hf
  · unfold RM at r1 r2
    exact op_isBl pins s σ H x y v u Q I rx ry ⟨_, _, r1, r2, mq_bl hQ hS hf⟩
  · exact op_isN pins s σ H x y v u Q I rx ry ⟨(rm_non r2).2 rfl, by rw [decide_eq_true ((rm_non r1).2 rfl)]; exact mq_bl hQ hS hf⟩
  · rename_i hn
    refine op_isN pins s σ H x y v u Q I rx ry ⟨(rm_non r2).2 rfl, ?_⟩
    rw [decide_eq_false (fun e => hn ((rm_non r1).1 e))]; exact mq_bl hQ hS hf
  · exact hf.elim
theorem ro_isnot : OpR X (compareOp .IsNot) (rM X.K Z isnotV) := by
  intro pins s σ H x y v u Q I rx ry h
  obtain ⟨mx, my, S, R, r1, r2, hS, hf, hQ⟩ := h
  unfold isnotV at hf
  split at hf
  · unfold RM at r1 r2
    exact op_notBl pins s σ H x y v u Q I rx ry ⟨_, _, r1, r2, mq_bl hQ hS hf⟩
  · exact op_notN pins s σ H x y v u Q I rx ry ⟨(rm_non r2).2 rfl, by rw [decide_eq_true ((rm_non r1).2 rfl)]; exact mq_bl hQ hS hf⟩
  · rename_i hn
    refine op_notN pins s σ H x y v u Q I rx ry ⟨(rm_non r2).2 rfl, ?_⟩
    rw [decide_eq_false (fun e => hn ((rm_non r1).1 e))]; exact mq_bl hQ hS hf
  · exact hf.elim
theorem flat_V {K : PySem.W.Frag} {H : Hp} {m : MV} {v : V} (f : flatM m = true) (r : RM K H m v) : flatV v = true := by
  cases m with
  | tup l => cases f
  | ref a => cases f
  | frz a => cases f
  | _ => unfold RM at r; subst r; rfl
theorem flats_V {K : PySem.W.Frag} {H : Hp} : ∀ {l : List MV} {xs : List V}, l.all flatM = true → RMs K H l xs → xs.all flatV = true
  | [], _, _, r => by unfold RMs at r; subst r; rfl
  | m :: l, _, f, r => by
    unfold RMs at r
    obtain ⟨x, r', e, h1, h2⟩ := r
    subst e
    rw [List.all_cons, Bool.and_eq_true] at f ⊢
    exact ⟨flat_V f.1 h1, flats_V f.2 h2⟩
theorem so_beq (s t : String) : (so s == so t) = (s == t) := by
  by_cases h : s = t
  · subst h; simp
  · have : so s ≠ so t := fun e => h (so_inj e)
    rw [beq_eq_false_iff_ne.mpr this, beq_eq_false_iff_ne.mpr h]
theorem eqV_eqv {K : PySem.W.Frag} {H : Hp} {m n : MV} {v u : V} (f : flatM m = true) (g : flatM n = true) (r : RM K H m v) (q : RM K H n u) : eqV v u = PyData.eqv (pd m) (pd n) := by
  cases m with
  | tup l => cases f
  | ref a => cases f
  | frz a => cases f
  | _ => cases n with
    | tup l => cases g
    | ref a => cases g
    | frz a => cases g
    | _ => unfold RM at r q; subst r; subst q; simp [eqV, pd, PyData.eqv]
theorem inV_inB {K : PySem.W.Frag} {H : Hp} {x : MV} {v : V} (f : flatM x = true) (r : RM K H x v) : ∀ {l : List MV} {xs : List V}, l.all flatM = true → RMs K H l xs → inV v xs = inB x l
  | [], _, _, q => by unfold RMs at q; subst q; rfl
  | m :: l, _, g, q => by
    unfold RMs at q
    obtain ⟨y, r', e, h1, h2⟩ := q
    subst e
    rw [List.all_cons, Bool.and_eq_true] at g
    have ih := inV_inB f r g.2 h2
    unfold inV inB at ih ⊢
    rw [List.any_cons, List.any_cons, ih, eqV_eqv g.1 f h1 r]
theorem any_pds (x : MV) : ∀ l : List MV, ((pds l).any fun z => PyData.eqv z (pd x)) = inB x l
  | [] => rfl
  | m :: l => by
    have ih := any_pds x l
    unfold inB at ih ⊢
    simp only [pds, List.any_cons, ih]
theorem ro_in (hu : X.A.units + 65 < cLine) : OpR X (compareOp .In) (rM X.K Z inM) := by
  intro pins s σ H x y v u Q I rx ry h
  obtain ⟨mx, my, S, R, r1, r2, hS, hf, hQ⟩ := h
  unfold inM at hf
  split at hf
  · rename_i l
    obtain ⟨hf1, hf2⟩ := hf
    rw [Bool.and_eq_true] at hf1
    unfold RM at r2
    obtain ⟨b, ys, e2, s2, q2⟩ := r2
    refine op_in_seq pins s σ H x y v u Q I rx ry ⟨b, ys, e2, .inr s2, flat_V hf1.1 r1, flats_V hf1.2 q2, ?_⟩
    rw [if_neg Bool.false_ne_true, inV_inB hf1.1 r1 hf1.2 q2]
    exact mq_bl hQ hS hf2
  · rename_i a
    split at hf
    · rename_i l e
      obtain ⟨hf1, hf2⟩ := hf
      rw [Bool.and_eq_true] at hf1
      unfold RM at r2; subst r2
      obtain ⟨xs, h1, h2⟩ := look_sq hS e
      refine op_inD hu pins s σ H x _ v u Q I rx ry ⟨pd mx, pds l, dp_of _ 60 hf1.1 r1, .lst h1 (dps_of l 59 hf1.2 h2), fit_shaped hf1.1, fits_shaped hf1.2, ?_⟩
      rw [any_pds]
      exact mq_bl hQ hS hf2
    · exact hf.elim
  · rename_i l
    obtain ⟨hf1, hf2⟩ := hf
    rw [Bool.and_eq_true] at hf1
    unfold RM at r2
    obtain ⟨b, ys, e2, s2, q2⟩ := r2
    subst e2
    refine op_inD hu pins s σ H x _ v u Q I rx ry ⟨pd mx, pds l, dp_of _ 60 hf1.1 r1, .lst s2.sq (dps_of l 59 hf1.2 q2), fit_shaped hf1.1, fits_shaped hf1.2, ?_⟩
    rw [any_pds]
    exact mq_bl hQ hS hf2
  · exact hf.elim
theorem ro_notin (hu : X.A.units + 65 < cLine) : OpR X (compareOp .NotIn) (rM X.K Z notInM) := by
  intro pins s σ H x y v u Q I rx ry h
  obtain ⟨mx, my, S, R, r1, r2, hS, hf, hQ⟩ := h
  unfold notInM at hf
  split at hf
  · rename_i l
    obtain ⟨hf1, hf2⟩ := hf
    rw [Bool.and_eq_true] at hf1
    unfold RM at r2
    obtain ⟨b, ys, e2, s2, q2⟩ := r2
    refine op_notIn_seq pins s σ H x y v u Q I rx ry ⟨b, ys, e2, .inr s2, flat_V hf1.1 r1, flats_V hf1.2 q2, ?_⟩
    rw [if_pos rfl, inV_inB hf1.1 r1 hf1.2 q2]
    exact mq_bl hQ hS hf2
  · rename_i a
    split at hf
    · rename_i l e
      obtain ⟨hf1, hf2⟩ := hf
      rw [Bool.and_eq_true] at hf1
      unfold RM at r2; subst r2
      obtain ⟨xs, h1, h2⟩ := look_sq hS e
      refine op_notInD hu pins s σ H x _ v u Q I rx ry ⟨pd mx, pds l, dp_of _ 60 hf1.1 r1, .lst h1 (dps_of l 59 hf1.2 h2), fit_shaped hf1.1, fits_shaped hf1.2, ?_⟩
      rw [any_pds]
      exact mq_bl hQ hS hf2
    · exact hf.elim
  · rename_i l
    obtain ⟨hf1, hf2⟩ := hf
    rw [Bool.and_eq_true] at hf1
    unfold RM at r2
    obtain ⟨b, ys, e2, s2, q2⟩ := r2
    subst e2
    refine op_notInD hu pins s σ H x _ v u Q I rx ry ⟨pd mx, pds l, dp_of _ 60 hf1.1 r1, .lst s2.sq (dps_of l 59 hf1.2 q2), fit_shaped hf1.1, fits_shaped hf1.2, ?_⟩
    rw [any_pds]
    exact mq_bl hQ hS hf2
  · exact hf.elim
end
/-! ### subscripts -/
def ixV : M2 := fun x y S R => match y with
  | .int i => (match x with
    | .tup l => (match atI l i with
      | some v => R v S
      | none => False)
    | .ref a => (match lookL S a with
      | some l => (match atI l i with
        | some v => R v S
        | none => False)
      | none => False)
    | .frz l => (match atI l i with
      | some v => R v S
      | none => False)
    | _ => False)
  | _ => False
theorem at_rel {K : PySem.W.Frag} {H : Hp} {l : List MV} {xs : List V} {i : Int} {m : MV} (r : RMs K H l xs) (h : atI l i = some m) : ∃ x, atI xs i = some x ∧ RM K H m x := by
  unfold atI at h ⊢
  rw [r.length]
  cases e : ixN l.length i with
  | none => rw [e] at h; cases h
  | some j =>
    rw [e] at h
    obtain ⟨x, h1, h2⟩ := r.get (show l[j]? = some m from h)
    exact ⟨x, h1, h2⟩
section
variable {X : Cx} {Z : ZT}
theorem ri_ix : IxR X (rM X.K Z ixV) := by
  intro value slice pins s σ H x y v u Q I rx ry h hs
  obtain ⟨mx, my, S, R, r1, r2, hS, hf, hQ⟩ := h
  unfold ixV at hf
  split at hf
  · rename_i i
    unfold RM at r2
    split at hf
    · rename_i l
      split at hf
      · rename_i m e
        unfold RM at r1
        obtain ⟨a, xs, e1, s1, q1⟩ := r1
        obtain ⟨z, h1, h2⟩ := at_rel q1 e
        exact ix_tup value slice pins s σ H x y v u Q I rx ry ⟨a, xs, i, z, e1, r2, s1, h1, mq hQ h2 hS hf⟩ hs
      · exact hf.elim
    · rename_i a
      split at hf
      · rename_i l el
        split at hf
        · rename_i m e
          unfold RM at r1
          obtain ⟨xs, g1, g2⟩ := look_sq hS el
          obtain ⟨z, h1, h2⟩ := at_rel g2 e
          exact ix_list value slice pins s σ H x y v u Q I rx ry ⟨a, xs, i, z, r1, r2, g1, h1, mq hQ h2 hS hf⟩ hs
        · exact hf.elim
      · exact hf.elim
    · rename_i l
      split at hf
      · rename_i m e
        unfold RM at r1
        obtain ⟨a, xs, e1, s1, q1⟩ := r1
        obtain ⟨z, h1, h2⟩ := at_rel q1 e
        exact ix_list value slice pins s σ H x y v u Q I rx ry ⟨a, xs, i, z, e1, r2, s1.sq, h1, mq hQ h2 hS hf⟩ hs
      · exact hf.elim
    · exact hf.elim
  · exact hf.elim
end
end Mv

set_option Elab.async false
set_option linter.all false
set_option maxRecDepth 100000
set_option maxHeartbeats 4000000
namespace Mv
open PySem PySem.Spec PyProof.Rows L2
/-! ### truth -/
def truB (S : Sto) : MV → Option Bool
  | .non => some false
  | .bl b => some b
  | .int i => some (i != 0)
  | .str _ => none
  | .tup l => some (!l.isEmpty)
  | .ref a => (match S a with
    | some (.lst l) => some (!l.isEmpty)
    | some (.rl l) => some (!l.isEmpty)
    | some (.dct kvs) => some (!kvs.isEmpty)
    | _ => none)
  | .frz l => some (!l.isEmpty)
theorem tru_of {K : PySem.W.Frag} {Z : ZT} {S : Sto} {H : Hp} {m : MV} {v : V} {b : Bool} (hS : RS K Z S H) (r : RM K H m v) (h : truB S m = some b) : TruV K v H b := by
  cases m with
  | non => unfold RM at r; subst r; cases h; rfl
  | bl c => unfold RM at r; subst r; cases h; rfl
  | int i => unfold RM at r; subst r; cases h; rfl
  | str s => cases h
  | frz l =>
    unfold RM at r
    obtain ⟨a, xs, e, s, q⟩ := r
    subst e
    cases h
    exact .inl ⟨xs, s.sq, by rw [q.isEmpty]⟩
  | tup l =>
    unfold RM at r
    obtain ⟨a, xs, e, s, q⟩ := r
    subst e
    cases h
    exact .inr (.inl ⟨xs, s, by rw [q.isEmpty]⟩)
  | ref a =>
    unfold RM at r; subst r
    have h : (match S a with
      | some (.lst l) => some (!l.isEmpty)
      | some (.rl l) => some (!l.isEmpty)
      | some (.dct kvs) => some (!kvs.isEmpty)
      | _ => none) = some b := h
    cases e : S a with
    | none => rw [e] at h; cases h
    | some o =>
      have q := hS.ob a o e
      rw [e] at h
      cases o with
      | lst l =>
        obtain ⟨xs, h1, h2⟩ := q
        cases h
        exact .inl ⟨xs, .inl (.inl h1), by rw [h2.isEmpty]⟩
      | rl l =>
        obtain ⟨xs, h1, h2⟩ := q
        cases h
        exact .inl ⟨xs, .inl h1, by rw [h2.isEmpty]⟩
      | dct kvs =>
        obtain ⟨ks, h1, h2, h3⟩ := q
        cases h
        refine .inr (.inr ⟨ks, h1, ?_⟩)
        have : ks.length = kvs.length := by have := congrArg List.length h2; simpa using this
        cases ks <;> cases kvs <;> simp_all
      | _ => cases h
def mTru (m : ME) : MT := fun ρ S R => m ρ S fun v S' => match truB S' v with
  | some b => R b S'
  | none => False
def mAndV (ma mb : ME) : ME := fun ρ S R => ma ρ S fun x S1 => match truB S1 x with
  | some true => mb ρ S1 R
  | some false => R x S1
  | none => False
def mOrV (ma mb : ME) : ME := fun ρ S R => ma ρ S fun x S1 => match truB S1 x with
  | some true => R x S1
  | some false => mb ρ S1 R
  | none => False
def mNotV (ma : ME) : ME := fun ρ S R => ma ρ S fun x S1 => match truB S1 x with
  | some b => R (.bl (!b)) S1
  | none => False
def mAnd (t u : MT) : MT := fun ρ S R => t ρ S fun b S1 => match b with
  | true => u ρ S1 R
  | false => R false S1
def mOr (t u : MT) : MT := fun ρ S R => t ρ S fun b S1 => match b with
  | true => R true S1
  | false => u ρ S1 R
def mNot (t : MT) : MT := fun ρ S R => t ρ S fun b S1 => R (!b) S1
def mIf (t : MT) (a b : ME) : ME := fun ρ S R => t ρ S fun c S1 => match c with
  | true => a ρ S1 R
  | false => b ρ S1 R
def mUn (f : MV → Sto → MK → Prop) (ma : ME) : ME := fun ρ S R => ma ρ S fun x S1 => f x S1 R
def negV : MV → Sto → MK → Prop := fun x S R => match x with
  | .int i => R (.int (-i)) S
  | _ => False
def mChain (f g : M2) (ma mb mc : ME) : ME := fun ρ S R => ma ρ S fun x S1 => mb ρ S1 fun y S2 => f x y S2 (asB fun b S3 => match b with
  | true => mc ρ S3 fun z S4 => g y z S4 R
  | false => R (.bl false) S3)
section
variable {K : PySem.W.Frag} {Z : ZT}
theorem MQ.base {S0 S : Sto} {H0 H : Hp} {R : MK} (t : GK K S0 H0 S H) {v : V} {H' : Hp} (h : MQ K Z S H R v H') : MQ K Z S0 H0 R v H' :=
  let ⟨m, S', t', r, s, q⟩ := h; ⟨m, S', t.trans t', r, s, q⟩
theorem MQb.base {S0 S : Sto} {H0 H : Hp} {R : Bool → Sto → Prop} (t : GK K S0 H0 S H) {v : Bool} {H' : Hp} (h : MQb K Z S H R v H') : MQb K Z S0 H0 R v H' :=
  let ⟨S', t', s, q⟩ := h; ⟨S', t.trans t', s, q⟩
theorem MQs.base {S0 S : Sto} {H0 H : Hp} {R : List MV → Sto → Prop} (t : GK K S0 H0 S H) {v : List V} {H' : Hp} (h : MQs K Z S H R v H') : MQs K Z S0 H0 R v H' :=
  let ⟨m, S', t', r, s, q⟩ := h; ⟨m, S', t.trans t', r, s, q⟩
theorem MQd.base {S0 S : Sto} {H0 H : Hp} {R : Env → Sto → Prop} (t : GK K S0 H0 S H) {v : L2.St} {H' : Hp} (h : MQd K Z S H R v H') : MQd K Z S0 H0 R v H' :=
  let ⟨m, S', t', r, s, q⟩ := h; ⟨m, S', t.trans t', r, s, q⟩
end
section
variable {X : Cx} {Z : ZT} {e a b c : Expr} {m ma mb mc : ME} {mt mu : MT} {pos : Pos} {rest : List Expr}
theorem et_tru (h : EE X Z e m) (he : ∀ whole, isTrue e X.env whole = (do let v ← whole; standAt e.pos; holding [v] (truthy v)) := by intro _; kernel_rfl) : ET X Z e (mTru m) :=
  et_of (pt_truth h.pe he) fun σ H ρ S R hE hS hm => by
    refine ⟨ρ, S, _, hE, hS, hm, fun v H1 ⟨x, S1, t1, r1, s1, q1⟩ => ?_⟩
    dsimp only at q1
    split at q1
    · rename_i b e1
      exact ⟨b, tru_of s1 r1 e1, S1, t1, s1, q1⟩
    · exact q1.elim
theorem ee_one {op} (h : EE X Z a m) : EE X Z (.BoolOp op [a] pos) m := ⟨fun σ H ρ S R hE hS hm pins s I => (pe_one (h.pe)).run pins s σ H _ I ⟨ρ, S, R, hE, hS, hm, fun v H' q => q⟩⟩
theorem ee_and (ha : EE X Z a ma) (hb : EE X Z (.BoolOp .And (b :: rest) pos) mb) : EE X Z (.BoolOp .And (a :: b :: rest) pos) (mAndV ma mb) :=
  ee_of (pe_andT ha.pe hb.pe) fun σ H ρ S R hE hS hm => by
    refine ⟨ρ, S, _, hE, hS, hm, fun v H1 ⟨x, S1, t1, r1, s1, q1⟩ => ?_⟩
    dsimp only at q1
    split at q1
    · rename_i e1
      refine ⟨true, tru_of s1 r1 e1, ?_⟩
      rw [if_pos rfl]
      exact ⟨ρ, S1, R, hE.mono t1, s1, q1, fun v H' q => q.base t1⟩
    · rename_i e1
      refine ⟨false, tru_of s1 r1 e1, ?_⟩
      rw [if_neg Bool.false_ne_true]
      exact ⟨x, S1, t1, r1, s1, q1⟩
    · exact q1.elim
theorem ee_or (ha : EE X Z a ma) (hb : EE X Z (.BoolOp .Or (b :: rest) pos) mb) : EE X Z (.BoolOp .Or (a :: b :: rest) pos) (mOrV ma mb) :=
  ee_of (pe_orT ha.pe hb.pe) fun σ H ρ S R hE hS hm => by
    refine ⟨ρ, S, _, hE, hS, hm, fun v H1 ⟨x, S1, t1, r1, s1, q1⟩ => ?_⟩
    dsimp only at q1
    split at q1
    · rename_i e1
      refine ⟨true, tru_of s1 r1 e1, ?_⟩
      rw [if_pos rfl]
      exact ⟨x, S1, t1, r1, s1, q1⟩
    · rename_i e1
      refine ⟨false, tru_of s1 r1 e1, ?_⟩
      rw [if_neg Bool.false_ne_true]
      exact ⟨ρ, S1, R, hE.mono t1, s1, q1, fun v H' q => q.base t1⟩
    · exact q1.elim
theorem ee_not (ha : EE X Z a ma) : EE X Z (.UnaryOp .Not a pos) (mNotV ma) :=
  ee_of (pe_notT ha.pe) fun σ H ρ S R hE hS hm => by
    refine ⟨ρ, S, _, hE, hS, hm, fun v H1 ⟨x, S1, t1, r1, s1, q1⟩ => ?_⟩
    dsimp only at q1
    split at q1
    · rename_i b e1
      exact ⟨b, tru_of s1 r1 e1, .bl (!b), S1, t1, by unfold RM; rfl, s1, q1⟩
    · exact q1.elim
/-- a test of and, or -/
structure EW (X : Cx) (Z : ZT) (e : Expr) (m : MT) : Prop where
  pw : PW X e (tMT X.K Z m)
theorem EW.et (h : EW X Z e mt) : ET X Z e mt := ⟨fun σ H ρ S R hE hS hm pins s I => h.pw.run _ pins s σ H _ I ⟨ρ, S, R, hE, hS, hm, fun v H' q => q⟩⟩
theorem PW.imp {t t' : TT} (h : PW X e t) (k : ∀ σ H Q, t' σ H Q → t σ H Q) : PW X e t' := ⟨fun wh pins s σ H Q I hw => h.run wh pins s σ H Q I (k σ H Q hw)⟩
theorem ew_and1 (ha : ET X Z a mt) : EW X Z (.BoolOp .And [a] pos) mt := ⟨pw_and1 ha.pt⟩
theorem ew_or1 (ha : ET X Z a mt) : EW X Z (.BoolOp .Or [a] pos) mt := ⟨pw_or1 ha.pt⟩
theorem ew_and (ha : ET X Z a mt) (hb : EW X Z (.BoolOp .And (b :: rest) pos) mu) : EW X Z (.BoolOp .And (a :: b :: rest) pos) (mAnd mt mu) :=
  ⟨PW.imp (pw_and ha.pt hb.pw) fun σ H Q ⟨ρ, S, R, hE, hS, hm, hQ⟩ => by
    refine ⟨ρ, S, _, hE, hS, hm, fun k H1 ⟨S1, t1, s1, q1⟩ => ?_⟩
    cases k with
    | true => rw [if_pos rfl]; exact ⟨ρ, S1, R, hE.mono t1, s1, q1, fun v H' q => hQ _ _ (q.base t1)⟩
    | false => rw [if_neg Bool.false_ne_true]; exact hQ _ _ ⟨S1, t1, s1, q1⟩⟩
theorem ew_or (ha : ET X Z a mt) (hb : EW X Z (.BoolOp .Or (b :: rest) pos) mu) : EW X Z (.BoolOp .Or (a :: b :: rest) pos) (mOr mt mu) :=
  ⟨PW.imp (pw_or ha.pt hb.pw) fun σ H Q ⟨ρ, S, R, hE, hS, hm, hQ⟩ => by
    refine ⟨ρ, S, _, hE, hS, hm, fun k H1 ⟨S1, t1, s1, q1⟩ => ?_⟩
    cases k with
    | true => rw [if_pos rfl]; exact hQ _ _ ⟨S1, t1, s1, q1⟩
    | false => rw [if_neg Bool.false_ne_true]; exact ⟨ρ, S1, R, hE.mono t1, s1, q1, fun v H' q => hQ _ _ (q.base t1)⟩⟩
theorem et_not (ha : ET X Z a mt) : ET X Z (.UnaryOp .Not a pos) (mNot mt) :=
  et_of (pt_not ha.pt) fun σ H ρ S R hE hS hm => ⟨ρ, S, _, hE, hS, hm, fun k H1 ⟨S1, t1, s1, q1⟩ => ⟨S1, t1, s1, q1⟩⟩
theorem ee_if (hc : ET X Z c mt) (ha : EE X Z a ma) (hb : EE X Z b mb) : EE X Z (.IfExp c a b pos) (mIf mt ma mb) :=
  ee_of (pe_ifExp hc.pt ha.pe hb.pe) fun σ H ρ S R hE hS hm => by
    refine ⟨ρ, S, _, hE, hS, hm, fun k H1 ⟨S1, t1, s1, q1⟩ => ?_⟩
    cases k with
    | true => rw [if_pos rfl]; exact ⟨ρ, S1, R, hE.mono t1, s1, q1, fun v H' q => q.base t1⟩
    | false => rw [if_neg Bool.false_ne_true]; exact ⟨ρ, S1, R, hE.mono t1, s1, q1, fun v H' q => q.base t1⟩
theorem ee_neg (ha : EE X Z a ma) : EE X Z (.UnaryOp .USub a pos) (mUn negV ma) :=
  ee_of (pe_un un_neg ha.pe) fun σ H ρ S R hE hS hm => by
    refine ⟨ρ, S, _, hE, hS, hm, fun v H1 ⟨x, S1, t1, r1, s1, q1⟩ => ?_⟩
    unfold negV at q1
    dsimp only at q1
    split at q1
    · unfold RM at r1; exact ⟨_, r1, .int _, S1, t1, by unfold RM; rfl, s1, q1⟩
    · exact q1.elim
theorem ee_chain {op op' : CmpOp} {f g : M2} (ho : OpR X (compareOp op) (rM X.K Z f)) (ho' : OpR X (compareOp op') (rM X.K Z g)) (ha : EE X Z a ma) (hb : EE X Z b mb) (hc : EE X Z c mc)
    (hm : lastMarks [op, op'] [b, c] = false := by kernel_rfl) : EE X Z (.Compare a [op, op'] [b, c] pos) (mChain f g ma mb mc) :=
  ee_of (pe_chain ho ho' ha.pe hb.pe hc.pe hm) fun σ H ρ S R hE hS hm => by
    refine ⟨ρ, S, _, hE, hS, hm, fun v H1 ⟨x, S1, t1, r1, s1, q1⟩ => ?_⟩
    refine ⟨ρ, S1, _, hE.mono t1, s1, q1, fun u H2 ⟨y, S2, t2, r2, s2, q2⟩ => ?_⟩
    refine ⟨x, y, S2, _, r1.mono t2, r2, s2, q2, fun z H3 q3 => ?_⟩
    obtain ⟨k, e, S3, t3, s3, q5⟩ := asB_out q3
    subst e
    refine ⟨k, rfl, ?_⟩
    cases k with
    | true =>
      rw [if_pos rfl]
      exact ⟨ρ, S3, _, hE.mono (t1.trans (t2.trans t3)), s3, q5, fun w' H4 ⟨z, S4, t4, r4, s4, q4⟩ => ⟨y, z, S4, R, r2.mono (t3.trans t4), r4, s4, q4, fun v H' q => q.base (t1.trans (t2.trans (t3.trans t4)))⟩⟩
    | false =>
      rw [if_neg Bool.false_ne_true]
      exact ⟨.bl false, S3, t1.trans (t2.trans t3), by unfold RM; rfl, s3, q5⟩
theorem et_chain {op op' : CmpOp} {f g : M2} (ho : OpR X (compareOp op) (rM X.K Z f)) (ho' : OpR X (compareOp op') (rM X.K Z g)) (ha : EE X Z a ma) (hb : EE X Z b mb) (hc : EE X Z c mc)
    (hm : lastMarks [op, op'] [b, c] = false := by kernel_rfl) : ET X Z (.Compare a [op, op'] [b, c] pos) (mTst (mChain f g ma mb mc)) :=
  et_of (pt_chain ho ho' ha.pe hb.pe hc.pe hm) fun σ H ρ S R hE hS hm => by
    refine ⟨ρ, S, _, hE, hS, hm, fun v H1 ⟨x, S1, t1, r1, s1, q1⟩ => ?_⟩
    refine ⟨ρ, S1, _, hE.mono t1, s1, q1, fun u H2 ⟨y, S2, t2, r2, s2, q2⟩ => ?_⟩
    refine ⟨x, y, S2, _, r1.mono t2, r2, s2, q2, fun z H3 q3 => ?_⟩
    obtain ⟨k, e, S3, t3, s3, q5⟩ := asB_out q3
    subst e
    refine ⟨k, rfl, ?_⟩
    cases k with
    | true =>
      rw [if_pos rfl]
      exact ⟨ρ, S3, _, hE.mono (t1.trans (t2.trans t3)), s3, q5, fun w' H4 ⟨z, S4, t4, r4, s4, q4⟩ => ⟨y, z, S4, _, r2.mono (t3.trans t4), r4, s4, q4, fun v H' q => asB_out (q.base (t1.trans (t2.trans (t3.trans t4))))⟩⟩
    | false =>
      rw [if_neg Bool.false_ne_true]
      exact ⟨false, rfl, S3, t1.trans (t2.trans t3), s3, q5⟩
/-! ### arguments, displays -/
def maNil : MA := fun _ S R => R [] S
def maCons (m : ME) (r : MA) : MA := fun ρ S R => m ρ S fun x S1 => r ρ S1 fun xs S2 => R (x :: xs) S2
variable {es : List Expr} {mas : MA}
theorem ea_nil : EA X Z [] maNil := ⟨PA.imp pa_nil fun σ H Q ⟨ρ, S, R, hE, hS, hm, hQ⟩ => hQ _ _ ⟨[], S, GK.refl, RMs.nil, hS, hm⟩⟩
theorem ea_cons (ha : EE X Z e m) (hr : EA X Z es mas) (hs : starEach (e :: es) X.env = (false, eval e X.env) :: starEach es X.env := by kernel_rfl) : EA X Z (e :: es) (maCons m mas) :=
  ⟨PA.imp (pa_cons ha.pe hr.pa hs) fun σ H Q ⟨ρ, S, R, hE, hS, hm, hQ⟩ => by
    refine ⟨ρ, S, _, hE, hS, hm, fun v H1 ⟨x, S1, t1, r1, s1, q1⟩ => ?_⟩
    refine ⟨ρ, S1, _, hE.mono t1, s1, q1, fun vs H2 ⟨xs, S2, t2, r2, s2, q2⟩ => ?_⟩
    exact hQ _ _ ⟨x :: xs, S2, t1.trans t2, RMs.cons (r1.mono t2) r2, s2, q2⟩⟩
def mTup (ms : MA) : ME := fun ρ S R => ms ρ S fun l S1 => l.length ≤ sizeLine ∧ R (.tup l) S1
def mLst (ms : MA) : ME := fun ρ S R => ms ρ S fun l S1 => l.length ≤ sizeLine ∧ newL l S1 R
theorem ee_tup {x1} (h : EA X Z es mas) : EE X Z (.Tuple es x1 pos) (mTup mas) :=
  ee_of (pe_tup h.pa) fun σ H ρ S R hE hS hm => by
    refine ⟨ρ, S, _, hE, hS, hm, fun vs H1 ⟨l, S1, t1, r1, s1, q1⟩ => ⟨by rw [r1.length]; exact q1.1, fun p hp => ?_⟩⟩
    exact mq_tup (fun v H' q => q.base t1) s1 r1 hp q1.2
theorem ee_lst (h : EA X Z es mas) : EE X Z (.List es pos) (mLst mas) :=
  ee_of (pe_lst h.pa) fun σ H ρ S R hE hS hm => by
    refine ⟨ρ, S, _, hE, hS, hm, fun vs H1 ⟨l, S1, t1, r1, s1, q1⟩ => ⟨by rw [r1.length]; exact q1.1, fun p hp => ?_⟩⟩
    exact mq_lst (fun v H' q => q.base t1) s1 r1 hp q1.2
/-! ### attributes -/
def mFld (T : String → String → Bool) (ma : ME) (f : String) : ME := fun ρ S R => ma ρ S fun x S1 => match x with
  | .ref a => (match S1 a with
    | some (.ins c fs) => T c f = true ∧ (match fs.lookup f with
      | some v => R v S1
      | none => False)
    | _ => False)
  | _ => False
/-- the classes' attributes -/
def AtOk (K : PySem.W.Frag) (T : String → String → Bool) : Prop := ∀ c f, T c f = true → Cls K (He.ga K (so c)) ∧ NoAttr K (He.ga K (so c)) (so f)
theorem lookup_rel {K : PySem.W.Frag} {H : Hp} {f : String} {m : MV} : ∀ {fs : List (String × MV)} {xs : List (Str × V)}, xs.map (·.1) = fs.map (fun p => so p.1) → RMs K H (fs.map (·.2)) (xs.map (·.2)) → fs.lookup f = some m → ∃ x, xs.lookup (so f) = some x ∧ RM K H m x
  | [], _, _, _, h => by cases h
  | (g, n) :: fs, [], e, _, _ => by simp at e
  | (g, n) :: fs, (y, x) :: xs, e, r, h => by
    simp only [List.map_cons, List.cons.injEq] at e
    simp only [List.map_cons] at r
    unfold RMs at r
    obtain ⟨x', r', ex, h1, h2⟩ := r
    injection ex with ex1 ex2
    subst ex1; subst ex2
    rw [List.lookup_cons] at h ⊢
    rw [e.1, so_beq]
    cases hb : f == g with
    | true => rw [hb] at h; cases h; exact ⟨x, rfl, h1⟩
    | false => rw [hb] at h; exact lookup_rel e.2 h2 h
theorem lookup_none {f : String} : ∀ {fs : List (String × MV)} {xs : List (Str × V)}, xs.map (·.1) = fs.map (fun p => so p.1) → fs.lookup f = none → xs.lookup (so f) = none
  | [], xs, e, _ => by cases xs with
    | nil => rfl
    | cons a b => simp at e
  | (g, n) :: fs, [], e, _ => by simp at e
  | (g, n) :: fs, (y, x) :: xs, e, h => by
    simp only [List.map_cons, List.cons.injEq] at e
    rw [List.lookup_cons] at h ⊢
    rw [e.1, so_beq]
    cases hb : f == g with
    | true => rw [hb] at h; cases h
    | false => rw [hb] at h; exact lookup_none e.2 h
theorem RS.ins {K : PySem.W.Frag} {S : Sto} {H : Hp} {a : Addr} {c : String} {fs : List (String × MV)} (r : RS K Z S H) (e : S a = some (.ins c fs)) :
    ∃ (dx : Addr) (xs : List (Str × V)), H a = some (.ins (He.ga K (so c)) dx xs) ∧ xs.map (·.1) = fs.map (fun p => so p.1) ∧ RMs K H (fs.map (·.2)) (xs.map (·.2)) := r.ob a _ e
theorem ee_fld {f : String} {T : String → String → Bool} (hT : AtOk X.K T) (he : EE X Z e m) (hb : attributeBase e (Str.ofString f) X.env (eval e X.env) = eval e X.env := by kernel_rfl) : EE X Z (.Attribute e (Str.ofString f) pos) (mFld T m f) :=
  ee_of (pe_fld he.pe hb) fun σ H ρ S R hE hS hm => by
    refine ⟨ρ, S, _, hE, hS, hm, fun v H1 ⟨x, S1, t1, r1, s1, q1⟩ => ?_⟩
    dsimp only at q1
    split at q1
    · rename_i a
      split at q1
      · rename_i c fs e1
        obtain ⟨hc, q1⟩ := q1
        split at q1
        · rename_i m' e2
          obtain ⟨dx, xs, h1, h2, h3⟩ := s1.ins e1
          obtain ⟨y, e3, r3⟩ := lookup_rel h2 h3 e2
          unfold RM at r1
          exact ⟨a, _, dx, xs, y, r1, h1, (hT _ _ hc).1, (hT _ _ hc).2, e3, m', S1, t1, r3, s1, q1⟩
        · exact q1.elim
      · exact q1.elim
    · exact q1.elim
end
end Mv

set_option Elab.async false
set_option linter.all false
set_option maxRecDepth 100000
set_option maxHeartbeats 4000000
namespace Mv
open PySem PySem.Spec PyProof.Rows L2
/-! ### dicts with text keys -/
def putD (kvs : List (String × MV)) (k : String) (v : MV) : List (String × MV) :=
  if (kvs.any fun kv => kv.1 == k) = true then kvs.map (fun kv => if kv.1 = k then (kv.1, v) else kv) else kvs ++ [(k, v)]
def mergeD (kvs more : List (String × MV)) : List (String × MV) := more.foldl (fun acc kv => putD acc kv.1 kv.2) kvs
/-- two lists of pairs -/
structure RK (K : PySem.W.Frag) (H : Hp) (kvs : List (String × MV)) (ks : List (Key × V)) : Prop where
  keys : ks.map (·.1) = kvs.map (fun p => (Sum.inr (so p.1) : Key))
  vals : RMs K H (kvs.map (·.2)) (ks.map (·.2))
theorem inr_eq (s t : String) : ((Sum.inr (so s) : Key) = Sum.inr (so t)) ↔ s = t := ⟨fun h => so_inj (Sum.inr.inj h), fun h => by rw [h]⟩
theorem RK.nil {K : PySem.W.Frag} {H : Hp} : RK K H [] [] := ⟨rfl, RMs.nil⟩
theorem RK.cons_iff {K : PySem.W.Frag} {H : Hp} {k : String} {m : MV} {kvs : List (String × MV)} {q : Key} {x : V} {ks : List (Key × V)} : RK K H ((k, m) :: kvs) ((q, x) :: ks) ↔ q = Sum.inr (so k) ∧ RM K H m x ∧ RK K H kvs ks := by
  constructor
  · rintro ⟨h1, h2⟩
    simp only [List.map_cons, List.cons.injEq] at h1
    simp only [List.map_cons] at h2
    unfold RMs at h2
    obtain ⟨x', r, e, a, b⟩ := h2
    injection e with e1 e2
    subst e1; subst e2
    exact ⟨h1.1, a, h1.2, b⟩
  · rintro ⟨e, a, b⟩
    refine ⟨?_, ?_⟩
    · simp only [List.map_cons, e, b.keys]
    · simp only [List.map_cons]
      exact RMs.cons a b.vals
theorem RK.length {K : PySem.W.Frag} {H : Hp} {kvs : List (String × MV)} {ks : List (Key × V)} (r : RK K H kvs ks) : ks.length = kvs.length := by
  have := congrArg List.length r.keys; simpa using this
theorem RK.get {K : PySem.W.Frag} {H : Hp} {s : String} {m : MV} : ∀ {kvs : List (String × MV)} {ks : List (Key × V)}, RK K H kvs ks → kvs.lookup s = some m → ∃ x, valV ks (Sum.inr (so s) : Key) = some x ∧ RM K H m x
  | [], _, _, h => by cases h
  | (k, n) :: kvs, [], r, _ => by have := r.length; simp at this
  | (k, n) :: kvs, (q, x) :: ks, r, h => by
    obtain ⟨e, a, b⟩ := RK.cons_iff.mp r
    subst e
    rw [List.lookup_cons] at h
    by_cases hk : s = k
    · subst hk
      simp at h; subst h
      exact ⟨x, valV_pos rfl, a⟩
    · have hb : (s == k) = false := beq_eq_false_iff_ne.mpr hk
      rw [hb] at h
      obtain ⟨y, e1, e2⟩ := RK.get b h
      exact ⟨y, by rw [valV_neg (fun e => hk ((inr_eq _ _).mp e).symm)]; exact e1, e2⟩
theorem RK.any {K : PySem.W.Frag} {H : Hp} {s : String} : ∀ {kvs : List (String × MV)} {ks : List (Key × V)}, RK K H kvs ks → (ks.any fun kv => decide (kv.1 = (Sum.inr (so s) : Key))) = kvs.any fun kv => kv.1 == s
  | [], [], _ => rfl
  | [], _ :: _, r => by have := r.length; simp at this
  | _ :: _, [], r => by have := r.length; simp at this
  | (k, n) :: kvs, (q, x) :: ks, r => by
    obtain ⟨e, a, b⟩ := RK.cons_iff.mp r
    subst e
    rw [List.any_cons, List.any_cons, RK.any b]
    congr 1
    by_cases hk : k = s
    · subst hk; simp
    · rw [decide_eq_false (fun e => hk ((inr_eq _ _).mp e)), beq_eq_false_iff_ne.mpr hk]
theorem RK.repl {K : PySem.W.Frag} {H : Hp} {s : String} {m : MV} {v : V} (rv : RM K H m v) : ∀ {kvs : List (String × MV)} {ks : List (Key × V)}, RK K H kvs ks →
    RK K H (kvs.map (fun kv => if kv.1 = s then (kv.1, m) else kv)) (ks.map (fun kv => if kv.1 = (Sum.inr (so s) : Key) then (kv.1, v) else kv))
  | [], [], _ => .nil
  | [], _ :: _, r => by have := r.length; simp at this
  | _ :: _, [], r => by have := r.length; simp at this
  | (k, n) :: kvs, (q, x) :: ks, r => by
    obtain ⟨e, a, b⟩ := RK.cons_iff.mp r
    subst e
    have ih := RK.repl (s := s) rv b
    simp only [List.map_cons]
    by_cases hk : k = s
    · subst hk
      simp only [if_true]
      exact RK.cons_iff.mpr ⟨rfl, rv, ih⟩
    · rw [if_neg hk, if_neg (fun e => hk ((inr_eq _ _).mp e))]
      exact RK.cons_iff.mpr ⟨rfl, a, ih⟩
theorem RK.snoc {K : PySem.W.Frag} {H : Hp} {s : String} {m : MV} {v : V} (rv : RM K H m v) {kvs : List (String × MV)} {ks : List (Key × V)} (r : RK K H kvs ks) : RK K H (kvs ++ [(s, m)]) (ks ++ [((Sum.inr (so s) : Key), v)]) :=
  ⟨by simp [r.keys], by simpa using r.vals.append (RMs.cons rv RMs.nil)⟩
theorem RK.put {K : PySem.W.Frag} {H : Hp} {s : String} {m : MV} {v : V} (rv : RM K H m v) {kvs : List (String × MV)} {ks : List (Key × V)} (r : RK K H kvs ks) : RK K H (putD kvs s m) (putK ks (Sum.inr (so s) : Key) v) := by
  unfold putD putK
  rw [r.any]
  split
  · exact r.repl rv
  · exact r.snoc rv
theorem RK.merge {K : PySem.W.Frag} {H : Hp} : ∀ {more : List (String × MV)} {ms : List (Key × V)} {kvs : List (String × MV)} {ks : List (Key × V)}, RK K H more ms → RK K H kvs ks → RK K H (mergeD kvs more) (mergeK ks ms)
  | [], [], _, _, _, r => r
  | [], _ :: _, _, _, r, _ => by have := r.length; simp at this
  | _ :: _, [], _, _, r, _ => by have := r.length; simp at this
  | (k, n) :: more, (q, x) :: ms, kvs, ks, r, r2 => by
    obtain ⟨e, a, b⟩ := RK.cons_iff.mp r
    subst e
    show RK K H (mergeD (putD kvs k n) more) (mergeK (putK ks (Sum.inr (so k)) x) ms)
    exact RK.merge b (r2.put a)
theorem RS.dct {K : PySem.W.Frag} {Z : ZT} {S : Sto} {H : Hp} {a : Addr} {kvs : List (String × MV)} (r : RS K Z S H) (e : S a = some (.dct kvs)) : ∃ ks, H a = some (.dK ks) ∧ RK K H kvs ks := by
  obtain ⟨ks, h1, h2, h3⟩ := r.ob a _ e
  exact ⟨ks, h1, h2, h3⟩
theorem RK.mono {K : PySem.W.Frag} {S S' : Sto} {H H' : Hp} {kvs : List (String × MV)} {ks : List (Key × V)} (r : RK K H kvs ks) (g : GK K S H S' H') : RK K H' kvs ks := ⟨r.keys, r.vals.mono g⟩
def dgetV : M2 := fun x y S R => match y with
  | .str s => (match x with
    | .ref a => (match S a with
      | some (.dct kvs) => (match kvs.lookup s with
        | some v => R v S
        | none => False)
      | _ => False)
    | _ => False)
  | _ => False
section
variable {X : Cx} {Z : ZT} {e a b c o i value : Expr} {m ma mb mc : ME} {mt mu : MT} {pos pos' : Pos} {rest : List Expr}
theorem ee_dget (hu : X.A.units + 1 < cLine) (ho : EE X Z o ma) (hi : EE X Z i mb) (hs : NoSl i) : EE X Z (.Subscript o i pos) (mOp dgetV ma mb) :=
  ee_of (pe_dget hu ho.pe hi.pe hs) fun σ H ρ S R hE hS hm => by
    refine ⟨ρ, S, _, hE, hS, hm, fun v H1 ⟨x, S1, t1, r1, s1, q1⟩ => ?_⟩
    refine ⟨ρ, S1, _, hE.mono t1, s1, q1, fun u H2 ⟨y, S2, t2, r2, s2, q2⟩ => ?_⟩
    cases y with
    | str s =>
      cases x with
      | ref d =>
        have q2 : (match S2 d with
          | some (.dct kvs) => (match kvs.lookup s with
            | some v => R v S2
            | none => False)
          | _ => False) := q2
        split at q2
        · rename_i kvs e1
          split at q2
          · rename_i w e2
            obtain ⟨ks, h1, h2⟩ := s2.dct e1
            obtain ⟨z, e3, r3⟩ := h2.get e2
            have r1' := r1.mono t2
            unfold RM at r1' r2
            refine ⟨d, z, r1', ?_, w, S2, t1.trans t2, r3, s2, q2⟩
            rw [r2, ← e3]
            exact DGet.k (k := Sum.inr (so s)) h1
          · exact q2.elim
        · exact q2.elim
      | _ => exact False.elim q2
    | _ => exact False.elim q2
def newD (kvs : List (String × MV)) (S : Sto) (R : MK) : Prop := ∀ p, S p = none → R (.ref p) (supd S p (.dct kvs))
theorem mq_dct {K : PySem.W.Frag} {S : Sto} {H : Hp} {R : MK} {Q : VK} (hQ : ∀ v H', MQ K Z S H R v H' → Q v H') {kvs : List (String × MV)} {ks : List (Key × V)} {p : Addr} (s : RS K Z S H) (r : RK K H kvs ks) (hp : H p = none) (h : newD kvs S R) : Q (.ref p) (upd H p (.dK ks)) := by
  have g : GK K S H (supd S p (.dct kvs)) (upd H p (.dK ks)) := GK.new hp
  exact hQ _ _ ⟨.ref p, _, g, by unfold RM; rfl, s.put (TK.new hp) (fun ps e => by rw [hp] at e; cases e) ⟨ks, upd_same, r.keys, (r.mono g).vals⟩, h p (s.free hp)⟩
def mDictN : ME := fun _ S R => newD [] S R
theorem ee_dictN : EE X Z (.Dict [] [] pos) mDictN := ee_of pe_dnewK fun σ H ρ S R hE hS hm => fun p hp => mq_dct (fun v H' q => q) hS RK.nil hp hm
/-- the pairs of a display, their keys written texts -/
structure ED (X : Cx) (Z : ZT) (pos : Pos) (keys : List (Option Expr)) (values : List Expr) (ks : List String) (m : MA) : Prop where
  ex : ∃ trs, PPs X pos keys values trs ∧ ∀ σ H ρ S R Q, RE X.K H ρ σ → RS X.K Z S H → m ρ S R →
    (∀ ps H', (∃ (kvs : List (Key × V)) (ms : List MV) (S' : Sto), GK X.K S H S' H' ∧ ps = kvs.map (fun kv => (kV kv.1, kv.2)) ∧ ms.length = ks.length ∧ RK X.K H' (ks.zip ms) kvs ∧ RS X.K Z S' H' ∧ R ms S') → Q ps H') → tPairs trs σ H Q
theorem ed_nil : ED X Z pos [] [] [] maNil := ⟨[], pps_nil, fun σ H ρ S R Q hE hS hm hQ => hQ _ _ ⟨[], [], S, GK.refl, rfl, rfl, RK.nil, hS, hm⟩⟩
theorem ed_cons {s : String} {j p1} {v : Expr} {keys : List (Option Expr)} {values : List Expr} {ks : List String} {mr : MA} (hv : EE X Z v m) (h : ED X Z pos keys values ks mr) : ED X Z pos (some (.Constant (.str (Str.ofString s)) j p1) :: keys) (v :: values) (s :: ks) (maCons m mr) := by
  obtain ⟨trs, h1, h2⟩ := h.ex
  refine ⟨_, pps_cons pe_str hv.pe h1, fun σ H ρ S R Q hE hS hm hQ => ?_⟩
  show tM X.K Z m σ H _
  refine ⟨ρ, S, _, hE, hS, hm, fun u H1 ⟨x, S1, t1, r1, s1, q1⟩ => ?_⟩
  refine h2 σ H1 ρ S1 _ _ (hE.mono t1) s1 q1 fun ps H2 ⟨kvs, ms, S2, t2, e, hl, r2, s2, q2⟩ => ?_
  refine hQ _ _ ⟨((Sum.inr (so s) : Key), u) :: kvs, x :: ms, S2, t1.trans t2, by rw [e]; rfl, by rw [List.length_cons, List.length_cons, hl], ?_, s2, q2⟩
  rw [List.zip_cons_cons]
  exact RK.cons_iff.mpr ⟨rfl, r1.mono t2, r2⟩
/-- something hidden is laid first, shown at the end -/
theorem GK.late {K : PySem.W.Frag} {S S' : Sto} {H H' : Hp} {p : Addr} {o o' : HO} {m : MO} (hp : H p = none) (t : GK K S (upd H p o) S' H') (tk : TK K H' (upd H' p o')) : GK K S H (supd S' p m) (upd H' p o') :=
  ⟨(TK.new hp).trans (t.tk.trans tk), fun a u n e nt => by
    have hne : a ≠ p := ne_of_none e hp
    obtain ⟨e1, n1⟩ := t.fr a u n (by rw [upd_ne hne]; exact e) nt
    exact ⟨by rw [upd_ne hne]; exact e1, by rw [supd_ne hne]; exact n1⟩⟩
def mDisp (ks : List String) (ms : MA) : ME := fun ρ S R => ms ρ S fun vs S1 => newD (mergeD [] (ks.zip vs)) S1 R
theorem ee_disp {keys : List (Option Expr)} {values : List Expr} {ks : List String} {mas : MA} (h : ED X Z pos keys values ks mas) (hk : ks.length ≤ 15 := by decide) (hall : keys.all (·.isSome) = true := by kernel_rfl) (hl : keys.length = values.length := by kernel_rfl) (h0 : keys ≠ [] := by intro z; cases z)
    (hk2 : keys.length ≤ 15 := by decide) : EE X Z (.Dict keys values pos) (mDisp ks mas) := by
  obtain ⟨trs, h1, h2⟩ := h.ex
  refine ee_of (pe_disp h1 hall hl h0 hk2) fun σ H ρ S R hE hS hm => fun p hp => ?_
  have g0 : GK X.K S H S (upd H p (.dK [])) := GK.hid hp
  refine h2 σ _ ρ S _ _ (hE.mono g0) (hS.hid hp) hm fun ps H' ⟨kvs, ms, S', t, e, hlen, r, s, q⟩ => ?_
  obtain ⟨k1, k2⟩ := t.fr p (.dK []) (hS.free hp) upd_same (fun ps e => by cases e)
  refine ⟨k1, kvs, e, ?_, ?_⟩
  · rw [r.length, List.length_zip, hlen, Nat.min_self]; exact hk
  · have r2 : RK X.K H' (mergeD [] (ks.zip ms)) (mergeK [] kvs) := RK.merge r RK.nil
    have g1 : GK X.K S H (supd S' p (.dct (mergeD [] (ks.zip ms)))) (upd H' p (.dK (mergeK [] kvs))) := GK.late hp t (TK.dK k1)
    exact ⟨.ref p, _, g1, by unfold RM; rfl, s.put (TK.dK k1) (fun ps e => by rw [k1] at e; cases e) ⟨_, upd_same, r2.keys, RMs.monoT (TK.dK k1) _ r2.vals⟩, q p k2⟩
/-! ### slices -/
def mPart := Env → Sto → (Option Int → Sto → Prop) → Prop
def pNo : mPart := fun _ S R => R none S
def pYes (m : ME) : mPart := fun ρ S R => m ρ S fun x S1 => match x with
  | .int i => R (some i) S1
  | _ => False
structure EO (X : Cx) (Z : ZT) (e : Option Expr) (m : mPart) : Prop where
  po : ∃ t : TO, PO X e t ∧ ∀ σ H ρ S R Q, RE X.K H ρ σ → RS X.K Z S H → m ρ S R → (∀ o H', (∃ S', GK X.K S H S' H' ∧ RS X.K Z S' H' ∧ R o S') → Q o H') → t σ H Q
theorem eo_no : EO X Z none pNo := ⟨_, po_none, fun σ H ρ S R Q hE hS hm hQ => hQ _ _ ⟨S, GK.refl, hS, hm⟩⟩
theorem eo_yes (h : EE X Z e m) : EO X Z (some e) (pYes m) := ⟨_, po_some h.pe, fun σ H ρ S R Q hE hS hm hQ => by
  refine ⟨ρ, S, _, hE, hS, hm, fun v H1 ⟨x, S1, t1, r1, s1, q1⟩ => ?_⟩
  cases x with
  | int i => unfold RM at r1; exact ⟨i, r1, hQ _ _ ⟨S1, t1, s1, q1⟩⟩
  | _ => exact False.elim q1⟩
def cutM (l : List MV) (lo hi : Option Int) : List MV := (l.drop (HT.sIx l.length 0 lo)).take (HT.sIx l.length l.length hi - HT.sIx l.length 0 lo)
theorem cut_rel {K : PySem.W.Frag} {H : Hp} {l : List MV} {xs : List V} (r : RMs K H l xs) (lo hi : Option Int) : RMs K H (cutM l lo hi) (cutV xs lo hi) := by
  unfold cutM cutV
  rw [r.length]
  exact (r.drop _).take _
def slV (x : MV) (lo hi : Option Int) (S : Sto) (R : MK) : Prop := match x with
  | .tup l => R (.tup (cutM l lo hi)) S
  | .ref a => (match lookL S a with
    | some l => newL (cutM l lo hi) S R
    | none => False)
  | .frz l => newL (cutM l lo hi) S R
  | _ => False
def mSl (ma : ME) (lo hi : mPart) : ME := fun ρ S R => ma ρ S fun x S1 => lo ρ S1 fun l S2 => hi ρ S2 fun u S3 => slV x l u S3 R
theorem ee_slice {lo hi : Option Expr} {ml mh : mPart} {p2 : Pos} (he : EE X Z e m) (hl : EO X Z lo ml) (hh : EO X Z hi mh) : EE X Z (.Subscript e (.Slice lo hi none p2) pos) (mSl m ml mh) := by
  obtain ⟨tl, l1, l2⟩ := hl.po
  obtain ⟨th, h1, h2⟩ := hh.po
  refine ee_of (pe_slice (sl_tupA.or sl_list) he.pe l1 h1) fun σ H ρ S R hE hS hm => ?_
  refine ⟨ρ, S, _, hE, hS, hm, fun v H1 ⟨x, S1, t1, r1, s1, q1⟩ => ?_⟩
  refine l2 σ H1 ρ S1 _ _ (hE.mono t1) s1 q1 fun o H2 ⟨S2, t2, s2, q2⟩ => ?_
  refine h2 σ H2 ρ S2 _ _ (hE.mono (t1.trans t2)) s2 q2 fun o2 H3 ⟨S3, t3, s3, q3⟩ => ?_
  have r3 := r1.mono (t2.trans t3)
  have hQ : ∀ v H', MQ X.K Z S3 H3 R v H' → MQ X.K Z S H R v H' := fun v H' q => q.base (t1.trans (t2.trans t3))
  cases x with
  | tup l =>
    have r3' := r3
    unfold RM at r3
    obtain ⟨a, xs, e1, sq, rs⟩ := r3
    refine .inl ⟨a, xs, e1, sq, fun hw => ?_, fun hw p hp => ?_⟩
    · have ec : cutM l o o2 = l := by
        unfold cutM
        rw [← rs.length, hw.1, hw.2]
        rw [rs.length, List.drop_zero, Nat.sub_zero, List.take_length]
      have q3 : R (.tup (cutM l o o2)) S3 := q3
      rw [ec] at q3
      rw [← e1]
      exact mq hQ r3' s3 q3
    · exact mq_tup hQ s3 (cut_rel rs o o2) hp q3
  | ref a =>
    unfold RM at r3
    have q3 : (match lookL S3 a with
      | some l => newL (cutM l o o2) S3 R
      | none => False) := q3
    split at q3
    · rename_i l el
      obtain ⟨xs, g1, g2⟩ := look_sq s3 el
      exact .inr ⟨a, xs, r3, g1, fun p hp => mq_lst hQ s3 (cut_rel g2 o o2) hp q3⟩
    · exact q3.elim
  | frz l =>
    unfold RM at r3
    obtain ⟨a, xs, e1, sq, rs⟩ := r3
    exact .inr ⟨a, xs, e1, sq.sq, fun p hp => mq_lst hQ s3 (cut_rel rs o o2) hp q3⟩
  | _ => exact False.elim q3
def mRev (ma : ME) : ME := fun ρ S R => ma ρ S fun x S1 => match x with
  | .ref a => (match lookL S1 a with
    | some l => newL l.reverse S1 R
    | none => False)
  | .frz l => newL l.reverse S1 R
  | _ => False
theorem ee_rev {k : Nat} {p1 p2 p3 : Pos} (he : EE X Z e m) : EE X Z (.Subscript e (.Slice none none (some (.UnaryOp .USub (.Constant (.int 1) k p1) p2)) p3) pos) (mRev m) :=
  ee_of (pe_revL he.pe) fun σ H ρ S R hE hS hm => by
    refine ⟨ρ, S, _, hE, hS, hm, fun v H1 ⟨x, S1, t1, r1, s1, q1⟩ => ?_⟩
    cases x with
    | ref a =>
      unfold RM at r1
      dsimp only at q1
      split at q1
      · rename_i l el
        obtain ⟨xs, g1, g2⟩ := look_sq s1 el
        exact ⟨a, xs, r1, g1, fun p hp => mq_lst (fun v H' q => q.base t1) s1 g2.reverse hp q1⟩
      · exact q1.elim
    | frz l =>
      unfold RM at r1
      obtain ⟨a, xs, e1, sq, rs⟩ := r1
      exact ⟨a, xs, e1, sq.sq, fun p hp => mq_lst (fun v H' q => q.base t1) s1 rs.reverse hp q1⟩
    | _ => exact False.elim q1
/-! ### calls of defs -/
abbrev MW := List MV → Sto → MK → Prop
/-- the promise that is the def's own reading -/
def spM (K : PySem.W.Frag) (Z : ZT) (n : Nat) (W : MW) : Sp := fun vs H Q _ => vs.length = n ∧ ∃ ms S R, RMs K H ms vs ∧ RS K Z S H ∧ W ms S R ∧ ∀ v H', MQ K Z S H R v H' → Q v H'
/-- a def that keeps its reading W -/
structure Cal (P : Program) (w : World) (K : PySem.W.Frag) (mg : Str → Option Value) (base : Heap) (Z : ZT) (f : Addr) (ps : List Str) (k : Nat) (W : MW) : Prop where
  ex : ∃ fd : FuncData, FnOk P w K mg base CX0 k f fd ps (spM K Z ps.length W) ∧ PySem.W.keepIn K (.ref f) = true ∧ Binds K fd ps []
  len : ∀ ms S R, W ms S R → ms.length = ps.length
def mCall (W : MW) (ms : MA) : ME := fun ρ S R => ms ρ S fun vs S1 => W vs S1 R
section
variable {es : List Expr} {ps : List Str} {k k' : Nat} {W : MW} {mas : MA}
theorem sp_of {K : PySem.W.Frag} {S0 S : Sto} {H0 H : Hp} {n : Nat} {R : MK} {ms : List MV} {vs : List V} (hlen : ∀ ms S R, W ms S R → ms.length = n) (t : GK K S0 H0 S H) (r : RMs K H ms vs) (s : RS K Z S H) (q : W ms S R) : spM K Z n W vs H (MQ K Z S0 H0 R) E0 :=
  ⟨by rw [r.length]; exact hlen _ _ _ q, ms, S, R, r, s, q, fun v H' q => q.base t⟩
theorem ee_call {x : Str} {f : Addr} {p : Pos} (C : Cal X.prog X.w X.K X.mg X.base Z f ps k W) (hr : Room k' X.A) (hk : k ≤ k') (hg : Gl X x) (hm : X.mg x = some (.ref f)) (ha : EA X Z (e :: es) mas) (hdb : (x == ("__debug__" : Str)) = false := by kernel_rfl)
    (he : starEach (e :: es) X.env = (false, eval e X.env) :: starEach es X.env := by kernel_rfl) (hpl : (backTo pos (starEach es X.env)).any (·.1) = false := by kernel_rfl) : EE X Z (.Call (.Name x p) (e :: es) [] pos) (mCall W mas) := by
  obtain ⟨fd, F, kp, b⟩ := C.ex
  refine ee_of (pe_call F (hr.mono hk) hg hm kp b .nil pass0 ha.pa hdb he hpl) fun σ H ρ S R hE hS hm => ?_
  refine ⟨ρ, S, _, hE, hS, hm, fun vs H1 ⟨ms, S1, t1, r1, s1, q1⟩ => ?_⟩
  dsimp only
  rw [List.append_nil]
  exact sp_of C.len t1 r1 s1 q1
/-- o.m(..) of an own class -/
def mMeth (c m : String) (W : MW) (mo : ME) (ms : MA) : ME := fun ρ S R => mo ρ S fun x S1 => match x with
  | .ref a => (match S1 a with
    | some (.ins c' fs) => c' = c ∧ fs.lookup m = none ∧ ms ρ S1 fun vs S2 => W (.ref a :: vs) S2 R
    | _ => False)
  | _ => False
theorem ee_meth {c mt : String} {f : Addr} {apos : Pos} (C : Cal X.prog X.w X.K X.mg X.base Z f ps k W) (hr : Room k' X.A) (hk : k ≤ k') (cl : Cls X.K (He.ga X.K (so c))) (hmt : Meth X.K (He.ga X.K (so c)) (so mt) f) (ho : EE X Z o m) (ha : EA X Z (e :: es) mas)
    (hst : starEach (e :: es) X.env = (false, eval e X.env) :: starEach es X.env := by kernel_rfl) (hpl : (backTo pos (starEach es X.env)).any (·.1) = false := by kernel_rfl)
    (ht : eval (.Call (.Attribute o (Str.ofString mt) apos) (e :: es) [] pos) X.env = (do
      let ov ← eval o X.env
      standAt apos.atName
      let (f, first) ← holding [ov] (getMethod ov (Str.ofString mt) (do return (← importBound o X.env).getD true))
      callWith pos f first (backTo pos (starEach (e :: es) X.env)) (backToKw pos (keywordEach [] X.env))) := by kernel_rfl) : EE X Z (.Call (.Attribute o (Str.ofString mt) apos) (e :: es) [] pos) (mMeth c mt W m mas) := by
  obtain ⟨fd, F, kp, b⟩ := C.ex
  refine ee_of (pe_meth ho.pe cl hmt F (hr.mono hk) b .nil pass0 ha.pa hst hpl ht) fun σ H ρ S R hE hS hm => ?_
  refine ⟨ρ, S, _, hE, hS, hm, fun v H1 ⟨x, S1, t1, r1, s1, q1⟩ => ?_⟩
  cases x with
  | ref a =>
    unfold RM at r1
    dsimp only at q1
    split at q1
    · rename_i c' fs e1
      obtain ⟨ec, el, q1⟩ := q1
      subst ec
      obtain ⟨dx, xs, h1, h2, h3⟩ := s1.ins e1
      refine ⟨a, dx, xs, r1, h1, lookup_none h2 el, ρ, S1, _, hE.mono t1, s1, q1, fun vs H2 ⟨ms, S2, t2, r2, s2, q2⟩ => ?_⟩
      dsimp only
      rw [List.append_nil, r1]
      exact sp_of C.len (t1.trans t2) (RMs.cons (by unfold RM; rfl) r2) s2 q2
    · exact q1.elim
  | _ => exact False.elim q1
theorem ee_meth0 {c mt : String} {f : Addr} {apos : Pos} (C : Cal X.prog X.w X.K X.mg X.base Z f ps k W) (hr : Room k' X.A) (hk : k ≤ k') (cl : Cls X.K (He.ga X.K (so c))) (hmt : Meth X.K (He.ga X.K (so c)) (so mt) f) (ho : EE X Z o m)
    (ht : eval (.Call (.Attribute o (Str.ofString mt) apos) [] [] pos) X.env = (do
      let ov ← eval o X.env
      standAt apos.atName
      let (f, first) ← holding [ov] (getMethod ov (Str.ofString mt) (do return (← importBound o X.env).getD true))
      callWith pos f first (backTo pos (starEach [] X.env)) (backToKw pos (keywordEach [] X.env))) := by kernel_rfl) : EE X Z (.Call (.Attribute o (Str.ofString mt) apos) [] [] pos) (mMeth c mt W m maNil) := by
  obtain ⟨fd, F, kp, b⟩ := C.ex
  refine ee_of (pe_meth0 ho.pe cl hmt F (hr.mono hk) b .nil pass0 ht) fun σ H ρ S R hE hS hm => ?_
  refine ⟨ρ, S, _, hE, hS, hm, fun v H1 ⟨x, S1, t1, r1, s1, q1⟩ => ?_⟩
  cases x with
  | ref a =>
    unfold RM at r1
    dsimp only at q1
    split at q1
    · rename_i c' fs e1
      obtain ⟨ec, el, q1⟩ := q1
      subst ec
      obtain ⟨dx, xs, h1, h2, h3⟩ := s1.ins e1
      refine ⟨a, dx, xs, r1, h1, lookup_none h2 el, ?_⟩
      rw [r1]
      exact sp_of C.len t1 (RMs.cons (by unfold RM; rfl) RMs.nil) s1 q1
    · exact q1.elim
  | _ => exact False.elim q1
/-- C(..) of an own class -/
def mMake (c : String) (W : MW) (ms : MA) : ME := fun ρ S R => ms ρ S fun vs S1 => ∀ p, S1 p = none → W (.ref p :: vs) (supd S1 p (.ins c [])) fun v S2 => v = .non ∧ R (.ref p) S2
theorem make_st {K : PySem.W.Frag} {S : Sto} {H : Hp} {x dx : Addr} {c : String} (s : RS K Z S H) (hx : H x = none) (hdx : H dx = none) (hne : dx ≠ x) :
    GK K S H (supd S x (.ins c [])) (upd (upd H dx (.own x)) x (.ins (He.ga K (so c)) dx [])) ∧ RS K Z (supd S x (.ins c [])) (upd (upd H dx (.own x)) x (.ins (He.ga K (so c)) dx [])) := by
  have h1 : (upd H dx (.own x)) x = none := by rw [upd_ne hne.symm]; exact hx
  have g0 : GK K S H S (upd H dx (.own x)) := GK.hid hdx
  have g1 : GK K S (upd H dx (.own x)) (supd S x (.ins c [])) (upd (upd H dx (.own x)) x (.ins (He.ga K (so c)) dx [])) := GK.new h1
  refine ⟨g0.trans g1, (s.hid hdx).put (TK.new h1) (fun ps e => by rw [h1] at e; cases e) ⟨dx, [], upd_same, rfl, RMs.nil⟩⟩
theorem ee_make {x : Str} {c : String} {f : Addr} {p : Pos} (C : Cal X.prog X.w X.K X.mg X.base Z f ps k W) (M : Mk X.K (He.ga X.K (so c)) f) (hr : Room k' X.A) (hk : k + 1 ≤ k') (hg : Gl X x) (hm : X.mg x = some (.ref (He.ga X.K (so c)))) (ha : EA X Z (e :: es) mas)
    (hdb : (x == ("__debug__" : Str)) = false := by kernel_rfl) (he : starEach (e :: es) X.env = (false, eval e X.env) :: starEach es X.env := by kernel_rfl) (hpl : (backTo pos (starEach es X.env)).any (·.1) = false := by kernel_rfl) :
    EE X Z (.Call (.Name x p) (e :: es) [] pos) (mMake c W mas) := by
  obtain ⟨fd, F, kp, b⟩ := C.ex
  refine ee_of (pe_make M F (hr.mono hk) hg hm b .nil pass0 ha.pa hdb he hpl) fun σ H ρ S R hE hS hm => ?_
  refine ⟨ρ, S, _, hE, hS, hm, fun vs H1 ⟨ms, S1, t1, r1, s1, q1⟩ => fun y dx hy hdx hne => ?_⟩
  obtain ⟨g, s2⟩ := make_st (c := c) s1 hy hdx hne
  rw [List.append_nil]
  have q2 := q1 y (s1.free hy)
  refine ⟨?_, .ref y :: ms, _, _, RMs.cons (by unfold RM; rfl) (r1.mono g), s2, q2, fun v H' ⟨m, S', t', r', s', em, q'⟩ => ?_⟩
  · rw [List.length_cons, r1.length]; exact C.len _ _ _ q2
  · subst em
    unfold RM at r'
    exact ⟨r', .ref y, S', t1.trans (g.trans t'), by unfold RM; rfl, s', q'⟩
end
end
end Mv

set_option Elab.async false
set_option linter.all false
set_option maxRecDepth 100000
set_option maxHeartbeats 4000000
namespace Mv
open PySem PySem.Spec PyProof.Rows L2
/-! ### built-ins by name -/
abbrev MF := List MV → Sto → MK → Prop
def rMC (K : PySem.W.Frag) (Z : ZT) (f : MF) : List V → Hp → VK → Prop := fun vs H Q => ∃ ms S R, RMs K H ms vs ∧ RS K Z S H ∧ f ms S R ∧ ∀ v H', MQ K Z S H R v H' → Q v H'
theorem rms1 {K : PySem.W.Frag} {H : Hp} {m : MV} {vs : List V} (r : RMs K H [m] vs) : ∃ v, vs = [v] ∧ RM K H m v := by
  unfold RMs at r; obtain ⟨v, r', e, h1, h2⟩ := r; unfold RMs at h2; subst h2; exact ⟨v, e, h1⟩
theorem rms2 {K : PySem.W.Frag} {H : Hp} {m n : MV} {vs : List V} (r : RMs K H [m, n] vs) : ∃ v u, vs = [v, u] ∧ RM K H m v ∧ RM K H n u := by
  unfold RMs at r; obtain ⟨v, r', e, h1, h2⟩ := r; obtain ⟨u, e2, h3⟩ := rms1 h2; subst e2; exact ⟨v, u, e, h1, h3⟩
def lenV : MF := fun ms S R => match ms with
  | [.tup l] => R (.int l.length) S
  | [.ref a] => (match lookL S a with
    | some l => R (.int l.length) S
    | none => False)
  | [.frz l] => R (.int l.length) S
  | _ => False
def listV : MF := fun ms S R => match ms with
  | [.tup l] => newL l S R
  | [.frz l] => newL l S R
  | [.ref a] => (match lookL S a with
    | some l => newL l S R
    | none => False)
  | _ => False
def tupleV : MF := fun ms S R => match ms with
  | [.tup l] => R (.tup l) S
  | [.ref a] => (match lookL S a with
    | some l => R (.tup l) S
    | none => False)
  | [.frz l] => R (.tup l) S
  | _ => False
def intV : MF := fun ms S R => match ms with
  | [.int i] => R (.int i) S
  | [.bl b] => R (.int (if b then 1 else 0)) S
  | _ => False
section
variable {X : Cx} {Z : ZT} {e a b c o i value : Expr} {m ma mb mc : ME} {mt mu : MT} {pos pos' p : Pos} {rest es : List Expr} {mas : MA} {x : Str}
theorem cr_len : CallR X (.builtin "len") (rMC X.K Z lenV) := by
  intro pins s σ H xs us Q I rv h
  obtain ⟨ms, S, R, r, hS, hf, hQ⟩ := h
  unfold lenV at hf
  split at hf
  · obtain ⟨v, rfl, q⟩ := rms1 r
    unfold RM at q
    obtain ⟨a, ys, e, sq, rs⟩ := q
    exact call_len_seq pins s σ H _ us Q I rv ⟨a, ys, by rw [e], .inr sq, by rw [rs.length]; exact mq_int hQ hS hf⟩
  · obtain ⟨v, rfl, q⟩ := rms1 r
    unfold RM at q
    split at hf
    · rename_i l el
      obtain ⟨ys, g1, g2⟩ := look_sq hS el
      exact call_len_seq pins s σ H _ us Q I rv ⟨_, ys, by rw [q], .inl g1, by rw [g2.length]; exact mq_int hQ hS hf⟩
    · exact hf.elim
  · obtain ⟨v, rfl, q⟩ := rms1 r
    unfold RM at q
    obtain ⟨a, ys, e, sq, rs⟩ := q
    exact call_len_seq pins s σ H _ us Q I rv ⟨a, ys, by rw [e], .inl sq.sq, by rw [rs.length]; exact mq_int hQ hS hf⟩
  · exact hf.elim
theorem cr_list : CallR X (.type "list") (rMC X.K Z listV) := by
  intro pins s σ H xs us Q I rv h
  obtain ⟨ms, S, R, r, hS, hf, hQ⟩ := h
  unfold listV at hf
  split at hf
  · obtain ⟨v, rfl, q⟩ := rms1 r
    unfold RM at q
    obtain ⟨a, ys, e, sq, rs⟩ := q
    exact call_list_of pins s σ H _ us Q I rv ⟨a, ys, by rw [e], .inr sq, fun l hl => mq_lst hQ hS rs hl hf⟩
  · obtain ⟨v, rfl, q⟩ := rms1 r
    unfold RM at q
    obtain ⟨a, ys, e, sq, rs⟩ := q
    exact call_list_of pins s σ H _ us Q I rv ⟨a, ys, by rw [e], .inl sq.sq, fun l hl => mq_lst hQ hS rs hl hf⟩
  · obtain ⟨v, rfl, q⟩ := rms1 r
    unfold RM at q
    split at hf
    · rename_i l el
      obtain ⟨ys, g1, g2⟩ := look_sq hS el
      exact call_list_of pins s σ H _ us Q I rv ⟨_, ys, by rw [q], .inl g1, fun l hl => mq_lst hQ hS g2 hl hf⟩
    · exact hf.elim
  · exact hf.elim
theorem cr_tuple : CallR X (.type "tuple") (rMC X.K Z tupleV) := by
  intro pins s σ H xs us Q I rv h
  obtain ⟨ms, S, R, r, hS, hf, hQ⟩ := h
  unfold tupleV at hf
  split at hf
  · obtain ⟨v, rfl, q⟩ := rms1 r
    have q' := q
    unfold RM at q
    obtain ⟨a, ys, e, sq, rs⟩ := q
    exact call_tuple_of pins s σ H _ us Q I rv ⟨a, ys, by rw [e], .inr ⟨sq, by rw [← e]; exact mq hQ q' hS hf⟩⟩
  · obtain ⟨v, rfl, q⟩ := rms1 r
    unfold RM at q
    split at hf
    · rename_i l el
      obtain ⟨ys, g1, g2⟩ := look_sq hS el
      exact call_tuple_of pins s σ H _ us Q I rv ⟨_, ys, by rw [q], .inl ⟨g1, fun l hl => mq_tup hQ hS g2 hl hf⟩⟩
    · exact hf.elim
  · obtain ⟨v, rfl, q⟩ := rms1 r
    unfold RM at q
    obtain ⟨a, ys, e, sq, rs⟩ := q
    exact call_tuple_of pins s σ H _ us Q I rv ⟨a, ys, by rw [e], .inl ⟨sq.sq, fun l hl => mq_tup hQ hS rs hl hf⟩⟩
  · exact hf.elim
theorem cr_int : CallR X (.type "int") (rMC X.K Z intV) := by
  intro pins s σ H xs us Q I rv h
  obtain ⟨ms, S, R, r, hS, hf, hQ⟩ := h
  unfold intV at hf
  split at hf
  · obtain ⟨v, rfl, q⟩ := rms1 r
    unfold RM at q
    exact call_int1 pins s σ H _ us Q I rv (.inl ⟨_, by rw [q], mq_int hQ hS hf⟩)
  · obtain ⟨v, rfl, q⟩ := rms1 r
    unfold RM at q
    exact call_int1 pins s σ H _ us Q I rv (.inr ⟨_, by rw [q], mq_int hQ hS hf⟩)
  · exact hf.elim
def mCB (f : MF) (ms : MA) : ME := fun ρ S R => ms ρ S fun vs S1 => f vs S1 R
theorem ee_callB {id : String} {f : MF} (hc : CallR X (.builtin id) (rMC X.K Z f)) (hg : Gl X x) (hm : X.mg x = none) (hv : bootBuiltins x = some (.builtin id)) (ha : EA X Z (e :: es) mas) (hn : x ≠ "__name__" := by decide +kernel) (hdb : (x == ("__debug__" : Str)) = false := by kernel_rfl)
    (he : starEach (e :: es) X.env = (false, eval e X.env) :: starEach es X.env := by kernel_rfl) (hpl : (backTo pos (starEach es X.env)).any (·.1) = false := by kernel_rfl) : EE X Z (.Call (.Name x p) (e :: es) [] pos) (mCB f mas) :=
  ee_of (pe_callB hc hg hm hv ha.pa hn hdb he hpl) fun σ H ρ S R hE hS hm =>
    ⟨ρ, S, _, hE, hS, hm, fun vs H1 ⟨ms, S1, t1, r1, s1, q1⟩ => ⟨ms, S1, R, r1, s1, q1, fun v H' q => q.base t1⟩⟩
theorem ee_callTy {T : String} {f : MF} (hc : CallR X (.type T) (rMC X.K Z f)) (hg : Gl X x) (hm : X.mg x = none) (hv : bootBuiltins x = some (.type T)) (ha : EA X Z (e :: es) mas) (hn : x ≠ "__name__" := by decide +kernel) (hdb : (x == ("__debug__" : Str)) = false := by kernel_rfl)
    (he : starEach (e :: es) X.env = (false, eval e X.env) :: starEach es X.env := by kernel_rfl) (hpl : (backTo pos (starEach es X.env)).any (·.1) = false := by kernel_rfl) : EE X Z (.Call (.Name x p) (e :: es) [] pos) (mCB f mas) :=
  ee_of (pe_callTy hc hg hm hv ha.pa hn hdb he hpl) fun σ H ρ S R hE hS hm =>
    ⟨ρ, S, _, hE, hS, hm, fun vs H1 ⟨ms, S1, t1, r1, s1, q1⟩ => ⟨ms, S1, R, r1, s1, q1, fun v H' q => q.base t1⟩⟩
/-! isinstance(e, T), T a built-in type -/
def tyN (S : Sto) : MV → Option String
  | .non => some "NoneType"
  | .bl _ => some "bool"
  | .int _ => some "int"
  | .str _ => some "str"
  | .tup _ => some "tuple"
  | .ref a => (match S a with
    | some (.lst _) => some "list"
    | some (.rl _) => some "list"
    | some (.dct _) => some "dict"
    | _ => none)
  | .frz _ => some "list"
def tyB (T n : String) : Bool := n == T || (n == "bool" && T == "int")
theorem kit_all : ∀ n ∈ ["NoneType", "bool", "int", "str", "tuple", "list", "dict"], ∀ T ∈ ["bool", "int", "str", "tuple", "list", "dict"], kitB n T = some (tyB T n) := by decide +kernel
theorem tyX_of {K : PySem.W.Frag} {S : Sto} {H : Hp} {m : MV} {v : V} {n : String} (hS : RS K Z S H) (r : RM K H m v) (h : tyN S m = some n) : TyX K H v (.type n) ∧ n ∈ ["NoneType", "bool", "int", "str", "tuple", "list", "dict"] := by
  cases m with
  | frz l =>
    cases h; unfold RM at r
    obtain ⟨a, xs, e, sq, rs⟩ := r
    subst e
    refine ⟨?_, by simp⟩
    rcases sq with ⟨ob, sq⟩ | ⟨ob, its, k, h1, h2, _⟩
    · exact .base (.frz sq)
    · exact .kList h1 h2
  | non => cases h; unfold RM at r; subst r; exact ⟨.base .non, by simp⟩
  | bl b => cases h; unfold RM at r; subst r; exact ⟨.base (.bl b), by simp⟩
  | int b => cases h; unfold RM at r; subst r; exact ⟨.base (.int b), by simp⟩
  | str b => cases h; unfold RM at r; subst r; exact ⟨.base (.str _), by simp⟩
  | tup l =>
    cases h; unfold RM at r
    obtain ⟨a, xs, e, sq, rs⟩ := r
    subst e
    refine ⟨?_, by simp⟩
    rcases sq with (sq | ⟨ob, sq⟩) | ⟨ob, its, k, h1, h2, _⟩
    · exact .base (.tup sq)
    · exact .fTuple sq
    · exact .kTuple h1 h2
  | ref a =>
    unfold RM at r; subst r
    have h : (match S a with
      | some (.lst _) => some "list"
      | some (.rl _) => some "list"
      | some (.dct _) => some "dict"
      | _ => none) = some n := h
    cases e : S a with
    | none => rw [e] at h; cases h
    | some ob =>
      have q := hS.ob a ob e
      rw [e] at h
      cases ob with
      | lst l =>
        obtain ⟨xs, h1, h2⟩ := q
        cases h
        exact ⟨.base (.lst h1), by simp⟩
      | rl l =>
        obtain ⟨xs, h1, h2⟩ := q
        cases h
        rcases h1 with h1 | ⟨ob, h1⟩
        · exact ⟨.base (.lst h1), by simp⟩
        · exact ⟨.base (.frz h1), by simp⟩
      | dct kvs =>
        obtain ⟨ks, h1, h2, h3⟩ := q
        cases h
        exact ⟨.base (.dK h1), by simp⟩
      | _ => cases h
def mIsi (T : String) (m : ME) : ME := fun ρ S R => m ρ S fun x S1 => match tyN S1 x with
  | some n => R (.bl (tyB T n)) S1
  | none => False
theorem ee_isi {y : Str} {T : String} {p2 : Pos} (ha : EE X Z e m) (hg : Gl X "isinstance") (hm : X.mg "isinstance" = none) (hgT : Gl X y) (hmT : X.mg y = none) (hvT : bootBuiltins y = some (.type T)) (hT : T ∈ ["bool", "int", "str", "tuple", "list", "dict"])
    (hv : bootBuiltins "isinstance" = some (.builtin "isinstance") := by decide +kernel) (hn : y ≠ "__name__" := by decide +kernel) (hdb : (y == ("__debug__" : Str)) = false := by kernel_rfl)
    (he : starEach [e, .Name y p2] X.env = (false, eval e X.env) :: starEach [.Name y p2] X.env := by kernel_rfl) (hpl : (backTo pos (starEach [.Name y p2] X.env)).any (·.1) = false := by kernel_rfl) (hs1 : starEach [.Name y p2] X.env = (false, eval (.Name y p2) X.env) :: starEach [] X.env := by kernel_rfl) :
    EE X Z (.Call (.Name "isinstance" p) [e, .Name y p2] [] pos) (mIsi T m) :=
  ee_of (pe_callB call_isi hg hm hv (pa_cons ha.pe (pa_cons (pe_bltn hgT hmT hvT (v := .ty T) rfl hn hdb) pa_nil hs1) he) (by decide) (by decide) he hpl) fun σ H ρ S R hE hS hm => by
    refine ⟨ρ, S, _, hE, hS, hm, fun v H1 ⟨x, S1, t1, r1, s1, q1⟩ => ?_⟩
    dsimp only at q1
    split at q1
    · rename_i n en
      obtain ⟨ty, hmem⟩ := tyX_of s1 r1 en
      exact ⟨v, .ty T, .type n, .type T, tyB T n, rfl, .ty T, ty, kit_ty (kit_all n hmem T hT), .bl _, S1, t1, by unfold RM; rfl, s1, q1⟩
    · exact q1.elim
/-! ### methods of lists -/
abbrev MB := MV → List MV → Sto → MK → Prop
def isL (S : Sto) (x : MV) : Prop := match x with
  | .ref a => (lookL S a).isSome = true
  | _ => False
theorem isL_ty {K : PySem.W.Frag} {S : Sto} {H : Hp} {x : MV} {v : V} (hS : RS K Z S H) (r : RM K H x v) (h : isL S x) : tyV K "list" v H := by
  cases x with
  | ref a =>
    unfold RM at r; subst r
    have h : (lookL S a).isSome = true := h
    cases e : lookL S a with
    | none => rw [e] at h; cases h
    | some l =>
      obtain ⟨xs, g1, _⟩ := look_sq hS e
      exact .inl ⟨rfl, xs, g1⟩
  | _ => exact False.elim h
def mBM (f : MB) (mo : ME) (ms : MA) : ME := fun ρ S R => mo ρ S fun x S1 => isL S1 x ∧ ms ρ S1 fun vs S2 => f x vs S2 R
def rMB (K : PySem.W.Frag) (Z : ZT) (f : MB) : V → List V → Hp → VK → Prop := fun v vs H Q => ∃ x ms S R, RM K H x v ∧ RMs K H ms vs ∧ RS K Z S H ∧ f x ms S R ∧ ∀ v H', MQ K Z S H R v H' → Q v H'
theorem ee_bm {name : Str} {id : String} {f : MB} {apos cpos : Pos} (pa : PlainAttrs "list") (slot : Slot "list" name id) (hty : typeOf (.builtin id) = pure (.type "method_descriptor")) (hm : MtR X id (rMB X.K Z f)) (ho : EE X Z o m) (ha : EA X Z (e :: es) mas)
    (hbase : attributeBase o name X.env (eval o X.env) = eval o X.env := by kernel_rfl)
    (hfew : ((backTo cpos (starEach (e :: es) X.env)).all (fun x => !x.1) && (backToKw cpos (keywordEach [] X.env)).all (fun x => x.1.isSome)
      && decide ((e :: es).length + ([] : List Keyword).length + (if ([] : List Keyword).isEmpty then 0 else 1) < 30)) = true := by kernel_rfl)
    (hline : (apos.endLine == cpos.line) = true := by kernel_rfl) (hs : starEach (e :: es) X.env = (false, eval e X.env) :: starEach es X.env := by kernel_rfl) (hplain : (backTo cpos (starEach es X.env)).any (·.1) = false := by kernel_rfl) :
    EE X Z (.Call (.Attribute o name apos) (e :: es) [] cpos) (mBM f m mas) :=
  ee_of (pe_bm pa slot hty hm ho.pe ha.pa hbase hfew hline hs hplain) fun σ H ρ S R hE hS hm => by
    refine ⟨ρ, S, _, hE, hS, hm, fun v H1 ⟨x, S1, t1, r1, s1, l1, q1⟩ => ⟨isL_ty s1 r1 l1, ρ, S1, _, hE.mono t1, s1, q1, fun vs H2 ⟨ms, S2, t2, r2, s2, q2⟩ => ?_⟩⟩
    exact ⟨x, ms, S2, R, r1.mono t2, r2, s2, q2, fun v H' q => q.base (t1.trans t2)⟩
theorem ee_bm0 {name : Str} {id : String} {f : MB} {apos cpos : Pos} (pa : PlainAttrs "list") (slot : Slot "list" name id) (hty : typeOf (.builtin id) = pure (.type "method_descriptor")) (hm : MtR X id (rMB X.K Z f)) (ho : EE X Z o m)
    (hbase : attributeBase o name X.env (eval o X.env) = eval o X.env := by kernel_rfl) (hline : (apos.endLine == cpos.line) = true := by kernel_rfl) : EE X Z (.Call (.Attribute o name apos) [] [] cpos) (mBM f m maNil) :=
  ee_of (pe_bm0 pa slot hty hm ho.pe hbase hline) fun σ H ρ S R hE hS hm => by
    refine ⟨ρ, S, _, hE, hS, hm, fun v H1 ⟨x, S1, t1, r1, s1, l1, q1⟩ => ⟨isL_ty s1 r1 l1, ?_⟩⟩
    exact ⟨x, [], S1, R, r1, RMs.nil, s1, q1, fun v H' q => q.base t1⟩
def appendV : MB := fun x vs S R => match x, vs with
  | .ref a, [v] => (match S a with
    | some (.lst l) => l.length < sizeLine ∧ R .non (supd S a (.lst (l ++ [v])))
    | _ => False)
  | _, _ => False
theorem mq_setL {K : PySem.W.Frag} {S : Sto} {H : Hp} {R : MK} {Q : VK} (hQ : ∀ v H', MQ K Z S H R v H' → Q v H') {m : MV} {v : V} {a : Addr} {l l' : List MV} {xs ys : List V} (s : RS K Z S H) (e : S a = some (.lst l)) (h : H a = some (.lst ys)) (r : RMs K H l' xs) (rv : RM K H m v)
    (q : R m (supd S a (.lst l'))) : Q v (upd H a (.lst xs)) := by
  have g : GK K S H (supd S a (.lst l')) (upd H a (.lst xs)) := GK.put (TK.lst h) e
  exact hQ _ _ ⟨m, _, g, rv.mono g, s.setL (l := l) h r, q⟩
theorem mr_append : MtR X "list.append" (rMB X.K Z appendV) := by
  intro pins s σ H x vs v us Q I rx rv h
  obtain ⟨mx, ms, S, R, r1, r2, hS, hf, hQ⟩ := h
  unfold appendV at hf
  split at hf
  · rename_i a w
    split at hf
    · rename_i l e
      obtain ⟨u, rfl, q⟩ := rms1 r2
      unfold RM at r1
      obtain ⟨xs, h1, h2⟩ := hS.lst e
      exact mt_append pins s σ H x _ v us Q I rx rv ⟨a, xs, u, r1, rfl, h1, by rw [h2.length]; exact hf.1, mq_setL hQ hS e h1 (h2.append (RMs.cons q RMs.nil)) (by unfold RM; rfl) hf.2⟩
    · exact hf.elim
  · exact hf.elim
/-- xs.pop(0) -/
def popV : MB := fun x vs S R => match x, vs with
  | .ref a, [.int 0] => (match S a with
    | some (.lst (v :: l)) => R v (supd S a (.lst l))
    | _ => False)
  | .ref a, [] => (match S a with
    | some (.lst l) => (match l[l.length - 1]? with
      | some v => R v (supd S a (.lst l.dropLast))
      | none => False)
    | _ => False)
  | _, _ => False
theorem RMs.dropLast {K : PySem.W.Frag} {H : Hp} {l : List MV} {xs : List V} (h : RMs K H l xs) : RMs K H l.dropLast xs.dropLast := by
  rw [List.dropLast_eq_take, List.dropLast_eq_take, h.length]
  exact h.take _
theorem mr_pop : MtR X "list.pop" (rMB X.K Z popV) := by
  intro pins s σ H x vs v us Q I rx rv h
  obtain ⟨mx, ms, S, R, r1, r2, hS, hf, hQ⟩ := h
  unfold popV at hf
  split at hf
  · rename_i a
    split at hf
    · rename_i w l e
      obtain ⟨u, rfl, q⟩ := rms1 r2
      unfold RM at r1 q
      subst q
      obtain ⟨xs, h1, h2⟩ := hS.lst e
      have h2' := h2
      unfold RMs at h2
      obtain ⟨y, r, e2, r3, r4⟩ := h2
      subst e2
      exact mt_popAt pins s σ H x _ v us Q I rx rv ⟨a, y :: r, 0, 0, y, r1, rfl, h1, by decide, by decide, (ixN_seq (n := (y :: r).length) (i := 0) (j := 0) (by unfold ixN; rw [if_pos (by decide), if_pos (by rw [List.length_cons]; omega)]; rfl)).1, rfl, mq_setL hQ hS e h1 r4 r3 hf⟩
    · exact hf.elim
  · rename_i a
    split at hf
    · rename_i l e
      split at hf
      · rename_i w e2
        unfold RMs at r2; subst r2
        unfold RM at r1
        obtain ⟨xs, h1, h2⟩ := hS.lst e
        obtain ⟨y, e3, r3⟩ := h2.get e2
        exact mt_pop pins s σ H x _ v us Q I rx rv ⟨a, xs, y, r1, rfl, h1, by rw [h2.length]; exact e3, mq_setL hQ hS e h1 h2.dropLast r3 hf⟩
      · exact hf.elim
    · exact hf.elim
  · exact hf.elim
def extendV : MB := fun x vs S R => match x, vs with
  | .ref a, [.ref b] => (match S a, S b with
    | some (.lst l), some (.lst k) => l.length + k.length ≤ sizeLine ∧ R .non (supd S a (.lst (l ++ k)))
    | _, _ => False)
  | _, _ => False
theorem mr_extend : MtR X "list.extend" (rMB X.K Z extendV) := by
  intro pins s σ H x vs v us Q I rx rv h
  obtain ⟨mx, ms, S, R, r1, r2, hS, hf, hQ⟩ := h
  unfold extendV at hf
  split at hf
  · rename_i a b
    split at hf
    · rename_i l k e e'
      obtain ⟨u, rfl, q⟩ := rms1 r2
      unfold RM at r1 q
      obtain ⟨xs, h1, h2⟩ := hS.lst e
      obtain ⟨ys, h3, h4⟩ := hS.lst e'
      exact mt_extend pins s σ H x _ v us Q I rx rv ⟨a, b, xs, ys, r1, by rw [q], h1, h3, by rw [h2.length, h4.length]; exact hf.1, mq_setL hQ hS e h1 (h2.append h4) (by unfold RM; rfl) hf.2⟩
    · exact hf.elim
  · exact hf.elim
end
end Mv

set_option Elab.async false
set_option linter.all false
set_option maxRecDepth 100000
set_option maxHeartbeats 4000000
namespace Mv
open PySem PySem.Spec PyProof.Rows L2
/-! ### statements -/
section
variable {K : PySem.W.Frag} {Z : ZT}
theorem toE_base {S0 S : Sto} {H0 H : Hp} {D : MD} {D' : Ends} (t : GK K S0 H0 S H) (h1 : ∀ σ' H', MQd K Z S0 H0 D.nx σ' H' → D'.nx σ' H') : ∀ σ' H', MQd K Z S H D.nx σ' H' → D'.nx σ' H' := fun σ' H' q => h1 _ _ (q.base t)
end
section
variable {X : Cx} {Z : ZT} {e a b c o i value : Expr} {m ma mb mc : ME} {mt mu : MT} {pos pos' p : Pos} {rest es : List Expr} {mas : MA} {x : Str} {st : Stmt} {sts els : List Stmt} {ms mr : MS}
/-- the four ways out, over a later state -/
theorem tMS_at {m : MS} {S S1 : Sto} {σ : L2.St} {H H1 : Hp} {ρ : Env} {D' : MD} {D : Ends} (t : GK X.K S H S1 H1) (hE : RE X.K H1 ρ σ) (hS : RS X.K Z S1 H1) (hm : m D' ρ S1)
    (h1 : ∀ σ' H', MQd X.K Z S H D'.nx σ' H' → D.nx σ' H') (h2 : ∀ v H', MQ X.K Z S H D'.rt v H' → D.rt v H')
    (h3 : ∀ σ' H', MQd X.K Z S H D'.bk σ' H' → D.bk σ' H') (h4 : ∀ σ' H', MQd X.K Z S H D'.ct σ' H' → D.ct σ' H') : tMS X.K Z m D σ H1 :=
  ⟨ρ, S1, D', hE, hS, hm, fun σ' H' q => h1 _ _ (q.base t), fun σ' H' q => h2 _ _ (q.base t), fun σ' H' q => h3 _ _ (q.base t), fun σ' H' q => h4 _ _ (q.base t)⟩
def msNil : MS := fun D ρ S => D.nx ρ S
def msSeq (a b : MS) : MS := fun D ρ S => a { D with nx := b D } ρ S
theorem eb_nil : EB X Z [] msNil := ⟨PSs.imp pss_nil fun D σ H ⟨ρ, S, D', hE, hS, hm, h1, h2, h3, h4⟩ => h1 _ _ ⟨ρ, S, GK.refl, hE, hS, hm⟩⟩
theorem eb_cons (ha : ES X Z st ms) (hb : EB X Z sts mr) : EB X Z (st :: sts) (msSeq ms mr) :=
  ⟨PSs.imp (pss_cons ha.ps hb.pss) fun D σ H ⟨ρ, S, D', hE, hS, hm, h1, h2, h3, h4⟩ =>
    ⟨ρ, S, { D' with nx := mr D' }, hE, hS, hm, fun σ' H' ⟨ρ', S', t, e', s', q⟩ => tMS_at t e' s' q h1 h2 h3 h4, h2, h3, h4⟩⟩
theorem eb_one (ha : ES X Z st ms) : EB X Z [st] ms := ⟨PSs.imp (pss_one ha.ps) fun D σ H h => h⟩
def msRet (m : ME) : MS := fun D ρ S => m ρ S D.rt
theorem es_ret (h : EE X Z e m) : ES X Z (.Return (some e) pos) (msRet m) :=
  ⟨PS.imp (ps_ret h.pe) fun D σ H ⟨ρ, S, D', hE, hS, hm, h1, h2, h3, h4⟩ => ⟨ρ, S, D'.rt, hE, hS, hm, h2⟩⟩
def msRetN : MS := fun D _ S => D.rt .non S
theorem es_retN : ES X Z (.Return none pos) msRetN :=
  ⟨PS.imp ps_retN fun D σ H ⟨ρ, S, D', hE, hS, hm, h1, h2, h3, h4⟩ => h2 _ _ ⟨.non, S, GK.refl, by unfold RM; rfl, hS, hm⟩⟩
theorem es_pass : ES X Z (.Pass pos) msNil := ⟨PS.imp ps_pass fun D σ H ⟨ρ, S, D', hE, hS, hm, h1, h2, h3, h4⟩ => h1 _ _ ⟨ρ, S, GK.refl, hE, hS, hm⟩⟩
def msBrk : MS := fun D ρ S => D.bk ρ S
def msCont : MS := fun D ρ S => D.ct ρ S
theorem es_break : ES X Z (.Break pos) msBrk := ⟨PS.imp ps_break fun D σ H ⟨ρ, S, D', hE, hS, hm, h1, h2, h3, h4⟩ => h3 _ _ ⟨ρ, S, GK.refl, hE, hS, hm⟩⟩
theorem es_cont : ES X Z (.Continue pos) msCont := ⟨PS.imp ps_continue fun D σ H ⟨ρ, S, D', hE, hS, hm, h1, h2, h3, h4⟩ => h4 _ _ ⟨ρ, S, GK.refl, hE, hS, hm⟩⟩
def msNever : MS := fun _ _ _ => False
theorem es_never : ES X Z st msNever := ⟨PS.imp ps_never fun D σ H ⟨ρ, S, D', hE, hS, hm, h1, h2, h3, h4⟩ => hm⟩
theorem es_doc {s : Str} {j} : ES X Z (.Expr (.Constant (.str s) j pos) pos') msNil := ⟨PS.imp ps_doc fun D σ H ⟨ρ, S, D', hE, hS, hm, h1, h2, h3, h4⟩ => h1 _ _ ⟨ρ, S, GK.refl, hE, hS, hm⟩⟩
def msExpr (m : ME) : MS := fun D ρ S => m ρ S fun _ S1 => D.nx ρ S1
theorem es_expr (h : EE X Z e m) (hs : swapsWith e none pos.line X.env = pure false := by kernel_rfl) : ES X Z (.Expr e pos) (msExpr m) :=
  ⟨PS.imp (ps_expr h.pe hs) fun D σ H ⟨ρ, S, D', hE, hS, hm, h1, h2, h3, h4⟩ =>
    ⟨ρ, S, _, hE, hS, hm, fun v H1 ⟨x, S1, t1, r1, s1, q1⟩ => h1 _ _ ⟨ρ, S1, t1, hE.mono t1, s1, q1⟩⟩⟩
def msIf (t : MT) (a b : MS) : MS := fun D ρ S => t ρ S fun k S1 => match k with
  | true => a D ρ S1
  | false => b D ρ S1
theorem es_if {sa sb : List Stmt} {ma mb : MS} (hc : ET X Z c mt) (ha : EB X Z sa ma) (hb : EB X Z sb mb) : ES X Z (.If c sa sb pos) (msIf mt ma mb) :=
  ⟨PS.imp (ps_if hc.pt ha.pss hb.pss) fun D σ H ⟨ρ, S, D', hE, hS, hm, h1, h2, h3, h4⟩ => by
    refine ⟨ρ, S, _, hE, hS, hm, fun k H1 ⟨S1, t1, s1, q1⟩ => ?_⟩
    cases k with
    | true => rw [if_pos rfl]; exact tMS_at t1 (hE.mono t1) s1 q1 h1 h2 h3 h4
    | false => rw [if_neg Bool.false_ne_true]; exact tMS_at t1 (hE.mono t1) s1 q1 h1 h2 h3 h4⟩
/-! ### stores -/
def msSet (i : Nat) (m : ME) : MS := fun D ρ S => m ρ S fun v S1 => D.nx (ρ.set i (some v)) S1
theorem es_set {i : Nat} (hN : X.N.Nodup) (hi : X.N[i]? = some x) (hx : Loc X.env.scope x) (he : EE X Z e m) (hs : swapsWith e (some (.Name x pos')) pos.line X.env = pure false := by kernel_rfl)
    (hf : X.fn x = true ∨ X.env.scope.names.lookup x = some .local) : ES X Z (.Assign [.Name x pos'] e pos) (msSet i m) :=
  ⟨PS.imp (ps_set hN hi hx he.pe hs hf) fun D σ H ⟨ρ, S, D', hE, hS, hm, h1, h2, h3, h4⟩ =>
    ⟨ρ, S, _, hE, hS, hm, fun v H1 ⟨x, S1, t1, r1, s1, q1⟩ => h1 _ _ ⟨_, S1, t1, (hE.mono t1).set r1, s1, q1⟩⟩⟩
def putFM (f : String) (v : MV) : List (String × MV) → List (String × MV)
  | [] => [(f, v)]
  | (g, x) :: r => if g = f then (g, v) :: r else (g, x) :: putFM f v r
theorem putF_rel {K : PySem.W.Frag} {H : Hp} {f : String} {m : MV} {v : V} (r : RM K H m v) : ∀ {fs : List (String × MV)} {xs : List (Str × V)}, xs.map (·.1) = fs.map (fun p => so p.1) → RMs K H (fs.map (·.2)) (xs.map (·.2)) →
    (putF (so f) v xs).map (·.1) = (putFM f m fs).map (fun p => so p.1) ∧ RMs K H ((putFM f m fs).map (·.2)) ((putF (so f) v xs).map (·.2))
  | [], [], _, _ => ⟨rfl, RMs.cons r RMs.nil⟩
  | [], _ :: _, e, _ => by simp at e
  | _ :: _, [], e, _ => by simp at e
  | (g, n) :: fs, (y, x) :: xs, e, q => by
    simp only [List.map_cons, List.cons.injEq] at e
    simp only [List.map_cons] at q
    unfold RMs at q
    obtain ⟨x', r', ex, q1, q2⟩ := q
    injection ex with ex1 ex2
    subst ex1; subst ex2
    unfold putF putFM
    by_cases hg : g = f
    · subst hg
      rw [if_pos e.1, if_pos rfl]
      exact ⟨by simp [e.1, e.2], RMs.cons r q2⟩
    · rw [if_neg (fun z => hg (so_inj (e.1.symm.trans z))), if_neg hg]
      obtain ⟨i1, i2⟩ := putF_rel r e.2 q2
      exact ⟨by simp [e.1, i1], RMs.cons q1 i2⟩
theorem insLen {fs : List (String × MV)} {xs : List (Str × V)} (h : xs.map (·.1) = fs.map (fun p => so p.1)) : xs.length = fs.length := by
  have := congrArg List.length h; simpa using this
/-- o.f = e -/
def fldPut (T : String → String → Bool) (f : String) (o v : MV) (S : Sto) (k : Sto → Prop) : Prop := match o with
  | .ref a => (match S a with
    | some (.ins c fs) => T c f = true ∧ fs.length < 1000 ∧ k (supd S a (.ins c (putFM f v fs)))
    | _ => False)
  | _ => False
def msFld (T : String → String → Bool) (mo : ME) (f : String) (mv : ME) : MS := fun D ρ S => mv ρ S fun v S1 => mo ρ S1 fun o S2 => fldPut T f o v S2 fun S3 => D.nx ρ S3
theorem fld_put {T : String → String → Bool} {f : String} (hT : AtOk X.K T) {S : Sto} {H : Hp} {o v : MV} {ov vv : V} {k : Sto → Prop} (hS : RS X.K Z S H) (ro : RM X.K H o ov) (rv : RM X.K H v vv) (h : fldPut T f o v S k) :
    ∃ (a C dx : Addr) (fs : List (Str × V)) (S3 : Sto), ov = .ref a ∧ H a = some (.ins C dx fs) ∧ Cls X.K C ∧ NoAttr X.K C (so f) ∧ fs.length < 1000 ∧ GK X.K S H S3 (upd H a (.ins C dx (putF (so f) vv fs))) ∧ RS X.K Z S3 (upd H a (.ins C dx (putF (so f) vv fs))) ∧ k S3 := by
  cases o with
  | ref a =>
    unfold RM at ro
    have h : (match S a with
      | some (.ins c fs) => T c f = true ∧ fs.length < 1000 ∧ k (supd S a (.ins c (putFM f v fs)))
      | _ => False) := h
    split at h
    · rename_i c fs e
      obtain ⟨hc, hl, q⟩ := h
      obtain ⟨dx, xs, h1, h2, h3⟩ := hS.ins e
      obtain ⟨p1, p2⟩ := putF_rel (f := f) rv h2 h3
      have g : GK X.K S H (supd S a (.ins c (putFM f v fs))) (upd H a (.ins (He.ga X.K (so c)) dx (putF (so f) vv xs))) := GK.put (TK.ins h1) e
      exact ⟨a, _, dx, xs, _, ro, h1, (hT _ _ hc).1, (hT _ _ hc).2, by rw [insLen h2]; exact hl, g, hS.put (TK.ins h1) (fun ps e => by rw [h1] at e; cases e) ⟨dx, _, upd_same, p1, p2.mono g⟩, q⟩
    · exact h.elim
  | _ => exact False.elim h
theorem es_fld {T : String → String → Bool} {f : String} (hT : AtOk X.K T) (ho : EE X Z o mb) (hv : EE X Z value ma) (hs : swapsWith value (some (.Attribute o (Str.ofString f) pos')) pos.line X.env = pure false := by kernel_rfl) :
    ES X Z (.Assign [.Attribute o (Str.ofString f) pos'] value pos) (msFld T mb f ma) :=
  ⟨PS.imp (ps_fld ho.pe hv.pe hs) fun D σ H ⟨ρ, S, D', hE, hS, hm, h1, h2, h3, h4⟩ => by
    refine ⟨ρ, S, _, hE, hS, hm, fun v H1 ⟨x, S1, t1, r1, s1, q1⟩ => ?_⟩
    refine ⟨ρ, S1, _, hE.mono t1, s1, q1, fun ov H2 ⟨y, S2, t2, r2, s2, q2⟩ => ?_⟩
    obtain ⟨a, C, dx, fs, S3, e1, e2, e3, e4, e5, g, s3, q3⟩ := fld_put hT s2 r2 (r1.mono t2) q2
    exact ⟨a, C, dx, fs, e1, e2, e3, e4, e5, h1 _ _ ⟨ρ, S3, t1.trans (t2.trans g), hE.mono (t1.trans (t2.trans g)), s3, q3⟩⟩⟩
/-- o[i] = e: a list, or a dict with a text key -/
def subPut (o i v : MV) (S : Sto) (k : Sto → Prop) : Prop := match o with
  | .ref a => (match S a with
    | some (.lst l) => (match i with
      | .int z => (match ixN l.length z with
        | some j => k (supd S a (.lst (l.set j v)))
        | none => False)
      | _ => False)
    | some (.dct kvs) => (match i with
      | .str s => kvs.length < sizeLine ∧ k (supd S a (.dct (putD kvs s v)))
      | _ => False)
    | _ => False)
  | _ => False
def rSetB : TSet := fun o i v H Q => rSetL o i v H Q ∨ rSetD o i v H Q
theorem set_both (hu : X.A.units + 1 < cLine) : PSet X rSetB := fun pins s σ H o i v ov iv u Q I r1 r2 r3 h => h.elim (set_list pins s σ H o i v ov iv u Q I r1 r2 r3) (set_dict hu pins s σ H o i v ov iv u Q I r1 r2 r3)
theorem sub_put {S : Sto} {H : Hp} {o i v : MV} {ov iv vv : V} {k : Sto → Prop} {Q : Hp → Prop} (hS : RS X.K Z S H) (ro : RM X.K H o ov) (ri : RM X.K H i iv) (rv : RM X.K H v vv) (h : subPut o i v S k)
    (hQ : ∀ S3 H3, GK X.K S H S3 H3 → RS X.K Z S3 H3 → k S3 → Q H3) : rSetB ov iv vv H Q := by
  cases o with
  | ref a =>
    unfold RM at ro
    unfold subPut at h
    dsimp only at h
    split at h
    · rename_i l e
      cases i with
      | int z =>
        unfold RM at ri
        dsimp only at h
        split at h
        · rename_i j ej
          obtain ⟨xs, g1, g2⟩ := hS.lst e
          have g : GK X.K S H (supd S a (.lst (l.set j v))) (upd H a (.lst (xs.set j vv))) := GK.put (TK.lst g1) e
          exact .inl ⟨a, xs, z, j, ro, ri, g1, by rw [g2.length]; exact ej, hQ _ _ g (hS.setL (l := l) g1 (RMs.set rv j g2)) h⟩
        · exact h.elim
      | _ => exact False.elim h
    · rename_i kvs e
      cases i with
      | str s =>
        unfold RM at ri
        obtain ⟨ks, g1, g2⟩ := hS.dct e
        have g : GK X.K S H (supd S a (.dct (putD kvs s v))) (upd H a (.dK (putK ks (Sum.inr (so s) : Key) vv))) := GK.put (TK.dK g1) e
        have g3 := (g2.put (s := s) rv).mono g
        exact .inr ⟨a, _, ro, by rw [ri]; exact DPut.k (k := Sum.inr (so s)) g1 (by rw [g2.length]; exact h.1), hQ _ _ g (hS.put (TK.dK g1) (fun ps e => by rw [g1] at e; cases e) ⟨_, upd_same, g3.keys, g3.vals⟩) h.2⟩
      | _ => exact False.elim h
    · exact h.elim
  | _ => exact False.elim h
def msSub (mo mi mv : ME) : MS := fun D ρ S => mv ρ S fun v S1 => mo ρ S1 fun o S2 => mi ρ S2 fun i S3 => subPut o i v S3 fun S4 => D.nx ρ S4
theorem es_sub (hu : X.A.units + 1 < cLine) (ho : EE X Z o ma) (hi : EE X Z i mb) (hv : EE X Z value mc) (hs : swapsWithSole [.Subscript o i pos'] value pos.line X.env = pure false := by kernel_rfl) (hw : swappedStores [.Subscript o i pos'] value X.env = pure none := by kernel_rfl)
    (h1 : (assignEach [.Subscript o i pos'] X.env).map (·.2) = [assign (.Subscript o i pos') X.env] := by kernel_rfl)
    (ha : ∀ v, assign (.Subscript o i pos') X.env v = (do
      let ov ← holding [v] (eval o X.env)
      let iv ← holding [v, ov] (eval i X.env)
      standAt pos'
      holding [v, ov, iv] (setItem ov iv v)
      release [v, ov, iv] []) := by intro _; kernel_rfl) : ES X Z (.Assign [.Subscript o i pos'] value pos) (msSub ma mb mc) :=
  ⟨PS.imp (ps_asg hv.pe (pg_sub ho.pe hi.pe (set_both hu) ha) hs hw h1) fun D σ H ⟨ρ, S, D', hE, hS, hm, h1, h2, h3, h4⟩ => by
    refine ⟨ρ, S, _, hE, hS, hm, fun v H1 ⟨x, S1, t1, r1, s1, q1⟩ => ?_⟩
    refine ⟨ρ, S1, _, hE.mono t1, s1, q1, fun ov H2 ⟨y, S2, t2, r2, s2, q2⟩ => ?_⟩
    refine ⟨ρ, S2, _, hE.mono (t1.trans t2), s2, q2, fun iv H3 ⟨z, S3, t3, r3, s3, q3⟩ => ?_⟩
    exact sub_put s3 (r2.mono t3) r3 (r1.mono (t2.trans t3)) q3 fun S4 H4 g s4 q4 => h1 _ _ ⟨ρ, S4, t1.trans (t2.trans (t3.trans g)), hE.mono (t1.trans (t2.trans (t3.trans g))), s4, q4⟩⟩
/-! ### op= -/
def msAug (i : Nat) (f : M2) (m : ME) : MS := fun D ρ S => match ρ[i]? with
  | some (some x) => m ρ S fun y S1 => f x y S1 fun z S2 => D.nx (ρ.set i (some z)) S2
  | _ => False
theorem pip_of {op : Operator} {f : M2} (h : OpR X (inplaceOp op) (rM X.K Z f)) : PIp X op (rM X.K Z f) := fun pins s σ H x y v u Q I r1 r2 q => h pins s σ H x y v u Q I r1 r2 q
theorem ri_add : OpR X (inplaceOp .Add) (rM X.K Z (fun x y S R => match x, y with
    | .int i, .int j => R (.int (i + j)) S
    | _, _ => False)) := by
  intro pins s σ H x y v u Q I rx ry h
  obtain ⟨mx, my, S, R, r1, r2, hS, hf, hQ⟩ := h
  split at hf
  · unfold RM at r1 r2
    exact iop_add pins s σ H x y v u Q I rx ry ⟨_, _, r1, r2, mq_int hQ hS hf⟩
  · exact hf.elim
def iaddV : M2 := fun x y S R => match x, y with
  | .int i, .int j => R (.int (i + j)) S
  | _, _ => False
theorem ri_iadd : OpR X (inplaceOp .Add) (rM X.K Z iaddV) := ri_add
theorem ri_isub : OpR X (inplaceOp .Sub) (rM X.K Z subV) := by
  intro pins s σ H x y v u Q I rx ry h
  obtain ⟨mx, my, S, R, r1, r2, hS, hf, hQ⟩ := h
  unfold subV at hf
  split at hf
  · unfold RM at r1 r2
    exact iop_sub pins s σ H x y v u Q I rx ry ⟨_, _, r1, r2, mq_int hQ hS hf⟩
  · exact hf.elim
theorem es_aug {i : Nat} {op : Operator} {f : M2} (hN : X.N.Nodup) (hi : X.N[i]? = some x) (hx : Loc X.env.scope x) (he : EE X Z e m) (ho : OpR X (inplaceOp op) (rM X.K Z f)) (hf : X.fn x = true ∨ X.env.scope.names.lookup x = some .local) :
    ES X Z (.AugAssign (.Name x pos') op e pos) (msAug i f m) :=
  ⟨PS.imp (ps_aug hN hi hx he.pe (pip_of ho) hf) fun D σ H ⟨ρ, S, D', hE, hS, hm, h1, h2, h3, h4⟩ => by
    unfold msAug at hm
    split at hm
    · rename_i w hw
      obtain ⟨vx, ex, rx⟩ := hE.at_ i w hw
      refine ⟨vx, ex, ρ, S, _, hE, hS, hm, fun v H1 ⟨y, S1, t1, r1, s1, q1⟩ => ?_⟩
      exact ⟨w, y, S1, _, rx.mono t1, r1, s1, q1, fun z H2 ⟨u, S2, t2, r2, s2, q2⟩ => h1 _ _ ⟨_, S2, t1.trans t2, (hE.mono (t1.trans t2)).set r2, s2, q2⟩⟩
    · exact hm.elim⟩
/-- o[i] op= e, o a list, i not below nought -/
theorem get_lst0 : PGet X (fun o i H Q => ∃ p xs k v, o = .ref p ∧ i = .int k ∧ 0 ≤ k ∧ SqL X.K H p xs ∧ atI xs k = some v ∧ Q v H) := by
  intro pins s σ H o i ov iv Q I rx ry h
  obtain ⟨p, xs, k, z, rfl, rfl, h0, hq, he, q⟩ := h
  cases rx
  obtain ⟨t, rfl⟩ := ry
  obtain ⟨its, r, pl, hz⟩ := I.list hq
  obtain ⟨j, h1, h2, h3, h4, h5⟩ := atI_get he
  obtain ⟨w, ew, rw'⟩ := r.get h2
  have hl := r.length
  have hn := line63
  have hj : k.toNat = j := by
    rw [seqIndex_of h0 h5] at h1
    exact Option.some.inj h1
  exact wpAny_getItem_list pl.isList h0 (by omega) (by rw [hj]; simpa using ew) ⟨z, H, I, rw', q⟩
def ixL : M2 := fun x y S R => match y with
  | .int i => (match x with
    | .ref a => (match lookL S a with
      | some l => (match atI l i with
        | some v => 0 ≤ i ∧ R v S
        | none => False)
      | none => False)
    | _ => False)
  | _ => False
def msAugS (f : M2) (mo mi m : ME) : MS := fun D ρ S => mo ρ S fun o S1 => mi ρ S1 fun i S2 => ixL o i S2 fun x S3 => m ρ S3 fun y S4 => f x y S4 fun z S5 => subPut o i z S5 fun S6 => D.nx ρ S6
theorem es_augS {op : Operator} {f : M2} (hu : X.A.units + 1 < cLine) (hp : OpR X (inplaceOp op) (rM X.K Z f)) (ho : EE X Z o ma) (hi : EE X Z i mb) (he : EE X Z e mc)
    (ha : ∀ ov iv new, augStore i ov iv new = (do holding [new, ov, iv] (setItem ov iv new); release [new, ov, iv] []; pure .next) := by intros; kernel_rfl) : ES X Z (.AugAssign (.Subscript o i pos') op e pos) (msAugS f ma mb mc) :=
  ⟨PS.imp (ps_augS ho.pe hi.pe get_lst0 he.pe (pip_of hp) (set_both hu) ha) fun D σ H ⟨ρ, S, D', hE, hS, hm, h1, h2, h3, h4⟩ => by
    refine ⟨ρ, S, _, hE, hS, hm, fun ov H1 ⟨x, S1, t1, r1, s1, q1⟩ => ?_⟩
    refine ⟨ρ, S1, _, hE.mono t1, s1, q1, fun iv H2 ⟨y, S2, t2, r2, s2, q2⟩ => ?_⟩
    unfold ixL at q2
    cases y with
    | int k =>
      cases x with
      | ref a =>
        dsimp only at q2
        split at q2
        · rename_i l el
          split at q2
          · rename_i w ew
            obtain ⟨h0, q2⟩ := q2
            obtain ⟨xs, g1, g2⟩ := look_sq s2 el
            obtain ⟨vw, hw, rw'⟩ := at_rel g2 ew
            have r1' := r1.mono t2
            have r2' := r2
            unfold RM at r1' r2'
            refine ⟨a, xs, k, vw, r1', r2', h0, g1, hw, ρ, S2, _, hE.mono (t1.trans t2), s2, q2, fun ev H3 ⟨z, S3, t3, r3, s3, q3⟩ => ?_⟩
            refine ⟨w, z, S3, _, rw'.mono t3, r3, s3, q3, fun nv H4 ⟨u, S4, t4, r4, s4, q4⟩ => ?_⟩
            exact sub_put s4 (r1.mono (t2.trans (t3.trans t4))) (r2.mono (t3.trans t4)) r4 q4 fun S5 H5 g s5 q5 => h1 _ _ ⟨ρ, S5, t1.trans (t2.trans (t3.trans (t4.trans g))), hE.mono (t1.trans (t2.trans (t3.trans (t4.trans g)))), s5, q5⟩
          · exact q2.elim
        · exact q2.elim
      | _ => exact False.elim q2
    | _ => exact False.elim q2⟩
/-! ### targets: names, and tuples of names -/
inductive Pat where
  | nm (i : Nat)
  | tp (ps : List Pat)
mutual
def Pat.slots : Pat → List Nat
  | .nm i => [i]
  | .tp ps => slotsL ps
def slotsL : List Pat → List Nat
  | [] => []
  | p :: ps => p.slots ++ slotsL ps
end
mutual
/-- a value is bound: the slots behind it -/
def bindP : Pat → MV → Sto → Env → (Env → Prop) → Prop
  | .nm i, v, _, ρ, k => k (ρ.set i (some v))
  | .tp ps, v, S, ρ, k => match v with
    | .tup l => bindL ps l S ρ k
    | .ref a => (match lookL S a with
      | some l => bindL ps l S ρ k
      | none => False)
    | .frz l => bindL ps l S ρ k
    | _ => False
def bindL : List Pat → List MV → Sto → Env → (Env → Prop) → Prop
  | [], l, _, ρ, k => l = [] ∧ k ρ
  | p :: ps, l, S, ρ, k => match l with
    | v :: r => bindP p v S ρ fun ρ' => bindL ps r S ρ' k
    | [] => False
end
mutual
theorem bindP_ex : ∀ (p : Pat) (v : MV) (S : Sto) (ρ : Env) {k : Env → Prop}, bindP p v S ρ k → ∃ ρ', k ρ'
  | .nm i, v, S, ρ, k, h => by unfold bindP at h; exact ⟨_, h⟩
  | .tp ps, v, S, ρ, k, h => by
    unfold bindP at h
    split at h
    · exact bindL_ex ps _ S ρ h
    · split at h
      · exact bindL_ex ps _ S ρ h
      · exact h.elim
    · exact bindL_ex ps _ S ρ h
    · exact h.elim
theorem bindL_ex : ∀ (ps : List Pat) (l : List MV) (S : Sto) (ρ : Env) {k : Env → Prop}, bindL ps l S ρ k → ∃ ρ', k ρ'
  | [], l, S, ρ, k, h => by unfold bindL at h; exact ⟨_, h.2⟩
  | p :: ps, [], S, ρ, k, h => by unfold bindL at h; exact h.elim
  | p :: ps, v :: r, S, ρ, k, h => by
    unfold bindL at h
    obtain ⟨ρ', h⟩ := bindP_ex p v S ρ h
    exact bindL_ex ps r S ρ' h
end
def gP (K : PySem.W.Frag) (Z : ZT) (p : Pat) : TG := fun v σ H Q => ∃ (m : MV) (ρ : Env) (S : Sto) (k : Env → Prop), RM K H m v ∧ RE K H ρ σ ∧ RS K Z S H ∧ bindP p m S ρ k ∧ ∀ ρ' σ', RE K H ρ' σ' → (∀ j, j ∉ p.slots → σ'[j]? = σ[j]?) → σ'.length = σ.length → k ρ' → Q σ' H
def gPs (K : PySem.W.Frag) (Z : ZT) (ps : List Pat) : TGs := fun vs σ H Q => ∃ (ms : List MV) (ρ : Env) (S : Sto) (k : Env → Prop), RMs K H ms vs ∧ RE K H ρ σ ∧ RS K Z S H ∧ bindL ps ms S ρ k ∧ ∀ ρ' σ', RE K H ρ' σ' → (∀ j, j ∉ slotsL ps → σ'[j]? = σ[j]?) → σ'.length = σ.length → k ρ' → Q σ' H
structure EG (X : Cx) (Z : ZT) (tg : Expr) (p : Pat) : Prop where
  pg : PG X tg (gP X.K Z p)
structure EGs (X : Cx) (Z : ZT) (tgs : List Expr) (ps : List Pat) : Prop where
  pgs : PGs X tgs (gPs X.K Z ps)
  n : tgs.length = ps.length
theorem PG.imp {tg : Expr} {t t' : TG} (h : PG X tg t) (k : ∀ v σ H Q, t' v σ H Q → t v σ H Q) : PG X tg t' := ⟨fun pins s σ H v u Q I r hw => h.run pins s σ H v u Q I r (k v σ H Q hw)⟩
theorem PGs.imp {tg : List Expr} {t t' : TGs} (h : PGs X tg t) (k : ∀ v σ H Q, t' v σ H Q → t v σ H Q) : PGs X tg t' := ⟨fun pins s σ H v u Q I r hw => h.run pins s σ H v u Q I r (k v σ H Q hw)⟩
theorem PG.or {tg : Expr} {t t' : TG} (h : PG X tg t) (h' : PG X tg t') : PG X tg (fun v σ H Q => t v σ H Q ∨ t' v σ H Q) := ⟨fun pins s σ H v u Q I r hw => hw.elim (h.run pins s σ H v u Q I r) (h'.run pins s σ H v u Q I r)⟩
theorem eg_nm {i : Nat} (hN : X.N.Nodup) (hi : X.N[i]? = some x) (hx : Loc X.env.scope x) (hf : X.fn x = true ∨ X.env.scope.names.lookup x = some .local) : EG X Z (.Name x pos) (.nm i) :=
  ⟨PG.imp (pg_name hN hi hx hf) fun v σ H Q ⟨m, ρ, S, k, r, hE, hS, hb, hQ⟩ => by
    refine hQ _ _ (hE.set r) (fun j hj => ?_) (by rw [List.length_set]) (show k (ρ.set i (some m)) by unfold bindP at hb; exact hb)
    rw [List.getElem?_set_ne]
    intro e
    exact hj (by rw [← e]; simp [Pat.slots])⟩
theorem egs_nil : EGs X Z [] [] := ⟨PGs.imp pgs_nil fun vs σ H Q ⟨ms, ρ, S, k, r, hE, hS, hb, hQ⟩ => by
  unfold bindL at hb
  obtain ⟨e, hb⟩ := hb
  subst e
  unfold RMs at r; subst r
  exact ⟨rfl, hQ _ _ hE (fun _ _ => rfl) rfl hb⟩, rfl⟩
theorem egs_cons {tg : Expr} {tgs : List Expr} {p : Pat} {ps : List Pat} (h1 : EG X Z tg p) (h2 : EGs X Z tgs ps) (hs : (assignEach (tg :: tgs) X.env).map (·.2) = assign tg X.env :: (assignEach tgs X.env).map (·.2) := by kernel_rfl) : EGs X Z (tg :: tgs) (p :: ps) :=
  ⟨PGs.imp (pgs_cons h1.pg h2.pgs hs) fun vs σ H Q ⟨ms, ρ, S, k, r, hE, hS, hb, hQ⟩ => by
    cases ms with
    | nil => unfold bindL at hb; exact False.elim hb
    | cons m ms =>
      unfold RMs at r
      obtain ⟨v, vr, e, r1, r2⟩ := r
      have hb : bindP p m S ρ fun ρ' => bindL ps ms S ρ' k := by unfold bindL at hb; exact hb
      refine ⟨v, vr, e, m, ρ, S, _, r1, hE, hS, hb, fun ρ1 σ1 e1 f1 l1 b1 => ?_⟩
      refine ⟨ms, ρ1, S, k, r2, e1, hS, b1, fun ρ2 σ2 e2 f2 l2 b2 => hQ ρ2 σ2 e2 (fun j hj => ?_) (l2.trans l1) b2⟩
      simp only [slotsL, List.mem_append, not_or] at hj
      exact (f2 j hj.2).trans (f1 j hj.1), by rw [List.length_cons, List.length_cons, h2.n]⟩
theorem eg_tp {tgs : List Expr} {k : Nat} {ps : List Pat} (hc : X.calm = true) (h : EGs X Z tgs ps) (hn : (assignEach tgs X.env).length = tgs.length := by kernel_rfl) (hst : (assignEach tgs X.env).findIdx? (·.1) = none := by kernel_rfl) : EG X Z (.Tuple tgs k pos) (.tp ps) :=
  ⟨PG.imp (PG.or (pg_tup hc h.pgs hn hst) (pg_unl hc h.pgs hn hst)) fun v σ H Q ⟨m, ρ, S, kk, r, hE, hS, hb, hQ⟩ => by
    have len : ∀ (ps : List Pat) (l : List MV) (S : Sto) (ρ : Env) (k : Env → Prop), bindL ps l S ρ k → l.length = ps.length := by
      intro ps
      induction ps with
      | nil => intro l S ρ k hb; unfold bindL at hb; rw [hb.1]; rfl
      | cons p ps ih =>
        intro l S ρ k hb
        cases l with
        | nil => unfold bindL at hb; exact False.elim hb
        | cons v r =>
          rw [List.length_cons, List.length_cons]
          unfold bindL at hb
          obtain ⟨ρ', hb⟩ := bindP_ex p v S ρ hb
          rw [ih _ _ _ _ hb]
    cases m with
    | tup l =>
      unfold RM at r
      obtain ⟨a, xs, e, sq, rs⟩ := r
      have hb : bindL ps l S ρ kk := by unfold bindP at hb; exact hb
      exact .inl ⟨a, xs, e, sq, by rw [rs.length, len _ _ _ _ _ hb, h.n], l, ρ, S, kk, rs, hE, hS, hb, hQ⟩
    | ref a =>
      unfold RM at r
      have hb : (match lookL S a with
        | some l => bindL ps l S ρ kk
        | none => False) := by unfold bindP at hb; exact hb
      split at hb
      · rename_i l el
        obtain ⟨xs, g1, g2⟩ := look_sq hS el
        exact .inr ⟨a, xs, r, g1, by rw [g2.length, len _ _ _ _ _ hb, h.n], l, ρ, S, kk, g2, hE, hS, hb, hQ⟩
      · exact hb.elim
    | frz l =>
      unfold RM at r
      obtain ⟨a, xs, e, sq, rs⟩ := r
      have hb : bindL ps l S ρ kk := by unfold bindP at hb; exact hb
      exact .inr ⟨a, xs, e, sq.sq, by rw [rs.length, len _ _ _ _ _ hb, h.n], l, ρ, S, kk, rs, hE, hS, hb, hQ⟩
    | _ => unfold bindP at hb; exact False.elim hb⟩
/-- target = e, by a pattern -/
def msPat (p : Pat) (m : ME) : MS := fun D ρ S => m ρ S fun v S1 => bindP p v S1 ρ fun ρ' => D.nx ρ' S1
theorem es_pat {tg : Expr} {p : Pat} (he : EE X Z e m) (hg : EG X Z tg p) (hs : swapsWithSole [tg] e pos.line X.env = pure false := by kernel_rfl) (hw : swappedStores [tg] e X.env = pure none := by kernel_rfl)
    (h1 : (assignEach [tg] X.env).map (·.2) = [assign tg X.env] := by kernel_rfl) : ES X Z (.Assign [tg] e pos) (msPat p m) :=
  ⟨PS.imp (ps_asg he.pe hg.pg hs hw h1) fun D σ H ⟨ρ, S, D', hE, hS, hm, h1, h2, h3, h4⟩ =>
    ⟨ρ, S, _, hE, hS, hm, fun v H1 ⟨x, S1, t1, r1, s1, q1⟩ => ⟨x, ρ, S1, _, r1, hE.mono t1, s1, q1, fun ρ' σ' e' _ _ q => h1 _ _ ⟨ρ', S1, t1, e', s1, q⟩⟩⟩⟩
end
end Mv

set_option Elab.async false
set_option linter.all false
set_option maxRecDepth 100000
set_option maxHeartbeats 4000000
namespace Mv
open PySem PySem.Spec PyProof.Rows L2
/-! ### what is walked -/
/-- the items, and the lists that must stand as they are meanwhile -/
structure Items where
  vs : List MV
  keep : List (Addr × List MV)
def keepOk (k : List (Addr × List MV)) (S : Sto) : Prop := ∀ p ∈ k, lookL S p.1 = some p.2
abbrev MI := Env → Sto → (Items → Sto → Prop) → Prop
/-- the iterator J gives the items -/
def JI (K : PySem.W.Frag) (Z : ZT) (J : It) (I : Items) (H0 : Hp) : Prop :=
  ∀ (i : Nat) (S : Sto) (H : Hp), TK K H0 H → RS K Z S H → keepOk I.keep S →
    (∀ v, I.vs[i]? = some v → J.go i H ∧ ∀ x H', J.yld i H x H' → GK K S H S H' ∧ RS K Z S H' ∧ RM K H' v x) ∧ (I.vs.length ≤ i → J.stop i H)
structure EI (X : Cx) (Z : ZT) (tg iter : Expr) (m : MI) : Prop where
  pi : ∃ wi, PI X tg iter wi ∧ ∀ σ H ρ S R R', RE X.K H ρ σ → RS X.K Z S H → m ρ S R →
    (∀ J H', (∃ I S', GK X.K S H S' H' ∧ RS X.K Z S' H' ∧ JI X.K Z J I H' ∧ R I S') → R' J H') → wi σ H R'
theorem PI.or {X : Cx} {tg iter : Expr} {w w' : TI} (h : PI X tg iter w) (h' : PI X tg iter w') : PI X tg iter (fun σ H R => w σ H R ∨ w' σ H R) := ⟨fun pins s σ H R I hw => hw.elim (h.run pins s σ H R I) (h'.run pins s σ H R I)⟩
section
variable {K : PySem.W.Frag} {Z : ZT}
theorem look_at {S : Sto} {H : Hp} {a : Addr} {l : List MV} {i : Nat} {v : MV} (hS : RS K Z S H) (e : lookL S a = some l) (h : l[i]? = some v) : ∃ xs x, SqL K H a xs ∧ xs[i]? = some x ∧ RM K H v x := by
  obtain ⟨xs, g1, g2⟩ := look_sq hS e
  obtain ⟨x, h1, h2⟩ := g2.get h
  exact ⟨xs, x, g1, h1, h2⟩
theorem ji_list {a : Addr} {l : List MV} {H0 : Hp} : JI K Z (Itl K a) ⟨l, [(a, l)]⟩ H0 := fun i S H t hS hk => by
  have e : lookL S a = some l := hk (a, l) (by simp)
  refine ⟨fun v hv => ?_, fun hl => ?_⟩
  · obtain ⟨xs, x, g1, h1, h2⟩ := look_at hS e hv
    refine ⟨⟨xs, x, g1, h1⟩, fun y H' ⟨eH, hy⟩ => ?_⟩
    subst eH
    have := hy xs g1
    rw [h1] at this; cases this
    exact ⟨GK.refl, hS, h2⟩
  · obtain ⟨xs, g1, g2⟩ := look_sq hS e
    exact ⟨xs, g1, by rw [g2.length]; exact hl⟩
theorem ji_tup {a : Addr} {l : List MV} {xs : List V} {H0 : Hp} (sq : SqT K H0 a xs) (r : RMs K H0 l xs) : JI K Z (Itt K a) ⟨l, []⟩ H0 := fun i S H t hS hk => by
  have sq' := t.tup _ _ sq
  refine ⟨fun v hv => ?_, fun hl => ?_⟩
  · obtain ⟨x, h1, h2⟩ := r.get hv
    refine ⟨⟨xs, x, sq', h1⟩, fun y H' ⟨eH, hy⟩ => ?_⟩
    subst eH
    have := hy xs sq'
    rw [h1] at this; cases this
    exact ⟨GK.refl, hS, RM.monoT t _ h2⟩
  · exact ⟨xs, sq', by rw [r.length]; exact hl⟩
theorem ji_frz {a : Addr} {l : List MV} {xs : List V} {H0 : Hp} (sq : FzL K H0 a xs) (r : RMs K H0 l xs) : JI K Z (Itl K a) ⟨l, []⟩ H0 := fun i S H t hS hk => by
  have sq' := (t.frz _ _ sq).sq
  refine ⟨fun v hv => ?_, fun hl => ?_⟩
  · obtain ⟨x, h1, h2⟩ := r.get hv
    refine ⟨⟨xs, x, sq', h1⟩, fun y H' ⟨eH, hy⟩ => ?_⟩
    subst eH
    have := hy xs sq'
    rw [h1] at this; cases this
    exact ⟨GK.refl, hS, RM.monoT t _ h2⟩
  · exact ⟨xs, sq', by rw [r.length]; exact hl⟩
def rngM (lo : Int) (n : Nat) : List MV := (List.range n).map fun (k : Nat) => MV.int (lo + (k : Int))
theorem ji_range {lo : Int} {n : Nat} {H0 : Hp} : JI K Z (Itr lo n) ⟨rngM lo n, []⟩ H0 := fun i S H t hS hk => by
  refine ⟨fun v hv => ?_, fun hl => ?_⟩
  · have hi : i < n := by
      have := (List.getElem?_eq_some_iff.mp hv).1
      simpa [rngM] using this
    have ev : v = .int (lo + (i : Int)) := by
      have : (rngM lo n)[i]? = some (.int (lo + (i : Int))) := by simp [rngM, hi]
      rw [this] at hv; cases hv; rfl
    refine ⟨hi, fun y H' ⟨eH, hy⟩ => ?_⟩
    subst eH; subst hy; subst ev
    exact ⟨GK.refl, hS, by unfold RM; rfl⟩
  · show n ≤ i
    simpa [rngM] using hl
theorem ji_rev {a : Addr} {l : List MV} {n : Nat} {H0 : Hp} (hn : n = l.length) : JI K Z (Itv K a n) ⟨l.reverse, [(a, l)]⟩ H0 := fun i S H t hS hk => by
  subst hn
  have e : lookL S a = some l := hk (a, l) (by simp)
  refine ⟨fun v hv => ?_, fun hl => ?_⟩
  · have hi : i < l.length := by have := (List.getElem?_eq_some_iff.mp hv).1; simpa using this
    have hv' : l[l.length - 1 - i]? = some v := by rw [← hv, List.getElem?_reverse hi]
    obtain ⟨xs, x, g1, h1, h2⟩ := look_at hS e hv'
    refine ⟨⟨hi, xs, x, g1, h1⟩, fun y H' ⟨eH, hy⟩ => ?_⟩
    subst eH
    have := hy xs g1
    rw [h1] at this; cases this
    exact ⟨GK.refl, hS, h2⟩
  · show l.length ≤ i
    simpa using hl
theorem ji_revF {a : Addr} {l : List MV} {xs : List V} {n : Nat} {H0 : Hp} (hn : n = l.length) (sq : FzL K H0 a xs) (r : RMs K H0 l xs) : JI K Z (Itv K a n) ⟨l.reverse, []⟩ H0 := fun i S H t hS hk => by
  subst hn
  have sq' := (t.frz _ _ sq).sq
  refine ⟨fun v hv => ?_, fun hl => ?_⟩
  · have hi : i < l.length := by have := (List.getElem?_eq_some_iff.mp hv).1; simpa using this
    have hv' : l[l.length - 1 - i]? = some v := by rw [← hv, List.getElem?_reverse hi]
    obtain ⟨x, h1, h2⟩ := r.get hv'
    refine ⟨⟨hi, xs, x, sq', h1⟩, fun y H' ⟨eH, hy⟩ => ?_⟩
    subst eH
    have := hy xs sq'
    rw [h1] at this; cases this
    exact ⟨GK.refl, hS, RM.monoT t _ h2⟩
  · show l.length ≤ i
    simpa using hl
theorem ji_revT {a : Addr} {l : List MV} {xs : List V} {n : Nat} {H0 : Hp} (hn : n = l.length) (sq : SqT K H0 a xs) (r : RMs K H0 l xs) : JI K Z (RT.ItvT K a n) ⟨l.reverse, []⟩ H0 := fun i S H t hS hk => by
  subst hn
  have sq' := t.tup _ _ sq
  refine ⟨fun v hv => ?_, fun hl => ?_⟩
  · have hi : i < l.length := by have := (List.getElem?_eq_some_iff.mp hv).1; simpa using this
    have hv' : l[l.length - 1 - i]? = some v := by rw [← hv, List.getElem?_reverse hi]
    obtain ⟨x, h1, h2⟩ := r.get hv'
    refine ⟨⟨hi, xs, x, sq', h1⟩, fun y H' ⟨eH, hy⟩ => ?_⟩
    subst eH
    have := hy xs sq'
    rw [h1] at this; cases this
    exact ⟨GK.refl, hS, RM.monoT t _ h2⟩
  · show l.length ≤ i
    simpa using hl
/-- (i, x) of a list -/
def enumM : Nat → List MV → List MV
  | _, [] => []
  | n, v :: l => .tup [.int (n : Int), v] :: enumM (n + 1) l
theorem enumM_length : ∀ (n : Nat) (l : List MV), (enumM n l).length = l.length
  | _, [] => rfl
  | n, v :: l => by unfold enumM; rw [List.length_cons, List.length_cons, enumM_length]
theorem enumM_get : ∀ (n : Nat) (l : List MV) (i : Nat) (w : MV), (enumM n l)[i]? = some w → ∃ v, l[i]? = some v ∧ w = .tup [.int ((n + i : Nat) : Int), v]
  | n, [], i, w, h => by simp [enumM] at h
  | n, v :: l, 0, w, h => by simp [enumM] at h; exact ⟨v, rfl, by rw [← h]; rfl⟩
  | n, v :: l, i + 1, w, h => by
    obtain ⟨u, e1, e2⟩ := enumM_get (n + 1) l i w (by simpa [enumM] using h)
    refine ⟨u, by simpa using e1, ?_⟩
    rw [e2, show n + 1 + i = n + (i + 1) by omega]
theorem ji_enum {a : Addr} {l : List MV} {H0 : Hp} : JI K Z (Ite K a) ⟨enumM 0 l, [(a, l)]⟩ H0 := fun i S H t hS hk => by
  have e : lookL S a = some l := hk (a, l) (by simp)
  refine ⟨fun w hw => ?_, fun hl => ?_⟩
  · obtain ⟨v, hv, ew⟩ := enumM_get 0 l i w hw
    obtain ⟨xs, x, g1, h1, h2⟩ := look_at hS e hv
    refine ⟨⟨xs, x, g1, h1⟩, fun y H' ⟨T, x', ey, nT, eH, hy⟩ => ?_⟩
    have := hy xs g1
    rw [h1] at this; cases this
    subst eH
    have g : GK K S H S (upd H T (.tup [.int (i : Nat), x])) := GK.hid nT
    refine ⟨g, hS.hid nT, ?_⟩
    rw [ew, Nat.zero_add]
    unfold RM
    exact ⟨T, _, ey, .inl (.inl upd_same), RMs.cons (by unfold RM; rfl) (RMs.cons (h2.mono g) RMs.nil)⟩
  · obtain ⟨xs, g1, g2⟩ := look_sq hS e
    rw [enumM_length] at hl
    exact ⟨xs, g1, by rw [g2.length]; exact hl⟩
def zipM (l k : List MV) : List MV := (l.zip k).map fun p => MV.tup [p.1, p.2]
theorem zipM_get {l k : List MV} {i : Nat} {w : MV} (h : (zipM l k)[i]? = some w) : ∃ u v, l[i]? = some u ∧ k[i]? = some v ∧ w = .tup [u, v] := by
  unfold zipM at h
  rw [List.getElem?_map] at h
  cases e : (l.zip k)[i]? with
  | none => rw [e] at h; cases h
  | some p =>
    rw [e] at h
    obtain ⟨u, v⟩ := p
    have := List.getElem?_zip_eq_some.mp e
    exact ⟨u, v, this.1, this.2, by cases h; rfl⟩
theorem zipM_length (l k : List MV) : (zipM l k).length = min l.length k.length := by simp [zipM]
theorem pair_rel {S : Sto} {H : Hp} {T : Addr} {x y : V} {u v : MV} (hS : RS K Z S H) (nT : H T = none) (r1 : RM K H u x) (r2 : RM K H v y) :
    GK K S H S (upd H T (.tup [x, y])) ∧ RS K Z S (upd H T (.tup [x, y])) ∧ RM K (upd H T (.tup [x, y])) (.tup [u, v]) (.ref T) := by
  have g : GK K S H S (upd H T (.tup [x, y])) := GK.hid nT
  refine ⟨g, hS.hid nT, ?_⟩
  unfold RM
  exact ⟨T, _, rfl, .inl (.inl upd_same), RMs.cons (r1.mono g) (RMs.cons (r2.mono g) RMs.nil)⟩
theorem ji_zip {a b : Addr} {l k : List MV} {H0 : Hp} : JI K Z (Itz K a b) ⟨zipM l k, [(a, l), (b, k)]⟩ H0 := fun i S H t hS hk => by
  have e : lookL S a = some l := hk (a, l) (by simp)
  have e' : lookL S b = some k := hk (b, k) (by simp)
  refine ⟨fun w hw => ?_, fun hl => ?_⟩
  · obtain ⟨u, v, hu, hv, ew⟩ := zipM_get hw
    obtain ⟨xs, x, g1, h1, h2⟩ := look_at hS e hu
    obtain ⟨ys, y, g3, h3, h4⟩ := look_at hS e' hv
    refine ⟨⟨xs, ys, x, y, g1, g3, h1, h3⟩, fun z H' ⟨T, x', y', ez, nT, eH, hx, hy⟩ => ?_⟩
    have q1 := hx xs g1
    have q2 := hy ys g3
    rw [h1] at q1; cases q1
    rw [h3] at q2; cases q2
    subst eH; subst ez; subst ew
    exact pair_rel hS nT h2 h4
  · obtain ⟨xs, g1, g2⟩ := look_sq hS e
    obtain ⟨ys, g3, g4⟩ := look_sq hS e'
    rw [zipM_length] at hl
    have hl : min l.length k.length ≤ i := hl
    exact ⟨xs, ys, g1, g3, by rw [g2.length, g4.length]; omega⟩
theorem ji_zipT {a b : Addr} {l k : List MV} {xs ys : List V} {H0 : Hp} (s1 : SqT K H0 a xs) (r1 : RMs K H0 l xs) (s2 : SqT K H0 b ys) (r2 : RMs K H0 k ys) : JI K Z (RZ.ItzT K a b) ⟨zipM l k, []⟩ H0 := fun i S H t hS hk => by
  have s1' := t.tup _ _ s1
  have s2' := t.tup _ _ s2
  refine ⟨fun w hw => ?_, fun hl => ?_⟩
  · obtain ⟨u, v, hu, hv, ew⟩ := zipM_get hw
    obtain ⟨x, h1, h2⟩ := r1.get hu
    obtain ⟨y, h3, h4⟩ := r2.get hv
    refine ⟨⟨xs, ys, x, y, s1', s2', h1, h3⟩, fun z H' ⟨T, x', y', ez, nT, eH, hx, hy⟩ => ?_⟩
    have q1 := hx xs s1'
    have q2 := hy ys s2'
    rw [h1] at q1; cases q1
    rw [h3] at q2; cases q2
    subst eH; subst ez; subst ew
    exact pair_rel hS nT (RM.monoT t _ h2) (RM.monoT t _ h4)
  · rw [zipM_length] at hl
    have hl : min l.length k.length ≤ i := hl
    exact ⟨xs, ys, s1', s2', by rw [r1.length, r2.length]; omega⟩
end
def mIter (m : ME) : MI := fun ρ S R => m ρ S fun x S1 => match x with
  | .tup l => R ⟨l, []⟩ S1
  | .ref a => (match lookL S1 a with
    | some l => R ⟨l, [(a, l)]⟩ S1
    | none => False)
  | .frz l => R ⟨l, []⟩ S1
  | _ => False
def mRng1 (ms : MA) : MI := fun ρ S R => ms ρ S fun vs S1 => match vs with
  | [.int j] => (-(2 ^ 62) ≤ j ∧ j < 2 ^ 62) ∧ R ⟨rngM 0 j.toNat, []⟩ S1
  | _ => False
def mRng2 (ms : MA) : MI := fun ρ S R => ms ρ S fun vs S1 => match vs with
  | [.int i, .int j] => (-(2 ^ 62) ≤ i ∧ i < 2 ^ 62 ∧ -(2 ^ 62) ≤ j ∧ j < 2 ^ 62) ∧ R ⟨rngM i (j - i).toNat, []⟩ S1
  | _ => False
def mReversed (m : ME) : MI := fun ρ S R => m ρ S fun x S1 => match x with
  | .tup l => R ⟨l.reverse, []⟩ S1
  | .ref a => (match lookL S1 a with
    | some l => R ⟨l.reverse, [(a, l)]⟩ S1
    | none => False)
  | .frz l => R ⟨l.reverse, []⟩ S1
  | _ => False
section
variable {X : Cx} {Z : ZT} {e a b tg iter : Expr} {m ma mb : ME} {pos p : Pos} {es : List Expr} {mas : MA}
/-- a list or a tuple -/
def iSeq (K : PySem.W.Frag) (te : TE) : TI := fun σ H R => te σ H fun x H1 => ∃ d : Addr, x = .ref d ∧ ((∃ xs, SqL K H1 d xs ∧ R (Itl K d) H1) ∨ ∃ xs, SqT K H1 d xs ∧ R (Itt K d) H1)
theorem pi_seq {te : TE} (h : PE X e te) : PI X tg e (iSeq X.K te) :=
  ⟨fun pins s σ H R I hw => thn (h.run pins s σ H _ I hw) fun v s1 ⟨x, H1, I1, r1, q1⟩ => by
    obtain ⟨d, ex, q1⟩ := q1
    subst ex
    cases r1
    rcases q1 with ⟨xs, sq, q⟩ | ⟨xs, sq, q⟩
    · obtain ⟨its, _, pl, _⟩ := I1.list sq
      exact wpAny_pyIter_list pl.isList (pi_one I1 _ (turn_list d _) ⟨_, Heap.get?_push_size _ rfl, rfl, rfl⟩ q)
    · obtain ⟨its, _, pl, _⟩ := I1.tuple sq
      exact wpAny_pyIter_tuple (show s1.heap.IsTuple d its.toArray from pl) (pi_one I1 _ (turn_tuple d _) ⟨_, Heap.get?_push_size _ rfl, rfl, rfl⟩ q)⟩
theorem ei_of (h : EE X Z e m) : EI X Z tg e (mIter m) := ⟨_, pi_seq h.pe, fun σ H ρ S R R' hE hS hm hQ => by
  refine ⟨ρ, S, _, hE, hS, hm, fun v H1 ⟨x, S1, t1, r1, s1, q1⟩ => ?_⟩
  cases x with
  | tup l =>
    unfold RM at r1
    obtain ⟨d, xs, ex, sq, rs⟩ := r1
    exact ⟨d, ex, .inr ⟨xs, sq, hQ _ _ ⟨_, S1, t1, s1, ji_tup sq rs, q1⟩⟩⟩
  | ref d =>
    unfold RM at r1
    dsimp only at q1
    split at q1
    · rename_i l el
      obtain ⟨xs, g1, g2⟩ := look_sq s1 el
      exact ⟨d, r1, .inl ⟨xs, g1, hQ _ _ ⟨_, S1, t1, s1, ji_list, q1⟩⟩⟩
    · exact q1.elim
  | frz l =>
    unfold RM at r1
    obtain ⟨d, xs, ex, sq, rs⟩ := r1
    exact ⟨d, ex, .inl ⟨xs, sq.sq, hQ _ _ ⟨_, S1, t1, s1, ji_frz sq rs, q1⟩⟩⟩
  | _ => exact False.elim q1⟩
theorem ei_rng1 {p pos : Pos} (hg : Gl X "range") (hm : X.mg "range" = none) (ha : EA X Z [a] mas) (hs : starEach [a] X.env = [(false, eval a X.env)] := by kernel_rfl) : EI X Z tg (.Call (.Name "range" p) [a] [] pos) (mRng1 mas) :=
  ⟨_, pi_range1 hg hm ha.pa hs, fun σ H ρ S R R' hE hS hm hQ => by
    refine ⟨ρ, S, _, hE, hS, hm, fun vs H1 ⟨ms, S1, t1, r1, s1, q1⟩ => ?_⟩
    dsimp only at q1
    split at q1
    · rename_i j
      obtain ⟨v, rfl, r⟩ := rms1 r1
      unfold RM at r
      subst r
      exact ⟨j, rfl, q1.1.1, q1.1.2, hQ _ _ ⟨_, S1, t1, s1, ji_range, q1.2⟩⟩
    · exact q1.elim⟩
theorem ei_rng2 {p pos : Pos} (hg : Gl X "range") (hm : X.mg "range" = none) (ha : EA X Z [a, b] mas) (hs : starEach [a, b] X.env = [(false, eval a X.env), (false, eval b X.env)] := by kernel_rfl) (hs2 : starEach [b] X.env = [(false, eval b X.env)] := by kernel_rfl) :
    EI X Z tg (.Call (.Name "range" p) [a, b] [] pos) (mRng2 mas) :=
  ⟨_, pi_range2 hg hm ha.pa hs hs2, fun σ H ρ S R R' hE hS hm hQ => by
    refine ⟨ρ, S, _, hE, hS, hm, fun vs H1 ⟨ms, S1, t1, r1, s1, q1⟩ => ?_⟩
    dsimp only at q1
    split at q1
    · rename_i i j
      obtain ⟨v, u, rfl, r, r2⟩ := rms2 r1
      unfold RM at r r2
      subst r; subst r2
      exact ⟨i, j, rfl, q1.1, hQ _ _ ⟨_, S1, t1, s1, ji_range, q1.2⟩⟩
    · exact q1.elim⟩
theorem ei_rev {p pos : Pos} (hg : Gl X "reversed") (hm : X.mg "reversed" = none) (he : EE X Z e m) (hs : starEach [e] X.env = (false, eval e X.env) :: starEach [] X.env := by kernel_rfl) : EI X Z tg (.Call (.Name "reversed" p) [e] [] pos) (mReversed m) :=
  ⟨_, RT.pi_revA hg hm he.pe hs, fun σ H ρ S R R' hE hS hm hQ => by
    refine ⟨ρ, S, _, hE, hS, hm, fun v H1 ⟨x, S1, t1, r1, s1, q1⟩ => ?_⟩
    cases x with
    | tup l =>
      unfold RM at r1
      obtain ⟨d, xs, ex, sq, rs⟩ := r1
      exact ⟨d, xs, ex, .inr ⟨sq, hQ _ _ ⟨_, S1, t1, s1, ji_revT rs.length sq rs, q1⟩⟩⟩
    | ref d =>
      unfold RM at r1
      dsimp only at q1
      split at q1
      · rename_i l el
        obtain ⟨xs, g1, g2⟩ := look_sq s1 el
        exact ⟨d, xs, r1, .inl ⟨g1, hQ _ _ ⟨_, S1, t1, s1, ji_rev g2.length, q1⟩⟩⟩
      · exact q1.elim
    | frz l =>
      unfold RM at r1
      obtain ⟨d, xs, ex, sq, rs⟩ := r1
      exact ⟨d, xs, ex, .inl ⟨sq.sq, hQ _ _ ⟨_, S1, t1, s1, ji_revF rs.length sq rs, q1⟩⟩⟩
    | _ => exact False.elim q1⟩
/-! ### for -/
def forL (k : List (Addr × List MV)) (pt : Pat) (body : MS) (D : MD) : List MV → Env → Sto → Prop
  | [], ρ, S => keepOk k S ∧ D.nx ρ S
  | v :: r, ρ, S => keepOk k S ∧ bindP pt v S ρ fun ρ' => body { D with nx := forL k pt body D r, ct := forL k pt body D r, bk := D.nx } ρ' S
def msFor (mi : MI) (pt : Pat) (body : MS) : MS := fun D ρ S => mi ρ S fun I S1 => forL I.keep pt body D I.vs ρ S1
theorem es_for {body : List Stmt} {mi : MI} {pt : Pat} {mb : MS} (hp : PassesOwn (model X.prog X.w) X.A X.env X.xe) (hc : X.calm = true) (hi : EI X Z tg iter mi) (hg : EG X Z tg pt) (hb : EB X Z body mb) (hs : ∀ x, foldedSetIterable iter X.env x = pure x := by intro _; kernel_rfl) :
    ES X Z (.For tg iter body [] pos) (msFor mi pt mb) := by
  obtain ⟨wi, w1, w2⟩ := hi.pi
  refine ⟨PS.imp (ps_for hp hc w1 hg.pg hb.pss hs) fun D σ H ⟨ρ, S, D', hE, hS, hm, h1, h2, h3, h4⟩ => ?_⟩
  refine w2 σ H ρ S _ _ hE hS hm fun J H1 ⟨I, S1, t1, s1, j1, q1⟩ => ?_
  refine ⟨fun i n σ2 H2 => n = I.vs.length - i ∧ i ≤ I.vs.length ∧ ∃ ρ2 S2, GK X.K S H S2 H2 ∧ TK X.K H1 H2 ∧ RE X.K H2 ρ2 σ2 ∧ RS X.K Z S2 H2 ∧ forL I.keep pt mb D' (I.vs.drop i) ρ2 S2, ⟨_, rfl, Nat.zero_le _, ρ, S1, t1, TK.refl, hE.mono t1, s1, q1⟩, ?_⟩
  rintro i n σ2 H2 ⟨rfl, hi, ρ2, S2, g2, k2, e2, s2, q2⟩
  by_cases hlt : i < I.vs.length
  · rw [List.drop_eq_getElem_cons hlt] at q2
    unfold forL at q2
    obtain ⟨kp, q2⟩ := q2
    obtain ⟨go, yl⟩ := (j1 i S2 H2 k2 s2 kp).1 _ (List.getElem?_eq_getElem hlt)
    refine .inr ⟨go, fun σ3 H3 => ∃ ρ3 S3, GK X.K S H S3 H3 ∧ TK X.K H1 H3 ∧ RE X.K H3 ρ3 σ3 ∧ RS X.K Z S3 H3 ∧ forL I.keep pt mb D' (I.vs.drop (i + 1)) ρ3 S3, fun σ3 H3 ⟨ρ3, S3, a1, a2, a3, a4, a5⟩ => ⟨_, by omega, rfl, hlt, ρ3, S3, a1, a2, a3, a4, a5⟩, fun x H3 hy => ?_⟩
    obtain ⟨g3, s3, r3⟩ := yl x H3 hy
    refine ⟨_, ρ2, S2, _, r3, e2.mono g3, s3, q2, fun ρ4 σ4 e4 _ _ b4 => ?_⟩
    have t4 : GK X.K S H S2 H3 := g2.trans g3
    refine ⟨ρ4, S2, _, e4, s3, b4, fun σ5 H5 ⟨ρ5, S5, g5, e5, s5, q5⟩ => ⟨ρ5, S5, t4.trans g5, k2.trans (g3.tk.trans g5.tk), e5, s5, q5⟩, fun v H5 q => h2 _ _ (q.base t4), fun σ5 H5 q => h1 _ _ (q.base t4),
      fun σ5 H5 ⟨ρ5, S5, g5, e5, s5, q5⟩ => ⟨ρ5, S5, t4.trans g5, k2.trans (g3.tk.trans g5.tk), e5, s5, q5⟩⟩
  · have ei : i = I.vs.length := by omega
    subst ei
    rw [List.drop_length] at q2
    unfold forL at q2
    obtain ⟨kp, q2⟩ := q2
    exact .inl ⟨(j1 _ S2 H2 k2 s2 kp).2 (Nat.le_refl _), h1 _ _ ⟨ρ2, S2, g2, e2, s2, q2⟩⟩
/-! ### while -/
def whileN (c : MT) (body : MS) (D : MD) : Nat → Env → Sto → Prop
  | 0, _, _ => False
  | n + 1, ρ, S => c ρ S fun b S1 => match b with
    | true => body { D with nx := whileN c body D n, ct := whileN c body D n, bk := D.nx } ρ S1
    | false => D.nx ρ S1
def msWhile (c : MT) (body : MS) : MS := fun D ρ S => ∃ n, whileN c body D n ρ S
theorem es_while {c : Expr} {body : List Stmt} {mc : MT} {mb : MS} (hp : PassesOwn (model X.prog X.w) X.A X.env X.xe) (hc : ET X Z c mc) (hb : EB X Z body mb) : ES X Z (.While c body [] pos) (msWhile mc mb) := by
  refine ⟨PS.imp (ps_while hp hc.pt hb.pss) fun D σ H ⟨ρ, S, D', hE, hS, ⟨n0, hm⟩, h1, h2, h3, h4⟩ => ?_⟩
  refine ⟨fun n σ2 H2 => ∃ ρ2 S2, GK X.K S H S2 H2 ∧ RE X.K H2 ρ2 σ2 ∧ RS X.K Z S2 H2 ∧ whileN mc mb D' n ρ2 S2, ⟨n0, ρ, S, GK.refl, hE, hS, hm⟩, ?_⟩
  rintro n σ2 H2 ⟨ρ2, S2, g2, e2, s2, q2⟩
  cases n with
  | zero => exact False.elim q2
  | succ n =>
    unfold whileN at q2
    refine ⟨ρ2, S2, _, e2, s2, q2, fun b H3 ⟨S3, g3, s3, q3⟩ => ?_⟩
    have t3 : GK X.K S H S3 H3 := g2.trans g3
    cases b with
    | true =>
      dsimp only at q3 ⊢
      rw [if_pos rfl]
      refine ⟨fun σ4 H4 => ∃ ρ4 S4, GK X.K S H S4 H4 ∧ RE X.K H4 ρ4 σ4 ∧ RS X.K Z S4 H4 ∧ whileN mc mb D' n ρ4 S4, fun σ4 H4 h => ⟨n, Nat.lt_succ_self n, h⟩, ?_⟩
      refine ⟨ρ2, S3, _, e2.mono g3, s3, q3, fun σ5 H5 ⟨ρ5, S5, g5, e5, s5, q5⟩ => ⟨ρ5, S5, t3.trans g5, e5, s5, q5⟩, fun v H5 q => h2 _ _ (q.base t3), fun σ5 H5 q => h1 _ _ (q.base t3),
        fun σ5 H5 ⟨ρ5, S5, g5, e5, s5, q5⟩ => ⟨ρ5, S5, t3.trans g5, e5, s5, q5⟩⟩
    | false =>
      dsimp only at q3 ⊢
      rw [if_neg Bool.false_ne_true]
      exact h1 _ _ ⟨ρ2, S3, t3, e2.mono g3, s3, q3⟩
/-! ### comprehensions -/
def lcL (k : List (Addr × List MV)) (pt : Pat) (tt : MT) (te : ME) (ρ : Env) (Q : List MV → Sto → Prop) : List MV → List MV → Sto → Prop
  | [], acc, S => keepOk k S ∧ Q acc S
  | v :: r, acc, S => keepOk k S ∧ bindP pt v S ρ fun ρ' => tt ρ' S fun b S1 => match b with
    | true => te ρ' S1 fun y S2 => acc.length < sizeLine ∧ lcL k pt tt te ρ Q r (acc ++ [y]) S2
    | false => lcL k pt tt te ρ Q r acc S1
def mLc (mi : MI) (pt : Pat) (tt : MT) (te : ME) (vs : List Nat) : ME := fun ρ S R => mi ρ S fun I S1 => lcL I.keep pt tt te (wipeM ρ vs) (fun l S2 => newL l S2 R) I.vs [] S1
def mYes : MT := fun _ S R => R true S
structure ETs (X : Cx) (Z : ZT) (ifs : List Expr) (m : MT) : Prop where
  pts : PTs X ifs (tMT X.K Z m)
theorem PTs.imp {ifs : List Expr} {t t' : TT} (h : PTs X ifs t) (k : ∀ σ H Q, t' σ H Q → t σ H Q) : PTs X ifs t' := ⟨fun pins s σ H Q I hw => h.run pins s σ H Q I (k σ H Q hw)⟩
theorem ets_nil : ETs X Z [] mYes := ⟨PTs.imp pts_nil fun σ H Q ⟨ρ, S, R, hE, hS, hm, hQ⟩ => hQ _ _ ⟨S, GK.refl, hS, hm⟩⟩
theorem ets_one {c : Expr} {mt : MT} (h : ET X Z c mt) : ETs X Z [c] mt := ⟨pts_one h.pt⟩
theorem wipe_eq {vs : List Nat} {σ σ' : L2.St} (hl : σ'.length = σ.length) (h : ∀ j, j ∉ vs → σ'[j]? = σ[j]?) : L2.wipe σ' vs = L2.wipe σ vs := by
  apply List.ext_getElem?
  intro j
  have key : ∀ (τ : L2.St) (vs : List Nat), j ∈ vs → j < τ.length → (L2.wipe τ vs)[j]? = some none := by
    intro τ vs
    induction vs with
    | nil => intro h _; cases h
    | cons v vs ih =>
      intro hj hlt
      unfold L2.wipe
      by_cases e : v = j
      · subst e
        rw [List.getElem?_set_self (by rw [wipe_length]; exact hlt)]
      · rw [List.getElem?_set_ne e]
        exact ih ((List.mem_cons.mp hj).resolve_left (fun z => e z.symm)) hlt
  by_cases hj : j ∈ vs
  · by_cases hlt : j < σ.length
    · rw [key σ' vs hj (by rw [hl]; exact hlt), key σ vs hj hlt]
    · rw [List.getElem?_eq_none (by rw [wipe_length]; omega), List.getElem?_eq_none (by rw [wipe_length]; omega)]
  · rw [wipe_out hj, wipe_out hj]
    exact h j hj
theorem wipe_wipe (σ : L2.St) (vs : List Nat) : L2.wipe (L2.wipe σ vs) vs = L2.wipe σ vs := by
  refine wipe_eq (wipe_length σ vs) fun j hj => wipe_out hj
theorem RS.showL {K : PySem.W.Frag} {S : Sto} {H : Hp} {p : Addr} {l : List MV} {xs : List V} (r : RS K Z S H) (h : H p = some (.lst xs)) (q : RMs K H l xs) : RS K Z (supd S p (.lst l)) H :=
  ⟨fun b u e => by
    by_cases hb : b = p
    · subst hb; rw [supd_same] at e; cases e; exact ⟨xs, h, q⟩
    · rw [supd_ne hb] at e; exact r.ob b u e, r.tab⟩
theorem GK.over {K : PySem.W.Frag} {S S' : Sto} {H H' : Hp} {p : Addr} {o : HO} (g : GK K S H S' H') (hp : H p = none) (tk : TK K H' (upd H' p o)) : GK K S H S' (upd H' p o) :=
  ⟨g.tk.trans tk, fun a u n e nt => by
    obtain ⟨e1, n1⟩ := g.fr a u n e nt
    exact ⟨by rw [upd_ne (ne_of_none e hp)]; exact e1, n1⟩⟩
theorem GK.showL {K : PySem.W.Frag} {S S' : Sto} {H H' : Hp} {p : Addr} {l : List MV} (g : GK K S H S' H') (hp : H p = none) : GK K S H (supd S' p (.lst l)) H' :=
  ⟨g.tk, fun a u n e nt => by
    obtain ⟨e1, n1⟩ := g.fr a u n e nt
    exact ⟨e1, by rw [supd_ne (ne_of_none e hp)]; exact n1⟩⟩
theorem lc_read {K : PySem.W.Frag} {mi : MI} {pt : Pat} {tt : MT} {te : ME} {vs : List Nat} {wi : TI} {σ : L2.St} {H : Hp} {ρ : Env} {S : Sto} {R : MK} {Q : VK}
    (w2 : ∀ σ H ρ S R R', RE K H ρ σ → RS K Z S H → mi ρ S R → (∀ J H', (∃ I S', GK K S H S' H' ∧ RS K Z S' H' ∧ JI K Z J I H' ∧ R I S') → R' J H') → wi σ H R') (hsl : ∀ j ∈ pt.slots, j ∈ vs)
    (hE : RE K H ρ σ) (hS : RS K Z S H) (hm : mLc mi pt tt te vs ρ S R) (hQ : ∀ v H', MQ K Z S H R v H' → Q v H') : tLc wi (gP K Z pt) (tMT K Z tt) (tM K Z te) vs σ H Q := by
  refine w2 σ H ρ S _ _ hE hS hm fun J H1 ⟨I, S1, t1, s1, j1, q1⟩ D hD => ?_
  refine ⟨fun i n H2 => n = I.vs.length - i ∧ i ≤ I.vs.length ∧ ∃ (acc : List MV) (xs : List V) (S2 : Sto), S2 D = none ∧ H2 D = some (.lst xs) ∧ RMs K H2 acc xs ∧ RS K Z S2 H2 ∧ GK K S1 H1 S2 H2 ∧ lcL I.keep pt tt te (wipeM ρ vs) (fun l S2 => newL l S2 R) (I.vs.drop i) acc S2,
    ⟨_, rfl, Nat.zero_le _, [], [], S1, s1.free hD, upd_same, RMs.nil, s1.hid hD, GK.hid hD, q1⟩, ?_⟩
  rintro i n H2 ⟨rfl, hi, acc, xs, S2, nD, eD, ra, s2, g2, q2⟩
  by_cases hlt : i < I.vs.length
  · rw [List.drop_eq_getElem_cons hlt] at q2
    unfold lcL at q2
    obtain ⟨kp, q2⟩ := q2
    obtain ⟨go, yl⟩ := (j1 i S2 H2 g2.tk s2 kp).1 _ (List.getElem?_eq_getElem hlt)
    refine .inr ⟨go, fun H3 => ∃ (acc : List MV) (xs : List V) (S3 : Sto), S3 D = none ∧ H3 D = some (.lst xs) ∧ RMs K H3 acc xs ∧ RS K Z S3 H3 ∧ GK K S1 H1 S3 H3 ∧ lcL I.keep pt tt te (wipeM ρ vs) (fun l S2 => newL l S2 R) (I.vs.drop (i + 1)) acc S3,
      fun H3 ⟨a1, a2, a3, a4⟩ => ⟨_, by omega, rfl, hlt, a1, a2, a3, a4⟩, fun x H3 hy => ?_⟩
    obtain ⟨g3, s3, r3⟩ := yl x H3 hy
    have e3 : RE K H3 (wipeM ρ vs) (L2.wipe σ vs) := ((hE.mono t1).mono (g2.trans g3)).wiped vs
    refine ⟨_, wipeM ρ vs, S2, _, r3, e3, s3, q2, fun ρ4 σ4 e4 f4 l4 b4 => ⟨?_, ?_⟩⟩
    · rw [← wipe_wipe σ vs]
      exact wipe_eq l4 fun j hj => f4 j fun z => hj (hsl j z)
    · refine ⟨ρ4, S2, _, e4, s3, b4, fun b H4 ⟨S4, g4, s4, q4⟩ => ?_⟩
      have g34 := g3.trans g4
      cases b with
      | true =>
        dsimp only at q4 ⊢
        rw [if_pos rfl]
        refine ⟨ρ4, S4, _, e4.mono g4, s4, q4, fun y H5 ⟨my, S5, g5, r5, s5, hl, q5⟩ => ?_⟩
        have g35 := g34.trans g5
        obtain ⟨k1, k2⟩ := g35.fr D _ nD eD (fun ps z => by cases z)
        have tk := TK.lst (K := K) (o := .lst (xs ++ [y])) k1
        refine ⟨xs, k1, by rw [ra.length]; exact hl, acc ++ [my], xs ++ [y], S5, k2, upd_same, RMs.monoT tk _ ((ra.mono g35).append (RMs.cons r5 RMs.nil)), s5.hidW k1 k2, (g2.trans g35).over hD tk, q5⟩
      | false =>
        dsimp only at q4 ⊢
        rw [if_neg Bool.false_ne_true]
        obtain ⟨k1, k2⟩ := g34.fr D _ nD eD (fun ps z => by cases z)
        exact ⟨acc, xs, S4, k2, k1, ra.mono g34, s4, g2.trans g34, q4⟩
  · have ei : i = I.vs.length := by omega
    subst ei
    rw [List.drop_length] at q2
    unfold lcL at q2
    obtain ⟨kp, q2⟩ := q2
    refine .inl ⟨(j1 _ S2 H2 g2.tk s2 kp).2 (Nat.le_refl _), hQ _ _ ⟨.ref D, _, t1.trans (g2.showL (l := acc) hD), by unfold RM; rfl, s2.showL eD ra, q2 D nD⟩⟩
section
variable {elt : Expr} {ifs : List Expr} {scope : Scope} {own : List (Str × Nat)} {vs : List Nat} {mi : MI} {pt : Pat} {tt : MT} {te : ME}
theorem ee_lc (hc : X.calm = true) (hN : X.N.Nodup) (hi : EI X Z tg iter mi) (ok : BlkOk X.N X.env.scope scope own)
    (hg : ∀ (s : Shared) (H : Hp) (C : Addr) (cl : List (Str × Addr)) (fp : List Addr), EG (X.blk s H scope (compEnvC scope cl C X.env) fp) Z tg pt)
    (ht : ∀ (s : Shared) (H : Hp) (C : Addr) (cl : List (Str × Addr)) (fp : List Addr), ETs (X.blk s H scope (compEnvC scope cl C X.env) fp) Z ifs tt)
    (he : ∀ (s : Shared) (H : Hp) (C : Addr) (cl : List (Str × Addr)) (fp : List Addr), EE (X.blk s H scope (compEnvC scope cl C X.env) fp) Z elt te)
    (hvs : own.map (·.2) = vs := by rfl) (hsl : ∀ j ∈ pt.slots, j ∈ vs := by decide) (hs : ∀ x, foldedSetIterable iter X.env x = pure x := by intro _; kernel_rfl) : EE X Z (.ListComp elt [⟨tg, iter, ifs, 0⟩] scope pos) (mLc mi pt tt te vs) := by
  subst hvs
  obtain ⟨wi, w1, w2⟩ := hi.pi
  exact ee_of (pe_lc hc hN w1 ok (fun a b c d f => (hg a b c d f).pg) (fun a b c d f => (ht a b c d f).pts) (fun a b c d f => (he a b c d f).pe) hs) fun σ H ρ S R hE hS hm => lc_read w2 hsl hE hS hm fun v H' q => q
theorem es_setlc {i : Nat} {y : Str} {py spos : Pos} (hc : X.calm = true) (hN : X.N.Nodup) (hy : X.N[i]? = some y) (hyl : X.env.scope.names.lookup y = some .local)
    (hsw : swapsWith (.ListComp elt [⟨tg, iter, ifs, 0⟩] scope pos) (some (.Name y py)) spos.line X.env = pure true) (hi : EI X Z tg iter mi) (ok : BlkOk X.N X.env.scope scope own)
    (hg : ∀ (s : Shared) (H : Hp) (C : Addr) (cl : List (Str × Addr)) (fp : List Addr), EG (X.blk s H scope (compEnvC scope cl C X.env) fp) Z tg pt)
    (ht : ∀ (s : Shared) (H : Hp) (C : Addr) (cl : List (Str × Addr)) (fp : List Addr), ETs (X.blk s H scope (compEnvC scope cl C X.env) fp) Z ifs tt)
    (he : ∀ (s : Shared) (H : Hp) (C : Addr) (cl : List (Str × Addr)) (fp : List Addr), EE (X.blk s H scope (compEnvC scope cl C X.env) fp) Z elt te)
    (hvs : own.map (·.2) = vs := by rfl) (hsl : ∀ j ∈ pt.slots, j ∈ vs := by decide) (hs : ∀ x, foldedSetIterable iter X.env x = pure x := by intro _; kernel_rfl) :
    ES X Z (.Assign [.Name y py] (.ListComp elt [⟨tg, iter, ifs, 0⟩] scope pos) spos) (msSet i (mLc mi pt tt te vs)) := by
  subst hvs
  obtain ⟨wi, w1, w2⟩ := hi.pi
  exact ⟨PS.imp (ps_setLc hc hN hy hyl hsw w1 ok (fun a b c d f => (hg a b c d f).pg) (fun a b c d f => (ht a b c d f).pts) (fun a b c d f => (he a b c d f).pe) hs) fun D σ H ⟨ρ, S, D', hE, hS, hm, h1, h2, h3, h4⟩ =>
    lc_read w2 hsl hE hS hm fun v H1 ⟨x, S1, t1, r1, s1, q1⟩ => h1 _ _ ⟨_, S1, t1, (hE.mono t1).set r1, s1, q1⟩⟩
end
end
/-! ### a def by its body -/
def startM (n : Nat) (ms : List MV) : Env := ms.map some ++ List.replicate (n - ms.length) none
theorem start_rel {K : PySem.W.Frag} {H : Hp} {N : List Str} {ms : List MV} {vs : List V} (r : RMs K H ms vs) : RE K H (startM N.length ms) (L2.start N vs) := by
  refine ⟨?_, fun i m h => ?_⟩
  · unfold startM L2.start
    simp [r.length]
  · unfold startM at h
    unfold L2.start
    by_cases hi : i < ms.length
    · rw [List.getElem?_append_left (by simpa using hi), List.getElem?_map] at h
      rw [List.getElem?_append_left (by simpa [r.length] using hi), List.getElem?_map]
      cases e : ms[i]? with
      | none => rw [e] at h; cases h
      | some m' =>
        rw [e] at h
        cases h
        obtain ⟨x, e1, e2⟩ := r.get e
        exact ⟨x, by rw [e1]; rfl, e2⟩
    · rw [List.getElem?_append_right (by simpa using hi)] at h
      have := List.mem_of_getElem? h
      simp at this
/-- the reading of a def: np parameters, n names, its body -/
def defW (np n : Nat) (body : MS) : MW := fun ms S R => ms.length = np ∧ body { nx := fun _ S' => dropK R .non S', rt := dropK R } (startM n ms) S
section
variable {P : Program} {w : World} {K : PySem.W.Frag} {mg : Str → Option Value} {base : Heap} {Z : ZT} {x qual : Str} {params : Arguments} {body : List Stmt} {scope : Scope} {f : Addr} {fd : FuncData}
theorem fn_sp {N ps : List Str} {k : Nat} {mb : MS} {dvs : List V} {kws : List (Str × V)} (F : FunD K x qual params body scope dvs kws f fd) (Sc : FnScope N ps scope)
    (hb : ∀ (cdv : Value) (A : Around) (outer : List PySem.Env) (s : Shared) (H : Hp) (E : XK), Room k (A.deeper (envOfC qual scope s.heap.objs.size f cdv)) → EB (cxOf CX0 P w K mg base N qual scope f cdv A outer s H E).nox Z body mb) :
    FnOk P w K mg base CX0 (k + 1) f fd ps (spM K Z ps.length (defW ps.length N.length mb)) := by
  refine F.ok Sc (fun vs H Q E h => h.1) fun cdv A outer s H vs Q E hr h => ?_
  obtain ⟨hl, ms, S, R, rm, hS, ⟨hn, hm⟩, hQ⟩ := h
  refine ⟨_, PSs.nox (hb cdv A outer s H E hr).pss, startM N.length ms, S, _, start_rel rm, hS, hm, fun σ' H' ⟨ρ', S', t, e', s', q⟩ => hQ _ _ (MQ.drop ⟨.non, S', t, by unfold RM; rfl, s', q⟩), fun v H' q => hQ _ _ (MQ.drop q), fun σ' H' ⟨ρ', S', t, e', s', q⟩ => False.elim q, fun σ' H' ⟨ρ', S', t, e', s', q⟩ => False.elim q⟩
theorem cal_mk {N ps : List Str} {k : Nat} {mb : MS} (F : FunD K x qual params body scope [] [] f fd) (Sc : FnScope N ps scope) (bnd : Binds K fd ps [])
    (hb : ∀ (cdv : Value) (A : Around) (outer : List PySem.Env) (s : Shared) (H : Hp) (E : XK), Room k (A.deeper (envOfC qual scope s.heap.objs.size f cdv)) → EB (cxOf CX0 P w K mg base N qual scope f cdv A outer s H E).nox Z body mb) :
    Cal P w K mg base Z f ps (k + 1) (defW ps.length N.length mb) :=
  ⟨⟨fd, fn_sp F Sc hb, F.kp, bnd⟩, fun ms S R h => h.1⟩
end
end Mv

set_option Elab.async false
set_option linter.all false
set_option maxRecDepth 100000
set_option maxHeartbeats 4000000
namespace Mv
open PySem PySem.Spec PyProof.Rows L2
theorem hu1 {A : Around} {k : Nat} (hr : Room k A) : A.units + 1 < cLine := by have := hr.un; omega
theorem hu64 {A : Around} {k : Nat} (hr : Room k A) : A.units + 64 < cLine := by have := hr.un; omega
theorem hu65 {A : Around} {k : Nat} (hr : Room k A) : A.units + 65 < cLine := by have := hr.un; omega
section
variable {X : Cx} {Z : ZT} {pos : Pos} {x : Str}
theorem glk (h : X.env.kindOf x = some .globalImplicit) : Gl X x := h
theorem evl (i : Nat) (hN : X.N[i]? = some x := by kernel_rfl) (hv : X.env.scope.names.lookup x = some .local := by kernel_rfl) (hd : (x == ("__debug__" : Str)) = false := by kernel_rfl) (hcd : (x == ("__classdict__" : Str)) = false := by kernel_rfl) : EE X Z (.Name x pos) (mVar i) :=
  ee_var (pe_var hN (.inl hv) hd hcd)
theorem evc (i : Nat) (hN : X.N[i]? = some x := by kernel_rfl) (hv : X.env.scope.names.lookup x = some .cell := by kernel_rfl) (hd : (x == ("__debug__" : Str)) = false := by kernel_rfl) (hcd : (x == ("__classdict__" : Str)) = false := by kernel_rfl) : EE X Z (.Name x pos) (mVar i) :=
  ee_var (pe_var hN (.inr (.inl hv)) hd hcd)
/-- a module's int -/
theorem ee_gint {i : Int} (hg : Gl X x) (hm : ∃ t, X.mg x = some (.int i t)) (hd : (x == ("__debug__" : Str)) = false := by kernel_rfl) : EE X Z (.Name x pos) (mC (.int i)) := by
  obtain ⟨t, hm⟩ := hm
  exact ee_c (pe_glob (v := .int i) hg hm ⟨t, rfl⟩ hd) fun _ => by unfold RM; rfl
/-- a module's tuple -/
theorem ee_gtup {l : List MV} {a : Addr} {xs : List V} (hg : Gl X x) (hm : X.mg x = some (.ref a)) (sq : ∀ H, SqT X.K H a xs) (r : ∀ H, RMs X.K H l xs) (hd : (x == ("__debug__" : Str)) = false := by kernel_rfl) : EE X Z (.Name x pos) (mC (.tup l)) :=
  ee_c (pe_glob (v := .ref a) hg hm rfl hd) fun H => by unfold RM; exact ⟨a, xs, rfl, sq H, r H⟩
end
/-! ### the end -/
def sto0 : Sto := fun _ => none
theorem rms_ints {K : PySem.W.Frag} {H : Hp} : ∀ ns : List Int, RMs K H (ns.map MV.int) (ns.map V.int)
  | [] => RMs.nil
  | n :: ns => RMs.cons (by unfold RM; rfl) (rms_ints ns)
theorem rm_script {K : PySem.W.Frag} {H : Hp} {a : Addr} {ns : List Int} (h : SqL K H a (ns.map V.int)) (ho : Only H) : RM K H (.frz (ns.map MV.int)) (.ref a) := by
  unfold RM
  refine ⟨a, _, rfl, ?_, rms_ints ns⟩
  rcases h with (h | h) | h
  · rcases ho a with e | ⟨o, xs, e⟩ <;> (rw [h] at e; cases e)
  · exact .inl h
  · exact .inr h
theorem rs0 {K : PySem.W.Frag} {H : Hp} {ft : Bool} : RS K ⟨[], ft⟩ sto0 H := ⟨fun b o e => (by cases e), fun P hP => (by cases hP)⟩
end Mv

set_option Elab.async false
set_option linter.all false
set_option maxRecDepth 100000
set_option maxHeartbeats 4000000
/-! enumerate and zip over lists and tuples alike. -/
namespace Mv
open PySem PySem.Spec PyProof.Rows L2
open Sem (wp)
def SqK (K : PySem.W.Frag) (H : Hp) (k : Bool) (a : Addr) (xs : List V) : Prop := match k with
  | true => SqL K H a xs
  | false => SqT K H a xs
def SeqAt (k : Bool) (h : Heap) (a : Addr) (items : Array Value) : Prop := match k with
  | true => h.IsList a items
  | false => h.IsTuple a items
def IterAt (k : Bool) (h : Heap) (it a : Addr) (i : Nat) : Prop := match k with
  | true => h.IsListIter it a i
  | false => h.IsTupleIter it a i
def iterO (k : Bool) (a : Addr) : Obj := match k with
  | true => { cls := .type "list_iterator", data := .fields #[.ref a, .int 0 0] }
  | false => { cls := .type "tuple_iterator", data := .fields #[.ref a, .int 0 0] }
theorem IterAt.obj {k : Bool} {h : Heap} {it a : Addr} {i : Nat} (st : IterAt k h it a i) : ∃ o, h.get? it = some o ∧ ∀ v, o.data ≠ .cell v := by
  cases k
  · obtain ⟨o, ho, _, hd⟩ := st
    exact ⟨o, ho, fun v q => by rw [hd] at q; cases q⟩
  · obtain ⟨o, ho, _, hd⟩ := st
    exact ⟨o, ho, fun v q => by rw [hd] at q; cases q⟩
theorem IterAt.keep {k : Bool} {h h' : Heap} {it a : Addr} {i : Nat} (st : IterAt k h it a i) (kp : ∀ o, h.get? it = some o → h'.get? it = some o) : IterAt k h' it a i := by
  cases k
  · exact Heap.IsTupleIter.at st kp
  · exact Heap.IsListIter.at st kp
theorem IterAt.zero {k : Bool} {h : Heap} {it a : Addr} (e : h.get? it = some (iterO k a)) : IterAt k h it a 0 := by
  cases k
  · exact ⟨_, e, rfl, rfl⟩
  · exact ⟨_, e, rfl, rfl⟩
theorem begins_k (k : Bool) (a : Addr) (items : Array Value) : Begins (.ref a) (iterO k a) fun h => SeqAt k h a items := by
  cases k
  · exact begins_tuple a items
  · exact begins_list a items
theorem draws_k {prog : Program} {w : World} {A : Around} (hh : A.handled = none) (k : Bool) (it a : Addr) (hne : a ≠ it) (items : Array Value) :
    Draws prog w A it [it, a] items.size (fun i v => items[i]? = some v) (fun i h => IterAt k h it a i ∧ SeqAt k h a items) := by
  cases k
  · exact Draws.tuple hh it a hne items
  · exact Draws.list hh it a hne items
section
variable {X : Cx} {pins : List (Addr × Obj)} {σ : L2.St} {H : Hp} {s : Shared}
theorem seq_k {k : Bool} {a : Addr} {xs : List V} (I : Inv X pins σ H s) (h : SqK X.K H k a xs) : ∃ its : List Value, Vals xs its ∧ SeqAt k s.heap a its.toArray ∧ a < s.heap.objs.size := by
  cases k
  · obtain ⟨its, rv, p, _⟩ := I.tuple h
    obtain ⟨o, ho, _⟩ := id p
    exact ⟨its, rv, p, Heap.lt_size ho⟩
  · obtain ⟨its, rv, p, _⟩ := I.list h
    exact ⟨its, rv, p.isList, p.lt⟩
theorem seq_inj {k : Bool} {a : Addr} {xs ys : List V} (I : Inv X pins σ H s) (h : SqK X.K H k a xs) (h' : SqK X.K H k a ys) : xs = ys := by
  cases k
  · exact I.tuple_inj h h'
  · exact I.list_inj h h'
end
theorem nextOf_k_end {prog : Program} {w : World} {A : Around} {E : Value → Shared → Prop} {s : Shared} {k : Bool} {it l : Addr} {i : Nat} {items : Array Value} {Q : Value → Shared → Prop} (hh : A.handled = none)
    (hit : IterAt k s.heap it l i) (hl : SeqAt k s.heap l items) (hx : items[i]? = none)
    (hE : ∀ h' e, Heap.ExtBut it s.heap h' → (∃ o, h'.get? e = some o ∧ o.cls = .type "StopIteration") → E (.ref e) { s with heap := h' }) :
    wpAny (model prog w) A (Builtin.SmallTypes.nextOf (.ref it)) Q E s := by
  cases k
  · exact wpAny_nextOf_tuple_end hh hit hl hx hE
  · exact wpAny_nextOf_list_end hh hit hl hx hE
theorem draws_end {prog : Program} {w : World} {A : Around} (hh : A.handled = none) (k : Bool) (it a : Addr) (hne : a ≠ it) (items : Array Value) {i : Nat} (hx : items[i]? = none) :
    Draws prog w A it [it, a] i (fun _ _ => False) (fun t h => t = i ∧ IterAt k h it a t ∧ SeqAt k h a items) where
  live := fun t h st => by
    obtain ⟨o, ho, _⟩ := st.2.1.obj
    exact ⟨o, ho⟩
  frame := fun t h h' st hk => ⟨st.1, ((draws_k (prog := prog) (w := w) hh k it a hne items).frame t h h' st.2 hk)⟩
  item := fun t s Q E ht st _ => by
    have := st.1
    omega
  done := fun s Q E st hE => nextOf_k_end hh st.2.1 st.2.2 hx hE
/-! enumerate -/
theorem enum_endK {prog : Program} {w : World} {A : Around} {E : Value → Shared → Prop} {s : Shared} {k : Bool} {e it l : Addr} {i : Nat} {items : Array Value} {old : Value} {Q : Option Value → Shared → Prop} (hh : A.in1.handled = none)
    (he : IsEnum s.heap e it i old) (hit : IterAt k s.heap it l i) (hl : SeqAt k s.heap l items) (hx : items[i]? = none)
    (hQ : ∀ h', Heap.ExtBut it s.heap h' → Q none { s with heap := h' }) : wpAny (model prog w) A (pyNext (.ref e)) Q E s := by
  have hT : s.TypeIs (.ref e) "enumerate" := ⟨_, he, rfl⟩
  unfold pyNext
  refine wpAny_bind (wpAny_attempt (wpAny_callSpecial?_slot (name := Str.ofString "__next__") hT F.slot_enumerate_next
    (wpAny_call_entry F.slot_enumerate_next hT F.entry_enumerate_next ?_ (F.args_enumerate_next_1 _))))
  show wpAny _ _ (field (.ref e) 2 >>= _) _ _ _
  refine wpAny_bind (wpAny_field he rfl (x := .ref it) rfl ?_)
  refine wpAny_bind (nextOf_k_end hh hit hl hx fun h' x he' hx' => ?_)
  obtain ⟨o, ho, hc⟩ := hx'
  refine wpAny_bind (wpAny_isInstance (T := "StopIteration") (b := true) ⟨o, ho, hc⟩ isSubtype_stop ?_)
  exact wpAny_pure (hQ _ he')
/-- enumerate(v): its two new cells -/
theorem meets_enum1 {v : Value} {o : Obj} {H : Heap → Prop} (B : Begins v o H) :
    Meets (Builtin.«enumerate.__new__» ⟨[.type "enumerate", v], []⟩) (fun _ R s => H s.heap ∧
      R (.ok (.ret (.ref (s.heap.push o).objs.size))) { s with heap := (s.heap.push o).push { cls := .type "enumerate", data := .fields #[.none, .bool false, .ref s.heap.objs.size, rawInt 0, .none, .none] } }) :=
  .of_wp fun prog w A R s h => by
    obtain ⟨hp, g, d, tk, os⟩ := s; obtain ⟨h1, h⟩ := h
    have hsub := sub_enumerate
    have q1 : ∀ {A' : Around} {E : Value → Shared → Prop} {Q : Value → Shared → Prop}, Q (.ref hp.objs.size) ⟨hp.push o, g, d, tk, os⟩ → wpAny (model prog w) A' (pyIter v) Q E ⟨hp, g, d, tk, os⟩ :=
      fun q => B.iter prog w _ _ ⟨hp, g, d, tk, os⟩ _ h1 q
    wp_walk using q1
    refine wpAny_stack_any fun st => wpAny_pure ?_
    split
    · rename_i c _ _ _ _ _
      cases (c == Value.type "enumerate")
      · wp_walk using q1
        exact ⟨_, rfl, h⟩
      · wp_walk using q1
        exact ⟨_, rfl, h⟩
    · wp_walk using q1
      exact ⟨_, rfl, h⟩
theorem enum1_begins {prog : Program} {w : World} {A : Around} {E : Value → Shared → Prop} {s : Shared} {v : Value} {o : Obj} {H : Heap → Prop} {Q : Value → Shared → Prop} (B : Begins v o H) (h1 : H s.heap)
    (h : ∀ h', IsEnum h' (s.heap.objs.size + 1) s.heap.objs.size 0 .none → h'.get? s.heap.objs.size = some o → h'.objs.size = s.heap.objs.size + 2 →
      (∀ b o, s.heap.get? b = some o → h'.get? b = some o) → Q (.ref (s.heap.objs.size + 1)) { s with heap := h' }) :
    wpAny (model prog w) A (call (.type "enumerate") [v]) Q E s := by
  refine callType_new F.called_enumerate (by decide) (F.typeCall_enumerate_1 _) (F.newCall_enumerate_1 _) (fun obj => F.args_object_init_2 obj _) F.entry_enumerate_new
    (meets_enum1 B) ⟨h1, ?_⟩
  have hz : (s.heap.push o).objs.size = s.heap.objs.size + 1 := Heap.size_push ..
  show _ ∧ _
  rw [hz]
  have he : IsEnum ((s.heap.push o).push { cls := .type "enumerate", data := .fields #[.none, .bool false, .ref s.heap.objs.size, rawInt 0, .none, .none] }) (s.heap.objs.size + 1) s.heap.objs.size 0 .none := by
    have := Heap.get?_push_size (s.heap.push o) (o := { cls := .type "enumerate", data := .fields #[.none, .bool false, .ref s.heap.objs.size, rawInt 0, .none, .none] }) rfl
    rw [hz] at this; exact this
  refine ⟨⟨_, he, rfl⟩, h _ he (Heap.get?_push_of_some _ (Heap.get?_push_size _ B.free)) (by rw [Heap.size_push, hz]) fun b o x => Heap.get?_push_of_some _ (Heap.get?_push_of_some _ x)⟩
def IteK (K : PySem.W.Frag) (k : Bool) (a : Addr) : It :=
  ⟨fun i H => ∃ (xs : List V) (x : V), SqK K H k a xs ∧ xs[i]? = some x, fun i H v H' => ∃ T x, v = .ref T ∧ H T = none ∧ H' = upd H T (.tup [.int (i : Nat), x]) ∧ ∀ xs, SqK K H k a xs → xs[i]? = some x, fun i H => ∃ xs : List V, SqK K H k a xs ∧ xs.length ≤ i⟩
theorem turn_enumK {P : Program} {w : World} {K : PySem.W.Frag} {elts : List Expr} {kk : Nat} {tpos : Pos} (k : Bool) (a e it : Addr) (hae : a ≠ e) (hai : a ≠ it) :
    Turn P w K (.Tuple elts kk tpos) (IteK K k a) [e, it] e (fun i h => (∃ old, IsEnum h e it ((i : Nat) : Int) old) ∧ IterAt k h it a i ∧ e ≠ it) where
  mem := by simp
  obj := fun i h st b hb => by
    obtain ⟨⟨old, he⟩, hit, _⟩ := st
    have e' : b = e ∨ b = it := by simpa using hb
    rcases e' with z | z
    · rw [z]; exact ⟨_, he, fun v q => nomatch q⟩
    · rw [z]; exact hit.obj
  keep := fun i h h' st kp => let ⟨⟨old, he⟩, hi, hne⟩ := st; ⟨⟨old, kp e (by simp) _ he⟩, hi.keep fun o q => kp it (by simp) o q, hne⟩
  item := by
    intro X hP hw hK hc i pins s σ H E I hf st hg
    subst hP hw hK
    obtain ⟨⟨old, he⟩, hit, hne⟩ := st
    obtain ⟨xs, x, hq, hx⟩ := hg
    obtain ⟨its, rv, p, hal⟩ := seq_k I hq
    obtain ⟨u, hu, ru⟩ := rv.get hx
    have hel : e < s.heap.objs.size := Heap.lt_size he
    have hil : it < s.heap.objs.size := by obtain ⟨o, q, _⟩ := hit.obj; exact Heap.lt_size q
    have hh : X.A.in1.handled = none := I.ok.hd hc
    have D := draws_k (prog := X.prog) (w := X.w) hh k it a hai its.toArray
    have hlt : i < its.toArray.size := by
      have := (List.getElem?_eq_some_iff.mp hu).1
      simpa using this
    refine wpAny_pyNext_enum_itemD D he ⟨hit, p⟩ hlt hne (by simp [hne, hae.symm]) fun u' h' tk hu' ho hit' hT hsz hk => ?_
    have eu : u' = u := by
      have q1 : its[i]? = some u' := by simpa using hu'
      rw [hu] at q1; exact (Option.some.inj q1).symm
    subst eu
    refine ⟨_, rfl, wpAny_letOwnedTupleGo_enum (s := { s with heap := h', toks := tk + 1 }) ho fun h'' he' sb => ?_⟩
    have hT2 : h''.get? s.heap.objs.size = some { cls := .type "tuple", data := .seq #[.int i tk, u'] } := (sb.2 _ (Nat.ne_of_gt hel)).trans hT
    have new : ObjOk X.prog X.w (upd H s.heap.objs.size (.tup [.int (i : Nat), x])) h'' s.heap.objs.size (.tup [.int (i : Nat), x]) :=
      ⟨by show 2 ≤ sizeLine; decide, [.int i tk, u'], .cons ⟨_, rfl⟩ (.cons ru .nil), ⟨_, hT2, rfl, _, rfl⟩⟩
    have I1 : Inv X pins σ (upd H s.heap.objs.size (.tup [.int (i : Nat), x])) { s with heap := h'', toks := tk + 1 } :=
      I.turnedNew (ch := [e, it]) (fun b ob hb q => (sb.2 b (fun z => hb (by simp [z]))).trans (hk b ob (fun z => hb (by simp [z])) (fun z => hb (by simp [z])) q)) hf (Nat.le_refl _) new
    refine ⟨.ref s.heap.objs.size, _, I1, rfl, ⟨_, x, rfl, I.hok.fresh (Nat.le_refl _), rfl, fun ys hy => by rw [seq_inj I hy hq]; exact hx⟩, ⟨⟨u', ?_⟩, hit'.1.keep fun o q => (sb.2 it (Ne.symm hne)).trans q, hne⟩, fun b hb => ?_⟩
    · have e1 : ((i + 1 : Nat) : Int) = (i : Int) + 1 := by omega
      rw [e1]; exact he'
    · have hb' : b < s.heap.objs.size := by
        have e' : b = e ∨ b = it := by simpa using hb
        rcases e' with z | z
        · rw [z]; exact hel
        · rw [z]; exact hil
      rw [upd_ne (Nat.ne_of_lt hb')]
      exact (hf b hb).1
  done := by
    intro X hP hw hK hc i pins s σ H E I hf st hg
    subst hP hw hK
    obtain ⟨⟨old, he⟩, hit, hne⟩ := st
    obtain ⟨xs, hq, hx⟩ := hg
    obtain ⟨its, rv, p, hal⟩ := seq_k I hq
    obtain ⟨f0, f1, f2, f3, f4, f5⟩ := hf it (by simp)
    have hl := rv.length
    exact enum_endK (I.ok.hd hc) he hit p (by simp; omega) fun h' eb => ⟨rfl, I.turned (t' := s.toks) (fun b o hb q => eb b o hb q) f0 f1 f3 f4 f5⟩
  self := fun A i s Q E st h => let ⟨⟨_, he⟩, _⟩ := st; wpAny_pyIter_enum he h
def iEnumK (K : PySem.W.Frag) (ta : TA) : TI := fun σ H R => ta σ H fun vs H1 => ∃ a xs k, vs = [.ref a] ∧ SqK K H1 k a xs ∧ R (IteK K k a) H1
theorem pi_enumK {X : Cx} {e : Expr} {ta : TA} {p pos tpos : Pos} {elts : List Expr} {kk : Nat} (hg : Gl X "enumerate") (hm : X.mg "enumerate" = none) (ha : PA X [e] ta) (hs : starEach [e] X.env = [(false, eval e X.env)] := by kernel_rfl) :
    PI X (.Tuple elts kk tpos) (.Call (.Name "enumerate" p) [e] [] pos) (iEnumK X.K ta) := by
  refine ⟨fun pins s σ H R I h => ?_⟩
  refine Call_ (ld_blt I hg hm boot_enumerate (PyProof.Rows.callWith_type1 (thn (ha.run pos pins s σ H _ I h) fun us s1 ⟨vs, H1, I1, r1, q1⟩ => ?_) hs rfl))
  obtain ⟨a, xs, k, ex, hq, q⟩ := q1
  subst ex
  cases r1 with
  | cons r rr =>
    cases rr
    cases r
    obtain ⟨its, rv, p', hal⟩ := seq_k I1 hq
    refine enum1_begins (begins_k k a its.toArray) p' fun h' he hit hsz hk => wpAny_pyIter_enum he ?_
    have I2 : Inv X pins σ H1 { s1 with heap := h' } := I1.kept (t' := s1.toks) hk
    refine ⟨s1.heap.objs.size + 1, [s1.heap.objs.size + 1, s1.heap.objs.size], _, _, H1, rfl, I2, turn_enumK k a (s1.heap.objs.size + 1) s1.heap.objs.size (Nat.ne_of_lt (Nat.lt_succ_of_lt hal)) (Nat.ne_of_lt hal), ⟨⟨.none, he⟩, IterAt.zero hit, Nat.succ_ne_self _⟩, fun b hb => ?_, q⟩
    have e' : b = s1.heap.objs.size + 1 ∨ b = s1.heap.objs.size := by simpa using hb
    have hle : s1.heap.objs.size ≤ b := by
      rcases e' with z | z
      · rw [z]; exact Nat.le_add_right _ _
      · rw [z]; exact Nat.le_refl _
    exact I1.fpOk hle (I1.hok.fresh hle)
/-! zip -/
def ItzK (K : PySem.W.Frag) (k j : Bool) (a b : Addr) : It :=
  ⟨fun i H => ∃ (xs ys : List V) (x y : V), SqK K H k a xs ∧ SqK K H j b ys ∧ xs[i]? = some x ∧ ys[i]? = some y,
    fun i H v H' => ∃ T x y, v = .ref T ∧ H T = none ∧ H' = upd H T (.tup [x, y]) ∧ (∀ xs, SqK K H k a xs → xs[i]? = some x) ∧ ∀ ys, SqK K H j b ys → ys[i]? = some y,
    fun i H => ∃ xs ys : List V, SqK K H k a xs ∧ SqK K H j b ys ∧ (xs.length ≤ i ∨ ys.length ≤ i)⟩
theorem turn_zipK {P : Program} {w : World} {K : PySem.W.Frag} {elts : List Expr} {kk : Nat} {tpos : Pos} {k j : Bool} {a b z TI TO i1 i2 : Addr} (D : ZipSep2 z TI TO i1 i2 [i1, a] [i2, b]) (n1 : a ≠ i1) (n2 : b ≠ i2) :
    Turn P w K (.Tuple elts kk tpos) (ItzK K k j a b) [z, TI, TO, i1, i2] z (fun i h => IsZip h z TI TO .none ∧ IsTupOf2 h TI (.ref i1) (.ref i2) ∧ (∃ x y, IsTupOf2 h TO x y) ∧ IterAt k h i1 a i ∧ IterAt j h i2 b i) where
  mem := by simp
  obj := fun i h st c hc => by
    obtain ⟨hz, hTI, ⟨x, y, hTO⟩, h1, h2⟩ := st
    have e' : c = z ∨ c = TI ∨ c = TO ∨ c = i1 ∨ c = i2 := by simpa using hc
    rcases e' with q | q | q | q | q
    · rw [q]; exact ⟨_, hz, fun v q => nomatch q⟩
    · rw [q]; exact ⟨_, hTI, fun v q => nomatch q⟩
    · rw [q]; exact ⟨_, hTO, fun v q => nomatch q⟩
    · rw [q]; exact h1.obj
    · rw [q]; exact h2.obj
  keep := fun i h h' st kp => by
    obtain ⟨hz, hTI, ⟨x, y, hTO⟩, h1, h2⟩ := st
    exact ⟨kp z (by simp) _ hz, kp TI (by simp) _ hTI, ⟨x, y, kp TO (by simp) _ hTO⟩, h1.keep fun o q => kp i1 (by simp) o q, h2.keep fun o q => kp i2 (by simp) o q⟩
  item := by
    intro X hP hw hK hc i pins s σ H E I hf st hg
    subst hP hw hK
    obtain ⟨hz, hTI, ⟨x0, y0, hTO⟩, h1, h2⟩ := st
    obtain ⟨xs, ys, x, y, hqx, hqy, hx, hy⟩ := hg
    obtain ⟨its, rv, p, hal⟩ := seq_k I hqx
    obtain ⟨its2, rv2, p2, hbl⟩ := seq_k I hqy
    obtain ⟨u, hu, ru⟩ := rv.get hx
    obtain ⟨u2, hu2, ru2⟩ := rv2.get hy
    have hzl : z < s.heap.objs.size := Heap.lt_size hz
    have hh : X.A.in1.handled = none := I.ok.hd hc
    have D1 := draws_k (prog := X.prog) (w := X.w) hh k i1 a n1 its.toArray
    have D2 := draws_k (prog := X.prog) (w := X.w) hh j i2 b n2 its2.toArray
    have l1 : i < its.toArray.size := by have := (List.getElem?_eq_some_iff.mp hu).1; simpa using this
    have l2 : i < its2.toArray.size := by have := (List.getElem?_eq_some_iff.mp hu2).1; simpa using this
    refine wpAny_pyNext_zipD2_item D D1 D2 hz hTI hTO ⟨h1, p⟩ ⟨h2, p2⟩ l1 l2 fun w1 w2 h' tk e1 e2 z' TO' s1' s2' hT hsz hk => ?_
    have q1 : w1 = u := by
      have q1 : its[i]? = some w1 := by simpa using e1
      rw [hu] at q1; exact (Option.some.inj q1).symm
    have q2 : w2 = u2 := by
      have q2 : its2[i]? = some w2 := by simpa using e2
      rw [hu2] at q2; exact (Option.some.inj q2).symm
    subst q1; subst q2
    refine ⟨_, rfl, wpAny_letOwnedTupleGo_zip (s := { s with heap := h', toks := tk }) z' fun h'' z'' sb => ?_⟩
    have hT2 : h''.get? s.heap.objs.size = some { cls := .type "tuple", data := .seq #[w1, w2] } := (sb.2 _ (Nat.ne_of_gt hzl)).trans hT
    have new : ObjOk X.prog X.w (upd H s.heap.objs.size (.tup [x, y])) h'' s.heap.objs.size (.tup [x, y]) :=
      ⟨by show 2 ≤ sizeLine; decide, [w1, w2], .cons ru (.cons ru2 .nil), ⟨_, hT2, rfl, _, rfl⟩⟩
    have I1 : Inv X pins σ (upd H s.heap.objs.size (.tup [x, y])) { s with heap := h'', toks := tk } :=
      I.turnedNew (t' := tk) (ch := [z, TI, TO, i1, i2]) (fun c o hb q => (sb.2 c (fun q' => hb (by simp [q']))).trans (hk c o (fun q' => hb (by simp [q'])) (fun q' => hb (by simp [q'])) (fun q' => hb (by simp [q'])) (fun q' => hb (by simp [q'])) q)) hf (Nat.le_refl _) new
    refine ⟨.ref s.heap.objs.size, _, I1, rfl, ⟨_, x, y, rfl, I.hok.fresh (Nat.le_refl _), rfl, fun l hl => by rw [seq_inj I hl hqx]; exact hx, fun l hl => by rw [seq_inj I hl hqy]; exact hy⟩, ⟨z'', ?_, ⟨w1, w2, ?_⟩, ?_, ?_⟩, fun c hcm => ?_⟩
    · exact (sb.2 _ D.TIz).trans (hk _ _ D.TIz D.TITO D.TIi1 D.TIi2 hTI)
    · exact (sb.2 _ D.TOz).trans TO'
    · exact s1'.1.keep fun o q => (sb.2 _ D.zi1.symm).trans q
    · exact s2'.1.keep fun o q => (sb.2 _ D.zi2.symm).trans q
    · have hlt : c < s.heap.objs.size := by
        have e' : c = z ∨ c = TI ∨ c = TO ∨ c = i1 ∨ c = i2 := by simpa using hcm
        rcases e' with q | q | q | q | q
        · rw [q]; exact hzl
        · rw [q]; exact Heap.lt_size hTI
        · rw [q]; exact Heap.lt_size hTO
        · rw [q]; obtain ⟨o, e1, _⟩ := h1.obj; exact Heap.lt_size e1
        · rw [q]; obtain ⟨o, e2, _⟩ := h2.obj; exact Heap.lt_size e2
      rw [upd_ne (Nat.ne_of_lt hlt)]
      exact (hf c hcm).1
  done := by
    intro X hP hw hK hc i pins s σ H E I hf st hg
    subst hP hw hK
    obtain ⟨hz, hTI, ⟨x0, y0, hTO⟩, h1, h2⟩ := st
    obtain ⟨xs, ys, hqx, hqy, hend⟩ := hg
    obtain ⟨its, rv, p, hal⟩ := seq_k I hqx
    obtain ⟨its2, rv2, p2, hbl⟩ := seq_k I hqy
    have l1 := rv.length
    have l2 := rv2.length
    have hh : X.A.in1.handled = none := I.ok.hd hc
    have fin : ∀ h' tk, (∀ c o, c ≠ z → c ≠ TO → c ≠ i1 → c ≠ i2 → s.heap.get? c = some o → h'.get? c = some o) → (none : Option Value) = none ∧ Inv X pins σ H { s with heap := h', toks := tk } := fun h' tk hk => ⟨rfl, I.turnedL (t' := tk) (ch := [z, TI, TO, i1, i2]) (fun c o hb q =>
      hk c o (fun q' => hb (by simp [q'])) (fun q' => hb (by simp [q'])) (fun q' => hb (by simp [q'])) (fun q' => hb (by simp [q'])) q) hf⟩
    have E1 : its.toArray[i]? = none → Draws X.prog X.w X.A.in1 i1 [i1, a] i (fun _ _ => False) (fun t h => t = i ∧ IterAt k h i1 a t ∧ SeqAt k h a its.toArray) := draws_end hh k i1 a n1 its.toArray
    have E2 : its2.toArray[i]? = none → Draws X.prog X.w X.A.in1 i2 [i2, b] i (fun _ _ => False) (fun t h => t = i ∧ IterAt j h i2 b t ∧ SeqAt j h b its2.toArray) := draws_end hh j i2 b n2 its2.toArray
    by_cases c1 : xs.length ≤ i
    · have D1 := E1 (by simp; omega)
      by_cases c2 : ys.length ≤ i
      · have D2 := E2 (by simp; omega)
        exact wpAny_pyNext_zipD2_end D D1 D2 hz hTI hTO ⟨rfl, h1, p⟩ ⟨rfl, h2, p2⟩ (Nat.le_refl _) (Nat.le_refl _) (.inl rfl) fun h' tk hk => fin h' tk hk
      · have D2 := draws_k (prog := X.prog) (w := X.w) hh j i2 b n2 its2.toArray
        exact wpAny_pyNext_zipD2_end D D1 D2 hz hTI hTO ⟨rfl, h1, p⟩ ⟨h2, p2⟩ (Nat.le_refl _) (by simp; omega) (.inl rfl) fun h' tk hk => fin h' tk hk
    · have D1 := draws_k (prog := X.prog) (w := X.w) hh k i1 a n1 its.toArray
      have D2 := E2 (by simp; omega)
      exact wpAny_pyNext_zipD2_end D D1 D2 hz hTI hTO ⟨h1, p⟩ ⟨rfl, h2, p2⟩ (by simp; omega) (Nat.le_refl _) (.inr rfl) fun h' tk hk => fin h' tk hk
  self := fun A i s Q E st h => wpAny_pyIter_zip st.1 h
def iZipK (K : PySem.W.Frag) (ta : TA) : TI := fun σ H R => ta σ H fun vs H1 => ∃ a b xs ys k j, vs = [.ref a, .ref b] ∧ SqK K H1 k a xs ∧ SqK K H1 j b ys ∧ R (ItzK K k j a b) H1
theorem pi_zipK {X : Cx} {e e2 : Expr} {ta : TA} {p pos tpos : Pos} {elts : List Expr} {kk : Nat} (hg : Gl X "zip") (hm : X.mg "zip" = none) (ha : PA X [e, e2] ta)
    (hs : starEach [e, e2] X.env = (false, eval e X.env) :: starEach [e2] X.env := by kernel_rfl) (hpl : (backTo pos (starEach [e2] X.env)).any (·.1) = false := by kernel_rfl) :
    PI X (.Tuple elts kk tpos) (.Call (.Name "zip" p) [e, e2] [] pos) (iZipK X.K ta) := by
  refine ⟨fun pins s σ H R I h => ?_⟩
  refine Call_ (ld_blt I hg hm PyProof.Rows.boot_zip (PyProof.Rows.callWith_type1 (thn (ha.run pos pins s σ H _ I h) fun us s1 ⟨vs, H1, I1, r1, q1⟩ => ?_) hs hpl))
  obtain ⟨a, b, xs, ys, k, j, ex, hqx, hqy, q⟩ := q1
  subst ex
  cases r1 with
  | cons r rr =>
    cases rr with
    | cons r' rr =>
      cases rr
      cases r
      cases r'
      have fresh5 : ∀ c, c ∈ [s1.heap.objs.size + 4, s1.heap.objs.size + 2, s1.heap.objs.size + 3, s1.heap.objs.size, s1.heap.objs.size + 1] → FpOk X pins H1 c := fun c hcm => by
        have e' : c = s1.heap.objs.size + 4 ∨ c = s1.heap.objs.size + 2 ∨ c = s1.heap.objs.size + 3 ∨ c = s1.heap.objs.size ∨ c = s1.heap.objs.size + 1 := by simpa using hcm
        have hle : s1.heap.objs.size ≤ c := by
          rcases e' with z | z | z | z | z
          · rw [z]; exact Nat.le_add_right _ _
          · rw [z]; exact Nat.le_add_right _ _
          · rw [z]; exact Nat.le_add_right _ _
          · rw [z]; exact Nat.le_refl _
          · rw [z]; exact Nat.le_add_right _ _
        exact I1.fpOk hle (I1.hok.fresh hle)
      obtain ⟨its, rv, p1, hal⟩ := seq_k I1 hqx
      obtain ⟨its2, rv2, p2, hbl⟩ := seq_k I1 hqy
      refine zip_begins2 (begins_k k a its.toArray) (begins_k j b its2.toArray) p1 p2 fun h' hz hTI hTO h1 h2 hsz hk => wpAny_pyIter_zip hz ?_
      have I2 : Inv X pins σ H1 { s1 with heap := h' } := I1.kept (t' := s1.toks) hk
      have sep : ZipSep2 (s1.heap.objs.size + 4) (s1.heap.objs.size + 2) (s1.heap.objs.size + 3) s1.heap.objs.size (s1.heap.objs.size + 1) [s1.heap.objs.size, a] [s1.heap.objs.size + 1, b] :=
        zip_sep2 (N := s1.heap.objs.size) (fp1 := [a]) (fp2 := [b]) (fun c hc => by cases List.mem_singleton.mp hc; exact hal) (fun c hc => by cases List.mem_singleton.mp hc; exact hbl)
      exact ⟨s1.heap.objs.size + 4, [s1.heap.objs.size + 4, s1.heap.objs.size + 2, s1.heap.objs.size + 3, s1.heap.objs.size, s1.heap.objs.size + 1], _, _, H1, rfl, I2, turn_zipK sep (Nat.ne_of_lt hal) (Nat.ne_of_lt (Nat.lt_succ_of_lt hbl)), ⟨hz, hTI, ⟨_, _, hTO⟩, IterAt.zero h1, IterAt.zero h2⟩, fresh5, q⟩
/-! over the value layer -/
def Src (K : PySem.W.Frag) (Z : ZT) (k : Bool) (a : Addr) (l : List MV) (kp : List (Addr × List MV)) (H0 : Hp) : Prop :=
  ∀ S H, TK K H0 H → RS K Z S H → keepOk kp S → ∃ xs, SqK K H k a xs ∧ RMs K H l xs
/-- what is walked: its items, and what must stay -/
def seqI (S : Sto) : MV → Option (List MV × List (Addr × List MV))
  | .tup l => some (l, [])
  | .ref a => (lookL S a).map fun l => (l, [(a, l)])
  | .frz l => some (l, [])
  | _ => none
section
variable {K : PySem.W.Frag} {Z : ZT}
theorem src_of {S : Sto} {H : Hp} {m : MV} {v : V} {l : List MV} {kp : List (Addr × List MV)} (hS : RS K Z S H) (r : RM K H m v) (e : seqI S m = some (l, kp)) : ∃ a xs k, v = .ref a ∧ SqK K H k a xs ∧ Src K Z k a l kp H := by
  cases m with
  | tup l' =>
    cases e
    unfold RM at r
    obtain ⟨a, xs, ev, sq, rs⟩ := r
    exact ⟨a, xs, false, ev, sq, fun S' H' t _ _ => ⟨xs, t.tup _ _ sq, RMs.monoT t _ rs⟩⟩
  | ref a =>
    have e : Option.map (fun l => (l, [(a, l)])) (lookL S a) = some (l, kp) := e
    unfold RM at r
    cases el : lookL S a with
    | none => rw [el] at e; cases e
    | some l' =>
      rw [el] at e
      cases e
      obtain ⟨xs, g1, g2⟩ := look_sq hS el
      exact ⟨a, xs, true, r, g1, fun S' H' t s' k' => look_sq s' (k' (a, l) (by simp))⟩
  | frz l' =>
    cases e
    unfold RM at r
    obtain ⟨a, xs, ev, sq, rs⟩ := r
    exact ⟨a, xs, true, ev, sq.sq, fun S' H' t _ _ => ⟨xs, (t.frz _ _ sq).sq, RMs.monoT t _ rs⟩⟩
  | _ => cases e
theorem ji_enumK {k : Bool} {a : Addr} {l : List MV} {kp : List (Addr × List MV)} {H0 : Hp} (src : Src K Z k a l kp H0) : JI K Z (IteK K k a) ⟨enumM 0 l, kp⟩ H0 := fun i S H t hS hk => by
  obtain ⟨xs, g1, g2⟩ := src S H t hS hk
  refine ⟨fun w hw => ?_, fun hl => ?_⟩
  · obtain ⟨v, hv, ew⟩ := enumM_get 0 l i w hw
    obtain ⟨x, h1, h2⟩ := g2.get hv
    refine ⟨⟨xs, x, g1, h1⟩, fun y H' ⟨T, x', ey, nT, eH, hy⟩ => ?_⟩
    have := hy xs g1
    rw [h1] at this; cases this
    subst eH
    have g : GK K S H S (upd H T (.tup [.int (i : Nat), x])) := GK.hid nT
    refine ⟨g, hS.hid nT, ?_⟩
    rw [ew, Nat.zero_add]
    unfold RM
    exact ⟨T, _, ey, .inl (.inl upd_same), RMs.cons (by unfold RM; rfl) (RMs.cons (h2.mono g) RMs.nil)⟩
  · rw [enumM_length] at hl
    exact ⟨xs, g1, by rw [g2.length]; exact hl⟩
theorem ji_zipK {k j : Bool} {a b : Addr} {l m : List MV} {k1 k2 : List (Addr × List MV)} {H0 : Hp} (s1 : Src K Z k a l k1 H0) (s2 : Src K Z j b m k2 H0) : JI K Z (ItzK K k j a b) ⟨zipM l m, k1 ++ k2⟩ H0 := fun i S H t hS hk => by
  obtain ⟨xs, g1, g2⟩ := s1 S H t hS (fun p hp => hk p (List.mem_append_left _ hp))
  obtain ⟨ys, g3, g4⟩ := s2 S H t hS (fun p hp => hk p (List.mem_append_right _ hp))
  refine ⟨fun w hw => ?_, fun hl => ?_⟩
  · obtain ⟨u, v, hu, hv, ew⟩ := zipM_get hw
    obtain ⟨x, h1, h2⟩ := g2.get hu
    obtain ⟨y, h3, h4⟩ := g4.get hv
    refine ⟨⟨xs, ys, x, y, g1, g3, h1, h3⟩, fun z H' ⟨T, x', y', ez, nT, eH, hx, hy⟩ => ?_⟩
    have q1 := hx xs g1
    have q2 := hy ys g3
    rw [h1] at q1; cases q1
    rw [h3] at q2; cases q2
    subst eH; subst ez; subst ew
    exact pair_rel hS nT h2 h4
  · rw [zipM_length] at hl
    have hl : min l.length m.length ≤ i := hl
    exact ⟨xs, ys, g1, g3, by rw [g2.length, g4.length]; omega⟩
end
def mEnum (ms : MA) : MI := fun ρ S R => ms ρ S fun vs S1 => match vs with
  | [x] => (match seqI S1 x with
    | some (l, kp) => R ⟨enumM 0 l, kp⟩ S1
    | none => False)
  | _ => False
def mZip (ms : MA) : MI := fun ρ S R => ms ρ S fun vs S1 => match vs with
  | [x, y] => (match seqI S1 x, seqI S1 y with
    | some (l, k1), some (m, k2) => R ⟨zipM l m, k1 ++ k2⟩ S1
    | _, _ => False)
  | _ => False
section
variable {X : Cx} {Z : ZT} {a b : Expr} {m : ME} {mas : MA} {elts : List Expr} {kk : Nat} {tpos : Pos}
theorem ei_enum {p pos : Pos} (hg : Gl X "enumerate") (hm : X.mg "enumerate" = none) (ha : EA X Z [a] mas) (hs : starEach [a] X.env = [(false, eval a X.env)] := by kernel_rfl) : EI X Z (.Tuple elts kk tpos) (.Call (.Name "enumerate" p) [a] [] pos) (mEnum mas) :=
  ⟨_, pi_enumK hg hm ha.pa hs, fun σ H ρ S R R' hE hS hm hQ => by
    refine ⟨ρ, S, _, hE, hS, hm, fun vs H1 ⟨ms, S1, t1, r1, s1, q1⟩ => ?_⟩
    dsimp only at q1
    split at q1
    · rename_i x
      obtain ⟨v, rfl, r⟩ := rms1 r1
      split at q1
      · rename_i l kp e
        obtain ⟨a, xs, k, ev, sq, src⟩ := src_of s1 r e
        exact ⟨a, xs, k, by rw [ev], sq, hQ _ _ ⟨_, S1, t1, s1, ji_enumK src, q1⟩⟩
      · exact q1.elim
    · exact q1.elim⟩
theorem ei_zip {p pos : Pos} (hg : Gl X "zip") (hm : X.mg "zip" = none) (ha : EA X Z [a, b] mas) (hs : starEach [a, b] X.env = (false, eval a X.env) :: starEach [b] X.env := by kernel_rfl) (hpl : (backTo pos (starEach [b] X.env)).any (·.1) = false := by kernel_rfl) :
    EI X Z (.Tuple elts kk tpos) (.Call (.Name "zip" p) [a, b] [] pos) (mZip mas) :=
  ⟨_, pi_zipK hg hm ha.pa hs hpl, fun σ H ρ S R R' hE hS hm hQ => by
    refine ⟨ρ, S, _, hE, hS, hm, fun vs H1 ⟨ms, S1, t1, r1, s1, q1⟩ => ?_⟩
    dsimp only at q1
    split at q1
    · rename_i x y
      obtain ⟨v, u, rfl, r, r2⟩ := rms2 r1
      split at q1
      · rename_i l k1 n k2 e1 e2
        obtain ⟨a, xs, k, ev, sq, src⟩ := src_of s1 r e1
        obtain ⟨b, ys, j, eu, sq2, src2⟩ := src_of s1 r2 e2
        subst ev; subst eu
        exact ⟨a, b, xs, ys, k, j, rfl, sq, sq2, hQ _ _ ⟨_, S1, t1, s1, ji_zipK src src2, q1⟩⟩
      · exact q1.elim
    · exact q1.elim⟩
end
end Mv

set_option Elab.async false
set_option linter.all false
set_option maxRecDepth 100000
set_option maxHeartbeats 4000000
/-! all(number_test(x, lo, hi) for x in xs): the test walked wherever it is called; the generator over a list or a tuple; the call of all. -/
namespace An
open PySem PySem.Spec PyProof.Rows L2 Mv
/-- a number or a bool -/
def numB (v : MV) (a b : Int) : Bool := match v with
  | .int i => decide (a ≤ i) && decide (i ≤ b)
  | _ => false
def NumV : MV → Prop
  | .int _ => True
  | .bl _ => True
  | _ => False
def NumU (v : MV) (u : Value) : Prop := match v with
  | .int i => ∃ t, u = .int i t
  | .bl b => u = .bool b
  | _ => False
/-- the body, but for its places -/
structure NumBody (body : List Stmt) (x lo hi : Str) : Prop where
  sh : ∃ (p4 p5 p6 p7 p8 p9 q1 q2 q3 q4 q5 q6 q7 q8 q9 : Pos),
    body = [.Return (some (.BoolOp .And
      [.Call (.Name "isinstance" p4) [.Name x p5, .Name "int" p6] [] p7,
       .UnaryOp .Not (.Call (.Name "isinstance" p8) [.Name x p9, .Name "bool" q1] [] q2) q3,
       .Compare (.Name lo q4) [.LtE, .LtE] [.Name x q5, .Name hi q6] q7] q8)) q9]
section
variable {prog : Program} {w : World} {A : Around} {env : PySem.Env} {mg mb m : Str → Option Value}
/-- what the frame's names give -/
structure Fr3 (env : PySem.Env) (mg m : Str → Option Value) (x lo hi : Str) (h : Heap) (mb : Str → Option Value) : Prop where
  kind : env.scope.kind = .function
  kx : env.kindOf x = some .local
  klo : env.kindOf lo = some .local
  khi : env.kindOf hi = some .local
  ki : env.kindOf "isinstance" = some .globalImplicit
  kint : env.kindOf "int" = some .globalImplicit
  kbool : env.kindOf "bool" = some .globalImplicit
  ns : h.Ns env.locals m
  g : h.Ns env.globals mg
  b : h.Ns env.builtins mb
  mi : mg "isinstance" = none
  mint : mg "int" = none
  mbool : mg "bool" = none
  bi : mb "isinstance" = some (.builtin "isinstance")
  bint : mb "int" = some (.type "int")
  bbool : mb "bool" = some (.type "bool")
  dx : (x == ("__debug__" : Str)) = false
  dlo : (lo == ("__debug__" : Str)) = false
  dhi : (hi == ("__debug__" : Str)) = false
theorem ev_isi {x lo hi y : Str} {s : Shared} {p4 p5 p6 p7 : Pos} {u : Value} {T : String} {Q E : Value → Shared → Prop} (F : Fr3 env mg m x lo hi s.heap mb) (hu : m x = some u) (ky : env.kindOf y = some .globalImplicit) (my : mg y = none) (by_ : mb y = some (.type T)) (dy : (y == ("__debug__" : Str)) = false)
    (h : wpAny (model prog w) A (call (.builtin "isinstance") [u, .type T]) Q E s) : wpAny (model prog w) A (eval (.Call (.Name "isinstance" p4) [.Name x p5, .Name y p6] [] p7) env) Q E s := by
  refine wpAny_Call_Name_kw (Calls.Name_function_global F.kind F.ki (Calls.loadGlobal_builtin F.g F.mi F.b F.bi ?_))
  refine PyProof.Rows.callWith_builtin1 (e := .Name x p5) (rest := [.Name y p6]) ?_ rfl rfl
  show wpAny _ _ (spliced ((false, eval (.Name x p5) env) :: (false, eval (.Name y p6) env) :: [])) _ _ s
  refine Calls.spliced_cons (wpAny_Name (wpAny_loadName_local F.kind F.kx F.ns hu ?_) F.dx)
  refine Calls.spliced_cons (Calls.Name_function_global F.kind ky (Calls.loadGlobal_builtin F.g my F.b by_ ?_) dy)
  exact Calls.spliced_nil h
theorem run_num {body : List Stmt} {x lo hi : Str} {s : Shared} {v : MV} {u : Value} {a b : Int} {ta tb : Tok} {Q : Flow → Shared → Prop} {E : Value → Shared → Prop} (B : NumBody body x lo hi) (F : Fr3 env mg m x lo hi s.heap mb) (hu : m x = some u) (hv : NumU v u) (hlo : m lo = some (.int a ta)) (hhi : m hi = some (.int b tb))
    (hint : interactive env = false)
    (h : ∀ tk, Q (.ret (.bool (numB v a b))) { s with toks := tk }) : wpAny (model prog w) A (execs body env) Q E s := by
  obtain ⟨p4, p5, p6, p7, p8, p9, q1, q2, q3, q4, q5, q6, q7, q8, q9, rfl⟩ := B.sh
  have F1 : ∀ tk, Fr3 env mg m x lo hi ({ s with toks := tk } : Shared).heap mb := fun tk => F
  have Fn : ∀ tk, (∀ c : Bool, Q (.ret (.bool c)) { s with toks := tk } → True) := fun _ _ _ => trivial
  refine wpAny_execs_cons (wpAny_Return_some ?_)
  refine BoolOp_and (ev_isi (F1 _) hu F.kint F.mint F.bint (by decide) ?_)
  cases v with
  | int i =>
    obtain ⟨t, rfl⟩ := (show ∃ t, u = .int i t from hv)
    refine IsiPair.int_int (wpAny_truthy_bool (ite_tt ?_))
    refine BoolOp_and (UnaryOp_ (ev_isi (F1 _) hu F.kbool F.mbool F.bbool (by decide) ?_))
    refine IsiPair.int_bool (not_of (wpAny_truthy_bool (wpAny_truthy_bool (ite_tt ?_))))
    refine BoolOp_one (Compare_chain (wpAny_Name (wpAny_loadName_local F.kind F.klo F.ns hlo ?_) F.dlo))
    refine chain_link (wpAny_Name (wpAny_loadName_local F.kind F.kx F.ns hu ?_) F.dx)
    refine PySem.P.le_int (wpAny_truthy_bool ?_)
    by_cases c : a ≤ i
    · rw [decide_eq_true c]
      refine ite_tt (chain_last (wpAny_Name (wpAny_loadName_local F.kind F.khi F.ns hhi ?_) F.dhi))
      refine PySem.P.le_int ?_
      have e : numB (.int i) a b = decide (i ≤ b) := by unfold numB; simp [c]
      rw [← e]
      exact h _
    · rw [decide_eq_false c]
      refine ite_ff ?_
      have e : numB (.int i) a b = false := by unfold numB; simp [c]
      rw [← e]
      exact h _
  | bl c =>
    obtain rfl := (show u = .bool c from hv)
    refine IsiPair.bool_int (wpAny_truthy_bool (ite_tt ?_))
    refine BoolOp_and (UnaryOp_ (ev_isi (F1 _) hu F.kbool F.mbool F.bbool (by decide) ?_))
    refine IsiPair.bool_bool (not_of (wpAny_truthy_bool (wpAny_truthy_bool (ite_ff ?_))))
    exact h _
  | _ => exact hv.elim
end
end An
namespace An
open PySem PySem.Spec PyProof.Rows L2 Mv
/-- the number test's names -/
structure NumSc (scope : Scope) : Prop where
  kind : scope.kind = .function
  co : scope.isCoroutine = false
  gen : scope.isGenerator = false
  cell : ∀ y ∈ scope.names, y.2 ≠ .cell
  kx : scope.names.lookup ("value" : Str) = some .local
  klo : scope.names.lookup ("least" : Str) = some .local
  khi : scope.names.lookup ("most" : Str) = some .local
  ki : scope.names.lookup ("isinstance" : Str) = some .globalImplicit
  kint : scope.names.lookup ("int" : Str) = some .globalImplicit
  kbool : scope.names.lookup ("bool" : Str) = some .globalImplicit
/-- the number test, where it stands -/
structure NumFn (K : PySem.W.Frag) (mg : Str → Option Value) (base : Heap) (f : Addr) (fd : FuncData) : Prop where
  ex : ∃ (x qual : Str) (params : Arguments) (body : List Stmt) (scope : Scope), FunD K x qual params body scope [] [] f fd ∧ NumSc scope ∧ NumBody body "value" "least" "most"
  mi : mg "isinstance" = none
  mint : mg "int" = none
  mbool : mg "bool" = none
  bind : ∀ (s : Shared) (u v t : Value), BindsTo s fd ⟨[u, v, t], []⟩ [("value", u), ("least", v), ("most", t)]
section
variable {prog : Program} {w : World} {A : Around} {K : PySem.W.Frag} {mg : Str → Option Value} {base : Heap} {f : Addr} {fd : FuncData} {s : Shared}
theorem call_num (F : NumFn K mg base f fd) (M : L2.Mod K mg base) (kb : ∀ b o, base.get? b = some o → s.heap.get? b = some o) (hroom : A.depth < recursionLimit) {v : MV} {u : Value} {a b : Int} {ta tb : Tok} (hv : NumU v u) :
    codeAny (model prog w) A (.call (.ref f) ⟨[u, .int a ta, .int b tb], []⟩) (fun r s' => r = .ok (.ret (.bool (numB v a b))) ∧ Keeps s s') s := by
  obtain ⟨x, qual, params, body, scope, FD, Sc, B⟩ := F.ex
  obtain ⟨oc, od, dV, kV, doc, pm, an, cdv, ct, osl, rfl, lk, hcd, _, _⟩ := FD.ex
  have KX : K.In s.heap := M.kin.keeps kb
  have lim : s.heap.NoLimit := M.nolimit.keeps kb
  obtain ⟨mb, hb1, hb2⟩ := M.blt
  refine codeAny_call_def hroom (KX _ _ lk) rfl lim (PySem.W.codeRec_of KX hcd) rfl (F.bind s u (.int a ta) (.int b tb)) Sc.cell (fun y hy => ?_) (fun h₀ hns hk => ?_) Sc.co Sc.gen Sc.kind
  · rcases hy with _ | ⟨_, _ | ⟨_, _ | ⟨_, hy⟩⟩⟩
    · exact Sc.kx
    · exact Sc.klo
    · exact Sc.khi
    · cases hy
  · have kb0 : ∀ b o, base.get? b = some o → h₀.get? b = some o := fun b o e => hk b o (kb b o e)
    refine run_num B ⟨Sc.kind, Sc.kx, Sc.klo, Sc.khi, Sc.ki, Sc.kint, Sc.kbool, hns, M.glob.keeps kb0, hb1.keeps kb0, F.mi, F.mint, F.mbool, (hb2 _ (by decide)).trans boot_isinstance, (hb2 _ (by decide)).trans boot_int, (hb2 _ (by decide)).trans boot_bool, by decide, by decide, by decide⟩ (by rfl) hv (by rfl) (by rfl) ?_ fun tk => ?_
    · show (scope.kind == .module && _) = false
      rw [Sc.kind]; rfl
    · exact ⟨rfl, h₀, tk, rfl, hk⟩
end
end An
namespace An
open PySem PySem.Spec PyProof.Rows L2 Mv
/-- the generator's names -/
structure GenSc (env : PySem.Env) (scope : Scope) : Prop where
  S : GxR.GenS env scope "value"
  ft : (("least" : Str), NameKind.free) ∈ scope.names
  mt : (("most" : Str), NameKind.free) ∈ scope.names
  kl : scope.names.lookup ("least" : Str) = some .free
  km : scope.names.lookup ("most" : Str) = some .free
  kf : scope.names.lookup ("is_number" : Str) = some .globalImplicit
def numTr (l : List MV) (a b : Int) (j : Nat) : Bool := match l[j]? with
  | some m => numB m a b
  | none => false
theorem all_numTr (l : List MV) (a b : Int) : (List.range l.length).all (numTr l a b) = l.all fun m => numB m a b := by
  rw [Bool.eq_iff_iff, List.all_eq_true, List.all_eq_true]
  constructor
  · intro h m hm
    obtain ⟨j, hj, e⟩ := List.getElem_of_mem hm
    have q := h j (List.mem_range.mpr hj)
    unfold numTr at q
    rw [List.getElem?_eq_getElem hj, e] at q
    exact q
  · intro h j hj
    have hj' := List.mem_range.mp hj
    unfold numTr
    rw [List.getElem?_eq_getElem hj']
    exact h _ (List.getElem_mem hj')
theorem num_rel {K : PySem.W.Frag} {H : Hp} {m : MV} {v : V} {u : Value} (n : NumV m) (r : RM K H m v) (q : RelV v u) : NumU m u := by
  cases m with
  | int i => unfold RM at r; subst r; exact q
  | bl b => unfold RM at r; subst r; exact q
  | _ => exact n.elim
section
variable {prog : Program} {w : World} {A : Around} {K : PySem.W.Frag} {mg : Str → Option Value} {base : Heap} {f : Addr} {fd : FuncData} {s : Shared}
theorem elt_num {env : PySem.Env} {m : Str → Option Value} {p1 p2 p3 p4 p5 : Pos} {E : Value → Shared → Prop} (F : NumFn K mg base f fd) (M : L2.Mod K mg base) (hf : mg "is_number" = some (.ref f)) (hkp : PySem.W.keepIn K (.ref f) = true) (kb : ∀ b o, base.get? b = some o → s.heap.get? b = some o) (hroom : A.depth < recursionLimit)
    (hg : env.globals = mainGlobals) (hk : env.scope.kind = .function) (kf : env.kindOf "is_number" = some .globalImplicit) (kx : env.kindOf "value" = some .local) (kl : env.kindOf "least" = some .free) (km : env.kindOf "most" = some .free)
    {v : MV} {u : Value} {a b : Int} {ta tb : Tok} {c1 c2 : Addr} (hn : s.heap.Ns env.locals m) (hu : m "value" = some u) (hv : NumU v u) (h1 : env.cells.lookup ("least" : Str) = some c1) (h2 : env.cells.lookup ("most" : Str) = some c2) (g1 : s.heap.IsCell c1 (some (.int a ta))) (g2 : s.heap.IsCell c2 (some (.int b tb))) :
    wpAny (model prog w) A (eval (.Call (.Name "is_number" p1) [.Name "value" p2, .Name "least" p3, .Name "most" p4] [] p5) env) (fun y s3 => y = .bool (numB v a b) ∧ Keeps s s3) E s := by
  refine wpAny_Call_Name_kw (Calls.Name_function_global hk kf (Calls.loadGlobal_global (by rw [hg]; exact M.glob.keeps kb) hf ?_))
  refine PySem.W.callWith_K (h₀ := base) (e := .Name "value" p2) (rest := [.Name "least" p3, .Name "most" p4]) M.kin hkp ?_ rfl rfl
  show wpAny _ _ (spliced ((false, eval (.Name "value" p2) env) :: (false, eval (.Name "least" p3) env) :: (false, eval (.Name "most" p4) env) :: [])) _ _ s
  refine Calls.spliced_cons (wpAny_Name (wpAny_loadName_local hk kx hn hu ?_))
  refine Calls.spliced_cons (wpAny_Name (wpAny_loadName_free hk kl h1 g1 ?_))
  refine Calls.spliced_cons (wpAny_Name (wpAny_loadName_free hk km h2 g2 ?_))
  refine Calls.spliced_nil ⟨M.kin.keeps kb, wpAny_call (codeAny_mono (call_num F M kb hroom hv) fun r s' hq => ?_)⟩
  obtain ⟨e, kp⟩ := hq
  subst e
  exact ⟨rfl, kp⟩
end
section
variable {X : Cx} {pins : List (Addr × Obj)} {σ : L2.St} {H : Hp} {s : Shared}
/-- the generator g over the values l, ready to be walked -/
def ReadyN (X : Cx) (pins : List (Addr × Obj)) (σ : L2.St) (H1 : Hp) (P : Addr) (l : List MV) (a b : Int) (g : Addr) (s5 : Shared) : Prop :=
  ∃ (fp wr : List Addr) (G : Array GenState → Array GenState → Prop) (F : Nat → Value → Prop) (St : Nat → Shared → Prop),
    WalksS X.prog X.w X.A.in1 g fp wr G l.length F St ∧ St 0 s5 ∧ TruthOf X.prog X.w X.A.in1 F (numTr l a b) ∧
    ∀ s', Moved wr G s5 s' → ∃ H2, GxR.Tabbed P H1 H2 ∧ Inv X pins σ H2 s'
theorem seq_keep {k : Bool} {h h' : Heap} {a : Addr} {its : Array Value} (st : SeqAt k h a its) (kp : ∀ o, h.get? a = some o → h'.get? a = some o) : SeqAt k h' a its := by
  cases k
  · exact Heap.IsTuple.at st kp
  · exact Heap.IsList.at st kp
theorem seq_no_fields {k : Bool} {h : Heap} {a : Addr} {its ps : Array Value} {P : Prop} (st : SeqAt k h a its) (e : h.get? a = some { cls := .none, data := .fields ps }) : P := by
  cases k
  · obtain ⟨o, ho, hc, _⟩ := st
    rw [e] at ho; cases ho; cases hc
  · obtain ⟨o, ho, hc, _⟩ := st
    rw [e] at ho; cases ho; cases hc
theorem cell_keep {h h' : Heap} {a : Addr} {v : Option Value} (st : h.IsCell a v) (kp : ∀ o, h.get? a = some o → h'.get? a = some o) : h'.IsCell a v := by
  obtain ⟨o, ho, r⟩ := st
  exact ⟨o, kp o ho, r⟩
theorem cell_no_fields {h : Heap} {a : Addr} {v : Option Value} {ps : Array Value} {P : Prop} (st : h.IsCell a v) (e : h.get? a = some { cls := .none, data := .fields ps }) : P := by
  obtain ⟨o, ho, r⟩ := st
  rw [e] at ho; cases ho; cases r
theorem walks_k {prog : Program} {w : World} {A : Around} (hh : A.handled = none) (k : Bool) (it a : Addr) (hne : a ≠ it) (items : Array Value) :
    Walks prog w A it [it, a] [it] items.size (fun i v => items[i]? = some v) (fun i h => IterAt k h it a i ∧ SeqAt k h a items) := by
  cases k
  · exact Walks.tuple hh it a hne items
  · exact Walks.list hh it a hne items
theorem look_cell {x : Str} {u : Value} {h : Heap} {m : Str → Option Value} (k : X.env.kindOf x = some .cell) (lk : Look X.env h m x u) : ∃ c, X.env.cells.lookup x = some c ∧ h.IsCell c (some u) := by
  rcases lk with ⟨e, _⟩ | ⟨_, c, h1, h2⟩
  · rw [k] at e; cases e
  · exact ⟨c, h1, h2⟩
theorem gen_num {c P f : Addr} {fd : FuncData} {iter : Expr} {px gpos p1 p2 p3 p4 p5 : Pos} {scope : Scope} {te : TE} {k i1 i2 : Nat} {Q' : Value → Shared → Prop} {R : List MV → Int → Int → Hp → Prop}
    (hr : Room k X.A) (TB : GxR.TabB X.base X.mg c P) (hcode : X.env.code = .ref c) (S : GenSc X.env scope) (F : NumFn X.K X.mg X.base f fd) (hf : X.mg "is_number" = some (.ref f)) (hkp : PySem.W.keepIn X.K (.ref f) = true) (hi : PE X iter te)
    (kl : X.env.kindOf "least" = some .cell) (km : X.env.kindOf "most" = some .cell) (n1 : X.N[i1]? = some ("least" : Str)) (n2 : X.N[i2]? = some ("most" : Str))
    (hs : ∀ v, genFold iter X.env v = pure v) (I : Inv X pins σ H s)
    (h : te σ H fun v H1 => ∃ (d : Addr) (kd : Bool) (xs : List V) (l : List MV) (a b : Int), v = .ref d ∧ SqK X.K H1 kd d xs ∧ RMs X.K H1 l xs ∧ (∀ m ∈ l, NumV m) ∧ σ[i1]? = some (some (.int a)) ∧ σ[i2]? = some (some (.int b)) ∧ GxR.TabG H1 P ∧ R l a b H1)
    (hQ : ∀ l a b H1 g s5, R l a b H1 → ReadyN X pins σ H1 P l a b g s5 → Q' (.ref g) s5) :
    wpAny (model X.prog X.w) X.A (eval (.GeneratorExp (.Call (.Name "is_number" p1) [.Name "value" p2, .Name "least" p3, .Name "most" p4] [] p5) [⟨.Name "value" px, iter, [], 0⟩] scope gpos) X.env) Q' X.xe s := by
  refine wpAny_GeneratorExp_walksQD hr.hd S.S.co (closure_ok S.S.free) S.S.cell S.S.dot S.S.loc S.S.kind (by have := hr.dp; omega) ?_ hs
  refine thn (hi.run pins s σ H _ I h) fun xv s1 ⟨v, H1, I1, r1, q1⟩ => ?_
  obtain ⟨d, kd, xs, l, a, b, rfl, hd, hl, hnum, ha, hb, ⟨ps, hP, ht⟩, q1⟩ := q1
  obtain rfl : xv = Value.ref d := r1
  obtain ⟨its, rv, hseq, hdl⟩ := seq_k I1 hd
  have hlen : its.length = l.length := by rw [← rv.length, ← hl.length]
  obtain ⟨ml, hml, hloc⟩ := I1.loc
  obtain ⟨ua, rua, lka⟩ := hloc i1 "least" (.int a) n1 ha (.inr (.inl kl))
  obtain ⟨ub, rub, lkb⟩ := hloc i2 "most" (.int b) n2 hb (.inr (.inl km))
  obtain ⟨ta, rfl⟩ := (show ∃ t, ua = Value.int a t from rua)
  obtain ⟨tb, rfl⟩ := (show ∃ t, ub = Value.int b t from rub)
  obtain ⟨c1, hc1, g1⟩ := look_cell kl lka
  obtain ⟨c2, hc2, g2⟩ := look_cell km lkb
  have hat : ∀ (i : Nat) (v : Value), its.toArray[i]? = some v → ∃ m, l[i]? = some m ∧ NumU m v := fun i v hv => by
    have hv2 : its[i]? = some v := by simpa using hv
    have hi2 : i < its.length := (List.getElem?_eq_some_iff.mp hv2).1
    obtain ⟨m, hm⟩ : ∃ m, l[i]? = some m := ⟨l[i]'(by omega), List.getElem?_eq_getElem _⟩
    obtain ⟨x, hx, rx⟩ := hl.get hm
    obtain ⟨u, hu, ru⟩ := rv.get hx
    rw [hv2] at hu
    cases hu
    exact ⟨m, hm, num_rel (hnum m (List.mem_of_getElem? hm)) rx ru⟩
  refine (begins_k kd d its.toArray).iter _ _ _ _ _ _ hseq ?_
  have ofree : (iterO kd d).isFreed = false := (begins_k kd d its.toArray).free
  generalize ho : iterO kd d = o at ofree
  have hitr : IterAt kd (s1.heap.push o) s1.heap.objs.size d 0 := by
    subst ho
    exact IterAt.zero (Heap.get?_push_size _ ofree)
  have hPs : s1.heap.get? P = some { cls := .none, data := .fields ps } := I1.hok P _ hP
  have hPlt : P < s1.heap.objs.size := Heap.lt_size hPs
  have hP2 : (s1.heap.push o).get? P = some { cls := .none, data := .fields ps } := Heap.get?_push_of_some _ hPs
  have cd : PySem.W.CodeHd (s1.heap.push o) c P := TB.code.keeps fun b u e => Heap.get?_push_of_some _ (I1.bk b u e)
  have lim2 : (s1.heap.push o).NoLimit := I1.nolimit.push o
  have cont : ∀ (code : Value) (h3 : Heap) (tk : Nat) (ps' : Array Value), Heap.ExtBut P (s1.heap.push o) h3 → (s1.heap.push o).objs.size ≤ h3.objs.size → h3.get? P = some { cls := .none, data := .fields ps' } → (∃ more, ps' = ps ++ more) → TriplesOk ps'.toList →
      wpAny (model X.prog X.w) X.A (builtinsFor X.env.globals X.env.builtins) (fun bi s₄ =>
        ∃ Ia fp wr n₀ Pf St₀ pz F, Value.ref s1.heap.objs.size = .ref Ia ∧ (∀ A' : Around, A'.handled = none → Walks X.prog X.w A' Ia fp wr n₀ Pf St₀) ∧ St₀ 0 s₄.heap ∧ (∀ b ∈ fp, b < s₄.heap.objs.size) ∧ s₄.heap.NoLimit ∧ cStatics ∉ wr ∧
          (∀ href : Heap, (∀ b o, s₄.heap.get? b = some o → href.get? b = some o) →
            QuietGenD X.prog X.w (genEnv scope (cloFrom X.env.cells scope.names []) s₄.heap.objs.size code bi X.env) "value" [] (.Call (.Name "is_number" p1) [.Name "value" p2, .Name "least" p3, .Name "most" p4] [] p5) (List.range s₄.heap.objs.size) wr Pf pz F href (X.A.depth + 1) (X.A.units + 8)) ∧
          (∀ a h₅ tk gs, gs.bare = true → s₄.heap.objs.size < a → h₅.objs.size = a + 1 → (∀ b o, s₄.heap.get? b = some o → h₅.get? b = some o) →
            WalksS X.prog X.w X.A.in4 a (a :: s₄.heap.objs.size :: List.range s₄.heap.objs.size) (s₄.heap.objs.size :: wr) (GenOnlyQ s₄.gens.size) (passing pz n₀ 0).length
              (fun j y => ∃ i, (passing pz n₀ 0)[j]? = some i ∧ F i y) (GenAt X.prog X.w X.A.in4 a s₄.gens.size s₄.heap.objs.size (List.range s₄.heap.objs.size) wr pz n₀ F) →
            GenAt X.prog X.w X.A.in4 a s₄.gens.size s₄.heap.objs.size (List.range s₄.heap.objs.size) wr pz n₀ F 0 { s₄ with gens := s₄.gens.push gs, toks := tk, heap := h₅ } →
            Q' (.ref a) { s₄ with gens := s₄.gens.push gs, toks := tk, heap := h₅ })) X.xe { s1 with heap := h3, toks := tk } := by
    intro code h3 tk ps' hx hsz hP3 hmore ht3
    obtain ⟨bm, ob, e1, e2, e3, e4, e5, e6, e7, e8⟩ := TB.bm
    have hcP : cStatics ≠ P := fun e => by
      obtain ⟨_, hns, _⟩ := I1.nolimit
      obtain ⟨o', es, ep, ho, hd, _⟩ := hns
      rw [e, hPs] at ho
      cases ho
      cases hd
    have hcl : cStatics < s1.heap.objs.size := let ⟨_, hns, _⟩ := I1.nolimit; hns.lt
    have sz2 : (s1.heap.push o).objs.size = s1.heap.objs.size + 1 := Heap.size_push ..
    have keep3 : ∀ b u, b ≠ P → s1.heap.get? b = some u → h3.get? b = some u := fun b u hb e => hx b u hb (Heap.get?_push_of_some _ e)
    refine wpAny_builtinsFor (m := X.mg) (by rw [I1.ok.glob]; exact ((I1.mod.glob.keeps I1.bk).push o).extBut hx TB.gP) e1 e2 (keep3 _ _ e4 (I1.bk _ _ e5)) e6 e7 e8 ?_
    have hseq3 : SeqAt kd h3 d its.toArray := by
      refine seq_keep hseq fun ob e => keep3 _ _ (fun z => ?_) e
      rw [z] at e hseq
      exact seq_no_fields hseq hPs
    have hItr3 : IterAt kd h3 s1.heap.objs.size d 0 := hitr.keep fun u e => hx _ u (Nat.ne_of_gt hPlt) e
    refine ⟨s1.heap.objs.size, [s1.heap.objs.size, d], [s1.heap.objs.size], its.toArray.size, (fun i v => its.toArray[i]? = some v), (fun i h => IterAt kd h s1.heap.objs.size d i ∧ SeqAt kd h d its.toArray), (fun _ => true),
      (fun i y => ∃ m, l[i]? = some m ∧ y = .bool (numB m a b)), rfl, (fun A' hA => walks_k hA kd _ _ (Nat.ne_of_lt hdl) _), ⟨hItr3, hseq3⟩, ?_, lim2.extBut hx hcP, ?_, ?_, ?_⟩
    · intro b hb
      rcases List.mem_cons.mp hb with z | z
      · rw [z]
        show s1.heap.objs.size < h3.objs.size
        omega
      · cases List.mem_singleton.mp z
        have e9 : s1.heap.objs.size ≤ h3.objs.size := by omega
        exact Nat.lt_of_lt_of_le hdl e9
    · intro z
      exact Nat.ne_of_lt hcl (List.mem_singleton.mp z)
    · intro href hhref
      refine ⟨fun A' E' i v s₂ m₂ hA hdp hun hPv hn hm hk => ?_, fun A' E' i v s₂ m₂ hA hdp hun hPv hp hn hm hk => ?_⟩
      · simp only [List.forIn_nil]
        exact wpAny_pure ⟨rfl, GxR.keeps_refl _⟩
      · obtain ⟨m, hm', hnu⟩ := hat i v hPv
        have keep2 : ∀ b o, b ≠ P → s1.heap.get? b = some o → s₂.heap.get? b = some o := fun b o hb e => by
          have hlt := Heap.lt_size e
          have e3' := keep3 b o hb e
          refine hk b (List.mem_range.mpr (Heap.lt_size e3')) (fun z => ?_) o (hhref b o e3')
          cases List.mem_singleton.mp z
          exact Nat.lt_irrefl _ hlt
        have kb : ∀ b o, X.base.get? b = some o → s₂.heap.get? b = some o := fun b o e => by
          obtain ⟨q, qn⟩ := I1.bs b o e
          refine keep2 b o (fun z => ?_) q
          rw [z, hP] at qn
          cases qn
        have cellk : ∀ (cc : Addr) (u : Value), s1.heap.IsCell cc (some u) → s₂.heap.IsCell cc (some u) := fun cc u g => by
          refine cell_keep g fun ob e => keep2 _ _ (fun z => ?_) e
          rw [z] at e g
          exact cell_no_fields g hPs
        refine wpAny_mono (elt_num (env := genEnv scope (cloFrom X.env.cells scope.names []) h3.objs.size code builtinsNs X.env) F I1.ok.mod hf hkp kb (by have := hr.dp; omega) I1.ok.glob S.S.kind S.kf S.S.loc S.kl S.km hn hm hnu
          (NdefX.clo_has S.S.free S.ft hc1) (NdefX.clo_has S.S.free S.mt hc2) (cellk _ _ g1) (cellk _ _ g2)) (fun y s3 r => ?_) fun _ _ e => e
        exact ⟨⟨m, hm', r.1⟩, r.2⟩
    · intro g h5 tk5 gs hgb hag hsz5 hk5 W5 hgat
      simp only [GxR.passing_true, List.length_range] at W5
      have hn5 : its.toArray.size = l.length := by rw [List.size_toArray, hlen]
      rw [hn5] at W5 hgat
      refine hQ l a b H1 g _ q1 ⟨_, _, _, _, _, W5.in4_1, hgat, ?_, fun s' hm => ?_⟩
      · intro j y sj Qj Ej hy hQj
        obtain ⟨i, hij, m, hm, rfl⟩ := hy
        obtain ⟨hj, ej⟩ := List.getElem?_eq_some_iff.mp hij
        rw [List.getElem_range] at ej
        subst ej
        have hQ2 : Qj (numTr l a b j) sj := hQj
        unfold numTr at hQ2
        rw [hm] at hQ2
        exact wpAny_truthy_bool hQ2
      · obtain ⟨more, em⟩ := hmore
        have nwr : ∀ b u, s1.heap.get? b = some u → b ∉ h3.objs.size :: [s1.heap.objs.size] := fun b u e hb => by
          have hl := Heap.lt_size e
          rcases List.mem_cons.mp hb with z | z
          · rw [z] at hl
            have h9 : (h3.objs.size : Nat) < s1.heap.objs.size := hl
            omega
          · cases List.mem_singleton.mp z
            exact Nat.lt_irrefl _ hl
        have J := GxR.inv_tab (more := more) (h' := s'.heap) (g' := s'.gens) (d' := s'.drawn) (t' := s'.toks) I1 hP (fun b u hb e => hm.heap b u (nwr b u e) (hk5 b u (keep3 b u hb e)))
          (by rw [← em]; exact hm.heap P _ (nwr P _ hPs) (hk5 P _ hP3)) (AllBare.movedS (I1.bare.push hgb) hm)
        rw [GxR.sh_eta s1 s' hm.os] at J
        refine ⟨upd H1 P (.tbl (ps ++ more)), ⟨⟨ps ++ more, upd_same, by rw [← em]; exact ht3⟩, fun b hb => upd_ne hb⟩, J⟩
  refine ⟨lim2, ?_⟩
  cases hf : codeAmong gpos ps.toList with
  | none =>
    refine wpAny_genexprCodeX hcode (cd.code hP2 ht) (cd.tab hP2) hf fun c' h' tk hx hge hlt hco' _ htab' _ => ?_
    obtain ⟨o1, vs, f1, tf, fl, tg, inF, tx, tt, op, _, _, _, _, _, _, _, _, _, htr, _⟩ := hco'
    exact cont _ h' tk _ hx (Nat.le_trans hge (Nat.le_of_lt hlt)) htab'.2 ⟨_, rfl⟩ htr
  | some cv =>
    refine wpAny_genexprCode_hit hcode (cd.code hP2 ht) hf ?_
    exact cont cv (s1.heap.push o) s1.toks ps (Heap.ExtBut.refl _ _) (Nat.le_refl _) hP2 ⟨#[], by simp⟩ ht
/-- all(is_number(value, least, most) for value in te) -/
def tAllN (K : PySem.W.Frag) (P : Addr) (i1 i2 : Nat) (te : TE) : TE := fun σ H Q => te σ H fun v H1 => ∃ (d : Addr) (kd : Bool) (xs : List V) (l : List MV) (a b : Int), v = .ref d ∧ SqK K H1 kd d xs ∧ RMs K H1 l xs ∧ (∀ m ∈ l, NumV m) ∧ σ[i1]? = some (some (.int a)) ∧ σ[i2]? = some (some (.int b)) ∧ GxR.TabG H1 P ∧
  ∀ H2, GxR.Tabbed P H1 H2 → Q (.bl (l.all fun m => numB m a b)) H2
theorem pe_allN {c P f : Addr} {fd : FuncData} {iter : Expr} {px p pos gpos p1 p2 p3 p4 p5 : Pos} {scope : Scope} {te : TE} {k i1 i2 : Nat}
    (hr : Room k X.A) (hg : Gl X "all") (hm : X.mg "all" = none) (TB : GxR.TabB X.base X.mg c P) (hcode : X.env.code = .ref c) (S : GenSc X.env scope) (F : NumFn X.K X.mg X.base f fd) (hf : X.mg "is_number" = some (.ref f)) (hkp : PySem.W.keepIn X.K (.ref f) = true) (hi : PE X iter te)
    (kl : X.env.kindOf "least" = some .cell) (km : X.env.kindOf "most" = some .cell) (n1 : X.N[i1]? = some ("least" : Str)) (n2 : X.N[i2]? = some ("most" : Str))
    (hs : ∀ v, genFold iter X.env v = pure v)
    (he : starEach [.GeneratorExp (.Call (.Name "is_number" p1) [.Name "value" p2, .Name "least" p3, .Name "most" p4] [] p5) [⟨.Name "value" px, iter, [], 0⟩] scope gpos] X.env = (false, eval (.GeneratorExp (.Call (.Name "is_number" p1) [.Name "value" p2, .Name "least" p3, .Name "most" p4] [] p5) [⟨.Name "value" px, iter, [], 0⟩] scope gpos) X.env) :: starEach [] X.env := by rfl) :
    PE X (.Call (.Name "all" p) [.GeneratorExp (.Call (.Name "is_number" p1) [.Name "value" p2, .Name "least" p3, .Name "most" p4] [] p5) [⟨.Name "value" px, iter, [], 0⟩] scope gpos] [] pos) (tAllN X.K P i1 i2 te) := by
  refine ⟨fun pins s σ H Q I h => ?_⟩
  refine wpAny_Call_Name_kw (ld_blt I hg hm boot_all ?_)
  refine PyProof.Rows.callWith_builtin1 ?_ he (by rfl)
  rw [he]
  refine Calls.spliced_cons (gen_num (R := fun l a b H1 => ∀ H2, GxR.Tabbed P H1 H2 → Q (.bl (l.all fun m => numB m a b)) H2) hr TB hcode S F hf hkp hi kl km n1 n2 hs I h fun l a b H1 g s5 hR hG => ?_)
  obtain ⟨fp, wr, G, F', St, W, hst, htr, hI⟩ := hG
  refine Calls.spliced_nil ?_
  refine call_all_walkS (W.self 0 _ _ _ hst ⟨g, fp, wr, G, _, F', St, _, rfl, W, hst, htr, fun s' hmv => ?_⟩)
  obtain ⟨H2, hT, J⟩ := hI s' hmv
  refine ⟨.bl _, H2, J, rfl, ?_⟩
  rw [all_numTr l a b]
  exact hR H2 hT
end
end An

set_option Elab.async false
set_option linter.all false
set_option maxRecDepth 100000
set_option maxHeartbeats 4000000
/-! all(is_number(..)) over the value layer; a def with its own code object; keyword-only making. -/
namespace Mv
open PySem PySem.Spec PyProof.Rows L2 An
section
variable {K : PySem.W.Frag} {Z : ZT} {S : Sto} {H H' : Hp} {P : Addr}
theorem tabbed_tk (hP : GxR.TabG H P) (t : GxR.Tabbed P H H') : TK K H H' := by
  obtain ⟨ps, hP, _⟩ := hP
  refine ⟨fun a xs s => ?_, fun a xs s => ?_⟩
  · rcases s with s | s
    · left
      rcases s with s | ⟨q, s⟩
      · exact .inl (by rw [t.2 a (fun z => by rw [z, hP] at s; cases s)]; exact s)
      · exact .inr ⟨q, by rw [t.2 a (fun z => by rw [z, hP] at s; cases s)]; exact s⟩
    · exact .inr s
  · rcases s with ⟨q, s⟩ | s
    · exact .inl ⟨q, by rw [t.2 a (fun z => by rw [z, hP] at s; cases s)]; exact s⟩
    · exact .inr s
theorem tab_free (r : RS K Z S H) (hP : GxR.TabG H P) : S P = none := by
  obtain ⟨ps, hP, _⟩ := hP
  cases e : S P with
  | none => rfl
  | some o =>
    have q := r.ob P o e
    cases o with
    | lst l => obtain ⟨xs, h1, _⟩ := q; rw [hP] at h1; cases h1
    | rl l =>
      obtain ⟨xs, h1, _⟩ := q
      rcases h1 with h1 | ⟨o, h1⟩ <;> (rw [hP] at h1; cases h1)
    | dct kvs => obtain ⟨ks, h1, _⟩ := q; rw [hP] at h1; cases h1
    | ins c fs => obtain ⟨dx, xs, h1, _⟩ := q; rw [hP] at h1; cases h1
    | kd kvs => obtain ⟨L, h1, _⟩ := q; rw [hP] at h1; cases h1
    | ks l => obtain ⟨L, L', h1, _⟩ := q; rw [hP] at h1; cases h1
    | si l => have q : H P = some (SiO P l) := q; rw [hP] at q; cases q
    | xd m => obtain ⟨x, q, _⟩ := q; rw [hP] at q; cases q
theorem tabbed_gk (r : RS K Z S H) (hP : GxR.TabG H P) (t : GxR.Tabbed P H H') : GK K S H S H' ∧ RS K Z S H' := by
  have tk := tabbed_tk (K := K) hP t
  have hS := tab_free r hP
  refine ⟨⟨tk, fun a o n e nt => ⟨?_, n⟩⟩, ⟨fun a o e => (r.ob a o e).monoT tk (t.2 a fun z => by rw [z, hS] at e; cases e), fun P' hP' => ?_⟩⟩
  · obtain ⟨ps, hP, _⟩ := hP
    rw [t.2 a fun z => by rw [z, hP] at e; cases e; exact nt _ rfl]
    exact e
  · by_cases z : P' = P
    · rw [z]; exact t.1
    · obtain ⟨ps, e, q⟩ := r.tab P' hP'
      exact ⟨ps, by rw [t.2 P' z]; exact e, q⟩
end
def mAllN (i1 i2 : Nat) (m : ME) : ME := fun ρ S R => m ρ S fun x S1 => match seqI S1 x, ρ[i1]?, ρ[i2]? with
  | some (l, _), some (some (.int a)), some (some (.int b)) => (∀ v ∈ l, NumV v) ∧ R (.bl (l.all fun v => numB v a b)) S1
  | _, _, _ => False
theorem genSc_of {qual : Str} {scF scG : Scope} {L f : Addr} {cdv : Value} (kind : scG.kind = .function := by kernel_rfl) (co : scG.isCoroutine = false := by kernel_rfl) (cell : (scG.names.all fun y => y.2 != .cell) = true := by kernel_rfl)
    (dot : scG.names.lookup (".0" : Str) = some NameKind.local := by kernel_rfl) (loc : scG.names.lookup ("value" : Str) = some .local := by kernel_rfl)
    (free : (scG.names.all fun y => y.2 != .free || scF.names.lookup y.1 == some .cell) = true := by kernel_rfl)
    (ft : (scG.names.contains (("least" : Str), NameKind.free)) = true := by kernel_rfl) (mt : (scG.names.contains (("most" : Str), NameKind.free)) = true := by kernel_rfl)
    (kl : scG.names.lookup ("least" : Str) = some .free := by kernel_rfl) (km : scG.names.lookup ("most" : Str) = some .free := by kernel_rfl) (kf : scG.names.lookup ("is_number" : Str) = some .globalImplicit := by kernel_rfl) :
    GenSc (envOfC qual scF L f cdv) scG := by
  refine ⟨⟨kind, co, fun y hy => ?_, dot, loc, fun y hy e => ?_⟩, by simpa using ft, by simpa using mt, kl, km, kf⟩
  · have := List.all_eq_true.mp cell y hy
    simpa using this
  · have q := List.all_eq_true.mp free y hy
    rw [e] at q
    have q2 : scF.names.lookup y.1 = some .cell := by simpa using q
    exact Option.isSome_iff_exists.mp (PySem.W.cellsFrom_some _ _ _ (.inl q2))
section
variable {X : Cx} {Z : ZT} {m : ME}
theorem ee_allN {c P f : Addr} {fd : FuncData} {iter : Expr} {px p pos gpos p1 p2 p3 p4 p5 : Pos} {scope : Scope} {k i1 i2 : Nat}
    (hr : Room k X.A) (hg : Gl X "all") (hm : X.mg "all" = none) (TB : GxR.TabB X.base X.mg c P) (hZ : P ∈ Z) (hcode : X.env.code = .ref c) (S : GenSc X.env scope) (F : NumFn X.K X.mg X.base f fd) (hf : X.mg "is_number" = some (.ref f)) (hkp : PySem.W.keepIn X.K (.ref f) = true) (hi : EE X Z iter m)
    (kl : X.env.kindOf "least" = some .cell) (km : X.env.kindOf "most" = some .cell) (n1 : X.N[i1]? = some ("least" : Str)) (n2 : X.N[i2]? = some ("most" : Str))
    (hs : ∀ v, genFold iter X.env v = pure v)
    (he : starEach [.GeneratorExp (.Call (.Name "is_number" p1) [.Name "value" p2, .Name "least" p3, .Name "most" p4] [] p5) [⟨.Name "value" px, iter, [], 0⟩] scope gpos] X.env = (false, eval (.GeneratorExp (.Call (.Name "is_number" p1) [.Name "value" p2, .Name "least" p3, .Name "most" p4] [] p5) [⟨.Name "value" px, iter, [], 0⟩] scope gpos) X.env) :: starEach [] X.env := by rfl) :
    EE X Z (.Call (.Name "all" p) [.GeneratorExp (.Call (.Name "is_number" p1) [.Name "value" p2, .Name "least" p3, .Name "most" p4] [] p5) [⟨.Name "value" px, iter, [], 0⟩] scope gpos] [] pos) (mAllN i1 i2 m) :=
  ee_of (pe_allN hr hg hm TB hcode S F hf hkp hi.pe kl km n1 n2 hs he) fun σ H ρ S R hE hS hm => by
    refine ⟨ρ, S, _, hE, hS, hm, fun v H1 ⟨x, S1, t1, r1, s1, q1⟩ => ?_⟩
    dsimp only at q1
    split at q1
    · rename_i l kp a b e ea eb
      obtain ⟨d, xs, kd, ev, sq, src⟩ := src_of s1 r1 e
      obtain ⟨xs', sq', rs'⟩ : ∃ xs, SqK X.K H1 kd d xs ∧ RMs X.K H1 l xs := by
        cases x with
        | tup l' =>
          cases e
          exact src S1 H1 TK.refl s1 (fun p hp => by cases hp)
        | frz l' =>
          cases e
          exact src S1 H1 TK.refl s1 (fun p hp => by cases hp)
        | ref d' =>
          have e : Option.map (fun l => (l, [(d', l)])) (lookL S1 d') = some (l, kp) := e
          cases el : lookL S1 d' with
          | none => rw [el] at e; cases e
          | some l' =>
            rw [el] at e
            cases e
            exact src S1 H1 TK.refl s1 (fun p hp => by cases List.mem_singleton.mp hp; exact el)
        | _ => cases e
      obtain ⟨xa, e1, e2⟩ := hE.at_ i1 _ ea
      obtain ⟨xb, e3, e4⟩ := hE.at_ i2 _ eb
      unfold RM at e2 e4
      subst e2; subst e4
      refine ⟨d, kd, xs', l, a, b, ev, sq', rs', q1.1, e1, e3, s1.tab P hZ, fun H2 ht => ?_⟩
      obtain ⟨g, s2⟩ := tabbed_gk s1 (s1.tab P hZ) ht
      exact ⟨.bl _, S1, t1.trans g, by unfold RM; rfl, s2, q1.2⟩
    · exact q1.elim
end
end Mv
namespace Mv
open PySem PySem.Spec PyProof.Rows L2 An
section
variable {P : Program} {w : World} {K : PySem.W.Frag} {mg : Str → Option Value} {base : Heap} {Z : ZT} {x qual : Str} {params : Arguments} {body : List Stmt} {scope : Scope} {f c : Addr} {fd : FuncData}
/-- a def whose code object is known -/
theorem fn_spC {N ps : List Str} {k : Nat} {mb : MS} {dvs : List V} {kws : List (Str × V)} (F : FunD K x qual params body scope dvs kws f fd) (Sc : FnScope N ps scope) (hc : fd.code = .ref c)
    (hb : ∀ (A : Around) (outer : List PySem.Env) (s : Shared) (H : Hp) (E : XK), Room k (A.deeper (envOfC qual scope s.heap.objs.size f (.ref c))) → EB (cxOf CX0 P w K mg base N qual scope f (.ref c) A outer s H E).nox Z body mb) :
    FnOk P w K mg base CX0 (k + 1) f fd ps (spM K Z ps.length (defW ps.length N.length mb)) := by
  obtain ⟨oc, od, dV, kV, doc, pm, an, cdv, ct, osl, rfl, lk, hcd, _, _⟩ := F.ex
  have hc : cdv = .ref c := hc
  subst hc
  refine fn_of lk hcd Sc (fun vs H Q E h => h.1) fun A outer s H vs Q E hr h => ?_
  obtain ⟨hl, ms, S, R, rm, hS, ⟨hn, hm⟩, hQ⟩ := h
  refine ⟨_, PSs.nox (hb A outer s H E hr).pss, startM N.length ms, S, _, start_rel rm, hS, hm, fun σ' H' ⟨ρ', S', t, e', s', q⟩ => hQ _ _ (MQ.drop ⟨.non, S', t, by unfold RM; rfl, s', q⟩), fun v H' q => hQ _ _ (MQ.drop q), fun σ' H' ⟨ρ', S', t, e', s', q⟩ => False.elim q, fun σ' H' ⟨ρ', S', t, e', s', q⟩ => False.elim q⟩
theorem cal_mkC {N ps : List Str} {k : Nat} {mb : MS} (F : FunD K x qual params body scope [] [] f fd) (Sc : FnScope N ps scope) (bnd : Binds K fd ps []) (hc : fd.code = .ref c)
    (hb : ∀ (A : Around) (outer : List PySem.Env) (s : Shared) (H : Hp) (E : XK), Room k (A.deeper (envOfC qual scope s.heap.objs.size f (.ref c))) → EB (cxOf CX0 P w K mg base N qual scope f (.ref c) A outer s H E).nox Z body mb) :
    Cal P w K mg base Z f ps (k + 1) (defW ps.length N.length mb) :=
  ⟨⟨fd, fn_spC F Sc hc hb, F.kp, bnd⟩, fun ms S R h => h.1⟩
end
/-! C(k = v, ..), keyword-only -/
structure CalK (P : Program) (w : World) (K : PySem.W.Frag) (mg : Str → Option Value) (base : Heap) (Z : ZT) (f : Addr) (ps ks : List Str) (k : Nat) (W : MW) (gM : MV → List MV → List MV) : Prop where
  ex : ∃ (fd : FuncData) (g : List Value → List Value → List Value) (gV : List V → List V → List V), FnOk P w K mg base CX0 k f fd ps (spM K Z ps.length W) ∧ KBn K fd ps 1 ks g gV ∧
    ∀ (H : Hp) (p : Addr) (ms : List MV) (zs : List V), RMs K H ms zs → ms.length = ks.length → RMs K H (gM (.ref p) ms) (gV [.ref p] zs)
  len : ∀ ms S R, W ms S R → ms.length = ps.length
def mMakeK (c : String) (n : Nat) (W : MW) (gM : MV → List MV → List MV) (ms : MA) : ME := fun ρ S R => ms ρ S fun zs S1 => zs.length = n ∧ ∀ p, S1 p = none → W (gM (.ref p) zs) (supd S1 p (.ins c [])) fun v S2 => v = .non ∧ R (.ref p) S2
section
variable {X : Cx} {Z : ZT} {m : ME} {e : Expr} {kws : List Keyword} {mas : MA} {W : MW} {k k' : Nat} {ps ks : List Str} {gM : MV → List MV → List MV} {pos kpos : Pos} {nm : Option Str}
theorem ek_nil : EK X Z [] maNil := ⟨PK.imp pk_nil fun σ H Q ⟨ρ, S, R, hE, hS, hm, hQ⟩ => hQ _ _ ⟨[], S, GK.refl, RMs.nil, hS, hm⟩⟩
theorem ek_cons (ha : EE X Z e m) (hr : EK X Z kws mas) : EK X Z (⟨nm, e, kpos⟩ :: kws) (maCons m mas) :=
  ⟨PK.imp (pk_cons ha.pe hr.pk) fun σ H Q ⟨ρ, S, R, hE, hS, hm, hQ⟩ =>
    ⟨ρ, S, _, hE, hS, hm, fun v H1 ⟨x, S1, t1, r1, s1, q1⟩ => ⟨ρ, S1, _, hE.mono t1, s1, q1, fun vs H2 ⟨xs, S2, t2, r2, s2, q2⟩ => hQ _ _ ⟨x :: xs, S2, t1.trans t2, RMs.cons (r1.mono t2) r2, s2, q2⟩⟩⟩⟩
theorem ee_makeK {x : Str} {c : String} {f : Addr} {p : Pos} (C : CalK X.prog X.w X.K X.mg X.base Z f ps ks k W gM) (M : Mk X.K (He.ga X.K (so c)) f) (hr : Room k' X.A) (hk : k + 1 ≤ k') (hg : Gl X x) (hm : X.mg x = some (.ref (He.ga X.K (so c)))) (ha : EK X Z kws mas)
    (hall : (backToKw pos (keywordEach kws X.env)).all (·.1.isSome) = true := by kernel_rfl) (hks : (backToKw pos (keywordEach kws X.env)).filterMap (·.1) = ks := by kernel_rfl) (hdb : (x == ("__debug__" : Str)) = false := by kernel_rfl)
    (hpl : ((backTo pos (starEach [] X.env)).any (·.1) || (backToKw pos (keywordEach kws X.env)).any (·.1.isNone)) = false := by kernel_rfl) :
    EE X Z (.Call (.Name x p) [] kws pos) (mMakeK c ks.length W gM mas) := by
  obtain ⟨fd, g, gV, F, b, hg'⟩ := C.ex
  refine ee_of (pe_makeK0 M F (hr.mono hk) hg hm b pass0 ha.pk hall hks hdb hpl) fun σ H ρ S R hE hS hm => ?_
  refine ⟨ρ, S, _, hE, hS, hm, fun zs H1 ⟨ms, S1, t1, r1, s1, q1⟩ => ⟨rfl, by rw [r1.length]; exact q1.1, fun y dx hy hdx hne => ?_⟩⟩
  obtain ⟨g, s2⟩ := make_st (c := c) s1 hy hdx hne
  have q2 := q1.2 y (s1.free hy)
  have r2 := hg' _ y ms zs (r1.mono g) q1.1
  refine ⟨?_, _, _, _, r2, s2, q2, fun v H' ⟨m, S', t', r', s', em, q'⟩ => ?_⟩
  · rw [r2.length]; exact C.len _ _ _ q2
  · subst em
    unfold RM at r'
    exact ⟨r', .ref y, S', t1.trans (g.trans t'), by unfold RM; rfl, s', q'⟩
end
end Mv

set_option Elab.async false
set_option linter.all false
set_option maxRecDepth 100000
set_option maxHeartbeats 4000000
namespace Rw
open PySem PySem.Spec PyProof.Rows L2 Mv
/-! a Hook over a chosen part of the heap, and tables -/
def frcL {α : Type} : List Addr → (List Addr → α) → α
  | [], k => k []
  | a :: r, k => HandSHeadRun.frNat a fun a' => frcL r fun r' => k (a' :: r')
theorem frcL_eq {α : Type} : ∀ (l : List Addr) (k : List Addr → α), frcL l k = k l
  | [], k => rfl
  | a :: r, k => by
    show HandSHeadRun.frNat a (fun a' => frcL r fun r' => k (a' :: r')) = _
    rw [HandSHeadRun.frNat_eq, frcL_eq r]
def fnPart (fd : FuncData) : List Addr := He.refV fd.code ++ (He.refV fd.defaults ++ He.refV fd.kwdefaults)
def partOf (g : Addr → Option Obj) (a : Addr) : List Addr := match g a with
  | some o => (match o.data with
    | .func fd => a :: fnPart fd
    | .cls cd => a :: cd.ns :: (match g cd.ns with
      | some ns => (He.refsO ns).flatMap fun b => (match g b with
        | some ob => (match ob.data with
          | .func fd => b :: fnPart fd
          | _ => [])
        | none => [])
      | none => [])
    | .seq _ _ => [a]
    | _ => [])
  | none => []
def asX (g : Addr → Option Obj) : List Addr := mainGlobals :: (match g mainGlobals with
  | some o => (He.refsO o).flatMap (partOf g)
  | none => [])
abbrev AlX : Type := Bool × He.AlD
def obK (ts : List (Str × List He.Dv)) (fa : List He.Fa) (fn : List He.DefD) (K : PySem.W.Frag) : AlX := (ts.all fun t => He.tupB K t.1 t.2, He.obsD fa fn K)
structure SaysX (ts : List (Str × List He.Dv)) (fa : List He.Fa) (fn : List He.DefD) (K : PySem.W.Frag) : Prop where
  tabs : (ts.all fun t => He.tupB K t.1 t.2) = true
  says : He.SaysD fa fn K
theorem SaysX.tab {ts : List (Str × List He.Dv)} {fa : List He.Fa} {fn : List He.DefD} {K : PySem.W.Frag} (c : SaysX ts fa fn K) (i : Nat) {t : Str × List He.Dv} (h : ts[i]? = some t) : He.tupB K t.1 t.2 = true := List.all_eq_true.mp c.tabs t (List.mem_of_getElem? h)
def obsX (ts : List (Str × List He.Dv)) (fa : List He.Fa) (fn : List He.DefD) (g : Addr → Option Obj) : AlX := frcL (asX g) fun as => obK ts fa fn (He.frG g as)
theorem saysX_of {ts : List (Str × List He.Dv)} {fa : List He.Fa} {fn : List He.DefD} {K : PySem.W.Frag} (e : obK ts fa fn K = (true, He.valD fn)) : SaysX ts fa fn K := ⟨congrArg (fun z : AlX => z.1) e, congrArg (fun z : AlX => z.2) e⟩
/-! the code object of one def, and its table -/
def codeB (o : Obj) (c : Addr) : Option Addr := match o.data with
  | .fields vs => (match o.cls, (vs[11]? : Option Value), vs.getD 11 Value.none, vs.getD 18 Value.none, vs.getD 7 Value.none, vs.getD 9 Value.none, vs.getD 10 Value.none with
    | .type "code", some (Value.ref P), .ref P', .str _ _, .int _ _, .bool _, .int _ _ => if P = P' ∧ c ≠ P then some P else none
    | _, _, _, _, _, _, _ => none)
  | _ => none
theorem codeB_ok {o : Obj} {c P : Addr} {h : Heap} (e : codeB o c = some P) (hc : h.get? c = some o) : PySem.W.CodeHd h c P := by
  unfold codeB at e
  split at e
  · rename_i vs hd
    split at e
    · rename_i q1 q2 q3 q4 q5 q6 q7
      split at e
      · rename_i hp
        cases e
        obtain ⟨rfl, hne⟩ := hp
        exact ⟨o, vs, _, _, _, _, _, _, _, hc, q1, hd, q2, q3, q4, q5, q6, q7, hne⟩
      · cases e
    · cases e
  · cases e
def tabOf (K : PySem.W.Frag) (nm : Str) : Option (Addr × Addr) := match K.lookup (He.ga K nm) with
  | some ⟨_, _, .func fd, _⟩ => (match fd.code with
    | .ref c => (match K.lookup c with
      | some o => (codeB o c).map fun P => (c, P)
      | none => none)
    | _ => none)
  | _ => none
def emptyT (o : Option Obj) : Bool := match o with
  | some ⟨.none, none, .fields ⟨[]⟩, ⟨[]⟩⟩ => true
  | _ => false
theorem emptyT_ok {o : Option Obj} (h : emptyT o = true) : o = some { cls := .none, data := .fields #[] } := by
  unfold emptyT at h
  split at h
  · rfl
  · cases h
def tabB (g : Addr → Option Obj) (K : PySem.W.Frag) (nm : Str) : Bool := match tabOf K nm with
  | some (_, P) => emptyT (g P) && (K.lookup P).isNone
  | none => false
structure TabS (K : PySem.W.Frag) (nm : Str) (h : Heap) (c P : Addr) : Prop where
  code : ∀ oc od fd osl, K.lookup (He.ga K nm) = some ⟨oc, od, .func fd, osl⟩ → fd.code = .ref c
  hd : PySem.W.CodeHd h c P
  tab : h.get? P = some { cls := .none, data := .fields #[] }
  nK : K.lookup P = none
theorem tabB_ok {h : Heap} {K : PySem.W.Frag} {nm : Str} (hK : K.In h) (e : tabB h.get? K nm = true) : ∃ c P, TabS K nm h c P := by
  unfold tabB at e
  split at e
  · rename_i c P q
    have e' := Bool.and_eq_true_iff.mp e
    unfold tabOf at q
    split at q
    · rename_i oc od fd osl lk
      split at q
      · rename_i c' hc
        split at q
        · rename_i o lo
          cases ho : codeB o c' with
          | none => rw [ho] at q; cases q
          | some P' =>
            rw [ho] at q
            cases q
            refine ⟨c, P, fun oc' od' fd' osl' lk' => ?_, codeB_ok ho (hK c o lo), emptyT_ok e'.1, ?_⟩
            · rw [lk] at lk'
              cases lk'
              exact hc
            · simpa using e'.2
        · cases q
      · cases q
    · cases q
  · cases e
theorem TabS.keeps {K : PySem.W.Frag} {nm : Str} {h h' : Heap} {c P : Addr} (t : TabS K nm h c P) (k : ∀ b o, h.get? b = some o → h'.get? b = some o) : TabS K nm h' c P := ⟨t.code, t.hd.keeps k, k _ _ t.tab, t.nK⟩
abbrev AlY : Type := Bool × AlX
def obY (ts : List (Str × List He.Dv)) (fa : List He.Fa) (fn : List He.DefD) (nm : Str) (g : Addr → Option Obj) (K : PySem.W.Frag) : AlY := (tabB g K nm, obK ts fa fn K)
def obsY (ts : List (Str × List He.Dv)) (fa : List He.Fa) (fn : List He.DefD) (nm : Str) (g : Addr → Option Obj) : AlY := frcL (asX g) fun as => obY ts fa fn nm g (He.frG g as)
structure SaysY (ts : List (Str × List He.Dv)) (fa : List He.Fa) (fn : List He.DefD) (nm : Str) (K : PySem.W.Frag) (h : Heap) : Prop where
  says : SaysX ts fa fn K
  tab : ∃ c P, TabS K nm h c P
theorem saysY_of {ts : List (Str × List He.Dv)} {fa : List He.Fa} {fn : List He.DefD} {nm : Str} {h : Heap} {K : PySem.W.Frag} (hK : K.In h) (e : obY ts fa fn nm h.get? K = (true, (true, He.valD fn))) : SaysY ts fa fn nm K h :=
  ⟨saysX_of (congrArg (fun z : AlY => z.2) e), tabB_ok hK (congrArg (fun z : AlY => z.1) e)⟩
def hookY (ts : List (Str × List He.Dv)) (fa : List He.Fa) (fn : List He.DefD) (nm : Str) : PySem.W.Hook where
  α := AlY
  obs := fun s => obsY ts fa fn nm s.heap.get?
  val := fun _ => (true, (true, He.valD fn))
  says := fun _ h => ∃ K : PySem.W.Frag, K.In h ∧ SaysY ts fa fn nm K h
  of := fun _ s e => ⟨_, He.frG_in, saysY_of He.frG_in ((frcL_eq _ (fun as => obY ts fa fn nm s.heap.get? (He.frG s.heap.get? as))).symm.trans e)⟩
  keeps := fun _ _ _ ⟨K, hK, c⟩ k => ⟨K, PySem.W.Frag.In.keeps hK k, c.says, let ⟨a, P, t⟩ := c.tab; ⟨a, P, t.keeps k⟩⟩
theorem obsY_eq {ts : List (Str × List He.Dv)} {fa : List He.Fa} {fn : List He.DefD} {nm : Str} {g : Addr → Option Obj} {s : Shared} (h : ∀ a, g a = s.heap.get? a) : obsY ts fa fn nm g = (hookY ts fa fn nm).obs s := by
  have e : g = s.heap.get? := funext h
  rw [e] <;> rfl
/-! the classes' attributes -/
def atOf (L : List (String × List String)) (c f : String) : Bool := match L.lookup c with
  | some l => l.contains f
  | none => false
def AtF (K : PySem.W.Frag) (c : String) : List String → Prop
  | [] => True
  | f :: r => NoAttr K (He.ga K (so c)) (so f) ∧ AtF K c r
def AtAll (K : PySem.W.Frag) : List (String × List String) → Prop
  | [] => True
  | (c, l) :: r => (Cls K (He.ga K (so c)) ∧ AtF K c l) ∧ AtAll K r
theorem atF_mem {K : PySem.W.Frag} {c f : String} : ∀ {l : List String}, AtF K c l → f ∈ l → NoAttr K (He.ga K (so c)) (so f)
  | g :: r, h, m => by
    rcases List.mem_cons.mp m with e | e
    · subst e; exact h.1
    · exact atF_mem h.2 e
theorem at_ok {K : PySem.W.Frag} : ∀ {L : List (String × List String)}, AtAll K L → AtOk K (atOf L)
  | [], _, c, f, h => by cases h
  | (d, l) :: r, a, c, f, h => by
    unfold atOf at h
    by_cases e : c = d
    · subst e
      simp only [List.lookup_cons, beq_self_eq_true] at h
      exact ⟨a.1.1, atF_mem a.1.2 (by simpa using h)⟩
    · have e' : (c == d) = false := by simpa using e
      simp only [List.lookup_cons, e'] at h
      exact at_ok (L := r) a.2 c f h
end Rw

set_option Elab.async false
set_option linter.all false
set_option maxRecDepth 100000
set_option maxHeartbeats 4000000
namespace Mv
open PySem PySem.Spec PyProof.Rows L2 An Rw
theorem TabS.codeD {K : PySem.W.Frag} {nm x qual : Str} {params : Arguments} {body : List Stmt} {scope : Scope} {dvs : List V} {kws : List (Str × V)} {h : Heap} {c P : Addr} {fd : FuncData} (t : TabS K nm h c P) (F : FunD K x qual params body scope dvs kws (He.ga K nm) fd) : fd.code = .ref c := by
  obtain ⟨oc, od, dV, kV, doc, pm, an, cdv, ct, osl, e, lk, _⟩ := F.ex
  exact t.code _ _ _ _ lk
/-! which parameter takes which keyword, which default -/
def pick {α : Type} (i : Nat) (l : List α) : List α := (l.drop i).take 1
def selL {α : Type} (sel : List (Bool × Nat)) (mv ws : List α) : List α := match sel with
  | [] => []
  | (b, i) :: r => (match b with
    | true => pick i ws
    | false => pick i mv) ++ selL r mv ws
theorem vals_pick : ∀ (i : Nat) {vs : List V} {us : List Value}, Vals vs us → Vals (pick i vs) (pick i us)
  | _, _, _, .nil => by simp [pick]; exact .nil
  | 0, _, _, .cons a r => by simp [pick]; exact .cons a .nil
  | i + 1, _, _, .cons a r => by
    have := vals_pick i r
    simpa [pick] using this
theorem vals_sel {mz zs : List V} {mv ws : List Value} (a : Vals mz mv) (b : Vals zs ws) : ∀ sel : List (Bool × Nat), Vals (selL sel mz zs) (selL sel mv ws)
  | [] => .nil
  | (true, i) :: r => (vals_pick i b).append (vals_sel a b r)
  | (false, i) :: r => (vals_pick i a).append (vals_sel a b r)
theorem rms_sel {K : PySem.W.Frag} {H : Hp} {dM zM : List MV} {dV zV : List V} (a : RMs K H dM dV) (b : RMs K H zM zV) : ∀ sel : List (Bool × Nat), RMs K H (selL sel dM zM) (selL sel dV zV)
  | [] => RMs.nil
  | (true, i) :: r => ((b.drop i).take 1).append (rms_sel a b r)
  | (false, i) :: r => ((a.drop i).take 1).append (rms_sel a b r)
section
variable {P : Program} {w : World} {K : PySem.W.Frag} {mg : Str → Option Value} {base : Heap} {Z : ZT} {x qual : Str} {params : Arguments} {body : List Stmt} {scope : Scope} {f : Addr} {fd : FuncData}
theorem calK_mk {N ps ks : List Str} {k : Nat} {mb : MS} {kws : List (Str × V)} (F : FunD K x qual params body scope [] kws f fd) (Sc : FnScope N ps scope) (sel : List (Bool × Nat)) (ms : List (Str × V)) (dM : List MV) (hk : kws ≠ []) (hms : ∀ q ∈ ms, q ∈ kws) (hd : ∀ H, RMs K H dM (ms.map (·.2)))
    (hch : ∀ (D : Addr) (doc pm : Value) (an : Option Addr) (cdv ct : Value) (us mv ws : List Value), us.length = 1 → mv.length = ms.length → ws.length = ks.length →
      KwChain D ((ms.map (·.1)).zip mv) (bindArgs (PySem.W.fnOf x qual params body scope .none (.ref D) doc pm an cdv ct) ⟨us, ks.zip ws⟩) (ps.zip (us ++ selL sel mv ws)))
    (hb : ∀ (cdv : Value) (A : Around) (outer : List PySem.Env) (s : Shared) (H : Hp) (E : XK), Room k (A.deeper (envOfC qual scope s.heap.objs.size f cdv)) → EB (cxOf CX0 P w K mg base N qual scope f cdv A outer s H E).nox Z body mb) :
    CalK P w K mg base Z f ps ks (k + 1) (defW ps.length N.length mb) (fun p zs => p :: selL sel dM zs) := by
  obtain ⟨mv, hB⟩ := F.kbinds0 1 ks ms (fun us mv ws => us ++ selL sel mv ws) hk hms (fun a b c => a.append (vals_sel b c sel)) hch
  exact ⟨⟨fd, _, _, fn_sp F Sc hb, hB, fun H p zs vs r hl => RMs.cons (by unfold RM; rfl) (rms_sel (hd H) r sel)⟩, fun ms S R h => h.1⟩
end
end Mv
namespace Mv
open PySem PySem.Spec PyProof.Rows L2 An Rw
/-- the law's call, its script in a list that is read or in the fixed part -/
theorem law_in {K : PySem.W.Frag} {ft : Bool} {tb a : Addr} {H : Hp} {ns : List Int} {W : MW} (hT : H tb = some (.tbl #[])) (hS : SqL K H a (ns.map V.int))
    (hW : ∀ (x : MV) (S0 : Sto), (∀ R, listV [x] S0 R = newL (ns.map MV.int) S0 R) → W [x] S0 (fun v _ => v = .bl true)) : spM K ⟨[tb], ft⟩ 1 W [.ref a] H (fun v _ => v = .bl true) fun _ _ _ => False := by
  have tab : GxR.TabG H tb := ⟨#[], hT, True.intro⟩
  have fin : ∀ (S : Sto) v H', MQ K ⟨[tb], ft⟩ S H (fun v _ => v = .bl true) v H' → v = .bl true := fun S v H' ⟨m, S', t, r, s, e⟩ => by
    subst e
    unfold RM at r
    exact r
  rcases hS with hS | hS
  · refine ⟨rfl, [.ref a], supd sto0 a (.rl (ns.map .int)), _, RMs.cons (by unfold RM; rfl) RMs.nil, ⟨fun b o e => ?_, fun P hP => ?_⟩, hW _ _ fun R => ?_, fin _⟩
    · by_cases hb : b = a
      · subst hb
        rw [supd_same] at e
        cases e
        exact ⟨_, hS, rms_ints ns⟩
      · rw [supd_ne hb] at e
        cases e
    · cases List.mem_singleton.mp hP
      exact tab
    · show (match lookL (supd sto0 a (.rl (ns.map .int))) a with | some l => newL l _ R | none => False) = _
      unfold lookL
      rw [supd_same]
  · refine ⟨rfl, [.frz (ns.map .int)], sto0, _, RMs.cons (by unfold RM; exact ⟨a, _, rfl, .inr hS, rms_ints ns⟩) RMs.nil, ⟨fun b o e => (by cases e), fun P hP => ?_⟩, hW _ _ fun R => rfl, fin _⟩
    cases List.mem_singleton.mp hP
    exact tab
end Mv

set_option Elab.async false
set_option linter.all false
set_option maxRecDepth 100000
set_option maxHeartbeats 4000000
/-! Lists by value: what is made and never written again. -/
namespace Mv
open PySem PySem.Spec PyProof.Rows L2
def sdel (S : Sto) (a : Addr) : Sto := fun b => if b = a then none else S b
theorem sdel_supd {S : Sto} {a : Addr} {o : MO} (h : S a = none) : sdel (supd S a o) a = S := by
  funext b
  unfold sdel supd
  by_cases e : b = a
  · subst e; rw [if_pos rfl, h]
  · rw [if_neg e, if_neg e]
/-- a new list is shown by value -/
def fzK (R : MK) : MK := fun v S => match v with
  | .ref a => (match S a with
    | some (.lst l) => R (.frz l) (sdel S a)
    | _ => False)
  | v => R v S
theorem fz_new {R : MK} {l : List MV} {S : Sto} (h : R (.frz l) S) : newL l S (fzK R) := fun p hp => by
  unfold fzK
  simp only [supd_same, sdel_supd hp]
  exact h
section
variable {K : PySem.W.Frag} {Z : ZT}
theorem GK.lockd {S S' : Sto} {H H' : Hp} {a : Addr} {m : MO} {xs : List V} {od : Obj} (g : GK K S H S' H') (ha : S' a = some m) (hx : H' a = some (.lst xs)) : GK K S H (sdel S' a) (upd H' a (.frz od (.lst xs))) :=
  ⟨g.tk.trans (TK.lst hx), fun b o n e nt => by
    obtain ⟨e1, n1⟩ := g.fr b o n e nt
    have hne : b ≠ a := fun z => by subst z; rw [ha] at n1; cases n1
    refine ⟨by rw [upd_ne hne]; exact e1, ?_⟩
    unfold sdel
    rw [if_neg hne]; exact n1⟩
theorem RS.lockd {S : Sto} {H : Hp} {a : Addr} {xs : List V} {od : Obj} (r : RS K Z S H) (hx : H a = some (.lst xs)) : RS K Z (sdel S a) (upd H a (.frz od (.lst xs))) :=
  ⟨fun b u e => by
    unfold sdel at e
    by_cases hb : b = a
    · rw [if_pos hb] at e; cases e
    · rw [if_neg hb] at e
      exact (r.ob b u e).monoT (TK.lst hx) (upd_ne hb), fun P hP => TabG.upd (r.tab P hP) fun ps e => by rw [hx] at e; cases e⟩
theorem RM.lockd {H : Hp} {a : Addr} {xs : List V} {l : List MV} {od : Obj} (hx : H a = some (.lst xs)) (r : RMs K H l xs) : RM K (upd H a (.frz od (.lst xs))) (.frz l) (.ref a) := by
  unfold RM
  exact ⟨a, xs, rfl, .inl ⟨od, upd_same⟩, RMs.monoT (TK.lst hx) l r⟩
end
section
variable {X : Cx} {Z : ZT} {e : Expr} {m mv : ME} {st : Stmt} {ms : MS} {pos pos' : Pos} {es : List Expr} {mas : MA}
theorem fz_read {σ : L2.St} {pins : List (Addr × Obj)} {S : Sto} {H : Hp} {R : MK} {u : Value} {s' : Shared} (q : EP X pins σ (MQ X.K Z S H (fzK R)) u s') : EP X pins σ (MQ X.K Z S H R) u s' := by
  obtain ⟨v, H', I', r, m, S', g, rm, rs, q⟩ := q
  cases m with
  | ref a =>
    have q : (match S' a with
      | some (.lst l) => R (.frz l) (sdel S' a)
      | _ => False) := q
    split at q
    · rename_i l ha
      obtain ⟨xs, hx, rl⟩ := rs.lst ha
      obtain ⟨od, I2⟩ := I'.lock hx (show Mut (some (HO.lst xs)) from trivial)
      unfold RM at rm
      subst rm
      exact ⟨.ref a, _, I2, r, .frz l, _, g.lockd ha hx, RM.lockd hx rl, rs.lockd hx, q⟩
    · exact q.elim
  | _ => exact ⟨v, H', I', r, _, S', g, rm, rs, q⟩
theorem ee_fz (h : EE X Z e m) : EE X Z e (fun ρ S R => m ρ S (fzK R)) :=
  ⟨fun σ H ρ S R hE hS hm pins s I => thn (h.run σ H ρ S _ hE hS hm pins s I) fun u s' q => fz_read q⟩
/-- upward -/
def upE (m : ME) : ME := fun ρ S R => ∃ R' : MK, m ρ S R' ∧ ∀ v S', R' v S' → R v S'
def upA (m : MA) : MA := fun ρ S R => ∃ R' : List MV → Sto → Prop, m ρ S R' ∧ ∀ v S', R' v S' → R v S'
def upT (m : MT) : MT := fun ρ S R => ∃ R' : Bool → Sto → Prop, m ρ S R' ∧ ∀ v S', R' v S' → R v S'
def upI (m : MI) : MI := fun ρ S R => ∃ R' : Items → Sto → Prop, m ρ S R' ∧ ∀ v S', R' v S' → R v S'
def upP (m : mPart) : mPart := fun ρ S R => ∃ R' : Option Int → Sto → Prop, m ρ S R' ∧ ∀ v S', R' v S' → R v S'
theorem MQ.imp {K : PySem.W.Frag} {S : Sto} {H : Hp} {R R' : MK} (h : ∀ v S', R' v S' → R v S') {v : V} {H' : Hp} (q : MQ K Z S H R' v H') : MQ K Z S H R v H' :=
  let ⟨m, S', a, b, c, d⟩ := q; ⟨m, S', a, b, c, h _ _ d⟩
theorem MQs.imp {K : PySem.W.Frag} {S : Sto} {H : Hp} {R R' : List MV → Sto → Prop} (h : ∀ v S', R' v S' → R v S') {v : List V} {H' : Hp} (q : MQs K Z S H R' v H') : MQs K Z S H R v H' :=
  let ⟨m, S', a, b, c, d⟩ := q; ⟨m, S', a, b, c, h _ _ d⟩
theorem MQb.imp {K : PySem.W.Frag} {S : Sto} {H : Hp} {R R' : Bool → Sto → Prop} (h : ∀ v S', R' v S' → R v S') {v : Bool} {H' : Hp} (q : MQb K Z S H R' v H') : MQb K Z S H R v H' :=
  let ⟨S', a, b, d⟩ := q; ⟨S', a, b, h _ _ d⟩
theorem ee_up (h : EE X Z e m) : EE X Z e (upE m) :=
  ⟨fun σ H ρ S R hE hS ⟨R', hm, hR⟩ pins s I => thn (h.run σ H ρ S _ hE hS hm pins s I) fun u s' ⟨v, H', I', r, q⟩ => ⟨v, H', I', r, q.imp hR⟩⟩
theorem et_up {c : Expr} {mt : MT} (h : ET X Z c mt) : ET X Z c (upT mt) :=
  ⟨fun σ H ρ S R hE hS ⟨R', hm, hR⟩ pins s I => thn (h.run σ H ρ S _ hE hS hm pins s I) fun u s' ⟨H', I', q⟩ => ⟨H', I', q.imp hR⟩⟩
theorem ea_up (h : EA X Z es mas) : EA X Z es (upA mas) :=
  ⟨PA.imp h.pa fun σ H Q ⟨ρ, S, R, hE, hS, ⟨R', hm, hR⟩, hQ⟩ => ⟨ρ, S, R', hE, hS, hm, fun v H' q => hQ v H' (q.imp hR)⟩⟩
theorem ets_up {ifs : List Expr} {mt : MT} (h : ETs X Z ifs mt) : ETs X Z ifs (upT mt) :=
  ⟨PTs.imp h.pts fun σ H Q ⟨ρ, S, R, hE, hS, ⟨R', hm, hR⟩, hQ⟩ => ⟨ρ, S, R', hE, hS, hm, fun v H' q => hQ v H' (q.imp hR)⟩⟩
theorem ei_up {tg iter : Expr} {mi : MI} (h : EI X Z tg iter mi) : EI X Z tg iter (upI mi) := by
  obtain ⟨wi, w1, w2⟩ := h.pi
  exact ⟨wi, w1, fun σ H ρ S R R' hE hS ⟨R2, hm, hR⟩ hQ => w2 σ H ρ S R2 R' hE hS hm fun J H' ⟨I, S', a, b, c, d⟩ => hQ J H' ⟨I, S', a, b, c, hR _ _ d⟩⟩
theorem eo_up {e : Option Expr} {m : mPart} (h : EO X Z e m) : EO X Z e (upP m) := by
  obtain ⟨t, w1, w2⟩ := h.po
  exact ⟨t, w1, fun σ H ρ S R Q hE hS ⟨R2, hm, hR⟩ hQ => w2 σ H ρ S R2 Q hE hS hm fun o H' ⟨S', a, b, d⟩ => hQ o H' ⟨S', a, b, hR _ _ d⟩⟩
theorem ee_imp (h : EE X Z e m) (k : ∀ ρ S R, mv ρ S R → m ρ S R) : EE X Z e mv := ⟨fun σ H ρ S R hE hS hm pins s I => h.run σ H ρ S R hE hS (k ρ S R hm) pins s I⟩
/-- a new list by value -/
theorem ee_val (h : EE X Z e m) (k : ∀ ρ S R, mv ρ S R → m ρ S (fzK R)) : EE X Z e mv := ee_imp (ee_fz h) k
/-! the displays and calls by value -/
def mLstV (ms : MA) : ME := fun ρ S R => ms ρ S fun l S1 => l.length ≤ sizeLine ∧ R (.frz l) S1
theorem ee_lstV (h : EA X Z es mas) : EE X Z (.List es pos) (mLstV mas) :=
  ee_val (ee_lst (ea_up h)) fun ρ S R hm => ⟨_, hm, fun l S1 q => ⟨q.1, fz_new q.2⟩⟩
/-- any reading, its new list by value -/
def mFz (m : ME) : ME := fun ρ S R => m ρ S (fzK R)
theorem ee_mfz (h : EE X Z e m) : EE X Z e (mFz m) := ee_fz h
def listVV : MF := fun ms S R => match ms with
  | [.tup l] => R (.frz l) S
  | [.frz l] => R (.frz l) S
  | [.ref a] => (match lookL S a with
    | some l => R (.frz l) S
    | none => False)
  | _ => False
theorem listVV_ok {ms : List MV} {S : Sto} {R : MK} (h : listVV ms S R) : listV ms S (fzK R) := by
  unfold listVV at h
  split at h
  · exact fz_new h
  · exact fz_new h
  · rename_i a
    cases e : lookL S a with
    | none => simp only [e] at h
    | some l =>
      simp only [e] at h
      simp only [listV, e]
      exact fz_new h
  · exact h.elim
theorem ee_cbV {f g : MF} (hf : ∀ ms S R, g ms S R → f ms S (fzK R)) (h : EA X Z es mas → EE X Z e (mCB f (upA mas))) (ha : EA X Z es mas) : EE X Z e (mCB g mas) :=
  ee_val (h ha) fun ρ S R hm => ⟨_, hm, fun l S1 q => hf _ _ _ q⟩
def slVV (x : MV) (lo hi : Option Int) (S : Sto) (R : MK) : Prop := match x with
  | .tup l => R (.tup (cutM l lo hi)) S
  | .ref a => (match lookL S a with
    | some l => R (.frz (cutM l lo hi)) S
    | none => False)
  | .frz l => R (.frz (cutM l lo hi)) S
  | _ => False
theorem slVV_ok {x : MV} {lo hi : Option Int} {S : Sto} {R : MK} (h : slVV x lo hi S R) : slV x lo hi S (fzK R) := by
  cases x with
  | tup l => exact h
  | ref a =>
    cases e : lookL S a with
    | none => simp only [slVV, e] at h
    | some l =>
      simp only [slVV, e] at h
      simp only [slV, e]
      exact fz_new h
  | frz l => exact fz_new (R := R) h
  | _ => exact False.elim h
def mSlV (ma : ME) (lo hi : mPart) : ME := fun ρ S R => ma ρ S fun x S1 => lo ρ S1 fun l S2 => hi ρ S2 fun u S3 => slVV x l u S3 R
theorem ee_sliceV {lo hi : Option Expr} {ml mh : mPart} {p2 : Pos} (he : EE X Z e m) (hl : EO X Z lo ml) (hh : EO X Z hi mh) : EE X Z (.Subscript e (.Slice lo hi none p2) pos) (mSlV m ml mh) :=
  ee_val (ee_slice (ee_up he) (eo_up hl) (eo_up hh)) fun ρ S R hm => ⟨_, hm, fun x S1 q => ⟨_, q, fun l S2 q => ⟨_, q, fun u S3 q => slVV_ok q⟩⟩⟩
def revVV (x : MV) (S : Sto) (R : MK) : Prop := match x with
  | .ref a => (match lookL S a with
    | some l => R (.frz l.reverse) S
    | none => False)
  | .frz l => R (.frz l.reverse) S
  | _ => False
def mRevV (ma : ME) : ME := fun ρ S R => ma ρ S fun x S1 => revVV x S1 R
theorem ee_revV {k : Nat} {p1 p2 p3 : Pos} (he : EE X Z e m) : EE X Z (.Subscript e (.Slice none none (some (.UnaryOp .USub (.Constant (.int 1) k p1) p2)) p3) pos) (mRevV m) :=
  ee_val (ee_rev (ee_up he)) fun ρ S R hm => ⟨_, hm, fun x S1 q => by
    cases x with
    | ref a =>
      cases e : lookL S1 a with
      | none => simp only [revVV, e] at q
      | some l =>
        simp only [revVV, e] at q
        simp only [e]
        exact fz_new q
    | frz l => exact fz_new (R := R) q
    | _ => exact False.elim q⟩
def addVV : M2 := fun x y S R => match x, y with
  | .int i, .int j => R (.int (i + j)) S
  | .tup l, .tup k => l.length + k.length ≤ sizeLine ∧ R (.tup (l ++ k)) S
  | .frz l, .frz k => l.length + k.length ≤ sizeLine ∧ R (.frz (l ++ k)) S
  | .ref a, .ref b => (match S a, S b with
    | some (.lst l), some (.lst k) => l.length + k.length ≤ sizeLine ∧ R (.frz (l ++ k)) S
    | _, _ => False)
  | _, _ => False
theorem addVV_ok {x y : MV} {S : Sto} {R : MK} (h : addVV x y S R) : addV x y S (fzK R) := by
  unfold addVV at h
  split at h
  · exact h
  · exact h
  · exact ⟨h.1, fz_new h.2⟩
  · rename_i a b
    split at h
    · rename_i l k e1 e2
      simp only [addV, e1, e2]
      exact ⟨h.1, fz_new h.2⟩
    · exact h.elim
  · exact h.elim
theorem ee_addV {a b : Expr} {ma mb : ME} (ha : EE X Z a ma) (hb : EE X Z b mb) : EE X Z (.BinOp a .Add b pos) (mOp addVV ma mb) :=
  ee_val (ee_op ro_add (ee_up ha) (ee_up hb)) fun ρ S R hm => ⟨_, hm, fun x S1 q => ⟨_, q, fun y S2 q => addVV_ok q⟩⟩
end
/-! comprehensions by value -/
mutual
theorem bindP_imp : ∀ (p : Pat) (v : MV) (S : Sto) (ρ : Env) {k k' : Env → Prop}, (∀ ρ, k ρ → k' ρ) → bindP p v S ρ k → bindP p v S ρ k'
  | .nm i, v, S, ρ, k, k', hk, h => by unfold bindP at h ⊢; exact hk _ h
  | .tp ps, v, S, ρ, k, k', hk, h => by
    unfold bindP at h ⊢
    cases v with
    | tup l => exact bindL_imp ps _ S ρ hk h
    | ref a =>
      dsimp only at h ⊢
      split at h
      · rename_i l e
        exact bindL_imp ps _ S ρ hk h
      · exact h.elim
    | frz l => exact bindL_imp ps _ S ρ hk h
    | _ => exact h.elim
theorem bindL_imp : ∀ (ps : List Pat) (l : List MV) (S : Sto) (ρ : Env) {k k' : Env → Prop}, (∀ ρ, k ρ → k' ρ) → bindL ps l S ρ k → bindL ps l S ρ k'
  | [], l, S, ρ, k, k', hk, h => by unfold bindL at h ⊢; exact ⟨h.1, hk _ h.2⟩
  | p :: ps, [], S, ρ, k, k', hk, h => by unfold bindL at h; exact h.elim
  | p :: ps, v :: r, S, ρ, k, k', hk, h => by
    unfold bindL at h ⊢
    exact bindP_imp p v S ρ (fun ρ' h => bindL_imp ps r S ρ' hk h) h
end
theorem lcL_up {k : List (Addr × List MV)} {pt : Pat} {tt : MT} {te : ME} {ρ : Env} {Q Q' : List MV → Sto → Prop} (hQ : ∀ l S, Q l S → Q' l S) : ∀ (vs acc : List MV) (S : Sto), lcL k pt tt te ρ Q vs acc S → lcL k pt (upT tt) (upE te) ρ Q' vs acc S
  | [], acc, S, h => by unfold lcL at h ⊢; exact ⟨h.1, hQ _ _ h.2⟩
  | v :: r, acc, S, h => by
    unfold lcL at h ⊢
    refine ⟨h.1, bindP_imp pt v S ρ (fun ρ' h => ⟨_, h, fun b S1 q => ?_⟩) h.2⟩
    cases b with
    | true => exact ⟨_, q, fun y S2 q => ⟨q.1, lcL_up hQ r _ S2 q.2⟩⟩
    | false => exact lcL_up hQ r _ S1 q
def mLcV (mi : MI) (pt : Pat) (tt : MT) (te : ME) (vs : List Nat) : ME := fun ρ S R => mi ρ S fun I S1 => lcL I.keep pt tt te (wipeM ρ vs) (fun l S2 => R (.frz l) S2) I.vs [] S1
theorem lcV_ok {mi : MI} {pt : Pat} {tt : MT} {te : ME} {vs : List Nat} {ρ : Env} {S : Sto} {R : MK} (h : mLcV mi pt tt te vs ρ S R) : mLc (upI mi) pt (upT tt) (upE te) vs ρ S (fzK R) :=
  ⟨_, h, fun I S1 q => lcL_up (fun l S2 q => fz_new q) _ _ _ q⟩
section
variable {X : Cx} {Z : ZT} {pos : Pos} {tg iter : Expr}
variable {elt : Expr} {ifs : List Expr} {scope : Scope} {own : List (Str × Nat)} {vs : List Nat} {mi : MI} {pt : Pat} {tt : MT} {te : ME}
theorem ee_lcV (hc : X.calm = true) (hN : X.N.Nodup) (hi : EI X Z tg iter mi) (ok : BlkOk X.N X.env.scope scope own)
    (hg : ∀ (s : Shared) (H : Hp) (C : Addr) (cl : List (Str × Addr)) (fp : List Addr), EG (X.blk s H scope (compEnvC scope cl C X.env) fp) Z tg pt)
    (ht : ∀ (s : Shared) (H : Hp) (C : Addr) (cl : List (Str × Addr)) (fp : List Addr), ETs (X.blk s H scope (compEnvC scope cl C X.env) fp) Z ifs tt)
    (he : ∀ (s : Shared) (H : Hp) (C : Addr) (cl : List (Str × Addr)) (fp : List Addr), EE (X.blk s H scope (compEnvC scope cl C X.env) fp) Z elt te)
    (hvs : own.map (·.2) = vs := by rfl) (hsl : ∀ j ∈ pt.slots, j ∈ vs := by decide) (hs : ∀ x, foldedSetIterable iter X.env x = pure x := by intro _; kernel_rfl) : EE X Z (.ListComp elt [⟨tg, iter, ifs, 0⟩] scope pos) (mLcV mi pt tt te vs) :=
  ee_val (ee_lc hc hN (ei_up hi) ok hg (fun a b c d f => ets_up (ht a b c d f)) (fun a b c d f => ee_up (he a b c d f)) hvs hsl hs) fun ρ S R hm => lcV_ok hm
/-- slot i is shown by value -/
def fzD (i : Nat) (k : Env → Sto → Prop) : Env → Sto → Prop := fun ρ1 S1 => ∃ (ρ : Env) (a : Addr) (l : List MV), ρ1 = ρ.set i (some (.ref a)) ∧ S1 a = some (.lst l) ∧ k (ρ.set i (some (.frz l))) (sdel S1 a)
theorem RE.setV {K : PySem.W.Frag} {H : Hp} {ρ : Env} {σ : L2.St} {i : Nat} {m m' : MV} (r : RE K H (ρ.set i (some m)) σ) (q : ∀ x, RM K H m x → RM K H m' x) : RE K H (ρ.set i (some m')) σ := by
  refine ⟨by have := r.len; rw [List.length_set] at this ⊢; exact this, fun j u e => ?_⟩
  by_cases z : i = j
  · subst z
    have hl : i < ρ.length := by
      have := (List.getElem?_eq_some_iff.mp e).1
      simpa using this
    rw [List.getElem?_set_self hl] at e
    cases e
    obtain ⟨x, e1, e2⟩ := r.at_ i m (List.getElem?_set_self hl)
    exact ⟨x, e1, q x e2⟩
  · rw [List.getElem?_set_ne z] at e
    exact r.at_ j u (by rw [List.getElem?_set_ne z]; exact e)
theorem es_fzD {st : Stmt} {ms : MS} (i : Nat) (h : ES X Z st ms) : ES X Z st (fun D ρ S => ms { D with nx := fzD i D.nx } ρ S) :=
  ⟨⟨fun pins s σ H D I ⟨ρ, S, D', hE, hS, hm, h1, h2, h3, h4⟩ => by
    refine thn (h.ps.run pins s σ H { D with nx := fun σ' H' => MQd X.K Z S H (fzD i D'.nx) σ' H' } I ⟨ρ, S, { D' with nx := fzD i D'.nx }, hE, hS, hm, fun σ' H' q => q, h2, h3, h4⟩) fun f s' q => ?_
    cases f with
    | next =>
      obtain ⟨σ', H', I', ρ', S', g, e', rs, ρ0, a, l, rfl, ha, q⟩ := q
      obtain ⟨xs, hx, rl⟩ := rs.lst ha
      obtain ⟨od, I2⟩ := I'.lock hx (show Mut (some (HO.lst xs)) from trivial)
      refine ⟨σ', _, I2, h1 _ _ ⟨_, _, g.lockd ha hx, ?_, rs.lockd hx, q⟩⟩
      refine RE.setV (m := .ref a) (e'.monoT (TK.lst hx)) fun x rx => ?_
      unfold RM at rx
      subst rx
      exact RM.lockd hx rl
    | brk => exact q
    | cont => exact q
    | ret v => exact q⟩⟩
theorem es_imp {st : Stmt} {ms ms' : MS} (h : ES X Z st ms) (k : ∀ D ρ S, ms' D ρ S → ms D ρ S) : ES X Z st ms' :=
  ⟨PS.imp h.ps fun D σ H ⟨ρ, S, D', hE, hS, hm, r⟩ => ⟨ρ, S, D', hE, hS, k _ _ _ hm, r⟩⟩
theorem es_setlcV {i : Nat} {y : Str} {py spos : Pos} (hc : X.calm = true) (hN : X.N.Nodup) (hy : X.N[i]? = some y) (hyl : X.env.scope.names.lookup y = some .local)
    (hsw : swapsWith (.ListComp elt [⟨tg, iter, ifs, 0⟩] scope pos) (some (.Name y py)) spos.line X.env = pure true) (hi : EI X Z tg iter mi) (ok : BlkOk X.N X.env.scope scope own)
    (hg : ∀ (s : Shared) (H : Hp) (C : Addr) (cl : List (Str × Addr)) (fp : List Addr), EG (X.blk s H scope (compEnvC scope cl C X.env) fp) Z tg pt)
    (ht : ∀ (s : Shared) (H : Hp) (C : Addr) (cl : List (Str × Addr)) (fp : List Addr), ETs (X.blk s H scope (compEnvC scope cl C X.env) fp) Z ifs tt)
    (he : ∀ (s : Shared) (H : Hp) (C : Addr) (cl : List (Str × Addr)) (fp : List Addr), EE (X.blk s H scope (compEnvC scope cl C X.env) fp) Z elt te)
    (hvs : own.map (·.2) = vs := by rfl) (hsl : ∀ j ∈ pt.slots, j ∈ vs := by decide) (hs : ∀ x, foldedSetIterable iter X.env x = pure x := by intro _; kernel_rfl) :
    ES X Z (.Assign [.Name y py] (.ListComp elt [⟨tg, iter, ifs, 0⟩] scope pos) spos) (msSet i (mLcV mi pt tt te vs)) :=
  es_imp (es_fzD i (es_setlc hc hN hy hyl hsw (ei_up hi) ok hg (fun a b c d f => ets_up (ht a b c d f)) (fun a b c d f => ee_up (he a b c d f)) hvs hsl hs)) fun D ρ S h =>
    ⟨_, h, fun I S1 q => lcL_up (fun l S2 q p hp => ⟨ρ, p, l, rfl, supd_same, by rw [sdel_supd hp]; exact q⟩) _ _ _ q⟩
end
end Mv

set_option Elab.async false
set_option linter.all false
set_option maxRecDepth 100000
set_option maxHeartbeats 4000000
/-! t[::-1] of a tuple. -/
namespace HT
open PySem PySem.Spec PyProof.Rows
variable {prog : Program} {w : World} {A : Around} {E : Value → Shared → Prop} {s : Shared}
theorem adjust_rev (n : Nat) : Builtin.Slice.sliceAdjust none none (-1) (n : Int) = ((n : Int) - 1, -1) := by
  unfold Builtin.Slice.sliceAdjust
  simp
theorem places_rev (n : Nat) : Builtin.Slice.slicePlaces ((n : Int) - 1) (-1) (-1) = n := by
  unfold Builtin.Slice.slicePlaces
  have h1 : ¬ ((-1 : Int) > 0) := by decide
  simp only [h1, if_false]
  by_cases h : (n : Int) - 1 > -1
  · rw [if_pos h, show (- -1 : Int) = 1 by decide, Int.ediv_one]
    omega
  · rw [if_neg h]
    omega
theorem sliceApplied_rev {sl : Addr} {vl vu vs : Value} {n : Nat} {Q : Int × Int × Nat → Shared → Prop} (hs : s.heap.IsSliceOf sl vl vu vs) (pl : IsPart vl none) (pu : IsPart vu none) (ps : IsPart vs (some (-1)))
    (h : Q ((n : Int) - 1, -1, n) s) : wpAny (model prog w) A (Builtin.Slice.sliceApplied (.ref sl) (pure (n : Int))) Q E s := by
  obtain ⟨os, hos, hcs, hds⟩ := id hs
  unfold Builtin.Slice.sliceApplied Builtin.Slice.sliceFields
  refine wpAny_bind (wpAny_bind (wpAny_field hos hds (x := vl) rfl (wpAny_bind (wpAny_field hos hds (x := vu) rfl (wpAny_bind (wpAny_field hos hds (x := vs) rfl (wpAny_pure ?_)))))))
  refine wpAny_bind (slicePart_ ps ?_)
  show wpAny _ _ (if ((-1 : Int) == 0) = true then _ else _) _ _ s
  rw [if_neg (by decide)]
  refine wpAny_bind (slicePart_ pl (wpAny_bind (slicePart_ pu (wpAny_bind (wpAny_pure ?_)))))
  show wpAny _ _ (match Builtin.Slice.sliceAdjust none none (-1) (n : Int) with | (lo, hi) => pure (lo, (-1 : Int), Builtin.Slice.slicePlaces lo hi (-1))) _ _ s
  rw [adjust_rev n]
  show wpAny _ _ (pure ((n : Int) - 1, (-1 : Int), Builtin.Slice.slicePlaces ((n : Int) - 1) (-1) (-1))) _ _ s
  rw [places_rev]
  exact wpAny_pure h
theorem filterMap_getR : ∀ (n : Nat) (xs : List Value), n ≤ xs.length → (List.range n).filterMap (fun m => xs[n - 1 - m]?) = (xs.take n).reverse
  | 0, xs, _ => by simp
  | n + 1, xs, h => by
    have ih := filterMap_getR n xs (by omega)
    rw [List.range_succ_eq_map, List.filterMap_cons, List.filterMap_map]
    have hn : n < xs.length := by omega
    have e0 : xs[n + 1 - 1 - 0]? = some xs[n] := by simp [hn]
    rw [e0]
    dsimp only
    have e1 : ((fun m => xs[n + 1 - 1 - m]?) ∘ Nat.succ) = fun m => xs[n - 1 - m]? := by
      funext m
      show xs[n + 1 - 1 - (m + 1)]? = _
      congr 1
      omega
    rw [e1, ih, List.take_succ, List.getElem?_eq_getElem hn, List.reverse_append]
    rfl
theorem pick_rev (xs : Array Value) : ((List.range xs.size).filterMap fun (m : Nat) => xs[(((xs.size : Nat) : Int) - 1 + (m : Int) * (-1)).toNat]?).toArray = xs.toList.reverse.toArray := by
  have e : (fun (m : Nat) => xs[(((xs.size : Nat) : Int) - 1 + (m : Int) * (-1)).toNat]?) = fun m => xs.toList[xs.size - 1 - m]? := by
    funext m
    have : (((xs.size : Nat) : Int) - 1 + (m : Int) * (-1)).toNat = xs.size - 1 - m := by omega
    rw [this, Array.getElem?_toList]
  rw [e, filterMap_getR xs.size xs.toList (by simp), List.take_of_length_le (by simp)]
theorem getItem_tuple_rev {t sl : Addr} {items : Array Value} {vl vu vs : Value} {Q : Value → Shared → Prop} (ht : IsTup s.heap t items) (hs : s.heap.IsSliceOf sl vl vu vs) (pl : IsPart vl none) (pu : IsPart vu none) (ps : IsPart vs (some (-1)))
    (h : Q (.ref s.heap.objs.size) { s with heap := s.heap.push { cls := .type "tuple", data := .seq items.toList.reverse.toArray } })
    (hsz : items.size ≤ sizeLine) : wpAny (model prog w) A (getItem (.ref t) (.ref sl)) Q E s := by
  have htake : sizeOk (.seq items.toList.reverse.toArray) := by
    show items.toList.reverse.toArray.size ≤ sizeLine
    rw [List.size_toArray, List.length_reverse, Array.length_toList]
    exact hsz
  obtain ⟨os, hos, hcs, hds⟩ := id hs
  have hTs : s.TypeIs (.ref sl) "slice" := ⟨os, hos, hcs⟩
  unfold getItem
  try with_reducible refine wpAny_holding ?_
  first | refine wpAny_bind (wpAny_pure ?_) | skip
  refine wpAny_bind (wpAny_sequenceKey ht.typeIs (by decide) ?_)
  refine wpAny_bind (wpAny_callSpecial?_slot (name := Str.ofString "__getitem__") ht.typeIs PyProof.Rows.slot_tuple_getitem
    (wpAny_call_entry PyProof.Rows.slot_tuple_getitem ht.typeIs entry_tuple_getitem ?_ (args_tuple_getitem _ _)))
  show wpAny _ _ (Builtin.Tuple.tupleItemsOf (.ref t) >>= _) _ _ s
  refine wpAny_bind (tupleItemsOf_ ht ?_)
  refine wpAny_bind (wpAny_typeOf hTs ?_)
  rw [if_pos (by decide)]
  refine wpAny_bind (sliceApplied_rev hs pl pu ps ?_)
  have hno : ¬ ((((items.size : Nat) : Int) - 1 == 0 && (-1 : Int) == 1 && items.size == items.size) = true) := by
    intro q
    rw [Bool.and_eq_true, Bool.and_eq_true] at q
    exact absurd q.1.2 (by decide)
  show wpAny _ _ (if (((items.size : Nat) : Int) - 1 == 0 && (-1 : Int) == 1 && items.size == items.size) = true then _ else _) _ _ s
  rw [if_neg hno, pick_rev]
  first
    | exact wpAny_bind (m := Builtin.Tuple.tupleExact _) (wpAny_newObj_type (wpAny_pure ⟨_, rfl, wpAny_pure h⟩) htake)
    | exact wpAny_bind (m := Builtin.Tuple.tupleExact _) (wpAny_newObj_type (wpAny_bind (wpAny_pure (wpAny_pure ⟨_, rfl, wpAny_pure h⟩))) htake)
    | exact wpAny_bind (wpAny_bind (m := Builtin.Tuple.tupleExact _) (wpAny_newObj_type (wpAny_pure (wpAny_pure ⟨_, rfl, wpAny_pure h⟩)) htake))
    | exact wpAny_bind (wpAny_bind (m := Builtin.Tuple.tupleExact _) (wpAny_newObj_type (wpAny_pure ⟨_, rfl, wpAny_pure h⟩) htake))
end HT
namespace Mv
open PySem PySem.Spec PyProof.Rows L2
section
variable {X : Cx} {Z : ZT} {e : Expr} {m : ME} {pos : Pos}
def tRevA (K : PySem.W.Frag) (te : TE) : TE := fun σ H Q => te σ H fun x H1 => ∃ a xs, x = .ref a ∧ ((SqL K H1 a xs ∧ ∀ p, H1 p = none → Q (.ref p) (upd H1 p (.lst xs.reverse))) ∨ (SqT K H1 a xs ∧ ∀ p, H1 p = none → Q (.ref p) (upd H1 p (.tup xs.reverse))))
theorem pe_revA {te : TE} {k : Nat} {p1 p2 p3 : Pos} (he : PE X e te) : PE X (.Subscript e (.Slice none none (some (.UnaryOp .USub (.Constant (.int 1) k p1) p2)) p3) pos) (tRevA X.K te) := by
  refine ⟨fun pins s σ H Q I h => ?_⟩
  refine Subscript_ (thn (he.run pins s σ H _ I h) fun v s1 ⟨x, H1, I1, r1, q1⟩ => ?_)
  obtain ⟨a, xs, ex, q1⟩ := q1
  subst ex
  cases r1
  have hst : PO X (some (.UnaryOp .USub (.Constant (.int 1) k p1) p2)) (tPart (tUn (rU fun i => .int (-i)) (tC (.int 1)))) := po_some (pe_un un_neg pe_int)
  refine wpAny_Slice (thn (po_none.run pins s1 σ H1 (fun o H2 => o = none ∧ H2 = H1) I1 ⟨rfl, rfl⟩) fun vl s2 ⟨l, H2, I2, pl, el, e2⟩ => ?_)
  subst el e2
  refine thn (po_none.run pins s2 σ H2 (fun o H3 => o = none ∧ H3 = H2) I2 ⟨rfl, rfl⟩) fun vu s3 ⟨u, H3, I3, pu, eu, e3⟩ => ?_
  subst eu e3
  refine thn (hst.run pins s3 σ H3 (fun o H4 => o = some (-1) ∧ H4 = H3) I3 ⟨1, rfl, -1, rfl, rfl, rfl⟩) fun vs s4 ⟨o, H4, I4, ps, eo, e4⟩ => ?_
  subst eo e4
  have I5 : Inv X pins σ H4 { s4 with heap := s4.heap.push { cls := .type "slice", data := .fields #[vl, vu, vs] } } := I4.kept (t' := s4.toks) fun b ob q => Heap.get?_push_of_some _ q
  show wpAny (model X.prog X.w) X.A (subscriptTail e (.Slice none none (some (.UnaryOp .USub (.Constant (.int 1) k p1) p2)) p3) (.ref a) (.ref s4.heap.objs.size)) (EP X pins σ Q) X.xe { s4 with heap := s4.heap.push { cls := .type "slice", data := .fields #[vl, vu, vs] } }
  rcases q1 with ⟨hx, q⟩ | ⟨hx, q⟩
  · obtain ⟨its, r, ht, hz⟩ := I5.list hx
    have hlen := r.length
    refine tail_any (ops := [.ref a, .ref s4.heap.objs.size]) ht.isList.typeIs (PySem.slot_list_getitem.lookup) ?_ (by with_unfolding_all rfl)
    refine wpAny_getItem_list_slice ht.isList (Heap.IsSliceOf.new _ vl vu vs) pl pu ps (by decide) ?_ (by rw [List.size_toArray]; omega)
    rw [PySem.W.krv_pick]
    refine ⟨.ref _, _, I5.laid (t' := s4.toks) (o := .lst xs.reverse) (fun b ob q => Heap.get?_push_of_some _ q) (Nat.le_refl _) ?_, rfl, q _ (I5.hok.fresh (Nat.le_refl _))⟩
    exact ⟨by rw [List.length_reverse]; exact hz, _, 0, r.reverse, Heap.get?_push_size _ rfl⟩
  · obtain ⟨its, r, ht, hz⟩ := I5.tuple hx
    have hlen := r.length
    refine tail_any (ops := [.ref a, .ref s4.heap.objs.size]) ht.typeIs (PyProof.Rows.slot_tuple_getitem.lookup) ?_ (by with_unfolding_all rfl)
    refine HT.getItem_tuple_rev ht (Heap.IsSliceOf.new _ vl vu vs) pl pu ps ?_ (by rw [List.size_toArray]; omega)
    refine ⟨.ref _, _, I5.laid (t' := s4.toks) (o := .tup xs.reverse) (fun b ob q => Heap.get?_push_of_some _ q) (Nat.le_refl _) ?_, rfl, q _ (I5.hok.fresh (Nat.le_refl _))⟩
    exact ⟨by rw [List.length_reverse]; exact hz, _, r.reverse, IsTup.new _ _⟩
/-- what [::-1] makes; a list by reference -/
def revA (x : MV) (S : Sto) (R : MK) : Prop := match x with
  | .tup l => R (.tup l.reverse) S
  | .ref a => (match lookL S a with
    | some l => newL l.reverse S R
    | none => False)
  | .frz l => newL l.reverse S R
  | _ => False
def mRevA (ma : ME) : ME := fun ρ S R => ma ρ S fun x S1 => revA x S1 R
theorem ee_revA {k : Nat} {p1 p2 p3 : Pos} (he : EE X Z e m) : EE X Z (.Subscript e (.Slice none none (some (.UnaryOp .USub (.Constant (.int 1) k p1) p2)) p3) pos) (mRevA m) :=
  ee_of (pe_revA he.pe) fun σ H ρ S R hE hS hm => by
    refine ⟨ρ, S, _, hE, hS, hm, fun v H1 ⟨x, S1, t1, r1, s1, q1⟩ => ?_⟩
    cases x with
    | tup l =>
      unfold RM at r1
      obtain ⟨a, xs, e1, sq, rs⟩ := r1
      exact ⟨a, xs, e1, .inr ⟨sq, fun p hp => mq_tup (fun v H' q => q.base t1) s1 rs.reverse hp q1⟩⟩
    | ref a =>
      unfold RM at r1
      cases el : lookL S1 a with
      | none =>
        simp only [revA, el] at q1
      | some l =>
        simp only [revA, el] at q1
        obtain ⟨xs, g1, g2⟩ := look_sq s1 el
        exact ⟨a, xs, r1, .inl ⟨g1, fun p hp => mq_lst (fun v H' q => q.base t1) s1 g2.reverse hp q1⟩⟩
    | frz l =>
      unfold RM at r1
      obtain ⟨a, xs, e1, sq, rs⟩ := r1
      exact ⟨a, xs, e1, .inl ⟨sq.sq, fun p hp => mq_lst (fun v H' q => q.base t1) s1 rs.reverse hp q1⟩⟩
    | _ => exact False.elim q1
/-- what [::-1] makes; a list by value -/
def revT (x : MV) (S : Sto) (R : MK) : Prop := match x with
  | .tup l => R (.tup l.reverse) S
  | .ref a => (match lookL S a with
    | some l => R (.frz l.reverse) S
    | none => False)
  | .frz l => R (.frz l.reverse) S
  | _ => False
theorem revT_ok {x : MV} {S : Sto} {R : MK} (h : revT x S R) : revA x S (fzK R) := by
  cases x with
  | tup l => exact h
  | ref a =>
    cases e : lookL S a with
    | none => simp only [revT, e] at h
    | some l =>
      simp only [revT, e] at h
      simp only [revA, e]
      exact fz_new h
  | frz l => exact fz_new (R := R) h
  | _ => exact False.elim h
def mRevT (ma : ME) : ME := fun ρ S R => ma ρ S fun x S1 => revT x S1 R
theorem ee_revT {k : Nat} {p1 p2 p3 : Pos} (he : EE X Z e m) : EE X Z (.Subscript e (.Slice none none (some (.UnaryOp .USub (.Constant (.int 1) k p1) p2)) p3) pos) (mRevT m) :=
  ee_val (ee_revA (ee_up he)) fun ρ S R hm => ⟨_, hm, fun x S1 q => revT_ok q⟩
end
/-! min and max of two ints -/
def max2V : MF := fun ms S R => match ms with
  | [.int i, .int j] => R (.int (if j > i then j else i)) S
  | _ => False
def min2V : MF := fun ms S R => match ms with
  | [.int i, .int j] => R (.int (if j < i then j else i)) S
  | _ => False
theorem cr_max2 {X : Cx} {Z : ZT} (hc : X.calm = true) : CallR X (.builtin "max") (rMC X.K Z max2V) := by
  intro pins s σ H xs us Q I rv h
  obtain ⟨ms, S, R, r, hS, hf, hQ⟩ := h
  unfold max2V at hf
  split at hf
  · obtain ⟨v, u, rfl, q1, q2⟩ := rms2 r
    unfold RM at q1 q2
    exact call_max2 hc pins s σ H _ us Q I rv ⟨_, _, by rw [q1, q2], mq_int hQ hS hf⟩
  · exact hf.elim
theorem cr_min2 {X : Cx} {Z : ZT} (hc : X.calm = true) : CallR X (.builtin "min") (rMC X.K Z min2V) := by
  intro pins s σ H xs us Q I rv h
  obtain ⟨ms, S, R, r, hS, hf, hQ⟩ := h
  unfold min2V at hf
  split at hf
  · obtain ⟨v, u, rfl, q1, q2⟩ := rms2 r
    unfold RM at q1 q2
    exact call_min2 hc pins s σ H _ us Q I rv ⟨_, _, by rw [q1, q2], mq_int hQ hS hf⟩
  · exact hf.elim
theorem eb_never {X : Cx} {Z : ZT} {sts : List Stmt} : EB X Z sts msNever := ⟨⟨fun pins s σ H D I ⟨ρ, S, D', hE, hS, hm, _⟩ => False.elim hm⟩⟩
end Mv

set_option Elab.async false
set_option linter.all false
set_option maxRecDepth 100000
set_option maxHeartbeats 4000000
namespace Mv
open PySem PySem.Spec PyProof.Rows L2
/-! a try whose body raises nothing -/
section
variable {X : Cx} {Z : ZT} {body : List Stmt} {h₀ : ExceptHandler} {hs : List ExceptHandler} {ms : MS} {pos : Pos}
theorem es_try0 (hn : ∀ e s, ¬ X.xe e s) (hb : EB X Z body ms) : ES X Z (.Try body (h₀ :: hs) [] [] pos) ms :=
  ⟨PS.imp (ps_try_never (u := tNext) hn hb.pss pss_nil) fun D σ H h => h⟩
end
end Mv

set_option Elab.async false
set_option linter.all false
set_option maxRecDepth 100000
set_option maxHeartbeats 4000000
namespace Mv
open PySem PySem.Spec PyProof.Rows L2
/-! o.f, p.g = a pair -/
def gAttr (K : PySem.W.Frag) (ta : TE) (f : Str) : TG := fun v σ H Q => ta σ H fun x H2 => ∃ a C dx fs, x = .ref a ∧ H2 a = some (.ins C dx fs) ∧ Cls K C ∧ NoAttr K C f ∧ fs.length < 1000 ∧ Q σ (upd H2 a (.ins C dx (putF f v fs)))
theorem pg_attr {X : Cx} {o : Expr} {f : Str} {pos : Pos} {ta : TE} (ho : PE X o ta) : PG X (.Attribute o f pos) (gAttr X.K ta f) := by
  refine ⟨fun pins s σ H v u Q I r h => ?_⟩
  rw [assign_Attribute]
  refine wpAny_bind (wpAny_holding (thn (ho.run pins s σ H _ I h) fun ov s1 ⟨x, H1, I1, rx, a, C, dx, fs, ex, ea, c, n, l, q⟩ => ?_))
  subst ex
  obtain rfl : ov = Value.ref a := rx
  refine wpAny_bind (wpAny_standAt (wpAny_bind (wpAny_holding (setattr_ok I1 ea c n l r fun s3 I3 => ?_))))
  exact wpAny_release ⟨σ, _, I3, q⟩
def fld2 (T : String → String → Bool) (mo : ME) (f : String) (mo' : ME) (g : String) (D : MD) (ρ : Env) : MK := fun v S1 => match v with
  | .tup [x, y] => mo ρ S1 fun o S2 => fldPut T f o x S2 fun S3 => mo' ρ S3 fun o' S4 => fldPut T g o' y S4 fun S5 => D.nx ρ S5
  | _ => False
def msFld2 (T : String → String → Bool) (mo : ME) (f : String) (mo' : ME) (g : String) (m : ME) : MS := fun D ρ S => m ρ S (fld2 T mo f mo' g D ρ)
theorem es_fld2 {X : Cx} {Z : ZT} {o o' value : Expr} {m mb mc : ME} {T : String → String → Bool} {f g : String} {k : Nat} {pos p1 p2 p3 : Pos} (hT : AtOk X.K T) (hc : X.calm = true) (ho : EE X Z o mb) (ho' : EE X Z o' mc) (hv : EE X Z value m)
    (h1 : (assignEach (.Attribute o (Str.ofString f) p1 :: [.Attribute o' (Str.ofString g) p2]) X.env).map (·.2) = assign (.Attribute o (Str.ofString f) p1) X.env :: (assignEach [.Attribute o' (Str.ofString g) p2] X.env).map (·.2) := by kernel_rfl)
    (h2 : (assignEach (.Attribute o' (Str.ofString g) p2 :: []) X.env).map (·.2) = assign (.Attribute o' (Str.ofString g) p2) X.env :: (assignEach [] X.env).map (·.2) := by kernel_rfl)
    (hn : (assignEach [.Attribute o (Str.ofString f) p1, .Attribute o' (Str.ofString g) p2] X.env).length = 2 := by kernel_rfl) (hst : (assignEach [.Attribute o (Str.ofString f) p1, .Attribute o' (Str.ofString g) p2] X.env).findIdx? (·.1) = none := by kernel_rfl)
    (hs : swapsWithSole [.Tuple [.Attribute o (Str.ofString f) p1, .Attribute o' (Str.ofString g) p2] k p3] value pos.line X.env = pure false := by kernel_rfl) (hw : swappedStores [.Tuple [.Attribute o (Str.ofString f) p1, .Attribute o' (Str.ofString g) p2] k p3] value X.env = pure none := by kernel_rfl)
    (h3 : (assignEach [.Tuple [.Attribute o (Str.ofString f) p1, .Attribute o' (Str.ofString g) p2] k p3] X.env).map (·.2) = [assign (.Tuple [.Attribute o (Str.ofString f) p1, .Attribute o' (Str.ofString g) p2] k p3) X.env] := by kernel_rfl) :
    ES X Z (.Assign [.Tuple [.Attribute o (Str.ofString f) p1, .Attribute o' (Str.ofString g) p2] k p3] value pos) (msFld2 T mb f mc g m) :=
  ⟨PS.imp (ps_asg hv.pe (pg_tup hc (pgs_cons (pg_attr ho.pe) (pgs_cons (pg_attr ho'.pe) pgs_nil h2) h1) hn hst) hs hw h3) fun D σ H ⟨ρ, S, D', hE, hS, hm, d1, d2, d3, d4⟩ => by
    refine ⟨ρ, S, _, hE, hS, hm, fun v H1 ⟨x, S1, t1, r1, s1, q1⟩ => ?_⟩
    unfold fld2 at q1
    split at q1
    · rename_i x0 y0
      unfold RM at r1
      obtain ⟨a, xs, e, sq, rs⟩ := r1
      obtain ⟨u0, u1, e1, r0, ry⟩ := rms2 rs
      subst e1
      refine ⟨a, _, e, sq, rfl, u0, [u1], rfl, ρ, S1, _, hE.mono t1, s1, q1, fun ov H2 ⟨y, S2, t2, r2, s2, q2⟩ => ?_⟩
      obtain ⟨a', C, dx, fs, S3, f1, f2, f3, f4, f5, g3, s3, q3⟩ := fld_put hT s2 r2 (r0.mono t2) q2
      refine ⟨a', C, dx, fs, f1, f2, f3, f4, f5, u1, [], rfl, ρ, S3, _, hE.mono (t1.trans (t2.trans g3)), s3, q3, fun ov' H4 ⟨y', S4, t4, r4, s4, q4⟩ => ?_⟩
      obtain ⟨a5, C5, dx5, fs5, S5, k1, k2, k3, k4, k5, g5, s5, q5⟩ := fld_put hT s4 r4 (ry.mono (t2.trans (g3.trans t4))) q4
      have gg := t1.trans (t2.trans (g3.trans (t4.trans g5)))
      exact ⟨a5, C5, dx5, fs5, k1, k2, k3, k4, k5, rfl, d1 _ _ ⟨ρ, S5, gg, hE.mono gg, s5, q5⟩⟩
    · exact q1.elim⟩
/-! C(e, .., k = v, ..), the rest keyword-only -/
structure CalN (P : Program) (w : World) (K : PySem.W.Frag) (mg : Str → Option Value) (base : Heap) (Z : ZT) (f : Addr) (ps : List Str) (n : Nat) (ks : List Str) (k : Nat) (W : MW) (gM : List MV → List MV → List MV) : Prop where
  ex : ∃ (fd : FuncData) (g : List Value → List Value → List Value) (gV : List V → List V → List V), FnOk P w K mg base CX0 k f fd ps (spM K Z ps.length W) ∧ KBn K fd ps (n + 1) ks g gV ∧
    ∀ (H : Hp) (as ms : List MV) (us zs : List V), RMs K H as us → RMs K H ms zs → RMs K H (gM as ms) (gV us zs)
  len : ∀ ms S R, W ms S R → ms.length = ps.length
def mMakeN (c : String) (n m : Nat) (W : MW) (gM : List MV → List MV → List MV) (as ms : MA) : ME := fun ρ S R => as ρ S fun us S0 => ms ρ S0 fun zs S1 => us.length = n ∧ zs.length = m ∧ ∀ p, S1 p = none → W (gM (.ref p :: us) zs) (supd S1 p (.ins c [])) fun v S2 => v = .non ∧ R (.ref p) S2
section
variable {X : Cx} {Z : ZT} {m : ME} {e : Expr} {es : List Expr} {kws : List Keyword} {mas mks : MA} {W : MW} {k k' n : Nat} {ps ks : List Str} {gM : List MV → List MV → List MV} {pos kpos : Pos} {nm : Option Str}
theorem ee_makeN {x : Str} {c : String} {f : Addr} {p : Pos} (C : CalN X.prog X.w X.K X.mg X.base Z f ps n ks k W gM) (M : Mk X.K (He.ga X.K (so c)) f) (hr : Room k' X.A) (hk : k + 1 ≤ k') (hg : Gl X x) (hm : X.mg x = some (.ref (He.ga X.K (so c)))) (ha : EA X Z (e :: es) mas) (hkw : EK X Z kws mks)
    (hall : (backToKw pos (keywordEach kws X.env)).all (·.1.isSome) = true := by kernel_rfl) (hks : (backToKw pos (keywordEach kws X.env)).filterMap (·.1) = ks := by kernel_rfl) (hdb : (x == ("__debug__" : Str)) = false := by kernel_rfl)
    (he : starEach (e :: es) X.env = (false, eval e X.env) :: starEach es X.env := by kernel_rfl)
    (hpl : ((backTo pos (starEach (e :: es) X.env)).any (·.1) || (backToKw pos (keywordEach kws X.env)).any (·.1.isNone)) = false := by kernel_rfl) :
    EE X Z (.Call (.Name x p) (e :: es) kws pos) (mMakeN c n ks.length W gM mas mks) := by
  obtain ⟨fd, g, gV, F, b, hg'⟩ := C.ex
  refine ee_of (pe_makeK M F (hr.mono hk) hg hm b pass0 ha.pa hkw.pk hall hks hdb he hpl) fun σ H ρ S R hE hS hm => ?_
  refine ⟨ρ, S, _, hE, hS, hm, fun vs H0 ⟨as, S0, t0, r0, s0, q0⟩ => ?_⟩
  refine ⟨ρ, S0, _, hE.mono t0, s0, q0, fun zs H1 ⟨ms, S1, t1, r1, s1, q1⟩ => ⟨by rw [r0.length]; exact q1.1, by rw [r1.length]; exact q1.2.1, fun y dx hy hdx hne => ?_⟩⟩
  obtain ⟨g, s2⟩ := make_st (c := c) s1 hy hdx hne
  have q2 := q1.2.2 y (s1.free hy)
  have r2 := hg' _ (.ref y :: as) ms (.ref y :: vs) zs (RMs.cons (by unfold RM; rfl) ((r0.mono t1).mono g)) (r1.mono g)
  refine ⟨?_, _, _, _, r2, s2, q2, fun v H' ⟨m, S', t', r', s', em, q'⟩ => ?_⟩
  · rw [r2.length]; exact C.len _ _ _ q2
  · subst em
    unfold RM at r'
    exact ⟨r', .ref y, S', t0.trans (t1.trans (g.trans t')), by unfold RM; rfl, s', q'⟩
end
section
variable {P : Program} {w : World} {K : PySem.W.Frag} {mg : Str → Option Value} {base : Heap} {Z : ZT} {x qual : Str} {params : Arguments} {body : List Stmt} {scope : Scope} {f : Addr} {fd : FuncData}
theorem calN_mk {N ps ks : List Str} {k : Nat} {mb : MS} {kws : List (Str × V)} (n : Nat) (F : FunD K x qual params body scope [] kws f fd) (Sc : FnScope N ps scope) (sel : List (Bool × Nat)) (ms : List (Str × V)) (dM : List MV) (hk : kws ≠ []) (hms : ∀ q ∈ ms, q ∈ kws) (hd : ∀ H, RMs K H dM (ms.map (·.2)))
    (hch : ∀ (D : Addr) (doc pm : Value) (an : Option Addr) (cdv ct : Value) (us mv ws : List Value), us.length = n + 1 → mv.length = ms.length → ws.length = ks.length →
      KwChain D ((ms.map (·.1)).zip mv) (bindArgs (PySem.W.fnOf x qual params body scope .none (.ref D) doc pm an cdv ct) ⟨us, ks.zip ws⟩) (ps.zip (us ++ selL sel mv ws)))
    (hb : ∀ (cdv : Value) (A : Around) (outer : List PySem.Env) (s : Shared) (H : Hp) (E : XK), Room k (A.deeper (envOfC qual scope s.heap.objs.size f cdv)) → EB (cxOf CX0 P w K mg base N qual scope f cdv A outer s H E).nox Z body mb) :
    CalN P w K mg base Z f ps n ks (k + 1) (defW ps.length N.length mb) (fun us zs => us ++ selL sel dM zs) := by
  obtain ⟨mv, hB⟩ := F.kbinds0 (n + 1) ks ms (fun us mv ws => us ++ selL sel mv ws) hk hms (fun a b c => a.append (vals_sel b c sel)) hch
  exact ⟨⟨fd, _, _, fn_sp F Sc hb, hB, fun H as zs us vs r1 r2 => r1.append (rms_sel (hd H) r2 sel)⟩, fun ms S R h => h.1⟩
end
/-! [e for x in a for y in b(x)] -/
def lcL2 (k : List (Addr × List MV)) (pt : Pat) (tt : MT) (mi1 : MI) (pt1 : Pat) (tt1 : MT) (te : ME) (vs1 : List Nat) (ρ : Env) (Q : List MV → Sto → Prop) : List MV → List MV → Sto → Prop
  | [], acc, S => keepOk k S ∧ Q acc S
  | v :: r, acc, S => keepOk k S ∧ bindP pt v S ρ fun ρ' => tt ρ' S fun b S1 => match b with
    | true => mi1 ρ' S1 fun I1 S2 => lcL I1.keep pt1 tt1 te (wipeM ρ' vs1) (fun acc' S3 => lcL2 k pt tt mi1 pt1 tt1 te vs1 ρ Q r acc' S3) I1.vs acc S2
    | false => lcL2 k pt tt mi1 pt1 tt1 te vs1 ρ Q r acc S1
def mLc2 (mi : MI) (pt : Pat) (tt : MT) (mi1 : MI) (pt1 : Pat) (tt1 : MT) (te : ME) (vs vs1 : List Nat) : ME := fun ρ S R => mi ρ S fun I S1 => lcL2 I.keep pt tt mi1 pt1 tt1 te vs1 (wipeM ρ vs) (fun l S2 => newL l S2 R) I.vs [] S1
theorem lc2_read {K : PySem.W.Frag} {Z : ZT} {mi mi1 : MI} {pt pt1 : Pat} {tt tt1 : MT} {te : ME} {vs vs1 : List Nat} {wi wi1 : TI} {σ : L2.St} {H : Hp} {ρ : Env} {S : Sto} {R : MK} {Q : VK}
    (w2 : ∀ σ H ρ S R R', RE K H ρ σ → RS K Z S H → mi ρ S R → (∀ J H', (∃ I S', GK K S H S' H' ∧ RS K Z S' H' ∧ JI K Z J I H' ∧ R I S') → R' J H') → wi σ H R')
    (w3 : ∀ σ H ρ S R R', RE K H ρ σ → RS K Z S H → mi1 ρ S R → (∀ J H', (∃ I S', GK K S H S' H' ∧ RS K Z S' H' ∧ JI K Z J I H' ∧ R I S') → R' J H') → wi1 σ H R') (hsl : ∀ j ∈ pt.slots, j ∈ vs) (hsl1 : ∀ j ∈ pt1.slots, j ∈ vs1)
    (hE : RE K H ρ σ) (hS : RS K Z S H) (hm : mLc2 mi pt tt mi1 pt1 tt1 te vs vs1 ρ S R) (hQ : ∀ v H', MQ K Z S H R v H' → Q v H') : tLc2 wi (gP K Z pt) (tMT K Z tt) wi1 (gP K Z pt1) (tMT K Z tt1) (tM K Z te) vs vs1 σ H Q := by
  refine w2 σ H ρ S _ _ hE hS hm fun J H1 ⟨I, S1, t1, s1, j1, q1⟩ D hD => ?_
  refine ⟨fun i n H2 => n = I.vs.length - i ∧ i ≤ I.vs.length ∧ ∃ (acc : List MV) (xs : List V) (S2 : Sto), S2 D = none ∧ H2 D = some (.lst xs) ∧ RMs K H2 acc xs ∧ RS K Z S2 H2 ∧ GK K S1 H1 S2 H2 ∧ lcL2 I.keep pt tt mi1 pt1 tt1 te vs1 (wipeM ρ vs) (fun l S2 => newL l S2 R) (I.vs.drop i) acc S2,
    ⟨_, rfl, Nat.zero_le _, [], [], S1, s1.free hD, upd_same, RMs.nil, s1.hid hD, GK.hid hD, q1⟩, ?_⟩
  rintro i n H2 ⟨rfl, hi, acc, xs, S2, nD, eD, ra, s2, g2, q2⟩
  by_cases hlt : i < I.vs.length
  · rw [List.drop_eq_getElem_cons hlt] at q2
    unfold lcL2 at q2
    obtain ⟨kp, q2⟩ := q2
    obtain ⟨go, yl⟩ := (j1 i S2 H2 g2.tk s2 kp).1 _ (List.getElem?_eq_getElem hlt)
    refine .inr ⟨go, fun H3 => ∃ (acc : List MV) (xs : List V) (S3 : Sto), S3 D = none ∧ H3 D = some (.lst xs) ∧ RMs K H3 acc xs ∧ RS K Z S3 H3 ∧ GK K S1 H1 S3 H3 ∧ lcL2 I.keep pt tt mi1 pt1 tt1 te vs1 (wipeM ρ vs) (fun l S2 => newL l S2 R) (I.vs.drop (i + 1)) acc S3,
      fun H3 ⟨a1, a2, a3, a4⟩ => ⟨_, by omega, rfl, hlt, a1, a2, a3, a4⟩, fun x H3 hy => ?_⟩
    obtain ⟨g3, s3, r3⟩ := yl x H3 hy
    have e3 : RE K H3 (wipeM ρ vs) (L2.wipe σ vs) := ((hE.mono t1).mono (g2.trans g3)).wiped vs
    refine ⟨_, wipeM ρ vs, S2, _, r3, e3, s3, q2, fun ρ4 σ4 e4 f4 l4 b4 => ⟨?_, ?_⟩⟩
    · rw [← wipe_wipe σ vs]
      exact wipe_eq l4 fun j hj => f4 j fun z => hj (hsl j z)
    · refine ⟨ρ4, S2, _, e4, s3, b4, fun b H4 ⟨S4, g4, s4, q4⟩ => ?_⟩
      have g34 := g3.trans g4
      cases b with
      | true =>
        dsimp only at q4 ⊢
        rw [if_pos rfl]
        refine w3 σ4 H4 ρ4 S4 _ _ (e4.mono g4) s4 q4 fun J1 H5 ⟨I1, S5, t5, s5, j5, q5⟩ => ?_
        have e5 := (e4.mono g4).mono t5
        have g35 := g34.trans t5
        obtain ⟨k1, k2⟩ := g35.fr D _ nD eD (fun ps z => by cases z)
        refine ⟨fun j n H6 => n = I1.vs.length - j ∧ j ≤ I1.vs.length ∧ ∃ (acc : List MV) (xs : List V) (S6 : Sto), S6 D = none ∧ H6 D = some (.lst xs) ∧ RMs K H6 acc xs ∧ RS K Z S6 H6 ∧ GK K S1 H1 S6 H6 ∧ TK K H5 H6 ∧
            lcL I1.keep pt1 tt1 te (wipeM ρ4 vs1) (fun acc' S3 => lcL2 I.keep pt tt mi1 pt1 tt1 te vs1 (wipeM ρ vs) (fun l S2 => newL l S2 R) (I.vs.drop (i + 1)) acc' S3) (I1.vs.drop j) acc S6,
          ⟨_, rfl, Nat.zero_le _, acc, xs, S5, k2, k1, ra.mono g35, s5, g2.trans g35, TK.refl, q5⟩, ?_⟩
        rintro j n H6 ⟨rfl, hj, acc, xs, S6, nD, eD, ra, s6, g6, t6, q6⟩
        by_cases hlj : j < I1.vs.length
        · rw [List.drop_eq_getElem_cons hlj] at q6
          unfold lcL at q6
          obtain ⟨kp6, q6⟩ := q6
          obtain ⟨go6, yl6⟩ := (j5 j S6 H6 t6 s6 kp6).1 _ (List.getElem?_eq_getElem hlj)
          refine .inr ⟨go6, fun H7 => ∃ (acc : List MV) (xs : List V) (S7 : Sto), S7 D = none ∧ H7 D = some (.lst xs) ∧ RMs K H7 acc xs ∧ RS K Z S7 H7 ∧ GK K S1 H1 S7 H7 ∧ TK K H5 H7 ∧
              lcL I1.keep pt1 tt1 te (wipeM ρ4 vs1) (fun acc' S3 => lcL2 I.keep pt tt mi1 pt1 tt1 te vs1 (wipeM ρ vs) (fun l S2 => newL l S2 R) (I.vs.drop (i + 1)) acc' S3) (I1.vs.drop (j + 1)) acc S7,
            fun H7 ⟨a1, a2, a3, a4⟩ => ⟨_, by omega, rfl, hlj, a1, a2, a3, a4⟩, fun x7 H7 hy7 => ?_⟩
          obtain ⟨g7, s7, r7⟩ := yl6 x7 H7 hy7
          have e7 : RE K H7 (wipeM ρ4 vs1) (L2.wipe σ4 vs1) := ((e5.monoT t6).mono g7).wiped vs1
          refine ⟨_, wipeM ρ4 vs1, S6, _, r7, e7, s7, q6, fun ρ8 σ8 e8 f8 l8 b8 => ⟨?_, ?_⟩⟩
          · rw [← wipe_wipe σ4 vs1]
            exact wipe_eq l8 fun j hj => f8 j fun z => hj (hsl1 j z)
          · refine ⟨ρ8, S6, _, e8, s7, b8, fun b H9 ⟨S9, g9, s9, q9⟩ => ?_⟩
            have g79 := g7.trans g9
            cases b with
            | true =>
              dsimp only at q9 ⊢
              rw [if_pos rfl]
              refine ⟨ρ8, S9, _, e8.mono g9, s9, q9, fun y H10 ⟨my, S10, g10, r10, s10, hl, q10⟩ => ?_⟩
              have g710 := g79.trans g10
              obtain ⟨k1, k2⟩ := g710.fr D _ nD eD (fun ps z => by cases z)
              have tk := TK.lst (K := K) (o := .lst (xs ++ [y])) k1
              exact ⟨xs, k1, by rw [ra.length]; exact hl, acc ++ [my], xs ++ [y], S10, k2, upd_same, RMs.monoT tk _ ((ra.mono g710).append (RMs.cons r10 RMs.nil)), s10.hidW k1 k2, (g6.trans g710).over hD tk, (t6.trans g710.tk).trans tk, q10⟩
            | false =>
              dsimp only at q9 ⊢
              rw [if_neg Bool.false_ne_true]
              obtain ⟨k1, k2⟩ := g79.fr D _ nD eD (fun ps z => by cases z)
              exact ⟨acc, xs, S9, k2, k1, ra.mono g79, s9, g6.trans g79, t6.trans g79.tk, q9⟩
        · have ej : j = I1.vs.length := by omega
          subst ej
          rw [List.drop_length] at q6
          unfold lcL at q6
          obtain ⟨kp6, q6⟩ := q6
          exact .inl ⟨(j5 _ S6 H6 t6 s6 kp6).2 (Nat.le_refl _), acc, xs, S6, nD, eD, ra, s6, g6, q6⟩
      | false =>
        dsimp only at q4 ⊢
        rw [if_neg Bool.false_ne_true]
        obtain ⟨k1, k2⟩ := g34.fr D _ nD eD (fun ps z => by cases z)
        exact ⟨acc, xs, S4, k2, k1, ra.mono g34, s4, g2.trans g34, q4⟩
  · have ei : i = I.vs.length := by omega
    subst ei
    rw [List.drop_length] at q2
    unfold lcL2 at q2
    obtain ⟨kp, q2⟩ := q2
    refine .inl ⟨(j1 _ S2 H2 g2.tk s2 kp).2 (Nat.le_refl _), hQ _ _ ⟨.ref D, _, t1.trans (g2.showL (l := acc) hD), by unfold RM; rfl, s2.showL eD ra, q2 D nD⟩⟩
theorem lcL2_up {k : List (Addr × List MV)} {pt pt1 : Pat} {tt tt1 : MT} {mi1 : MI} {te : ME} {vs1 : List Nat} {ρ : Env} {Q Q' : List MV → Sto → Prop} (hQ : ∀ l S, Q l S → Q' l S) : ∀ (vs acc : List MV) (S : Sto), lcL2 k pt tt mi1 pt1 tt1 te vs1 ρ Q vs acc S → lcL2 k pt (upT tt) (upI mi1) pt1 (upT tt1) (upE te) vs1 ρ Q' vs acc S
  | [], acc, S, h => by unfold lcL2 at h ⊢; exact ⟨h.1, hQ _ _ h.2⟩
  | v :: r, acc, S, h => by
    unfold lcL2 at h ⊢
    refine ⟨h.1, bindP_imp pt v S ρ (fun ρ' h => ⟨_, h, fun b S1 q => ?_⟩) h.2⟩
    cases b with
    | true => exact ⟨_, q, fun I1 S2 q => lcL_up (fun l S3 q => lcL2_up hQ r l S3 q) _ _ _ q⟩
    | false => exact lcL2_up hQ r _ S1 q
def mLc2V (mi : MI) (pt : Pat) (tt : MT) (mi1 : MI) (pt1 : Pat) (tt1 : MT) (te : ME) (vs vs1 : List Nat) : ME := fun ρ S R => mi ρ S fun I S1 => lcL2 I.keep pt tt mi1 pt1 tt1 te vs1 (wipeM ρ vs) (fun l S2 => R (.frz l) S2) I.vs [] S1
theorem lc2V_ok {mi mi1 : MI} {pt pt1 : Pat} {tt tt1 : MT} {te : ME} {vs vs1 : List Nat} {ρ : Env} {S : Sto} {R : MK} (h : mLc2V mi pt tt mi1 pt1 tt1 te vs vs1 ρ S R) : mLc2 (upI mi) pt (upT tt) (upI mi1) pt1 (upT tt1) (upE te) vs vs1 ρ S (fzK R) :=
  ⟨_, h, fun I S1 q => lcL2_up (fun l S2 q => fz_new q) _ _ _ q⟩
def tMI (K : PySem.W.Frag) (Z : ZT) (m : MI) : TI := fun σ H R' => ∃ ρ S R, RE K H ρ σ ∧ RS K Z S H ∧ m ρ S R ∧ ∀ J H', (∃ I S', GK K S H S' H' ∧ RS K Z S' H' ∧ JI K Z J I H' ∧ R I S') → R' J H'
theorem EI.tmi {X : Cx} {Z : ZT} {tg iter : Expr} {m : MI} (h : EI X Z tg iter m) : PI X tg iter (tMI X.K Z m) := by
  obtain ⟨wi, w1, w2⟩ := h.pi
  exact ⟨fun pins s σ H R I ⟨ρ, S, R0, a, b, c, d⟩ => w1.run pins s σ H R I (w2 σ H ρ S R0 R a b c d)⟩
section
variable {X : Cx} {Z : ZT} {pos : Pos} {tg iter tg1 iter1 : Expr}
variable {elt : Expr} {ifs ifs1 : List Expr} {scope : Scope} {own : List (Str × Nat)} {vs vs1 : List Nat} {mi mi1 : MI} {pt pt1 : Pat} {tt tt1 : MT} {te : ME}
theorem ee_lc2 (hc : X.calm = true) (hN : X.N.Nodup) (hi : EI X Z tg iter mi) (ok : BlkOk X.N X.env.scope scope own)
    (hg : ∀ (s : Shared) (H : Hp) (C : Addr) (cl : List (Str × Addr)) (fp : List Addr), EG (X.blk s H scope (compEnvC scope cl C X.env) fp) Z tg pt)
    (ht : ∀ (s : Shared) (H : Hp) (C : Addr) (cl : List (Str × Addr)) (fp : List Addr), ETs (X.blk s H scope (compEnvC scope cl C X.env) fp) Z ifs tt)
    (hi1 : ∀ (s : Shared) (H : Hp) (C : Addr) (cl : List (Str × Addr)) (fp : List Addr), EI (X.blk s H scope (compEnvC scope cl C X.env) fp) Z tg1 iter1 mi1)
    (hg1 : ∀ (s : Shared) (H : Hp) (C : Addr) (cl : List (Str × Addr)) (fp : List Addr), EG (X.blk s H scope (compEnvC scope cl C X.env) fp) Z tg1 pt1)
    (ht1 : ∀ (s : Shared) (H : Hp) (C : Addr) (cl : List (Str × Addr)) (fp : List Addr), ETs (X.blk s H scope (compEnvC scope cl C X.env) fp) Z ifs1 tt1)
    (he : ∀ (s : Shared) (H : Hp) (C : Addr) (cl : List (Str × Addr)) (fp : List Addr), EE (X.blk s H scope (compEnvC scope cl C X.env) fp) Z elt te)
    (hvs : own.map (·.2) = vs := by rfl) (hv : ∀ j ∈ vs1, j ∈ own.map (·.2) := by decide) (hsl : ∀ j ∈ pt.slots, j ∈ vs := by decide) (hsl1 : ∀ j ∈ pt1.slots, j ∈ vs1 := by decide) (hs : ∀ x, foldedSetIterable iter X.env x = pure x := by intro _; kernel_rfl) (hs1 : ∀ env x, foldedSetIterable iter1 env x = pure x := by intro _ _; kernel_rfl) :
    EE X Z (.ListComp elt [⟨tg, iter, ifs, 0⟩, ⟨tg1, iter1, ifs1, 0⟩] scope pos) (mLc2 mi pt tt mi1 pt1 tt1 te vs vs1) := by
  subst hvs
  exact ee_of (pe_lc2 (wi := tMI X.K Z mi) (wi1 := tMI X.K Z mi1) hc hN hi.tmi ok hv (fun a b c d f => (hg a b c d f).pg) (fun a b c d f => (ht a b c d f).pts) (fun a b c d f => (hi1 a b c d f).tmi) (fun a b c d f => (hg1 a b c d f).pg) (fun a b c d f => (ht1 a b c d f).pts) (fun a b c d f => (he a b c d f).pe) hs hs1) fun σ H ρ S R hE hS hm =>
    lc2_read (fun σ H ρ S R R' a b c d => ⟨ρ, S, R, a, b, c, d⟩) (fun σ H ρ S R R' a b c d => ⟨ρ, S, R, a, b, c, d⟩) hsl hsl1 hE hS hm fun v H' q => q
theorem ee_lc2V (hc : X.calm = true) (hN : X.N.Nodup) (hi : EI X Z tg iter mi) (ok : BlkOk X.N X.env.scope scope own)
    (hg : ∀ (s : Shared) (H : Hp) (C : Addr) (cl : List (Str × Addr)) (fp : List Addr), EG (X.blk s H scope (compEnvC scope cl C X.env) fp) Z tg pt)
    (ht : ∀ (s : Shared) (H : Hp) (C : Addr) (cl : List (Str × Addr)) (fp : List Addr), ETs (X.blk s H scope (compEnvC scope cl C X.env) fp) Z ifs tt)
    (hi1 : ∀ (s : Shared) (H : Hp) (C : Addr) (cl : List (Str × Addr)) (fp : List Addr), EI (X.blk s H scope (compEnvC scope cl C X.env) fp) Z tg1 iter1 mi1)
    (hg1 : ∀ (s : Shared) (H : Hp) (C : Addr) (cl : List (Str × Addr)) (fp : List Addr), EG (X.blk s H scope (compEnvC scope cl C X.env) fp) Z tg1 pt1)
    (ht1 : ∀ (s : Shared) (H : Hp) (C : Addr) (cl : List (Str × Addr)) (fp : List Addr), ETs (X.blk s H scope (compEnvC scope cl C X.env) fp) Z ifs1 tt1)
    (he : ∀ (s : Shared) (H : Hp) (C : Addr) (cl : List (Str × Addr)) (fp : List Addr), EE (X.blk s H scope (compEnvC scope cl C X.env) fp) Z elt te)
    (hvs : own.map (·.2) = vs := by rfl) (hv : ∀ j ∈ vs1, j ∈ own.map (·.2) := by decide) (hsl : ∀ j ∈ pt.slots, j ∈ vs := by decide) (hsl1 : ∀ j ∈ pt1.slots, j ∈ vs1 := by decide) (hs : ∀ x, foldedSetIterable iter X.env x = pure x := by intro _; kernel_rfl) (hs1 : ∀ env x, foldedSetIterable iter1 env x = pure x := by intro _ _; kernel_rfl) :
    EE X Z (.ListComp elt [⟨tg, iter, ifs, 0⟩, ⟨tg1, iter1, ifs1, 0⟩] scope pos) (mLc2V mi pt tt mi1 pt1 tt1 te vs vs1) :=
  ee_val (ee_lc2 hc hN (ei_up hi) ok hg (fun a b c d f => ets_up (ht a b c d f)) (fun a b c d f => ei_up (hi1 a b c d f)) hg1 (fun a b c d f => ets_up (ht1 a b c d f)) (fun a b c d f => ee_up (he a b c d f)) hvs hv hsl hsl1 hs hs1) fun ρ S R hm => lc2V_ok hm
end
end Mv
namespace Mv
open PySem PySem.Spec PyProof.Rows L2
/-! list(range(..)) -/
theorem rms_rg {K : PySem.W.Frag} {H : Hp} (a b : Int) : RMs K H (rngM a (b - a).toNat) (rgV a b) := by
  unfold rngM rgV
  generalize List.range (b - a).toNat = l
  induction l with
  | nil => exact RMs.nil
  | cons k l ih => exact RMs.cons (by unfold RM; rfl) ih
def lsRg (i j : Int) (R : MK) : Sto → Prop := fun S => RgOk i j ∧ newL (rngM i (j - i).toNat) S R
def kLsR1 (R : MK) : MK := fun v S1 => match v with
  | .int n => lsRg 0 n R S1
  | _ => False
def kLsR2 (x : MV) (R : MK) : MK := fun y S2 => match x, y with
  | .int i, .int j => lsRg i j R S2
  | _, _ => False
def mLsR1 (m : ME) : ME := fun ρ S R => m ρ S (kLsR1 R)
def mLsR2 (ma mb : ME) : ME := fun ρ S R => ma ρ S fun x S1 => mb ρ S1 (kLsR2 x R)
section
variable {X : Cx} {Z : ZT} {a b : Expr} {m ma mb : ME} {p pos p2 pos2 : Pos}
theorem ee_lsR1 (hc : X.calm = true) (hl : Gl X "list") (hml : X.mg "list" = none) (hr : Gl X "range") (hmr : X.mg "range" = none) (ha : EE X Z a m)
    (na : starEach [a] X.env = (false, eval a X.env) :: starEach [] X.env := by kernel_rfl) (ne : starEach [.Call (.Name "range" p2) [a] [] pos2] X.env = (false, eval (.Call (.Name "range" p2) [a] [] pos2) X.env) :: starEach [] X.env := by kernel_rfl) :
    EE X Z (.Call (.Name "list" p) [.Call (.Name "range" p2) [a] [] pos2] [] pos) (mLsR1 m) :=
  ee_of (pe_listRg hc hl hml (prg_1 hr hmr ha.pe na) ne) fun σ H ρ S R hE hS hm => by
    refine ⟨ρ, S, _, hE, hS, hm, fun v H1 ⟨x, S1, t1, r1, s1, q1⟩ => ?_⟩
    unfold kLsR1 at q1
    split at q1
    · rename_i n
      unfold RM at r1
      exact ⟨n, r1, q1.1, fun q hq => mq_lst (fun v H' q => q.base t1) s1 (rms_rg 0 n) hq q1.2⟩
    · exact q1.elim
theorem ee_lsR2 (hc : X.calm = true) (hl : Gl X "list") (hml : X.mg "list" = none) (hr : Gl X "range") (hmr : X.mg "range" = none) (ha : EE X Z a ma) (hb : EE X Z b mb)
    (na : starEach [a, b] X.env = (false, eval a X.env) :: starEach [b] X.env := by kernel_rfl) (nb : starEach [b] X.env = (false, eval b X.env) :: starEach [] X.env := by kernel_rfl) (hp : (backTo pos2 (starEach [b] X.env)).any (·.1) = false := by kernel_rfl)
    (ne : starEach [.Call (.Name "range" p2) [a, b] [] pos2] X.env = (false, eval (.Call (.Name "range" p2) [a, b] [] pos2) X.env) :: starEach [] X.env := by kernel_rfl) :
    EE X Z (.Call (.Name "list" p) [.Call (.Name "range" p2) [a, b] [] pos2] [] pos) (mLsR2 ma mb) :=
  ee_of (pe_listRg hc hl hml (prg_2 hr hmr ha.pe hb.pe na nb hp) ne) fun σ H ρ S R hE hS hm => by
    refine ⟨ρ, S, _, hE, hS, hm, fun v H1 ⟨x, S1, t1, r1, s1, q1⟩ => ?_⟩
    refine ⟨ρ, S1, _, hE.mono t1, s1, q1, fun u H2 ⟨y, S2, t2, r2, s2, q2⟩ => ?_⟩
    unfold kLsR2 at q2
    split at q2
    · rename_i i j _
      unfold RM at r1 r2
      exact ⟨i, j, r1, r2, q2.1, fun q hq => mq_lst (fun v H' q => q.base (t1.trans t2)) s2 (rms_rg i j) hq q2.2⟩
    · exact q2.elim
def lsRgV (i j : Int) (R : MK) : Sto → Prop := fun S => RgOk i j ∧ R (.frz (rngM i (j - i).toNat)) S
def kLsV1 (R : MK) : MK := fun v S1 => match v with
  | .int n => lsRgV 0 n R S1
  | _ => False
def kLsV2 (x : MV) (R : MK) : MK := fun y S2 => match x, y with
  | .int i, .int j => lsRgV i j R S2
  | _, _ => False
def mLsV1 (m : ME) : ME := fun ρ S R => m ρ S (kLsV1 R)
def mLsV2 (ma mb : ME) : ME := fun ρ S R => ma ρ S fun x S1 => mb ρ S1 (kLsV2 x R)
theorem ee_lsV1 (hc : X.calm = true) (hl : Gl X "list") (hml : X.mg "list" = none) (hr : Gl X "range") (hmr : X.mg "range" = none) (ha : EE X Z a m)
    (na : starEach [a] X.env = (false, eval a X.env) :: starEach [] X.env := by kernel_rfl) (ne : starEach [.Call (.Name "range" p2) [a] [] pos2] X.env = (false, eval (.Call (.Name "range" p2) [a] [] pos2) X.env) :: starEach [] X.env := by kernel_rfl) :
    EE X Z (.Call (.Name "list" p) [.Call (.Name "range" p2) [a] [] pos2] [] pos) (mLsV1 m) :=
  ee_val (ee_lsR1 hc hl hml hr hmr (ee_up ha) na ne) fun ρ S R hm => ⟨_, hm, fun x S1 q => by
    unfold kLsV1 at q
    unfold kLsR1
    split at q
    · exact ⟨q.1, fz_new q.2⟩
    · exact q.elim⟩
theorem ee_lsV2 (hc : X.calm = true) (hl : Gl X "list") (hml : X.mg "list" = none) (hr : Gl X "range") (hmr : X.mg "range" = none) (ha : EE X Z a ma) (hb : EE X Z b mb)
    (na : starEach [a, b] X.env = (false, eval a X.env) :: starEach [b] X.env := by kernel_rfl) (nb : starEach [b] X.env = (false, eval b X.env) :: starEach [] X.env := by kernel_rfl) (hp : (backTo pos2 (starEach [b] X.env)).any (·.1) = false := by kernel_rfl)
    (ne : starEach [.Call (.Name "range" p2) [a, b] [] pos2] X.env = (false, eval (.Call (.Name "range" p2) [a, b] [] pos2) X.env) :: starEach [] X.env := by kernel_rfl) :
    EE X Z (.Call (.Name "list" p) [.Call (.Name "range" p2) [a, b] [] pos2] [] pos) (mLsV2 ma mb) :=
  ee_val (ee_lsR2 hc hl hml hr hmr (ee_up ha) (ee_up hb) na nb hp ne) fun ρ S R hm => ⟨_, hm, fun x S1 q => ⟨_, q, fun y S2 q => by
    unfold kLsV2 at q
    unfold kLsR2
    split at q
    · exact ⟨q.1, fz_new q.2⟩
    · exact q.elim⟩⟩
end
end Mv
namespace Mv
open PySem PySem.Spec PyProof.Rows L2
theorem ee_listVV {X : Cx} {Z : ZT} {a : Expr} {mas : MA} {p pos : Pos} (hg : Gl X "list") (hm : X.mg "list" = none) (ha : EA X Z [a] mas)
    (he : starEach (a :: []) X.env = (false, eval a X.env) :: starEach [] X.env := by kernel_rfl) (hpl : (backTo pos (starEach [] X.env)).any (·.1) = false := by kernel_rfl) : EE X Z (.Call (.Name "list" p) [a] [] pos) (mCB listVV mas) :=
  ee_cbV (fun _ _ _ => listVV_ok) (fun h => ee_callTy cr_list hg hm (by decide +kernel) (ea_up h) (he := he) (hpl := hpl)) ha
end Mv

set_option Elab.async false
set_option linter.all false
set_option maxRecDepth 100000
set_option maxHeartbeats 4000000
namespace AutoSeq1x
open PySem PySem.Spec PyProof.Rows L2 AutoSeq1
theorem list_extend_any (l : Addr) (items : Array Value) (n : Nat) (b : Addr) (items2 : Array Value) (n2 : Nat) (o2 : Obj) (k1 : o2.cls = .type "list") (k2 : o2.dict = none) (k3 : o2.data = .seq items2 n2) (hc0 : ¬(!items.isEmpty && Builtin.List.listTooLong (items.size + items2.size)) = true) (hc1 : items.size ≤ sizeLine) (hs2 : items.size + items2.size ≤ sizeLine + 1) :
    Meets (Builtin.«list.extend» ⟨[.ref l, .ref b], []⟩) (fun _ R s => s.heap.get? l = some { cls := .type "list", dict := none, data := .seq items n, slots := #[] } ∧ s.heap.get? b = some o2 ∧ R (.ok (.ret Value.none)) { s with heap := s.heap.update l (Obj.mapSeq fun x => x ++ items2), toks := s.toks }) :=
  .of_wp fun prog w A R s h => by
    obtain ⟨c2, d2, dt2, sl2⟩ := o2
    cases k1; cases k2; cases k3
    obtain ⟨hp, g, d, tk, os⟩ := s; obtain ⟨hl, hb, h⟩ := h; have f1 := AutoSeq1.idx_int; have f2 := AutoSeq1.sub_tuple_tuple; have f3 := AutoSeq1.sub_list_list; have f4 := AutoSeq1.sub_tuple_list; have f5 := AutoSeq1.sub_list_tuple;
    have hz' : (items ++ items2).size ≤ sizeLine + 1 := by rw [Array.size_append]; exact hs2
    wp_walk using (wpAny_updateSeq hl rfl (hz := hc1) (_hz' := hz')), wpAny_loadPart' hl, wpAny_loadPart' hb; exact ⟨_, rfl, h⟩
end AutoSeq1x
namespace Mv
open PySem PySem.Spec PyProof.Rows L2
/-! l.extend(k), k a list that is not written any more -/
def rExtendF (K : PySem.W.Frag) : V → List V → Hp → VK → Prop := fun x vs H Q => ∃ l b xs zs, x = .ref l ∧ vs = [.ref b] ∧ H l = some (.lst xs) ∧ SqL K H b zs ∧ xs.length + zs.length ≤ sizeLine ∧ Q .non (upd H l (.lst (xs ++ zs)))
theorem mt_extendF {X : Cx} : MtM X "list.extend" (rExtendF X.K) := by
  intro pins s σ H x vs v us Q I rx rv h
  obtain ⟨l, b, xs, zs, rfl, rfl, hH, hB, hz, q⟩ := h
  cases rx
  obtain ⟨u, rfl, ru⟩ := rv.one
  cases ru
  obtain ⟨z, its, n, r, hl, e⟩ := I.lstM hH
  obtain ⟨its2, r2, pl, hz2⟩ := I.list hB
  obtain ⟨o2, n2, e2, c1, c2, c3⟩ := pl
  have hl2 := r2.length
  have hl1 := r.length
  have hsz : its.toArray.size + its2.toArray.size ≤ sizeLine := by rw [List.size_toArray, List.size_toArray]; omega
  have hlong : ¬ (!its.toArray.isEmpty && Builtin.List.listTooLong (its.toArray.size + its2.toArray.size)) = true := by
    rw [notLongL hsz, Bool.and_false]
    exact Bool.false_ne_true
  refine call_meets F.slot_list_extend ⟨_, e, rfl⟩ F.entry_list_extend (F.args_list_extend_2 _ _)
    (AutoSeq1x.list_extend_any l its.toArray n b its2.toArray n2 o2 c1 c2 c3 hlong (by rw [List.size_toArray]; omega) (by omega)) ⟨e, e2, ?_⟩
  refine ⟨.non, _, I.lset (its' := its ++ its2) hH e (by simp) (r.append r2) ?_, rfl, q⟩
  rw [List.length_append]
  omega
def extendVV : MB := fun x vs S R => match x, vs with
  | .ref a, [.frz k] => (match S a with
    | some (.lst l) => l.length + k.length ≤ sizeLine ∧ R .non (supd S a (.lst (l ++ k)))
    | _ => False)
  | x, vs => extendV x vs S R
theorem mr_extendVV {X : Cx} {Z : ZT} : MtR X "list.extend" (rMB X.K Z extendVV) := by
  intro pins s σ H x vs v us Q I rx rv h
  obtain ⟨mx, ms, S, R, r1, r2, hS, hf, hQ⟩ := h
  unfold extendVV at hf
  split at hf
  · rename_i a k
    split at hf
    · rename_i l e
      obtain ⟨u, rfl, q⟩ := rms1 r2
      unfold RM at r1 q
      obtain ⟨xs, h1, h2⟩ := hS.lst e
      obtain ⟨b, ys, e2, sq, rs⟩ := q
      exact mt_extendF pins s σ H x _ v us Q I rx rv ⟨a, b, xs, ys, r1, by rw [e2], h1, sq.sq, by rw [h2.length, rs.length]; exact hf.1, mq_setL hQ hS e h1 (h2.append rs) (by unfold RM; rfl) hf.2⟩
    · exact hf.elim
  · exact mr_extend pins s σ H x vs v us Q I rx rv ⟨mx, ms, S, R, r1, r2, hS, hf, hQ⟩
end Mv

set_option Elab.async false
set_option linter.all false
set_option maxRecDepth 100000
set_option maxHeartbeats 4000000
namespace Mv
open PySem PySem.Spec PyProof.Rows L2
/-! list.count of a text in a list of texts; min of a tuple of ints -/
def rCountS (K : PySem.W.Frag) : V → List V → Hp → VK → Prop := fun x vs H Q => ∃ (a : Addr) (ys : List Str) (k : Str), x = .ref a ∧ vs = [.str k] ∧ SqL K H a (ys.map V.str) ∧ Q (.int (Spec.countIn (.str k) (ys.map PyData.str))) H
theorem mt_countS {X : Cx} : MtM X "list.count" (rCountS X.K) := by
  intro pins s σ H x xs v us Q I rx rxs h
  obtain ⟨a, ys, k, rfl, rfl, hs, q⟩ := h
  cases rx
  obtain ⟨u, rfl, ru⟩ := rxs.one
  obtain ⟨t, rfl⟩ := ru
  obtain ⟨its, rv, hl, _⟩ := I.list hs
  exact count_list_strs hl.isList (Vals.strs rv) ⟨.int _, H, I.tok _, ⟨_, rfl⟩, q⟩
def countV : MB := fun x vs S R => match x, vs with
  | .frz l, [.str s] => ∃ ss : List String, l = ss.map .str ∧ R (.int (ss.count s : Nat)) S
  | _, _ => False
theorem count_so (s : String) : ∀ ss : List String, Spec.countIn (.str (so s)) ((ss.map so).map PyData.str) = ((ss.count s : Nat) : Int)
  | [] => rfl
  | t :: ss => by
    show (if Spec.same (.str (so t)) (.str (so s)) = true then (1 : Int) else 0) + Spec.countIn (.str (so s)) ((ss.map so).map PyData.str) = _
    have e : Spec.same (.str (so t)) (.str (so s)) = (t == s) := so_beq t s
    rw [count_so s ss, e, List.count_cons]
    by_cases h : (t == s) = true
    · rw [if_pos h, if_pos h]; omega
    · rw [if_neg h, if_neg h]; omega
theorem rms_strs {K : PySem.W.Frag} {H : Hp} : ∀ {ss : List String} {xs : List V}, RMs K H (ss.map .str) xs → xs = (ss.map so).map V.str
  | [], xs, h => by unfold RMs at h; exact h
  | s :: ss, xs, h => by
    rw [List.map_cons] at h
    unfold RMs at h
    obtain ⟨x, r, rfl, h1, h2⟩ := h
    unfold RM at h1
    rw [h1, rms_strs h2]
    rfl
theorem rms_ints' {K : PySem.W.Frag} {H : Hp} : ∀ {ss : List Int} {xs : List V}, RMs K H (ss.map .int) xs → xs = ss.map V.int
  | [], xs, h => by unfold RMs at h; exact h
  | s :: ss, xs, h => by
    rw [List.map_cons] at h
    unfold RMs at h
    obtain ⟨x, r, rfl, h1, h2⟩ := h
    unfold RM at h1
    rw [h1, rms_ints' h2]
    rfl
theorem mr_count {X : Cx} {Z : ZT} : MtR X "list.count" (rMB X.K Z countV) := by
  intro pins s σ H x vs v us Q I rx rv h
  obtain ⟨mx, ms, S, R, r1, r2, hS, hf, hQ⟩ := h
  unfold countV at hf
  split at hf
  · rename_i l k
    obtain ⟨ss, rfl, hf⟩ := hf
    obtain ⟨u, rfl, q⟩ := rms1 r2
    unfold RM at r1 q
    obtain ⟨a, xs, e, sq, rs⟩ := r1
    have ex := rms_strs rs
    subst ex
    exact mt_countS pins s σ H x _ v us Q I rx rv ⟨a, ss.map so, so k, e, by rw [q], sq.sq, by rw [count_so]; exact mq_int hQ hS hf⟩
  · exact hf.elim
/-! min of a tuple of ints -/
def rMinT (K : PySem.W.Frag) : List V → Hp → VK → Prop := fun vs H Q => ∃ (a : Addr) (n : Int) (ns : List Int), vs = [V.ref a] ∧ SqT K H a ((n :: ns).map V.int) ∧ Q (.int (ns.foldl min n)) H
theorem reads_ints {h : Heap} : ∀ {us : List Value} {ns : List Int}, IntsAre us ns → ReadsAll h us (ns.map .int) []
  | _, _, .nil => .nil
  | _, _, .cons _ _ r => .cons (as := []) (bs := []) (.int _ _) (reads_ints r)
theorem depth_ints : ∀ ns : List Int, PyData.depthAll (ns.map .int) ≤ 1
  | [] => by simp [PyData.depthAll]
  | n :: ns => by
    have := depth_ints ns
    simp only [List.map_cons, PyData.depthAll, PyData.depth]
    omega
theorem cr_minT {X : Cx} (hc : X.calm = true) (hu : X.A.units + 65 < cLine) : CallR X (.builtin "min") (rMinT X.K) := by
  intro pins s σ H vs us Q I r h
  obtain ⟨a, n, ns, rfl, hs, q⟩ := h
  obtain ⟨its, rv, hl, _⟩ := I.tuple hs
  rw [Vals.ref1 r]
  refine PySem.W.min_tuple_data (I.ok.hd hc) hl (reads_ints rv.ints) ⟨?_, ?_⟩ ?_ fun i v h' tk bs hv hr hk => ?_
  · intro x hx y hy
    have key : ∀ z ∈ PyData.int n :: ns.map PyData.int, ∃ i, z = .int i := fun z hz => by
      rcases List.mem_cons.mp hz with rfl | hz
      · exact ⟨_, rfl⟩
      · obtain ⟨i, _, rfl⟩ := List.mem_map.mp hz
        exact ⟨_, rfl⟩
    obtain ⟨i, rfl⟩ := key x hx
    obtain ⟨j, rfl⟩ := key y hy
    rfl
  · intro x hx e
    subst e
    rcases List.mem_cons.mp hx with hx | hx
    · cases hx
    · obtain ⟨i, _, e⟩ := List.mem_map.mp hx
      cases e
  · have := depth_ints (n :: ns)
    rw [List.map_cons] at this
    omega
  · rw [PySem.W.minD_ints] at hr
    cases hr
    exact ⟨.int _, H, I.kept hk, ⟨_, rfl⟩, q⟩
def minTV : MF := fun ms S R => match ms with
  | [.tup l] => ∃ (n : Int) (ns : List Int), l = (n :: ns).map .int ∧ R (.int (ns.foldl min n)) S
  | _ => False
theorem cr_minTV {X : Cx} {Z : ZT} (hc : X.calm = true) (hu : X.A.units + 65 < cLine) : CallR X (.builtin "min") (rMC X.K Z minTV) := by
  intro pins s σ H xs us Q I rv h
  obtain ⟨ms, S, R, r, hS, hf, hQ⟩ := h
  unfold minTV at hf
  split at hf
  · rename_i l
    obtain ⟨n, ns, rfl, hf⟩ := hf
    obtain ⟨v, rfl, q1⟩ := rms1 r
    unfold RM at q1
    obtain ⟨a, ys, e, sq, rs⟩ := q1
    have ex := rms_ints' rs
    subst ex
    exact cr_minT hc hu pins s σ H _ us Q I rv ⟨a, n, ns, by rw [e], sq, mq_int hQ hS hf⟩
  · exact hf.elim
/-! methods of lists by value -/
section
variable {X : Cx} {Z : ZT}
def isLV (S : Sto) (x : MV) : Prop := match x with
  | .frz _ => True
  | x => isL S x
theorem isLV_ty {K : PySem.W.Frag} {S : Sto} {H : Hp} {x : MV} {v : V} (hS : RS K Z S H) (r : RM K H x v) (h : isLV S x) : tyV K "list" v H := by
  cases x with
  | frz l =>
    unfold RM at r
    obtain ⟨a, xs, e, sq, _⟩ := r
    subst e
    exact .inl ⟨rfl, xs, sq.sq⟩
  | ref a => exact isL_ty hS r h
  | _ => exact False.elim h
def mBMV (f : MB) (mo : ME) (ms : MA) : ME := fun ρ S R => mo ρ S fun x S1 => isLV S1 x ∧ ms ρ S1 fun vs S2 => f x vs S2 R
theorem ee_bmV {o e : Expr} {es : List Expr} {m : ME} {mas : MA} {name : Str} {id : String} {f : MB} {apos cpos : Pos} (pa : PlainAttrs "list") (slot : Slot "list" name id) (hty : typeOf (.builtin id) = pure (.type "method_descriptor")) (hm : MtR X id (rMB X.K Z f)) (ho : EE X Z o m) (ha : EA X Z (e :: es) mas)
    (hbase : attributeBase o name X.env (eval o X.env) = eval o X.env := by kernel_rfl)
    (hfew : ((backTo cpos (starEach (e :: es) X.env)).all (fun x => !x.1) && (backToKw cpos (keywordEach [] X.env)).all (fun x => x.1.isSome)
      && decide ((e :: es).length + ([] : List Keyword).length + (if ([] : List Keyword).isEmpty then 0 else 1) < 30)) = true := by kernel_rfl)
    (hline : (apos.endLine == cpos.line) = true := by kernel_rfl) (hs : starEach (e :: es) X.env = (false, eval e X.env) :: starEach es X.env := by kernel_rfl) (hplain : (backTo cpos (starEach es X.env)).any (·.1) = false := by kernel_rfl) :
    EE X Z (.Call (.Attribute o name apos) (e :: es) [] cpos) (mBMV f m mas) :=
  ee_of (pe_bm pa slot hty hm ho.pe ha.pa hbase hfew hline hs hplain) fun σ H ρ S R hE hS hm => by
    refine ⟨ρ, S, _, hE, hS, hm, fun v H1 ⟨x, S1, t1, r1, s1, l1, q1⟩ => ⟨isLV_ty s1 r1 l1, ρ, S1, _, hE.mono t1, s1, q1, fun vs H2 ⟨ms, S2, t2, r2, s2, q2⟩ => ?_⟩⟩
    exact ⟨x, ms, S2, R, r1.mono t2, r2, s2, q2, fun v H' q => q.base (t1.trans t2)⟩
end
end Mv

set_option Elab.async false
set_option linter.all false
set_option maxRecDepth 100000
set_option maxHeartbeats 4000000
namespace Mv
open PySem PySem.Spec PyProof.Rows L2
/-! a pair of an int and a list that may be written, compared -/
def pairD (S : Sto) (m : MV) : Option PyData := match m with
  | .tup [.int i, .ref a] => (match lookL S a with
    | some l => if fit (.tup [.int i, .frz l]) 60 = true then some (pd (.tup [.int i, .frz l])) else none
    | none => none)
  | m => dat S m
theorem pair_dp {K : PySem.W.Frag} {Z : ZT} {S : Sto} {H : Hp} (r : RS K Z S H) {m : MV} {v : V} {d : PyData} (e : pairD S m = some d) (q : RM K H m v) : Dp K H v d ∧ SeqAt.shaped d = true := by
  unfold pairD at e
  split at e
  · rename_i i a
    split at e
    · rename_i l hl
      split at e
      · rename_i hf
        cases e
        refine ⟨?_, fit_shaped hf⟩
        unfold RM at q
        obtain ⟨b, xs, rfl, s, q⟩ := q
        unfold RMs at q
        obtain ⟨x1, r1, rfl, q1, q2⟩ := q
        unfold RMs at q2
        obtain ⟨x2, r2, rfl, q3, q4⟩ := q2
        unfold RMs at q4
        subst q4
        unfold RM at q1 q3
        subst q1
        subst q3
        obtain ⟨ys, sq, rs⟩ := look_sq r hl
        have hfl : fits l 58 = true := by
          simp only [fit, fits, Bool.and_eq_true, Bool.and_true] at hf
          exact hf.2
        have e1 : pd (.tup [.int i, .frz l]) = .tuple [.int i, .list (pds l)] := by simp only [pd, pds]
        rw [e1]
        exact .tup s (.cons (.int i) (.cons (.lst sq (dps_of l 58 hfl rs)) .nil))
      · cases e
    · cases e
  · exact dat_dp r e q
def neVX : M2 := fun x y S R => match pairD S x, pairD S y with
  | some d, some e => R (.bl (!PyData.eqv d e)) S
  | _, _ => False
theorem ro_neX {X : Cx} {Z : ZT} (hu : X.A.units + 64 < cLine) : OpR X (compareOp .NotEq) (rM X.K Z neVX) := by
  intro pins s σ H x y v u Q I rx ry h
  obtain ⟨mx, my, S, R, r1, r2, hS, hf, hQ⟩ := h
  unfold neVX at hf
  split at hf
  · rename_i d e e1 e2
    obtain ⟨d1, s1⟩ := pair_dp hS e1 r1
    obtain ⟨d2, s2⟩ := pair_dp hS e2 r2
    exact op_neD hu pins s σ H x y v u Q I rx ry ⟨d, e, d1, d2, s1, s2, mq_bl hQ hS hf⟩
  · exact hf.elim
end Mv

set_option Elab.async false
set_option linter.all false
set_option maxRecDepth 100000
set_option maxHeartbeats 4000000
/-! Dicts whose keys are tuples: {k: v}, {}, in, d[k] = v, d[k]. -/
namespace Mv
open PySem PySem.Spec PyProof.Rows L2
mutual
theorem keyF_depth : ∀ (m : MV) (n : Nat), keyF m n = true → (keyN m).depth ≤ n
  | .non, n, _ => Nat.zero_le _
  | .int i, n, _ => Nat.zero_le _
  | .tup l, 0, h => by simp [keyF] at h
  | .tup l, n + 1, h => by
    unfold keyF at h
    unfold keyN NestedKey.depth
    have := keyFs_depth l n h
    omega
  | .bl _, n, h => by simp [keyF] at h
  | .str _, n, h => by simp [keyF] at h
  | .ref _, n, h => by simp [keyF] at h
  | .frz _, n, h => by simp [keyF] at h
theorem keyFs_depth : ∀ (l : List MV) (n : Nat), keyFs l n = true → NestedKey.depthAll (keyNs l) ≤ n
  | [], n, _ => Nat.zero_le _
  | m :: l, n, h => by
    unfold keyFs at h
    rw [Bool.and_eq_true] at h
    unfold keyNs NestedKey.depthAll
    have := keyF_depth m n h.1
    have := keyFs_depth l n h.2
    omega
end
mutual
theorem hash_free (w w' : World) : ∀ m : MV, (keyN m).hash w = (keyN m).hash w'
  | .non => rfl
  | .int i => rfl
  | .tup l => by
    unfold keyN NestedKey.hash
    rw [hashes_free w w' l]
  | .bl _ => rfl
  | .str _ => rfl
  | .ref _ => rfl
  | .frz _ => rfl
theorem hashes_free (w w' : World) : ∀ l : List MV, NestedKey.hashes w (keyNs l) = NestedKey.hashes w' (keyNs l)
  | [] => rfl
  | m :: l => by
    unfold keyNs NestedKey.hashes
    rw [hash_free w w' m, hashes_free w w' l]
end
mutual
theorem keyN_inj : ∀ (m k : MV) (n n' : Nat), keyF m n = true → keyF k n' = true → keyN m = keyN k → m = k
  | .non, .non, _, _, _, _, _ => rfl
  | .non, .int _, _, _, _, _, h => by simp [keyN] at h
  | .non, .tup _, _, _, _, _, h => by simp [keyN] at h
  | .int _, .non, _, _, _, _, h => by simp [keyN] at h
  | .int i, .int j, _, _, _, _, h => by simp only [keyN, NestedKey.num.injEq] at h; rw [h]
  | .int _, .tup _, _, _, _, _, h => by simp [keyN] at h
  | .tup _, .non, _, _, _, _, h => by simp [keyN] at h
  | .tup _, .int _, _, _, _, _, h => by simp [keyN] at h
  | .tup l, .tup k, 0, _, h1, _, _ => by simp [keyF] at h1
  | .tup l, .tup k, n + 1, 0, _, h2, _ => by simp [keyF] at h2
  | .tup l, .tup k, n + 1, n' + 1, h1, h2, h => by
    unfold keyF at h1 h2
    unfold keyN at h
    rw [keyNs_inj l k n n' h1 h2 (NestedKey.tup.inj h)]
  | .bl _, _, _, _, h1, _, _ => by simp [keyF] at h1
  | .str _, _, _, _, h1, _, _ => by simp [keyF] at h1
  | .ref _, _, _, _, h1, _, _ => by simp [keyF] at h1
  | .frz _, _, _, _, h1, _, _ => by simp [keyF] at h1
  | .non, .bl _, _, _, _, h2, _ => by simp [keyF] at h2
  | .non, .str _, _, _, _, h2, _ => by simp [keyF] at h2
  | .non, .ref _, _, _, _, h2, _ => by simp [keyF] at h2
  | .non, .frz _, _, _, _, h2, _ => by simp [keyF] at h2
  | .int _, .bl _, _, _, _, h2, _ => by simp [keyF] at h2
  | .int _, .str _, _, _, _, h2, _ => by simp [keyF] at h2
  | .int _, .ref _, _, _, _, h2, _ => by simp [keyF] at h2
  | .int _, .frz _, _, _, _, h2, _ => by simp [keyF] at h2
  | .tup _, .bl _, _, _, _, h2, _ => by simp [keyF] at h2
  | .tup _, .str _, _, _, _, h2, _ => by simp [keyF] at h2
  | .tup _, .ref _, _, _, _, h2, _ => by simp [keyF] at h2
  | .tup _, .frz _, _, _, _, h2, _ => by simp [keyF] at h2
theorem keyNs_inj : ∀ (l k : List MV) (n n' : Nat), keyFs l n = true → keyFs k n' = true → keyNs l = keyNs k → l = k
  | [], [], _, _, _, _, _ => rfl
  | [], _ :: _, _, _, _, _, h => by simp [keyNs] at h
  | _ :: _, [], _, _, _, _, h => by simp [keyNs] at h
  | m :: l, k :: r, n, n', h1, h2, h => by
    unfold keyFs at h1 h2
    rw [Bool.and_eq_true] at h1 h2
    unfold keyNs at h
    obtain ⟨e1, e2⟩ := List.cons.inj h
    rw [keyN_inj m k n n' h1.1 h2.1 e1, keyNs_inj l r n n' h1.2 h2.2 e2]
end
/-- a tuple that can be a key -/
def keyT : MV → Bool
  | .tup l => keyFs l 7
  | _ => false
theorem keyT_F {m : MV} (h : keyT m = true) : keyF m 8 = true := by
  cases m with
  | tup l => unfold keyF; exact h
  | _ => cases h
def hasK (kvs : List (MV × MV)) (x : MV) : Bool := kvs.any fun p => decide (keyN p.1 = keyN x)
section
variable {X : Cx} {Z : ZT} {pins : List (Addr × Obj)} {σ : L2.St} {H : Hp} {s : Shared}
mutual
theorem key_is (I : Inv X pins σ H s) : ∀ (m : MV) (n : Nat) {v : V} {u : Value}, keyF m n = true → RM X.K H m v → RelV v u → NestedIs s.heap (keyN m) u
  | .non, n, _, _, _, r, rv => by
    unfold RM at r
    subst r
    have rv : _ = Value.none := rv
    subst rv
    unfold keyN
    exact .none
  | .int i, n, _, _, _, r, rv => by
    unfold RM at r
    subst r
    obtain ⟨t, rfl⟩ := (show ∃ t, _ = Value.int i t from rv)
    unfold keyN
    exact .int i t
  | .tup l, 0, _, _, h, _, _ => by simp [keyF] at h
  | .tup l, n + 1, _, _, h, r, rv => by
    unfold keyF at h
    unfold RM at r
    obtain ⟨a, xs, rfl, hs, hr⟩ := r
    have rv : _ = Value.ref a := rv
    subst rv
    obtain ⟨its, hv, ⟨o, ho, hc, k, hd⟩, _⟩ := I.tuple hs
    unfold keyN
    exact .tup ho hc hd (by simpa using keys_are I l n h hr hv)
  | .bl _, n, _, _, h, _, _ => by simp [keyF] at h
  | .str _, n, _, _, h, _, _ => by simp [keyF] at h
  | .ref _, n, _, _, h, _, _ => by simp [keyF] at h
  | .frz _, n, _, _, h, _, _ => by simp [keyF] at h
theorem keys_are (I : Inv X pins σ H s) : ∀ (l : List MV) (n : Nat) {xs : List V} {us : List Value}, keyFs l n = true → RMs X.K H l xs → Vals xs us → NestedAll s.heap (keyNs l) us
  | [], n, _, _, _, r, rv => by
    unfold RMs at r
    subst r
    cases rv
    unfold keyNs
    exact .nil
  | m :: l, n, _, _, h, r, rv => by
    unfold keyFs at h
    rw [Bool.and_eq_true] at h
    unfold RMs at r
    obtain ⟨x, r', rfl, h1, h2⟩ := r
    cases rv with
    | cons a b =>
      unfold keyNs
      exact .cons (key_is I m n h.1 h1 a) (keys_are I l n h.2 h2 b)
end
abbrev KP : NestedKey × Addr × V → NestedKey × Addr × Value → Prop := fun p q => p.1 = q.1 ∧ p.2.1 = q.2.1 ∧ RelV p.2.2 q.2.2
theorem kd_keys (I : Inv X pins σ H s) : ∀ {kvs : List (MV × MV)} {L : List (NestedKey × Addr × V)} {xs : List (NestedKey × Addr × Value)}, KdR X.K H kvs L → Paired KP L xs → ∀ x ∈ xs, (nestedKind X.prog X.w).is s.heap x.1 x.2.1
  | [], _, _, r, p, x, hx => by
    unfold KdR at r
    subst r
    cases p
    cases hx
  | q :: kvs, _, _, ⟨y, r, rfl, h1, h2, h3, h4, h5⟩, p, x, hx => by
    cases p with
    | cons a b =>
      rcases List.mem_cons.mp hx with rfl | hx
      · refine ⟨?_, ?_⟩
        · rw [← a.1, ← a.2.1, h1]
          exact key_is I q.1 8 h2 h3 rfl
        · rw [← a.1, h1]
          exact keyF_depth q.1 8 h2
      · exact kd_keys I h5 b x hx
theorem kd_hash : ∀ {kvs : List (MV × MV)} {L : List (NestedKey × Addr × V)} {xs : List (NestedKey × Addr × Value)} {K : PySem.W.Frag} {H : Hp}, KdR K H kvs L → Paired KP L xs → ∀ (P : Program) (w : World) (P' : Program) (w' : World), xs.map (entryOfKey (nestedKind P w)) = xs.map (entryOfKey (nestedKind P' w'))
  | [], _, _, _, _, r, p, _, _, _, _ => by
    unfold KdR at r
    subst r
    cases p
    rfl
  | q :: kvs, _, _, _, _, ⟨y, r, rfl, h1, h2, h3, h4, h5⟩, p, P, w, P', w' => by
    cases p with
    | cons a b =>
      rw [List.map_cons, List.map_cons, kd_hash h5 b P w P' w']
      congr 1
      unfold entryOfKey
      have : ∀ (P : Program) (w : World), (nestedKind P w).hash = fun k => k.hash w := fun _ _ => rfl
      rw [this, this]
      dsimp only
      rw [← a.1, h1, hash_free w w' q.1]
theorem kd_has : ∀ {kvs : List (MV × MV)} {L : List (NestedKey × Addr × V)} {xs : List (NestedKey × Addr × Value)} {K : PySem.W.Frag} {H : Hp}, KdR K H kvs L → Paired KP L xs → ∀ x : MV, (atKey xs (keyN x)).isSome = hasK kvs x
  | [], _, _, _, _, r, p, x => by
    unfold KdR at r
    subst r
    cases p
    rfl
  | q :: kvs, _, _, _, _, ⟨y, r, rfl, h1, h2, h3, h4, h5⟩, p, x => by
    cases p with
    | @cons _ z _ _ a b =>
      have ih := kd_has h5 b x
      unfold atKey hasK at ih ⊢
      rw [List.find?_cons, List.any_cons, ← ih]
      by_cases e : z.1 = keyN x
      · have e2 : keyN q.1 = keyN x := by rw [← h1, a.1]; exact e
        rw [decide_eq_true e, decide_eq_true e2]
        rfl
      · have e2 : ¬ keyN q.1 = keyN x := fun w => e (by rw [← a.1, h1]; exact w)
        rw [decide_eq_false e, decide_eq_false e2]
        rfl
theorem kd_len : ∀ {kvs : List (MV × MV)} {L : List (NestedKey × Addr × V)} {K : PySem.W.Frag} {H : Hp}, KdR K H kvs L → L.length = kvs.length
  | [], _, _, _, r => by
    unfold KdR at r
    subst r
    rfl
  | q :: kvs, _, _, _, ⟨y, r, rfl, h1, h2, h3, h4, h5⟩ => by
    rw [List.length_cons, List.length_cons, kd_len h5]
theorem kd_snoc {x v : MV} {b : Addr} {vv : V} : ∀ {kvs : List (MV × MV)} {L : List (NestedKey × Addr × V)} {K : PySem.W.Frag} {H : Hp}, KdR K H kvs L → keyF x 8 = true → RM K H x (.ref b) → RM K H v vv → KdR K H (kvs ++ [(x, v)]) (L ++ [(keyN x, b, vv)])
  | [], _, _, _, r, h1, h2, h3 => by
    unfold KdR at r
    subst r
    exact ⟨_, [], rfl, rfl, h1, h2, h3, rfl⟩
  | q :: kvs, _, _, _, ⟨y, r, rfl, g1, g2, g3, g4, g5⟩, h1, h2, h3 => ⟨y, _, rfl, g1, g2, g3, g4, kd_snoc g5 h1 h2 h3⟩
theorem kdo_ok {P : Program} {w : World} {H' : Hp} {h : Heap} {a : Addr} {L : List (NestedKey × Addr × V)} (k : KdH h a L) : ObjOk P w H' h a (KdO a L) := by
  have ⟨h1, h2, xs, h3, o, es, ep, h4, h5⟩ := k
  refine ⟨k, ⟨o, h4⟩, fun g1 g2 p st => ?_⟩
  have ⟨k1, k2, xs', k3, o', es', ep', k4, k5⟩ := (show KdH g1 a L from p)
  exact (show KdH g2 a L from ⟨k1, k2, xs', k3, o', es', ep', st _ k4, k5⟩)
/-- what stands there -/
theorem kd_at (I : Inv X pins σ H s) {a : Addr} {kvs : List (MV × MV)} {L : List (NestedKey × Addr × V)} (e : H a = some (KdO a L)) (r : KdR X.K H kvs L) : L.length ≤ sizeLine ∧ (a == sysModules) = false ∧ ∃ xs, Paired KP L xs ∧ s.heap.DictOfH (nestedKind X.prog X.w) a xs := by
  have ok : ObjOk X.prog X.w H s.heap a (KdO a L) := I.hok a _ e
  have ⟨h1, h2, xs, h3, o, es, ep, h4, h5, h6, h7, h8⟩ := (show KdH s.heap a L from ok.1)
  exact ⟨h1, h2, xs, h3, o, es, ep, h4, h5, h6, h7 X.prog X.w, kd_keys I r h3, h8⟩
def inK : M2 := fun x y S R => match y with
  | .ref a => (match S a with
    | some (.kd kvs) => keyT x = true ∧ R (.bl (hasK kvs x)) S
    | _ => False)
  | _ => False
def notInK : M2 := fun x y S R => match y with
  | .ref a => (match S a with
    | some (.kd kvs) => keyT x = true ∧ R (.bl (!hasK kvs x)) S
    | _ => False)
  | _ => False
theorem kt_ref {K : PySem.W.Frag} {H : Hp} {m : MV} {v : V} (h : keyT m = true) (r : RM K H m v) : ∃ b, v = .ref b := by
  cases m with
  | tup l => unfold RM at r; obtain ⟨a, xs, e, _⟩ := r; exact ⟨a, e⟩
  | _ => cases h
theorem ro_inK (hu : X.A.units + 65 < cLine) : OpR X (compareOp .In) (rM X.K Z inK) := by
  intro pins s σ H x y v u Q I rx ry h
  obtain ⟨mx, my, S, R, r1, r2, hS, hf, hQ⟩ := h
  unfold inK at hf
  split at hf
  · rename_i a
    split at hf
    · rename_i kvs e
      obtain ⟨hk, hf⟩ := hf
      unfold RM at r2
      subst r2
      obtain rfl : u = Value.ref a := ry
      obtain ⟨b, rfl⟩ := kt_ref hk r1
      obtain rfl : v = Value.ref b := rx
      obtain ⟨L, eL, rL⟩ := hS.ob a _ e
      obtain ⟨_, hd, xs, hp, hm⟩ := kd_at I eL rL
      refine wpAny_in_heap (knd := nestedKind X.prog X.w) (k := keyN mx) (show X.A.in1.units + 8 < cLine by show X.A.units + 1 + 8 < cLine; omega) ⟨key_is I mx 8 (keyT_F hk) r1 rfl, keyF_depth mx 8 (keyT_F hk)⟩ hd hm ?_
      rw [kd_has rL hp mx]
      exact ⟨.bl (hasK kvs mx), H, I.tok _, rfl, mq_bl hQ hS hf⟩
    · exact hf.elim
  · exact hf.elim
theorem ro_notinK (hu : X.A.units + 65 < cLine) : OpR X (compareOp .NotIn) (rM X.K Z notInK) := by
  intro pins s σ H x y v u Q I rx ry h
  obtain ⟨mx, my, S, R, r1, r2, hS, hf, hQ⟩ := h
  unfold notInK at hf
  split at hf
  · rename_i a
    split at hf
    · rename_i kvs e
      obtain ⟨hk, hf⟩ := hf
      unfold RM at r2
      subst r2
      obtain rfl : u = Value.ref a := ry
      obtain ⟨b, rfl⟩ := kt_ref hk r1
      obtain rfl : v = Value.ref b := rx
      obtain ⟨L, eL, rL⟩ := hS.ob a _ e
      obtain ⟨_, hd, xs, hp, hm⟩ := kd_at I eL rL
      refine wpAny_notIn_heap (knd := nestedKind X.prog X.w) (k := keyN mx) (show X.A.in1.units + 8 < cLine by show X.A.units + 1 + 8 < cLine; omega) ⟨key_is I mx 8 (keyT_F hk) r1 rfl, keyF_depth mx 8 (keyT_F hk)⟩ hd hm ?_
      rw [kd_has rL hp mx]
      exact ⟨.bl (!hasK kvs mx), H, I.tok _, rfl, mq_bl hQ hS hf⟩
    · exact hf.elim
  · exact hf.elim
/-- d[k] = v, k not there yet -/
def subPutK (o i v : MV) (S : Sto) (k : Sto → Prop) : Prop := match o with
  | .ref a => (match S a with
    | some (.kd kvs) => keyT i = true ∧ hasK kvs i = false ∧ kvs.length < 1000000 ∧ k (supd S a (.kd (kvs ++ [(i, v)])))
    | _ => False)
  | _ => False
def rSetK (K : PySem.W.Frag) (Z : ZT) : TSet := fun o i v H Q => ∃ (mo mi mv : MV) (S : Sto) (k : Sto → Prop), RM K H mo o ∧ RM K H mi i ∧ RM K H mv v ∧ RS K Z S H ∧ subPutK mo mi mv S k ∧ ∀ S3 H3, GK K S H S3 H3 → RS K Z S3 H3 → k S3 → Q H3
theorem kd_put (I : Inv X pins σ H s) {a b : Addr} {mi mv : MV} {kvs : List (MV × MV)} {L : List (NestedKey × Addr × V)} {vv : V} {u : Value} {h' : Heap} {t' : Nat} (e : H a = some (KdO a L)) (r : KdR X.K H kvs L) (hk : keyT mi = true) (r1 : RM X.K H mi (.ref b)) (r2 : RM X.K H mv vv) (rv : RelV vv u) (hl : kvs.length < 1000000)
    {xs : List (NestedKey × Addr × Value)} (hd : (a == sysModules) = false) (hp : Paired KP L xs) (hm : h'.DictOfH (nestedKind X.prog X.w) a (xs ++ [(keyN mi, b, u)])) (hs : Heap.SameBut a s.heap h') :
    Inv X pins σ (upd H a (KdO a (L ++ [(keyN mi, b, vv)]))) { s with heap := h', toks := t' } ∧ KdR X.K H (kvs ++ [(mi, mv)]) (L ++ [(keyN mi, b, vv)]) := by
  have r' := kd_snoc r (keyT_F hk) r1 r2
  have hp' : Paired KP (L ++ [(keyN mi, b, vv)]) (xs ++ [(keyN mi, b, u)]) := Paired.snoc hp ⟨rfl, rfl, rv⟩
  obtain ⟨o, es, ep, h1, h2, h3, h4, h5, h6⟩ := hm
  have hll : (1000000 : Nat) ≤ sizeLine := by decide
  have hk' : KdH h' a (L ++ [(keyN mi, b, vv)]) := ⟨by
    rw [List.length_append, List.length_singleton, kd_len r]
    omega, hd, _, hp', o, es, ep, h1, h2, h3, fun P w => by rw [h4]; exact kd_hash r' hp' _ _ _ _, h6⟩
  exact ⟨d_write I (by rw [e]; exact True.intro) hs ⟨_, h1⟩ (kdo_ok hk'), r'⟩
theorem kd_store {S : Sto} {a : Addr} {kvs kvs' : List (MV × MV)} {L L' : List (NestedKey × Addr × V)} (hS : RS X.K Z S H) (e : S a = some (.kd kvs)) (eL : H a = some (KdO a L)) (r' : KdR X.K H kvs' L') :
    GK X.K S H (supd S a (.kd kvs')) (upd H a (KdO a L')) ∧ RS X.K Z (supd S a (.kd kvs')) (upd H a (KdO a L')) :=
  ⟨GK.put (TK.kd eL) e, hS.put (TK.kd eL) (fun ps z => by rw [eL] at z; cases z) ⟨_, upd_same, r'.monoT (TK.kd eL)⟩⟩
theorem set_kd (hu : X.A.units + 65 < cLine) : PSet X (rSetK X.K Z) := by
  intro pins s σ H o i v ov iv u Q I ro ri rv h
  obtain ⟨mo, mi, mv, S, k, r1, r2, r3, hS, hf, hQ⟩ := h
  unfold subPutK at hf
  split at hf
  · rename_i a
    split at hf
    · rename_i kvs e
      obtain ⟨hk, hn, hl, hf⟩ := hf
      unfold RM at r1
      subst r1
      obtain rfl : ov = Value.ref a := ro
      obtain ⟨b, rfl⟩ := kt_ref hk r2
      obtain rfl : iv = Value.ref b := ri
      obtain ⟨L, eL, rL⟩ := hS.ob a _ e
      obtain ⟨hz, hd, xs, hp, hm⟩ := kd_at I eL rL
      have hat : atKey xs (keyN mi) = none := by
        have := kd_has rL hp mi
        rw [hn] at this
        cases q : atKey xs (keyN mi) with
        | none => rfl
        | some z => rw [q] at this; cases this
      refine wpAny_setItem_heap (knd := nestedKind X.prog X.w) (k := keyN mi) (hsz := by rw [← Paired.length hp]; exact hz) (show X.A.in1.units + 8 < cLine by show X.A.units + 1 + 8 < cLine; omega) ⟨key_is I mi 8 (keyT_F hk) r2 rfl, keyF_depth mi 8 (keyT_F hk)⟩ hm fun h' hm' hs => ?_
      rw [storedH_new hat] at hm'
      obtain ⟨I', r'⟩ := kd_put (t' := s.toks + (nestedKind X.prog X.w).draws (keyN mi)) I eL rL hk r2 r3 rv hl hd hp hm' hs
      obtain ⟨g, s'⟩ := kd_store hS e eL r'
      exact ⟨_, I', hQ _ _ g s' hf⟩
    · exact hf.elim
  · exact hf.elim
def msSubK (mo mi mv : ME) : MS := fun D ρ S => mv ρ S fun v S1 => mo ρ S1 fun o S2 => mi ρ S2 fun i S3 => subPutK o i v S3 fun S4 => D.nx ρ S4
theorem es_subK {o i value : Expr} {ma mb mc : ME} {pos pos' : Pos} (hu : X.A.units + 65 < cLine) (ho : EE X Z o ma) (hi : EE X Z i mb) (hv : EE X Z value mc) (hs : swapsWithSole [.Subscript o i pos'] value pos.line X.env = pure false := by kernel_rfl) (hw : swappedStores [.Subscript o i pos'] value X.env = pure none := by kernel_rfl)
    (h1 : (assignEach [.Subscript o i pos'] X.env).map (·.2) = [assign (.Subscript o i pos') X.env] := by kernel_rfl)
    (ha : ∀ v, assign (.Subscript o i pos') X.env v = (do
      let ov ← holding [v] (eval o X.env)
      let iv ← holding [v, ov] (eval i X.env)
      standAt pos'
      holding [v, ov, iv] (setItem ov iv v)
      release [v, ov, iv] []) := by intro _; kernel_rfl) : ES X Z (.Assign [.Subscript o i pos'] value pos) (msSubK ma mb mc) :=
  ⟨PS.imp (ps_asg hv.pe (pg_sub ho.pe hi.pe (set_kd (Z := Z) hu) ha) hs hw h1) fun D σ H ⟨ρ, S, D', hE, hS, hm, h1, h2, h3, h4⟩ => by
    refine ⟨ρ, S, _, hE, hS, hm, fun v H1 ⟨x, S1, t1, r1, s1, q1⟩ => ?_⟩
    refine ⟨ρ, S1, _, hE.mono t1, s1, q1, fun ov H2 ⟨y, S2, t2, r2, s2, q2⟩ => ?_⟩
    refine ⟨ρ, S2, _, hE.mono (t1.trans t2), s2, q2, fun iv H3 ⟨z, S3, t3, r3, s3, q3⟩ => ?_⟩
    exact ⟨y, z, x, S3, _, r2.mono t3, r3, r1.mono (t2.trans t3), s3, q3, fun S4 H4 g s4 q4 => h1 _ _ ⟨ρ, S4, t1.trans (t2.trans (t3.trans g)), hE.mono (t1.trans (t2.trans (t3.trans g))), s4, q4⟩⟩⟩
/-- {}, a dict for tuples -/
def mKd0 : ME := fun _ S R => ∀ p, S p = none → R (.ref p) (supd S p (.kd []))
theorem kd_empty (h : Heap) (hb : sysModules < h.objs.size) : KdH (h.push { cls := .type "dict", data := .dict #[] }) h.objs.size [] :=
  ⟨Nat.zero_le _, beq_eq_false_iff_ne.mpr (Ne.symm (Nat.ne_of_lt hb)), [], .nil, _, #[], 0, Heap.get?_push_size _ rfl, ⟨rfl, rfl, rfl⟩, rfl, fun _ _ => rfl, List.nodup_nil⟩
theorem ee_kd0 {pos : Pos} : EE X Z (.Dict [] [] pos) mKd0 := ⟨fun σ H ρ S R hE hS hm pins s I => by
  have hn := I.hok.fresh (Nat.le_refl s.heap.objs.size)
  have I1 := I.laid (a := s.heap.objs.size) (o := KdO s.heap.objs.size []) (h' := s.heap.push { cls := .type "dict", data := .dict #[] }) (t' := s.toks) (fun _ _ q => Heap.get?_push_of_some _ q) (Nat.le_refl _) (kdo_ok (kd_empty s.heap I.big))
  refine wpAny_Dict_empty ⟨.ref s.heap.objs.size, _, I1, rfl, .ref s.heap.objs.size, _, ?_, by unfold RM; rfl, ?_, hm _ (hS.free hn)⟩
  · exact GK.new hn
  · exact hS.put (TK.new hn) (fun ps z => by rw [hn] at z; cases z) ⟨[], upd_same, rfl⟩⟩
theorem disp_at {kd : HeapKind X.prog X.w NestedKey} {A : Around} {E : Value → Shared → Prop} {s0 : Shared} {env : PySem.Env} {ks : List (Option Expr)} {vs : List Expr} {pos : Pos} {prs : List (Sem Value × Sem Value)} {Q : Value → Shared → Prop}
    (hz : (evalEachOpt ks env).zip ((evalEach vs env).map fun v => do let x ← v; standAt pos; pure x) = prs.map fun p => (some p.1, p.2)) (hne : prs ≠ []) (h15 : prs.length ≤ 15) (hu : kd.room A)
    (h : wpAny (model X.prog X.w) A (evalPairs prs) (fun ws s1 => ∃ ps, CarriesH kd s1.heap ws ps ∧ s1.heap.DictOfH kd s0.heap.objs.size [] ∧
        ∀ h' tk, h'.DictOfH kd s0.heap.objs.size (storedAllH [] ps) → Heap.SameBut s0.heap.objs.size s1.heap h' → Q (.ref s0.heap.objs.size) { s1 with heap := h', toks := tk }) E
      { s0 with heap := s0.heap.push { cls := .type "dict", data := .dict #[] } }) :
    wpAny (model X.prog X.w) A (eval (.Dict ks vs pos) env) Q E s0 := by
  rw [arm_eval_Dict, hz]
  rw [dictDisplay_pairs prs hne (by omega)]
  refine wpAny_bind (wpAny_standAt (wpAny_bind ?_))
  refine wpAny_subDictH (knd := kd) (Q := fun d s' => wpAny (model X.prog X.w) A (pure (Value.ref d)) Q E s') hu h15 ?_
  refine wpAny_mono h (fun ws s1 h1 => ?_) fun _ _ e => e
  obtain ⟨ps, c1, c2, c3⟩ := h1
  exact ⟨ps, c1, c2, fun h' tk a b => wpAny_pure (c3 h' tk a b)⟩
/-- {k: v} -/
def mKd1 (mk mv : ME) : ME := fun ρ S R => mk ρ S fun x S1 => mv ρ S1 fun y S2 => keyT x = true ∧ ∀ p, S2 p = none → R (.ref p) (supd S2 p (.kd [(x, y)]))
theorem ee_kd1 {ek ev : Expr} {mk mv : ME} {pos : Pos} (hu : X.A.units + 65 < cLine) (hk : EE X Z ek mk) (hv : EE X Z ev mv) : EE X Z (.Dict [some ek] [ev] pos) (mKd1 mk mv) := ⟨fun σ H ρ S R hE hS hm pins s I => by
  have hn := I.hok.fresh (Nat.le_refl s.heap.objs.size)
  have I1 := I.laid (a := s.heap.objs.size) (o := KdO s.heap.objs.size []) (h' := s.heap.push { cls := .type "dict", data := .dict #[] }) (t' := s.toks) (fun _ _ q => Heap.get?_push_of_some _ q) (Nat.le_refl _) (kdo_ok (kd_empty s.heap I.big))
  have g0 : GK X.K S H S (upd H s.heap.objs.size (KdO s.heap.objs.size [])) := GK.hid hn
  have hS0 := hS.hid (o := KdO s.heap.objs.size []) hn
  refine disp_at (kd := nestedKind X.prog X.w) (prs := pairTrees [some ek] [ev] X.env pos) (zip_pairTrees _ _ _ _ rfl rfl) (fun z => by cases z) (by show 1 ≤ 15; omega) (show X.A.units + 8 < cLine by omega) ?_
  refine pairTrees_cons_walk (thn (hk.run σ _ ρ S _ (hE.mono g0) hS0 hm pins _ I1) fun ku s1 ⟨kx, H1, I2, rk, x, S1, t1, r1, s1', q1⟩ => ?_)
  refine thn (hv.run σ H1 ρ S1 _ (hE.mono (g0.trans t1)) s1' q1 pins s1 I2) fun vu s2 ⟨vx, H2, I3, rv, y, S2, t2, r2, s2', q2⟩ => ?_
  obtain ⟨hkt, q2⟩ := q2
  refine pairTrees_nil_walk ?_
  obtain ⟨b, rfl⟩ := kt_ref hkt r1
  obtain rfl : ku = Value.ref b := rk
  have r1' := r1.mono t2
  obtain ⟨k1, k2⟩ := (t1.trans t2).fr s.heap.objs.size (KdO s.heap.objs.size []) (hS.free hn) upd_same (fun ps e => by cases e)
  have rL : KdR X.K H2 [] ([] : List (NestedKey × Addr × V)) := rfl
  obtain ⟨hz, hd, xs, hp, hm'⟩ := kd_at I3 k1 rL
  cases hp
  refine ⟨[(keyN x, b, vu)], ⟨rfl, rfl, ⟨key_is I3 x 8 (keyT_F hkt) r1' rfl, keyF_depth x 8 (keyT_F hkt)⟩, trivial⟩, hm', fun h' tk hd' hs => ?_⟩
  have hd2 : h'.DictOfH (nestedKind X.prog X.w) s.heap.objs.size ([] ++ [(keyN x, b, vu)]) := hd'
  obtain ⟨I', r'⟩ := kd_put (t' := tk) I3 k1 rL hkt r1' r2 rv (by decide) hd .nil hd2 hs
  have tk' : TK X.K H2 (upd H2 s.heap.objs.size (KdO s.heap.objs.size ([] ++ [(keyN x, b, vx)]))) := TK.kd k1
  refine ⟨.ref s.heap.objs.size, _, I', rfl, .ref s.heap.objs.size, _, GK.late hn (t1.trans t2) tk', by unfold RM; rfl, ?_, q2 _ k2⟩
  exact s2'.put tk' (fun ps z => by rw [k1] at z; cases z) ⟨_, upd_same, r'.monoT tk'⟩⟩
end
end Mv

set_option Elab.async false
set_option linter.all false
set_option maxRecDepth 100000
set_option maxHeartbeats 4000000
/-! dict(d) of a dict with texts as keys -/
namespace Mv
open PySem PySem.Spec PyProof.Rows L2
def dictV : MF := fun ms S R => match ms with
  | [.ref a] => (match S a with
    | some (.dct kvs) => newD kvs S R
    | _ => False)
  | _ => False
section
variable {X : Cx} {Z : ZT}
theorem cr_dict : CallR X (.type "dict") (rMC X.K Z dictV) := by
  intro pins s σ H xs us Q I rv h
  obtain ⟨ms, S, R, r, hS, hf, hQ⟩ := h
  unfold dictV at hf
  split at hf
  · rename_i a
    split at hf
    · rename_i kvs e
      obtain ⟨v, rfl, q⟩ := rms1 r
      unfold RM at q
      obtain ⟨ks, h1, h2, h3⟩ := hS.ob _ _ e
      exact call_dictD pins s σ H _ us Q I rv ⟨a, ks, by rw [q], .inl h1, fun p hp => mq_dct hQ hS ⟨h2, h3⟩ hp hf⟩
    · exact hf.elim
  · exact hf.elim
end
/-! x in t, t a tuple of tuples -/
def inT : M2 := fun x y S R => match y with
  | .tup l => (fit x 60 && fits l 59) = true ∧ R (.bl (inB x l)) S
  | _ => False
def notInT : M2 := fun x y S R => match y with
  | .tup l => (fit x 60 && fits l 59) = true ∧ R (.bl (!inB x l)) S
  | _ => False
theorem fits_shapedT {l : List MV} (h : fits l 59 = true) : SeqAt.shaped (.tuple (pds l)) = true := by
  have q := fits_lay l 59 h
  unfold SeqAt.shaped
  rw [show (PyData.tuple (pds l)).canLay0 = PyData.canLayAll0 (pds l) by simp only [PyData.canLay0], show (PyData.tuple (pds l)).depth = PyData.depthAll (pds l) + 1 by simp only [PyData.depth], q.1, decide_eq_true (by omega)]; rfl
section
variable {X : Cx} {Z : ZT}
theorem op_inT (hu : X.A.units + 65 < cLine) : OpR X (compareOp .In) (fun x y H Q => ∃ d ds, Dp X.K H x d ∧ Dp X.K H y (.tuple ds) ∧ SeqAt.shaped d = true ∧ SeqAt.shaped (.tuple ds) = true ∧ Q (.bl (ds.any fun z => PyData.eqv z d)) H) := by
  intro pins s σ H x y v u Q I rx ry h
  obtain ⟨d, ds, hd, he, sd, se, q⟩ := h
  obtain ⟨as, r1⟩ := Dp.reads I d x v hd rx
  obtain ⟨bs, r2⟩ := Dp.reads I (.tuple ds) y u he ry
  exact SeqAt.in_tuple_reads r2 r1 (SeqAt.canLay_of_shaped se) (SeqAt.canLay_of_shaped sd) (room_in_shaped sd hu) ⟨.bl _, H, I, rfl, q⟩
theorem op_notInT (hu : X.A.units + 65 < cLine) : OpR X (compareOp .NotIn) (fun x y H Q => ∃ d ds, Dp X.K H x d ∧ Dp X.K H y (.tuple ds) ∧ SeqAt.shaped d = true ∧ SeqAt.shaped (.tuple ds) = true ∧ Q (.bl (!ds.any fun z => PyData.eqv z d)) H) := by
  intro pins s σ H x y v u Q I rx ry h
  obtain ⟨d, ds, hd, he, sd, se, q⟩ := h
  obtain ⟨as, r1⟩ := Dp.reads I d x v hd rx
  obtain ⟨bs, r2⟩ := Dp.reads I (.tuple ds) y u he ry
  exact SeqAt.notIn_tuple_reads r2 r1 (SeqAt.canLay_of_shaped se) (SeqAt.canLay_of_shaped sd) (room_in_shaped sd hu) ⟨.bl _, H, I, rfl, q⟩
theorem ro_inT (hu : X.A.units + 65 < cLine) : OpR X (compareOp .In) (rM X.K Z inT) := by
  intro pins s σ H x y v u Q I rx ry h
  obtain ⟨mx, my, S, R, r1, r2, hS, hf, hQ⟩ := h
  unfold inT at hf
  split at hf
  · rename_i l
    obtain ⟨hf1, hf2⟩ := hf
    rw [Bool.and_eq_true] at hf1
    unfold RM at r2
    obtain ⟨b, ys, e2, s2, q2⟩ := r2
    subst e2
    refine op_inT hu pins s σ H x _ v u Q I rx ry ⟨pd mx, pds l, dp_of _ 60 hf1.1 r1, .tup s2 (dps_of l 59 hf1.2 q2), fit_shaped hf1.1, fits_shapedT hf1.2, ?_⟩
    rw [any_pds]
    exact mq_bl hQ hS hf2
  · exact hf.elim
theorem ro_notinT (hu : X.A.units + 65 < cLine) : OpR X (compareOp .NotIn) (rM X.K Z notInT) := by
  intro pins s σ H x y v u Q I rx ry h
  obtain ⟨mx, my, S, R, r1, r2, hS, hf, hQ⟩ := h
  unfold notInT at hf
  split at hf
  · rename_i l
    obtain ⟨hf1, hf2⟩ := hf
    rw [Bool.and_eq_true] at hf1
    unfold RM at r2
    obtain ⟨b, ys, e2, s2, q2⟩ := r2
    subst e2
    refine op_notInT hu pins s σ H x _ v u Q I rx ry ⟨pd mx, pds l, dp_of _ 60 hf1.1 r1, .tup s2 (dps_of l 59 hf1.2 q2), fit_shaped hf1.1, fits_shapedT hf1.2, ?_⟩
    rw [any_pds]
    exact mq_bl hQ hS hf2
  · exact hf.elim
end
end Mv

set_option Elab.async false
set_option linter.all false
set_option maxRecDepth 100000
set_option maxHeartbeats 4000000
/-! Sets of nested tuples of numbers: one is put in; a set of a list; sorted. -/
namespace Hs
open PySem PySem.Spec PyProof.Rows L2
section
variable {P : Program} {w : World} {A : Around} {E : Value → Shared → Prop} {s : Shared} {a : Addr} {L : List Row} {es : Array (Int × Value)} {ep : Nat} {t : SetTable}
theorem range_pick {α : Type} (l : List α) : (List.range l.length).filterMap (fun i => l[i]?) = l := by
  have key : ∀ n, n ≤ l.length → (List.range n).filterMap (fun i => l[i]?) = l.take n := fun n => by
    induction n with
    | zero => intro _; rfl
    | succ n ih =>
      intro hn
      have e := List.getElem?_eq_getElem (show n < l.length from hn)
      rw [List.range_succ, List.filterMap_append, ih (Nat.le_of_lt hn), List.take_succ, List.filterMap_cons_some e, e]
      rfl
  rw [key _ (Nat.le_refl _), List.take_length]
/-- the rows in another order -/
theorem reorder {L : List Row} {es : Array (Int × Value)} (hr : es.toList = rowsH w L) {ord : Array Nat} (hp : ord.toList.Perm (List.range L.length)) :
    ∃ L2, (ord.filterMap (es[·]?)).toList = rowsH w L2 ∧ L2.Perm L ∧ hashesH w L2 = ord.toList.map fun i => (es.map (·.1)).getD i 0 := by
  have key : ∀ l : List Nat, (∀ i ∈ l, i < L.length) → l.filterMap (fun i => es[i]?) = rowsH w (l.filterMap fun i => L[i]?) ∧ hashesH w (l.filterMap fun i => L[i]?) = l.map fun i => (es.map (·.1)).getD i 0 := fun l => by
    induction l with
    | nil => intro _; exact ⟨rfl, rfl⟩
    | cons i l ih =>
      intro hl
      have hlt := hl i List.mem_cons_self
      have hi : L[i]? = some L[i] := List.getElem?_eq_getElem hlt
      have he := rowsH_at hr hi
      obtain ⟨e1, e2⟩ := ih fun j hj => hl j (List.mem_cons_of_mem _ hj)
      have eh : (es.map (·.1)).getD i 0 = L[i].2.hash w := by
        have : (es.map (·.1))[i]? = some (L[i].2.hash w) := by rw [Array.getElem?_map, he]; rfl
        rw [Array.getD_eq_getD_getElem?, this]
        rfl
      rw [List.filterMap_cons_some he, List.filterMap_cons_some hi, List.map_cons, e1, eh, ← e2]
      exact ⟨rfl, rfl⟩
  obtain ⟨e1, e2⟩ := key ord.toList fun i hi => List.mem_range.mp (hp.mem_iff.mp hi)
  refine ⟨_, by first | (rw [Array.toList_filterMap]; exact e1) | simpa using e1, ?_, e2⟩
  have h1 := hp.filterMap fun i => L[i]?
  rw [range_pick] at h1
  exact h1
theorem relay (hob : ∃ o, s.heap.get? a = some o ∧ o.ExactSet ∧ o.data = .set es ep t) (hrows : es.toList = rowsH w L) (T : Tab t (hashesH w L)) (hfl : L.length ≤ t.mask) (nd : (L.map (·.2)).Nodup) (els : ∀ p ∈ L, El s.heap p.2 p.1)
    (pl : t.plain = true) (ld : w.params.followText "set-order" = true ∨ t.led = true) (few : L.length < 4000) {wanted M : Nat} (hw : SetTable.sizeAbove wanted - 1 = M) (hM : M6 M) (hs : SetTable.sizeAbove wanted ≤ 8192) (hn : L.length * 5 < M * 3)
    {Q : Unit → Shared → Prop} (hQ : ∀ h' L' es' ep' t', Heap.SameBut a s.heap h' → SN w h' a L' es' ep' t' → L'.Perm L → Q () { s with heap := h' }) : wpAny (model P w) A (setRelay a wanted) Q E s := by
  obtain ⟨o, ho, hex, hd⟩ := hob
  have hl : es.size = L.length := by rw [← Array.length_toList, hrows, rowsH_len]
  obtain ⟨t', ord, e, hp, T', em, el, epl⟩ := relay_ok t (hs := es.map (·.1)) (wanted := wanted) hw hM.msk (by rw [Array.size_map, hl]; omega)
  rw [Array.size_map, hl] at hp
  obtain ⟨L2, r1, r2, r3⟩ := reorder hrows hp
  rw [← r3] at T'
  have hz : (ord.filterMap (es[·]?)).size = es.size := by rw [← Array.length_toList, r1, rowsH_len, r2.length_eq, hl]
  rw [setRelay_eq]
  refine wpAny_bind (wpAny_setState_of ho hd (fits_of T (by rw [hl, hashesH_len]) (by rw [hashesH_len]; exact hfl)) ?_)
  dsimp only
  refine wp_if_neg (by rw [sizeLine_eq]; omega) ?_
  try refine wpAny_bind (wpAny_pure ?_)
  rw [e]
  refine wpAny_bind ?_
  dsimp only
  refine wp_if_neg (by rw [hz]; simp) ?_
  try refine wpAny_bind (wpAny_pure ?_)
  refine wpAny_pure ?_
  dsimp only
  refine wpAny_storeSet_of ho hd ?_ (by rw [hz, hl, sizeLine_eq]; omega)
  have sb : Heap.SameBut a s.heap (s.heap.update a (Obj.putSet (ord.filterMap (es[·]?)) t')) := Heap.SameBut.update ..
  exact hQ _ L2 _ (ep + 1) t' sb ⟨⟨_, store_at ho hd, ⟨hex.1, hex.2.1, hex.2.2⟩, rfl⟩, r1, T', by rw [em]; exact hM, (r2.map (·.2)).nodup_iff.mpr nd, fun p m => (els p (r2.mem_iff.mp m)).but ho hd sb, by rw [epl]; exact pl, by rw [el]; exact ld,
    by rw [r2.length_eq, em]; exact hn, by rw [r2.length_eq]; exact few⟩ r2
theorem ins_perm {α : Type} (L : List α) (p : Nat) (x : α) : (L.take p ++ x :: L.drop p).Perm (x :: L) := by
  have h : (L.take p ++ x :: L.drop p).Perm (x :: (L.take p ++ L.drop p)) := List.perm_middle
  rwa [List.take_append_drop] at h
/-- one is put in -/
theorem put_in (R : SN w s.heap a L es ep t) {x : Addr} {k : NestedKey} (hx : El s.heap k x) (hu : A.units + 8 < cLine) (few : L.length + 1 < 4000) {Q : Bool → Shared → Prop}
    (hQ : ∀ b h' L' es' ep' t', Heap.SameBut a s.heap h' → SN w h' a L' es' ep' t' → (k ∈ L.map (·.2) → L' = L) → (k ∉ L.map (·.2) → L'.Perm ((x, k) :: L)) → Q b { s with heap := h' }) :
    wpAny (model P w) A (setAddHashed a (.ref x) (k.hash w)) Q E s := by
  obtain ⟨o, ho, hex, hd⟩ := R.ob
  have room := R.room
  unfold setAddHashed
  rw [show (100000 : Nat) = 99999 + 1 from rfl, setAddHashedIn_succ]
  refine wpAny_holding (wpAny_bind (wpAny_setState_of ho hd R.fit ?_))
  dsimp only
  refine wp_if_neg not_scan ?_
  try refine wpAny_bind (wpAny_pure ?_)
  refine wpAny_bind (seek R hx hu true (fun hm r _ => ?_) fun K hm hK hb => ?_)
  · exact wpAny_pure (hQ false s.heap L es ep t (Heap.SameBut.refl a s.heap) R (fun _ => rfl) fun z => absurd hm z)
  · dsimp only
    refine wpAny_bind (wpAny_setState_of ho hd R.fit ?_)
    dsimp only
    obtain ⟨p, hp, ept, T1, f1⟩ := R.tab.put hK hb
    rw [hashesH_len] at hp f1
    generalize way t.mask (k.hash w) K = j at ept T1 f1 hK ⊢
    have k1 : (t.put j).1.mask = t.mask ∧ (t.put j).1.led = t.led ∧ (t.put j).1.plain = t.plain := ⟨rfl, rfl, rfl⟩
    rw [ept]
    generalize (t.put j).1 = t1 at T1 f1 k1 ⊢
    obtain ⟨k1, k2, k3⟩ := k1
    dsimp only
    have p1 : t1.plain = true := by rw [k3]; exact R.plain
    first
      | (refine wpAny_bind ?_; refine wp_if_pos p1 ?_; refine byVal_key k _ 8 _ hx.is hx.num hx.deep _ _ _ ?_)
      | refine wp_if_pos p1 (wpAny_bind (byVal_key k _ 8 _ hx.is hx.num hx.deep _ _ _ ?_))
    simp only [if_true]
    have rows1 : (SetTable.insertAt es p (k.hash w, Value.ref x)).toList = rowsH w (L.take p ++ (x, k) :: L.drop p) := by
      rw [SetTable.toList_insertAt, R.rows]
      simp [rowsH, List.map_take, List.map_drop]
    have hh1 : hashesH w (L.take p ++ (x, k) :: L.drop p) = (hashesH w L).take p ++ k.hash w :: (hashesH w L).drop p := by simp [hashesH, List.map_take, List.map_drop]
    rw [← hh1] at T1
    have pm := ins_perm L p (x, k)
    have nd1 : ((L.take p ++ (x, k) :: L.drop p).map (·.2)).Nodup := (pm.map (·.2)).nodup_iff.mpr (List.nodup_cons.mpr ⟨hm, R.nd⟩)
    generalize SetTable.insertAt es p (k.hash w, Value.ref x) = es1 at rows1 ⊢
    generalize L.take p ++ (x, k) :: L.drop p = L1 at pm nd1 rows1 T1
    have l1 : L1.length = L.length + 1 := pm.length_eq
    have e1 : es1.size = L.length + 1 := by rw [← Array.length_toList, rows1, rowsH_len, l1]
    refine wpAny_bind (wpAny_storeSet_of ho hd ?_ (by rw [e1, sizeLine_eq]; omega))
    have sb : Heap.SameBut a s.heap (s.heap.update a (Obj.putSet es1 t1)) := Heap.SameBut.update ..
    have ho1 := store_at (es' := es1) (t' := t1) ho hd
    generalize s.heap.update a (Obj.putSet es1 t1) = h1 at sb ho1 ⊢
    have els1 : ∀ p ∈ L1, El h1 p.2 p.1 := fun p hp => by
      rcases List.mem_cons.mp (pm.mem_iff.mp hp) with e | m
      · rw [e]; exact hx.but ho hd sb
      · exact (R.els p m).but ho hd sb
    have ld1 : w.params.followText "set-order" = true ∨ t1.led = true := by rw [k2]; exact R.led
    have full : t1.tooFull = decide ((L.length + 1) * 5 ≥ t.mask * 3) := by unfold SetTable.tooFull; rw [f1, k1]
    by_cases hf : (L.length + 1) * 5 ≥ t.mask * 3
    · obtain ⟨M, m1, m2, m3, m4, m5⟩ := R.m6.next room hf few
      have go : wpAny (model P w) A (setRelay a (SetTable.grown (L.length + 1))) (fun _ s' => wpAny (model P w) A (pure true) Q E s') E { s with heap := h1 } :=
        relay (s := { s with heap := h1 }) ⟨_, ho1, ⟨hex.1, hex.2.1, hex.2.2⟩, rfl⟩ rows1 T1 (by omega) nd1 els1 p1 ld1 (by omega) m2 m1 m3 (by omega) fun h2 L2 es2 ep2 t2 sb2 R2 pm2 =>
          wpAny_pure (hQ true h2 L2 es2 ep2 t2 (sb.trans sb2) R2 (fun z => absurd z hm) fun _ => pm2.trans pm)
      rw [R.len]
      first
        | (refine wpAny_bind ?_; refine wp_if_pos (by simp [full, hf]) ?_; exact go)
        | (refine wp_if_pos (by simp [full, hf]) ?_; exact wpAny_bind go)
    · have fin := hQ true h1 L1 es1 (ep + 1) t1 sb ⟨⟨_, ho1, ⟨hex.1, hex.2.1, hex.2.2⟩, rfl⟩, rows1, T1, by rw [k1]; exact R.m6, nd1, els1, p1, ld1, by rw [l1, k1]; omega, by omega⟩ (fun z => absurd z hm) fun _ => pm
      first
        | exact wp_if_neg (by simp [full, hf]) (wpAny_pure fin)
        | (refine wpAny_bind ?_; refine wp_if_neg (by simp [full, hf]) ?_; exact wpAny_pure (wpAny_pure fin))
theorem put_at (R : SN w s.heap a L es ep t) {x : Addr} {k : NestedKey} (hx : El s.heap k x) (hu : A.units + 8 < cLine) (few : L.length + 1 < 4000) {Q : Bool → Shared → Prop}
    (hQ : ∀ b h' tk L' es' ep' t', Heap.SameBut a s.heap h' → SN w h' a L' es' ep' t' → (k ∈ L.map (·.2) → L' = L) → (k ∉ L.map (·.2) → L'.Perm ((x, k) :: L)) → Q b { s with heap := h', toks := s.toks + tk }) :
    wpAny (model P w) A (setAdd a (.ref x)) Q E s := by
  unfold setAdd
  refine wpAny_holding (wpAny_bind ((nestedKind P w).pyHash hu hx.key ?_))
  exact put_in (s := { s with toks := s.toks + k.draws }) R hx hu few fun b h' L' es' ep' t' => hQ b h' k.draws L' es' ep' t'
end
end Hs

set_option Elab.async false
set_option linter.all false
set_option maxRecDepth 100000
set_option maxHeartbeats 4000000
/-! Sets of nested tuples of numbers: in, add, set(list), sorted(set). -/
namespace Hs
open PySem PySem.Spec PyProof.Rows L2
section
variable {P : Program} {w : World} {A : Around} {E : Value → Shared → Prop} {s : Shared} {a : Addr} {L : List Row} {es : Array (Int × Value)} {ep : Nat} {t : SetTable}
theorem SN.ty (R : SN w s.heap a L es ep t) : s.TypeIs (.ref a) "set" := let ⟨o, ho, hc, _⟩ := R.ob; ⟨o, ho, hc.1⟩
theorem SN.keep {h h' : Heap} (R : SN w h a L es ep t) (k : ∀ b o, h.get? b = some o → h'.get? b = some o) : SN w h' a L es ep t := by
  obtain ⟨o, ho, r⟩ := R.ob
  exact ⟨⟨o, k a o ho, r⟩, R.rows, R.tab, R.m6, R.nd, fun p m => (R.els p m).keep k, R.plain, R.led, R.room, R.few⟩
theorem contains_at (R : SN w s.heap a L es ep t) {x : Addr} {k : NestedKey} (hx : El s.heap k x) (hu : A.units + 12 < cLine) {Q : Bool → Shared → Prop} (h : ∀ tk, Q (decide (k ∈ L.map (·.2))) { s with toks := tk }) :
    wpAny (model P w) A (contains (.ref a) (.ref x)) Q E s := by
  unfold contains
  try with_reducible refine wpAny_holding ?_
  refine wpAny_bind (wpAny_specialOf R.ty F.slot_set_contains.lookup ?_)
  refine (show wpAny _ _ (if (some (Value.builtin "set.__contains__") == some Value.none) = true then _ else _) _ E s from ?_)
  refine wp_if_neg (by rw [beq_builtin_none]; exact Bool.false_ne_true) ?_
  refine wpAny_bind (wpAny_callSpecialUnlessNone?_slot (name := Str.ofString "__contains__") R.ty F.slot_set_contains (wpAny_call_entry F.slot_set_contains R.ty entry_set_contains ?_ (F.args_set_contains_2 _ _)))
  unfold Builtin.«frozenset.__contains__» Builtin.Frozenset.oneOther
  simp only [List.isEmpty_nil, bind_assoc]
  unfold Builtin.Frozenset.addrOf Builtin.Frozenset.withSetAsKey
  refine wpAny_bind (wpAny_pure ?_)
  try dsimp only
  refine wpAny_bind (wpAny_pure ?_)
  try dsimp only
  refine wpAny_bind (wpAny_tryCatch (holds_at R hx (by simp only [Around.in1_units] at *; omega) fun tk => ?_))
  refine (show wpAny _ _ (ret (Value.bool _)) _ _ _ from wpAny_pure ⟨_, rfl, wpAny_truthy_bool (h tk)⟩)
theorem in_at (R : SN w s.heap a L es ep t) {x : Addr} {k : NestedKey} (hx : El s.heap k x) (hu : A.units + 12 < cLine) {Q : Value → Shared → Prop} (h : ∀ tk, Q (.bool (decide (k ∈ L.map (·.2)))) { s with toks := tk }) :
    wpAny (model P w) A (compareOp .In (.ref x) (.ref a)) Q E s :=
  (show wpAny _ _ (do return .bool (← contains (.ref a) (.ref x))) Q E s from wpAny_bind (contains_at R hx hu fun tk => wpAny_pure (h tk)))
theorem notIn_at (R : SN w s.heap a L es ep t) {x : Addr} {k : NestedKey} (hx : El s.heap k x) (hu : A.units + 12 < cLine) {Q : Value → Shared → Prop} (h : ∀ tk, Q (.bool (!decide (k ∈ L.map (·.2)))) { s with toks := tk }) :
    wpAny (model P w) A (compareOp .NotIn (.ref x) (.ref a)) Q E s :=
  (show wpAny _ _ (do return .bool (!(← contains (.ref a) (.ref x)))) Q E s from wpAny_bind (contains_at R hx hu fun tk => wpAny_pure (h tk)))
/-- a.add(x) -/
theorem call_add (R : SN w s.heap a L es ep t) {x : Addr} {k : NestedKey} (hx : El s.heap k x) (hu : A.units + 12 < cLine) (few : L.length + 1 < 4000) {Q : Value → Shared → Prop}
    (hQ : ∀ h' tk L' es' ep' t', Heap.SameBut a s.heap h' → SN w h' a L' es' ep' t' → (k ∈ L.map (·.2) → L' = L) → (k ∉ L.map (·.2) → L'.Perm ((x, k) :: L)) → Q .none { s with heap := h', toks := tk }) :
    wpAny (model P w) A (call (.builtin "set.add") [.ref a, .ref x]) Q E s := by
  refine wpAny_call_entry F.slot_set_add R.ty F.entry_set_add ?_ (F.args_set_add_2 _ _)
  unfold Builtin.«set.add» Builtin.Frozenset.oneOther
  simp only [List.isEmpty_nil, bind_assoc]
  unfold Builtin.Frozenset.addrOf
  refine wpAny_bind (wpAny_pure ?_)
  try dsimp only
  refine wpAny_bind (wpAny_pure ?_)
  try dsimp only
  refine wpAny_bind (put_at R hx (by simp only [Around.in1_units] at *; omega) few fun b h' tk L' es' ep' t' sb R' c1 c2 => ?_)
  exact (show wpAny _ _ (ret Value.none) _ _ _ from wpAny_pure ⟨_, rfl, hQ h' _ L' es' ep' t' sb R' c1 c2⟩)
/-! ### set(list) -/
/-- what a set has of a list -/
structure Has (ks : List Row) (L : List Row) : Prop where
  sub : ∀ p ∈ L, p ∈ ks
  all : ∀ p ∈ ks, p.2 ∈ L.map (·.2)
  len : L.length ≤ ks.length
theorem Has.step {ks L L' : List Row} {x : Row} (g : Has ks L) (c1 : x.2 ∈ L.map (·.2) → L' = L) (c2 : x.2 ∉ L.map (·.2) → L'.Perm (x :: L)) : Has (ks ++ [x]) L' := by
  by_cases c : x.2 ∈ L.map (·.2)
  · rw [c1 c]
    exact ⟨fun p m => List.mem_append_left _ (g.sub p m), fun p m => by
      rcases List.mem_append.mp m with z | z
      · exact g.all p z
      · rw [List.mem_singleton.mp z]; exact c, by have := g.len; rw [List.length_append, List.length_singleton]; omega⟩
  · have pm := c2 c
    refine ⟨fun p m => ?_, fun p m => (pm.map (·.2)).mem_iff.mpr ?_, ?_⟩
    · rcases List.mem_cons.mp (pm.mem_iff.mp m) with e | z
      · rw [e]; exact List.mem_append_right _ List.mem_cons_self
      · exact List.mem_append_left _ (g.sub p z)
    · rw [List.map_cons]
      rcases List.mem_append.mp m with z | z
      · exact List.mem_cons_of_mem _ (g.all p z)
      · rw [List.mem_singleton.mp z]; exact List.mem_cons_self
    · have := g.len
      rw [pm.length_eq, List.length_cons, List.length_append, List.length_singleton]
      omega
abbrev bare (w : World) : Obj := { cls := .type "set", dict := none, data := .set #[] 0 (.fresh 0 0 (!w.params.followText "set-order")) }
theorem SN.new {h : Heap} (ho : h.get? a = some (bare w)) : SN w h a [] #[] 0 (.fresh 0 0 (!w.params.followText "set-order")) where
  ob := ⟨_, ho, ⟨rfl, rfl, rfl⟩, rfl⟩
  rows := rfl
  tab := ⟨List.Pairwise.nil, rfl, rfl, ⟨3, by decide, by decide, rfl⟩, fun x hx => (by cases hx), fun i h j hi => (by simp [hashesH] at hi)⟩
  m6 := .inl rfl
  nd := List.nodup_nil
  els := fun p hp => (by cases hp)
  plain := rfl
  led := by
    show _ ∨ (!w.params.followText "set-order") = true
    cases w.params.followText "set-order" <;> simp
  room := by show 0 * 5 < 7 * 3; decide
  few := by show 0 < 4000; decide
theorem fill_loop {I : Addr} {fp wr : List Addr} {G : Array GenState → Array GenState → Prop} {n : Nat} {Pv : Nat → Value → Prop} {St : Nat → Shared → Prop} {R : Result → Shared → Prop}
    (W : WalksS P w A.in1 I fp wr G n Pv St) {S : Addr} (hSf : S ∉ fp) {ks : List Row} (hn : n = ks.length) (hfew : ks.length < 4000) (hval : ∀ i v, Pv i v → ∃ p, ks[i]? = some p ∧ v = .ref p.1)
    {h0 : Heap} (hk : ∀ p ∈ ks, El h0 p.2 p.1) (hS0 : h0.get? S = none) (hw0 : ∀ b ∈ wr, h0.get? b = none) (hu : A.in1.units + 8 < cLine)
    (hR : ∀ s' L es ep t, Moved (S :: wr) G s s' → SN w s'.heap S L es ep t → Has ks L → (∀ b o, h0.get? b = some o → s'.heap.get? b = some o) → R (.ok (.ret .none)) s') :
    ∀ (k i : Nat) (s₁ : Shared) L es ep t, n - i = k → i ≤ n → St i s₁ → Moved (S :: wr) G s s₁ → (∀ b o, h0.get? b = some o → s₁.heap.get? b = some o) → SN w s₁.heap S L es ep t → Has (ks.take i) L →
      codeAny (model P w) A (.builtin "set.update.loop" ⟨[.ref S, .ref I], []⟩) R s₁ := by
  have away : S ∉ wr := fun m => hSf (W.sub _ m)
  have wide : ∀ b ∈ wr, b ∈ S :: wr := fun _ m => List.mem_cons_of_mem _ m
  intro k
  induction k with
  | zero =>
    intro i s₁ L es ep t e hi hst mv kp hS g
    obtain rfl : i = n := by omega
    refine codeAny_builtin F.entry_set_update_loop ?_
    rw [Around.under_plainId F.plain_set_update_loop _]
    refine (show wpAny _ A.in1 (pyNext (.ref I) >>= _) _ _ s₁ from wpAny_bind (W.done s₁ _ _ hst fun s' hm => ?_))
    have mv' := Moved.trans W.gtrans mv (hm.mono wide)
    have kp' : ∀ b o, h0.get? b = some o → s'.heap.get? b = some o := fun b o z => hm.heap b o (fun m => by rw [hw0 b m] at z; cases z) (kp b o z)
    rw [hn, List.take_length] at g
    refine (show wpAny _ A.in1 (ret Value.none) _ _ s' from wpAny_pure (hR s' L es ep t mv' ?_ g kp'))
    obtain ⟨o, ho, r⟩ := hS.ob
    exact ⟨⟨o, hm.heap S o away ho, r⟩, hS.rows, hS.tab, hS.m6, hS.nd, fun p m => (hk p (g.sub p m)).keep kp', hS.plain, hS.led, hS.room, hS.few⟩
  | succ k ih =>
    intro i s₁ L es ep t e hi hst mv kp hS g
    have lt : i < n := by omega
    refine codeAny_builtin F.entry_set_update_loop ?_
    rw [Around.under_plainId F.plain_set_update_loop _]
    refine (show wpAny _ A.in1 (pyNext (.ref I) >>= _) _ _ s₁ from wpAny_bind (W.item i s₁ _ _ lt hst fun v s' hP hst' hm => ?_))
    obtain ⟨p, hp, rfl⟩ := hval i v hP
    have kp' : ∀ b o, h0.get? b = some o → s'.heap.get? b = some o := fun b o z => hm.heap b o (fun m => by rw [hw0 b m] at z; cases z) (kp b o z)
    have hS' : SN w s'.heap S L es ep t := by
      obtain ⟨o, ho, r⟩ := hS.ob
      exact ⟨⟨o, hm.heap S o away ho, r⟩, hS.rows, hS.tab, hS.m6, hS.nd, fun q m => (hk q (List.mem_of_mem_take (g.sub q m))).keep kp', hS.plain, hS.led, hS.room, hS.few⟩
    have hx : El s'.heap p.2 p.1 := (hk p (List.mem_of_getElem? hp)).keep kp'
    have room : L.length + 1 < 4000 := by have := g.len; rw [List.length_take] at this; omega
    refine (show wpAny _ A.in1 (holding [Value.ref p.1] (setAdd S (.ref p.1)) >>= _) _ _ s' from wpAny_bind (wpAny_holding (put_at hS' hx hu room fun b h' tk L' es' ep' t' sb R2 c1 c2 => ?_)))
    refine wpAny_pure ⟨plainId_quiet F.plain_set_update_loop _, ih (i + 1) _ L' es' ep' t' (by omega) lt (W.frame _ s' _ _ hst' (Nat.le_add_right _ _) fun b hb o z => ?_) ?_ (fun b o z => ?_) R2 ?_⟩
    · rw [sb.2 b fun q : b = S => hSf (q ▸ hb)]; exact z
    · exact Moved.trans W.gtrans mv ((hm.mono wide).then_heap (Nat.le_add_right _ _) fun b o hb z => by rw [sb.2 b fun q : b = S => hb (q ▸ List.mem_cons_self)]; exact z)
    · exact (sb.2 b fun q => by rw [q, hS0] at z; cases z).trans (kp' b o z)
    · rw [List.take_succ, hp]
      exact g.step c1 c2
set_option maxHeartbeats 8000000 in
/-- set(xs), xs a list -/
theorem call_of {l : Addr} {items : Array Value} {ks : List Row} {Q : Value → Shared → Prop} (hh : A.handled = none) (hl : s.heap.IsList l items) (hit : items.toList = ks.map fun p => Value.ref p.1)
    (hk : ∀ p ∈ ks, El s.heap p.2 p.1) (hfew : ks.length < 4000) (hu : A.units + 20 < cLine)
    (h : ∀ h' tk L es ep t, SN w h' s.heap.objs.size L es ep t → Has ks L → (∀ b o, s.heap.get? b = some o → h'.get? b = some o) → Q (.ref s.heap.objs.size) { s with heap := h', toks := tk }) :
    wpAny (model P w) A (call (.type "set") [.ref l]) Q E s := by
  have many : items.size = ks.length := by rw [← Array.length_toList, hit, List.length_map]
  obtain ⟨c, tl, hmro⟩ := F.called_set.mro
  obtain ⟨hmade, hsub⟩ : _ ∧ _ := ⟨F.called_set.made, F.called_set.sub⟩
  refine wpAny_call (codeAny_of_tree (show wpAny _ _ (callAny (.type "set") _) _ _ _ from wpAny_pure ⟨Code.quiet_builtin _ (by decide +kernel), codeAny_builtin F.entry_type_call ?_⟩))
  rw [Around.under_plain (weight_type_call_type "set" [.ref l] []) rfl]
  obtain ⟨h1, h2, hct⟩ : _ ∧ _ ∧ _ := ⟨F.called_set.notType, F.called_set.canCreate, F.typeCall_set_1 (.ref l)⟩
  repeat (any_goals (first | assumption | wp_step))
  generalize eS : s.heap.objs.size = S at h ⊢
  have eN : s.heap.push (bare w) = s.heap.push (bare w) := rfl
  refine codeAny_mono (code_set_led1 (.ref l) (E := E) (Q₁ := fun v s₁ => v = .ref S ∧ s₁ = { s with heap := s.heap.push (bare w) }) ⟨by rw [eS], rfl⟩) fun r s₁ hr => ?_
  match r, hr with
  | .error _, hr => exact hr
  | .ok (.ret obj), hr =>
    obtain ⟨rfl, rfl⟩ := hr
    have hS : (s.heap.push (bare w)).get? S = some (bare w) := by rw [← eS]; exact Heap.get?_push_size _ rfl
    have hT : Shared.TypeIs { s with heap := s.heap.push (bare w) } (.ref S) "set" := ⟨_, hS, rfl⟩
    obtain ⟨hli, hbi⟩ : _ ∧ _ := ⟨F.called_set.init.lookup, F.called_set.init.bind (.ref S)⟩
    repeat (any_goals (first | assumption | wp_step))
    refine codeAny_mono (codeAny_call_builtin (R := wants (fun r s₂ => r = .none ∧ ∃ h' tk L es ep t, s₂ = { s with heap := h', toks := tk } ∧ SN w h' S L es ep t ∧ Has ks L ∧ ∀ b o, s.heap.get? b = some o → h'.get? b = some o) E)
      F.called_set.init.plain F.entry_set_init (check_set_init_1 hT ?_)) fun r₂ s₂ hr₂ => ?_
    · obtain ⟨⟨oc, odi, oda, osl⟩, hol, hcl, nl, hdl⟩ := hl
      obtain rfl : oc = .type "list" := hcl
      obtain rfl : oda = .seq items nl := hdl
      have hol' : (s.heap.push (bare w)).get? l = some { cls := .type "list", dict := odi, data := .seq items nl, slots := osl } := Heap.get?_push_of_some _ hol
      have hl1 : (s.heap.push (bare w)).IsList l items := ⟨_, hol', rfl, nl, rfl⟩
      obtain ⟨hsls, hslf, hne⟩ : _ ∧ _ ∧ (Value.type "list" == Value.type "dict") = false := ⟨F.sub_list_set, F.sub_list_frozenset, by decide⟩
      unfold Builtin.«set.__init__» noKeywords Builtin.Frozenset.updateFrom
      generalize hPI : pyIter = PI
      wp_walk
      subst hPI
      refine wpAny_pyIter_list hl1 (wpAny_bind (wpAny_runValue ?_))
      have lS : l < S := by rw [← eS]; exact Heap.lt_size hol
      have z1 : (s.heap.push (bare w)).objs.size = S + 1 := by rw [Heap.size_push, eS]
      have free : ∀ b, S ≤ b → s.heap.get? b = none := fun b hb => by
        cases q : s.heap.get? b with
        | none => rfl
        | some o => exact absurd (Nat.lt_of_lt_of_le (Heap.lt_size q) (show s.heap.objs.size ≤ b from eS ▸ hb)) (Nat.lt_irrefl _)
      refine fill_loop (s := { s with heap := (s.heap.push (bare w)).push { cls := .type "list_iterator", data := .fields #[.ref l, .int 0 0] } }) ((Walks.list (by simp [hh]) _ l (by rw [z1]; exact Nat.ne_of_lt (Nat.lt_succ_of_lt lS)) items).toS) (S := S) (by rw [z1]; intro m; exact (List.mem_cons.mp m).elim (fun e => absurd e (Nat.ne_of_lt (Nat.lt_succ_self S))) fun m => absurd (List.mem_singleton.mp m) (Nat.ne_of_gt lS)) many hfew (fun i v hv => ?_) hk (free _ (Nat.le_refl _))
        (fun b hb => free b (by rw [List.mem_singleton.mp hb, z1]; exact Nat.le_succ S)) (by simp only [Around.in1_units]; omega) ?hR (items.size - 0) 0 _ [] #[] 0 _ rfl (Nat.zero_le _) ⟨⟨_, Heap.get?_push_size _ rfl, rfl, rfl⟩, hl1.push _⟩ ?hM
        (fun b o e => Heap.get?_push_of_some _ (Heap.get?_push_of_some _ e)) (SN.new (Heap.get?_push_of_some _ hS)) ⟨fun _ m => (by cases m), fun _ m => (by simp at m), by simp⟩
      · have q : items.toList[i]? = some v := by rw [Array.getElem?_toList]; exact hv
        rw [hit, List.getElem?_map] at q
        obtain ⟨p, hp, e⟩ := Option.map_eq_some_iff.mp q
        exact ⟨p, hp, e.symm⟩
      case hM => exact Moved.refl fun _ => rfl
      case hR =>
        intro s' L es ep t mv hS' g kp
        obtain ⟨h', g2, d2, tk, o2⟩ := s'
        obtain rfl : g2 = s.gens := mv.gens
        obtain rfl : d2 = s.drawn := mv.drawn
        obtain rfl : o2 = s.os := mv.os
        exact (show wpAny _ _ _ _ _ _ from wpAny_pure (show wpAny _ _ (ret Value.none) _ _ _ from wpAny_pure ⟨rfl, h', tk, L, es, ep, t, rfl, hS', g, kp⟩))
    · match r₂, hr₂ with
      | .error _, hr₂ => exact hr₂
      | .ok (.ret r), hr₂ =>
        obtain ⟨rfl, h', tk, L, es, ep, t, rfl, hS', g, kp⟩ := hr₂
        repeat (any_goals (first | assumption | wp_step))
        exact h h' tk L es ep t hS' g kp
      | .ok (.next), hr₂ => exact hr₂.elim
  | .ok (.next), hr => exact hr.elim
end
end Hs

set_option Elab.async false
set_option linter.all false
set_option maxRecDepth 100000
set_option maxHeartbeats 4000000
/-! sorted(a set of nested tuples). -/
namespace Hs
open PySem PySem.Spec PyProof.Rows L2
theorem perm_back {α β : Type} {f : α → β} {vs us : List β} (h : vs.Perm us) : ∀ L : List α, us = L.map f → ∃ L1 : List α, L1.Perm L ∧ vs = L1.map f := by
  induction h with
  | nil => intro L e; exact ⟨[], (by match L, e with | [], _ => exact .refl _), rfl⟩
  | cons x _ ih =>
    intro L e
    cases L with
    | nil => cases e
    | cons y l =>
      obtain ⟨e1, e2⟩ := List.cons.inj e
      obtain ⟨L1, p, q⟩ := ih l e2
      exact ⟨y :: L1, p.cons y, by rw [List.map_cons, ← q, e1]⟩
  | swap x y l =>
    intro L e
    match L, e with
    | a :: b :: r, e =>
      obtain ⟨e1, e2⟩ := List.cons.inj e
      obtain ⟨e3, e4⟩ := List.cons.inj e2
      exact ⟨b :: a :: r, List.Perm.swap a b r, by rw [List.map_cons, List.map_cons, e1, e3, e4]⟩
    | [_], e => cases e
    | [], e => cases e
  | trans _ _ ih1 ih2 =>
    intro L e
    obtain ⟨L2, p2, q2⟩ := ih2 L e
    obtain ⟨L1, p1, q1⟩ := ih1 L2 q2
    exact ⟨L1, p1.trans p2, q1⟩
section
variable {P : Program} {w : World} {A : Around} {E : Value → Shared → Prop} {s : Shared} {a : Addr} {L : List Row} {es : Array (Int × Value)} {ep : Nat} {t : SetTable}
theorem each_refs {C : Row → Prop} : ∀ L : List Row, (∀ p ∈ L, C p) → PySem.W.EachIs (fun v (b : Row) => v = Value.ref b.1 ∧ C b) (L.map fun p => Value.ref p.1) L
  | [], _ => .nil
  | p :: L, h => .cons ⟨rfl, h p List.mem_cons_self⟩ (each_refs L fun q m => h q (List.mem_cons_of_mem _ m))
theorem refs_each : ∀ {out : List Value} {L : List Row}, PySem.W.EachIs (fun v (b : Row) => v = Value.ref b.1) out L → out = L.map fun p => Value.ref p.1
  | _, _, .nil => rfl
  | _, _, .cons h t => by rw [h, List.map_cons, ← refs_each t]
theorem sorted_at (R : SN w s.heap a L es ep t) (hh : A.handled = none) {enc : Row → PyData} (rd : ∀ p ∈ L, Reads s.heap (.ref p.1) (enc p) []) (hal : PySem.W.AllAlike (L.map enc)) (hk : PySem.W.Sortable (L.map enc)) (hu : ∀ p ∈ L, A.units + 4 + (enc p).depth < cLine)
    {Q : Value → Shared → Prop}
    (hQ : ∀ s' p (c : Nat) (L' : List Row), (∀ b o, s.heap.get? b = some o → s'.heap.get? b = some o) → s'.gens = s.gens → s'.os = s.os → s.heap.objs.size ≤ p →
      s'.heap.get? p = some (seqObj "list" (L'.map fun q => Value.ref q.1).toArray c) → L'.Perm L → L'.Pairwise (fun q r => PySem.W.dataLe false enc q r = true) → Q (.ref p) s') :
    wpAny (model P w) A (call (.builtin "sorted") [.ref a]) Q E s := by
  obtain ⟨o, ho, hex, hd⟩ := R.ob
  have hz := R.len
  have few := R.few
  refine Calls.call_function_entry kind_sorted plain_sorted entry_sorted (args_sorted1 _) ?_
  unfold Builtin.«sorted»
  refine wpAny_bind (m := checkCount "sorted" 1 1 _) (wpAny_pure (wpAny_bind ?_))
  refine collect_set (A := A.in1) hh ⟨o, ho, hex.1, hd⟩ R.fit (by show es.size < 4096; omega) R.tab.asc R.led fun s1 vs k1 z1 g1 o1 pm => ?_
  have er : es.toList.map (·.2) = L.map fun q => Value.ref q.1 := by
    rw [R.rows]
    show (L.map _).map _ = _
    rw [List.map_map]
    rfl
  rw [er] at pm
  obtain ⟨L1, p1, rfl⟩ := perm_back pm L rfl
  have lv : (L1.map fun q => Value.ref q.1).length < 4000 := by rw [List.length_map, p1.length_eq]; exact few
  refine wpAny_bind (wpAny_newList ?_ (by rw [sizeLine_eq]; omega))
  have hoL : (s1.heap.push (seqObj "list" (L1.map fun q => Value.ref q.1).toArray 0)).get? s1.heap.objs.size = some (seqObj "list" (L1.map fun q => Value.ref q.1).toArray 0) := Heap.get?_push_size _ rfl
  have kp : ∀ b u, s.heap.get? b = some u → (s1.heap.push (seqObj "list" (L1.map fun q => Value.ref q.1).toArray 0)).get? b = some u := fun b u e => Heap.get?_push_of_some _ (k1 b u e)
  have mm : ∀ d, d ∈ L1.map enc → d ∈ L.map enc := fun d m => (p1.map enc).mem_iff.mp m
  have e1 := each_refs (C := fun q => Reads (s1.heap.push (seqObj "list" (L1.map fun q => Value.ref q.1).toArray 0)) (.ref q.1) (enc q) []) L1 fun q m => PyProof.Rows.Reads.keeps kp (rd q (p1.mem_iff.mp m))
  refine wpAny_bind (wpAny_holding (PySem.W.list_sort_data (R := fun v (b : Row) => v = Value.ref b.1) (s := { s1 with heap := s1.heap.push (seqObj "list" (L1.map fun q => Value.ref q.1).toArray 0) }) hoL (e1.mono fun v b h => h.1)
    (e1.mono fun v b h => ⟨[], by rw [h.1]; exact h.2, fun z => (by cases z)⟩) (fun d m d' m' => hal d (mm d m) d' (mm d' m')) ?_ (by rw [p1.length_eq, sizeLine_eq]; omega) (fun b m => ?_) fun out lo eo => ?_))
  · rcases hk with h | h
    · exact .inl fun d m => h d (mm d m)
    · exact .inr fun d m => h d (mm d m)
  · have := hu b (p1.mem_iff.mp m)
    simp only [Around.in1_units]
    omega
  · have eo2 := refs_each eo
    subst eo2
    generalize hL' : L1.mergeSort (PySem.W.dataLe false enc) = L' at *
    obtain ⟨c, hc⟩ := sortedHeap_at (vs := L1.map fun q => Value.ref q.1) (out := (L'.map fun q => Value.ref q.1).toArray) hoL
    refine wpAny_pure ⟨_, rfl, hQ _ s1.heap.objs.size c L' (fun b u e => ?_) g1 o1 z1 hc (by rw [← hL']; exact (List.mergeSort_perm _ _).trans p1) (by rw [← hL']; exact PySem.W.sort_pairwise (PySem.W.sortLe_total _ _ _) _)⟩
    have lt := Heap.lt_size (k1 b u e)
    refine Eq.trans (sortedHeap_old (Nat.ne_of_lt lt) (by rw [size_push']; exact Nat.lt_succ_of_lt lt)) (kp b u e)
end
end Hs

set_option Elab.async false
set_option linter.all false
set_option maxRecDepth 100000
set_option maxHeartbeats 4000000
/-! Sets of tuples of numbers; sorted. -/
namespace Mv
open PySem PySem.Spec PyProof.Rows L2
mutual
theorem numb_key : ∀ m : MV, Hs.numb (keyN m) = true
  | .non => by unfold keyN Hs.numb; rfl
  | .bl _ => by unfold keyN Hs.numb; rfl
  | .int _ => by unfold keyN Hs.numb; rfl
  | .str _ => by unfold keyN Hs.numb; rfl
  | .ref _ => by unfold keyN Hs.numb; rfl
  | .frz _ => by unfold keyN Hs.numb; rfl
  | .tup l => by unfold keyN Hs.numb; exact numb_keys l
theorem numb_keys : ∀ l : List MV, Hs.numbs (keyNs l) = true
  | [] => by unfold keyNs Hs.numbs; rfl
  | m :: l => by unfold keyNs Hs.numbs; rw [numb_key m, numb_keys l]; rfl
end
mutual
theorem key_pd : ∀ (m : MV) (n : Nat), keyF m n = true → (keyN m).data = pd m
  | .non, _, _ => by unfold keyN NestedKey.data pd; rfl
  | .int i, _, _ => by unfold keyN NestedKey.data pd; rfl
  | .tup l, 0, h => by simp [keyF] at h
  | .tup l, n + 1, h => by
    unfold keyF at h
    unfold keyN NestedKey.data pd
    rw [keys_pd l n h]
  | .bl _, _, h => by simp [keyF] at h
  | .str _, _, h => by simp [keyF] at h
  | .ref _, _, h => by simp [keyF] at h
  | .frz _, _, h => by simp [keyF] at h
theorem keys_pd : ∀ (l : List MV) (n : Nat), keyFs l n = true → NestedKey.datas (keyNs l) = pds l
  | [], _, _ => by unfold keyNs NestedKey.datas pds; rfl
  | m :: l, n, h => by
    unfold keyFs at h
    rw [Bool.and_eq_true] at h
    unfold keyNs NestedKey.datas pds
    rw [key_pd m n h.1, keys_pd l n h.2]
end
mutual
theorem key_dep : ∀ (m : MV) (n : Nat), keyF m n = true → (pd m).depth ≤ n
  | .non, _, _ => by unfold pd PyData.depth; exact Nat.zero_le _
  | .int i, _, _ => by unfold pd PyData.depth; exact Nat.zero_le _
  | .tup l, 0, h => by simp [keyF] at h
  | .tup l, n + 1, h => by
    unfold keyF at h
    unfold pd PyData.depth
    exact Nat.succ_le_succ (keys_dep l n h)
  | .bl _, _, h => by simp [keyF] at h
  | .str _, _, h => by simp [keyF] at h
  | .ref _, _, h => by simp [keyF] at h
  | .frz _, _, h => by simp [keyF] at h
theorem keys_dep : ∀ (l : List MV) (n : Nat), keyFs l n = true → PyData.depthAll (pds l) ≤ n
  | [], _, _ => by unfold pds PyData.depthAll; exact Nat.zero_le _
  | m :: l, n, h => by
    unfold keyFs at h
    rw [Bool.and_eq_true] at h
    unfold pds PyData.depthAll
    have := key_dep m n h.1
    have := keys_dep l n h.2
    omega
end
section
variable {X : Cx} {Z : ZT} {pins : List (Addr × Obj)} {σ : L2.St} {H : Hp} {s : Shared}
mutual
theorem key_rd (I : Inv X pins σ H s) : ∀ (m : MV) (n : Nat) {v : V} {u : Value}, keyF m n = true → RM X.K H m v → RelV v u → Reads s.heap u (pd m) []
  | .non, n, _, _, _, r, rv => by
    unfold RM at r
    subst r
    obtain rfl : _ = Value.none := rv
    unfold pd
    exact .none
  | .int i, n, _, _, _, r, rv => by
    unfold RM at r
    subst r
    obtain ⟨t, rfl⟩ := (show ∃ t, _ = Value.int i t from rv)
    unfold pd
    exact .int i t
  | .tup l, 0, _, _, h, _, _ => by simp [keyF] at h
  | .tup l, n + 1, _, _, h, r, rv => by
    unfold keyF at h
    unfold RM at r
    obtain ⟨a, xs, rfl, hs, hr⟩ := r
    obtain rfl : _ = Value.ref a := rv
    obtain ⟨its, hv, ⟨o, ho, hc, k, hd⟩, _⟩ := I.tuple hs
    unfold pd
    exact .tuple ho hc hd (by simpa using keys_rd I l n h hr hv)
  | .bl _, n, _, _, h, _, _ => by simp [keyF] at h
  | .str _, n, _, _, h, _, _ => by simp [keyF] at h
  | .ref _, n, _, _, h, _, _ => by simp [keyF] at h
  | .frz _, n, _, _, h, _, _ => by simp [keyF] at h
theorem keys_rd (I : Inv X pins σ H s) : ∀ (l : List MV) (n : Nat) {xs : List V} {us : List Value}, keyFs l n = true → RMs X.K H l xs → Vals xs us → ReadsAll s.heap us (pds l) []
  | [], n, _, _, _, r, rv => by
    unfold RMs at r
    subst r
    cases rv
    unfold pds
    exact .nil
  | m :: l, n, _, _, h, r, rv => by
    unfold keyFs at h
    rw [Bool.and_eq_true] at h
    unfold RMs at r
    obtain ⟨x, r', rfl, h1, h2⟩ := r
    cases rv with
    | cons a b =>
      unfold pds
      exact ReadsAll.cons (as := []) (bs := []) (key_rd I m n h.1 h1 a) (keys_rd I l n h.2 h2 b)
end
theorem key_el (I : Inv X pins σ H s) {m : MV} {b : Addr} (h : keyF m 8 = true) (r : RM X.K H m (.ref b)) : Hs.El s.heap (keyN m) b := ⟨key_is I m 8 h r rfl, keyF_depth m 8 h, numb_key m⟩
theorem ksr_mem {K : PySem.W.Frag} {H : Hp} : ∀ {l : List MV} {L : List Hs.Row}, KsR K H l L → ∀ p ∈ L, ∃ m ∈ l, p.2 = keyN m ∧ keyF m 8 = true ∧ RM K H m (.ref p.1)
  | [], _, h, p, hp => by
    unfold KsR at h
    subst h
    cases hp
  | m :: l, _, ⟨x, r, e, h1, h2, h3, h4⟩, p, hp => by
    subst e
    rcases List.mem_cons.mp hp with rfl | hp
    · exact ⟨m, List.mem_cons_self, h1, h2, h3⟩
    · obtain ⟨m', a, b⟩ := ksr_mem h4 p hp
      exact ⟨m', List.mem_cons_of_mem _ a, b⟩
theorem ksr_of {K : PySem.W.Frag} {H : Hp} : ∀ {l : List MV} {L : List Hs.Row}, KsR K H l L → ∀ m ∈ l, ∃ p ∈ L, p.2 = keyN m ∧ keyF m 8 = true ∧ RM K H m (.ref p.1)
  | [], _, h, m, hm => by cases hm
  | m' :: l, _, ⟨x, r, e, h1, h2, h3, h4⟩, m, hm => by
    subst e
    rcases List.mem_cons.mp hm with rfl | hm
    · exact ⟨x, List.mem_cons_self, h1, h2, h3⟩
    · obtain ⟨p, a, b⟩ := ksr_of h4 m hm
      exact ⟨p, List.mem_cons_of_mem _ a, b⟩
theorem ksr_keys {K : PySem.W.Frag} {H : Hp} : ∀ {l : List MV} {L : List Hs.Row}, KsR K H l L → L.map (·.2) = l.map keyN
  | [], _, h => by
    unfold KsR at h
    subst h
    rfl
  | m' :: l, _, ⟨x, r, e, h1, h2, h3, h4⟩ => by
    subst e
    rw [List.map_cons, List.map_cons, h1, ksr_keys h4]
theorem ksr_len {K : PySem.W.Frag} {H : Hp} {l : List MV} {L : List Hs.Row} (h : KsR K H l L) : L.length = l.length := by
  have := congrArg List.length (ksr_keys h)
  rwa [List.length_map, List.length_map] at this
theorem ksr_snoc {K : PySem.W.Frag} {H : Hp} {x : MV} {b : Addr} (h1 : keyF x 8 = true) (h2 : RM K H x (.ref b)) : ∀ {l : List MV} {L : List Hs.Row}, KsR K H l L → KsR K H (l ++ [x]) (L ++ [(b, keyN x)])
  | [], _, h => by
    unfold KsR at h
    subst h
    exact ⟨_, [], rfl, rfl, h1, h2, rfl⟩
  | m' :: l, _, ⟨y, r, e, g1, g2, g3, g4⟩ => by
    subst e
    exact ⟨y, _, rfl, g1, g2, g3, ksr_snoc h1 h2 g4⟩
theorem keyF_inj {m k : MV} (h : keyF m 8 = true) (h' : keyF k 8 = true) (e : keyN m = keyN k) : m = k := keyN_inj m k 8 8 h h' e
/-- rows of some set are picked in the values' order -/
theorem ksr_pick {K : PySem.W.Frag} {H : Hp} {l : List MV} {ks L : List Hs.Row} (r : KsR K H l ks) (sub : ∀ p ∈ L, p ∈ ks) (all : ∀ p ∈ ks, p.2 ∈ L.map (·.2)) (nd : (L.map (·.2)).Nodup) {d : List MV} (hd : d.Nodup) (h1 : ∀ m ∈ d, m ∈ l) (h2 : ∀ m ∈ l, m ∈ d) : ∃ L', L'.Perm L ∧ KsR K H d L' := by
  have one : ∀ m ∈ l, ∃ p ∈ L, p.2 = keyN m ∧ keyF m 8 = true ∧ RM K H m (.ref p.1) := fun m hm => by
    obtain ⟨q, q1, q2, q3, q4⟩ := ksr_of r m hm
    obtain ⟨p, p1, p2⟩ := List.mem_map.mp (all q q1)
    obtain ⟨m', m1, m2, m3, m4⟩ := ksr_mem r p (sub p p1)
    have e : m' = m := keyF_inj m3 q3 (by rw [← m2, p2, q2])
    subst e
    exact ⟨p, p1, m2, m3, m4⟩
  have mk : ∀ d : List MV, (∀ m ∈ d, m ∈ l) → ∃ L' : List Hs.Row, (∀ p ∈ L', p ∈ L) ∧ KsR K H d L' := fun d => by
    induction d with
    | nil => intro _; exact ⟨[], fun p hp => (by cases hp), rfl⟩
    | cons m d ih =>
      intro h
      obtain ⟨p, p1, p2, p3, p4⟩ := one m (h m List.mem_cons_self)
      obtain ⟨L', a, b⟩ := ih fun k hk => h k (List.mem_cons_of_mem _ hk)
      refine ⟨p :: L', fun q hq => ?_, p, L', rfl, p2, p3, p4, b⟩
      rcases List.mem_cons.mp hq with rfl | hq
      · exact p1
      · exact a q hq
  obtain ⟨L', a, b⟩ := mk d h1
  have kd : (d.map keyN).Nodup := by
    rw [List.nodup_iff_pairwise_ne, List.pairwise_map]
    refine List.Pairwise.imp_of_mem (fun {x y} hx hy ne e => ?_) hd
    obtain ⟨_, _, _, x3, _⟩ := one x (h1 x hx)
    obtain ⟨_, _, _, y3, _⟩ := one y (h1 y hy)
    exact ne (keyF_inj x3 y3 e)
  have nd' : (L'.map (·.2)).Nodup := by rw [ksr_keys b]; exact kd
  refine ⟨L', (List.perm_ext_iff_of_nodup (L2.nodup_of_map nd') (L2.nodup_of_map nd)).mpr fun p => ⟨a p, fun hp => ?_⟩, b⟩
  obtain ⟨m, m1, m2, m3, m4⟩ := ksr_mem r p (sub p hp)
  obtain ⟨q, q1, q2, _⟩ := ksr_of b m (h2 m m1)
  have e : q.2 = p.2 := by rw [q2, m2]
  have inj : ∀ (L : List Hs.Row), (L.map (·.2)).Nodup → ∀ p ∈ L, ∀ q ∈ L, q.2 = p.2 → q = p := fun L => by
    induction L with
    | nil => intro _ p hp; cases hp
    | cons x L ih =>
      intro nd p hp q hq e
      rw [List.map_cons, List.nodup_cons] at nd
      rcases List.mem_cons.mp hp with rfl | hp' <;> rcases List.mem_cons.mp hq with rfl | hq'
      · rfl
      · exact absurd (List.mem_map.mpr ⟨q, hq', e⟩) nd.1
      · exact absurd (List.mem_map.mpr ⟨p, hp', e.symm⟩) nd.1
      · exact ih nd.2 p hp' q hq' e
  rw [← inj L nd p hp q (a q q1) e]
  exact q1
theorem kso_ok {P : Program} {w : World} {H' : Hp} {h : Heap} {a : Addr} {ft : Bool} {L : List Hs.Row} (k : KsH ft h a L) : ObjOk P w H' h a (KsO ft a L) := by
  have ⟨es, ep, t, ⟨o, ho, _⟩, _⟩ := k
  refine ⟨k, ⟨o, ho⟩, fun g1 g2 p st => ?_⟩
  have ⟨es', ep', t', ⟨o', ho', h2⟩, h3⟩ := (show KsH ft g1 a L from p)
  exact (show KsH ft g2 a L from ⟨es', ep', t', ⟨o', st _ ho', h2⟩, h3⟩)
theorem ks_in (hz : Z.ft = X.w.params.followText "set-order") {h : Heap} {a : Addr} {L : List Hs.Row} (k : KsH Z.ft h a L) (els : ∀ p ∈ L, Hs.El h p.2 p.1) : ∃ es ep t, Hs.SN X.w h a L es ep t := by
  obtain ⟨es, ep, t, h1, h2, h3, h4, h5, h6, h7, h8, h9⟩ := k
  exact ⟨es, ep, t, ⟨h1, h2 X.w, h3 X.w, h4, h5, els, h6, by rw [← hz]; exact h7, h8, h9⟩⟩
theorem keys_free {L : List Hs.Row} (h : ∀ p ∈ L, ∃ m, p.2 = keyN m) (w w' : World) : Hs.rowsH w L = Hs.rowsH w' L ∧ Hs.hashesH w L = Hs.hashesH w' L := by
  refine ⟨List.map_congr_left fun p hp => ?_, List.map_congr_left fun p hp => ?_⟩
  · obtain ⟨m, e⟩ := h p hp
    show (p.2.hash w, Value.ref p.1) = (p.2.hash w', Value.ref p.1)
    rw [e, hash_free w w' m]
  · obtain ⟨m, e⟩ := h p hp
    rw [e, hash_free w w' m]
theorem ks_out (hz : Z.ft = X.w.params.followText "set-order") {h : Heap} {a : Addr} {L : List Hs.Row} {es : Array (Int × Value)} {ep : Nat} {t : SetTable} (R : Hs.SN X.w h a L es ep t) (hk : ∀ p ∈ L, ∃ m, p.2 = keyN m) : KsH Z.ft h a L :=
  ⟨es, ep, t, R.ob, fun w => by rw [(keys_free hk w X.w).1]; exact R.rows, fun w => by rw [(keys_free hk w X.w).2]; exact R.tab, R.m6, R.nd, R.plain, by rw [hz]; exact R.led, R.room, R.few⟩
/-- what stands there -/
theorem ks_at (hz : Z.ft = X.w.params.followText "set-order") (I : Inv X pins σ H s) {a : Addr} {l : List MV} {L L' : List Hs.Row} (e : H a = some (KsO Z.ft a L)) (p : L'.Perm L) (r : KsR X.K H l L') : ∃ es ep t, Hs.SN X.w s.heap a L es ep t := by
  have ok : ObjOk X.prog X.w H s.heap a (KsO Z.ft a L) := I.hok a _ e
  refine ks_in hz (show KsH Z.ft s.heap a L from ok.1) fun q hq => ?_
  obtain ⟨m, _, m2, m3, m4⟩ := ksr_mem r q (p.mem_iff.mpr hq)
  rw [m2]
  exact key_el I m3 m4
def hasS (l : List MV) (x : MV) : Bool := l.any fun y => decide (keyN y = keyN x)
theorem hasS_key {K : PySem.W.Frag} {H : Hp} {l : List MV} {L L' : List Hs.Row} (p : L'.Perm L) (r : KsR K H l L') (x : MV) : decide (keyN x ∈ L.map (·.2)) = hasS l x := by
  rw [← Bool.coe_iff_coe, decide_eq_true_iff, ← (p.map (·.2)).mem_iff, ksr_keys r]
  unfold hasS
  simp only [List.any_eq_true, decide_eq_true_iff, List.mem_map]
def inS : M2 := fun x y S R => match y with
  | .ref a => (match S a with
    | some (.ks l) => keyT x = true ∧ R (.bl (hasS l x)) S
    | _ => False)
  | _ => False
def notInS : M2 := fun x y S R => match y with
  | .ref a => (match S a with
    | some (.ks l) => keyT x = true ∧ R (.bl (!hasS l x)) S
    | _ => False)
  | _ => False
theorem ro_inS (hz : Z.ft = X.w.params.followText "set-order") (hu : X.A.units + 65 < cLine) : OpR X (compareOp .In) (rM X.K Z inS) := by
  intro pins s σ H x y v u Q I rx ry h
  obtain ⟨mx, my, S, R, r1, r2, hS, hf, hQ⟩ := h
  unfold inS at hf
  split at hf
  · rename_i a
    split at hf
    · rename_i l e
      obtain ⟨hk, hf⟩ := hf
      unfold RM at r2
      subst r2
      obtain rfl : u = Value.ref a := ry
      obtain ⟨b, rfl⟩ := kt_ref hk r1
      obtain rfl : v = Value.ref b := rx
      obtain ⟨L, L', eL, pL, rL⟩ := hS.ob a _ e
      obtain ⟨es, ep, t, R0⟩ := ks_at hz I eL pL rL
      refine Hs.in_at R0 (key_el I (keyT_F hk) r1) (by omega) fun tk => ?_
      rw [hasS_key pL rL mx]
      exact ⟨.bl (hasS l mx), H, I.tok tk, rfl, mq_bl hQ hS hf⟩
    · exact hf.elim
  · exact hf.elim
theorem ro_notinS (hz : Z.ft = X.w.params.followText "set-order") (hu : X.A.units + 65 < cLine) : OpR X (compareOp .NotIn) (rM X.K Z notInS) := by
  intro pins s σ H x y v u Q I rx ry h
  obtain ⟨mx, my, S, R, r1, r2, hS, hf, hQ⟩ := h
  unfold notInS at hf
  split at hf
  · rename_i a
    split at hf
    · rename_i l e
      obtain ⟨hk, hf⟩ := hf
      unfold RM at r2
      subst r2
      obtain rfl : u = Value.ref a := ry
      obtain ⟨b, rfl⟩ := kt_ref hk r1
      obtain rfl : v = Value.ref b := rx
      obtain ⟨L, L', eL, pL, rL⟩ := hS.ob a _ e
      obtain ⟨es, ep, t, R0⟩ := ks_at hz I eL pL rL
      refine Hs.notIn_at R0 (key_el I (keyT_F hk) r1) (by omega) fun tk => ?_
      rw [hasS_key pL rL mx]
      exact ⟨.bl (!hasS l mx), H, I.tok tk, rfl, mq_bl hQ hS hf⟩
    · exact hf.elim
  · exact hf.elim
/-- s.add(x) -/
def addS (l : List MV) (x : MV) : List MV := if hasS l x then l else l ++ [x]
def addSV : MB := fun x vs S R => match x, vs with
  | .ref a, [m] => (match S a with
    | some (.ks l) => keyT m = true ∧ l.length + 1 < 4000 ∧ R .non (supd S a (.ks (addS l m)))
    | _ => False)
  | _, _ => False
theorem mr_add (hz : Z.ft = X.w.params.followText "set-order") (hu : X.A.units + 65 < cLine) : MtR X "set.add" (rMB X.K Z addSV) := by
  intro pins s σ H x vs v us Q I rx rv h
  obtain ⟨mx, ms, S, R, r1, r2, hS, hf, hQ⟩ := h
  unfold addSV at hf
  split at hf
  · rename_i a m
    split at hf
    · rename_i l e
      obtain ⟨hk, hl, hf⟩ := hf
      obtain ⟨u, rfl, q⟩ := rms1 r2
      unfold RM at r1
      subst r1
      obtain rfl : v = Value.ref a := rx
      obtain ⟨b, rfl⟩ := kt_ref hk q
      rw [Vals.ref1 rv]
      obtain ⟨L, L', eL, pL, rL⟩ := hS.ob a _ e
      obtain ⟨es, ep, t, R0⟩ := ks_at hz I eL pL rL
      have few : L.length + 1 < 4000 := by rw [← pL.length_eq, ksr_len rL]; exact hl
      refine Hs.call_add R0 (key_el I (keyT_F hk) q) (by omega) few fun h' tk L2 es' ep' t' sb R2 c1 c2 => ?_
      have hh := hasS_key pL rL m
      have key : ∃ L3 : List Hs.Row, L3.Perm L2 ∧ KsR X.K H (addS l m) L3 := by
        unfold addS
        by_cases c : keyN m ∈ L.map (·.2)
        · rw [decide_eq_true c] at hh
          rw [← hh, if_pos rfl, c1 c]
          exact ⟨L', pL, rL⟩
        · rw [decide_eq_false c] at hh
          rw [← hh, if_neg Bool.false_ne_true]
          refine ⟨L' ++ [(b, keyN m)], ?_, ksr_snoc (keyT_F hk) q rL⟩
          exact (List.perm_append_singleton _ _).trans ((pL.cons _).trans (c2 c).symm)
      obtain ⟨L3, p3, r3⟩ := key
      have kk : ∀ p ∈ L2, ∃ m, p.2 = keyN m := fun p hp => by
        obtain ⟨m', _, m2, _⟩ := ksr_mem r3 p (p3.mem_iff.mpr hp)
        exact ⟨m', m2⟩
      have kh := ks_out hz R2 kk
      have he : ∃ q, h'.get? a = some q := let ⟨o, ho, _⟩ := R2.ob; ⟨o, ho⟩
      have I' : Inv X pins σ (upd H a (KsO Z.ft a L2)) { s with heap := h', toks := tk } := d_write I (by rw [eL]; exact True.intro) sb he (kso_ok kh)
      have g : GK X.K S H (supd S a (.ks (addS l m))) (upd H a (KsO Z.ft a L2)) := GK.put (TK.ks eL) e
      refine ⟨.non, _, I', rfl, hQ _ _ ⟨.non, _, g, by unfold RM; rfl, hS.put (TK.ks eL) (fun ps z => by rw [eL] at z; cases z) ⟨L2, L3, upd_same, p3, r3.monoT (TK.ks eL)⟩, hf⟩⟩
    · exact hf.elim
  · exact hf.elim
def isS (S : Sto) (x : MV) : Prop := match x with
  | .ref a => (match S a with
    | some (.ks _) => True
    | _ => False)
  | _ => False
def mBMS (f : MB) (mo : ME) (ms : MA) : ME := fun ρ S R => mo ρ S fun x S1 => isS S1 x ∧ ms ρ S1 fun vs S2 => f x vs S2 R
theorem ee_add {o e : Expr} {es : List Expr} {m : ME} {mas : MA} {apos cpos : Pos} (hz : Z.ft = X.w.params.followText "set-order") (hu : X.A.units + 65 < cLine) (ho : EE X Z o m) (ha : EA X Z (e :: es) mas)
    (hbase : attributeBase o "add" X.env (eval o X.env) = eval o X.env := by kernel_rfl)
    (hfew : ((backTo cpos (starEach (e :: es) X.env)).all (fun x => !x.1) && (backToKw cpos (keywordEach [] X.env)).all (fun x => x.1.isSome)
      && decide ((e :: es).length + ([] : List Keyword).length + (if ([] : List Keyword).isEmpty then 0 else 1) < 30)) = true := by kernel_rfl)
    (hline : (apos.endLine == cpos.line) = true := by kernel_rfl) (hs : starEach (e :: es) X.env = (false, eval e X.env) :: starEach es X.env := by kernel_rfl) (hplain : (backTo cpos (starEach es X.env)).any (·.1) = false := by kernel_rfl) :
    EE X Z (.Call (.Attribute o "add" apos) (e :: es) [] cpos) (mBMS addSV m mas) := by
  refine ⟨fun σ H ρ S R hE hS hm pins s I => ?_⟩
  refine wpAny_Call_method_late hbase hfew hline rfl (thn (ho.run σ H ρ S _ hE hS hm pins s I) fun v s1 ⟨x, H1, I1, r1, y, S1, t1, q1, s1', is, q2⟩ => ?_)
  unfold isS at is
  split at is
  · rename_i a
    split at is
    · rename_i l e1
      unfold RM at q1
      subst q1
      obtain rfl : v = Value.ref a := r1
      obtain ⟨L, L', eL, pL, rL⟩ := s1'.ob a _ e1
      obtain ⟨es', ep, t, R0⟩ := ks_at hz I1 eL pL rL
      have nod : ∀ b, Value.ref a = .ref b → ∃ ob, s1.heap.get? b = some ob ∧ ob.dict = none := fun b z => by
        cases z
        obtain ⟨o, ho, hex, _⟩ := R0.ob
        exact ⟨o, ho, hex.2.1⟩
      refine ⟨"set", "set.add", F.plainAttrs_set, F.slot_set_add, F.type_set_add, R0.ty, nod, ?_⟩
      have hA := ha.pa.run cpos pins s1 σ H1 (fun vs H' => MQs X.K Z S1 H1 (fun ms S2 => addSV (.ref a) ms S2 R) vs H') I1 ⟨ρ, S1, _, hE.mono t1, s1', q2, fun _ _ z => z⟩
      rw [hs] at hA ⊢
      refine Calls.callWith_builtin (by show (false || (backTo cpos (starEach es X.env)).any (·.1)) = false; rw [hplain]; rfl) (Calls.evalArgs_plain ?_)
      exact thn hA fun us s2 ⟨vs, H2, I2, r2, ms, S2, t2, rr, ss, q3⟩ =>
        mr_add hz hu pins s2 σ H2 (.ref a) vs (.ref a) us _ I2 rfl r2 ⟨.ref a, ms, S2, R, by unfold RM; rfl, rr, ss, q3, fun v H' q => q.base (t1.trans t2)⟩
    · exact is.elim
  · exact is.elim
end
end Mv

set_option Elab.async false
set_option linter.all false
set_option maxRecDepth 100000
set_option maxHeartbeats 4000000
/-! set(list), sorted(set), sorted(list), of tuples of numbers. -/
namespace Mv
open PySem PySem.Spec PyProof.Rows L2
theorem hasS_iff {l : List MV} {x : MV} (hl : ∀ y ∈ l, keyF y 8 = true) (hx : keyF x 8 = true) : hasS l x = true ↔ x ∈ l := by
  unfold hasS
  simp only [List.any_eq_true, decide_eq_true_iff]
  exact ⟨fun ⟨y, h, e⟩ => by rw [← keyF_inj (hl y h) hx e]; exact h, fun h => ⟨x, h, rfl⟩⟩
def dd (l : List MV) : List MV := l.foldl addS []
theorem dd_go : ∀ (l acc : List MV), (∀ y ∈ l, keyF y 8 = true) → (∀ y ∈ acc, keyF y 8 = true) → acc.Nodup → (l.foldl addS acc).Nodup ∧ ∀ x, x ∈ l.foldl addS acc ↔ x ∈ acc ∨ x ∈ l
  | [], acc, _, _, nd => ⟨nd, fun x => by simp⟩
  | m :: l, acc, h1, h2, nd => by
    have hm := h1 m List.mem_cons_self
    have hi := hasS_iff h2 hm
    have step : (addS acc m).Nodup ∧ (∀ x, x ∈ addS acc m ↔ x ∈ acc ∨ x = m) := by
      unfold addS
      by_cases c : hasS acc m = true
      · rw [if_pos c]
        exact ⟨nd, fun x => ⟨.inl, fun z => z.elim id fun e => by rw [e]; exact hi.mp c⟩⟩
      · rw [if_neg c]
        refine ⟨List.nodup_append.mpr ⟨nd, by simp, fun a ha b hb => ?_⟩, fun x => by simp⟩
        rw [List.mem_singleton.mp hb]
        rintro rfl
        exact c (hi.mpr ha)
    obtain ⟨a, b⟩ := dd_go l (addS acc m) (fun y hy => h1 y (List.mem_cons_of_mem _ hy)) (fun y hy => ((step.2 y).mp hy).elim (h2 y) fun e => by rw [e]; exact hm) step.1
    refine ⟨a, fun x => ?_⟩
    rw [List.foldl_cons, b x, step.2 x, List.mem_cons, or_assoc]
theorem dd_nodup {l : List MV} (h : ∀ y ∈ l, keyF y 8 = true) : (dd l).Nodup := (dd_go l [] h (fun _ z => by cases z) List.nodup_nil).1
theorem dd_mem {l : List MV} (h : ∀ y ∈ l, keyF y 8 = true) (x : MV) : x ∈ dd l ↔ x ∈ l := by
  rw [show x ∈ dd l ↔ _ from (dd_go l [] h (fun _ z => by cases z) List.nodup_nil).2 x]
  simp
/-- the items of a list -/
def elsV (S : Sto) (x : MV) : Option (List MV) := match x with
  | .ref a => lookL S a
  | .frz l => some l
  | _ => none
def setV : MF := fun ms S R => match ms with
  | [x] => (match elsV S x with
    | some l => (∀ y ∈ l, keyT y = true) ∧ l.length < 4000 ∧ ∀ p, S p = none → R (.ref p) (supd S p (.ks (dd l)))
    | none => False)
  | _ => False
def leM (x y : MV) : Bool := PySem.W.dataLe false pd x y
def sortOk (l : List MV) : Prop := (∀ x ∈ l, ∀ y ∈ l, PySem.W.alike (pd x) (pd y) = true) ∧ ∀ x ∈ l, keyT x = true ∧ ∃ y r, x = .tup (y :: r)
def sortedL (l : List MV) (S : Sto) (R : MK) : Prop := sortOk l ∧ l.length < 4000 ∧ ∀ l' p, l'.Perm l → l'.Pairwise (fun x y => leM x y = true) → S p = none → R (.ref p) (supd S p (.lst l'))
def setL (S : Sto) (x : MV) : Option (List MV) := match x with
  | .ref a => (match S a with
    | some (.ks l) => some l
    | _ => none)
  | _ => none
def sortedV : MF := fun ms S R => match ms with
  | [x] => (match setL S x with
    | some l => sortedL l S R
    | none => (match elsV S x with
      | some l => sortedL l S R
      | none => False))
  | _ => False
section
variable {X : Cx} {Z : ZT} {pins : List (Addr × Obj)} {σ : L2.St} {H : Hp} {s : Shared}
theorem rows_of {K : PySem.W.Frag} {H : Hp} : ∀ {l : List MV} {xs : List V} {us : List Value}, (∀ y ∈ l, keyT y = true) → RMs K H l xs → Vals xs us → ∃ ks : List Hs.Row, KsR K H l ks ∧ us = ks.map (fun p => Value.ref p.1) ∧ xs = ks.map fun p => V.ref p.1
  | [], _, _, _, r, rv => by
    unfold RMs at r
    subst r
    cases rv
    exact ⟨[], rfl, rfl, rfl⟩
  | m :: l, _, _, h, r, rv => by
    unfold RMs at r
    obtain ⟨x, r', rfl, h1, h2⟩ := r
    have hk := h m List.mem_cons_self
    obtain ⟨b, rfl⟩ := kt_ref hk h1
    cases rv with
    | @cons _ u _ us a c =>
      obtain rfl : u = Value.ref b := a
      obtain ⟨ks, e1, e2, e3⟩ := rows_of (fun y hy => h y (List.mem_cons_of_mem _ hy)) h2 c
      exact ⟨(b, keyN m) :: ks, ⟨_, _, rfl, rfl, keyT_F hk, h1, e1⟩, by rw [e2]; rfl, by rw [e3]; rfl⟩
theorem ksr_rms {K : PySem.W.Frag} {H : Hp} : ∀ {l : List MV} {L : List Hs.Row}, KsR K H l L → RMs K H l (L.map fun p => V.ref p.1)
  | [], _, h => by
    unfold KsR at h
    subst h
    exact RMs.nil
  | m :: l, _, ⟨x, r, e, h1, h2, h3, h4⟩ => by
    subst e
    exact RMs.cons h3 (ksr_rms h4)
theorem ksr_perm {K : PySem.W.Frag} {H : Hp} {L1 L2 : List Hs.Row} (p : L1.Perm L2) : ∀ l, KsR K H l L1 → ∃ l', KsR K H l' L2 ∧ l'.Perm l := by
  induction p with
  | nil => intro l h; exact ⟨l, h, .refl _⟩
  | cons x _ ih =>
    intro l h
    match l, h with
    | m :: l, ⟨x', r, e, h1, h2, h3, h4⟩ =>
      obtain ⟨rfl, rfl⟩ := List.cons.inj e
      obtain ⟨l', a, b⟩ := ih l h4
      exact ⟨m :: l', ⟨x, _, rfl, h1, h2, h3, a⟩, b.cons m⟩
    | [], h => cases h
  | swap x y r =>
    intro l h
    match l, h with
    | m :: k :: l, ⟨x', r', e, h1, h2, h3, x'', r'', e', g1, g2, g3, g4⟩ =>
      obtain ⟨rfl, rfl⟩ := List.cons.inj e
      obtain ⟨rfl, rfl⟩ := List.cons.inj e'
      exact ⟨k :: m :: l, ⟨_, _, rfl, g1, g2, g3, _, _, rfl, h1, h2, h3, g4⟩, List.Perm.swap m k l⟩
    | [_], ⟨_, _, e, _, _, _, e'⟩ =>
      obtain ⟨_, rfl⟩ := List.cons.inj e
      cases e'
    | [], h => cases h
  | trans _ _ ih1 ih2 =>
    intro l h
    obtain ⟨l1, a, b⟩ := ih1 l h
    obtain ⟨l2, c, d⟩ := ih2 l1 a
    exact ⟨l2, c, d.trans b⟩
theorem ksr_data {K : PySem.W.Frag} {H : Hp} : ∀ {l : List MV} {L : List Hs.Row}, KsR K H l L → L.map (fun p => p.2.data) = l.map pd
  | [], _, h => by
    unfold KsR at h
    subst h
    rfl
  | m :: l, _, ⟨x, r, e, h1, h2, h3, h4⟩ => by
    subst e
    rw [List.map_cons, List.map_cons, ksr_data h4, h1, key_pd m 8 h2]
theorem pw_pd {K : PySem.W.Frag} {H : Hp} {l : List MV} {L : List Hs.Row} (r : KsR K H l L) (h : L.Pairwise fun p q => PySem.W.dataLe false (fun b : Hs.Row => b.2.data) p q = true) : l.Pairwise fun x y => leM x y = true := by
  have h1 : (L.map fun p => p.2.data).Pairwise fun x y => PySem.W.dataLe false id x y = true := List.pairwise_map.mpr h
  rw [ksr_data r] at h1
  exact List.pairwise_map.mp h1
theorem vals_rows : ∀ L : List Hs.Row, Vals (L.map fun q => V.ref q.1) (L.map fun q => Value.ref q.1)
  | [] => .nil
  | x :: L => .cons rfl (vals_rows L)
theorem sort_prem {l : List MV} (h : sortOk l) : PySem.W.AllAlike (l.map pd) ∧ PySem.W.Sortable (l.map pd) := by
  refine ⟨fun d hd d' hd' => ?_, .inl fun d hd => ?_⟩
  · obtain ⟨x, hx, rfl⟩ := List.mem_map.mp hd
    obtain ⟨y, hy, rfl⟩ := List.mem_map.mp hd'
    exact h.1 x hx y hy
  · obtain ⟨x, hx, rfl⟩ := List.mem_map.mp hd
    obtain ⟨y, r, rfl⟩ := (h.2 x hx).2
    exact ⟨pd y, pds r, by simp only [pd, pds]⟩
theorem els_sq {K : PySem.W.Frag} {S : Sto} {H : Hp} {x : MV} {l : List MV} {v : V} (hS : RS K Z S H) (r : RM K H x v) (e : elsV S x = some l) : ∃ b xs, v = .ref b ∧ SqL K H b xs ∧ RMs K H l xs := by
  cases x with
  | ref a =>
    unfold RM at r
    obtain ⟨xs, a1, a2⟩ := look_sq hS e
    exact ⟨a, xs, r, a1, a2⟩
  | frz k =>
    cases (show some k = some l from e)
    unfold RM at r
    obtain ⟨a, xs, e, sq, q⟩ := r
    exact ⟨a, xs, e, sq.sq, q⟩
  | _ => exact nomatch (show none = some l from e)
theorem cr_set (hz : Z.ft = X.w.params.followText "set-order") (hc : X.calm = true) (hu : X.A.units + 65 < cLine) : CallR X (.type "set") (rMC X.K Z setV) := by
  intro pins s σ H xs us Q I rv h
  obtain ⟨ms, S, R, r, hS, hf, hQ⟩ := h
  unfold setV at hf
  split at hf
  · rename_i x
    split at hf
    · rename_i l e
      obtain ⟨hk, hl, hf⟩ := hf
      obtain ⟨v, rfl, q⟩ := rms1 r
      obtain ⟨a, ys, rfl, g1, g2⟩ := els_sq hS q e
      rw [Vals.ref1 rv]
      obtain ⟨its, rw', pl, _⟩ := I.list g1
      obtain ⟨ks, k1, k2, _⟩ := rows_of hk g2 rw'
      have hks : ks.length < 4000 := by rw [ksr_len k1]; exact hl
      have hn : H s.heap.objs.size = none := I.hok.fresh (Nat.le_refl _)
      refine Hs.call_of (P := X.prog) (w := X.w) (ks := ks) (I.ok.hd hc) pl.isList (by simpa using k2) (fun p hp => ?_) hks (by omega) fun h' tk L es ep t R0 g k => ?_
      · obtain ⟨m, _, m2, m3, m4⟩ := ksr_mem k1 p hp
        rw [m2]
        exact key_el I m3 m4
      · have kf : ∀ y ∈ l, keyF y 8 = true := fun y hy => keyT_F (hk y hy)
        obtain ⟨L', p', r'⟩ := ksr_pick k1 g.sub g.all R0.nd (dd_nodup kf) (fun m hm => (dd_mem kf m).mp hm) fun m hm => (dd_mem kf m).mpr hm
        have kk : ∀ p ∈ L, ∃ m, p.2 = keyN m := fun p hp => by
          obtain ⟨m', _, m2, _⟩ := ksr_mem r' p (p'.mem_iff.mpr hp)
          exact ⟨m', m2⟩
        refine ⟨.ref s.heap.objs.size, upd H s.heap.objs.size (KsO Z.ft s.heap.objs.size L), I.laid (t' := tk) k (Nat.le_refl _) (kso_ok (ks_out hz R0 kk)), rfl, hQ _ _ ⟨.ref s.heap.objs.size, supd S s.heap.objs.size (.ks (dd l)), GK.new hn, by unfold RM; rfl, ?_, hf _ (hS.free hn)⟩⟩
        exact hS.put (TK.new hn) (fun ps z => by rw [hn] at z; cases z) ⟨L, L', upd_same, p', r'.monoT (TK.new hn)⟩
    · exact hf.elim
  · exact hf.elim
theorem each_vals {K : PySem.W.Frag} {H : Hp} : ∀ {l : List MV} {xs : List V} {us : List Value}, RMs K H l xs → Vals xs us → PySem.W.EachIs (fun v m => ∃ x, RelV x v ∧ RM K H m x) us l
  | [], _, _, r, rv => by
    unfold RMs at r
    subst r
    cases rv
    exact .nil
  | m :: l, _, _, r, rv => by
    unfold RMs at r
    obtain ⟨x, r', rfl, h1, h2⟩ := r
    cases rv with
    | cons a c => exact .cons ⟨x, a, h1⟩ (each_vals h2 c)
theorem vals_each {K : PySem.W.Frag} {H : Hp} : ∀ {l : List MV} {us : List Value}, PySem.W.EachIs (fun v m => ∃ x, RelV x v ∧ RM K H m x) us l → ∃ xs, RMs K H l xs ∧ Vals xs us
  | _, _, .nil => ⟨[], RMs.nil, .nil⟩
  | _, _, .cons ⟨x, a, h1⟩ t => by
    obtain ⟨xs, b, c⟩ := vals_each t
    exact ⟨x :: xs, RMs.cons h1 b, .cons a c⟩
theorem each_mem' {R : Value → MV → Prop} : ∀ {us : List Value} {l : List MV}, PySem.W.EachIs R us l → ∀ C : MV → Prop, (∀ m ∈ l, C m) → PySem.W.EachIs (fun v m => R v m ∧ C m) us l
  | _, _, .nil, _, _ => .nil
  | _, _, .cons h t, C, k => .cons ⟨h, k _ List.mem_cons_self⟩ (each_mem' t C fun m hm => k m (List.mem_cons_of_mem _ hm))
theorem cr_sorted (hz : Z.ft = X.w.params.followText "set-order") (hc : X.calm = true) (hu : X.A.units + 65 < cLine) : CallR X (.builtin "sorted") (rMC X.K Z sortedV) := by
  intro pins s σ H xs us Q I rv h
  obtain ⟨ms, S, R, r, hS, hf, hQ⟩ := h
  unfold sortedV at hf
  split at hf
  · rename_i x
    split at hf
    · rename_i l e0
      obtain ⟨ok, _, hf⟩ := hf
      obtain ⟨v, rfl, q⟩ := rms1 r
      obtain ⟨a, rfl, e⟩ : ∃ a, x = .ref a ∧ S a = some (.ks l) := by
        cases x with
        | ref a =>
          refine ⟨a, rfl, ?_⟩
          unfold setL at e0
          dsimp only at e0
          split at e0
          · rename_i l' e'
            cases e0
            exact e'
          · cases e0
        | _ => exact nomatch (show none = some l from e0)
      unfold RM at q
      subst q
      rw [Vals.ref1 rv]
      obtain ⟨L, L', eL, pL, rL⟩ := hS.ob a _ e
      obtain ⟨es, ep, t, R0⟩ := ks_at hz I eL pL rL
      obtain ⟨al, sb⟩ := sort_prem ok
      have pdm : ∀ d, d ∈ L.map (fun p : Hs.Row => p.2.data) → d ∈ l.map pd := fun d hd => by rw [← ksr_data rL]; exact (pL.map _).mem_iff.mpr hd
      refine Hs.sorted_at R0 (I.ok.hd hc) (enc := fun p => p.2.data) (fun p hp => ?_) (fun d hd d' hd' => al d (pdm d hd) d' (pdm d' hd')) (sb.elim (fun h => .inl fun d hd => h d (pdm d hd)) fun h => .inr fun d hd => h d (pdm d hd)) (fun p hp => ?_) fun s' p c L2 k g o hp hg pm pw => ?_
      · obtain ⟨m, _, m2, m3, m4⟩ := ksr_mem rL p (pL.mem_iff.mpr hp)
        show Reads s.heap (.ref p.1) p.2.data []
        rw [m2, key_pd m 8 m3]
        exact key_rd I m 8 m3 m4 rfl
      · obtain ⟨m, _, m2, m3, m4⟩ := ksr_mem rL p (pL.mem_iff.mpr hp)
        have := key_dep m 8 m3
        show X.A.units + 4 + p.2.data.depth < cLine
        rw [m2, key_pd m 8 m3]
        omega
      · obtain ⟨l', r', p'⟩ := ksr_perm (pL.trans pm.symm) l rL
        have hn : H p = none := I.hok.fresh hp
        have few : L2.length < 4000 := by rw [pm.length_eq]; exact R0.few
        have hlen : (L2.map fun q => V.ref q.1).length ≤ sizeLine := by rw [List.length_map, sizeLine_eq]; omega
        have hv : Vals (L2.map fun q => V.ref q.1) (L2.map fun q => Value.ref q.1) := vals_rows L2
        have J : Inv X pins σ (upd H p (.lst (L2.map fun q => V.ref q.1))) { s with heap := s'.heap, gens := s'.gens, drawn := s'.drawn, toks := s'.toks } :=
          I.call (ch := []) (Un.laid k hp hn) (I.hok.laid k hp ⟨hlen, _, c, hv, hg⟩) (by rw [g]; exact I.bare) (fun _ z => nomatch z)
        have es : s' = { s with heap := s'.heap, gens := s'.gens, drawn := s'.drawn, toks := s'.toks } := by
          obtain ⟨a1, a2, a3, a4, a5⟩ := s'
          obtain ⟨b1, b2, b3, b4, b5⟩ := s
          cases o
          rfl
        rw [es]
        exact ⟨.ref p, _, J, rfl, mq_lst hQ hS (ksr_rms r') hn fun q hq => hf l' q p' (pw_pd r' pw) hq⟩
    · split at hf
      · rename_i l e
        obtain ⟨ok, hl, hf⟩ := hf
        obtain ⟨v, rfl, q⟩ := rms1 r
        obtain ⟨b, ys, rfl, h1, h2⟩ := els_sq hS q e
        rw [Vals.ref1 rv]
        obtain ⟨its, rw', pl, _⟩ := I.list h1
        obtain ⟨al, sb⟩ := sort_prem ok
        have ev := each_vals h2 rw'
        have key : ∀ m ∈ l, keyF m 8 = true := fun m hm => keyT_F (ok.2 m hm).1
        refine PySem.W.sorted_data (bs := l) (enc := pd) pl.isList ev ((each_mem' ev _ key).mono fun v m h => ?_) al sb (by rw [sizeLine_eq]; omega) (fun m hm => ?_) fun out lo eo => ?_
        · obtain ⟨⟨x, a, b⟩, c⟩ := h
          exact ⟨[], key_rd I m 8 c b a⟩
        · have := key_dep m 8 (key m hm)
          omega
        · obtain ⟨zs, z1, z2⟩ := vals_each eo
          obtain ⟨ep, he'⟩ := PyProof.Rows.sortedAll_at s.heap its out.toArray
          have hlen : zs.length ≤ sizeLine := by rw [z1.length, List.length_mergeSort, sizeLine_eq]; omega
          have hn : H (s.heap.objs.size + 1) = none := I.hok.fresh (Nat.le_succ _)
          refine ⟨.ref _, _, I.laid (o := .lst zs) (t' := s.toks) (fun _ _ => PyProof.Rows.sortedAll_old) (Nat.le_succ _) ⟨hlen, out, ep, z2, he'⟩, rfl, mq_lst hQ hS z1 hn fun q hq => hf _ q (List.mergeSort_perm _ _) ?_ hq⟩
          exact PySem.W.sort_pairwise (le := PySem.W.dataLe false pd) (PySem.W.sortLe_total _ _ _) l
      · exact hf.elim
  · exact hf.elim
end
end Mv

set_option Elab.async false
set_option linter.all false
set_option maxRecDepth 100000
set_option maxHeartbeats 4000000
/-! d[k], d with tuples as keys; comparing tuples that hold lists. -/
namespace Mv
open PySem PySem.Spec PyProof.Rows L2
def getK (kvs : List (MV × MV)) (x : MV) : Option MV := (kvs.find? fun p => decide (keyN p.1 = keyN x)).map (·.2)
def ixK : M2 := fun x y S R => match x with
  | .ref a => (match S a with
    | some (.kd kvs) => keyT y = true ∧ (match getK kvs y with
      | some v => R v S
      | none => False)
    | _ => False)
  | _ => False
theorem kd_get : ∀ {kvs : List (MV × MV)} {L : List (NestedKey × Addr × V)} {xs : List (NestedKey × Addr × Value)} {K : PySem.W.Frag} {H : Hp}, KdR K H kvs L → Paired KP L xs → ∀ (x m : MV), getK kvs x = some m → ∃ v u p, atKey xs (keyN x) = some p ∧ p.2 = u ∧ RelV v u ∧ RM K H m v
  | [], _, _, _, _, r, p, x, m, h => by
    unfold getK at h
    cases h
  | q :: kvs, _, _, _, _, ⟨y, r, rfl, h1, h2, h3, h4, h5⟩, p, x, m, h => by
    cases p with
    | @cons _ z _ _ a b =>
      by_cases e : keyN q.1 = keyN x
      · have hm : q.2 = m := by
          unfold getK at h
          rw [List.find?_cons, decide_eq_true e] at h
          exact Option.some.inj h
        refine ⟨y.2.2, z.2.2, z.2, ?_, rfl, a.2.2, hm ▸ h4⟩
        unfold atKey
        have e2 : z.1 = keyN x := by rw [← a.1, h1]; exact e
        rw [List.find?_cons, decide_eq_true e2]
        rfl
      · have ht : getK kvs x = some m := by
          unfold getK at h ⊢
          rw [List.find?_cons, decide_eq_false e] at h
          exact h
        obtain ⟨v, u, w, g1, g2, g3, g4⟩ := kd_get h5 b x m ht
        refine ⟨v, u, w, ?_, g2, g3, g4⟩
        unfold atKey at g1 ⊢
        have e2 : ¬ z.1 = keyN x := fun w => e (by rw [← h1, a.1]; exact w)
        rw [List.find?_cons, decide_eq_false e2]
        exact g1
section
variable {X : Cx} {Z : ZT}
theorem ri_ixK (hu : X.A.units + 65 < cLine) : IxR X (rM X.K Z ixK) := by
  intro value slice pins s σ H x y v u Q I rx ry h hs
  obtain ⟨mx, my, S, R, r1, r2, hS, hf, hQ⟩ := h
  unfold ixK at hf
  split at hf
  · rename_i a
    split at hf
    · rename_i kvs e
      obtain ⟨hk, hf⟩ := hf
      split at hf
      · rename_i m em
        unfold RM at r1
        subst r1
        obtain rfl : v = Value.ref a := rx
        obtain ⟨b, rfl⟩ := kt_ref hk r2
        obtain rfl : u = Value.ref b := ry
        obtain ⟨L, eL, rL⟩ := hS.ob a _ e
        obtain ⟨_, hd, xs, hp, hm⟩ := kd_at I eL rL
        obtain ⟨v', u', p, g1, g2, g3, g4⟩ := kd_get rL hp my m em
        have hu' : (nestedKind X.prog X.w).room X.A.in1 := (show X.A.in1.units + 8 < cLine by show X.A.units + 1 + 8 < cLine; omega)
        refine tail_any hm.typeIs F.slot_dict_getitem.lookup (wpAny_getItem_heap (knd := nestedKind X.prog X.w) (k := keyN my) hu' ⟨key_is I my 8 (keyT_F hk) r2 rfl, keyF_depth my 8 (keyT_F hk)⟩ hm g1 ?_) hs
        rw [g2]
        exact ⟨v', H, I.tok _, g3, mq hQ g4 hS hf⟩
      · exact hf.elim
    · exact hf.elim
  · exact hf.elim
end
/-! data with lists of the store in it -/
def mapO {α β : Type} (f : α → Option β) : List α → Option (List β)
  | [] => some []
  | x :: l => match f x, mapO f l with
    | some y, some r => some (y :: r)
    | _, _ => none
def datN (S : Sto) : Nat → MV → Option PyData
  | _, .non => some .none
  | _, .bl b => some (.bool b)
  | _, .int i => some (.int i)
  | _, .str s => if PyData.strOk (so s) = true then some (.str (so s)) else none
  | n + 1, .tup l => (mapO (datN S n) l).map .tuple
  | n + 1, .frz l => (mapO (datN S n) l).map .list
  | n + 1, .ref a => (match lookL S a with
    | some l => (mapO (datN S n) l).map .list
    | none => none)
  | 0, .tup _ => none
  | 0, .frz _ => none
  | 0, .ref _ => none
theorem mapO_dp {K : PySem.W.Frag} {H : Hp} {f : MV → Option PyData} {n : Nat} (h : ∀ m v d, f m = some d → RM K H m v → Dp K H v d ∧ d.canLay0 = true ∧ d.depth ≤ n) : ∀ (l : List MV) (xs : List V) (ds : List PyData), mapO f l = some ds → RMs K H l xs → DpAll K H xs ds ∧ PyData.canLayAll0 ds = true ∧ PyData.depthAll ds ≤ n
  | [], xs, ds, e, r => by
    cases e
    unfold RMs at r
    subst r
    exact ⟨.nil, by simp [PyData.canLayAll0], by simp [PyData.depthAll]⟩
  | m :: l, xs, ds, e, r => by
    unfold RMs at r
    obtain ⟨x, r', rfl, r1, r2⟩ := r
    unfold mapO at e
    split at e
    · rename_i y r' e1 e2
      cases e
      obtain ⟨a1, a2, a3⟩ := h m x y e1 r1
      obtain ⟨b1, b2, b3⟩ := mapO_dp h l _ _ e2 r2
      refine ⟨.cons a1 b1, ?_, ?_⟩
      · simp only [PyData.canLayAll0, a2, b2, Bool.and_self]
      · simp only [PyData.depthAll]
        omega
    · cases e
theorem datN_dp {K : PySem.W.Frag} {Z : ZT} {S : Sto} {H : Hp} (r : RS K Z S H) : ∀ (n : Nat) (m : MV) (v : V) (d : PyData), datN S n m = some d → RM K H m v → Dp K H v d ∧ d.canLay0 = true ∧ d.depth ≤ n := by
  intro n
  induction n with
  | zero =>
    intro m v d e q
    cases m with
    | non => cases e; unfold RM at q; subst q; exact ⟨.non, by simp [PyData.canLay0], by simp [PyData.depth]⟩
    | bl b => cases e; unfold RM at q; subst q; exact ⟨.bl b, by simp [PyData.canLay0], by simp [PyData.depth]⟩
    | int b => cases e; unfold RM at q; subst q; exact ⟨.int b, by simp [PyData.canLay0], by simp [PyData.depth]⟩
    | str b =>
      have e' : (if PyData.strOk (so b) = true then some (PyData.str (so b)) else none) = some d := e
      split at e'
      · rename_i hs
        cases e'; unfold RM at q; subst q; exact ⟨.str _, by simp [PyData.canLay0, hs], by simp [PyData.depth]⟩
      · cases e'
    | tup l => cases e
    | frz l => cases e
    | ref a => cases e
  | succ n ih =>
    intro m v d e q
    cases m with
    | non => cases e; unfold RM at q; subst q; exact ⟨.non, by simp [PyData.canLay0], by simp [PyData.depth]⟩
    | bl b => cases e; unfold RM at q; subst q; exact ⟨.bl b, by simp [PyData.canLay0], by simp [PyData.depth]⟩
    | int b => cases e; unfold RM at q; subst q; exact ⟨.int b, by simp [PyData.canLay0], by simp [PyData.depth]⟩
    | str b =>
      have e' : (if PyData.strOk (so b) = true then some (PyData.str (so b)) else none) = some d := e
      split at e'
      · rename_i hs
        cases e'; unfold RM at q; subst q; exact ⟨.str _, by simp [PyData.canLay0, hs], by simp [PyData.depth]⟩
      · cases e'
    | tup l =>
      obtain ⟨ds, e1, rfl⟩ := Option.map_eq_some_iff.mp (show (mapO (datN S n) l).map PyData.tuple = some d from e)
      unfold RM at q
      obtain ⟨a, xs, rfl, sq, rr⟩ := q
      obtain ⟨a1, a2, a3⟩ := mapO_dp ih l xs ds e1 rr
      exact ⟨.tup sq a1, by simp only [PyData.canLay0, a2], by simp only [PyData.depth]; omega⟩
    | frz l =>
      obtain ⟨ds, e1, rfl⟩ := Option.map_eq_some_iff.mp (show (mapO (datN S n) l).map PyData.list = some d from e)
      unfold RM at q
      obtain ⟨a, xs, rfl, sq, rr⟩ := q
      obtain ⟨a1, a2, a3⟩ := mapO_dp ih l xs ds e1 rr
      exact ⟨.lst sq.sq a1, by simp only [PyData.canLay0, a2], by simp only [PyData.depth]; omega⟩
    | ref a =>
      have e' : (match lookL S a with
        | some l => (mapO (datN S n) l).map PyData.list
        | none => none) = some d := e
      cases h : lookL S a with
      | none => rw [h] at e'; cases e'
      | some l =>
        rw [h] at e'
        obtain ⟨ds, e1, rfl⟩ := Option.map_eq_some_iff.mp e'
        obtain ⟨xs, h1, h2⟩ := look_sq r h
        unfold RM at q
        subst q
        obtain ⟨a1, a2, a3⟩ := mapO_dp ih l xs ds e1 h2
        exact ⟨.lst h1 a1, by simp only [PyData.canLay0, a2], by simp only [PyData.depth]; omega⟩
theorem shaped_of {d : PyData} (h1 : d.canLay0 = true) (h2 : d.depth ≤ 60) : SeqAt.shaped d = true := by
  unfold SeqAt.shaped
  rw [h1, decide_eq_true (by omega)]
  rfl
def eqVY : M2 := fun x y S R => match datN S 60 x, datN S 60 y with
  | some d, some e => R (.bl (PyData.eqv d e)) S
  | _, _ => False
def neVY : M2 := fun x y S R => match datN S 60 x, datN S 60 y with
  | some d, some e => R (.bl (!PyData.eqv d e)) S
  | _, _ => False
section
variable {X : Cx} {Z : ZT}
theorem ro_eqY (hu : X.A.units + 64 < cLine) : OpR X (compareOp .Eq) (rM X.K Z eqVY) := by
  intro pins s σ H x y v u Q I rx ry h
  obtain ⟨mx, my, S, R, r1, r2, hS, hf, hQ⟩ := h
  unfold eqVY at hf
  split at hf
  · rename_i d e e1 e2
    obtain ⟨d1, s1, t1⟩ := datN_dp hS 60 _ _ _ e1 r1
    obtain ⟨d2, s2, t2⟩ := datN_dp hS 60 _ _ _ e2 r2
    exact op_eqD hu pins s σ H x y v u Q I rx ry ⟨d, e, d1, d2, shaped_of s1 t1, shaped_of s2 t2, mq_bl hQ hS hf⟩
  · exact hf.elim
theorem ro_neY (hu : X.A.units + 64 < cLine) : OpR X (compareOp .NotEq) (rM X.K Z neVY) := by
  intro pins s σ H x y v u Q I rx ry h
  obtain ⟨mx, my, S, R, r1, r2, hS, hf, hQ⟩ := h
  unfold neVY at hf
  split at hf
  · rename_i d e e1 e2
    obtain ⟨d1, s1, t1⟩ := datN_dp hS 60 _ _ _ e1 r1
    obtain ⟨d2, s2, t2⟩ := datN_dp hS 60 _ _ _ e2 r2
    exact op_neD hu pins s σ H x y v u Q I rx ry ⟨d, e, d1, d2, shaped_of s1 t1, shaped_of s2 t2, mq_bl hQ hS hf⟩
  · exact hf.elim
end
end Mv

set_option Elab.async false
set_option linter.all false
set_option maxRecDepth 100000
set_option maxHeartbeats 4000000
/-! Sets of ints: {e}, add, in, not in. -/
namespace Mv
open PySem PySem.Spec PyProof.Rows L2
def inSI : M2 := fun x y S R => match x, y with
  | .int i, .ref a => (match S a with
    | some (.si l) => R (.bl (decide (i ∈ l))) S
    | _ => False)
  | _, _ => False
def notInSI : M2 := fun x y S R => match x, y with
  | .int i, .ref a => (match S a with
    | some (.si l) => R (.bl (!decide (i ∈ l))) S
    | _ => False)
  | _, _ => False
def addSI : MB := fun x vs S R => match x, vs with
  | .ref a, [.int i] => (match S a with
    | some (.si l) => l.length + 1 < 4000 ∧ R .non (supd S a (.si (l ++ [i])))
    | _ => False)
  | _, _ => False
section
variable {X : Cx} {Z : ZT} {pins : List (Addr × Obj)} {σ : L2.St} {H : Hp} {s : Shared}
theorem sio_ok {P : Program} {w : World} {H' : Hp} {h : Heap} {a : Addr} {l : List Int} (k : SiH h a l) : ObjOk P w H' h a (SiO a l) := by
  have ⟨o, n, ho, h1, h2, h3⟩ := k
  refine ⟨k, ⟨o, ho⟩, fun g1 g2 p st => ?_⟩
  have ⟨o', n', ho', q⟩ := (show SiH g1 a l from p)
  exact (show SiH g2 a l from ⟨o', n', st _ ho', q⟩)
theorem si_at (I : Inv X pins σ H s) {a : Addr} {l : List Int} (e : H a = some (SiO a l)) : ∃ n, s.heap.SetOf (intKind X.prog X.w) a (fun k => decide (k ∈ l)) n ∧ n ≤ l.length ∧ l.length < 4000 := by
  have ok : ObjOk X.prog X.w H s.heap a (SiO a l) := I.hok a _ e
  obtain ⟨o, n, h1, h2, h3, h4⟩ := (show SiH s.heap a l from ok.1)
  exact ⟨n, (h2.kind X.prog X.w).setOf h1 (by unfold scanBound; omega), h3, h4⟩
theorem ro_inSI : OpR X (compareOp .In) (rM X.K Z inSI) := by
  intro pins s σ H x y v u Q I rx ry h
  obtain ⟨mx, my, S, R, r1, r2, hS, hf, hQ⟩ := h
  unfold inSI at hf
  split at hf
  · rename_i i a
    split at hf
    · rename_i l e
      unfold RM at r1 r2
      subst r1 r2
      obtain rfl : u = Value.ref a := ry
      obtain ⟨t, rfl⟩ : ∃ t, v = Value.int i t := rx
      obtain ⟨n, hs, _, _⟩ := si_at I (hS.ob a _ e)
      exact wpAny_inSet_of (intKind_is X.prog X.w i t) rfl hs ⟨.bl (decide (i ∈ l)), H, I.tok _, rfl, mq_bl hQ hS hf⟩
    · exact hf.elim
  · exact hf.elim
theorem ro_notinSI : OpR X (compareOp .NotIn) (rM X.K Z notInSI) := by
  intro pins s σ H x y v u Q I rx ry h
  obtain ⟨mx, my, S, R, r1, r2, hS, hf, hQ⟩ := h
  unfold notInSI at hf
  split at hf
  · rename_i i a
    split at hf
    · rename_i l e
      unfold RM at r1 r2
      subst r1 r2
      obtain rfl : u = Value.ref a := ry
      obtain ⟨t, rfl⟩ : ∃ t, v = Value.int i t := rx
      obtain ⟨n, hs, _, _⟩ := si_at I (hS.ob a _ e)
      exact wpAny_notInSet_of (intKind_is X.prog X.w i t) rfl hs ⟨.bl (!decide (i ∈ l)), H, I.tok _, rfl, mq_bl hQ hS hf⟩
    · exact hf.elim
  · exact hf.elim
theorem mr_addSI : MtR X "set.add" (rMB X.K Z addSI) := by
  intro pins s σ H x vs v us Q I rx rv h
  obtain ⟨mx, ms, S, R, r1, r2, hS, hf, hQ⟩ := h
  unfold addSI at hf
  split at hf
  · rename_i a i
    split at hf
    · rename_i l e
      obtain ⟨hl, hf⟩ := hf
      obtain ⟨u, rfl, q⟩ := rms1 r2
      unfold RM at r1 q
      subst r1 q
      obtain rfl : v = Value.ref a := rx
      have eL := hS.ob a _ e
      obtain ⟨n, hs, hn, _⟩ := si_at I eL
      obtain ⟨t, rfl⟩ : ∃ t, us = [Value.int i t] := by
        cases rv with
        | @cons _ u _ us a c =>
          cases c
          obtain ⟨t, rfl⟩ : ∃ t, u = Value.int i t := a
          exact ⟨t, rfl⟩
      refine call_set_add (intKind_is X.prog X.w i t) rfl hs (by unfold scanBound; omega) fun h' sb hs' => ?_
      obtain ⟨o', ho', hso⟩ := hs'.objOf
      have ef : (fun k' => (fun k => decide (k ∈ l)) k' || decide (k' = i)) = fun k => decide (k ∈ l ++ [i]) := by
        funext k
        rw [Bool.eq_iff_iff]
        simp
      have kh : SiH h' a (l ++ [i]) := by
        rw [ef] at hso
        refine ⟨o', _, ho', hso.intSetOf, ?_, by rw [List.length_append, List.length_singleton]; exact hl⟩
        rw [List.length_append, List.length_singleton]
        split <;> omega
      have I' : Inv X pins σ (upd H a (SiO a (l ++ [i]))) { s with heap := h', toks := s.toks + 1 } := d_write I (by rw [eL]; exact True.intro) sb ⟨o', ho'⟩ (sio_ok kh)
      have g : GK X.K S H (supd S a (.si (l ++ [i]))) (upd H a (SiO a (l ++ [i]))) := GK.put (TK.si eL) e
      exact ⟨.non, _, I', rfl, hQ _ _ ⟨.non, _, g, by unfold RM; rfl, hS.put (TK.si eL) (fun ps z => by rw [eL] at z; cases z) upd_same, hf⟩⟩
    · exact hf.elim
  · exact hf.elim
def isSI (S : Sto) (x : MV) : Prop := match x with
  | .ref a => (match S a with
    | some (.si _) => True
    | _ => False)
  | _ => False
def mBMSI (f : MB) (mo : ME) (ms : MA) : ME := fun ρ S R => mo ρ S fun x S1 => isSI S1 x ∧ ms ρ S1 fun vs S2 => f x vs S2 R
theorem ee_addSI {o e : Expr} {es : List Expr} {m : ME} {mas : MA} {apos cpos : Pos} (ho : EE X Z o m) (ha : EA X Z (e :: es) mas)
    (hbase : attributeBase o "add" X.env (eval o X.env) = eval o X.env := by kernel_rfl)
    (hfew : ((backTo cpos (starEach (e :: es) X.env)).all (fun x => !x.1) && (backToKw cpos (keywordEach [] X.env)).all (fun x => x.1.isSome)
      && decide ((e :: es).length + ([] : List Keyword).length + (if ([] : List Keyword).isEmpty then 0 else 1) < 30)) = true := by kernel_rfl)
    (hline : (apos.endLine == cpos.line) = true := by kernel_rfl) (hs : starEach (e :: es) X.env = (false, eval e X.env) :: starEach es X.env := by kernel_rfl) (hplain : (backTo cpos (starEach es X.env)).any (·.1) = false := by kernel_rfl) :
    EE X Z (.Call (.Attribute o "add" apos) (e :: es) [] cpos) (mBMSI addSI m mas) := by
  refine ⟨fun σ H ρ S R hE hS hm pins s I => ?_⟩
  refine wpAny_Call_method_late hbase hfew hline rfl (thn (ho.run σ H ρ S _ hE hS hm pins s I) fun v s1 ⟨x, H1, I1, r1, y, S1, t1, q1, s1', is, q2⟩ => ?_)
  unfold isSI at is
  split at is
  · rename_i a
    split at is
    · rename_i l e1
      unfold RM at q1
      subst q1
      obtain rfl : v = Value.ref a := r1
      obtain ⟨n, hs0, _, _⟩ := si_at I1 (s1'.ob a _ e1)
      refine ⟨"set", "set.add", F.plainAttrs_set, F.slot_set_add, F.type_set_add, hs0.typeIs, hs0.noDict, ?_⟩
      have hA := ha.pa.run cpos pins s1 σ H1 (fun vs H' => MQs X.K Z S1 H1 (fun ms S2 => addSI (.ref a) ms S2 R) vs H') I1 ⟨ρ, S1, _, hE.mono t1, s1', q2, fun _ _ z => z⟩
      rw [hs] at hA ⊢
      refine Calls.callWith_builtin (by show (false || (backTo cpos (starEach es X.env)).any (·.1)) = false; rw [hplain]; rfl) (Calls.evalArgs_plain ?_)
      exact thn hA fun us s2 ⟨vs, H2, I2, r2, ms, S2, t2, rr, ss, q3⟩ =>
        mr_addSI pins s2 σ H2 (.ref a) vs (.ref a) us _ I2 rfl r2 ⟨.ref a, ms, S2, R, by unfold RM; rfl, rr, ss, q3, fun v H' q => q.base (t1.trans t2)⟩
    · exact is.elim
  · exact is.elim
/-- {i} of a literal -/
def mSetC (i : Int) : ME := fun _ S R => ∀ p, S p = none → R (.ref p) (supd S p (.si [i]))
theorem ee_setC {i : Int} {k : Nat} {p1 pos : Pos} (hcd : PySem.W.kdsCode X.K X.env.code = true) : EE X Z (.Set [.Constant (.int i) k p1] 0 pos) (mSetC i) := ⟨fun σ H ρ S R hE hS hm pins s I => by
  have hn := I.hok.fresh (Nat.le_refl s.heap.objs.size)
  rw [arm_eval_Set]
  refine wpAny_bind (wpAny_standAt ?_)
  refine wpAny_bind (PySem.W.kds_main I.kIn hcd fun b => ?_)
  rw [PySem.W.kds_star _ rfl, List.map_map]
  refine PySem.W.kds_core (ts := (evalEach [.Constant (.int i) k p1] X.env).map fun t => do let v ← t; standAt pos; pure v) rfl ?_ ?_ ?_ fun led => ?_
  · refine List.findIdx?_eq_none_iff.mpr fun x hx => ?_
    obtain ⟨t, _, rfl⟩ := List.mem_map.mp hx
    rfl
  · rw [List.length_map, PySem.W.kds_len]
    exact (by decide : 1 ≤ 30)
  · rw [List.map_map]
    try rfl
  · have kh0 : SiH (s.heap.push { cls := .type "set", dict := none, data := .set #[] 0 (.fresh 0 0 led) }) s.heap.objs.size [] := ⟨_, 0, Heap.get?_push_size _ rfl, intSetOf_fresh led, Nat.le_refl _, by decide⟩
    have I1 := I.laid (a := s.heap.objs.size) (o := SiO s.heap.objs.size []) (h' := s.heap.push { cls := .type "set", dict := none, data := .set #[] 0 (.fresh 0 0 led) }) (t' := s.toks) (fun _ _ q => Heap.get?_push_of_some _ q) (Nat.le_refl _) (sio_ok kh0)
    have g0 : GK X.K S H S (upd H s.heap.objs.size (SiO s.heap.objs.size [])) := GK.hid hn
    have hS0 := hS.hid (o := SiO s.heap.objs.size []) hn
    refine PySem.W.kds_all pos _ _ _ ?_
    refine thn ((ee_int (Z := Z) (i := i)).run σ _ ρ S (fun x S' => x = .int i ∧ S' = S) (hE.mono g0) hS0 ⟨rfl, rfl⟩ pins _ I1) fun u s1 ⟨x, H1, I2, rk, m, S1, t1, r1, s1', q1⟩ => ?_
    obtain ⟨rfl, rfl⟩ := q1
    unfold RM at r1
    subst r1
    obtain ⟨tk, rfl⟩ : ∃ tk, u = Value.int i tk := rk
    obtain ⟨k1, k2⟩ := t1.fr s.heap.objs.size (SiO s.heap.objs.size []) (hS.free hn) upd_same (fun ps e => by cases e)
    obtain ⟨n, hs, h0, _⟩ := si_at I2 k1
    refine PySem.W.kds_fill_cons ?_
    unfold setAdd
    refine wpAny_holding (wpAny_bind ((intKind X.prog X.w).pyHash (k := i) (intKind_is _ _ _ _) ?_))
    refine wpAny_setAddHashed_of (knd := intKind X.prog X.w) (s := { s1 with toks := s1.toks + 1 }) (intKind_is _ _ _ _) rfl hs (by unfold scanBound; have : n ≤ 0 := h0; omega) fun h' sb hs' => ?_
    refine PySem.W.kds_fill_nil rfl ?_
    obtain ⟨o', ho', hso⟩ := hs'.objOf
    have ef : (fun k' => (fun k => decide (k ∈ ([] : List Int))) k' || decide (k' = i)) = fun k => decide (k ∈ [i]) := by
      funext k
      rw [Bool.eq_iff_iff]
      simp
    have kh : SiH h' s.heap.objs.size [i] := by
      rw [ef] at hso
      refine ⟨o', _, ho', hso.intSetOf, ?_, (by decide : 1 < 4000)⟩
      have : n ≤ 0 := h0
      show _ ≤ 1
      split <;> omega
    have I' : Inv X pins σ (upd _ s.heap.objs.size (SiO s.heap.objs.size [i])) { s1 with heap := h', toks := s1.toks + 1 } := d_write I2 (by rw [k1]; exact True.intro) sb ⟨o', ho'⟩ (sio_ok kh)
    have tk' := TK.si (K := X.K) (o := SiO s.heap.objs.size [i]) k1
    refine ⟨.ref s.heap.objs.size, _, I', rfl, .ref s.heap.objs.size, _, GK.late hn t1 tk', by unfold RM; rfl, ?_, hm _ k2⟩
    exact s1'.put tk' (fun ps z => by rw [k1] at z; cases z) upd_same⟩
end
section
variable {P : Program} {w : World} {K : PySem.W.Frag} {mg : Str → Option Value} {base : Heap} {Z : ZT} {x qual : Str} {params : Arguments} {body : List Stmt} {scope : Scope} {f : Addr} {fd : FuncData}
/-- a def that has a set display: its code object stands -/
theorem cal_mkD {N ps : List Str} {k : Nat} {mb : MS} (F : FunD K x qual params body scope [] [] f fd) (Sc : FnScope N ps scope) (bnd : Binds K fd ps [])
    (hb : ∀ (cdv : Value), PySem.W.kdsCode K cdv = true → ∀ (A : Around) (outer : List PySem.Env) (s : Shared) (H : Hp) (E : XK), Room k (A.deeper (envOfC qual scope s.heap.objs.size f cdv)) → EB (cxOf CX0 P w K mg base N qual scope f cdv A outer s H E).nox Z body mb) :
    Cal P w K mg base Z f ps (k + 1) (defW ps.length N.length mb) := by
  refine ⟨⟨fd, ?_, F.kp, bnd⟩, fun ms S R h => h.1⟩
  obtain ⟨oc, od, dV, kV, doc, pm, an, cdv, ct, osl, rfl, lk, hcd, _, _⟩ := F.ex
  refine fn_of lk hcd Sc (fun vs H Q E h => h.1) fun A outer s H vs Q E hr h => ?_
  obtain ⟨hl, ms, S, R, rm, hS, ⟨hn, hm⟩, hQ⟩ := h
  refine ⟨_, PSs.nox (hb cdv (kdsCode_of hcd) A outer s H E hr).pss, startM N.length ms, S, _, start_rel rm, hS, hm, fun σ' H' ⟨ρ', S', t, e', s', q⟩ => hQ _ _ (MQ.drop ⟨.non, S', t, by unfold RM; rfl, s', q⟩), fun v H' q => hQ _ _ (MQ.drop q), fun σ' H' ⟨ρ', S', t, e', s', q⟩ => False.elim q, fun σ' H' ⟨ρ', S', t, e', s', q⟩ => False.elim q⟩
end
end Mv

set_option Elab.async false
set_option linter.all false
set_option maxRecDepth 100000
set_option maxHeartbeats 4000000
/-! len of a dict with tuple keys. -/
namespace Mv
open PySem PySem.Spec PyProof.Rows L2
def lenKV : MF := fun ms S R => match ms with
  | [.ref a] => (match S a with
    | some (.kd kvs) => R (.int kvs.length) S
    | _ => False)
  | _ => False
section
variable {X : Cx} {Z : ZT}
theorem cr_lenK : CallR X (.builtin "len") (rMC X.K Z lenKV) := by
  intro pins s σ H xs us Q I rv h
  obtain ⟨ms, S, R, r, hS, hf, hQ⟩ := h
  unfold lenKV at hf
  split at hf
  · rename_i a
    split at hf
    · rename_i kvs e
      obtain ⟨v, rfl, q⟩ := rms1 r
      unfold RM at q
      subst q
      obtain ⟨u, rfl, rx⟩ := vals1 rv
      obtain rfl : u = Value.ref a := rx
      obtain ⟨L, eL, rL⟩ := hS.ob a _ e
      obtain ⟨z, hd, ys, hp, hm⟩ := kd_at I eL rL
      have hl : ys.length = kvs.length := by rw [← Paired.length hp, kd_len rL]
      refine call_len_dictH hd hm (by rw [hl, ← kd_len rL]; rw [sizeLine_eq] at z; omega) ?_
      rw [hl]
      exact ⟨.int ((kvs.length : Nat) : Int), H, I.tok _, ⟨_, rfl⟩, mq_int hQ hS hf⟩
    · exact hf.elim
  · exact hf.elim
end
end Mv

set_option Elab.async false
set_option linter.all false
set_option maxRecDepth 100000
set_option maxHeartbeats 4000000
/-! l.index(x) of ints, of texts. -/
namespace AutoSeq1x
open PySem PySem.Spec PyProof.Rows L2 AutoSeq1
theorem list_extend_tup (l : Addr) (items : Array Value) (n : Nat) (b : Addr) (items2 : Array Value) (n2 : Nat) (o2 : Obj) (k1 : o2.cls = .type "tuple") (k3 : o2.data = .seq items2 n2) (hc0 : ¬(!items.isEmpty && Builtin.List.listTooLong (items.size + items2.size)) = true) (hc1 : items.size ≤ sizeLine) (hs2 : items.size + items2.size ≤ sizeLine + 1) :
    Meets (Builtin.«list.extend» ⟨[.ref l, .ref b], []⟩) (fun _ R s => s.heap.get? l = some { cls := .type "list", dict := none, data := .seq items n, slots := #[] } ∧ s.heap.get? b = some o2 ∧ R (.ok (.ret Value.none)) { s with heap := s.heap.update l (Obj.mapSeq fun x => x ++ items2), toks := s.toks }) :=
  .of_wp fun prog w A R s h => by
    obtain ⟨c2, d2, dt2, sl2⟩ := o2
    cases k1; cases k3
    obtain ⟨hp, g, d, tk, os⟩ := s; obtain ⟨hl, hb, h⟩ := h; have f1 := AutoSeq1.idx_int; have f2 := AutoSeq1.sub_tuple_tuple; have f3 := AutoSeq1.sub_list_list; have f4 := AutoSeq1.sub_tuple_list; have f5 := AutoSeq1.sub_list_tuple;
    have hz' : (items ++ items2).size ≤ sizeLine + 1 := by rw [Array.size_append]; exact hs2
    wp_walk using (wpAny_updateSeq hl rfl (hz := hc1) (_hz' := hz')), wpAny_loadPart' hl, wpAny_loadPart' hb; exact ⟨_, rfl, h⟩
end AutoSeq1x
namespace Mv
open PySem PySem.Spec PyProof.Rows L2
/-! l.extend(t), t a tuple -/
def rExtendT (K : PySem.W.Frag) : V → List V → Hp → VK → Prop := fun x vs H Q => ∃ l b xs zs, x = .ref l ∧ vs = [.ref b] ∧ H l = some (.lst xs) ∧ SqT K H b zs ∧ xs.length + zs.length ≤ sizeLine ∧ Q .non (upd H l (.lst (xs ++ zs)))
theorem mt_extendT {X : Cx} : MtM X "list.extend" (rExtendT X.K) := by
  intro pins s σ H x vs v us Q I rx rv h
  obtain ⟨l, b, xs, zs, rfl, rfl, hH, hB, hz, q⟩ := h
  cases rx
  obtain ⟨u, rfl, ru⟩ := rv.one
  cases ru
  obtain ⟨z, its, n, r, hl, e⟩ := I.lstM hH
  obtain ⟨its2, r2, pl, hz2⟩ := I.tuple hB
  obtain ⟨o2, e2, c1, n2, c3⟩ := pl
  have hl2 := r2.length
  have hl1 := r.length
  have hsz : its.toArray.size + its2.toArray.size ≤ sizeLine := by rw [List.size_toArray, List.size_toArray]; omega
  have hlong : ¬ (!its.toArray.isEmpty && Builtin.List.listTooLong (its.toArray.size + its2.toArray.size)) = true := by
    rw [notLongL hsz, Bool.and_false]
    exact Bool.false_ne_true
  refine call_meets F.slot_list_extend ⟨_, e, rfl⟩ F.entry_list_extend (F.args_list_extend_2 _ _)
    (AutoSeq1x.list_extend_tup l its.toArray n b its2.toArray n2 o2 c1 c3 hlong (by rw [List.size_toArray]; omega) (by omega)) ⟨e, e2, ?_⟩
  refine ⟨.non, _, I.lset (its' := its ++ its2) hH e (by simp) (r.append r2) ?_, rfl, q⟩
  rw [List.length_append]
  omega
def extendTV : MB := fun x vs S R => match x, vs with
  | .ref a, [.tup k] => (match S a with
    | some (.lst l) => l.length + k.length ≤ sizeLine ∧ R .non (supd S a (.lst (l ++ k)))
    | _ => False)
  | x, vs => extendVV x vs S R
theorem mr_extendTV {X : Cx} {Z : ZT} : MtR X "list.extend" (rMB X.K Z extendTV) := by
  intro pins s σ H x vs v us Q I rx rv h
  obtain ⟨mx, ms, S, R, r1, r2, hS, hf, hQ⟩ := h
  unfold extendTV at hf
  split at hf
  · rename_i a k
    split at hf
    · rename_i l e
      obtain ⟨u, rfl, q⟩ := rms1 r2
      unfold RM at r1 q
      obtain ⟨xs, h1, h2⟩ := hS.lst e
      obtain ⟨b, ys, e2, sq, rs⟩ := q
      exact mt_extendT pins s σ H x _ v us Q I rx rv ⟨a, b, xs, ys, r1, by rw [e2], h1, sq, by rw [h2.length, rs.length]; exact hf.1, mq_setL hQ hS e h1 (h2.append rs) (by unfold RM; rfl) hf.2⟩
    · exact hf.elim
  · exact mr_extendVV pins s σ H x vs v us Q I rx rv ⟨mx, ms, S, R, r1, r2, hS, hf, hQ⟩
def indexV : MB := fun x vs S R => match x, vs with
  | .frz l, [.int k] => ∃ ks : List Int, l = ks.map .int ∧ k ∈ ks ∧ R (.int (ks.idxOf k : Nat)) S
  | .frz l, [.str k] => ∃ ks : List String, l = ks.map .str ∧ k ∈ ks ∧ R (.int (ks.idxOf k : Nat)) S
  | _, _ => False
theorem rms_intsX {K : PySem.W.Frag} {H : Hp} : ∀ {ss : List Int} {xs : List V}, RMs K H (ss.map .int) xs → xs = ss.map V.int
  | [], xs, h => by unfold RMs at h; exact h
  | s :: ss, xs, h => by
    rw [List.map_cons] at h
    unfold RMs at h
    obtain ⟨x, r, rfl, h1, h2⟩ := h
    unfold RM at h1
    rw [h1, rms_intsX h2]
    rfl
theorem idx_at {α : Type} [DecidableEq α] {l : List α} {a : α} (h : a ∈ l) : l[l.idxOf a]? = some a := by
  have hi := List.idxOf_lt_length_of_mem h
  rw [List.getElem?_eq_getElem hi, List.getElem_idxOf]
theorem idx_ne {α : Type} [DecidableEq α] : ∀ {l : List α} {a b : α} {m : Nat}, m < l.idxOf a → l[m]? = some b → b ≠ a
  | [], _, _, _, _, h => by simp at h
  | x :: l, a, b, m, hm, h => by
    rw [List.idxOf_cons] at hm
    by_cases e : x = a
    · subst e
      simp at hm
    · rw [show (x == a) = false from beq_eq_false_iff_ne.mpr e] at hm
      simp only [cond_false] at hm
      cases m with
      | zero => simp at h; rw [← h]; exact e
      | succ m => exact idx_ne (l := l) (a := a) (m := m) (by omega) (by simpa using h)
theorem mr_index {X : Cx} {Z : ZT} : MtR X "list.index" (rMB X.K Z indexV) := by
  intro pins s σ H x vs v us Q I rx rv h
  obtain ⟨mx, ms, S, R, r1, r2, hS, hf, hQ⟩ := h
  unfold indexV at hf
  split at hf
  · rename_i l k
    obtain ⟨ks, rfl, hk, hf⟩ := hf
    obtain ⟨u, rfl, q⟩ := rms1 r2
    unfold RM at r1 q
    obtain ⟨a, xs, e, sq, rs⟩ := r1
    have ex := rms_intsX rs
    subst ex q
    refine mt_index pins s σ H x _ v us Q I rx rv ⟨a, ks.map V.int, .int k, ks.idxOf k, .int k, e, rfl, sq.sq, rfl, ?_, ?_, ?_, fun m z hm hz => ?_, mq_int hQ hS hf⟩
    · rw [List.all_eq_true]
      intro y hy
      obtain ⟨i, _, rfl⟩ := List.mem_map.mp hy
      rfl
    · rw [List.getElem?_map, idx_at hk]
      rfl
    · exact beq_self_eq_true k
    · rw [List.getElem?_map] at hz
      obtain ⟨b, hb, rfl⟩ := Option.map_eq_some_iff.mp hz
      exact beq_eq_false_iff_ne.mpr (idx_ne hm hb)
  · rename_i l k
    obtain ⟨ks, rfl, hk, hf⟩ := hf
    obtain ⟨u, rfl, q⟩ := rms1 r2
    unfold RM at r1 q
    obtain ⟨a, xs, e, sq, rs⟩ := r1
    have ex := rms_strs rs
    subst ex q
    refine mt_index pins s σ H x _ v us Q I rx rv ⟨a, (ks.map so).map V.str, .str (so k), ks.idxOf k, .str (so k), e, rfl, sq.sq, rfl, ?_, ?_, ?_, fun m z hm hz => ?_, mq_int hQ hS hf⟩
    · rw [List.all_eq_true]
      intro y hy
      obtain ⟨i, _, rfl⟩ := List.mem_map.mp hy
      rfl
    · rw [List.getElem?_map, List.getElem?_map, idx_at hk]
      rfl
    · exact beq_self_eq_true (so k)
    · rw [List.getElem?_map, List.getElem?_map] at hz
      obtain ⟨b', hb', rfl⟩ := Option.map_eq_some_iff.mp hz
      obtain ⟨b, hb, rfl⟩ := Option.map_eq_some_iff.mp hb'
      exact beq_eq_false_iff_ne.mpr fun e2 => idx_ne hm hb (so_inj e2)
  · exact hf.elim
section
variable {X : Cx} {Z : ZT} {ps : List Str} {k k' : Nat} {W : MW} {pos : Pos}
/-- f() -/
theorem ee_call0 {x : Str} {f : Addr} {p : Pos} (C : Cal X.prog X.w X.K X.mg X.base Z f ps k W) (hr : Room k' X.A) (hk : k ≤ k') (hg : Gl X x) (hm : X.mg x = some (.ref f)) (hdb : (x == ("__debug__" : Str)) = false := by kernel_rfl) :
    EE X Z (.Call (.Name x p) [] [] pos) (mCall W maNil) := by
  obtain ⟨fd, F, kp, b⟩ := C.ex
  refine ee_of (pe_call0 F (hr.mono hk) hg hm kp b .nil pass0 hdb) fun σ H ρ S R hE hS hm => ?_
  exact sp_of C.len GK.refl RMs.nil hS hm
end
/-! l.pop(i), l.insert(i, x) -/
def popIV : MB := fun x vs S R => match x, vs with
  | .ref a, [.int i] => (match S a with
    | some (.lst l) => 0 ≤ i ∧ i < 2 ^ 62 ∧ (match l[i.toNat]? with
      | some v => R v (supd S a (.lst (l.eraseIdx i.toNat)))
      | none => False)
    | _ => False)
  | _, _ => False
def insertV : MB := fun x vs S R => match x, vs with
  | .ref a, [.int i, v] => (match S a with
    | some (.lst l) => 0 ≤ i ∧ i < 2 ^ 62 ∧ l.length < sizeLine ∧ R .non (supd S a (.lst (l.take i.toNat ++ [v] ++ l.drop i.toNat)))
    | _ => False)
  | _, _ => False
section
variable {X : Cx} {Z : ZT}
theorem mr_popI : MtR X "list.pop" (rMB X.K Z popIV) := by
  intro pins s σ H x vs v us Q I rx rv h
  obtain ⟨mx, ms, S, R, r1, r2, hS, hf, hQ⟩ := h
  unfold popIV at hf
  split at hf
  · rename_i a i
    split at hf
    · rename_i l e
      obtain ⟨h0, h62, hf⟩ := hf
      split at hf
      · rename_i w e2
        obtain ⟨u, rfl, q⟩ := rms1 r2
        unfold RM at r1 q
        subst q
        obtain ⟨xs, h1, h2⟩ := hS.lst e
        obtain ⟨y, e3, r3⟩ := h2.get e2
        have hlt := (List.getElem?_eq_some_iff.mp e3).1
        obtain ⟨n, rfl⟩ := Int.eq_ofNat_of_zero_le h0
        rw [Int.toNat_natCast] at *
        exact mt_popAt pins s σ H x _ v us Q I rx rv ⟨a, xs, (n : Int), n, y, r1, rfl, h1, by omega, by omega, (ixN_seq (n := xs.length) (i := (n : Int)) (j := n) (by unfold ixN; rw [if_pos (by omega), if_pos (by omega)]; rfl)).1, e3, mq_setL hQ hS e h1 (RMs.erase n h2) r3 hf⟩
      · exact hf.elim
    · exact hf.elim
  · exact hf.elim
theorem mr_insert : MtR X "list.insert" (rMB X.K Z insertV) := by
  intro pins s σ H x vs v us Q I rx rv h
  obtain ⟨mx, ms, S, R, r1, r2, hS, hf, hQ⟩ := h
  unfold insertV at hf
  split at hf
  · rename_i a i w
    split at hf
    · rename_i l e
      obtain ⟨h0, h62, hl, hf⟩ := hf
      obtain ⟨u, z, rfl, q, qz⟩ := rms2 r2
      unfold RM at r1 q
      subst q
      obtain ⟨xs, h1, h2⟩ := hS.lst e
      exact mt_insert pins s σ H x _ v us Q I rx rv ⟨a, xs, i, z, r1, rfl, h1, by rw [h2.length]; exact hl, h0, by omega, mq_setL hQ hS e h1 (((RMs.take _ h2).append (RMs.cons qz RMs.nil)).append (RMs.drop _ h2)) (by unfold RM; rfl) hf⟩
    · exact hf.elim
  · exact hf.elim
end
end Mv

set_option Elab.async false
set_option linter.all false
set_option maxRecDepth 100000
set_option maxHeartbeats 2000000
/-! An own error whose base's __init__ says super().__init__(value); self.value = value. -/
namespace PySem
namespace RollX
open PySem.W PySem.Calls PyProof.Rows PySem.HandSPX
/-! ### the text of __init__ -/
def iA (p1 p2 : Pos) : Arguments := { posonlyargs := [], args := [{ arg := "self", annotation := none, pos := p1 }, { arg := "value", annotation := none, pos := p2 }], vararg := none, kwonlyargs := [], kw_defaults := [], kwarg := none, defaults := [] }
def iB (a1 a2 a3 a4 a5 a6 q1 q2 q3 q4 : Pos) : List Stmt :=
  [.Expr (.Call (.Attribute (.Call (.Name "super" a1) [] [] a2) "__init__" a3) [.Name "value" a4] [] a5) a6, .Assign [.Attribute (.Name "self" q1) "value" q2] (.Name "value" q3) q4]
def iS : Scope := { kind := .function, names := [(PySem.Str.ofString "self", .local), (PySem.Str.ofString "value", .local), (PySem.Str.ofString "__class__", .free), (PySem.Str.ofString "super", .globalImplicit)], isGenerator := false, isCoroutine := false, more := [] }
/-- the call of super().__init__ reads so (its positions are literals) -/
def EvOk (a1 a2 a3 a4 a5 : Pos) : Prop := ∀ (L fI cda cc : Addr), eval (.Call (.Attribute (.Call (.Name "super" a1) [] [] a2) "__init__" a3) [.Name "value" a4] [] a5) (ksEnv "RollError.__init__" iS L fI (.ref cda) cc) = (do
      let ov ← attributeBase (.Call (.Name "super" a1) [] [] a2) "__init__" (ksEnv "RollError.__init__" iS L fI (.ref cda) cc) (eval (.Call (.Name "super" a1) [] [] a2) (ksEnv "RollError.__init__" iS L fI (.ref cda) cc))
      standAt a3.atName
      let (f, first) ← holding [ov] (getMethod ov "__init__" (do return (← importBound (.Call (.Name "super" a1) [] [] a2) (ksEnv "RollError.__init__" iS L fI (.ref cda) cc)).getD true))
      callWith a5 f first (backTo a5 (starEach [.Name "value" a4] (ksEnv "RollError.__init__" iS L fI (.ref cda) cc))) [])
def veB : List Value := [.type "ValueError", .type "Exception", .type "BaseException", .type "object"]
theorem iS_cell : ∀ y ∈ iS.names, y.2 ≠ .cell := by decide
/-- what the written part says of an error class at C, of its base at D and of the base's __init__, at fI -/
structure ErrTxt (K : Frag) (main : Str) (C D fI : Addr) : Prop where
  exi : excInitIn K C veB "ValueError.__new__" = true
  cls : ∃ cd, clsIn K C = some cd ∧ refsVE cd.mro = true ∧ cd.hasDict = true
  sa : findIn K (.ref C) "__setattr__" = some (some (.builtin "object.__setattr__"))
  noN : findIn K (.ref C) "value" = some none
  iC : findIn K (.ref C) "__init__" = some (some (.ref fI))
  tC : typeIn K (.ref fI) = some (.type "function")
  kC : keepIn K (.ref C) = true
  exC : subIn K (.ref C) (.type "BaseException") = some true
  vaC : subIn K (.ref C) (.type "ValueError") = some true
  tyC : typeIn K (.ref C) = some (.type "type")
  mD : mroIn K C (.ref D) = some true
  sup : ks_superIn K C D "__init__" = some (some (.builtin "ValueError.__init__"))
  clD : ∃ cd, clsIn K D = some cd
  third : nsIn K cStatics "thirdparty.any" = some none
  fn : ∃ (oc : Value) (od : Option Addr) (doc pm : Value) (an : Option Addr) (cda cc : Addr) (ct : Value) (osl : Array (Option Value)) (p1 p2 a1 a2 a3 a4 a5 a6 q1 q2 q3 q4 : Pos),
    K.lookup fI = some ⟨oc, od, .func (ksFn "__init__" "RollError.__init__" (iA p1 p2) (iB a1 a2 a3 a4 a5 a6 q1 q2 q3 q4) iS .none .none doc pm an (.ref cda) ct cc), osl⟩ ∧ codeIn K (.ref cda) "RollError.__init__" = true ∧
    (∃ (cl : Value) (cld : Option Addr) (csl : Array (Option Value)), K.lookup cc = some ⟨cl, cld, .cell (some (.ref D)), csl⟩) ∧
    EvOk a1 a2 a3 a4 a5 ∧ ∃ (ccl : Value) (cdd : Option Addr) (vs : Array Value) (ccs : Array (Option Value)) (file : Str) (tf : Tok), K.lookup cda = some ⟨ccl, cdd, .fields vs, ccs⟩ ∧ vs[2]? = some (.str file tf) ∧ (main == file) = true
/-- what __init__ leaves of a fresh exception at x -/
structure InitEnd (h h' : Heap) (x C dx t1 : Addr) (v : Value) : Prop where
  keep : ∀ b o, b ≠ x → h.get? b = some o → h'.get? b = some o
  obj : h'.get? x = some { cls := .ref C, dict := some dx, data := .fields #[.ref t1, .none, .none, .none, .bool false, .none] }
  dbig : h.objs.size ≤ dx
  dne : dx ≠ x
  ns : h'.Ns1 dx (fun y => if y = "value" then some v else none)
section
variable {prog : Program} {w : World} {A : Around} {E : Value → Shared → Prop} {R : Result → Shared → Prop} {s : Shared} {K : Frag} {mg mb : Str → Option Value} {C D fI : Addr}
theorem ldK {M : Model} {s : Shared} {name : Str} {scope : Scope} {L a cc : Addr} {cd : Value} {m : Str → Option Value} {x : Str} {pos : Pos} {v : Value} {Q : Value → Shared → Prop} {A : Around} {E : Value → Shared → Prop} (hn : s.heap.Ns L m) (hv : m x = some v) (h : Q v s)
    (hk : scope.kind = .function := by rfl) (hl : (ksEnv name scope L a cd cc).kindOf x = some .local := by rfl) (hd : (x == ("__debug__" : Str)) = false := by decide) :
    wpAny M A (eval (.Name x pos) (ksEnv name scope L a cd cc)) Q E s := wpAny_Name (wpAny_loadName_local hk hl hn hv h) hd
theorem kx1 {M : Model} {pos : Pos} {env : Env} {e : Expr} {rest : List Expr} {u x : Addr} {i : String} {Q : Value → Shared → Prop}
    (h : wpAny M A (spliced (backTo pos (starEach (e :: rest) env))) (fun vs s₁ => KxsAt i u x s₁.heap ∧ wpAny M A (call (.ref u) vs) Q E s₁) E s)
    (he : starEach (e :: rest) env = (false, eval e env) :: starEach rest env := by rfl) (hplain : (backTo pos (starEach rest env)).any (·.1) = false := by rfl) :
    wpAny M A (callWith pos (.ref u) [] (backTo pos (starEach (e :: rest) env)) []) Q E s := by
  rw [he] at h ⊢
  refine kxs_callWith (i := i) (x := x) (by show (false || (backTo pos (starEach rest env)).any (·.1)) = false; rw [hplain]; rfl) ?_
  exact evalArgs_plain h
theorem kx_call {prog : Program} {w : World} {i newId B : String} {bmB : List Value} {nm qn : Str} {C N e u t0 : Addr} {bs bm : List Value} {hdct : Bool} {sn : List Str} {sub : List Value} {ab : Bool} {col : Option Bool} {dd : Option Addr} {k0 k1 k2 k3 k5 : Option Value} {rest : List Value} {Q : Value → Shared → Prop}
    (FB : ExcBaseFacts B newId i bmB) (hC : s.heap.get? C = some (excClassObj nm qn C N bs bm hdct sn sub ab col dd k0 k1 k2 k3 k5 newId)) (he : s.heap.get? e = some (excO C t0)) (hu : s.heap.get? u = some (kxs_mw i e)) (hz : rest.length ≤ sizeLine)
    (h : ∀ h' t1, (∀ b o, b ≠ e → s.heap.get? b = some o → h'.get? b = some o) → h'.get? e = some (excO C t1) → Q .none { s with heap := h' }) :
    wpAny (model prog w) A (call (.ref u) rest) Q E s := by
  obtain ⟨hh, g, d, tk, os⟩ := s
  refine wpAny_call (codeAny_of_tree ?_)
  show wpAny _ A.in1 (callAny (.ref u) ⟨rest, []⟩) _ _ _
  simp only [callAny]
  refine wpAny_bind (wpAny_load hu ?_)
  simp only [kxs_mw, show (Value.type "method-wrapper" == Value.type "method" || Value.type "method-wrapper" == Value.type "builtin_function_or_method" || Value.type "method-wrapper" == Value.type "method-wrapper") = true by decide, if_true]
  refine KFB.if_so (by decide) ?_
  refine wpAny_bind (check_bound_init FB.toExcCallFacts hC he rfl ?_)
  refine wpAny_bind (wpAny_pure (wpAny_pure ?_))
  refine ⟨plainId_quiet FB.init.plain _, codeAny_builtin FB.initEntry ?_⟩
  exact exc_init_tree (cls := .ref C) (t0 := t0) (dv := none) (c2 := .none) (c3 := .none) (b4 := .bool false) he hz fun h' k e' t' => h h' _ k e'
theorem roll_init (T : ErrTxt K prog.main.file C D fI) {x t0 : Addr} {v : Value} (X : K.In s.heap) (hlim : s.heap.NoLimit) (hg : s.heap.Ns mainGlobals mg) (hmiss : mg "super" = none) (hb : s.heap.Ns builtinsNs mb) (hsu : mb "super" = some (.type "super"))
    (htop : (prog.main.scope.names.lookup ("super" : Str)).isSome = false) (hx : s.heap.get? x = some (excO C t0)) (hnx : K.lookup x = none) (hroom : A.depth < recursionLimit)
    (hq : ∀ h' tk dx t1, InitEnd s.heap h' x C dx t1 v → R (.ok (.ret .none)) { s with heap := h', toks := tk }) :
    codeAny (model prog w) A (.call (.ref fI) ⟨[.ref x, v], []⟩) R s := by
  obtain ⟨oc, od, doc, pm, an, cda, cc, ct, osl, p1, p2, a1, a2, a3, a4, a5, a6, q1, q2, q3, q4, ho, hcd, ⟨cl, cld, csl, hcell⟩, hev, ccl, cdd, vs, ccs, file, tf, hcode, hvs, hfile⟩ := T.fn
  obtain ⟨cd, hcl, hve, hdi⟩ := T.cls
  obtain ⟨cdD, hD⟩ := T.clD
  obtain ⟨nm, N', qn, bs, bm, hdct, sn, sub, ab, col, dd, k0, k1, k2, k3, k5, hC, hT⟩ := excInit_of X T.exi
  refine ks_codeAny_call_defAt (fd := ksFn "__init__" "RollError.__init__" (iA p1 p2) (iB a1 a2 a3 a4 a5 a6 q1 q2 q3 q4) iS .none .none doc pm an (.ref cda) ct cc) (binds := [("self", .ref x), ("value", v)]) hroom (X _ _ ho) rfl hlim (codeRec_of X hcd) rfl (BindsTo.of_eq (by first | rfl | with_unfolding_all rfl)) (fun y hy => iS_cell y hy) (locs rfl) (fun h₁ hn k => ?_)
  have X₁ : K.In h₁ := X.keeps k
  have hx₁ := k _ _ hx
  have hxL : x ≠ s.heap.objs.size := Nat.ne_of_lt (Heap.lt_size hx)
  have hlt : s.heap.objs.size < h₁.objs.size := by
    obtain ⟨o, es, ep, e, _⟩ := hn
    exact Heap.lt_size e
  obtain ⟨hp, g, dr, tk, os⟩ := s
  show _root_.PySem.wpAt _ (A.deeper (ksEnv "RollError.__init__" iS hp.objs.size fI (.ref cda) cc)) (.func (iB a1 a2 a3 a4 a5 a6 q1 q2 q3 q4) (ksEnv "RollError.__init__" iS hp.objs.size fI (.ref cda) cc)) (execs (iB a1 a2 a3 a4 a5 a6 q1 q2 q3 q4) (ksEnv "RollError.__init__" iS hp.objs.size fI (.ref cda) cc)) _ _ _
  -- super().__init__(value)
  refine ks_wpAt_execs_cons (ks_wpAt_Expr_any (ks_wpAt_MethodCall (pl := do return (← importBound (.Call (.Name "super" a1) [] [] a2) (ksEnv "RollError.__init__" iS hp.objs.size fI (.ref cda) cc)).getD true) ?_ (he := hev _ _ _ _)))
  obtain ⟨oD, hD1, hD2⟩ : ∃ oD, h₁.get? D = some oD ∧ oD.data = .cls cdD := by
    unfold clsIn at hD
    split at hD
    · rename_i c d cd' sl ho
      cases hD
      exact ⟨_, X₁ _ _ ho, rfl⟩
    · cases hD
  refine ks_wpAt_super_base (env := ksEnv "RollError.__init__" iS hp.objs.size fI (.ref cda) cc) rfl rfl (by decide) rfl (X₁ _ _ ho) rfl (ar := { arg := "self", annotation := none, pos := p1 }) rfl rfl (X₁ _ _ hcode) rfl hvs hfile htop ?_
  refine ks_loadName_global rfl rfl (loadGlobal_builtin (env := ksEnv "RollError.__init__" iS hp.objs.size fI (.ref cda) cc) (hg.keeps k) hmiss (hb.keeps k) hsu ⟨rfl, ?_⟩)
  refine wpAny_loadName_free rfl rfl rfl ⟨_, X₁ _ _ hcell, rfl⟩ ?_
  refine wpAny_loadName_local rfl rfl hn (v := .ref x) (by first | rfl | with_unfolding_all rfl | kernel_rfl) ?_
  refine ks_wpAny_isType_cls hD1 hD2 ⟨rfl, ?_⟩
  refine ks_wpAny_call_super hD1 hD2 hx₁ rfl (fun c e => by cases e) (looks_mroIn X₁ T.mD) (fun h₂ hso k₂ => ?_)
  have X₂ : K.In h₂ := X₁.keeps k₂
  have hx₂ := k₂ _ _ hx₁
  have I₂ : InstAt h₂ x (excO C t0) C none := ⟨hx₂, rfl, rfl, trivial⟩
  have hI₂ : Looks (model prog w) h₂ (isInstance (.ref x) (.type "ValueError")) true := I₂.type.andThen (looks_subIn X₂ T.vaC)
  have hsup := T.sup
  unfold ks_superIn at hsup
  rw [hcl] at hsup
  refine kxs_getMethod kxs_ValueError hso (looks_opaque X₂ T.third) (l₀ := cd.mro) (fun A Q E s k q => wpAny_bind ((looks_clsIn X₂ hcl) A _ E s k (wpAny_pure q))) rfl X₂ hsup hI₂ (ks_ne X₂ I₂ hcl) (by decide) ?_
  have hk₃ : ∀ b o, h₂.get? b = some o → (h₂.push (kxs_mw "ValueError.__init__" x)).get? b = some o := fun b o e => Heap.get?_push_of_some _ e
  have hu : (h₂.push (kxs_mw "ValueError.__init__" x)).get? h₂.objs.size = some (kxs_mw "ValueError.__init__" x) := Heap.get?_push_at rfl rfl
  have hn₃ := (hn.keeps k₂).keeps hk₃
  have hx₃ := hk₃ _ _ hx₂
  have X₃ : K.In _ := X₂.keeps hk₃
  have kk₃ : ∀ b o, hp.get? b = some o → (h₂.push (kxs_mw "ValueError.__init__" x)).get? b = some o := fun b o e => hk₃ b o (k₂ b o (k b o e))
  have hC₃ := hk₃ _ _ (k₂ _ _ (k _ _ hC))
  generalize h₂.push (kxs_mw "ValueError.__init__" x) = h₃ at *
  generalize h₂.objs.size = u at *
  refine kx1 (i := "ValueError.__init__") (x := x) ?_
  show wpAny _ _ (spliced ((false, eval (.Name "value" a4) _) :: backTo a5 (starEach [] _))) _ _ _
  refine Calls.spliced_cons (ldK (v := v) hn₃ (by first | rfl | with_unfolding_all rfl | kernel_rfl) ?_)
  refine Calls.spliced_nil ⟨hu, ?_⟩
  refine kx_call F.excBase_ValueError hC₃ hx₃ hu (by rw [sizeLine_eq]; exact (by decide : 1 ≤ 16777216)) fun h₄ t1 k₄ hx₄ => ?_
  -- self.value = value
  have xL : hp.objs.size ≠ x := fun z => hxL z.symm
  have hn₄ : h₄.Ns hp.objs.size (fun y => List.lookup y [((Str.ofString "self"), Value.ref x), ((Str.ofString "value"), v)].reverse) := by
    obtain ⟨o, es, ep, e, r⟩ := hn₃
    exact ⟨o, es, ep, k₄ _ _ xL e, r⟩
  have X₄ : K.In h₄ := fun a o e => k₄ a o (fun z => by rw [z, hnx] at e; cases e) (X₃ a o e)
  show _root_.PySem.wpAt _ _ _ (execs _ _) _ _ _
  refine wpAt_of_wpAny ?_
  refine wpAny_execs_cons (plainObj_wpAny_Assign_Attribute ?_)
  refine ldK (v := v) hn₄ (by first | rfl | with_unfolding_all rfl | kernel_rfl) (ldK (v := .ref x) hn₄ (by first | rfl | with_unfolding_all rfl | kernel_rfl) ?_)
  refine set_plain X₄ (ox := excO C t1) (od := none) ⟨hx₄, rfl, rfl, trivial⟩ T.sa ?_
  refine exc_osa X₄ hx₄ hcl hve hdi T.noN (fun h₅ tk₅ dx k₅ dn dne hx₅ hn₅ => ?_)
  refine wpAny_execs_nil (hq h₅ tk₅ dx t1 ⟨fun b o hb e => k₅ b o hb (k₄ b o hb (kk₃ b o e)), hx₅, ?_, dne, hn₅⟩)
  have z : hp.objs.size < h₄.objs.size := by
    obtain ⟨o, es, ep, e, _⟩ := hn₄
    exact Heap.lt_size e
  exact Nat.le_of_lt (Nat.lt_of_lt_of_le z dn)
/-- a made error -/
structure OwnMade (h h' : Heap) (e C d : Addr) (v : Value) : Prop where
  keep : ∀ b o, h.get? b = some o → h'.get? b = some o
  new : h.objs.size ≤ e
  obj : ∃ oe vs, h'.get? e = some oe ∧ oe.cls = .ref C ∧ oe.dict = some d ∧ oe.data = .fields vs ∧ vs[1]? = some .none
  dbig : h.objs.size ≤ d
  dne : d ≠ e
  ns : h'.Ns1 d (fun y => if y = "value" then some v else none)
theorem one_size (v : Value) : [v].length ≤ sizeLine := by
  rw [sizeLine_eq]
  exact (by decide : 1 ≤ 16777216)
theorem roll_made (T : ErrTxt K prog.main.file C D fI) {v : Value} (X : K.In s.heap) (hlim : s.heap.NoLimit) (hg : s.heap.Ns mainGlobals mg) (hmiss : mg "super" = none) (hb : s.heap.Ns builtinsNs mb) (hsu : mb "super" = some (.type "super"))
    (htop : (prog.main.scope.names.lookup ("super" : Str)).isSome = false) (hroom : A.depth + 1 < recursionLimit)
    (hq : ∀ h' tk e d, OwnMade s.heap h' e C d v → R (.ok (.ret (.ref e))) { s with heap := h', toks := tk }) :
    codeAny (model prog w) A (.call (.ref C) ⟨[v], []⟩) R s := by
  obtain ⟨nm, N', qn, bs, bm, hdct, sn, sub, ab, col, dd, k0, k1, k2, k3, k5, hC, hT⟩ := excInit_of X T.exi
  obtain ⟨hp, g, dr, tk, os⟩ := s
  have k : ∀ b o, hp.get? b = some o → ((hp.push (kdv_tup [v])).push (excO C hp.objs.size)).get? b = some o := fun b o e => Heap.get?_push_of_some _ (Heap.get?_push_of_some _ e)
  have hget : ((hp.push (kdv_tup [v])).push (excO C hp.objs.size)).get? (hp.objs.size + 1) = some (excO C hp.objs.size) := by heap_get
  have hnx : K.lookup (hp.objs.size + 1) = none := by
    cases e : K.lookup (hp.objs.size + 1) with
    | none => rfl
    | some o =>
      have z : hp.get? (hp.objs.size + 1) = some o := X _ _ e
      exact absurd (Nat.lt_of_succ_lt (Heap.lt_size z)) (Nat.lt_irrefl _)
  refine call_own F.excBase_ValueError hT hC (looks_findIn X T.iC) (fun self => bind_fn X self T.tC) (one_size v) ?_
  refine roll_init (s := ⟨(hp.push (kdv_tup [v])).push (excO C hp.objs.size), g, dr, tk, os⟩) T (X.keeps k) (hlim.keeps k) (hg.keeps k) hmiss (hb.keeps k) hsu htop hget hnx ?_ fun h' tk' dx t1 ⟨k', hx, dn, dne, hns⟩ => ?_
  · show A.depth + 1 < recursionLimit
    exact hroom
  · have old : ∀ b o, hp.get? b = some o → h'.get? b = some o := fun b o e => k' b o (Nat.ne_of_lt (Nat.lt_succ_of_lt (Heap.lt_size e))) (k b o e)
    have z : hp.objs.size + 1 + 1 ≤ dx := by
      first
        | (simpa only [Heap.size_push] using dn)
        | exact dn
        | (have q := dn; rw [Heap.size_push, Heap.size_push] at q; exact q)
    exact ⟨rfl, hq h' tk' (hp.objs.size + 1) dx ⟨old, Nat.le_succ _, ⟨_, _, hx, rfl, rfl, rfl, rfl⟩, Nat.le_trans (Nat.le_trans (Nat.le_succ _) (Nat.le_succ _)) z, dne, hns⟩⟩
end
end RollX
end PySem
namespace L2
open PySem PySem.Spec PyProof.Rows
theorem relO_roll {v : V} {v' : Value} (r : RelV v v') (f : Str) : RelO (List.lookup f [(("value" : Str), v)]) (if f = "value" then some v' else none) := by
  by_cases hw : f = "value"
  · subst hw
    rw [if_pos rfl]
    have q : List.lookup ("value" : Str) [(("value" : Str), v)] = some v := by simp [List.lookup]
    rw [q]
    exact r
  · rw [if_neg hw]
    have qw : (f == ("value" : Str)) = false := by simpa using hw
    have q2 : List.lookup f [(("value" : Str), v)] = none := by simp [List.lookup, qw]
    rw [q2]
    trivial
section
variable {X : Cx} {C D fI : Addr}
/-- C(e), an own error -/
def tMkRoll (C : Addr) (ta : TA) : St → Hp → XK → Prop := fun σ H Q => ta σ H fun vs H1 => ∃ v, vs = [v] ∧ ∀ d, H1 d = none → Q (.ref C) (some d) (upd H1 d (.xd [(("value" : Str), v)]))
theorem pmk_roll {a : Expr} {ta : TA} {x : Str} {p pos : Pos} {k : Nat} (T : PySem.RollX.ErrTxt X.K X.prog.main.file C D fI) (gC : X.mg x = some (.ref C)) (sup : X.mg "super" = none) (htop : (X.prog.main.scope.names.lookup ("super" : Str)).isSome = false) (hr : Room k X.A) (ha : PA X [a] ta) (hg : Gl X x)
    (hdb : (x == ("__debug__" : Str)) = false := by kernel_rfl) (he : starEach (a :: []) X.env = (false, eval a X.env) :: starEach [] X.env := by kernel_rfl) (hpl : (backTo pos (starEach [] X.env)).any (·.1) = false := by kernel_rfl) :
    PMk X (.Call (.Name x p) [a] [] pos) (tMkRoll C ta) := by
  intro pins s σ H Q I h
  refine wpAny_Call_Name_kw (ld_glob I hg gC ?_ hdb)
  refine PySem.W.callWith_K (h₀ := X.base) I.ok.mod.kin T.kC (thn (ha.run pos pins s σ H _ I h) fun us s1 hh => ?_) he hpl
  obtain ⟨vs, H1, I1, r1, v, ev, q1⟩ := hh
  subst ev
  refine ⟨I1.kIn, ?_⟩
  cases r1 with
  | cons rv rn =>
    rename_i v' us'
    cases rn
    show wpAny _ _ (call (.ref C) [v']) _ _ _
    have hlim := I1.nolimit
    obtain ⟨mb, hb1, hb2⟩ := I1.ok.mod.blt
    have hgl := I1.ok.mod.glob.keeps I1.bk
    have hbl := hb1.keeps I1.bk
    obtain ⟨hp, g, dr, tk, os⟩ := s1
    refine wpAny_call (PySem.RollX.roll_made T I1.kIn hlim hgl sup hbl ((hb2 _ (by decide)).trans (by first | rfl | kernel_rfl)) htop (by have := hr.dp; omega) fun h' tk' e d M => ?_)
    show MkP X pins σ Q (.ref e) ⟨h', g, dr, tk', os⟩
    obtain ⟨oe, fv, hoe, hc, hd, hdat, h1⟩ := M.obj
    have hns := M.ns
    obtain ⟨G', g1, g2⟩ := restrict h' fun b => decide (b ≠ e)
    have gk : ∀ b, b ≠ e → G'.get? b = h'.get? b := fun b hb => g1 b (decide_eq_true hb)
    have ge : G'.get? e = none := g2 e (by simp)
    have old : ∀ b o, hp.get? b = some o → G'.get? b = some o := fun b o q => (gk b (Nat.ne_of_lt (Nat.lt_of_lt_of_le (Heap.lt_size q) M.new))).trans (M.keep b o q)
    have ob : ObjOk X.prog X.w (upd H1 d (.xd [(("value" : Str), v)])) G' d (.xd [(("value" : Str), v)]) :=
      ⟨_, hns.at (fun o q => (gk d M.dne).trans q), fun f => relO_roll rv f⟩
    have J : Inv X pins σ (upd H1 d (.xd [(("value" : Str), v)])) ⟨G', g, dr, tk', os⟩ := I1.laid (t' := tk') old M.dbig ob
    refine ⟨e, oe, fv, ⟨G', g, dr, tk', os⟩, _, .ref C, some d, rfl, J, fun b o q => ?_, ge, hoe, ⟨hc, hd⟩, hdat, h1, ?_, rfl, I1.bare, raises_own T.exC T.tyC, q1 d (I1.hok.fresh M.dbig)⟩
    · by_cases hb : b = e
      · have q' : G'.get? b = some o := q
        rw [hb, ge] at q'; cases q'
      · exact (gk b hb).symm.trans q
    · rw [upd_ne (Ne.symm M.dne)]
      exact I1.hok.fresh M.new
end
end L2

set_option Elab.async false
set_option linter.all false
set_option maxRecDepth 100000
set_option maxHeartbeats 2000000
/-! The exceptional way: readings take what is wished of an error let out (its class, its dict). -/
namespace Mv
open PySem PySem.Spec PyProof.Rows L2
abbrev MZ := String → Addr → Sto → Prop
abbrev MX := String → Addr → Env → Sto → Prop
abbrev MWX := MZ → List MV → Sto → MK → Prop
def MQz (K : PySem.W.Frag) (Z : ZT) (S : Sto) (H : Hp) (E : MZ) : XK := fun cls d H' => ∃ (c : String) (dx : Addr) (S' : Sto) (m : MV), cls = .ref (He.ga K (so c)) ∧ d = some dx ∧ GK K S H S' H' ∧ RS K Z S' H' ∧ S' dx = some (.xd m) ∧ E c dx S'
def MQx (K : PySem.W.Frag) (Z : ZT) (S : Sto) (H : Hp) (E : MX) : WX := fun cls d σ' H' => ∃ (c : String) (dx : Addr) (ρ' : Env) (S' : Sto) (m : MV), cls = .ref (He.ga K (so c)) ∧ d = some dx ∧ GK K S H S' H' ∧ RE K H' ρ' σ' ∧ RS K Z S' H' ∧ S' dx = some (.xd m) ∧ E c dx ρ' S'
section
variable {K : PySem.W.Frag} {Z : ZT} {S0 S : Sto} {H0 H : Hp}
theorem MQz.base {E : MZ} {cls : Value} {d : Option Addr} {H' : Hp} (q : MQz K Z S H E cls d H') (t : GK K S0 H0 S H) : MQz K Z S0 H0 E cls d H' :=
  let ⟨c, dx, S', m, e1, e2, g, s, ed, q⟩ := q; ⟨c, dx, S', m, e1, e2, t.trans g, s, ed, q⟩
theorem MQx.base {E : MX} {cls : Value} {d : Option Addr} {σ' : L2.St} {H' : Hp} (q : MQx K Z S H E cls d σ' H') (t : GK K S0 H0 S H) : MQx K Z S0 H0 E cls d σ' H' :=
  let ⟨c, dx, ρ', S', m, e1, e2, g, r, s, ed, q⟩ := q; ⟨c, dx, ρ', S', m, e1, e2, t.trans g, r, s, ed, q⟩
end
theorem PE.imp {X : Cx} {e : Expr} {t t' : TE} (h : PE X e t) (k : ∀ σ H Q, t' σ H Q → t σ H Q) : PE X e t' := ⟨fun pins s σ H Q I hw => h.run pins s σ H Q I (k σ H Q hw)⟩
def tMX (K : PySem.W.Frag) (Z : ZT) (W : WX) (m : MX → ME) : TE := fun σ H Q => ∃ ρ S R E, RE K H ρ σ ∧ RS K Z S H ∧ m E ρ S R ∧ (∀ v H', MQ K Z S H R v H' → Q v H') ∧ ∀ c d H', MQx K Z S H E c d σ H' → W c d σ H'
def tMSX (K : PySem.W.Frag) (Z : ZT) (W : WX) (m : MX → MS) : TS := fun D σ H => ∃ ρ S D' E, RE K H ρ σ ∧ RS K Z S H ∧ m E D' ρ S ∧ (∀ σ' H', MQd K Z S H D'.nx σ' H' → D.nx σ' H') ∧ (∀ v H', MQ K Z S H D'.rt v H' → D.rt v H') ∧
  (∀ σ' H', MQd K Z S H D'.bk σ' H' → D.bk σ' H') ∧ (∀ σ' H', MQd K Z S H D'.ct σ' H' → D.ct σ' H') ∧ ∀ c d σ' H', MQx K Z S H E c d σ' H' → W c d σ' H'
structure EEX (X : Cx) (Z : ZT) (e : Expr) (m : MX → ME) : Prop where
  pe : ∀ W, Takes X W → PE X e (tMX X.K Z W m)
structure ESX (X : Cx) (Z : ZT) (st : Stmt) (m : MX → MS) : Prop where
  ps : ∀ W, Takes X W → PS X st (tMSX X.K Z W m)
structure EBX (X : Cx) (Z : ZT) (sts : List Stmt) (m : MX → MS) : Prop where
  pss : ∀ W, Takes X W → PSs X sts (tMSX X.K Z W m)
section
variable {X : Cx} {Z : ZT} {e a b c o i value tg iter : Expr} {m : MX → ME} {m0 mb : ME} {mt : MT} {pos pos' p : Pos} {es : List Expr} {mas : MA} {x : Str} {st : Stmt} {sts : List Stmt} {ms mr : MX → MS} {ms0 : MS}
theorem esx_lift (h : ES X Z st ms0) : ESX X Z st (fun _ => ms0) := ⟨fun W _ => PS.imp h.ps fun D σ H ⟨ρ, S, D', E, hE, hS, hm, h1, h2, h3, h4, _⟩ => ⟨ρ, S, D', hE, hS, hm, h1, h2, h3, h4⟩⟩
theorem ebx_lift (h : EB X Z sts ms0) : EBX X Z sts (fun _ => ms0) := ⟨fun W _ => PSs.imp h.pss fun D σ H ⟨ρ, S, D', E, hE, hS, hm, h1, h2, h3, h4, _⟩ => ⟨ρ, S, D', hE, hS, hm, h1, h2, h3, h4⟩⟩
theorem tMSX_at {m : MX → MS} {W : WX} {S S1 : Sto} {σ : L2.St} {H H1 : Hp} {ρ : Env} {D' : MD} {E : MX} {D : Ends} (t : GK X.K S H S1 H1) (hE : RE X.K H1 ρ σ) (hS : RS X.K Z S1 H1) (hm : m E D' ρ S1)
    (h1 : ∀ σ' H', MQd X.K Z S H D'.nx σ' H' → D.nx σ' H') (h2 : ∀ v H', MQ X.K Z S H D'.rt v H' → D.rt v H')
    (h3 : ∀ σ' H', MQd X.K Z S H D'.bk σ' H' → D.bk σ' H') (h4 : ∀ σ' H', MQd X.K Z S H D'.ct σ' H' → D.ct σ' H') (hx : ∀ c d σ' H', MQx X.K Z S H E c d σ' H' → W c d σ' H') : tMSX X.K Z W m D σ H1 :=
  ⟨ρ, S1, D', E, hE, hS, hm, fun σ' H' q => h1 _ _ (q.base t), fun σ' H' q => h2 _ _ (q.base t), fun σ' H' q => h3 _ _ (q.base t), fun σ' H' q => h4 _ _ (q.base t), fun c d σ' H' q => hx _ _ _ _ (q.base t)⟩
theorem ebx_cons (ha : ESX X Z st ms) (hb : EBX X Z sts mr) : EBX X Z (st :: sts) (fun E => msSeq (ms E) (mr E)) :=
  ⟨fun W tk => PSs.imp (pss_cons (ha.ps W tk) (hb.pss W tk)) fun D σ H ⟨ρ, S, D', E, hE, hS, hm, h1, h2, h3, h4, hx⟩ =>
    ⟨ρ, S, { D' with nx := mr E D' }, E, hE, hS, hm, fun σ' H' ⟨ρ', S', t, e', s', q⟩ => tMSX_at t e' s' q h1 h2 h3 h4 hx, h2, h3, h4, hx⟩⟩
theorem ebx_one (ha : ESX X Z st ms) : EBX X Z [st] ms := ⟨fun W tk => PSs.imp (pss_one (ha.ps W tk)) fun D σ H h => h⟩
theorem esx_if {sa sb : List Stmt} {ma mb : MX → MS} (hc : ET X Z c mt) (ha : EBX X Z sa ma) (hb : EBX X Z sb mb) : ESX X Z (.If c sa sb pos) (fun E => msIf mt (ma E) (mb E)) :=
  ⟨fun W tk => PS.imp (ps_if hc.pt (ha.pss W tk) (hb.pss W tk)) fun D σ H ⟨ρ, S, D', E, hE, hS, hm, h1, h2, h3, h4, hx⟩ => by
    refine ⟨ρ, S, _, hE, hS, hm, fun k H1 ⟨S1, t1, s1, q1⟩ => ?_⟩
    cases k with
    | true => rw [if_pos rfl]; exact tMSX_at t1 (hE.mono t1) s1 q1 h1 h2 h3 h4 hx
    | false => rw [if_neg Bool.false_ne_true]; exact tMSX_at t1 (hE.mono t1) s1 q1 h1 h2 h3 h4 hx⟩
theorem esx_for {body : List Stmt} {mi : MI} {pt : Pat} {mb : MX → MS} (hp : PassesOwn (model X.prog X.w) X.A X.env X.xe) (hc : X.calm = true) (hi : EI X Z tg iter mi) (hg : EG X Z tg pt) (hb : EBX X Z body mb) (hs : ∀ x, foldedSetIterable iter X.env x = pure x := by intro _; kernel_rfl) :
    ESX X Z (.For tg iter body [] pos) (fun E => msFor mi pt (mb E)) := by
  obtain ⟨wi, w1, w2⟩ := hi.pi
  refine ⟨fun W tk => PS.imp (ps_for hp hc w1 hg.pg (hb.pss W tk) hs) fun D σ H ⟨ρ, S, D', E, hE, hS, hm, h1, h2, h3, h4, hx⟩ => ?_⟩
  refine w2 σ H ρ S _ _ hE hS hm fun J H1 ⟨I, S1, t1, s1, j1, q1⟩ => ?_
  refine ⟨fun i n σ2 H2 => n = I.vs.length - i ∧ i ≤ I.vs.length ∧ ∃ ρ2 S2, GK X.K S H S2 H2 ∧ TK X.K H1 H2 ∧ RE X.K H2 ρ2 σ2 ∧ RS X.K Z S2 H2 ∧ forL I.keep pt (mb E) D' (I.vs.drop i) ρ2 S2, ⟨_, rfl, Nat.zero_le _, ρ, S1, t1, TK.refl, hE.mono t1, s1, q1⟩, ?_⟩
  rintro i n σ2 H2 ⟨rfl, hi, ρ2, S2, g2, k2, e2, s2, q2⟩
  by_cases hlt : i < I.vs.length
  · rw [List.drop_eq_getElem_cons hlt] at q2
    unfold forL at q2
    obtain ⟨kp, q2⟩ := q2
    obtain ⟨go, yl⟩ := (j1 i S2 H2 k2 s2 kp).1 _ (List.getElem?_eq_getElem hlt)
    refine .inr ⟨go, fun σ3 H3 => ∃ ρ3 S3, GK X.K S H S3 H3 ∧ TK X.K H1 H3 ∧ RE X.K H3 ρ3 σ3 ∧ RS X.K Z S3 H3 ∧ forL I.keep pt (mb E) D' (I.vs.drop (i + 1)) ρ3 S3, fun σ3 H3 ⟨ρ3, S3, a1, a2, a3, a4, a5⟩ => ⟨_, by omega, rfl, hlt, ρ3, S3, a1, a2, a3, a4, a5⟩, fun x H3 hy => ?_⟩
    obtain ⟨g3, s3, r3⟩ := yl x H3 hy
    refine ⟨_, ρ2, S2, _, r3, e2.mono g3, s3, q2, fun ρ4 σ4 e4 _ _ b4 => ?_⟩
    have t4 : GK X.K S H S2 H3 := g2.trans g3
    refine ⟨ρ4, S2, _, E, e4, s3, b4, fun σ5 H5 ⟨ρ5, S5, g5, e5, s5, q5⟩ => ⟨ρ5, S5, t4.trans g5, k2.trans (g3.tk.trans g5.tk), e5, s5, q5⟩, fun v H5 q => h2 _ _ (q.base t4), fun σ5 H5 q => h1 _ _ (q.base t4),
      fun σ5 H5 ⟨ρ5, S5, g5, e5, s5, q5⟩ => ⟨ρ5, S5, t4.trans g5, k2.trans (g3.tk.trans g5.tk), e5, s5, q5⟩, fun c d σ' H' q => hx _ _ _ _ (q.base t4)⟩
  · have ei : i = I.vs.length := by omega
    subst ei
    rw [List.drop_length] at q2
    unfold forL at q2
    obtain ⟨kp, q2⟩ := q2
    exact .inl ⟨(j1 _ S2 H2 k2 s2 kp).2 (Nat.le_refl _), h1 _ _ ⟨ρ2, S2, g2, e2, s2, q2⟩⟩
/-! ### raise C(e) -/
def msRaise (E : MX) (c : String) (me : ME) : MS := fun D ρ S => me ρ S fun v S1 => ∀ dx, S1 dx = none → E c dx ρ (supd S1 dx (.xd v))
theorem esx_raise {c : String} {fI D : Addr} {y : Str} {p2 : Pos} {k : Nat} (hc : X.calm = true) (T : PySem.RollX.ErrTxt X.K X.prog.main.file (He.ga X.K (so c)) D fI) (gC : X.mg y = some (.ref (He.ga X.K (so c)))) (sup : X.mg "super" = none) (htop : (X.prog.main.scope.names.lookup ("super" : Str)).isSome = false) (hr : Room k X.A) (hg : Gl X y) (ha : EE X Z a m0)
    (hdb : (y == ("__debug__" : Str)) = false := by kernel_rfl) (he : starEach (a :: []) X.env = (false, eval a X.env) :: starEach [] X.env := by kernel_rfl) (hpl : (backTo pos (starEach [] X.env)).any (·.1) = false := by kernel_rfl) :
    ESX X Z (.Raise (some (.Call (.Name y p) [a] [] pos)) none p2) (fun E => msRaise E c m0) :=
  ⟨fun W tk => PS.imp (ps_raise hc tk (pmk_roll T gC sup htop hr (pa_cons ha.pe pa_nil he) hg hdb he hpl)) fun D σ H ⟨ρ, S, D', E, hE, hS, hm, h1, h2, h3, h4, hx⟩ =>
    ⟨ρ, S, _, hE, hS, hm, fun v H1 ⟨x, S1, t1, r1, s1, q1⟩ => ⟨v, rfl, fun d hd => hx _ _ _ _ ⟨c, d, ρ, supd S1 d (.xd x), x, rfl, rfl, t1.trans (GK.new hd), (hE.mono t1).mono (GK.new (S := S1) (m := .xd x) hd),
      s1.put (TK.new hd) (fun ps z => by rw [hd] at z; cases z) ⟨v, upd_same, r1.monoT (TK.new hd)⟩, supd_same, q1 d (s1.free hd)⟩⟩⟩⟩
/-! ### calls of defs that may raise -/
def spX (K : PySem.W.Frag) (Z : ZT) (n : Nat) (V : MWX) : Sp := fun vs H Q E => vs.length = n ∧ ∃ ms S R Em, RMs K H ms vs ∧ RS K Z S H ∧ V Em ms S R ∧ (∀ v H', MQ K Z S H R v H' → Q v H') ∧ ∀ c d H', MQz K Z S H Em c d H' → E c d H'
structure CalX (P : Program) (w : World) (K : PySem.W.Frag) (mg : Str → Option Value) (base : Heap) (Z : ZT) (f : Addr) (ps : List Str) (k : Nat) (V : MWX) : Prop where
  ex : ∃ fd : FuncData, FnOk P w K mg base (L2.CX P w) k f fd ps (spX K Z ps.length V) ∧ PySem.W.keepIn K (.ref f) = true ∧ Binds K fd ps []
  len : ∀ E ms S R, V E ms S R → ms.length = ps.length
def mCallX (V : MWX) (mas : MA) : MX → ME := fun E ρ S R => mas ρ S fun vs S1 => V (fun c dx S' => E c dx ρ S') vs S1 R
theorem spX_of {K : PySem.W.Frag} {W : WX} {S0 S : Sto} {H0 H : Hp} {n : Nat} {R : MK} {Q : VK} {Vf : MWX} {E : MX} {ρ : Env} {σ : L2.St} {ms : List MV} {vs : List V} (hlen : ∀ E ms S R, Vf E ms S R → ms.length = n) (hE : RE K H0 ρ σ) (t : GK K S0 H0 S H) (r : RMs K H ms vs) (s : RS K Z S H)
    (q : Vf (fun c dx S' => E c dx ρ S') ms S R) (hQ : ∀ v H', MQ K Z S0 H0 R v H' → Q v H') (hx : ∀ c d H', MQx K Z S0 H0 E c d σ H' → W c d σ H') : spX K Z n Vf vs H Q (WE W σ) :=
  ⟨by rw [r.length]; exact hlen _ _ _ _ q, ms, S, R, _, r, s, q, fun v H' q => hQ _ _ (q.base t), fun c d H' ⟨c', dx, S', m, e1, e2, g, s', ed, q⟩ => hx _ _ _ ⟨c', dx, ρ, S', m, e1, e2, t.trans g, hE.mono (t.trans g), s', ed, q⟩⟩
theorem eex_call {ps : List Str} {k k' : Nat} {V : MWX} {x : Str} {f : Addr} (C : CalX X.prog X.w X.K X.mg X.base Z f ps k V) (hr : Room k' X.A) (hk : k ≤ k') (hg : Gl X x) (hm : X.mg x = some (.ref f)) (ha : EA X Z (e :: es) mas) (hdb : (x == ("__debug__" : Str)) = false := by kernel_rfl)
    (he : starEach (e :: es) X.env = (false, eval e X.env) :: starEach es X.env := by kernel_rfl) (hpl : (backTo pos (starEach es X.env)).any (·.1) = false := by kernel_rfl) : EEX X Z (.Call (.Name x p) (e :: es) [] pos) (mCallX V mas) := by
  obtain ⟨fd, F, kp, b⟩ := C.ex
  refine ⟨fun W tk => PE.imp (pe_callS F (hr.mono hk) hg hm kp b (fun σ => passAt tk σ) ha.pa hdb he hpl) fun σ H Q ⟨ρ, S, R, E, hE, hS, hm, hQ, hx⟩ => ?_⟩
  exact ⟨ρ, S, _, hE, hS, hm, fun vs H1 ⟨ms, S1, t1, r1, s1, q1⟩ => spX_of C.len hE t1 r1 s1 q1 hQ hx⟩
/-! ### statements over such values -/
theorem esx_expr (h : EEX X Z e m) (hs : swapsWith e none pos.line X.env = pure false := by kernel_rfl) : ESX X Z (.Expr e pos) (fun E => msExpr (m E)) :=
  ⟨fun W tk => PS.imp (ps_expr (h.pe W tk) hs) fun D σ H ⟨ρ, S, D', E, hE, hS, hm, h1, h2, h3, h4, hx⟩ =>
    ⟨ρ, S, _, E, hE, hS, hm, fun v H1 ⟨x, S1, t1, r1, s1, q1⟩ => h1 _ _ ⟨ρ, S1, t1, hE.mono t1, s1, q1⟩, fun c d H' q => hx _ _ _ _ q⟩⟩
theorem esx_ret (h : EEX X Z e m) : ESX X Z (.Return (some e) pos) (fun E => msRet (m E)) :=
  ⟨fun W tk => PS.imp (ps_ret (h.pe W tk)) fun D σ H ⟨ρ, S, D', E, hE, hS, hm, h1, h2, h3, h4, hx⟩ => ⟨ρ, S, D'.rt, E, hE, hS, hm, h2, fun c d H' q => hx _ _ _ _ q⟩⟩
theorem esx_set {i : Nat} (hN : X.N.Nodup) (hi : X.N[i]? = some x) (hl : Loc X.env.scope x) (he : EEX X Z e m) (hs : swapsWith e (some (.Name x pos')) pos.line X.env = pure false := by kernel_rfl)
    (hf : X.fn x = true ∨ X.env.scope.names.lookup x = some .local) : ESX X Z (.Assign [.Name x pos'] e pos) (fun E => msSet i (m E)) :=
  ⟨fun W tk => PS.imp (ps_set hN hi hl (he.pe W tk) hs hf) fun D σ H ⟨ρ, S, D', E, hE, hS, hm, h1, h2, h3, h4, hx⟩ =>
    ⟨ρ, S, _, E, hE, hS, hm, fun v H1 ⟨x, S1, t1, r1, s1, q1⟩ => h1 _ _ ⟨_, S1, t1, (hE.mono t1).set r1, s1, q1⟩, fun c d H' q => hx _ _ _ _ q⟩⟩
theorem esx_fld {T : String → String → Bool} {f : String} (hT : AtOk X.K T) (ho : EE X Z o mb) (hv : EEX X Z value m) (hs : swapsWith value (some (.Attribute o (Str.ofString f) pos')) pos.line X.env = pure false := by kernel_rfl) :
    ESX X Z (.Assign [.Attribute o (Str.ofString f) pos'] value pos) (fun E => msFld T mb f (m E)) :=
  ⟨fun W tk => PS.imp (ps_fld ho.pe (hv.pe W tk) hs) fun D σ H ⟨ρ, S, D', E, hE, hS, hm, h1, h2, h3, h4, hx⟩ => by
    refine ⟨ρ, S, _, E, hE, hS, hm, fun v H1 ⟨x, S1, t1, r1, s1, q1⟩ => ?_, fun c d H' q => hx _ _ _ _ q⟩
    refine ⟨ρ, S1, _, hE.mono t1, s1, q1, fun ov H2 ⟨y, S2, t2, r2, s2, q2⟩ => ?_⟩
    obtain ⟨a, C, dx, fs, S3, e1, e2, e3, e4, e5, g, s3, q3⟩ := fld_put hT s2 r2 (r1.mono t2) q2
    exact ⟨a, C, dx, fs, e1, e2, e3, e4, e5, h1 _ _ ⟨ρ, S3, t1.trans (t2.trans g), hE.mono (t1.trans (t2.trans g)), s3, q3⟩⟩⟩
end
/-! ### a def that may raise, by its body -/
def dropZ (E : MZ) : MX := fun c dx _ S' => ∃ S2 : Sto, (∀ a o, S2 a = some o → S' a = some o) ∧ (∃ m, S2 dx = some (.xd m)) ∧ E c dx S2
def defV (np n : Nat) (body : MX → MS) : MWX := fun E ms S R => ms.length = np ∧ body (dropZ E) { nx := fun _ S' => dropK R .non S', rt := dropK R } (startM n ms) S
section
variable {P : Program} {w : World} {K : PySem.W.Frag} {mg : Str → Option Value} {base : Heap} {Z : ZT} {x qual : Str} {params : Arguments} {body : List Stmt} {scope : Scope} {f : Addr} {fd : FuncData}
theorem fn_spX {N ps : List Str} {k : Nat} {mb : MX → MS} {dvs : List V} {kws : List (Str × V)} (F : FunD K x qual params body scope dvs kws f fd) (Sc : FnScope N ps scope)
    (hb : ∀ (cdv : Value) (A : Around) (outer : List PySem.Env) (s : Shared) (H : Hp) (E : XK), Room k (A.deeper (envOfC qual scope s.heap.objs.size f cdv)) → EBX (cxOf (L2.CX P w) P w K mg base N qual scope f cdv A outer s H E) Z body mb) :
    FnOk P w K mg base (L2.CX P w) (k + 1) f fd ps (spX K Z ps.length (defV ps.length N.length mb)) := by
  refine F.ok Sc (fun vs H Q E h => h.1) fun cdv A outer s H vs Q E hr h => ?_
  obtain ⟨hl, ms, S, R, Em, rm, hS, ⟨hn, hm⟩, hQ, hx⟩ := h
  refine ⟨_, (hb cdv A outer s H E hr).pss (fun cls d _ H => E cls d H) (takes_of rfl rfl rfl rfl), startM N.length ms, S, _, dropZ Em, start_rel rm, hS, hm, fun σ' H' ⟨ρ', S', t, e', s', q⟩ => hQ _ _ (MQ.drop ⟨.non, S', t, by unfold RM; rfl, s', q⟩), fun v H' q => hQ _ _ (MQ.drop q),
    fun σ' H' ⟨ρ', S', t, e', s', q⟩ => False.elim q, fun σ' H' ⟨ρ', S', t, e', s', q⟩ => False.elim q, fun c d σ' H' ⟨c', dx, ρ', S', m, e1, e2, g, _, s', ed, S2, h2, ⟨m2, em2⟩, q⟩ => hx _ _ _ ⟨c', dx, S2, m2, e1, e2, g.drop h2, s'.drop h2, em2, q⟩⟩
theorem calX_mk {N ps : List Str} {k : Nat} {mb : MX → MS} (F : FunD K x qual params body scope [] [] f fd) (Sc : FnScope N ps scope) (bnd : Binds K fd ps [])
    (hb : ∀ (cdv : Value) (A : Around) (outer : List PySem.Env) (s : Shared) (H : Hp) (E : XK), Room k (A.deeper (envOfC qual scope s.heap.objs.size f cdv)) → EBX (cxOf (L2.CX P w) P w K mg base N qual scope f cdv A outer s H E) Z body mb) :
    CalX P w K mg base Z f ps (k + 1) (defV ps.length N.length mb) :=
  ⟨⟨fd, fn_spX F Sc hb, F.kp, bnd⟩, fun E ms S R h => h.1⟩
end
/-! ### try: .. except C as n: .. -/
def msTryAs (c : String) (i : Nat) (ms : Addr → Addr → MS) (mb : MX → MS) : MS := fun D ρ S => mb (fun c' dx ρ' S' => c' = c ∧ ∀ a, S' a = none →
  ms a dx { nx := fun ρ2 S2 => D.nx (ρ2.set i none) S2, rt := D.rt, bk := fun ρ2 S2 => D.bk (ρ2.set i none) S2, ct := fun ρ2 S2 => D.ct (ρ2.set i none) S2 } (ρ'.set i (some (.ref a))) S') D ρ S
def msTry (c : String) (ms : Addr → Addr → MS) (mb : MX → MS) : MS := fun D ρ S => mb (fun c' dx ρ' S' => c' = c ∧ ∀ a, S' a = none → ms a dx D ρ' S') D ρ S
section
variable {X : Cx} {Z : ZT} {x n : Str} {c : String} {i : Nat} {body suite : List Stmt} {b₀ : Stmt} {np pos pos' : Pos} {mb : MX → MS} {ms : Addr → Addr → MS}
theorem es_tryAs (hs : X.stack = X.env :: X.outer) (hf : X.env.frame = some X.env.locals) (hN : X.N.Nodup) (hi : X.N[i]? = some n) (hln : X.env.kindOf n = some .local) (hc : Names X x (.ref (He.ga X.K (so c))))
    (hex : PySem.W.exmOne X.K (.ref (He.ga X.K (so c))) (.ref (He.ga X.K (so c))) = some true)
    (hb : ∀ (pn : List (Addr × Obj)) (xe : Value → Shared → Prop), PassesOwn (model X.prog X.w) X.A X.env xe → EBX (X.tr pn xe) Z body mb)
    (hsu : ∀ (a dx : Addr) (oe : Obj) (pn : List (Addr × Obj)), Zc (.ref (He.ga X.K (so c))) (some dx) oe → (∃ vs, oe.data = .fields vs) → EB (X.suite a ((a, oe) :: pn)) Z (b₀ :: suite) (ms a dx)) :
    ES X Z (.Try body [.ExceptHandler (some (.Name x np)) (some n) (b₀ :: suite) pos'] [] [] pos) (msTryAs c i ms mb) := by
  refine ⟨PS.imp (ps_try_as (tb := fun W => tMSX X.K Z W mb) (ts := fun a cls d D σ H => ∃ dx, cls = .ref (He.ga X.K (so c)) ∧ d = some dx ∧ tMS X.K Z (ms a dx) D σ H) (Wout := fun _ _ _ _ => False) hs hf hN hi hln hc takes0
    (fun W pn xe tk hp => (hb pn xe hp).pss W tk) (fun a oe cls d pn hz hfl => ⟨fun pins s σ H D I ⟨dx, e1, e2, h⟩ => ?_⟩)) fun D σ H ⟨ρ, S, D', hE, hS, hm, h1, h2, h3, h4⟩ => ?_⟩
  · subst e1
    subst e2
    exact (hsu a dx oe pn hz hfl).pss.run pins s σ H D I h
  · refine ⟨ρ, S, D', _, hE, hS, hm, h1, h2, h3, h4, fun cls d σ' H' ⟨c', dx, ρ', S', m, e1, e2, g, e', s', ed, ec, q⟩ => ?_⟩
    subst ec
    subst e1
    refine ⟨true, hex, fun _ a na => ⟨dx, rfl, e2, ρ'.set i (some (.ref a)), S', _, e'.set (by unfold RM; rfl), s', q a (s'.free na), fun σ6 H6 ⟨ρ6, S6, g6, e6, s6, q6⟩ => h1 _ _ ⟨_, S6, g.trans g6, e6.unset, s6, q6⟩, fun v H6 q6 => h2 _ _ (q6.base g),
      fun σ6 H6 ⟨ρ6, S6, g6, e6, s6, q6⟩ => h3 _ _ ⟨_, S6, g.trans g6, e6.unset, s6, q6⟩, fun σ6 H6 ⟨ρ6, S6, g6, e6, s6, q6⟩ => h4 _ _ ⟨_, S6, g.trans g6, e6.unset, s6, q6⟩⟩, fun z => nomatch z⟩
theorem es_try {suite : List Stmt} (hs : X.stack = X.env :: X.outer) (hf : X.env.frame = some X.env.locals) (hc : Names X x (.ref (He.ga X.K (so c))))
    (hex : PySem.W.exmOne X.K (.ref (He.ga X.K (so c))) (.ref (He.ga X.K (so c))) = some true)
    (hb : ∀ (pn : List (Addr × Obj)) (xe : Value → Shared → Prop), PassesOwn (model X.prog X.w) X.A X.env xe → EBX (X.tr pn xe) Z body mb)
    (hsu : ∀ (a dx : Addr) (oe : Obj) (pn : List (Addr × Obj)), Zc (.ref (He.ga X.K (so c))) (some dx) oe → (∃ vs, oe.data = .fields vs) → EB (X.suite a ((a, oe) :: pn)) Z (b₀ :: suite) (ms a dx)) :
    ES X Z (.Try body [.ExceptHandler (some (.Name x np)) none (b₀ :: suite) pos'] [] [] pos) (msTry c ms mb) := by
  refine ⟨PS.imp (ps_try_many (tb := fun W => tMSX X.K Z W mb) (l := [(.ref (He.ga X.K (so c)), fun a cls d D σ H => ∃ dx, cls = .ref (He.ga X.K (so c)) ∧ d = some dx ∧ tMS X.K Z (ms a dx) D σ H)]) (Wout := fun _ _ _ _ => False) hs hf takes0
    (fun W pn xe tk hp => (hb pn xe hp).pss W tk) (.cons hc (fun a oe cls d pn hz hfl => ⟨fun pins s σ H D I ⟨dx, e1, e2, h⟩ => ?_⟩) .nil)) fun D σ H ⟨ρ, S, D', hE, hS, hm, h1, h2, h3, h4⟩ => ?_⟩
  · subst e1
    subst e2
    exact (hsu a dx oe pn hz hfl).pss.run pins s σ H D I h
  · refine ⟨ρ, S, D', _, hE, hS, hm, h1, h2, h3, h4, fun cls d σ' H' ⟨c', dx, ρ', S', m, e1, e2, g, e', s', ed, ec, q⟩ => ?_⟩
    subst ec
    subst e1
    exact ⟨true, hex, fun _ a na => ⟨dx, rfl, e2, ρ', S', _, e', s', q a (s'.free na), fun σ6 H6 q6 => h1 _ _ (q6.base g), fun v H6 q6 => h2 _ _ (q6.base g), fun σ6 H6 q6 => h3 _ _ (q6.base g), fun σ6 H6 q6 => h4 _ _ (q6.base g)⟩, fun z => nomatch z⟩
end
end Mv

set_option Elab.async false
set_option linter.all false
set_option maxRecDepth 100000
set_option maxHeartbeats 4000000
/-! In an except suite: e.value, isinstance(e, C). -/
namespace PySem.W
open PySem PySem.Spec PySem.Calls PyProof.Rows
section
variable {prog : Program} {w : World} {A : Around} {E : Value → Shared → Prop} {s : Shared} {K : Frag} {x D : Addr} {ox od : Obj}
theorem kin_classX {Q : Option Value → Shared → Prop} (hga : findIn K (.ref D) "__getattribute__" = some (some (.builtin "BaseException.__getattribute__"))) (hgt : findIn K (.ref D) "__getattr__" = some none) (hsub : subIn K (.ref D) (.type "BaseException") = some true)
    (hdct : hasDictIn K D = true) (ha : findIn K (.ref D) "__class__" = some (some (.builtin "object.__class__")))
    (hn : specialIn K (.builtin "object.__class__") "__get__" = some (some (.builtin "getset_descriptor.__get__"))) (htk : takesIn K (.builtin "object.__class__") = some true) (hm : mroIn K D (.type "object") = some true)
    (X : K.In s.heap) (I : InstAt s.heap x ox D (some od)) (h : Q (some (.ref D)) { s with toks := s.toks + 1 }) : wpAny (model prog w) A (getAttr? (.ref x) "__class__") Q E s := by
  have hf : findObj K D (some od) "__class__" = some (.bind (.builtin "getset_descriptor.__get__") (.builtin "object.__class__")) := findObj_data (by obtain ⟨cd, hc, _⟩ := any_some hdct; rw [hc]; rfl) ha hn htk
  obtain ⟨hp, g, d, t, os⟩ := s
  have L0 := I.type (M := model prog w)
  have L1 := looks_findIn (M := model prog w) X hga
  have L2 := looks_findIn (M := model prog w) X hgt
  have L3 := looks_find (M := model prog w) X I hf
  have sub : Looks (model prog w) hp (isInstance (.ref x) (.type "BaseException")) true := L0.andThen (looks_subIn X hsub)
  have hx0 : (false && onTheHeap (Value.builtin "BaseException.__getattribute__")) = false := rfl
  have hx2 : (Value.builtin "BaseException.__getattribute__" == Value.builtin "object.__getattribute__") = false := by decide +kernel
  have hx1 : (onTheHeap (Value.ref D) && Value.builtin "BaseException.__getattribute__" == Value.builtin "object.__getattribute__") = false := by rw [hx2]; rfl
  unfold getAttr? getAttrBy? getAttrBy
  refine wpAny_bind (wpAny_mkText (wpAny_bind (wpAny_attempt (wpAny_holding (wpAny_bind (L0.at (wpAny_bind (L1.at ?_))))))))
  show wpAny _ _ (if (onTheHeap (Value.ref D) && Value.builtin "BaseException.__getattribute__" == Value.builtin "object.__getattribute__") = true then _ else _) _ _ _
  rw [hx1, if_neg Bool.false_ne_true]
  unfold getAttrByItsOwn hookBefore
  refine wpAny_bind ?_
  rw [if_pos (show onTheHeap (Value.ref D) = true from rfl)]
  refine L2.at ?_
  refine wpAny_bind (wpAny_attempt (wpAny_holding ?_))
  unfold callGetattribute
  rw [hx0, if_neg Bool.false_ne_true]
  unfold boundAndCalled
  rw [PySem.F.excAttr_ValueError.ga.bind (.ref x)]
  refine wpAny_bind (wpAny_pure ?_)
  show wpAny _ _ (call (.builtin "BaseException.__getattribute__") [.ref x, .str "__class__" t]) _ _ _
  refine wpAny_call (codeAny_call_builtin PySem.F.excAttr_ValueError.ga.plain PySem.F.entry_bexc_ga ?_)
  refine @check_slot (model prog w) _ _ ⟨hp, g, d, t + 1, os⟩ "BaseException.__getattribute__" "BaseException" "__getattribute__" (.ref x) [.str "__class__" t] [] _ (by decide +kernel) (by decide +kernel) sub (PySem.F.args_bexc_ga (.ref x) (.str "__class__" t)) ?_
  unfold Builtin.«object.__getattribute__»
  refine wpAny_bind (wpAny_of_eq (a := ((Value.ref x : Value), [Value.str "__class__" t])) (by first | rfl | (simp only [slotArgs]; rfl)) ?_)
  refine wpAny_bind (wpAny_pure (wpAny_bind (L0.at (wpAny_bind (L3.at ?_)))))
  show wpAny _ _ (holding [Value.builtin "object.__class__"] (call (.builtin "getset_descriptor.__get__") [.builtin "object.__class__", .ref x, .ref D]) >>= ret) _ _ _
  refine wpAny_bind (wpAny_holding (wpAny_call (class_get (s := ⟨hp, g, d, t + 1, os⟩) (ox := ox) (od := some od) X I hm ?_)))
  refine wpAny_pure ?_
  show wpAny _ _ (handedOut (.ref D)) _ _ _
  rw [handedOut_of (v := .ref D) rfl]
  first
    | exact wpAny_pure (wpAny_pure h)
    | exact wpAny_pure h
    | exact wpAny_pure (wpAny_bind (wpAny_pure (wpAny_pure h)))
theorem kitx_excD (hga : findIn K (.ref D) "__getattribute__" = some (some (.builtin "BaseException.__getattribute__"))) (hgt : findIn K (.ref D) "__getattr__" = some none) (hsub : subIn K (.ref D) (.type "BaseException") = some true) (hdct : hasDictIn K D = true) (ha : findIn K (.ref D) "__class__" = some (some (.builtin "object.__class__")))
    (hn : specialIn K (.builtin "object.__class__") "__get__" = some (some (.builtin "getset_descriptor.__get__"))) (htk : takesIn K (.builtin "object.__class__") = some true) (hm : mroIn K D (.type "object") = some true) :
    KitX K (.ref x) (.ref D) (fun h => InstAt h x ox D (some od)) where
  ty := fun _ _ _ I => I.type
  it := fun _ _ X _ => by
    obtain ⟨cdD, hcD, _⟩ := any_some hdct
    unfold clsIn at hcD
    split at hcD
    · rename_i c' d' cd' sl' ho
      intro A' Q' E' s' k q
      unfold isType loadHead
      exact wpAny_bind (wpAny_loadPart (k _ _ (X _ _ ho)) (wpAny_pure q))
    · cases hcD
  ne := fun h tp dd its n sl X htp => by
    obtain ⟨cdD, hcD, _⟩ := any_some hdct
    refine Bool.eq_false_iff.mpr fun q => ?_
    have e : D = tp := Value.ref.inj (beq_iff_eq.mp q)
    subst e
    unfold clsIn at hcD
    split at hcD
    · rename_i c' d' cd' sl' ho
      have z := (X _ _ ho).symm.trans htp
      cases z
    · cases hcD
  ca := fun X I k => kin_classX hga hgt hsub hdct ha hn htk hm X I k
end
end PySem.W
namespace Mv
open PySem PySem.Spec PyProof.Rows L2
def rIsX (K : PySem.W.Frag) (D a dx : Addr) : List V → Hp → VK → Prop := fun xs H Q => ∃ (c : V) (cv : Value) (b : Bool), xs = [.ref a, c] ∧ (∀ u, RelV c u → u = cv) ∧ PySem.W.kitOne K (.ref D) cv = some b ∧ (∃ fs, H dx = some (.xd fs)) ∧ Q (.bl b) H
theorem call_isX {X : Cx} {a D dx : Addr} {oe : Obj} {pn : List (Addr × Obj)} (C : ExcC X.K D) (hz : Zc (.ref D) (some dx) oe) (hf : ∃ vs, oe.data = .fields vs) : CallR (X.suite a ((a, oe) :: pn)) (.builtin "isinstance") (rIsX X.K D a dx) := by
  intro pins s σ H xs us Q I r h
  obtain ⟨c, cv, b, rfl, hcv, e, ⟨fs, ed⟩, q⟩ := h
  cases r with
  | cons rx rr =>
    cases rr with
    | cons rt rr =>
      cases rr
      cases rx
      have ec := hcv _ rt
      subst ec
      obtain ⟨hget, _⟩ := I.pin (a, oe) (List.mem_append.mpr (.inl List.mem_cons_self))
      obtain ⟨vs, hv⟩ := hf
      have hx : ObjOk X.prog X.w H s.heap dx (.xd fs) := I.hok dx _ ed
      obtain ⟨mA, hns, hr⟩ := hx
      obtain ⟨od, ho, hl⟩ := lookIn_ns hns
      have J : PySem.W.InstAt s.heap a oe D (some od) := by
        obtain ⟨oc, odd, oda, osl⟩ := oe
        obtain ⟨h1, h2⟩ := hz
        dsimp only at h1 h2 hv
        subst h1 h2 hv
        exact ⟨hget, rfl, rfl, ho⟩
      exact PySem.W.kia_one (PySem.W.kitx_excD C.hg C.hk C.hs C.hd C.ha C.hn C.ht C.hm) I.kIn J e (fun z => nomatch z) fun tk => ⟨.bl b, H, I.kept (t' := tk) fun _ _ z => z, rfl, q⟩
def mXv (a dx : Addr) (m : ME) : ME := fun ρ S R => m ρ S fun v S1 => v = .ref a ∧ (match S1 dx with
  | some (.xd y) => R y S1
  | _ => False)
def mIsX (a dx : Addr) (b : Bool) (m : ME) : ME := fun ρ S R => m ρ S fun v S1 => v = .ref a ∧ (match S1 dx with
  | some (.xd _) => R (.bl b) S1
  | _ => False)
section
variable {X : Cx} {Z : ZT} {a dx : Addr} {oe : Obj} {pn : List (Addr × Obj)} {c : String} {e : Expr} {m : ME} {p pos : Pos}
theorem ee_xv (T : XfC X.K (He.ga X.K (so c))) (hno : PySem.W.findIn X.K (.ref (He.ga X.K (so c))) "value" = some none) (hz : Zc (.ref (He.ga X.K (so c))) (some dx) oe) (hf : ∃ vs, oe.data = .fields vs) (he : EE (X.suite a ((a, oe) :: pn)) Z e m)
    (hb : attributeBase e "value" X.env (eval e X.env) = eval e X.env := by kernel_rfl) : EE (X.suite a ((a, oe) :: pn)) Z (.Attribute e "value" pos) (mXv a dx m) :=
  ee_of (pe_xf T hno hz hf he.pe hb) fun σ H ρ S R hE hS hm => ⟨ρ, S, _, hE, hS, hm, fun v H1 ⟨x, S1, t1, r1, s1, q1⟩ => by
    obtain ⟨ex, q1⟩ := q1
    subst ex
    unfold RM at r1
    split at q1
    · rename_i y ey
      obtain ⟨u, h1, h2⟩ := s1.ob dx _ ey
      exact ⟨r1, rfl, dx, _, u, rfl, h1, by simp [List.lookup], y, S1, t1, h2, s1, q1⟩
    · exact q1.elim⟩
theorem ee_isX {y : Str} {D : Addr} {b : Bool} {p2 : Pos} (C : ExcC X.K (He.ga X.K (so c))) (hz : Zc (.ref (He.ga X.K (so c))) (some dx) oe) (hf : ∃ vs, oe.data = .fields vs) (he : EE (X.suite a ((a, oe) :: pn)) Z e m) (hg : Gl X "isinstance") (hm : X.mg "isinstance" = none) (hgT : Gl X y) (hmT : X.mg y = some (.ref D))
    (hk : PySem.W.kitOne X.K (.ref (He.ga X.K (so c))) (.ref D) = some b) (hv : bootBuiltins "isinstance" = some (.builtin "isinstance") := by decide +kernel) (hdb : (y == ("__debug__" : Str)) = false := by kernel_rfl)
    (hst : starEach [e, .Name y p2] X.env = (false, eval e X.env) :: starEach [.Name y p2] X.env := by kernel_rfl) (hpl : (backTo pos (starEach [.Name y p2] X.env)).any (·.1) = false := by kernel_rfl) (hs1 : starEach [.Name y p2] X.env = (false, eval (.Name y p2) X.env) :: starEach [] X.env := by kernel_rfl) :
    EE (X.suite a ((a, oe) :: pn)) Z (.Call (.Name "isinstance" p) [e, .Name y p2] [] pos) (mIsX a dx b m) :=
  ee_of (pe_callB (X := X.suite a ((a, oe) :: pn)) (call_isX C hz hf) hg hm hv (pa_cons he.pe (pa_cons (pe_glob (X := X.suite a ((a, oe) :: pn)) hgT hmT (v := .ref D) rfl hdb) pa_nil hs1) hst) (by decide) (by decide) hst hpl) fun σ H ρ S R hE hS hm => by
    refine ⟨ρ, S, _, hE, hS, hm, fun v H1 ⟨x, S1, t1, r1, s1, q1⟩ => ?_⟩
    obtain ⟨ex, q1⟩ := q1
    subst ex
    unfold RM at r1
    subst r1
    split at q1
    · rename_i y ey
      obtain ⟨u, h1, h2⟩ := s1.ob dx _ ey
      exact ⟨.ref D, .ref D, b, rfl, fun u r => r, hk, ⟨_, h1⟩, .bl b, S1, t1, by unfold RM; rfl, s1, q1⟩
    · exact q1.elim
theorem ee_isXB {y : Str} {T : String} {b : Bool} {p2 : Pos} (C : ExcC X.K (He.ga X.K (so c))) (hz : Zc (.ref (He.ga X.K (so c))) (some dx) oe) (hf : ∃ vs, oe.data = .fields vs) (he : EE (X.suite a ((a, oe) :: pn)) Z e m) (hg : Gl X "isinstance") (hm : X.mg "isinstance" = none) (hgT : Gl X y) (hmT : X.mg y = none) (hvT : bootBuiltins y = some (.type T))
    (hk : PySem.W.kitOne X.K (.ref (He.ga X.K (so c))) (.type T) = some b) (hv : bootBuiltins "isinstance" = some (.builtin "isinstance") := by decide +kernel) (hn : y ≠ "__name__" := by decide +kernel) (hdb : (y == ("__debug__" : Str)) = false := by kernel_rfl)
    (hst : starEach [e, .Name y p2] X.env = (false, eval e X.env) :: starEach [.Name y p2] X.env := by kernel_rfl) (hpl : (backTo pos (starEach [.Name y p2] X.env)).any (·.1) = false := by kernel_rfl) (hs1 : starEach [.Name y p2] X.env = (false, eval (.Name y p2) X.env) :: starEach [] X.env := by kernel_rfl) :
    EE (X.suite a ((a, oe) :: pn)) Z (.Call (.Name "isinstance" p) [e, .Name y p2] [] pos) (mIsX a dx b m) :=
  ee_of (pe_callB (X := X.suite a ((a, oe) :: pn)) (call_isX C hz hf) hg hm hv (pa_cons he.pe (pa_cons (pe_bltn (X := X.suite a ((a, oe) :: pn)) hgT hmT hvT (v := .ty T) rfl hn hdb) pa_nil hs1) hst) (by decide) (by decide) hst hpl) fun σ H ρ S R hE hS hm => by
    refine ⟨ρ, S, _, hE, hS, hm, fun v H1 ⟨x, S1, t1, r1, s1, q1⟩ => ?_⟩
    obtain ⟨ex, q1⟩ := q1
    subst ex
    unfold RM at r1
    subst r1
    split at q1
    · rename_i y ey
      obtain ⟨u, h1, h2⟩ := s1.ob dx _ ey
      exact ⟨.ty T, .type T, b, rfl, fun u r => r, hk, ⟨_, h1⟩, .bl b, S1, t1, by unfold RM; rfl, s1, q1⟩
    · exact q1.elim
end
end Mv

set_option Elab.async false
set_option linter.all false
set_option maxRecDepth 100000
set_option maxHeartbeats 4000000
/-! The hook with the own errors' texts. -/
namespace Mv
open PySem PySem.Spec PyProof.Rows L2 An
open PySem.W (excInitIn clsIn findIn typeIn keepIn subIn mroIn ks_superIn nsIn codeIn exmOne kitOne hasDictIn specialIn takesIn)
abbrev FnT : Type := Str × Str × Arguments × FuncBody × Scope × Addr × List Str × Value × Value × Addr
def errF (K : PySem.W.Frag) (c : Str) : Addr := He.ma K (He.ga K c) "__init__"
def errFn (K : PySem.W.Frag) (c : Str) : Option FnT := match K.lookup (errF K c) with
  | some ⟨_, _, .func fd, _⟩ => some (fd.name, fd.qualname, fd.params, fd.body, fd.scope, fd.globals, fd.closure.map (·.1), fd.defaults, fd.kwdefaults, fd.builtins)
  | _ => none
def cellB (K : PySem.W.Frag) (D cc : Addr) : Bool := match K.lookup cc with
  | some ⟨_, _, .cell (some v), _⟩ => decide (v = .ref D)
  | _ => false
def strB (main : Str) (v : Option Value) : Bool := match v with
  | some (.str file _) => main == file
  | _ => false
def fileB (K : PySem.W.Frag) (main : Str) (cda : Addr) : Bool := match K.lookup cda with
  | some ⟨_, _, .fields vs, _⟩ => strB main vs[2]?
  | _ => false
/-- the text of RollError.__init__, as the hook sees it -/
def rollT (p1 p2 a1 a2 a3 a4 a5 a6 q1 q2 q3 q4 : Pos) : FnT := (("__init__" : Str), ("RollError.__init__" : Str), PySem.RollX.iA p1 p2, FuncBody.stmts (PySem.RollX.iB a1 a2 a3 a4 a5 a6 q1 q2 q3 q4), PySem.RollX.iS, mainGlobals, [("__class__" : Str)], Value.none, Value.none, builtinsNs)
def fnC (K : PySem.W.Frag) (main : Str) (D f : Addr) : Bool := match K.lookup f with
  | some ⟨_, _, .func fd, _⟩ => (match fd.code, fd.closure with
    | .ref cda, [(_, cc)] => codeIn K (.ref cda) "RollError.__init__" && (cellB K D cc && fileB K main cda)
    | _, _ => false)
  | _ => false
def excCB (K : PySem.W.Frag) (C : Addr) : Bool := decide (findIn K (.ref C) "__class__" = some (some (.builtin "object.__class__"))) && (decide (specialIn K (.builtin "object.__class__") "__get__" = some (some (.builtin "getset_descriptor.__get__"))) && (decide (takesIn K (.builtin "object.__class__") = some true) && decide (mroIn K C (.type "object") = some true)))
def errOk (K : PySem.W.Frag) (main : Str) (c : Str) : Bool :=
  excInitIn K (He.ga K c) PySem.RollX.veB "ValueError.__new__" && ((clsIn K (He.ga K c)).any (fun cd => PySem.HandSPX.refsVE cd.mro && cd.hasDict) && (decide (findIn K (.ref (He.ga K c)) "__setattr__" = some (some (.builtin "object.__setattr__"))) && (decide (findIn K (.ref (He.ga K c)) "value" = some none) &&
  (decide (findIn K (.ref (He.ga K c)) "__init__" = some (some (.ref (errF K c)))) && (decide (typeIn K (.ref (errF K c)) = some (.type "function")) && (keepIn K (.ref (He.ga K c)) && (decide (subIn K (.ref (He.ga K c)) (.type "BaseException") = some true) && (decide (subIn K (.ref (He.ga K c)) (.type "ValueError") = some true) &&
  (decide (typeIn K (.ref (He.ga K c)) = some (.type "type")) && (decide (mroIn K (He.ga K c) (.ref (He.ga K "RollError")) = some true) && (decide (ks_superIn K (He.ga K c) (He.ga K "RollError") "__init__" = some (some (.builtin "ValueError.__init__"))) && ((clsIn K (He.ga K "RollError")).isSome && (decide (nsIn K cStatics "thirdparty.any" = some none) &&
  (fnC K main (He.ga K "RollError") (errF K c) && (xfB K (He.ga K c) && (excCB K (He.ga K c) && decide (exmOne K (.ref (He.ga K c)) (.ref (He.ga K c)) = some true)))))))))))))))))
inductive KQ where
  | own (c y : Str) (b : Bool)
  | blt (c : Str) (T : String) (b : Bool)
def KQ.ok (K : PySem.W.Frag) : KQ → Bool
  | .own c y b => decide (kitOne K (.ref (He.ga K c)) (.ref (He.ga K y)) = some b)
  | .blt c T b => decide (kitOne K (.ref (He.ga K c)) (.type T) = some b)
structure ErrS (K : PySem.W.Frag) (main c : Str) : Prop where
  txt : PySem.RollX.ErrTxt K main (He.ga K c) (He.ga K "RollError") (errF K c)
  xf : XfC K (He.ga K c)
  xc : ExcC K (He.ga K c)
  ex : exmOne K (.ref (He.ga K c)) (.ref (He.ga K c)) = some true
theorem and2 {a b : Bool} (h : (a && b) = true) : a = true ∧ b = true := Bool.and_eq_true_iff.mp h
theorem errS_of {K : PySem.W.Frag} {main c : Str} {p1 p2 a1 a2 a3 a4 a5 a6 q1 q2 q3 q4 : Pos} (h : errOk K main c = true)
    (e : errFn K c = some (rollT p1 p2 a1 a2 a3 a4 a5 a6 q1 q2 q3 q4)) (hev : PySem.RollX.EvOk a1 a2 a3 a4 a5) : ErrS K main c := by
  unfold errOk at h
  obtain ⟨b1, h⟩ := and2 h
  obtain ⟨b2, h⟩ := and2 h
  obtain ⟨b3, h⟩ := and2 h
  obtain ⟨b4, h⟩ := and2 h
  obtain ⟨b5, h⟩ := and2 h
  obtain ⟨b6, h⟩ := and2 h
  obtain ⟨b7, h⟩ := and2 h
  obtain ⟨b8, h⟩ := and2 h
  obtain ⟨b9, h⟩ := and2 h
  obtain ⟨b10, h⟩ := and2 h
  obtain ⟨b11, h⟩ := and2 h
  obtain ⟨b12, h⟩ := and2 h
  obtain ⟨b13, h⟩ := and2 h
  obtain ⟨b14, h⟩ := and2 h
  obtain ⟨b15, h⟩ := and2 h
  obtain ⟨b16, h⟩ := and2 h
  obtain ⟨b17, b18⟩ := and2 h
  have X := xfB_ok b16
  refine ⟨⟨b1, ?_, of_decide_eq_true b3, of_decide_eq_true b4, of_decide_eq_true b5, of_decide_eq_true b6, b7, of_decide_eq_true b8, of_decide_eq_true b9, of_decide_eq_true b10, of_decide_eq_true b11, of_decide_eq_true b12, Option.isSome_iff_exists.mp b13, of_decide_eq_true b14, ?_⟩, X, ?_, of_decide_eq_true b18⟩
  · cases hc : clsIn K (He.ga K c) with
    | none => rw [hc] at b2; cases b2
    | some cd =>
      rw [hc] at b2
      obtain ⟨u, v⟩ := and2 (show (PySem.HandSPX.refsVE cd.mro && cd.hasDict) = true from b2)
      exact ⟨cd, rfl, u, v⟩
  · unfold errFn at e
    unfold fnC at b15
    cases lk : K.lookup (errF K c) with
    | none => rw [lk] at e; cases e
    | some o =>
      obtain ⟨oc, od, dt, osl⟩ := o
      rw [lk] at e b15
      cases dt with
      | func fd =>
        obtain ⟨n1, n2, n3, n4, n5, n6, n7, n8, n9, n10, n11, n12, n13, n14, n15⟩ := fd
        have e2 : (some (n1, n2, n3, n4, n5, n6, n7.map (·.1), n8, n9, n15) : Option FnT) = some (("__init__" : Str), ("RollError.__init__" : Str), PySem.RollX.iA p1 p2, FuncBody.stmts (PySem.RollX.iB a1 a2 a3 a4 a5 a6 q1 q2 q3 q4), PySem.RollX.iS, mainGlobals, [("__class__" : Str)], Value.none, Value.none, builtinsNs) := e
        simp only [Option.some.injEq, Prod.mk.injEq] at e2
        obtain ⟨h1, h2, h3, h4, h5, h6, h7, h8, h9, h10⟩ := e2
        subst h1 h2 h3 h4 h5 h6 h8 h9 h10
        dsimp only at b15
        split at b15
        · rename_i cda y cc
          obtain rfl : y = ("__class__" : Str) := by simpa using h7
          obtain ⟨c1, b15⟩ := and2 b15
          obtain ⟨c2, c3⟩ := and2 b15
          refine ⟨oc, od, n10, n11, n12, cda, cc, n14, osl, p1, p2, a1, a2, a3, a4, a5, a6, q1, q2, q3, q4, rfl, c1, ?_, hev, ?_⟩
          · unfold cellB at c2
            split at c2
            · rename_i cl cld v csl lc
              have ev := of_decide_eq_true c2
              subst ev
              exact ⟨cl, cld, csl, lc⟩
            · cases c2
          · unfold fileB at c3
            split at c3
            · rename_i ccl cdd vs ccs lc
              unfold strB at c3
              split at c3
              · rename_i file tf hv
                exact ⟨ccl, cdd, vs, ccs, file, tf, lc, hv, c3⟩
              · cases c3
            · cases c3
        · cases b15
      | _ => cases e
  · unfold excCB at b17
    obtain ⟨d1, h⟩ := and2 b17
    obtain ⟨d2, h⟩ := and2 h
    obtain ⟨d3, d4⟩ := and2 h
    exact ⟨X.ga, X.gg, X.exC, X.hdC, of_decide_eq_true d1, of_decide_eq_true d2, of_decide_eq_true d3, of_decide_eq_true d4⟩
/-! ### the hook -/
end Mv
namespace Rw
open PySem PySem.Spec PyProof.Rows L2 Mv
abbrev AlZ : Type := (List (Option FnT) × Bool) × AlY
def obE (es : List Str) (qs : List KQ) (main : Str) (K : PySem.W.Frag) : List (Option FnT) × Bool := (es.map (errFn K), (es.all fun c => errOk K main c) && qs.all fun q => q.ok K)
def asZ (g : Addr → Option Obj) : List Addr := cStatics :: (asX g ++ (asX g).flatMap fun a => match g a with
  | some ⟨_, _, .func fd, _⟩ => fd.closure.map (·.2)
  | _ => [])
def obZ (ts : List (Str × List He.Dv)) (fa : List He.Fa) (fn : List He.DefD) (nm : Str) (es : List Str) (qs : List KQ) (main : Str) (g : Addr → Option Obj) (K : PySem.W.Frag) : AlZ := (obE es qs main K, obY ts fa fn nm g K)
def obsZ (ts : List (Str × List He.Dv)) (fa : List He.Fa) (fn : List He.DefD) (nm : Str) (es : List Str) (qs : List KQ) (main : Str) (g : Addr → Option Obj) : AlZ := frcL (asZ g) fun as => obZ ts fa fn nm es qs main g (He.frG g as)
structure SaysZ (ts : List (Str × List He.Dv)) (fa : List He.Fa) (fn : List He.DefD) (nm : Str) (es : List Str) (qs : List KQ) (main : Str) (T : FnT) (K : PySem.W.Frag) (h : Heap) : Prop where
  y : SaysY ts fa fn nm K h
  e : obE es qs main K = (es.map fun _ => some T, true)
theorem saysZ_of {ts : List (Str × List He.Dv)} {fa : List He.Fa} {fn : List He.DefD} {nm : Str} {es : List Str} {qs : List KQ} {main : Str} {T : FnT} {h : Heap} {K : PySem.W.Frag} (hK : K.In h) (e : obZ ts fa fn nm es qs main h.get? K = ((es.map fun _ => some T, true), (true, (true, He.valD fn)))) : SaysZ ts fa fn nm es qs main T K h :=
  ⟨saysY_of hK (congrArg (fun z : AlZ => z.2) e), congrArg (fun z : AlZ => z.1) e⟩
def hookZ (ts : List (Str × List He.Dv)) (fa : List He.Fa) (fn : List He.DefD) (nm : Str) (es : List Str) (qs : List KQ) (main : Str) (T : FnT) : PySem.W.Hook where
  α := AlZ
  obs := fun s => obsZ ts fa fn nm es qs main s.heap.get?
  val := fun _ => ((es.map fun _ => some T, true), (true, (true, He.valD fn)))
  says := fun _ h => ∃ K : PySem.W.Frag, K.In h ∧ SaysZ ts fa fn nm es qs main T K h
  of := fun _ s e => ⟨_, He.frG_in, saysZ_of He.frG_in ((frcL_eq _ (fun as => obZ ts fa fn nm es qs main s.heap.get? (He.frG s.heap.get? as))).symm.trans e)⟩
  keeps := fun _ _ _ ⟨K, hK, c⟩ k => ⟨K, PySem.W.Frag.In.keeps hK k, ⟨c.y.says, let ⟨a, P, t⟩ := c.y.tab; ⟨a, P, t.keeps k⟩⟩, c.e⟩
theorem obsZ_eq {ts : List (Str × List He.Dv)} {fa : List He.Fa} {fn : List He.DefD} {nm : Str} {es : List Str} {qs : List KQ} {main : Str} {T : FnT} {g : Addr → Option Obj} {s : Shared} (h : ∀ a, g a = s.heap.get? a) : obsZ ts fa fn nm es qs main g = (hookZ ts fa fn nm es qs main T).obs s := by
  have e : g = s.heap.get? := funext h
  rw [e] <;> rfl
theorem SaysZ.err {es : List Str} {qs : List KQ} {main : Str} {p1 p2 a1 a2 a3 a4 a5 a6 q1 q2 q3 q4 : Pos} {K : PySem.W.Frag}
    (e : obE es qs main K = (es.map fun _ => some (rollT p1 p2 a1 a2 a3 a4 a5 a6 q1 q2 q3 q4), true)) (hev : PySem.RollX.EvOk a1 a2 a3 a4 a5)
    (i : Nat) {c : Str} (h : es[i]? = some c) : ErrS K main c := by
  have e1 : es.map (errFn K) = es.map fun _ => some _ := congrArg (fun z : List (Option FnT) × Bool => z.1) e
  have e2 : ((es.all fun c => errOk K main c) && qs.all fun q => q.ok K) = true := congrArg (fun z : List (Option FnT) × Bool => z.2) e
  have e3 := List.all_eq_true.mp (and2 e2).1 c (List.mem_of_getElem? h)
  have e4 : (es.map (errFn K))[i]? = (es.map fun _ => some (rollT p1 p2 a1 a2 a3 a4 a5 a6 q1 q2 q3 q4))[i]? := by rw [e1]
  rw [List.getElem?_map, List.getElem?_map, h] at e4
  exact errS_of e3 (Option.some.inj e4) hev
theorem SaysZ.kq {es : List Str} {qs : List KQ} {main : Str} {l : List (Option FnT)} {K : PySem.W.Frag} (e : obE es qs main K = (l, true)) (i : Nat) {q : KQ} (h : qs[i]? = some q) : q.ok K = true := by
  have e2 : ((es.all fun c => errOk K main c) && qs.all fun q => q.ok K) = true := congrArg (fun z : List (Option FnT) × Bool => z.2) e
  exact List.all_eq_true.mp (and2 e2).2 q (List.mem_of_getElem? h)
end Rw

set_option Elab.async false
set_option linter.all false
set_option maxRecDepth 100000
set_option maxHeartbeats 4000000
/-! max of a list of ints; C(..) of a class whose __init__ may raise. -/
namespace Mv
open PySem PySem.Spec PyProof.Rows L2
def rMaxL (K : PySem.W.Frag) : List V → Hp → VK → Prop := fun vs H Q => ∃ (a : Addr) (n : Int) (ns : List Int), vs = [V.ref a] ∧ SqL K H a ((n :: ns).map V.int) ∧ Q (.int (ns.foldl max n)) H
theorem cr_maxL {X : Cx} (hc : X.calm = true) (hu : X.A.units + 65 < cLine) : CallR X (.builtin "max") (rMaxL X.K) := by
  intro pins s σ H vs us Q I r h
  obtain ⟨a, n, ns, rfl, hs, q⟩ := h
  obtain ⟨its, rv, hl, _⟩ := I.list hs
  rw [Vals.ref1 r]
  refine PySem.W.max_list_data (I.ok.hd hc) hl.isList (reads_ints rv.ints) ⟨?_, ?_⟩ ?_ fun i v h' tk bs hv hr hk => ?_
  · intro x hx y hy
    have key : ∀ z ∈ PyData.int n :: ns.map PyData.int, ∃ i, z = .int i := fun z hz => by
      rcases List.mem_cons.mp hz with rfl | hz
      · exact ⟨_, rfl⟩
      · obtain ⟨i, _, rfl⟩ := List.mem_map.mp hz
        exact ⟨_, rfl⟩
    obtain ⟨i, rfl⟩ := key x hx
    obtain ⟨j, rfl⟩ := key y hy
    rfl
  · intro x hx e
    subst e
    rcases List.mem_cons.mp hx with hx | hx
    · cases hx
    · obtain ⟨i, _, e⟩ := List.mem_map.mp hx
      cases e
  · have := depth_ints (n :: ns)
    rw [List.map_cons] at this
    omega
  · rw [PySem.W.maxD_ints] at hr
    cases hr
    exact ⟨.int _, H, I.kept hk, ⟨_, rfl⟩, q⟩
def maxLV : MF := fun ms S R => match ms with
  | [.frz l] => ∃ (n : Int) (ns : List Int), l = (n :: ns).map .int ∧ R (.int (ns.foldl max n)) S
  | [.ref a] => ∃ (n : Int) (ns : List Int), lookL S a = some ((n :: ns).map .int) ∧ R (.int (ns.foldl max n)) S
  | _ => False
theorem cr_maxLV {X : Cx} {Z : ZT} (hc : X.calm = true) (hu : X.A.units + 65 < cLine) : CallR X (.builtin "max") (rMC X.K Z maxLV) := by
  intro pins s σ H xs us Q I rv h
  obtain ⟨ms, S, R, r, hS, hf, hQ⟩ := h
  unfold maxLV at hf
  split at hf
  · rename_i l
    obtain ⟨n, ns, rfl, hf⟩ := hf
    obtain ⟨v, rfl, q1⟩ := rms1 r
    unfold RM at q1
    obtain ⟨a, ys, e, sq, rs⟩ := q1
    have ex := rms_ints' rs
    subst ex
    exact cr_maxL hc hu pins s σ H _ us Q I rv ⟨a, n, ns, by rw [e], sq.sq, mq_int hQ hS hf⟩
  · rename_i a
    obtain ⟨n, ns, el, hf⟩ := hf
    obtain ⟨v, rfl, q1⟩ := rms1 r
    unfold RM at q1
    obtain ⟨ys, sq, rs⟩ := look_sq hS el
    have ex := rms_ints' rs
    subst ex
    exact cr_maxL hc hu pins s σ H _ us Q I rv ⟨a, n, ns, by rw [q1], sq, mq_int hQ hS hf⟩
  · exact hf.elim
end Mv
namespace L2
open PySem PySem.Spec PyProof.Rows
section
variable {X : Cx} {CX : CXT} {k n : Nat} {f C : Addr} {fd : FuncData} {ps ks : List Str} {sp : Sp} {E : St → XK} {x : Str} {p pos : Pos} {e : Expr} {es : List Expr} {kws : List Keyword} {t tk : TA} {g : List Value → List Value → List Value} {gV : List V → List V → List V}
def tMakeKS (C : Addr) (n m : Nat) (sp : Sp) (gV : List V → List V → List V) (E : St → XK) (t tk : TA) : TE := fun σ H Q => t σ H fun vs H1 => tk σ H1 fun zs H2 => vs.length = n ∧ zs.length = m ∧ ∀ x dx, H2 x = none → H2 dx = none → dx ≠ x →
  sp (gV (.ref x :: vs) zs) (upd (upd H2 dx (.own x)) x (.ins C dx [])) (fun v H3 => v = .non ∧ Q (.ref x) H3) (E σ)
theorem run_makeKS {pins : List (Addr × Obj)} {σ : St} {H : Hp} {s : Shared} {Q : VK} {us ws : List Value} {vs zs : List V} (M : Mk X.K C f) (F : FnOk X.prog X.w X.K X.mg X.base CX k f fd ps sp) (hr : Room (k + 1) X.A) (hb : KBn X.K fd ps (n + 1) ks g gV) (hx : PassesAt CX X σ (E σ))
    (I : Inv X pins σ H s) (r : Vals vs us) (rz : Vals zs ws) (l1 : vs.length = n) (l2 : zs.length = ks.length)
    (h : ∀ x dx, H x = none → H dx = none → dx ≠ x → sp (gV (.ref x :: vs) zs) (upd (upd H dx (.own x)) x (.ins C dx [])) (fun v H2 => v = .non ∧ Q (.ref x) H2) (E σ)) :
    wpAny (model X.prog X.w) X.A (call (.ref C) us (ks.zip ws)) (EP X pins σ Q) X.xe s := by
  have hq := h (s.heap.objs.size + 1) s.heap.objs.size (I.hok.fresh (Nat.le_succ _)) (I.hok.fresh (Nat.le_refl _)) (Nat.ne_of_lt (Nat.lt_succ_self _))
  have I2 := Inv.made (C := C) I
  have r1 : Vals (V.ref (s.heap.objs.size + 1) :: vs) (Value.ref (s.heap.objs.size + 1) :: us) := .cons rfl r
  have r2 := hb.rel r1 rz
  have n1 : (Value.ref (s.heap.objs.size + 1) :: us).length = n + 1 := by
    rw [List.length_cons, ← r.length, l1]
  refine wpAny_call (make_map (f := f) I.kIn M.makes M.init (beq_iff_eq.mp M.fn) (codeAny_mono (F.run _ X.stack _ _ ⟨Value.ref (s.heap.objs.size + 1) :: us, ks.zip ws⟩ (g (Value.ref (s.heap.objs.size + 1) :: us) ws) _ _ (E σ) (hr.make C us (ks.zip ws))
    (I2.env0.make C us (ks.zip ws)) (hb.to _ (Value.ref (s.heap.objs.size + 1) :: us) ws I2.kIn n1 (rz.length.symm.trans l2)) r2 hq) fun r s' hq' => ?_))
  cases r with
  | error e => exact hx pins _ _ e s' I2 hq'
  | ok fl =>
    cases fl with
    | ret u =>
      obtain ⟨v, H', I3, rv, ev, q3⟩ := I2.after hq'
      subst ev
      exact ⟨rv, ⟨V.ref (s.heap.objs.size + 1), H', I3, rfl, q3⟩⟩
    | next => exact False.elim hq'
    | brk => exact False.elim hq'
    | cont => exact False.elim hq'
theorem pe_makeK0S (M : Mk X.K C f) (F : FnOk X.prog X.w X.K X.mg X.base CX k f fd ps sp) (hr : Room (k + 1) X.A) (hg : Gl X x) (hm : X.mg x = some (.ref C)) (hb : KBn X.K fd ps 1 ks g gV) (hx : ∀ σ, PassesAt CX X σ (E σ)) (hkw : PK X kws tk)
    (hall : (backToKw pos (keywordEach kws X.env)).all (·.1.isSome) = true := by rfl) (hks : (backToKw pos (keywordEach kws X.env)).filterMap (·.1) = ks := by rfl) (hdb : (x == ("__debug__" : Str)) = false := by decide)
    (hpl : ((backTo pos (starEach [] X.env)).any (·.1) || (backToKw pos (keywordEach kws X.env)).any (·.1.isNone)) = false := by rfl) :
    PE X (.Call (.Name x p) [] kws pos) (tMakeKS C 0 ks.length sp gV E tNil tk) := by
  refine ⟨fun pins s σ H Q I h => ?_⟩
  refine wpAny_Call_Name_kw (ld_glob I hg hm ?_ hdb)
  refine PySem.W.callWith_KW0 (h₀ := X.base) I.ok.mod.kin M.kp hall ?_ hpl
  refine thn (hkw.run pos pins s σ H _ I h) fun ws s2 ⟨zs, H2, I2, rz, l1, l2, q2⟩ => ⟨I2.kIn, ?_⟩
  rw [hks]
  exact run_makeKS (us := []) (vs := []) M F hr hb (hx σ) I2 .nil rz rfl l2 q2
theorem pe_makeKS (M : Mk X.K C f) (F : FnOk X.prog X.w X.K X.mg X.base CX k f fd ps sp) (hr : Room (k + 1) X.A) (hg : Gl X x) (hm : X.mg x = some (.ref C)) (hb : KBn X.K fd ps (n + 1) ks g gV) (hx : ∀ σ, PassesAt CX X σ (E σ)) (ha : PA X (e :: es) t) (hkw : PK X kws tk)
    (hall : (backToKw pos (keywordEach kws X.env)).all (·.1.isSome) = true := by rfl) (hks : (backToKw pos (keywordEach kws X.env)).filterMap (·.1) = ks := by rfl) (hdb : (x == ("__debug__" : Str)) = false := by decide)
    (he : starEach (e :: es) X.env = (false, eval e X.env) :: starEach es X.env := by rfl) (hpl : ((backTo pos (starEach (e :: es) X.env)).any (·.1) || (backToKw pos (keywordEach kws X.env)).any (·.1.isNone)) = false := by rfl) :
    PE X (.Call (.Name x p) (e :: es) kws pos) (tMakeKS C n ks.length sp gV E t tk) := by
  refine ⟨fun pins s σ H Q I h => ?_⟩
  refine wpAny_Call_Name_kw (ld_glob I hg hm ?_ hdb)
  refine PySem.W.callWith_KW (h₀ := X.base) I.ok.mod.kin M.kp hall (thn (ha.run pos pins s σ H _ I h) fun us s1 ⟨vs, H1, I1, r, q⟩ => ?_) hpl he
  refine thn (hkw.run pos pins s1 σ H1 _ I1 q) fun ws s2 ⟨zs, H2, I2, rz, l1, l2, q2⟩ => ⟨I2.kIn, ?_⟩
  rw [hks]
  exact run_makeKS M F hr hb (hx σ) I2 r rz l1 l2 q2
end
end L2
namespace Mv
open PySem PySem.Spec PyProof.Rows L2
structure CalNX (P : Program) (w : World) (K : PySem.W.Frag) (mg : Str → Option Value) (base : Heap) (Z : ZT) (f : Addr) (ps : List Str) (n : Nat) (ks : List Str) (k : Nat) (Vf : MWX) (gM : List MV → List MV → List MV) : Prop where
  ex : ∃ (fd : FuncData) (g : List Value → List Value → List Value) (gV : List V → List V → List V), FnOk P w K mg base (L2.CX P w) k f fd ps (spX K Z ps.length Vf) ∧ KBn K fd ps (n + 1) ks g gV ∧
    ∀ (H : Hp) (as ms : List MV) (us zs : List V), RMs K H as us → RMs K H ms zs → RMs K H (gM as ms) (gV us zs)
  len : ∀ E ms S R, Vf E ms S R → ms.length = ps.length
structure CalKX (P : Program) (w : World) (K : PySem.W.Frag) (mg : Str → Option Value) (base : Heap) (Z : ZT) (f : Addr) (ps ks : List Str) (k : Nat) (Vf : MWX) (gM : MV → List MV → List MV) : Prop where
  ex : ∃ (fd : FuncData) (g : List Value → List Value → List Value) (gV : List V → List V → List V), FnOk P w K mg base (L2.CX P w) k f fd ps (spX K Z ps.length Vf) ∧ KBn K fd ps 1 ks g gV ∧
    ∀ (H : Hp) (p : Addr) (ms : List MV) (zs : List V), RMs K H ms zs → ms.length = ks.length → RMs K H (gM (.ref p) ms) (gV [.ref p] zs)
  len : ∀ E ms S R, Vf E ms S R → ms.length = ps.length
def mMakeNX (c : String) (n m : Nat) (Vf : MWX) (gM : List MV → List MV → List MV) (as ms : MA) : MX → ME := fun E ρ S R => as ρ S fun us S0 => ms ρ S0 fun zs S1 => us.length = n ∧ zs.length = m ∧ ∀ p, S1 p = none → Vf (fun c dx S' => E c dx ρ S') (gM (.ref p :: us) zs) (supd S1 p (.ins c [])) fun v S2 => v = .non ∧ R (.ref p) S2
def mMakeKX (c : String) (n : Nat) (Vf : MWX) (gM : MV → List MV → List MV) (ms : MA) : MX → ME := fun E ρ S R => ms ρ S fun zs S1 => zs.length = n ∧ ∀ p, S1 p = none → Vf (fun c dx S' => E c dx ρ S') (gM (.ref p) zs) (supd S1 p (.ins c [])) fun v S2 => v = .non ∧ R (.ref p) S2
section
variable {X : Cx} {Z : ZT} {m : ME} {e : Expr} {es : List Expr} {kws : List Keyword} {mas mks : MA} {Vf : MWX} {k k' n : Nat} {ps ks : List Str} {gM : List MV → List MV → List MV} {gK : MV → List MV → List MV} {pos kpos : Pos} {nm : Option Str}
theorem eex_makeN {x : Str} {c : String} {f : Addr} {p : Pos} (C : CalNX X.prog X.w X.K X.mg X.base Z f ps n ks k Vf gM) (M : Mk X.K (He.ga X.K (so c)) f) (hr : Room k' X.A) (hk : k + 1 ≤ k') (hg : Gl X x) (hm : X.mg x = some (.ref (He.ga X.K (so c)))) (ha : EA X Z (e :: es) mas) (hkw : EK X Z kws mks)
    (hall : (backToKw pos (keywordEach kws X.env)).all (·.1.isSome) = true := by kernel_rfl) (hks : (backToKw pos (keywordEach kws X.env)).filterMap (·.1) = ks := by kernel_rfl) (hdb : (x == ("__debug__" : Str)) = false := by kernel_rfl)
    (he : starEach (e :: es) X.env = (false, eval e X.env) :: starEach es X.env := by kernel_rfl)
    (hpl : ((backTo pos (starEach (e :: es) X.env)).any (·.1) || (backToKw pos (keywordEach kws X.env)).any (·.1.isNone)) = false := by kernel_rfl) :
    EEX X Z (.Call (.Name x p) (e :: es) kws pos) (mMakeNX c n ks.length Vf gM mas mks) := by
  obtain ⟨fd, g, gV, F, b, hg'⟩ := C.ex
  refine ⟨fun W tk => PE.imp (pe_makeKS M F (hr.mono hk) hg hm b (fun σ => passAt tk σ) ha.pa hkw.pk hall hks hdb he hpl) fun σ H Q ⟨ρ, S, R, E, hE, hS, hm, hQ, hx⟩ => ?_⟩
  refine ⟨ρ, S, _, hE, hS, hm, fun vs H0 ⟨as, S0, t0, r0, s0, q0⟩ => ?_⟩
  refine ⟨ρ, S0, _, hE.mono t0, s0, q0, fun zs H1 ⟨ms, S1, t1, r1, s1, q1⟩ => ⟨by rw [r0.length]; exact q1.1, by rw [r1.length]; exact q1.2.1, fun y dx hy hdx hne => ?_⟩⟩
  obtain ⟨g, s2⟩ := make_st (c := c) s1 hy hdx hne
  have q2 := q1.2.2 y (s1.free hy)
  have r2 := hg' _ (.ref y :: as) ms (.ref y :: vs) zs (RMs.cons (by unfold RM; rfl) ((r0.mono t1).mono g)) (r1.mono g)
  refine ⟨?_, _, _, _, _, r2, s2, q2, fun v H' ⟨m, S', t', r', s', em, q'⟩ => ?_, fun c d H' ⟨c', dx, S', m, e1, e2, g', s', ed, q⟩ => hx _ _ _ ⟨c', dx, ρ, S', m, e1, e2, t0.trans (t1.trans (g.trans g')), hE.mono (t0.trans (t1.trans (g.trans g'))), s', ed, q⟩⟩
  · rw [r2.length]; exact C.len _ _ _ _ q2
  · subst em
    unfold RM at r'
    exact ⟨r', hQ _ _ ⟨.ref y, S', t0.trans (t1.trans (g.trans t')), by unfold RM; rfl, s', q'⟩⟩
theorem eex_makeK {x : Str} {c : String} {f : Addr} {p : Pos} (C : CalKX X.prog X.w X.K X.mg X.base Z f ps ks k Vf gK) (M : Mk X.K (He.ga X.K (so c)) f) (hr : Room k' X.A) (hk : k + 1 ≤ k') (hg : Gl X x) (hm : X.mg x = some (.ref (He.ga X.K (so c)))) (ha : EK X Z kws mas)
    (hall : (backToKw pos (keywordEach kws X.env)).all (·.1.isSome) = true := by kernel_rfl) (hks : (backToKw pos (keywordEach kws X.env)).filterMap (·.1) = ks := by kernel_rfl) (hdb : (x == ("__debug__" : Str)) = false := by kernel_rfl)
    (hpl : ((backTo pos (starEach [] X.env)).any (·.1) || (backToKw pos (keywordEach kws X.env)).any (·.1.isNone)) = false := by kernel_rfl) :
    EEX X Z (.Call (.Name x p) [] kws pos) (mMakeKX c ks.length Vf gK mas) := by
  obtain ⟨fd, g, gV, F, b, hg'⟩ := C.ex
  refine ⟨fun W tk => PE.imp (pe_makeK0S M F (hr.mono hk) hg hm b (fun σ => passAt tk σ) ha.pk hall hks hdb hpl) fun σ H Q ⟨ρ, S, R, E, hE, hS, hm, hQ, hx⟩ => ?_⟩
  refine ⟨ρ, S, _, hE, hS, hm, fun zs H1 ⟨ms, S1, t1, r1, s1, q1⟩ => ⟨rfl, by rw [r1.length]; exact q1.1, fun y dx hy hdx hne => ?_⟩⟩
  obtain ⟨g, s2⟩ := make_st (c := c) s1 hy hdx hne
  have q2 := q1.2 y (s1.free hy)
  have r2 := hg' _ y ms zs (r1.mono g) q1.1
  refine ⟨?_, _, _, _, _, r2, s2, q2, fun v H' ⟨m, S', t', r', s', em, q'⟩ => ?_, fun c d H' ⟨c', dx, S', m, e1, e2, g', s', ed, q⟩ => hx _ _ _ ⟨c', dx, ρ, S', m, e1, e2, t1.trans (g.trans g'), hE.mono (t1.trans (g.trans g')), s', ed, q⟩⟩
  · rw [r2.length]; exact C.len _ _ _ _ q2
  · subst em
    unfold RM at r'
    exact ⟨r', hQ _ _ ⟨.ref y, S', t1.trans (g.trans t'), by unfold RM; rfl, s', q'⟩⟩
end
section
variable {P : Program} {w : World} {K : PySem.W.Frag} {mg : Str → Option Value} {base : Heap} {Z : ZT} {x qual : Str} {params : Arguments} {body : List Stmt} {scope : Scope} {f : Addr} {fd : FuncData}
theorem calNX_mk {N ps ks : List Str} {k : Nat} {mb : MX → MS} {kws : List (Str × V)} (n : Nat) (F : FunD K x qual params body scope [] kws f fd) (Sc : FnScope N ps scope) (sel : List (Bool × Nat)) (ms : List (Str × V)) (dM : List MV) (hk : kws ≠ []) (hms : ∀ q ∈ ms, q ∈ kws) (hd : ∀ H, RMs K H dM (ms.map (·.2)))
    (hch : ∀ (D : Addr) (doc pm : Value) (an : Option Addr) (cdv ct : Value) (us mv ws : List Value), us.length = n + 1 → mv.length = ms.length → ws.length = ks.length →
      KwChain D ((ms.map (·.1)).zip mv) (bindArgs (PySem.W.fnOf x qual params body scope .none (.ref D) doc pm an cdv ct) ⟨us, ks.zip ws⟩) (ps.zip (us ++ selL sel mv ws)))
    (hb : ∀ (cdv : Value) (A : Around) (outer : List PySem.Env) (s : Shared) (H : Hp) (E : XK), Room k (A.deeper (envOfC qual scope s.heap.objs.size f cdv)) → EBX (cxOf (L2.CX P w) P w K mg base N qual scope f cdv A outer s H E) Z body mb) :
    CalNX P w K mg base Z f ps n ks (k + 1) (defV ps.length N.length mb) (fun us zs => us ++ selL sel dM zs) := by
  obtain ⟨mv, hB⟩ := F.kbinds0 (n + 1) ks ms (fun us mv ws => us ++ selL sel mv ws) hk hms (fun a b c => a.append (vals_sel b c sel)) hch
  exact ⟨⟨fd, _, _, fn_spX F Sc hb, hB, fun H as zs us vs r1 r2 => r1.append (rms_sel (hd H) r2 sel)⟩, fun E ms S R h => h.1⟩
end
end Mv

set_option Elab.async false
set_option linter.all false
set_option maxRecDepth 100000
set_option maxHeartbeats 4000000
/-! C(k = v, ..), keyword-only, whose __init__ may raise. -/
namespace Mv
open PySem PySem.Spec PyProof.Rows L2
section
variable {P : Program} {w : World} {K : PySem.W.Frag} {mg : Str → Option Value} {base : Heap} {Z : ZT} {x qual : Str} {params : Arguments} {body : List Stmt} {scope : Scope} {f : Addr} {fd : FuncData}
theorem calKX_mk {N ps ks : List Str} {k : Nat} {mb : MX → MS} {kws : List (Str × V)} (F : FunD K x qual params body scope [] kws f fd) (Sc : FnScope N ps scope) (sel : List (Bool × Nat)) (ms : List (Str × V)) (dM : List MV) (hk : kws ≠ []) (hms : ∀ q ∈ ms, q ∈ kws) (hd : ∀ H, RMs K H dM (ms.map (·.2)))
    (hch : ∀ (D : Addr) (doc pm : Value) (an : Option Addr) (cdv ct : Value) (us mv ws : List Value), us.length = 1 → mv.length = ms.length → ws.length = ks.length →
      KwChain D ((ms.map (·.1)).zip mv) (bindArgs (PySem.W.fnOf x qual params body scope .none (.ref D) doc pm an cdv ct) ⟨us, ks.zip ws⟩) (ps.zip (us ++ selL sel mv ws)))
    (hb : ∀ (cdv : Value) (A : Around) (outer : List PySem.Env) (s : Shared) (H : Hp) (E : XK), Room k (A.deeper (envOfC qual scope s.heap.objs.size f cdv)) → EBX (cxOf (L2.CX P w) P w K mg base N qual scope f cdv A outer s H E) Z body mb) :
    CalKX P w K mg base Z f ps ks (k + 1) (defV ps.length N.length mb) (fun p zs => p :: selL sel dM zs) := by
  obtain ⟨mv, hB⟩ := F.kbinds0 1 ks ms (fun us mv ws => us ++ selL sel mv ws) hk hms (fun a b c => a.append (vals_sel b c sel)) hch
  exact ⟨⟨fd, _, _, fn_spX F Sc hb, hB, fun H p zs vs r hl => RMs.cons (by unfold RM; rfl) (rms_sel (hd H) r sel)⟩, fun E ms S R h => h.1⟩
end
end Mv
namespace L2
open PySem PySem.Spec PyProof.Rows
section
variable {X : Cx} {CX : CXT} {k : Nat} {f C : Addr} {fd : FuncData} {ps : List Str} {sp : Sp} {E : St → XK} {m : Str} {pos apos : Pos} {o : Expr} {ta : TE}
/-- o.m() within a try -/
def tMeth0S (C : Addr) (m : Str) (sp : Sp) (E : St → XK) (ta : TE) : TE := fun σ H Q => ta σ H fun x H1 => ∃ a dx fs, x = .ref a ∧ H1 a = some (.ins C dx fs) ∧ fs.lookup m = none ∧ sp [x] H1 Q (E σ)
theorem pe_meth0S {pl : Sem Bool} (he : PE X o ta) (c : Cls X.K C) (hm : Meth X.K C m f) (F : FnOk X.prog X.w X.K X.mg X.base CX k f fd ps sp) (hr : Room k X.A) (hb : Binds X.K fd ps []) (hx : ∀ σ, PassesAt CX X σ (E σ))
    (ht : eval (.Call (.Attribute o m apos) [] [] pos) X.env = (do
      let ov ← eval o X.env
      standAt apos.atName
      let (f, first) ← holding [ov] (getMethod ov m pl)
      callWith pos f first (backTo pos (starEach [] X.env)) (backToKw pos (keywordEach [] X.env))) := by rfl) :
    PE X (.Call (.Attribute o m apos) [] [] pos) (tMeth0S C m sp E ta) := by
  refine ⟨fun pins s σ H Q I h => ?_⟩
  refine PySem.W.methodCall_KW (pl := pl) (thn (he.run pins s σ H _ I h) fun u s1 ⟨x, H1, I1, rx, a, dx, fs, ex, ea, l, q⟩ => ?_) ht
  subst ex
  obtain rfl : u = Value.ref a := rx
  refine getmeth_ok I1 ea c hm l ?_
  exact PySem.W.callWith_K0 (first := [.ref a]) I1.kIn hm.kp (run_fnS (us := [.ref a]) (vs := [.ref a]) F hr hb (hx σ) I1 (.cons rfl .nil) q)
end
end L2
namespace Mv
open PySem PySem.Spec PyProof.Rows L2
def mMethX (c m : String) (V : MWX) (mo : ME) : MX → ME := fun E ρ S R => mo ρ S fun x S1 => match x with
  | .ref a => (match S1 a with
    | some (.ins c' fs) => c' = c ∧ fs.lookup m = none ∧ V (fun c dx S' => E c dx ρ S') [.ref a] S1 R
    | _ => False)
  | _ => False
section
variable {X : Cx} {Z : ZT} {m : ME} {o : Expr} {Vf : MWX} {k k' : Nat} {ps : List Str} {pos : Pos}
theorem eex_meth0 {c mt : String} {f : Addr} {apos : Pos} (C : CalX X.prog X.w X.K X.mg X.base Z f ps k Vf) (hr : Room k' X.A) (hk : k ≤ k') (cl : Cls X.K (He.ga X.K (so c))) (hmt : Meth X.K (He.ga X.K (so c)) (so mt) f) (ho : EE X Z o m)
    (ht : eval (.Call (.Attribute o (Str.ofString mt) apos) [] [] pos) X.env = (do
      let ov ← eval o X.env
      standAt apos.atName
      let (f, first) ← holding [ov] (getMethod ov (Str.ofString mt) (do return (← importBound o X.env).getD true))
      callWith pos f first (backTo pos (starEach [] X.env)) (backToKw pos (keywordEach [] X.env))) := by kernel_rfl) : EEX X Z (.Call (.Attribute o (Str.ofString mt) apos) [] [] pos) (mMethX c mt Vf m) := by
  obtain ⟨fd, F, kp, b⟩ := C.ex
  refine ⟨fun W tk => PE.imp (pe_meth0S ho.pe cl hmt F (hr.mono hk) b (fun σ => passAt tk σ) ht) fun σ H Q ⟨ρ, S, R, E, hE, hS, hm, hQ, hx⟩ => ?_⟩
  refine ⟨ρ, S, _, hE, hS, hm, fun v H1 ⟨x, S1, t1, r1, s1, q1⟩ => ?_⟩
  cases x with
  | ref a =>
    unfold RM at r1
    dsimp only at q1
    split at q1
    · rename_i c' fs e1
      obtain ⟨ec, el, q1⟩ := q1
      subst ec
      obtain ⟨dx, xs, h1, h2, h3⟩ := s1.ins e1
      refine ⟨a, dx, xs, r1, h1, lookup_none h2 el, ?_⟩
      rw [r1]
      exact spX_of C.len hE t1 (RMs.cons (by unfold RM; rfl) RMs.nil) s1 q1 hQ hx
    · exact q1.elim
  | _ => exact False.elim q1
end
end Mv
namespace Mv
open PySem PySem.Spec PyProof.Rows L2
/-! a, b = x, y with plain local names -/
def msPar (i j : Nat) (mas : MA) : MS := fun D ρ S => mas ρ S fun vs S1 => match vs with
  | [v, w] => D.nx ((ρ.set i (some v)).set j (some w)) S1
  | _ => False
section
variable {X : Cx} {Z : ZT} {mas : MA} {pos : Pos}
theorem es_par {i j : Nat} {x y : Str} {a b : Expr} {px py pt : Pos} {kt k2 pt2} (hc : X.calm = true) (hN : X.N.Nodup) (hi : X.N[i]? = some x) (hj : X.N[j]? = some y) (hij : i ≠ j)
    (hx : X.env.scope.names.lookup x = some .local) (hy : X.env.scope.names.lookup y = some .local) (ha : EA X Z [a, b] mas)
    (hw : swappedStores [.Tuple [.Name x px, .Name y py] kt pt] (.Tuple [a, b] k2 pt2) X.env = pure (some [x, y]) := by kernel_rfl)
    (hs : swapsWithSole [.Tuple [.Name x px, .Name y py] kt pt] (.Tuple [a, b] k2 pt2) pos.line X.env = pure false := by kernel_rfl) :
    ES X Z (.Assign [.Tuple [.Name x px, .Name y py] kt pt] (.Tuple [a, b] k2 pt2) pos) (msPar i j mas) :=
  ⟨PS.imp (ps_par hc hN hi hj hij hx hy ha.pa hw hs) fun D σ H ⟨ρ, S, D', hE, hS, hm, h1, h2, h3, h4⟩ =>
    ⟨ρ, S, _, hE, hS, hm, fun vs H1 ⟨ms, S1, t1, r1, s1, q1⟩ => by
      match ms, q1 with
      | [v, w], q1 =>
        unfold RMs at r1
        obtain ⟨v', vs', rfl, rv, r1⟩ := r1
        unfold RMs at r1
        obtain ⟨w', ws', rfl, rw', r1⟩ := r1
        unfold RMs at r1
        subst r1
        exact ⟨v', w', rfl, h1 _ _ ⟨_, S1, t1, ((hE.mono t1).set rv).set rw', s1, q1⟩⟩⟩⟩
end
end Mv
namespace Mv
open PySem PySem.Spec PyProof.Rows L2
/-! a tuple times an int -/
def mulVT : M2 := fun x y S R => match x, y with
  | .int i, .int j => CMul i j ∧ R (.int (i * j)) S
  | .tup l, .int k => l ≠ [] ∧ 2 ≤ k ∧ k ≤ 1000 ∧ l.length ≤ 1000 ∧ R (.tup (List.replicate k.toNat l).flatten) S
  | _, _ => False
theorem RMs.rep {K : PySem.W.Frag} {H : Hp} {l : List MV} {xs : List V} (r : RMs K H l xs) : ∀ n : Nat, RMs K H (List.replicate n l).flatten (List.replicate n xs).flatten
  | 0 => RMs.nil
  | n + 1 => by
    rw [List.replicate_succ, List.replicate_succ, List.flatten_cons, List.flatten_cons]
    exact RMs.append r (RMs.rep r n)
section
variable {X : Cx} {Z : ZT}
theorem ro_mulT : OpR X (binaryOp .Mult) (rM X.K Z mulVT) := by
  intro pins s σ H x y v u Q I rx ry h
  obtain ⟨mx, my, S, R, r1, r2, hS, hf, hQ⟩ := h
  unfold mulVT at hf
  split at hf
  · unfold RM at r1 r2
    exact op_mul pins s σ H x y v u Q I rx ry ⟨_, _, r1, r2, hf.1, mq_int hQ hS hf.2⟩
  · rename_i l k
    unfold RM at r1 r2
    obtain ⟨a, xs, e1, s1, q1⟩ := r1
    obtain ⟨h1, h2, h3, h4, h5⟩ := hf
    refine op_repT pins s σ H x y v u Q I rx ry ⟨a, k, xs, e1, r2, s1, fun e => ?_, h2, h3, by rw [q1.length]; exact h4, fun p hp => mq_tup hQ hS (RMs.rep q1 _) hp h5⟩
    refine h1 ?_
    have := q1.length
    rw [e] at this
    exact List.eq_nil_of_length_eq_zero this.symm
  · exact hf.elim
end
end Mv

set_option Elab.async false
set_option linter.all false
set_option maxRecDepth 100000
set_option maxHeartbeats 4000000
/-! xs[:b:-1] of a list by value: the items behind place b, the last one first. -/
namespace HT
open PySem PySem.Spec PyProof.Rows
theorem bounds_b (n : Nat) (b : Int) (hb : 0 ≤ b) : sliceBounds none (some b) (some (-1)) n = ((n : Int) - 1, max (-1) (min b ((n : Int) - 1)), -1) := by
  have h1 : ¬ ((-1 : Int) > 0) := by decide
  have h2 : ¬ (b < 0) := by omega
  simp only [sliceBounds, Option.getD_some, h1, h2, if_false]
theorem range_b (n : Nat) (b : Int) (hb : 0 ≤ b) : sliceRange ((n : Int) - 1) (max (-1) (min b ((n : Int) - 1))) (-1) = (List.range (n - (b.toNat + 1))).map fun k => n - 1 - k := by
  unfold sliceRange
  have h1 : ¬ ((-1 : Int) > 0) := by decide
  have e1 : (- -1 : Int) = 1 := by decide
  have key : (if (-1 : Int) > 0 then (if (n : Int) - 1 < max (-1) (min b ((n : Int) - 1)) then (max (-1) (min b ((n : Int) - 1)) - ((n : Int) - 1) + -1 - 1) / -1 else 0) else (if (n : Int) - 1 > max (-1) (min b ((n : Int) - 1)) then ((n : Int) - 1 - max (-1) (min b ((n : Int) - 1)) - -1 - 1) / - -1 else 0)).toNat = n - (b.toNat + 1) := by
    rw [if_neg h1, e1, Int.ediv_one]
    split <;> omega
  show (List.range _).map _ = _
  rw [key]
  refine List.map_congr_left fun k hk => ?_
  have := List.mem_range.mp hk
  omega
theorem pick_b (xs : Array Value) (b : Int) (hb : 0 ≤ b) : slicePick xs none (some b) (some (-1)) = (xs.toList.drop (b.toNat + 1)).reverse.toArray := by
  unfold slicePick
  rw [bounds_b _ b hb]
  show ((sliceRange _ _ (-1)).filterMap (xs[·]?)).toArray = _
  rw [range_b _ b hb, List.filterMap_map]
  have hl : (xs.toList.drop (b.toNat + 1)).length = xs.size - (b.toNat + 1) := by rw [List.length_drop, Array.length_toList]
  have h := filterMap_getR (xs.size - (b.toNat + 1)) (xs.toList.drop (b.toNat + 1)) (by omega)
  rw [List.take_of_length_le (by omega)] at h
  rw [← h]
  congr 1
  have key : ∀ l : List Nat, (∀ k ∈ l, k < xs.size - (b.toNat + 1)) → l.filterMap ((xs[·]?) ∘ fun k => xs.size - 1 - k) = l.filterMap fun m => (xs.toList.drop (b.toNat + 1))[xs.size - (b.toNat + 1) - 1 - m]? := fun l => by
    induction l with
    | nil => intro _; rfl
    | cons k l ih =>
      intro hk
      have h1 := hk k List.mem_cons_self
      rw [List.filterMap_cons, List.filterMap_cons, ih fun j hj => hk j (List.mem_cons_of_mem _ hj)]
      have e : ((xs[·]?) ∘ fun k => xs.size - 1 - k) k = (xs.toList.drop (b.toNat + 1))[xs.size - (b.toNat + 1) - 1 - k]? := by
        show xs[xs.size - 1 - k]? = _
        rw [List.getElem?_drop, ← Array.getElem?_toList]
        congr 1
        omega
      rw [e]
  exact key _ fun k hk => List.mem_range.mp hk
end HT
namespace Mv
open PySem PySem.Spec PyProof.Rows L2
section
variable {X : Cx} {Z : ZT} {e h : Expr} {m mh : ME} {pos : Pos}
def tRevB (K : PySem.W.Frag) (te : TE) (th : TO) : TE := fun σ H Q => te σ H fun x H1 => th σ H1 fun o H2 => ∃ a xs b, x = .ref a ∧ o = some b ∧ 0 ≤ b ∧ SqL K H2 a xs ∧ ∀ p, H2 p = none → Q (.ref p) (upd H2 p (.lst (xs.drop (b.toNat + 1)).reverse))
theorem pe_revB {te : TE} {th : TO} {k : Nat} {p1 p2 p3 : Pos} (he : PE X e te) (hh : PO X (some h) th) : PE X (.Subscript e (.Slice none (some h) (some (.UnaryOp .USub (.Constant (.int 1) k p1) p2)) p3) pos) (tRevB X.K te th) := by
  refine ⟨fun pins s σ H Q I hq => ?_⟩
  refine Subscript_ (thn (he.run pins s σ H _ I hq) fun v s1 ⟨x, H1, I1, r1, q1⟩ => ?_)
  have hst : PO X (some (.UnaryOp .USub (.Constant (.int 1) k p1) p2)) (tPart (tUn (rU fun i => .int (-i)) (tC (.int 1)))) := po_some (pe_un un_neg pe_int)
  refine wpAny_Slice (thn (po_none.run pins s1 σ H1 (fun o H2 => o = none ∧ H2 = H1) I1 ⟨rfl, rfl⟩) fun vl s2 ⟨l, H2, I2, pl, el, e2⟩ => ?_)
  subst el e2
  refine thn (hh.run pins s2 σ H2 (fun o H3 => ∃ a xs b, x = .ref a ∧ o = some b ∧ 0 ≤ b ∧ SqL X.K H3 a xs ∧ ∀ p, H3 p = none → Q (.ref p) (upd H3 p (.lst (xs.drop (b.toNat + 1)).reverse))) I2 q1) fun vu s3 ⟨u, H3, I3, pu, a, xs, b, ex, eu, hb, hx, q⟩ => ?_
  subst eu ex
  cases r1
  refine thn (hst.run pins s3 σ H3 (fun o H4 => o = some (-1) ∧ H4 = H3) I3 ⟨1, rfl, -1, rfl, rfl, rfl⟩) fun vs s4 ⟨o, H4, I4, ps, eo, e4⟩ => ?_
  subst eo e4
  have I5 : Inv X pins σ H4 { s4 with heap := s4.heap.push { cls := .type "slice", data := .fields #[vl, vu, vs] } } := I4.kept (t' := s4.toks) fun b ob q => Heap.get?_push_of_some _ q
  show wpAny (model X.prog X.w) X.A (subscriptTail e (.Slice none (some h) (some (.UnaryOp .USub (.Constant (.int 1) k p1) p2)) p3) (.ref a) (.ref s4.heap.objs.size)) (EP X pins σ Q) X.xe { s4 with heap := s4.heap.push { cls := .type "slice", data := .fields #[vl, vu, vs] } }
  obtain ⟨its, r, ht, hz⟩ := I5.list hx
  have hlen := r.length
  refine tail_any (ops := [.ref a, .ref s4.heap.objs.size]) ht.isList.typeIs (PySem.slot_list_getitem.lookup) ?_ (by with_unfolding_all rfl)
  refine wpAny_getItem_list_slice ht.isList (Heap.IsSliceOf.new _ vl vu vs) pl pu ps (by decide) ?_ (by rw [List.size_toArray]; omega)
  rw [HT.pick_b _ b hb]
  refine ⟨.ref _, _, I5.laid (t' := s4.toks) (o := .lst (xs.drop (b.toNat + 1)).reverse) (fun b ob q => Heap.get?_push_of_some _ q) (Nat.le_refl _) ?_, rfl, q _ (I5.hok.fresh (Nat.le_refl _))⟩
  exact ⟨by rw [List.length_reverse, List.length_drop]; omega, _, 0, (r.drop _).reverse, Heap.get?_push_size _ rfl⟩
/-- what [:b:-1] makes of a list by value -/
def revB (x : MV) (o : Option Int) (S : Sto) (R : MK) : Prop := match x, o with
  | .frz l, some b => 0 ≤ b ∧ newL (l.drop (b.toNat + 1)).reverse S R
  | _, _ => False
def mRevB (ma : ME) (hi : mPart) : ME := fun ρ S R => ma ρ S fun x S1 => hi ρ S1 fun o S2 => revB x o S2 R
theorem ee_revB {mp : mPart} {k : Nat} {p1 p2 p3 : Pos} (he : EE X Z e m) (hh : EO X Z (some h) mp) : EE X Z (.Subscript e (.Slice none (some h) (some (.UnaryOp .USub (.Constant (.int 1) k p1) p2)) p3) pos) (mRevB m mp) := by
  obtain ⟨th, h1, h2⟩ := hh.po
  refine ee_of (pe_revB he.pe h1) fun σ H ρ S R hE hS hm => ?_
  refine ⟨ρ, S, _, hE, hS, hm, fun v H1 ⟨x, S1, t1, r1, s1, q1⟩ => ?_⟩
  refine h2 σ H1 ρ S1 _ _ (hE.mono t1) s1 q1 fun o H2 ⟨S2, t2, s2, q2⟩ => ?_
  have r3 := r1.mono t2
  have hQ : ∀ v H', MQ X.K Z S2 H2 R v H' → MQ X.K Z S H R v H' := fun v H' q => q.base (t1.trans t2)
  cases x with
  | frz l =>
    cases o with
    | none => exact q2.elim
    | some b =>
      unfold RM at r3
      obtain ⟨a, xs, e1, sq, rs⟩ := r3
      exact ⟨a, xs, b, e1, rfl, q2.1, sq.sq, fun p hp => mq_lst hQ s2 (rs.drop _).reverse hp q2.2⟩
  | _ => exact q2.elim
/-- the same, as a list by value -/
def revBV (x : MV) (o : Option Int) (S : Sto) (R : MK) : Prop := match x, o with
  | .frz l, some b => 0 ≤ b ∧ R (.frz (l.drop (b.toNat + 1)).reverse) S
  | _, _ => False
def mRevBV (ma : ME) (hi : mPart) : ME := fun ρ S R => ma ρ S fun x S1 => hi ρ S1 fun o S2 => revBV x o S2 R
theorem ee_revBV {mp : mPart} {k : Nat} {p1 p2 p3 : Pos} (he : EE X Z e m) (hh : EO X Z (some h) mp) : EE X Z (.Subscript e (.Slice none (some h) (some (.UnaryOp .USub (.Constant (.int 1) k p1) p2)) p3) pos) (mRevBV m mp) :=
  ee_val (ee_revB (ee_up he) (eo_up hh)) fun ρ S R hm => ⟨_, hm, fun x S1 q => ⟨_, q, fun o S2 q => by
    cases x with
    | frz l =>
      cases o with
      | none => exact q.elim
      | some b => exact ⟨q.1, fz_new (R := R) q.2⟩
    | _ => exact q.elim⟩⟩
end
end Mv

set_option Elab.async false
set_option linter.all false
set_option maxRecDepth 100000
set_option maxHeartbeats 4000000
/-! all(reaches(plan, want) for want in xs): the element is a call of a def that does not raise. The outer frame's invariant is kept while the generator runs. -/
namespace Ge
open PySem PySem.Spec PyProof.Rows L2 Mv GenW
/-- one answer behind another, till one is False -/
def aAll (K : PySem.W.Frag) (kd : Bool) (d : Addr) (full : List V) (sp : Sp) (y : V) : List V → Hp → VK → Prop
  | [], H, Q => Q (.bl true) H
  | x :: r, H, Q => sp [y, x] H (fun v H' => ∃ b : Bool, v = .bl b ∧ SqK K H' kd d full ∧ (if b = true then aAll K kd d full sp y r H' Q else Q (.bl false) H')) E0
/-- the generator's names -/
structure GenN (env : PySem.Env) (scope : Scope) : Prop where
  S : GxR.GenS env scope "want"
  kp : scope.names.lookup ("plan" : Str) = some .free
  pt : (("plan" : Str), NameKind.free) ∈ scope.names
  kf : scope.names.lookup ("reaches" : Str) = some .globalImplicit
section
variable {X : Cx} {pins : List (Addr × Obj)} {σ : L2.St} {H H' : Hp} {s s' : Shared} {C I a d : Addr} {g i : Nat} {kd : Bool}
theorem inv_same (v : Inv X pins σ H s) (h1 : s'.heap = s.heap) (h2 : s'.os = s.os) (h3 : AllBare s'.gens) : Inv X pins σ H s' :=
  v.call' (ch := []) h2 (by rw [h1]; exact Un.kept fun _ _ e => e) (by rw [h1]; exact v.hok) h3 fun b z => by simp at z
/-- while the generator stands: its frame, its iterator, itself -/
structure GP (X : Cx) (pins : List (Addr × Obj)) (σ : L2.St) (C I a : Addr) (g : Nat) (kd : Bool) (d : Addr) (i : Nat) (H : Hp) (s : Shared) : Prop where
  inv : Inv X pins σ H s
  ns : ∃ m, s.heap.Ns C m
  it : IterAt kd s.heap I d i
  gen : s.heap.IsGen a g
  fC : FpOk X pins H C
  fI : FpOk X pins H I
  fa : FpOk X pins H a
  cI : C ≠ I
  ca : C ≠ a
  Ia : I ≠ a
  dI : d ≠ I
  dC : d ≠ C
theorem GP.same (p : GP X pins σ C I a g kd d i H s) (h1 : s'.heap = s.heap) (h2 : s'.os = s.os) (h3 : AllBare s'.gens) : GP X pins σ C I a g kd d i H s' :=
  ⟨inv_same p.inv h1 h2 h3, by rw [h1]; exact p.ns, by rw [h1]; exact p.it, by rw [h1]; exact p.gen, p.fC, p.fI, p.fa, p.cI, p.ca, p.Ia, p.dI, p.dC⟩
theorem fp_out {b : Addr} (v : Inv X pins σ H s) (f : FpOk X pins H b) : b ∉ frs X.stack := fun z => by
  rcases List.mem_cons.mp (v.stkSub b z) with e | e
  · exact f.2.1 e
  · exact f.2.2.1 e
/-- behind a call out of the generator's frame -/
theorem GP.called {cenv : PySem.Env} {Q : VK} {u : Value} (p : GP X pins σ C I a g kd d i H s) (hf : cenv.frame = some C) (h : CE (cenv :: X.stack) X.prog X.w H s Q u s') : ∃ v H', GP X pins σ C I a g kd d i H' s' ∧ RelV v u ∧ Q v H' := by
  obtain ⟨v, H', os, bare, un, hok, r, q⟩ := h
  have ef : frs (cenv :: X.stack) = C :: frs X.stack := by unfold frs; rw [List.filterMap_cons, hf]
  rw [ef] at un
  have sub : ∀ b, b ∉ frs X.stack → b ≠ C → b ∉ C :: frs X.stack := fun b h1 h2 z => (List.mem_cons.mp z).elim h2 h1
  have inv' : Inv X pins σ H' s' := by
    refine p.inv.call' (ch := [C]) os ⟨fun b o e n h1 h2 => ?_, fun b o e n h1 h2 => ?_, fun b o e n h2 => un.free b o e n (by simp), fun b o e h2 => un.there b o e (by simp), un.tups, un.frzs, un.tbls⟩ hok bare fun b hb => ?_
    · exact un.keep b o e n (sub b h1 fun z => h2 (by rw [z]; exact List.mem_singleton.mpr rfl)) (by simp)
    · exact un.slot b o e n (List.mem_cons_of_mem _ h1) (by simp)
    · rw [List.mem_singleton.mp hb]
      exact ⟨p.fC.2.2.2.1, p.fC.2.1, p.fC.2.2.2.2.1, p.fC.2.2.2.2.2⟩
  have keep : ∀ b o, FpOk X pins H b → b ≠ C → s.heap.get? b = some o → s'.heap.get? b = some o := fun b o f hb e => un.keep b o e f.1 (sub b (fp_out p.inv f) hb) (by simp)
  have fp : ∀ b o, FpOk X pins H b → s.heap.get? b = some o → FpOk X pins H' b := fun b o f e => ⟨un.free b o e f.1 (by simp), f.2⟩
  obtain ⟨m, oC, es, ep, hoC, hdC⟩ := p.ns
  obtain ⟨sl, hC'⟩ := un.slot C oC hoC p.fC.1 List.mem_cons_self (by simp)
  obtain ⟨oI, hoI, _⟩ := p.it.obj
  obtain ⟨oa, nm, qn, hoa, ra⟩ := p.gen
  exact ⟨v, H', ⟨inv', ⟨m, { oC with slots := sl }, es, ep, hC', hdC⟩, p.it.keep fun o e => keep I o p.fI (Ne.symm p.cI) e, ⟨oa, nm, qn, keep a oa p.fa (Ne.symm p.ca) hoa, ra⟩, fp C oC p.fC hoC, fp I oI p.fI hoI, fp a oa p.fa hoa, p.cI, p.ca, p.Ia, p.dI, p.dC⟩, r, q⟩
end
section
variable {P : Program} {w : World} {A : Around} {K : PySem.W.Frag} {mg : Str → Option Value} {base : Heap} {f : Addr} {fd : FuncData} {s : Shared} {H : Hp} {outer : List PySem.Env} {k : Nat} {sp : Sp} {ps : List Str}
theorem elt_call {env : PySem.Env} {m : Str → Option Value} {p1 p2 p3 p4 : Pos} {E : Value → Shared → Prop} {Q : VK} {vy vx : V} {uy ux : Value} {cy : Addr} (F : FnOk P w K mg base CX0 k f fd ps sp) (hb : Binds K fd ps []) (hl : ps.length = 2) (e0 : Env0 P w K mg base A outer s H) (hr : Room k A) (hm : mg "reaches" = some (.ref f)) (hkp : PySem.W.keepIn K (.ref f) = true)
    (hg : env.globals = mainGlobals) (hk : env.scope.kind = .function) (kf : env.kindOf "reaches" = some .globalImplicit) (kx : env.kindOf "want" = some .local) (ky : env.kindOf "plan" = some .free)
    (hn : s.heap.Ns env.locals m) (hx : m "want" = some ux) (hc : env.cells.lookup ("plan" : Str) = some cy) (hy : s.heap.IsCell cy (some uy)) (ry : RelV vy uy) (rx : RelV vx ux) (h : sp [vy, vx] H Q E0) :
    wpAny (model P w) A (eval (.Call (.Name "reaches" p1) [.Name "plan" p2, .Name "want" p3] [] p4) env) (fun u s3 => CE outer P w H s Q u s3) E s := by
  have kin : K.In s.heap := e0.mod.kin.keeps fun b o e => (e0.bs b o e).1
  refine wpAny_Call_Name_kw (Calls.Name_function_global hk kf (Calls.loadGlobal_global (by rw [hg]; exact e0.mod.glob.keeps fun b o e => (e0.bs b o e).1) hm ?_))
  refine PySem.W.callWith_K (h₀ := base) (e := .Name "plan" p2) (rest := [.Name "want" p3]) e0.mod.kin hkp ?_ rfl rfl
  show wpAny _ _ (spliced ((false, eval (.Name "plan" p2) env) :: (false, eval (.Name "want" p3) env) :: [])) _ _ s
  refine Calls.spliced_cons (wpAny_Name (wpAny_loadName_free hk ky hc hy ?_))
  refine Calls.spliced_cons (wpAny_Name (wpAny_loadName_local hk kx hn hx ?_))
  refine Calls.spliced_nil ⟨kin, wpAny_call (codeAny_mono (F.run A outer s H ⟨[uy, ux], []⟩ [uy, ux] [vy, vx] Q E0 hr e0 (hb s [uy, ux] kin hl.symm) (.cons ry (.cons rx .nil)) h) fun r s' hq => ?_)⟩
  cases r with
  | error e => exact hq.elim
  | ok fl =>
    cases fl with
    | ret u => exact hq
    | next => exact hq.elim
    | brk => exact hq.elim
    | cont => exact hq.elim
end
section
variable {X : Cx} {pins : List (Addr × Obj)} {σ : L2.St} {H : Hp} {s : Shared} {C I a d f : Addr} {g : Nat} {kd : Bool} {fd : FuncData} {full : List V} {sp : Sp} {ps : List Str} {y : V} {Qf : VK} {A : Around} {k iy : Nat}
/-- an answer is handed out -/
def YP (X : Cx) (pins : List (Addr × Obj)) (σ : L2.St) (C I a : Addr) (g : Nat) (kd : Bool) (d : Addr) (full : List V) (sp : Sp) (y : V) (Qf : VK) : Protocol := fun n _ v s kap =>
  ∃ (i : Nat) (H' : Hp) (b : Bool), n + (i + 1) = full.length ∧ v = .bool b ∧ GP X pins σ C I a g kd d (i + 1) H' s ∧ SqK X.K H' kd d full ∧ (if b = true then aAll X.K kd d full sp y (full.drop (i + 1)) H' Qf else Qf (.bl false) H') ∧
    (b = true → ∀ s' : Shared, s'.heap = s.heap → s'.os = s.os → AllBare s'.gens → kap (.send .none) s')
/-- the end: all were True -/
def FP (X : Cx) (pins : List (Addr × Obj)) (σ : L2.St) (Qf : VK) (_ : Nat) (_ s1 : Shared) : Prop := ∃ H' : Hp, Inv X pins σ H' s1 ∧ Qf (.bl true) H'
def RP (X : Cx) (pins : List (Addr × Obj)) (σ : L2.St) (Qf : VK) : GenEnd := fun n s₀ r s₁ => ((r = .ok (.ret .none) ∨ r = .ok .next) ∧ FP X pins σ Qf n s₀ s₁) ∨ ∃ e, r = .error e ∧ (fun (_ : Value) (_ : Shared) => False) e s₁
theorem fp_base {b : Addr} (v : Inv X pins σ H s) (q : FpOk X pins H b) : X.base.get? b = none := by
  rcases q.2.2.2.1 with e | e
  · cases z : X.base.get? b with
    | none => rfl
    | some o => exact absurd e (v.ok.noex b o z)
  · exact Heap.get?_none_of_le (Nat.le_trans v.ok.bsz e)
theorem seg_loop {iter : Expr} {px gpos p1 p2 p3 p4 : Pos} {scope : Scope} {code : Value} {bi : Addr} (hA : A.handled = none) (hfr : A.frames = some X.stack) (N : GenN X.env scope) (F : FnOk X.prog X.w X.K X.mg X.base CX0 k f fd ps sp) (hb : Binds X.K fd ps []) (hl2 : ps.length = 2) (hm : X.mg "reaches" = some (.ref f)) (hkp : PySem.W.keepIn X.K (.ref f) = true)
    (ky : X.env.kindOf "plan" = some .cell) (niy : X.N[iy]? = some ("plan" : Str)) (hy : σ[iy]? = some (some y))
    (hr : Room k (A.over (.compLoop (.GeneratorExp (.Call (.Name "reaches" p1) [.Name "plan" p2, .Name "want" p3] [] p4) [⟨.Name "want" px, iter, [], 0⟩] scope gpos) 0 (.ref I) .none (genEnv scope (cloFrom X.env.cells scope.names []) C code bi X.env)) [])) :
    ∀ (j i : Nat) (s₀ s : Shared) (H : Hp), j + i = full.length → GP X pins σ C I a g kd d i H s → SqK X.K H kd d full → aAll X.K kd d full sp y (full.drop i) H Qf →
      Seg (model X.prog X.w) A (RP X pins σ Qf) (YP X pins σ C I a g kd d full sp y Qf) j s₀
        (.compLoop (.GeneratorExp (.Call (.Name "reaches" p1) [.Name "plan" p2, .Name "want" p3] [] p4) [⟨.Name "want" px, iter, [], 0⟩] scope gpos) 0 (.ref I) .none (genEnv scope (cloFrom X.env.cells scope.names []) C code bi X.env))
        ((model X.prog X.w).den (.compLoop (.GeneratorExp (.Call (.Name "reaches" p1) [.Name "plan" p2, .Name "want" p3] [] p4) [⟨.Name "want" px, iter, [], 0⟩] scope gpos) 0 (.ref I) .none (genEnv scope (cloFrom X.env.cells scope.names []) C code bi X.env))) [] s := by
  have hA2 : (A.over (.compLoop (.GeneratorExp (.Call (.Name "reaches" p1) [.Name "plan" p2, .Name "want" p3] [] p4) [⟨.Name "want" px, iter, [], 0⟩] scope gpos) 0 (.ref I) .none (genEnv scope (cloFrom X.env.cells scope.names []) C code bi X.env)) []).handled = none := hA
  have hfr2 : (A.over (.compLoop (.GeneratorExp (.Call (.Name "reaches" p1) [.Name "plan" p2, .Name "want" p3] [] p4) [⟨.Name "want" px, iter, [], 0⟩] scope gpos) 0 (.ref I) .none (genEnv scope (cloFrom X.env.cells scope.names []) C code bi X.env)) []).frames = some (genEnv scope (cloFrom X.env.cells scope.names []) C code bi X.env :: X.stack) := by
    show pushEnvs [_] (pushEnvs (envsOf []) A.frames) = _
    rw [hfr]
    rfl
  have hkl : ((genEnv scope (cloFrom X.env.cells scope.names []) C code bi X.env).scope.kind == .class || ((genEnv scope (cloFrom X.env.cells scope.names []) C code bi X.env).scope.kind == .module && (genEnv scope (cloFrom X.env.cells scope.names []) C code bi X.env).locals != (genEnv scope (cloFrom X.env.cells scope.names []) C code bi X.env).globals)) = false := by
    show (scope.kind == .class || (scope.kind == .module && _)) = false
    rw [N.S.kind]; rfl
  intro j
  induction j with
  | zero =>
    intro i s₀ s H hj p hsq ha
    have hi : i = full.length := by omega
    subst hi
    obtain ⟨its, rv, hseq, hdl⟩ := seq_k p.inv hsq
    have hlen : its.toArray.size = full.length := by rw [List.size_toArray, ← rv.length]
    show Seg _ A _ _ _ s₀ _ ((compTurn (.GeneratorExp (.Call (.Name "reaches" p1) [.Name "plan" p2, .Name "want" p3] [] p4) [⟨.Name "want" px, iter, [], 0⟩] scope gpos) 0 (.ref I) .none (genEnv scope (cloFrom X.env.cells scope.names []) C code bi X.env)).onRaise (leaving _)) [] s
    rw [compTurn_gen, Sem.onRaise_eq_wrap]
    refine seg_bind_wrap (wpAny_standAt ?_)
    refine seg_bind_wrap ((An.walks_k hA2 kd I d p.dI its.toArray).done s _ _ ⟨by rw [hlen]; exact p.it, hseq⟩ fun h' tk hk' => ?_)
    rw [List.drop_length] at ha
    refine seg_end (.ok .next) (.inl ⟨.inr rfl, H, ?_, ha⟩)
    exact p.inv.turned (it := I) (fun b o hbI e => hk' b o (fun z => hbI (List.mem_singleton.mp z)) e) p.fI.1 p.fI.2.1 p.fI.2.2.2.1 p.fI.2.2.2.2.1 p.fI.2.2.2.2.2
  | succ j ih =>
    intro i s₀ s H hj p hsq ha
    have hi : i < full.length := by omega
    obtain ⟨its, rv, hseq, hdl⟩ := seq_k p.inv hsq
    have hlen : its.toArray.size = full.length := by rw [List.size_toArray, ← rv.length]
    show Seg _ A _ _ _ s₀ _ ((compTurn (.GeneratorExp (.Call (.Name "reaches" p1) [.Name "plan" p2, .Name "want" p3] [] p4) [⟨.Name "want" px, iter, [], 0⟩] scope gpos) 0 (.ref I) .none (genEnv scope (cloFrom X.env.cells scope.names []) C code bi X.env)).onRaise (leaving _)) [] s
    rw [compTurn_gen, Sem.onRaise_eq_wrap]
    refine seg_bind_wrap (wpAny_standAt ?_)
    refine seg_bind_wrap ((An.walks_k hA2 kd I d p.dI its.toArray).item i s _ _ (by rw [hlen]; exact hi) ⟨p.it, hseq⟩ fun v h₁ tk₁ hPv hst₁ hk₁ => ?_)
    have kp1 : ∀ b o, b ≠ I → s.heap.get? b = some o → h₁.get? b = some o := fun b o hbI e => hk₁ b o (fun z => hbI (List.mem_singleton.mp z)) e
    refine seg_bind_wrap (wpAny_of_eq (rfl : letOwnedTupleGo (.Name "want" px) (.ref I) v = pure ()) ?_)
    obtain ⟨m, hns⟩ := p.ns
    refine seg_bind_wrap (wpAny_assign_Name (wpAny_storeName_local N.S.loc (hns.at' fun o e => kp1 C o p.cI e) (fun h₂ hn₂ hs₂ => ?_) hkl))
    have kp2 : ∀ b o, b ≠ C → h₁.get? b = some o → h₂.get? b = some o := fun b o hbC e => hs₂.extBut b o hbC e
    have inv1 : Inv X pins σ H { s with heap := h₁, toks := tk₁ } := p.inv.turned (it := I) kp1 p.fI.1 p.fI.2.1 p.fI.2.2.2.1 p.fI.2.2.2.2.1 p.fI.2.2.2.2.2
    have inv2 : Inv X pins σ H { ({ s with heap := h₁, toks := tk₁ } : Shared) with heap := h₂, toks := tk₁ + 1 } := Inv.turned (s := { s with heap := h₁, toks := tk₁ }) inv1 (it := C) kp2 p.fC.1 p.fC.2.1 p.fC.2.2.2.1 p.fC.2.2.2.2.1 p.fC.2.2.2.2.2
    obtain ⟨oa, nm, qn, hoa, ra⟩ := p.gen
    have g2 : GP X pins σ C I a g kd d (i + 1) H { s with heap := h₂, toks := tk₁ + 1 } :=
      ⟨inv2, ⟨_, hn₂⟩, hst₁.1.keep fun o e => kp2 I o (Ne.symm p.cI) e, ⟨oa, nm, qn, kp2 a oa (Ne.symm p.ca) (kp1 a oa (Ne.symm p.Ia) hoa), ra⟩, p.fC, p.fI, p.fa, p.cI, p.ca, p.Ia, p.dI, p.dC⟩
    have hx : full[i]? = some full[i] := List.getElem?_eq_getElem hi
    obtain ⟨ux, hux, rx⟩ := rv.get hx
    have hPv : its.toArray[i]? = some v := hPv
    have ev : v = ux := by
      have e2 : its[i]? = some v := by simpa using hPv
      rw [hux] at e2
      exact (Option.some.inj e2).symm
    subst ev
    obtain ⟨ml, hml, hloc⟩ := inv2.loc
    obtain ⟨uy, ruy, lky⟩ := hloc iy "plan" y niy hy (.inr (.inl ky))
    obtain ⟨cy, hcy, gy⟩ := An.look_cell ky lky
    rw [List.drop_eq_getElem_cons hi] at ha
    unfold aAll at ha
    simp only [List.forIn_nil]
    refine seg_bind_wrap (wpAny_pure ?_)
    simp only [if_true]
    have hyo : ∀ v, yieldOut (genEnv scope (cloFrom X.env.cells scope.names []) C code bi X.env) v = yieldValue v := fun v => by
      have hco : (genEnv scope (cloFrom X.env.cells scope.names []) C code bi X.env).scope.isCoroutine = false := N.S.co
      simp only [yieldOut, hco, Bool.false_eq_true, if_false]
    simp only [hyo]
    rw [Sem.bind_eq_wrap', Sem.bind_eq_wrap', Sem.wrap_wrap, Sem.wrap_wrap]
    have e0 := inv2.env0
    have e2 : Env0 X.prog X.w X.K X.mg X.base (A.over (.compLoop (.GeneratorExp (.Call (.Name "reaches" p1) [.Name "plan" p2, .Name "want" p3] [] p4) [⟨.Name "want" px, iter, [], 0⟩] scope gpos) 0 (.ref I) .none (genEnv scope (cloFrom X.env.cells scope.names []) C code bi X.env)) [])
        (genEnv scope (cloFrom X.env.cells scope.names []) C code bi X.env :: X.stack) { s with heap := h₂, toks := tk₁ + 1 } H := by
      refine ⟨hfr2, e0.mod, e0.bs, e0.bsz, Heap.FunFrames.cons (by show scope.kind ≠ .module; rw [N.S.kind]; decide) rfl hn₂ (fp_base inv2 p.fC) e0.funs, fun b hbm => ?_, e0.hok, e0.bare⟩
      have ef : frs (genEnv scope (cloFrom X.env.cells scope.names []) C code bi X.env :: X.stack) = C :: frs X.stack := rfl
      rw [ef] at hbm
      rcases List.mem_cons.mp hbm with z | z
      · rw [z]; exact p.fC.1
      · exact e0.frf b z
    refine seg_wrap (wpAny_mono (elt_call F hb hl2 e2 hr hm hkp inv2.ok.glob N.S.kind N.kf N.S.loc N.kp hn₂ (by simp) (NdefX.clo_has N.S.free N.pt hcy) gy ruy rx ha) (fun u s₃ hce => ?_) fun _ _ e => e)
    obtain ⟨vb, H3, p3, rvb, b, rfl, hsq3, hq3⟩ := g2.called rfl hce
    have eu : u = .bool b := rvb
    subst eu
    refine seg_at (seg_yield rfl rfl rfl ⟨i, H3, b, by omega, rfl, p3, hsq3, hq3, fun hb2 s'' w1 w2 w3 => ?_⟩)
    rw [if_pos hb2] at hq3
    exact seg_again rfl (ih (i + 1) s'' s'' H3 (by omega) (p3.same w1 w2 w3) hsq3 hq3)
theorem seg_begin {iter : Expr} {px gpos p1 p2 p3 p4 : Pos} {scope : Scope} {code : Value} {bi : Addr} (hA : A.handled = none) (hfr : A.frames = some X.stack) (N : GenN X.env scope) (F : FnOk X.prog X.w X.K X.mg X.base CX0 k f fd ps sp) (hb : Binds X.K fd ps []) (hl2 : ps.length = 2) (hm : X.mg "reaches" = some (.ref f)) (hkp : PySem.W.keepIn X.K (.ref f) = true)
    (ky : X.env.kindOf "plan" = some .cell) (niy : X.N[iy]? = some ("plan" : Str)) (hy : σ[iy]? = some (some y))
    (hr : Room k (A.over (.compLoop (.GeneratorExp (.Call (.Name "reaches" p1) [.Name "plan" p2, .Name "want" p3] [] p4) [⟨.Name "want" px, iter, [], 0⟩] scope gpos) 0 (.ref I) .none (genEnv scope (cloFrom X.env.cells scope.names []) C code bi X.env)) [])) (s₀ : Shared) (p : GP X pins σ C I a g kd d 0 H s) (hsq : SqK X.K H kd d full) (ha : aAll X.K kd d full sp y full H Qf) :
      Seg (model X.prog X.w) A (RP X pins σ Qf) (YP X pins σ C I a g kd d full sp y Qf) full.length s₀ (.compStart (.GeneratorExp (.Call (.Name "reaches" p1) [.Name "plan" p2, .Name "want" p3] [] p4) [⟨.Name "want" px, iter, [], 0⟩] scope gpos) 0 (.ref I) .none (genEnv scope (cloFrom X.env.cells scope.names []) C code bi X.env)) ((model X.prog X.w).den (.compStart (.GeneratorExp (.Call (.Name "reaches" p1) [.Name "plan" p2, .Name "want" p3] [] p4) [⟨.Name "want" px, iter, [], 0⟩] scope gpos) 0 (.ref I) .none (genEnv scope (cloFrom X.env.cells scope.names []) C code bi X.env))) [] s := by
  have lp := seg_loop (iter := iter) (px := px) (gpos := gpos) (p1 := p1) (p2 := p2) (p3 := p3) (p4 := p4) (code := code) (bi := bi) hA hfr N F hb hl2 hm hkp ky niy hy hr full.length 0 s₀ s H (by omega) p hsq (by rw [List.drop_zero]; exact ha)
  have hA3 : (A.over (.compStart (.GeneratorExp (.Call (.Name "reaches" p1) [.Name "plan" p2, .Name "want" p3] [] p4) [⟨.Name "want" px, iter, [], 0⟩] scope gpos) 0 (.ref I) .none (genEnv scope (cloFrom X.env.cells scope.names []) C code bi X.env)) []).handled = none := hA
  obtain ⟨its, rv, hseq, hdl⟩ := seq_k p.inv hsq
  show Seg _ A _ _ _ s₀ _ ((compStart (.GeneratorExp (.Call (.Name "reaches" p1) [.Name "plan" p2, .Name "want" p3] [] p4) [⟨.Name "want" px, iter, [], 0⟩] scope gpos) 0 (.ref I) .none (genEnv scope (cloFrom X.env.cells scope.names []) C code bi X.env)).onRaise (leaving (genEnv scope (cloFrom X.env.cells scope.names []) C code bi X.env))) [] s
  unfold compStart
  rw [Sem.onRaise_eq_wrap]
  show Seg _ A _ _ _ s₀ _ ((ask >>= _).wrap _ _ _ _) [] s
  refine seg_bind_wrap (wpAny_askSetting ?_)
  split
  · exact seg_again rfl lp
  · have again2 := seg_again (A := A) (R := RP X pins σ Qf) (Y := YP X pins σ C I a g kd d full sp y Qf) (c := .compStart (.GeneratorExp (.Call (.Name "reaches" p1) [.Name "plan" p2, .Name "want" p3] [] p4) [⟨.Name "want" px, iter, [], 0⟩] scope gpos) 0 (.ref I) .none (genEnv scope (cloFrom X.env.cells scope.names []) C code bi X.env)) rfl lp
    have slf : ∀ (Q : Value → Shared → Prop) (E : Value → Shared → Prop), Q (.ref I) s → wpAny (model X.prog X.w) (A.over (.compStart (.GeneratorExp (.Call (.Name "reaches" p1) [.Name "plan" p2, .Name "want" p3] [] p4) [⟨.Name "want" px, iter, [], 0⟩] scope gpos) 0 (.ref I) .none (genEnv scope (cloFrom X.env.cells scope.names []) C code bi X.env)) []) (pyIter (.ref I)) Q E s := fun Q E hQ => (An.walks_k hA3 kd I d p.dI its.toArray).self 0 s Q E ⟨p.it, hseq⟩ hQ
    first
      | exact seg_bind_wrap (wpAny_rule (seg_bind_wrap (wpAny_standAt (seg_bind_wrap (slf _ _ again2)))))
      | (refine seg_bind_wrap (wpAny_rule ?_); show Seg _ A _ _ _ s₀ _ ((standAt iter.pos >>= _).wrap _ _ _ _) [] s; exact seg_bind_wrap (wpAny_standAt (seg_bind_wrap (slf _ _ again2))))
/-- the turns of all -/
theorem all_turns {R : Result → Shared → Prop} (hh : A.handled = none) (hd : A.depth < recursionLimit)
    (hR : ∀ (b : Bool) (H' : Hp) (s' : Shared), Inv X pins σ H' s' → Qf (.bl b) H' → R (.ok (.ret (.bool b))) s') :
    ∀ (m : Nat) (s : Shared), (∃ i H, GP X pins σ C I a g kd d i H s) → s.heap.NoLimit →
      (∃ gs, s.gens[g]? = some gs ∧ gs.Goes (model X.prog X.w) A.in1.in1 (RP X pins σ Qf) (YP X pins σ C I a g kd d full sp y Qf) m (.send .none) (s.setGen g .running)) →
      codeAny (model X.prog X.w) A (.builtin "all.loop" ⟨[.ref a], []⟩) R s := by
  intro m
  induction m with
  | zero =>
    intro s ⟨i, H, p⟩ hl ⟨gs, hgs, hgo⟩
    refine codeAny_builtin F.entry_all_loop ?_
    rw [Around.under_plainId F.plain_all_loop _]
    show wpAny _ A.in1 (pyNext (.ref a) >>= _) _ _ s
    refine wpAny_bind (next_genG (A := A.in1) (F := FP X pins σ Qf) (Er := fun _ _ => False) hh hl hd p.gen hgs hgo (fun v s₁ gs' hbare hv => ?_) (fun s₁ hp h' hk => ?_) fun e s₁ he => he.elim)
    · obtain ⟨i1, H1, b, _, rfl, q1, hsq, hq, hkap⟩ := hv
      have J : Inv X pins σ H1 (s₁.setGen g gs') := inv_same q1.inv rfl rfl (allBare_setGen q1.inv.bare hbare)
      refine wpAny_bind (wpAny_holding (wpAny_truthy_bool ?_))
      refine wpAny_bind (wpAny_letGo ?_)
      cases b with
      | true => exact (hkap rfl s₁ rfl rfl q1.inv.bare).elim
      | false =>
        rw [if_neg Bool.false_ne_true] at hq
        simp only [Bool.false_eq_true, if_false]
        exact wpAny_bind (wpAny_rule (wpAny_pure (hR false H1 _ J hq)))
    · obtain ⟨H1, v1, hq⟩ := hp
      refine wpAny_bind (wpAny_rule (wpAny_pure (hR true H1 _ ?_ hq)))
      exact inv_same (s' := { s₁.setGen g .finished with heap := h' }) (Inv.kept (t' := s₁.toks) v1 hk) rfl rfl (allBare_setGen v1.bare rfl)
  | succ m ih =>
    intro s ⟨i, H, p⟩ hl ⟨gs, hgs, hgo⟩
    have hgl : g < s.gens.size := (Array.getElem?_eq_some_iff.mp hgs).1
    refine codeAny_builtin F.entry_all_loop ?_
    rw [Around.under_plainId F.plain_all_loop _]
    show wpAny _ A.in1 (pyNext (.ref a) >>= _) _ _ s
    refine wpAny_bind (wpAny_gsz (n := g + 1) hgl (next_genG (A := A.in1) (F := FP X pins σ Qf) (Er := fun _ _ => False) hh hl hd p.gen hgs hgo (fun v s₁ gs' hbare hv => ?_) (fun s₁ hp h' hk => ?_) fun e s₁ he => he.elim))
    · intro hsz
      obtain ⟨i1, H1, b, _, rfl, q1, hsq, hq, hkap⟩ := hv
      have J : Inv X pins σ H1 (s₁.setGen g gs') := inv_same q1.inv rfl rfl (allBare_setGen q1.inv.bare hbare)
      refine wpAny_bind (wpAny_holding (wpAny_truthy_bool ?_))
      refine wpAny_bind (wpAny_letGo ?_)
      cases b with
      | true =>
        simp only [if_true]
        have hsz1 : g < s₁.gens.size := by
          have q : (s₁.setGen g gs').gens.size = s₁.gens.size := setGen_size _ _ _
          have : g + 1 ≤ (s₁.setGen g gs').gens.size := hsz
          omega
        refine wpAny_pure ⟨plainId_quiet F.plain_all_loop _, ih (s₁.setGen g gs') ⟨i1 + 1, H1, q1.same rfl rfl (allBare_setGen q1.inv.bare hbare)⟩ J.nolimit ⟨gs', setGen_at hsz1, ?_⟩⟩
        exact hkap rfl _ rfl rfl (allBare_setGen (s := s₁.setGen g gs') (allBare_setGen q1.inv.bare hbare) rfl)
      | false =>
        rw [if_neg Bool.false_ne_true] at hq
        simp only [Bool.false_eq_true, if_false]
        exact wpAny_bind (wpAny_rule (wpAny_pure (hR false H1 _ J hq)))
    · intro _
      obtain ⟨H1, v1, hq⟩ := hp
      refine wpAny_bind (wpAny_rule (wpAny_pure (hR true H1 _ ?_ hq)))
      exact inv_same (s' := { s₁.setGen g .finished with heap := h' }) (Inv.kept (t' := s₁.toks) v1 hk) rfl rfl (allBare_setGen v1.bare rfl)
end
section
variable {X : Cx} {pins : List (Addr × Obj)} {σ : L2.St} {H : Hp} {s : Shared} {f : Addr} {fd : FuncData} {sp : Sp} {ps : List Str} {k iy : Nat}
/-- all(reaches(plan, want) for want in te) -/
def tAllC (K : PySem.W.Frag) (P : Addr) (iy : Nat) (sp : Sp) (te : TE) : TE := fun σ H Q => te σ H fun v H1 => ∃ (d : Addr) (kd : Bool) (xs : List V) (y : V), v = .ref d ∧ SqK K H1 kd d xs ∧ σ[iy]? = some (some y) ∧ GxR.TabG H1 P ∧
  ∀ H2, GxR.Tabbed P H1 H2 → SqK K H2 kd d xs ∧ aAll K kd d xs sp y xs H2 Q
theorem gen_made {c P : Addr} {iter : Expr} {px gpos p1 p2 p3 p4 : Pos} {scope : Scope} {te : TE} {Q' : Value → Shared → Prop} {Q : VK} (hr : Room (k + 4) X.A) (TB : GxR.TabB X.base X.mg c P) (hcode : X.env.code = .ref c) (N : GenN X.env scope) (hi : PE X iter te) (hs : ∀ v, genFold iter X.env v = pure v) (v0 : Inv X pins σ H s) (h : tAllC X.K P iy sp te σ H Q)
    (hQ : ∀ (C I a d : Addr) (g : Nat) (kd : Bool) (xs : List V) (y : V) (code : Value) (bi : Addr) (H2 : Hp) (s5 : Shared), GP X pins σ C I a g kd d 0 H2 s5 → SqK X.K H2 kd d xs → aAll X.K kd d xs sp y xs H2 Q → σ[iy]? = some (some y) →
      s5.gens[g]? = some (.fresh (.compStart (.GeneratorExp (.Call (.Name "reaches" p1) [.Name "plan" p2, .Name "want" p3] [] p4) [⟨.Name "want" px, iter, [], 0⟩] scope gpos) 0 (.ref I) .none (genEnv scope (cloFrom X.env.cells scope.names []) C code bi X.env))) → Q' (.ref a) s5) :
    wpAny (model X.prog X.w) X.A (eval (.GeneratorExp (.Call (.Name "reaches" p1) [.Name "plan" p2, .Name "want" p3] [] p4) [⟨.Name "want" px, iter, [], 0⟩] scope gpos) X.env) Q' X.xe s := by
  have room := hr.dp
  refine wpAny_GeneratorExp_make N.S.co (closure_ok N.S.free) N.S.cell N.S.dot N.S.kind (by omega) ?_ hs
  refine thn (hi.run pins s σ H _ v0 h) fun xv s1 ⟨v, H1, I1, r1, q1⟩ => ?_
  obtain ⟨d, kd, xs, y, rfl, hd, hy, ⟨tb, hP, ht⟩, q1⟩ := q1
  obtain rfl : xv = Value.ref d := r1
  obtain ⟨its, rv, hseq, hdl⟩ := seq_k I1 hd
  refine (begins_k kd d its.toArray).iter _ _ _ _ _ _ hseq ?_
  have ofree : (iterO kd d).isFreed = false := (begins_k kd d its.toArray).free
  generalize ho : iterO kd d = o at ofree
  have hitr : IterAt kd (s1.heap.push o) s1.heap.objs.size d 0 := by
    subst ho
    exact IterAt.zero (Heap.get?_push_size _ ofree)
  have hPs : s1.heap.get? P = some { cls := .none, data := .fields tb } := I1.hok P _ hP
  have hPlt : P < s1.heap.objs.size := Heap.lt_size hPs
  have hP2 : (s1.heap.push o).get? P = some { cls := .none, data := .fields tb } := Heap.get?_push_of_some _ hPs
  have cd : PySem.W.CodeHd (s1.heap.push o) c P := TB.code.keeps fun b u e => Heap.get?_push_of_some _ (I1.bk b u e)
  have lim2 : (s1.heap.push o).NoLimit := I1.nolimit.push o
  have cont : ∀ (code : Value) (h3 : Heap) (tk : Nat) (tb' : Array Value), Heap.ExtBut P (s1.heap.push o) h3 → (s1.heap.push o).objs.size ≤ h3.objs.size → h3.get? P = some { cls := .none, data := .fields tb' } → (∃ more, tb' = tb ++ more) → TriplesOk tb'.toList →
      wpAny (model X.prog X.w) X.A (builtinsFor X.env.globals X.env.builtins) (fun bi s₄ =>
        ∀ h', h'.Ns s₄.heap.objs.size (fun z => if z = ".0" then some (Value.ref s1.heap.objs.size) else none) → Heap.SameBut s₄.heap.objs.size (s₄.heap.push { cls := .type "frame", data := .dict #[] }) h' →
          Q' (.ref h'.objs.size) { s₄ with
            gens := s₄.gens.push (.fresh (.compStart (.GeneratorExp (.Call (.Name "reaches" p1) [.Name "plan" p2, .Name "want" p3] [] p4) [⟨.Name "want" px, iter, [], 0⟩] scope gpos) 0 (Value.ref s1.heap.objs.size) .none (genEnv scope (cloFrom X.env.cells scope.names []) s₄.heap.objs.size code bi X.env))),
            toks := s₄.toks + 1 + 1 + 1,
            heap := h'.push { cls := .type "generator", data := .fields #[.int s₄.gens.size 0, .str "<genexpr>" (s₄.toks + 1), .str (X.env.qual ++ "<genexpr>") (s₄.toks + 1 + 1)] } }) X.xe { s1 with heap := h3, toks := tk } := by
    intro code h3 tk tb' hx hsz hP3 hmore ht3
    obtain ⟨bm, ob, e1, e2, e3, e4, e5, e6, e7, e8⟩ := TB.bm
    have sz2 : (s1.heap.push o).objs.size = s1.heap.objs.size + 1 := Heap.size_push ..
    have keep3 : ∀ b u, b ≠ P → s1.heap.get? b = some u → h3.get? b = some u := fun b u hb e => hx b u hb (Heap.get?_push_of_some _ e)
    obtain ⟨more, em⟩ := hmore
    refine wpAny_builtinsFor (m := X.mg) (by rw [I1.ok.glob]; exact ((I1.mod.glob.keeps I1.bk).push o).extBut hx TB.gP) e1 e2 (keep3 _ _ e4 (I1.bk _ _ e5)) e6 e7 e8 ?_
    intro h' hns hsb
    have inv3 := GxR.inv_tab (more := more) (h' := h3) (g' := s1.gens) (d' := s1.drawn) (t' := tk) I1 hP keep3 (by rw [← em]; exact hP3) I1.bare
    obtain ⟨hsq2, ha2⟩ := q1 (upd H1 P (.tbl (tb ++ more))) ⟨⟨tb ++ more, upd_same, by rw [← em]; exact ht3⟩, fun b hb => upd_ne hb⟩
    have hsz' : h'.objs.size = h3.objs.size + 1 := by
      rw [hsb.1]
      exact Heap.size_push ..
    have keep4 : ∀ b u, h3.get? b = some u → h'.get? b = some u := fun b u e => hsb.extBut b u (Nat.ne_of_lt (Heap.lt_size e)) (Heap.get?_push_of_some _ e)
    have lI : s1.heap.objs.size < h3.objs.size := by omega
    have l4 : h3.objs.size < h'.objs.size := by omega
    refine hQ h3.objs.size s1.heap.objs.size h'.objs.size d s1.gens.size kd xs y code builtinsNs (upd H1 P (.tbl (tb ++ more))) _ ⟨?_, ⟨_, hns.push _⟩, ?_, ⟨_, _, _, Heap.get?_push_size _ rfl, rfl, rfl, rfl⟩, ?_, ?_, ?_, ?_, ?_, ?_, ?_, ?_⟩ hsq2 ha2 hy (Array.getElem?_push_size ..)
    · exact inv_same (Inv.kept (t' := 0) inv3 fun b u e => Heap.get?_push_of_some _ (keep4 b u e)) rfl rfl (I1.bare.push rfl)
    · exact hitr.keep fun u e => Heap.get?_push_of_some _ (keep4 _ u (hx _ u (Nat.ne_of_gt hPlt) e))
    · exact inv3.fpOk (Nat.le_refl _) (inv3.hok.fresh (Nat.le_refl _))
    · refine I1.fpOk (Nat.le_refl _) ?_
      rw [upd_ne (Nat.ne_of_gt hPlt)]
      exact I1.hok.fresh (Nat.le_refl _)
    · have le : h3.objs.size ≤ h'.objs.size := by omega
      exact inv3.fpOk le (inv3.hok.fresh le)
    · exact Nat.ne_of_gt lI
    · exact Nat.ne_of_lt l4
    · exact Nat.ne_of_lt (Nat.lt_trans lI l4)
    · exact Nat.ne_of_lt hdl
    · exact Nat.ne_of_lt (Nat.lt_trans hdl lI)
  refine ⟨lim2, ?_⟩
  cases hf : codeAmong gpos tb.toList with
  | none =>
    refine wpAny_genexprCodeX hcode (cd.code hP2 ht) (cd.tab hP2) hf fun c' h' tk hx hge hlt hco' _ htab' _ => ?_
    obtain ⟨o1, vs, f1, tf, fl, tg, inF, tx, tt, op, _, _, _, _, _, _, _, _, _, htr, _⟩ := hco'
    exact cont _ h' tk _ hx (Nat.le_trans hge (Nat.le_of_lt hlt)) htab'.2 ⟨_, rfl⟩ htr
  | some cv =>
    refine wpAny_genexprCode_hit hcode (cd.code hP2 ht) hf ?_
    exact cont cv (s1.heap.push o) s1.toks tb (Heap.ExtBut.refl _ _) (Nat.le_refl _) hP2 ⟨#[], by simp⟩ ht
theorem pe_allC {c P : Addr} {iter : Expr} {px p pos gpos p1 p2 p3 p4 : Pos} {scope : Scope} {te : TE} (hr : Room (k + 4) X.A) (hg : Gl X "all") (hma : X.mg "all" = none) (TB : GxR.TabB X.base X.mg c P) (hcode : X.env.code = .ref c) (N : GenN X.env scope)
    (Fk : FnOk X.prog X.w X.K X.mg X.base CX0 k f fd ps sp) (hb : Binds X.K fd ps []) (hl2 : ps.length = 2) (hm : X.mg "reaches" = some (.ref f)) (hkp : PySem.W.keepIn X.K (.ref f) = true) (hi : PE X iter te)
    (ky : X.env.kindOf "plan" = some .cell) (niy : X.N[iy]? = some ("plan" : Str)) (hs : ∀ v, genFold iter X.env v = pure v)
    (he : starEach [(.GeneratorExp (.Call (.Name "reaches" p1) [.Name "plan" p2, .Name "want" p3] [] p4) [⟨.Name "want" px, iter, [], 0⟩] scope gpos)] X.env = (false, eval (.GeneratorExp (.Call (.Name "reaches" p1) [.Name "plan" p2, .Name "want" p3] [] p4) [⟨.Name "want" px, iter, [], 0⟩] scope gpos) X.env) :: starEach [] X.env := by rfl) :
    PE X (.Call (.Name "all" p) [(.GeneratorExp (.Call (.Name "reaches" p1) [.Name "plan" p2, .Name "want" p3] [] p4) [⟨.Name "want" px, iter, [], 0⟩] scope gpos)] [] pos) (tAllC X.K P iy sp te) := by
  refine ⟨fun pins s σ H Q I h => ?_⟩
  refine wpAny_Call_Name_kw (ld_blt I hg hma boot_all ?_)
  refine PyProof.Rows.callWith_builtin1 ?_ he (by rfl)
  rw [he]
  refine Calls.spliced_cons (gen_made hr TB hcode N hi hs I h fun C I2 a d g kd xs y code bi H2 s5 gp hsq ha hy hgs => ?_)
  refine Calls.spliced_nil ?_
  have hd1 := hr.dp
  have hu1 := hr.un
  refine call_function_tree F.kind_all F.plain_all F.entry_all (F.args_all1 _) ?_
  unfold Builtin.«all»
  refine wpAny_bind (m := oneArg "all" _) (wpAny_pure ?_)
  refine wpAny_bind (wpAny_pyIter_gen gp.gen ?_)
  refine wpAny_pure ⟨plainId_quiet F.plain_all_loop _, ?_⟩
  refine all_turns (X := X) (pins := pins) (σ := σ) (C := C) (I := I2) (a := a) (d := d) (g := g) (kd := kd) (full := xs) (sp := sp) (y := y) (Qf := Q) (A := X.A) hr.hd (by omega) (fun b H' s' v q => ⟨.bl b, H', v, rfl, q⟩) xs.length s5 ⟨0, H2, gp⟩ gp.inv.nolimit ⟨_, hgs, rfl, ?_⟩
  refine seg_begin (A := X.A.in1.in1) hr.hd gp.inv.ok.frames N Fk hb hl2 hm hkp ky niy hy ?_ _ (gp.same rfl rfl (allBare_setGen gp.inv.bare rfl)) hsq ha
  exact ⟨hr.hd, by show X.A.depth + 0 + 1 + 3 * k + 5 < _; omega, by show X.A.units + 1 + 1 + 0 + 3 + 16 * k + 200 < _; omega⟩
end
end Ge

set_option Elab.async false
set_option linter.all false
set_option maxRecDepth 100000
set_option maxHeartbeats 4000000
/-! The reading of all(reaches(plan, want) for want in xs); a second code object over the same table. -/
namespace Mv
open PySem PySem.Spec PyProof.Rows L2 An Ge
/-- one after the other, till one is False -/
def allW (W : MW) (y : MV) : List MV → Sto → MK → Prop
  | [], S, R => R (.bl true) S
  | x :: l, S, R => W [y, x] S fun b S' => match b with
    | .bl true => allW W y l S' R
    | .bl false => R (.bl false) S'
    | _ => False
def mAllC (iy : Nat) (W : MW) (m : ME) : ME := fun ρ S R => m ρ S fun v S1 => match v, ρ[iy]? with
  | .frz l, some (some y) => allW W y l S1 R
  | .tup l, some (some y) => allW W y l S1 R
  | _, _ => False
section
variable {K : PySem.W.Frag} {Z : ZT} {W : MW}
theorem aAll_of {Sb S0 : Sto} {Hb H0 : Hp} {R : MK} (tb : GK K Sb Hb S0 H0) {kd : Bool} {d : Addr} {full : List V} {y : MV} {vy : V} (hst : ∀ H', TK K H0 H' → SqK K H' kd d full) (ry : RM K H0 y vy) :
    ∀ (l : List MV) (xs : List V) (S : Sto) (H : Hp), GK K S0 H0 S H → RS K Z S H → RMs K H l xs → allW W y l S R → aAll K kd d full (spM K Z 2 W) vy xs H (MQ K Z Sb Hb R)
  | [], xs, S, H, g, s, r, h => by
    have e : xs = [] := by
      have := r.length
      exact List.length_eq_zero_iff.mp this
    subst e
    exact ⟨.bl true, S, tb.trans g, by unfold RM; rfl, s, h⟩
  | x :: l, xs, S, H, g, s, r, h => by
    unfold RMs at r
    obtain ⟨vx, rest, rfl, rx, rr⟩ := r
    unfold aAll
    refine ⟨rfl, [y, x], S, _, RMs.cons (ry.monoT g.tk y) (RMs.cons rx RMs.nil), s, h, fun v H' ⟨m, S', g', rv, s', q⟩ => ?_⟩
    cases m with
    | bl b =>
      unfold RM at rv
      subst rv
      refine ⟨b, rfl, hst H' (g.tk.trans g'.tk), ?_⟩
      cases b with
      | true =>
        rw [if_pos rfl]
        exact aAll_of tb hst ry l rest S' H' (g.trans g') s' (rr.monoT g'.tk) q
      | false =>
        rw [if_neg Bool.false_ne_true]
        exact ⟨.bl false, S', tb.trans (g.trans g'), by unfold RM; rfl, s', q⟩
    | _ => exact q.elim
end
theorem genN_of {qual : Str} {scF scG : Scope} {L f : Addr} {cdv : Value} (kind : scG.kind = .function := by kernel_rfl) (co : scG.isCoroutine = false := by kernel_rfl) (cell : (scG.names.all fun y => y.2 != .cell) = true := by kernel_rfl)
    (dot : scG.names.lookup (".0" : Str) = some NameKind.local := by kernel_rfl) (loc : scG.names.lookup ("want" : Str) = some .local := by kernel_rfl)
    (free : (scG.names.all fun y => y.2 != .free || scF.names.lookup y.1 == some .cell) = true := by kernel_rfl)
    (pt : (scG.names.contains (("plan" : Str), NameKind.free)) = true := by kernel_rfl)
    (kp : scG.names.lookup ("plan" : Str) = some .free := by kernel_rfl) (kf : scG.names.lookup ("reaches" : Str) = some .globalImplicit := by kernel_rfl) :
    GenN (envOfC qual scF L f cdv) scG := by
  refine ⟨⟨kind, co, fun y hy => ?_, dot, loc, fun y hy e => ?_⟩, kp, by simpa using pt, kf⟩
  · have := List.all_eq_true.mp cell y hy
    simpa using this
  · have q := List.all_eq_true.mp free y hy
    rw [e] at q
    have q2 : scF.names.lookup y.1 = some .cell := by simpa using q
    exact Option.isSome_iff_exists.mp (PySem.W.cellsFrom_some _ _ _ (.inl q2))
section
variable {X : Cx} {Z : ZT} {m : ME} {W : MW}
theorem ee_allC {c P f : Addr} {iter : Expr} {px p pos gpos p1 p2 p3 p4 : Pos} {scope : Scope} {k k' iy : Nat} {ps : List Str}
    (Cw : Cal X.prog X.w X.K X.mg X.base Z f ps k W) (hr : Room (k' + 4) X.A) (hk : k ≤ k') (hl2 : ps.length = 2) (hg : Gl X "all") (hma : X.mg "all" = none) (TB : GxR.TabB X.base X.mg c P) (hZ : P ∈ Z) (hcode : X.env.code = .ref c) (N : GenN X.env scope) (hm : X.mg "reaches" = some (.ref f)) (hi : EE X Z iter m)
    (ky : X.env.kindOf "plan" = some .cell) (niy : X.N[iy]? = some ("plan" : Str)) (hs : ∀ v, genFold iter X.env v = pure v)
    (he : starEach [.GeneratorExp (.Call (.Name "reaches" p1) [.Name "plan" p2, .Name "want" p3] [] p4) [⟨.Name "want" px, iter, [], 0⟩] scope gpos] X.env = (false, eval (.GeneratorExp (.Call (.Name "reaches" p1) [.Name "plan" p2, .Name "want" p3] [] p4) [⟨.Name "want" px, iter, [], 0⟩] scope gpos) X.env) :: starEach [] X.env := by rfl) :
    EE X Z (.Call (.Name "all" p) [.GeneratorExp (.Call (.Name "reaches" p1) [.Name "plan" p2, .Name "want" p3] [] p4) [⟨.Name "want" px, iter, [], 0⟩] scope gpos] [] pos) (mAllC iy W m) := by
  obtain ⟨fd, Fk, kp, b⟩ := Cw.ex
  rw [hl2] at Fk
  refine ee_of (pe_allC (k := k') hr hg hma TB hcode N (Fk.mono hk) b hl2 hm kp hi.pe ky niy hs he) fun σ H ρ S R hE hS hm2 => ?_
  refine ⟨ρ, S, _, hE, hS, hm2, fun v H1 ⟨x, S1, t1, r1, s1, q1⟩ => ?_⟩
  have fin : ∀ (d : Addr) (kd : Bool) (xs : List V) (l : List MV) (y : MV), v = .ref d → SqK X.K H1 kd d xs → (∀ H', TK X.K H1 H' → SqK X.K H' kd d xs) → RMs X.K H1 l xs → ρ[iy]? = some (some y) → allW W y l S1 R →
      ∃ (d : Addr) (kd : Bool) (xs : List V) (y : V), v = .ref d ∧ SqK X.K H1 kd d xs ∧ σ[iy]? = some (some y) ∧ GxR.TabG H1 P ∧ ∀ H2, GxR.Tabbed P H1 H2 → SqK X.K H2 kd d xs ∧ aAll X.K kd d xs (spM X.K Z 2 W) y xs H2 (MQ X.K Z S H R) := fun d kd xs l y ev sq st rl ey q => by
    obtain ⟨vy, e1, e2⟩ := hE.at_ iy y ey
    refine ⟨d, kd, xs, vy, ev, sq, e1, s1.tab P hZ, fun H2 ht => ?_⟩
    obtain ⟨g, s2⟩ := tabbed_gk s1 (s1.tab P hZ) ht
    refine ⟨st H2 g.tk, ?_⟩
    exact aAll_of (t1.trans g) (fun H' t => st H' (g.tk.trans t)) (e2.monoT (t1.tk.trans g.tk) y) l xs S1 H2 GK.refl s2 (rl.monoT g.tk) q
  cases x with
  | frz l =>
    unfold RM at r1
    obtain ⟨a, xs, e1, sq, rs⟩ := r1
    cases ey : ρ[iy]? with
    | none => simp only [ey] at q1
    | some o =>
      cases o with
      | none => simp only [ey] at q1
      | some y =>
        simp only [ey] at q1
        exact fin a true xs l y e1 sq.sq (fun H' t => (t.frz a xs sq).sq) rs ey q1
  | tup l =>
    unfold RM at r1
    obtain ⟨a, xs, e1, sq, rs⟩ := r1
    cases ey : ρ[iy]? with
    | none => simp only [ey] at q1
    | some o =>
      cases o with
      | none => simp only [ey] at q1
      | some y =>
        simp only [ey] at q1
        exact fin a false xs l y e1 sq (fun H' t => t.tup a xs sq) rs ey q1
  | _ => exact q1.elim
end
/-! y = [.. for .. for ..] -/
section
variable {X : Cx} {Z : ZT} {pos : Pos} {tg iter tg1 iter1 : Expr}
variable {elt : Expr} {ifs ifs1 : List Expr} {scope : Scope} {own : List (Str × Nat)} {vs vs1 : List Nat} {mi mi1 : MI} {pt pt1 : Pat} {tt tt1 : MT} {te : ME}
theorem es_setlc2 {i : Nat} {y : Str} {py spos : Pos} (hc : X.calm = true) (hN : X.N.Nodup) (hy : X.N[i]? = some y) (hyl : X.env.scope.names.lookup y = some .local)
    (hsw : swapsWith (.ListComp elt [⟨tg, iter, ifs, 0⟩, ⟨tg1, iter1, ifs1, 0⟩] scope pos) (some (.Name y py)) spos.line X.env = pure true) (hi : EI X Z tg iter mi) (ok : BlkOk X.N X.env.scope scope own)
    (hg : ∀ (s : Shared) (H : Hp) (C : Addr) (cl : List (Str × Addr)) (fp : List Addr), EG (X.blk s H scope (compEnvC scope cl C X.env) fp) Z tg pt)
    (ht : ∀ (s : Shared) (H : Hp) (C : Addr) (cl : List (Str × Addr)) (fp : List Addr), ETs (X.blk s H scope (compEnvC scope cl C X.env) fp) Z ifs tt)
    (hi1 : ∀ (s : Shared) (H : Hp) (C : Addr) (cl : List (Str × Addr)) (fp : List Addr), EI (X.blk s H scope (compEnvC scope cl C X.env) fp) Z tg1 iter1 mi1)
    (hg1 : ∀ (s : Shared) (H : Hp) (C : Addr) (cl : List (Str × Addr)) (fp : List Addr), EG (X.blk s H scope (compEnvC scope cl C X.env) fp) Z tg1 pt1)
    (ht1 : ∀ (s : Shared) (H : Hp) (C : Addr) (cl : List (Str × Addr)) (fp : List Addr), ETs (X.blk s H scope (compEnvC scope cl C X.env) fp) Z ifs1 tt1)
    (he : ∀ (s : Shared) (H : Hp) (C : Addr) (cl : List (Str × Addr)) (fp : List Addr), EE (X.blk s H scope (compEnvC scope cl C X.env) fp) Z elt te)
    (hvs : own.map (·.2) = vs := by rfl) (hv : ∀ j ∈ vs1, j ∈ own.map (·.2) := by decide) (hsl : ∀ j ∈ pt.slots, j ∈ vs := by decide) (hsl1 : ∀ j ∈ pt1.slots, j ∈ vs1 := by decide) (hs : ∀ x, foldedSetIterable iter X.env x = pure x := by intro _; kernel_rfl) (hs1 : ∀ env x, foldedSetIterable iter1 env x = pure x := by intro _ _; kernel_rfl) :
    ES X Z (.Assign [.Name y py] (.ListComp elt [⟨tg, iter, ifs, 0⟩, ⟨tg1, iter1, ifs1, 0⟩] scope pos) spos) (msSet i (mLc2 mi pt tt mi1 pt1 tt1 te vs vs1)) := by
  subst hvs
  exact ⟨PS.imp (ps_setLc2 (wi := tMI X.K Z mi) (wi1 := tMI X.K Z mi1) hc hN hy hyl hsw hi.tmi ok hv (fun a b c d f => (hg a b c d f).pg) (fun a b c d f => (ht a b c d f).pts) (fun a b c d f => (hi1 a b c d f).tmi) (fun a b c d f => (hg1 a b c d f).pg) (fun a b c d f => (ht1 a b c d f).pts) (fun a b c d f => (he a b c d f).pe) hs hs1) fun D σ H ⟨ρ, S, D', hE, hS, hm, h1, h2, h3, h4⟩ =>
    lc2_read (fun σ H ρ S R R' a b c d => ⟨ρ, S, R, a, b, c, d⟩) (fun σ H ρ S R R' a b c d => ⟨ρ, S, R, a, b, c, d⟩) hsl hsl1 hE hS hm fun v H1 ⟨x, S1, t1, r1, s1, q1⟩ => h1 _ _ ⟨_, S1, t1, (hE.mono t1).set r1, s1, q1⟩⟩
theorem es_setlc2V {i : Nat} {y : Str} {py spos : Pos} (hc : X.calm = true) (hN : X.N.Nodup) (hy : X.N[i]? = some y) (hyl : X.env.scope.names.lookup y = some .local)
    (hsw : swapsWith (.ListComp elt [⟨tg, iter, ifs, 0⟩, ⟨tg1, iter1, ifs1, 0⟩] scope pos) (some (.Name y py)) spos.line X.env = pure true) (hi : EI X Z tg iter mi) (ok : BlkOk X.N X.env.scope scope own)
    (hg : ∀ (s : Shared) (H : Hp) (C : Addr) (cl : List (Str × Addr)) (fp : List Addr), EG (X.blk s H scope (compEnvC scope cl C X.env) fp) Z tg pt)
    (ht : ∀ (s : Shared) (H : Hp) (C : Addr) (cl : List (Str × Addr)) (fp : List Addr), ETs (X.blk s H scope (compEnvC scope cl C X.env) fp) Z ifs tt)
    (hi1 : ∀ (s : Shared) (H : Hp) (C : Addr) (cl : List (Str × Addr)) (fp : List Addr), EI (X.blk s H scope (compEnvC scope cl C X.env) fp) Z tg1 iter1 mi1)
    (hg1 : ∀ (s : Shared) (H : Hp) (C : Addr) (cl : List (Str × Addr)) (fp : List Addr), EG (X.blk s H scope (compEnvC scope cl C X.env) fp) Z tg1 pt1)
    (ht1 : ∀ (s : Shared) (H : Hp) (C : Addr) (cl : List (Str × Addr)) (fp : List Addr), ETs (X.blk s H scope (compEnvC scope cl C X.env) fp) Z ifs1 tt1)
    (he : ∀ (s : Shared) (H : Hp) (C : Addr) (cl : List (Str × Addr)) (fp : List Addr), EE (X.blk s H scope (compEnvC scope cl C X.env) fp) Z elt te)
    (hvs : own.map (·.2) = vs := by rfl) (hv : ∀ j ∈ vs1, j ∈ own.map (·.2) := by decide) (hsl : ∀ j ∈ pt.slots, j ∈ vs := by decide) (hsl1 : ∀ j ∈ pt1.slots, j ∈ vs1 := by decide) (hs : ∀ x, foldedSetIterable iter X.env x = pure x := by intro _; kernel_rfl) (hs1 : ∀ env x, foldedSetIterable iter1 env x = pure x := by intro _ _; kernel_rfl) :
    ES X Z (.Assign [.Name y py] (.ListComp elt [⟨tg, iter, ifs, 0⟩, ⟨tg1, iter1, ifs1, 0⟩] scope pos) spos) (msSet i (mLc2V mi pt tt mi1 pt1 tt1 te vs vs1)) :=
  es_imp (es_fzD i (es_setlc2 hc hN hy hyl hsw (ei_up hi) ok hg (fun a b c d f => ets_up (ht a b c d f)) (fun a b c d f => ei_up (hi1 a b c d f)) hg1 (fun a b c d f => ets_up (ht1 a b c d f)) (fun a b c d f => ee_up (he a b c d f)) hvs hv hsl hsl1 hs hs1)) fun D ρ S h =>
    ⟨_, h, fun I S1 q => lcL2_up (fun l S2 q p hp => ⟨ρ, p, l, rfl, supd_same, by rw [sdel_supd hp]; exact q⟩) _ _ _ q⟩
end
end Mv
namespace Mv
open PySem PySem.Spec PyProof.Rows L2 An Rw
/-- the law's call, with two tables -/
theorem law_in2 {K : PySem.W.Frag} {ft : Bool} {tb tb2 a : Addr} {H : Hp} {ns : List Int} {W : MW} (hT : H tb = some (.tbl #[])) (hT2 : H tb2 = some (.tbl #[])) (hS : SqL K H a (ns.map V.int))
    (hW : ∀ (x : MV) (S0 : Sto), (∀ R, listV [x] S0 R = newL (ns.map MV.int) S0 R) → W [x] S0 (fun v _ => v = .bl true)) : spM K ⟨[tb, tb2], ft⟩ 1 W [.ref a] H (fun v _ => v = .bl true) fun _ _ _ => False := by
  have tabs : ∀ P ∈ [tb, tb2], GxR.TabG H P := fun P hP => by
    rcases List.mem_cons.mp hP with e | e
    · rw [e]; exact ⟨#[], hT, True.intro⟩
    · rw [List.mem_singleton.mp e]; exact ⟨#[], hT2, True.intro⟩
  have fin : ∀ (S : Sto) v H', MQ K ⟨[tb, tb2], ft⟩ S H (fun v _ => v = .bl true) v H' → v = .bl true := fun S v H' ⟨m, S', t, r, s, e⟩ => by
    subst e
    unfold RM at r
    exact r
  rcases hS with hS | hS
  · refine ⟨rfl, [.ref a], supd sto0 a (.rl (ns.map .int)), _, RMs.cons (by unfold RM; rfl) RMs.nil, ⟨fun b o e => ?_, tabs⟩, hW _ _ fun R => ?_, fin _⟩
    · by_cases hb : b = a
      · subst hb
        rw [supd_same] at e
        cases e
        exact ⟨_, hS, rms_ints ns⟩
      · rw [supd_ne hb] at e
        cases e
    · show (match lookL (supd sto0 a (.rl (ns.map .int))) a with | some l => newL l _ R | none => False) = _
      unfold lookL
      rw [supd_same]
  · exact ⟨rfl, [.frz (ns.map .int)], sto0, _, RMs.cons (by unfold RM; exact ⟨a, _, rfl, .inr hS, rms_ints ns⟩) RMs.nil, ⟨fun b o e => (by cases e), tabs⟩, hW _ _ fun R => rfl, fin _⟩
end Mv
namespace Rw
open PySem PySem.Spec PyProof.Rows L2 Mv
/-! the hook with a second def's code and table -/
abbrev AlZ2 : Type := Bool × AlZ
def obZ2 (ts : List (Str × List He.Dv)) (fa : List He.Fa) (fn : List He.DefD) (nm nm2 : Str) (es : List Str) (qs : List KQ) (main : Str) (g : Addr → Option Obj) (K : PySem.W.Frag) : AlZ2 := (tabB g K nm2, obZ ts fa fn nm es qs main g K)
def obsZ2 (ts : List (Str × List He.Dv)) (fa : List He.Fa) (fn : List He.DefD) (nm nm2 : Str) (es : List Str) (qs : List KQ) (main : Str) (g : Addr → Option Obj) : AlZ2 := frcL (asZ g) fun as => obZ2 ts fa fn nm nm2 es qs main g (He.frG g as)
structure SaysZ2 (ts : List (Str × List He.Dv)) (fa : List He.Fa) (fn : List He.DefD) (nm nm2 : Str) (es : List Str) (qs : List KQ) (main : Str) (T : FnT) (K : PySem.W.Frag) (h : Heap) : Prop where
  z : SaysZ ts fa fn nm es qs main T K h
  t2 : ∃ c P, TabS K nm2 h c P
theorem saysZ2_of {ts : List (Str × List He.Dv)} {fa : List He.Fa} {fn : List He.DefD} {nm nm2 : Str} {es : List Str} {qs : List KQ} {main : Str} {T : FnT} {h : Heap} {K : PySem.W.Frag} (hK : K.In h) (e : obZ2 ts fa fn nm nm2 es qs main h.get? K = (true, ((es.map fun _ => some T, true), (true, (true, He.valD fn))))) : SaysZ2 ts fa fn nm nm2 es qs main T K h :=
  ⟨saysZ_of hK (congrArg (fun z : AlZ2 => z.2) e), tabB_ok hK (congrArg (fun z : AlZ2 => z.1) e)⟩
def hookZ2 (ts : List (Str × List He.Dv)) (fa : List He.Fa) (fn : List He.DefD) (nm nm2 : Str) (es : List Str) (qs : List KQ) (main : Str) (T : FnT) : PySem.W.Hook where
  α := AlZ2
  obs := fun s => obsZ2 ts fa fn nm nm2 es qs main s.heap.get?
  val := fun _ => (true, ((es.map fun _ => some T, true), (true, (true, He.valD fn))))
  says := fun _ h => ∃ K : PySem.W.Frag, K.In h ∧ SaysZ2 ts fa fn nm nm2 es qs main T K h
  of := fun _ s e => ⟨_, He.frG_in, saysZ2_of He.frG_in ((frcL_eq _ (fun as => obZ2 ts fa fn nm nm2 es qs main s.heap.get? (He.frG s.heap.get? as))).symm.trans e)⟩
  keeps := fun _ _ _ ⟨K, hK, c⟩ k => ⟨K, PySem.W.Frag.In.keeps hK k, ⟨⟨c.z.y.says, let ⟨a, P, t⟩ := c.z.y.tab; ⟨a, P, t.keeps k⟩⟩, c.z.e⟩, let ⟨a, P, t⟩ := c.t2; ⟨a, P, t.keeps k⟩⟩
theorem obsZ2_eq {ts : List (Str × List He.Dv)} {fa : List He.Fa} {fn : List He.DefD} {nm nm2 : Str} {es : List Str} {qs : List KQ} {main : Str} {T : FnT} {g : Addr → Option Obj} {s : Shared} (h : ∀ a, g a = s.heap.get? a) : obsZ2 ts fa fn nm nm2 es qs main g = (hookZ2 ts fa fn nm nm2 es qs main T).obs s := by
  have e : g = s.heap.get? := funext h
  rw [e] <;> rfl
end Rw

set_option Elab.async false
set_option linter.all false
set_option maxRecDepth 100000
set_option maxHeartbeats 4000000
/-! A run that has not woken a sleeping generator does the same whatever that generator would do; it leaves it as it is. So a contract that says nothing about the generators of the state can be used beside one that sleeps: in the state in which each sleeping generator is one that nothing can wake. -/
namespace Gp
open PySem
def noGen : List Frame → Bool
  | [] => true
  | .ret .. :: fs => noGen fs
  | .gen .. :: _ => false
def clean : GenState → Prop
  | .suspended _ _ _ _ fs _ => noGen fs = true
  | _ => True
def cleanE : End → Prop
  | .susp _ _ _ _ _ _ fs => noGen fs = true
  | .ret _ => True
theorem noGen_app : ∀ (a b : List Frame), noGen a = true → noGen b = true → noGen (a ++ b) = true
  | [], b, _, h => h
  | .ret .. :: a, b, h, h2 => noGen_app a b h h2
  | .gen .. :: a, b, h, h2 => by cases h
theorem noGen_split : ∀ fs : List Frame, noGen fs = true → splitAtGen fs = none
  | [], _ => rfl
  | .ret .. :: fs, h => by
    show (splitAtGen fs).map _ = none
    rw [noGen_split fs h]
    rfl
  | .gen .. :: fs, h => by cases h
theorem clean_end {e : End} (h : cleanE e) : clean e.genState := by
  cases e with
  | ret r => exact trivial
  | susp v g l k c p fs => exact h
structure Po (D : Nat → Prop) (s0 s : Shared) : Prop where
  heap : s.heap = s0.heap
  drawn : s.drawn = s0.drawn
  toks : s.toks = s0.toks
  os : s.os = s0.os
  size : s.gens.size = s0.gens.size
  po : ∀ i, D i → ∃ w k l c p fs cl, s0.gens[i]? = some (.suspended (fun _ => .unsupported w) l c p fs cl) ∧ s.gens[i]? = some (.suspended k l c p fs cl)
  sm : ∀ i, ¬ D i → s.gens[i]? = s0.gens[i]? ∧ ∀ x, s0.gens[i]? = some x → clean x
section
variable {M : Model} {D : Nat → Prop} {s0 s s0' s' : Shared} {g : Nat} {x : GenState}
theorem no_uns {Γ : Ctx} {p : Pos} {t : Sem PySem.Fin} {fs : List Frame} {e : End} (h : Runs M Γ p t fs s e s') : ∀ w, t ≠ .unsupported w := by
  induction h with
  | segRet _ _ ih1 _ => exact ih1
  | segGen _ _ ih1 _ => exact ih1
  | segSuspOut _ _ ih1 => exact ih1
  | segSuspGen _ _ _ _ ih1 _ => exact ih1
  | _ => intro w e; cases e
theorem setGen_get {s : Shared} {g i : Nat} {x : GenState} : (s.setGen g x).gens[i]? = if g = i ∧ i < s.gens.size then some x else s.gens[i]? := by
  unfold Shared.setGen
  simp only [Array.getElem?_setIfInBounds]
  by_cases h : g = i
  · subst h
    by_cases h2 : g < s.gens.size
    · simp [h2]
    · simp [h2]
  · simp [h]
theorem Po.set (h : Po D s0 s) (hg : ¬ D g) (hx : clean x) : Po D (s0.setGen g x) (s.setGen g x) where
  heap := h.heap
  drawn := h.drawn
  toks := h.toks
  os := h.os
  size := by simp [Shared.setGen, h.size]
  po := fun i hi => by
    have e : g ≠ i := fun e => hg (e ▸ hi)
    obtain ⟨w, k, l, c, p, fs, cl, h1, h2⟩ := h.po i hi
    exact ⟨w, k, l, c, p, fs, cl, by rw [setGen_get, if_neg fun z => e z.1]; exact h1, by rw [setGen_get, if_neg fun z => e z.1]; exact h2⟩
  sm := fun i hi => by
    obtain ⟨h1, h2⟩ := h.sm i hi
    rw [setGen_get, setGen_get, h.size, h1]
    refine ⟨rfl, fun y hy => ?_⟩
    split at hy
    · cases hy; exact hx
    · exact h2 y hy
theorem set_kept {i : Nat} (hg : ¬ D g) (hi : D i) : (s.setGen g x).gens[i]? = s.gens[i]? := by
  rw [setGen_get, if_neg]
  rintro ⟨rfl, _⟩
  exact hg hi
theorem Po.get (h : Po D s0 s) (hg : s0.gens[g]? = some x) (hx : ∀ k l c p fs cl, x ≠ .suspended k l c p fs cl) : ¬ D g ∧ s.gens[g]? = some x := by
  have hn : ¬ D g := fun hd => by
    obtain ⟨w, k, l, c, p, fs, cl, h1, _⟩ := h.po g hd
    rw [hg] at h1
    exact hx _ _ _ _ _ _ (Option.some.inj h1)
  exact ⟨hn, by rw [(h.sm g hn).1]; exact hg⟩
theorem Po.seen (h : Po D s0 s) (hg : s0.gens[g]? = some x) : ∃ y, s.gens[g]? = some y ∧ y.seen = x.seen := by
  by_cases hd : D g
  · obtain ⟨w, k, l, c, p, fs, cl, h1, h2⟩ := h.po g hd
    rw [hg] at h1
    cases h1
    exact ⟨_, h2, rfl⟩
  · exact ⟨x, by rw [(h.sm g hd).1]; exact hg, rfl⟩
theorem Po.push (h : Po D s0 s) {c : Code} : Po D { s0 with gens := s0.gens.push (.fresh c) } { s with gens := s.gens.push (.fresh c) } where
  heap := h.heap
  drawn := h.drawn
  toks := h.toks
  os := h.os
  size := by simp [h.size]
  po := fun i hi => by
    obtain ⟨w, k, l, c', p, fs, cl, h1, h2⟩ := h.po i hi
    have l1 := (Array.getElem?_eq_some_iff.mp h1).1
    have l2 := (Array.getElem?_eq_some_iff.mp h2).1
    refine ⟨w, k, l, c', p, fs, cl, ?_, ?_⟩
    · show (s0.gens.push _)[i]? = _
      rw [Array.getElem?_push, if_neg (by omega)]; exact h1
    · show (s.gens.push _)[i]? = _
      rw [Array.getElem?_push, if_neg (by omega)]; exact h2
  sm := fun i hi => by
    obtain ⟨h1, h2⟩ := h.sm i hi
    show (s.gens.push _)[i]? = (s0.gens.push _)[i]? ∧ ∀ x, (s0.gens.push _)[i]? = some x → clean x
    rw [Array.getElem?_push, Array.getElem?_push, h.size, h1]
    refine ⟨rfl, fun y hy => ?_⟩
    split at hy
    · cases hy; exact trivial
    · exact h2 y hy
theorem push_kept (h : Po D s0 s) {c : Code} {i : Nat} (hi : D i) : ({ s with gens := s.gens.push (.fresh c) } : Shared).gens[i]? = s.gens[i]? := by
  obtain ⟨w, k, l, c', p, fs, cl, h1, h2⟩ := h.po i hi
  have l2 := (Array.getElem?_eq_some_iff.mp h2).1
  show (s.gens.push _)[i]? = _
  rw [Array.getElem?_push, if_neg (by omega)]
theorem sim {Γ : Ctx} {p : Pos} {t : Sem PySem.Fin} {fs : List Frame} {e : End} (h : Runs M Γ p t fs s0 e s0') : noGen fs = true → ∀ s, Po D s0 s → ∃ s', Runs M Γ p t fs s e s' ∧ Po D s0' s' ∧ cleanE e ∧ ∀ i, D i → s'.gens[i]? = s.gens[i]? := by
  induction h with
  | done => exact fun _ s hp => ⟨s, .done, hp, trivial, fun _ _ => rfl⟩
  | raise => exact fun _ s hp => ⟨s, .raise, hp, trivial, fun _ _ => rfl⟩
  | again hq _ ih =>
    intro hf s hp
    obtain ⟨s', r, q⟩ := ih hf s hp
    exact ⟨s', .again hq r, q⟩
  | rule _ ih =>
    intro hf s hp
    obtain ⟨s', r, q⟩ := ih hf s hp
    exact ⟨s', .rule r, q⟩
  | «at» _ ih =>
    intro hf s hp
    obtain ⟨s', r, q⟩ := ih hf s hp
    exact ⟨s', .at r, q⟩
  | load ho _ ih =>
    intro hf s hp
    obtain ⟨s', r, q⟩ := ih hf s hp
    exact ⟨s', .load (by rw [hp.heap]; exact ho) r, q⟩
  | update ha _ ih =>
    intro hf s hp
    obtain ⟨s', r, q⟩ := ih hf { s with heap := s.heap.update _ _ } ⟨by rw [hp.heap], hp.drawn, hp.toks, hp.os, hp.size, hp.po, hp.sm⟩
    exact ⟨s', .update (by rw [hp.heap]; exact ha) r, q⟩
  | loadIfAlive _ ih =>
    intro hf s hp
    obtain ⟨s', r, q⟩ := ih hf s hp
    exact ⟨s', .loadIfAlive (by rw [hp.heap]; exact r), q⟩
  | point _ ih =>
    intro hf s hp
    obtain ⟨s', r, q⟩ := ih hf s hp
    exact ⟨s', .point r, q⟩
  | alloc _ ih =>
    intro hf s hp
    obtain ⟨s', r, q⟩ := ih hf { s with heap := s.heap.push _ } ⟨by rw [hp.heap], hp.drawn, hp.toks, hp.os, hp.size, hp.po, hp.sm⟩
    exact ⟨s', .alloc (by rw [hp.heap] at r ⊢; exact r), q⟩
  | fresh _ ih =>
    intro hf s hp
    obtain ⟨s', r, q⟩ := ih hf { s with toks := s.toks + 1 } ⟨hp.heap, hp.drawn, by rw [hp.toks], hp.os, hp.size, hp.po, hp.sm⟩
    exact ⟨s', .fresh (by rw [hp.toks] at r ⊢; exact r), q⟩
  | ask _ ih =>
    intro hf s hp
    obtain ⟨s', r, q⟩ := ih hf s hp
    exact ⟨s', .ask r, q⟩
  | choose hn _ ih =>
    intro hf s hp
    obtain ⟨s', r, q⟩ := ih hf { s with drawn := s.drawn.bump _ } ⟨hp.heap, by rw [hp.drawn], hp.toks, hp.os, hp.size, hp.po, hp.sm⟩
    exact ⟨s', .choose hn (by rw [hp.drawn] at r ⊢; exact r), q⟩
  | os _ ih =>
    intro hf s hp
    obtain ⟨s', r, q⟩ := ih hf { s with os := (Os.step s.os _).1 } ⟨hp.heap, hp.drawn, hp.toks, by rw [hp.os], hp.size, hp.po, hp.sm⟩
    exact ⟨s', .os (by rw [hp.os] at r ⊢; exact r), q⟩
  | handled _ ih =>
    intro hf s hp
    obtain ⟨s', r, q⟩ := ih hf s hp
    exact ⟨s', .handled r, q⟩
  | genState hg _ ih =>
    intro hf s hp
    obtain ⟨s', r, q⟩ := ih hf s hp
    obtain ⟨y, hy, es⟩ := hp.seen hg
    exact ⟨s', .genState hy (by rw [es]; exact r), q⟩
  | stack _ ih =>
    intro hf s hp
    obtain ⟨s', r, q⟩ := ih hf s hp
    exact ⟨s', .stack r, q⟩
  | thread _ ih =>
    intro hf s hp
    obtain ⟨s', r, q⟩ := ih hf s hp
    exact ⟨s', .thread r, q⟩
  | newGen _ ih =>
    intro hf s hp
    obtain ⟨s', r, q1, q2, q3⟩ := ih hf _ hp.push
    exact ⟨s', .newGen (by rw [hp.size]; exact r), q1, q2, fun i hi => (q3 i hi).trans (push_kept hp hi)⟩
  | call _ _ ih1 ih2 =>
    intro hf s hp
    obtain ⟨s1, r1, q1, _, k1⟩ := ih1 rfl s hp
    obtain ⟨s2, r2, q2, q3, k2⟩ := ih2 hf s1 q1
    exact ⟨s2, .call r1 r2, q2, q3, fun i hi => (k2 i hi).trans (k1 i hi)⟩
  | callSusp _ ih1 =>
    intro hf s hp
    obtain ⟨s1, r1, q1, q2, k1⟩ := ih1 rfl s hp
    exact ⟨s1, .callSusp r1, q1, noGen_app _ _ q2 rfl, k1⟩
  | yield => exact fun _ s hp => ⟨s, .yield, hp, rfl, fun _ _ => rfl⟩
  | resumeFresh hg _ hq _ ih1 ih2 =>
    intro hf s hp
    obtain ⟨hn, hg'⟩ := hp.get hg (fun _ _ _ _ _ _ z => by cases z)
    obtain ⟨s1, r1, q1, q2, k1⟩ := ih1 rfl _ (hp.set (x := .running) hn trivial)
    obtain ⟨s2, r2, q3, q4, k2⟩ := ih2 hf _ (q1.set hn (clean_end q2))
    exact ⟨s2, .resumeFresh hg' r1 hq r2, q3, q4, fun i hi => (k2 i hi).trans ((set_kept hn hi).trans ((k1 i hi).trans (set_kept hn hi)))⟩
  | @resumeSuspended Γ p g r l k s0 k₀ l₀ c₀ p₀ fs cl e₁ s₁ e s0' hg h1 hq _ ih1 ih2 =>
    intro hf s hp
    have hn : ¬ D g := fun hd => by
      obtain ⟨w, k', l', c', p', fs', cl', e1, _⟩ := hp.po g hd
      rw [hg] at e1
      cases e1
      exact no_uns h1 w rfl
    obtain ⟨e1, e2⟩ := hp.sm g hn
    have hcl : noGen fs = true := e2 _ hg
    obtain ⟨s1, r1, q1, q2, k1⟩ := ih1 hcl _ (hp.set (x := .running) hn trivial)
    obtain ⟨s2, r2, q3, q4, k2⟩ := ih2 hf _ (q1.set hn (clean_end q2))
    exact ⟨s2, .resumeSuspended (e1.trans hg) r1 hq r2, q3, q4, fun i hi => (k2 i hi).trans ((set_kept hn hi).trans ((k1 i hi).trans (set_kept hn hi)))⟩
  | resumeJustStarted hg hv _ ih =>
    intro hf s hp
    obtain ⟨hn, hg'⟩ := hp.get hg (fun _ _ _ _ _ _ z => by cases z)
    obtain ⟨s', r, q⟩ := ih hf s hp
    exact ⟨s', .resumeJustStarted hg' hv r, q⟩
  | resumeThrowFresh hg _ ih =>
    intro hf s hp
    obtain ⟨hn, hg'⟩ := hp.get hg (fun _ _ _ _ _ _ z => by cases z)
    obtain ⟨s', r, q1, q2, k⟩ := ih hf _ (hp.set (x := .finished) hn trivial)
    exact ⟨s', .resumeThrowFresh hg' r, q1, q2, fun i hi => (k i hi).trans (set_kept hn hi)⟩
  | resumeRunning hg _ ih =>
    intro hf s hp
    obtain ⟨hn, hg'⟩ := hp.get hg (fun _ _ _ _ _ _ z => by cases z)
    obtain ⟨s', r, q⟩ := ih hf s hp
    exact ⟨s', .resumeRunning hg' r, q⟩
  | resumeFinished hg _ ih =>
    intro hf s hp
    obtain ⟨hn, hg'⟩ := hp.get hg (fun _ _ _ _ _ _ z => by cases z)
    obtain ⟨s', r, q⟩ := ih hf s hp
    exact ⟨s', .resumeFinished hg' r, q⟩
  | segRet _ _ ih1 ih2 =>
    intro hf s hp
    obtain ⟨s1, r1, q1, _, k1⟩ := ih1 rfl s hp
    obtain ⟨s2, r2, q2, q3, k2⟩ := ih2 hf s1 q1
    exact ⟨s2, .segRet r1 r2, q2, q3, fun i hi => (k2 i hi).trans (k1 i hi)⟩
  | segGen _ _ _ _ => intro hf; cases hf
  | segSuspOut hs _ ih1 =>
    intro hf s hp
    obtain ⟨s1, r1, q1, q2, k1⟩ := ih1 rfl s hp
    exact ⟨s1, .segSuspOut hs r1, q1, noGen_app _ _ q2 hf, k1⟩
  | segSuspGen hs _ _ _ _ _ =>
    intro hf
    rw [noGen_split _ hf] at hs
    cases hs
def Kept (D : Nat → Prop) (s s' : Shared) : Prop := ∀ i, D i → s'.gens[i]? = s.gens[i]?
theorem wakes_sim {Γ : Ctx} {p : Pos} {g : Nat} {r : Resume} {res : GenResult} (h : Wakes M Γ p g r s0 res s0') (hp : Po D s0 s) : ∃ s', Wakes M Γ p g r s res s' ∧ Po D s0' s' ∧ Kept D s s' := by
  unfold Wakes at h
  cases hg : s0.gens[g]? with
  | none => rw [hg] at h; exact h.elim
  | some x =>
    rw [hg] at h
    by_cases hd : D g
    · obtain ⟨w, k, l, c, p', fs, cl, e1, e2⟩ := hp.po g hd
      rw [hg] at e1
      cases e1
      obtain ⟨e₁, s₁, h1, _⟩ := h
      exact (no_uns h1 w rfl).elim
    · obtain ⟨q1, q2⟩ := hp.sm g hd
      have hg' : s.gens[g]? = some x := q1.trans hg
      cases x with
      | fresh c =>
        cases r with
        | throw x =>
          obtain ⟨rfl, rfl⟩ := h
          refine ⟨s.setGen g .finished, ?_, hp.set hd trivial, fun i hi => set_kept hd hi⟩
          unfold Wakes
          rw [hg']
          exact ⟨rfl, rfl⟩
        | send v =>
          have fresh : ∀ v, v ≠ Value.none → (res = .justStarted ∧ s0' = s0) → ∃ s', Wakes M Γ p g (.send v) s res s' ∧ Po D s0' s' ∧ Kept D s s' := fun v hv ⟨e1, e2⟩ => by
            subst e1 e2
            refine ⟨s, ?_, hp, fun i hi => rfl⟩
            unfold Wakes
            rw [hg']
            cases v <;> first | exact absurd rfl hv | exact ⟨rfl, rfl⟩
          cases v with
          | none =>
            obtain ⟨e₁, s₁, h1, hq, rfl, rfl⟩ := h
            obtain ⟨s1, r1, q3, q4, k1⟩ := sim h1 rfl _ (hp.set (x := .running) hd trivial)
            refine ⟨s1.setGen g e₁.genState, ?_, q3.set hd (clean_end q4), fun i hi => (set_kept hd hi).trans ((k1 i hi).trans (set_kept hd hi))⟩
            unfold Wakes
            rw [hg']
            exact ⟨e₁, s1, r1, hq, rfl, rfl⟩
          | _ => exact fresh _ (by intro z; cases z) h
      | suspended k l c p' fs cl =>
        obtain ⟨e₁, s₁, h1, hq, rfl, rfl⟩ := h
        obtain ⟨s1, r1, q3, q4, k1⟩ := sim h1 (q2 _ hg) _ (hp.set (x := .running) hd trivial)
        refine ⟨s1.setGen g e₁.genState, ?_, q3.set hd (clean_end q4), fun i hi => (set_kept hd hi).trans ((k1 i hi).trans (set_kept hd hi))⟩
        unfold Wakes
        rw [hg']
        exact ⟨e₁, s1, r1, hq, rfl, rfl⟩
      | running =>
        obtain ⟨rfl, rfl⟩ := h
        refine ⟨s, ?_, hp, fun i hi => rfl⟩
        unfold Wakes
        rw [hg']
        exact ⟨rfl, rfl⟩
      | finished =>
        obtain ⟨rfl, rfl⟩ := h
        refine ⟨s, ?_, hp, fun i hi => rfl⟩
        unfold Wakes
        rw [hg']
        exact ⟨rfl, rfl⟩
def Bs {α : Type} (D : Nat → Prop) (s : Shared) (Q : α → Pos → Shared → Prop) : α → Pos → Shared → Prop := fun a p s' => ∃ s0', Q a p s0' ∧ Po D s0' s' ∧ Kept D s s'
theorem Bs.from {α : Type} {M : Model} {Γ : Ctx} {t : Sem α} {Q : α → Pos → Shared → Prop} {E : Value → Pos → Shared → Prop} {p : Pos} {s1 : Shared} (k : Kept D s s1) (h : Sem.wp M Γ t (Bs D s1 Q) (Bs D s1 E) p s1) : Sem.wp M Γ t (Bs D s Q) (Bs D s E) p s1 :=
  Sem.wp_mono M Γ t (fun a p' s' ⟨s0', q, r, k'⟩ => ⟨s0', q, r, fun i hi => (k' i hi).trans (k i hi)⟩) (fun a p' s' ⟨s0', q, r, k'⟩ => ⟨s0', q, r, fun i hi => (k' i hi).trans (k i hi)⟩) p s1 h
theorem wp_sim {α : Type} (M : Model) (Γ : Ctx) (t : Sem α) : ∀ (Q : α → Pos → Shared → Prop) (E : Value → Pos → Shared → Prop) (p : Pos) (s0 s : Shared), Po D s0 s → Sem.wp M Γ t Q E p s0 → Sem.wp M Γ t (Bs D s Q) (Bs D s E) p s := by
  induction t with
  | pure a => intro Q E p s0 s hp h; exact ⟨s0, h, hp, fun _ _ => rfl⟩
  | raise e => intro Q E p s0 s hp h; exact ⟨s0, h, hp, fun _ _ => rfl⟩
  | unsupported _ => intro Q E p s0 s hp h; exact h
  | finish _ => intro Q E p s0 s hp h; exact h
  | rule _ k ih => intro Q E p s0 s hp h; exact ih () Q E p s0 s hp h
  | «at» p' k ih => intro Q E p s0 s hp h; exact ih () Q E p' s0 s hp h
  | load a _ k ih => intro Q E p s0 s hp h; obtain ⟨o, ho, h⟩ := h; exact ⟨o, by rw [hp.heap]; exact ho, ih o Q E p s0 s hp h⟩
  | update a _ f k ih =>
    intro Q E p s0 s hp h
    exact ⟨by rw [hp.heap]; exact h.1, ih () Q E p { s0 with heap := s0.heap.update a f } { s with heap := s.heap.update a f } ⟨by rw [hp.heap], hp.drawn, hp.toks, hp.os, hp.size, hp.po, hp.sm⟩ h.2⟩
  | loadIfAlive a k ih => intro Q E p s0 s hp h; exact ih _ Q E p s0 s hp (by rw [hp.heap]; exact h)
  | point _ k ih => intro Q E p s0 s hp h; exact ih () Q E p s0 s hp h
  | register _ _ => intro Q E p s0 s hp h; exact h
  | alloc o k ih =>
    intro Q E p s0 s hp h
    have h : Sem.wp M Γ (k s0.heap.objs.size) Q E p { s0 with heap := s0.heap.push o } := h
    exact ih _ Q E p { s0 with heap := s0.heap.push o } { s with heap := s.heap.push o } ⟨by rw [hp.heap], hp.drawn, hp.toks, hp.os, hp.size, hp.po, hp.sm⟩ (by rw [hp.heap]; exact h)
  | fresh k ih =>
    intro Q E p s0 s hp h
    have h : Sem.wp M Γ (k s0.toks) Q E p { s0 with toks := s0.toks + 1 } := h
    exact ih _ Q E p { s0 with toks := s0.toks + 1 } { s with toks := s.toks + 1 } ⟨hp.heap, hp.drawn, by rw [hp.toks], hp.os, hp.size, hp.po, hp.sm⟩ (by rw [hp.toks]; exact h)
  | ask k ih => intro Q E p s0 s hp h; exact ih _ Q E p s0 s hp h
  | choose src m k ih =>
    intro Q E p s0 s hp h
    exact ⟨h.1, ih _ Q E p { s0 with drawn := s0.drawn.bump src } { s with drawn := s.drawn.bump src } ⟨hp.heap, by rw [hp.drawn], hp.toks, hp.os, hp.size, hp.po, hp.sm⟩ (by rw [hp.drawn]; exact h.2)⟩
  | os q _ k ih =>
    intro Q E p s0 s hp h
    have h : Sem.wp M Γ (k (Os.step s0.os q).2) Q E p { s0 with os := (Os.step s0.os q).1 } := h
    exact ih _ Q E p { s0 with os := (Os.step s0.os q).1 } { s with os := (Os.step s.os q).1 } ⟨hp.heap, hp.drawn, hp.toks, by rw [hp.os], hp.size, hp.po, hp.sm⟩ (by rw [hp.os]; exact h)
  | call c hd _ _ k ih =>
    intro Q E p s0 s hp h
    obtain ⟨r, s1, hr, h⟩ := h
    obtain ⟨s2, r2, q1, _, k1⟩ := sim hr rfl s hp
    exact ⟨r, s2, r2, Bs.from k1 (ih r Q E p s1 s2 q1 h)⟩
  | handled own k ih => intro Q E p s0 s hp h; exact ih _ Q E p s0 s hp h
  | genState g k ih =>
    intro Q E p s0 s hp h
    obtain ⟨st, hs, h⟩ := h
    obtain ⟨y, hy, es⟩ := hp.seen hs
    exact ⟨y, hy, ih _ Q E p s0 s hp (by rw [es]; exact h)⟩
  | newGen c k ih =>
    intro Q E p s0 s hp h
    have h : Sem.wp M Γ (k s0.gens.size) Q E p { s0 with gens := s0.gens.push (.fresh c) } := h
    exact Bs.from (s := s) (s1 := { s with gens := s.gens.push (.fresh c) }) (fun i hi => push_kept hp hi) (ih _ Q E p _ _ hp.push (by rw [hp.size]; exact h))
  | resume g r _ k ih =>
    intro Q E p s0 s hp h
    obtain ⟨res, s1, hw, h⟩ := h
    obtain ⟨s2, w2, q1, k1⟩ := wakes_sim hw hp
    exact ⟨res, s2, w2, Bs.from k1 (ih res Q E p s1 s2 q1 h)⟩
  | yield _ _ _ _ => intro Q E p s0 s hp h; exact h
  | stack k ih => intro Q E p s0 s hp h; exact ih _ Q E p s0 s hp h
  | fork _ _ => intro Q E p s0 s hp h; exact h
  | thread k ih => intro Q E p s0 s hp h; exact ih _ Q E p s0 s hp h
  | await _ _ _ _ _ => intro Q E p s0 s hp h; exact h
/-- nothing can wake it -/
def numb : GenState → GenState
  | .suspended _ l c p fs cl => .suspended (fun _ => .unsupported "asleep") l c p fs cl
  | x => x
def Asleep (s : Shared) (i : Nat) : Prop := ∃ k l c p fs cl, s.gens[i]? = some (.suspended k l c p fs cl)
def numbS (s : Shared) : Shared := { s with gens := s.gens.map numb }
theorem po_numb (s : Shared) : Po (Asleep s) (numbS s) s where
  heap := rfl
  drawn := rfl
  toks := rfl
  os := rfl
  size := by simp [numbS]
  po := fun i ⟨k, l, c, p, fs, cl, h⟩ => ⟨"asleep", k, l, c, p, fs, cl, by simp [numbS, h, numb], h⟩
  sm := fun i hi => by
    have e : (numbS s).gens[i]? = (s.gens[i]?).map numb := by simp [numbS]
    cases hc : s.gens[i]? with
    | none => rw [e, hc]; exact ⟨rfl, fun x h => by cases h⟩
    | some x =>
      rw [e, hc]
      cases x with
      | suspended k l c p fs cl => exact absurd ⟨k, l, c, p, fs, cl, hc⟩ hi
      | _ => exact ⟨rfl, fun x h => by cases h; exact trivial⟩
theorem numb_bare {s : Shared} (h : PyProof.Rows.AllBare s.gens) : PyProof.Rows.AllBare (numbS s).gens := fun y hy => by
  obtain ⟨x, hx, rfl⟩ := Array.mem_map.mp hy
  have := h x hx
  cases x <;> exact this
theorem po_bare (h : Po D s0 s) (hb : PyProof.Rows.AllBare s0.gens) : PyProof.Rows.AllBare s.gens := fun y hy => by
  obtain ⟨i, hi, e⟩ := Array.mem_iff_getElem.mp hy
  have e' : s.gens[i]? = some y := by rw [Array.getElem?_eq_getElem hi, e]
  by_cases hd : D i
  · obtain ⟨w, k, l, c, p, fs, cl, h1, h2⟩ := h.po i hd
    rw [e'] at h2
    cases h2
    have := hb _ (Array.mem_of_getElem? h1)
    exact this
  · rw [(h.sm i hd).1] at e'
    exact hb _ (Array.mem_of_getElem? e')
/-- THE RULE: what holds in the state with all sleepers numb holds beside them; they are as before -/
theorem beside {α : Type} {A : Around} {t : Sem α} {Q Q' : α → Shared → Prop} {E E' : Value → Shared → Prop} (h : wpAny M A t Q E (numbS s))
    (hQ : ∀ a s0' s', Q a s0' → Po (Asleep s) s0' s' → Kept (Asleep s) s s' → Q' a s') (hE : ∀ a s0' s', E a s0' → Po (Asleep s) s0' s' → Kept (Asleep s) s s' → E' a s') : wpAny M A t Q' E' s := fun Γ p hΓ =>
  Sem.wp_mono M Γ t (fun a p' s' ⟨s0', q, r, k⟩ => hQ a s0' s' q r k) (fun a p' s' ⟨s0', q, r, k⟩ => hE a s0' s' q r k) p s (wp_sim M Γ t _ _ p (numbS s) s (po_numb s) (h Γ p hΓ))
end
end Gp

set_option Elab.async false
set_option linter.all false
set_option maxRecDepth 100000
set_option maxHeartbeats 4000000
/-! A generator def `for number in range(record_count(sizes)): yield record_at(sizes, number)`, its frame walked beside that of its consumer, which goes on between the turns. -/
namespace Gd
open PySem PySem.Spec PyProof.Rows L2 Mv GenW Ge Gp
/-- the names of the generator's frame -/
structure GEnv (cenv : PySem.Env) (C : Addr) : Prop where
  kind : cenv.scope.kind = .function
  co : cenv.scope.isCoroutine = false
  glob : cenv.globals = mainGlobals
  blt : cenv.builtins = builtinsNs
  fr : cenv.frame = some C
  loc : cenv.locals = C
  kz : cenv.kindOf "sizes" = some .local
  kn : cenv.kindOf "number" = some .local
  kr : cenv.kindOf "range" = some .globalImplicit
  kc : cenv.kindOf "record_count" = some .globalImplicit
  ka : cenv.kindOf "record_at" = some .globalImplicit
section
variable {P : Program} {w : World} {A : Around} {K : PySem.W.Frag} {mg : Str → Option Value} {base : Heap} {f : Addr} {fd : FuncData} {s : Shared} {H : Hp} {outer : List PySem.Env} {k : Nat} {sp : Sp} {ps : List Str}
theorem call_two {env : PySem.Env} {m : Str → Option Value} {p1 p2 p3 p4 : Pos} {E : Value → Shared → Prop} {Q : VK} {vy vx : V} {uy ux : Value} (F : FnOk P w K mg base CX0 k f fd ps sp) (hb : Binds K fd ps []) (hl : ps.length = 2) (e0 : Env0 P w K mg base A outer s H) (hr : Room k A) (hm : mg "record_at" = some (.ref f)) (hkp : PySem.W.keepIn K (.ref f) = true)
    (hg : env.globals = mainGlobals) (hk : env.scope.kind = .function) (kf : env.kindOf "record_at" = some .globalImplicit) (kx : env.kindOf "number" = some .local) (ky : env.kindOf "sizes" = some .local)
    (hn : s.heap.Ns env.locals m) (hx : m "number" = some ux) (hy : m "sizes" = some uy) (ry : RelV vy uy) (rx : RelV vx ux) (h : sp [vy, vx] H Q E0) :
    wpAny (model P w) A (eval (.Call (.Name "record_at" p1) [.Name "sizes" p2, .Name "number" p3] [] p4) env) (fun u s3 => CE outer P w H s Q u s3) E s := by
  have kin : K.In s.heap := e0.mod.kin.keeps fun b o e => (e0.bs b o e).1
  refine wpAny_Call_Name_kw (Calls.Name_function_global hk kf (Calls.loadGlobal_global (by rw [hg]; exact e0.mod.glob.keeps fun b o e => (e0.bs b o e).1) hm ?_))
  refine PySem.W.callWith_K (h₀ := base) (e := .Name "sizes" p2) (rest := [.Name "number" p3]) e0.mod.kin hkp ?_ rfl rfl
  show wpAny _ _ (spliced ((false, eval (.Name "sizes" p2) env) :: (false, eval (.Name "number" p3) env) :: [])) _ _ s
  refine Calls.spliced_cons (wpAny_Name (wpAny_loadName_local hk ky hn hy ?_))
  refine Calls.spliced_cons (wpAny_Name (wpAny_loadName_local hk kx hn hx ?_))
  refine Calls.spliced_nil ⟨kin, wpAny_call (codeAny_mono (F.run A outer s H ⟨[uy, ux], []⟩ [uy, ux] [vy, vx] Q E0 hr e0 (hb s [uy, ux] kin hl.symm) (.cons ry (.cons rx .nil)) h) fun r s' hq => ?_)⟩
  cases r with
  | error e => exact hq.elim
  | ok fl =>
    cases fl with
    | ret u => exact hq
    | next => exact hq.elim
    | brk => exact hq.elim
    | cont => exact hq.elim
theorem call_one {env : PySem.Env} {m : Str → Option Value} {p1 p2 p4 : Pos} {E : Value → Shared → Prop} {Q : VK} {vy : V} {uy : Value} (F : FnOk P w K mg base CX0 k f fd ps sp) (hb : Binds K fd ps []) (hl : ps.length = 1) (e0 : Env0 P w K mg base A outer s H) (hr : Room k A) (hm : mg "record_count" = some (.ref f)) (hkp : PySem.W.keepIn K (.ref f) = true)
    (hg : env.globals = mainGlobals) (hk : env.scope.kind = .function) (kf : env.kindOf "record_count" = some .globalImplicit) (ky : env.kindOf "sizes" = some .local)
    (hn : s.heap.Ns env.locals m) (hy : m "sizes" = some uy) (ry : RelV vy uy) (h : sp [vy] H Q E0) :
    wpAny (model P w) A (eval (.Call (.Name "record_count" p1) [.Name "sizes" p2] [] p4) env) (fun u s3 => CE outer P w H s Q u s3) E s := by
  have kin : K.In s.heap := e0.mod.kin.keeps fun b o e => (e0.bs b o e).1
  refine wpAny_Call_Name_kw (Calls.Name_function_global hk kf (Calls.loadGlobal_global (by rw [hg]; exact e0.mod.glob.keeps fun b o e => (e0.bs b o e).1) hm ?_))
  refine PySem.W.callWith_K (h₀ := base) (e := .Name "sizes" p2) (rest := []) e0.mod.kin hkp ?_ rfl rfl
  show wpAny _ _ (spliced ((false, eval (.Name "sizes" p2) env) :: [])) _ _ s
  refine Calls.spliced_cons (wpAny_Name (wpAny_loadName_local hk ky hn hy ?_))
  refine Calls.spliced_nil ⟨kin, wpAny_call (codeAny_mono (F.run A outer s H ⟨[uy], []⟩ [uy] [vy] Q E0 hr e0 (hb s [uy] kin hl.symm) (.cons ry .nil) h) fun r s' hq => ?_)⟩
  cases r with
  | error e => exact hq.elim
  | ok fl =>
    cases fl with
    | ret u => exact hq
    | next => exact hq.elim
    | brk => exact hq.elim
    | cont => exact hq.elim
end
section
variable {X : Cx} {pins : List (Addr × Obj)} {σ : L2.St} {H H' : Hp} {s s' : Shared} {C I a : Addr} {g i N : Nat} {uy : Value}
/-- the generator's frame and object -/
structure G0 (X : Cx) (pins : List (Addr × Obj)) (σ : L2.St) (C a : Addr) (g : Nat) (uy : Value) (H : Hp) (s : Shared) : Prop where
  inv : Inv X pins σ H s
  ns : ∃ m, s.heap.Ns C m ∧ m "sizes" = some uy
  gen : s.heap.IsGen a g
  fC : FpOk X pins H C
  fa : FpOk X pins H a
  ca : C ≠ a
/-- with its iterator -/
structure G1 (X : Cx) (pins : List (Addr × Obj)) (σ : L2.St) (C a : Addr) (g : Nat) (uy : Value) (I : Addr) (N i : Nat) (H : Hp) (s : Shared) : Prop where
  g0 : G0 X pins σ C a g uy H s
  it : IsRangeIter s.heap I (0 + (i : Int) * 1) ((N : Int) - (i : Int)) 1
  fI : FpOk X pins H I
  cI : C ≠ I
  Ia : I ≠ a
theorem G0.same (p : G0 X pins σ C a g uy H s) (h1 : s'.heap = s.heap) (h2 : s'.os = s.os) (h3 : AllBare s'.gens) : G0 X pins σ C a g uy H s' :=
  ⟨inv_same p.inv h1 h2 h3, by rw [h1]; exact p.ns, by rw [h1]; exact p.gen, p.fC, p.fa, p.ca⟩
theorem G1.same (p : G1 X pins σ C a g uy I N i H s) (h1 : s'.heap = s.heap) (h2 : s'.os = s.os) (h3 : AllBare s'.gens) : G1 X pins σ C a g uy I N i H s' :=
  ⟨p.g0.same h1 h2 h3, by rw [h1]; exact p.it, p.fI, p.cI, p.Ia⟩
/-- behind a call out of the generator's frame -/
theorem G0.called {cenv : PySem.Env} {Q : VK} {u : Value} (p : G0 X pins σ C a g uy H s) (hf : cenv.frame = some C) (h : CE (cenv :: X.stack) X.prog X.w H s Q u s') : ∃ v H', G0 X pins σ C a g uy H' s' ∧ RelV v u ∧ Q v H' ∧ (∀ b o, FpOk X pins H b → b ≠ C → s.heap.get? b = some o → s'.heap.get? b = some o ∧ FpOk X pins H' b) := by
  obtain ⟨v, H', os, bare, un, hok, r, q⟩ := h
  have ef : frs (cenv :: X.stack) = C :: frs X.stack := by unfold frs; rw [List.filterMap_cons, hf]
  rw [ef] at un
  have sub : ∀ b, b ∉ frs X.stack → b ≠ C → b ∉ C :: frs X.stack := fun b h1 h2 z => (List.mem_cons.mp z).elim h2 h1
  have inv' : Inv X pins σ H' s' := by
    refine p.inv.call' (ch := [C]) os ⟨fun b o e n h1 h2 => ?_, fun b o e n h1 h2 => ?_, fun b o e n h2 => un.free b o e n (by simp), fun b o e h2 => un.there b o e (by simp), un.tups, un.frzs, un.tbls⟩ hok bare fun b hb => ?_
    · exact un.keep b o e n (sub b h1 fun z => h2 (by rw [z]; exact List.mem_singleton.mpr rfl)) (by simp)
    · exact un.slot b o e n (List.mem_cons_of_mem _ h1) (by simp)
    · rw [List.mem_singleton.mp hb]
      exact ⟨p.fC.2.2.2.1, p.fC.2.1, p.fC.2.2.2.2.1, p.fC.2.2.2.2.2⟩
  have keep : ∀ b o, FpOk X pins H b → b ≠ C → s.heap.get? b = some o → s'.heap.get? b = some o := fun b o f hb e => un.keep b o e f.1 (sub b (fp_out p.inv f) hb) (by simp)
  have fp : ∀ b o, FpOk X pins H b → s.heap.get? b = some o → FpOk X pins H' b := fun b o f e => ⟨un.free b o e f.1 (by simp), f.2⟩
  obtain ⟨m, ⟨oC, es, ep, hoC, hdC⟩, hm⟩ := p.ns
  obtain ⟨sl, hC'⟩ := un.slot C oC hoC p.fC.1 List.mem_cons_self (by simp)
  obtain ⟨oa, nm, qn, hoa, ra⟩ := p.gen
  exact ⟨v, H', ⟨inv', ⟨m, ⟨{ oC with slots := sl }, es, ep, hC', hdC⟩, hm⟩, ⟨oa, nm, qn, keep a oa p.fa (Ne.symm p.ca) hoa, ra⟩, fp C oC p.fC hoC, fp a oa p.fa hoa, p.ca⟩, r, q, fun b o f hb e => ⟨keep b o f hb e, fp b o f e⟩⟩
theorem G1.called {cenv : PySem.Env} {Q : VK} {u : Value} (p : G1 X pins σ C a g uy I N i H s) (hf : cenv.frame = some C) (h : CE (cenv :: X.stack) X.prog X.w H s Q u s') : ∃ v H', G1 X pins σ C a g uy I N i H' s' ∧ RelV v u ∧ Q v H' := by
  obtain ⟨v, H', p', r, q, kp⟩ := p.g0.called hf h
  obtain ⟨h1, h2⟩ := kp I _ p.fI (Ne.symm p.cI) p.it
  exact ⟨v, H', ⟨p', h1, h2, p.cI, p.Ia⟩, r, q⟩
/-- the state at a call out of the generator's frame -/
theorem G0.env0 {cenv : PySem.Env} {A : Around} (p : G0 X pins σ C a g uy H s) (N : GEnv cenv C) (hfr : A.frames = some (cenv :: X.stack)) : Env0 X.prog X.w X.K X.mg X.base A (cenv :: X.stack) s H := by
  have e0 := p.inv.env0
  obtain ⟨m, hn, hm⟩ := p.ns
  refine ⟨hfr, e0.mod, e0.bs, e0.bsz, Heap.FunFrames.cons (by rw [N.kind]; decide) N.fr hn (fp_base p.inv p.fC) e0.funs, fun b hbm => ?_, e0.hok, e0.bare⟩
  have ef : frs (cenv :: X.stack) = C :: frs X.stack := by unfold frs; rw [List.filterMap_cons, N.fr]
  rw [ef] at hbm
  rcases List.mem_cons.mp hbm with z | z
  · rw [z]; exact p.fC.1
  · exact e0.frf b z
end
end Gd

set_option Elab.async false
set_option linter.all false
set_option maxRecDepth 100000
set_option maxHeartbeats 4000000
/-! The generator's turns. -/
namespace Gd
open PySem PySem.Spec PyProof.Rows L2 Mv GenW Ge Gp
/-- the reading's words: N turns; ahead of turn i; behind turn i, when x is out -/
structure Wd where
  cont : Nat → Nat → List (Addr × Obj) → L2.St → Hp → Prop
  given : Nat → Nat → V → List (Addr × Obj) → L2.St → Hp → Prop
section
variable (X : Cx) (C a : Addr) (g : Nat) (uy : Value) (B : Nat) (W : Wd)
def YG : Protocol := fun n _ v s kap =>
  ∃ (N i : Nat) (x : V) (I : Addr) (pins : List (Addr × Obj)) (σ : L2.St) (H : Hp), n + (i + 1) = B ∧ i < N ∧ N < B ∧ RelV x v ∧ G1 X pins σ C a g uy I N (i + 1) H s ∧ W.given N i x pins σ H ∧
    ∀ pins' s' σ' H', G1 X pins' σ' C a g uy I N (i + 1) H' s' → W.cont N (i + 1) pins' σ' H' → kap (.send .none) s' ∧ kap (.send (.bool true)) s'
def FG (_ : Nat) (_ s1 : Shared) : Prop := ∃ N pins σ H, Inv X pins σ H s1 ∧ W.cont N N pins σ H
def RG : GenEnd := fun n s₀ r s₁ => ((r = .ok (.ret .none) ∨ r = .ok .next) ∧ FG X W n s₀ s₁) ∨ ∃ e, r = .error e ∧ (fun (_ : Value) (_ : Shared) => False) e s₁
end
/-- the loop's statement -/
abbrev gBody (p1 p2 p3 p4 yp ep : Pos) : List Stmt := [.Expr (.Yield (some (.Call (.Name "record_at" p1) [.Name "sizes" p2, .Name "number" p3] [] p4)) yp) ep]
section
variable {X : Cx} {pins : List (Addr × Obj)} {C a I f : Addr} {g N k : Nat} {uy : Value} {B : Nat} {W : Wd} {A : Around} {cenv : PySem.Env} {fd : FuncData} {sp : Sp} {ps : List Str} {y : V}
theorem seg_gloop {tp p1 p2 p3 p4 yp ep : Pos} {fs : List Frame} (hA : (A.over (.forLoop (.Name "number" tp) (.ref I) (gBody p1 p2 p3 p4 yp ep) [] cenv) fs).handled = none)
    (hfr : (A.over (.forLoop (.Name "number" tp) (.ref I) (gBody p1 p2 p3 p4 yp ep) [] cenv) fs).frames = some (cenv :: X.stack)) (hr : Room k (A.over (.forLoop (.Name "number" tp) (.ref I) (gBody p1 p2 p3 p4 yp ep) [] cenv) fs))
    (hsp : splitAtGen fs = none) (hgd : fs.any Frame.guarded = false) (GE : GEnv cenv C) (F : FnOk X.prog X.w X.K X.mg X.base CX0 k f fd ps sp) (hb : Binds X.K fd ps []) (hl2 : ps.length = 2) (hm : X.mg "record_at" = some (.ref f)) (hkp : PySem.W.keepIn X.K (.ref f) = true) (ry : RelV y uy)
    (hN : N < B) (hstep : ∀ i pins σ H, i < N → W.cont N i pins σ H → sp [y, .int (i : Int)] H (fun x H' => W.given N i x pins σ H') E0)
    (hend : ∀ n s₀ c s, FG X W n s₀ s → Seg (model X.prog X.w) A (RG X W) (YG X C a g uy B W) n s₀ c (leafOf (.ok .next)) fs s) :
    ∀ (n i : Nat) (pins : List (Addr × Obj)) (s₀ s : Shared) (σ : L2.St) (H : Hp), n + i = B → i ≤ N → G1 X pins σ C a g uy I N i H s → W.cont N i pins σ H →
      Seg (model X.prog X.w) A (RG X W) (YG X C a g uy B W) n s₀ (.forLoop (.Name "number" tp) (.ref I) (gBody p1 p2 p3 p4 yp ep) [] cenv)
        ((model X.prog X.w).den (.forLoop (.Name "number" tp) (.ref I) (gBody p1 p2 p3 p4 yp ep) [] cenv)) fs s := by
  have hkl : (cenv.scope.kind == .class || (cenv.scope.kind == .module && cenv.locals != cenv.globals)) = false := by rw [GE.kind]; rfl
  have hsn : ¬ (("sizes" : Str) = ("number" : Str)) := by decide
  have hint : interactive cenv = false := by unfold interactive; rw [GE.kind]; rfl
  have fin : ∀ (n : Nat) (pins : List (Addr × Obj)) (s₀ s : Shared) (σ : L2.St) (H : Hp), G1 X pins σ C a g uy I N N H s → W.cont N N pins σ H →
      Seg (model X.prog X.w) A (RG X W) (YG X C a g uy B W) n s₀ (.forLoop (.Name "number" tp) (.ref I) (gBody p1 p2 p3 p4 yp ep) [] cenv)
        ((model X.prog X.w).den (.forLoop (.Name "number" tp) (.ref I) (gBody p1 p2 p3 p4 yp ep) [] cenv)) fs s := fun n pins s₀ s σ H p hc => by
    show Seg _ A _ _ _ s₀ _ ((forTurn (.Name "number" tp) (.ref I) (gBody p1 p2 p3 p4 yp ep) [] cenv).onRaise (fun x => do noteFrame x cenv; theTreesLotGoes x)) fs s
    unfold forTurn
    rw [Sem.onRaise_eq_wrap]
    refine seg_bind_wrap (wpAny_standAt ?_)
    refine seg_bind_wrap (wpAny_onRaise ((Walks.range hA I 0 1 N).done s _ _ p.it fun h' tk hk' => ?_))
    show Seg _ A _ _ _ s₀ _ (.pure (.again (.block [] cenv))) fs _
    refine seg_again rfl ?_
    refine hend n s₀ _ _ ⟨N, pins, σ, H, ?_, hc⟩
    exact p.g0.inv.turned (it := I) (fun b o hbI e => hk' b o (fun z => hbI (List.mem_singleton.mp z)) e) p.fI.1 p.fI.2.1 p.fI.2.2.2.1 p.fI.2.2.2.2.1 p.fI.2.2.2.2.2
  intro n
  induction n with
  | zero =>
    intro i pins s₀ s σ H hn hi p hc
    have e : i = N := by omega
    subst e
    exact fin 0 pins s₀ s σ H p hc
  | succ n ih =>
    intro i pins s₀ s σ H hn hi p hc
    by_cases e : i = N
    · subst e
      exact fin (n + 1) pins s₀ s σ H p hc
    have hlt : i < N := by omega
    show Seg _ A _ _ _ s₀ _ ((forTurn (.Name "number" tp) (.ref I) (gBody p1 p2 p3 p4 yp ep) [] cenv).onRaise (fun x => do noteFrame x cenv; theTreesLotGoes x)) fs s
    unfold forTurn
    rw [Sem.onRaise_eq_wrap]
    refine seg_bind_wrap (wpAny_standAt ?_)
    refine seg_bind_wrap (wpAny_onRaise ((Walks.range hA I 0 1 N).item i s _ _ hlt p.it fun v h₁ tk₁ hPv hst₁ hk₁ => ?_))
    obtain ⟨t, rfl⟩ := hPv
    have kp1 : ∀ b o, b ≠ I → s.heap.get? b = some o → h₁.get? b = some o := fun b o hbI e => hk₁ b o (fun z => hbI (List.mem_singleton.mp z)) e
    refine seg_bind_wrap (wpAny_of_eq (rfl : letOwnedTupleGo (.Name "number" tp) (.ref I) (.int (0 + (i : Int) * 1) t) = pure ()) ?_)
    obtain ⟨m, hns, hmz⟩ := p.g0.ns
    refine seg_bind_wrap (wpAny_assign_Name (wpAny_storeName_local (m := m) GE.kn (by rw [GE.loc]; exact hns.at' fun o e => kp1 C o p.cI e) (fun h₂ hn₂ hs₂ => ?_) hkl))
    rw [GE.loc] at hn₂ hs₂
    have kp2 : ∀ b o, b ≠ C → h₁.get? b = some o → h₂.get? b = some o := fun b o hbC e => hs₂.extBut b o hbC e
    have inv1 : Inv X pins σ H { s with heap := h₁, toks := tk₁ } := p.g0.inv.turned (it := I) kp1 p.fI.1 p.fI.2.1 p.fI.2.2.2.1 p.fI.2.2.2.2.1 p.fI.2.2.2.2.2
    have inv2 : Inv X pins σ H { ({ s with heap := h₁, toks := tk₁ } : Shared) with heap := h₂, toks := tk₁ + 1 } := Inv.turned (s := { s with heap := h₁, toks := tk₁ }) inv1 (it := C) kp2 p.g0.fC.1 p.g0.fC.2.1 p.g0.fC.2.2.2.1 p.g0.fC.2.2.2.2.1 p.g0.fC.2.2.2.2.2
    obtain ⟨oa, nm, qn, hoa, ra⟩ := p.g0.gen
    have hst₂ : IsRangeIter h₂ I (0 + ((i + 1 : Nat) : Int) * 1) ((N : Int) - ((i + 1 : Nat) : Int)) 1 := kp2 I _ (Ne.symm p.cI) hst₁
    have g2 : G1 X pins σ C a g uy I N (i + 1) H { s with heap := h₂, toks := tk₁ + 1 } :=
      ⟨⟨inv2, ⟨_, hn₂, (if_neg hsn).trans hmz⟩, ⟨oa, nm, qn, kp2 a oa (Ne.symm p.g0.ca) (kp1 a oa (Ne.symm p.Ia) hoa), ra⟩, p.g0.fC, p.g0.fa, p.g0.ca⟩, hst₂, p.fI, p.cI, p.Ia⟩
    have q := hstep i pins σ H hlt hc
    rw [Sem.bind_eq_wrap', Sem.wrap_wrap]
    refine seg_execs_cons (seg_Expr_Yield hsp rfl hgd ?_ GE.co hint)
    refine wpAny_mono (call_two (Q := fun x H' => W.given N i x pins σ H') F hb hl2 (g2.g0.env0 GE hfr) hr hm hkp GE.glob GE.kind GE.ka GE.kn GE.kz (by rw [GE.loc]; exact hn₂) (ux := .int (0 + (i : Int) * 1) t) (if_pos rfl) ((if_neg hsn).trans hmz) ry (vx := .int (i : Int)) ?_ q) (fun u s₃ hce => ?_) fun _ _ e => e
    · exact ⟨t, by rw [Int.mul_one, Int.zero_add]⟩
    obtain ⟨x, H3, q3, rx, hq3⟩ := g2.called GE.fr hce
    intro kap hkap
    refine ⟨N, i, x, I, pins, σ, H3, by omega, hlt, hN, rx, q3, hq3, fun pins' s' σ' H' p' hc' => ?_⟩
    have nx : Seg (model X.prog X.w) A (RG X W) (YG X C a g uy B W) n s' (.forLoop (.Name "number" tp) (.ref I) (gBody p1 p2 p3 p4 yp ep) [] cenv) (.pure (.again (.forLoop (.Name "number" tp) (.ref I) (gBody p1 p2 p3 p4 yp ep) [] cenv))) fs s' :=
      seg_again rfl (ih (i + 1) pins' s' s' σ' H' (by omega) (by omega) p' hc')
    exact ⟨hkap .none s' nx, hkap (.bool true) s' nx⟩
end
end Gd

set_option Elab.async false
set_option linter.all false
set_option maxRecDepth 100000
set_option maxHeartbeats 4000000
/-! The generator's beginning. -/
namespace Gd
open PySem PySem.Spec PyProof.Rows L2 Mv GenW Ge Gp
abbrev gFor (tp r1 c1 c2 c3 r2 fp p1 p2 p3 p4 yp ep : Pos) : List Stmt := [.For (.Name "number" tp) (.Call (.Name "range" r1) [.Call (.Name "record_count" c1) [.Name "sizes" c2] [] c3] [] r2) (gBody p1 p2 p3 p4 yp ep) [] fp]
section
variable {X : Cx} {pins : List (Addr × Obj)} {C a f fc : Addr} {g k kc : Nat} {uy : Value} {B : Nat} {W : Wd} {A : Around} {cenv : PySem.Env} {fd fdc : FuncData} {sp spc : Sp} {ps psc : List Str} {y : V} {σ : L2.St} {H : Hp} {s : Shared}
theorem seg_gstart {tp r1 c1 c2 c3 r2 fp p1 p2 p3 p4 yp ep : Pos} (hfr : A.frames = some X.stack) (hr : Room (k + 1) A)
    (GE : GEnv cenv C) (F : FnOk X.prog X.w X.K X.mg X.base CX0 k f fd ps sp) (hb : Binds X.K fd ps []) (hl2 : ps.length = 2) (hm : X.mg "record_at" = some (.ref f)) (hkp : PySem.W.keepIn X.K (.ref f) = true)
    (Fc : FnOk X.prog X.w X.K X.mg X.base CX0 k fc fdc psc spc) (hbc : Binds X.K fdc psc []) (hl1 : psc.length = 1) (hmc : X.mg "record_count" = some (.ref fc)) (hkpc : PySem.W.keepIn X.K (.ref fc) = true) (hmr : X.mg "range" = none) (ry : RelV y uy)
    (hstep : ∀ N i pins σ H, i < N → W.cont N i pins σ H → sp [y, .int (i : Int)] H (fun x H' => W.given N i x pins σ H') E0)
    (p : G0 X pins σ C a g uy H s) (hB : (B : Int) < 2 ^ 62) (hc : spc [y] H (fun v H' => ∃ N : Nat, v = .int (N : Int) ∧ N < B ∧ W.cont N 0 pins σ H') E0) (s₀ : Shared) :
    Seg (model X.prog X.w) A (RG X W) (YG X C a g uy B W) B s₀ (.func (gFor tp r1 c1 c2 c3 r2 fp p1 p2 p3 p4 yp ep) cenv) ((model X.prog X.w).den (.func (gFor tp r1 c1 c2 c3 r2 fp p1 p2 p3 p4 yp ep) cenv)) [] s := by
  have hov : A.over (.func (gFor tp r1 c1 c2 c3 r2 fp p1 p2 p3 p4 yp ep) cenv) [] = A.deeper cenv := over_func
  have hA2 : (A.deeper cenv).handled = none := hr.hd
  have hfr2 : (A.deeper cenv).frames = some (cenv :: X.stack) := Around.frames_deeper hfr
  have hr2 : Room k (A.deeper cenv) := hr.deeper cenv
  refine seg_func ?_
  refine seg_execs_cons ?_
  rw [exec_For]
  refine seg_bind_wrap ?_
  rw [hov]
  refine wpAny_standAt ?_
  obtain ⟨m, hns, hmz⟩ := p.ns
  obtain ⟨mb, b1, b2⟩ := p.inv.mod.blt
  have hgl : s.heap.Ns cenv.globals X.mg := by rw [GE.glob]; exact p.inv.mod.glob.keeps p.inv.bk
  have hbl : s.heap.Ns cenv.builtins mb := by rw [GE.blt]; exact b1.keeps p.inv.bk
  refine seg_bind_wrap ?_
  rw [hov]
  refine wpAny_Call_Name_kw (Calls.Name_function_global GE.kind GE.kr (Calls.loadGlobal_builtin hgl hmr hbl ((b2 "range" (by decide)).trans boot_range) ?_))
  refine PyProof.Rows.callWith_type1 ?_ rfl rfl
  refine Calls.spliced_cons (wpAny_mono (call_one (env := cenv) (m := m) (p1 := c1) (p2 := c2) (p4 := c3) (E := fun _ _ => False) Fc hbc hl1 (p.env0 GE hfr2) (Room.mono hr2 (Nat.le_refl _)) hmc hkpc GE.glob GE.kind GE.kc GE.kz (by rw [GE.loc]; exact hns) hmz ry hc) (fun u s₁ hce => ?_) fun _ _ e => e.elim)
  obtain ⟨v, H1, q1, rv, ⟨N, rfl, hN, hcont⟩, _⟩ := p.called GE.fr hce
  obtain ⟨t, rfl⟩ : ∃ t, u = .int (N : Int) t := rv
  refine Calls.spliced_nil (call_range_1 ?_)
  refine seg_bind_wrap (wpAny_of_eq (a := Value.ref s₁.heap.objs.size) rfl ?_)
  refine seg_bind_wrap (wpAny_standAt ?_)
  refine seg_bind_wrap (wpAny_holding (wpAny_pyIter_range (IsRange.new ..) (small_one (by decide) (by decide) (by omega) (by omega)) ?_))
  generalize ho : ({ cls := Value.type "range", data := Data.fields #[Value.int 0 s₁.toks, Value.int (N : Int) t, Value.int 1 (s₁.toks + 1)] } : Obj) = o1
  have kp1 : ∀ b o, s₁.heap.get? b = some o → (s₁.heap.push o1).get? b = some o := fun b o e => Heap.get?_push_of_some _ e
  have I1 : Inv X pins σ H1 { s₁ with heap := s₁.heap.push o1, toks := s₁.toks + 1 + 1 } := q1.inv.kept kp1
  generalize ho2 : ({ cls := Value.type "range_iterator", data := Data.fields #[rawInt 0, rawInt (Builtin.Range.rangeSize 0 (N : Int) 1), rawInt 1] } : Obj) = o2
  have kp2 : ∀ b o, (s₁.heap.push o1).get? b = some o → ((s₁.heap.push o1).push o2).get? b = some o := fun b o e => Heap.get?_push_of_some _ e
  have I2 : Inv X pins σ H1 { s₁ with heap := (s₁.heap.push o1).push o2, toks := s₁.toks + 1 + 1 } := Inv.kept (s := { s₁ with heap := s₁.heap.push o1, toks := s₁.toks + 1 + 1 }) (t' := s₁.toks + 1 + 1) I1 kp2
  have hit : IsRangeIter ((s₁.heap.push o1).push o2) (s₁.heap.push o1).objs.size (0 + ((0 : Nat) : Int) * 1) ((N : Int) - ((0 : Nat) : Int)) 1 := by
    have e1 : (0 : Int) + ((0 : Nat) : Int) * 1 = 0 := by simp
    have e2 : (N : Int) - ((0 : Nat) : Int) = Builtin.Range.rangeSize 0 (N : Int) 1 := by rw [rangeSize_one]; split <;> omega
    rw [e1, e2, ← ho2]
    exact Heap.get?_push_size _ rfl
  obtain ⟨m1, hn1, hm1⟩ := q1.ns
  obtain ⟨oa, nm, qn, hoa, ra⟩ := q1.gen
  have lC : C < s₁.heap.objs.size := hn1.lt
  have la : a < s₁.heap.objs.size := Heap.lt_size hoa
  have sz : (s₁.heap.push o1).objs.size = s₁.heap.objs.size + 1 := Heap.size_push ..
  have g1 : G1 X pins σ C a g uy (s₁.heap.push o1).objs.size N 0 H1 { s₁ with heap := (s₁.heap.push o1).push o2, toks := s₁.toks + 1 + 1 } :=
    ⟨⟨I2, ⟨m1, (hn1.push _).push _, hm1⟩, ⟨oa, nm, qn, kp2 _ _ (kp1 _ _ hoa), ra⟩, q1.fC, q1.fa, q1.ca⟩, hit, I1.fpOk (Nat.le_refl _) (I1.hok.fresh (Nat.le_refl _)), Nat.ne_of_lt (Nat.lt_trans lC (by rw [sz]; exact Nat.lt_succ_self _)), Ne.symm (Nat.ne_of_lt (Nat.lt_trans la (by rw [sz]; exact Nat.lt_succ_self _)))⟩
  refine seg_call (c' := .forLoop (.Name "number" tp) (.ref (s₁.heap.push o1).objs.size) (gBody p1 p2 p3 p4 yp ep) [] cenv) fun p' => ?_
  have hov3 : ∀ (kk : Result → Sem PySem.Fin) (gg : Bool) (l kp : List Value), A.over (.forLoop (.Name "number" tp) (.ref (s₁.heap.push o1).objs.size) (gBody p1 p2 p3 p4 yp ep) [] cenv) [.ret kk none gg l (.func (gFor tp r1 c1 c2 c3 r2 fp p1 p2 p3 p4 yp ep) cenv) p' kp] = A.deeper cenv := fun kk gg l kp => (over_loop rfl rfl).trans hov
  refine seg_gloop (N := N) (k := k) (fs := [_]) (by rw [hov3]; exact hA2) (by rw [hov3]; exact hfr2) (by rw [hov3]; exact hr2) rfl rfl GE F hb hl2 hm hkp ry hN (fun i pins σ H => hstep N i pins σ H) (fun n s₀ c s hF => ?_) B 0 pins s₀ _ σ H1 (by omega) (by omega) g1 hcont
  refine seg_leaf (.ok .next) ?_
  exact seg_end (.ok (.ret .none)) (.inl ⟨.inl rfl, hF⟩)
end
end Gd

set_option Elab.async false
set_option linter.all false
set_option maxRecDepth 100000
set_option maxHeartbeats 4000000
/-! The generator is made; its next item; a `for` over it. -/
namespace Gd
open PySem PySem.Spec PyProof.Rows L2 Mv GenW Ge Gp
section
variable {X : Cx} {pins : List (Addr × Obj)} {C a f fc fg : Addr} {g k : Nat} {uy : Value} {B : Nat} {W : Wd} {fd fdc : FuncData} {sp spc : Sp} {ps psc : List Str} {y : V} {σ : L2.St} {H : Hp} {s : Shared}
variable {name qual : Str} {params : Arguments} {scope : Scope} {dV kV doc pm cdv ct oc : Value} {an od : Option Addr} {osl : Array (Option Value)} {tp r1 c1 c2 c3 r2 fp p1 p2 p3 p4 yp ep : Pos} {R : Result → Shared → Prop}
theorem make_gen (lk : X.K.lookup fg = some ⟨oc, od, .func (PySem.W.fnOf name qual params (gFor tp r1 c1 c2 c3 r2 fp p1 p2 p3 p4 yp ep) scope dV kV doc pm an cdv ct), osl⟩) (hcd : PySem.W.codeIn X.K cdv qual = true) (kind : scope.kind = .function) (co : scope.isCoroutine = false) (gen : scope.isGenerator = true)
    (kz : scope.names.lookup ("sizes" : Str) = some .local) (hb : Binds X.K (PySem.W.fnOf name qual params (gFor tp r1 c1 c2 c3 r2 fp p1 p2 p3 p4 yp ep) scope dV kV doc pm an cdv ct) ["sizes"] []) (hr : Room (k + 1) X.A) (I : Inv X pins σ H s)
    (hR : ∀ (C a : Addr) (g : Nat) (s' : Shared), G0 X pins σ C a g uy H s' → s'.gens[g]? = some (.fresh (.func (gFor tp r1 c1 c2 c3 r2 fp p1 p2 p3 p4 yp ep) (envOfC qual scope C fg cdv))) → R (.ok (.ret (.ref a))) s') :
    codeAny (model X.prog X.w) X.A (.call (.ref fg) ⟨[uy], []⟩) R s := by
  have KX : X.K.In s.heap := I.mod.kin.keeps I.bk
  have lim : s.heap.NoLimit := I.nolimit
  have hkind : ∀ y ∈ (["sizes"] : List Str).zip [uy], scope.names.lookup y.1 = some .local ∨ (scope.names.lookup y.1 = some .cell ∧ ((cellsFrom (s.heap.objs.size + 1) scope.names []).lookup y.1).isSome = true) := fun ⟨n, v⟩ hy => by
    have e : (n, v) = (("sizes" : Str), uy) := by simpa using hy
    cases e
    exact .inl kz
  refine codeAny_call_generator hr.depth (KX _ _ lk) rfl co gen rfl (PySem.W.codeRec_of KX hcd) (hb s [uy] KX rfl _ _ _ _ ?_)
  refine wpAny_newFunctionEnv_cells kind hkind fun env he s1 x => ?_
  subst he
  have lim1 : s1.heap.NoLimit := lim.keeps x.toInCall.keep
  refine ⟨lim1, ?_⟩
  obtain ⟨h1, tk, es1, hk1⟩ := x.done
  have os1 : s1.os = s.os := by rw [es1]
  have gen1 : s1.gens = s.gens := by rw [es1]
  have lt1 : s.heap.objs.size < s1.heap.objs.size := x.toInCall.ns.lt
  have sz1 : s.heap.objs.size ≤ s1.heap.objs.size := Nat.le_of_lt lt1
  have kp1 : ∀ b o, s.heap.get? b = some o → s1.heap.get? b = some o := x.toInCall.keep
  have hns : s1.heap.Ns s.heap.objs.size (PySem.bindL (envOfC qual scope s.heap.objs.size fg cdv).kindOf ((["sizes"] : List Str).zip [uy]) fun _ => none) := x.toInCall.ns
  have main : ∀ (go : Obj) (nm qn : Value) (tk2 : Nat), go.cls = .type "generator" → go.data = .fields #[.int s1.gens.size 0, nm, qn] → go.slots = #[] → (∀ h : Heap, (h.push go).get? h.objs.size = some go) →
      R (.ok (.ret (.ref s1.heap.objs.size))) { s1 with gens := s1.gens.push (.fresh (.func (gFor tp r1 c1 c2 c3 r2 fp p1 p2 p3 p4 yp ep) (envOfC qual scope s.heap.objs.size fg cdv))), toks := tk2, heap := s1.heap.push go } := by
    intro go nm qn tk2 hgc hgd0 hgs hgp
    have kp2 : ∀ b o, s.heap.get? b = some o → (s1.heap.push go).get? b = some o := fun b o e => Heap.get?_push_of_some _ (kp1 b o e)
    have I2 : Inv X pins σ H { s1 with gens := s1.gens.push (.fresh (.func (gFor tp r1 c1 c2 c3 r2 fp p1 p2 p3 p4 yp ep) (envOfC qual scope s.heap.objs.size fg cdv))), toks := tk2, heap := s1.heap.push go } :=
      I.call' (ch := []) os1 (Un.kept kp2) (I.hok.kept kp2) (AllBare.push (by rw [gen1]; exact I.bare) rfl) fun b z => by simp at z
    refine hR s.heap.objs.size s1.heap.objs.size s1.gens.size _ ⟨I2, ⟨_, hns.push _, ?_⟩, ⟨go, nm, qn, hgp _, hgc, hgd0, hgs⟩, I.fpOk (Nat.le_refl _) (I.hok.fresh (Nat.le_refl _)), I.fpOk sz1 (I.hok.fresh sz1), Nat.ne_of_lt lt1⟩ (Array.getElem?_push_size ..)
    have kz' : (envOfC qual scope s.heap.objs.size fg cdv).kindOf "sizes" = some .local := kz
    simp [PySem.bindL, kz']
  exact main _ _ _ _ rfl rfl rfl fun h => Heap.get?_push_size _ rfl
end
end Gd

set_option Elab.async false
set_option linter.all false
set_option maxRecDepth 100000
set_option maxHeartbeats 4000000
/-! The generator's next item; a `for` over it. -/
namespace Gd
open PySem PySem.Spec PyProof.Rows L2 Mv GenW Ge Gp
section
variable {X : Cx} {pins : List (Addr × Obj)} {C a I : Addr} {g i N k : Nat} {uy : Value} {B : Nat} {W : Wd} {y : V} {σ σ' : L2.St} {H H' : Hp} {s s' : Shared}
theorem G1.objs (p : G1 X pins σ C a g uy I N i H s) : ∀ b ∈ [C, I, a], FpOk X pins H b ∧ ∃ o, s.heap.get? b = some o ∧ ∀ v, o.data ≠ .cell v := by
  intro b hb
  obtain ⟨m, ⟨oC, es, ep, hoC, hdC⟩, hm⟩ := p.g0.ns
  obtain ⟨oa, nm, qn, hoa, hca, hda, hsa⟩ := p.g0.gen
  rcases List.mem_cons.mp hb with rfl | hb
  · exact ⟨p.g0.fC, oC, hoC, fun v e => by rw [hdC.1] at e; cases e⟩
  rcases List.mem_cons.mp hb with rfl | hb
  · exact ⟨p.fI, _, p.it, fun v e => by cases e⟩
  · cases List.mem_singleton.mp hb
    exact ⟨p.g0.fa, oa, hoa, fun v e => by rw [hda] at e; cases e⟩
theorem G1.pin (p : G1 X pins σ C a g uy I N i H s) : Inv X (pins ++ pinsAt [C, I, a] s.heap) σ H s :=
  p.g0.inv.pinned (fun b hb => (p.objs b hb).1) fun b hb => (p.objs b hb).2
theorem G1.back (p : G1 X pins σ C a g uy I N i H s) (J : Inv X (pins ++ pinsAt [C, I, a] s.heap) σ' H' s') : G1 X pins σ' C a g uy I N i H' s' := by
  have key : ∀ b ∈ [C, I, a], ∀ o, s.heap.get? b = some o → s'.heap.get? b = some o ∧ FpOk X pins H' b := fun b hb o e => by
    have q := J.pin (b, o) (List.mem_append_right _ (List.mem_append_right _ (mem_pinsAt hb e)))
    exact ⟨q.1, q.2.1, (p.objs b hb).1.2⟩
  obtain ⟨m, ⟨oC, es, ep, hoC, hdC⟩, hm⟩ := p.g0.ns
  obtain ⟨oa, nm, qn, hoa, ra⟩ := p.g0.gen
  obtain ⟨c1, c2⟩ := key C (by simp) oC hoC
  obtain ⟨i1, i2⟩ := key I (by simp) _ p.it
  obtain ⟨a1, a2⟩ := key a (by simp) oa hoa
  exact ⟨⟨J.unpinned, ⟨m, ⟨oC, es, ep, c1, hdC⟩, hm⟩, ⟨oa, nm, qn, a1, ra⟩, c2, a2, p.g0.ca⟩, i1, i2, p.cI, p.Ia⟩
/-- the next item -/
theorem next_one {A : Around} {E : Value → Shared → Prop} {Q : Option Value → Shared → Prop} {gs : GenState} {m : Nat} (hA : A.handled = none) (hd : A.depth < recursionLimit) (I0 : Inv X pins σ H s) (hg : s.heap.IsGen a g) (hgs : s.gens[g]? = some gs)
    (hgo : gs.Goes (model X.prog X.w) A.in1 (RG X W) (YG X C a g uy B W) m (.send .none) (s.setGen g .running))
    (hY : ∀ (m' N i : Nat) (x : V) (v : Value) (I : Addr) (pins : List (Addr × Obj)) (σ : L2.St) (H : Hp) (s2 : Shared) (gs' : GenState), m = m' + 1 → m' + (i + 1) = B → i < N → RelV x v → G1 X pins σ C a g uy I N (i + 1) H s2 → W.given N i x pins σ H → s2.gens[g]? = some gs' →
      (∀ pins' s' σ' H', G1 X pins' σ' C a g uy I N (i + 1) H' s' → W.cont N (i + 1) pins' σ' H' → gs'.Goes (model X.prog X.w) A.in1 (RG X W) (YG X C a g uy B W) m' (.send .none) s' ∧ gs'.Goes (model X.prog X.w) A.in1 (RG X W) (YG X C a g uy B W) m' (.send (.bool true)) s') → Q (some v) s2)
    (hP : ∀ (N : Nat) (pins : List (Addr × Obj)) (σ : L2.St) (H : Hp) (s2 : Shared), Inv X pins σ H s2 → W.cont N N pins σ H → Q none s2) : wpAny (model X.prog X.w) A (pyNext (.ref a)) Q E s := by
  have hgl : g < s.gens.size := (Array.getElem?_eq_some_iff.mp hgs).1
  refine wpAny_gsz (n := g + 1) hgl (next_genG (A := A) (F := FG X W) (Er := fun _ _ => False) hA I0.nolimit hd hg hgs hgo (fun v s₁ gs' hbare hv => ?_) (fun s₁ hp h' hk => ?_) fun e s₁ he => he.elim)
  · intro hsz
    obtain ⟨N, i, x, I, pins1, σ1, H1, hn, hi, hNB, rx, q1, hgiv, hkap⟩ := hv
    obtain ⟨m', rfl⟩ : ∃ m', m = m' + 1 := ⟨m - 1, by omega⟩
    have hsz1 : g < s₁.gens.size := by
      have q : (s₁.setGen g gs').gens.size = s₁.gens.size := setGen_size _ _ _
      have : g + 1 ≤ (s₁.setGen g gs').gens.size := hsz
      omega
    refine hY m' N i x v I pins1 σ1 H1 (s₁.setGen g gs') gs' rfl (by omega) hi rx (q1.same rfl rfl (allBare_setGen q1.g0.inv.bare hbare)) hgiv (setGen_at hsz1) fun pins' s' σ' H' p' hc' => hkap pins' s' σ' H' p' hc'
  · intro _
    obtain ⟨N, pins1, σ1, H1, v1, hq⟩ := hp
    exact hP N pins1 σ1 H1 _ (inv_same (s' := { s₁.setGen g .finished with heap := h' }) (Inv.kept (t' := s₁.toks) v1 hk) rfl rfl (allBare_setGen v1.bare rfl)) hq
end
end Gd

set_option Elab.async false
set_option linter.all false
set_option maxRecDepth 100000
set_option maxHeartbeats 4000000
/-! A `for` over the generator. -/
namespace Gd
open PySem PySem.Spec PyProof.Rows L2 Mv GenW Ge Gp
/-- what the consumer's frame knows: the generator's def and the two defs that it calls -/
structure GK (X : Cx) (k B : Nat) (fg f fc : Addr) (fd fdc : FuncData) (sp spc : Sp) (ps psc : List Str) (name qual : Str) (params : Arguments) (scope : Scope) (dV kV doc pm cdv ct oc : Value) (an od : Option Addr) (osl : Array (Option Value)) (tp r1 c1 c2 c3 r2 fp p1 p2 p3 p4 yp ep : Pos) : Prop where
  lk : X.K.lookup fg = some ⟨oc, od, .func (PySem.W.fnOf name qual params (gFor tp r1 c1 c2 c3 r2 fp p1 p2 p3 p4 yp ep) scope dV kV doc pm an cdv ct), osl⟩
  hcd : PySem.W.codeIn X.K cdv qual = true
  kind : scope.kind = .function
  co : scope.isCoroutine = false
  gen : scope.isGenerator = true
  kz : scope.names.lookup ("sizes" : Str) = some .local
  hbg : Binds X.K (PySem.W.fnOf name qual params (gFor tp r1 c1 c2 c3 r2 fp p1 p2 p3 p4 yp ep) scope dV kV doc pm an cdv ct) ["sizes"] []
  ge : ∀ C, GEnv (envOfC qual scope C fg cdv) C
  hmg : X.mg "all_records" = some (.ref fg)
  hkg : PySem.W.keepIn X.K (.ref fg) = true
  F : FnOk X.prog X.w X.K X.mg X.base CX0 k f fd ps sp
  hb : Binds X.K fd ps []
  hl2 : ps.length = 2
  hm : X.mg "record_at" = some (.ref f)
  hkp : PySem.W.keepIn X.K (.ref f) = true
  Fc : FnOk X.prog X.w X.K X.mg X.base CX0 k fc fdc psc spc
  hbc : Binds X.K fdc psc []
  hl1 : psc.length = 1
  hmc : X.mg "record_count" = some (.ref fc)
  hkpc : PySem.W.keepIn X.K (.ref fc) = true
  hmr : X.mg "range" = none
  hB : (B : Int) < 2 ^ 62
/-- the reading of a `for` over it -/
def tForG (sp spc : Sp) (B : Nat) (te : TE) (g : TG) (tb : TS) : TS := fun D σ H => te σ H fun y H1 => ∃ cont : Nat → Nat → L2.St → Hp → Prop,
  spc [y] H1 (fun v H' => ∃ N : Nat, v = .int (N : Int) ∧ N < B ∧ cont N 0 σ H') E0 ∧
  (∀ N i σ H, i < N → cont N i σ H → sp [y, .int (i : Int)] H (fun x H' => g x σ H' fun σ2 H2 => tb { D with nx := cont N (i + 1), ct := cont N (i + 1), bk := D.nx } σ2 H2) E0) ∧ ∀ N σ H, cont N N σ H → D.nx σ H
section
variable {X : Cx} {pins : List (Addr × Obj)} {f fc fg : Addr} {k B : Nat} {fd fdc : FuncData} {sp spc : Sp} {ps psc : List Str} {name qual : Str} {params : Arguments} {scope : Scope} {dV kV doc pm cdv ct oc : Value} {an od : Option Addr} {osl : Array (Option Value)} {tp r1 c1 c2 c3 r2 fp p1 p2 p3 p4 yp ep : Pos}
/-- the call makes it -/
theorem gen_at {e : Expr} {te : TE} {q1 q2 : Pos} {σ : L2.St} {H : Hp} {s : Shared} {Q : Value → Shared → Prop} {T : V → Hp → Prop} (D : GK X k B fg f fc fd fdc sp spc ps psc name qual params scope dV kV doc pm cdv ct oc an od osl tp r1 c1 c2 c3 r2 fp p1 p2 p3 p4 yp ep)
    (hr : Room (k + 2) X.A) (hgl : Gl X "all_records") (he : PE X e te) (hs : starEach [e] X.env = (false, eval e X.env) :: starEach [] X.env) (I : Inv X pins σ H s) (h : te σ H T)
    (hQ : ∀ (y : V) (uy : Value) (C a : Addr) (g : Nat) (H1 : Hp) (s' : Shared), RelV y uy → T y H1 → G0 X pins σ C a g uy H1 s' → s'.gens[g]? = some (.fresh (.func (gFor tp r1 c1 c2 c3 r2 fp p1 p2 p3 p4 yp ep) (envOfC qual scope C fg cdv))) → Q (.ref a) s') :
    wpAny (model X.prog X.w) X.A (eval (.Call (.Name "all_records" q1) [e] [] q2) X.env) Q X.xe s := by
  refine wpAny_Call_Name_kw (ld_glob I hgl D.hmg ?_)
  refine PySem.W.callWith_K (h₀ := X.base) I.mod.kin D.hkg ?_ hs rfl
  rw [hs]
  refine Calls.spliced_cons (thn (he.run pins s σ H _ I h) fun uy s1 ⟨y, H1, I1, ry, hT⟩ => ?_)
  refine Calls.spliced_nil ⟨I1.mod.kin.keeps I1.bk, ?_⟩
  refine wpAny_call (make_gen (k := k + 1) D.lk D.hcd D.kind D.co D.gen D.kz D.hbg hr I1 fun C a g s' p hgs => ?_)
  exact hQ y uy C a g H1 s' ry hT p hgs
/-- it is ready to go on -/
theorem go_fresh {A : Around} {W : Wd} {σ : L2.St} {H1 : Hp} {s1 : Shared} {y : V} {uy : Value} {C a : Addr} {g : Nat} (D : GK X k B fg f fc fd fdc sp spc ps psc name qual params scope dV kV doc pm cdv ct oc an od osl tp r1 c1 c2 c3 r2 fp p1 p2 p3 p4 yp ep)
    (hfr : A.frames = some X.stack) (hr : Room (k + 1) A) (ry : RelV y uy) (p : G0 X pins σ C a g uy H1 s1) (hgs : s1.gens[g]? = some (.fresh (.func (gFor tp r1 c1 c2 c3 r2 fp p1 p2 p3 p4 yp ep) (envOfC qual scope C fg cdv))))
    (hc : spc [y] H1 (fun v H' => ∃ N : Nat, v = .int (N : Int) ∧ N < B ∧ W.cont N 0 pins σ H') E0) (hstep : ∀ N i pins σ H, i < N → W.cont N i pins σ H → sp [y, .int (i : Int)] H (fun x H' => W.given N i x pins σ H') E0) :
    (GenState.fresh (.func (gFor tp r1 c1 c2 c3 r2 fp p1 p2 p3 p4 yp ep) (envOfC qual scope C fg cdv))).Goes (model X.prog X.w) A (RG X W) (YG X C a g uy B W) B (.send .none) (s1.setGen g .running) :=
  ⟨rfl, seg_gstart (k := k) hfr hr (D.ge C) D.F D.hb D.hl2 D.hm D.hkp D.Fc D.hbc D.hl1 D.hmc D.hkpc D.hmr ry hstep (p.same (s' := s1.setGen g .running) rfl rfl (allBare_setGen p.inv.bare rfl)) D.hB hc _⟩
/-- the generator is asleep, or it can only go on as it is woken -/
theorem slept_or {M : Model} {A : Around} {R : GenEnd} {Y : Protocol} {m : Nat} {gs : GenState} {s : Shared} (h : gs.Goes M A R Y m (.send (.bool true)) s) : ∃ k l c p fs cl, gs = .suspended k l c p fs cl := by
  cases gs with
  | fresh c =>
    obtain ⟨e, _⟩ := h
    cases e
  | suspended k l c p fs cl => exact ⟨k, l, c, p, fs, cl, rfl⟩
  | running => exact h.elim
  | finished => exact h.elim
theorem ps_forG {e : Expr} {te : TE} {g : TG} {tb : TS} {tx : Str} {px q1 q2 pos : Pos} {body : List Stmt} (D : GK X k B fg f fc fd fdc sp spc ps psc name qual params scope dV kV doc pm cdv ct oc an od osl tp r1 c1 c2 c3 r2 fp p1 p2 p3 p4 yp ep)
    (hp : PassesOwn (model X.prog X.w) X.A X.env X.xe) (hxe : ∀ (Dd : Nat → Prop) (e : Value) (s0 s : Shared), Po Dd s0 s → X.xe e s0 → X.xe e s) (hr : Room (k + 2) X.A) (hgl : Gl X "all_records") (he : PE X e te) (hs : starEach [e] X.env = (false, eval e X.env) :: starEach [] X.env) (hg : PG X (.Name tx px) g) (hb : PSs X body tb)
    (hs2 : ∀ x, foldedSetIterable (.Call (.Name "all_records" q1) [e] [] q2) X.env x = pure x := by intro _; rfl) : PS X (.For (.Name tx px) (.Call (.Name "all_records" q1) [e] [] q2) body [] pos) (tForG sp spc B te g tb) := by
  refine ⟨fun pins s σ H Dn I h => ?_⟩
  refine wpAny_For (gen_at D hr hgl he hs I h fun y uy C a gi H1 s1 ry ⟨cont, hc, hstep, hend⟩ p0 hgs => ?_) hs2
  refine wpAny_pyIter_gen p0.gen ?_
  have hA : X.A.handled = none := hr.hd
  have hd : X.A.depth < recursionLimit := hr.depth
  generalize hW : (⟨fun N i pins' σ H => pins' = pins ∧ cont N i σ H, fun N i x pins' σ H' => pins' = pins ∧ g x σ H' fun σ2 H2 => tb { Dn with nx := cont N (i + 1), ct := cont N (i + 1), bk := Dn.nx } σ2 H2⟩ : Wd) = W
  have hWc : ∀ N i pins' σ H, W.cont N i pins' σ H ↔ (pins' = pins ∧ cont N i σ H) := fun N i pins' σ H => by rw [← hW]
  have hWg : ∀ N i x pins' σ H', W.given N i x pins' σ H' → pins' = pins ∧ g x σ H' fun σ2 H2 => tb { Dn with nx := cont N (i + 1), ct := cont N (i + 1), bk := Dn.nx } σ2 H2 := fun N i x pins' σ H' q => by subst hW; exact q
  have g0 := go_fresh (W := W) (A := X.A.in1) D (by show X.A.frames = _; exact p0.inv.ok.frames) hr.in1 ry p0 hgs (by subst hW; simp only [true_and]; exact hc) (by subst hW; rintro N i pins' σ H hi ⟨rfl, q⟩; simp only [true_and]; exact hstep N i σ H hi q)
  refine codeAny_forLoop_any (fun n s' => ∃ σ' H' gs, Inv X pins σ' H' s' ∧ s'.heap.IsGen a gi ∧ s'.gens[gi]? = some gs ∧ gs.Goes (model X.prog X.w) X.A.in1 (RG X W) (YG X C a gi uy B W) n (.send .none) (s'.setGen gi .running)) ?_ B ⟨σ, H1, _, p0.inv, p0.gen, hgs, g0⟩
  rintro n s3 ⟨σ3, H3, gs, I3, hga, hgs3, hgo3⟩
  refine wpAny_passesOwn hp (next_one (E := X.xe) hA hd I3 hga hgs3 hgo3 (fun m' N i x v It pins4 σ4 H4 s4 gs4 em hmi hi rx q4 hgiv hgs4 hkap => ?_) fun N pins4 σ4 H4 s4 I4 hc4 => ?_)
  rotate_left
  · obtain ⟨rfl, hc4⟩ := (hWc _ _ _ _ _).mp hc4
    exact wpAny_execs_nil ⟨σ4, H4, I4, hend N σ4 H4 hc4⟩
  obtain ⟨rfl, hgiv⟩ := hWg _ _ _ _ _ _ hgiv
  refine wpAny_passesOwn hp (wpAny_of_eq (a := ()) rfl ?_)
  have pin4 := q4.pin
  have num4 : Inv X (pins4 ++ pinsAt [C, It, a] s4.heap) σ4 H4 (numbS s4) := inv_same pin4 rfl rfl (numb_bare pin4.bare)
  refine wpAny_passesOwn hp (beside (hg.run _ (numbS s4) σ4 H4 x v _ num4 rx hgiv) (fun _ s0 s5 ⟨σ5, H5, I5, q5⟩ po5 kp5 => ?_) fun e s0 s5 hx po5 _ => hxe _ e s0 s5 po5 hx)
  have J5 : Inv X (pins4 ++ pinsAt [C, It, a] s4.heap) σ5 H5 s5 := inv_same I5 po5.heap po5.os (po_bare po5 I5.bare)
  have num5 : Inv X (pins4 ++ pinsAt [C, It, a] s4.heap) σ5 H5 (numbS s5) := inv_same J5 rfl rfl (numb_bare J5.bare)
  refine wpAny_passesOwn hp (beside (hb.run _ (numbS s5) σ5 H5 _ num5 q5) (fun fl s0 s7 q7 po7 kp7 => ?_) fun e s0 s7 hx po7 _ => hxe _ e s0 s7 po7 hx)
  have tr : ∀ {σ7 : L2.St} {H7 : Hp}, Inv X (pins4 ++ pinsAt [C, It, a] s4.heap) σ7 H7 s0 → Inv X (pins4 ++ pinsAt [C, It, a] s4.heap) σ7 H7 s7 := fun {σ7 H7} I7 => inv_same I7 po7.heap po7.os (po_bare po7 I7.bare)
  have again : ∀ {σ7 : L2.St} {H7 : Hp}, Inv X (pins4 ++ pinsAt [C, It, a] s4.heap) σ7 H7 s0 → cont N (i + 1) σ7 H7 → ∃ m, m < n ∧ ∃ σ' H' gs, Inv X pins4 σ' H' s7 ∧ s7.heap.IsGen a gi ∧ s7.gens[gi]? = some gs ∧ gs.Goes (model X.prog X.w) X.A.in1 (RG X W) (YG X C a gi uy B W) m (.send .none) (s7.setGen gi .running) := fun {σ7 H7} I7 c7 => by
    have G7 := q4.back (tr I7)
    obtain ⟨go1, go2⟩ := hkap pins4 (s7.setGen gi .running) σ7 H7 (G7.same rfl rfl (allBare_setGen G7.g0.inv.bare rfl)) ((hWc _ _ _ _ _).mpr ⟨rfl, c7⟩)
    obtain ⟨kk, l, c, p, fs, cl, es⟩ := slept_or go2
    have sl4 : Asleep s4 gi := ⟨kk, l, c, p, fs, cl, by rw [hgs4, es]⟩
    have e5 := kp5 gi sl4
    have sl5 : Asleep s5 gi := ⟨kk, l, c, p, fs, cl, by rw [e5, hgs4, es]⟩
    have e7 := kp7 gi sl5
    exact ⟨m', by omega, σ7, H7, gs4, G7.g0.inv, G7.g0.gen, by rw [e7, e5, hgs4], go1⟩
  cases fl with
  | next => obtain ⟨σ7, H7, I7, n7⟩ := q7; exact again I7 n7
  | cont => obtain ⟨σ7, H7, I7, n7⟩ := q7; exact again I7 n7
  | brk => obtain ⟨σ7, H7, I7, q7⟩ := q7; exact ⟨σ7, H7, (tr I7).unpinned, q7⟩
  | ret v => obtain ⟨x7, σ7, H7, I7, r7, q7⟩ := q7; exact ⟨x7, σ7, H7, (tr I7).unpinned, r7, q7⟩
end
end Gd

set_option Elab.async false
set_option linter.all false
set_option maxRecDepth 100000
set_option maxHeartbeats 4000000
/-! enumerate over the generator. -/
namespace Gd
open PySem PySem.Spec PyProof.Rows L2 Mv GenW Ge Gp
section
variable {P : Program} {w : World} {A : Around} {E : Value → Shared → Prop} {s : Shared} {F : Nat → Shared → Shared → Prop} {Y : Protocol} {gs : GenState} {n g : Nat} {a : Addr}
/-- one step of a generator, asked for by a builtin: its item, or the exception that ends it -/
theorem nextOf_gen {Q : Value → Shared → Prop} (hh : A.handled = none) (hl : s.heap.NoLimit) (hroom : A.depth < recursionLimit) (hg : s.heap.IsGen a g) (hgs : s.gens[g]? = some gs)
    (hgo : gs.Goes (model P w) A.in1 (fun n s₀ r s₁ => ((r = .ok (.ret .none) ∨ r = .ok .next) ∧ F n s₀ s₁) ∨ ∃ e, r = .error e ∧ False) Y n (.send .none) (s.setGen g .running))
    (hY : ∀ v s₁ gs', gs'.bare = true → Y (n - 1) (s.setGen g .running) v s₁ (fun r' s'' => match n with
        | 0 => False
        | m + 1 => gs'.Goes (model P w) A.in1 (fun n s₀ r s₁ => ((r = .ok (.ret .none) ∨ r = .ok .next) ∧ F n s₀ s₁) ∨ ∃ e, r = .error e ∧ False) Y m r' s'') → Q v (s₁.setGen g gs'))
    (hP : ∀ s₁, F n (s.setGen g .running) s₁ → ∀ h' e o, (∀ b u, s₁.heap.get? b = some u → h'.get? b = some u) → h'.get? e = some o → o.cls = .type "StopIteration" → E (.ref e) { s₁.setGen g .finished with heap := h' }) :
    wpAny (model P w) A (Builtin.SmallTypes.nextOf (.ref a)) Q E s := by
  unfold Builtin.SmallTypes.nextOf
  refine wpAny_bind (wpAny_callSpecial?_slot (name := Str.ofString "__next__") hg.typeIs slot_gen_next (wpAny_call_entry slot_gen_next hg.typeIs entry_gen_next ?_ (args_gen_next _)))
  show wpAny _ A.in1 (Builtin.Generator.genWake (.ref a) (.send .none)) _ _ s
  unfold Builtin.Generator.genWake
  refine wpAny_bind (wpAny_holding (wpAny_genNumber hg (wpAny_bind (wpAny_genState hgs ?_))))
  have main : wpAny (model P w) A.in1 (.resume g (.send .none) [] .pure) (fun r s' => match r with
      | .yielded v => Q v s'
      | .returned v => v = .none ∧ ∃ s₁, F n (s.setGen g .running) s₁ ∧ s' = s₁.setGen g .finished
      | _ => False) (fun _ _ => False) s := by
    refine wpAny_resumeQ hgs hgo (fun x s₁ hx => ?_) fun v s₁ gs' hb hv => wpAny_pure (hY v s₁ gs' hb hv)
    rcases hx with ⟨hr, hp⟩ | ⟨e, _, he⟩
    · rcases hr with rfl | rfl <;> exact wpAny_pure ⟨rfl, s₁, hp, rfl⟩
    · exact he.elim
  have stop : ∀ (s' : Shared), (∃ s₁, F n (s.setGen g .running) s₁ ∧ s' = s₁.setGen g .finished) → ∀ (Qf : PySem.Fin → Shared → Prop) (K : PUnit → Sem PySem.Fin), wpAny (model P w) A.in1 (newExc (.type "StopIteration") [] >>= fun x => (raiseNew x : Sem PUnit) >>= K) Qf E s' := by
    rintro s' ⟨s₁, hp, rfl⟩ Qf K
    simp only [newExc, newTuple]
    refine wpAny_bind (wpAny_bind (wpAny_newObj_type ?_ (by size_fits)))
    refine wpAny_bind (m := firstArgMember _ _) (wpAny_of_eq (a := Value.none) (by first | rfl | (simp only [firstArgMember]; rfl)) ?_)
    refine wpAny_newObj_type ?_ (by size_fits)
    simp only [raiseNew]
    refine wpAny_bind (wpAny_bind (wpAny_handled ?_))
    first | rw [show A.in1.handled = none from hh] | rw [hh]
    exact wpAny_bind (wpAny_pure (wpAny_throw (hP s₁ hp _ _ _ (fun b u e => Heap.get?_push_of_some _ (Heap.get?_push_of_some _ e)) (Heap.get?_push_size _ rfl) rfl)))
  cases gs with
  | running => exact hgo.elim
  | finished => exact hgo.elim
  | _ =>
    refine wpAny_bind (wpAny_roomToWake hl hroom ?_)
    refine wpAny_bind (m := resume g (.send .none)) (wpAny_mono main (fun r s' h => ?_) fun _ _ h => h.elim)
    cases r with
    | yielded v => exact wpAny_pure ⟨v, rfl, wpAny_pure h⟩
    | returned v =>
      obtain ⟨rfl, hs⟩ := h
      exact stop s' hs _ _
    | _ => exact h.elim
end
end Gd

set_option Elab.async false
set_option linter.all false
set_option maxRecDepth 100000
set_option maxHeartbeats 4000000
/-! list over the generator. -/
namespace Gd
open PySem PySem.Spec PyProof.Rows L2 Mv GenW Ge Gp
section
variable {X : Cx} {pins : List (Addr × Obj)} {C a I S : Addr} {g i N : Nat} {uy : Value} {B : Nat} {W : Wd} {σ : L2.St} {H : Hp} {s : Shared} {A : Around} {acc : Array Value} {c : Nat}
/-- the list that is being filled -/
abbrev pinS (pins : List (Addr × Obj)) (S : Addr) (acc : Array Value) (c : Nat) : List (Addr × Obj) := pins ++ [(S, lstObj acc c)]
/-- an item is put behind it -/
theorem G1.push (fS : FpOk X pins H S) (p : G1 X (pinS pins S acc c) σ C a g uy I N i H s) (v : Value) (gs : Array GenState) (hb : AllBare gs) :
    ∃ c', G1 X (pinS pins S (acc.push v) c') σ C a g uy I N i H { s with gens := gs, heap := s.heap.update S (Obj.mapSeq (·.push v)) } := by
  have inP : ∀ {o : Obj}, (S, o) ∈ X.pn ++ (pins ++ [(S, o)]) := fun {o} => List.mem_append_right _ (List.mem_append_right _ (List.mem_singleton.mpr rfl))
  obtain ⟨eS, hS0, hSL, hSf, _⟩ := p.g0.inv.pin (S, lstObj acc c) inP
  have eS' := Heap.get?_update_self (Obj.mapSeq (·.push v)) eS rfl
  have keep : ∀ b o, b ≠ S → s.heap.get? b = some o → (s.heap.update S (Obj.mapSeq (·.push v))).get? b = some o := fun b o hbS e => (Heap.get?_update_other _ _ (Ne.symm hbS)).trans e
  have I0 : Inv X pins σ H s := p.g0.inv.unpinned
  have I1 : Inv X pins σ H { s with heap := s.heap.update S (Obj.mapSeq (·.push v)) } := I0.turned (t' := s.toks) (it := S) keep fS.1 fS.2.1 fS.2.2.2.1 fS.2.2.2.2.1 fS.2.2.2.2.2
  have neS : ∀ b, FpOk X (pinS pins S acc c) H b → b ≠ S := fun b f => Ne.symm (f.2.2.2.2.2 (S, lstObj acc c) inP)
  have fp : ∀ {o : Obj} b, FpOk X (pinS pins S acc c) H b → FpOk X (pins ++ [(S, o)]) H b := fun {o} b f => ⟨f.1, f.2.1, f.2.2.1, f.2.2.2.1, f.2.2.2.2.1, fun q hq => by
    rcases List.mem_append.mp hq with z | z
    · exact f.2.2.2.2.2 q (List.mem_append_left _ z)
    · rcases List.mem_append.mp z with z | z
      · exact f.2.2.2.2.2 q (List.mem_append_right _ (List.mem_append_left _ z))
      · rw [List.mem_singleton.mp z]
        exact f.2.2.2.2.2 (S, lstObj acc c) inP⟩
  obtain ⟨c', ec⟩ : ∃ c', (s.heap.update S (Obj.mapSeq (·.push v))).get? S = some (lstObj (acc.push v) c') := ⟨_, eS'⟩
  have I2 : Inv X (pinS pins S (acc.push v) c') σ H { s with heap := s.heap.update S (Obj.mapSeq (·.push v)) } := I1.pins_of fun q hq => by
    rcases List.mem_append.mp hq with z | z
    · exact I1.pin q (List.mem_append_right _ z)
    · rw [List.mem_singleton.mp z]
      exact ⟨ec, hS0, hSL, hSf, fun v e => by cases e⟩
  obtain ⟨m, ⟨oC, es, ep, hoC, hdC⟩, hm⟩ := p.g0.ns
  obtain ⟨oa, nm, qn, hoa, ra⟩ := p.g0.gen
  refine ⟨c', ⟨⟨inv_same I2 rfl rfl hb, ⟨m, ⟨oC, es, ep, keep C oC (neS C p.g0.fC) hoC, hdC⟩, hm⟩, ⟨oa, nm, qn, keep a oa (neS a p.g0.fa) hoa, ra⟩, fp C p.g0.fC, fp a p.g0.fa, p.g0.ca⟩, keep I _ (neS I p.fI) p.it, fp I p.fI, p.cI, p.Ia⟩⟩
/-- the words of a list that is being filled -/
def WL (pins : List (Addr × Obj)) (S : Addr) (σ : L2.St) (cont : Nat → Nat → List V → Hp → Prop) : Wd :=
  ⟨fun N i pins' σ' H => σ' = σ ∧ ∃ ys acc c, pins' = pinS pins S acc c ∧ Vals ys acc.toList ∧ ys.length = i ∧ cont N i ys H,
   fun N i x pins' σ' H => σ' = σ ∧ ∃ ys acc c, pins' = pinS pins S acc c ∧ Vals ys acc.toList ∧ ys.length = i ∧ cont N (i + 1) (ys ++ [x]) H⟩
theorem extend_turns {cont : Nat → Nat → List V → Hp → Prop} {res : Value} {R : Result → Shared → Prop} (hA : A.handled = none) (hd : A.depth < recursionLimit) (hB : B ≤ sizeLine) (fS : ∀ H, H S = none → FpOk X pins H S)
    (hend : ∀ N ys acc c H s', Inv X (pinS pins S acc c) σ H s' → Vals ys acc.toList → ys.length = N → cont N N ys H → R (.ok (.ret res)) s') :
    ∀ (m : Nat) (s : Shared), (∃ pins' σ' H gs, Inv X pins' σ' H s ∧ s.heap.IsGen a g ∧ s.gens[g]? = some gs ∧ gs.Goes (model X.prog X.w) A.in1.in1 (RG X (WL pins S σ cont)) (YG X C a g uy B (WL pins S σ cont)) m (.send .none) (s.setGen g .running)) →
      codeAny (model X.prog X.w) A (.builtin "list.extend.loop" ⟨[.ref S, .ref a, res], []⟩) R s := by
  intro m
  induction m with
  | zero =>
    rintro s ⟨pins', σ', H, gs, I0, hg, hgs, hgo⟩
    refine codeAny_builtin F.entry_extend_loop ?_
    rw [Around.under_plainId F.plain_extend_loop _]
    show wpAny _ A.in1 (pyNext (.ref a) >>= _) _ _ s
    refine wpAny_bind (next_one (A := A.in1) hA hd I0 hg hgs hgo (fun m' _ _ _ _ _ _ _ _ _ _ em => by cases em) fun N pins4 σ4 H4 s4 I4 hc4 => ?_)
    obtain ⟨rfl, ys, acc, c, rfl, hv, hl, hc⟩ := hc4
    exact wpAny_pure (hend N ys acc c H4 s4 I4 hv hl hc)
  | succ m ih =>
    rintro s ⟨pins', σ', H, gs, I0, hg, hgs, hgo⟩
    refine codeAny_builtin F.entry_extend_loop ?_
    rw [Around.under_plainId F.plain_extend_loop _]
    show wpAny _ A.in1 (pyNext (.ref a) >>= _) _ _ s
    refine wpAny_bind (next_one (A := A.in1) hA hd I0 hg hgs hgo (fun m' N i x v It pins4 σ4 H4 s4 gs4 em hmi hi rx q4 hgiv hgs4 hkap => ?_) fun N pins4 σ4 H4 s4 I4 hc4 => ?_)
    · obtain rfl : m' = m := by omega
      obtain ⟨rfl, ys, acc, c, rfl, hv, hl, hc⟩ := hgiv
      have hS1 := (q4.g0.inv.pin (S, lstObj acc c) (List.mem_append_right _ (List.mem_append_right _ (List.mem_singleton.mpr rfl))))
      have hsz : acc.size = i := by
        have e1 := hv.length
        have e2 : acc.toList.length = acc.size := by simp
        omega
      show wpAny _ A.in1 (updateSeq S (·.push v) >>= _) _ _ _
      refine wpAny_bind ?_
      refine wpAny_updateSeq hS1.1 rfl (wpAny_pure ⟨plainId_quiet F.plain_extend_loop _, ?_⟩) (by omega) (by show (acc.push v).size ≤ sizeLine + 1; rw [Array.size_push]; omega)
      obtain ⟨c', G5⟩ := q4.push (fS H4 hS1.2.1) v s4.gens q4.g0.inv.bare
      refine ih _ ⟨_, _, H4, gs4, G5.g0.inv, G5.g0.gen, hgs4, ?_⟩
      refine (hkap _ (({ s4 with gens := s4.gens, heap := s4.heap.update S (Obj.mapSeq (·.push v)) } : Shared).setGen g .running) _ H4 (G5.same (s' := ({ s4 with gens := s4.gens, heap := s4.heap.update S (Obj.mapSeq (·.push v)) } : Shared).setGen g .running) rfl rfl (allBare_setGen (x := .running) G5.g0.inv.bare rfl)) ⟨rfl, ys ++ [x], acc.push v, c', rfl, ?_, by rw [List.length_append, List.length_singleton, hl], hc⟩).1
      rw [Array.toList_push]
      exact hv.append (.cons rx .nil)
    · obtain ⟨rfl, ys, acc, c, rfl, hv, hl, hc⟩ := hc4
      exact wpAny_pure (hend N ys acc c H4 s4 I4 hv hl hc)
end
end Gd

set_option Elab.async false
set_option linter.all false
set_option maxRecDepth 100000
set_option maxHeartbeats 4000000
/-! list(g), as an expression. -/
namespace Gd
open PySem PySem.Spec PyProof.Rows L2 Mv GenW Ge Gp
section
variable {X : Cx} {pins : List (Addr × Obj)} {S : Addr} {σ : L2.St} {H : Hp} {s : Shared} {acc : Array Value} {c : Nat} {ys : List V}
/-- the list is tracked -/
theorem Inv.shown (I : Inv X pins σ H s) (fS : FpOk X pins H S) (e : s.heap.get? S = some (lstObj acc c)) (r : Vals ys acc.toList) (hl : ys.length ≤ sizeLine) : Inv X pins σ (upd H S (.lst ys)) s := by
  have hn := fS.1
  refine I.call' (ch := [S]) rfl ⟨fun b o q _ _ _ => q, fun b o q _ _ _ => ⟨o.slots, q⟩, fun b o q n hx => ?_, fun b o q _ => ⟨o, q⟩, fun b xs q => ?_, fun b ob y q => ?_, fun b qs q => ?_⟩ (fun b u q => ?_) I.bare fun b hb => ?_
  · rw [upd_ne (fun z => hx (by rw [z]; exact List.mem_singleton.mpr rfl))]; exact n
  · rw [upd_ne (ne_of_none q hn)]; exact q
  · rw [upd_ne (ne_of_none q hn)]; exact q
  · exact ⟨#[], by rw [upd_ne (ne_of_none q hn), q]; simp⟩
  · by_cases hb : b = S
    · subst hb
      rw [upd_same] at q
      cases q
      exact ⟨hl, acc.toList, c, r, by rw [e]⟩
    · rw [upd_ne hb] at q
      exact (I.hok b u q).stay (fun _ _ _ z => z) (fun d z => by rw [upd_ne (ne_of_none z hn)]; exact z) fun d xs z => by rw [upd_ne (ne_of_none z hn)]; exact z
  · rw [List.mem_singleton.mp hb]
    exact ⟨fS.2.2.2.1, fS.2.1, fS.2.2.2.2.1, fS.2.2.2.2.2⟩
/-- what list(g) is -/
def tListGen (sp spc : Sp) (B : Nat) (te : TE) : TE := fun σ H Q => te σ H fun y H1 => ∃ cont : Nat → Nat → List V → Hp → Prop,
  spc [y] H1 (fun v H' => ∃ N : Nat, v = .int (N : Int) ∧ N < B ∧ cont N 0 [] H') E0 ∧
  (∀ N i ys H, i < N → cont N i ys H → sp [y, .int (i : Int)] H (fun x H' => cont N (i + 1) (ys ++ [x]) H') E0) ∧
  ∀ N ys H, cont N N ys H → ∀ S, H S = none → Q (.ref S) (upd H S (.lst ys))
end
section
variable {X : Cx} {f fc fg : Addr} {k B : Nat} {fd fdc : FuncData} {sp spc : Sp} {ps psc : List Str} {name qual : Str} {params : Arguments} {scope : Scope} {dV kV doc pm cdv ct oc : Value} {an od : Option Addr} {osl : Array (Option Value)} {tp r1 c1 c2 c3 r2 fp p1 p2 p3 p4 yp ep : Pos}
theorem pe_listGen {e : Expr} {te : TE} {q1 q2 l1 l2 : Pos} (D : GK X k B fg f fc fd fdc sp spc ps psc name qual params scope dV kV doc pm cdv ct oc an od osl tp r1 c1 c2 c3 r2 fp p1 p2 p3 p4 yp ep) (hB : B ≤ sizeLine)
    (hr : Room (k + 4) X.A) (hgl : Gl X "all_records") (hgL : Gl X "list") (hmL : X.mg "list" = none) (he : PE X e te) (hs : starEach [e] X.env = (false, eval e X.env) :: starEach [] X.env)
    (hs2 : starEach [.Call (.Name "all_records" q1) [e] [] q2] X.env = (false, eval (.Call (.Name "all_records" q1) [e] [] q2) X.env) :: starEach [] X.env := by rfl) :
    PE X (.Call (.Name "list" l1) [.Call (.Name "all_records" q1) [e] [] q2] [] l2) (tListGen sp spc B te) := by
  refine ⟨fun pins s σ H Q I h => ?_⟩
  refine wpAny_Call_Name_kw (ld_blt I hgL hmL boot_list ?_)
  refine PyProof.Rows.callWith_type1 ?_ hs2 rfl
  rw [hs2]
  refine Calls.spliced_cons (gen_at D (hr.mono (by omega)) hgl he hs I h fun y uy C a g H1 s1 ry ⟨cont, hc, hstep, hend⟩ p0 hgs => ?_)
  refine Calls.spliced_nil ?_
  have I1 := p0.inv
  have la : a < s1.heap.objs.size := by obtain ⟨o, nm, qn, ho, _⟩ := p0.gen; exact Heap.lt_size ho
  have lC : C < s1.heap.objs.size := by obtain ⟨m, hn, _⟩ := p0.ns; exact hn.lt
  have hSa : s1.heap.objs.size ≠ a := Nat.ne_of_gt la
  have hSC : s1.heap.objs.size ≠ C := Nat.ne_of_gt lC
  have fS : ∀ H, H s1.heap.objs.size = none → FpOk X pins H s1.heap.objs.size := fun H hn => I1.fpOk (Nat.le_refl _) hn
  refine callType_codes (Q₁ := fun obj s₁ => obj = .ref s1.heap.objs.size ∧ s₁ = { s1 with heap := s1.heap.push { cls := .type "list", data := .seq #[] } }) F.called_list (F.typeCall_list_1 _) F.entry_list_init
    (code_list_new _ ⟨rfl, rfl⟩) fun obj s₁ h₁ => ?_
  obtain ⟨rfl, rfl⟩ := h₁
  have hS : (s1.heap.push { cls := .type "list", data := .seq #[] }).get? s1.heap.objs.size = some { cls := .type "list", data := .seq #[] } := Heap.get?_push_size _ rfl
  refine ⟨⟨_, hS, rfl⟩, F.args_list_init_2 _ _, ?_⟩
  have up : ∀ (h : Heap) (f : Obj → Obj), (∀ b o, s1.heap.get? b = some o → h.get? b = some o) → ∀ b o, s1.heap.get? b = some o → (h.update s1.heap.objs.size f).get? b = some o := fun h f q b o e =>
    (Heap.get?_update_other _ _ (Ne.symm (Nat.ne_of_lt (Heap.lt_size e)))).trans (q b o e)
  have k1 : ∀ b o, s1.heap.get? b = some o → (s1.heap.push { cls := .type "list", data := .seq #[] }).get? b = some o := fun b o e => Heap.get?_push_of_some _ e
  have k2 := up _ (Obj.mapSeq (fun _ => (#[] : Array Value))) k1
  have gty : ∀ {h : Heap}, (∀ b o, s1.heap.get? b = some o → h.get? b = some o) → h.IsGen a g := fun {h} q => p0.gen.keeps q
  have h1 : Builtin.List.listSameRef (.ref s1.heap.objs.size) (.ref a) = false := by simp [Builtin.List.listSameRef, hSa]
  have h2 : (Value.type "generator" == Value.type "list") = false := by decide
  have h3 : (Value.type "generator" == Value.type "tuple") = false := by decide
  have hS2 := Heap.get?_update_self (Obj.mapSeq (fun _ => (#[] : Array Value))) hS rfl
  have hS3 := Heap.get?_update_self (Obj.mapSeq (·.push Value.none)) hS2 rfl
  have hS4 := Heap.get?_update_self (Obj.mapSeq (·.pop)) hS3 rfl
  have k4 := up _ (Obj.mapSeq (·.pop)) (up _ (Obj.mapSeq (·.push Value.none)) k2)
  show wpAny _ X.A.in1.in1 (do let old ← Builtin.List.listItems (.ref s1.heap.objs.size); Builtin.List.listUpdate (.ref s1.heap.objs.size) (fun _ => #[]); letGo old.toList.reverse; Builtin.List.listExtendWith (.ref s1.heap.objs.size) (.ref a) .none) _ _ _
  refine wpAny_bind ?_
  unfold Builtin.List.listItems
  refine wpAny_bind (wpAny_seqItems hS rfl (wpAny_pure ?_))
  show wpAny _ X.A.in1.in1 (updateSeq s1.heap.objs.size (fun _ => #[]) >>= fun _ => letGo (#[] : Array Value).toList.reverse >>= fun _ => Builtin.List.listExtendWith (.ref s1.heap.objs.size) (.ref a) .none) _ _ _
  refine wpAny_bind (wpAny_updateSeq hS rfl (wpAny_bind (wpAny_letGo ?_)))
  unfold Builtin.List.listExtendWith
  refine wpAny_bind (wpAny_typeOf (Heap.IsGen.typeIs (s := { s1 with heap := _ }) (gty k2)) ?_)
  simp only [h1, h2, h3, Bool.or_false, Bool.false_eq_true, if_false]
  refine wpAny_bind (wpAny_pyIter_gen (s := { s1 with heap := _ }) (gty k2) (wpAny_bind (wpAny_holding ?_)))
  unfold Builtin.List.listLengthHint
  refine wpAny_bind (wpAny_specialOf (Heap.IsGen.typeIs (s := { s1 with heap := _ }) (gty k2)) F.gen_no_len ?_)
  show wpAny _ X.A.in1.in1 (specialOf (Value.ref a) (Str.ofString "__length_hint__") >>= _) _ _ _
  refine wpAny_bind (wpAny_specialOf (Heap.IsGen.typeIs (s := { s1 with heap := _ }) (gty k2)) F.gen_no_hint (wpAny_pure ?_))
  show wpAny _ X.A.in1.in1 (rule "list.extend.makes-room" >>= fun _ => Builtin.List.listTouch (.ref s1.heap.objs.size) >>= fun _ =>
    again (.builtin "list.extend.loop" ⟨[.ref s1.heap.objs.size, .ref a, .none], []⟩)) _ _ _
  refine wpAny_bind (wpAny_rule (wpAny_bind ?_))
  show wpAny _ X.A.in1.in1 (updateSeq s1.heap.objs.size (·.push .none) >>= fun _ => updateSeq s1.heap.objs.size (·.pop)) _ _ _
  refine wpAny_bind (wpAny_updateSeq hS2 rfl (wpAny_updateSeq (hz := by seq_fits) hS3 rfl (wpAny_pure ⟨plainId_quiet F.plain_extend_loop _, ?_⟩)))
  generalize hh4 : ((((s1.heap.push { cls := .type "list", data := .seq #[] }).update s1.heap.objs.size (Obj.mapSeq (fun _ => (#[] : Array Value)))).update s1.heap.objs.size (Obj.mapSeq (·.push Value.none))).update s1.heap.objs.size (Obj.mapSeq (·.pop))) = h4 at hS4 k4 ⊢
  obtain ⟨c4, hS5⟩ : ∃ c4, h4.get? s1.heap.objs.size = some (lstObj #[] c4) := ⟨_, hS4⟩
  have I4 : Inv X pins σ H1 { s1 with heap := h4 } := Inv.kept (t' := s1.toks) I1 k4
  have f0 := fS H1 (I1.hok.fresh (Nat.le_refl _))
  have I5 : Inv X (pinS pins s1.heap.objs.size #[] c4) σ H1 { s1 with heap := h4 } := I4.pins_of fun q hq => by
    rcases List.mem_append.mp hq with z | z
    · exact I4.pin q (List.mem_append_right _ z)
    · rw [List.mem_singleton.mp z]
      exact ⟨hS5, f0.1, f0.2.1, f0.2.2.1, fun v e => by cases e⟩
  have fpS : ∀ b, b ≠ s1.heap.objs.size → FpOk X pins H1 b → FpOk X (pinS pins s1.heap.objs.size #[] c4) H1 b := fun b hb f => ⟨f.1, f.2.1, f.2.2.1, f.2.2.2.1, f.2.2.2.2.1, fun q hq => by
    rcases List.mem_append.mp hq with z | z
    · exact f.2.2.2.2.2 q (List.mem_append_left _ z)
    · rcases List.mem_append.mp z with z | z
      · exact f.2.2.2.2.2 q (List.mem_append_right _ z)
      · rw [List.mem_singleton.mp z]
        exact Ne.symm hb⟩
  obtain ⟨m, ⟨oC, es, ep, hoC, hdC⟩, hm⟩ := p0.ns
  have p5 : G0 X (pinS pins s1.heap.objs.size #[] c4) σ C a g uy H1 { s1 with heap := h4 } := ⟨I5, ⟨m, ⟨oC, es, ep, k4 C oC hoC, hdC⟩, hm⟩, gty k4, fpS C (Ne.symm hSC) p0.fC, fpS a (Ne.symm hSa) p0.fa, p0.ca⟩
  have pinj : ∀ {acc acc' : Array Value} {c c' : Nat}, pinS pins s1.heap.objs.size acc c = pinS pins s1.heap.objs.size acc' c' → acc = acc' := fun {acc acc' c c'} e => by
    have := List.append_cancel_left e
    cases this
    rfl
  have go := go_fresh (W := WL pins s1.heap.objs.size σ (fun N i ys H => N < B ∧ cont N i ys H)) (A := X.A.in1.in1.in1) D (by show X.A.frames = _; exact I1.ok.frames) hr.in1.in1.in1 ry p5 hgs
    (by
      have e : (fun v H' => ∃ N : Nat, v = V.int (N : Int) ∧ N < B ∧ (WL pins s1.heap.objs.size σ (fun N i ys H => N < B ∧ cont N i ys H)).cont N 0 (pinS pins s1.heap.objs.size #[] c4) σ H') = (fun v H' => ∃ N : Nat, v = V.int (N : Int) ∧ N < B ∧ cont N 0 [] H') := by
        funext v H'
        refine propext ⟨fun ⟨N, e1, e2, _, ys, acc, c, e3, hv, hl, _, hc⟩ => ?_, fun ⟨N, e1, e2, hc⟩ => ⟨N, e1, e2, rfl, [], #[], c4, rfl, .nil, rfl, e2, hc⟩⟩
        obtain rfl : ys = [] := List.length_eq_zero_iff.mp hl
        exact ⟨N, e1, e2, hc⟩
      rw [e]; exact hc)
    (by
      rintro N i pins' σ' H' hi ⟨rfl, ys, acc, c, rfl, hv, hl, hNB, hc'⟩
      have e : (fun x H'' => (WL pins s1.heap.objs.size σ' (fun N i ys H => N < B ∧ cont N i ys H)).given N i x (pinS pins s1.heap.objs.size acc c) σ' H'') = (fun x H'' => cont N (i + 1) (ys ++ [x]) H'') := by
        funext x H''
        refine propext ⟨fun ⟨_, ys', acc', c', e3, hv', hl', _, hc⟩ => ?_, fun hc => ⟨rfl, ys, acc, c, rfl, hv, hl, hNB, hc⟩⟩
        have ea := pinj e3
        subst ea
        rw [hv.inj hv']
        exact hc
      rw [e]
      exact hstep N i ys H' hi hc')
  refine extend_turns (A := X.A.in1) (B := B) (uy := uy) (C := C) hr.hd (by have := hr.dp; show X.A.depth < _; omega) hB fS (fun N ys acc c H s' I6 hv hl hc => ?_) B _ ⟨_, σ, H1, _, I5, gty k4, hgs, go⟩
  have q6 := I6.pin (s1.heap.objs.size, lstObj acc c) (List.mem_append_right _ (List.mem_append_right _ (List.mem_singleton.mpr rfl)))
  exact ⟨rfl, .ref s1.heap.objs.size, upd H s1.heap.objs.size (.lst ys), Inv.shown I6.unpinned (fS H q6.2.1) q6.1 hv (by have := hc.1; omega), rfl, hend N ys H hc.2 _ q6.2.1⟩
end
end Gd

set_option Elab.async false
set_option linter.all false
set_option maxRecDepth 100000
set_option maxHeartbeats 4000000
/-! enumerate(g): it is made; its next pair. -/
namespace Gd
open PySem PySem.Spec PyProof.Rows L2 Mv GenW Ge Gp
open AutoSeq1 (wpAny_loadPart')
theorem meets_enumG (a : Addr) (g : Nat) :
    Meets (Builtin.«enumerate.__new__» ⟨[.type "enumerate", .ref a], []⟩) (fun _ R s => s.heap.IsGen a g ∧
      R (.ok (.ret (.ref s.heap.objs.size))) { s with heap := s.heap.push { cls := .type "enumerate", data := .fields #[.none, .bool false, .ref a, rawInt 0, .none, .none] } }) :=
  .of_wp fun prog w A R s h => by
    obtain ⟨hp, g', d, tk, os⟩ := s
    obtain ⟨hl, h⟩ := h
    have hsub := sub_enumerate
    have hG : Heap.IsGen (Shared.heap ⟨hp, g', d, tk, os⟩) a g := hl
    wp_walk
    refine wpAny_stack_any fun st => wpAny_pure ?_
    split
    · rename_i c _ _ _ _ _
      cases (c == Value.type "enumerate")
      · wp_walk using wpAny_pyIter_gen hG
        exact ⟨_, rfl, h⟩
      · wp_walk using wpAny_pyIter_gen hG
        exact ⟨_, rfl, h⟩
    · wp_walk using wpAny_pyIter_gen hG
      exact ⟨_, rfl, h⟩
section
variable {prog : Program} {w : World} {A : Around} {E : Value → Shared → Prop} {s : Shared}
theorem call_enumG {a : Addr} {g : Nat} {Q : Value → Shared → Prop} (hg : s.heap.IsGen a g)
    (h : ∀ h', IsEnum h' s.heap.objs.size a 0 .none → h'.objs.size = s.heap.objs.size + 1 → (∀ b o, s.heap.get? b = some o → h'.get? b = some o) → Q (.ref s.heap.objs.size) { s with heap := h' }) :
    wpAny (model prog w) A (call (.type "enumerate") [.ref a]) Q E s := by
  refine callType_new F.called_enumerate (by decide) (F.typeCall_enumerate_1 _) (F.newCall_enumerate_1 _) (fun obj => F.args_object_init_2 obj _) F.entry_enumerate_new (meets_enumG a g) ⟨hg, ?_⟩
  have he : IsEnum (s.heap.push { cls := .type "enumerate", data := .fields #[.none, .bool false, .ref a, rawInt 0, .none, .none] }) s.heap.objs.size a 0 .none := Heap.get?_push_size _ rfl
  exact ⟨⟨_, he, rfl⟩, h _ he (Heap.size_push ..) fun b o x => Heap.get?_push_of_some _ x⟩
/-- the next pair, by the inner step -/
theorem next_enum {e it : Addr} {i : Nat} {old : Value} {Q : Option Value → Shared → Prop} (he : IsEnum s.heap e it (i : Int) old)
    (h : wpAny (model prog w) A.in1 (Builtin.SmallTypes.nextOf (.ref it)) (fun x s1 => ∃ old1, IsEnum s1.heap e it (i : Int) old1 ∧
      ∀ h', IsEnumOut h' e it ((i : Int) + 1) x s1.heap.objs.size → h'.get? s1.heap.objs.size = some { cls := .type "tuple", data := .seq #[.int i s1.toks, x] } → h'.objs.size = s1.heap.objs.size + 1 →
        (∀ b o, b ≠ e → s1.heap.get? b = some o → h'.get? b = some o) → Q (some (.ref s1.heap.objs.size)) { s1 with heap := h', toks := s1.toks + 1 })
      (fun x s1 => ∃ a o, x = .ref a ∧ s1.heap.get? a = some o ∧ o.cls = .type "StopIteration" ∧ Q none s1) s) : wpAny (model prog w) A (pyNext (.ref e)) Q E s := by
  have hT : s.TypeIs (.ref e) "enumerate" := ⟨_, he, rfl⟩
  unfold pyNext
  refine wpAny_bind (wpAny_attempt (wpAny_callSpecial?_slot (name := Str.ofString "__next__") hT F.slot_enumerate_next
    (wpAny_call_entry F.slot_enumerate_next hT F.entry_enumerate_next ?_ (F.args_enumerate_next_1 _))))
  show wpAny _ _ (field (.ref e) 2 >>= _) _ _ _
  refine wpAny_bind (wpAny_field he rfl (x := .ref it) rfl ?_)
  refine wpAny_bind (wpAny_mono h (fun x s1 hx => ?_) fun x s1 hx => ?_)
  · obtain ⟨old1, he₁, hQ⟩ := hx
    obtain ⟨h₁, g, d, tk, os⟩ := s1
    show wpAny _ _ (field (.ref e) 3 >>= _) _ _ ⟨h₁, g, d, tk, os⟩
    refine wpAny_bind (wpAny_field he₁ rfl (x := rawInt i) rfl ?_)
    show wpAny _ _ (field (.ref e) 4 >>= _) _ _ ⟨h₁, g, d, tk, os⟩
    refine wpAny_bind (wpAny_field he₁ rfl (x := .none) rfl ?_)
    show wpAny _ _ (mkInt i >>= _) _ _ ⟨h₁, g, d, tk, os⟩
    refine wpAny_bind (wpAny_mkInt ?_)
    show wpAny _ _ (setField (.ref e) 3 (rawInt ((i : Int) + 1)) >>= _) _ _ ⟨h₁, g, d, tk + 1, os⟩
    refine wpAny_bind (wpAny_setField_rec he₁ (by simp) fun h₂ he₂ hs₂ => ?_)
    replace hs₂ : Heap.SameBut e h₁ h₂ := hs₂
    replace he₂ : IsEnum h₂ e it ((i : Int) + 1) old1 := he₂
    show wpAny _ _ (setField (.ref e) 4 .none >>= _) _ _ ⟨h₂, g, d, tk + 1, os⟩
    refine wpAny_bind (wpAny_setField_rec he₂ (by simp) fun h₃ he₃ hs₃ => ?_)
    replace hs₃ : Heap.SameBut e h₂ h₃ := hs₃
    replace he₃ : IsEnum h₃ e it ((i : Int) + 1) old1 := he₃
    show wpAny _ _ (newTuple [.int i tk, x] >>= _) _ _ ⟨h₃, g, d, tk + 1, os⟩
    refine wpAny_bind (wpAny_newTuple ?_)
    have sz3 : h₃.objs.size = h₁.objs.size := by rw [hs₃.1, hs₂.1]
    have lt : e < h₁.objs.size := Heap.lt_size he₁
    obtain ⟨h₄, hh₄⟩ : ∃ h₄, h₄ = h₃.push { cls := .type "tuple", data := .seq #[.int i tk, x] } := ⟨_, rfl⟩
    have he₄ : IsEnum h₄ e it ((i : Int) + 1) old1 := by rw [hh₄]; exact Heap.get?_push_of_some _ he₃
    have ht₄ : h₄.get? h₁.objs.size = some { cls := .type "tuple", data := .seq #[.int i tk, x] } := by rw [hh₄, ← sz3]; exact Heap.get?_push_size _ rfl
    have z₄ : h₄.objs.size = h₁.objs.size + 1 := by rw [hh₄, Heap.size_push, sz3]
    have k₄ : ∀ b o, b ≠ e → h₁.get? b = some o → h₄.get? b = some o := fun b o hbe hb => by
      rw [hh₄]; exact Heap.get?_push_of_some _ (hs₃.extBut b o hbe (hs₂.extBut b o hbe hb))
    show wpAny _ _ (Builtin.SmallTypes.ownedTupleIsFree (.ref e) >>= _) _ _ ⟨h₃.push { cls := .type "tuple", data := .seq #[.int i tk, x] }, g, d, tk + 1, os⟩
    rw [← hh₄, sz3]
    unfold Builtin.SmallTypes.ownedTupleIsFree
    refine wpAny_bind (wpAny_bind (wpAny_field he₄ rfl (x := .none) rfl (wpAny_pure ?_)))
    simp only [if_true]
    refine wpAny_bind (wpAny_rule (wpAny_bind (wpAny_field he₄ rfl (x := old1) rfl ?_)))
    refine wpAny_bind (wpAny_setField_rec he₄ (by simp) fun h₅ he₅ hs₅ => ?_)
    replace hs₅ : Heap.SameBut e h₄ h₅ := hs₅
    replace he₅ : IsEnum h₅ e it ((i : Int) + 1) x := he₅
    unfold Builtin.SmallTypes.ownedTupleHandOut
    refine wpAny_bind (wpAny_bind (wpAny_setField_rec he₅ (by simp) fun h₆ he₆ hs₆ => ?_))
    replace hs₆ : Heap.SameBut e h₅ h₆ := hs₆
    replace he₆ : IsEnumOut h₆ e it ((i : Int) + 1) x h₁.objs.size := he₆
    refine wpAny_setField_rec he₆ (by simp) fun h₇ he₇ hs₇ => ?_
    replace hs₇ : Heap.SameBut e h₆ h₇ := hs₇
    replace he₇ : IsEnumOut h₇ e it ((i : Int) + 1) x h₁.objs.size := he₇
    have k₇ : ∀ b o, b ≠ e → h₄.get? b = some o → h₇.get? b = some o := fun b o hbe hb => hs₇.extBut b o hbe (hs₆.extBut b o hbe (hs₅.extBut b o hbe hb))
    refine wpAny_bind (wpAny_letGo (wpAny_pure ⟨_, rfl, ?_⟩))
    exact wpAny_pure (hQ h₇ he₇ (k₇ _ _ (Nat.ne_of_gt lt) ht₄) (by rw [hs₇.1, hs₆.1, hs₅.1, z₄]) fun b o hbe hb => k₇ b o hbe (k₄ b o hbe hb))
  · obtain ⟨a, o, rfl, ho, hc, hQ⟩ := hx
    refine wpAny_bind (wpAny_isInstance (T := "StopIteration") (b := true) ⟨o, ho, hc⟩ isSubtype_stop ?_)
    exact wpAny_pure hQ
end
end Gd

set_option Elab.async false
set_option linter.all false
set_option maxRecDepth 100000
set_option maxHeartbeats 4000000
/-! `for n, r in enumerate(g)`. -/
namespace Gd
open PySem PySem.Spec PyProof.Rows L2 Mv GenW Ge Gp
section
variable {X : Cx} {pins pins' : List (Addr × Obj)} {C a I e : Addr} {g i N k : Nat} {uy : Value} {B : Nat} {W : Wd} {y : V} {σ σ' : L2.St} {H H' : Hp} {s s' : Shared} {A : Around}
/-- one step, asked for by a builtin -/
theorem step_one {E : Value → Shared → Prop} {Q : Value → Shared → Prop} {gs : GenState} {m : Nat} (hA : A.handled = none) (hd : A.depth < recursionLimit) (I0 : Inv X pins σ H s) (hg : s.heap.IsGen a g) (hgs : s.gens[g]? = some gs)
    (hgo : gs.Goes (model X.prog X.w) A.in1 (RG X W) (YG X C a g uy B W) m (.send .none) (s.setGen g .running))
    (hY : ∀ (m' N i : Nat) (x : V) (v : Value) (I : Addr) (pins : List (Addr × Obj)) (σ : L2.St) (H : Hp) (s2 : Shared) (gs' : GenState), m = m' + 1 → m' + (i + 1) = B → i < N → RelV x v → G1 X pins σ C a g uy I N (i + 1) H s2 → W.given N i x pins σ H → s2.gens[g]? = some gs' →
      (∀ pins' s' σ' H', G1 X pins' σ' C a g uy I N (i + 1) H' s' → W.cont N (i + 1) pins' σ' H' → gs'.Goes (model X.prog X.w) A.in1 (RG X W) (YG X C a g uy B W) m' (.send .none) s' ∧ gs'.Goes (model X.prog X.w) A.in1 (RG X W) (YG X C a g uy B W) m' (.send (.bool true)) s') → Q v s2)
    (hP : ∀ (N : Nat) (pins : List (Addr × Obj)) (σ : L2.St) (H : Hp) (s2 : Shared) (e : Addr) (o : Obj), Inv X pins σ H s2 → W.cont N N pins σ H → s2.heap.get? e = some o → o.cls = .type "StopIteration" → E (.ref e) s2) : wpAny (model X.prog X.w) A (Builtin.SmallTypes.nextOf (.ref a)) Q E s := by
  have hgl : g < s.gens.size := (Array.getElem?_eq_some_iff.mp hgs).1
  refine wpAny_gsz (n := g + 1) hgl (nextOf_gen (A := A) (F := FG X W) hA I0.nolimit hd hg hgs hgo (fun v s₁ gs' hbare hv => ?_) fun s₁ hp h' e o hk he hc => ?_)
  · intro hsz
    obtain ⟨N, i, x, I, pins1, σ1, H1, hn, hi, hNB, rx, q1, hgiv, hkap⟩ := hv
    obtain ⟨m', rfl⟩ : ∃ m', m = m' + 1 := ⟨m - 1, by omega⟩
    have hsz1 : g < s₁.gens.size := by
      have q : (s₁.setGen g gs').gens.size = s₁.gens.size := setGen_size _ _ _
      have : g + 1 ≤ (s₁.setGen g gs').gens.size := hsz
      omega
    exact hY m' N i x v I pins1 σ1 H1 (s₁.setGen g gs') gs' rfl (by omega) hi rx (q1.same rfl rfl (allBare_setGen q1.g0.inv.bare hbare)) hgiv (setGen_at hsz1) fun pins' s' σ' H' p' hc' => hkap pins' s' σ' H' p' hc'
  · intro _
    obtain ⟨N, pins1, σ1, H1, v1, hq⟩ := hp
    exact hP N pins1 σ1 H1 _ e o (inv_same (s' := { s₁.setGen g .finished with heap := h' }) (Inv.kept (t' := s₁.toks) v1 hk) rfl rfl (allBare_setGen v1.bare rfl)) hq he hc
/-- the same objects under other pins, in a later state -/
theorem G1.moved (p : G1 X pins σ C a g uy I N i H s) (J : Inv X pins' σ' H' s') (hk : ∀ b ∈ [C, I, a], (∀ o, s.heap.get? b = some o → s'.heap.get? b = some o) ∧ H' b = none ∧ ∀ q ∈ pins', q.1 ≠ b) : G1 X pins' σ' C a g uy I N i H' s' := by
  have fp : ∀ b ∈ [C, I, a], FpOk X pins H b → FpOk X pins' H' b := fun b hb f => ⟨(hk b hb).2.1, f.2.1, f.2.2.1, f.2.2.2.1, f.2.2.2.2.1, fun q hq => (List.mem_append.mp hq).elim (fun z => f.2.2.2.2.2 q (List.mem_append_left _ z)) fun z => (hk b hb).2.2 q z⟩
  obtain ⟨m, ⟨oC, es, ep, hoC, hdC⟩, hm⟩ := p.g0.ns
  obtain ⟨oa, nm, qn, hoa, ra⟩ := p.g0.gen
  exact ⟨⟨J, ⟨m, ⟨oC, es, ep, (hk C (by simp)).1 oC hoC, hdC⟩, hm⟩, ⟨oa, nm, qn, (hk a (by simp)).1 oa hoa, ra⟩, fp C (by simp) p.g0.fC, fp a (by simp) p.g0.fa, p.g0.ca⟩, (hk I (by simp)).1 _ p.it, fp I (by simp) p.fI, p.cI, p.Ia⟩
abbrev enumObj (a : Addr) (i : Nat) (old : Value) : Obj := { cls := .type "enumerate", dict := none, data := .fields #[.none, .bool false, .ref a, rawInt (i : Int), .none, old], slots := #[] }
abbrev pinE (pins : List (Addr × Obj)) (e a : Addr) (i : Nat) (old : Value) : List (Addr × Obj) := pins ++ [(e, enumObj a i old)]
/-- the reading of a `for` over its pairs -/
def tForE (sp spc : Sp) (B : Nat) (te : TE) (g : TG) (tb : TS) : TS := fun D σ H => te σ H fun y H1 => ∃ cont : Nat → Nat → L2.St → Hp → Prop,
  spc [y] H1 (fun v H' => ∃ N : Nat, v = .int (N : Int) ∧ N < B ∧ cont N 0 σ H') E0 ∧
  (∀ N i σ H, i < N → cont N i σ H → sp [y, .int (i : Int)] H (fun x H' => ∀ T, H' T = none → g (.ref T) σ (upd H' T (.tup [.int (i : Int), x])) fun σ2 H2 => tb { D with nx := cont N (i + 1), ct := cont N (i + 1), bk := D.nx } σ2 H2) E0) ∧ ∀ N σ H, cont N N σ H → D.nx σ H
end
end Gd

set_option Elab.async false
set_option linter.all false
set_option maxRecDepth 100000
set_option maxHeartbeats 4000000
/-! `for n, r in enumerate(g)`: the rule. -/
namespace Gd
open PySem PySem.Spec PyProof.Rows L2 Mv GenW Ge Gp
section
variable {X : Cx} {f fc fg : Addr} {k B : Nat} {fd fdc : FuncData} {sp spc : Sp} {ps psc : List Str} {name qual : Str} {params : Arguments} {scope : Scope} {dV kV doc pm cdv ct oc : Value} {an od : Option Addr} {osl : Array (Option Value)} {tp r1 c1 c2 c3 r2 fp p1 p2 p3 p4 yp ep : Pos}
theorem ps_forE {e : Expr} {te : TE} {g : TG} {tb : TS} {elts : List Expr} {kk : Nat} {tpos e1 e2 q1 q2 pos : Pos} {body : List Stmt} (D : GK X k B fg f fc fd fdc sp spc ps psc name qual params scope dV kV doc pm cdv ct oc an od osl tp r1 c1 c2 c3 r2 fp p1 p2 p3 p4 yp ep)
    (hp : PassesOwn (model X.prog X.w) X.A X.env X.xe) (hxe : ∀ (Dd : Nat → Prop) (e : Value) (s0 s : Shared), Po Dd s0 s → X.xe e s0 → X.xe e s) (hr : Room (k + 3) X.A) (hgl : Gl X "all_records") (hgE : Gl X "enumerate") (hmE : X.mg "enumerate" = none) (he : PE X e te) (hs : starEach [e] X.env = (false, eval e X.env) :: starEach [] X.env) (hg : PG X (.Tuple elts kk tpos) g) (hb : PSs X body tb)
    (hse : starEach [.Call (.Name "all_records" q1) [e] [] q2] X.env = (false, eval (.Call (.Name "all_records" q1) [e] [] q2) X.env) :: starEach [] X.env := by rfl)
    (hs2 : ∀ x, foldedSetIterable (.Call (.Name "enumerate" e1) [.Call (.Name "all_records" q1) [e] [] q2] [] e2) X.env x = pure x := by intro _; rfl) :
    PS X (.For (.Tuple elts kk tpos) (.Call (.Name "enumerate" e1) [.Call (.Name "all_records" q1) [e] [] q2] [] e2) body [] pos) (tForE sp spc B te g tb) := by
  refine ⟨fun pins s σ H Dn I h => ?_⟩
  refine wpAny_For ?_ hs2
  refine wpAny_Call_Name_kw (ld_blt I hgE hmE boot_enumerate ?_)
  refine PyProof.Rows.callWith_type1 ?_ hse rfl
  rw [hse]
  refine Calls.spliced_cons (gen_at D (hr.mono (by omega)) hgl he hs I h fun y uy C a gi H1 s1 ry ⟨cont, hc, hstep, hend⟩ p0 hgs => ?_)
  refine Calls.spliced_nil (call_enumG p0.gen fun h1 hen hsz hk1 => ?_)
  refine wpAny_pyIter_enum hen ?_
  have hA : X.A.handled = none := hr.hd
  have hd : X.A.depth < recursionLimit := hr.depth
  have la : a < s1.heap.objs.size := by obtain ⟨o, nm, qn, ho, _⟩ := p0.gen; exact Heap.lt_size ho
  have lC : C < s1.heap.objs.size := by obtain ⟨m, hn, _⟩ := p0.ns; exact hn.lt
  have fE : ∀ H, H s1.heap.objs.size = none → FpOk X pins H s1.heap.objs.size := fun H hn => p0.inv.fpOk (Nat.le_refl _) hn
  have f0 := fE H1 (p0.inv.hok.fresh (Nat.le_refl _))
  have I1 : Inv X pins σ H1 { s1 with heap := h1 } := Inv.kept (t' := s1.toks) p0.inv hk1
  have hC0 := p0.ns
  have hG0 := p0.gen
  generalize s1.heap.objs.size = ea at hen la lC fE f0
  have nC : ea ≠ C := Nat.ne_of_gt lC
  have na : ea ≠ a := Nat.ne_of_gt la
  have IE : Inv X (pinE pins ea a 0 .none) σ H1 { s1 with heap := h1 } := I1.pins_of fun q hq => by
    rcases List.mem_append.mp hq with z | z
    · exact I1.pin q (List.mem_append_right _ z)
    · rw [List.mem_singleton.mp z]
      exact ⟨hen, f0.1, f0.2.1, f0.2.2.1, fun v e => by cases e⟩
  have fpE : ∀ b, ea ≠ b → FpOk X pins H1 b → FpOk X (pinE pins ea a 0 .none) H1 b := fun b hb f => ⟨f.1, f.2.1, f.2.2.1, f.2.2.2.1, f.2.2.2.2.1, fun q hq => by
    rcases List.mem_append.mp hq with z | z
    · exact f.2.2.2.2.2 q (List.mem_append_left _ z)
    · rcases List.mem_append.mp z with z | z
      · exact f.2.2.2.2.2 q (List.mem_append_right _ z)
      · rw [List.mem_singleton.mp z]
        exact hb⟩
  obtain ⟨m, ⟨oC, es, ep', hoC, hdC⟩, hm⟩ := hC0
  have pE : G0 X (pinE pins ea a 0 .none) σ C a gi uy H1 { s1 with heap := h1 } := ⟨IE, ⟨m, ⟨oC, es, ep', hk1 C oC hoC, hdC⟩, hm⟩, hG0.keeps hk1, fpE C nC p0.fC, fpE a na p0.fa, p0.ca⟩
  generalize hW : (⟨fun N i pins' σ H => (∃ old, pins' = pinE pins ea a i old) ∧ cont N i σ H, fun N i x pins' σ H' => (∃ old, pins' = pinE pins ea a i old) ∧ ∀ T, H' T = none → g (.ref T) σ (upd H' T (.tup [.int (i : Int), x])) fun σ2 H2 => tb { Dn with nx := cont N (i + 1), ct := cont N (i + 1), bk := Dn.nx } σ2 H2⟩ : Wd) = W
  have hWc : ∀ N i pins' σ H, W.cont N i pins' σ H ↔ ((∃ old, pins' = pinE pins ea a i old) ∧ cont N i σ H) := fun N i pins' σ H => by rw [← hW]
  have hWg : ∀ N i x pins' σ H', W.given N i x pins' σ H' → (∃ old, pins' = pinE pins ea a i old) ∧ ∀ T, H' T = none → g (.ref T) σ (upd H' T (.tup [.int (i : Int), x])) fun σ2 H2 => tb { Dn with nx := cont N (i + 1), ct := cont N (i + 1), bk := Dn.nx } σ2 H2 := fun N i x pins' σ H' q => by subst hW; exact q
  have g0 := go_fresh (W := W) (A := X.A.in1.in1) D (by show X.A.frames = _; exact p0.inv.ok.frames) hr.in1.in1 ry pE hgs
    (by
      have e : (fun v H' => ∃ N : Nat, v = V.int (N : Int) ∧ N < B ∧ W.cont N 0 (pinE pins ea a 0 .none) σ H') = (fun v H' => ∃ N : Nat, v = V.int (N : Int) ∧ N < B ∧ cont N 0 σ H') := by
        funext v H'
        exact propext ⟨fun ⟨N, e1, e2, q⟩ => ⟨N, e1, e2, ((hWc _ _ _ _ _).mp q).2⟩, fun ⟨N, e1, e2, q⟩ => ⟨N, e1, e2, (hWc _ _ _ _ _).mpr ⟨⟨_, rfl⟩, q⟩⟩⟩
      rw [e]; exact hc)
    (by
      intro N i pins' σ H hi q
      obtain ⟨hold, q0⟩ := (hWc _ _ _ _ _).mp q
      clear q
      subst hW
      have e : (fun x H' => (∃ old, pins' = pinE pins ea a i old) ∧ ∀ T, H' T = none → g (.ref T) σ (upd H' T (.tup [.int (i : Int), x])) fun σ2 H2 => tb { Dn with nx := cont N (i + 1), ct := cont N (i + 1), bk := Dn.nx } σ2 H2) = (fun x H' => ∀ T, H' T = none → g (.ref T) σ (upd H' T (.tup [.int (i : Int), x])) fun σ2 H2 => tb { Dn with nx := cont N (i + 1), ct := cont N (i + 1), bk := Dn.nx } σ2 H2) := by
        funext x H'
        exact propext (and_iff_right hold)
      show sp _ H (fun x H' => _) E0
      rw [e]
      exact hstep N i σ H hi q0)
  refine codeAny_forLoop_any (fun n s' => ∃ j σ' H' gs old, n + j = B ∧ Inv X pins σ' H' s' ∧ IsEnum s'.heap ea a (j : Int) old ∧ s'.heap.IsGen a gi ∧ s'.gens[gi]? = some gs ∧ gs.Goes (model X.prog X.w) X.A.in1.in1 (RG X W) (YG X C a gi uy B W) n (.send .none) (s'.setGen gi .running)) ?_ B ⟨0, σ, H1, _, _, rfl, I1, hen, hG0.keeps hk1, hgs, g0⟩
  rintro n s3 ⟨j, σ3, H3, gs, old3, hnj, I3, hen3, hga, hgs3, hgo3⟩
  refine wpAny_passesOwn hp (next_enum (E := X.xe) hen3 (step_one (A := X.A.in1) hA hd I3 hga hgs3 hgo3 (fun m' N i x v It pins4 σ4 H4 s4 gs4 em hmi hi rx q4 hgiv hgs4 hkap => ?_) fun N pins4 σ4 H4 s4 ex o I4 hc4 hex hcls => ?_))
  rotate_left
  · obtain ⟨⟨old, rfl⟩, hc5⟩ := (hWc _ _ _ _ _).mp hc4
    exact ⟨ex, o, rfl, hex, hcls, wpAny_execs_nil ⟨σ4, H4, I4.unpinned, hend N σ4 H4 hc5⟩⟩
  obtain rfl : j = i := by omega
  obtain ⟨⟨old4, rfl⟩, hgv⟩ := hWg _ _ _ _ _ _ hgiv
  have hE4 := q4.g0.inv.pin (ea, enumObj a j old4) (List.mem_append_right _ (List.mem_append_right _ (List.mem_singleton.mpr rfl)))
  have lte : ea < s4.heap.objs.size := Heap.lt_size hE4.1
  refine ⟨old4, hE4.1, fun h' ho hT hsz' hk => ?_⟩
  refine wpAny_passesOwn hp (wpAny_letOwnedTupleGo_enum (s := { s4 with heap := h', toks := s4.toks + 1 }) ho fun h'' he' sb => ?_)
  have hT2 : h''.get? s4.heap.objs.size = some { cls := .type "tuple", data := .seq #[.int j s4.toks, v] } := (sb.2 _ (Nat.ne_of_gt lte)).trans hT
  have kk2 : ∀ b o, b ≠ ea → s4.heap.get? b = some o → h''.get? b = some o := fun b o hbe q => (sb.2 b hbe).trans (hk b o hbe q)
  have hTn : H4 s4.heap.objs.size = none := q4.g0.inv.hok.fresh (Nat.le_refl _)
  have new : ObjOk X.prog X.w (upd H4 s4.heap.objs.size (.tup [.int (j : Int), x])) h'' s4.heap.objs.size (.tup [.int (j : Int), x]) :=
    ⟨by show 2 ≤ sizeLine; decide, [.int j s4.toks, v], .cons ⟨_, rfl⟩ (.cons rx .nil), ⟨_, hT2, rfl, _, rfl⟩⟩
  have I5 : Inv X pins σ4 (upd H4 s4.heap.objs.size (.tup [.int (j : Int), x])) { s4 with heap := h'', toks := s4.toks + 1 } :=
    q4.g0.inv.unpinned.turnedNew (ch := [ea]) (fun b o hb q => kk2 b o (fun z => hb (by rw [z]; exact List.mem_singleton.mpr rfl)) q) (fun b hb => by rw [List.mem_singleton.mp hb]; exact fE H4 hE4.2.1) (Nat.le_refl _) new
  have he5 : h''.get? ea = some (enumObj a (j + 1) v) := by
    have e1 : ((j + 1 : Nat) : Int) = (j : Int) + 1 := by omega
    have e2 : enumObj a (j + 1) v = { cls := .type "enumerate", dict := none, data := .fields #[.none, .bool false, .ref a, rawInt ((j : Int) + 1), .none, v], slots := #[] } := by rw [← e1]
    rw [e2]
    exact he'
  have J5 : Inv X (pinE pins ea a (j + 1) v) σ4 (upd H4 s4.heap.objs.size (.tup [.int (j : Int), x])) { s4 with heap := h'', toks := s4.toks + 1 } := I5.pins_of fun q hq => by
    rcases List.mem_append.mp hq with z | z
    · exact I5.pin q (List.mem_append_right _ z)
    · rw [List.mem_singleton.mp z]
      exact ⟨he5, (upd_ne (Nat.ne_of_lt lte)).trans hE4.2.1, f0.2.1, f0.2.2.1, fun v e => by cases e⟩
  have q5 := q4.moved J5 fun b hb => by
    obtain ⟨fb, ob, hob, _⟩ := q4.objs b hb
    have nb : ea ≠ b := fb.2.2.2.2.2 (ea, enumObj a j old4) (List.mem_append_right _ (List.mem_append_right _ (List.mem_singleton.mpr rfl)))
    refine ⟨fun o q => kk2 b o (Ne.symm nb) q, (upd_ne (Nat.ne_of_lt (Heap.lt_size hob))).trans fb.1, fun q hq => ?_⟩
    rcases List.mem_append.mp hq with z | z
    · exact fb.2.2.2.2.2 q (List.mem_append_right _ (List.mem_append_left _ z))
    · rw [List.mem_singleton.mp z]
      exact nb
  have pin5 := q5.pin
  have gt5 : ({ s4 with heap := h'', toks := s4.toks + 1 } : Shared).gens[gi]? = some gs4 := hgs4
  generalize hs5 : ({ s4 with heap := h'', toks := s4.toks + 1 } : Shared) = s5 at J5 q5 pin5 gt5 ⊢
  have hgv5 := hgv s4.heap.objs.size hTn
  generalize upd H4 s4.heap.objs.size (.tup [.int (j : Int), x]) = H5 at J5 q5 pin5 hgv5
  have num5 : Inv X (pinE pins ea a (j + 1) v ++ pinsAt [C, It, a] s5.heap) σ4 H5 (numbS s5) := inv_same pin5 rfl rfl (numb_bare pin5.bare)
  refine wpAny_passesOwn hp (beside (hg.run _ (numbS s5) σ4 H5 (.ref s4.heap.objs.size) (.ref s4.heap.objs.size) _ num5 rfl hgv5) (fun _ s0 s6 ⟨σ6, H6, I6, q6⟩ po6 kp6 => ?_) fun e s0 s6 hx po6 _ => hxe _ e s0 s6 po6 hx)
  have J6 : Inv X (pinE pins ea a (j + 1) v ++ pinsAt [C, It, a] s5.heap) σ6 H6 s6 := inv_same I6 po6.heap po6.os (po_bare po6 I6.bare)
  have num6 : Inv X (pinE pins ea a (j + 1) v ++ pinsAt [C, It, a] s5.heap) σ6 H6 (numbS s6) := inv_same J6 rfl rfl (numb_bare J6.bare)
  refine wpAny_passesOwn hp (beside (hb.run _ (numbS s6) σ6 H6 _ num6 q6) (fun fl s0 s7 q7 po7 kp7 => ?_) fun e s0 s7 hx po7 _ => hxe _ e s0 s7 po7 hx)
  have tr : ∀ {σ7 : L2.St} {H7 : Hp}, Inv X (pinE pins ea a (j + 1) v ++ pinsAt [C, It, a] s5.heap) σ7 H7 s0 → Inv X (pinE pins ea a (j + 1) v ++ pinsAt [C, It, a] s5.heap) σ7 H7 s7 := fun {σ7 H7} I7 => inv_same I7 po7.heap po7.os (po_bare po7 I7.bare)
  have again : ∀ {σ7 : L2.St} {H7 : Hp}, Inv X (pinE pins ea a (j + 1) v ++ pinsAt [C, It, a] s5.heap) σ7 H7 s0 → cont N (j + 1) σ7 H7 → ∃ m, m < n ∧ ∃ jj σ' H' gs old, m + jj = B ∧ Inv X pins σ' H' s7 ∧ IsEnum s7.heap ea a (jj : Int) old ∧ s7.heap.IsGen a gi ∧ s7.gens[gi]? = some gs ∧ gs.Goes (model X.prog X.w) X.A.in1.in1 (RG X W) (YG X C a gi uy B W) m (.send .none) (s7.setGen gi .running) := fun {σ7 H7} I7 c7 => by
    have G7 := q5.back (tr I7)
    obtain ⟨go1, go2⟩ := hkap _ (s7.setGen gi .running) σ7 H7 (G7.same rfl rfl (allBare_setGen G7.g0.inv.bare rfl)) ((hWc _ _ _ _ _).mpr ⟨⟨v, rfl⟩, c7⟩)
    obtain ⟨kk', l, c, p, fs, cl, es'⟩ := slept_or go2
    have sl5 : Asleep s5 gi := ⟨kk', l, c, p, fs, cl, by rw [gt5, es']⟩
    have e6 := kp6 gi sl5
    have sl6 : Asleep s6 gi := ⟨kk', l, c, p, fs, cl, by rw [e6, gt5, es']⟩
    have e7 := kp7 gi sl6
    have pe := G7.g0.inv.pin (ea, enumObj a (j + 1) v) (List.mem_append_right _ (List.mem_append_right _ (List.mem_singleton.mpr rfl)))
    exact ⟨m', by omega, j + 1, σ7, H7, gs4, v, hmi, G7.g0.inv.unpinned, pe.1, G7.g0.gen, by rw [e7, e6, gt5], go1⟩
  cases fl with
  | next => obtain ⟨σ7, H7, I7, n7⟩ := q7; exact again I7 n7
  | cont => obtain ⟨σ7, H7, I7, n7⟩ := q7; exact again I7 n7
  | brk => obtain ⟨σ7, H7, I7, q7⟩ := q7; exact ⟨σ7, H7, (tr I7).unpinned.unpinned, q7⟩
  | ret v => obtain ⟨x7, σ7, H7, I7, r7, q7⟩ := q7; exact ⟨x7, σ7, H7, (tr I7).unpinned.unpinned, r7, q7⟩
end
end Gd

set_option Elab.async false
set_option linter.all false
set_option maxRecDepth 100000
set_option maxHeartbeats 4000000
/-! The readings: for x in all_records(e); for n, x in enumerate(all_records(e)); list(all_records(e)). -/
namespace Gd
open PySem PySem.Spec PyProof.Rows L2 Mv GenW Ge Gp
/-- the turns; mk: what is bound -/
def genL (Wa : MW) (y : MV) (pt : Pat) (mb : MS) (D : MD) (mk : Nat → MV → MV) : Nat → Nat → Mv.Env → Sto → Prop
  | 0, _, ρ, S => D.nx ρ S
  | r + 1, i, ρ, S => Wa [y, .int (i : Int)] S fun x S' => bindP pt (mk i x) S' ρ fun ρ' => mb { D with nx := genL Wa y pt mb D mk r (i + 1), ct := genL Wa y pt mb D mk r (i + 1), bk := D.nx } ρ' S'
def mForG (B : Nat) (Wc Wa : MW) (me : ME) (pt : Pat) (mb : MS) (mk : Nat → MV → MV) : MS := fun D ρ S => me ρ S fun y S1 => Wc [y] S1 fun n S2 => ∃ N : Nat, n = .int (N : Int) ∧ N < B ∧ genL Wa y pt mb D mk N 0 ρ S2
/-- the items, one behind another -/
def genV (Wa : MW) (y : MV) (R : List MV → Sto → Prop) : Nat → Nat → List MV → Sto → Prop
  | 0, _, acc, S => R acc S
  | r + 1, i, acc, S => Wa [y, .int (i : Int)] S fun x S' => genV Wa y R r (i + 1) (acc ++ [x]) S'
def mListG (B : Nat) (Wc Wa : MW) (me : ME) : ME := fun ρ S R => me ρ S fun y S1 => Wc [y] S1 fun n S2 => ∃ N : Nat, n = .int (N : Int) ∧ N < B ∧ genV Wa y (fun l S3 => newL l S3 R) N 0 [] S2
section
variable {X : Cx} {Z : ZT} {f fc fg : Addr} {k B : Nat} {fd fdc : FuncData} {Wa Wc : MW} {ps psc : List Str} {name qual : Str} {params : Arguments} {scope : Scope} {dV kV doc pm cdv ct oc : Value} {an od : Option Addr} {osl : Array (Option Value)} {tp r1 c1 c2 c3 r2 fp p1 p2 p3 p4 yp ep : Pos}
theorem es_forG {e : Expr} {me : ME} {pt : Pat} {mb : MS} {tx : Str} {px q1 q2 pos : Pos} {body : List Stmt} (D : GK X k B fg f fc fd fdc (spM X.K Z 2 Wa) (spM X.K Z 1 Wc) ps psc name qual params scope dV kV doc pm cdv ct oc an od osl tp r1 c1 c2 c3 r2 fp p1 p2 p3 p4 yp ep)
    (hp : PassesOwn (model X.prog X.w) X.A X.env X.xe) (hxe : ∀ (Dd : Nat → Prop) (e : Value) (s0 s : Shared), Po Dd s0 s → X.xe e s0 → X.xe e s) (hr : Room (k + 2) X.A) (hgl : Gl X "all_records") (he : EE X Z e me) (hs : starEach [e] X.env = (false, eval e X.env) :: starEach [] X.env) (hg : EG X Z (.Name tx px) pt) (hb : EB X Z body mb)
    (hs2 : ∀ x, foldedSetIterable (.Call (.Name "all_records" q1) [e] [] q2) X.env x = pure x := by intro _; rfl) : ES X Z (.For (.Name tx px) (.Call (.Name "all_records" q1) [e] [] q2) body [] pos) (mForG B Wc Wa me pt mb fun _ x => x) := by
  refine ⟨PS.imp (ps_forG D hp hxe hr hgl he.pe hs hg.pg hb.pss hs2) fun Dn σ H ⟨ρ, S, D', hE, hS, hm, h1, h2, h3, h4⟩ => ?_⟩
  refine ⟨ρ, S, _, hE, hS, hm, fun v H1 ⟨m, S1, t1, rm, s1, q1⟩ => ?_⟩
  refine ⟨fun N i σ2 H2 => ∃ ρ2 S2, Mv.GK X.K S H S2 H2 ∧ RE X.K H2 ρ2 σ2 ∧ RS X.K Z S2 H2 ∧ RM X.K H2 m v ∧ genL Wa m pt mb D' (fun _ x => x) (N - i) i ρ2 S2, ?_, ?_, ?_⟩
  · refine ⟨rfl, [m], S1, _, RMs.cons rm RMs.nil, s1, q1, fun v2 H2 ⟨n, S2, g2, rn, s2, N, en, hN, q2⟩ => ?_⟩
    subst en
    unfold RM at rn
    exact ⟨N, rn, hN, ρ, S2, t1.trans g2, hE.mono (t1.trans g2), s2, rm.mono g2, q2⟩
  · rintro N i σ2 H2 hi ⟨ρ2, S2, g2, e2, s2, rm2, q2⟩
    have er : N - i = (N - (i + 1)) + 1 := by omega
    rw [er] at q2
    unfold genL at q2
    refine ⟨rfl, [m, .int (i : Int)], S2, _, RMs.cons rm2 (RMs.cons (by unfold RM; rfl) RMs.nil), s2, q2, fun x H3 ⟨mx, S3, g3, rx, s3, q3⟩ => ?_⟩
    have t4 : Mv.GK X.K S H S3 H3 := g2.trans g3
    refine ⟨mx, ρ2, S3, _, rx, e2.mono g3, s3, q3, fun ρ4 σ4 e4 _ _ b4 => ⟨ρ4, S3, _, e4, s3, b4, fun σ5 H5 ⟨ρ5, S5, g5, e5, s5, q5⟩ => ⟨ρ5, S5, t4.trans g5, e5, s5, rm2.mono (g3.trans g5), q5⟩, fun v H5 q => h2 _ _ (q.base t4), fun σ5 H5 q => h1 _ _ (q.base t4), fun σ5 H5 ⟨ρ5, S5, g5, e5, s5, q5⟩ => ⟨ρ5, S5, t4.trans g5, e5, s5, rm2.mono (g3.trans g5), q5⟩⟩⟩
  · rintro N σ2 H2 ⟨ρ2, S2, g2, e2, s2, rm2, q2⟩
    rw [Nat.sub_self] at q2
    unfold genL at q2
    exact h1 _ _ ⟨ρ2, S2, g2, e2, s2, q2⟩
theorem es_forE {e : Expr} {me : ME} {pt : Pat} {mb : MS} {elts : List Expr} {kk : Nat} {tpos e1 e2 q1 q2 pos : Pos} {body : List Stmt} (D : GK X k B fg f fc fd fdc (spM X.K Z 2 Wa) (spM X.K Z 1 Wc) ps psc name qual params scope dV kV doc pm cdv ct oc an od osl tp r1 c1 c2 c3 r2 fp p1 p2 p3 p4 yp ep)
    (hp : PassesOwn (model X.prog X.w) X.A X.env X.xe) (hxe : ∀ (Dd : Nat → Prop) (e : Value) (s0 s : Shared), Po Dd s0 s → X.xe e s0 → X.xe e s) (hr : Room (k + 3) X.A) (hgl : Gl X "all_records") (hgE : Gl X "enumerate") (hmE : X.mg "enumerate" = none) (he : EE X Z e me) (hs : starEach [e] X.env = (false, eval e X.env) :: starEach [] X.env) (hg : EG X Z (.Tuple elts kk tpos) pt) (hb : EB X Z body mb)
    (hse : starEach [.Call (.Name "all_records" q1) [e] [] q2] X.env = (false, eval (.Call (.Name "all_records" q1) [e] [] q2) X.env) :: starEach [] X.env := by rfl)
    (hs2 : ∀ x, foldedSetIterable (.Call (.Name "enumerate" e1) [.Call (.Name "all_records" q1) [e] [] q2] [] e2) X.env x = pure x := by intro _; rfl) :
    ES X Z (.For (.Tuple elts kk tpos) (.Call (.Name "enumerate" e1) [.Call (.Name "all_records" q1) [e] [] q2] [] e2) body [] pos) (mForG B Wc Wa me pt mb fun i x => .tup [.int (i : Int), x]) := by
  refine ⟨PS.imp (ps_forE D hp hxe hr hgl hgE hmE he.pe hs hg.pg hb.pss hse hs2) fun Dn σ H ⟨ρ, S, D', hE, hS, hm, h1, h2, h3, h4⟩ => ?_⟩
  refine ⟨ρ, S, _, hE, hS, hm, fun v H1 ⟨m, S1, t1, rm, s1, q1⟩ => ?_⟩
  refine ⟨fun N i σ2 H2 => ∃ ρ2 S2, Mv.GK X.K S H S2 H2 ∧ RE X.K H2 ρ2 σ2 ∧ RS X.K Z S2 H2 ∧ RM X.K H2 m v ∧ genL Wa m pt mb D' (fun i x => .tup [.int (i : Int), x]) (N - i) i ρ2 S2, ?_, ?_, ?_⟩
  · refine ⟨rfl, [m], S1, _, RMs.cons rm RMs.nil, s1, q1, fun v2 H2 ⟨n, S2, g2, rn, s2, N, en, hN, q2⟩ => ?_⟩
    subst en
    unfold RM at rn
    exact ⟨N, rn, hN, ρ, S2, t1.trans g2, hE.mono (t1.trans g2), s2, rm.mono g2, q2⟩
  · rintro N i σ2 H2 hi ⟨ρ2, S2, g2, e2, s2, rm2, q2⟩
    have er : N - i = (N - (i + 1)) + 1 := by omega
    rw [er] at q2
    unfold genL at q2
    refine ⟨rfl, [m, .int (i : Int)], S2, _, RMs.cons rm2 (RMs.cons (by unfold RM; rfl) RMs.nil), s2, q2, fun x H3 ⟨mx, S3, g3, rx, s3, q3⟩ => ?_⟩
    intro T hT
    have gT : Mv.GK X.K S3 H3 S3 (upd H3 T (.tup [.int (i : Int), x])) := Mv.GK.hid hT
    have sT : RS X.K Z S3 (upd H3 T (.tup [.int (i : Int), x])) := s3.hid hT
    have g4 := g3.trans gT
    have t4 : Mv.GK X.K S H S3 (upd H3 T (.tup [.int (i : Int), x])) := g2.trans g4
    have rT : RM X.K (upd H3 T (.tup [.int (i : Int), x])) (.tup [.int (i : Int), mx]) (.ref T) := by
      unfold RM
      exact ⟨T, [.int (i : Int), x], rfl, .inl (.inl upd_same), RMs.cons (by unfold RM; rfl) (RMs.cons (rx.mono gT) RMs.nil)⟩
    refine ⟨.tup [.int (i : Int), mx], ρ2, S3, _, rT, e2.mono g4, sT, q3, fun ρ4 σ4 e4 _ _ b4 => ⟨ρ4, S3, _, e4, sT, b4, fun σ5 H5 ⟨ρ5, S5, g5, e5, s5, q5⟩ => ⟨ρ5, S5, t4.trans g5, e5, s5, rm2.mono (g4.trans g5), q5⟩, fun v H5 q => h2 _ _ (q.base t4), fun σ5 H5 q => h1 _ _ (q.base t4), fun σ5 H5 ⟨ρ5, S5, g5, e5, s5, q5⟩ => ⟨ρ5, S5, t4.trans g5, e5, s5, rm2.mono (g4.trans g5), q5⟩⟩⟩
  · rintro N σ2 H2 ⟨ρ2, S2, g2, e2, s2, rm2, q2⟩
    rw [Nat.sub_self] at q2
    unfold genL at q2
    exact h1 _ _ ⟨ρ2, S2, g2, e2, s2, q2⟩
theorem ee_listGen {e : Expr} {me : ME} {q1 q2 l1 l2 : Pos} (D : GK X k B fg f fc fd fdc (spM X.K Z 2 Wa) (spM X.K Z 1 Wc) ps psc name qual params scope dV kV doc pm cdv ct oc an od osl tp r1 c1 c2 c3 r2 fp p1 p2 p3 p4 yp ep) (hB : B ≤ sizeLine)
    (hr : Room (k + 4) X.A) (hgl : Gl X "all_records") (hgL : Gl X "list") (hmL : X.mg "list" = none) (he : EE X Z e me) (hs : starEach [e] X.env = (false, eval e X.env) :: starEach [] X.env)
    (hs2 : starEach [.Call (.Name "all_records" q1) [e] [] q2] X.env = (false, eval (.Call (.Name "all_records" q1) [e] [] q2) X.env) :: starEach [] X.env := by rfl) :
    EE X Z (.Call (.Name "list" l1) [.Call (.Name "all_records" q1) [e] [] q2] [] l2) (mListG B Wc Wa me) := by
  refine ee_of (pe_listGen D hB hr hgl hgL hmL he.pe hs hs2) fun σ H ρ S R hE hS hm => ?_
  refine ⟨ρ, S, _, hE, hS, hm, fun v H1 ⟨m, S1, t1, rm, s1, q1⟩ => ?_⟩
  refine ⟨fun N i ys H2 => ∃ acc S2, Mv.GK X.K S H S2 H2 ∧ RS X.K Z S2 H2 ∧ RM X.K H2 m v ∧ RMs X.K H2 acc ys ∧ genV Wa m (fun l S3 => newL l S3 R) (N - i) i acc S2, ?_, ?_, ?_⟩
  · refine ⟨rfl, [m], S1, _, RMs.cons rm RMs.nil, s1, q1, fun v2 H2 ⟨n, S2, g2, rn, s2, N, en, hN, q2⟩ => ?_⟩
    subst en
    unfold RM at rn
    exact ⟨N, rn, hN, [], S2, t1.trans g2, s2, rm.mono g2, RMs.nil, q2⟩
  · rintro N i ys H2 hi ⟨acc, S2, g2, s2, rm2, ra, q2⟩
    have er : N - i = (N - (i + 1)) + 1 := by omega
    rw [er] at q2
    unfold genV at q2
    refine ⟨rfl, [m, .int (i : Int)], S2, _, RMs.cons rm2 (RMs.cons (by unfold RM; rfl) RMs.nil), s2, q2, fun x H3 ⟨mx, S3, g3, rx, s3, q3⟩ => ?_⟩
    exact ⟨acc ++ [mx], S3, g2.trans g3, s3, rm2.mono g3, RMs.append (ra.mono g3) (RMs.cons rx RMs.nil), q3⟩
  · rintro N ys H2 ⟨acc, S2, g2, s2, rm2, ra, q2⟩ p hp
    rw [Nat.sub_self] at q2
    unfold genV at q2
    refine ⟨.ref p, supd S2 p (.lst acc), g2.trans (Mv.GK.new hp), by unfold RM; rfl, s2.newL hp ra, q2 p (s2.free hp)⟩
end
end Gd

set_option Elab.async false
set_option linter.all false
set_option maxRecDepth 100000
set_option maxHeartbeats 4000000
/-! The three readings, from what is known of the defs. -/
namespace Gd
open PySem PySem.Spec PyProof.Rows L2 Mv GenW Ge Gp
/-- what a def over the generator wants to know -/
structure GF (P : Program) (w : World) (K : PySem.W.Frag) (mg : Str → Option Value) (base : Heap) (Z : ZT) (k : Nat) (Wa Wc : MW) (fg f fc : Addr) (nm qual : Str) (params : Arguments) (scope : Scope) (tp r1 c1 c2 c3 r2 fp p1 p2 p3 p4 yp ep : Pos) : Prop where
  FD : ∃ fd, FunD K nm qual params (gFor tp r1 c1 c2 c3 r2 fp p1 p2 p3 p4 yp ep) scope [] [] fg fd ∧ Binds K fd ["sizes"] []
  kind : scope.kind = .function
  co : scope.isCoroutine = false
  gen : scope.isGenerator = true
  kz : scope.names.lookup ("sizes" : Str) = some .local
  kn : scope.names.lookup ("number" : Str) = some .local
  kr : scope.names.lookup ("range" : Str) = some .globalImplicit
  kc : scope.names.lookup ("record_count" : Str) = some .globalImplicit
  ka : scope.names.lookup ("record_at" : Str) = some .globalImplicit
  Ca : Cal P w K mg base Z f ["sizes", "number"] k Wa
  Cc : Cal P w K mg base Z fc ["sizes"] k Wc
  hmg : mg "all_records" = some (.ref fg)
  hm : mg "record_at" = some (.ref f)
  hmc : mg "record_count" = some (.ref fc)
  hmr : mg "range" = none
section
variable {X : Cx} {Z : ZT} {k k' : Nat} {Wa Wc : MW} {fg f fc : Addr} {nm qual : Str} {params : Arguments} {scope : Scope} {tp r1 c1 c2 c3 r2 fp p1 p2 p3 p4 yp ep : Pos}
theorem GF.gk {B : Nat} (hB : (B : Int) < 2 ^ 62) (G : GF X.prog X.w X.K X.mg X.base Z k Wa Wc fg f fc nm qual params scope tp r1 c1 c2 c3 r2 fp p1 p2 p3 p4 yp ep) (hk : k ≤ k') :
    ∃ fd fdc dV kV doc pm cdv ct oc an od osl, GK X k' B fg f fc fd fdc (spM X.K Z 2 Wa) (spM X.K Z 1 Wc) ["sizes", "number"] ["sizes"] nm qual params scope dV kV doc pm cdv ct oc an od osl tp r1 c1 c2 c3 r2 fp p1 p2 p3 p4 yp ep := by
  obtain ⟨fdg, FD, hbg⟩ := G.FD
  obtain ⟨oc, od, dV, kV, doc, pm, an, cdv, ct, osl, rfl, lk, hcd, _, _⟩ := FD.ex
  obtain ⟨fd, F, kp, b⟩ := G.Ca.ex
  obtain ⟨fdc, Fc, kpc, bc⟩ := G.Cc.ex
  exact ⟨fd, fdc, dV, kV, doc, pm, cdv, ct, oc, an, od, osl, ⟨lk, hcd, G.kind, G.co, G.gen, G.kz, hbg, fun C => ⟨G.kind, G.co, rfl, rfl, rfl, rfl, G.kz, G.kn, G.kr, G.kc, G.ka⟩, G.hmg, FD.kp, F.mono hk, b, rfl, G.hm, kp, Fc.mono hk, bc, rfl, G.hmc, kpc, G.hmr, hB⟩⟩
theorem es_forG2 {B : Nat} {e : Expr} {me : ME} {pt : Pat} {mb : MS} {tx : Str} {px q1 q2 pos : Pos} {body : List Stmt} (hB : (B : Int) < 2 ^ 62) (G : GF X.prog X.w X.K X.mg X.base Z k Wa Wc fg f fc nm qual params scope tp r1 c1 c2 c3 r2 fp p1 p2 p3 p4 yp ep)
    (hx : ∀ e s, ¬ X.xe e s) (hp : PassesOwn (model X.prog X.w) X.A X.env X.xe) (hr : Room k' X.A) (hk : k + 4 ≤ k') (hgl : Gl X "all_records") (he : EE X Z e me) (hs : starEach [e] X.env = (false, eval e X.env) :: starEach [] X.env) (hg : EG X Z (.Name tx px) pt) (hb : EB X Z body mb)
    (hs2 : ∀ x, foldedSetIterable (.Call (.Name "all_records" q1) [e] [] q2) X.env x = pure x := by intro _; rfl) : ES X Z (.For (.Name tx px) (.Call (.Name "all_records" q1) [e] [] q2) body [] pos) (mForG B Wc Wa me pt mb fun _ x => x) := by
  obtain ⟨fd, fdc, dV, kV, doc, pm, cdv, ct, oc, an, od, osl, D⟩ := G.gk (B := B) hB (Nat.le_refl k)
  exact es_forG D hp (fun _ e s0 _ _ h => absurd h (hx e s0)) (hr.mono (by omega)) hgl he hs hg hb hs2
theorem es_forE2 {B : Nat} {e : Expr} {me : ME} {pt : Pat} {mb : MS} {elts : List Expr} {kk : Nat} {tpos e1 e2 q1 q2 pos : Pos} {body : List Stmt} (hB : (B : Int) < 2 ^ 62) (G : GF X.prog X.w X.K X.mg X.base Z k Wa Wc fg f fc nm qual params scope tp r1 c1 c2 c3 r2 fp p1 p2 p3 p4 yp ep)
    (hx : ∀ e s, ¬ X.xe e s) (hp : PassesOwn (model X.prog X.w) X.A X.env X.xe) (hr : Room k' X.A) (hk : k + 4 ≤ k') (hgl : Gl X "all_records") (hgE : Gl X "enumerate") (hmE : X.mg "enumerate" = none) (he : EE X Z e me) (hs : starEach [e] X.env = (false, eval e X.env) :: starEach [] X.env) (hg : EG X Z (.Tuple elts kk tpos) pt) (hb : EB X Z body mb)
    (hse : starEach [.Call (.Name "all_records" q1) [e] [] q2] X.env = (false, eval (.Call (.Name "all_records" q1) [e] [] q2) X.env) :: starEach [] X.env := by rfl)
    (hs2 : ∀ x, foldedSetIterable (.Call (.Name "enumerate" e1) [.Call (.Name "all_records" q1) [e] [] q2] [] e2) X.env x = pure x := by intro _; rfl) :
    ES X Z (.For (.Tuple elts kk tpos) (.Call (.Name "enumerate" e1) [.Call (.Name "all_records" q1) [e] [] q2] [] e2) body [] pos) (mForG B Wc Wa me pt mb fun i x => .tup [.int (i : Int), x]) := by
  obtain ⟨fd, fdc, dV, kV, doc, pm, cdv, ct, oc, an, od, osl, D⟩ := G.gk (B := B) hB (Nat.le_refl k)
  exact es_forE D hp (fun _ e s0 _ _ h => absurd h (hx e s0)) (hr.mono (by omega)) hgl hgE hmE he hs hg hb hse hs2
theorem ee_listGen2 {B : Nat} {e : Expr} {me : ME} {q1 q2 l1 l2 : Pos} (hB : (B : Int) < 2 ^ 62) (hB2 : B ≤ sizeLine) (G : GF X.prog X.w X.K X.mg X.base Z k Wa Wc fg f fc nm qual params scope tp r1 c1 c2 c3 r2 fp p1 p2 p3 p4 yp ep)
    (hr : Room k' X.A) (hk : k + 4 ≤ k') (hgl : Gl X "all_records") (hgL : Gl X "list") (hmL : X.mg "list" = none) (he : EE X Z e me) (hs : starEach [e] X.env = (false, eval e X.env) :: starEach [] X.env)
    (hs2 : starEach [.Call (.Name "all_records" q1) [e] [] q2] X.env = (false, eval (.Call (.Name "all_records" q1) [e] [] q2) X.env) :: starEach [] X.env := by rfl) :
    EE X Z (.Call (.Name "list" l1) [.Call (.Name "all_records" q1) [e] [] q2] [] l2) (mListG B Wc Wa me) := by
  obtain ⟨fd, fdc, dV, kV, doc, pm, cdv, ct, oc, an, od, osl, D⟩ := G.gk (B := B) hB (Nat.le_refl k)
  exact ee_listGen D hB2 (hr.mono hk) hgl hgL hmL he hs hs2
end
end Gd

set_option Elab.async false
set_option linter.all false
set_option maxRecDepth 100000
set_option maxHeartbeats 300000
namespace Rw
open PySem PySem.Spec PyProof.Rows L2 Mv
def atL : List (String × List String) := []
def atT (c f : String) : Bool := match atL.lookup c with
  | some l => l.contains f
  | none => false
def B__law_all : MS := (msSeq (msSet 1 (mLstV (maCons (mTup maNil) maNil)))
  (msSeq (msFor (mIter (mVar 0)) (.nm 2) (msSeq (msSet 3 (mLst maNil))
  (msSeq (msFor (mIter (mVar 1)) (.nm 4) (msFor (mRng1 (maCons (mVar 2) maNil)) (.nm 5) (msExpr (mBM appendV (mVar 3) (maCons (mOp addVV (mVar 4) (mTup (maCons (mVar 5) maNil))) maNil)))))
  (msSet 1 (mFz (mVar 3))))))
  (msRet (mVar 1))))
def W__law_all : MW := defW 1 6 B__law_all
def B__law_count : MS := (msSeq (msSet 1 (mC (.int 1)))
  (msSeq (msFor (mIter (mVar 0)) (.nm 2) (msSet 1 (mOp mulV (mVar 1) (mVar 2))))
  (msRet (mVar 1))))
def W__law_count : MW := defW 1 3 B__law_count
def B__law_next : MS := (msSeq (msIf (mTst (mOp ltV (mOp ixV (mVar 0) (mC (.int 1))) (mVar 1))) (msIf (mTst (mOp gtV (mCB lenV (maCons (mOp ixV (mVar 0) (mC (.int 0))) maNil)) (mC (.int 0)))) (msSeq (msSet 3 (mBM popV (mOp ixV (mVar 0) (mC (.int 0))) (maCons (mC (.int 0)) maNil)))
  (msSeq (msSub (mVar 0) (mC (.int 1)) (mIf (mTst (mOp geV (mVar 3) (mC (.int 0)))) (mOp mulV (mC (.int 2)) (mVar 3)) (mOp subV (mOp mulV (mUn negV (mC (.int 2))) (mVar 3)) (mC (.int 1)))))
  (msSub (mVar 0) (mC (.int 2)) (mOp modV (mCB intV (maCons (mOp addVV (mOp mulV (mOp ixV (mVar 0) (mC (.int 2))) (mC (.int 69621))) (mOp ixV (mVar 0) (mC (.int 1)))) maNil)) (mC (.int 2147483647)))))) (msSeq (msSub (mVar 0) (mC (.int 2)) (mOp modV (mCB intV (maCons (mOp addVV (mOp mulV (mOp ixV (mVar 0) (mC (.int 2))) (mC (.int 48271))) (mC (.int 11))) maNil)) (mC (.int 2147483647))))
  (msSub (mVar 0) (mC (.int 1)) (mOp modV (mCB intV (maCons (mOp mulV (mOp ixV (mVar 0) (mC (.int 2))) (mOp ixV (mVar 0) (mC (.int 2)))) maNil)) (mC (.int 1000003)))))) msNil)
  (msSeq (msSet 2 (mOp modV (mCB intV (maCons (mOp ixV (mVar 0) (mC (.int 1))) maNil)) (mVar 1)))
  (msSeq (msSub (mVar 0) (mC (.int 1)) (mOp fdivV (mOp ixV (mVar 0) (mC (.int 1))) (mVar 1)))
  (msRet (mVar 2)))))
def W__law_next : MW := defW 2 4 B__law_next
def B__law_sizes : MS := (msSeq (msSet 1 (mOp ixV (mLstV (maCons (mC (.int 4)) (maCons (mC (.int 4)) (maCons (mC (.int 2)) maNil)))) (mCall W__law_next (maCons (mVar 0) (maCons (mC (.int 3)) maNil)))))
  (msRet (mCB tupleV (maCons (mLcV (mRng1 (maCons (mOp addVV (mC (.int 1)) (mCall W__law_next (maCons (mVar 0) (maCons (mC (.int 3)) maNil)))) maNil)) (.nm 2) mYes (mOp addVV (mC (.int 1)) (mCall W__law_next (maCons (mVar 0) (maCons (mVar 1) maNil)))) [2]) maNil))))
def W__law_sizes : MW := defW 1 3 B__law_sizes
def B_record_at : MS := (msSeq (msSet 2 (mLst maNil))
  (msSeq (msFor (mReversed (mVar 0)) (.nm 3) (msSeq (msExpr (mBM appendV (mVar 2) (maCons (mOp modV (mVar 1) (mVar 3)) maNil)))
  (msSet 1 (mOp fdivV (mVar 1) (mVar 3)))))
  (msRet (mCB tupleV (maCons (mRevT (mVar 2)) maNil)))))
def W_record_at : MW := defW 2 4 B_record_at
def B_record_count : MS := (msSeq (msSet 1 (mC (.int 1)))
  (msSeq (msFor (mIter (mVar 0)) (.nm 2) (msSet 1 (mOp mulV (mVar 1) (mVar 2))))
  (msRet (mVar 1))))
def W_record_count : MW := defW 1 3 B_record_count
def B_law : MS := (msSeq (msSet 1 (mLst (maCons (mCB listV (maCons (mVar 0) maNil)) (maCons (mC (.int 0)) (maCons (mC (.int 1)) maNil)))))
  (msSeq (msSet 2 (mCall W__law_sizes (maCons (mVar 1) maNil)))
  (msSeq (msSet 3 (mCall W__law_all (maCons (mVar 2) maNil)))
  (msSeq (msIf (mOr (mTst (mOp neV' (mFz (Gd.mListG 1000 W_record_count W_record_at (mVar 2))) (mVar 3))) (mTst (mOp neV' (mCB lenV (maCons (mVar 3) maNil)) (mCall W__law_count (maCons (mVar 2) maNil))))) (msRet (mC (.bl false))) msNil)
  (msSeq (Gd.mForG 1000 W_record_count W_record_at (mVar 2) (.nm 4) (msIf (mNot (mTru (mIsi "tuple" (mVar 4)))) (msRet (mC (.bl false))) msNil) fun _ x => x)
  (msSeq (Gd.mForG 1000 W_record_count W_record_at (mVar 2) (.tp [(.nm 5), (.nm 4)]) (msIf (mTst (mOp neV' (mCall W_record_at (maCons (mVar 2) (maCons (mVar 5) maNil))) (mVar 4))) (msRet (mC (.bl false))) msNil) fun i x => .tup [.int (i : Int), x])
  (msRet (mC (.bl true)))))))))
def W_law : MW := defW 1 6 B_law
end Rw

set_option Elab.async false
set_option linter.all false
set_option maxRecDepth 100000
set_option maxHeartbeats 300000
namespace Rw
open PySem PySem.Spec PyProof.Rows L2 Mv
def top (i : Nat) : Stmt := PySem.Challenge.pw_rollwarden_k02_all_records_in_order.main.body.getD i (.Pass ⟨0, 0, 0, 0⟩)
abbrev s_record_count : Stmt := top 1
def d_record_count : He.DefD := ⟨("record_count", none), "record_count", "record_count", defArgs s_record_count, defBody s_record_count, defScope s_record_count, [], []⟩
abbrev s_record_at : Stmt := top 2
def d_record_at : He.DefD := ⟨("record_at", none), "record_at", "record_at", defArgs s_record_at, defBody s_record_at, defScope s_record_at, [], []⟩
abbrev s_all_records : Stmt := top 3
def d_all_records : He.DefD := ⟨("all_records", none), "all_records", "all_records", defArgs s_all_records, defBody s_all_records, defScope s_all_records, [], []⟩
abbrev s__law_next : Stmt := top 5
def d__law_next : He.DefD := ⟨("_law_next", none), "_law_next", "_law_next", defArgs s__law_next, defBody s__law_next, defScope s__law_next, [], []⟩
abbrev s__law_count : Stmt := top 6
def d__law_count : He.DefD := ⟨("_law_count", none), "_law_count", "_law_count", defArgs s__law_count, defBody s__law_count, defScope s__law_count, [], []⟩
abbrev s__law_sizes : Stmt := top 7
def d__law_sizes : He.DefD := ⟨("_law_sizes", none), "_law_sizes", "_law_sizes", defArgs s__law_sizes, defBody s__law_sizes, defScope s__law_sizes, [], []⟩
abbrev s__law_all : Stmt := top 8
def d__law_all : He.DefD := ⟨("_law_all", none), "_law_all", "_law_all", defArgs s__law_all, defBody s__law_all, defScope s__law_all, [], []⟩
abbrev s_law : Stmt := top 9
def d_law : He.DefD := ⟨("law", none), "law", "law", defArgs s_law, defBody s_law, defScope s_law, [], []⟩
def fn0 : List He.DefD := [d_record_count, d_record_at, d_all_records, d__law_next, d__law_count, d__law_sizes, d__law_all, d_law]
def fn : List He.DefD := fn0
def fa0 : List He.Fa := [.glo "record_count", .glo "record_at", .glo "all_records", .glo "_law_next", .glo "_law_count", .glo "_law_sizes", .glo "_law_all", .glo "law", .free "enumerate", .free "int", .free "isinstance", .free "len", .free "list", .free "range", .free "reversed", .free "tuple"]
def fa : List He.Fa := fa0
/-! a Hook over a chosen part of the heap, and tables -/
def hookX (ts : List (Str × List He.Dv)) (fa : List He.Fa) (fn : List He.DefD) : PySem.W.Hook where
  α := AlX
  obs := fun s => obsX ts fa fn s.heap.get?
  val := fun _ => (true, He.valD fn)
  says := fun _ h => ∃ K : PySem.W.Frag, K.In h ∧ SaysX ts fa fn K
  of := fun _ s e => ⟨_, He.frG_in, saysX_of ((frcL_eq _ (fun as => obK ts fa fn (He.frG s.heap.get? as))).symm.trans e)⟩
  keeps := fun _ _ _ ⟨K, hK, c⟩ k => ⟨K, PySem.W.Frag.In.keeps hK k, c⟩
theorem obsX_eq {ts : List (Str × List He.Dv)} {fa : List He.Fa} {fn : List He.DefD} {g : Addr → Option Obj} {s : Shared} (h : ∀ a, g a = s.heap.get? a) : obsX ts fa fn g = (hookX ts fa fn).obs s := by
  have e : g = s.heap.get? := funext h
  rw [e] <;> rfl

def tbs : List (Str × List He.Dv) := []
abbrev R : PySem.W.OpenRow := PySem.W.OpenLaw.row PySem.Challenge.rw_rollwarden_k02_all_records_in_order
abbrev hk : PySem.W.Hook := hookX tbs fa fn
def ob (s : PySem.W.SharedT) : AlX := obsX tbs fa fn (HandSHeadRun.getT s)
theorem ob_eq (s : PySem.W.SharedT) : ob s = hk.obs s.abs := obsX_eq (HandSHeadRun.getT_eq s)
def loose0 : List PySem.Str := ["record_count", "record_at", "all_records", "_law_next", "_law_count", "_law_sizes", "_law_all"]
def loose : List PySem.Str := loose0
theorem run (w : World) : HandSHeadRun.RunEq R (PySem.W.view R.prog [9]) hk ob 20000 loose w := by
  intro os
  kernel_rfl
structure Fx (K : PySem.W.Frag) (mg : Str → Option Value) (base : Heap) : Prop where
  says : SaysX tbs fa fn K
  inn : K.In base
  ns : base.Ns mainGlobals mg
section
variable {P : Program} {w : World} {K : PySem.W.Frag} {mg : Str → Option Value} {base : Heap} 
theorem Fx.glo_record_count (F : Fx K mg base) : mg "record_count" = some (.ref (He.ga K "record_count")) := He.glo_ok F.inn F.ns (F.says.says.fact 0 rfl)
theorem Fx.glo_record_at (F : Fx K mg base) : mg "record_at" = some (.ref (He.ga K "record_at")) := He.glo_ok F.inn F.ns (F.says.says.fact 1 rfl)
theorem Fx.glo_all_records (F : Fx K mg base) : mg "all_records" = some (.ref (He.ga K "all_records")) := He.glo_ok F.inn F.ns (F.says.says.fact 2 rfl)
theorem Fx.glo__law_next (F : Fx K mg base) : mg "_law_next" = some (.ref (He.ga K "_law_next")) := He.glo_ok F.inn F.ns (F.says.says.fact 3 rfl)
theorem Fx.glo__law_count (F : Fx K mg base) : mg "_law_count" = some (.ref (He.ga K "_law_count")) := He.glo_ok F.inn F.ns (F.says.says.fact 4 rfl)
theorem Fx.glo__law_sizes (F : Fx K mg base) : mg "_law_sizes" = some (.ref (He.ga K "_law_sizes")) := He.glo_ok F.inn F.ns (F.says.says.fact 5 rfl)
theorem Fx.glo__law_all (F : Fx K mg base) : mg "_law_all" = some (.ref (He.ga K "_law_all")) := He.glo_ok F.inn F.ns (F.says.says.fact 6 rfl)
theorem Fx.glo_law (F : Fx K mg base) : mg "law" = some (.ref (He.ga K "law")) := He.glo_ok F.inn F.ns (F.says.says.fact 7 rfl)
theorem Fx.z_enumerate (F : Fx K mg base) : mg "enumerate" = none := He.free_ok F.inn F.ns (F.says.says.fact 8 rfl)
theorem Fx.z_int (F : Fx K mg base) : mg "int" = none := He.free_ok F.inn F.ns (F.says.says.fact 9 rfl)
theorem Fx.z_isinstance (F : Fx K mg base) : mg "isinstance" = none := He.free_ok F.inn F.ns (F.says.says.fact 10 rfl)
theorem Fx.z_len (F : Fx K mg base) : mg "len" = none := He.free_ok F.inn F.ns (F.says.says.fact 11 rfl)
theorem Fx.z_list (F : Fx K mg base) : mg "list" = none := He.free_ok F.inn F.ns (F.says.says.fact 12 rfl)
theorem Fx.z_range (F : Fx K mg base) : mg "range" = none := He.free_ok F.inn F.ns (F.says.says.fact 13 rfl)
theorem Fx.z_reversed (F : Fx K mg base) : mg "reversed" = none := He.free_ok F.inn F.ns (F.says.says.fact 14 rfl)
theorem Fx.z_tuple (F : Fx K mg base) : mg "tuple" = none := He.free_ok F.inn F.ns (F.says.says.fact 15 rfl)
abbrev N__law_all : List Str := ["_law_sizes_here", "_law_found", "_law_size", "_law_longer", "_law_record", "_law_value"]
theorem sc__law_all : FnScope N__law_all ["_law_sizes_here"] (defScope s__law_all) := ⟨by kernel_rfl, by kernel_rfl, by kernel_rfl, by decide +kernel, by kernel_rfl, by decide +kernel, by decide +kernel⟩
theorem c__law_all (F : Fx K mg base) : Cal P w K mg base ⟨[], w.params.followText "set-order"⟩ (He.ga K "_law_all") ["_law_sizes_here"] 1 W__law_all := by
  obtain ⟨fd, FD⟩ := F.says.says.def_ 6 (d := d__law_all) rfl
  exact cal_mk (N := N__law_all) FD sc__law_all (FD.bindsN fun _ _ _ _ _ _ us hl => match us, hl with | [_], _ => rfl) fun cdv A outer s H E hr =>
  (eb_cons (es_set (i := 1) sc__law_all.nd (by kernel_rfl) (.inl (by kernel_rfl)) (ee_lstV (ea_cons (ee_tup ea_nil) ea_nil)) (hf := (.inr (by kernel_rfl))))
  (eb_cons (es_for PassesOwn.never (by kernel_rfl) (ei_of (evl 0)) (eg_nm (i := 2) sc__law_all.nd (by kernel_rfl) (.inl (by kernel_rfl)) (.inr (by kernel_rfl))) (eb_cons (es_set (i := 3) sc__law_all.nd (by kernel_rfl) (.inl (by kernel_rfl)) (ee_lst ea_nil) (hf := (.inr (by kernel_rfl))))
  (eb_cons (es_for PassesOwn.never (by kernel_rfl) (ei_of (evl 1)) (eg_nm (i := 4) sc__law_all.nd (by kernel_rfl) (.inl (by kernel_rfl)) (.inr (by kernel_rfl))) (eb_one (es_for PassesOwn.never (by kernel_rfl) (ei_rng1 (glk (by kernel_rfl)) F.z_range (ea_cons (evl 2) ea_nil)) (eg_nm (i := 5) sc__law_all.nd (by kernel_rfl) (.inl (by kernel_rfl)) (.inr (by kernel_rfl))) (eb_one (es_expr (ee_bm PySem.F.plainAttrs_list PySem.F.slot_list_append PySem.F.type_list_append mr_append (evl 3) (ea_cons (ee_addV (evl 4) (ee_tup (ea_cons (evl 5) ea_nil))) ea_nil)))))))
  (eb_one (es_set (i := 1) sc__law_all.nd (by kernel_rfl) (.inl (by kernel_rfl)) (ee_mfz (evl 3)) (hf := (.inr (by kernel_rfl))))))))
  (eb_one (es_ret (evl 1)))))
abbrev N__law_count : List Str := ["_law_sizes_here", "_law_count_here", "_law_size"]
theorem sc__law_count : FnScope N__law_count ["_law_sizes_here"] (defScope s__law_count) := ⟨by kernel_rfl, by kernel_rfl, by kernel_rfl, by decide +kernel, by kernel_rfl, by decide +kernel, by decide +kernel⟩
theorem c__law_count (F : Fx K mg base) : Cal P w K mg base ⟨[], w.params.followText "set-order"⟩ (He.ga K "_law_count") ["_law_sizes_here"] 1 W__law_count := by
  obtain ⟨fd, FD⟩ := F.says.says.def_ 4 (d := d__law_count) rfl
  exact cal_mk (N := N__law_count) FD sc__law_count (FD.bindsN fun _ _ _ _ _ _ us hl => match us, hl with | [_], _ => rfl) fun cdv A outer s H E hr =>
  (eb_cons (es_set (i := 1) sc__law_count.nd (by kernel_rfl) (.inl (by kernel_rfl)) ee_int (hf := (.inr (by kernel_rfl))))
  (eb_cons (es_for PassesOwn.never (by kernel_rfl) (ei_of (evl 0)) (eg_nm (i := 2) sc__law_count.nd (by kernel_rfl) (.inl (by kernel_rfl)) (.inr (by kernel_rfl))) (eb_one (es_set (i := 1) sc__law_count.nd (by kernel_rfl) (.inl (by kernel_rfl)) (ee_op ro_mul (evl 1) (evl 2)) (hf := (.inr (by kernel_rfl))))))
  (eb_one (es_ret (evl 1)))))
abbrev N__law_next : List Str := ["_law_state", "_law_many", "_law_drawn", "_law_cell"]
theorem sc__law_next : FnScope N__law_next ["_law_state", "_law_many"] (defScope s__law_next) := ⟨by kernel_rfl, by kernel_rfl, by kernel_rfl, by decide +kernel, by kernel_rfl, by decide +kernel, by decide +kernel⟩
theorem c__law_next (F : Fx K mg base) : Cal P w K mg base ⟨[], w.params.followText "set-order"⟩ (He.ga K "_law_next") ["_law_state", "_law_many"] 1 W__law_next := by
  obtain ⟨fd, FD⟩ := F.says.says.def_ 3 (d := d__law_next) rfl
  exact cal_mk (N := N__law_next) FD sc__law_next (FD.bindsN fun _ _ _ _ _ _ us hl => match us, hl with | [_, _], _ => rfl) fun cdv A outer s H E hr =>
  (eb_cons (es_if (et_cmp ro_lt (ee_ix ri_ix (evl 0) ee_int (fun _ _ => by kernel_rfl)) (evl 1) (nomark _)) (eb_one (es_if (et_cmp ro_gt (ee_callB cr_len (glk (by kernel_rfl)) F.z_len (by decide +kernel) (ea_cons (ee_ix ri_ix (evl 0) ee_int (fun _ _ => by kernel_rfl)) ea_nil)) ee_int (nomark _)) (eb_cons (es_set (i := 3) sc__law_next.nd (by kernel_rfl) (.inl (by kernel_rfl)) (ee_bm PySem.F.plainAttrs_list PySem.F.slot_list_pop PySem.F.type_list_pop mr_pop (ee_ix ri_ix (evl 0) ee_int (fun _ _ => by kernel_rfl)) (ea_cons ee_int ea_nil)) (hf := (.inr (by kernel_rfl))))
  (eb_cons (es_sub (hu1 hr) (evl 0) ee_int (ee_if (et_cmp ro_ge (evl 3) ee_int (nomark _)) (ee_op ro_mul ee_int (evl 3)) (ee_op ro_sub (ee_op ro_mul (ee_neg ee_int) (evl 3)) ee_int)))
  (eb_one (es_sub (hu1 hr) (evl 0) ee_int (ee_op ro_mod (ee_callTy cr_int (glk (by kernel_rfl)) F.z_int (by decide +kernel) (ea_cons (ee_addV (ee_op ro_mul (ee_ix ri_ix (evl 0) ee_int (fun _ _ => by kernel_rfl)) ee_int) (ee_ix ri_ix (evl 0) ee_int (fun _ _ => by kernel_rfl))) ea_nil)) ee_int))))) (eb_cons (es_sub (hu1 hr) (evl 0) ee_int (ee_op ro_mod (ee_callTy cr_int (glk (by kernel_rfl)) F.z_int (by decide +kernel) (ea_cons (ee_addV (ee_op ro_mul (ee_ix ri_ix (evl 0) ee_int (fun _ _ => by kernel_rfl)) ee_int) ee_int) ea_nil)) ee_int))
  (eb_one (es_sub (hu1 hr) (evl 0) ee_int (ee_op ro_mod (ee_callTy cr_int (glk (by kernel_rfl)) F.z_int (by decide +kernel) (ea_cons (ee_op ro_mul (ee_ix ri_ix (evl 0) ee_int (fun _ _ => by kernel_rfl)) (ee_ix ri_ix (evl 0) ee_int (fun _ _ => by kernel_rfl))) ea_nil)) ee_int)))))) eb_nil)
  (eb_cons (es_set (i := 2) sc__law_next.nd (by kernel_rfl) (.inl (by kernel_rfl)) (ee_op ro_mod (ee_callTy cr_int (glk (by kernel_rfl)) F.z_int (by decide +kernel) (ea_cons (ee_ix ri_ix (evl 0) ee_int (fun _ _ => by kernel_rfl)) ea_nil)) (evl 1)) (hf := (.inr (by kernel_rfl))))
  (eb_cons (es_sub (hu1 hr) (evl 0) ee_int (ee_op ro_fdiv (ee_ix ri_ix (evl 0) ee_int (fun _ _ => by kernel_rfl)) (evl 1)))
  (eb_one (es_ret (evl 2))))))
abbrev N__law_sizes : List Str := ["_law_state", "_law_most", "_law_k"]
theorem sc__law_sizes : FnScope N__law_sizes ["_law_state"] (defScope s__law_sizes) := ⟨by kernel_rfl, by kernel_rfl, by kernel_rfl, by decide +kernel, by kernel_rfl, by decide +kernel, by decide +kernel⟩
theorem c__law_sizes (F : Fx K mg base) : Cal P w K mg base ⟨[], w.params.followText "set-order"⟩ (He.ga K "_law_sizes") ["_law_state"] 2 W__law_sizes := by
  obtain ⟨fd, FD⟩ := F.says.says.def_ 5 (d := d__law_sizes) rfl
  exact cal_mk (N := N__law_sizes) FD sc__law_sizes (FD.bindsN fun _ _ _ _ _ _ us hl => match us, hl with | [_], _ => rfl) fun cdv A outer s H E hr =>
  (eb_cons (es_set (i := 1) sc__law_sizes.nd (by kernel_rfl) (.inr (by kernel_rfl)) (ee_ix ri_ix (ee_lstV (ea_cons ee_int (ea_cons ee_int (ea_cons ee_int ea_nil)))) (ee_call (c__law_next F) hr (by decide) (glk (by kernel_rfl)) F.glo__law_next (ea_cons (evc 0) (ea_cons ee_int ea_nil))) (fun _ _ => by kernel_rfl)) (hf := (.inl (by kernel_rfl))))
  (eb_one (es_ret (ee_callTy cr_tuple (glk (by kernel_rfl)) F.z_tuple (by decide +kernel) (ea_cons (ee_lcV (by kernel_rfl) sc__law_sizes.nd (ei_rng1 (glk (by kernel_rfl)) F.z_range (ea_cons (ee_addV ee_int (ee_call (c__law_next F) hr (by decide) (glk (by kernel_rfl)) F.glo__law_next (ea_cons (evc 0) (ea_cons ee_int ea_nil)))) ea_nil)) (blkOk_by (own := [("_law_k", 2)]) (by kernel_rfl)) (fun _ _ _ _ _ => (eg_nm (i := 2) sc__law_sizes.nd (by kernel_rfl) (.inl (by kernel_rfl)) (.inr (by kernel_rfl)))) (fun _ _ _ _ _ => ets_nil) (fun _ _ _ _ _ => (ee_addV ee_int (ee_call (c__law_next F) hr (by decide) (glk (by kernel_rfl)) F.glo__law_next (ea_cons (evc 0) (ea_cons (evc 1) ea_nil)))))) ea_nil)))))
abbrev N_record_at : List Str := ["sizes", "number", "found", "size"]
theorem sc_record_at : FnScope N_record_at ["sizes", "number"] (defScope s_record_at) := ⟨by kernel_rfl, by kernel_rfl, by kernel_rfl, by decide +kernel, by kernel_rfl, by decide +kernel, by decide +kernel⟩
theorem c_record_at (F : Fx K mg base) : Cal P w K mg base ⟨[], w.params.followText "set-order"⟩ (He.ga K "record_at") ["sizes", "number"] 1 W_record_at := by
  obtain ⟨fd, FD⟩ := F.says.says.def_ 1 (d := d_record_at) rfl
  exact cal_mk (N := N_record_at) FD sc_record_at (FD.bindsN fun _ _ _ _ _ _ us hl => match us, hl with | [_, _], _ => rfl) fun cdv A outer s H E hr =>
  (eb_cons (es_set (i := 2) sc_record_at.nd (by kernel_rfl) (.inl (by kernel_rfl)) (ee_lst ea_nil) (hf := (.inr (by kernel_rfl))))
  (eb_cons (es_for PassesOwn.never (by kernel_rfl) (ei_rev (glk (by kernel_rfl)) F.z_reversed (evl 0)) (eg_nm (i := 3) sc_record_at.nd (by kernel_rfl) (.inl (by kernel_rfl)) (.inr (by kernel_rfl))) (eb_cons (es_expr (ee_bm PySem.F.plainAttrs_list PySem.F.slot_list_append PySem.F.type_list_append mr_append (evl 2) (ea_cons (ee_op ro_mod (evl 1) (evl 3)) ea_nil)))
  (eb_one (es_set (i := 1) sc_record_at.nd (by kernel_rfl) (.inl (by kernel_rfl)) (ee_op ro_fdiv (evl 1) (evl 3)) (hf := (.inr (by kernel_rfl)))))))
  (eb_one (es_ret (ee_callTy cr_tuple (glk (by kernel_rfl)) F.z_tuple (by decide +kernel) (ea_cons (ee_revT (evl 2)) ea_nil))))))
abbrev N_record_count : List Str := ["sizes", "count", "size"]
theorem sc_record_count : FnScope N_record_count ["sizes"] (defScope s_record_count) := ⟨by kernel_rfl, by kernel_rfl, by kernel_rfl, by decide +kernel, by kernel_rfl, by decide +kernel, by decide +kernel⟩
theorem c_record_count (F : Fx K mg base) : Cal P w K mg base ⟨[], w.params.followText "set-order"⟩ (He.ga K "record_count") ["sizes"] 1 W_record_count := by
  obtain ⟨fd, FD⟩ := F.says.says.def_ 0 (d := d_record_count) rfl
  exact cal_mk (N := N_record_count) FD sc_record_count (FD.bindsN fun _ _ _ _ _ _ us hl => match us, hl with | [_], _ => rfl) fun cdv A outer s H E hr =>
  (eb_cons (es_set (i := 1) sc_record_count.nd (by kernel_rfl) (.inl (by kernel_rfl)) ee_int (hf := (.inr (by kernel_rfl))))
  (eb_cons (es_for PassesOwn.never (by kernel_rfl) (ei_of (evl 0)) (eg_nm (i := 2) sc_record_count.nd (by kernel_rfl) (.inl (by kernel_rfl)) (.inr (by kernel_rfl))) (eb_one (es_set (i := 1) sc_record_count.nd (by kernel_rfl) (.inl (by kernel_rfl)) (ee_op ro_mul (evl 1) (evl 2)) (hf := (.inr (by kernel_rfl))))))
  (eb_one (es_ret (evl 1)))))
abbrev N_law : List Str := ["_law_script", "_law_state", "_law_sizes_here", "_law_due", "_law_record", "_law_number"]
theorem sc_law : FnScope N_law ["_law_script"] (defScope s_law) := ⟨by kernel_rfl, by kernel_rfl, by kernel_rfl, by decide +kernel, by kernel_rfl, by decide +kernel, by decide +kernel⟩
theorem gf (F : Fx K mg base) : Gd.GF P w K mg base ⟨[], w.params.followText "set-order"⟩ 1 W_record_at W_record_count (He.ga K "all_records") (He.ga K "record_at") (He.ga K "record_count") "all_records" "all_records" (defArgs s_all_records) (defScope s_all_records) ⟨14, 8, 14, 14⟩ ⟨14, 18, 14, 23⟩ ⟨14, 24, 14, 36⟩ ⟨14, 37, 14, 42⟩ ⟨14, 24, 14, 43⟩ ⟨14, 18, 14, 44⟩ ⟨14, 4, 15, 38⟩ ⟨15, 14, 15, 23⟩ ⟨15, 24, 15, 29⟩ ⟨15, 31, 15, 37⟩ ⟨15, 14, 15, 38⟩ ⟨15, 8, 15, 38⟩ ⟨15, 8, 15, 38⟩ := by
  obtain ⟨fd, FD⟩ := F.says.says.def_ 2 (d := d_all_records) rfl
  exact ⟨⟨fd, FD, FD.bindsN fun _ _ _ _ _ _ us hl => match us, hl with | [_], _ => rfl⟩, by kernel_rfl, by kernel_rfl, by kernel_rfl, by kernel_rfl, by kernel_rfl, by kernel_rfl, by kernel_rfl, by kernel_rfl, c_record_at F, c_record_count F, F.glo_all_records, F.glo_record_at, F.glo_record_count, F.z_range⟩
theorem c_law (F : Fx K mg base) : Cal P w K mg base ⟨[], w.params.followText "set-order"⟩ (He.ga K "law") ["_law_script"] 6 W_law := by
  obtain ⟨fd, FD⟩ := F.says.says.def_ 7 (d := d_law) rfl
  exact cal_mk (N := N_law) FD sc_law (FD.bindsN fun _ _ _ _ _ _ us hl => match us, hl with | [_], _ => rfl) fun cdv A outer s H E hr =>
  (eb_cons (es_set (i := 1) sc_law.nd (by kernel_rfl) (.inl (by kernel_rfl)) (ee_lst (ea_cons (ee_callTy cr_list (glk (by kernel_rfl)) F.z_list (by decide +kernel) (ea_cons (evl 0) ea_nil)) (ea_cons ee_int (ea_cons ee_int ea_nil)))) (hf := (.inr (by kernel_rfl))))
  (eb_cons (es_set (i := 2) sc_law.nd (by kernel_rfl) (.inl (by kernel_rfl)) (ee_call (c__law_sizes F) hr (by decide) (glk (by kernel_rfl)) F.glo__law_sizes (ea_cons (evl 1) ea_nil)) (hf := (.inr (by kernel_rfl))))
  (eb_cons (es_set (i := 3) sc_law.nd (by kernel_rfl) (.inl (by kernel_rfl)) (ee_call (c__law_all F) hr (by decide) (glk (by kernel_rfl)) F.glo__law_all (ea_cons (evl 2) ea_nil)) (hf := (.inr (by kernel_rfl))))
  (eb_cons (es_if (EW.et (ew_or (et_cmp (ro_ne (hu64 hr)) (ee_mfz (Gd.ee_listGen2 (B := 1000) (by decide) (by decide) (gf F) hr (by decide) (glk (by kernel_rfl)) (glk (by kernel_rfl)) F.z_list (evl 2) rfl)) (evl 3) (nomark _)) (ew_or1 (et_cmp (ro_ne (hu64 hr)) (ee_callB cr_len (glk (by kernel_rfl)) F.z_len (by decide +kernel) (ea_cons (evl 3) ea_nil)) (ee_call (c__law_count F) hr (by decide) (glk (by kernel_rfl)) F.glo__law_count (ea_cons (evl 2) ea_nil)) (nomark _))))) (eb_one (es_ret ee_bl)) eb_nil)
  (eb_cons (Gd.es_forG2 (B := 1000) (by decide) (gf F) (fun _ _ h => h) PassesOwn.never hr (by decide) (glk (by kernel_rfl)) (evl 2) rfl (eg_nm (i := 4) sc_law.nd (by kernel_rfl) (.inl (by kernel_rfl)) (.inr (by kernel_rfl))) (eb_one (es_if (et_not (et_tru (ee_isi (evl 4) (glk (by kernel_rfl)) F.z_isinstance (glk (by kernel_rfl)) F.z_tuple (by decide +kernel) (by decide)))) (eb_one (es_ret ee_bl)) eb_nil)))
  (eb_cons (Gd.es_forE2 (B := 1000) (by decide) (gf F) (fun _ _ h => h) PassesOwn.never hr (by decide) (glk (by kernel_rfl)) (glk (by kernel_rfl)) F.z_enumerate (evl 2) rfl (eg_tp (by kernel_rfl) (egs_cons (eg_nm (i := 5) sc_law.nd (by kernel_rfl) (.inl (by kernel_rfl)) (.inr (by kernel_rfl))) (egs_cons (eg_nm (i := 4) sc_law.nd (by kernel_rfl) (.inl (by kernel_rfl)) (.inr (by kernel_rfl))) egs_nil))) (eb_one (es_if (et_cmp (ro_ne (hu64 hr)) (ee_call (c_record_at F) hr (by decide) (glk (by kernel_rfl)) F.glo_record_at (ea_cons (evl 2) (ea_cons (evl 5) ea_nil))) (evl 4) (nomark _)) (eb_one (es_ret ee_bl)) eb_nil)))
  (eb_one (es_ret ee_bl))))))))
theorem facts {h : Heap} {f : Addr} (X : K.In h) (G : h.Ns mainGlobals mg) (hfa : mg ("law" : Str) = some (.ref f)) (c : SaysX tbs fa fn K) :
    ∃ fd : FuncData, (∀ (s : Shared) (v : Value), BindsTo s fd ⟨[v], []⟩ [("_law_script", v)]) ∧ ∀ base : Heap, K.In base → base.Ns mainGlobals mg → FnOk P w K mg base CX0 6 f fd ["_law_script"] (spM K ⟨[], w.params.followText "set-order"⟩ 1 W_law) := by
  obtain ⟨fd, FD⟩ := c.says.def_ 7 (d := d_law) rfl
  have e := hfa.symm.trans (He.glo_ok X G (c.says.fact 7 (f := .glo "law") rfl))
  cases e
  have b := FunD.bindsA (ps := ["_law_script"]) FD fun _ _ _ _ _ _ us hl => match us, hl with | [_], _ => rfl
  refine ⟨fd, fun s v => b s [v] rfl, fun base hb hn => ?_⟩
  have F : Fx K mg base := ⟨c, hb, hn⟩
  exact fn_sp (N := N_law) FD sc_law fun cdv A outer s H E hr =>
  (eb_cons (es_set (i := 1) sc_law.nd (by kernel_rfl) (.inl (by kernel_rfl)) (ee_lst (ea_cons (ee_callTy cr_list (glk (by kernel_rfl)) F.z_list (by decide +kernel) (ea_cons (evl 0) ea_nil)) (ea_cons ee_int (ea_cons ee_int ea_nil)))) (hf := (.inr (by kernel_rfl))))
  (eb_cons (es_set (i := 2) sc_law.nd (by kernel_rfl) (.inl (by kernel_rfl)) (ee_call (c__law_sizes F) hr (by decide) (glk (by kernel_rfl)) F.glo__law_sizes (ea_cons (evl 1) ea_nil)) (hf := (.inr (by kernel_rfl))))
  (eb_cons (es_set (i := 3) sc_law.nd (by kernel_rfl) (.inl (by kernel_rfl)) (ee_call (c__law_all F) hr (by decide) (glk (by kernel_rfl)) F.glo__law_all (ea_cons (evl 2) ea_nil)) (hf := (.inr (by kernel_rfl))))
  (eb_cons (es_if (EW.et (ew_or (et_cmp (ro_ne (hu64 hr)) (ee_mfz (Gd.ee_listGen2 (B := 1000) (by decide) (by decide) (gf F) hr (by decide) (glk (by kernel_rfl)) (glk (by kernel_rfl)) F.z_list (evl 2) rfl)) (evl 3) (nomark _)) (ew_or1 (et_cmp (ro_ne (hu64 hr)) (ee_callB cr_len (glk (by kernel_rfl)) F.z_len (by decide +kernel) (ea_cons (evl 3) ea_nil)) (ee_call (c__law_count F) hr (by decide) (glk (by kernel_rfl)) F.glo__law_count (ea_cons (evl 2) ea_nil)) (nomark _))))) (eb_one (es_ret ee_bl)) eb_nil)
  (eb_cons (Gd.es_forG2 (B := 1000) (by decide) (gf F) (fun _ _ h => h) PassesOwn.never hr (by decide) (glk (by kernel_rfl)) (evl 2) rfl (eg_nm (i := 4) sc_law.nd (by kernel_rfl) (.inl (by kernel_rfl)) (.inr (by kernel_rfl))) (eb_one (es_if (et_not (et_tru (ee_isi (evl 4) (glk (by kernel_rfl)) F.z_isinstance (glk (by kernel_rfl)) F.z_tuple (by decide +kernel) (by decide)))) (eb_one (es_ret ee_bl)) eb_nil)))
  (eb_cons (Gd.es_forE2 (B := 1000) (by decide) (gf F) (fun _ _ h => h) PassesOwn.never hr (by decide) (glk (by kernel_rfl)) (glk (by kernel_rfl)) F.z_enumerate (evl 2) rfl (eg_tp (by kernel_rfl) (egs_cons (eg_nm (i := 5) sc_law.nd (by kernel_rfl) (.inl (by kernel_rfl)) (.inr (by kernel_rfl))) (egs_cons (eg_nm (i := 4) sc_law.nd (by kernel_rfl) (.inl (by kernel_rfl)) (.inr (by kernel_rfl))) egs_nil))) (eb_one (es_if (et_cmp (ro_ne (hu64 hr)) (ee_call (c_record_at F) hr (by decide) (glk (by kernel_rfl)) F.glo_record_at (ea_cons (evl 2) (ea_cons (evl 5) ea_nil))) (evl 4) (nomark _)) (eb_one (es_ret ee_bl)) eb_nil)))
  (eb_one (es_ret ee_bl))))))))
end
end Rw
set_option maxHeartbeats 4000000 in
open PySem PySem.W PySem.Calls PyProof.Rows in
theorem Rw.holds_of (hW : ∀ ns : List Int, ns.length ≤ 63 → Rw.W_law [.frz (ns.map Mv.MV.int)] Mv.sto0 (fun v _ => v = .bl true)) : PySem.Challenge.rw_rollwarden_k02_all_records_in_order.Holds := by
  w_on; o_law
  refine HandSHeadRun.head_any (r := OpenLaw.row PySem.Challenge.rw_rollwarden_k02_all_records_in_order) (q := view (OpenLaw.row PySem.Challenge.rw_rollwarden_k02_all_records_in_order).prog [9]) (H := Rw.hk) (ob := Rw.ob) (M := 20000) (loose := Rw.loose) (d := HandSHeadRun.topDef (OpenLaw.row PySem.Challenge.rw_rollwarden_k02_all_records_in_order).prog 9) (kwd := []) Rw.ob_eq
    (by kernel_rfl) (fun s => by kernel_rfl) Rw.run (by kernel_rfl) (by kernel_rfl) (by kernel_rfl) (by rfl) (by first | assumption | decide +kernel) (by decide +kernel) ⟨rfl, rfl, rfl, rfl, rfl, by decide +kernel⟩ ?hw ?hc
  case hw => w_witness2
  case hc =>
    refine L2.walk_ofE (l := PySem.Challenge.rw_rollwarden_k02_all_records_in_order) (n := 63) (k := 6) (x := "_law_script") (CX := L2.CX0) rfl (by decide) (by kernel_rfl) ⟨rfl, by decide, by decide⟩ ?F (fun _ _ _ _ z => z)
    intro w mg fa h Y G hmg0
    obtain ⟨K, KX, c⟩ := Y
    have hmg : mg ("law" : PySem.Str) = some (.ref fa) := by
      have e : (HandSHeadRun.topDef (OpenLaw.row PySem.Challenge.rw_rollwarden_k02_all_records_in_order).prog 9).name = ("law" : PySem.Str) := by kernel_rfl
      rw [← e]
      exact hmg0
    obtain ⟨fd, hb, hF⟩ := Rw.facts (P := (PySem.Challenge.rw_rollwarden_k02_all_records_in_order).prog) (w := w) KX G hmg c
    refine ⟨K, fd, Mv.spM K ⟨[], w.params.followText "set-order"⟩ 1 Rw.W_law, KX, hb, fun H a ns hl ho hS => ⟨rfl, [.frz (ns.map Mv.MV.int)], Mv.sto0, _, Mv.RMs.cons (Mv.rm_script hS ho) Mv.RMs.nil, Mv.rs0, hW ns hl, fun v H' q => ?_⟩, hF⟩
    obtain ⟨m, S', t, r, s, e⟩ := q
    subst e
    unfold Mv.RM at r
    exact r

set_option Elab.async false
set_option linter.all false
set_option maxRecDepth 100000
set_option maxHeartbeats 4000000
/-! Stepping through readings: each combinator at its arguments, the continuations by name (so that a rewriting goes on at the head alone). -/
namespace Pf
open PySem PySem.Spec PyProof.Rows L2 Mv
abbrev KB := Bool → Sto → Prop
abbrev KA := List MV → Sto → Prop
/-! expressions -/
def kOpt (o : Option (Option MV)) (R : MK) (S : Sto) : Prop := match o with
  | some (some v) => R v S
  | _ => False
theorem kOpt_some {v R S} : kOpt (some (some v)) R S = R v S := rfl
def lkO : Option MO → Option (List MV)
  | some (.lst l) => some l
  | some (.rl l) => some l
  | _ => none
theorem look_ap {S a} : lookL S a = lkO (S a) := rfl
theorem lkO_l {l} : lkO (some (.lst l)) = some l := rfl
theorem lkO_r {l} : lkO (some (.rl l)) = some l := rfl
theorem var_ap {i ρ S R} : mVar i ρ S R = kOpt ρ[i]? R S := rfl
theorem c_ap {v ρ S R} : mC v ρ S R = R v S := rfl
def kOp1 (f : M2) (mb : ME) (ρ : Mv.Env) (R : MK) : MK := fun x S => mb ρ S fun y S2 => f x y S2 R
def kOp2 (f : M2) (x : MV) (R : MK) : MK := fun y S => f x y S R
theorem op_ap {f ma mb ρ S R} : mOp f ma mb ρ S R = ma ρ S (kOp1 f mb ρ R) := rfl
theorem op1_ap {f mb ρ R x S} : kOp1 f mb ρ R x S = mb ρ S (kOp2 f x R) := rfl
theorem op2_ap {f x R y S} : kOp2 f x R y S = f x y S R := rfl
def kB (R : KB) : MK := asB R
theorem tst_ap {m ρ S R} : mTst m ρ S R = m ρ S (kB R) := rfl
theorem kB_ap {R b S} : kB R (.bl b) S = R b S := rfl
theorem asB_ap {R b S} : asB R (.bl b) S = R b S := rfl
def kTo (o : Option Bool) (R : KB) (S : Sto) : Prop := match o with
  | some b => R b S
  | none => False
theorem kTo_some {b R S} : kTo (some b) R S = R b S := rfl
def kTru (R : KB) : MK := fun v S => kTo (truB S v) R S
theorem tru_ap {m ρ S R} : mTru m ρ S R = m ρ S (kTru R) := rfl
theorem kTru_ap {R v S} : kTru R v S = kTo (truB S v) R S := rfl
theorem truB_bl {S b} : truB S (.bl b) = some b := rfl
theorem truB_non {S} : truB S .non = some false := rfl
theorem truB_int {S i} : truB S (.int i) = some (i != 0) := rfl
theorem truB_tup {S l} : truB S (.tup l) = some (!l.isEmpty) := rfl
theorem truB_frz {S l} : truB S (.frz l) = some (!l.isEmpty) := rfl
def kAndB (mb : ME) (ρ : Mv.Env) (R : MK) (x : MV) : KB := fun b S => match b with
  | true => mb ρ S R
  | false => R x S
def kAndV (mb : ME) (ρ : Mv.Env) (R : MK) : MK := fun x S => kTo (truB S x) (kAndB mb ρ R x) S
theorem andV_ap {ma mb ρ S R} : mAndV ma mb ρ S R = ma ρ S (kAndV mb ρ R) := by
  unfold mAndV
  congr 1
  funext x S1
  unfold kAndV
  cases truB S1 x with
  | none => rfl
  | some b => cases b <;> rfl
theorem kAndV_ap {mb ρ R x S} : kAndV mb ρ R x S = kTo (truB S x) (kAndB mb ρ R x) S := rfl
theorem kAndB_t {mb ρ R x S} : kAndB mb ρ R x true S = mb ρ S R := rfl
theorem kAndB_f {mb ρ R x S} : kAndB mb ρ R x false S = R x S := rfl
def kOrB (mb : ME) (ρ : Mv.Env) (R : MK) (x : MV) : KB := fun b S => match b with
  | true => R x S
  | false => mb ρ S R
def kOrV (mb : ME) (ρ : Mv.Env) (R : MK) : MK := fun x S => kTo (truB S x) (kOrB mb ρ R x) S
theorem orV_ap {ma mb ρ S R} : mOrV ma mb ρ S R = ma ρ S (kOrV mb ρ R) := by
  unfold mOrV
  congr 1
  funext x S1
  unfold kOrV
  cases truB S1 x with
  | none => rfl
  | some b => cases b <;> rfl
theorem kOrV_ap {mb ρ R x S} : kOrV mb ρ R x S = kTo (truB S x) (kOrB mb ρ R x) S := rfl
theorem kOrB_t {mb ρ R x S} : kOrB mb ρ R x true S = R x S := rfl
theorem kOrB_f {mb ρ R x S} : kOrB mb ρ R x false S = mb ρ S R := rfl
def kNotV (R : MK) : MK := fun x S => kTo (truB S x) (fun b S => R (.bl (!b)) S) S
def kNotB (R : MK) : KB := fun b S => R (.bl (!b)) S
theorem notV_ap {ma ρ S R} : mNotV ma ρ S R = ma ρ S (kNotV R) := by
  unfold mNotV
  congr 1
theorem kNotV_ap {R x S} : kNotV R x S = kTo (truB S x) (kNotB R) S := rfl
theorem kNotB_ap {R b S} : kNotB R b S = R (.bl (!b)) S := rfl
def kAnd (u : MT) (ρ : Mv.Env) (R : KB) : KB := fun b S => match b with
  | true => u ρ S R
  | false => R false S
theorem and_ap {t u ρ S R} : mAnd t u ρ S R = t ρ S (kAnd u ρ R) := rfl
theorem kAnd_t {u ρ R S} : kAnd u ρ R true S = u ρ S R := rfl
theorem kAnd_f {u ρ R S} : kAnd u ρ R false S = R false S := rfl
def kOr (u : MT) (ρ : Mv.Env) (R : KB) : KB := fun b S => match b with
  | true => R true S
  | false => u ρ S R
theorem or_ap {t u ρ S R} : mOr t u ρ S R = t ρ S (kOr u ρ R) := rfl
theorem kOr_t {u ρ R S} : kOr u ρ R true S = R true S := rfl
theorem kOr_f {u ρ R S} : kOr u ρ R false S = u ρ S R := rfl
def kNot (R : KB) : KB := fun b S => R (!b) S
theorem not_ap {t ρ S R} : mNot t ρ S R = t ρ S (kNot R) := rfl
theorem kNot_ap {R b S} : kNot R b S = R (!b) S := rfl
def kIf (a b : ME) (ρ : Mv.Env) (R : MK) : KB := fun c S => match c with
  | true => a ρ S R
  | false => b ρ S R
theorem if_ap {t a b ρ S R} : mIf t a b ρ S R = t ρ S (kIf a b ρ R) := rfl
theorem kIf_t {a b ρ R S} : kIf a b ρ R true S = a ρ S R := rfl
theorem kIf_f {a b ρ R S} : kIf a b ρ R false S = b ρ S R := rfl
def kUn (f : MV → Sto → MK → Prop) (R : MK) : MK := fun x S => f x S R
theorem un_ap {f ma ρ S R} : mUn f ma ρ S R = ma ρ S (kUn f R) := rfl
theorem kUn_ap {f R x S} : kUn f R x S = f x S R := rfl
theorem neg_ap {i S R} : negV (.int i) S R = R (.int (-i)) S := rfl
def kCh1 (f g : M2) (mb mc : ME) (ρ : Mv.Env) (R : MK) : MK := fun x S1 => mb ρ S1 fun y S2 => f x y S2 (asB fun b S3 => match b with
  | true => mc ρ S3 fun z S4 => g y z S4 R
  | false => R (.bl false) S3)
def kCh2 (f g : M2) (mc : ME) (ρ : Mv.Env) (R : MK) (x : MV) : MK := fun y S2 => f x y S2 (asB fun b S3 => match b with
  | true => mc ρ S3 fun z S4 => g y z S4 R
  | false => R (.bl false) S3)
def kCh3 (g : M2) (mc : ME) (ρ : Mv.Env) (R : MK) (y : MV) : KB := fun b S3 => match b with
  | true => mc ρ S3 fun z S4 => g y z S4 R
  | false => R (.bl false) S3
theorem chain_ap {f g ma mb mc ρ S R} : mChain f g ma mb mc ρ S R = ma ρ S (kCh1 f g mb mc ρ R) := rfl
theorem kCh1_ap {f g mb mc ρ R x S} : kCh1 f g mb mc ρ R x S = mb ρ S (kCh2 f g mc ρ R x) := rfl
theorem kCh2_ap {f g mc ρ R x y S} : kCh2 f g mc ρ R x y S = f x y S (kB (kCh3 g mc ρ R y)) := rfl
theorem kCh3_t {g mc ρ R y S} : kCh3 g mc ρ R y true S = mc ρ S (kOp2 g y R) := rfl
theorem kCh3_f {g mc ρ R y S} : kCh3 g mc ρ R y false S = R (.bl false) S := rfl
/-! arguments -/
theorem maNil_ap {ρ S R} : maNil ρ S R = R [] S := rfl
def kArg (r : MA) (ρ : Mv.Env) (R : KA) : MK := fun x S1 => r ρ S1 fun xs S2 => R (x :: xs) S2
def kArg2 (x : MV) (R : KA) : KA := fun xs S => R (x :: xs) S
theorem maCons_ap {m r ρ S R} : maCons m r ρ S R = m ρ S (kArg r ρ R) := rfl
theorem kArg_ap {r ρ R x S} : kArg r ρ R x S = r ρ S (kArg2 x R) := rfl
theorem kArg2_ap {x R xs S} : kArg2 x R xs S = R (x :: xs) S := rfl
def kTup (R : MK) : KA := fun l S1 => l.length ≤ sizeLine ∧ R (.tup l) S1
theorem tup_ap {ms ρ S R} : mTup ms ρ S R = ms ρ S (kTup R) := rfl
theorem kTup_ap {R l S} (h : l.length ≤ 100) : kTup R l S = R (.tup l) S := by
  have : l.length ≤ sizeLine := Nat.le_trans h (by decide)
  unfold kTup
  exact propext ⟨fun q => q.2, fun q => ⟨this, q⟩⟩
def kLst (R : MK) : KA := fun l S1 => l.length ≤ sizeLine ∧ newL l S1 R
theorem lst_ap {ms ρ S R} : mLst ms ρ S R = ms ρ S (kLst R) := rfl
theorem kLst_ap {R l S} (h : l.length ≤ 100) : kLst R l S = newL l S R := by
  have : l.length ≤ sizeLine := Nat.le_trans h (by decide)
  unfold kLst
  exact propext ⟨fun q => q.2, fun q => ⟨this, q⟩⟩
/-! calls -/
def kCall (W : MW) (R : MK) : KA := fun vs S1 => W vs S1 R
theorem call_ap {W ms ρ S R} : mCall W ms ρ S R = ms ρ S (kCall W R) := rfl
theorem kCall_ap {W R vs S} : kCall W R vs S = W vs S R := rfl
def kCB (f : MF) (R : MK) : KA := fun vs S1 => f vs S1 R
theorem cb_ap {f ms ρ S R} : mCB f ms ρ S R = ms ρ S (kCB f R) := rfl
theorem kCB_ap {f R vs S} : kCB f R vs S = f vs S R := rfl
def kIsi (T : String) (R : MK) : MK := fun x S1 => match tyN S1 x with
  | some n => R (.bl (tyB T n)) S1
  | none => False
def kIsi2 (o : Option String) (T : String) (R : MK) (S : Sto) : Prop := match o with
  | some n => R (.bl (tyB T n)) S
  | none => False
theorem isi_ap {T m ρ S R} : mIsi T m ρ S R = m ρ S (kIsi T R) := rfl
theorem kIsi_ap {T R x S} : kIsi T R x S = kIsi2 (tyN S x) T R S := rfl
theorem kIsi2_some {n T R S} : kIsi2 (some n) T R S = R (.bl (tyB T n)) S := rfl
theorem tyN_int {S i} : tyN S (.int i) = some "int" := rfl
theorem tyN_bl {S i} : tyN S (.bl i) = some "bool" := rfl
theorem tyN_non {S} : tyN S .non = some "NoneType" := rfl
theorem tyN_str {S i} : tyN S (.str i) = some "str" := rfl
theorem tyN_tup {S l} : tyN S (.tup l) = some "tuple" := rfl
theorem tyN_frz {S l} : tyN S (.frz l) = some "list" := rfl
theorem tyB_ii : tyB "int" "int" = true := by decide
theorem tyB_ib : tyB "int" "bool" = true := by decide
theorem tyB_bi : tyB "bool" "int" = false := by decide
theorem tyB_bb : tyB "bool" "bool" = true := by decide
theorem tyB_tt : tyB "tuple" "tuple" = true := by decide
def kBM (f : MB) (ms : MA) (ρ : Mv.Env) (R : MK) : MK := fun x S1 => isL S1 x ∧ ms ρ S1 fun vs S2 => f x vs S2 R
def kBM2 (f : MB) (x : MV) (R : MK) : KA := fun vs S => f x vs S R
theorem bm_ap {f mo ms ρ S R} : mBM f mo ms ρ S R = mo ρ S (kBM f ms ρ R) := rfl
theorem kBM_ap {f ms ρ R x S} : kBM f ms ρ R x S = (isL S x ∧ ms ρ S (kBM2 f x R)) := rfl
theorem kBM2_ap {f x R vs S} : kBM2 f x R vs S = f x vs S R := rfl
/-! statements -/
theorem msNil_ap {D ρ S} : msNil D ρ S = D.nx ρ S := rfl
theorem seq_ap {a b D ρ S} : msSeq a b D ρ S = a ⟨b D, D.rt, D.bk, D.ct⟩ ρ S := rfl
theorem nx_mk {a b c d} : MD.nx ⟨a, b, c, d⟩ = a := rfl
theorem rt_mk {a b c d} : MD.rt ⟨a, b, c, d⟩ = b := rfl
theorem bk_mk {a b c d} : MD.bk ⟨a, b, c, d⟩ = c := rfl
theorem ct_mk {a b c d} : MD.ct ⟨a, b, c, d⟩ = d := rfl
theorem ret_ap {m D ρ S} : msRet m D ρ S = m ρ S D.rt := rfl
theorem retN_ap {D ρ S} : msRetN D ρ S = D.rt .non S := rfl
theorem brk_ap {D ρ S} : msBrk D ρ S = D.bk ρ S := rfl
theorem cont_ap {D ρ S} : msCont D ρ S = D.ct ρ S := rfl
def kSet (i : Nat) (ρ : Mv.Env) (k : Mv.Env → Sto → Prop) : MK := fun v S => k (ρ.set i (some v)) S
theorem set_ap {i m D ρ S} : msSet i m D ρ S = m ρ S (kSet i ρ D.nx) := rfl
theorem kSet_ap {i ρ k v S} : kSet i ρ k v S = k (ρ.set i (some v)) S := rfl
def kDrop (ρ : Mv.Env) (k : Mv.Env → Sto → Prop) : MK := fun _ S => k ρ S
theorem expr_ap {m D ρ S} : msExpr m D ρ S = m ρ S (kDrop ρ D.nx) := rfl
theorem kDrop_ap {ρ k v S} : kDrop ρ k v S = k ρ S := rfl
def kIfS (a b : MS) (D : MD) (ρ : Mv.Env) : KB := fun c S => match c with
  | true => a D ρ S
  | false => b D ρ S
theorem ifS_ap {t a b D ρ S} : msIf t a b D ρ S = t ρ S (kIfS a b D ρ) := rfl
theorem kIfS_t {a b D ρ S} : kIfS a b D ρ true S = a D ρ S := rfl
theorem kIfS_f {a b D ρ S} : kIfS a b D ρ false S = b D ρ S := rfl
def kSub1 (mo mi : ME) (ρ : Mv.Env) (k : Mv.Env → Sto → Prop) : MK := fun v S1 => mo ρ S1 fun o S2 => mi ρ S2 fun i S3 => subPut o i v S3 fun S4 => k ρ S4
def kSub2 (mi : ME) (ρ : Mv.Env) (k : Mv.Env → Sto → Prop) (v : MV) : MK := fun o S2 => mi ρ S2 fun i S3 => subPut o i v S3 fun S4 => k ρ S4
def kSub3 (ρ : Mv.Env) (k : Mv.Env → Sto → Prop) (v o : MV) : MK := fun i S3 => subPut o i v S3 fun S4 => k ρ S4
theorem sub_ap {mo mi mv D ρ S} : msSub mo mi mv D ρ S = mv ρ S (kSub1 mo mi ρ D.nx) := rfl
theorem kSub1_ap {mo mi ρ k v S} : kSub1 mo mi ρ k v S = mo ρ S (kSub2 mi ρ k v) := rfl
theorem kSub2_ap {mi ρ k v o S} : kSub2 mi ρ k v o S = mi ρ S (kSub3 ρ k v o) := rfl
theorem kSub3_ap {ρ k v o i S} : kSub3 ρ k v o i S = subPut o i v S (k ρ) := rfl
theorem defW_ap {np n body ms S R} (h : ms.length = np) : defW np n body ms S R = body ⟨fun _ S' => dropK R .non S', dropK R, fun _ _ => False, fun _ _ => False⟩ (startM n ms) S := by
  unfold defW
  exact propext ⟨fun q => q.2, fun q => ⟨h, q⟩⟩
/-! values -/
theorem add_ii {i j S R} : addV (.int i) (.int j) S R = R (.int (i + j)) S := rfl
theorem add_tt {l k S R} (h : l.length + k.length ≤ 100) : addV (.tup l) (.tup k) S R = R (.tup (l ++ k)) S := by
  have : l.length + k.length ≤ sizeLine := Nat.le_trans h (by decide)
  show (_ ∧ _) = _
  exact propext ⟨fun q => q.2, fun q => ⟨this, q⟩⟩
theorem sub_ii {i j S R} : subV (.int i) (.int j) S R = R (.int (i - j)) S := rfl
theorem mul_ii {i j S R} : mulV (.int i) (.int j) S R = (CMul i j ∧ R (.int (i * j)) S) := rfl
theorem mul_lt {i j S R} (h : -(2 ^ 64) < i) (h2 : i < 2 ^ 64) : mulV (.int i) (.int j) S R = R (.int (i * j)) S := by
  show (_ ∧ _) = _
  exact propext ⟨fun q => q.2, fun q => ⟨.inl ⟨h, h2⟩, q⟩⟩
theorem mul_rt {i j S R} (h : -(2 ^ 64) < j) (h2 : j < 2 ^ 64) : mulV (.int i) (.int j) S R = R (.int (i * j)) S := by
  show (_ ∧ _) = _
  exact propext ⟨fun q => q.2, fun q => ⟨.inr ⟨h, h2⟩, q⟩⟩
theorem mod_ii {i j S R} (h : 0 < j) : modV (.int i) (.int j) S R = R (.int (i % j)) S := by
  show (_ ∧ _) = _
  exact propext ⟨fun q => q.2, fun q => ⟨h, q⟩⟩
theorem fdiv_ii {i j S R} (h : 0 < j) (h2 : j < 1073741824) : fdivV (.int i) (.int j) S R = R (.int (i / j)) S := by
  show (_ ∧ _) = _
  exact propext ⟨fun q => q.2, fun q => ⟨⟨h, h2⟩, q⟩⟩
theorem lt_ii {i j S R} : ltV (.int i) (.int j) S R = R (.bl (decide (i < j))) S := rfl
theorem le_ii {i j S R} : leV (.int i) (.int j) S R = R (.bl (decide (i ≤ j))) S := rfl
theorem gt_ii {i j S R} : gtV (.int i) (.int j) S R = R (.bl (decide (j < i))) S := rfl
theorem ge_ii {i j S R} : geV (.int i) (.int j) S R = R (.bl (decide (j ≤ i))) S := rfl
def kEq (f : Bool → Bool) (d e : Option PyData) (R : MK) (S : Sto) : Prop := match d, e with
  | some d, some e => R (.bl (f (PyData.eqv d e))) S
  | _, _ => False
def bId (b : Bool) : Bool := b
theorem bId_ap {b} : bId b = b := rfl
theorem eq_ap {x y S R} : eqV' x y S R = kEq bId (dat S x) (dat S y) R S := rfl
theorem ne_ap {x y S R} : neV' x y S R = kEq not (dat S x) (dat S y) R S := rfl
theorem kEq_some {f d e R S} : kEq f (some d) (some e) R S = R (.bl (f (PyData.eqv d e))) S := rfl
theorem dat_int {S i} : dat S (.int i) = some (.int i) := rfl
theorem dat_bl {S i} : dat S (.bl i) = some (.bool i) := rfl
theorem dat_non {S} : dat S .non = some .none := rfl
theorem dat_str {S s} (h : PyData.strOk (so s) = true) : dat S (.str s) = some (.str (so s)) := by
  show (if _ then _ else _) = _
  rw [if_pos h]
theorem dat_tup {S l} (h : fits l 59 = true) : dat S (.tup l) = some (.tuple (pds l)) := by
  show (if _ then _ else _) = _
  rw [if_pos h]
theorem eqv_ii {i j : Int} : PyData.eqv (.int i) (.int j) = decide (i = j) := by
  show (i == j) = _
  by_cases h : i = j <;> simp [h]
theorem eqv_ss {s t : String} : PyData.eqv (.str (so s)) (.str (so t)) = decide (s = t) := by
  show (so s == so t) = _
  rw [so_beq]
  by_cases h : s = t <;> simp [h]
theorem eqv_bb {i j : Bool} : PyData.eqv (.bool i) (.bool j) = (i == j) := rfl
def kO (o : Option MV) (R : MK) (S : Sto) : Prop := match o with
  | some v => R v S
  | none => False
theorem kO_some {v R S} : kO (some v) R S = R v S := rfl
theorem ix_t {l i S R} : ixV (.tup l) (.int i) S R = kO (atI l i) R S := by
  show (match atI l i with | some v => R v S | none => False) = _
  unfold kO; cases atI l i <;> rfl
def kL (o : Option (List MV)) (f : List MV → Prop) : Prop := match o with
  | some l => f l
  | none => False
theorem kL_some {l f} : kL (some l) f = f l := rfl
theorem at_0 {x : MV} {l : List MV} : atI (x :: l) 0 = some x := atI_nat (j := 0) rfl
theorem at_1 {x y : MV} {l : List MV} : atI (x :: y :: l) 1 = some y := atI_nat (j := 1) rfl
theorem at_2 {x y z : MV} {l : List MV} : atI (x :: y :: z :: l) 2 = some z := atI_nat (j := 2) rfl
theorem at_3 {x y z u : MV} {l : List MV} : atI (x :: y :: z :: u :: l) 3 = some u := atI_nat (j := 3) rfl
theorem at_4 {x y z u v : MV} {l : List MV} : atI (x :: y :: z :: u :: v :: l) 4 = some v := atI_nat (j := 4) rfl
theorem at_5 {x y z u v w : MV} {l : List MV} : atI (x :: y :: z :: u :: v :: w :: l) 5 = some w := atI_nat (j := 5) rfl
theorem at_nat {l : List MV} {j : Nat} {v : MV} (h : l[j]? = some v) : atI l (j : Int) = some v := atI_nat h
theorem len_t {l S R} : lenV [.tup l] S R = R (.int l.length) S := rfl
theorem list_t {l S R} : listV [.tup l] S R = newL l S R := rfl
theorem list_f {l S R} : listV [.frz l] S R = newL l S R := rfl
theorem tuple_t {l S R} : tupleV [.tup l] S R = R (.tup l) S := rfl
theorem int_i {i S R} : intV [.int i] S R = R (.int i) S := rfl
theorem int_b {b S R} : intV [.bl b] S R = R (.int (if b then 1 else 0)) S := rfl
/-! lists of fixed length, the store -/
theorem l_set0 {α : Type} {a v : α} {l : List α} : (a :: l).set 0 v = v :: l := rfl
theorem l_setS {α : Type} {a v : α} {l : List α} {n : Nat} : (a :: l).set (n + 1) v = a :: l.set n v := rfl
theorem l_get0 {α : Type} {a : α} {l : List α} : (a :: l)[0]? = some a := rfl
theorem l_getS {α : Type} {a : α} {l : List α} {n : Nat} : (a :: l)[n + 1]? = l[n]? := by simp
theorem l_len0 {α : Type} : ([] : List α).length = 0 := rfl
theorem l_lenS {α : Type} {a : α} {l : List α} : (a :: l).length = l.length + 1 := rfl
theorem l_app0 {α : Type} {l : List α} : [] ++ l = l := rfl
theorem l_appS {α : Type} {a : α} {l k : List α} : (a :: l) ++ k = a :: (l ++ k) := rfl
theorem l_map0 {α β : Type} {f : α → β} : [].map f = [] := rfl
theorem l_mapS {α β : Type} {f : α → β} {a : α} {l : List α} : (a :: l).map f = f a :: l.map f := rfl
theorem l_len_map {α β : Type} {f : α → β} {l : List α} : (l.map f).length = l.length := List.length_map _
theorem l_rep0 {α : Type} {a : α} : List.replicate 0 a = [] := rfl
theorem l_repS {α : Type} {a : α} {n : Nat} : List.replicate (n + 1) a = a :: List.replicate n a := rfl
theorem start_ap {n ms} : startM n ms = ms.map some ++ List.replicate (n - ms.length) none := rfl
theorem wipe_nil {ρ} : wipeM ρ [] = ρ := rfl
theorem wipe_cons {ρ v vs} : wipeM ρ (v :: vs) = (wipeM ρ vs).set v none := rfl
theorem sd_same {S a o} : supd S a o a = some o := by unfold supd; rw [if_pos rfl]
theorem sd_ne {S a o b} (h : b ≠ a) : supd S a o b = S b := by unfold supd; rw [if_neg h]
theorem supd_supd {S a o o'} : supd (supd S a o) a o' = supd S a o' := by
  funext b
  unfold supd
  by_cases h : b = a <;> simp [h]
theorem o_map_some {α β : Type} {f : α → β} {a : α} : (some a).map f = some (f a) := rfl
theorem ixN_nat {n j : Nat} (h : j < n) : ixN n (j : Int) = some j := by
  unfold ixN
  rw [if_pos (by omega), if_pos (by omega)]
  simp
theorem ixN_0 {n : Nat} : ixN (n + 1) 0 = some 0 := ixN_nat (n := n + 1) (j := 0) (by omega)
theorem ixN_1 {n : Nat} : ixN (n + 2) 1 = some 1 := ixN_nat (n := n + 2) (j := 1) (by omega)
theorem ixN_2 {n : Nat} : ixN (n + 3) 2 = some 2 := ixN_nat (n := n + 3) (j := 2) (by omega)
theorem ixN_3 {n : Nat} : ixN (n + 4) 3 = some 3 := ixN_nat (n := n + 4) (j := 3) (by omega)
theorem look_l {S : Sto} {a l} (h : S a = some (.lst l)) : lookL S a = some l := by unfold lookL; rw [h]
/-! loops -/
def kFor (pt : Pat) (body : MS) (D : MD) (ρ : Mv.Env) : Items → Sto → Prop := fun I S => forL I.keep pt body D I.vs ρ S
theorem for_ap {mi pt body D ρ S} : msFor mi pt body D ρ S = mi ρ S (kFor pt body D ρ) := rfl
theorem kFor_ap {pt body D ρ vs k S} : kFor pt body D ρ ⟨vs, k⟩ S = forL k pt body D vs ρ S := rfl
def kIter (R : Items → Sto → Prop) : MK := fun x S1 => match x with
  | .tup l => R ⟨l, []⟩ S1
  | .ref a => (match lookL S1 a with
    | some l => R ⟨l, [(a, l)]⟩ S1
    | none => False)
  | .frz l => R ⟨l, []⟩ S1
  | _ => False
theorem iter_ap {m ρ S R} : mIter m ρ S R = m ρ S (kIter R) := rfl
theorem kIter_t {R l S} : kIter R (.tup l) S = R ⟨l, []⟩ S := rfl
theorem kIter_f {R l S} : kIter R (.frz l) S = R ⟨l, []⟩ S := rfl
def kRng1 (R : Items → Sto → Prop) : KA := fun vs S1 => match vs with
  | [.int j] => (-(2 ^ 62) ≤ j ∧ j < 2 ^ 62) ∧ R ⟨rngM 0 j.toNat, []⟩ S1
  | _ => False
theorem rng1_ap {ms ρ S R} : mRng1 ms ρ S R = ms ρ S (kRng1 R) := rfl
theorem kRng1_ap {R S} {j : Int} (h0 : 0 ≤ j) (h1 : j < 2 ^ 62) : kRng1 R [.int j] S = R ⟨rngM 0 j.toNat, []⟩ S := by
  show (_ ∧ _) = _
  exact propext ⟨fun q => q.2, fun q => ⟨⟨by omega, h1⟩, q⟩⟩
def kRng2 (R : Items → Sto → Prop) : KA := fun vs S1 => match vs with
  | [.int i, .int j] => (-(2 ^ 62) ≤ i ∧ i < 2 ^ 62 ∧ -(2 ^ 62) ≤ j ∧ j < 2 ^ 62) ∧ R ⟨rngM i (j - i).toNat, []⟩ S1
  | _ => False
theorem rng2_ap {ms ρ S R} : mRng2 ms ρ S R = ms ρ S (kRng2 R) := rfl
theorem kRng2_ap {R S} {i j : Int} (h0 : -(2 ^ 62) ≤ i) (h1 : i < 2 ^ 62) (h2 : -(2 ^ 62) ≤ j) (h3 : j < 2 ^ 62) : kRng2 R [.int i, .int j] S = R ⟨rngM i (j - i).toNat, []⟩ S := by
  show (_ ∧ _) = _
  exact propext ⟨fun q => q.2, fun q => ⟨⟨h0, h1, h2, h3⟩, q⟩⟩
def kRev (R : Items → Sto → Prop) : MK := fun x S1 => match x with
  | .tup l => R ⟨l.reverse, []⟩ S1
  | .ref a => (match lookL S1 a with
    | some l => R ⟨l.reverse, [(a, l)]⟩ S1
    | none => False)
  | .frz l => R ⟨l.reverse, []⟩ S1
  | _ => False
theorem rev_ap {m ρ S R} : mReversed m ρ S R = m ρ S (kRev R) := rfl
theorem kRev_t {R l S} : kRev R (.tup l) S = R ⟨l.reverse, []⟩ S := rfl
theorem kRev_f {R l S} : kRev R (.frz l) S = R ⟨l.reverse, []⟩ S := rfl
def kNew (R : MK) : KA := fun l S => newL l S R
theorem kNew_ap {R l S} : kNew R l S = newL l S R := rfl
def kLc (pt : Pat) (tt : MT) (te : ME) (ρ : Mv.Env) (R : MK) : Items → Sto → Prop := fun I S => lcL I.keep pt tt te ρ (kNew R) I.vs [] S
theorem lc_ap {mi pt tt te vs ρ S R} : mLc mi pt tt te vs ρ S R = mi ρ S (kLc pt tt te (wipeM ρ vs) R) := rfl
theorem kLc_ap {pt tt te ρ R vs k S} : kLc pt tt te ρ R ⟨vs, k⟩ S = lcL k pt tt te ρ (kNew R) vs [] S := rfl
theorem yes_ap {ρ S R} : mYes ρ S R = R true S := rfl
theorem bind_nm {i v S ρ k} : bindP (.nm i) v S ρ k = k (ρ.set i (some v)) := by unfold bindP; rfl
theorem bind_tp {ps l S ρ k} : bindP (.tp ps) (.tup l) S ρ k = Mv.bindL ps l S ρ k := by unfold bindP; rfl
theorem bindL_nil {S ρ k} : Mv.bindL [] [] S ρ k = k ρ := by
  unfold Mv.bindL
  exact propext ⟨fun q => q.2, fun q => ⟨rfl, q⟩⟩
def kBL (ps : List Pat) (r : List MV) (S : Sto) (k : Mv.Env → Prop) : Mv.Env → Prop := fun ρ' => Mv.bindL ps r S ρ' k
theorem bindL_cons {p ps v r S ρ k} : Mv.bindL (p :: ps) (v :: r) S ρ k = bindP p v S ρ (kBL ps r S k) := by
  conv => lhs; unfold Mv.bindL
  rfl
theorem kBL_ap {ps r S k ρ} : kBL ps r S k ρ = Mv.bindL ps r S ρ k := rfl
def kPat (p : Pat) (ρ : Mv.Env) (k : Mv.Env → Sto → Prop) : MK := fun v S => bindP p v S ρ fun ρ' => k ρ' S
theorem pat_ap {p m D ρ S} : msPat p m D ρ S = m ρ S (kPat p ρ D.nx) := rfl
theorem kPat_ap {p ρ k v S} : kPat p ρ k v S = bindP p v S ρ fun ρ' => k ρ' S := rfl
def kAug1 (i : Nat) (f : M2) (x : MV) (ρ : Mv.Env) (k : Mv.Env → Sto → Prop) : MK := fun y S => f x y S fun z S2 => k (ρ.set i (some z)) S2
def kAugO (o : Option (Option MV)) (i : Nat) (f : M2) (m : ME) (ρ : Mv.Env) (k : Mv.Env → Sto → Prop) (S : Sto) : Prop := match o with
  | some (some x) => m ρ S (kAug1 i f x ρ k)
  | _ => False
theorem aug_ap {i f m D ρ S} : msAug i f m D ρ S = kAugO ρ[i]? i f m ρ D.nx S := rfl
theorem kAugO_ap {x i f m ρ k S} : kAugO (some (some x)) i f m ρ k S = m ρ S (kAug1 i f x ρ k) := rfl
theorem kAug1_ap {i f x ρ k y S} : kAug1 i f x ρ k y S = f x y S (kSet i ρ k) := rfl
theorem iadd_ii {i j S R} : iaddV (.int i) (.int j) S R = R (.int (i + j)) S := rfl
theorem keep_nil {S} : keepOk [] S := fun p h => by cases h
theorem keep_one {S : Sto} {a l} (h : lookL S a = some l) : keepOk [(a, l)] S := fun p hp => by
  cases hp with
  | head => exact h
  | tail _ h => cases h
/-- a loop's rule -/
theorem for_rule {k : List (Addr × List MV)} {pt : Pat} {body : MS} {D : MD} (I : Nat → Mv.Env → Sto → Prop) {vs : List MV} (hk : ∀ i ρ S, I i ρ S → keepOk k S)
    (step : ∀ i v ρ S (D' : MD), vs[i]? = some v → I i ρ S → (∀ ρ' S', I (i + 1) ρ' S' → D'.nx ρ' S') → (∀ ρ' S', I (i + 1) ρ' S' → D'.ct ρ' S') → D'.rt = D.rt → D'.bk = D.nx → bindP pt v S ρ fun ρ' => body D' ρ' S)
    (done : ∀ ρ S, I vs.length ρ S → D.nx ρ S) {ρ : Mv.Env} {S : Sto} (h0 : I 0 ρ S) : forL k pt body D vs ρ S := by
  suffices h : ∀ (n i : Nat) (ρ : Mv.Env) (S : Sto), n = vs.length - i → i ≤ vs.length → I i ρ S → forL k pt body D (vs.drop i) ρ S from by
    simpa using h _ 0 ρ S rfl (Nat.zero_le _) h0
  intro n
  induction n with
  | zero =>
    intro i ρ S hn hi h
    have e : i = vs.length := by omega
    subst e
    rw [List.drop_length]
    unfold forL
    exact ⟨hk _ _ _ h, done _ _ h⟩
  | succ n ih =>
    intro i ρ S hn hi h
    have hl : i < vs.length := by omega
    rw [List.drop_eq_getElem_cons hl]
    unfold forL
    exact ⟨hk _ _ _ h, step i _ ρ S { D with nx := forL k pt body D (vs.drop (i + 1)), ct := forL k pt body D (vs.drop (i + 1)), bk := D.nx } (by simp [hl]) h (fun ρ' S' h' => ih (i + 1) ρ' S' (by omega) (by omega) h') (fun ρ' S' h' => ih (i + 1) ρ' S' (by omega) (by omega) h') rfl rfl⟩
/-- a comprehension's rule -/
theorem lc_rule {k : List (Addr × List MV)} {pt : Pat} {tt : MT} {te : ME} {ρ : Mv.Env} {Q : List MV → Sto → Prop} (I : Nat → List MV → Sto → Prop) {vs : List MV} (hk : ∀ i acc S, I i acc S → keepOk k S) (hn : vs.length < sizeLine) (hl : ∀ i acc S, I i acc S → acc.length ≤ i)
    (step : ∀ i v acc S, vs[i]? = some v → I i acc S → ∀ (R : MK) (N : Sto → Prop), (∀ y S', I (i + 1) (acc ++ [y]) S' → R y S') → (∀ S', I (i + 1) acc S' → N S') → bindP pt v S ρ fun ρ' => tt ρ' S fun b S1 => match b with
      | true => te ρ' S1 R
      | false => N S1)
    (done : ∀ acc S, I vs.length acc S → Q acc S) {acc : List MV} {S : Sto} (h0 : I 0 acc S) : lcL k pt tt te ρ Q vs acc S := by
  suffices h : ∀ (n i : Nat) (acc : List MV) (S : Sto), n = vs.length - i → i ≤ vs.length → I i acc S → lcL k pt tt te ρ Q (vs.drop i) acc S from by
    simpa using h _ 0 acc S rfl (Nat.zero_le _) h0
  intro n
  induction n with
  | zero =>
    intro i acc S hn hi h
    have e : i = vs.length := by omega
    subst e
    rw [List.drop_length]
    unfold lcL
    exact ⟨hk _ _ _ h, done _ _ h⟩
  | succ n ih =>
    intro i acc S hn' hi h
    have hli : i < vs.length := by omega
    rw [List.drop_eq_getElem_cons hli]
    unfold lcL
    refine ⟨hk _ _ _ h, step i _ acc S (by simp [hli]) h (fun y S2 => acc.length < sizeLine ∧ lcL k pt tt te ρ Q (vs.drop (i + 1)) (acc ++ [y]) S2) (fun S1 => lcL k pt tt te ρ Q (vs.drop (i + 1)) acc S1) (fun y S' h' => ⟨?_, ih (i + 1) _ S' (by omega) (by omega) h'⟩) (fun S' h' => ih (i + 1) acc S' (by omega) (by omega) h')⟩
    have := hl _ _ _ h
    omega
theorem rng_get {lo : Int} {n i : Nat} {v : MV} (h : (rngM lo n)[i]? = some v) : i < n ∧ v = .int (lo + (i : Int)) := by
  have hi : i < n := by
    have := (List.getElem?_eq_some_iff.mp h).1
    simpa [rngM] using this
  refine ⟨hi, ?_⟩
  have : (rngM lo n)[i]? = some (.int (lo + (i : Int))) := by simp [rngM, hi]
  rw [this] at h
  exact (Option.some.inj h).symm
theorem rng_len {lo : Int} {n : Nat} : (rngM lo n).length = n := by simp [rngM]

def kIsL (o : Option (List MV)) : Prop := match o with
  | some _ => True
  | none => False
theorem isL_r {S a} : isL S (.ref a) = kIsL (lookL S a) := by
  unfold isL kIsL
  cases h : lookL S a <;> simp [h]
theorem kIsL_some {l} : kIsL (some l) = True := rfl
def kIx (o : Option (List MV)) (i : Int) (R : MK) (S : Sto) : Prop := match o with
  | some l => kO (atI l i) R S
  | none => False
theorem ix_r {a i S R} : ixV (.ref a) (.int i) S R = kIx (lookL S a) i R S := by
  show (match lookL S a with | some l => (match atI l i with | some v => R v S | none => False) | none => False) = _
  unfold kIx kO
  cases lookL S a <;> rfl
theorem kIx_some {l i R S} : kIx (some l) i R S = kO (atI l i) R S := rfl
def kLen (o : Option (List MV)) (R : MK) (S : Sto) : Prop := match o with
  | some l => R (.int l.length) S
  | none => False
theorem len_r {a S R} : lenV [.ref a] S R = kLen (lookL S a) R S := rfl
theorem kLen_some {l R S} : kLen (some l) R S = R (.int l.length) S := rfl
def kList (o : Option (List MV)) (R : MK) (S : Sto) : Prop := match o with
  | some l => newL l S R
  | none => False
theorem list_r {a S R} : listV [.ref a] S R = kList (lookL S a) R S := rfl
theorem kList_some {l R S} : kList (some l) R S = newL l S R := rfl
def kTuple (o : Option (List MV)) (R : MK) (S : Sto) : Prop := match o with
  | some l => R (.tup l) S
  | none => False
theorem tuple_r {a S R} : tupleV [.ref a] S R = kTuple (lookL S a) R S := rfl
theorem kTuple_some {l R S} : kTuple (some l) R S = R (.tup l) S := rfl
def kPut (o : Option MO) (a : Addr) (i : Int) (v : MV) (S : Sto) (k : Sto → Prop) : Prop := match o with
  | some (.lst l) => (match ixN l.length i with
    | some j => k (supd S a (.lst (l.set j v)))
    | none => False)
  | _ => False
def kPutO (o : Option Nat) (a : Addr) (l : List MV) (v : MV) (S : Sto) (k : Sto → Prop) : Prop := match o with
  | some j => k (supd S a (.lst (l.set j v)))
  | none => False
theorem put_r {a i v S k} : subPut (.ref a) (.int i) v S k = kPut (S a) a i v S k := by
  unfold subPut kPut
  dsimp only
  cases S a with
  | none => rfl
  | some o => cases o <;> rfl
theorem kPut_l {l a i v S k} : kPut (some (.lst l)) a i v S k = kPutO (ixN l.length i) a l v S k := rfl
theorem kPutO_some {j a l v S k} : kPutO (some j) a l v S k = k (supd S a (.lst (l.set j v))) := rfl
def kApp (o : Option MO) (a : Addr) (v : MV) (S : Sto) (R : MK) : Prop := match o with
  | some (.lst l) => l.length < sizeLine ∧ R .non (supd S a (.lst (l ++ [v])))
  | _ => False
theorem append_r {a v S R} : appendV (.ref a) [v] S R = kApp (S a) a v S R := by
  unfold appendV kApp
  rfl
theorem kApp_l {l a v S R} (h : l.length < 1000000) : kApp (some (.lst l)) a v S R = R .non (supd S a (.lst (l ++ [v]))) := by
  have : l.length < sizeLine := Nat.lt_of_lt_of_le h (by decide)
  show (_ ∧ _) = _
  exact propext ⟨fun q => q.2, fun q => ⟨this, q⟩⟩
def kPop0 (o : Option MO) (a : Addr) (S : Sto) (R : MK) : Prop := match o with
  | some (.lst (v :: l)) => R v (supd S a (.lst l))
  | _ => False
theorem pop0_r {a S R} : popV (.ref a) [.int 0] S R = kPop0 (S a) a S R := by
  unfold popV kPop0
  rfl
theorem kPop0_l {v l a S R} : kPop0 (some (.lst (v :: l))) a S R = R v (supd S a (.lst l)) := rfl
def kIterO (o : Option (List MV)) (a : Addr) (f : List MV → List MV) (R : Items → Sto → Prop) (S : Sto) : Prop := match o with
  | some l => R ⟨f l, [(a, l)]⟩ S
  | none => False
theorem kIter_r {R a S} : kIter R (.ref a) S = kIterO (lookL S a) a id R S := rfl
theorem kRev_r {R a S} : kRev R (.ref a) S = kIterO (lookL S a) a List.reverse R S := rfl
theorem kIterO_some {l a f R S} : kIterO (some l) a f R S = R ⟨f l, [(a, l)]⟩ S := rfl
theorem id_ap {l : List MV} : id l = l := rfl
def kDatL (o : Option (List MV)) : Option PyData := match o with
  | some l => if fits l 59 then some (.list (pds l)) else none
  | none => none
theorem dat_r {S a} : dat S (.ref a) = kDatL (lookL S a) := by
  show datL S a = _
  unfold datL kDatL
  cases lookL S a <;> rfl
theorem kDatL_some {l} (h : fits l 59 = true) : kDatL (some l) = some (.list (pds l)) := by
  show (if _ then _ else _) = _
  rw [if_pos h]
def kBindO (o : Option (List MV)) (ps : List Pat) (S : Sto) (ρ : Mv.Env) (k : Mv.Env → Prop) : Prop := match o with
  | some l => Mv.bindL ps l S ρ k
  | none => False
theorem bind_tpr {ps a ρ k S} : bindP (.tp ps) (.ref a) S ρ k = kBindO (lookL S a) ps S ρ k := by
  conv => lhs; unfold bindP
  rfl
theorem kBindO_some {l ps S ρ k} : kBindO (some l) ps S ρ k = Mv.bindL ps l S ρ k := rfl
theorem eqvL_self {l : List MV} (h : fits l 59 = true) : PyData.eqv (.list (pds l)) (.list (pds l)) = true := PySem.SeqAt.eqv_refl _ (by
  simp only [PyData.canLay0]
  exact (fits_lay l 59 h).1)
theorem eqvT_self {l : List MV} (h : fits l 59 = true) : PyData.eqv (.tuple (pds l)) (.tuple (pds l)) = true := PySem.SeqAt.eqv_refl _ (by
  simp only [PyData.canLay0]
  exact (fits_lay l 59 h).1)
theorem fits_ints : ∀ (l : List Int) (n : Nat), fits (l.map MV.int) n = true
  | [], n => by unfold fits; rfl
  | a :: l, n => by
    rw [List.map_cons]
    unfold fits
    rw [fits_ints l n]
    simp [fit]

def kDisp (ks : List String) (R : MK) : KA := fun vs S1 => newD (mergeD [] (ks.zip vs)) S1 R
theorem disp_ap {ks ms ρ S R} : mDisp ks ms ρ S R = ms ρ S (kDisp ks R) := rfl
theorem any_ne {l : List (String × MV)} {k : String} (h : k ∉ l.map (·.1)) : (l.any fun kv => kv.1 == k) = false := by
  rw [List.any_eq_false]
  intro x hx e
  exact h (List.mem_map.mpr ⟨x, hx, eq_of_beq e⟩)
theorem merge_dis : ∀ (l acc : List (String × MV)), ((acc ++ l).map (·.1)).Nodup → mergeD acc l = acc ++ l
  | [], acc, _ => by simp [mergeD]
  | (k, v) :: l, acc, h => by
    have e : putD acc k v = acc ++ [(k, v)] := by
      unfold putD
      rw [any_ne, if_neg (by simp)]
      intro hk
      rw [List.map_append, List.nodup_append] at h
      exact h.2.2 k hk k (by simp) rfl
    have : mergeD acc ((k, v) :: l) = mergeD (acc ++ [(k, v)]) l := by
      unfold mergeD
      rw [List.foldl_cons, e]
    rw [this, merge_dis l (acc ++ [(k, v)]) (by simpa using h), List.append_assoc]
    rfl
theorem kDisp_ap {ks R vs S} (h : ks.Nodup) (hl : ks.length = vs.length) : kDisp ks R vs S = newD (ks.zip vs) S R := by
  unfold kDisp
  rw [merge_dis _ [] (by rw [List.nil_append, List.map_fst_zip (by omega)]; exact h)]
  rfl
theorem dictN_ap {ρ S R} : mDictN ρ S R = newD [] S R := rfl
theorem zip_nil {α β : Type} {l : List β} : ([] : List α).zip l = [] := rfl
theorem zip_cons {α β : Type} {a : α} {b : β} {l : List α} {k : List β} : (a :: l).zip (b :: k) = (a, b) :: l.zip k := rfl
def kDg (o : Option MO) (s : String) (R : MK) (S : Sto) : Prop := match o with
  | some (.dct kvs) => kO (kvs.lookup s) R S
  | _ => False
theorem dget_ap {a s S R} : dgetV (.ref a) (.str s) S R = kDg (S a) s R S := by
  unfold dgetV kDg kO
  try dsimp only
  all_goals
    cases S a with
    | none => rfl
    | some o => cases o <;> rfl
theorem kDg_d {kvs s R S} : kDg (some (.dct kvs)) s R S = kO (kvs.lookup s) R S := rfl
theorem look_if {s k : String} {v : MV} {l : List (String × MV)} : ((k, v) :: l).lookup s = if s = k then some v else l.lookup s := by
  by_cases h : s = k
  · subst h; simp
  · rw [List.lookup_cons, if_neg h]
    have : (s == k) = false := by simpa using h
    rw [this]
theorem is_bb {a b S R} : isV (.bl a) (.bl b) S R = R (.bl (decide (a = b))) S := rfl
theorem is_nn {S R} : isV .non .non S R = R (.bl true) S := rfl
theorem is_in {i S R} : isV (.int i) .non S R = R (.bl false) S := rfl
theorem is_sn {i S R} : isV (.str i) .non S R = R (.bl false) S := rfl
theorem is_tn {i S R} : isV (.tup i) .non S R = R (.bl false) S := rfl
theorem is_rn {i S R} : isV (.ref i) .non S R = R (.bl false) S := rfl
theorem isnt_bb {a b S R} : isnotV (.bl a) (.bl b) S R = R (.bl (!decide (a = b))) S := rfl
theorem isnt_nn {S R} : isnotV .non .non S R = R (.bl false) S := rfl
theorem isnt_in {i S R} : isnotV (.int i) .non S R = R (.bl true) S := rfl
theorem isnt_sn {i S R} : isnotV (.str i) .non S R = R (.bl true) S := rfl
theorem isnt_tn {i S R} : isnotV (.tup i) .non S R = R (.bl true) S := rfl
theorem isnt_rn {i S R} : isnotV (.ref i) .non S R = R (.bl true) S := rfl
def kFld (T : String → String → Bool) (f : String) (R : MK) : MK := fun x S1 => match x with
  | .ref a => (match S1 a with
    | some (.ins c fs) => T c f = true ∧ (match fs.lookup f with
      | some v => R v S1
      | none => False)
    | _ => False)
  | _ => False
def kFldO (o : Option MO) (T : String → String → Bool) (f : String) (R : MK) (S : Sto) : Prop := match o with
  | some (.ins c fs) => T c f = true ∧ kO (fs.lookup f) R S
  | _ => False
theorem fld_ap {T m f ρ S R} : mFld T m f ρ S R = m ρ S (kFld T f R) := rfl
theorem kFld_ap {T f R a S} : kFld T f R (.ref a) S = kFldO (S a) T f R S := by
  unfold kFld kFldO kO
  try dsimp only
  all_goals
    cases S a with
    | none => rfl
    | some o => cases o <;> rfl
theorem kFldO_i {c fs T f R S} : kFldO (some (.ins c fs)) T f R S = (T c f = true ∧ kO (fs.lookup f) R S) := rfl
def kMeth (c m : String) (W : MW) (ms : MA) (ρ : Mv.Env) (R : MK) : MK := fun x S1 => match x with
  | .ref a => (match S1 a with
    | some (.ins c' fs) => c' = c ∧ fs.lookup m = none ∧ ms ρ S1 fun vs S2 => W (.ref a :: vs) S2 R
    | _ => False)
  | _ => False
def kMethA (W : MW) (a : Addr) (R : MK) : KA := fun vs S2 => W (.ref a :: vs) S2 R
def kMethO (o : Option MO) (c m : String) (W : MW) (a : Addr) (ms : MA) (ρ : Mv.Env) (R : MK) (S : Sto) : Prop := match o with
  | some (.ins c' fs) => c' = c ∧ fs.lookup m = none ∧ ms ρ S (kMethA W a R)
  | _ => False
theorem meth_ap {c m W mo ms ρ S R} : mMeth c m W mo ms ρ S R = mo ρ S (kMeth c m W ms ρ R) := rfl
theorem kMeth_ap {c m W ms ρ R a S} : kMeth c m W ms ρ R (.ref a) S = kMethO (S a) c m W a ms ρ R S := rfl
theorem kMethO_i {c fs m W a ms ρ R S} : kMethO (some (.ins c fs)) c m W a ms ρ R S = (fs.lookup m = none ∧ ms ρ S (kMethA W a R)) := by
  show (_ ∧ _) = _
  exact propext ⟨fun q => q.2, fun q => ⟨rfl, q⟩⟩
theorem kMethA_ap {W a R vs S} : kMethA W a R vs S = W (.ref a :: vs) S R := rfl
def kMk (c : String) (W : MW) (R : MK) : KA := fun vs S1 => ∀ p, S1 p = none → W (.ref p :: vs) (supd S1 p (.ins c [])) fun v S2 => v = .non ∧ R (.ref p) S2
theorem make_ap {c W ms ρ S R} : mMake c W ms ρ S R = ms ρ S (kMk c W R) := rfl
/-! slices -/
def kPart (R : Option Int → Sto → Prop) : MK := fun x S1 => match x with
  | .int i => R (some i) S1
  | _ => False
def kSl1 (lo hi : mPart) (ρ : Mv.Env) (R : MK) : MK := fun x S1 => lo ρ S1 fun l S2 => hi ρ S2 fun u S3 => slV x l u S3 R
def kSl2 (x : MV) (hi : mPart) (ρ : Mv.Env) (R : MK) : Option Int → Sto → Prop := fun l S2 => hi ρ S2 fun u S3 => slV x l u S3 R
def kSl3 (x : MV) (l : Option Int) (R : MK) : Option Int → Sto → Prop := fun u S3 => slV x l u S3 R
theorem sl_ap {m lo hi ρ S R} : mSl m lo hi ρ S R = m ρ S (kSl1 lo hi ρ R) := rfl
theorem kSl1_ap {lo hi ρ R x S} : kSl1 lo hi ρ R x S = lo ρ S (kSl2 x hi ρ R) := rfl
theorem kSl2_ap {x hi ρ R l S} : kSl2 x hi ρ R l S = hi ρ S (kSl3 x l R) := rfl
theorem kSl3_ap {x l R u S} : kSl3 x l R u S = slV x l u S R := rfl
theorem pNo_ap {ρ S R} : pNo ρ S R = R none S := rfl
theorem pYes_ap {m ρ S R} : pYes m ρ S R = m ρ S (kPart R) := rfl
theorem kPart_ap {i R S} : kPart R (.int i) S = R (some i) S := rfl
def kRvL (R : MK) : MK := fun x S1 => match x with
  | .ref a => (match lookL S1 a with
    | some l => newL l.reverse S1 R
    | none => False)
  | .frz l => newL l.reverse S1 R
  | _ => False
def kRvO (o : Option (List MV)) (R : MK) (S : Sto) : Prop := match o with
  | some l => newL l.reverse S R
  | none => False
theorem revL_ap {m ρ S R} : mRev m ρ S R = m ρ S (kRvL R) := rfl
theorem kRvL_ap {R a S} : kRvL R (.ref a) S = kRvO (lookL S a) R S := rfl
theorem kRvO_some {l R S} : kRvO (some l) R S = newL l.reverse S R := rfl
theorem kRvL_f {R l S} : kRvL R (.frz l) S = newL l.reverse S R := rfl

/-! by value -/
theorem dat_frz {S l} (h : fits l 59 = true) : dat S (.frz l) = some (.list (pds l)) := by
  show (if _ then _ else _) = _
  rw [if_pos h]
theorem ix_f {l i S R} : ixV (.frz l) (.int i) S R = kO (atI l i) R S := by
  show (match atI l i with | some v => R v S | none => False) = _
  unfold kO; cases atI l i <;> rfl
theorem len_f {l S R} : lenV [.frz l] S R = R (.int l.length) S := rfl
theorem tuple_f {l S R} : tupleV [.frz l] S R = R (.tup l) S := rfl
theorem bind_tpf {ps l S ρ k} : bindP (.tp ps) (.frz l) S ρ k = Mv.bindL ps l S ρ k := by unfold bindP; rfl
def kLstV (R : MK) : KA := fun l S1 => l.length ≤ sizeLine ∧ R (.frz l) S1
theorem lstV_ap {ms ρ S R} : mLstV ms ρ S R = ms ρ S (kLstV R) := rfl
theorem kLstV_ap {R l S} (h : l.length ≤ 100) : kLstV R l S = R (.frz l) S := by
  have : l.length ≤ sizeLine := Nat.le_trans h (by decide)
  unfold kLstV
  exact propext ⟨fun q => q.2, fun q => ⟨this, q⟩⟩
theorem listVV_t {l S R} : listVV [.tup l] S R = R (.frz l) S := rfl
theorem listVV_f {l S R} : listVV [.frz l] S R = R (.frz l) S := rfl
def kListV (o : Option (List MV)) (R : MK) (S : Sto) : Prop := match o with
  | some l => R (.frz l) S
  | none => False
theorem listVV_r {a S R} : listVV [.ref a] S R = kListV (lookL S a) R S := rfl
theorem kListV_some {l R S} : kListV (some l) R S = R (.frz l) S := rfl
theorem addVV_ii {i j S R} : addVV (.int i) (.int j) S R = R (.int (i + j)) S := rfl
theorem addVV_tt {l k S R} (h : l.length + k.length ≤ 1000000) : addVV (.tup l) (.tup k) S R = R (.tup (l ++ k)) S := by
  have : l.length + k.length ≤ sizeLine := Nat.le_trans h (by decide)
  show (_ ∧ _) = _
  exact propext ⟨fun q => q.2, fun q => ⟨this, q⟩⟩
theorem addVV_ff {l k S R} (h : l.length + k.length ≤ 1000000) : addVV (.frz l) (.frz k) S R = R (.frz (l ++ k)) S := by
  have : l.length + k.length ≤ sizeLine := Nat.le_trans h (by decide)
  show (_ ∧ _) = _
  exact propext ⟨fun q => q.2, fun q => ⟨this, q⟩⟩
def kSlV1 (lo hi : mPart) (ρ : Mv.Env) (R : MK) : MK := fun x S1 => lo ρ S1 fun l S2 => hi ρ S2 fun u S3 => slVV x l u S3 R
def kSlV2 (x : MV) (hi : mPart) (ρ : Mv.Env) (R : MK) : Option Int → Sto → Prop := fun l S2 => hi ρ S2 fun u S3 => slVV x l u S3 R
def kSlV3 (x : MV) (l : Option Int) (R : MK) : Option Int → Sto → Prop := fun u S3 => slVV x l u S3 R
theorem slV_ap {m lo hi ρ S R} : mSlV m lo hi ρ S R = m ρ S (kSlV1 lo hi ρ R) := rfl
theorem kSlV1_ap {lo hi ρ R x S} : kSlV1 lo hi ρ R x S = lo ρ S (kSlV2 x hi ρ R) := rfl
theorem kSlV2_ap {x hi ρ R l S} : kSlV2 x hi ρ R l S = hi ρ S (kSlV3 x l R) := rfl
theorem kSlV3_ap {x l R u S} : kSlV3 x l R u S = slVV x l u S R := rfl
theorem slVV_t {l lo hi S R} : slVV (.tup l) lo hi S R = R (.tup (cutM l lo hi)) S := rfl
theorem slVV_f {l lo hi S R} : slVV (.frz l) lo hi S R = R (.frz (cutM l lo hi)) S := rfl
def kCut (o : Option (List MV)) (lo hi : Option Int) (R : MK) (S : Sto) : Prop := match o with
  | some l => R (.frz (cutM l lo hi)) S
  | none => False
theorem slVV_r {a lo hi S R} : slVV (.ref a) lo hi S R = kCut (lookL S a) lo hi R S := rfl
theorem kCut_some {l lo hi R S} : kCut (some l) lo hi R S = R (.frz (cutM l lo hi)) S := rfl
def kRvV (R : MK) : MK := fun x S1 => revVV x S1 R
theorem revV_ap {m ρ S R} : mRevV m ρ S R = m ρ S (kRvV R) := rfl
theorem kRvV_ap {x R S} : kRvV R x S = revVV x S R := rfl
theorem revVV_f {l S R} : revVV (.frz l) S R = R (.frz l.reverse) S := rfl
def kRvVO (o : Option (List MV)) (R : MK) (S : Sto) : Prop := match o with
  | some l => R (.frz l.reverse) S
  | none => False
theorem revVV_r {a S R} : revVV (.ref a) S R = kRvVO (lookL S a) R S := rfl
theorem kRvVO_some {l R S} : kRvVO (some l) R S = R (.frz l.reverse) S := rfl
def kVal (R : MK) : KA := fun l S => R (.frz l) S
theorem kVal_ap {R l S} : kVal R l S = R (.frz l) S := rfl
def kLcV (pt : Pat) (tt : MT) (te : ME) (ρ : Mv.Env) (R : MK) : Items → Sto → Prop := fun I S => lcL I.keep pt tt te ρ (kVal R) I.vs [] S
theorem lcV_ap {mi pt tt te vs ρ S R} : mLcV mi pt tt te vs ρ S R = mi ρ S (kLcV pt tt te (wipeM ρ vs) R) := rfl
theorem kLcV_ap {pt tt te ρ R vs k S} : kLcV pt tt te ρ R ⟨vs, k⟩ S = lcL k pt tt te ρ (kVal R) vs [] S := rfl
theorem fz_ap {m ρ S R} : mFz m ρ S R = m ρ S (fzK R) := rfl
def kFzO (o : Option MO) (a : Addr) (R : MK) (S : Sto) : Prop := match o with
  | some (.lst l) => R (.frz l) (sdel S a)
  | _ => False
theorem fzK_r {a R S} : fzK R (.ref a) S = kFzO (S a) a R S := by
  unfold fzK kFzO
  rfl
theorem kFzO_l {l a R S} : kFzO (some (.lst l)) a R S = R (.frz l) (sdel S a) := rfl
theorem fzK_t {l R S} : fzK R (.tup l) S = R (.tup l) S := rfl
theorem fzK_i {l R S} : fzK R (.int l) S = R (.int l) S := rfl
theorem fzK_n {R S} : fzK R .non S = R .non S := rfl
theorem fzK_f {l R S} : fzK R (.frz l) S = R (.frz l) S := rfl
/-! dropping -/
theorem drop_refl {R : MK} {v : MV} {S : Sto} (h : R v S) : dropK R v S := ⟨S, fun _ _ e => e, h⟩
theorem drop_at {R : MK} {v : MV} {S S2 : Sto} (l : ∀ a o, S2 a = some o → S a = some o) (h : R v S2) : dropK R v S := ⟨S2, l, h⟩
theorem le_supd {S : Sto} {p : Addr} {o : MO} (h : S p = none) : ∀ a u, S a = some u → supd S p o a = some u := fun a u e => by
  rw [sd_ne (fun z => by subst z; rw [h] at e; cases e)]; exact e
theorem le_trans {S S1 S2 : Sto} (h : ∀ a (o : MO), S a = some o → S1 a = some o) (h2 : ∀ a o, S1 a = some o → S2 a = some o) : ∀ a o, S a = some o → S2 a = some o := fun a o e => h2 a o (h a o e)
/-! the walks of enumerate and zip, the look of numbers -/
def kEnum (R : Items → Sto → Prop) : KA := fun vs S1 => match vs with
  | [x] => (match seqI S1 x with
    | some (l, kp) => R ⟨enumM 0 l, kp⟩ S1
    | none => False)
  | _ => False
def kEnumO (o : Option (List MV × List (Addr × List MV))) (R : Items → Sto → Prop) (S : Sto) : Prop := match o with
  | some (l, kp) => R ⟨enumM 0 l, kp⟩ S
  | none => False
theorem enum_ap {ms ρ S R} : mEnum ms ρ S R = ms ρ S (kEnum R) := rfl
theorem kEnum_ap {R x S} : kEnum R [x] S = kEnumO (seqI S x) R S := rfl
theorem kEnumO_some {l kp R S} : kEnumO (some (l, kp)) R S = R ⟨enumM 0 l, kp⟩ S := rfl
theorem seqI_t {S l} : seqI S (.tup l) = some (l, []) := rfl
theorem seqI_f {S l} : seqI S (.frz l) = some (l, []) := rfl
def kSeqI (a : Addr) (o : Option (List MV)) : Option (List MV × List (Addr × List MV)) := o.map fun l => (l, [(a, l)])
theorem seqI_r {S a} : seqI S (.ref a) = kSeqI a (lookL S a) := rfl
theorem kSeqI_some {a l} : kSeqI a (some l) = some (l, [(a, l)]) := rfl
def kZip (R : Items → Sto → Prop) : KA := fun vs S1 => match vs with
  | [x, y] => (match seqI S1 x, seqI S1 y with
    | some (l, k1), some (m, k2) => R ⟨zipM l m, k1 ++ k2⟩ S1
    | _, _ => False)
  | _ => False
def kZipO (o u : Option (List MV × List (Addr × List MV))) (R : Items → Sto → Prop) (S : Sto) : Prop := match o, u with
  | some (l, k1), some (m, k2) => R ⟨zipM l m, k1 ++ k2⟩ S
  | _, _ => False
theorem zip_ap {ms ρ S R} : mZip ms ρ S R = ms ρ S (kZip R) := rfl
theorem kZip_ap {R x y S} : kZip R [x, y] S = kZipO (seqI S x) (seqI S y) R S := rfl
theorem kZipO_some {l k1 m k2 R S} : kZipO (some (l, k1)) (some (m, k2)) R S = R ⟨zipM l m, k1 ++ k2⟩ S := rfl
def kAllN (i1 i2 : Nat) (ρ : Mv.Env) (R : MK) : MK := fun x S1 => match seqI S1 x, ρ[i1]?, ρ[i2]? with
  | some (l, _), some (some (.int a)), some (some (.int b)) => (∀ v ∈ l, An.NumV v) ∧ R (.bl (l.all fun v => An.numB v a b)) S1
  | _, _, _ => False
def kAllNO (o : Option (List MV × List (Addr × List MV))) (o1 o2 : Option (Option MV)) (R : MK) (S : Sto) : Prop := match o, o1, o2 with
  | some (l, _), some (some (.int a)), some (some (.int b)) => (∀ v ∈ l, An.NumV v) ∧ R (.bl (l.all fun v => An.numB v a b)) S
  | _, _, _ => False
theorem allN_ap {i1 i2 m ρ S R} : mAllN i1 i2 m ρ S R = m ρ S (kAllN i1 i2 ρ R) := rfl
theorem kAllN_ap {i1 i2 ρ R x S} : kAllN i1 i2 ρ R x S = kAllNO (seqI S x) ρ[i1]? ρ[i2]? R S := rfl
theorem kAllNO_some {l kp a b R S} : kAllNO (some (l, kp)) (some (some (.int a))) (some (some (.int b))) R S = ((∀ v ∈ l, An.NumV v) ∧ R (.bl (l.all fun v => An.numB v a b)) S) := rfl
/-! attributes are set, things are made -/
def kFldS1 (T : String → String → Bool) (mo : ME) (f : String) (ρ : Mv.Env) (k : Mv.Env → Sto → Prop) : MK := fun v S1 => mo ρ S1 fun o S2 => fldPut T f o v S2 fun S3 => k ρ S3
def kFldS2 (T : String → String → Bool) (f : String) (v : MV) (ρ : Mv.Env) (k : Mv.Env → Sto → Prop) : MK := fun o S2 => fldPut T f o v S2 fun S3 => k ρ S3
theorem fldS_ap {T mo f mv D ρ S} : msFld T mo f mv D ρ S = mv ρ S (kFldS1 T mo f ρ D.nx) := rfl
theorem kFldS1_ap {T mo f ρ k v S} : kFldS1 T mo f ρ k v S = mo ρ S (kFldS2 T f v ρ k) := rfl
theorem kFldS2_ap {T f v ρ k o S} : kFldS2 T f v ρ k o S = fldPut T f o v S (k ρ) := rfl
def kFldO2 (u : Option MO) (T : String → String → Bool) (f : String) (a : Addr) (v : MV) (S : Sto) (k : Sto → Prop) : Prop := match u with
  | some (.ins c fs) => T c f = true ∧ fs.length < 1000 ∧ k (supd S a (.ins c (putFM f v fs)))
  | _ => False
theorem fldPut_r {T f a v S k} : fldPut T f (.ref a) v S k = kFldO2 (S a) T f a v S k := by
  unfold fldPut kFldO2
  rfl
theorem kFldO2_i {c fs T f a v S k} (h : fs.length < 1000) : kFldO2 (some (.ins c fs)) T f a v S k = (T c f = true ∧ k (supd S a (.ins c (putFM f v fs)))) := by
  show (_ ∧ _ ∧ _) = _
  exact propext ⟨fun q => ⟨q.1, q.2.2⟩, fun q => ⟨q.1, h, q.2⟩⟩
def kMkK (c : String) (n : Nat) (W : MW) (gM : MV → List MV → List MV) (R : MK) : KA := fun zs S1 => zs.length = n ∧ ∀ p, S1 p = none → W (gM (.ref p) zs) (supd S1 p (.ins c [])) fun v S2 => v = .non ∧ R (.ref p) S2
theorem makeK_ap {c n W gM ms ρ S R} : mMakeK c n W gM ms ρ S R = ms ρ S (kMkK c n W gM R) := rfl
def kNonR (p : Addr) (R : MK) : MK := fun v S2 => v = .non ∧ R (.ref p) S2
theorem kNonR_ap {p R S} : kNonR p R .non S = R (.ref p) S := by
  show (_ ∧ _) = _
  exact propext ⟨fun q => q.2, fun q => ⟨rfl, q⟩⟩
theorem kMkK_ap {c n W gM R zs S} (h : zs.length = n) : kMkK c n W gM R zs S = ∀ p, S p = none → W (gM (.ref p) zs) (supd S p (.ins c [])) (kNonR p R) := by
  unfold kMkK
  exact propext ⟨fun q => q.2, fun q => ⟨h, q⟩⟩
theorem kMk_ap {c W R vs S} : kMk c W R vs S = ∀ p, S p = none → W (.ref p :: vs) (supd S p (.ins c [])) (kNonR p R) := rfl
theorem put_0 {f v} : putFM f v [] = [(f, v)] := rfl
theorem put_S {f g x v r} : putFM f v ((g, x) :: r) = if g = f then (g, v) :: r else (g, x) :: putFM f v r := rfl
/-! in -/
theorem in_t {x l S R} (h : (flatM x && l.all flatM) = true) : inM x (.tup l) S R = R (.bl (inB x l)) S := by
  show (_ ∧ _) = _
  exact propext ⟨fun q => q.2, fun q => ⟨h, q⟩⟩
theorem in_f {x l S R} (h : (fit x 60 && fits l 59) = true) : inM x (.frz l) S R = R (.bl (inB x l)) S := by
  show (_ ∧ _) = _
  exact propext ⟨fun q => q.2, fun q => ⟨h, q⟩⟩
theorem notin_t {x l S R} (h : (flatM x && l.all flatM) = true) : notInM x (.tup l) S R = R (.bl (!inB x l)) S := by
  show (_ ∧ _) = _
  exact propext ⟨fun q => q.2, fun q => ⟨h, q⟩⟩
theorem notin_f {x l S R} (h : (fit x 60 && fits l 59) = true) : notInM x (.frz l) S R = R (.bl (!inB x l)) S := by
  show (_ ∧ _) = _
  exact propext ⟨fun q => q.2, fun q => ⟨h, q⟩⟩
/-! loops: the slots J are the loop's own -/
def sets (ρ : Mv.Env) : List Nat → List (Option MV) → Mv.Env
  | j :: J, x :: xs => sets (ρ.set j x) J xs
  | _, _ => ρ
theorem sets_nil {ρ : Mv.Env} {xs : List (Option MV)} : sets ρ [] xs = ρ := by cases xs <;> rfl
theorem sets_cons {ρ : Mv.Env} {j J x xs} : sets ρ (j :: J) (x :: xs) = sets (ρ.set j x) J xs := rfl
theorem for_J {k : List (Addr × List MV)} {pt : Pat} {body : MS} {D : MD} {ρ0 : Mv.Env} (J : List Nat) (I : Nat → List (Option MV) → Sto → Prop) {vs : List MV} (hk : ∀ i xs S, I i xs S → keepOk k S)
    (step : ∀ i v xs S (D' : MD), vs[i]? = some v → I i xs S → (∀ xs' S', I (i + 1) xs' S' → D'.nx (sets ρ0 J xs') S') → (∀ xs' S', I (i + 1) xs' S' → D'.ct (sets ρ0 J xs') S') → D'.rt = D.rt → D'.bk = D.nx → bindP pt v S (sets ρ0 J xs) fun ρ' => body D' ρ' S)
    (done : ∀ xs S, I vs.length xs S → D.nx (sets ρ0 J xs) S) {S : Sto} (xs : List (Option MV)) (e0 : sets ρ0 J xs = ρ0) (h0 : I 0 xs S) : forL k pt body D vs ρ0 S := by
  have key : forL k pt body D vs (sets ρ0 J xs) S := by
    refine for_rule (I := fun i ρ S => ∃ xs, ρ = sets ρ0 J xs ∧ I i xs S) (fun i ρ S ⟨xs, _, h⟩ => hk i xs S h) ?_ ?_ ⟨xs, rfl, h0⟩
    · rintro i v ρ S D' hv ⟨xs, rfl, h⟩ h1 h2 h3 h4
      exact step i v xs S D' hv h (fun xs' S' h' => h1 _ _ ⟨xs', rfl, h'⟩) (fun xs' S' h' => h2 _ _ ⟨xs', rfl, h'⟩) h3 h4
    · rintro ρ S ⟨xs, rfl, h⟩
      exact done xs S h
  rw [e0] at key
  exact key
/-- a comprehension of what is told without a change -/
theorem lc_map {α : Type} {pt : Pat} {te : ME} {ρ : Mv.Env} {Q : List MV → Sto → Prop} {S : Sto} {k : List (Addr × List MV)} (l : List α) (e g : α → MV) (hk : keepOk k S) (hn : l.length < 1000000)
    (h : ∀ x ∈ l, ∀ R : MK, R (g x) S → bindP pt (e x) S ρ fun ρ' => te ρ' S R) (hQ : Q (l.map g) S) : lcL k pt mYes te ρ Q (l.map e) [] S := by
  have hs : (1000000 : Nat) ≤ sizeLine := by decide
  refine lc_rule (I := fun i acc S' => S' = S ∧ acc = (l.take i).map g) (fun i acc S' h => by rw [h.1]; exact hk) (by simp; omega) ?_ ?_ ?_ ⟨rfl, rfl⟩
  · rintro i acc S' ⟨rfl, rfl⟩
    simp
    omega
  · rintro i v acc S' hv ⟨rfl, rfl⟩ R N hR _
    rw [List.getElem?_map] at hv
    cases ei : l[i]? with
    | none => rw [ei] at hv; cases hv
    | some x =>
      rw [ei] at hv
      cases hv
      refine bindP_imp _ _ _ _ (fun ρ' h => ?_) (h x (List.mem_of_getElem? ei) R (hR _ _ ⟨rfl, ?_⟩))
      · exact h
      · rw [List.take_succ, ei]
        simp
  · rintro acc S' ⟨rfl, rfl⟩
    rw [List.length_map, List.take_length]
    exact hQ
/-- a comprehension with a test -/
theorem lc_filter {α : Type} {pt : Pat} {tt : MT} {te : ME} {ρ : Mv.Env} {Q : List MV → Sto → Prop} {S : Sto} {k : List (Addr × List MV)} (l : List α) (e g : α → MV) (p : α → Bool) (hk : keepOk k S) (hn : l.length < 1000000)
    (h : ∀ x ∈ l, ∀ (R : MK) (N : Sto → Prop), (p x = true → R (g x) S) → (p x = false → N S) → bindP pt (e x) S ρ fun ρ' => tt ρ' S fun b S1 => match b with
      | true => te ρ' S1 R
      | false => N S1) (hQ : Q ((l.filter p).map g) S) : lcL k pt tt te ρ Q (l.map e) [] S := by
  have hs : (1000000 : Nat) ≤ sizeLine := by decide
  refine lc_rule (I := fun i acc S' => S' = S ∧ acc = ((l.take i).filter p).map g) (fun i acc S' h => by rw [h.1]; exact hk) (by simp; omega) ?_ ?_ ?_ ⟨rfl, rfl⟩
  · rintro i acc S' ⟨rfl, rfl⟩
    have := List.length_filter_le p (l.take i)
    simp at this ⊢
    omega
  · rintro i v acc S' hv ⟨rfl, rfl⟩ R N hR hN
    rw [List.getElem?_map] at hv
    cases ei : l[i]? with
    | none => rw [ei] at hv; cases hv
    | some x =>
      rw [ei] at hv
      cases hv
      refine h x (List.mem_of_getElem? ei) R N (fun hp => hR _ _ ⟨rfl, ?_⟩) (fun hp => hN _ ⟨rfl, ?_⟩)
      · rw [List.take_succ, ei]
        simp [hp]
      · rw [List.take_succ, ei]
        simp [hp]
  · rintro acc S' ⟨rfl, rfl⟩
    rw [List.length_map, List.take_length]
    exact hQ

def kPutD (o : Option MO) (a : Addr) (s : String) (v : MV) (S : Sto) (k : Sto → Prop) : Prop := match o with
  | some (.dct kvs) => kvs.length < sizeLine ∧ k (supd S a (.dct (putD kvs s v)))
  | _ => False
theorem put_s {a s v S k} : subPut (.ref a) (.str s) v S k = kPutD (S a) a s v S k := by
  unfold subPut kPutD
  dsimp only
  cases S a with
  | none => rfl
  | some o => cases o <;> rfl
theorem kPutD_d {kvs a s v S k} (h : kvs.length < 1000000) : kPutD (some (.dct kvs)) a s v S k = k (supd S a (.dct (putD kvs s v))) := by
  have : kvs.length < sizeLine := Nat.lt_of_lt_of_le h (by decide)
  show (_ ∧ _) = _
  exact propext ⟨fun q => q.2, fun q => ⟨this, q⟩⟩
theorem at_lastA {l : List MV} {x : MV} : atI (l ++ [x]) (-1) = some x := by
  unfold atI ixN
  rw [List.length_append, if_neg (by omega), if_pos (by simp; omega)]
  have e : (-1 + ((l.length + [x].length : Nat) : Int)).toNat = l.length := by simp; omega
  simp only [Option.bind_some, e]
  simp
theorem rng_eq {n : Nat} : rngM 0 n = (List.range n).map fun k : Nat => MV.int (k : Int) := by simp [rngM]
/-- a join: what holds between two statements -/
theorem seq_join {a b : MS} {D : MD} {ρ : Mv.Env} {S : Sto} (P : Mv.Env → Sto → Prop) (h1 : ∀ nx : Mv.Env → Sto → Prop, (∀ ρ' S', P ρ' S' → nx ρ' S') → a ⟨nx, D.rt, D.bk, D.ct⟩ ρ S) (h2 : ∀ ρ' S', P ρ' S' → b D ρ' S') : msSeq a b D ρ S := h1 (b D) h2
theorem supd_comm {p r : Addr} (h : p ≠ r) {S : Sto} {o o' : MO} : supd (supd S r o) p o' = supd (supd S p o') r o := by
  funext b
  unfold supd
  by_cases h1 : b = p
  · subst h1
    simp [h]
  · simp [h1]
theorem inB_nil {x : MV} : inB x [] = false := rfl
theorem inB_cons {x y : MV} {l : List MV} : inB x (y :: l) = (PyData.eqv (pd y) (pd x) || inB x l) := rfl
theorem pd_str {s} : pd (.str s) = .str (so s) := by unfold pd; rfl
theorem pd_int {i} : pd (.int i) = .int i := by unfold pd; rfl
theorem pd_non : pd .non = .none := by unfold pd; rfl
theorem in_str2 {s x y S R} (h : PyData.strOk (so s) = true) (hx : PyData.strOk (so x) = true) (hy : PyData.strOk (so y) = true) : inM (.str s) (.tup [.str x, .str y]) S R = R (.bl (decide (x = s) || decide (y = s))) S := by
  rw [in_t (by simp [flatM, h, hx, hy]), inB_cons, inB_cons, inB_nil, pd_str, pd_str, pd_str, eqv_ss, eqv_ss, Bool.or_false]
theorem in_str3 {s x y z S R} (h : PyData.strOk (so s) = true) (hx : PyData.strOk (so x) = true) (hy : PyData.strOk (so y) = true) (hz : PyData.strOk (so z) = true) : inM (.str s) (.tup [.str x, .str y, .str z]) S R = R (.bl (decide (x = s) || (decide (y = s) || decide (z = s)))) S := by
  rw [in_t (by simp [flatM, h, hx, hy, hz]), inB_cons, inB_cons, inB_cons, inB_nil, pd_str, pd_str, pd_str, pd_str, eqv_ss, eqv_ss, eqv_ss, Bool.or_false]
theorem notin_str2 {s x y S R} (h : PyData.strOk (so s) = true) (hx : PyData.strOk (so x) = true) (hy : PyData.strOk (so y) = true) : notInM (.str s) (.tup [.str x, .str y]) S R = R (.bl (!(decide (x = s) || decide (y = s)))) S := by
  rw [notin_t (by simp [flatM, h, hx, hy]), inB_cons, inB_cons, inB_nil, pd_str, pd_str, pd_str, eqv_ss, eqv_ss, Bool.or_false]
theorem c_0 : ((0 : Nat) : Int) = 0 := rfl
theorem c_1 : ((1 : Nat) : Int) = 1 := rfl
theorem c_2 : ((2 : Nat) : Int) = 2 := rfl
theorem c_3 : ((3 : Nat) : Int) = 3 := rfl
theorem c_4 : ((4 : Nat) : Int) = 4 := rfl
theorem c_5 : ((5 : Nat) : Int) = 5 := rfl
theorem c_6 : ((6 : Nat) : Int) = 6 := rfl
theorem c_7 : ((7 : Nat) : Int) = 7 := rfl
theorem c_8 : ((8 : Nat) : Int) = 8 := rfl
theorem c_9 : ((9 : Nat) : Int) = 9 := rfl
theorem c_10 : ((10 : Nat) : Int) = 10 := rfl
/-! while -/
def kWh (body : MS) (D' D : MD) (ρ : Mv.Env) : KB := fun b S1 => match b with
  | true => body D' ρ S1
  | false => D.nx ρ S1
theorem kWh_t {body D' D ρ S} : kWh body D' D ρ true S = body D' ρ S := rfl
theorem kWh_f {body D' D ρ S} : kWh body D' D ρ false S = D.nx ρ S := rfl
theorem while_J {c : MT} {body : MS} {D : MD} {ρ0 : Mv.Env} (J : List Nat) (I : Nat → List (Option MV) → Sto → Prop)
    (step : ∀ k xs S (D' : MD), I k xs S → (∀ k' xs' S', k = k' + 1 → I k' xs' S' → D'.nx (sets ρ0 J xs') S') → (∀ k' xs' S', k = k' + 1 → I k' xs' S' → D'.ct (sets ρ0 J xs') S') → D'.rt = D.rt → D'.bk = D.nx → c (sets ρ0 J xs) S (kWh body D' D (sets ρ0 J xs)))
    {S : Sto} (k : Nat) (xs : List (Option MV)) (e0 : sets ρ0 J xs = ρ0) (h0 : I k xs S) : msWhile c body D ρ0 S := by
  have key : ∀ k xs S, I k xs S → whileN c body D (k + 1) (sets ρ0 J xs) S := by
    intro k
    induction k with
    | zero =>
      intro xs S h
      unfold whileN
      have q := step 0 xs S ⟨whileN c body D 0, D.rt, D.nx, whileN c body D 0⟩ h (fun k' xs' S' e _ => by omega) (fun k' xs' S' e _ => by omega) rfl rfl
      exact q
    | succ k ih =>
      intro xs S h
      unfold whileN
      have g : ∀ k' xs' S', k + 1 = k' + 1 → I k' xs' S' → whileN c body D (k + 1) (sets ρ0 J xs') S' := fun k' xs' S' e h' => by
        have : k' = k := by omega
        subst this
        exact ih xs' S' h'
      have q := step (k + 1) xs S ⟨whileN c body D (k + 1), D.rt, D.nx, whileN c body D (k + 1)⟩ h g g rfl rfl
      exact q
  have := key k xs S h0
  rw [e0] at this
  exact ⟨_, this⟩
theorem at_neg1 {x : MV} : atI [x] (-1) = some x := rfl
theorem at_neg2 {x y : MV} : atI [x, y] (-1) = some y := rfl
theorem at_neg3 {x y z : MV} : atI [x, y, z] (-1) = some z := rfl
/-! data alike -/
theorem dat_fit {S : Sto} {x : MV} (h : fit x 60 = true) : dat S x = some (pd x) := by
  cases x with
  | non => unfold pd; rfl
  | bl b => unfold pd; rfl
  | int i => unfold pd; rfl
  | str s =>
    unfold fit at h
    unfold pd
    exact dat_str h
  | tup l =>
    unfold fit at h
    unfold pd
    exact dat_tup h
  | frz l =>
    unfold fit at h
    unfold pd
    exact dat_frz h
  | ref a => unfold fit at h; cases h
theorem eqv_same {x : MV} (h : fit x 60 = true) : PyData.eqv (pd x) (pd x) = true := PySem.SeqAt.eqv_refl _ (fit_lay x 60 h).1
theorem ne_same {x : MV} {S : Sto} {R : MK} (h : fit x 60 = true) : neV' x x S R = R (.bl false) S := by
  rw [ne_ap, dat_fit h, kEq_some, eqv_same h]
  rfl
theorem eq_same {x : MV} {S : Sto} {R : MK} (h : fit x 60 = true) : eqV' x x S R = R (.bl true) S := by
  rw [eq_ap, dat_fit h, kEq_some, eqv_same h]
  rfl
theorem fits_cons {x : MV} {l : List MV} {n : Nat} : fits (x :: l) n = (fit x n && fits l n) := by conv => lhs; unfold fits
theorem fits_nil {n : Nat} : fits [] n = true := by unfold fits; rfl
theorem fit_tup {l : List MV} {n : Nat} : fit (.tup l) (n + 1) = fits l n := by conv => lhs; unfold fit
theorem fit_frz {l : List MV} {n : Nat} : fit (.frz l) (n + 1) = fits l n := by conv => lhs; unfold fit
theorem fit_int {i : Int} {n : Nat} : fit (.int i) n = true := by unfold fit; rfl
theorem fit_str {s : String} {n : Nat} : fit (.str s) n = PyData.strOk (so s) := by unfold fit; rfl
theorem fit_non {n : Nat} : fit .non n = true := by unfold fit; rfl
theorem fit_bl {b : Bool} {n : Nat} : fit (.bl b) n = true := by unfold fit; rfl
theorem fits_map {α : Type} {f : α → MV} {n : Nat} (h : ∀ x, fit (f x) n = true) : ∀ l : List α, fits (l.map f) n = true
  | [] => fits_nil
  | x :: l => by rw [List.map_cons, fits_cons, h x, fits_map h l]; rfl
/-! slices -/
theorem cut_to {l : List MV} {k : Nat} : cutM l none (some (k : Int)) = l.take k := by
  unfold cutM
  rw [HT.sIx_none, HT.sIx_nat, List.drop_zero, Nat.sub_zero]
  by_cases h : k ≤ l.length
  · rw [Nat.min_eq_left h]
  · rw [Nat.min_eq_right (by omega), List.take_length, List.take_of_length_le (by omega)]
theorem cut_from {l : List MV} {k : Nat} : cutM l (some (k : Int)) none = l.drop k := by
  unfold cutM
  rw [HT.sIx_none, HT.sIx_nat]
  by_cases h : k ≤ l.length
  · rw [Nat.min_eq_left h, List.take_of_length_le (by rw [List.length_drop]; omega)]
  · rw [Nat.min_eq_right (by omega), List.drop_length, List.drop_of_length_le (by omega), List.take_nil]
theorem cut_ft {l : List MV} {k m : Nat} : cutM l (some (k : Int)) (some (m : Int)) = (l.drop k).take (m - k) := by
  unfold cutM
  rw [HT.sIx_nat, HT.sIx_nat]
  apply List.ext_getElem?
  intro i
  simp only [List.getElem?_take, List.getElem?_drop]
  by_cases h : i < m - k
  · rw [if_pos h]
    by_cases h2 : k + i < l.length
    · rw [if_pos (by omega), show min k l.length + i = k + i by omega]
    · rw [List.getElem?_eq_none (i := k + i) (by omega)]
      split
      · rw [List.getElem?_eq_none (by omega)]
      · rfl
  · rw [if_neg h]
    split
    · omega
    · rfl
theorem cut_to1 {l : List MV} : cutM l none (some 1) = l.take 1 := cut_to (k := 1)
theorem cut_to2 {l : List MV} : cutM l none (some 2) = l.take 2 := cut_to (k := 2)
theorem cut_to3 {l : List MV} : cutM l none (some 3) = l.take 3 := cut_to (k := 3)
theorem cut_to4 {l : List MV} : cutM l none (some 4) = l.take 4 := cut_to (k := 4)
theorem cut_from1 {l : List MV} : cutM l (some 1) none = l.drop 1 := cut_from (k := 1)
theorem cut_from2 {l : List MV} : cutM l (some 2) none = l.drop 2 := cut_from (k := 2)
theorem cut_from5 {l : List MV} : cutM l (some 5) none = l.drop 5 := cut_from (k := 5)
theorem l_take0 {α : Type} {l : List α} : l.take 0 = [] := rfl
theorem l_takeS {α : Type} {a : α} {l : List α} {n : Nat} : (a :: l).take (n + 1) = a :: l.take n := rfl
theorem l_takeN {α : Type} {n : Nat} : ([] : List α).take n = [] := by cases n <;> rfl
theorem l_drop0 {α : Type} {l : List α} : l.drop 0 = l := rfl
theorem l_dropS {α : Type} {a : α} {l : List α} {n : Nat} : (a :: l).drop (n + 1) = l.drop n := rfl
theorem l_dropN {α : Type} {n : Nat} : ([] : List α).drop n = [] := by cases n <;> rfl
def kRvT (R : MK) : MK := fun x S1 => revT x S1 R
theorem revT_ap {m ρ S R} : mRevT m ρ S R = m ρ S (kRvT R) := rfl
theorem kRvT_ap {x R S} : kRvT R x S = revT x S R := rfl
theorem revT_t {l S R} : revT (.tup l) S R = R (.tup l.reverse) S := rfl
theorem revT_f {l S R} : revT (.frz l) S R = R (.frz l.reverse) S := rfl
theorem revT_r {a S R} : revT (.ref a) S R = kRvVO (lookL S a) R S := rfl
def kRvA (R : MK) : MK := fun x S1 => revA x S1 R
theorem revA_ap {m ρ S R} : mRevA m ρ S R = m ρ S (kRvA R) := rfl
theorem kRvA_ap {x R S} : kRvA R x S = revA x S R := rfl
theorem revA_t {l S R} : revA (.tup l) S R = R (.tup l.reverse) S := rfl
theorem revA_f {l S R} : revA (.frz l) S R = newL l.reverse S R := rfl
theorem revA_r {a S R} : revA (.ref a) S R = kRvO (lookL S a) R S := rfl
theorem max2_ii {i j S R} : max2V [.int i, .int j] S R = R (.int (if j > i then j else i)) S := rfl
theorem min2_ii {i j S R} : min2V [.int i, .int j] S R = R (.int (if j < i then j else i)) S := rfl
theorem cut_fromS {l : List MV} {k : Nat} : cutM l (some ((k : Int) + 1)) none = l.drop (k + 1) := cut_from (k := k + 1)
end Pf

set_option Elab.async false
set_option linter.all false
set_option maxRecDepth 100000
set_option maxHeartbeats 4000000
/-! more stepping lemmas -/
namespace Pf
open PySem PySem.Spec PyProof.Rows L2 Mv
def kMkN1 (c : String) (n m : Nat) (W : MW) (gM : List MV → List MV → List MV) (ms : MA) (ρ : Mv.Env) (R : MK) : KA := fun us S0 => ms ρ S0 fun zs S1 => us.length = n ∧ zs.length = m ∧ ∀ p, S1 p = none → W (gM (.ref p :: us) zs) (supd S1 p (.ins c [])) fun v S2 => v = .non ∧ R (.ref p) S2
def kMkN2 (c : String) (n m : Nat) (W : MW) (gM : List MV → List MV → List MV) (us : List MV) (R : MK) : KA := fun zs S1 => us.length = n ∧ zs.length = m ∧ ∀ p, S1 p = none → W (gM (.ref p :: us) zs) (supd S1 p (.ins c [])) fun v S2 => v = .non ∧ R (.ref p) S2
theorem makeN_ap {c n m W gM as ms ρ S R} : mMakeN c n m W gM as ms ρ S R = as ρ S (kMkN1 c n m W gM ms ρ R) := rfl
theorem kMkN1_ap {c n m W gM ms ρ R us S} : kMkN1 c n m W gM ms ρ R us S = ms ρ S (kMkN2 c n m W gM us R) := rfl
theorem kMkN2_ap {c n m W gM us R zs S} (h : us.length = n) (h2 : zs.length = m) : kMkN2 c n m W gM us R zs S = ∀ p, S p = none → W (gM (.ref p :: us) zs) (supd S p (.ins c [])) (kNonR p R) := by
  unfold kMkN2
  exact propext ⟨fun q => q.2.2, fun q => ⟨h, h2, q⟩⟩
/-! a pair of attributes -/
def kF2b (T : String → String → Bool) (mo' : ME) (g : String) (y : MV) (ρ : Mv.Env) (D : MD) : Sto → Prop := fun S3 => mo' ρ S3 (kFldS2 T g y ρ D.nx)
def kF2a (T : String → String → Bool) (f : String) (x : MV) (mo' : ME) (g : String) (y : MV) (ρ : Mv.Env) (D : MD) : MK := fun o S2 => fldPut T f o x S2 (kF2b T mo' g y ρ D)
theorem fldP_ap {T mo f mo' g m D ρ S} : msFld2 T mo f mo' g m D ρ S = m ρ S (fld2 T mo f mo' g D ρ) := rfl
theorem fld2_ap {T mo f mo' g D ρ x y S} : fld2 T mo f mo' g D ρ (.tup [x, y]) S = mo ρ S (kF2a T f x mo' g y ρ D) := rfl
theorem kF2a_ap {T f x mo' g y ρ D o S} : kF2a T f x mo' g y ρ D o S = fldPut T f o x S (kF2b T mo' g y ρ D) := rfl
theorem kF2b_ap {T mo' g y ρ D S} : kF2b T mo' g y ρ D S = mo' ρ S (kFldS2 T g y ρ D.nx) := rfl
/-! two clauses -/
def kLc2V (pt : Pat) (tt : MT) (mi1 : MI) (pt1 : Pat) (tt1 : MT) (te : ME) (vs1 : List Nat) (ρ : Mv.Env) (R : MK) : Items → Sto → Prop := fun I S => lcL2 I.keep pt tt mi1 pt1 tt1 te vs1 ρ (kVal R) I.vs [] S
theorem lc2V_ap {mi pt tt mi1 pt1 tt1 te vs vs1 ρ S R} : mLc2V mi pt tt mi1 pt1 tt1 te vs vs1 ρ S R = mi ρ S (kLc2V pt tt mi1 pt1 tt1 te vs1 (wipeM ρ vs) R) := rfl
theorem kLc2V_ap {pt tt mi1 pt1 tt1 te vs1 ρ R vs k S} : kLc2V pt tt mi1 pt1 tt1 te vs1 ρ R ⟨vs, k⟩ S = lcL2 k pt tt mi1 pt1 tt1 te vs1 ρ (kVal R) vs [] S := rfl
theorem lc2_flat {α : Type} {k : List (Addr × List MV)} {pt pt1 : Pat} {tt tt1 : MT} {mi1 : MI} {te : ME} {vs1 : List Nat} {ρ : Mv.Env} {Q : List MV → Sto → Prop} {S : Sto} (e : α → MV) (f : α → List MV) (hk : keepOk k S) : ∀ (l : List α) (acc : List MV),
    (∀ x ∈ l, ∀ (Qi : List MV → Sto → Prop) (pre : List MV), pre ++ f x <+: acc ++ l.flatMap f → Qi (pre ++ f x) S → bindP pt (e x) S ρ fun ρ' => tt ρ' S fun b S1 => match b with
      | true => mi1 ρ' S1 fun I1 S2 => lcL I1.keep pt1 tt1 te (wipeM ρ' vs1) Qi I1.vs pre S2
      | false => Qi pre S1) → Q (acc ++ l.flatMap f) S → lcL2 k pt tt mi1 pt1 tt1 te vs1 ρ Q (l.map e) acc S
  | [], acc, h, hQ => by
    rw [List.map_nil]
    unfold lcL2
    rw [List.flatMap_nil, List.append_nil] at hQ
    exact ⟨hk, hQ⟩
  | x :: l, acc, h, hQ => by
    rw [List.map_cons]
    unfold lcL2
    rw [List.flatMap_cons, ← List.append_assoc] at hQ
    refine ⟨hk, h x (List.mem_cons_self ..) (fun acc' S3 => lcL2 k pt tt mi1 pt1 tt1 te vs1 ρ Q (l.map e) acc' S3) acc ?_ ?_⟩
    · rw [List.flatMap_cons, ← List.append_assoc]
      exact List.prefix_append _ _
    · refine lc2_flat e f hk l (acc ++ f x) (fun y hy Qi pre hp => h y (List.mem_cons_of_mem _ hy) Qi pre ?_) hQ
      rw [List.flatMap_cons, ← List.append_assoc]
      exact hp
theorem lcA_map {α : Type} {pt : Pat} {te : ME} {ρ : Mv.Env} {Q : List MV → Sto → Prop} {S : Sto} {k : List (Addr × List MV)} (e g : α → MV) (hk : keepOk k S) : ∀ (l : List α) (acc : List MV), acc.length + l.length < 1000000 →
    (∀ x ∈ l, ∀ R : MK, R (g x) S → bindP pt (e x) S ρ fun ρ' => te ρ' S R) → Q (acc ++ l.map g) S → lcL k pt mYes te ρ Q (l.map e) acc S
  | [], acc, hn, h, hQ => by
    rw [List.map_nil]
    unfold lcL
    rw [List.map_nil, List.append_nil] at hQ
    exact ⟨hk, hQ⟩
  | x :: l, acc, hn, h, hQ => by
    have hs : (1000000 : Nat) ≤ sizeLine := by decide
    rw [List.map_cons]
    unfold lcL
    rw [List.length_cons] at hn
    refine ⟨hk, bindP_imp pt _ _ _ (fun ρ' q => ?_) (h x (List.mem_cons_self ..) (fun y S2 => acc.length < sizeLine ∧ lcL k pt mYes te ρ Q (l.map e) (acc ++ [y]) S2) ⟨by omega, ?_⟩)⟩
    · exact q
    · refine lcA_map e g hk l (acc ++ [g x]) (by rw [List.length_append, List.length_singleton]; omega) (fun y hy => h y (List.mem_cons_of_mem _ hy)) ?_
      rw [List.append_assoc]
      exact hQ
/-! a loop that appends to one list: each turn its own part -/
theorem for_flat {α : Type} {k : List (Addr × List MV)} {pt : Pat} {body : MS} {D : MD} {ρ0 : Mv.Env} (J : List Nat) (St : List MV → Sto) (e : α → MV) (f : α → List MV) (hk : ∀ acc, keepOk k (St acc)) : ∀ (l : List α) (acc : List MV) (xs : List (Option MV)), sets ρ0 J xs = ρ0 → xs.length = J.length →
    (∀ x ∈ l, ∀ (pre : List MV) (xs : List (Option MV)) (D' : MD), xs.length = J.length → pre ++ f x <+: acc ++ l.flatMap f → (∀ xs' : List (Option MV), xs'.length = J.length → D'.nx (sets ρ0 J xs') (St (pre ++ f x))) → (∀ xs' : List (Option MV), xs'.length = J.length → D'.ct (sets ρ0 J xs') (St (pre ++ f x))) → D'.rt = D.rt →
      bindP pt (e x) (St pre) (sets ρ0 J xs) fun ρ' => body D' ρ' (St pre)) →
    (∀ xs : List (Option MV), xs.length = J.length → D.nx (sets ρ0 J xs) (St (acc ++ l.flatMap f))) → forL k pt body D (l.map e) ρ0 (St acc) := by
  have key : ∀ (l : List α) (acc : List MV) (xs : List (Option MV)), xs.length = J.length →
    (∀ x ∈ l, ∀ (pre : List MV) (xs : List (Option MV)) (D' : MD), xs.length = J.length → pre ++ f x <+: acc ++ l.flatMap f → (∀ xs' : List (Option MV), xs'.length = J.length → D'.nx (sets ρ0 J xs') (St (pre ++ f x))) → (∀ xs' : List (Option MV), xs'.length = J.length → D'.ct (sets ρ0 J xs') (St (pre ++ f x))) → D'.rt = D.rt →
      bindP pt (e x) (St pre) (sets ρ0 J xs) fun ρ' => body D' ρ' (St pre)) →
    (∀ xs : List (Option MV), xs.length = J.length → D.nx (sets ρ0 J xs) (St (acc ++ l.flatMap f))) → forL k pt body D (l.map e) (sets ρ0 J xs) (St acc) := by
    intro l
    induction l with
    | nil =>
      intro acc xs hl h hQ
      rw [List.map_nil]
      unfold forL
      have := hQ xs hl
      rw [List.flatMap_nil, List.append_nil] at this
      exact ⟨hk _, this⟩
    | cons x l ih =>
      intro acc xs hl h hQ
      rw [List.map_cons]
      unfold forL
      have next : ∀ xs' : List (Option MV), xs'.length = J.length → forL k pt body D (l.map e) (sets ρ0 J xs') (St (acc ++ f x)) := fun xs' hl' => by
        refine ih (acc ++ f x) xs' hl' (fun y hy pre xs2 D' h2 hp => h y (List.mem_cons_of_mem _ hy) pre xs2 D' h2 ?_) fun xs2 h2 => ?_
        · rw [List.flatMap_cons, ← List.append_assoc]; exact hp
        · have := hQ xs2 h2
          rw [List.flatMap_cons, ← List.append_assoc] at this
          exact this
      refine ⟨hk _, h x (List.mem_cons_self ..) acc xs { D with nx := forL k pt body D (l.map e), ct := forL k pt body D (l.map e), bk := D.nx } hl ?_ next next rfl⟩
      rw [List.flatMap_cons, ← List.append_assoc]
      exact List.prefix_append _ _
  intro l acc xs e0 hl h hQ
  have := key l acc xs hl h hQ
  rw [e0] at this
  exact this
/-! extend by a list by value -/
def kExt (o : Option MO) (a : Addr) (k : List MV) (S : Sto) (R : MK) : Prop := match o with
  | some (.lst l) => l.length + k.length ≤ sizeLine ∧ R .non (supd S a (.lst (l ++ k)))
  | _ => False
theorem extend_v {a k S R} : extendVV (.ref a) [.frz k] S R = kExt (S a) a k S R := by
  unfold extendVV kExt
  rfl
theorem kExt_l {l k a S R} (h : l.length + k.length < 1000000) : kExt (some (.lst l)) a k S R = R .non (supd S a (.lst (l ++ k))) := by
  have : l.length + k.length ≤ sizeLine := Nat.le_of_lt (Nat.lt_of_lt_of_le h (by decide))
  show (_ ∧ _) = _
  exact propext ⟨fun q => q.2, fun q => ⟨this, q⟩⟩
end Pf

set_option Elab.async false
set_option linter.all false
set_option maxRecDepth 100000
set_option maxHeartbeats 4000000
/-! The program's data, typed, and how it is written as values. -/
namespace Ty
open PySem PySem.Spec PyProof.Rows L2 Mv Pf
inductive Ex where
  | value (n : Nat) | arg | got | field (f : Nat) | switch (s : Nat)
  deriving DecidableEq, Inhabited
inductive Sg where
  | eq | ne | lt
  deriving DecidableEq, Inhabited
structure Test where
  l : Ex
  s : Sg
  r : Ex
  deriving DecidableEq, Inhabited
inductive Deed where
  | set (f : Nat) (e : Ex) | add (f n : Nat) | ask (q : Nat) (e : Ex) | answer (e : Ex)
  deriving DecidableEq, Inhabited
structure Line where
  t : Option Test
  d : Deed
  deriving DecidableEq, Inhabited
structure Ver where
  sizes : List Nat
  up : List Nat
  down : List Nat
  hs : List (Option (List Line))
  deriving DecidableEq, Inhabited
structure Serv where
  inst : Nat
  vers : List Ver
  deriving DecidableEq, Inhabited
structure Qu where
  serv : Nat
  args : Nat
  ans : Nat
  deriving DecidableEq, Inhabited
structure Rel where
  vers : List Nat
  vals : List Nat
  deriving DecidableEq, Inhabited
structure Prog where
  qs : List Qu
  svs : List Serv
  rels : List Rel
  sw : Nat
  clients : Nat
  asks : Nat
  losses : Nat
  doubles : Nat
  crashes : Nat
  deriving DecidableEq, Inhabited
def eI (n : Nat) : MV := .int (n : Int)
def eL {α : Type} (f : α → MV) (l : List α) : MV := .tup (l.map f)
def eO {α : Type} (f : α → MV) : Option α → MV
  | none => .non
  | some a => f a
def eEx : Ex → MV
  | .value n => .tup [.str "value", .int (n : Int)]
  | .arg => .tup [.str "arg"]
  | .got => .tup [.str "got"]
  | .field f => .tup [.str "field", .int (f : Int)]
  | .switch s => .tup [.str "switch", .int (s : Int)]
def Sg.str : Sg → String
  | .eq => "=="
  | .ne => "!="
  | .lt => "<"
def eTest (t : Test) : MV := .tup [eEx t.l, .str t.s.str, eEx t.r]
def eDeed : Deed → MV
  | .set f e => .tup [.str "set", .int (f : Int), eEx e]
  | .add f n => .tup [.str "add", .int (f : Int), .int (n : Int)]
  | .ask q e => .tup [.str "ask", .int (q : Int), eEx e]
  | .answer e => .tup [.str "answer", eEx e]
def eLine (l : Line) : MV := .tup [eO eTest l.t, eDeed l.d]
def eHand : Option (List Line) → MV := eO (eL eLine)
def eVer (v : Ver) : MV := .tup [eL eI v.sizes, eL eI v.up, eL eI v.down, eL eHand v.hs]
def eServ (s : Serv) : MV := .tup [.int (s.inst : Int), eL eVer s.vers]
def eQu (q : Qu) : MV := .tup [.int (q.serv : Int), .int (q.args : Int), .int (q.ans : Int)]
def eRel (r : Rel) : MV := .tup [eL eI r.vers, eL eI r.vals]
/-- the attributes of a program, in the order in which they are set -/
def progF (P : Prog) : List (String × MV) := [("questions", eL eQu P.qs), ("services", eL eServ P.svs), ("releases", eL eRel P.rels), ("switches", .int (P.sw : Int)), ("clients", .int (P.clients : Int)), ("asks", .int (P.asks : Int)), ("losses", .int (P.losses : Int)), ("doubles", .int (P.doubles : Int)), ("crashes", .int (P.crashes : Int))]
/-! reading by place -/
def gt {α : Type} [Inhabited α] (l : List α) (i : Nat) : α := l.getD i default
theorem gt_get {α : Type} [Inhabited α] {l : List α} {i : Nat} (h : i < l.length) : l[i]? = some (gt l i) := by
  unfold gt
  simp [h]
theorem gt_eq {α : Type} [Inhabited α] {l : List α} {i : Nat} {x : α} (h : l[i]? = some x) : gt l i = x := by
  have hi := (List.getElem?_eq_some_iff.mp h).1
  rw [gt_get hi] at h
  exact Option.some.inj h
theorem gt_mem {α : Type} [Inhabited α] {l : List α} {i : Nat} (h : i < l.length) : gt l i ∈ l := List.mem_of_getElem? (gt_get h)
theorem gt_0 {α : Type} [Inhabited α] {x : α} {l : List α} : gt (x :: l) 0 = x := rfl
theorem gt_S {α : Type} [Inhabited α] {x : α} {l : List α} {n : Nat} : gt (x :: l) (n + 1) = gt l n := by
  unfold gt
  simp
theorem at_gt {α : Type} [Inhabited α] {f : α → MV} {l : List α} {i : Nat} (h : i < l.length) : atI (l.map f) (i : Int) = some (f (gt l i)) := atI_nat (by rw [List.getElem?_map, gt_get h]; rfl)
theorem at_gtI {α : Type} [Inhabited α] {f : α → MV} {l : List α} {i : Int} (h0 : 0 ≤ i) (h : i < l.length) : atI (l.map f) i = some (f (gt l i.toNat)) := by
  obtain ⟨n, rfl⟩ := Int.eq_ofNat_of_zero_le h0
  exact at_gt (by omega)
theorem at_lastD {α : Type} [Inhabited α] {f : α → MV} {l : List α} (h : 0 < l.length) : atI (l.map f) (-1) = some (f (gt l (l.length - 1))) := by
  unfold atI ixN
  rw [List.length_map, if_neg (by omega), if_pos (by omega)]
  have e : (-1 + (l.length : Int)).toNat = l.length - 1 := by omega
  simp only [Option.bind_some, e]
  rw [List.getElem?_map, gt_get (by omega)]
  rfl
theorem eI_ap {n : Nat} : eI n = .int (n : Int) := rfl
theorem eL_ap {α : Type} {f : α → MV} {l : List α} : eL f l = .tup (l.map f) := rfl
theorem eO_n {α : Type} {f : α → MV} : eO f none = .non := rfl
theorem eO_s {α : Type} {f : α → MV} {a : α} : eO f (some a) = f a := rfl
theorem eHand_n : eHand none = .non := rfl
theorem eHand_s {ls : List Line} : eHand (some ls) = .tup (ls.map eLine) := rfl
theorem eVer_ap {v : Ver} : eVer v = .tup [eL eI v.sizes, eL eI v.up, eL eI v.down, eL eHand v.hs] := rfl
theorem eServ_ap {s : Serv} : eServ s = .tup [.int (s.inst : Int), eL eVer s.vers] := rfl
theorem eQu_ap {q : Qu} : eQu q = .tup [.int (q.serv : Int), .int (q.args : Int), .int (q.ans : Int)] := rfl
theorem eRel_ap {r : Rel} : eRel r = .tup [eL eI r.vers, eL eI r.vals] := rfl
theorem eLine_ap {l : Line} : eLine l = .tup [eO eTest l.t, eDeed l.d] := rfl
theorem eTest_ap {t : Test} : eTest t = .tup [eEx t.l, .str t.s.str, eEx t.r] := rfl
theorem toN_cast {n : Nat} : ((n : Int)).toNat = n := Int.toNat_natCast n
theorem toN_add {a b : Nat} : ((a : Int) + (b : Int)).toNat = a + b := by omega
theorem toN_add1 {a : Nat} : ((a : Int) + 1).toNat = a + 1 := by omega
theorem toN_add2 {a : Nat} : ((a : Int) + 2).toNat = a + 2 := by omega
theorem toN_1add {a : Nat} : (1 + (a : Int)).toNat = 1 + a := by omega
theorem toN_sub1 {a : Nat} : ((a : Int) - 1).toNat = a - 1 := by omega
/-! texts -/
theorem k_value : PyData.strOk (so "value") = true := by decide +kernel
theorem k_arg : PyData.strOk (so "arg") = true := by decide +kernel
theorem k_got : PyData.strOk (so "got") = true := by decide +kernel
theorem k_field : PyData.strOk (so "field") = true := by decide +kernel
theorem k_switch : PyData.strOk (so "switch") = true := by decide +kernel
theorem k_eq : PyData.strOk (so "==") = true := by decide +kernel
theorem k_ne : PyData.strOk (so "!=") = true := by decide +kernel
theorem k_lt : PyData.strOk (so "<") = true := by decide +kernel
theorem k_set : PyData.strOk (so "set") = true := by decide +kernel
theorem k_add : PyData.strOk (so "add") = true := by decide +kernel
theorem k_ask : PyData.strOk (so "ask") = true := by decide +kernel
theorem k_answer : PyData.strOk (so "answer") = true := by decide +kernel
theorem k_lose : PyData.strOk (so "lose") = true := by decide +kernel
theorem k_double : PyData.strOk (so "double") = true := by decide +kernel
theorem k_crash : PyData.strOk (so "crash") = true := by decide +kernel
theorem k_take : PyData.strOk (so "take") = true := by decide +kernel
theorem k_go : PyData.strOk (so "go") = true := by decide +kernel
theorem k_step : PyData.strOk (so "step") = true := by decide +kernel
theorem k_turnback : PyData.strOk (so "turnback") = true := by decide +kernel
theorem k_unstep : PyData.strOk (so "unstep") = true := by decide +kernel
theorem k_raise : PyData.strOk (so "raise") = true := by decide +kernel
theorem k_flip : PyData.strOk (so "flip") = true := by decide +kernel
theorem k_move : PyData.strOk (so "move") = true := by decide +kernel
theorem k_turn : PyData.strOk (so "turn") = true := by decide +kernel
theorem k_turned : PyData.strOk (so "turned") = true := by decide +kernel
theorem k_drained : PyData.strOk (so "drained") = true := by decide +kernel
theorem k_final : PyData.strOk (so "final") = true := by decide +kernel
theorem k_asked : PyData.strOk (so "asked") = true := by decide +kernel
theorem k_answered : PyData.strOk (so "answered") = true := by decide +kernel
theorem k_returned : PyData.strOk (so "returned") = true := by decide +kernel
theorem k_one : PyData.strOk (so "one") = true := by decide +kernel
theorem k_notone : PyData.strOk (so "not one") = true := by decide +kernel
theorem k_many : PyData.strOk (so "many") = true := by decide +kernel
theorem k_from : PyData.strOk (so "from") = true := by decide +kernel
theorem k_never : PyData.strOk (so "never") = true := by decide +kernel
theorem k_instance : PyData.strOk (so "instance") = true := by decide +kernel
theorem k_release : PyData.strOk (so "release") = true := by decide +kernel
theorem dk_value {S} : dat S (.str "value") = some (.str (so "value")) := dat_str k_value
theorem dk_arg {S} : dat S (.str "arg") = some (.str (so "arg")) := dat_str k_arg
theorem dk_got {S} : dat S (.str "got") = some (.str (so "got")) := dat_str k_got
theorem dk_field {S} : dat S (.str "field") = some (.str (so "field")) := dat_str k_field
theorem dk_switch {S} : dat S (.str "switch") = some (.str (so "switch")) := dat_str k_switch
theorem dk_eq {S} : dat S (.str "==") = some (.str (so "==")) := dat_str k_eq
theorem dk_ne {S} : dat S (.str "!=") = some (.str (so "!=")) := dat_str k_ne
theorem dk_lt {S} : dat S (.str "<") = some (.str (so "<")) := dat_str k_lt
theorem dk_set {S} : dat S (.str "set") = some (.str (so "set")) := dat_str k_set
theorem dk_add {S} : dat S (.str "add") = some (.str (so "add")) := dat_str k_add
theorem dk_ask {S} : dat S (.str "ask") = some (.str (so "ask")) := dat_str k_ask
theorem dk_answer {S} : dat S (.str "answer") = some (.str (so "answer")) := dat_str k_answer
theorem dk_lose {S} : dat S (.str "lose") = some (.str (so "lose")) := dat_str k_lose
theorem dk_double {S} : dat S (.str "double") = some (.str (so "double")) := dat_str k_double
theorem dk_crash {S} : dat S (.str "crash") = some (.str (so "crash")) := dat_str k_crash
theorem dk_take {S} : dat S (.str "take") = some (.str (so "take")) := dat_str k_take
theorem dk_go {S} : dat S (.str "go") = some (.str (so "go")) := dat_str k_go
theorem dk_step {S} : dat S (.str "step") = some (.str (so "step")) := dat_str k_step
theorem dk_turnback {S} : dat S (.str "turnback") = some (.str (so "turnback")) := dat_str k_turnback
theorem dk_unstep {S} : dat S (.str "unstep") = some (.str (so "unstep")) := dat_str k_unstep
theorem dk_raise {S} : dat S (.str "raise") = some (.str (so "raise")) := dat_str k_raise
theorem dk_flip {S} : dat S (.str "flip") = some (.str (so "flip")) := dat_str k_flip
theorem dk_move {S} : dat S (.str "move") = some (.str (so "move")) := dat_str k_move
theorem dk_turn {S} : dat S (.str "turn") = some (.str (so "turn")) := dat_str k_turn
theorem dk_turned {S} : dat S (.str "turned") = some (.str (so "turned")) := dat_str k_turned
theorem dk_drained {S} : dat S (.str "drained") = some (.str (so "drained")) := dat_str k_drained
theorem dk_final {S} : dat S (.str "final") = some (.str (so "final")) := dat_str k_final
theorem dk_asked {S} : dat S (.str "asked") = some (.str (so "asked")) := dat_str k_asked
theorem dk_answered {S} : dat S (.str "answered") = some (.str (so "answered")) := dat_str k_answered
theorem dk_returned {S} : dat S (.str "returned") = some (.str (so "returned")) := dat_str k_returned
theorem dk_one {S} : dat S (.str "one") = some (.str (so "one")) := dat_str k_one
theorem dk_notone {S} : dat S (.str "not one") = some (.str (so "not one")) := dat_str k_notone
theorem dk_many {S} : dat S (.str "many") = some (.str (so "many")) := dat_str k_many
theorem dk_from {S} : dat S (.str "from") = some (.str (so "from")) := dat_str k_from
theorem dk_never {S} : dat S (.str "never") = some (.str (so "never")) := dat_str k_never
theorem dk_instance {S} : dat S (.str "instance") = some (.str (so "instance")) := dat_str k_instance
theorem dk_release {S} : dat S (.str "release") = some (.str (so "release")) := dat_str k_release
end Ty

set_option Elab.async false
set_option linter.all false
set_option maxRecDepth 100000
set_option maxHeartbeats 4000000
/-! What a right program is. -/
namespace Ty
open PySem PySem.Spec PyProof.Rows L2 Mv Pf
def cnt (l : List Nat) : Nat := l.foldl (fun a b => a * b) 1
def WfSz (l : List Nat) : Prop := 1 ≤ l.length ∧ l.length ≤ 3 ∧ ∀ x ∈ l, 1 ≤ x ∧ x ≤ 4
def WfEx (nf sw : Nat) : Ex → Prop
  | .value n => n < 4
  | .field f => f < nf
  | .switch s => s < sw
  | _ => True
def WfTest (nf sw : Nat) (t : Test) : Prop := WfEx nf sw t.l ∧ WfEx nf sw t.r
def WfDeed (nf sw : Nat) (qs : List Qu) (serv : Nat) : Deed → Prop
  | .set f e => f < nf ∧ WfEx nf sw e
  | .add f n => f < nf ∧ n < 4
  | .ask q e => q < qs.length ∧ serv < (gt qs q).serv ∧ WfEx nf sw e
  | .answer e => WfEx nf sw e
def WfLine (nf sw : Nat) (qs : List Qu) (serv : Nat) (l : Line) : Prop := (∀ t, l.t = some t → WfTest nf sw t) ∧ WfDeed nf sw qs serv l.d
def Deed.isAsk : Deed → Bool
  | .ask _ _ => true
  | _ => false
def WfLines (nf sw : Nat) (qs : List Qu) (serv : Nat) (ls : List Line) : Prop := 1 ≤ ls.length ∧ ls.length ≤ 8 ∧ (∀ l ∈ ls, WfLine nf sw qs serv l) ∧ ls.countP (fun l => l.d.isAsk) ≤ 2
def WfHand (nf sw : Nat) (qs : List Qu) (serv q : Nat) (h : Option (List Line)) : Prop := ∀ ls, h = some ls → (gt qs q).serv = serv ∧ WfLines nf sw qs serv ls
structure WfVer (sw : Nat) (qs : List Qu) (serv below : Nat) (v : Ver) : Prop where
  sz : WfSz v.sizes
  ul : v.up.length = below
  ub : ∀ x ∈ v.up, x < cnt v.sizes
  dl : v.down.length = if 0 < below then cnt v.sizes else 0
  db : ∀ x ∈ v.down, x < below
  hl : v.hs.length = qs.length
  hw : ∀ q h, v.hs[q]? = some h → WfHand v.sizes.length sw qs serv q h
def belowOf (vs : List Ver) (i : Nat) : Nat := if i = 0 then 0 else cnt (gt vs (i - 1)).sizes
structure WfServ (sw : Nat) (qs : List Qu) (serv : Nat) (s : Serv) : Prop where
  i1 : 1 ≤ s.inst
  i2 : s.inst ≤ 2
  v1 : 1 ≤ s.vers.length
  v3 : s.vers.length ≤ 3
  vw : ∀ i v, s.vers[i]? = some v → WfVer sw qs serv (belowOf s.vers i) v
def WfQu (ns : Nat) (q : Qu) : Prop := q.serv < ns ∧ 1 ≤ q.args ∧ q.args ≤ 4 ∧ 1 ≤ q.ans ∧ q.ans ≤ 4
structure WfRel (svs : List Serv) (sw : Nat) (r : Rel) : Prop where
  vl : r.vers.length = svs.length
  vb : ∀ i x, r.vers[i]? = some x → x < (gt svs i).vers.length
  wl : r.vals.length = sw
  wb : ∀ x ∈ r.vals, x < 2
structure WfD (sw : Nat) (qs : List Qu) (svs : List Serv) (rels : List Rel) : Prop where
  s2 : sw ≤ 2
  q1 : 1 ≤ qs.length
  q3 : qs.length ≤ 3
  qw : ∀ q ∈ qs, WfQu svs.length q
  v1 : 1 ≤ svs.length
  v3 : svs.length ≤ 3
  vw : ∀ i s, svs[i]? = some s → WfServ sw qs i s
  r1 : 1 ≤ rels.length
  r4 : rels.length ≤ 4
  rw : ∀ r ∈ rels, WfRel svs sw r
structure WfP (P : Prog) : Prop where
  d : WfD P.sw P.qs P.svs P.rels
  c1 : 1 ≤ P.clients
  c2 : P.clients ≤ 2
  a : P.asks ≤ 3
  l : P.losses ≤ 2
  db : P.doubles ≤ 2
  cr : P.crashes ≤ 2
theorem cnt_snoc (l : List Nat) (x : Nat) : cnt (l ++ [x]) = cnt l * x := by simp [cnt]
theorem cnt_cons (x : Nat) (l : List Nat) : cnt (x :: l) = x * cnt l := by
  unfold cnt
  rw [List.foldl_cons]
  have : ∀ (l : List Nat) (a b : Nat), l.foldl (fun a b => a * b) (a * b) = a * l.foldl (fun a b => a * b) b := by
    intro l
    induction l with
    | nil => intro a b; rfl
    | cons c l ih => intro a b; rw [List.foldl_cons, List.foldl_cons, Nat.mul_assoc, ih]
  rw [Nat.mul_comm 1 x, this]
theorem cnt_nil : cnt [] = 1 := rfl
theorem cnt_bd : ∀ (l : List Nat), (∀ x ∈ l, 1 ≤ x ∧ x ≤ 4) → 1 ≤ cnt l ∧ cnt l ≤ 4 ^ l.length
  | [], _ => by simp [cnt_nil]
  | x :: l, h => by
    have h1 := h x (by simp)
    have ih := cnt_bd l fun y hy => h y (by simp [hy])
    rw [cnt_cons, List.length_cons, Nat.pow_succ]
    constructor
    · exact Nat.mul_pos h1.1 ih.1
    · rw [Nat.mul_comm]; exact Nat.mul_le_mul ih.2 h1.2
theorem WfSz.cnt {l : List Nat} (h : WfSz l) : 1 ≤ cnt l ∧ cnt l ≤ 64 := by
  have q := cnt_bd l h.2.2
  refine ⟨q.1, Nat.le_trans q.2 ?_⟩
  have : l.length ≤ 3 := h.2.1
  calc 4 ^ l.length ≤ 4 ^ 3 := Nat.pow_le_pow_right (by decide) this
    _ = 64 := by decide
theorem take_succ_get {α : Type} {l : List α} {i : Nat} {x : α} (h : l[i]? = some x) : l.take (i + 1) = l.take i ++ [x] := by
  rw [List.take_succ, h]; rfl
theorem map_get {α : Type} {f : α → MV} {l : List α} {i : Nat} {v : MV} (h : (l.map f)[i]? = some v) : ∃ x, l[i]? = some x ∧ v = f x := by
  rw [List.getElem?_map] at h
  cases e : l[i]? with
  | none => rw [e] at h; cases h
  | some x => rw [e] at h; cases h; exact ⟨x, rfl, rfl⟩
/-! conversions -/
def upN (vs : List Ver) : Nat → Nat → Nat → Nat
  | _, 0, n => n
  | f, k + 1, n => upN vs (f + 1) k (gt (gt vs (f + 1)).up n)
def dnN (vs : List Ver) : Nat → Nat → Nat → Nat
  | _, 0, n => n
  | f, k + 1, n => dnN vs (f - 1) k (gt (gt vs f).down n)
def conv (vs : List Ver) (f l n : Nat) : Nat := if f ≤ l then upN vs f (l - f) n else dnN vs f (f - l) n
theorem below_S {vs : List Ver} {i : Nat} : belowOf vs (i + 1) = cnt (gt vs i).sizes := by
  unfold belowOf
  rw [if_neg (by omega)]; rfl
section
variable {sw serv : Nat} {qs : List Qu} {s : Serv}
theorem WfServ.at (h : WfServ sw qs serv s) {i : Nat} (hi : i < s.vers.length) : WfVer sw qs serv (belowOf s.vers i) (gt s.vers i) := h.vw i _ (gt_get hi)
theorem WfServ.up (h : WfServ sw qs serv s) {f n : Nat} (hf : f + 1 < s.vers.length) (hn : n < cnt (gt s.vers f).sizes) : n < (gt s.vers (f + 1)).up.length ∧ gt (gt s.vers (f + 1)).up n < cnt (gt s.vers (f + 1)).sizes := by
  have w := h.at hf
  have hl := w.ul
  rw [below_S] at hl
  have : n < (gt s.vers (f + 1)).up.length := by omega
  exact ⟨this, w.ub _ (gt_mem this)⟩
theorem WfServ.down (h : WfServ sw qs serv s) {f n : Nat} (hf : f + 1 < s.vers.length) (hn : n < cnt (gt s.vers (f + 1)).sizes) : n < (gt s.vers (f + 1)).down.length ∧ gt (gt s.vers (f + 1)).down n < cnt (gt s.vers f).sizes := by
  have w := h.at hf
  have hl := w.dl
  have hb := w.db
  rw [below_S] at hl hb
  have := (h.at (show f < s.vers.length by omega)).sz.cnt
  rw [if_pos (by omega)] at hl
  have : n < (gt s.vers (f + 1)).down.length := by omega
  exact ⟨this, hb _ (gt_mem this)⟩
theorem upN_lt (h : WfServ sw qs serv s) : ∀ (k f n : Nat), f + k < s.vers.length → n < cnt (gt s.vers f).sizes → upN s.vers f k n < cnt (gt s.vers (f + k)).sizes
  | 0, f, n, _, hn => hn
  | k + 1, f, n, hf, hn => by
    have q := h.up (f := f) (by omega) hn
    have := upN_lt h k (f + 1) _ (by omega) q.2
    unfold upN
    rw [show f + (k + 1) = f + 1 + k by omega]
    exact this
theorem dnN_lt (h : WfServ sw qs serv s) : ∀ (k f n : Nat), k ≤ f → f < s.vers.length → n < cnt (gt s.vers f).sizes → dnN s.vers f k n < cnt (gt s.vers (f - k)).sizes
  | 0, f, n, _, _, hn => hn
  | k + 1, f + 1, n, hk, hf, hn => by
    have q := h.down (f := f) hf hn
    have := dnN_lt h k f _ (by omega) (by omega) q.2
    unfold dnN
    rw [show f + 1 - (k + 1) = f - k by omega]
    exact this
theorem conv_lt (h : WfServ sw qs serv s) {f l n : Nat} (hf : f < s.vers.length) (hl : l < s.vers.length) (hn : n < cnt (gt s.vers f).sizes) : conv s.vers f l n < cnt (gt s.vers l).sizes := by
  unfold conv
  split
  · have := upN_lt h (l - f) f n (by omega) hn
    rw [show f + (l - f) = l by omega] at this
    exact this
  · have := dnN_lt h (f - l) f n (by omega) hf hn
    rw [show f - (f - l) = l by omega] at this
    exact this
end
end Ty

set_option Elab.async false
set_option linter.all false
set_option maxRecDepth 100000
set_option maxHeartbeats 4000000
/-! Runs of handlers, without a program in sight. -/
namespace Ty
open PySem PySem.Spec PyProof.Rows L2 Mv Pf
def vE (fs vals : List Nat) (arg : Nat) (got : Int) : Ex → Int
  | .value n => n
  | .arg => arg
  | .got => got
  | .field f => (gt fs f : Nat)
  | .switch s => (gt vals s : Nat)
def Sg.sem : Sg → Int → Int → Bool
  | .eq, a, b => decide (a = b)
  | .ne, a, b => !decide (a = b)
  | .lt, a, b => decide (a < b)
def hT (fs vals : List Nat) (arg : Nat) (got : Int) : Option Test → Bool
  | none => true
  | some t => t.s.sem (vE fs vals arg got t.l) (vE fs vals arg got t.r)
def numF (sz fs : List Nat) : Nat := (sz.zip fs).foldl (fun n p => n * p.1 + p.2) 0
def digs : List Nat → Nat → List Nat
  | [], _ => []
  | s :: r, n => n % s :: digs r (n / s)
def recF (sz : List Nat) (n : Nat) : List Nat := (digs sz.reverse n).reverse
inductive Out where
  | ask (q a : Nat) | ans (n : Int)
  deriving DecidableEq, Inhabited
def eOut : Out → MV
  | .ask q a => .tup [.str "ask", .int (q : Int), .int (a : Int)]
  | .ans n => .tup [.str "answer", .int n]
def setF (sz fs : List Nat) (f : Nat) (v : Int) : List Nat := fs.set f (v % (gt sz f : Nat)).toNat
def runL (qs : List Qu) (q : Nat) (sz vals : List Nat) (arg : Nat) (got : Int) : List Line → Nat → List Nat → Nat × Nat × Out
  | [], i, fs => (numF sz fs, i, .ans 0)
  | ln :: r, i, fs => if hT fs vals arg got ln.t = true then (match ln.d with
      | .set f e => runL qs q sz vals arg got r (i + 1) (setF sz fs f (vE fs vals arg got e))
      | .add f n => runL qs q sz vals arg got r (i + 1) (setF sz fs f ((gt fs f : Nat) + (n : Int)))
      | .ask q' e => (numF sz fs, i + 1, .ask q' (vE fs vals arg got e % (gt qs q').args).toNat)
      | .answer e => (numF sz fs, i + 1, .ans (vE fs vals arg got e % (gt qs q).ans)))
    else runL qs q sz vals arg got r (i + 1) fs
def runV (qs : List Qu) (v : Ver) (q arg : Nat) (vals : List Nat) (line : Nat) (got : Int) (n : Nat) : Nat × Nat × Out := match gt v.hs q with
  | none => (n, 0, .ans (-1))
  | some rows => runL qs q v.sizes vals arg got (rows.drop line) line (recF v.sizes n)
def eRun (r : Nat × Nat × Out) : MV := .tup [.int (r.1 : Int), .int (r.2.1 : Int), eOut r.2.2]
structure Fit (sz fs : List Nat) : Prop where
  len : fs.length = sz.length
  lt : ∀ i < sz.length, gt fs i < gt sz i
theorem Fit.cons {s : Nat} {sz : List Nat} {f : Nat} {fs : List Nat} (h : f < s) (r : Fit sz fs) : Fit (s :: sz) (f :: fs) := by
  refine ⟨by simp [r.len], fun i hi => ?_⟩
  cases i with
  | zero => exact h
  | succ i => rw [gt_S, gt_S]; exact r.lt i (by simpa using hi)
theorem Fit.uncons {s : Nat} {sz : List Nat} {fs : List Nat} (h : Fit (s :: sz) fs) : ∃ f r, fs = f :: r ∧ f < s ∧ Fit sz r := by
  cases fs with
  | nil => have := h.len; simp at this
  | cons f r =>
    refine ⟨f, r, rfl, h.lt 0 (by simp), by simpa using h.len, fun i hi => ?_⟩
    have := h.lt (i + 1) (by simpa using hi)
    rw [gt_S, gt_S] at this
    exact this
theorem gt_rev {l : List Nat} {i : Nat} (h : i < l.length) : gt l.reverse i = gt l (l.length - 1 - i) := gt_eq (by rw [List.getElem?_reverse h]; exact gt_get (by omega))
theorem Fit.rev {sz fs : List Nat} (h : Fit sz fs) : Fit sz.reverse fs.reverse := by
  refine ⟨by simp [h.len], fun i hi => ?_⟩
  rw [List.length_reverse] at hi
  rw [gt_rev hi, gt_rev (by rw [h.len]; exact hi), h.len]
  exact h.lt _ (by omega)
theorem digs_fit : ∀ (r : List Nat) (n : Nat), (∀ x ∈ r, 1 ≤ x) → Fit r (digs r n)
  | [], n, _ => ⟨rfl, fun i hi => by simp at hi⟩
  | s :: r, n, h => by
    unfold digs
    exact .cons (Nat.mod_lt _ (h s (by simp))) (digs_fit r _ fun x hx => h x (by simp [hx]))
theorem recF_fit {sz : List Nat} {n : Nat} (h : ∀ x ∈ sz, 1 ≤ x) : Fit sz (recF sz n) := by
  have := (digs_fit sz.reverse n fun x hx => h x (by simpa using hx)).rev
  rw [List.reverse_reverse] at this
  exact this
theorem num_lt : ∀ (sz fs : List Nat) (a : Nat), Fit sz fs → (sz.zip fs).foldl (fun n p => n * p.1 + p.2) a < (a + 1) * cnt sz
  | [], fs, a, _ => by simp [cnt_nil]
  | s :: sz, fs, a, h => by
    obtain ⟨f, r, rfl, h1, h2⟩ := h.uncons
    rw [List.zip_cons_cons, List.foldl_cons]
    have ih := num_lt sz r (a * s + f) h2
    dsimp only
    rw [cnt_cons]
    refine Nat.lt_of_lt_of_le ih ?_
    rw [← Nat.mul_assoc]
    refine Nat.mul_le_mul_right _ ?_
    rw [Nat.add_mul, Nat.one_mul]
    omega
theorem numF_lt {sz fs : List Nat} (h : Fit sz fs) : numF sz fs < cnt sz := by
  have := num_lt sz fs 0 h
  rw [Nat.zero_add, Nat.one_mul] at this
  exact this
theorem gt_set {l : List Nat} {i j v : Nat} (h : i < l.length) : gt (l.set i v) j = if i = j then v else gt l j := by
  unfold gt
  rw [List.getD_eq_getElem?_getD, List.getD_eq_getElem?_getD, List.getElem?_set]
  by_cases e : i = j
  · subst e; rw [if_pos rfl, if_pos h, if_pos rfl]; rfl
  · rw [if_neg e, if_neg e]
theorem Fit.set {sz fs : List Nat} (h : Fit sz fs) {f : Nat} {v : Int} (hf : f < sz.length) (hp : ∀ i < sz.length, 1 ≤ gt sz i) : Fit sz (setF sz fs f v) := by
  unfold setF
  refine ⟨by rw [List.length_set]; exact h.len, fun i hi => ?_⟩
  rw [gt_set (by rw [h.len]; exact hf)]
  have hs := hp i hi
  split
  · rename_i e
    subst e
    have h1 := Int.emod_nonneg v (b := (gt sz f : Nat)) (by omega)
    have h2 := Int.emod_lt_of_pos v (b := (gt sz f : Nat)) (by omega)
    omega
  · exact h.lt i hi
/-- what a run's end is like -/
structure RunOk (qs : List Qu) (sz : List Nat) (serv q lo hi : Nat) (r : Nat × Nat × Out) : Prop where
  num : r.1 < cnt sz
  l1 : lo ≤ r.2.1
  l2 : r.2.1 ≤ hi
  ask : ∀ q' a, r.2.2 = .ask q' a → q' < qs.length ∧ serv < (gt qs q').serv ∧ a < (gt qs q').args
  ans : ∀ n, r.2.2 = .ans n → 0 ≤ n ∧ n < (gt qs q).ans
theorem runL_ok {qs : List Qu} {q : Nat} {sz vals : List Nat} {arg : Nat} {got : Int} {sw serv ns : Nat} (hq : ∀ i < qs.length, 1 ≤ (gt qs i).args) (hqa : 1 ≤ (gt qs q).ans) (hp : ∀ i < sz.length, 1 ≤ gt sz i) :
    ∀ (rows : List Line) (i : Nat) (fs : List Nat), Fit sz fs → (∀ l ∈ rows, WfLine sz.length sw qs serv l) → RunOk qs sz serv q (if rows = [] then i else i + 1) (i + rows.length) (runL qs q sz vals arg got rows i fs)
  | [], i, fs, hf, _ => by
    unfold runL
    exact ⟨numF_lt hf, by simp, by simp, fun q' a e => (by cases e), fun n e => by cases e; omega⟩
  | ln :: r, i, fs, hf, hw => by
    have go : ∀ fs', Fit sz fs' → RunOk qs sz serv q (if ln :: r = [] then i else i + 1) (i + (ln :: r).length) (runL qs q sz vals arg got r (i + 1) fs') := fun fs' hf' => by
      have ih := runL_ok (vals := vals) (arg := arg) (got := got) (sw := sw) (serv := serv) (ns := ns) hq hqa hp r (i + 1) fs' hf' fun l hl => hw l (by simp [hl])
      refine ⟨ih.num, ?_, ?_, ih.ask, ih.ans⟩
      · have := ih.l1
        rw [if_neg (by simp)]
        split at this <;> omega
      · have := ih.l2
        rw [List.length_cons]
        omega
    have wl := (hw ln (by simp)).2
    have e0 : (if ln :: r = [] then i else i + 1) = i + 1 := if_neg (by simp)
    rw [e0] at go ⊢
    unfold runL
    split
    · split
      · rename_i f e ed
        rw [ed] at wl
        exact go _ (hf.set wl.1 hp)
      · rename_i f n ed
        rw [ed] at wl
        exact go _ (hf.set wl.1 hp)
      · rename_i q' e ed
        rw [ed] at wl
        have h1 := hq q' wl.1
        refine ⟨numF_lt hf, by simp, by simp, fun q2 a e2 => ?_, fun n e => by cases e⟩
        cases e2
        refine ⟨wl.1, wl.2.1, ?_⟩
        have h2 := Int.emod_nonneg (vE fs vals arg got e) (b := ((gt qs q').args : Nat)) (by omega)
        have h3 := Int.emod_lt_of_pos (vE fs vals arg got e) (b := ((gt qs q').args : Nat)) (by omega)
        omega
      · rename_i e ed
        refine ⟨numF_lt hf, by simp, by simp, fun q' a e => (by cases e), fun n e2 => ?_⟩
        cases e2
        exact ⟨Int.emod_nonneg _ (by omega), Int.emod_lt_of_pos _ (by omega)⟩
    · exact go _ hf
theorem fit_eOut {o : Out} {n : Nat} : fit (eOut o) (n + 1) = true := by
  cases o with
  | ask q a => simp only [eOut, fit_tup, fits_cons, fits_nil, fit_str, fit_int, k_ask, Bool.and_true]
  | ans k => simp only [eOut, fit_tup, fits_cons, fits_nil, fit_str, fit_int, k_answer, Bool.and_true]
theorem fit_eRun {r : Nat × Nat × Out} : fit (eRun r) 60 = true := by
  simp only [eRun, fit_tup, fits_cons, fits_nil, fit_int, fit_eOut, Bool.and_true]
/-! the record with the number of a record is it -/
theorem numF_snoc {sz fs : List Nat} {s f : Nat} (h : fs.length = sz.length) : numF (sz ++ [s]) (fs ++ [f]) = numF sz fs * s + f := by
  unfold numF
  rw [List.zip_append h.symm, List.foldl_append]
  rfl
theorem digs_num : ∀ (rs rf : List Nat), Fit rs rf → digs rs (numF rs.reverse rf.reverse) = rf
  | [], rf, h => by
    have := h.len
    simp at this
    subst this
    rfl
  | s :: r, rf, h => by
    obtain ⟨f, g, rfl, h1, h2⟩ := h.uncons
    rw [List.reverse_cons, List.reverse_cons, numF_snoc (by simp [h2.len])]
    unfold digs
    have e1 : (numF r.reverse g.reverse * s + f) % s = f := by
      rw [Nat.mul_comm, Nat.mul_add_mod, Nat.mod_eq_of_lt h1]
    have e2 : (numF r.reverse g.reverse * s + f) / s = numF r.reverse g.reverse := by
      rw [Nat.mul_comm, Nat.mul_add_div (by omega), Nat.div_eq_of_lt h1, Nat.add_zero]
    rw [e1, e2, digs_num r g h2]
theorem recF_num {sz fs : List Nat} (h : Fit sz fs) : recF sz (numF sz fs) = fs := by
  have := digs_num sz.reverse fs.reverse h.rev
  rw [List.reverse_reverse, List.reverse_reverse] at this
  unfold recF
  rw [this, List.reverse_reverse]
/-! a run through all lines -/
def thruL (qs : List Qu) (q : Nat) (sz vals : List Nat) (arg : Nat) (as : List Int) : List Line → List Nat → Int → List (Nat × Nat) → List (Nat × Nat) × Int × Nat
  | [], fs, _, rows => (rows, 0, numF sz fs)
  | ln :: r, fs, got, rows => if hT fs vals arg got ln.t = true then (match ln.d with
      | .set f e => thruL qs q sz vals arg as r (setF sz fs f (vE fs vals arg got e)) got rows
      | .add f n => thruL qs q sz vals arg as r (setF sz fs f ((gt fs f : Nat) + (n : Int))) got rows
      | .ask q' e => thruL qs q sz vals arg as r fs (gt as rows.length) (rows ++ [(q', (vE fs vals arg got e % (gt qs q').args).toNat)])
      | .answer e => (rows, vE fs vals arg got e % (gt qs q).ans, numF sz fs))
    else thruL qs q sz vals arg as r fs got rows
section
variable {qs : List Qu} {q : Nat} {sz vals : List Nat} {arg : Nat} {got : Int} {ln : Line} {r : List Line} {fs : List Nat} {as : List Int} {rows : List (Nat × Nat)}
theorem thruL_no (h : hT fs vals arg got ln.t = false) : thruL qs q sz vals arg as (ln :: r) fs got rows = thruL qs q sz vals arg as r fs got rows := by
  conv => lhs; unfold thruL
  rw [if_neg (by rw [h]; exact Bool.false_ne_true)]
theorem thruL_yes (h : hT fs vals arg got ln.t = true) : thruL qs q sz vals arg as (ln :: r) fs got rows = (match ln.d with
      | .set f e => thruL qs q sz vals arg as r (setF sz fs f (vE fs vals arg got e)) got rows
      | .add f n => thruL qs q sz vals arg as r (setF sz fs f ((gt fs f : Nat) + (n : Int))) got rows
      | .ask q' e => thruL qs q sz vals arg as r fs (gt as rows.length) (rows ++ [(q', (vE fs vals arg got e % (gt qs q').args).toNat)])
      | .answer e => (rows, vE fs vals arg got e % (gt qs q).ans, numF sz fs)) := by
  conv => lhs; unfold thruL
  rw [if_pos h]
end
def ThruP (qs : List Qu) (q : Nat) (sz vals : List Nat) (arg : Nat) (got : Int) (as : List Int) (ls : List Line) (i : Nat) (fs : List Nat) (rows : List (Nat × Nat)) : Prop :=
  (∃ a fs', Fit sz fs' ∧ runL qs q sz vals arg got ls i fs = (numF sz fs', (runL qs q sz vals arg got ls i fs).2.1, .ans a) ∧ thruL qs q sz vals arg as ls fs got rows = (rows, a, numF sz fs')) ∨
  (∃ k q' a fs', Fit sz fs' ∧ k < ls.length ∧ runL qs q sz vals arg got ls i fs = (numF sz fs', i + k + 1, .ask q' a) ∧ thruL qs q sz vals arg as ls fs got rows = thruL qs q sz vals arg as (ls.drop (k + 1)) fs' (gt as rows.length) (rows ++ [(q', a)]) ∧
        (ls.drop (k + 1)).countP (fun l => l.d.isAsk) + 1 ≤ ls.countP (fun l => l.d.isAsk))
/-- up to the next question, and on behind it -/
theorem thru_run {qs : List Qu} {q : Nat} {sz vals : List Nat} {arg : Nat} {got : Int} {as : List Int} {sw serv : Nat} (hp : ∀ i < sz.length, 1 ≤ gt sz i) :
    ∀ (ls : List Line) (i : Nat) (fs : List Nat) (rows : List (Nat × Nat)), Fit sz fs → (∀ l ∈ ls, WfLine sz.length sw qs serv l) → ThruP qs q sz vals arg got as ls i fs rows
  | [], i, fs, rows, hf, _ => .inl ⟨0, fs, hf, rfl, rfl⟩
  | ln :: r, i, fs, rows, hf, hw => by
    have hw' : ∀ l ∈ r, WfLine sz.length sw qs serv l := fun l hl => hw l (by simp [hl])
    have wl := (hw ln (by simp)).2
    have go : ∀ fs', Fit sz fs' → runL qs q sz vals arg got (ln :: r) i fs = runL qs q sz vals arg got r (i + 1) fs' → thruL qs q sz vals arg as (ln :: r) fs got rows = thruL qs q sz vals arg as r fs' got rows → ThruP qs q sz vals arg got as (ln :: r) i fs rows := fun fs' hf' e1 e2 => by
      rcases thru_run (as := as) (got := got) (vals := vals) (arg := arg) (q := q) hp r (i + 1) fs' rows hf' hw' with ⟨a, f2, h1, h2, h3⟩ | ⟨k, q', a, f2, h1, h2, h3, h4, h5⟩
      · exact .inl ⟨a, f2, h1, by rw [e1]; exact h2, by rw [e2]; exact h3⟩
      · refine .inr ⟨k + 1, q', a, f2, h1, by simp; omega, by rw [e1, h3]; congr 2; omega, by rw [e2, h4]; rfl, ?_⟩
        rw [List.drop_succ_cons, List.countP_cons]
        omega
    cases hc : hT fs vals arg got ln.t with
    | false =>
      refine go fs hf ?_ (thruL_no hc)
      conv => lhs; unfold runL
      rw [if_neg (by rw [hc]; exact Bool.false_ne_true)]
    | true =>
      have er : runL qs q sz vals arg got (ln :: r) i fs = (match ln.d with
          | .set f e => runL qs q sz vals arg got r (i + 1) (setF sz fs f (vE fs vals arg got e))
          | .add f n => runL qs q sz vals arg got r (i + 1) (setF sz fs f ((gt fs f : Nat) + (n : Int)))
          | .ask q' e => (numF sz fs, i + 1, .ask q' (vE fs vals arg got e % (gt qs q').args).toNat)
          | .answer e => (numF sz fs, i + 1, .ans (vE fs vals arg got e % (gt qs q).ans))) := by
        conv => lhs; unfold runL
        rw [if_pos hc]
      have et := thruL_yes (qs := qs) (q := q) (sz := sz) (r := r) (as := as) (rows := rows) hc
      cases ed : ln.d with
      | set f e =>
        rw [ed] at er et wl
        exact go _ (hf.set wl.1 hp) er et
      | add f m =>
        rw [ed] at er et wl
        exact go _ (hf.set wl.1 hp) er et
      | ask q' e =>
        rw [ed] at er et
        refine .inr ⟨0, q', _, fs, hf, by simp, er, et, ?_⟩
        rw [List.drop_succ_cons, List.drop_zero, List.countP_cons, ed]
        simp [Deed.isAsk]
      | answer e =>
        rw [ed] at er et
        exact .inl ⟨_, fs, hf, by rw [er], et⟩
def eQA (p : Nat × Nat) : MV := .tup [.int (p.1 : Int), .int (p.2 : Int)]
def eThr (r : List (Nat × Nat) × Int × Nat) : MV := .tup [.frz (r.1.map eQA), .int r.2.1, .int (r.2.2 : Int)]
theorem fit_eThr {r : List (Nat × Nat) × Int × Nat} : fit (eThr r) 60 = true := by
  have h : fits (r.1.map eQA) 58 = true := fits_map (fun x => by simp only [eQA, fit_tup, fits_cons, fits_nil, fit_int, Bool.and_true]) _
  simp only [eThr, fit_tup, fit_frz, fits_cons, fits_nil, fit_int, h, Bool.and_true]
theorem cnt_append (a b : List Nat) : cnt (a ++ b) = cnt a * cnt b := by
  induction a with
  | nil => rw [List.nil_append, cnt_nil, Nat.one_mul]
  | cons x a ih => rw [List.cons_append, cnt_cons, cnt_cons, ih, Nat.mul_assoc]
theorem cnt_rev : ∀ l : List Nat, cnt l.reverse = cnt l
  | [] => rfl
  | x :: l => by rw [List.reverse_cons, cnt_append, cnt_rev l, cnt_cons, cnt_cons, cnt_nil, Nat.mul_one, Nat.mul_comm]
theorem num_digs : ∀ (rs : List Nat) (n : Nat), (∀ x ∈ rs, 1 ≤ x) → n < cnt rs → numF rs.reverse (digs rs n).reverse = n
  | [], n, _, h => by
    rw [cnt_nil] at h
    have : n = 0 := by omega
    subst this
    rfl
  | s :: r, n, hp, h => by
    have hs := hp s (by simp)
    rw [cnt_cons] at h
    unfold digs
    rw [List.reverse_cons, List.reverse_cons, numF_snoc (by simp [(digs_fit r (n / s) fun x hx => hp x (by simp [hx])).len]), num_digs r (n / s) (fun x hx => hp x (by simp [hx])) (Nat.div_lt_of_lt_mul h)]
    have := Nat.div_add_mod n s
    rw [Nat.mul_comm] at this
    exact this
theorem numF_rec {sz : List Nat} {n : Nat} (hp : ∀ x ∈ sz, 1 ≤ x) (h : n < cnt sz) : numF sz (recF sz n) = n := by
  have := num_digs sz.reverse n (fun x hx => hp x (by simpa using hx)) (by rw [cnt_rev]; exact h)
  rw [List.reverse_reverse] at this
  exact this
end Ty

set_option Elab.async false
set_option linter.all false
set_option maxRecDepth 100000
set_option maxHeartbeats 4000000
/-! Whole questions, without a program in sight. -/
namespace Ty
open PySem PySem.Spec PyProof.Rows L2 Mv Pf
def verOf (P : Prog) (rel : Rel) (q : Nat) : Ver := gt (gt P.svs (gt P.qs q).serv).vers (gt rel.vers (gt P.qs q).serv)
def runQ (P : Prog) (rel : Rel) (q arg line : Nat) (got : Int) (recs : List Nat) : Nat × Nat × Out := runV P.qs (verOf P rel q) q arg rel.vals line got (gt recs (gt P.qs q).serv)
def ansLoop (P : Prog) (rel : Rel) (rec : List Nat → Nat → Nat → List Nat × Int) (q arg : Nat) : Nat → List Nat → Nat → Int → List Nat × Int
  | 0, recs, _, _ => (recs, 0)
  | j + 1, recs, line, got => match (runQ P rel q arg line got recs).2.2 with
    | .ans a => (recs.set (gt P.qs q).serv (runQ P rel q arg line got recs).1, a)
    | .ask q' a' => ansLoop P rel rec q arg j (rec (recs.set (gt P.qs q).serv (runQ P rel q arg line got recs).1) q' a').1 (runQ P rel q arg line got recs).2.1 (rec (recs.set (gt P.qs q).serv (runQ P rel q arg line got recs).1) q' a').2
def ansF (P : Prog) (rel : Rel) : Nat → List Nat → Nat → Nat → List Nat × Int
  | 0, recs, _, _ => (recs, 0)
  | k + 1, recs, q, arg => ansLoop P rel (ansF P rel k) q arg 9 recs 0 (-1)
section
variable {P : Prog} {rel : Rel} {rec rec' : List Nat → Nat → Nat → List Nat × Int} {q arg j line : Nat} {recs : List Nat} {got : Int}
theorem ansLoop_ans {a : Int} (h : (runQ P rel q arg line got recs).2.2 = .ans a) : ansLoop P rel rec q arg (j + 1) recs line got = (recs.set (gt P.qs q).serv (runQ P rel q arg line got recs).1, a) := by
  conv => lhs; unfold ansLoop
  rw [h]
theorem ansLoop_ask {q' a' : Nat} (h : (runQ P rel q arg line got recs).2.2 = .ask q' a') : ansLoop P rel rec q arg (j + 1) recs line got =
    ansLoop P rel rec q arg j (rec (recs.set (gt P.qs q).serv (runQ P rel q arg line got recs).1) q' a').1 (runQ P rel q arg line got recs).2.1 (rec (recs.set (gt P.qs q).serv (runQ P rel q arg line got recs).1) q' a').2 := by
  conv => lhs; unfold ansLoop
  rw [h]
end
theorem gt_none {α : Type} [Inhabited α] {l : List α} {i : Nat} (h : l.length ≤ i) : gt l i = default := by
  unfold gt
  rw [List.getD_eq_getElem?_getD, List.getElem?_eq_none h]
  rfl
section
variable {P : Prog} {rel : Rel} (hw : WfD P.sw P.qs P.svs P.rels) (hr : WfRel P.svs P.sw rel)
include hw hr
theorem ver_wf {q : Nat} (hq : q < P.qs.length) : WfVer P.sw P.qs (gt P.qs q).serv (belowOf (gt P.svs (gt P.qs q).serv).vers (gt rel.vers (gt P.qs q).serv)) (verOf P rel q) ∧ gt rel.vers (gt P.qs q).serv < (gt P.svs (gt P.qs q).serv).vers.length ∧ (gt P.qs q).serv < P.svs.length := by
  have hs := (hw.qw _ (gt_mem hq)).1
  have hv := hr.vb _ _ (gt_get (show (gt P.qs q).serv < rel.vers.length by rw [hr.vl]; exact hs))
  exact ⟨(hw.vw _ _ (gt_get hs)).at hv, hv, hs⟩
/-- what a run of a question tells -/
theorem runQ_ok {q arg line : Nat} {got : Int} {recs : List Nat} (hq : q < P.qs.length) :
    (gt (verOf P rel q).hs q = none ∧ runQ P rel q arg line got recs = (gt recs (gt P.qs q).serv, 0, .ans (-1))) ∨
    (∃ rows, gt (verOf P rel q).hs q = some rows ∧ rows.length ≤ 8 ∧ rows.countP (fun l => l.d.isAsk) ≤ 2 ∧ runQ P rel q arg line got recs = runL P.qs q (verOf P rel q).sizes rel.vals arg got (rows.drop line) line (recF (verOf P rel q).sizes (gt recs (gt P.qs q).serv)) ∧
      ((∃ a, (runQ P rel q arg line got recs).2.2 = .ans a ∧ 0 ≤ a ∧ a < (gt P.qs q).ans) ∨
       (∃ q' a', (runQ P rel q arg line got recs).2.2 = .ask q' a' ∧ q' < P.qs.length ∧ (gt P.qs q).serv < (gt P.qs q').serv ∧ a' < (gt P.qs q').args ∧ line < rows.length ∧ line < (runQ P rel q arg line got recs).2.1 ∧ (runQ P rel q arg line got recs).2.1 ≤ rows.length ∧
          (rows.drop (runQ P rel q arg line got recs).2.1).countP (fun l => l.d.isAsk) + 1 ≤ (rows.drop line).countP (fun l => l.d.isAsk)))) := by
  obtain ⟨wv, hv, hs⟩ := ver_wf hw hr hq
  have wh := wv.hw q _ (gt_get (by rw [wv.hl]; exact hq))
  cases hh : gt (verOf P rel q).hs q with
  | none =>
    refine .inl ⟨rfl, ?_⟩
    unfold runQ runV
    rw [hh]
  | some rows =>
    obtain ⟨w1, w2, w3, w4, w5⟩ := wh rows hh
    have hp : ∀ i < (verOf P rel q).sizes.length, 1 ≤ gt (verOf P rel q).sizes i := fun i hi => (wv.sz.2.2 _ (gt_mem hi)).1
    have er : runQ P rel q arg line got recs = runL P.qs q (verOf P rel q).sizes rel.vals arg got (rows.drop line) line (recF (verOf P rel q).sizes (gt recs (gt P.qs q).serv)) := by
      unfold runQ runV
      rw [hh]
    refine .inr ⟨rows, rfl, w3, w5, er, ?_⟩
    have ok := runL_ok (q := q) (ns := 0) (vals := rel.vals) (arg := arg) (got := got) (fun i hi => (hw.qw _ (gt_mem hi)).2.1) (hw.qw _ (gt_mem hq)).2.2.2.1 hp (rows.drop line) line (recF (verOf P rel q).sizes (gt recs (gt P.qs q).serv)) (recF_fit fun x hx => (wv.sz.2.2 x hx).1) (fun l hl => w4 l (List.mem_of_mem_drop hl))
    have key := thru_run (q := q) (vals := rel.vals) (arg := arg) (got := got) (as := []) hp (rows.drop line) line (recF (verOf P rel q).sizes (gt recs (gt P.qs q).serv)) [] (recF_fit fun x hx => (wv.sz.2.2 x hx).1) (fun l hl => w4 l (List.mem_of_mem_drop hl))
    rw [← er] at ok
    rcases key with ⟨a, f2, h1, h2, h3⟩ | ⟨k, q', a, f2, h1, h2, h3, h4, h5⟩
    · rw [← er] at h2
      have e : (runQ P rel q arg line got recs).2.2 = .ans a := by rw [h2]
      exact .inl ⟨a, e, ok.ans a e⟩
    · rw [← er] at h3
      have e : (runQ P rel q arg line got recs).2.2 = .ask q' a := by rw [h3]
      have e2 : (runQ P rel q arg line got recs).2.1 = line + k + 1 := by rw [h3]
      obtain ⟨o1, o2, o3⟩ := ok.ask q' a e
      rw [List.length_drop] at h2
      rw [List.drop_drop, show line + (k + 1) = line + k + 1 by omega, ← e2] at h5
      exact .inr ⟨q', a, e, o1, o2, o3, by omega, by omega, by omega, h5⟩
theorem loop_congr {rec rec' : List Nat → Nat → Nat → List Nat × Int} {q arg : Nat} (hq : q < P.qs.length) (h : ∀ recs q' a', q' < P.qs.length → (gt P.qs q).serv < (gt P.qs q').serv → rec recs q' a' = rec' recs q' a') :
    ∀ (j : Nat) (recs : List Nat) (line : Nat) (got : Int), ansLoop P rel rec q arg j recs line got = ansLoop P rel rec' q arg j recs line got
  | 0, recs, line, got => rfl
  | j + 1, recs, line, got => by
    rcases runQ_ok hw hr (arg := arg) (line := line) (got := got) (recs := recs) hq with ⟨h1, h2⟩ | ⟨rows, h1, h2, h3, h4, h5⟩
    · have e : (runQ P rel q arg line got recs).2.2 = .ans (-1) := by rw [h2]
      rw [ansLoop_ans e, ansLoop_ans e]
    · rcases h5 with ⟨a, e, _⟩ | ⟨q', a', e, e1, e2, _⟩
      · rw [ansLoop_ans e, ansLoop_ans e]
      · rw [ansLoop_ask e, ansLoop_ask e, h _ _ _ e1 e2]
        exact loop_congr hq h j _ _ _
theorem ansF_up : ∀ (k q : Nat) (recs : List Nat) (arg : Nat), q < P.qs.length → P.svs.length - (gt P.qs q).serv ≤ k → ansF P rel k recs q arg = ansF P rel (k + 1) recs q arg
  | 0, q, recs, arg, hq, hk => by
    have := (hw.qw _ (gt_mem hq)).1
    omega
  | k + 1, q, recs, arg, hq, hk => by
    show ansLoop P rel (ansF P rel k) q arg 9 recs 0 (-1) = ansLoop P rel (ansF P rel (k + 1)) q arg 9 recs 0 (-1)
    exact loop_congr hw hr hq (fun recs q' a' h1 h2 => ansF_up k q' recs a' h1 (by omega)) _ _ _ _
theorem loop_keeps {rec : List Nat → Nat → Nat → List Nat × Int} {q arg : Nat} (hq : q < P.qs.length) (h : ∀ recs q' a', q' < P.qs.length → (gt P.qs q).serv < (gt P.qs q').serv → (rec recs q' a').1.length = recs.length ∧ ∀ i < (gt P.qs q').serv, gt (rec recs q' a').1 i = gt recs i) :
    ∀ (j : Nat) (recs : List Nat) (line : Nat) (got : Int), (ansLoop P rel rec q arg j recs line got).1.length = recs.length ∧ ∀ i < (gt P.qs q).serv, gt (ansLoop P rel rec q arg j recs line got).1 i = gt recs i
  | 0, recs, line, got => ⟨rfl, fun _ _ => rfl⟩
  | j + 1, recs, line, got => by
    have hset : ∀ v i, i < (gt P.qs q).serv → gt (recs.set (gt P.qs q).serv v) i = gt recs i := fun v i hi => by
      generalize (gt P.qs q).serv = m at hi
      unfold gt
      rw [List.getD_eq_getElem?_getD, List.getD_eq_getElem?_getD, List.getElem?_set_ne (by omega)]
    rcases runQ_ok hw hr (arg := arg) (line := line) (got := got) (recs := recs) hq with ⟨h1, h2⟩ | ⟨rows, h1, h2, h3, h4, h5⟩
    · have e : (runQ P rel q arg line got recs).2.2 = .ans (-1) := by rw [h2]
      rw [ansLoop_ans e]
      exact ⟨List.length_set .., fun i hi => hset _ i hi⟩
    · rcases h5 with ⟨a, e, _⟩ | ⟨q', a', e, e1, e2, _⟩
      · rw [ansLoop_ans e]
        exact ⟨List.length_set .., fun i hi => hset _ i hi⟩
      · rw [ansLoop_ask e]
        obtain ⟨i1, i2⟩ := loop_keeps hq h j (rec (recs.set (gt P.qs q).serv (runQ P rel q arg line got recs).1) q' a').1 (runQ P rel q arg line got recs).2.1 (rec (recs.set (gt P.qs q).serv (runQ P rel q arg line got recs).1) q' a').2
        obtain ⟨k1, k2⟩ := h (recs.set (gt P.qs q).serv (runQ P rel q arg line got recs).1) q' a' e1 e2
        exact ⟨by rw [i1, k1, List.length_set], fun i hi => by rw [i2 i hi, k2 i (by omega), hset _ i hi]⟩
theorem ansF_keeps : ∀ (k q : Nat) (recs : List Nat) (arg : Nat), q < P.qs.length → (ansF P rel k recs q arg).1.length = recs.length ∧ ∀ i < (gt P.qs q).serv, gt (ansF P rel k recs q arg).1 i = gt recs i
  | 0, q, recs, arg, hq => ⟨rfl, fun _ _ => rfl⟩
  | k + 1, q, recs, arg, hq => loop_keeps hw hr hq (fun recs q' a' h1 h2 => ansF_keeps k q' recs a' h1) 9 recs 0 (-1)
/-- the answer, if the lines suffice -/
theorem loop_ans {rec : List Nat → Nat → Nat → List Nat × Int} {q arg : Nat} (hq : q < P.qs.length) {rows : List Line} (hh : gt (verOf P rel q).hs q = some rows) :
    ∀ (j : Nat) (recs : List Nat) (line : Nat) (got : Int), rows.length - line < j → 0 ≤ (ansLoop P rel rec q arg j recs line got).2 ∧ (ansLoop P rel rec q arg j recs line got).2 < (gt P.qs q).ans
  | 0, recs, line, got, h => by omega
  | j + 1, recs, line, got, h => by
    rcases runQ_ok hw hr (arg := arg) (line := line) (got := got) (recs := recs) hq with ⟨h1, h2⟩ | ⟨rows', h1, h2, h3, h4, h5⟩
    · rw [h1] at hh; cases hh
    · rw [hh] at h1
      cases h1
      rcases h5 with ⟨a, e, b1, b2⟩ | ⟨q', a', e, e1, e2, e3, e4, e5, e6, _⟩
      · rw [ansLoop_ans e]
        exact ⟨b1, b2⟩
      · rw [ansLoop_ask e]
        exact loop_ans hq hh j _ _ _ (by omega)
theorem ansF_ans {k q arg : Nat} {recs : List Nat} (hq : q < P.qs.length) :
    (gt (verOf P rel q).hs q = none ∧ ansF P rel (k + 1) recs q arg = (recs, -1)) ∨ (∃ rows, gt (verOf P rel q).hs q = some rows ∧ 0 ≤ (ansF P rel (k + 1) recs q arg).2 ∧ (ansF P rel (k + 1) recs q arg).2 < (gt P.qs q).ans) := by
  rcases runQ_ok hw hr (arg := arg) (line := 0) (got := -1) (recs := recs) hq with ⟨h1, h2⟩ | ⟨rows, h1, h2, h3, h4, h5⟩
  · refine .inl ⟨h1, ?_⟩
    have e : (runQ P rel q arg 0 (-1) recs).2.2 = .ans (-1) := by rw [h2]
    show ansLoop P rel (ansF P rel k) q arg 9 recs 0 (-1) = _
    rw [ansLoop_ans e, h2]
    dsimp only
    have : recs.set (gt P.qs q).serv (gt recs (gt P.qs q).serv) = recs := by
      apply List.ext_getElem?
      intro i
      rw [List.getElem?_set]
      split
      · rename_i e
        subst e
        split
        · rename_i hi; exact (gt_get hi).symm
        · rename_i hi; rw [List.getElem?_eq_none (by omega)]
      · rfl
    rw [this]
  · exact .inr ⟨rows, h1, loop_ans hw hr hq h1 9 recs 0 (-1) (by omega)⟩
end
end Ty

set_option Elab.async false
set_option linter.all false
set_option maxRecDepth 100000
set_option maxHeartbeats 4000000
/-! Plans, states of the machine, acts: typed, and how they are written as values. -/
namespace Ty
open PySem PySem.Spec PyProof.Rows L2 Mv Pf
inductive Stp where
  | raise (s i v : Nat) | move (s v : Nat) | drained (s v : Nat) | flip (k v : Nat) | turn (r : Nat) | turned | final
  deriving DecidableEq, Inhabited
def eStp : Stp → MV
  | .raise s i v => .tup [.str "raise", .int (s : Int), .int (i : Int), .int (v : Int)]
  | .move s v => .tup [.str "move", .int (s : Int), .int (v : Int)]
  | .drained s v => .tup [.str "drained", .int (s : Int), .int (v : Int)]
  | .flip k v => .tup [.str "flip", .int (k : Int), .int (v : Int)]
  | .turn r => .tup [.str "turn", .int (r : Int)]
  | .turned => .tup [.str "turned"]
  | .final => .tup [.str "final"]
def WfStp (sw : Nat) (svs : List Serv) (nr : Nat) : Stp → Prop
  | .raise s i v => s < svs.length ∧ v < (gt svs s).vers.length ∧ i < (gt svs s).inst
  | .move s v => s < svs.length ∧ v < (gt svs s).vers.length
  | .drained s v => s < svs.length ∧ v < (gt svs s).vers.length
  | .flip k v => k < sw ∧ v < 2
  | .turn r => r < nr
  | _ => True
/-- the turns: index, the open turn's start and release, the steps that are left -/
def turnsL : Nat → Option (Nat × Nat) → List Stp → Option (List (Nat × Nat × Nat))
  | _, none, [] => some []
  | _, some _, [] => none
  | i, none, .turn r :: l => turnsL (i + 1) (some (i, r)) l
  | _, some _, .turn _ :: _ => none
  | i, some (s, r), .turned :: l => (turnsL (i + 1) none l).map ((s, i, r) :: ·)
  | _, none, .turned :: _ => none
  | i, o, _ :: l => turnsL (i + 1) o l
structure Pln where
  steps : List Stp
  turns : List (Nat × Nat × Nat)
  undo : Bool
  deriving Inhabited
structure WfPln (P : Prog) (pl : Pln) : Prop where
  n8 : pl.steps.length ≤ 8
  ws : ∀ s ∈ pl.steps, WfStp P.sw P.svs P.rels.length s
  tn : turnsL 0 none pl.steps = some pl.turns
def eTurn (t : Nat × Nat × Nat) : MV := .tup [.int (t.1 : Int), .int (t.2.1 : Int), .int (t.2.2 : Int)]
def planF (p : Addr) (pl : Pln) : List (String × MV) := [("turns", .tup (pl.turns.map eTurn)), ("program", .ref p), ("steps", .tup (pl.steps.map eStp)), ("undo", .bl pl.undo)]
/-! messages, works, instances, states -/
structure Msg where
  q : Nat
  arg : Nat
  k : Nat
  a : Nat
  b : Nat
  deriving DecidableEq, Inhabited
structure Wrk where
  q : Nat
  arg : Nat
  line : Nat
  got : Int
  w : Nat
  k : Nat
  a : Nat
  b : Nat
  deriving DecidableEq, Inhabited
structure Ins where
  ver : Nat
  work : Option Wrk
  qu : List Msg
  deriving DecidableEq, Inhabited
structure Wst where
  place : Nat
  back : Nat
  vals : List Nat
  recs : List (Nat × Nat)
  rows : List (List Ins)
  clients : List (Option (Nat × Nat × Nat))
  asked : Nat
  l0 : Nat
  l1 : Nat
  l2 : Nat
  deriving DecidableEq, Inhabited
def eMsg (m : Msg) : MV := .tup [.int (m.q : Int), .int (m.arg : Int), .int (m.k : Int), .int (m.a : Int), .int (m.b : Int)]
def eWrk (m : Wrk) : MV := .tup [.int (m.q : Int), .int (m.arg : Int), .int (m.line : Int), .int m.got, .int (m.w : Int), .int (m.k : Int), .int (m.a : Int), .int (m.b : Int)]
def eIns (i : Ins) : MV := .tup [.int (i.ver : Int), eO eWrk i.work, eL eMsg i.qu]
def eRec (r : Nat × Nat) : MV := .tup [.int (r.1 : Int), .int (r.2 : Int)]
def eCl (c : Nat × Nat × Nat) : MV := .tup [.int (c.1 : Int), .int (c.2.1 : Int), .int (c.2.2 : Int)]
def eLeft (s : Wst) : MV := .tup [.int (s.l0 : Int), .int (s.l1 : Int), .int (s.l2 : Int)]
def eWst (s : Wst) : MV := .tup [.int (s.place : Int), .int (s.back : Int), eL eI s.vals, eL eRec s.recs, eL (eL eIns) s.rows, eL (eO eCl) s.clients, .int (s.asked : Int), eLeft s]
inductive Act where
  | ask (c q arg i : Nat) | take (s i : Nat) (t : Int) | go (s i : Nat) (t : Int) | lose (s i k : Nat) | double (s i k : Nat) | crash (s i : Nat) | step | turnback | unstep
  deriving DecidableEq, Inhabited
def eAct : Act → MV
  | .ask c q a i => .tup [.str "ask", .int (c : Int), .int (q : Int), .int (a : Int), .int (i : Int)]
  | .take s i t => .tup [.str "take", .int (s : Int), .int (i : Int), .int t]
  | .go s i t => .tup [.str "go", .int (s : Int), .int (i : Int), .int t]
  | .lose s i k => .tup [.str "lose", .int (s : Int), .int (i : Int), .int (k : Int)]
  | .double s i k => .tup [.str "double", .int (s : Int), .int (i : Int), .int (k : Int)]
  | .crash s i => .tup [.str "crash", .int (s : Int), .int (i : Int)]
  | .step => .tup [.str "step"]
  | .turnback => .tup [.str "turnback"]
  | .unstep => .tup [.str "unstep"]
/-! the pure machine: what is allowed -/
def Wst.ins (st : Wst) (s i : Nat) : Ins := gt (gt st.rows s) i
def Wst.room (st : Wst) (s i : Nat) : Bool := decide ((st.ins s i).qu.length < 2)
/-- question, argument, line, answer of an instance's next run -/
def Ins.head (x : Ins) : Nat × Nat × Nat × Int := match x.work with
  | some w => (w.q, w.arg, w.line, w.got)
  | none => ((gt x.qu 0).q, (gt x.qu 0).arg, 0, -1)
def segF (P : Prog) (st : Wst) (s i : Nat) : Option Nat × Nat × Out :=
  let x := st.ins s i
  let h := x.head
  let v := gt (gt P.svs s).vers x.ver
  match gt v.hs h.1 with
  | none => (none, 0, .ans (-1))
  | some _ =>
    let r := gt st.recs s
    let o := runV P.qs v h.1 h.2.1 st.vals h.2.2.1 h.2.2.2 (conv (gt P.svs s).vers r.1 x.ver r.2)
    (some o.1, o.2.1, o.2.2)
def targF (P : Prog) (st : Wst) (s i : Nat) : List Int := match (segF P st s i).2.2 with
  | .ans _ => [-1]
  | .ask q _ => ((List.range (gt st.rows (gt P.qs q).serv).length).filter fun j => st.room (gt P.qs q).serv j).map fun (j : Nat) => (j : Int)
def askF (P : Prog) (st : Wst) : List Act := if P.asks ≤ st.asked then [] else
  (List.range st.clients.length).flatMap fun c => if gt st.clients c = none then
    (List.range P.qs.length).flatMap fun q => (List.range (gt P.qs q).args).flatMap fun a => ((List.range (gt st.rows (gt P.qs q).serv).length).filter fun i => st.room (gt P.qs q).serv i).map fun i => .ask c q a i
  else []
def placesF (st : Wst) : List (Nat × Nat) := (List.range st.rows.length).flatMap fun s => (List.range (gt st.rows s).length).map fun i => (s, i)
def takesF (P : Prog) (st : Wst) : List Act := (placesF st).flatMap fun p => if (st.ins p.1 p.2).work = none ∧ (st.ins p.1 p.2).qu ≠ [] then (targF P st p.1 p.2).map fun t => .take p.1 p.2 t else []
def goesF (P : Prog) (st : Wst) : List Act := (placesF st).flatMap fun p => match (st.ins p.1 p.2).work with
  | some w => if w.w = 0 then (targF P st p.1 p.2).map fun t => .go p.1 p.2 t else []
  | none => []
def losesF (st : Wst) : List Act := (placesF st).flatMap fun p => ((List.range (st.ins p.1 p.2).qu.length).filter fun k => decide ((gt (st.ins p.1 p.2).qu k).k = 0) && decide (0 < st.l0)).map fun k => .lose p.1 p.2 k
def doublesF (st : Wst) : List Act := (placesF st).flatMap fun p => ((List.range (st.ins p.1 p.2).qu.length).filter fun k => decide ((gt (st.ins p.1 p.2).qu k).k = 0) && decide (0 < st.l1) && st.room p.1 p.2).map fun k => .double p.1 p.2 k
def crashesF (st : Wst) : List Act := (placesF st).flatMap fun p => if 0 < st.l2 ∧ ((st.ins p.1 p.2).work ≠ none ∨ (st.ins p.1 p.2).qu ≠ []) then [.crash p.1 p.2] else []
def readyF (st : Wst) : Stp → Bool
  | .raise s i _ => decide ((st.ins s i).work = none)
  | .drained s v => (gt st.rows s).all fun x => !(decide (x.ver = v) && (decide (x.work ≠ none) || decide (x.qu ≠ [])))
  | _ => true
def fixedF (pl : Pln) (n : Nat) : Nat := ((List.range n).filter fun i => decide (gt pl.steps i = .final)).foldl (fun _ i => i + 1) 0
def isRaise : Stp → Bool
  | .raise .. => true
  | _ => false
def plansF (pl : Pln) (st : Wst) : List Act := if st.back = 1 then
    (if fixedF pl st.place < st.place ∧ (isRaise (gt pl.steps (st.place - 1)) = false ∨ readyF st (gt pl.steps (st.place - 1)) = true) then [.unstep] else [])
  else (if st.place < pl.steps.length ∧ readyF st (gt pl.steps st.place) = true then [.step] else []) ++ (if pl.undo = true ∧ fixedF pl st.place < st.place then [.turnback] else [])
def actsF (P : Prog) (pl : Pln) (st : Wst) : List Act := askF P st ++ (takesF P st ++ goesF P st) ++ (losesF st ++ doublesF st ++ crashesF st) ++ plansF pl st
/-! the first state -/
def startF (P : Prog) : Wst := ⟨0, 0, (gt P.rels 0).vals, (gt P.rels 0).vers.map fun v => (v, 0), (List.range (gt P.rels 0).vers.length).map fun s => List.replicate (gt P.svs s).inst ⟨gt (gt P.rels 0).vers s, none, []⟩, List.replicate P.clients none, 0, P.losses, P.doubles, P.crashes⟩
/-! what a right state is (the parts that acts asks of it) -/
structure WfMsg (P : Prog) (s : Nat) (q : Nat) : Prop where
  lt : q < P.qs.length
  sv : (gt P.qs q).serv = s
structure WfIns (P : Prog) (s : Nat) (x : Ins) : Prop where
  v : x.ver < (gt P.svs s).vers.length
  n2 : x.qu.length ≤ 2
  m : ∀ m ∈ x.qu, WfMsg P s m.q
  w : ∀ w, x.work = some w → WfMsg P s w.q ∧ ∀ rows, gt (gt (gt P.svs s).vers x.ver).hs w.q = some rows → w.line ≤ rows.length
structure WfWst (P : Prog) (pl : Pln) (st : Wst) : Prop where
  place : st.place ≤ pl.steps.length
  back : st.back ≤ 1
  vl : st.vals.length = P.sw
  rl : st.recs.length = P.svs.length
  rw : ∀ s < P.svs.length, (gt st.recs s).1 < (gt P.svs s).vers.length ∧ (gt st.recs s).2 < cnt (gt (gt P.svs s).vers (gt st.recs s).1).sizes
  il : st.rows.length = P.svs.length
  jl : ∀ s < P.svs.length, (gt st.rows s).length = (gt P.svs s).inst
  iw : ∀ s < P.svs.length, ∀ i < (gt P.svs s).inst, WfIns P s (st.ins s i)
  cl : st.clients.length = P.clients
end Ty

set_option Elab.async false
set_option linter.all false
set_option maxRecDepth 100000
set_option maxHeartbeats 4000000
/-! The opened world in the store: an overlay over the rest. -/
namespace Ty
open PySem PySem.Spec PyProof.Rows L2 Mv Pf
inductive Sl where
  | w | sw | rc | rs | cl | bd | row (i : Nat) | ins (i j : Nat) | qu (i j : Nat)
  deriving DecidableEq
structure WA where
  addr : Sl → Addr
  tag : Addr → Option Sl
/-- the content: a state, and the queues that were replaced by new lists (their old ones lie about) -/
structure WV where
  st : Wst
  fz : Nat → Nat → Option (List Msg)
def queM (A : Sl → Addr) (v : WV) (i j : Nat) : MV := match v.fz i j with
  | none => .ref (A (.qu i j))
  | some _ => .frz ((v.st.ins i j).qu.map eMsg)
def insM (A : Sl → Addr) (v : WV) (i j : Nat) : List MV := [.int ((v.st.ins i j).ver : Int), eO eWrk (v.st.ins i j).work, queM A v i j]
def worldF (A : Sl → Addr) (p pl : Addr) (v : WV) : List (String × MV) := [("program", .ref p), ("plan", .ref pl), ("place", .int (v.st.place : Int)), ("back", .int (v.st.back : Int)), ("switches", .ref (A .sw)), ("records", .ref (A .rc)), ("instances", .ref (A .rs)), ("clients", .ref (A .cl)), ("asked", .int (v.st.asked : Int)), ("budgets", .ref (A .bd))]
def objW (A : Sl → Addr) (p pl : Addr) (v : WV) : Sl → MO
  | .w => .ins "World" (worldF A p pl v)
  | .sw => .lst (v.st.vals.map eI)
  | .rc => .lst (v.st.recs.map eRec)
  | .rs => .lst ((List.range v.st.rows.length).map fun i => MV.ref (A (.row i)))
  | .cl => .lst (v.st.clients.map (eO eCl))
  | .bd => .lst [.int (v.st.l0 : Int), .int (v.st.l1 : Int), .int (v.st.l2 : Int)]
  | .row i => .lst ((List.range (gt v.st.rows i).length).map fun j => MV.ref (A (.ins i j)))
  | .ins i j => .lst (insM A v i j)
  | .qu i j => .lst ((match v.fz i j with
    | none => (v.st.ins i j).qu
    | some l => l).map eMsg)
def Wd (A : WA) (p pl : Addr) (v : WV) (S : Sto) : Sto := fun x => match A.tag x with
  | some s => some (objW A.addr p pl v s)
  | none => S x
/-- the slots of V have their own fresh places -/
structure BOk (A : WA) (V : Sl → Prop) (S : Sto) : Prop where
  ta : ∀ s, V s → A.tag (A.addr s) = some s
  at_ : ∀ x s, A.tag x = some s → A.addr s = x ∧ V s
  fr : ∀ x s, A.tag x = some s → S x = none
section
variable {A : WA} {V : Sl → Prop} {p pl r : Addr} {v v' : WV} {S : Sto} {s : Sl} {o : MO}
theorem Wd_at (h : BOk A V S) (hs : V s) : Wd A p pl v S (A.addr s) = some (objW A.addr p pl v s) := by
  unfold Wd
  rw [h.ta s hs]
theorem BOk.un (h : BOk A V S) {x : Addr} {o : MO} (e : S x = some o) : A.tag x = none := by
  cases ht : A.tag x with
  | none => rfl
  | some t => rw [h.fr x t ht] at e; cases e
theorem Wd_un {x : Addr} (h : A.tag x = none) : Wd A p pl v S x = S x := by
  unfold Wd
  rw [h]
theorem Wd_rest (h : BOk A V S) {x : Addr} {o : MO} (e : S x = some o) : Wd A p pl v S x = some o := by
  rw [Wd_un (h.un e), e]
theorem Wd_free {x : Addr} (h : Wd A p pl v S x = none) : A.tag x = none ∧ S x = none := by
  unfold Wd at h
  cases ht : A.tag x with
  | none => rw [ht] at h; exact ⟨rfl, h⟩
  | some t => rw [ht] at h; cases h
theorem Wd_put (h : A.tag r = none) : supd (Wd A p pl v S) r o = Wd A p pl v (supd S r o) := by
  funext x
  unfold supd Wd
  by_cases e : x = r
  · subst e; simp [h]
  · simp [e]
theorem BOk.put (h : BOk A V S) (hr : A.tag r = none) : BOk A V (supd S r o) := ⟨h.ta, h.at_, fun x t e => by
  have : x ≠ r := fun z => by subst z; rw [hr] at e; cases e
  rw [Mv.supd_ne this]
  exact h.fr x t e⟩
theorem Wd_le (h : BOk A V S) : ∀ a u, S a = some u → Wd A p pl v S a = some u := fun a u e => Wd_rest h e
theorem newW {k : List MV} {R : MK} (hR : ∀ r, A.tag r = none → S r = none → R (.ref r) (Wd A p pl v (supd S r (.lst k)))) : newL k (Wd A p pl v S) R := fun r hr => by
  obtain ⟨h1, h2⟩ := Wd_free hr
  rw [Wd_put h1]
  exact hR r h1 h2
theorem Wd_set (h : BOk A V S) (hs : V s) (e1 : objW A.addr p pl v' s = o) (e2 : ∀ t, t ≠ s → V t → objW A.addr p pl v' t = objW A.addr p pl v t) : supd (Wd A p pl v S) (A.addr s) o = Wd A p pl v' S := by
  funext x
  unfold supd Wd
  by_cases e : x = A.addr s
  · subst e
    rw [if_pos rfl, h.ta s hs]
    exact congrArg some e1.symm
  · rw [if_neg e]
    cases ht : A.tag x with
    | none => rfl
    | some t =>
      have := h.at_ x t ht
      exact congrArg some (e2 t (fun z => by subst z; exact e this.1.symm) this.2).symm
def WA.add (A : WA) (s : Sl) (r : Addr) : WA := ⟨fun t => if t = s then r else A.addr t, fun x => if x = r then some s else A.tag x⟩
theorem add_put (h : BOk A V S) (hr : A.tag r = none) (e1 : objW (A.add s r).addr p pl v s = o) (e2 : ∀ t, V t → objW (A.add s r).addr p pl v t = objW A.addr p pl v t) : supd (Wd A p pl v S) r o = Wd (A.add s r) p pl v S := by
  funext x
  show (if x = r then some o else Wd A p pl v S x) = _
  unfold Wd WA.add
  by_cases e : x = r
  · subst e
    simp only [if_true]
    rw [← e1]
    rfl
  · simp only [e, if_false]
    cases ht : A.tag x with
    | none => rfl
    | some t =>
      exact congrArg some (e2 t (h.at_ x t ht).2).symm
theorem add_ok (h : BOk A V S) (hr : A.tag r = none) (hS : S r = none) (hs : ¬ V s) : BOk (A.add s r) (fun t => V t ∨ t = s) S where
  ta := fun t ht => by
    unfold WA.add
    dsimp only
    by_cases e : t = s
    · rw [if_pos e, if_pos rfl, e]
    · rw [if_neg e]
      have hv := ht.resolve_right e
      have : A.addr t ≠ r := fun z => by have := h.ta t hv; rw [z, hr] at this; cases this
      rw [if_neg this]
      exact h.ta t hv
  at_ := fun x t e => by
    unfold WA.add at e ⊢
    dsimp only at e ⊢
    by_cases hx : x = r
    · rw [if_pos hx] at e
      cases e
      exact ⟨by rw [if_pos rfl, hx], .inr rfl⟩
    · rw [if_neg hx] at e
      obtain ⟨h1, h2⟩ := h.at_ x t e
      have : t ≠ s := fun z => by subst z; exact hs h2
      exact ⟨by rw [if_neg this]; exact h1, .inl h2⟩
  fr := fun x t e => by
    unfold WA.add at e
    dsimp only at e
    by_cases hx : x = r
    · rw [hx]; exact hS
    · rw [if_neg hx] at e
      exact h.fr x t e
theorem BOk.iff (h : BOk A V S) {V' : Sl → Prop} (e : ∀ t, V t ↔ V' t) : BOk A V' S := ⟨fun s hs => h.ta s ((e s).mpr hs), fun x s ht => ⟨(h.at_ x s ht).1, (e s).mp (h.at_ x s ht).2⟩, h.fr⟩
theorem Wd_nil {a : Sl → Addr} : Wd ⟨a, fun _ => none⟩ p pl v S = S := rfl
theorem bok_nil {a : Sl → Addr} : BOk ⟨a, fun _ => none⟩ (fun _ => False) S := ⟨fun s h => h.elim, fun x s e => (by cases e), fun x s e => (by cases e)⟩
end
theorem add_same {A : WA} {s : Sl} {r : Addr} : (A.add s r).addr s = r := if_pos rfl
theorem add_other {A : WA} {s t : Sl} {r : Addr} (h : t ≠ s) : (A.add s r).addr t = A.addr t := if_neg h
end Ty

set_option Elab.async false
set_option linter.all false
set_option maxRecDepth 100000
set_option maxHeartbeats 4000000
/-! Opening a world: place by place. -/
namespace Ty
open PySem PySem.Spec PyProof.Rows L2 Mv Pf
section
variable {A : WA} {V : Sl → Prop} {p pl r w : Addr} {v v' : WV} {S : Sto} {s : Sl} {ow : MO}
theorem newWw {k : List MV} {R : MK} (s : Sl) (h : BOk A V S) (hwt : A.tag w = none) (hs : ¬ V s) (e1 : ∀ r, objW (A.add s r).addr p pl v s = .lst k) (e2 : ∀ r t, V t → objW (A.add s r).addr p pl v t = objW A.addr p pl v t)
    (hR : ∀ r, r ≠ w → BOk (A.add s r) (fun t => V t ∨ t = s) S → (A.add s r).tag w = none → R (.ref r) (supd (Wd (A.add s r) p pl v S) w ow)) : newL k (supd (Wd A p pl v S) w ow) R := fun r hr => by
  have hrw : r ≠ w := fun z => by subst z; rw [Mv.supd_same] at hr; cases hr
  rw [Mv.supd_ne hrw] at hr
  obtain ⟨h1, h2⟩ := Wd_free hr
  rw [supd_comm hrw, add_put h h1 (e1 r) (e2 r)]
  refine hR r hrw (add_ok h h1 h2 hs) ?_
  unfold WA.add
  dsimp only
  rw [if_neg (fun z => hrw z.symm)]
  exact hwt
end
/-- what is laid when rows < i, and in row i the instances < j, are laid -/
def Vis (st : Wst) (i j : Nat) : Sl → Prop
  | .sw => True
  | .rc => True
  | .row a => a < i
  | .ins a b => (a < i ∧ b < (gt st.rows a).length) ∨ (a = i ∧ b < j)
  | .qu a b => (a < i ∧ b < (gt st.rows a).length) ∨ (a = i ∧ b < j)
  | _ => False
section
variable {A : WA} {p pl r w : Addr} {st : Wst} {i j : Nat} {S : Sto}
def wv0 (st : Wst) : WV := ⟨st, fun _ _ => none⟩
theorem vis_qu {r : Addr} : ∀ t, Vis st i j t → objW (A.add (.qu i j) r).addr p pl (wv0 st) t = objW A.addr p pl (wv0 st) t := fun t ht => by
  cases t with
  | w => exact ht.elim
  | sw => rfl
  | rc => rfl
  | rs => exact ht.elim
  | cl => exact ht.elim
  | bd => exact ht.elim
  | row a => rfl
  | ins a b =>
    have e : (A.add (.qu i j) r).addr (.qu a b) = A.addr (.qu a b) := add_other fun z => by
      cases z
      rcases ht with h | h <;> omega
    show MO.lst [_, _, .ref ((A.add (.qu i j) r).addr (.qu a b))] = MO.lst [_, _, .ref (A.addr (.qu a b))]
    rw [e]
  | qu a b => rfl
theorem vis_ins {r : Addr} : ∀ t, (Vis st i j t ∨ t = .qu i j) → objW (A.add (.ins i j) r).addr p pl (wv0 st) t = objW A.addr p pl (wv0 st) t := fun t ht => by
  rcases ht with ht | rfl
  · cases t with
    | w => exact ht.elim
    | sw => rfl
    | rc => rfl
    | rs => exact ht.elim
    | cl => exact ht.elim
    | bd => exact ht.elim
    | row a =>
      have ha : a < i := ht
      have e : (List.range (gt st.rows a).length).map (fun b => MV.ref ((A.add (.ins i j) r).addr (.ins a b))) = (List.range (gt st.rows a).length).map fun b => MV.ref (A.addr (.ins a b)) := List.map_congr_left fun b _ => by
        rw [add_other fun z => by cases z; omega]
      exact congrArg MO.lst e
    | ins a b => rfl
    | qu a b => rfl
  · rfl
theorem vis_ins_next : ∀ t, ((Vis st i j t ∨ t = .qu i j) ∨ t = .ins i j) ↔ Vis st i (j + 1) t := fun t => by
  cases t with
  | ins a b =>
    show ((((a < i ∧ _) ∨ (a = i ∧ b < j)) ∨ _) ∨ _) ↔ ((a < i ∧ _) ∨ (a = i ∧ b < j + 1))
    simp only [Sl.ins.injEq, reduceCtorEq, or_false]
    constructor
    · rintro ((h | h) | h)
      · exact .inl h
      · exact .inr ⟨h.1, by omega⟩
      · exact .inr ⟨h.1, by omega⟩
    · rintro (h | h)
      · exact .inl (.inl h)
      · by_cases e : b = j
        · exact .inr ⟨h.1, e⟩
        · exact .inl (.inr ⟨h.1, by omega⟩)
  | qu a b =>
    show ((((a < i ∧ _) ∨ (a = i ∧ b < j)) ∨ _) ∨ _) ↔ ((a < i ∧ _) ∨ (a = i ∧ b < j + 1))
    simp only [Sl.qu.injEq, reduceCtorEq, or_false]
    constructor
    · rintro ((h | h) | h)
      · exact .inl h
      · exact .inr ⟨h.1, by omega⟩
      · exact .inr ⟨h.1, by omega⟩
    · rintro (h | h)
      · exact .inl (.inl h)
      · by_cases e : b = j
        · exact .inr ⟨h.1, e⟩
        · exact .inl (.inr ⟨h.1, by omega⟩)
  | row a => simp [Vis]
  | w => simp [Vis]
  | sw => simp [Vis]
  | rc => simp [Vis]
  | rs => simp [Vis]
  | cl => simp [Vis]
  | bd => simp [Vis]
theorem vis_row {r : Addr} : ∀ t, Vis st i j t → objW (A.add (.row i) r).addr p pl (wv0 st) t = objW A.addr p pl (wv0 st) t := fun t ht => by
  cases t with
  | rs => exact ht.elim
  | w => exact ht.elim
  | row a => rfl
  | ins a b => rfl
  | _ => rfl
theorem vis_row_next : ∀ t, (Vis st i (gt st.rows i).length t ∨ t = .row i) ↔ Vis st (i + 1) 0 t := fun t => by
  cases t with
  | ins a b =>
    show (((a < i ∧ b < _) ∨ (a = i ∧ b < _)) ∨ _) ↔ ((a < i + 1 ∧ b < _) ∨ (a = i + 1 ∧ b < 0))
    simp only [reduceCtorEq, or_false]
    constructor
    · rintro (h | ⟨rfl, h⟩)
      · exact .inl ⟨by omega, h.2⟩
      · exact .inl ⟨by omega, h⟩
    · rintro (h | h)
      · by_cases e : a = i
        · subst e; exact .inr ⟨rfl, h.2⟩
        · exact .inl ⟨by omega, h.2⟩
      · omega
  | qu a b =>
    show (((a < i ∧ b < _) ∨ (a = i ∧ b < _)) ∨ _) ↔ ((a < i + 1 ∧ b < _) ∨ (a = i + 1 ∧ b < 0))
    simp only [reduceCtorEq, or_false]
    constructor
    · rintro (h | ⟨rfl, h⟩)
      · exact .inl ⟨by omega, h.2⟩
      · exact .inl ⟨by omega, h⟩
    · rintro (h | h)
      · by_cases e : a = i
        · subst e; exact .inr ⟨rfl, h.2⟩
        · exact .inl ⟨by omega, h.2⟩
      · omega
  | row a =>
    show ((a < i) ∨ _) ↔ a < i + 1
    simp only [Sl.row.injEq]
    omega
  | w => simp [Vis]
  | sw => simp [Vis]
  | rc => simp [Vis]
  | rs => simp [Vis]
  | cl => simp [Vis]
  | bd => simp [Vis]
end
/-- all places of an opened world -/
def Vall (st : Wst) : Sl → Prop
  | .row a => a < st.rows.length
  | .ins a b => a < st.rows.length ∧ b < (gt st.rows a).length
  | .qu a b => a < st.rows.length ∧ b < (gt st.rows a).length
  | _ => True
end Ty

set_option Elab.async false
set_option linter.all false
set_option maxRecDepth 100000
set_option maxHeartbeats 4000000
local macro_rules
  | `(tactic| exists $ts,*) => `(tactic| simp (implicitDefEqProofs := false) (disch := first | assumption | omega | (simp only [Pf.l_lenS, Pf.l_len0, Pf.l_len_map, Ty.k_value, Ty.k_arg, Ty.k_got, Ty.k_field, Ty.k_switch, Ty.k_eq, Ty.k_ne, Ty.k_lt, Ty.k_set, Ty.k_add, Ty.k_ask, Ty.k_answer, Ty.k_lose, Ty.k_double, Ty.k_crash, Ty.k_take, Ty.k_go, Ty.k_step, Ty.k_turnback, Ty.k_unstep, Ty.k_raise, Ty.k_flip, Ty.k_move, Ty.k_turn, Ty.k_turned, Ty.k_drained, Ty.k_final, Ty.k_asked, Ty.k_answered, Ty.k_returned, Ty.k_one, Ty.k_notone, Ty.k_many, Ty.k_from, Ty.k_never, Ty.k_instance, Ty.k_release] <;> omega)) only [Pf.kOpt_some, Pf.look_ap, Pf.lkO_l, Pf.lkO_r, Pf.var_ap, Pf.c_ap, Pf.op_ap, Pf.op1_ap, Pf.op2_ap, Pf.tst_ap, Pf.kB_ap, Pf.asB_ap, Pf.kTo_some, Pf.tru_ap, Pf.kTru_ap, Pf.truB_bl, Pf.truB_non, Pf.truB_int, Pf.truB_tup, Pf.truB_frz, Pf.andV_ap, Pf.kAndV_ap, Pf.kAndB_t, Pf.kAndB_f, Pf.orV_ap, Pf.kOrV_ap, Pf.kOrB_t, Pf.kOrB_f, Pf.notV_ap, Pf.kNotV_ap, Pf.kNotB_ap, Pf.and_ap, Pf.kAnd_t, Pf.kAnd_f, Pf.or_ap, Pf.kOr_t, Pf.kOr_f, Pf.not_ap, Pf.kNot_ap, Pf.if_ap, Pf.kIf_t, Pf.kIf_f, Pf.un_ap, Pf.kUn_ap, Pf.neg_ap, Pf.chain_ap, Pf.kCh1_ap, Pf.kCh2_ap, Pf.kCh3_t, Pf.kCh3_f, Pf.maNil_ap, Pf.maCons_ap, Pf.kArg_ap, Pf.kArg2_ap, Pf.tup_ap, Pf.kTup_ap, Pf.lst_ap, Pf.kLst_ap, Pf.call_ap, Pf.kCall_ap, Pf.cb_ap, Pf.kCB_ap, Pf.isi_ap, Pf.kIsi_ap, Pf.kIsi2_some, Pf.tyN_int, Pf.tyN_bl, Pf.tyN_non, Pf.tyN_str, Pf.tyN_tup, Pf.tyN_frz, Pf.tyB_ii, Pf.tyB_ib, Pf.tyB_bi, Pf.tyB_bb, Pf.tyB_tt, Pf.bm_ap, Pf.kBM_ap, Pf.kBM2_ap, Pf.msNil_ap, Pf.seq_ap, Pf.nx_mk, Pf.rt_mk, Pf.bk_mk, Pf.ct_mk, Pf.ret_ap, Pf.retN_ap, Pf.brk_ap, Pf.cont_ap, Pf.set_ap, Pf.kSet_ap, Pf.expr_ap, Pf.kDrop_ap, Pf.ifS_ap, Pf.kIfS_t, Pf.kIfS_f, Pf.sub_ap, Pf.kSub1_ap, Pf.kSub2_ap, Pf.kSub3_ap, Pf.defW_ap, Pf.add_ii, Pf.add_tt, Pf.sub_ii, Pf.mul_lt, Pf.mul_rt, Pf.mod_ii, Pf.fdiv_ii, Pf.lt_ii, Pf.le_ii, Pf.gt_ii, Pf.ge_ii, Pf.bId_ap, Pf.eq_ap, Pf.ne_ap, Pf.kEq_some, Pf.dat_int, Pf.dat_bl, Pf.dat_non, Pf.dat_str, Pf.dat_tup, Pf.eqv_ii, Pf.eqv_ss, Pf.eqv_bb, Pf.kO_some, Pf.ix_t, Pf.kL_some, Pf.at_0, Pf.at_1, Pf.at_2, Pf.at_3, Pf.at_4, Pf.at_5, Pf.len_t, Pf.list_t, Pf.list_f, Pf.tuple_t, Pf.int_i, Pf.int_b, Pf.l_set0, Pf.l_setS, Pf.l_get0, Pf.l_getS, Pf.l_len0, Pf.l_lenS, Pf.l_app0, Pf.l_appS, Pf.l_map0, Pf.l_mapS, Pf.l_len_map, Pf.l_rep0, Pf.l_repS, Pf.start_ap, Pf.wipe_nil, Pf.wipe_cons, Pf.sd_same, Pf.sd_ne, Pf.supd_supd, Pf.o_map_some, Pf.ixN_nat, Pf.ixN_0, Pf.ixN_1, Pf.ixN_2, Pf.ixN_3, Pf.for_ap, Pf.kFor_ap, Pf.iter_ap, Pf.kIter_t, Pf.kIter_f, Pf.rng1_ap, Pf.kRng1_ap, Pf.rng2_ap, Pf.kRng2_ap, Pf.rev_ap, Pf.kRev_t, Pf.kRev_f, Pf.kNew_ap, Pf.lc_ap, Pf.kLc_ap, Pf.yes_ap, Pf.bind_nm, Pf.bind_tp, Pf.bindL_nil, Pf.bindL_cons, Pf.kBL_ap, Pf.pat_ap, Pf.kPat_ap, Pf.aug_ap, Pf.kAugO_ap, Pf.kAug1_ap, Pf.iadd_ii, Pf.rng_len, Pf.isL_r, Pf.kIsL_some, Pf.ix_r, Pf.kIx_some, Pf.len_r, Pf.kLen_some, Pf.list_r, Pf.kList_some, Pf.tuple_r, Pf.kTuple_some, Pf.put_r, Pf.kPut_l, Pf.kPutO_some, Pf.append_r, Pf.kApp_l, Pf.pop0_r, Pf.kPop0_l, Pf.kIter_r, Pf.kRev_r, Pf.kIterO_some, Pf.id_ap, Pf.dat_r, Pf.kDatL_some, Pf.bind_tpr, Pf.kBindO_some, Pf.disp_ap, Pf.dictN_ap, Pf.zip_nil, Pf.zip_cons, Pf.dget_ap, Pf.kDg_d, Pf.look_if, Pf.is_bb, Pf.is_nn, Pf.is_in, Pf.is_sn, Pf.is_tn, Pf.is_rn, Pf.isnt_bb, Pf.isnt_nn, Pf.isnt_in, Pf.isnt_sn, Pf.isnt_tn, Pf.isnt_rn, Pf.fld_ap, Pf.kFld_ap, Pf.kFldO_i, Pf.meth_ap, Pf.kMeth_ap, Pf.kMethO_i, Pf.kMethA_ap, Pf.make_ap, Pf.sl_ap, Pf.kSl1_ap, Pf.kSl2_ap, Pf.kSl3_ap, Pf.pNo_ap, Pf.pYes_ap, Pf.kPart_ap, Pf.revL_ap, Pf.kRvL_ap, Pf.kRvO_some, Pf.kRvL_f, Pf.dat_frz, Pf.ix_f, Pf.len_f, Pf.tuple_f, Pf.bind_tpf, Pf.lstV_ap, Pf.kLstV_ap, Pf.listVV_t, Pf.listVV_f, Pf.listVV_r, Pf.kListV_some, Pf.addVV_ii, Pf.addVV_tt, Pf.addVV_ff, Pf.slV_ap, Pf.kSlV1_ap, Pf.kSlV2_ap, Pf.kSlV3_ap, Pf.slVV_t, Pf.slVV_f, Pf.slVV_r, Pf.kCut_some, Pf.revV_ap, Pf.kRvV_ap, Pf.revVV_f, Pf.revVV_r, Pf.kRvVO_some, Pf.kVal_ap, Pf.lcV_ap, Pf.kLcV_ap, Pf.fz_ap, Pf.fzK_r, Pf.kFzO_l, Pf.fzK_t, Pf.fzK_i, Pf.fzK_n, Pf.fzK_f, Pf.enum_ap, Pf.kEnum_ap, Pf.kEnumO_some, Pf.seqI_t, Pf.seqI_f, Pf.seqI_r, Pf.kSeqI_some, Pf.zip_ap, Pf.kZip_ap, Pf.kZipO_some, Pf.allN_ap, Pf.kAllN_ap, Pf.kAllNO_some, Pf.fldS_ap, Pf.kFldS1_ap, Pf.kFldS2_ap, Pf.fldPut_r, Pf.kFldO2_i, Pf.makeK_ap, Pf.kNonR_ap, Pf.kMkK_ap, Pf.kMk_ap, Pf.put_0, Pf.put_S, Pf.sets_nil, Pf.sets_cons, Pf.put_s, Pf.kPutD_d, Pf.at_lastA, Pf.in_str2, Pf.in_str3, Pf.notin_str2, Pf.c_0, Pf.c_1, Pf.c_2, Pf.c_3, Pf.c_4, Pf.c_5, Pf.c_6, Pf.c_7, Pf.c_8, Pf.c_9, Pf.c_10, Pf.kWh_t, Pf.kWh_f, Pf.at_neg1, Pf.at_neg2, Pf.at_neg3, Pf.cut_to, Pf.cut_from, Pf.cut_ft, Pf.cut_to1, Pf.cut_to2, Pf.cut_to3, Pf.cut_to4, Pf.cut_from1, Pf.cut_from2, Pf.cut_from5, Pf.l_take0, Pf.l_takeS, Pf.l_takeN, Pf.l_drop0, Pf.l_dropS, Pf.l_dropN, Pf.revT_ap, Pf.kRvT_ap, Pf.revT_t, Pf.revT_f, Pf.revT_r, Pf.revA_ap, Pf.kRvA_ap, Pf.revA_t, Pf.revA_f, Pf.revA_r, Pf.max2_ii, Pf.min2_ii, Pf.cut_fromS, Pf.makeN_ap, Pf.kMkN1_ap, Pf.kMkN2_ap, Pf.fldP_ap, Pf.fld2_ap, Pf.kF2a_ap, Pf.kF2b_ap, Pf.lc2V_ap, Pf.kLc2V_ap, Pf.extend_v, Pf.kExt_l, Ty.gt_0, Ty.gt_S, Ty.at_gt, Ty.at_gtI, Ty.at_lastD, Ty.eI_ap, Ty.eL_ap, Ty.eO_n, Ty.eO_s, Ty.eHand_n, Ty.eHand_s, Ty.eVer_ap, Ty.eServ_ap, Ty.eQu_ap, Ty.eRel_ap, Ty.eLine_ap, Ty.eTest_ap, Ty.toN_cast, Ty.toN_add, Ty.toN_add1, Ty.toN_add2, Ty.toN_1add, Ty.toN_sub1, Ty.dk_value, Ty.dk_arg, Ty.dk_got, Ty.dk_field, Ty.dk_switch, Ty.dk_eq, Ty.dk_ne, Ty.dk_lt, Ty.dk_set, Ty.dk_add, Ty.dk_ask, Ty.dk_answer, Ty.dk_lose, Ty.dk_double, Ty.dk_crash, Ty.dk_take, Ty.dk_go, Ty.dk_step, Ty.dk_turnback, Ty.dk_unstep, Ty.dk_raise, Ty.dk_flip, Ty.dk_move, Ty.dk_turn, Ty.dk_turned, Ty.dk_drained, Ty.dk_final, Ty.dk_asked, Ty.dk_answered, Ty.dk_returned, Ty.dk_one, Ty.dk_notone, Ty.dk_many, Ty.dk_from, Ty.dk_never, Ty.dk_instance, Ty.dk_release, List.lookup_nil, eq_self, Bool.or_true, Bool.true_or, Bool.or_false, Bool.false_or, Bool.and_true, Bool.true_and, ge_iff_le, String.reduceEq, Int.reduceEq, if_true, if_false, Nat.reduceEqDiff, decide_not, beq_self_eq_true, true_and, and_true, decide_true, decide_false, Int.reduceLT, Int.reduceLE, Int.reduceNeg, Int.reduceAdd, Int.reduceSub, Int.reduceMul, Int.reducePow, Nat.reduceAdd, Nat.reduceSub, Nat.reduceLT, Nat.reduceLeDiff, Int.reduceToNat, Bool.not_true, Bool.not_false, Bool.not_not, $[$ts:term],*])
local macro_rules
  | `(tactic| exists Nat, $ts,*) => `(tactic| try simp (implicitDefEqProofs := false) (disch := first | assumption | omega | (simp only [Pf.l_lenS, Pf.l_len0, Pf.l_len_map, Ty.k_value, Ty.k_arg, Ty.k_got, Ty.k_field, Ty.k_switch, Ty.k_eq, Ty.k_ne, Ty.k_lt, Ty.k_set, Ty.k_add, Ty.k_ask, Ty.k_answer, Ty.k_lose, Ty.k_double, Ty.k_crash, Ty.k_take, Ty.k_go, Ty.k_step, Ty.k_turnback, Ty.k_unstep, Ty.k_raise, Ty.k_flip, Ty.k_move, Ty.k_turn, Ty.k_turned, Ty.k_drained, Ty.k_final, Ty.k_asked, Ty.k_answered, Ty.k_returned, Ty.k_one, Ty.k_notone, Ty.k_many, Ty.k_from, Ty.k_never, Ty.k_instance, Ty.k_release] <;> omega)) only [Pf.kOpt_some, Pf.look_ap, Pf.lkO_l, Pf.lkO_r, Pf.var_ap, Pf.c_ap, Pf.op_ap, Pf.op1_ap, Pf.op2_ap, Pf.tst_ap, Pf.kB_ap, Pf.asB_ap, Pf.kTo_some, Pf.tru_ap, Pf.kTru_ap, Pf.truB_bl, Pf.truB_non, Pf.truB_int, Pf.truB_tup, Pf.truB_frz, Pf.andV_ap, Pf.kAndV_ap, Pf.kAndB_t, Pf.kAndB_f, Pf.orV_ap, Pf.kOrV_ap, Pf.kOrB_t, Pf.kOrB_f, Pf.notV_ap, Pf.kNotV_ap, Pf.kNotB_ap, Pf.and_ap, Pf.kAnd_t, Pf.kAnd_f, Pf.or_ap, Pf.kOr_t, Pf.kOr_f, Pf.not_ap, Pf.kNot_ap, Pf.if_ap, Pf.kIf_t, Pf.kIf_f, Pf.un_ap, Pf.kUn_ap, Pf.neg_ap, Pf.chain_ap, Pf.kCh1_ap, Pf.kCh2_ap, Pf.kCh3_t, Pf.kCh3_f, Pf.maNil_ap, Pf.maCons_ap, Pf.kArg_ap, Pf.kArg2_ap, Pf.tup_ap, Pf.kTup_ap, Pf.lst_ap, Pf.kLst_ap, Pf.call_ap, Pf.kCall_ap, Pf.cb_ap, Pf.kCB_ap, Pf.isi_ap, Pf.kIsi_ap, Pf.kIsi2_some, Pf.tyN_int, Pf.tyN_bl, Pf.tyN_non, Pf.tyN_str, Pf.tyN_tup, Pf.tyN_frz, Pf.tyB_ii, Pf.tyB_ib, Pf.tyB_bi, Pf.tyB_bb, Pf.tyB_tt, Pf.bm_ap, Pf.kBM_ap, Pf.kBM2_ap, Pf.msNil_ap, Pf.nx_mk, Pf.rt_mk, Pf.bk_mk, Pf.ct_mk, Pf.ret_ap, Pf.retN_ap, Pf.brk_ap, Pf.cont_ap, Pf.set_ap, Pf.kSet_ap, Pf.expr_ap, Pf.kDrop_ap, Pf.ifS_ap, Pf.kIfS_t, Pf.kIfS_f, Pf.sub_ap, Pf.kSub1_ap, Pf.kSub2_ap, Pf.kSub3_ap, Pf.defW_ap, Pf.add_ii, Pf.add_tt, Pf.sub_ii, Pf.mul_lt, Pf.mul_rt, Pf.mod_ii, Pf.fdiv_ii, Pf.lt_ii, Pf.le_ii, Pf.gt_ii, Pf.ge_ii, Pf.bId_ap, Pf.eq_ap, Pf.ne_ap, Pf.kEq_some, Pf.dat_int, Pf.dat_bl, Pf.dat_non, Pf.dat_str, Pf.dat_tup, Pf.eqv_ii, Pf.eqv_ss, Pf.eqv_bb, Pf.kO_some, Pf.ix_t, Pf.kL_some, Pf.at_0, Pf.at_1, Pf.at_2, Pf.at_3, Pf.at_4, Pf.at_5, Pf.len_t, Pf.list_t, Pf.list_f, Pf.tuple_t, Pf.int_i, Pf.int_b, Pf.l_set0, Pf.l_setS, Pf.l_get0, Pf.l_getS, Pf.l_len0, Pf.l_lenS, Pf.l_app0, Pf.l_appS, Pf.l_map0, Pf.l_mapS, Pf.l_len_map, Pf.l_rep0, Pf.l_repS, Pf.start_ap, Pf.wipe_nil, Pf.wipe_cons, Pf.sd_same, Pf.sd_ne, Pf.supd_supd, Pf.o_map_some, Pf.ixN_nat, Pf.ixN_0, Pf.ixN_1, Pf.ixN_2, Pf.ixN_3, Pf.for_ap, Pf.kFor_ap, Pf.iter_ap, Pf.kIter_t, Pf.kIter_f, Pf.rng1_ap, Pf.kRng1_ap, Pf.rng2_ap, Pf.kRng2_ap, Pf.rev_ap, Pf.kRev_t, Pf.kRev_f, Pf.kNew_ap, Pf.lc_ap, Pf.kLc_ap, Pf.yes_ap, Pf.bind_nm, Pf.bind_tp, Pf.bindL_nil, Pf.bindL_cons, Pf.kBL_ap, Pf.pat_ap, Pf.kPat_ap, Pf.aug_ap, Pf.kAugO_ap, Pf.kAug1_ap, Pf.iadd_ii, Pf.rng_len, Pf.isL_r, Pf.kIsL_some, Pf.ix_r, Pf.kIx_some, Pf.len_r, Pf.kLen_some, Pf.list_r, Pf.kList_some, Pf.tuple_r, Pf.kTuple_some, Pf.put_r, Pf.kPut_l, Pf.kPutO_some, Pf.append_r, Pf.kApp_l, Pf.pop0_r, Pf.kPop0_l, Pf.kIter_r, Pf.kRev_r, Pf.kIterO_some, Pf.id_ap, Pf.dat_r, Pf.kDatL_some, Pf.bind_tpr, Pf.kBindO_some, Pf.disp_ap, Pf.dictN_ap, Pf.zip_nil, Pf.zip_cons, Pf.dget_ap, Pf.kDg_d, Pf.look_if, Pf.is_bb, Pf.is_nn, Pf.is_in, Pf.is_sn, Pf.is_tn, Pf.is_rn, Pf.isnt_bb, Pf.isnt_nn, Pf.isnt_in, Pf.isnt_sn, Pf.isnt_tn, Pf.isnt_rn, Pf.fld_ap, Pf.kFld_ap, Pf.kFldO_i, Pf.meth_ap, Pf.kMeth_ap, Pf.kMethO_i, Pf.kMethA_ap, Pf.make_ap, Pf.sl_ap, Pf.kSl1_ap, Pf.kSl2_ap, Pf.kSl3_ap, Pf.pNo_ap, Pf.pYes_ap, Pf.kPart_ap, Pf.revL_ap, Pf.kRvL_ap, Pf.kRvO_some, Pf.kRvL_f, Pf.dat_frz, Pf.ix_f, Pf.len_f, Pf.tuple_f, Pf.bind_tpf, Pf.lstV_ap, Pf.kLstV_ap, Pf.listVV_t, Pf.listVV_f, Pf.listVV_r, Pf.kListV_some, Pf.addVV_ii, Pf.addVV_tt, Pf.addVV_ff, Pf.slV_ap, Pf.kSlV1_ap, Pf.kSlV2_ap, Pf.kSlV3_ap, Pf.slVV_t, Pf.slVV_f, Pf.slVV_r, Pf.kCut_some, Pf.revV_ap, Pf.kRvV_ap, Pf.revVV_f, Pf.revVV_r, Pf.kRvVO_some, Pf.kVal_ap, Pf.lcV_ap, Pf.kLcV_ap, Pf.fz_ap, Pf.fzK_r, Pf.kFzO_l, Pf.fzK_t, Pf.fzK_i, Pf.fzK_n, Pf.fzK_f, Pf.enum_ap, Pf.kEnum_ap, Pf.kEnumO_some, Pf.seqI_t, Pf.seqI_f, Pf.seqI_r, Pf.kSeqI_some, Pf.zip_ap, Pf.kZip_ap, Pf.kZipO_some, Pf.allN_ap, Pf.kAllN_ap, Pf.kAllNO_some, Pf.fldS_ap, Pf.kFldS1_ap, Pf.kFldS2_ap, Pf.fldPut_r, Pf.kFldO2_i, Pf.makeK_ap, Pf.kNonR_ap, Pf.kMkK_ap, Pf.kMk_ap, Pf.put_0, Pf.put_S, Pf.sets_nil, Pf.sets_cons, Pf.put_s, Pf.kPutD_d, Pf.at_lastA, Pf.in_str2, Pf.in_str3, Pf.notin_str2, Pf.c_0, Pf.c_1, Pf.c_2, Pf.c_3, Pf.c_4, Pf.c_5, Pf.c_6, Pf.c_7, Pf.c_8, Pf.c_9, Pf.c_10, Pf.kWh_t, Pf.kWh_f, Pf.at_neg1, Pf.at_neg2, Pf.at_neg3, Pf.cut_to, Pf.cut_from, Pf.cut_ft, Pf.cut_to1, Pf.cut_to2, Pf.cut_to3, Pf.cut_to4, Pf.cut_from1, Pf.cut_from2, Pf.cut_from5, Pf.l_take0, Pf.l_takeS, Pf.l_takeN, Pf.l_drop0, Pf.l_dropS, Pf.l_dropN, Pf.revT_ap, Pf.kRvT_ap, Pf.revT_t, Pf.revT_f, Pf.revT_r, Pf.revA_ap, Pf.kRvA_ap, Pf.revA_t, Pf.revA_f, Pf.revA_r, Pf.max2_ii, Pf.min2_ii, Pf.cut_fromS, Pf.makeN_ap, Pf.kMkN1_ap, Pf.kMkN2_ap, Pf.fldP_ap, Pf.fld2_ap, Pf.kF2a_ap, Pf.kF2b_ap, Pf.lc2V_ap, Pf.kLc2V_ap, Pf.extend_v, Pf.kExt_l, Ty.gt_0, Ty.gt_S, Ty.at_gt, Ty.at_gtI, Ty.at_lastD, Ty.eI_ap, Ty.eL_ap, Ty.eO_n, Ty.eO_s, Ty.eHand_n, Ty.eHand_s, Ty.eVer_ap, Ty.eServ_ap, Ty.eQu_ap, Ty.eRel_ap, Ty.eLine_ap, Ty.eTest_ap, Ty.toN_cast, Ty.toN_add, Ty.toN_add1, Ty.toN_add2, Ty.toN_1add, Ty.toN_sub1, Ty.dk_value, Ty.dk_arg, Ty.dk_got, Ty.dk_field, Ty.dk_switch, Ty.dk_eq, Ty.dk_ne, Ty.dk_lt, Ty.dk_set, Ty.dk_add, Ty.dk_ask, Ty.dk_answer, Ty.dk_lose, Ty.dk_double, Ty.dk_crash, Ty.dk_take, Ty.dk_go, Ty.dk_step, Ty.dk_turnback, Ty.dk_unstep, Ty.dk_raise, Ty.dk_flip, Ty.dk_move, Ty.dk_turn, Ty.dk_turned, Ty.dk_drained, Ty.dk_final, Ty.dk_asked, Ty.dk_answered, Ty.dk_returned, Ty.dk_one, Ty.dk_notone, Ty.dk_many, Ty.dk_from, Ty.dk_never, Ty.dk_instance, Ty.dk_release, List.lookup_nil, eq_self, Bool.or_true, Bool.true_or, Bool.or_false, Bool.false_or, Bool.and_true, Bool.true_and, ge_iff_le, String.reduceEq, Int.reduceEq, if_true, if_false, Nat.reduceEqDiff, decide_not, beq_self_eq_true, true_and, and_true, decide_true, decide_false, Int.reduceLT, Int.reduceLE, Int.reduceNeg, Int.reduceAdd, Int.reduceSub, Int.reduceMul, Int.reducePow, Nat.reduceAdd, Nat.reduceSub, Nat.reduceLT, Nat.reduceLeDiff, Int.reduceToNat, Bool.not_true, Bool.not_false, Bool.not_not, $[$ts:term],*])
namespace Nx
open PySem PySem.Spec PyProof.Rows L2 Mv Pf Ty
/-! The drawing state: two objects over the rest. -/
structure GS where
  ns : List Int
  a : Int
  b : Int
def GS.ok (q : GS) : Prop := 0 ≤ q.a ∧ 0 ≤ q.b ∧ q.b < 2147483647
theorem GS.ok0 {ns : List Int} : GS.ok ⟨ns, 0, 1⟩ := by
  refine ⟨?_, ?_, ?_⟩ <;> dsimp only <;> omega
def G (st l : Addr) (S : Sto) (q : GS) : Sto := fun x => if x = st then some (.lst [.ref l, .int q.a, .int q.b]) else if x = l then some (.lst (q.ns.map .int)) else S x
variable {st l : Addr} {S : Sto} {q : GS}
theorem G_st : G st l S q st = some (.lst [.ref l, .int q.a, .int q.b]) := by unfold G; rw [if_pos rfl]
theorem G_l (h : l ≠ st) : G st l S q l = some (.lst (q.ns.map .int)) := by unfold G; rw [if_neg h, if_pos rfl]
theorem G_ne {p : Addr} (h1 : p ≠ st) (h2 : p ≠ l) : G st l S q p = S p := by unfold G; rw [if_neg h1, if_neg h2]
theorem G_free {p : Addr} (h : G st l S q p = none) (hl : l ≠ st) : p ≠ st ∧ p ≠ l ∧ S p = none := by
  have h1 : p ≠ st := fun e => by subst e; rw [G_st] at h; cases h
  have h2 : p ≠ l := fun e => by subst e; rw [G_l hl] at h; cases h
  exact ⟨h1, h2, by rw [G_ne h1 h2] at h; exact h⟩
theorem G_put {p : Addr} {o : MO} (h1 : p ≠ st) (h2 : p ≠ l) : supd (G st l S q) p o = G st l (supd S p o) q := by
  funext x
  unfold supd G
  by_cases e : x = p
  · subst e; simp [h1, h2]
  · simp [e]
theorem G_setst {a b : Int} : supd (G st l S q) st (.lst [.ref l, .int a, .int b]) = G st l S ⟨q.ns, a, b⟩ := by
  funext x
  unfold supd G
  by_cases e : x = st <;> simp [e]
theorem G_setl {ns : List Int} (h : l ≠ st) : supd (G st l S q) l (.lst (ns.map .int)) = G st l S ⟨ns, q.a, q.b⟩ := by
  funext x
  unfold supd G
  by_cases e : x = l
  · subst e; simp [h]
  · simp [e]
theorem G_start {ns : List Int} {p r : Addr} (h : p ≠ r) (a b : Int) : supd (supd S p (.lst (ns.map .int))) r (.lst [.ref p, .int a, .int b]) = G r p S ⟨ns, a, b⟩ := by
  funext x
  unfold supd G
  by_cases e : x = r <;> simp [e]
theorem nx_spec {many : Int} {R : MK} (hl : l ≠ st) (hq : q.ok) (hm : 0 < many) (hm2 : many < 1073741824) (h : ∀ (v : Int) (q' : GS), q'.ok → 0 ≤ v → v < many → R (.int v) (G st l S q')) : Rw.W__law_next [.ref st, .int many] (G st l S q) R := by
  have fin : ∀ (ns : List Int) (a b : Int), 0 ≤ a → 0 ≤ b → b < 2147483647 → R (.int (a % many)) (G st l S ⟨ns, a / many, b⟩) := fun ns a b h0 h1 h2 =>
    h _ _ ⟨Int.ediv_nonneg h0 (Int.le_of_lt hm), h1, h2⟩ (Int.emod_nonneg _ (by omega)) (Int.emod_lt_of_pos _ hm)
  obtain ⟨ns, a, b⟩ := q
  obtain ⟨h0, h1, h2⟩ := hq
  dsimp only at h0 h1 h2
  unfold Rw.W__law_next Rw.B__law_next
  have e0 : (List.map MV.int ns).length = ns.length := List.length_map _
  exists G_st, G_l hl, G_setst
  by_cases ha : a < many
  · cases ns with
    | nil =>
      have y0 := Int.emod_nonneg (b * 48271 + 11) (b := 2147483647) (by decide)
      have y1 := Int.emod_lt_of_pos (b * 48271 + 11) (b := 2147483647) (by decide)
      have y2 := Int.emod_nonneg ((b * 48271 + 11) % 2147483647 * ((b * 48271 + 11) % 2147483647)) (b := 1000003) (by decide)
      exists ha, G_st, G_l hl, G_setst, Int.natCast_zero, Int.lt_irrefl
      exact drop_refl <| fin _ _ _ y2 y0 y1
    | cons n ns =>
      have e1 : (0 : Int) < (ns.length + 1 : Nat) := by omega
      exists ha, G_st, G_l hl, G_setst, G_setl hl, e1
      have y0 := fun x : Int => Int.emod_nonneg (b * 69621 + x) (b := 2147483647) (by decide)
      have y1 := fun x : Int => Int.emod_lt_of_pos (b * 69621 + x) (b := 2147483647) (by decide)
      by_cases hn : 0 ≤ n
      · exists hn, G_st, G_l hl, G_setst, G_setl hl
        exact drop_refl <| fin _ _ _ (by omega) (y0 _) (y1 _)
      · exists hn, G_st, G_l hl, G_setst, G_setl hl
        exact drop_refl <| fin _ _ _ (by omega) (y0 _) (y1 _)
  · exists ha, G_st, G_l hl, G_setst
    exact drop_refl <| fin _ _ _ h0 h1 h2
theorem newG {k : List MV} {R : MK} (hl : l ≠ st) (h : ∀ p, p ≠ st → p ≠ l → S p = none → R (.ref p) (G st l (supd S p (.lst k)) q)) : newL k (G st l S q) R := fun p hp => by
  obtain ⟨h1, h2, h3⟩ := G_free hp hl
  rw [G_put h1 h2]
  exact h p h1 h2 h3
theorem dropG {p : Addr} {o : MO} {v : MV} {R : MK} (hl : l ≠ st) (hp : S p = none) (h : R v (G st l S q)) : dropK R v (G st l (supd S p o) q) := drop_at (fun a u e => by
  by_cases e1 : a = st
  · subst e1; rw [G_st] at e ⊢; exact e
  · by_cases e2 : a = l
    · subst e2; rw [G_l hl] at e ⊢; exact e
    · rw [G_ne e1 e2] at e ⊢
      exact le_supd hp a u e) h
theorem ne_of {a p : Addr} {o : MO} (h : S a = some o) (hp : S p = none) : a ≠ p := fun e => by subst e; rw [h] at hp; cases hp
/-- a comprehension of draws -/
theorem lc_drawG {α : Type} {pt : Pat} {te : ME} {ρ : Mv.Env} {vs : List MV} {Q : List MV → Sto → Prop} (enc : α → MV) (WF : Nat → α → Prop) (hq : q.ok) (hn : vs.length < 100000)
    (hstep : ∀ (i : Nat) (v : MV) (q : GS), vs[i]? = some v → q.ok → ∀ R : MK, (∀ x q', q'.ok → WF i x → R (enc x) (G st l S q')) → bindP pt v (G st l S q) ρ fun ρ' => te ρ' (G st l S q) R)
    (hQ : ∀ (xs : List α) (q' : GS), q'.ok → xs.length = vs.length → (∀ i x, xs[i]? = some x → WF i x) → Q (xs.map enc) (G st l S q')) : lcL [] pt mYes te ρ Q vs [] (G st l S q) := by
  have hs : (1000000 : Nat) ≤ sizeLine := by decide
  refine lc_rule (I := fun i acc S' => ∃ (xs : List α) (q' : GS), acc = xs.map enc ∧ S' = G st l S q' ∧ q'.ok ∧ xs.length = i ∧ ∀ i x, xs[i]? = some x → WF i x) (fun _ _ _ _ => keep_nil) (by omega) ?_ ?_ ?_ ⟨[], q, rfl, rfl, hq, rfl, fun i v h => by simp at h⟩
  · rintro i acc S' ⟨vs, q', rfl, rfl, _, e, _⟩
    simp [e]
  · rintro i v acc S' hv ⟨xs, q', rfl, rfl, hq', e, hb⟩ R N hR _
    refine bindP_imp _ _ _ _ (fun ρ' h => ?_) (hstep i v q' hv hq' R fun x q2 hq2 hx => hR _ _ ⟨xs ++ [x], q2, by simp, rfl, hq2, by simp [e], fun j y hy => ?_⟩)
    · exact h
    · rw [List.getElem?_append] at hy
      split at hy
      · exact hb j y hy
      · rename_i hj
        have : j = i := by
          have := (List.getElem?_eq_some_iff.mp hy).1
          simp at this
          omega
        subst this
        rw [e, Nat.sub_self] at hy
        cases hy
        exact hx
  · rintro acc S' ⟨xs, q', rfl, rfl, hq', e, hb⟩
    exact hQ xs q' hq' e hb
/-- the same number drawn again and again -/
theorem draws_spec {te : ME} {ρ : Mv.Env} {j cnt : Nat} {many : Int} {Q : List MV → Sto → Prop} (hl : l ≠ st) (hq : q.ok) (hm : 0 < many) (hm2 : many < 1073741824) (hc : cnt < 1000)
    (hte : ∀ (v : MV) (S : Sto) (R : MK), te (ρ.set j (some v)) S R = Rw.W__law_next [.ref st, .int many] S R)
    (h : ∀ (vs : List Nat) (q' : GS), q'.ok → vs.length = cnt → (∀ v ∈ vs, (v : Int) < many) → Q (vs.map eI) (G st l S q')) : lcL [] (.nm j) mYes te ρ Q (rngM 0 cnt) [] (G st l S q) := by
  refine lc_drawG (α := Nat) eI (fun _ n => (n : Int) < many) hq (by rw [rng_len]; omega) (fun i v q hv hq R hR => ?_) fun xs q' hq' e hx => ?_
  · rw [Pf.bind_nm, hte]
    refine nx_spec hl hq hm hm2 fun w q2 hq2 h1 h2 => ?_
    obtain ⟨w, rfl⟩ := Int.eq_ofNat_of_zero_le h1
    exact hR w q2 hq2 h2
  · rw [rng_len] at e
    refine h xs q' hq' e fun v hv => ?_
    obtain ⟨i, hi, rfl⟩ := List.getElem_of_mem hv
    exact hx i _ (by simp [hi])
/-- with a natural number -/
theorem nxN {many : Nat} {R : MK} (hl : l ≠ st) (hq : q.ok) (hm : 0 < many) (hm2 : many < 1073741824) (h : ∀ (v : Nat) (q' : GS), q'.ok → v < many → R (.int v) (G st l S q')) : Rw.W__law_next [.ref st, .int many] (G st l S q) R :=
  nx_spec hl hq (by omega) (by omega) fun w q2 hq2 h1 h2 => by
    obtain ⟨w, rfl⟩ := Int.eq_ofNat_of_zero_le h1
    exact h w q2 hq2 (by omega)
end Nx

set_option Elab.async false
set_option linter.all false
set_option maxRecDepth 100000
set_option maxHeartbeats 4000000
namespace P02
open PySem PySem.Spec PyProof.Rows L2 Mv Pf Ty Nx Gd
variable {S : Sto} {R : MK} {sz : List Nat}
def eT (r : List Nat) : MV := .tup (r.map fun k : Nat => .int (k : Int))
def prodF (sz : List Nat) : Nat := sz.foldl (· * ·) 1
def stepR (p : List Nat × Nat) (s : Nat) : List Nat × Nat := (p.1 ++ [p.2 % s], p.2 / s)
def recF (sz : List Nat) (k : Nat) : List Nat := (sz.reverse.foldl stepR ([], k)).1.reverse
def nextA (found : List (List Nat)) (s : Nat) : List (List Nat) := found.flatMap fun r => (List.range s).map fun v => r ++ [v]
def allF (sz : List Nat) : List (List Nat) := sz.foldl nextA [[]]
structure Sz (sz : List Nat) : Prop where
  n1 : 1 ≤ sz.length
  n3 : sz.length ≤ 3
  v1 : ∀ x ∈ sz, 1 ≤ x
  v4 : ∀ x ∈ sz, x ≤ 4
def szs : List (List Nat) := let v := [1, 2, 3, 4]; v.map (fun a => [a]) ++ v.flatMap (fun a => v.map fun b => [a, b]) ++ v.flatMap (fun a => v.flatMap fun b => v.map fun c => [a, b, c])
theorem all_ok : ∀ sz ∈ szs, allF sz = (List.range (prodF sz)).map (recF sz) ∧ prodF sz ≤ 64 ∧ ∀ i < 4, ((sz.take i).foldl nextA [[]]).length ≤ 64 ∧ (sz.take i).foldl (· * ·) 1 ≤ 64 := by decide +kernel
theorem map_get {α : Type} {f : α → MV} {l : List α} {i : Nat} {v : MV} (h : (l.map f)[i]? = some v) : ∃ x, l[i]? = some x ∧ v = f x := by
  rw [List.getElem?_map] at h
  obtain ⟨x, h1, h2⟩ := Option.map_eq_some_iff.mp h
  exact ⟨x, h1, h2.symm⟩
theorem foldl_succ {α β : Type} {l : List α} {i : Nat} {x : α} {f : β → α → β} {b : β} (h : l[i]? = some x) : (l.take (i + 1)).foldl f b = f ((l.take i).foldl f b) x := by
  rw [List.take_add_one, h, List.foldl_append]
  rfl
theorem mem_szs (hs : sz ∈ szs) : 1 ≤ sz.length ∧ sz.length ≤ 3 ∧ ∀ x ∈ sz, 1 ≤ x ∧ x ≤ 4 := by
  have : ∀ sz ∈ szs, 1 ≤ sz.length ∧ sz.length ≤ 3 ∧ ∀ x ∈ sz, 1 ≤ x ∧ x ≤ 4 := by decide +kernel
  exact this sz hs
theorem count_spec (hs : sz ∈ szs) (hR : R (.int (prodF sz : Nat)) S) : Rw.W_record_count [eT sz] S R := by
  unfold Rw.W_record_count Rw.B_record_count eT
  have hl := (mem_szs hs).2.1
  exists Pf.kB_ap
  refine for_J [1, 2] (I := fun i xs S' => ∃ x2, xs = [some (.int (((sz.take i).foldl (· * ·) 1 : Nat) : Int)), x2] ∧ S' = S) (fun _ _ _ _ => keep_nil) ?_ ?_ [_, _] rfl ⟨_, rfl, rfl⟩
  · rintro i v xs S' D' hv ⟨x2, rfl, rfl⟩ hnx _ _ _
    obtain ⟨k, hk, rfl⟩ := map_get hv
    have hi := (List.getElem?_eq_some_iff.mp hk).1
    have hb := ((all_ok sz hs).2.2 i (by omega)).2
    rw [foldl_succ hk] at hnx
    generalize (sz.take i).foldl (· * ·) 1 = u at hb hnx ⊢
    exists Pf.kB_ap
    rw [← Int.natCast_mul]
    exact hnx [_, _] _ ⟨_, rfl, rfl⟩
  · rintro xs S' ⟨x2, rfl, rfl⟩
    rw [List.length_map, List.take_length]
    exists Pf.kB_ap
    exact drop_refl hR
theorem count_law (hs : sz ∈ szs) (hR : R (.int (prodF sz : Nat)) S) : Rw.W__law_count [eT sz] S R := by
  unfold Rw.W__law_count Rw.B__law_count eT
  have hl := (mem_szs hs).2.1
  exists Pf.kB_ap
  refine for_J [1, 2] (I := fun i xs S' => ∃ x2, xs = [some (.int (((sz.take i).foldl (· * ·) 1 : Nat) : Int)), x2] ∧ S' = S) (fun _ _ _ _ => keep_nil) ?_ ?_ [_, _] rfl ⟨_, rfl, rfl⟩
  · rintro i v xs S' D' hv ⟨x2, rfl, rfl⟩ hnx _ _ _
    obtain ⟨k, hk, rfl⟩ := map_get hv
    have hi := (List.getElem?_eq_some_iff.mp hk).1
    have hb := ((all_ok sz hs).2.2 i (by omega)).2
    rw [foldl_succ hk] at hnx
    generalize (sz.take i).foldl (· * ·) 1 = u at hb hnx ⊢
    exists Pf.kB_ap
    rw [← Int.natCast_mul]
    exact hnx [_, _] _ ⟨_, rfl, rfl⟩
  · rintro xs S' ⟨x2, rfl, rfl⟩
    rw [List.length_map, List.take_length]
    exists Pf.kB_ap
    exact drop_refl hR
theorem at_spec {k : Nat} (hs : sz ∈ szs) (hR : R (eT (recF sz k)) S) : Rw.W_record_at [eT sz, .int (k : Int)] S R := by
  unfold Rw.W_record_at Rw.B_record_at eT
  have hl := (mem_szs hs).2.1
  exists Pf.kB_ap
  intro r hr
  exists Pf.kB_ap
  refine for_J [1, 3] (I := fun i xs S' => i ≤ sz.length ∧ ∃ x3, xs = [some (.int ((((sz.reverse.take i).foldl stepR ([], k)).2 : Nat) : Int)), x3] ∧ ((sz.reverse.take i).foldl stepR ([], k)).1.length = i ∧ S' = supd S r (.lst (((sz.reverse.take i).foldl stepR ([], k)).1.map fun k : Nat => .int (k : Int)))) (fun _ _ _ _ => keep_nil) ?_ ?_ [_, _] rfl ⟨Nat.zero_le _, _, rfl, rfl, rfl⟩
  · rintro i v xs S' D' hv ⟨hi, x3, rfl, hlen, rfl⟩ hnx _ _ _
    rw [← List.map_reverse] at hv
    obtain ⟨x, hx, rfl⟩ := map_get hv
    have hil := (List.getElem?_eq_some_iff.mp hx).1
    rw [List.length_reverse] at hil
    obtain ⟨x1, x4⟩ := (mem_szs hs).2.2 x (List.mem_reverse.mp (List.mem_of_getElem? hx))
    rw [foldl_succ hx] at hnx
    generalize (sz.reverse.take i).foldl stepR ([], k) = u at hlen hnx ⊢
    obtain ⟨a, b⟩ := u
    have hlen : a.length = i := hlen
    exists Pf.kB_ap
    rw [← Int.natCast_emod, ← Int.natCast_ediv]
    have e : (a.map fun k : Nat => MV.int (k : Int)) ++ [.int ((b % x : Nat) : Int)] = (a ++ [b % x]).map fun k : Nat => MV.int (k : Int) := by simp
    rw [e]
    exact hnx [_, _] _ ⟨hil, _, rfl, by simp [stepR]; exact hlen, rfl⟩
  · rintro xs S' ⟨hi, x3, rfl, hlen, rfl⟩
    rw [List.length_reverse, List.length_map, ← List.length_reverse, List.take_length]
    exists Pf.kB_ap
    rw [← List.map_reverse]
    exact drop_at (le_supd hr) hR
theorem all_len : ∀ sz ∈ szs, ∀ i < 4, ((sz.take i).foldl nextA [[]]).length ≤ 64 := by decide +kernel
theorem row_len : ∀ sz ∈ szs, ∀ i < 4, ∀ w ∈ (sz.take i).foldl nextA [[]], w.length ≤ 3 := by decide +kernel
theorem all_spec (hs : sz ∈ szs) (hR : R (.frz ((allF sz).map eT)) S) : Rw.W__law_all [eT sz] S R := by
  unfold Rw.W__law_all Rw.B__law_all
  have hl := (mem_szs hs).2.1
  have e0 : eT sz = .tup (sz.map fun k : Nat => .int (k : Int)) := rfl
  rw [e0]
  exists Pf.kB_ap
  refine for_J [1, 2, 3, 4, 5] (I := fun i xs S' => ∃ x2 x3 x4 x5, xs = [some (.frz (((sz.take i).foldl nextA [[]]).map eT)), x2, x3, x4, x5] ∧ S' = S) (fun _ _ _ _ => keep_nil) ?_ ?_ [_, _, _, _, _] rfl ⟨_, _, _, _, rfl, rfl⟩
  · rintro i v xs S' D' hv ⟨x2, x3, x4, x5, rfl, rfl⟩ hnx _ _ _
    obtain ⟨k, hk, rfl⟩ := map_get hv
    have hi := (List.getElem?_eq_some_iff.mp hk).1
    rw [foldl_succ hk] at hnx
    have hb := ((all_ok sz hs).2.2 i (by omega)).1
    obtain ⟨kk1, kk4⟩ := (mem_szs hs).2.2 k (List.mem_of_getElem? hk)
    have hb2 : (nextA ((sz.take i).foldl nextA [[]]) k).length ≤ 64 := by
      have := all_len sz hs (i + 1) (by omega)
      rw [foldl_succ hk] at this
      exact this
    have hrl := row_len sz hs i (by omega)
    generalize (sz.take i).foldl nextA [[]] = fo at hb hb2 hrl hnx ⊢
    exists Pf.kB_ap
    intro r hr
    exists Pf.kB_ap
    refine for_flat [4, 5] (fun acc => supd S' r (.lst acc)) eT (fun w => (List.range k).map fun v => eT (w ++ [v])) (fun _ => keep_nil) fo [] [_, _] rfl rfl (fun w hw pre xs D2 hxl hpre hnx2 _ hrt2 => ?_) fun xs hxl => ?_
    · obtain ⟨y4, y5, rfl⟩ : ∃ a b, xs = [a, b] := by
        match xs, hxl with
        | [a, b], _ => exact ⟨a, b, rfl⟩
      have hp2 : (pre ++ (List.range k).map fun v => eT (w ++ [v])).length ≤ 64 := by
        have h1 := hpre.length_le
        have h2 : (fo.flatMap fun w => (List.range k).map fun v => eT (w ++ [v])).length = (nextA fo k).length := by
          unfold nextA
          simp [List.length_flatMap]
        rw [List.nil_append] at h1
        omega
      have hwl := hrl w hw
      exists rng_eq
      rw [List.length_append, List.length_map, List.length_range] at hp2
      have ef : (List.range k).map (fun v => eT (w ++ [v])) = (List.range k).flatMap fun v => [eT (w ++ [v])] := by
        generalize List.range k = L
        induction L with
        | nil => rfl
        | cons v L ih => rw [List.map_cons, List.flatMap_cons, ih]; rfl
      rw [ef] at hnx2
      refine for_flat [5] (fun acc => supd S' r (.lst acc)) (fun v : Nat => MV.int (v : Int)) (fun v => [eT (w ++ [v])]) (fun _ => keep_nil) (List.range k) pre [_] rfl rfl (fun v hv pre2 xs2 D3 hxl2 hpre2 hnx3 _ hrt3 => ?_) fun xs2 hxl2 => ?_
      · obtain ⟨z5, rfl⟩ : ∃ a, xs2 = [a] := by
          match xs2, hxl2 with
          | [a], _ => exact ⟨a, rfl⟩
        have hp3 : pre2.length ≤ 64 := by
          have h1 := hpre2.length_le
          rw [← ef] at h1
          simp at h1
          omega
        have ew : eT w = .tup (w.map fun k : Nat => .int (k : Int)) := rfl
        have ew2 : eT (w ++ [v]) = .tup (w.map (fun k : Nat => .int (k : Int)) ++ [.int (v : Int)]) := by unfold eT; simp
        rw [ew2] at hnx3
        exists ew
        exact hnx3 [_] rfl
      · obtain ⟨z5, rfl⟩ : ∃ a, xs2 = [a] := by
          match xs2, hxl2 with
          | [a], _ => exact ⟨a, rfl⟩
        exact hnx2 [_, _] rfl
    · obtain ⟨y4, y5, rfl⟩ : ∃ a b, xs = [a, b] := by
        match xs, hxl with
        | [a, b], _ => exact ⟨a, b, rfl⟩
      have en : (fo.flatMap fun w => (List.range k).map fun v => eT (w ++ [v])) = (nextA fo k).map eT := by
        unfold nextA
        rw [List.map_flatMap]
        simp only [List.map_map]
        rfl
      rw [List.nil_append, en]
      exists sdel_supd hr
      exact hnx [_, _, _, _, _] _ ⟨_, _, _, _, rfl, rfl⟩
  · rintro xs S' ⟨x2, x3, x4, x5, rfl, rfl⟩
    rw [List.length_map, List.take_length]
    exists Pf.kB_ap
    exact drop_refl hR
/-- the turns over the items -/
theorem genV_all (hs : sz ∈ szs) {Rl : List MV → Sto → Prop} : ∀ (n i : Nat) (acc : List MV), Rl (acc ++ ((List.range n).map fun j => eT (recF sz (i + j)))) S → genV Rw.W_record_at (eT sz) Rl n i acc S
  | 0, i, acc, h => by
    unfold genV
    simpa using h
  | n + 1, i, acc, h => by
    unfold genV
    refine at_spec hs (genV_all hs n (i + 1) _ ?_)
    rw [List.range_succ_eq_map, List.map_cons, List.map_map] at h
    rw [List.append_assoc]
    have e : ((List.range n).map ((fun j => eT (recF sz (i + j))) ∘ Nat.succ)) = (List.range n).map fun j => eT (recF sz (i + 1 + j)) := by
      refine List.map_congr_left fun j _ => ?_
      show eT (recF sz (i + (j + 1))) = _
      rw [Nat.add_assoc, Nat.add_comm 1 j]
    rw [e] at h
    exact h
theorem genL_J (hs : sz ∈ szs) {pt : Pat} {mb : MS} {D : MD} {mk : Nat → MV → MV} (J : Mv.Env → Prop) (done : ∀ ρ, J ρ → D.nx ρ S)
    (step : ∀ (i : Nat) (ρ : Mv.Env) (nx : Mv.Env → Sto → Prop), J ρ → (∀ ρ', J ρ' → nx ρ' S) → bindP pt (mk i (eT (recF sz i))) S ρ fun ρ' => mb { D with nx := nx, ct := nx, bk := D.nx } ρ' S) : ∀ (n i : Nat) (ρ : Mv.Env), J ρ → genL Rw.W_record_at (eT sz) pt mb D mk n i ρ S
  | 0, i, ρ, h => by
    unfold genL
    exact done ρ h
  | n + 1, i, ρ, h => by
    unfold genL
    refine at_spec hs (step i ρ _ h fun ρ' h' => genL_J hs J done step n (i + 1) ρ' h')
def kForG (B : Nat) (Wc Wa : MW) (pt : Pat) (mb : MS) (mk : Nat → MV → MV) (D : MD) (ρ : Mv.Env) : MK := fun y S1 => Wc [y] S1 fun n S2 => ∃ N : Nat, n = .int (N : Int) ∧ N < B ∧ genL Wa y pt mb D mk N 0 ρ S2
theorem forG_ap {B : Nat} {Wc Wa : MW} {me : ME} {pt : Pat} {mb : MS} {mk : Nat → MV → MV} {D : MD} {ρ : Mv.Env} : mForG B Wc Wa me pt mb mk D ρ S = me ρ S (kForG B Wc Wa pt mb mk D ρ) := rfl
def kListG (B : Nat) (Wc Wa : MW) (R : MK) : MK := fun y S1 => Wc [y] S1 fun n S2 => ∃ N : Nat, n = .int (N : Int) ∧ N < B ∧ genV Wa y (fun l S3 => newL l S3 R) N 0 [] S2
theorem listG_ap {B : Nat} {Wc Wa : MW} {me : ME} {ρ : Mv.Env} : mListG B Wc Wa me ρ S R = me ρ S (kListG B Wc Wa R) := rfl
theorem szs_of (h1 : 1 ≤ sz.length) (h3 : sz.length ≤ 3) (hv : ∀ x ∈ sz, 1 ≤ x ∧ x ≤ 4) : sz ∈ szs := by
  have m1 : ∀ a, 1 ≤ a ∧ a ≤ 4 → a ∈ [1, 2, 3, 4] := fun a h => by
    have : a = 1 ∨ a = 2 ∨ a = 3 ∨ a = 4 := by omega
    rcases this with rfl | rfl | rfl | rfl <;> simp
  match sz, h1, h3, hv with
  | [a], _, _, hv => exact List.mem_append_left _ (List.mem_append_left _ (List.mem_map.mpr ⟨a, m1 a (hv a (by simp)), rfl⟩))
  | [a, b], _, _, hv => exact List.mem_append_left _ (List.mem_append_right _ (List.mem_flatMap.mpr ⟨a, m1 a (hv a (by simp)), List.mem_map.mpr ⟨b, m1 b (hv b (by simp)), rfl⟩⟩))
  | [a, b, c], _, _, hv => exact List.mem_append_right _ (List.mem_flatMap.mpr ⟨a, m1 a (hv a (by simp)), List.mem_flatMap.mpr ⟨b, m1 b (hv b (by simp)), List.mem_map.mpr ⟨c, m1 c (hv c (by simp)), rfl⟩⟩⟩)
  | [], h1, _, _ => simp at h1
  | _ :: _ :: _ :: _ :: _, _, h3, _ => simp at h3
theorem sizes_spec {st l : Addr} {q : GS} (hl : l ≠ st) (hq : q.ok) (h : ∀ sz q', q'.ok → sz ∈ szs → R (eT sz) (G st l S q')) : Rw.W__law_sizes [.ref st] (G st l S q) R := by
  unfold Rw.W__law_sizes Rw.B__law_sizes
  exists Pf.kB_ap
  refine nxN (many := 3) hl hq (by omega) (by omega) fun k q1 hq1 hk => ?_
  obtain ⟨m, hm1, hm4, e⟩ : ∃ m : Nat, 1 ≤ m ∧ m ≤ 4 ∧ atI [MV.int 4, MV.int 4, MV.int 2] (k : Int) = some (.int (m : Int)) := by
    have : k = 0 ∨ k = 1 ∨ k = 2 := by omega
    rcases this with rfl | rfl | rfl
    · exact ⟨4, by omega, by omega, rfl⟩
    · exact ⟨4, by omega, by omega, rfl⟩
    · exact ⟨2, by omega, by omega, rfl⟩
  exists e
  refine nxN (many := 3) hl hq1 (by omega) (by omega) fun n q2 hq2 hn => ?_
  have en : (1 + (n : Int)) = ((1 + n : Nat) : Int) := by omega
  exists en
  refine lc_drawG (α := Nat) (fun k : Nat => MV.int (k : Int)) (fun i x => 1 ≤ x ∧ x ≤ 4) hq2 (by rw [rng_len]; omega) (fun i v q5 hv hq5 R hR => ?_) fun xs q3 hq3 hlen hx => ?_
  · exists Pf.kB_ap
    refine nxN (many := m) hl hq5 (by omega) (by omega) fun v q6 hq6 hv2 => ?_
    have ev : (1 + (v : Int)) = ((1 + v : Nat) : Int) := by omega
    exists ev
    exact hR (1 + v) q6 hq6 ⟨by omega, by omega⟩
  · rw [rng_len] at hlen
    exists Pf.kB_ap
    refine drop_refl (h xs q3 hq3 (szs_of (by omega) (by omega) fun x hm => ?_))
    obtain ⟨i, hi⟩ := List.getElem?_of_mem hm
    exact hx i x hi
theorem fit_eT {r : List Nat} {n : Nat} : fit (eT r) (n + 1) = true := by
  unfold eT
  rw [fit_tup]
  exact fits_map (fun _ => fit_int) r
theorem fit_all {L : List (List Nat)} : fit (.frz (L.map eT)) 60 = true := by
  rw [fit_frz]
  exact fits_map (fun _ => fit_eT) L
theorem lawG (ns : List Int) (x : MV) (S0 : Sto) (hx : ∀ R, listV [x] S0 R = newL (ns.map .int) S0 R) : Rw.W_law [x] S0 (fun v _ => v = .bl true) := by
  unfold Rw.W_law Rw.B_law
  exists hx
  intro l hl0
  exists Pf.kB_ap
  intro st hst
  have hl : l ≠ st := fun e => by subst e; rw [Mv.supd_same] at hst; cases hst
  exists G_start hl
  refine sizes_spec hl GS.ok0 fun sz q hq hs => ?_
  obtain ⟨ea, hp, _⟩ := all_ok sz hs
  exists Pf.kB_ap
  refine all_spec hs ?_
  exists listG_ap
  refine count_spec hs ⟨prodF sz, rfl, by omega, genV_all hs _ _ _ ?_⟩
  have el : ([] : List MV) ++ ((List.range (prodF sz)).map fun j => eT (recF sz (0 + j))) = (allF sz).map eT := by
    rw [ea, List.map_map, List.nil_append]
    refine List.map_congr_left fun j _ => ?_
    show eT (recF sz (0 + j)) = eT (recF sz j)
    rw [Nat.zero_add]
  rw [el]
  intro r hr
  have elen : (allF sz).length = prodF sz := by rw [ea, List.length_map, List.length_range]
  have ev := eqv_same (x := .frz ((allF sz).map eT)) fit_all
  exists sdel_supd hr, dat_fit fit_all, ev
  refine count_law hs ?_
  exists List.length_map, elen
  exists forG_ap
  refine count_spec hs ⟨prodF sz, rfl, by omega, ?_⟩
  refine genL_J hs (fun ρ => ∃ x4 x5, ρ = [some x, some (.ref st), some (eT sz), some (.frz ((allF sz).map eT)), x4, x5]) ?_ ?_ _ _ _ ⟨_, _, rfl⟩
  rotate_left
  · rintro i _ nx ⟨x4, x5, rfl⟩ hnx
    have ew : eT (recF sz i) = .tup ((recF sz i).map fun k : Nat => .int (k : Int)) := rfl
    rw [ew]
    exists Pf.kB_ap
    exact hnx _ ⟨_, _, rfl⟩
  rintro _ ⟨x4, x5, rfl⟩
  exists forG_ap
  refine count_spec hs ⟨prodF sz, rfl, by omega, ?_⟩
  refine genL_J hs (fun ρ => ∃ x4 x5, ρ = [some x, some (.ref st), some (eT sz), some (.frz ((allF sz).map eT)), x4, x5]) ?_ ?_ _ _ _ ⟨_, _, rfl⟩
  · rintro _ ⟨x4, x5, rfl⟩
    exists Pf.kB_ap
    exact drop_refl rfl
  · rintro i _ nx ⟨x4, x5, rfl⟩ hnx
    have ev2 := eqv_same (x := eT (recF sz i)) (fit_eT (n := 59))
    exists Pf.kB_ap
    refine at_spec hs ?_
    exists dat_fit (fit_eT (n := 59)), ev2
    exact hnx _ ⟨_, _, rfl⟩
theorem law (ns : List Int) (_ : ns.length ≤ 63) : Rw.W_law [.frz (ns.map .int)] Mv.sto0 (fun v _ => v = .bl true) := lawG ns _ _ fun R => rfl
end P02
theorem PySem.Challenge.cw_rollwarden_k02_all_records_in_order_holds : PySem.Challenge.rw_rollwarden_k02_all_records_in_order.Holds := by
  exact Rw.holds_of P02.law
