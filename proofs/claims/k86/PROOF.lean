import PyProof.Rows.All
import Wide.All
import OpenK.AllK
import Wide.FinOn
import HandS.Base
import HandS.Call
import HandS.List
import HandS.Comp
import HandS.Ends
import HandS.Dict
import HandS.Iter
import HandS.Text
import HandS.Words
import HandS.TupSets
import HandS.Strs
import HandS.SetFor
import KE.KeyNested
import KE.KDictKeyed
import HandS.TupAny
import HandS.Deep
import HandS.IsInst
import HandS.Wide
import HandS.Defaults
import HandS.NoneIn
import HandS.Zip
import HandS.Style
import HandS.Flow
import KE.SortData
import HandS.More
import KE.KDictCopyH
import PyProof.Transfer
import HandS.Head0
import HandS.Head1
import HandS.Head2
import HandS.HeadEnd
import HandS.HeadHook1
import HandS.HeadHook2
import HandS.Star
import KE.DataCmp
import KE.KDictPairs
import KE.SortKeyHeap
import HandS.SortKw
import HandS.Conv
import KE.DataMinKey
import PySem.Challenge.RW_windowscores_k86_pictures_that_fall_on_f
set_option Elab.async false
set_option linter.all false
set_option maxRecDepth 100000
set_option maxHeartbeats 0
namespace Ws
open PySem PySem.Spec PyProof.Rows L2
/-- 0, 1, 6, 31, .. -/
def xq : Nat → Nat
  | 0 => 0
  | n + 1 => 5 * xq n + 1
theorem pow5_odd (n : Nat) : 5 ^ n % 4 = 1 := by
  induction n with
  | zero => rfl
  | succ n ih => rw [Nat.pow_succ]; omega
theorem xq_add (a : Nat) : ∀ b, xq (a + b) = 5 ^ b * xq a + xq b
  | 0 => by simp [xq]
  | b + 1 => by
    show 5 * xq (a + b) + 1 = 5 ^ (b + 1) * xq a + (5 * xq b + 1)
    rw [xq_add a b, Nat.pow_succ, Nat.mul_add, Nat.mul_comm (5 ^ b) 5, Nat.mul_assoc]; omega
theorem xq_par (n : Nat) : xq n % 2 = n % 2 := by
  induction n with
  | zero => rfl
  | succ n ih => show (5 * xq n + 1) % 2 = _; omega
theorem two_dvd {e x y : Nat} (hy : y % 4 = 2) : 2 ^ (e + 1) ∣ x * y ↔ 2 ^ e ∣ x := by
  obtain ⟨z, rfl⟩ : ∃ z, y = 2 * (2 * z + 1) := ⟨y / 4, by omega⟩
  rw [Nat.pow_succ, Nat.mul_comm (2 ^ e) 2, show x * (2 * (2 * z + 1)) = 2 * (x * (2 * z + 1)) by rw [Nat.mul_left_comm], Nat.mul_dvd_mul_iff_left (by decide)]
  refine ⟨fun h => ?_, fun h => Nat.dvd_trans h (Nat.dvd_mul_right _ _)⟩
  have c : Nat.Coprime (2 ^ e) (2 * z + 1) := by
    refine Nat.Coprime.pow_left e ?_
    show Nat.gcd 2 (2 * z + 1) = 1
    rw [Nat.gcd_rec, show (2 * z + 1) % 2 = 1 by omega]; rfl
  exact c.dvd_of_dvd_mul_right h
theorem xq_dvd : ∀ (e n : Nat), 2 ^ e ∣ xq n ↔ 2 ^ e ∣ n
  | 0, n => by simp
  | e + 1, n => by
    rcases Nat.mod_two_eq_zero_or_one n with h | h
    · obtain ⟨k, rfl⟩ : ∃ k, n = k + k := ⟨n / 2, by omega⟩
      have e1 : xq (k + k) = xq k * (5 ^ k + 1) := by rw [xq_add, Nat.mul_comm, Nat.mul_add, Nat.mul_one]
      rw [e1, two_dvd (by have := pow5_odd k; omega), xq_dvd e k, show k + k = k * 2 by omega, Nat.pow_succ, Nat.mul_dvd_mul_iff_right (by decide)]
    · have h2 : ∀ x : Nat, x % 2 = 1 → ¬ 2 ^ (e + 1) ∣ x := fun x hx hd => by
        have : 2 ∣ x := Nat.dvd_trans ⟨2 ^ e, by rw [Nat.pow_succ, Nat.mul_comm]⟩ hd
        omega
      exact ⟨fun z => absurd z (h2 _ (by rw [xq_par]; exact h)), fun z => absurd z (h2 _ h)⟩
/-- the k-th place of the round from i, not yet cut -/
def yq (i k : Nat) : Nat := 5 ^ k * i + xq k
theorem lcg_yq (m i : Nat) (hi : i ≤ m) : ∀ k, lcgI m i k = yq i k % (m + 1)
  | 0 => by show i = (5 ^ 0 * i + 0) % (m + 1); rw [Nat.pow_zero, Nat.one_mul, Nat.add_zero, Nat.mod_eq_of_lt (by omega)]
  | k + 1 => by
    show (lcgI m i k * 5 + 1) % (m + 1) = _
    rw [lcg_yq m i hi k]
    have : yq i (k + 1) = yq i k * 5 + 1 := by
      unfold yq
      rw [Nat.pow_succ]
      show 5 ^ k * 5 * i + (5 * xq k + 1) = _
      rw [Nat.add_mul, Nat.mul_right_comm]; omega
    rw [this, Nat.add_mod, Nat.mul_mod, Nat.mod_mod, ← Nat.mul_mod, ← Nat.add_mod]
theorem yq_diff (i a d : Nat) : yq i (a + d) = yq i a + 5 ^ a * (xq d * (4 * i + 1)) := by
  have h4 : ∀ d, 5 ^ d = 4 * xq d + 1 := fun d => by
    induction d with
    | zero => rfl
    | succ d ih => rw [Nat.pow_succ, ih]; show (4 * xq d + 1) * 5 = 4 * (5 * xq d + 1) + 1; omega
  unfold yq
  rw [Nat.add_comm a d, xq_add d a, Nat.add_comm d a, Nat.pow_add, h4 d]
  have : 5 ^ a * (4 * xq d + 1) * i + (5 ^ a * xq d + xq a) = 5 ^ a * i + xq a + 5 ^ a * (xq d * (4 * i + 1)) := by
    have e1 : 5 ^ a * (4 * xq d + 1) * i = 5 ^ a * (4 * xq d * i) + 5 ^ a * i := by rw [Nat.mul_assoc, Nat.add_mul, Nat.one_mul, Nat.mul_add]
    have e2 : 5 ^ a * (xq d * (4 * i + 1)) = 5 ^ a * (4 * xq d * i) + 5 ^ a * xq d := by
      rw [Nat.mul_add (xq d), Nat.mul_one, Nat.mul_add, show xq d * (4 * i) = 4 * xq d * i by rw [Nat.mul_left_comm, Nat.mul_assoc]]
    rw [e1, e2]; omega
  exact this
theorem yq_inj {e i a d : Nat} (hd : 0 < d) (hd2 : d < 2 ^ e) : ¬ 2 ^ e ∣ yq i (a + d) - yq i a := by
  rw [yq_diff, Nat.add_sub_cancel_left]
  intro h
  have c1 : Nat.Coprime (2 ^ e) (5 ^ a) := Nat.Coprime.pow _ _ (by decide)
  have c2 : Nat.Coprime (2 ^ e) (4 * i + 1) := by
    refine Nat.Coprime.pow_left e ?_
    show Nat.gcd 2 (4 * i + 1) = 1
    rw [Nat.gcd_rec, show (4 * i + 1) % 2 = 1 by omega]; rfl
  have := (xq_dvd e d).mp (c2.dvd_of_dvd_mul_right (c1.dvd_of_dvd_mul_left h))
  have := Nat.le_of_dvd hd this
  omega
/-- each place is met within one round -/
theorem lcg_meets {m e : Nat} (hm : m + 1 = 2 ^ e) {i j : Nat} (hi : i ≤ m) (hj : j ≤ m) : ∃ k, k ≤ m ∧ lcgI m i k = j := by
  have inj : ∀ a b, a < b → b ≤ m → lcgI m i a ≠ lcgI m i b := fun a b hab hb h => by
    rw [lcg_yq m i hi, lcg_yq m i hi] at h
    obtain ⟨d, rfl⟩ : ∃ d, b = a + d := ⟨b - a, by omega⟩
    refine yq_inj (e := e) (i := i) (a := a) (d := d) (by omega) (by omega) ?_
    rw [← hm]
    exact Nat.dvd_of_mod_eq_zero (Nat.sub_mod_eq_zero_of_mod_eq h.symm)
  have nd : ((List.range (m + 1)).map (lcgI m i)).Nodup := by
    refine List.pairwise_map.mpr (List.Pairwise.imp_of_mem (fun {a b} ha hb hab => ?_) List.pairwise_lt_range)
    exact inj a b hab (by have := List.mem_range.mp hb; omega)
  have le : ∀ k, lcgI m i k ≤ m := fun k => by
    cases k with
    | zero => exact hi
    | succ k => exact Nat.le_of_lt_succ (Nat.mod_lt _ (Nat.succ_pos _))
  refine Classical.byContradiction fun hno => ?_
  have h1 : ∀ x ∈ (List.range (m + 1)).map (lcgI m i), x ∈ (List.range (m + 1)).erase j := fun x hx => by
    obtain ⟨k, hk, rfl⟩ := List.mem_map.mp hx
    have hk' := List.mem_range.mp hk
    refine (List.mem_erase_of_ne fun z => hno ⟨k, by omega, z⟩).mpr (List.mem_range.mpr ?_)
    have := le k; omega
  have h2 := nat_nodup_len _ _ nd h1
  rw [List.length_map, List.length_erase_of_mem (List.mem_range.mpr (by omega)), List.length_range] at h2
  omega
end Ws
namespace Ws
open PySem PySem.Spec PyProof.Rows L2
def Gm (m : Nat) : Prop := ∃ e, 3 ≤ e ∧ m + 1 = 2 ^ e
section
variable {m : Nat} {h : Int} {t : SetTable} {hs : List Int}
theorem Gm.odd (g : Gm m) : m % 2 = 1 := by
  obtain ⟨e, he, h⟩ := g
  obtain ⟨f, rfl⟩ : ∃ f, e = f + 1 := ⟨e - 1, by omega⟩
  rw [Nat.pow_succ] at h; omega
theorem Gm.ge (g : Gm m) : 7 ≤ m := by
  obtain ⟨e, he, h⟩ := g
  have : 2 ^ 3 ≤ 2 ^ e := Nat.pow_le_pow_right (by decide) he
  omega
theorem Gm.seven : Gm 7 := ⟨3, by decide, rfl⟩
theorem Gm.starts (g : Gm m) (h : Int) {j : Nat} (hj : j ≤ m) : ∃ n, n ≤ m + 12 ∧ runI m (SetTable.bits h) n = j := by
  obtain ⟨e, _, he⟩ := g
  obtain ⟨k, hk, q⟩ := lcg_meets he (runI_le m (SetTable.bits h) 12) hj
  refine ⟨12 + k, by omega, ?_⟩
  rw [runI_tail (bits_lt h), q]
theorem Gm.meets (g : Gm m) (h : Int) {j : Nat} (hj : j ≤ m) : ∃ k, k < 10 * SetTable.turns m ∧ way m h k = j := by
  obtain ⟨n, hn, q⟩ := g.starts h hj
  obtain ⟨k, hk, q2⟩ := run_nth m (SetTable.bits h) n
  exact ⟨k, by unfold SetTable.turns; omega, (congrArg SetTable.Probe.j q2).trans q⟩
theorem way_in (m : Nat) (h : Int) (k : Nat) : way m h k ≤ m := by
  have hi : SetTable.bits h % (m + 1) ≤ m := Nat.le_of_lt_succ (Nat.mod_lt _ (Nat.succ_pos _))
  have r := runEnd_bd hi
  have q : (runAt m (SetTable.bits h % (m + 1)) (SetTable.bits h)).j + (runAt m (SetTable.bits h % (m + 1)) (SetTable.bits h)).more ≤ m := by show SetTable.bits h % (m + 1) + (SetTable.runEnd m (SetTable.bits h % (m + 1)) - SetTable.bits h % (m + 1)) ≤ m; omega
  exact Nat.le_trans (Nat.le_add_right _ _) (nth_in k _ q)
/-- every entry is found again on the way of its hash -/
structure Tab (t : SetTable) (hs : List Int) : Prop where
  rs : L2.Ris t.place.toList
  nodum : t.dummies = #[]
  len : t.place.size = hs.length
  gm : Gm t.mask
  low : ∀ x ∈ t.place.toList, x ≤ t.mask
  rch : ∀ (i : Nat) (g : Int) (j : Nat), hs[i]? = some g → t.place.toList[i]? = some j → ∃ k, way t.mask g k = j ∧ ∀ l, l < k → way t.mask g l ∈ t.place.toList
theorem Tab.gap (T : Tab t hs) (hl : hs.length ≤ t.mask) (g : Int) : ∃ K, K < 10 * SetTable.turns t.mask ∧ way t.mask g K ∉ t.place.toList ∧ ∀ l, l < K → way t.mask g l ∈ t.place.toList := by
  obtain ⟨j, hj, hn⟩ := st_missing t.place.toList (t.mask + 1) (by rw [Array.length_toList, T.len]; omega)
  obtain ⟨k, hk, q⟩ := T.gm.meets g (Nat.le_of_lt_succ hj)
  obtain ⟨K, a, b, c⟩ := st_least (p := fun k => ¬ way t.mask g k ∈ t.place.toList) k (by rw [q]; exact hn)
  exact ⟨K, by omega, b, fun l hl => Classical.byContradiction fun z => c l hl z⟩
theorem Tab.ahead (T : Tab t hs) {g : Int} {K i j : Nat} (hK : way t.mask g K ∉ t.place.toList) (hi : hs[i]? = some g) (hj : t.place.toList[i]? = some j) : ∃ k, k < K ∧ way t.mask g k = j := by
  obtain ⟨k, q, hb⟩ := T.rch i g j hi hj
  have hm : j ∈ t.place.toList := List.mem_of_getElem? hj
  refine ⟨k, Classical.byContradiction fun z => ?_, q⟩
  by_cases c : k = K
  · subst c; rw [q] at hK; exact hK hm
  · exact hK (hb K (by omega))
theorem Tab.put (T : Tab t hs) {g : Int} {K : Nat} (hK : way t.mask g K ∉ t.place.toList) (hb : ∀ l, l < K → way t.mask g l ∈ t.place.toList) {j p : Nat} (hj : j = way t.mask g K) (hp : p = SetTable.below t.place j) :
    p ≤ hs.length ∧ Tab (t.put j).1 (hs.take p ++ g :: hs.drop p) ∧ (t.put j).1.fill = hs.length + 1 := by
  have jm : j ≤ t.mask := hj ▸ way_in _ _ _
  have jn : j ∉ t.place.toList := by rw [hj]; exact hK
  have c1 := (below_cut T.rs j).1
  have len : t.place.toList.length = hs.length := by rw [Array.length_toList]; exact T.len
  have hpl : p ≤ t.place.toList.length := by rw [Array.length_toList, hp]; exact c1
  have pl : (t.put j).1.place.toList = t.place.toList.take p ++ j :: t.place.toList.drop p := by rw [hp]; exact put_place t j
  have sz : (t.put j).1.place.size = hs.length + 1 := by rw [← Array.length_toList, pl, len_ins _ hpl, len]
  have nd := put_dm T.nodum j
  have more : ∀ {x : Nat}, x ∈ t.place.toList → x ∈ (t.put j).1.place.toList := fun h => by rw [pl]; exact mem_ins.2 (.inr h)
  refine ⟨by omega, ⟨ris_insert T.rs (fun q => jn (List.mem_of_getElem? (by rw [Array.getElem?_toList]; exact q))), nd, by rw [len_ins _ (by omega)]; exact sz, T.gm, fun x hx => ?_, fun i g2 j2 h1 h2 => ?_⟩, ?_⟩
  · rw [pl] at hx
    exact (mem_ins.1 hx).elim (fun z => z ▸ jm) (T.low x)
  · rw [tins_get hs (by omega)] at h1
    rw [pl, tins_get _ hpl] at h2
    have old : ∀ i', hs[i']? = some g2 → t.place.toList[i']? = some j2 → ∃ k, way t.mask g2 k = j2 ∧ ∀ l, l < k → way t.mask g2 l ∈ (t.put j).1.place.toList := fun i' a b => by
      obtain ⟨k, q, z⟩ := T.rch i' g2 j2 a b
      exact ⟨k, q, fun l hl => more (z l hl)⟩
    show ∃ k, way t.mask g2 k = j2 ∧ ∀ l, l < k → way t.mask g2 l ∈ (t.put j).1.place.toList
    rcases Nat.lt_trichotomy i p with c | c | c
    · rw [if_pos c] at h1 h2; exact old i h1 h2
    · rw [if_neg (by omega), if_pos c] at h1 h2
      cases h1; cases h2
      exact ⟨K, hj.symm, fun l hl => more (hb l hl)⟩
    · rw [if_neg (by omega), if_neg (by omega)] at h1 h2; exact old (i - 1) h1 h2
  · show (t.put j).1.place.size + (t.put j).1.dummies.size = _
    rw [nd, sz]; rfl
theorem Gm.free (g : Gm m) (ow : Array (Option Nat)) (h : Int) {j : Nat} (hj : j ≤ m) (hf : oAt ow j = none) :
    ∃ K, SetTable.layClean.free m ow (SetTable.turns m) (SetTable.bits h % (m + 1)) (SetTable.bits h) = some (way m h K) ∧ oAt ow (way m h K) = none ∧ ∀ l, l < K → oAt ow (way m h l) ≠ none := by
  obtain ⟨n, hn, q⟩ := g.starts h hj
  have hw : way m h (off m (SetTable.bits h % (m + 1)) (SetTable.bits h) n) = j := by
    have := congrArg SetTable.Probe.j (nth_off m n (SetTable.bits h % (m + 1)) (SetTable.bits h))
    rw [itL_run] at this
    exact this.trans q
  obtain ⟨K, a, b, c⟩ := st_least (p := fun k => oAt ow (way m h k) = none) _ (show oAt ow (way m h (off m (SetTable.bits h % (m + 1)) (SetTable.bits h) n)) = none from hw ▸ hf)
  refine ⟨K, free_spec m ow _ n _ _ K (by unfold SetTable.turns; omega) a (fun l hl => ?_) (Option.isNone_iff_eq_none.mpr b), b, c⟩
  exact Bool.eq_false_iff.mpr fun z => c l hl (Option.isNone_iff_eq_none.mp z)
theorem own_more (g : Gm m) {done : List Int} {ow : Array (Option Nat)} (W : Own m done ow) (hl : done.length ≤ m) (h : Int) :
    ∃ j, SetTable.layClean.free m ow (SetTable.turns m) (SetTable.bits h % (m + 1)) (SetTable.bits h) = some j ∧ Own m (done ++ [h]) (ow.setIfInBounds j (some done.length)) := by
  obtain ⟨ps, hps, hin⟩ := W.ps
  obtain ⟨j0, b0, n0⟩ := st_missing ps (m + 1) (by omega)
  have f0 : oAt ow j0 = none := Classical.byContradiction fun z => n0 (hin j0 (Nat.le_of_lt_succ b0) z)
  obtain ⟨K, q1, q2, q3⟩ := g.free ow h (Nat.le_of_lt_succ b0) f0
  have lo := way_in m h K
  have me := oAt_set_self (some done.length) (show way m h K < ow.size by rw [W.sz]; omega)
  have up : ∀ i, oAt ow i ≠ none → oAt (ow.setIfInBounds (way m h K) (some done.length)) i ≠ none := fun i hi => by
    by_cases c : i = way m h K
    · rw [c, me]; simp
    · rw [oAt_set_ne _ c]; exact hi
  refine ⟨_, q1, ⟨by rw [Array.size_setIfInBounds]; exact W.sz, fun j k hj q => ?_, fun k hk => ?_, way m h K :: ps, by simp [hps], fun j hj q => ?_⟩⟩
  · by_cases c : j = way m h K
    · rw [c, me] at q
      cases q
      exact ⟨h, K, by simp, c.symm, fun l hl => up _ (q3 l hl)⟩
    · rw [oAt_set_ne _ c] at q
      obtain ⟨g2, K2, a1, a2, a3⟩ := W.at_ j k hj q
      exact ⟨g2, K2, by rw [List.getElem?_append_left (List.getElem?_eq_some_iff.mp a1).1]; exact a1, a2, fun l hl => up _ (a3 l hl)⟩
  · by_cases c : k = done.length
    · exact ⟨way m h K, lo, by rw [c]; exact me⟩
    · obtain ⟨j, hj, q⟩ := W.all k (by simp at hk; omega)
      exact ⟨j, hj, by rw [oAt_set_ne _ (fun z => by rw [z, q2] at q; cases q)]; exact q⟩
  · by_cases c : j = way m h K
    · rw [c]; exact List.mem_cons_self ..
    · rw [oAt_set_ne _ c] at q; exact List.mem_cons_of_mem _ (hin j hj q)
theorem own_fold (g : Gm m) : ∀ (rest done : List Int) (ow : Array (Option Nat)), Own m done ow → done.length + rest.length ≤ m →
    ∃ ow', rest.foldl (stepF m) (some (ow, done.length)) = some (ow', (done ++ rest).length) ∧ Own m (done ++ rest) ow'
  | [], done, ow, W, _ => ⟨ow, by simp, by simpa using W⟩
  | h :: rest, done, ow, W, hl => by
    simp only [List.length_cons] at hl
    obtain ⟨j, q, W2⟩ := own_more g W (by omega) h
    obtain ⟨ow', q2, W3⟩ := own_fold g rest (done ++ [h]) _ W2 (by simp; omega)
    rw [List.append_assoc] at q2 W3
    refine ⟨ow', ?_, W3⟩
    rw [List.foldl_cons, stepF_some q]
    simpa using q2
theorem Gm.lay (g : Gm m) {hs : Array Int} (hn : hs.size ≤ m) : ∃ ow, SetTable.layClean m hs = some ow ∧ Own m hs.toList ow := by
  obtain ⟨ow, q, W⟩ := own_fold g hs.toList [] _ (Own.init m) (by simpa using hn)
  refine ⟨ow, ?_, by simpa using W⟩
  rw [layClean_eq, show (some (Array.replicate (m + 1) (none : Option Nat), 0)) = some (Array.replicate (m + 1) none, ([] : List Int).length) from rfl, q]; rfl
theorem Gm.relay {M wanted : Nat} {hs : Array Int} (t : SetTable) (hw : SetTable.sizeAbove wanted - 1 = M) (g : Gm M) (hn : hs.size ≤ M) :
    ∃ t' ord, t.relaid hs wanted = some (t', ord) ∧ ord.toList.Perm (List.range hs.size) ∧ Tab t' (ord.toList.map fun i => hs.getD i 0) ∧ t'.mask = M ∧ t'.led = t.led ∧ t'.plain = t.plain := by
  obtain ⟨ow, q, W⟩ := g.lay hn
  obtain ⟨r1, r2⟩ : L2.Ris ((liveOf M ow).map (·.1)) ∧ ∀ x ∈ (liveOf M ow).map (·.1), x ∈ List.range (M + 1) := ris_live (fun j => ow.getD j none) (List.range (M + 1)) List.pairwise_lt_range
  have nd : ((liveOf M ow).map (·.1)).Nodup := r1.imp fun z => Nat.ne_of_lt z
  have cov : ∀ k, k < hs.size → k ∈ (liveOf M ow).map (·.2) := fun k hk => by
    obtain ⟨j, b1, b2⟩ := W.all k (by simpa using hk)
    exact List.mem_map.mpr ⟨(j, k), (mem_live W.sz).2 ⟨b1, b2⟩, rfl⟩
  have len : (liveOf M ow).length = hs.size := by
    obtain ⟨ps, p1, p2⟩ := W.ps
    have u := nat_nodup_len _ ps nd fun x hx => by
      obtain ⟨⟨y, k⟩, hq, rfl⟩ := List.mem_map.mp hx
      obtain ⟨b1, b2⟩ := (mem_live W.sz).1 hq
      exact p2 y b1 (by simp [b2])
    have v := nat_nodup_len (List.range hs.size) _ List.nodup_range fun k hk => cov k (List.mem_range.mp hk)
    simp at u v p1; omega
  refine ⟨tabOf t M ow, ((liveOf M ow).map (·.2)).toArray, by rw [relaid_eq, hw, q]; rfl, perm_range _ _ (by simpa using len) cov, ⟨r1, rfl, by simp [tabOf], g, fun x hx => Nat.le_of_lt_succ (List.mem_range.mp (r2 x hx)), fun i h j h1 h2 => ?_⟩, rfl, rfl, rfl⟩
  have h1 : (((liveOf M ow).map (·.2)).map fun i => hs.getD i 0)[i]? = some h := h1
  have h2 : ((liveOf M ow).map (·.1))[i]? = some j := h2
  simp only [List.getElem?_map] at h1 h2
  cases hq : (liveOf M ow)[i]? with
  | none => rw [hq] at h2; cases h2
  | some r =>
    rw [hq] at h1 h2
    simp only [Option.map_some, Option.some.injEq] at h1 h2
    obtain ⟨b1, b2⟩ := (mem_live W.sz).1 (show (r.1, r.2) ∈ liveOf M ow from List.mem_of_getElem? hq)
    obtain ⟨h0, K, a1, a2, a3⟩ := W.at_ r.1 r.2 b1 b2
    have e0 : h0 = h := by rw [← h1, Array.getD_eq_getD_getElem?, ← Array.getElem?_toList, a1]; rfl
    subst e0 h2
    refine ⟨K, a2, fun l hl => ?_⟩
    obtain ⟨k2, z⟩ := Option.ne_none_iff_exists'.mp (a3 l hl)
    exact List.mem_map.mpr ⟨(way M h0 l, k2), (mem_live W.sz).2 ⟨way_in _ _ _, z⟩, rfl⟩
end
/-- how great a table becomes -/
theorem sizeAbove_pow (n : Nat) (hn : n ≤ 1000000) : ∃ e, 3 ≤ e ∧ SetTable.sizeAbove n = 2 ^ e ∧ n < 2 ^ e ∧ 2 ^ e ≤ 2 * n + 8 := by
  have go : ∀ (f e : Nat), 3 ≤ e → n < 2 ^ (e + f) → (2 ^ e ≤ 2 * n + 8) → ∃ e', 3 ≤ e' ∧ SetTable.sizeAbove.go n f (2 ^ e) = 2 ^ e' ∧ n < 2 ^ e' ∧ 2 ^ e' ≤ 2 * n + 8 := by
    intro f
    induction f with
    | zero => intro e he h1 h2; exact ⟨e, he, rfl, h1, h2⟩
    | succ f ih =>
      intro e he h1 h2
      unfold SetTable.sizeAbove.go
      by_cases c : 2 ^ e ≤ n
      · rw [if_pos c, ← Nat.pow_succ]
        exact ih (e + 1) (by omega) (by rw [show e + 1 + f = e + (f + 1) by omega]; exact h1) (by rw [Nat.pow_succ]; omega)
      · rw [if_neg c]; exact ⟨e, he, rfl, by omega, h2⟩
  obtain ⟨e, a, b, c, d⟩ := go 64 3 (by decide) (Nat.lt_of_le_of_lt hn (by decide)) (by omega)
  exact ⟨e, a, b, c, d⟩
end Ws
namespace Ws
open PySem PySem.Spec PyProof.Rows L2
mutual
/-- no texts within -/
def numK : NestedKey → Bool
  | .none => true
  | .num _ => true
  | .text _ => false
  | .tup ks => numKs ks
def numKs : List NestedKey → Bool
  | [] => true
  | k :: r => numK k && numKs r
end
/-- the tuple at a is the key k -/
def KAt (h : Heap) (k : NestedKey) (a : Addr) : Prop := (NestedIs h k (.ref a) ∧ k.depth ≤ 8) ∧ numK k = true
abbrev nk (P : Program) (w : World) : HeapKind P w NestedKey := nestedKind P w
section
variable {P : Program} {w : World} {A : Around} {E : Value → Shared → Prop} {s : Shared}
theorem KAt.keep {h h' : Heap} {k : NestedKey} {a : Addr} (x : KAt h k a) (e : ∀ b o, h.get? b = some o → h'.get? b = some o) : KAt h' k a := ⟨⟨NestedIs.at (fun b o vs n hb _ => e b o hb) k _ x.1.1, x.1.2⟩, x.2⟩
theorem KAt.but {h h' : Heap} {k : NestedKey} {a b : Addr} {o : Obj} {es : Array (Int × Value)} {ep : Nat} {t : SetTable} (x : KAt h k b) (ho : h.get? a = some o) (hd : o.data = .set es ep t) (sb : Heap.SameBut a h h') : KAt h' k b := by
  refine ⟨⟨NestedIs.at (fun c oc vs n hc hv => (sb.2 c fun z => ?_).trans hc) k _ x.1.1, x.1.2⟩, x.2⟩
  subst z
  rw [ho] at hc; cases hc
  rw [hd] at hv; cases hv
theorem KAt.ref {h : Heap} {k : NestedKey} {a : Addr} (x : KAt h k a) : ∃ ks, k = .tup ks := by
  obtain ⟨⟨x, _⟩, _⟩ := x
  cases x with
  | tup => exact ⟨_, rfl⟩
def NoCls (P : Program) (w : World) (n : Nat) (s : Shared) (v : Value) : Prop := ∀ (A : Around) (E : Value → Shared → Prop) (Q : Bool → Shared → Prop), Q false s → wpAny (model P w) A (ofAClassStatement n v) Q E s
def ByVal (P : Program) (w : World) (n : Nat) (s : Shared) (v : Value) : Prop := ∀ (A : Around) (E : Value → Shared → Prop) (Q : Bool → Shared → Prop), Q true s → wpAny (model P w) A (hashByValue n v) Q E s
theorem NoCls.tup {n : Nat} {a : Addr} {o : Obj} {vs : Array Value} {m : Nat} (ho : s.heap.get? a = some o) (hc : o.cls = .type "tuple") (hd : o.data = .seq vs m) (hq : ∀ v ∈ vs.toList, NoCls P w n s v) : NoCls P w (n + 1) s (.ref a) := fun A E Q h => by
  have hT : s.TypeIs (.ref a) "tuple" := ⟨o, ho, hc⟩
  unfold ofAClassStatement
  refine wpAny_bind (wpAny_typeOf hT ?_)
  dsimp only
  have e : (("tuple" : String) == "tuple") = true := by decide
  simp only [e, if_true, Bool.not_true, Bool.false_eq_true, if_false]
  try refine wpAny_bind (wpAny_pure ?_)
  try simp only [Bool.not_true, Bool.false_eq_true, if_false]
  show wpAny _ _ (seqItems? (.ref a) >>= _) _ _ s
  refine wpAny_bind (wpAny_seqItems ho hd ?_)
  dsimp only
  refine wpAny_bind ?_
  show wpAny _ _ (forIn vs _ _) _ _ s
  rw [← Array.forIn_toList]
  refine wpAny_forIn_list _ (fun rest r s' => r.1 = none ∧ s' = s ∧ ∀ v ∈ rest, NoCls P w n s v) _ ?_ ?_ _ _ ⟨rfl, rfl, hq⟩
  · rintro v rest r s' ⟨hr, rfl, hall⟩
    refine wpAny_bind (hall v (List.mem_cons_self ..) _ _ _ ?_)
    simp only [Bool.false_eq_true, if_false]
    exact wpAny_pure ⟨rfl, rfl, fun u m => hall u (List.mem_cons_of_mem _ m)⟩
  · rintro ⟨r1, r2⟩ s' ⟨hr, rfl, _⟩
    cases hr
    exact wpAny_pure h
theorem ByVal.tup {n : Nat} {a : Addr} {o : Obj} {vs : Array Value} {m : Nat} (ho : s.heap.get? a = some o) (hc : o.cls = .type "tuple") (hd : o.data = .seq vs m) (hq : ∀ v ∈ vs.toList, ByVal P w n s v) : ByVal P w (n + 1) s (.ref a) := fun A E Q h => by
  have hT : s.TypeIs (.ref a) "tuple" := ⟨o, ho, hc⟩
  unfold hashByValue
  refine wpAny_bind (wpAny_specialOf hT F.slot_tuple_hash.lookup ?_)
  show wpAny _ _ (seqItems? (.ref a) >>= _) _ _ s
  refine wpAny_bind (wpAny_seqItems ho hd ?_)
  refine wpAny_bind ?_
  show wpAny _ _ (forIn vs _ _) _ _ s
  rw [← Array.forIn_toList]
  refine wpAny_forIn_list _ (fun rest r s' => r.1 = none ∧ s' = s ∧ ∀ v ∈ rest, ByVal P w n s v) _ ?_ ?_ _ _ ⟨rfl, rfl, hq⟩
  · rintro v rest r s' ⟨hr, rfl, hall⟩
    refine wpAny_bind (hall v (List.mem_cons_self ..) _ _ _ ?_)
    simp only [Bool.not_true, Bool.false_eq_true, if_false]
    exact wpAny_pure ⟨rfl, rfl, fun u m => hall u (List.mem_cons_of_mem _ m)⟩
  · rintro ⟨r1, r2⟩ s' ⟨hr, rfl, _⟩
    cases hr
    exact wpAny_pure h
mutual
theorem noCls_key : ∀ (k : NestedKey) (v : Value) (n : Nat), NestedIs s.heap k v → k.depth ≤ n → NoCls P w n s v
  | .none, _, n, x, _ => by cases x; intro A E Q h; cases n <;> exact wpAny_pure h
  | .num i, _, n, x, _ => by cases x <;> (intro A E Q h; cases n <;> exact wpAny_pure h)
  | .text y, _, n, x, _ => by cases x; intro A E Q h; cases n <;> exact wpAny_pure h
  | .tup ks, _, n, x, hn => by
    cases x with
    | tup hg hc hd hk =>
      simp only [NestedKey.depth] at hn
      obtain ⟨n', rfl⟩ : ∃ n', n = n' + 1 := ⟨n - 1, by omega⟩
      exact .tup hg hc hd (noCls_keys ks _ n' hk (by omega))
theorem noCls_keys : ∀ (ks : List NestedKey) (vs : List Value) (n : Nat), NestedAll s.heap ks vs → NestedKey.depthAll ks ≤ n → ∀ v ∈ vs, NoCls P w n s v
  | [], _, n, x, _, v, hv => by cases x; cases hv
  | k :: ks, _, n, x, hn, v, hv => by
    cases x with
    | cons x1 x2 =>
      simp only [NestedKey.depthAll] at hn
      exact (List.mem_cons.mp hv).elim (fun e => e ▸ noCls_key k _ n x1 (by omega)) fun hv => noCls_keys ks _ n x2 (by omega) v hv
end
mutual
theorem byVal_key : ∀ (k : NestedKey) (v : Value) (n : Nat), NestedIs s.heap k v → k.depth ≤ n → numK k = true → ByVal P w n s v
  | .none, _, n, x, _, _ => by cases x; intro A E Q h; cases n <;> exact wpAny_pure h
  | .num i, _, n, x, _, _ => by cases x <;> (intro A E Q h; cases n <;> exact wpAny_pure h)
  | .text y, _, n, x, _, hk => by simp [numK] at hk
  | .tup ks, _, n, x, hn, hz => by
    cases x with
    | tup hg hc hd hk =>
      simp only [NestedKey.depth] at hn
      obtain ⟨n', rfl⟩ : ∃ n', n = n' + 1 := ⟨n - 1, by omega⟩
      exact .tup hg hc hd (byVal_keys ks _ n' hk (by omega) (by simpa [numK] using hz))
theorem byVal_keys : ∀ (ks : List NestedKey) (vs : List Value) (n : Nat), NestedAll s.heap ks vs → NestedKey.depthAll ks ≤ n → numKs ks = true → ∀ v ∈ vs, ByVal P w n s v
  | [], _, n, x, _, _, v, hv => by cases x; cases hv
  | k :: ks, _, n, x, hn, hz, v, hv => by
    cases x with
    | cons x1 x2 =>
      simp only [NestedKey.depthAll] at hn
      simp only [numKs, Bool.and_eq_true] at hz
      exact (List.mem_cons.mp hv).elim (fun e => e ▸ byVal_key k _ n x1 (by omega) hz.1) fun hv => byVal_keys ks _ n x2 (by omega) hz.2 v hv
end
/-- a search among such keys is not seen -/
theorem unseen {k : NestedKey} {b : Addr} {Q : Bool → Shared → Prop} (hk : KAt s.heap k b) {ys : List Value} (hy : ∀ y ∈ ys, ∃ k' c, y = Value.ref c ∧ KAt s.heap k' c) (h : Q false s) : wpAny (model P w) A (searchCouldBeSeen (.ref b) ys) Q E s := by
  unfold searchCouldBeSeen
  refine wpAny_bind ?_
  refine wpAny_forIn_list _ (fun rest r s' => r.1 = none ∧ s' = s ∧ ∀ y ∈ rest, ∃ k' c, y = Value.ref c ∧ KAt s.heap k' c) _ ?_ ?_ _ _ ⟨rfl, rfl, hy⟩
  · rintro v rest r s' ⟨hr, rfl, hall⟩
    obtain ⟨k2, c, rfl, hc⟩ := hall v (List.mem_cons_self ..)
    have tl : ∀ y ∈ rest, ∃ k' c, y = Value.ref c ∧ KAt s'.heap k' c := fun u m => hall u (List.mem_cons_of_mem _ m)
    dsimp only
    by_cases hv : (b == c || (carriedByValue (.ref b) && carriedByValue (.ref c))) = true
    · exact wp_if_pos hv (wpAny_pure ⟨rfl, rfl, tl⟩)
    · refine wp_if_neg hv ?_
      refine wpAny_bind ((nk P w).quiet hk.1 ?_)
      simp only [Bool.not_true, Bool.false_eq_true, if_false]
      refine wpAny_bind ((nk P w).quiet hc.1 ?_)
      simp only [Bool.not_true, Bool.false_eq_true, if_false]
      refine wpAny_bind (noCls_key k _ 8 hk.1.1 hk.1.2 _ _ _ ?_)
      simp only [Bool.false_eq_true, if_false]
      refine wpAny_bind (noCls_key k2 _ 8 hc.1.1 hc.1.2 _ _ _ ?_)
      simp only [Bool.false_eq_true, if_false]
      exact wpAny_pure ⟨rfl, rfl, tl⟩
  · rintro ⟨r1, r2⟩ s' ⟨hr, rfl, _⟩
    cases hr
    exact wpAny_pure h
abbrev hk (w : World) (k : NestedKey) : Int := k.hash w
def rowsN (w : World) (L : List (Addr × NestedKey)) : List (Int × Value) := L.map fun p => (hk w p.2, Value.ref p.1)
structure Sn (w : World) (h : Heap) (a : Addr) (L : List (Addr × NestedKey)) (es : Array (Int × Value)) (ep : Nat) (t : SetTable) : Prop where
  ob : ∃ o, h.get? a = some o ∧ o.ExactSet ∧ o.data = .set es ep t
  rows : es.toList = rowsN w L
  tab : Tab t (L.map fun p => hk w p.2)
  nd : (L.map (·.2)).Nodup
  keys : ∀ p ∈ L, KAt h p.2 p.1
  plain : t.plain = true
  led : w.params.followText "set-order" = true ∨ t.led = true
  room : L.length * 5 < t.mask * 3
  cap : t.mask ≤ 8200
variable {a : Addr} {L : List (Addr × NestedKey)} {es : Array (Int × Value)} {ep : Nat} {t : SetTable}
theorem Sn.size (R : Sn w s.heap a L es ep t) : es.size = L.length := by
  rw [← Array.length_toList, R.rows, rowsN, List.length_map]
theorem Sn.fits (R : Sn w s.heap a L es ep t) : t.fits es.size = true := by
  have h1 := R.tab.len
  have h3 := R.room
  rw [List.length_map] at h1
  unfold SetTable.fits SetTable.fill
  rw [R.tab.nodum, R.size, h1]
  simp; omega
theorem Sn.entry (R : Sn w s.heap a L es ep t) {i : Nat} {p : Addr × NestedKey} (h : L[i]? = some p) : es[i]? = some (hk w p.2, Value.ref p.1) := by
  rw [← Array.getElem?_toList, R.rows, rowsN, List.getElem?_map, h]; rfl
theorem Sn.way_not (R : Sn w s.heap a L es ep t) : ¬ t.gaveWay = true := by
  unfold SetTable.gaveWay
  rw [R.tab.gm.odd]; decide
def wayP (m : Nat) (g : Int) (k : Nat) : SetTable.Probe := nth m (runAt m (SetTable.bits g % (m + 1)) (SetTable.bits g)) k
theorem wayP_j {m : Nat} {g : Int} {k : Nat} : (wayP m g k).j = way m g k := rfl
theorem wayP_add {m : Nat} {g : Int} {c q : Nat} : nth m (wayP m g c) q = wayP m g (c + q) := (nth_add m c _ q).symm
theorem wayP_dummy {m : Nat} {g : Int} : ∀ k, (wayP m g k).dummy = none
  | 0 => rfl
  | k + 1 => by
    have : wayP m g (k + 1) = adv m (wayP m g k) := nth_succ m _ k
    rw [this]
    unfold adv
    split <;> exact wayP_dummy k
/-- the search from the c-th step on -/
theorem sn_search (R : Sn w s.heap a L es ep t) {x : Addr} {k : NestedKey} (hx : KAt s.heap k x) (hu : A.units + 8 < cLine) {adding : Bool} {K : Nat} (hKf : K < 10 * SetTable.turns t.mask) (hK : way t.mask (hk w k) K ∉ t.place.toList) (hKb : ∀ c, c < K → way t.mask (hk w k) c ∈ t.place.toList) {Q : SetFound → Shared → Prop}
    (hin : k ∈ L.map (·.2) → ∀ o, (adding = false → o.isSome = true) → Q (.there o) s) (hout : k ∉ L.map (·.2) → Q (.free (way t.mask (hk w k) K) false) s) :
    ∀ (f c : Nat) (stand : Option SetTable.Probe), stand.getD (t.probeStart (hk w k)) = wayP t.mask (hk w k) c → c ≤ K → K - c < f →
      (∀ (i : Nat) p, L[i]? = some p → p.2 = k → ∃ d, c ≤ d ∧ d < K ∧ t.place.toList[i]? = some (way t.mask (hk w k) d)) → wpAny (model P w) A (setSearchFrom a (.ref x) (hk w k) adding f stand) Q E s
  | 0, c, stand, _, _, hf, _ => absurd hf (Nat.not_lt_zero _)
  | f + 1, c, stand, hst, hc, hf, hre => by
    obtain ⟨o, ho, hex, hd⟩ := R.ob
    rw [setSearchFrom_succ]
    refine wpAny_bind (wpAny_setState_of ho hd R.fits ?_)
    dsimp only
    refine wp_if_neg R.way_not ?_
    try refine wpAny_bind (wpAny_pure ?_)
    have st := go_spec t R.tab.rs R.tab.nodum (fun i => (es[i]?.map (·.1)).getD 0) (hk w k) (10 * SetTable.turns t.mask) (K - c) (wayP t.mask (hk w k) c) (wayP_dummy c) (by omega) (fun q hq => by rw [wayP_add]; exact hKb (c + q) (by omega)) (by rw [wayP_add, show c + (K - c) = K by omega]; exact hK)
    simp only [wayP_add, wayP_j] at st
    have hat : ∀ (i : Nat) p, L[i]? = some p → (es[i]?.map (·.1)).getD 0 = hk w p.2 := fun i p hp => by rw [R.entry hp]; rfl
    have pr : ∀ met, SetTable.probe.go t (fun i => (es[i]?.map (·.1)).getD 0) (hk w k) (10 * SetTable.turns t.mask) (wayP t.mask (hk w k) c) = some met → t.probe (fun i => (es[i]?.map (·.1)).getD 0) (hk w k) (stand.getD (t.probeStart (hk w k))) = some met := fun met q => by rw [hst]; exact q
    rcases st with ⟨q, i, hq, hi, hh, hno, hpr⟩ | ⟨hno, hpr⟩
    · rw [pr _ hpr]
      dsimp only
      have hil : i < L.length := by
        have h1 := (List.getElem?_eq_some_iff.mp hi).1
        have h2 := R.tab.len
        rw [List.length_map] at h2
        rw [Array.length_toList] at h1; omega
      obtain ⟨p, hp⟩ : ∃ p, L[i]? = some p := ⟨_, List.getElem?_eq_getElem hil⟩
      have hmem : p ∈ L := List.mem_of_getElem? hp
      have hsl : t.slot (way t.mask (hk w k) (c + q)) = .live i := slot_live R.tab.rs hi
      have rest : wpAny (model P w) A (searchRest a (.ref x) (hk w k) adding f es t (way t.mask (hk w k) (c + q)) i (wayP t.mask (hk w k) (c + (q + 1)))) Q E s := by
        unfold searchRest
        rw [R.entry hp]
        dsimp only
        refine wpAny_bind (wpAny_holding ((nk P w).eqBool hu (R.keys p hmem).1 hx.1 ?_))
        refine wpAny_bind (wpAny_setState_of ho hd R.fits ?_)
        dsimp only
        by_cases hkk : p.2 = k
        · have hm : k ∈ L.map (·.2) := List.mem_map.mpr ⟨p, hmem, hkk⟩
          cases adding with
          | true =>
            refine wp_if_pos (by simp [hkk]) ?_
            exact wpAny_pure (hin hm none (by simp))
          | false =>
            refine wp_if_neg (by simp) ?_
            try refine wpAny_bind (wpAny_pure ?_)
            rw [sameMem]
            dsimp only
            simp only [if_true, hsl, R.entry hp]
            refine wpAny_bind (wpAny_isSame_ref_self (wpAny_bind (wpAny_pure ?_)))
            simp only [if_true]
            refine wp_if_pos (by simp [hkk]) ?_
            exact wpAny_pure (hin hm (some i) (by simp))
        · refine wp_if_neg (by simp [hkk]) ?_
          try refine wpAny_bind (wpAny_pure ?_)
          rw [sameMem]
          dsimp only
          simp only [if_true, hsl, R.entry hp]
          refine wpAny_bind (wpAny_isSame_ref_self (wpAny_bind (wpAny_pure ?_)))
          simp only [if_true]
          refine wp_if_neg (by simp [hkk]) ?_
          refine sn_search R hx hu hKf hK hKb hin hout f (c + (q + 1)) _ rfl (by omega) (by omega) fun i0 p0 h0 hk0 => ?_
          obtain ⟨d, a1, a2, a3⟩ := hre i0 p0 h0 hk0
          refine ⟨d, Classical.byContradiction fun z => ?_, a2, a3⟩
          by_cases ec : d = c + q
          · rw [ec] at a3
            have s0 := slot_live R.tab.rs a3
            rw [hsl] at s0
            cases s0
            rw [hp] at h0; cases h0
            exact hkk hk0
          · exact hno (d - c) i0 (by omega) (by rw [show c + (d - c) = d by omega]; exact a3) (by rw [hat i0 p0 h0, hk0])
      by_cases hl : t.led = true
      · refine wp_if_neg (by simp [hl]) ?_
        try refine wpAny_bind (wpAny_pure ?_)
        exact rest
      · refine wp_if_pos (by simp [hl]) ?_
        refine wpAny_bind (unseen hx (fun y hy => ?_) ?_)
        · obtain ⟨e, he, rfl⟩ := List.mem_map.mp hy
          have he2 : e ∈ es.toList := by have : e ∈ es ∧ e.1 = hk w k := by simpa using he
                                         simpa using this.1
          rw [R.rows] at he2
          obtain ⟨p2, hp2, rfl⟩ := List.mem_map.mp he2
          exact ⟨p2.2, p2.1, rfl, R.keys p2 hp2⟩
        · refine wp_if_neg (by decide) ?_
          try refine wpAny_bind (wpAny_pure ?_)
          exact rest
    · rw [show c + (K - c) = K by omega] at hpr
      rw [pr _ hpr]
      dsimp only
      refine wpAny_pure (hout fun hm => ?_)
      obtain ⟨p0, h0, hk0⟩ := List.mem_map.mp hm
      obtain ⟨i0, h00⟩ := List.mem_iff_getElem?.mp h0
      obtain ⟨d, a1, a2, a3⟩ := hre i0 p0 h00 hk0
      exact hno (d - c) i0 (by omega) (by rw [show c + (d - c) = d by omega]; exact a3) (by rw [hat i0 p0 h00, hk0])
theorem sn_find (R : Sn w s.heap a L es ep t) {x : Addr} {k : NestedKey} (hx : KAt s.heap k x) (hu : A.units + 8 < cLine) {adding : Bool} {Q : SetFound → Shared → Prop} (hin : k ∈ L.map (·.2) → ∀ o, (adding = false → o.isSome = true) → Q (.there o) s)
    (hout : ∀ K, k ∉ L.map (·.2) → way t.mask (hk w k) K ∉ t.place.toList → (∀ c, c < K → way t.mask (hk w k) c ∈ t.place.toList) → Q (.free (way t.mask (hk w k) K) false) s) : wpAny (model P w) A (setSearch a (.ref x) (hk w k) adding) Q E s := by
  have hr := R.room
  have hc := R.cap
  obtain ⟨K, hKf, hK, hKb⟩ := R.tab.gap (by rw [List.length_map]; omega) (hk w k)
  have hbig : K < 100000 := by unfold SetTable.turns at hKf; omega
  unfold setSearch
  refine sn_search R hx hu hKf hK hKb hin (fun hn => hout K hn hK hKb) 100000 0 none rfl (Nat.zero_le _) (by omega) fun i p hp hkp => ?_
  have hil : i < t.place.toList.length := by
    have h1 := (List.getElem?_eq_some_iff.mp hp).1
    have h2 := R.tab.len
    rw [List.length_map] at h2
    rw [Array.length_toList]; omega
  obtain ⟨j, hj⟩ : ∃ j, t.place.toList[i]? = some j := ⟨_, List.getElem?_eq_getElem hil⟩
  obtain ⟨d, hd, e⟩ := R.tab.ahead (g := hk w k) (i := i) hK (by rw [List.getElem?_map, hp, ← hkp]; rfl) hj
  exact ⟨d, Nat.zero_le _, hd, by rw [hj, e]⟩
end
end Ws
namespace Ws
open PySem PySem.Spec PyProof.Rows L2
section
variable {P : Program} {w : World} {A : Around} {E : Value → Shared → Prop} {s : Shared}
theorem range_map {α : Type} (L : List α) : ∀ n, n ≤ L.length → (List.range n).filterMap (fun i => L[i]?) = L.take n
  | 0, _ => rfl
  | n + 1, h => by
    rw [List.range_succ, List.filterMap_append, range_map L n (by omega), List.take_succ, List.getElem?_eq_getElem (by omega : n < L.length)]
    simp [List.getElem?_eq_getElem (by omega : n < L.length)]
theorem reorder (L : List (Addr × NestedKey)) (es : Array (Int × Value)) (ord : Array Nat) (hr : es.toList = rowsN w L) (hp : ord.toList.Perm (List.range L.length)) :
    ∃ L2, (ord.filterMap (es[·]?)).toList = rowsN w L2 ∧ L2.Perm L ∧ (L2.map fun p => hk w p.2) = ord.toList.map fun i => (es.map (·.1)).getD i 0 := by
  have ent : ∀ i : Nat, es[i]? = (L[i]?).map fun p => (hk w p.2, Value.ref p.1) := fun i => by rw [← Array.getElem?_toList, hr, rowsN, List.getElem?_map]
  have key : ∀ l : List Nat, (∀ i ∈ l, i < L.length) → l.filterMap (fun i => es[i]?) = rowsN w (l.filterMap fun i => L[i]?) ∧ ((l.filterMap fun i => L[i]?).map fun p => hk w p.2) = l.map fun i => (es.map (·.1)).getD i 0 := fun l => by
    induction l with
    | nil => intro _; exact ⟨rfl, rfl⟩
    | cons i l ih =>
      intro hl
      have hi := List.getElem?_eq_getElem (hl i (List.mem_cons_self ..))
      obtain ⟨e1, e2⟩ := ih fun j m => hl j (List.mem_cons_of_mem _ m)
      have hei : es[i]? = some (hk w (L[i]'(hl i (List.mem_cons_self ..))).2, Value.ref (L[i]'(hl i (List.mem_cons_self ..))).1) := by rw [ent, hi]; rfl
      refine ⟨?_, ?_⟩
      · rw [List.filterMap_cons_some hei, List.filterMap_cons_some hi, e1]; rfl
      · rw [List.filterMap_cons_some hi, List.map_cons, List.map_cons, e2]
        congr 1
        rw [Array.getD_eq_getD_getElem?, Array.getElem?_map, hei]; rfl
  obtain ⟨e1, e2⟩ := key ord.toList fun i hi => List.mem_range.mp (hp.mem_iff.mp hi)
  refine ⟨_, by simpa using e1, ?_, e2⟩
  have := hp.filterMap fun i => L[i]?
  rwa [range_map L _ (Nat.le_refl _), List.take_length] at this
variable {a : Addr} {L : List (Addr × NestedKey)} {es : Array (Int × Value)} {ep : Nat} {t : SetTable}
/-- a greater table -/
theorem sn_relay {o : Obj} (ho : s.heap.get? a = some o) (hex : o.ExactSet) (hd : o.data = .set es ep t) (hrows : es.toList = rowsN w L) (hsz : t.place.size = es.size) (hdm : t.dummies = #[]) (hfl : es.size ≤ t.mask)
    (nd : (L.map (·.2)).Nodup) (keys : ∀ p ∈ L, KAt s.heap p.2 p.1) (pl : t.plain = true) (ld : w.params.followText "set-order" = true ∨ t.led = true) {wanted : Nat} (hw : L.length * 2 ≤ wanted) (hw2 : wanted ≤ 4096) {Q : Unit → Shared → Prop}
    (hQ : ∀ h' L' es' ep' t', Heap.SameBut a s.heap h' → Sn w h' a L' es' ep' t' → L'.Perm L → Q () { s with heap := h' }) : wpAny (model P w) A (setRelay a wanted) Q E s := by
  have hsl : es.size = L.length := by rw [← Array.length_toList, hrows, rowsN, List.length_map]
  have hfits : t.fits es.size = true := by
    unfold SetTable.fits SetTable.fill
    rw [hdm, hsz]
    simp; omega
  obtain ⟨e, he3, he, he1, he2⟩ := sizeAbove_pow wanted (by omega)
  have gm : Gm (2 ^ e - 1) := ⟨e, he3, by omega⟩
  have h7 := gm.ge
  obtain ⟨t', ord, q, hp, T, em, el, epl⟩ := gm.relay (hs := es.map (·.1)) (wanted := wanted) t (by rw [he]) (by rw [Array.size_map, hsl]; omega)
  rw [Array.size_map, hsl] at hp
  obtain ⟨L2, r1, r2, r3⟩ := reorder L es ord hrows hp
  rw [← r3] at T
  have hs2 : (ord.filterMap (es[·]?)).size = es.size := by rw [← Array.length_toList, r1, rowsN, List.length_map, r2.length_eq, hsl]
  rw [setRelay_eq]
  refine wpAny_bind (wpAny_setState_of ho hd hfits ?_)
  dsimp only
  refine wp_if_neg (by rw [sizeLine_eq, he]; omega) ?_
  try refine wpAny_bind (wpAny_pure ?_)
  rw [q]
  dsimp only
  refine wpAny_bind ?_
  refine wp_if_neg (by rw [hs2]; simp) ?_
  try refine wpAny_bind (wpAny_pure ?_)
  refine wpAny_pure ?_
  dsimp only
  refine wpAny_storeSet_of ho hd ?_ (by rw [hs2, hsl, sizeLine_eq]; omega)
  have sb : Heap.SameBut a s.heap (s.heap.update a (Obj.putSet (ord.filterMap (es[·]?)) t')) := Heap.SameBut.update ..
  refine hQ _ L2 (ord.filterMap (es[·]?)) (ep + 1) t' sb ⟨⟨_, store_at ho hd, ⟨hex.1, hex.2.1, hex.2.2⟩, rfl⟩, r1, T, (r2.map (·.2)).nodup_iff.mpr nd, fun p m => (keys p (r2.mem_iff.mp m)).but ho hd sb, epl.trans pl, by rw [el]; exact ld, ?_, ?_⟩ r2
  · rw [r2.length_eq, em]; omega
  · rw [em]; omega
/-- one more -/
theorem gs_add (R : Sn w s.heap a L es ep t) {x : Addr} {k : NestedKey} (hx : KAt s.heap k x) (hu : A.units + 8 < cLine) (hfew : L.length < 1000) {Q : Bool → Shared → Prop}
    (hQ : ∀ b h' L' es' ep' t', Heap.SameBut a s.heap h' → Sn w h' a L' es' ep' t' → (k ∈ L.map (·.2) → L' = L) → (k ∉ L.map (·.2) → L'.Perm ((x, k) :: L)) → Q b { s with heap := h' }) : wpAny (model P w) A (setAddHashed a (.ref x) (hk w k)) Q E s := by
  obtain ⟨o, ho, hex, hd⟩ := R.ob
  have hsl := R.size
  have hroom := R.room
  unfold setAddHashed
  refine wpAny_holding ?_
  rw [show (100000 : Nat) = 99999 + 1 from rfl, setAddHashedIn_succ]
  refine wpAny_bind (wpAny_setState_of ho hd R.fits ?_)
  dsimp only
  refine wp_if_neg (by simp [byScan, Value.scannable]) ?_
  try refine wpAny_bind (wpAny_pure ?_)
  refine wpAny_bind (sn_find R hx hu (fun hm o _ => ?_) fun K hm hK hb => ?_)
  · dsimp only
    exact wpAny_pure (hQ false s.heap L es ep t (Heap.SameBut.refl a s.heap) R (fun _ => rfl) fun z => absurd hm z)
  · dsimp only
    refine wpAny_bind (wpAny_setState_of ho hd R.fits ?_)
    dsimp only
    generalize hj : way t.mask (hk w k) K = j
    generalize hpb : SetTable.below t.place j = p
    obtain ⟨q2, q3, q9⟩ := R.tab.put hK hb hj.symm hpb.symm
    have q1 : (t.put j).2 = p := hpb
    have hp1 : (t.put j).1.plain = true := R.plain
    have q4 : (t.put j).1.mask = t.mask := rfl
    have ld1 : w.params.followText "set-order" = true ∨ (t.put j).1.led = true := R.led
    generalize t.put j = pt at q1 q3 q9 hp1 q4 ld1 ⊢
    obtain ⟨t1, p1⟩ := pt
    dsimp only at q1 q3 q9 hp1 q4 ld1 ⊢
    subst q1
    first
      | (refine wpAny_bind ?_; refine wp_if_pos hp1 ?_; refine byVal_key k _ 8 hx.1.1 hx.1.2 hx.2 _ _ _ ?_)
      | refine wp_if_pos hp1 (wpAny_bind (byVal_key k _ 8 hx.1.1 hx.1.2 hx.2 _ _ _ ?_))
    simp only [if_true]
    have hin : (SetTable.insertAt es p1 (hk w k, Value.ref x)).toList = rowsN w (L.take p1 ++ (x, k) :: L.drop p1) := by
      rw [SetTable.toList_insertAt, R.rows]
      simp [rowsN, List.map_take, List.map_drop]
    have pm := put_perm L p1 (x, k)
    have hlen := pm.length_eq
    rw [List.length_cons] at hlen
    have hhs : (L.take p1 ++ (x, k) :: L.drop p1).map (fun p => hk w p.2) = (L.map fun p => hk w p.2).take p1 ++ hk w k :: (L.map fun p => hk w p.2).drop p1 := by simp [List.map_take, List.map_drop]
    rw [← hhs] at q3
    have nd1 : ((L.take p1 ++ (x, k) :: L.drop p1).map (·.2)).Nodup := (pm.map (·.2)).nodup_iff.mpr (List.nodup_cons.mpr ⟨hm, R.nd⟩)
    have hes : (SetTable.insertAt es p1 (hk w k, Value.ref x)).size = L.length + 1 := by rw [← Array.length_toList, hin, rowsN, List.length_map, hlen]
    generalize SetTable.insertAt es p1 (hk w k, Value.ref x) = es1 at hin hes ⊢
    generalize L.take p1 ++ (x, k) :: L.drop p1 = L1 at pm hlen q3 nd1 hin
    refine wpAny_bind (wpAny_storeSet_of ho hd ?_ (by rw [hes, sizeLine_eq]; omega))
    have sb : Heap.SameBut a s.heap (s.heap.update a (Obj.putSet es1 t1)) := Heap.SameBut.update ..
    have ho1 := store_at (es' := es1) (t' := t1) ho hd
    generalize s.heap.update a (Obj.putSet es1 t1) = h1 at sb ho1 ⊢
    have keys1 : ∀ p ∈ L1, KAt h1 p.2 p.1 := fun p m => (List.mem_cons.mp (pm.mem_iff.mp m)).elim (fun e => by rw [e]; exact hx.but ho hd sb) fun m => (R.keys p m).but ho hd sb
    have full : t1.tooFull = true ↔ (L.length + 1) * 5 ≥ t1.mask * 3 := by unfold SetTable.tooFull; rw [decide_eq_true_eq, q9, List.length_map]
    by_cases hf : t1.tooFull = true
    · first
        | (refine wpAny_bind ?_; refine wp_if_pos (by simp [hf]) ?_)
        | (refine wp_if_pos (by simp [hf]) ?_; refine wpAny_bind ?_)
      rw [hsl]
      have hsz1 : t1.place.size = es1.size := by rw [q3.len, List.length_map, hlen, hes]
      have h7 := q3.gm.ge
      have hg : SetTable.grown (L.length + 1) = (L.length + 1) * 4 := by unfold SetTable.grown; rw [if_neg (by omega)]
      rw [hg]
      refine sn_relay (s := { s with heap := h1 }) ho1 ⟨hex.1, hex.2.1, hex.2.2⟩ rfl hin hsz1 q3.nodum (by rw [hes]; omega) nd1 keys1 hp1 ld1 (by rw [hlen]; omega) (by omega) ?_
      intro h2 L2 es2 ep2 t2 sb2 R2 pm2
      exact wpAny_pure (hQ true h2 L2 es2 ep2 t2 (sb.trans sb2) R2 (fun z => absurd z hm) fun _ => pm2.trans pm)
    · first
        | refine wp_if_neg (by simp [hf]) ?_
        | (refine wpAny_bind ?_; refine wp_if_neg (by simp [hf]) ?_; refine wpAny_pure ?_)
      have hnf : ¬ (L.length + 1) * 5 ≥ t1.mask * 3 := fun z => hf (full.mpr z)
      exact wpAny_pure (hQ true h1 L1 es1 (ep + 1) t1 sb ⟨⟨_, ho1, ⟨hex.1, hex.2.1, hex.2.2⟩, rfl⟩, hin, q3, nd1, keys1, hp1, ld1, by rw [hlen]; omega, by rw [q4]; exact R.cap⟩ (fun z => absurd z hm) fun _ => pm)
/-- k in the set -/
theorem sn_in (R : Sn w s.heap a L es ep t) {x : Addr} {k : NestedKey} (hx : KAt s.heap k x) (hu : A.units + 8 < cLine) {Q : Bool → Shared → Prop} (hQ : Q (decide (k ∈ L.map (·.2))) { s with toks := s.toks + k.draws }) : wpAny (model P w) A (setContains a (.ref x)) Q E s := by
  obtain ⟨o, ho, hex, hd⟩ := R.ob
  unfold setContains
  refine wpAny_holding ?_
  refine wpAny_bind ((nk P w).pyHash hu hx.1 ?_)
  refine wpAny_bind ?_
  unfold setFind
  rw [show (100000 : Nat) = 99999 + 1 from rfl]
  unfold setFindIn
  have ho2 : ({ s with toks := s.toks + k.draws } : Shared).heap.get? a = some o := ho
  have R2 : Sn w ({ s with toks := s.toks + k.draws } : Shared).heap a L es ep t := R
  refine wpAny_bind (wpAny_setState_of ho2 hd R.fits ?_)
  dsimp only
  refine wp_if_neg (by simp [byScan, Value.scannable]) ?_
  try refine wpAny_bind (wpAny_pure ?_)
  refine wpAny_bind (sn_find (adding := false) R2 hx hu (fun hm o he => ?_) fun K hm hK hb => ?_)
  · dsimp only
    refine wpAny_pure ?_
    rw [he rfl]
    rw [decide_eq_true hm] at hQ
    exact wpAny_pure hQ
  · dsimp only
    refine wpAny_pure ?_
    rw [decide_eq_false hm] at hQ
    exact wpAny_pure hQ
end
end Ws
namespace Ws
open PySem PySem.Spec PyProof.Rows L2
/-- what the first i items have brought -/
structure Has (ks : List (Addr × NestedKey)) (i : Nat) (L : List (Addr × NestedKey)) : Prop where
  sub : ∀ p ∈ L, p ∈ ks
  all : ∀ j p, j < i → ks[j]? = some p → p.2 ∈ L.map (·.2)
  len : L.length ≤ i
theorem Has.same {ks L : List (Addr × NestedKey)} {i : Nat} {x : Addr × NestedKey} (g : Has ks i L) (h : ks[i]? = some x) (hm : x.2 ∈ L.map (·.2)) : Has ks (i + 1) L :=
  ⟨g.sub, fun j p hj hp => by
    by_cases e : j = i
    · subst e; rw [h] at hp; cases hp; exact hm
    · exact g.all j p (by omega) hp, Nat.le_succ_of_le g.len⟩
theorem Has.more {ks L L' : List (Addr × NestedKey)} {i : Nat} {x : Addr × NestedKey} (g : Has ks i L) (h : ks[i]? = some x) (pm : L'.Perm (x :: L)) : Has ks (i + 1) L' :=
  ⟨fun p hp => (List.mem_cons.mp (pm.mem_iff.mp hp)).elim (fun e => e ▸ List.mem_of_getElem? h) (g.sub p), fun j p hj hp => by
    rw [(pm.map (·.2)).mem_iff, List.map_cons]
    by_cases e : j = i
    · subst e; rw [h] at hp; cases hp; exact List.mem_cons_self ..
    · exact List.mem_cons_of_mem _ (g.all j p (by omega) hp), by rw [pm.length_eq]; exact Nat.succ_le_succ g.len⟩
abbrev freshT (w : World) : SetTable := .fresh 0 0 (!w.params.followText "set-order")
abbrev freshO (w : World) : Obj := { cls := .type "set", dict := none, data := .set #[] 0 (freshT w) }
section
variable {P : Program} {w : World} {A : Around} {E : Value → Shared → Prop} {s : Shared}
theorem Sn.keep {h h' : Heap} {a : Addr} {L : List (Addr × NestedKey)} {es : Array (Int × Value)} {ep : Nat} {t : SetTable} (R : Sn w h a L es ep t) (ha : ∀ o, h.get? a = some o → h'.get? a = some o) (ht : ∀ p ∈ L, KAt h' p.2 p.1) : Sn w h' a L es ep t := by
  obtain ⟨o, ho, r⟩ := R.ob
  exact { R with ob := ⟨o, ha o ho, r⟩, keys := ht }
theorem sn_fresh {h : Heap} {a : Addr} (ho : h.get? a = some (freshO w)) : Sn w h a [] #[] 0 (freshT w) :=
  ⟨⟨_, ho, ⟨rfl, rfl, rfl⟩, rfl⟩, rfl, ⟨List.Pairwise.nil, rfl, rfl, Gm.seven, fun _ hx => (nomatch hx), fun _ _ _ hi => (by simp at hi)⟩, List.nodup_nil, fun _ hp => (nomatch hp), rfl,
    (show _ ∨ (!w.params.followText "set-order") = true by cases w.params.followText "set-order" <;> simp), (by show 0 * 5 < 7 * 3; decide), (by show 7 ≤ 8200; decide)⟩
theorem gs_loop {I : Addr} {fp wr : List Addr} {G : Array GenState → Array GenState → Prop} {n : Nat} {Pv : Nat → Value → Prop} {St : Nat → Shared → Prop} {R : Result → Shared → Prop} (W : WalksS P w A.in1 I fp wr G n Pv St) (Z : Addr) (hZ : Z ∉ fp) (ks : List (Addr × NestedKey)) (hn : n = ks.length) (hfew : ks.length ≤ 1000)
    (hval : ∀ i v, Pv i v → ∃ p, ks[i]? = some p ∧ v = .ref p.1) (h0 : Heap) (hkk : ∀ p ∈ ks, KAt h0 p.2 p.1) (hZ0 : h0.get? Z = none) (hw0 : ∀ b ∈ wr, h0.get? b = none) (hu : A.in1.units + 8 < cLine) :
    ∀ (k i : Nat) (s : Shared), n - i = k → i ≤ n → St i s → (∀ b o, h0.get? b = some o → s.heap.get? b = some o) → (∃ L es ep t, Sn w s.heap Z L es ep t ∧ Has ks i L) →
      (∀ s' L es ep t, Moved (Z :: wr) G s s' → Sn w s'.heap Z L es ep t → Has ks n L → (∀ b o, h0.get? b = some o → s'.heap.get? b = some o) → R (.ok (.ret .none)) s') →
      codeAny (model P w) A (.builtin "set.update.loop" ⟨[.ref Z, .ref I], []⟩) R s := by
  have hZw : Z ∉ wr := fun h => hZ (W.sub _ h)
  have more : ∀ b ∈ wr, b ∈ Z :: wr := fun b m => List.mem_cons_of_mem _ m
  have keepM : ∀ {s s' : Shared}, Moved wr G s s' → (∀ b o, h0.get? b = some o → s.heap.get? b = some o) → ∀ b o, h0.get? b = some o → s'.heap.get? b = some o := fun hm hkp b o e => hm.heap b o (fun hb => by rw [hw0 b hb] at e; cases e) (hkp b o e)
  have stay : ∀ {s s' : Shared} {L es ep t i}, Moved wr G s s' → (∀ b o, h0.get? b = some o → s'.heap.get? b = some o) → Has ks i L → Sn w s.heap Z L es ep t → Sn w s'.heap Z L es ep t := fun hm hkp g hS => hS.keep (fun o e => hm.heap Z o hZw e) fun p hp => (hkk p (g.sub p hp)).keep hkp
  intro k
  induction k with
  | zero =>
    intro i s hk' hi hst hkp ⟨L, es, ep, t, hS, g⟩ hR
    obtain rfl : i = n := by omega
    refine codeAny_builtin F.entry_set_update_loop ?_
    rw [Around.under_plainId F.plain_set_update_loop _]
    show wpAny _ A.in1 (pyNext (.ref I) >>= _) _ _ s
    refine wpAny_bind (W.done s _ _ hst fun s' hm => ?_)
    show wpAny _ A.in1 (ret Value.none) _ _ s'
    exact wpAny_pure (hR s' L es ep t (hm.mono more) (stay hm (keepM hm hkp) g hS) g (keepM hm hkp))
  | succ k ih =>
    intro i s hk' hi hst hkp ⟨L, es, ep, t, hS, g⟩ hR
    have hlt : i < n := by omega
    refine codeAny_builtin F.entry_set_update_loop ?_
    rw [Around.under_plainId F.plain_set_update_loop _]
    show wpAny _ A.in1 (pyNext (.ref I) >>= _) _ _ s
    refine wpAny_bind (W.item i s _ _ hlt hst fun v s' hP hst' hm => ?_)
    obtain ⟨p, hp, rfl⟩ := hval i v hP
    have hkp' := keepM hm hkp
    have hS' := stay hm hkp' g hS
    have hx : KAt s'.heap p.2 p.1 := (hkk p (List.mem_of_getElem? hp)).keep hkp'
    show wpAny _ A.in1 (holding [Value.ref p.1] (setAdd Z (.ref p.1)) >>= _) _ _ s'
    refine wpAny_bind (wpAny_holding ?_)
    unfold setAdd
    refine wpAny_holding (wpAny_bind ((nk P w).pyHash hu hx.1 ?_))
    refine gs_add (s := { s' with toks := s'.toks + p.2.draws }) hS' hx hu (by have := g.len; omega) fun b h' L' es' ep' t' hsb hS2 c1 c2 => ?_
    have g' : Has ks (i + 1) L' := by
      rcases Classical.em (p.2 ∈ L.map (·.2)) with c | c
      · rw [c1 c]; exact g.same hp c
      · exact g.more hp (c2 c)
    have hkp2 : ∀ b o, h0.get? b = some o → h'.get? b = some o := fun b o e => (hsb.2 b (fun z => by rw [z, hZ0] at e; cases e)).trans (hkp' b o e)
    refine wpAny_pure ⟨plainId_quiet F.plain_set_update_loop _, ih (i + 1) _ (by omega) hlt (W.frame _ s' _ _ hst' (Nat.le_add_right _ _) fun b hb o e => ?_) hkp2 ⟨L', es', ep', t', hS2, g'⟩ fun s2 L2 es2 ep2 t2 hm2 hS3 g2 hkp3 => ?_⟩
    · rw [hsb.2 b (fun z : b = Z => hZ (z ▸ hb))]; exact e
    · refine hR s2 L2 es2 ep2 t2 (Moved.trans W.gtrans ((hm.mono more).then_heap (Nat.le_add_right _ _) fun b o hb e => ?_) hm2) hS3 g2 hkp3
      rw [hsb.2 b (fun z : b = Z => hb (by rw [z]; exact List.mem_cons_self ..))]; exact e
/-- where the items lie: a list or a tuple -/
def SeqIn (lst : Bool) (h : Heap) (l : Addr) (items : Array Value) : Prop := if lst then h.IsList l items else h.IsTuple l items
set_option maxHeartbeats 3200000 in
theorem gs_new {lst : Bool} {l : Addr} {items : Array Value} (ks : List (Addr × NestedKey)) {Q : Value → Shared → Prop} (hh : A.handled = none) (hl : SeqIn lst s.heap l items) (hit : items.toList = ks.map fun p => Value.ref p.1) (hkk : ∀ p ∈ ks, KAt s.heap p.2 p.1) (hfew : ks.length ≤ 1000) (hu : A.units + 20 < cLine)
    (h : ∀ (h' : Heap) (tk : Nat) L es ep t, Sn w h' s.heap.objs.size L es ep t → Has ks ks.length L → (∀ b o, s.heap.get? b = some o → h'.get? b = some o) → Q (.ref s.heap.objs.size) { s with heap := h', toks := tk }) : wpAny (model P w) A (call (.type "set") [.ref l]) Q E s := by
  have hisz : items.size = ks.length := by rw [← Array.length_toList, hit, List.length_map]
  obtain ⟨c, tl, hmro⟩ := F.called_set.mro
  have hmade := F.called_set.made
  have hsub := F.called_set.sub
  refine wpAny_call (codeAny_of_tree ?_)
  show wpAny _ _ (callAny (.type "set") _) _ _ _
  refine wpAny_pure ⟨Code.quiet_builtin _ (by decide +kernel), codeAny_builtin F.entry_type_call ?_⟩
  rw [Around.under_plain (weight_type_call_type "set" [.ref l] []) rfl]
  have h1 := F.called_set.notType
  have h2 := F.called_set.canCreate
  have hct := F.typeCall_set_1 (.ref l)
  repeat (any_goals (first | assumption | wp_step))
  refine codeAny_mono (code_set_led1 (.ref l) (E := E) (Q₁ := fun obj s₁ => obj = .ref s.heap.objs.size ∧ s₁ = { s with heap := s.heap.push (freshO w) }) ⟨rfl, rfl⟩) fun r s₁ hr => ?_
  cases r with
  | error e => exact hr
  | ok fl =>
    cases fl with
    | ret obj =>
      obtain ⟨rfl, rfl⟩ := hr
      have hS : (s.heap.push (freshO w)).get? s.heap.objs.size = some (freshO w) := Heap.get?_push_size _ rfl
      have hT : Shared.TypeIs { s with heap := s.heap.push (freshO w) } (.ref s.heap.objs.size) "set" := ⟨_, hS, rfl⟩
      have hli := F.called_set.init.lookup
      have hbi := F.called_set.init.bind (.ref s.heap.objs.size)
      repeat (any_goals (first | assumption | wp_step))
      have hval : ∀ (i : Nat) (v : Value), items[i]? = some v → ∃ p, ks[i]? = some p ∧ v = .ref p.1 := fun i v hv => by
        have q : (ks.map fun p => Value.ref p.1)[i]? = some v := by rw [← hit, Array.getElem?_toList]; exact hv
        rw [List.getElem?_map] at q
        obtain ⟨p, hp, rfl⟩ := Option.map_eq_some_iff.mp q
        exact ⟨p, hp, rfl⟩
      have none_of : ∀ b, s.heap.objs.size ≤ b → s.heap.get? b = none := fun b hb => by
        cases q : s.heap.get? b with
        | none => rfl
        | some o => exact absurd (Nat.lt_of_lt_of_le (Heap.lt_size q) hb) (Nat.lt_irrefl _)
      have hh3 : A.in1.in1.in1.handled = none := by simp [hh]
      refine codeAny_mono (codeAny_call_builtin (R := wants (fun r s₂ => r = .none ∧ ∃ h' tk L es ep t, s₂ = { s with heap := h', toks := tk } ∧ Sn w h' s.heap.objs.size L es ep t ∧ Has ks ks.length L ∧ (∀ b o, s.heap.get? b = some o → h'.get? b = some o)) E) F.called_set.init.plain F.entry_set_init (check_set_init_1 hT ?_)) fun r₂ s₂ hr₂ => ?_
      · cases lst with
        | true =>
          obtain ⟨ol, hol, hcl, nl, hdl⟩ := (show s.heap.IsList l items from hl)
          obtain ⟨ocls, odict, odata, oslots⟩ := ol
          simp only at hcl hdl
          subst hcl; subst hdl
          have hol' : (s.heap.push (freshO w)).get? l = some { cls := .type "list", dict := odict, data := .seq items nl, slots := oslots } := Heap.get?_push_of_some _ hol
          have hsls := F.sub_list_set
          have hslf := F.sub_list_frozenset
          have hne : (Value.type "list" == Value.type "dict") = false := by decide
          have hl1 : (s.heap.push (freshO w)).IsList l items := ⟨_, hol', rfl, nl, rfl⟩
          unfold Builtin.«set.__init__» noKeywords Builtin.Frozenset.updateFrom
          generalize hPI : pyIter = PI
          wp_walk
          subst hPI
          refine wpAny_pyIter_list hl1 (wpAny_bind (wpAny_runValue ?_))
          have hlS : l < s.heap.objs.size := Heap.lt_size hol
          refine gs_loop ((Walks.list hh3 _ l (by rw [Heap.size_push]; exact Nat.ne_of_lt (Nat.lt_succ_of_lt hlS)) items).toS) s.heap.objs.size (by rw [Heap.size_push]; simp only [List.mem_cons, List.not_mem_nil, or_false, not_or]; exact ⟨Nat.ne_of_lt (Nat.lt_succ_self _), Nat.ne_of_gt hlS⟩) ks hisz hfew hval s.heap hkk (none_of _ (Nat.le_refl _)) (fun b hb => none_of b (by rw [List.mem_singleton.mp hb, Heap.size_push]; exact Nat.le_succ _)) (by show A.units + 1 + 1 + 1 + 8 < cLine; omega) (items.size - 0) 0 _ (by omega) (Nat.zero_le _)
            ⟨⟨_, Heap.get?_push_size _ rfl, rfl, rfl⟩, (hl1.push _)⟩ (fun b o e => Heap.get?_push_of_some _ (Heap.get?_push_of_some _ e)) ⟨[], #[], 0, _, sn_fresh (Heap.get?_push_of_some _ hS), ⟨fun _ hp => (nomatch hp), fun _ _ hj => absurd hj (Nat.not_lt_zero _), Nat.le_refl _⟩⟩ ?_
          intro s' L es ep t hm hS' g' hkp
          obtain ⟨h', g2, d', tk', os'⟩ := s'
          have eg : g2 = s.gens := hm.gens
          have ed : d' = s.drawn := hm.drawn
          have eo : os' = s.os := hm.os
          subst eg; subst ed; subst eo
          show wpAny _ _ _ _ _ _
          refine wpAny_pure ?_
          show wpAny _ _ (ret Value.none) _ _ _
          rw [hisz] at g'
          exact wpAny_pure ⟨rfl, h', tk', L, es, ep, t, rfl, hS', g', hkp⟩
        | false =>
          obtain ⟨ol, hol, hcl, nl, hdl⟩ := (show s.heap.IsTuple l items from hl)
          obtain ⟨ocls, odict, odata, oslots⟩ := ol
          simp only at hcl hdl
          subst hcl; subst hdl
          have hol' : (s.heap.push (freshO w)).get? l = some { cls := .type "tuple", dict := odict, data := .seq items nl, slots := oslots } := Heap.get?_push_of_some _ hol
          have hsls := F.sub_tuple_set
          have hslf := F.sub_tuple_frozenset
          have hne : (Value.type "tuple" == Value.type "dict") = false := by decide
          have hl1 : (s.heap.push (freshO w)).IsTuple l items := ⟨_, hol', rfl, nl, rfl⟩
          unfold Builtin.«set.__init__» noKeywords Builtin.Frozenset.updateFrom
          generalize hPI : pyIter = PI
          wp_walk
          subst hPI
          refine wpAny_pyIter_tuple hl1 (wpAny_bind (wpAny_runValue ?_))
          have hlS : l < s.heap.objs.size := Heap.lt_size hol
          refine gs_loop ((Walks.tuple hh3 _ l (by rw [Heap.size_push]; exact Nat.ne_of_lt (Nat.lt_succ_of_lt hlS)) items).toS) s.heap.objs.size (by rw [Heap.size_push]; simp only [List.mem_cons, List.not_mem_nil, or_false, not_or]; exact ⟨Nat.ne_of_lt (Nat.lt_succ_self _), Nat.ne_of_gt hlS⟩) ks hisz hfew hval s.heap hkk (none_of _ (Nat.le_refl _)) (fun b hb => none_of b (by rw [List.mem_singleton.mp hb, Heap.size_push]; exact Nat.le_succ _)) (by show A.units + 1 + 1 + 1 + 8 < cLine; omega) (items.size - 0) 0 _ (by omega) (Nat.zero_le _)
            ⟨⟨_, Heap.get?_push_size _ rfl, rfl, rfl⟩, (hl1.push _)⟩ (fun b o e => Heap.get?_push_of_some _ (Heap.get?_push_of_some _ e)) ⟨[], #[], 0, _, sn_fresh (Heap.get?_push_of_some _ hS), ⟨fun _ hp => (nomatch hp), fun _ _ hj => absurd hj (Nat.not_lt_zero _), Nat.le_refl _⟩⟩ ?_
          intro s' L es ep t hm hS' g' hkp
          obtain ⟨h', g2, d', tk', os'⟩ := s'
          have eg : g2 = s.gens := hm.gens
          have ed : d' = s.drawn := hm.drawn
          have eo : os' = s.os := hm.os
          subst eg; subst ed; subst eo
          show wpAny _ _ _ _ _ _
          refine wpAny_pure ?_
          show wpAny _ _ (ret Value.none) _ _ _
          rw [hisz] at g'
          exact wpAny_pure ⟨rfl, h', tk', L, es, ep, t, rfl, hS', g', hkp⟩
      · cases r₂ with
        | error e => exact hr₂
        | ok fl₂ =>
          cases fl₂ with
          | ret r =>
            obtain ⟨rfl, h', tk, L, es, ep, t, rfl, hS', g', hk'⟩ := hr₂
            repeat (any_goals (first | assumption | wp_step))
            exact h _ _ _ _ _ _ hS' g' hk'
          | _ => exact hr₂.elim
    | _ => exact hr.elim
end
end Ws
namespace Ws
open PySem PySem.Spec PyProof.Rows L2
section
variable {P : Program} {w : World} {A : Around} {E : Value → Shared → Prop} {s : Shared} {a : Addr} {L : List (Addr × NestedKey)} {es : Array (Int × Value)} {ep : Nat} {t : SetTable}
theorem Sn.typ (R : Sn w s.heap a L es ep t) : s.TypeIs (.ref a) "set" := let ⟨o, ho, hc, _⟩ := R.ob; ⟨o, ho, hc.1⟩
theorem gs_isIn (R : Sn w s.heap a L es ep t) {x : Addr} {k : NestedKey} (hx : KAt s.heap k x) (hu : A.units + 20 < cLine) {Q : Bool → Shared → Prop} (h : Q (decide (k ∈ L.map (·.2))) { s with toks := s.toks + k.draws }) : wpAny (model P w) A (contains (.ref a) (.ref x)) Q E s := by
  unfold contains
  try with_reducible refine wpAny_holding ?_
  refine wpAny_bind (wpAny_specialOf R.typ F.slot_set_contains.lookup ?_)
  show wpAny _ _ (if (some (Value.builtin "set.__contains__") == some Value.none) = true then _ else _) _ E s
  rw [if_neg (by rw [beq_builtin_none]; exact Bool.false_ne_true)]
  refine wpAny_bind (wpAny_callSpecialUnlessNone?_slot (name := Str.ofString "__contains__") R.typ F.slot_set_contains (wpAny_call_entry F.slot_set_contains R.typ entry_set_contains ?_ (F.args_set_contains_2 _ _)))
  unfold Builtin.«frozenset.__contains__» Builtin.Frozenset.oneOther
  simp only [List.isEmpty_nil, bind_assoc]
  unfold Builtin.Frozenset.addrOf Builtin.Frozenset.withSetAsKey
  refine wpAny_bind (wpAny_pure ?_)
  try dsimp only
  refine wpAny_bind (wpAny_pure ?_)
  try dsimp only
  refine wpAny_bind (wpAny_tryCatch (sn_in R hx (by show A.units + 1 + 8 < cLine; omega) ?_))
  show wpAny _ _ (ret (Value.bool (decide (k ∈ L.map (·.2))))) _ _ _
  exact wpAny_pure ⟨_, rfl, wpAny_truthy_bool h⟩
theorem gs_in (R : Sn w s.heap a L es ep t) {x : Addr} {k : NestedKey} (hx : KAt s.heap k x) (hu : A.units + 20 < cLine) {Q : Value → Shared → Prop} (h : Q (.bool (decide (k ∈ L.map (·.2)))) { s with toks := s.toks + k.draws }) : wpAny (model P w) A (compareOp .In (.ref x) (.ref a)) Q E s := by
  show wpAny _ _ (do return .bool (← contains (.ref a) (.ref x))) Q E s
  exact wpAny_bind (gs_isIn R hx hu (wpAny_pure h))
end
/-- what is true of the set's own object -/
structure Sn0 (w : World) (h : Heap) (a : Addr) (L : List (Addr × NestedKey)) : Prop where
  ex : ∃ es ep t, (∃ o, h.get? a = some o ∧ o.ExactSet ∧ o.data = .set es ep t) ∧ es.toList = rowsN w L ∧ Tab t (L.map fun p => hk w p.2) ∧ (L.map (·.2)).Nodup ∧ t.plain = true ∧ (w.params.followText "set-order" = true ∨ t.led = true) ∧ L.length * 5 < t.mask * 3 ∧ t.mask ≤ 8200
def SetNO (w : World) (a : Addr) (L : List (Addr × NestedKey)) : HO := .ext fun h => Sn0 w h a L
section
variable {P : Program} {w : World} {h : Heap} {H : Hp} {a : Addr} {L : List (Addr × NestedKey)} {es : Array (Int × Value)} {ep : Nat} {t : SetTable}
theorem Sn.zero (R : Sn w h a L es ep t) : Sn0 w h a L := ⟨es, ep, t, R.ob, R.rows, R.tab, R.nd, R.plain, R.led, R.room, R.cap⟩
theorem Sn0.full (R : Sn0 w h a L) (hk : ∀ p ∈ L, KAt h p.2 p.1) : ∃ es ep t, Sn w h a L es ep t := by
  obtain ⟨es, ep, t, h1, h2, h3, h4, h5, h6, h7, h8⟩ := R.ex
  exact ⟨es, ep, t, h1, h2, h3, h4, hk, h5, h6, h7, h8⟩
theorem Sn0.ok (R : Sn0 w h a L) : ObjOk P w H h a (SetNO w a L) := by
  refine ⟨R, ?_, fun h1 h2 R1 hk => ?_⟩
  · obtain ⟨_, _, _, ⟨o, ho, _⟩, _⟩ := R.ex; exact ⟨o, ho⟩
  · obtain ⟨es, ep, t, ⟨o, ho, r⟩, q⟩ := R1.ex
    exact ⟨es, ep, t, ⟨o, hk o ho, r⟩, q⟩
end
end Ws
namespace Ws
open PySem PySem.Spec PyProof.Rows L2
abbrev Ent := NestedKey × Addr × V
def EntR (p : Ent) (q : NestedKey × Addr × Value) : Prop := p.1 = q.1 ∧ p.2.1 = q.2.1 ∧ RelV p.2.2 q.2.2
theorem pmemR {α β : Type} {F : α → β → Prop} : ∀ {l₁ : List α} {l₂ : List β}, Paired F l₁ l₂ → ∀ {b : β}, b ∈ l₂ → ∃ a ∈ l₁, F a b
  | _, _, .nil, _, m => by cases m
  | _, _, .cons h t, b, m => by
    rcases List.mem_cons.mp m with rfl | m
    · exact ⟨_, List.mem_cons_self .., h⟩
    · obtain ⟨a, h1, h2⟩ := pmemR t m; exact ⟨a, List.mem_cons_of_mem _ h1, h2⟩
def atE (xs : List Ent) (k : NestedKey) : Option (Addr × V) := (xs.find? fun x => decide (x.1 = k)).map (·.2)
def putE (k : NestedKey) (v : V) (x : Ent) : Ent := if x.1 = k then (x.1, x.2.1, v) else x
def storeE (xs : List Ent) (k : NestedKey) (a : Addr) (v : V) : List Ent := if (atE xs k).isSome then xs.map (putE k v) else xs ++ [(k, a, v)]
theorem atE_none {xs : List Ent} {ys : List (NestedKey × Addr × Value)} {k : NestedKey} (h : Paired EntR xs ys) (e : atE xs k = none) : atKey ys k = none := by
  induction h with
  | nil => rfl
  | @cons x y xs ys r t ih =>
    unfold atE at e
    unfold atKey
    rw [List.find?_cons] at e ⊢
    rw [← r.1]
    by_cases q : x.1 = k
    · rw [decide_eq_true q] at e; cases e
    · rw [decide_eq_false q] at e ⊢; exact ih e
theorem atE_some {xs : List Ent} {ys : List (NestedKey × Addr × Value)} {k : NestedKey} {p : Addr × V} (h : Paired EntR xs ys) (e : atE xs k = some p) : ∃ u, atKey ys k = some (p.1, u) ∧ RelV p.2 u := by
  induction h with
  | nil => cases e
  | @cons x y xs ys r t ih =>
    unfold atE at e
    unfold atKey
    rw [List.find?_cons] at e ⊢
    rw [← r.1]
    by_cases q : x.1 = k
    · rw [decide_eq_true q] at e ⊢
      cases e
      exact ⟨y.2.2, by show some y.2 = _; rw [r.2.1], r.2.2⟩
    · rw [decide_eq_false q] at e ⊢; exact ih e
theorem storeE_rel {xs : List Ent} {ys : List (NestedKey × Addr × Value)} {k : NestedKey} {a : Addr} {v : V} {u : Value} (h : Paired EntR xs ys) (r : RelV v u) : Paired EntR (storeE xs k a v) (storedH ys k a u) := by
  unfold storeE storedH
  cases e : atE xs k with
  | none =>
    rw [atE_none h e]
    exact Paired.snoc h ⟨rfl, rfl, r⟩
  | some p =>
    obtain ⟨_, e1, _⟩ := atE_some h e
    rw [e1]
    show Paired EntR (xs.map (putE k v)) (ys.map (putAt k u))
    clear e e1
    induction h with
    | nil => exact .nil
    | @cons x y xs ys q t ih =>
      refine .cons ?_ ih
      unfold putE putAt
      rw [← q.1]
      split
      · exact ⟨rfl, q.2.1, r⟩
      · exact q
/-- what is true of the dict's own object -/
structure Dn0 (w : World) (h : Heap) (a : Addr) (xs : List Ent) (o : Obj) : Prop where
  nsys : (a == sysModules) = false
  size : xs.length ≤ sizeLine
  ex : ∃ ys : List (NestedKey × Addr × Value), Paired EntR xs ys ∧ ∃ es ep, h.get? a = some o ∧ o.ExactDict ∧ o.data = .dict es ep ∧ es.toList = ys.map (fun y => (⟨y.1.hash w, .ref y.2.1, y.2.2⟩ : DictEntry)) ∧ (ys.map (·.1)).Nodup
def DctNO (w : World) (a : Addr) (xs : List Ent) (o : Obj) : HO := .ext fun h => Dn0 w h a xs o
def HDct (w : World) (H : Hp) (a : Addr) (xs : List Ent) : Prop := ∃ o, H a = some (DctNO w a xs o)
theorem HDct.eq {w : World} {H H' : Hp} {a : Addr} {xs : List Ent} (k : H' a = H a) (h : HDct w H a xs) : HDct w H' a xs := let ⟨o, e⟩ := h; ⟨o, k.trans e⟩
theorem HDct.new {w : World} {H : Hp} {a : Addr} {xs : List Ent} {o : Obj} : HDct w (upd H a (DctNO w a xs o)) a xs := ⟨o, upd_same⟩
section
variable {P : Program} {w : World} {h : Heap} {H : Hp} {a : Addr} {xs : List Ent} {o : Obj}
theorem Dn0.ok (R : Dn0 w h a xs o) : ObjOk P w H h a (DctNO w a xs o) := by
  refine ⟨R, ?_, fun h1 h2 R1 hk => ?_⟩
  · obtain ⟨_, _, _, _, ho, _⟩ := R.ex; exact ⟨o, ho⟩
  · obtain ⟨ys, hp, es, ep, ho, r⟩ := R1.ex
    exact ⟨R1.nsys, R1.size, ys, hp, es, ep, hk o ho, r⟩
theorem Dn0.keyed (R : Dn0 w h a xs o) (hk : ∀ p ∈ xs, NestedIs h p.1 (.ref p.2.1) ∧ p.1.depth ≤ 8) : ∃ ys : List (NestedKey × Addr × Value), Paired EntR xs ys ∧ h.DictOfH (nestedKind P w) a ys := by
  obtain ⟨ys, hp, es, ep, ho, hc, hd, he, hn⟩ := R.ex
  refine ⟨ys, hp, o, es, ep, ho, hc, hd, he, fun y hy => ?_, hn⟩
  obtain ⟨x, hx, e1, e2, _⟩ := pmemR hp hy
  rw [← e1, ← e2]
  exact hk x hx
end
end Ws
namespace Ws
open PySem PySem.Spec PyProof.Rows L2
/-- plain data of a run; ref n: the n-th mutable object of the store -/
inductive D where
  | non
  | bl (b : Bool)
  | int (i : Int)
  | str (x : Str)
  | tup (xs : List D)
  | tupw (xs : List D)
  | lst (xs : List D)
  | set (xs : List D)
  | seti (ns : List Int)
  | dct (ks vs : List D)
  | scr (ns : List Int)
  | ref (n : Nat)
mutual
/-- numbers and nested tuples of them, as keys -/
def D.key : D → Option NestedKey
  | .int i => some (.num i)
  | .tup xs => (D.keys xs).map .tup
  | _ => none
def D.keys : List D → Option (List NestedKey)
  | [] => some []
  | d :: r => match d.key, D.keys r with
    | some k, some ks => some (k :: ks)
    | _, _ => none
end
def D.isRef : D → Bool
  | .ref _ => true
  | _ => false
def noRefs : List D → Bool
  | [] => true
  | d :: r => !d.isRef && noRefs r
abbrev Store := List D
abbrev Sl := List (Option D)
structure XC where
  cls : Str
  fs : List D
inductive Out (α : Type) where
  | ok (a : α) (S : Store)
  | ex (c : XC) (S : Store)
  | no
def Out.bind {α β : Type} (o : Out α) (f : α → Store → Out β) : Out β :=
  match o with
  | .ok a S => f a S
  | .ex c S => .ex c S
  | .no => .no
theorem Out.bind_ok {α β : Type} {a : α} {S : Store} {f : α → Store → Out β} : (Out.ok a S).bind f = f a S := rfl
abbrev De := Sl → Store → Out D
abbrev Dt := Sl → Store → Out Bool
abbrev Da := Sl → Store → Out (List D)
inductive Fl where
  | nx (r : Sl)
  | rt (d : D)
  | bk (r : Sl)
  | ct (r : Sl)
abbrev Ds := Sl → Store → Out Fl
abbrev Df := List D → Store → Out D
abbrev noHp : Hp := fun _ => none
/-- the mutable objects by number; those that are being filled and may not be seen -/
structure Cn where
  l : List Addr
  m : List Addr
def Cn.push (C : Cn) (p : Addr) : Cn := ⟨C.l ++ [p], C.m⟩
def Cn.lock (C : Cn) (p : Addr) : Cn := ⟨C.l, p :: C.m⟩
def Cn.No (C : Cn) (a : Addr) : Prop := a ∉ C.l ∧ a ∉ C.m
/-- a tuple without a dict of its own: laid in the run, or the program's -/
def TupAt (K : PySem.W.Frag) (L : Cn) (H : Hp) (a : Addr) (vs : List V) : Prop := (∃ o, o.dict = none ∧ H a = some (.frz o (.tup vs)) ∧ L.No a) ∨
  ∃ (o : Obj) (its : Array Value) (n : Nat), K.lookup a = some o ∧ o.cls = .type "tuple" ∧ o.dict = none ∧ o.data = .seq its n ∧ its.size ≤ sizeLine ∧ Vals vs its.toList
def LstAt (L : Cn) (H : Hp) (a : Addr) (vs : List V) : Prop := H a = some (.lst vs) ∧ L.No a
theorem TupAt.sq {K : PySem.W.Frag} {L : Cn} {H : Hp} {a : Addr} {vs : List V} (h : TupAt K L H a vs) : SqT K H a vs := by
  rcases h with ⟨o, _, h, _⟩ | ⟨o, its, n, h1, h2, _, h⟩
  · exact .inl (.inr ⟨o, h⟩)
  · exact .inr ⟨o, its, n, h1, h2, h⟩
theorem LstAt.sq {K : PySem.W.Frag} {L : Cn} {H : Hp} {a : Addr} {vs : List V} (h : LstAt L H a vs) : SqL K H a vs := SqL.of h.1
mutual
inductive R0 (w : World) (K : PySem.W.Frag) (L : Cn) (H : Hp) : V → D → Prop
  | non : R0 w K L H .non .non
  | bl (b : Bool) : R0 w K L H (.bl b) (.bl b)
  | int (i : Int) : R0 w K L H (.int i) (.int i)
  | str (x : Str) : R0 w K L H (.str x) (.str x)
  | tup {a : Addr} {vs : List V} {ds : List D} : TupAt K L H a vs → vs.length ≤ sizeLine → RAll w K L H vs ds → R0 w K L H (.ref a) (.tup ds)
  | tupw {a : Addr} {vs : List V} {ds : List D} : H a = some (.tup vs) → L.No a → vs.length ≤ sizeLine → RAll w K L H vs ds → R0 w K L H (.ref a) (.tupw ds)
  | lst {a : Addr} {vs : List V} {ds : List D} : LstAt L H a vs → vs.length ≤ sizeLine → RAll w K L H vs ds → R0 w K L H (.ref a) (.lst ds)
  | scr {a : Addr} {ns : List Int} : (SqL K noHp a (ns.map V.int) ∨ ∃ o, H a = some (.frz o (.lst (ns.map V.int))) ∧ L.No a) → ns.length ≤ 1000 → R0 w K L H (.ref a) (.scr ns)
  | set {a : Addr} {M : List (Addr × NestedKey)} {es ds : List D} : H a = some (SetNO w a M) → L.No a → RAll w K L H (M.map fun p => V.ref p.1) es → D.keys es = some (M.map (·.2)) → (es.Perm ds ∧ ∀ p ∈ M, p.2.depth ≤ 8) → R0 w K L H (.ref a) (.set ds)
  | seti {a : Addr} {F : Int → Bool} {ns : List Int} : H a = some (SetO w a F ns.length) → L.No a → ns.Nodup → (∀ k, k ∈ ns ↔ F k = true) → R0 w K L H (.ref a) (.seti ns)
  | dct {a : Addr} {xs : List Ent} {o : Obj} {ks vs : List D} : H a = some (DctNO w a xs o) → L.No a → RAll w K L H (xs.map fun p => V.ref p.2.1) ks → D.keys ks = some (xs.map (·.1)) → (∀ p ∈ xs, p.1.depth ≤ 8) → RAll w K L H (xs.map fun p => p.2.2) vs → R0 w K L H (.ref a) (.dct ks vs)
inductive RAll (w : World) (K : PySem.W.Frag) (L : Cn) (H : Hp) : List V → List D → Prop
  | nil : RAll w K L H [] []
  | cons {v : V} {d : D} {vs : List V} {ds : List D} : R0 w K L H v d → RAll w K L H vs ds → RAll w K L H (v :: vs) (d :: ds)
end
/-- a value with its datum, at the top: data, or a mutable object -/
def Rp (w : World) (K : PySem.W.Frag) (L : Cn) (H : Hp) (v : V) : D → Prop
  | .ref n => ∃ a, L.l[n]? = some a ∧ v = .ref a
  | d => R0 w K L H v d
inductive Rps (w : World) (K : PySem.W.Frag) (L : Cn) (H : Hp) : List V → List D → Prop
  | nil : Rps w K L H [] []
  | cons {v : V} {d : D} {vs : List V} {ds : List D} : Rp w K L H v d → Rps w K L H vs ds → Rps w K L H (v :: vs) (d :: ds)
section
variable {w : World} {K : PySem.W.Frag} {L L' L'' : Cn} {H H' H'' : Hp}
theorem Rp.of {v : V} {d : D} (h : R0 w K L H v d) : Rp w K L H v d := by cases d <;> first | exact h | (cases h)
theorem Rp.r0 {v : V} {d : D} (h : Rp w K L H v d) (e : d.isRef = false) : R0 w K L H v d := by
  cases d <;> first | exact h | (cases e)
theorem RAll.length : ∀ {vs : List V} {ds : List D}, RAll w K L H vs ds → vs.length = ds.length
  | _, _, .nil => rfl
  | _, _, .cons _ t => by simp [RAll.length t]
theorem Rps.length : ∀ {vs : List V} {ds : List D}, Rps w K L H vs ds → vs.length = ds.length
  | _, _, .nil => rfl
  | _, _, .cons _ t => by simp [Rps.length t]
theorem Rps.all : ∀ {vs : List V} {ds : List D}, Rps w K L H vs ds → Ws.noRefs ds = true → RAll w K L H vs ds
  | _, _, .nil, _ => .nil
  | _, _, .cons h t, e => by
    simp only [Ws.noRefs, Bool.and_eq_true, Bool.not_eq_true'] at e
    exact .cons (h.r0 e.1) (Rps.all t e.2)
theorem RAll.rps : ∀ {vs : List V} {ds : List D}, RAll w K L H vs ds → Rps w K L H vs ds
  | _, _, .nil => .nil
  | _, _, .cons h t => .cons (Rp.of h) (RAll.rps t)
theorem RAll.append : ∀ {vs us : List V} {ds es : List D}, RAll w K L H vs ds → RAll w K L H us es → RAll w K L H (vs ++ us) (ds ++ es)
  | _, _, _, _, .nil, q => q
  | _, _, _, _, .cons h t, q => .cons h (RAll.append t q)
theorem RAll.get : ∀ {vs : List V} {ds : List D} {i : Nat} {d : D}, RAll w K L H vs ds → ds[i]? = some d → ∃ v, vs[i]? = some v ∧ R0 w K L H v d
  | _, _, _, _, .nil, e => by simp at e
  | _, _, 0, _, .cons h _, e => by simp at e; subst e; exact ⟨_, rfl, h⟩
  | _, _, i + 1, _, .cons _ t, e => by
    obtain ⟨v, e1, e2⟩ := RAll.get (i := i) t (by simpa using e)
    exact ⟨v, by simpa using e1, e2⟩
theorem RAll.take : ∀ {vs : List V} {ds : List D} (n : Nat), RAll w K L H vs ds → RAll w K L H (vs.take n) (ds.take n)
  | _, _, 0, _ => .nil
  | _, _, _ + 1, .nil => .nil
  | _, _, n + 1, .cons h t => .cons h (RAll.take n t)
theorem RAll.drop : ∀ {vs : List V} {ds : List D} (n : Nat), RAll w K L H vs ds → RAll w K L H (vs.drop n) (ds.drop n)
  | _, _, 0, h => h
  | _, _, _ + 1, .nil => .nil
  | _, _, n + 1, .cons _ t => RAll.drop n t
theorem RAll.set {v : V} {d : D} (r : R0 w K L H v d) : ∀ {vs : List V} {ds : List D} (n : Nat), RAll w K L H vs ds → RAll w K L H (vs.set n v) (ds.set n d)
  | _, _, _, .nil => .nil
  | _, _, 0, .cons _ t => .cons r t
  | _, _, n + 1, .cons h t => .cons h (RAll.set r n t)
theorem RAll.reverse {vs : List V} {ds : List D} (h : RAll w K L H vs ds) : RAll w K L H vs.reverse ds.reverse := by
  have gen : ∀ {vs : List V} {ds : List D} {us : List V} {es : List D}, RAll w K L H vs ds → RAll w K L H us es → RAll w K L H (vs.reverse ++ us) (ds.reverse ++ es) := by
    intro vs
    induction vs with
    | nil => intro ds us es h q; cases h; exact q
    | cons v vs ih =>
      intro ds us es h q
      cases h with
      | cons h t =>
        rw [List.reverse_cons, List.reverse_cons, List.append_assoc, List.append_assoc]
        exact ih t (.cons h q)
  have := gen h (.nil)
  simpa using this
theorem RAll.eraseIdx : ∀ {vs : List V} {ds : List D} (n : Nat), RAll w K L H vs ds → RAll w K L H (vs.eraseIdx n) (ds.eraseIdx n)
  | _, _, _, .nil => .nil
  | _, _, 0, .cons _ t => t
  | _, _, n + 1, .cons h t => .cons h (RAll.eraseIdx n t)
structure Ex (L : Cn) (H : Hp) (L' : Cn) (H' : Hp) : Prop where
  app : ∃ M, L'.l = L.l ++ M ∧ ∀ a ∈ M, H a = none
  lck : L'.m = L.m
  keep : ∀ a o, a ∉ L.l → H a = some o → H' a = some o
  there : ∀ a, H' a = none → H a = none
theorem Ex.refl : Ex L H L H := ⟨⟨[], by simp, fun _ h => nomatch h⟩, rfl, fun _ _ _ h => h, fun _ h => h⟩
theorem Ex.notin0 (e : Ex L H L' H') {a : Addr} {o : HO} (n : a ∉ L.l) (h : H a = some o) : a ∉ L'.l := by
  obtain ⟨M, e1, hM⟩ := e.app
  rw [e1]
  intro z
  rcases List.mem_append.mp z with z | z
  · exact n z
  · rw [hM a z] at h; cases h
theorem Ex.notin (e : Ex L H L' H') {a : Addr} {o : HO} (n : L.No a) (h : H a = some o) : L'.No a := ⟨e.notin0 n.1 h, by rw [e.lck]; exact n.2⟩
theorem Ex.trans (e : Ex L H L' H') (e' : Ex L' H' L'' H'') : Ex L H L'' H'' := by
  refine ⟨?_, e'.lck.trans e.lck, fun a o n h => e'.keep a o (e.notin0 n h) (e.keep a o n h), fun a h => e.there a (e'.there a h)⟩
  obtain ⟨M, e1, hM⟩ := e.app
  obtain ⟨M', e2, hM'⟩ := e'.app
  refine ⟨M ++ M', by rw [e2, e1, List.append_assoc], fun a z => ?_⟩
  rcases List.mem_append.mp z with z | z
  · exact hM a z
  · exact e.there a (hM' a z)
theorem upd_there {p : Addr} {o : HO} {a : Addr} (q : upd H p o a = none) : H a = none := by
  by_cases e : a = p
  · subst e; rw [upd_same] at q; cases q
  · rw [upd_ne e] at q; exact q
/-- a new frozen object -/
theorem Ex.new {p : Addr} {o : HO} (h : H p = none) : Ex L H L (upd H p o) :=
  ⟨⟨[], by simp, fun _ h => nomatch h⟩, rfl, fun a u _ q => by rw [upd_ne (ne_of_none q h)]; exact q, fun a q => upd_there q⟩
/-- a new mutable object -/
theorem Ex.newM {p : Addr} {o : HO} (h : H p = none) : Ex L H (L.push p) (upd H p o) :=
  ⟨⟨[p], rfl, fun a z => by simp at z; subst z; exact h⟩, rfl, fun a u _ q => by rw [upd_ne (ne_of_none q h)]; exact q, fun a q => upd_there q⟩
/-- a mutable object written -/
theorem Ex.write {p : Addr} {o : HO} (h : p ∈ L.l) : Ex L H L (upd H p o) :=
  ⟨⟨[], by simp, fun _ h => nomatch h⟩, rfl, fun a u n q => by
    have na : a ≠ p := fun z => n (by rw [z]; exact h)
    rw [upd_ne na]; exact q, fun a q => upd_there q⟩
/-- what is known stays known -/
structure Ew (K : PySem.W.Frag) (L : Cn) (H : Hp) (L' : Cn) (H' : Hp) : Prop where
  at_ : ∀ a o, L.No a → H a = some o → L'.No a ∧ H' a = some o
  ref : ∀ (n : Nat) a, L.l[n]? = some a → L'.l[n]? = some a
theorem Ew.trans (e : Ew K L H L' H') (e' : Ew K L' H' L'' H'') : Ew K L H L'' H'' :=
  ⟨fun a o n h => let q := e.at_ a o n h; e'.at_ a o q.1 q.2, fun n a h => e'.ref n a (e.ref n a h)⟩
theorem Ex.ew (e : Ex L H L' H') : Ew K L H L' H' := ⟨fun a o n h => ⟨e.notin n h, e.keep a o n.1 h⟩, fun n a h => by
  obtain ⟨M, e1, _⟩ := e.app
  rw [e1, List.getElem?_append_left (List.getElem?_eq_some_iff.mp h).1]; exact h⟩
theorem TupAt.ew {a : Addr} {vs : List V} (e : Ew K L H L' H') (h : TupAt K L H a vs) : TupAt K L' H' a vs := by
  rcases h with ⟨o, d, h, n⟩ | h
  · exact .inl ⟨o, d, (e.at_ a _ n h).2, (e.at_ a _ n h).1⟩
  · exact .inr h
theorem LstAt.ew {a : Addr} {vs : List V} (e : Ew K L H L' H') (h : LstAt L H a vs) : LstAt L' H' a vs := ⟨(e.at_ a _ h.2 h.1).2, (e.at_ a _ h.2 h.1).1⟩
theorem LstAt.ex {a : Addr} {vs : List V} (e : Ex L H L' H') (h : LstAt L H a vs) : LstAt L' H' a vs := ⟨e.keep a _ h.2.1 h.1, e.notin h.2 h.1⟩
theorem TupAt.ex {a : Addr} {vs : List V} (e : Ex L H L' H') (h : TupAt K L H a vs) : TupAt K L' H' a vs := h.ew e.ew
/-- fewer mutable places -/
theorem TupAt.fewer {a : Addr} {vs : List V} (e : ∀ b, L.No b → L'.No b) (h : TupAt K L H a vs) : TupAt K L' H a vs := by
  rcases h with ⟨o, d, h, n⟩ | h
  · exact .inl ⟨o, d, h, e _ n⟩
  · exact .inr h
theorem LstAt.fewer {a : Addr} {vs : List V} (e : ∀ b, L.No b → L'.No b) (h : LstAt L H a vs) : LstAt L' H a vs := ⟨h.1, e _ h.2⟩
mutual
theorem R0.ew (e : Ew K L H L' H') : ∀ {v : V} {d : D}, R0 w K L H v d → R0 w K L' H' v d
  | _, _, .non => .non
  | _, _, .bl b => .bl b
  | _, _, .int i => .int i
  | _, _, .str x => .str x
  | _, _, .tup h z r => .tup (h.ew e) z (RAll.ew e r)
  | _, _, .tupw h n z r => .tupw (e.at_ _ _ n h).2 (e.at_ _ _ n h).1 z (RAll.ew e r)
  | _, _, .lst h z r => .lst (h.ew e) z (RAll.ew e r)
  | _, _, .scr h z => .scr (h.imp (fun q => q) fun ⟨o, q, n⟩ => ⟨o, (e.at_ _ _ n q).2, (e.at_ _ _ n q).1⟩) z
  | _, _, .set h n r k p => .set (e.at_ _ _ n h).2 (e.at_ _ _ n h).1 (RAll.ew e r) k p
  | _, _, .seti h n r k => .seti (e.at_ _ _ n h).2 (e.at_ _ _ n h).1 r k
  | _, _, .dct h n r k p q => .dct (e.at_ _ _ n h).2 (e.at_ _ _ n h).1 (RAll.ew e r) k p (RAll.ew e q)
theorem RAll.ew (e : Ew K L H L' H') : ∀ {vs : List V} {ds : List D}, RAll w K L H vs ds → RAll w K L' H' vs ds
  | _, _, .nil => .nil
  | _, _, .cons h t => .cons (R0.ew e h) (RAll.ew e t)
end
theorem R0.ex {v : V} {d : D} (e : Ex L H L' H') (h : R0 w K L H v d) : R0 w K L' H' v d := R0.ew e.ew h
theorem RAll.ex {vs : List V} {ds : List D} (e : Ex L H L' H') (h : RAll w K L H vs ds) : RAll w K L' H' vs ds := RAll.ew e.ew h
theorem Ew.fewer (e : ∀ b, L.No b → L'.No b) (r : ∀ (n : Nat) a, L.l[n]? = some a → L'.l[n]? = some a) : Ew K L H L' H := ⟨fun a o n h => ⟨e a n, h⟩, r⟩
mutual
theorem R0.fewer (e : ∀ b, L.No b → L'.No b) : ∀ {v : V} {d : D}, R0 w K L H v d → R0 w K L' H v d
  | _, _, .non => .non
  | _, _, .bl b => .bl b
  | _, _, .int i => .int i
  | _, _, .str x => .str x
  | _, _, .tup h z r => .tup (h.fewer e) z (RAll.fewer e r)
  | _, _, .tupw h n z r => .tupw h (e _ n) z (RAll.fewer e r)
  | _, _, .lst h z r => .lst (h.fewer e) z (RAll.fewer e r)
  | _, _, .scr h z => .scr (h.imp (fun q => q) fun ⟨o, q, n⟩ => ⟨o, q, e _ n⟩) z
  | _, _, .set h n r k p => .set h (e _ n) (RAll.fewer e r) k p
  | _, _, .seti h n r k => .seti h (e _ n) r k
  | _, _, .dct h n r k p q => .dct h (e _ n) (RAll.fewer e r) k p (RAll.fewer e q)
theorem RAll.fewer (e : ∀ b, L.No b → L'.No b) : ∀ {vs : List V} {ds : List D}, RAll w K L H vs ds → RAll w K L' H vs ds
  | _, _, .nil => .nil
  | _, _, .cons h t => .cons (R0.fewer e h) (RAll.fewer e t)
end
theorem Rp.ew {v : V} {d : D} (e : Ew K L H L' H') (h : Rp w K L H v d) : Rp w K L' H' v d := by
  cases d with
  | ref n => obtain ⟨a, h1, h2⟩ := h; exact ⟨a, e.ref n a h1, h2⟩
  | _ => exact R0.ew e h
theorem Rps.ew (e : Ew K L H L' H') : ∀ {vs : List V} {ds : List D}, Rps w K L H vs ds → Rps w K L' H' vs ds
  | _, _, .nil => .nil
  | _, _, .cons h t => .cons (h.ew e) (Rps.ew e t)
theorem Rp.ex {v : V} {d : D} (e : Ex L H L' H') (h : Rp w K L H v d) : Rp w K L' H' v d := h.ew e.ew
theorem Rps.ex {vs : List V} {ds : List D} (e : Ex L H L' H') (h : Rps w K L H vs ds) : Rps w K L' H' vs ds := h.ew e.ew
/-- a mutable object's content -/
def ORp (w : World) (K : PySem.W.Frag) (L : Cn) (H : Hp) (a : Addr) : D → Prop
  | .lst ds => ∃ vs, H a = some (.lst vs) ∧ vs.length ≤ sizeLine ∧ RAll w K L H vs ds
  | .dct ks vs => ∃ xs : List Ent, HDct w H a xs ∧ RAll w K L H (xs.map fun p => V.ref p.2.1) ks ∧ D.keys ks = some (xs.map (·.1)) ∧ (∀ p ∈ xs, p.1.depth ≤ 8) ∧ RAll w K L H (xs.map fun p => p.2.2) vs
  | _ => False
structure SRep (w : World) (K : PySem.W.Frag) (L : Cn) (H : Hp) (S : Store) : Prop where
  len : L.l.length = S.length
  nd : L.l.Nodup
  obj : ∀ (n : Nat) (a : Addr) (d : D), L.l[n]? = some a → S[n]? = some d → ORp w K L H a d
  lk : ∀ a ∈ L.m, a ∉ L.l ∧ ∃ o, H a = some o
def ERep (w : World) (K : PySem.W.Frag) (L : Cn) (H : Hp) (s : L2.St) (r : Sl) : Prop :=
  s.length = r.length ∧ ∀ (i : Nat) (d : D), r[i]? = some (some d) → ∃ v, s[i]? = some (some v) ∧ Rp w K L H v d
theorem ERep.ew {s : L2.St} {r : Sl} (e : Ew K L H L' H') (h : ERep w K L H s r) : ERep w K L' H' s r :=
  ⟨h.1, fun i d q => let ⟨v, e1, e2⟩ := h.2 i d q; ⟨v, e1, e2.ew e⟩⟩
theorem ERep.ex {s : L2.St} {r : Sl} (e : Ex L H L' H') (h : ERep w K L H s r) : ERep w K L' H' s r := h.ew e.ew
theorem ERep.set {s : L2.St} {r : Sl} {v : V} {d : D} (i : Nat) (h : ERep w K L H s r) (q : Rp w K L H v d) : ERep w K L H (s.set i (some v)) (r.set i (some d)) := by
  refine ⟨by simp [h.1], fun j e hj => ?_⟩
  by_cases hi : i = j
  · subst hi
    have hl : i < r.length := by
      have := (List.getElem?_eq_some_iff.mp hj).1
      simpa using this
    rw [List.getElem?_set_self hl] at hj
    cases hj
    exact ⟨v, List.getElem?_set_self (by rw [h.1]; exact hl), q⟩
  · rw [List.getElem?_set_ne hi] at hj
    obtain ⟨u, e1, e2⟩ := h.2 j e hj
    exact ⟨u, by rw [List.getElem?_set_ne hi]; exact e1, e2⟩
theorem ERep.wipe1 {s : L2.St} {r : Sl} (i : Nat) (h : ERep w K L H s r) : ERep w K L H (s.set i none) (r.set i none) := by
  refine ⟨by simp [h.1], fun j e hj => ?_⟩
  by_cases hi : i = j
  · subst hi
    by_cases hl : i < r.length
    · rw [List.getElem?_set_self hl] at hj; cases hj
    · rw [List.getElem?_eq_none (by simpa using hl)] at hj; cases hj
  · rw [List.getElem?_set_ne hi] at hj
    obtain ⟨u, e1, e2⟩ := h.2 j e hj
    exact ⟨u, by rw [List.getElem?_set_ne hi]; exact e1, e2⟩
def wipeD (r : Sl) : List Nat → Sl
  | [] => r
  | v :: vs => (wipeD r vs).set v none
theorem ERep.wipe {s : L2.St} {r : Sl} (h : ERep w K L H s r) : ∀ vs : List Nat, ERep w K L H (L2.wipe s vs) (wipeD r vs)
  | [] => h
  | v :: vs => (ERep.wipe h vs).wipe1 v
theorem SRep.at {S : Store} {n : Nat} {a : Addr} (h : SRep w K L H S) (e : L.l[n]? = some a) : ∃ d, S[n]? = some d ∧ ORp w K L H a d := by
  have hl := (List.getElem?_eq_some_iff.mp e).1
  have hl' : n < S.length := by rw [← h.len]; exact hl
  exact ⟨S[n], List.getElem?_eq_getElem hl', h.obj n a _ e (List.getElem?_eq_getElem hl')⟩
theorem ORp.some {a : Addr} {d : D} (h : ORp w K L H a d) : ∃ o, H a = some o := by
  cases d with
  | lst ds => obtain ⟨vs, h, _⟩ := h; exact ⟨_, h⟩
  | dct ks vs => obtain ⟨xs, ⟨o, h⟩, _⟩ := h; exact ⟨_, h⟩
  | _ => exact False.elim h
theorem ORp.ex {a : Addr} {d : D} (e : Ex L H L' H') (k : H' a = H a) (h : ORp w K L H a d) : ORp w K L' H' a d := by
  cases d with
  | lst ds => obtain ⟨vs, h, z, r⟩ := h; exact ⟨vs, k.trans h, z, r.ex e⟩
  | dct ks vs => obtain ⟨xs, h, r, q, d, r2⟩ := h; exact ⟨xs, h.eq k, r.ex e, q, d, r2.ex e⟩
  | _ => exact False.elim h
theorem ORp.fewer {a : Addr} {d : D} (e : ∀ b, L.No b → L'.No b) (h : ORp w K L H a d) : ORp w K L' H a d := by
  cases d with
  | lst ds => obtain ⟨vs, h, z, r⟩ := h; exact ⟨vs, h, z, RAll.fewer e r⟩
  | dct ks vs => obtain ⟨xs, h, r, q, d, r2⟩ := h; exact ⟨xs, h, RAll.fewer e r, q, d, RAll.fewer e r2⟩
  | _ => exact False.elim h
theorem SRep.mem_some {S : Store} {a : Addr} (h : SRep w K L H S) (m : a ∈ L.l) : ∃ o, H a = some o := by
  obtain ⟨n, e⟩ := List.mem_iff_getElem?.mp m
  obtain ⟨d, _, o⟩ := h.at e
  exact o.some
theorem SRep.fresh {S : Store} {p : Addr} (s : SRep w K L H S) (np : H p = none) : L.No p := by
  refine ⟨fun z => ?_, fun z => ?_⟩
  · obtain ⟨u, hu⟩ := s.mem_some z
    rw [np] at hu; cases hu
  · obtain ⟨_, u, hu⟩ := s.lk p z
    rw [np] at hu; cases hu
/-- a new frozen object beside the store -/
theorem SRep.new {S : Store} {p : Addr} {o : HO} (h : SRep w K L H S) (np : H p = none) : SRep w K L (upd H p o) S :=
  ⟨h.len, h.nd, fun n a d e1 e2 => by
    have q := h.obj n a d e1 e2
    obtain ⟨u, hu⟩ := q.some
    exact q.ex (Ex.new np) (upd_ne (ne_of_none hu np)), fun a ha => by
    obtain ⟨h1, u, hu⟩ := h.lk a ha
    exact ⟨h1, u, by rw [upd_ne (ne_of_none hu np)]; exact hu⟩⟩
/-- a new mutable object -/
theorem SRep.newM {S : Store} {p : Addr} {o : HO} {d : D} (h : SRep w K L H S) (np : H p = none) (q : ORp w K (L.push p) (upd H p o) p d) : SRep w K (L.push p) (upd H p o) (S ++ [d]) := by
  have nm := (h.fresh np).1
  refine ⟨by simp [Cn.push, h.len], List.nodup_append.mpr ⟨h.nd, by simp, fun a ha b hb => ?_⟩, fun n a e e1 e2 => ?_, fun a ha => ?_⟩
  · simp at hb; subst hb; exact fun z => nm (z ▸ ha)
  · have e1 : (L.l ++ [p])[n]? = some a := e1
    by_cases hn : n < L.l.length
    · rw [List.getElem?_append_left hn] at e1
      rw [List.getElem?_append_left (by rw [← h.len]; exact hn)] at e2
      have r := h.obj n a e e1 e2
      obtain ⟨u, hu⟩ := r.some
      exact r.ex (Ex.newM np) (upd_ne (ne_of_none hu np))
    · rw [List.getElem?_append_right (by omega)] at e1
      rw [List.getElem?_append_right (by rw [← h.len]; omega)] at e2
      have z : n - L.l.length = 0 := by
        have := (List.getElem?_eq_some_iff.mp e1).1
        simp at this; omega
      rw [z] at e1
      rw [← h.len, z] at e2
      simp at e1 e2
      subst e1 e2
      exact q
  · obtain ⟨h1, u, hu⟩ := h.lk a ha
    have na := ne_of_none hu np
    refine ⟨fun z => ?_, u, by rw [upd_ne na]; exact hu⟩
    rcases List.mem_append.mp z with z | z
    · exact h1 z
    · simp at z; exact na z
/-- a mutable object written -/
theorem SRep.write {S : Store} {n : Nat} {p : Addr} {o : HO} {d : D} (h : SRep w K L H S) (e : L.l[n]? = some p) (q : ORp w K L (upd H p o) p d) : SRep w K L (upd H p o) (S.set n d) := by
  have pm : p ∈ L.l := List.mem_of_getElem? e
  refine ⟨by simp [h.len], h.nd, fun m a c e1 e2 => ?_, fun a ha => ?_⟩
  · by_cases hm : n = m
    · subst hm
      rw [e] at e1; cases e1
      rw [List.getElem?_set_self (by rw [← h.len]; exact (List.getElem?_eq_some_iff.mp e).1)] at e2
      cases e2
      exact q
    · rw [List.getElem?_set_ne hm] at e2
      have na : a ≠ p := fun z => by
        subst z
        obtain ⟨h1, h2⟩ := List.getElem?_eq_some_iff.mp e
        obtain ⟨h3, h4⟩ := List.getElem?_eq_some_iff.mp e1
        exact hm ((List.getElem_inj h.nd).mp (h2.trans h4.symm))
      exact (h.obj m a c e1 e2).ex (Ex.write pm) (upd_ne na)
  · obtain ⟨h1, u, hu⟩ := h.lk a ha
    have na : a ≠ p := fun z => h1 (by rw [z]; exact pm)
    exact ⟨h1, u, by rw [upd_ne na]; exact hu⟩
theorem No.lock {p a : Addr} {u : HO} (np : H p = none) (n : L.No a) (h : H a = some u) : (L.lock p).No a := ⟨n.1, fun z => by
  rcases List.mem_cons.mp z with z | z
  · rw [z, np] at h; cases h
  · exact n.2 z⟩
theorem No.unlock {p a : Addr} (n : (L.lock p).No a) : L.No a ∧ a ≠ p := ⟨⟨n.1, fun z => n.2 (List.mem_cons_of_mem _ z)⟩, fun z => n.2 (by rw [z]; exact List.mem_cons_self)⟩
theorem Ew.lock {p : Addr} {o : HO} (np : H p = none) : Ew K L H (L.lock p) (upd H p o) := ⟨fun a u n h => ⟨No.lock np n h, by rw [upd_ne (ne_of_none h np)]; exact h⟩, fun _ _ h => h⟩
/-- the heap without p -/
def hide (p : Addr) (H : Hp) : Hp := fun a => if a = p then none else H a
theorem hide_same {p : Addr} : hide p H p = none := if_pos rfl
theorem hide_ne {p a : Addr} (h : a ≠ p) : hide p H a = H a := if_neg h
theorem hide_upd {p : Addr} {o : HO} (h : H p = some o) : upd (hide p H) p o = H := by
  funext a
  by_cases e : a = p
  · subst e; rw [upd_same, h]
  · rw [upd_ne e, hide_ne e]
theorem upd_hide {p : Addr} {o : HO} (h : H p = none) : hide p (upd H p o) = H := by
  funext a
  by_cases e : a = p
  · subst e; rw [hide_same, h]
  · rw [hide_ne e, upd_ne e]
theorem Ew.hide {p : Addr} : Ew K (L.lock p) H L (Ws.hide p H) := ⟨fun a o n h => ⟨(No.unlock n).1, by rw [hide_ne (No.unlock n).2]; exact h⟩, fun _ _ h => h⟩
theorem SRep.lock {p : Addr} {o : HO} {S : Store} (np : H p = none) (h : SRep w K L H S) : SRep w K (L.lock p) (upd H p o) S := by
  refine ⟨h.len, h.nd, fun n a d e1 e2 => ?_, fun a ha => ?_⟩
  · have q := h.obj n a d e1 e2
    obtain ⟨u, hu⟩ := q.some
    have na := ne_of_none hu np
    cases d with
    | lst ds => obtain ⟨vs, g1, z, r⟩ := q; exact ⟨vs, by rw [upd_ne na]; exact g1, z, r.ew (Ew.lock np)⟩
    | dct ks vs => obtain ⟨xs, g1, r, q, dd, r2⟩ := q; exact ⟨xs, g1.eq (upd_ne na), r.ew (Ew.lock np), q, dd, r2.ew (Ew.lock np)⟩
    | _ => exact False.elim q
  · rcases List.mem_cons.mp ha with z | z
    · subst z; exact ⟨(h.fresh np).1, o, upd_same⟩
    · obtain ⟨h1, u, hu⟩ := h.lk a z
      exact ⟨h1, u, by rw [upd_ne (ne_of_none hu np)]; exact hu⟩
theorem SRep.hide {p : Addr} {S : Store} (np : p ∉ L.m) (h : SRep w K (L.lock p) H S) : SRep w K L (Ws.hide p H) S := by
  have hp := (h.lk p List.mem_cons_self).1
  refine ⟨h.len, h.nd, fun n a d e1 e2 => ?_, fun a ha => ?_⟩
  · have q := h.obj n a d e1 e2
    have na : a ≠ p := fun z => hp (by rw [← z]; exact List.mem_of_getElem? e1)
    cases d with
    | lst ds => obtain ⟨vs, g1, z, r⟩ := q; exact ⟨vs, by rw [hide_ne na]; exact g1, z, r.ew Ew.hide⟩
    | dct ks vs => obtain ⟨xs, g1, r, q, dd, r2⟩ := q; exact ⟨xs, g1.eq (hide_ne na), r.ew Ew.hide, q, dd, r2.ew Ew.hide⟩
    | _ => exact False.elim q
  · obtain ⟨h1, u, hu⟩ := h.lk a (List.mem_cons_of_mem _ ha)
    exact ⟨h1, u, by rw [hide_ne (fun z => np (by rw [← z]; exact ha))]; exact hu⟩
/-- a run while p is locked, seen without p -/
theorem Ex.hide {p : Addr} {o : HO} (np : H p = none) (e : Ex (L.lock p) (upd H p o) L' H') (hp : p ∉ L.l) : ∃ L'', L' = L''.lock p ∧ Ex L H L'' (Ws.hide p H') ∧ H' p = some o := by
  refine ⟨⟨L'.l, L.m⟩, ?_, ⟨?_, rfl, fun a u n h => ?_, fun a h => ?_⟩, e.keep p o hp upd_same⟩
  · cases L' with
    | mk l m => have := e.lck; simp only at this; subst this; rfl
  · obtain ⟨M, e1, hM⟩ := e.app
    exact ⟨M, e1, fun a ha => upd_there (hM a ha)⟩
  · have na := ne_of_none h np
    rw [hide_ne na]
    exact e.keep a u n (by rw [upd_ne na]; exact h)
  · by_cases z : a = p
    · rw [z]; exact np
    · rw [hide_ne z] at h
      exact upd_there (e.there a h)
abbrev Wish := XC → Cn → Hp → Prop
abbrev noW : Wish := fun _ _ _ => False
def After {α : Type} (w : World) (K : PySem.W.Frag) (Wi : Wish) (L : Cn) (H : Hp) : Out α → (α → Store → Cn → Hp → Prop) → Prop
  | .ok a S, R => ∀ L' H', Ex L H L' H' → SRep w K L' H' S → R a S L' H'
  | .ex c S, _ => ∀ L' H', Ex L H L' H' → SRep w K L' H' S → Wi c L' H'
  | .no, _ => False
variable {α β : Type} {Wi : Wish} {o : Out α} {R R' : α → Store → Cn → Hp → Prop}
theorem After.mono (h : After w K Wi L H o R) (f : ∀ a S L' H', Ex L H L' H' → SRep w K L' H' S → R a S L' H' → R' a S L' H') : After w K Wi L H o R' := by
  cases o with
  | ok a S => exact fun L' H' e s => f a S L' H' e s (h L' H' e s)
  | ex c S => exact h
  | no => exact h
theorem After.bnd {f : α → Store → Out β} {R : β → Store → Cn → Hp → Prop} (h : After w K Wi L H (o.bind f) R) : After w K Wi L H o fun a S L' H' => After w K Wi L' H' (f a S) R := by
  cases o with
  | ok a S =>
    intro L' H' e s
    have h : After w K Wi L H (f a S) R := h
    cases q : f a S with
    | ok b T => rw [q] at h; exact fun L2 H2 e2 s2 => h L2 H2 (e.trans e2) s2
    | ex c T => rw [q] at h; exact fun L2 H2 e2 s2 => h L2 H2 (e.trans e2) s2
    | no => rw [q] at h; exact h
  | ex c S => exact h
  | no => exact h
def tE (w : World) (K : PySem.W.Frag) (Wi : Wish) (f : De) : TE := fun s H Q => ∃ L S r, ERep w K L H s r ∧ SRep w K L H S ∧ After w K Wi L H (f r S) fun d _ L' H' => ∀ v, Rp w K L' H' v d → Q v H'
def tT (w : World) (K : PySem.W.Frag) (Wi : Wish) (f : Dt) : TT := fun s H Q => ∃ L S r, ERep w K L H s r ∧ SRep w K L H S ∧ After w K Wi L H (f r S) fun b _ _ H' => Q b H'
def tAs (w : World) (K : PySem.W.Frag) (Wi : Wish) (f : Da) : TA := fun s H Q => ∃ L S r, ERep w K L H s r ∧ SRep w K L H S ∧ After w K Wi L H (f r S) fun ds _ L' H' => ∀ vs, Rps w K L' H' vs ds → Q vs H'
end
end Ws
namespace Ws
open PySem PySem.Spec PyProof.Rows L2
abbrev SE (X : Cx) (Wi : Wish) (e : Expr) (f : De) : Prop := PE X e (tE X.w X.K Wi f)
abbrev ST (X : Cx) (Wi : Wish) (e : Expr) (f : Dt) : Prop := PT X e (tT X.w X.K Wi f)
abbrev SA (X : Cx) (Wi : Wish) (es : List Expr) (f : Da) : Prop := PA X es (tAs X.w X.K Wi f)
theorem pe_imp {X : Cx} {e : Expr} {t t' : TE} (h : PE X e t) (i : ∀ s H Q, t' s H Q → t s H Q) : PE X e t' := ⟨fun pins s σ H Q I q => h.run pins s σ H Q I (i _ _ _ q)⟩
theorem pt_imp {X : Cx} {e : Expr} {t t' : TT} (h : PT X e t) (i : ∀ s H Q, t' s H Q → t s H Q) : PT X e t' := ⟨fun pins s σ H Q I q => h.run pins s σ H Q I (i _ _ _ q)⟩
theorem pa_imp {X : Cx} {e : List Expr} {t t' : TA} (h : PA X e t) (i : ∀ s H Q, t' s H Q → t s H Q) : PA X e t' := ⟨fun pos pins s σ H Q I q => h.run pos pins s σ H Q I (i _ _ _ q)⟩
def view (S : Store) : D → D
  | .ref n => (S[n]?).getD .non
  | d => d
section
variable {w : World} {K : PySem.W.Frag} {L : Cn} {H : Hp} {S : Store}
theorem view_lst {v : V} {d : D} {ds : List D} (r : Rp w K L H v d) (s : SRep w K L H S) (e : view S d = .lst ds) : ∃ a vs, v = .ref a ∧ H a = some (.lst vs) ∧ vs.length ≤ sizeLine ∧ RAll w K L H vs ds := by
  cases d with
  | ref n =>
    obtain ⟨a, h1, rfl⟩ := r
    obtain ⟨d, h2, o⟩ := s.at h1
    have e : (S[n]?).getD .non = .lst ds := e
    rw [h2] at e
    have e : d = .lst ds := e
    subst e
    obtain ⟨vs, h3, z, q⟩ := o
    exact ⟨a, vs, rfl, h3, z, q⟩
  | lst xs =>
    cases e
    cases r with
    | lst h z q => exact ⟨_, _, rfl, h.1, z, q⟩
  | _ => cases e
theorem view_tup {v : V} {d : D} {ds : List D} (r : Rp w K L H v d) (s : SRep w K L H S) (e : view S d = .tup ds) : ∃ a vs, v = .ref a ∧ SqT K H a vs ∧ vs.length ≤ sizeLine ∧ RAll w K L H vs ds := by
  cases d with
  | ref n =>
    obtain ⟨a, h1, rfl⟩ := r
    obtain ⟨d, h2, o⟩ := s.at h1
    have e : (S[n]?).getD .non = .tup ds := e
    rw [h2] at e
    have e : d = .tup ds := e
    subst e
    exact False.elim o
  | tup xs =>
    cases e
    cases r with
    | tup h z q => exact ⟨_, _, rfl, h.sq, z, q⟩
  | _ => cases e
theorem view_tupAt {v : V} {d : D} {ds : List D} (r : Rp w K L H v d) (s : SRep w K L H S) (e : view S d = .tup ds) : d = .tup ds := by
  cases d with
  | ref n =>
    obtain ⟨a, h1, rfl⟩ := r
    obtain ⟨d, h2, o⟩ := s.at h1
    have e : (S[n]?).getD .non = .tup ds := e
    rw [h2] at e
    have e : d = .tup ds := e
    subst e
    exact False.elim o
  | _ => exact e
/-- a new list, a new tuple -/
theorem new_lst {p : Addr} {vs : List V} {ds : List D} (s : SRep w K L H S) (np : H p = none) (z : vs.length ≤ sizeLine) (q : RAll w K L H vs ds) : Rp w K L (upd H p (.lst vs)) (.ref p) (.lst ds) :=
  R0.lst ⟨upd_same, s.fresh np⟩ z (q.ex (Ex.new np))
theorem new_tup {p : Addr} {o : Obj} {vs : List V} {ds : List D} (s : SRep w K L H S) (np : H p = none) (hd : o.dict = none) (z : vs.length ≤ sizeLine) (q : RAll w K L H vs ds) : Rp w K L (upd H p (.frz o (.tup vs))) (.ref p) (.tup ds) :=
  R0.tup (.inl ⟨o, hd, upd_same, s.fresh np⟩) z (q.ex (Ex.new np))
theorem new_tupw {p : Addr} {vs : List V} {ds : List D} (s : SRep w K L H S) (np : H p = none) (z : vs.length ≤ sizeLine) (q : RAll w K L H vs ds) : Rp w K L (upd H p (.tup vs)) (.ref p) (.tupw ds) :=
  R0.tupw upd_same (s.fresh np) z (q.ex (Ex.new np))
/-- a tuple that is laid: what it is for the abstract heap -/
theorem tup_laid {X : Cx} {pins : List (Addr × Obj)} {σ : L2.St} {H : Hp} {s : Shared} {xs : List V} {its : List Value} {t : Tok} (I : L2.Inv X pins σ H s) (r : Vals xs its) (z : xs.length ≤ sizeLine) {Q : VK} (q : ∀ p o, H p = none → o.dict = none → Q (.ref p) (upd H p (.frz o (.tup xs)))) :
    ∃ v H', L2.Inv X pins σ H' { s with heap := s.heap.push { cls := .type "tuple", data := .seq its.toArray }, toks := t } ∧ RelV v (.ref s.heap.objs.size) ∧ Q v H' := by
  have hg : (s.heap.push { cls := .type "tuple", data := .seq its.toArray }).get? s.heap.objs.size = some { cls := .type "tuple", data := .seq its.toArray } := Heap.get?_push_size _ rfl
  exact ⟨.ref s.heap.objs.size, upd H s.heap.objs.size (.frz { cls := .type "tuple", data := .seq its.toArray } (.tup xs)), I.laid (t' := t) (fun b u e => Heap.get?_push_of_some _ e) (Nat.le_refl _) ⟨hg, z, its, r, ⟨_, hg, rfl, _, rfl⟩⟩, rfl, q _ _ (I.hok.fresh (Nat.le_refl _)) rfl⟩
def tTupX (t : TA) : TE := fun σ H Q => t σ H fun xs H1 => xs.length ≤ sizeLine ∧ ∀ p o, H1 p = none → o.dict = none → Q (.ref p) (upd H1 p (.frz o (.tup xs)))
theorem pe_tupX {X : Cx} {es : List Expr} {t : TA} {pos : Pos} {x1} (h : PA X es t) : PE X (.Tuple es x1 pos) (tTupX t) := by
  refine ⟨fun pins s σ H Q I hq => wpAny_Tuple_spliced (thn (h.run pos pins s σ H _ I hq) fun us s1 w => ?_)⟩
  obtain ⟨xs, H1, I1, r, z, q⟩ := w
  exact ⟨by rw [← r.length]; exact z, tup_laid I1 r z q⟩
end
def dVar (i : Nat) : De := fun r S => match r[i]? with
  | some (some d) => .ok d S
  | _ => .no
def dC (d : D) : De := fun _ S => .ok d S
section
variable {X : Cx} {Wi : Wish} {pos : Pos}
theorem se_var {i : Nat} {x : Str} (hN : X.N[i]? = some x) (hv : Vis X.env.scope x) (hd : (x == ("__debug__" : Str)) = false) (hcd : (x == ("__classdict__" : Str)) = false) : SE X Wi (.Name x pos) (dVar i) :=
  pe_imp (pe_var hN hv hd hcd) fun s H Q h => by
    obtain ⟨L, S, r, er, sr, h⟩ := h
    unfold dVar at h
    split at h
    · rename_i d e
      obtain ⟨v, e1, e2⟩ := er.2 i d e
      exact ⟨v, e1, h L H Ex.refl sr v e2⟩
    · exact False.elim h
theorem se_c {e : Expr} {v : V} {d : D} (h : PE X e (tC v)) (r : ∀ L H, R0 X.w X.K L H v d) : SE X Wi e (dC d) :=
  pe_imp h fun s H Q q => by
    obtain ⟨L, S, r', er, sr, q⟩ := q
    exact q L H Ex.refl sr v (Rp.of (r L H))
theorem se_int {i j} : SE X Wi (.Constant (.int i) j pos) (dC (.int i)) := se_c pe_int fun _ _ => .int i
theorem se_bl {b j} : SE X Wi (.Constant (.bool b) j pos) (dC (.bl b)) := se_c pe_bl fun _ _ => .bl b
theorem se_non {j} : SE X Wi (.Constant .none j pos) (dC .non) := se_c pe_non fun _ _ => .non
theorem se_str {x j} : SE X Wi (.Constant (.str x) j pos) (dC (.str x)) := se_c pe_str fun _ _ => .str x
end
/-- what an operation on values makes of data: the heap may gain frozen objects -/
def OpD (w : World) (K : PySem.W.Frag) (r : R2) (g : Store → D → D → Option D) : Prop :=
  ∀ (L : Cn) (H : Hp) (S : Store) (x y : V) (a b d : D) (Q : VK), SRep w K L H S → Rp w K L H x a → Rp w K L H y b → g S a b = some d →
    (∀ H', Ex L H L H' → SRep w K L H' S → ∀ v, Rp w K L H' v d → Q v H') → r x y H Q
def opt (o : Option D) (S : Store) : Out D := match o with
  | some d => .ok d S
  | none => .no
def dOp (g : Store → D → D → Option D) (f1 f2 : De) : De := fun r S => (f1 r S).bind fun a S1 => (f2 r S1).bind fun b S2 => opt (g S2 a b) S2
def dUn (g : Store → D → Option D) (f1 : De) : De := fun r S => (f1 r S).bind fun a S1 => opt (g S1 a) S1
def UnD (w : World) (K : PySem.W.Frag) (r : V → Hp → VK → Prop) (g : Store → D → Option D) : Prop :=
  ∀ (L : Cn) (H : Hp) (S : Store) (x : V) (a d : D) (Q : VK), SRep w K L H S → Rp w K L H x a → g S a = some d →
    (∀ H', Ex L H L H' → SRep w K L H' S → ∀ v, Rp w K L H' v d → Q v H') → r x H Q
section
variable {w : World} {K : PySem.W.Frag} {Wi : Wish} {L : Cn} {H : Hp}
theorem After.opt {o : Option D} {S : Store} {R : D → Store → Cn → Hp → Prop} (h : After w K Wi L H (opt o S) R) : ∃ d, o = some d ∧ ∀ L' H', Ex L H L' H' → SRep w K L' H' S → R d S L' H' := by
  cases o with
  | none => exact False.elim h
  | some d => exact ⟨d, rfl, h⟩
/-- two expressions in a row, then what is asked of their values -/
theorem tE_op {g : Store → D → D → Option D} {r : R2} {f1 f2 : De} (o : OpD w K r g) {s : L2.St} {Q : VK} (h : tE w K Wi (dOp g f1 f2) s H Q) : tOp r (tE w K Wi f1) (tE w K Wi f2) s H Q := by
  obtain ⟨L, S, rr, er, sr, h⟩ := h
  refine ⟨L, S, rr, er, sr, (After.bnd h).mono fun a S1 L1 H1 e1 s1 h1 x rx => ?_⟩
  refine ⟨L1, S1, rr, er.ex e1, s1, (After.bnd h1).mono fun b S2 L2 H2 e2 s2 h2 y ry => ?_⟩
  obtain ⟨d, hd, h2⟩ := h2.opt
  exact o L2 H2 S2 x y a b d Q s2 (rx.ex e2) ry hd fun H' e' s' v rv => h2 L2 H' e' s' v rv
theorem tE_un {g : Store → D → Option D} {r : V → Hp → VK → Prop} {f1 : De} (o : UnD w K r g) {s : L2.St} {Q : VK} (h : tE w K Wi (dUn g f1) s H Q) : tUn r (tE w K Wi f1) s H Q := by
  obtain ⟨L, S, rr, er, sr, h⟩ := h
  refine ⟨L, S, rr, er, sr, (After.bnd h).mono fun a S1 L1 H1 e1 s1 h1 x rx => ?_⟩
  obtain ⟨d, hd, h1⟩ := h1.opt
  exact o L1 H1 S1 x a d Q s1 rx hd fun H' e' s' v rv => h1 L1 H' e' s' v rv
end
section
variable {X : Cx} {Wi : Wish} {a b : Expr} {f1 f2 : De} {pos : Pos}
theorem se_op {op : Operator} {r : R2} {g : Store → D → D → Option D} (ho : OpR X (binaryOp op) r) (o : OpD X.w X.K r g) (ha : SE X Wi a f1) (hb : SE X Wi b f2) : SE X Wi (.BinOp a op b pos) (dOp g f1 f2) :=
  pe_imp (pe_op ho ha hb) fun _ _ _ h => tE_op o h
theorem se_un {op : UnaryOp} {r : V → Hp → VK → Prop} {g : Store → D → Option D} (ho : UnR X (unaryOp op) r) (o : UnD X.w X.K r g) (ha : SE X Wi a f1) : SE X Wi (.UnaryOp op a pos) (dUn g f1) :=
  pe_imp (pe_un ho ha) fun _ _ _ h => tE_un o h
theorem se_cmp {op : CmpOp} {r : R2} {g : Store → D → D → Option D} (ho : OpR X (compareOp op) r) (o : OpD X.w X.K r g) (ha : SE X Wi a f1) (hb : SE X Wi b f2) (hm : behindInMarks op b = false) : SE X Wi (.Compare a [op] [b] pos) (dOp g f1 f2) :=
  pe_imp (pe_cmpR ho ha hb hm) fun _ _ _ h => tE_op o h
/-- a bool out of a datum -/
def dTest (f : De) : Dt := fun r S => (f r S).bind fun d S1 => match d with
  | .bl b => .ok b S1
  | _ => .no
theorem tT_test {w : World} {K : PySem.W.Frag} {f : De} {s : L2.St} {H : Hp} {Q : Bool → Hp → Prop} (h : tT w K Wi (dTest f) s H Q) : tE w K Wi f s H fun x H' => ∃ k, x = .bl k ∧ Q k H' := by
  obtain ⟨L, S, rr, er, sr, h⟩ := h
  refine ⟨L, S, rr, er, sr, (After.bnd h).mono fun d S1 L1 H1 e1 s1 h1 x rx => ?_⟩
  cases d with
  | bl b =>
    cases rx
    exact ⟨b, rfl, h1 L1 H1 Ex.refl s1⟩
  | _ => exact False.elim h1
theorem st_cmp {op : CmpOp} {r : R2} {g : Store → D → D → Option D} (ho : OpR X (compareOp op) r) (o : OpD X.w X.K r g) (ha : SE X Wi a f1) (hb : SE X Wi b f2) (hm : behindInMarks op b = false) : ST X Wi (.Compare a [op] [b] pos) (dTest (dOp g f1 f2)) :=
  pt_imp (pt_cmpR ho ha hb hm) fun s H Q h => by
    obtain ⟨L, S, rr, er, sr, h⟩ := h
    exact tE_op o (tT_test ⟨L, S, rr, er, sr, h⟩)
end
def dAndT (f g : Dt) : Dt := fun r S => (f r S).bind fun b S1 => if b = true then g r S1 else .ok false S1
def dOrT (f g : Dt) : Dt := fun r S => (f r S).bind fun b S1 => if b = true then .ok true S1 else g r S1
def dNotT (f : Dt) : Dt := fun r S => (f r S).bind fun b S1 => .ok (!b) S1
def dIf (c : Dt) (f g : De) : De := fun r S => (c r S).bind fun b S1 => if b = true then f r S1 else g r S1
section
variable {X : Cx} {Wi : Wish} {a b c : Expr} {f1 f2 : De} {t1 t2 : Dt} {pos : Pos} {rest : List Expr}
abbrev SW (X : Cx) (Wi : Wish) (e : Expr) (f : Dt) : Prop := PW X e (tT X.w X.K Wi f)
theorem pw_imp {e : Expr} {t t' : TT} (h : PW X e t) (i : ∀ s H Q, t' s H Q → t s H Q) : PW X e t' := ⟨fun wh pins s σ H Q I q => h.run wh pins s σ H Q I (i _ _ _ q)⟩
theorem sw_or1 (ha : ST X Wi a t1) : SW X Wi (.BoolOp .Or [a] pos) t1 := pw_or1 ha
theorem sw_or (ha : ST X Wi a t1) (hb : SW X Wi (.BoolOp .Or (b :: rest) pos) t2) : SW X Wi (.BoolOp .Or (a :: b :: rest) pos) (dOrT t1 t2) :=
  pw_imp (pw_or ha hb) fun s H Q h => by
    obtain ⟨L, S, rr, er, sr, h⟩ := h
    refine ⟨L, S, rr, er, sr, (After.bnd h).mono fun k S1 L1 H1 e1 s1 h1 => ?_⟩
    cases k with
    | false => exact ⟨L1, S1, rr, er.ex e1, s1, h1⟩
    | true => exact h1 L1 H1 Ex.refl s1
theorem st_w (h : SW X Wi a t1) : ST X Wi a t1 := PW.pt h
theorem st_not (h : ST X Wi a t1) : ST X Wi (.UnaryOp .Not a pos) (dNotT t1) :=
  pt_imp (pt_not h) fun s H Q h => by
    obtain ⟨L, S, rr, er, sr, h⟩ := h
    exact ⟨L, S, rr, er, sr, (After.bnd h).mono fun k S1 L1 H1 e1 s1 h1 => h1 L1 H1 Ex.refl s1⟩
theorem se_one {op} (h : SE X Wi a f1) : SE X Wi (.BoolOp op [a] pos) f1 := pe_one h
theorem se_if (hc : ST X Wi c t1) (ha : SE X Wi a f1) (hb : SE X Wi b f2) : SE X Wi (.IfExp c a b pos) (dIf t1 f1 f2) :=
  pe_imp (pe_ifExp hc ha hb) fun s H Q h => by
    obtain ⟨L, S, rr, er, sr, h⟩ := h
    refine ⟨L, S, rr, er, sr, (After.bnd h).mono fun k S1 L1 H1 e1 s1 h1 => ?_⟩
    cases k with
    | true => exact ⟨L1, S1, rr, er.ex e1, s1, h1⟩
    | false => exact ⟨L1, S1, rr, er.ex e1, s1, h1⟩
end
def dNil : Da := fun _ S => .ok [] S
def dCons (f : De) (g : Da) : Da := fun r S => (f r S).bind fun d S1 => (g r S1).bind fun ds S2 => .ok (d :: ds) S2
def lineOk (n : Nat) : Bool := decide (n ≤ sizeLine)
def mkTup (ds : List D) (S : Store) : Out D := if noRefs ds && lineOk ds.length then .ok (.tup ds) S else .no
def dTup (f : Da) : De := fun r S => (f r S).bind mkTup
/-- the items of a new list -/
def chk (ds : List D) (S : Store) : Out (List D) := if noRefs ds && lineOk ds.length then .ok ds S else .no
def dChk (f : Da) : Da := fun r S => (f r S).bind chk
/-- a new list, never changed; one that will be changed -/
def dFz (f : Da) : De := fun r S => (f r S).bind fun ds S1 => .ok (.lst ds) S1
def dMu (f : Da) : De := fun r S => (f r S).bind fun ds S1 => .ok (.ref S1.length) (S1 ++ [.lst ds])
def tNew (w : World) (K : PySem.W.Frag) (Wi : Wish) (f : Da) : TE := fun s H Q => ∃ L S r, ERep w K L H s r ∧ SRep w K L H S ∧ After w K Wi L H (f r S) fun ds _ L' H' => ∀ vs, RAll w K L' H' vs ds → vs.length ≤ sizeLine → ∀ p, H' p = none → Q (.ref p) (upd H' p (.lst vs))
/-- e makes a new list of these items -/
abbrev SN (X : Cx) (Wi : Wish) (e : Expr) (f : Da) : Prop := PE X e (tNew X.w X.K Wi f)
section
variable {X : Cx} {Wi : Wish} {e : Expr} {es : List Expr} {f : De} {g : Da} {pos : Pos}
theorem sa_nil : SA X Wi [] dNil := pa_imp pa_nil fun s H Q h => by
  obtain ⟨L, S, rr, er, sr, h⟩ := h
  exact h L H Ex.refl sr [] .nil
theorem sa_cons (h1 : SE X Wi e f) (h2 : SA X Wi es g) (hs : starEach (e :: es) X.env = (false, eval e X.env) :: starEach es X.env := by rfl) : SA X Wi (e :: es) (dCons f g) :=
  pa_imp (pa_cons h1 h2 hs) fun s H Q h => by
    obtain ⟨L, S, rr, er, sr, h⟩ := h
    refine ⟨L, S, rr, er, sr, (After.bnd h).mono fun d S1 L1 H1 e1 s1 h1 x rx => ?_⟩
    refine ⟨L1, S1, rr, er.ex e1, s1, (After.bnd h1).mono fun ds S2 L2 H2 e2 s2 h2 xs rxs => ?_⟩
    exact h2 L2 H2 Ex.refl s2 (x :: xs) (.cons (rx.ex e2) rxs)
theorem line_of {n : Nat} (h : lineOk n = true) : n ≤ sizeLine := of_decide_eq_true h
theorem se_tup {x1} (h : SA X Wi es g) : SE X Wi (.Tuple es x1 pos) (dTup g) :=
  pe_imp (pe_tupX h) fun s H Q h => by
    obtain ⟨L, S, rr, er, sr, h⟩ := h
    refine ⟨L, S, rr, er, sr, (After.bnd h).mono fun ds S1 L1 H1 e1 s1 h1 vs rvs => ?_⟩
    unfold mkTup at h1
    split at h1
    · rename_i c
      simp only [Bool.and_eq_true] at c
      have z : vs.length ≤ sizeLine := by rw [rvs.length]; exact line_of c.2
      exact ⟨z, fun p o np hd => h1 L1 _ (Ex.new np) (s1.new np) _ (new_tup s1 np hd z (rvs.all c.1))⟩
    · exact False.elim h1
theorem sn_lst (h : SA X Wi es g) : SN X Wi (.List es pos) (dChk g) :=
  pe_imp (pe_lst h) fun s H Q h => by
    obtain ⟨L, S, rr, er, sr, h⟩ := h
    refine ⟨L, S, rr, er, sr, (After.bnd h).mono fun ds S1 L1 H1 e1 s1 h1 vs rvs => ?_⟩
    unfold chk at h1
    split at h1
    · rename_i c
      simp only [Bool.and_eq_true] at c
      have z : vs.length ≤ sizeLine := by rw [rvs.length]; exact line_of c.2
      exact ⟨z, fun p np => h1 L1 H1 Ex.refl s1 vs (rvs.all c.1) z p np⟩
    · exact False.elim h1
/-- a new mutable list at p -/
theorem new_mut {w : World} {K : PySem.W.Frag} {L : Cn} {H : Hp} {S : Store} {p : Addr} {vs : List V} {ds : List D} (s : SRep w K L H S) (np : H p = none) (z : vs.length ≤ sizeLine) (q : RAll w K L H vs ds) :
    SRep w K (L.push p) (upd H p (.lst vs)) (S ++ [.lst ds]) ∧ Rp w K (L.push p) (upd H p (.lst vs)) (.ref p) (.ref S.length) :=
  ⟨s.newM np ⟨vs, upd_same, z, q.ex (Ex.newM np)⟩, p, by simp [Cn.push, ← s.len], rfl⟩
theorem se_fz (h : SN X Wi e g) : SE X Wi e (dFz g) :=
  pe_imp h fun s H Q h => by
    obtain ⟨L, S, rr, er, sr, h⟩ := h
    refine ⟨L, S, rr, er, sr, (After.bnd h).mono fun ds S1 L1 H1 e1 s1 h1 vs rvs z p np => ?_⟩
    exact h1 L1 _ (Ex.new np) (s1.new np) _ (new_lst s1 np z rvs)
theorem se_mu (h : SN X Wi e g) : SE X Wi e (dMu g) :=
  pe_imp h fun s H Q h => by
    obtain ⟨L, S, rr, er, sr, h⟩ := h
    refine ⟨L, S, rr, er, sr, (After.bnd h).mono fun ds S1 L1 H1 e1 s1 h1 vs rvs z p np => ?_⟩
    obtain ⟨n1, n2⟩ := new_mut s1 np z rvs
    exact h1 _ _ (Ex.newM np) n1 _ n2
end
end Ws
namespace Ws
open PySem PySem.Spec PyProof.Rows L2
theorem keys_cons {d : D} {ds : List D} {ks : List NestedKey} (h : D.keys (d :: ds) = some ks) : ∃ k kr, ks = k :: kr ∧ d.key = some k ∧ D.keys ds = some kr := by
  unfold D.keys at h
  split at h
  · rename_i k kr e1 e2; cases h; exact ⟨k, kr, rfl, e1, e2⟩
  · cases h
theorem keys_mk {d : D} {ds : List D} {k : NestedKey} {kr : List NestedKey} (h1 : d.key = some k) (h2 : D.keys ds = some kr) : D.keys (d :: ds) = some (k :: kr) := by
  unfold D.keys; rw [h1, h2]
mutual
theorem key_num : ∀ (d : D) {k : NestedKey}, d.key = some k → numK k = true
  | .int i, k, h => by cases h; rfl
  | .tup xs, k, h => by
    simp only [D.key, Option.map_eq_some_iff] at h
    obtain ⟨ks, h1, rfl⟩ := h
    simp only [numK]
    exact keys_num xs h1
  | .non, _, h => by simp [D.key] at h
  | .bl _, _, h => by simp [D.key] at h
  | .str _, _, h => by simp [D.key] at h
  | .lst _, _, h => by simp [D.key] at h
  | .set _, _, h => by simp [D.key] at h
  | .seti _, _, h => by simp [D.key] at h
  | .dct _ _, _, h => by simp [D.key] at h
  | .tupw _, _, h => by simp [D.key] at h
  | .scr _, _, h => by simp [D.key] at h
  | .ref _, _, h => by simp [D.key] at h
theorem keys_num : ∀ (ds : List D) {ks : List NestedKey}, D.keys ds = some ks → numKs ks = true
  | [], _, h => by cases h; rfl
  | d :: ds, _, h => by
    obtain ⟨k, kr, rfl, h1, h2⟩ := keys_cons h
    simp only [numKs, key_num d h1, keys_num ds h2, Bool.and_self]
end
mutual
theorem key_inj : ∀ (d e : D) {k : NestedKey}, d.key = some k → e.key = some k → d = e
  | .int i, e, k, h, h2 => by
    cases h
    cases e with
    | int j => cases h2; rfl
    | tup ys => simp [D.key] at h2
    | _ => simp [D.key] at h2
  | .tup xs, e, k, h, h2 => by
    simp only [D.key, Option.map_eq_some_iff] at h
    obtain ⟨ks, h1, rfl⟩ := h
    cases e with
    | tup ys =>
      simp only [D.key, Option.map_eq_some_iff, NestedKey.tup.injEq] at h2
      obtain ⟨ks', h3, rfl⟩ := h2
      rw [keys_inj xs ys h1 h3]
    | int j => simp [D.key] at h2
    | _ => simp [D.key] at h2
  | .non, _, _, h, _ => by simp [D.key] at h
  | .bl _, _, _, h, _ => by simp [D.key] at h
  | .str _, _, _, h, _ => by simp [D.key] at h
  | .lst _, _, _, h, _ => by simp [D.key] at h
  | .set _, _, _, h, _ => by simp [D.key] at h
  | .seti _, _, _, h, _ => by simp [D.key] at h
  | .dct _ _, _, _, h, _ => by simp [D.key] at h
  | .tupw _, _, _, h, _ => by simp [D.key] at h
  | .scr _, _, _, h, _ => by simp [D.key] at h
  | .ref _, _, _, h, _ => by simp [D.key] at h
theorem keys_inj : ∀ (ds es : List D) {ks : List NestedKey}, D.keys ds = some ks → D.keys es = some ks → ds = es
  | [], es, _, h, h2 => by
    cases h
    cases es with
    | nil => rfl
    | cons e es => obtain ⟨_, _, z, _⟩ := keys_cons h2; cases z
  | d :: ds, es, _, h, h2 => by
    obtain ⟨k, kr, rfl, h3, h4⟩ := keys_cons h
    cases es with
    | nil => cases h2
    | cons e es =>
      obtain ⟨_, _, z, h5, h6⟩ := keys_cons h2
      cases z
      rw [key_inj d e h3 h5, keys_inj ds es h4 h6]
end
theorem keys_get : ∀ {ds : List D} {ks : List NestedKey} {i : Nat}, D.keys ds = some ks → (ds[i]?).bind D.key = ks[i]?
  | [], _, i, h => by cases h; simp
  | d :: ds, _, i, h => by
    obtain ⟨k, kr, rfl, h1, h2⟩ := keys_cons h
    cases i with
    | zero => simpa using h1
    | succ i => simpa using keys_get h2
theorem keys_len : ∀ {ds : List D} {ks : List NestedKey}, D.keys ds = some ks → ds.length = ks.length
  | [], _, h => by cases h; rfl
  | d :: ds, _, h => by obtain ⟨k, kr, rfl, _, h2⟩ := keys_cons h; simp [keys_len h2]
theorem keys_mem {ds : List D} {ks : List NestedKey} {d : D} (h : D.keys ds = some ks) (m : d ∈ ds) : ∃ k ∈ ks, d.key = some k := by
  obtain ⟨i, hi⟩ := List.mem_iff_getElem?.mp m
  have := keys_get (i := i) h
  rw [hi] at this
  obtain ⟨k, hk⟩ : ∃ k, d.key = some k := by
    have hl : i < ks.length := by rw [← keys_len h]; exact (List.getElem?_eq_some_iff.mp hi).1
    exact ⟨ks[i], by rw [List.getElem?_eq_getElem hl] at this; exact this⟩
  refine ⟨k, ?_, hk⟩
  exact List.mem_of_getElem? (i := i) (by rw [← this]; exact hk)
theorem mem_keys {ds : List D} {ks : List NestedKey} {k : NestedKey} (h : D.keys ds = some ks) (m : k ∈ ks) : ∃ d ∈ ds, d.key = some k := by
  obtain ⟨i, hi⟩ := List.mem_iff_getElem?.mp m
  have := keys_get (i := i) h
  rw [hi] at this
  cases hd : ds[i]? with
  | none => rw [hd] at this; cases this
  | some d => exact ⟨d, List.mem_of_getElem? hd, by rw [hd] at this; exact this⟩
section
variable {X : Cx} {pins : List (Addr × Obj)} {σ : L2.St} {H : Hp} {s : Shared} {L : Cn}
mutual
/-- the tuple in the heap is the key -/
theorem R0.nest (I : L2.Inv X pins σ H s) : ∀ {v : V} {d : D} {k : NestedKey} {u : Value}, R0 X.w X.K L H v d → d.key = some k → RelV v u → NestedIs s.heap k u
  | _, _, _, _, .int i, h, r => by cases h; obtain ⟨t, rfl⟩ := r; exact .int i t
  | _, _, _, _, .tup ta z ra, h, r => by
    simp only [D.key, Option.map_eq_some_iff] at h
    obtain ⟨ks, h1, rfl⟩ := h
    cases r
    obtain ⟨its, rv, pl, _⟩ := I.tuple ta.sq
    obtain ⟨o, ho, hc, n, hd⟩ := pl
    exact .tup ho hc hd (by simpa using RAll.nest I ra h1 rv)
  | _, _, _, _, .non, h, _ => by simp [D.key] at h
  | _, _, _, _, .bl _, h, _ => by simp [D.key] at h
  | _, _, _, _, .str _, h, _ => by simp [D.key] at h
  | _, _, _, _, .lst _ _ _, h, _ => by simp [D.key] at h
  | _, _, _, _, .scr _ _, h, _ => by simp [D.key] at h
  | _, _, _, _, .set _ _ _ _ _, h, _ => by simp [D.key] at h
  | _, _, _, _, .tupw _ _ _ _, h, _ => by simp [D.key] at h
  | _, _, _, _, .dct _ _ _ _ _ _, h, _ => by simp [D.key] at h
theorem RAll.nest (I : L2.Inv X pins σ H s) : ∀ {vs : List V} {ds : List D} {ks : List NestedKey} {us : List Value}, RAll X.w X.K L H vs ds → D.keys ds = some ks → Vals vs us → NestedAll s.heap ks us
  | _, _, _, _, .nil, h, r => by cases h; cases r; exact .nil
  | _, _, _, _, .cons r0 ra, h, r => by
    obtain ⟨k, kr, rfl, h1, h2⟩ := keys_cons h
    cases r with
    | cons r1 r2 => exact .cons (R0.nest I r0 h1 r1) (RAll.nest I ra h2 r2)
end
theorem R0.kat (I : L2.Inv X pins σ H s) {a : Addr} {d : D} {k : NestedKey} (r : R0 X.w X.K L H (.ref a) d) (h : d.key = some k) (hd : k.depth ≤ 8) : KAt s.heap k a := ⟨⟨R0.nest I r h rfl, hd⟩, key_num d h⟩
theorem RAll.kat (I : L2.Inv X pins σ H s) : ∀ {M : List (Addr × NestedKey)} {es : List D}, RAll X.w X.K L H (M.map fun p => V.ref p.1) es → D.keys es = some (M.map (·.2)) → (∀ p ∈ M, p.2.depth ≤ 8) → ∀ p ∈ M, KAt s.heap p.2 p.1
  | [], _, _, _, _, p, m => by cases m
  | q :: M, _, .cons r0 ra, h, hd, p, m => by
    obtain ⟨k, kr, e, h1, h2⟩ := keys_cons h
    cases e
    rcases List.mem_cons.mp m with rfl | m
    · exact R0.kat I r0 h1 (hd _ (List.mem_cons_self ..))
    · exact RAll.kat I ra h2 (fun p m => hd p (List.mem_cons_of_mem _ m)) p m
end
def rSetN (K : PySem.W.Frag) (w : World) : List V → Hp → VK → Prop := fun xs H Q => ∃ (C : Cn) (a : Addr) (ks : List (Addr × NestedKey)) (es : List D), xs = [.ref a] ∧ (SqL K H a (ks.map fun p => V.ref p.1) ∨ SqT K H a (ks.map fun p => V.ref p.1)) ∧ RAll w K C H (ks.map fun p => V.ref p.1) es ∧ D.keys es = some (ks.map (·.2)) ∧ (∀ p ∈ ks, p.2.depth ≤ 8) ∧ ks.length ≤ 1000 ∧
  ∀ b M, H b = none → (∀ p ∈ M, p ∈ ks) → (∀ p ∈ ks, p.2 ∈ M.map (·.2)) → (M.map (·.2)).Nodup → Q (.ref b) (upd H b (SetNO w b M))
theorem refs_vals : ∀ {ks : List (Addr × NestedKey)} {us : List Value}, Vals (ks.map fun p => V.ref p.1) us → us = ks.map fun p => Value.ref p.1
  | [], _, r => by cases r; rfl
  | _ :: _, _, .cons h t => by rw [refs_vals t]; cases h; rfl
theorem cr_setN {X : Cx} (hc : X.calm = true) (hu : X.A.units + 64 < cLine) : CallR X (.type "set") (rSetN X.K X.w) := by
  intro pins s σ H xs us Q I r h
  obtain ⟨C, a, ks, es, rfl, hq, ra, hk, hd, hf, q⟩ := h
  rw [Vals.ref1 r]
  have hn : H s.heap.objs.size = none := I.hok.fresh (Nat.le_refl _)
  have fin : ∀ (h' : Heap) (tk : Nat) L es' ep t, Sn X.w h' s.heap.objs.size L es' ep t → Has ks ks.length L → (∀ b o, s.heap.get? b = some o → h'.get? b = some o) → ∃ v H', L2.Inv X pins σ H' { s with heap := h', toks := tk } ∧ RelV v (.ref s.heap.objs.size) ∧ Q v H' := fun h' tk L es' ep t R g k =>
    ⟨.ref s.heap.objs.size, upd H s.heap.objs.size (SetNO X.w s.heap.objs.size L), I.laid (t' := tk) k (Nat.le_refl _) R.zero.ok, rfl, q _ L hn g.sub (fun p m => by
      obtain ⟨i, hi⟩ := List.mem_iff_getElem?.mp m
      exact g.all i p (List.getElem?_eq_some_iff.mp hi).1 hi) R.nd⟩
  rcases hq with hq | hq
  · obtain ⟨its, rv, pl, _⟩ := I.list hq
    exact gs_new (lst := true) ks (I.ok.hd hc) pl.isList (by simpa using refs_vals rv) (fun p m => RAll.kat I ra hk hd p m) hf (by omega) fin
  · obtain ⟨its, rv, pl, _⟩ := I.tuple hq
    exact gs_new (lst := false) ks (I.ok.hd hc) (show s.heap.IsTuple a its.toArray from pl) (by simpa using refs_vals rv) (fun p m => RAll.kat I ra hk hd p m) hf (by omega) fin
def rInN (neg : Bool) (K : PySem.W.Frag) (w : World) : R2 := fun x y H Q => ∃ (C : Cn) (b a : Addr) (M : List (Addr × NestedKey)) (es : List D) (e : D) (k : NestedKey), x = .ref b ∧ y = .ref a ∧ H a = some (SetNO w a M) ∧ RAll w K C H (M.map fun p => V.ref p.1) es ∧ D.keys es = some (M.map (·.2)) ∧ (∀ p ∈ M, p.2.depth ≤ 8) ∧ R0 w K C H (.ref b) e ∧ e.key = some k ∧ k.depth ≤ 8 ∧
  Q (.bl (if neg then !decide (k ∈ M.map (·.2)) else decide (k ∈ M.map (·.2)))) H
theorem op_inN {X : Cx} (hu : X.A.units + 64 < cLine) : OpR X (compareOp .In) (rInN false X.K X.w) := by
  intro pins s σ H x y v u Q I rx ry h
  obtain ⟨C, b, a, M, es, e, k, rfl, rfl, ha, ra, hk, hd, r0, he, hdk, q⟩ := h
  cases rx; cases ry
  obtain ⟨es', ep, t, R⟩ := (show Sn0 X.w s.heap a M from (I.hok a _ ha).1).full fun p m => RAll.kat I ra hk hd p m
  exact gs_in R (R0.kat I r0 he hdk) (by omega) ⟨.bl _, H, I.tok _, rfl, q⟩
end Ws
namespace Ws
open PySem PySem.Spec PyProof.Rows L2
/-- the keys of the entries are the data ks -/
structure DK (w : World) (K : PySem.W.Frag) (C : Cn) (H : Hp) (xs : List Ent) (ks : List D) : Prop where
  ra : RAll w K C H (xs.map fun p => V.ref p.2.1) ks
  key : D.keys ks = some (xs.map (·.1))
  dep : ∀ p ∈ xs, p.1.depth ≤ 8
section
variable {X : Cx} {pins : List (Addr × Obj)} {σ : L2.St} {H : Hp} {s : Shared} {L : Cn}
theorem DK.nest (I : L2.Inv X pins σ H s) : ∀ {xs : List Ent} {ks : List D}, DK X.w X.K L H xs ks → ∀ p ∈ xs, NestedIs s.heap p.1 (.ref p.2.1) ∧ p.1.depth ≤ 8
  | [], _, _, p, m => by cases m
  | q :: xs, _, ⟨.cons r0 ra, h, hd⟩, p, m => by
    obtain ⟨k, kr, e, h1, h2⟩ := keys_cons h
    cases e
    rcases List.mem_cons.mp m with rfl | m
    · exact ⟨R0.nest I r0 h1 rfl, hd _ (List.mem_cons_self ..)⟩
    · exact DK.nest I ⟨ra, h2, fun p m => hd p (List.mem_cons_of_mem _ m)⟩ p m
theorem DK.keyed (I : L2.Inv X pins σ H s) {a : Addr} {xs : List Ent} {ks : List D} (ha : HDct X.w H a xs) (dk : DK X.w X.K L H xs ks) :
    (a == sysModules) = false ∧ xs.length ≤ sizeLine ∧ ∃ ys : List (NestedKey × Addr × Value), Paired EntR xs ys ∧ s.heap.DictOfH (nestedKind X.prog X.w) a ys := by
  obtain ⟨o, ha⟩ := ha
  have R : Dn0 X.w s.heap a xs o := (I.hok a _ ha).1
  exact ⟨R.nsys, R.size, R.keyed fun p m => dk.nest I p m⟩
theorem Dn0.of {P : Program} {w : World} {h : Heap} {a : Addr} {xs : List Ent} {ys : List (NestedKey × Addr × Value)} (hs : (a == sysModules) = false) (hl : xs.length ≤ sizeLine) (hp : Paired EntR xs ys) (hd : h.DictOfH (nestedKind P w) a ys) : ∃ o, Dn0 w h a xs o := by
  obtain ⟨o, es, ep, ho, hc, hda, he, _, hn⟩ := hd
  exact ⟨o, hs, hl, ys, hp, es, ep, ho, hc, hda, he, hn⟩
end
def rInDc (neg : Bool) (K : PySem.W.Frag) (w : World) : R2 := fun x y H Q => ∃ (C : Cn) (b a : Addr) (xs : List Ent) (ks : List D) (e : D) (k : NestedKey), x = .ref b ∧ y = .ref a ∧ HDct w H a xs ∧ DK w K C H xs ks ∧ R0 w K C H (.ref b) e ∧ e.key = some k ∧ k.depth ≤ 8 ∧
  Q (.bl (if neg then !(atE xs k).isSome else (atE xs k).isSome)) H
theorem atE_isSome {xs : List Ent} {ys : List (NestedKey × Addr × Value)} {k : NestedKey} (h : Paired EntR xs ys) : (atKey ys k).isSome = (atE xs k).isSome := by
  cases e : atE xs k with
  | none => rw [atE_none h e]; rfl
  | some p => obtain ⟨u, e1, _⟩ := atE_some h e; rw [e1]; rfl
theorem op_inDc {X : Cx} (hu : X.A.units + 64 < cLine) : OpR X (compareOp .In) (rInDc false X.K X.w) := by
  intro pins s σ H x y v u Q I rx ry h
  obtain ⟨C, b, a, xs, ks, e, k, rfl, rfl, ha, dk, r0, he, hdk, q⟩ := h
  cases rx; cases ry
  obtain ⟨hs, hl, ys, hp, hd⟩ := dk.keyed I ha
  refine wpAny_in_heap (knd := nestedKind X.prog X.w) (k := k) (show X.A.in1.units + 8 < cLine by show X.A.units + 1 + 8 < cLine; omega) ⟨R0.nest I r0 he rfl, hdk⟩ hs hd ?_
  rw [atE_isSome hp]
  exact ⟨.bl _, H, I.tok _, rfl, q⟩
def rGetDc (K : PySem.W.Frag) (w : World) : R2 := fun x y H Q => ∃ (C : Cn) (b a : Addr) (xs : List Ent) (ks : List D) (e : D) (k : NestedKey) (p : Addr × V), x = .ref a ∧ y = .ref b ∧ HDct w H a xs ∧ DK w K C H xs ks ∧ R0 w K C H (.ref b) e ∧ e.key = some k ∧ k.depth ≤ 8 ∧ atE xs k = some p ∧ Q p.2 H
theorem op_getDc {X : Cx} (hu : X.A.units + 64 < cLine) : OpR X getItem (rGetDc X.K X.w) := by
  intro pins s σ H x y v u Q I rx ry h
  obtain ⟨C, b, a, xs, ks, e, k, p, rfl, rfl, ha, dk, r0, he, hdk, hp0, q⟩ := h
  cases rx; cases ry
  obtain ⟨hs, hl, ys, hp, hd⟩ := dk.keyed I ha
  obtain ⟨u, e1, r⟩ := atE_some hp hp0
  exact wpAny_getItem_heap (knd := nestedKind X.prog X.w) (k := k) (show X.A.in1.units + 8 < cLine by show X.A.units + 1 + 8 < cLine; omega) ⟨R0.nest I r0 he rfl, hdk⟩ hd e1 ⟨p.2, H, I.tok _, r, q⟩
def rSetDc (K : PySem.W.Frag) (w : World) : TSet := fun o i v H Q => ∃ (C : Cn) (b a : Addr) (xs : List Ent) (ks : List D) (e : D) (k : NestedKey), o = .ref a ∧ i = .ref b ∧ HDct w H a xs ∧ DK w K C H xs ks ∧ R0 w K C H (.ref b) e ∧ e.key = some k ∧ k.depth ≤ 8 ∧ xs.length < sizeLine ∧ ∀ o', Q (upd H a (DctNO w a (storeE xs k b v) o'))
theorem storeE_len {xs : List Ent} {k : NestedKey} {a : Addr} {v : V} : (storeE xs k a v).length ≤ xs.length + 1 := by
  unfold storeE; split
  · rw [List.length_map]; omega
  · simp
theorem dn_wrote {X : Cx} {pins : List (Addr × Obj)} {σ : L2.St} {H : Hp} {s : Shared} {a b : Addr} {xs : List Ent} {ys : List (NestedKey × Addr × Value)} {k : NestedKey} {v : V} {u : Value} {h' : Heap} {t : Nat} (I : L2.Inv X pins σ H s) (ha : HDct X.w H a xs) (hs : (a == sysModules) = false) (hp : Paired EntR xs ys) (hl : xs.length < sizeLine) (r : RelV v u)
    (hd : h'.DictOfH (nestedKind X.prog X.w) a (storedH ys k b u)) (sb : Heap.SameBut a s.heap h') : ∃ o, L2.Inv X pins σ (upd H a (DctNO X.w a (storeE xs k b v) o)) { s with heap := h', toks := t } := by
  obtain ⟨o', R⟩ := Dn0.of (P := X.prog) hs (Nat.le_trans storeE_len hl) (storeE_rel hp r) hd
  obtain ⟨o0, ha⟩ := ha
  refine ⟨o', I.write (by rw [ha]; exact trivial) (.inl rfl) (fun c w hc e => by rw [sb.2 c hc]; exact e) ?_ R.ok⟩
  obtain ⟨_, _, _, _, ho, _⟩ := R.ex
  exact ⟨o', ho⟩
theorem set_dc {X : Cx} (hu : X.A.units + 64 < cLine) : PSet X (rSetDc X.K X.w) := by
  intro pins s σ H o i v ov iv u Q I ro ri rv h
  obtain ⟨C, b, a, xs, ks, e, k, rfl, rfl, ha, dk, r0, he, hdk, hlt, q⟩ := h
  cases ro; cases ri
  obtain ⟨hs, hl, ys, hp, hd⟩ := dk.keyed I ha
  refine wpAny_setItem_heap (knd := nestedKind X.prog X.w) (k := k) (hsz := by rw [← hp.length]; exact hl) (show X.A.in1.units + 8 < cLine by show X.A.units + 1 + 8 < cLine; omega) ⟨R0.nest I r0 he rfl, hdk⟩ hd fun h' hd' sb => ?_
  obtain ⟨o', J⟩ := dn_wrote I ha hs hp hlt rv hd' sb
  exact ⟨_, J, q o'⟩
end Ws
namespace Ws
open PySem PySem.Spec PyProof.Rows L2
mutual
def D.toPy : D → PyData
  | .non => .none
  | .bl b => .bool b
  | .int i => .int i
  | .str x => .str x
  | .tup xs => .tuple (D.toPys xs)
  | .lst xs => .list (D.toPys xs)
  | .set _ => .none
  | .seti _ => .none
  | .dct _ _ => .none
  | .tupw _ => .none
  | .scr _ => .none
  | .ref _ => .none
def D.toPys : List D → List PyData
  | [] => []
  | d :: r => d.toPy :: D.toPys r
end
mutual
/-- plain data of a depth of at most n -/
def D.shp : D → Nat → Bool
  | .non, _ => true
  | .bl _, _ => true
  | .int _, _ => true
  | .str x, _ => PyData.strOk x
  | .tup xs, 0 => false
  | .tup xs, n + 1 => D.shps xs n
  | .lst xs, 0 => false
  | .lst xs, n + 1 => D.shps xs n
  | .set _, _ => false
  | .seti _, _ => false
  | .dct _ _, _ => false
  | .tupw _, _ => false
  | .scr _, _ => false
  | .ref _, _ => false
def D.shps : List D → Nat → Bool
  | [], _ => true
  | d :: r, n => D.shp d n && D.shps r n
end
mutual
def D.eqv : D → D → Bool
  | .non, .non => true
  | .bl a, .bl b => a == b
  | .bl a, .int j => (if a then 1 else 0) == j
  | .int i, .bl b => i == (if b then 1 else 0)
  | .int i, .int j => i == j
  | .str x, .str y => x == y
  | .lst xs, .lst ys => D.eqvs xs ys
  | .tup xs, .tup ys => D.eqvs xs ys
  | _, _ => false
def D.eqvs : List D → List D → Bool
  | [], [] => true
  | x :: xs, y :: ys => D.eqv x y && D.eqvs xs ys
  | _, _ => false
end
mutual
theorem shp_py : ∀ (d : D) (n : Nat), d.shp n = true → d.toPy.canLay0 = true ∧ d.toPy.depth ≤ n
  | .non, _, _ => ⟨rfl, Nat.zero_le _⟩
  | .bl _, _, _ => ⟨rfl, Nat.zero_le _⟩
  | .int _, _, _ => ⟨rfl, Nat.zero_le _⟩
  | .str x, _, h => ⟨h, Nat.zero_le _⟩
  | .tup xs, 0, h => by simp [D.shp] at h
  | .lst xs, 0, h => by simp [D.shp] at h
  | .tup xs, n + 1, h => by
    have q := shps_py xs n (by simpa [D.shp] using h)
    exact ⟨q.1, Nat.succ_le_succ q.2⟩
  | .lst xs, n + 1, h => by
    have q := shps_py xs n (by simpa [D.shp] using h)
    exact ⟨q.1, Nat.succ_le_succ q.2⟩
  | .set _, _, h => by simp [D.shp] at h
  | .seti _, _, h => by simp [D.shp] at h
  | .dct _ _, _, h => by simp [D.shp] at h
  | .tupw _, _, h => by simp [D.shp] at h
  | .scr _, _, h => by simp [D.shp] at h
  | .ref _, _, h => by simp [D.shp] at h
theorem shps_py : ∀ (ds : List D) (n : Nat), D.shps ds n = true → PyData.canLayAll0 (D.toPys ds) = true ∧ PyData.depthAll (D.toPys ds) ≤ n
  | [], _, _ => ⟨rfl, Nat.zero_le _⟩
  | d :: r, n, h => by
    simp only [D.shps, Bool.and_eq_true] at h
    have q := shp_py d n h.1
    have q2 := shps_py r n h.2
    refine ⟨?_, ?_⟩
    · show (d.toPy.canLay0 && PyData.canLayAll0 (D.toPys r)) = true
      rw [q.1, q2.1]; rfl
    · show max d.toPy.depth (PyData.depthAll (D.toPys r)) ≤ n
      omega
end
theorem shp_shaped {d : D} (h : d.shp 60 = true) : SeqAt.shaped d.toPy = true := by
  obtain ⟨h1, h2⟩ := shp_py d 60 h
  unfold SeqAt.shaped
  rw [h1, decide_eq_true (by omega : d.toPy.depth ≤ 64)]; rfl
mutual
theorem eqv_py : ∀ (d e : D) (n m : Nat), d.shp n = true → e.shp m = true → PyData.eqv d.toPy e.toPy = d.eqv e
  | .non, e, n, m, _, h => by cases e <;> first | rfl | (simp [D.shp] at h)
  | .bl a, e, n, m, _, h => by cases e <;> first | rfl | (simp [D.shp] at h)
  | .int i, e, n, m, _, h => by cases e <;> first | rfl | (simp [D.shp] at h)
  | .str x, e, n, m, _, h => by cases e <;> first | rfl | (simp [D.shp] at h)
  | .tup xs, e, n, m, h1, h => by
    cases e with
    | tup ys =>
      cases n with
      | zero => simp [D.shp] at h1
      | succ n =>
        cases m with
        | zero => simp [D.shp] at h
        | succ m =>
          show PyData.eqvAll (D.toPys xs) (D.toPys ys) = D.eqvs xs ys
          exact eqvs_py xs ys n m (by simpa [D.shp] using h1) (by simpa [D.shp] using h)
    | _ => first | rfl | (simp [D.shp] at h)
  | .lst xs, e, n, m, h1, h => by
    cases e with
    | lst ys =>
      cases n with
      | zero => simp [D.shp] at h1
      | succ n =>
        cases m with
        | zero => simp [D.shp] at h
        | succ m =>
          show PyData.eqvAll (D.toPys xs) (D.toPys ys) = D.eqvs xs ys
          exact eqvs_py xs ys n m (by simpa [D.shp] using h1) (by simpa [D.shp] using h)
    | _ => first | rfl | (simp [D.shp] at h)
  | .set _, _, _, _, h, _ => by simp [D.shp] at h
  | .seti _, _, _, _, h, _ => by simp [D.shp] at h
  | .dct _ _, _, _, _, h, _ => by simp [D.shp] at h
  | .tupw _, _, _, _, h, _ => by simp [D.shp] at h
  | .scr _, _, _, _, h, _ => by simp [D.shp] at h
  | .ref _, _, _, _, h, _ => by simp [D.shp] at h
theorem eqvs_py : ∀ (ds es : List D) (n m : Nat), D.shps ds n = true → D.shps es m = true → PyData.eqvAll (D.toPys ds) (D.toPys es) = D.eqvs ds es
  | [], [], _, _, _, _ => rfl
  | [], _ :: _, _, _, _, _ => rfl
  | _ :: _, [], _, _, _, _ => rfl
  | d :: ds, e :: es, n, m, h1, h2 => by
    simp only [D.shps, Bool.and_eq_true] at h1 h2
    show (PyData.eqv d.toPy e.toPy && PyData.eqvAll (D.toPys ds) (D.toPys es)) = (D.eqv d e && D.eqvs ds es)
    rw [eqv_py d e n m h1.1 h2.1, eqvs_py ds es n m h1.2 h2.2]
end
section
variable {w : World} {K : PySem.W.Frag} {L : Cn} {H : Hp}
mutual
theorem R0.dp : ∀ {v : V} {d : D} {n : Nat}, R0 w K L H v d → d.shp n = true → Dp K H v d.toPy
  | _, _, _, .non, _ => .non
  | _, _, _, .bl b, _ => .bl b
  | _, _, _, .int i, _ => .int i
  | _, _, _, .str x, _ => .str x
  | _, _, 0, .tup h z r, q => by simp [D.shp] at q
  | _, _, 0, .lst h z r, q => by simp [D.shp] at q
  | _, _, n + 1, .tup h z r, q => .tup h.sq (RAll.dp r (by simpa [D.shp] using q))
  | _, _, n + 1, .lst h z r, q => .lst h.sq (RAll.dp r (by simpa [D.shp] using q))
  | _, _, _, .scr h z, q => by simp [D.shp] at q
  | _, _, _, .set _ _ _ _ _, q => by simp [D.shp] at q
  | _, _, _, .tupw _ _ _ _, q => by simp [D.shp] at q
  | _, _, _, .dct _ _ _ _ _ _, q => by simp [D.shp] at q
theorem RAll.dp : ∀ {vs : List V} {ds : List D} {n : Nat}, RAll w K L H vs ds → D.shps ds n = true → DpAll K H vs (D.toPys ds)
  | _, _, _, .nil, _ => .nil
  | _, _, _, .cons h t, q => by
    simp only [D.shps, Bool.and_eq_true] at q
    exact .cons (R0.dp h q.1) (RAll.dp t q.2)
end
variable {S : Store}
theorem view_dp {v : V} {d : D} {n : Nat} (r : Rp w K L H v d) (s : SRep w K L H S) (q : (view S d).shp n = true) : Dp K H v (view S d).toPy := by
  cases d with
  | ref m =>
    obtain ⟨a, h1, rfl⟩ := r
    obtain ⟨d, h2, o⟩ := s.at h1
    have e : view S (.ref m) = d := by show (S[m]?).getD .non = d; rw [h2]; rfl
    rw [e] at q ⊢
    cases d with
    | lst ds =>
      obtain ⟨vs, h3, z, p⟩ := o
      cases n with
      | zero => simp [D.shp] at q
      | succ n => exact .lst (SqL.of h3) (RAll.dp p (by simpa [D.shp] using q))
    | dct ks vs => simp [D.shp] at q
    | _ => exact False.elim o
  | _ => exact R0.dp r q
/-- a datum that is no list is itself -/
theorem view_self {v : V} {d e : D} (r : Rp w K L H v d) (s : SRep w K L H S) (q : view S d = e) (n : ∀ ds, e ≠ .lst ds) (n2 : ∀ ks vs, e ≠ .dct ks vs := by intro _ _ z; cases z) : d = e ∧ Rp w K L H v e := by
  cases d with
  | ref m =>
    obtain ⟨a, h1, rfl⟩ := r
    obtain ⟨d, h2, o⟩ := s.at h1
    have e' : view S (.ref m) = d := by show (S[m]?).getD .non = d; rw [h2]; rfl
    rw [e'] at q
    subst q
    cases d with
    | lst ds => exact absurd rfl (n ds)
    | dct ks vs => exact absurd rfl (n2 ks vs)
    | _ => exact False.elim o
  | _ => cases q; exact ⟨rfl, r⟩
/-- a dict, frozen or mutable -/
theorem view_dct {v : V} {d : D} {ks vs : List D} (r : Rp w K L H v d) (s : SRep w K L H S) (q : view S d = .dct ks vs) : ∃ (a : Addr) (xs : List Ent), v = .ref a ∧ HDct w H a xs ∧ DK w K L H xs ks ∧ RAll w K L H (xs.map fun p => p.2.2) vs := by
  cases d with
  | ref m =>
    obtain ⟨a, h1, rfl⟩ := r
    obtain ⟨d, h2, o⟩ := s.at h1
    have e' : view S (.ref m) = d := by show (S[m]?).getD .non = d; rw [h2]; rfl
    rw [e'] at q
    subst q
    obtain ⟨xs, h3, r, k, dd, r2⟩ := o
    exact ⟨a, xs, rfl, h3, ⟨r, k, dd⟩, r2⟩
  | dct ks' vs' =>
    cases q
    have r' : R0 w K L H v (.dct ks vs) := r
    cases r' with
    | dct h n r k dd r2 => exact ⟨_, _, rfl, ⟨_, h⟩, ⟨r, k, dd⟩, r2⟩
  | _ => cases q
theorem view_int {v : V} {d : D} {i : Int} (r : Rp w K L H v d) (s : SRep w K L H S) (q : view S d = .int i) : v = .int i := by
  obtain ⟨_, h⟩ := view_self r s q (fun _ z => nomatch z)
  cases h; rfl
theorem view_bl {v : V} {d : D} {b : Bool} (r : Rp w K L H v d) (s : SRep w K L H S) (q : view S d = .bl b) : v = .bl b := by
  obtain ⟨_, h⟩ := view_self r s q (fun _ z => nomatch z)
  cases h; rfl
theorem view_str {v : V} {d : D} {x : Str} (r : Rp w K L H v d) (s : SRep w K L H S) (q : view S d = .str x) : v = .str x := by
  obtain ⟨_, h⟩ := view_self r s q (fun _ z => nomatch z)
  cases h; rfl
end
def smallI (i : Int) : Bool := decide (i.natAbs < 2 ^ 64)
def mulOk (i j : Int) : Bool := smallI i || smallI j || decide (i.natAbs.log2 + j.natAbs.log2 < 1000000)
theorem mul_ok {i j : Int} (h : mulOk i j = true) : CMul i j ∨ CMulW i j := by
  unfold mulOk smallI at h
  simp only [Bool.or_eq_true, decide_eq_true_eq] at h
  rcases h with (h | h) | h
  · exact .inl (.inl (by omega))
  · exact .inl (.inr (by omega))
  · exact .inr h
def gAdd (S : Store) (a b : D) : Option D :=
  match view S a, view S b with
  | .int i, .int j => some (.int (i + j))
  | .lst xs, .lst ys => if lineOk (xs.length + ys.length) then some (.lst (xs ++ ys)) else none
  | .tup xs, .tup ys => if lineOk (xs.length + ys.length) then some (.tup (xs ++ ys)) else none
  | .str x, .str y => if lineOk (x.length + y.length) then some (.str (x ++ y)) else none
  | _, _ => none
def gSub (_ : Store) : D → D → Option D
  | .int i, .int j => some (.int (i - j))
  | _, _ => none
def gMul (S : Store) (a b : D) : Option D :=
  match view S a, view S b with
  | .int i, .int j => if mulOk i j then some (.int (i * j)) else none
  | .lst xs, .int k => if decide (-1000000 ≤ k) && decide (k ≤ 1000000) && lineOk (xs.length * k.toNat) then some (.lst (List.replicate k.toNat xs).flatten) else none
  | _, _ => none
def gFdiv (_ : Store) : D → D → Option D
  | .int i, .int j => if decide (0 < j) && decide (j.natAbs.log2 < 9000) then some (.int (i / j)) else if decide (j < 0) && decide (j.natAbs < 1073741824) then some (.int (i.fdiv j)) else none
  | _, _ => none
def gMod (_ : Store) : D → D → Option D
  | .int i, .int j => if decide (0 < j) then some (.int (i % j)) else if decide (j < 0) then some (.int (i.fmod j)) else none
  | _, _ => none
def powI (i : Int) (n : Nat) : Int := if 0 ≤ i then ((i.toNat ^ n : Nat) : Int) else i ^ n
def gPow (_ : Store) : D → D → Option D
  | .int i, .int j => if decide (0 ≤ j) && decide (j ≤ 1000000) && smallI i then some (.int (powI i j.toNat)) else none
  | _, _ => none
def gNeg (_ : Store) : D → Option D
  | .int i => some (.int (-i))
  | _ => none
def rMulA : R2 := fun x y H Q => rI CMul (fun i j => .int (i * j)) x y H Q ∨ rI CMulW (fun i j => .int (i * j)) x y H Q ∨ rRep x y H Q
/-- t + u -/
def rCatX (K : PySem.W.Frag) : R2 := fun x y H Q => ∃ a b xs ys, x = .ref a ∧ y = .ref b ∧ SqT K H a xs ∧ SqT K H b ys ∧ xs.length + ys.length ≤ sizeLine ∧
  (xs = [] → Q (.ref b) H) ∧ (xs ≠ [] → ys = [] → Q (.ref a) H) ∧ (xs ≠ [] → ys ≠ [] → ∀ p o, H p = none → o.dict = none → Q (.ref p) (upd H p (.frz o (.tup (xs ++ ys)))))
theorem op_catX {X : Cx} : OpR X (binaryOp .Add) (rCatX X.K) := by
  intro pins s σ H x y v u Q I rx ry h
  obtain ⟨a, b, xs, ys, rfl, rfl, ha, hb, hz, q0, q1, q2⟩ := h
  cases rx
  cases ry
  obtain ⟨its, r1, p1, _⟩ := I.tuple ha
  obtain ⟨its2, r2, p2, _⟩ := I.tuple hb
  by_cases hx : xs = []
  · subst hx
    cases r1
    exact cat_tup0 p1 p2 ⟨.ref b, H, I, rfl, q0 rfl⟩
  · refine HT.cat_tup p1 p2 (fun z => hx (r1.nil_iff.mp z)) (fun z => ⟨.ref a, H, I, rfl, q1 hx (r2.nil_iff.mp z)⟩) (fun z => ?_) (by rw [← r1.length, ← r2.length]; exact hz)
    exact tup_laid I (r1.append r2) (by rw [List.length_append]; exact hz) (q2 hx fun w => z (r2.nil_iff.mpr w))
def rAddA (K : PySem.W.Frag) : R2 := fun x y H Q => rI0 (fun i j => .int (i + j)) x y H Q ∨ rCat x y H Q ∨ rCatX K x y H Q ∨ ∃ i j, x = .str i ∧ y = .str j ∧ i.length + j.length ≤ sizeLine ∧ Q (.str (i ++ j)) H
def rFdivA : R2 := fun x y H Q => rI CDivW (fun i j => .int (i / j)) x y H Q ∨ rI CDivN (fun i j => .int (i.fdiv j)) x y H Q
def rModA : R2 := fun x y H Q => rI (fun _ j => 0 < j) (fun i j => .int (i % j)) x y H Q ∨ rI (fun _ j => j ≠ 0) (fun i j => .int (i.fmod j)) x y H Q
section
variable {X : Cx}
theorem op_addA : OpR X (binaryOp .Add) (rAddA X.K) := op_add.or (op_cat.or (op_catX.or op_add_str))
theorem op_mulA : OpR X (binaryOp .Mult) rMulA := op_mul.or (op_mulW.or op_rep)
theorem op_fdivA : OpR X (binaryOp .FloorDiv) rFdivA := op_fdivW.or op_fdivN
theorem op_modA : OpR X (binaryOp .Mod) rModA := op_mod.or op_modN
end
section
variable {w : World} {K : PySem.W.Frag}
theorem RAll.nil_iff {L : Cn} {H : Hp} {vs : List V} {ds : List D} (h : RAll w K L H vs ds) : vs = [] ↔ ds = [] := by
  cases h <;> simp
theorem od_add : OpD w K (rAddA K) gAdd := by
  intro L H S x y a b d Q s ra rb e q
  unfold gAdd at e
  split at e
  · rename_i i j e1 e2
    cases e
    exact .inl ⟨i, j, view_int ra s e1, view_int rb s e2, q H Ex.refl s _ (Rp.of (.int _))⟩
  · rename_i xs ys e1 e2
    split at e
    · rename_i c
      cases e
      obtain ⟨a1, vs, rfl, h1, z1, r1⟩ := view_lst ra s e1
      obtain ⟨a2, us, rfl, h2, z2, r2⟩ := view_lst rb s e2
      have z : vs.length + us.length ≤ sizeLine := by rw [r1.length, r2.length]; exact line_of c
      exact .inr (.inl ⟨a1, a2, vs, us, rfl, rfl, h1, h2, z, fun p np => q _ (Ex.new np) (s.new np) _ (new_lst s np (by rw [List.length_append]; exact z) (r1.append r2))⟩)
    · cases e
  · rename_i xs ys e1 e2
    split at e
    · rename_i c
      cases e
      have ea := view_tupAt ra s e1
      have eb := view_tupAt rb s e2
      subst ea eb
      obtain ⟨a1, vs, rfl, h1, z1, r1⟩ := view_tup ra s e1
      obtain ⟨a2, us, rfl, h2, z2, r2⟩ := view_tup rb s e2
      have z : vs.length + us.length ≤ sizeLine := by rw [r1.length, r2.length]; exact line_of c
      refine .inr (.inr (.inl ⟨a1, a2, vs, us, rfl, rfl, h1, h2, z, fun e0 => ?_, fun e0 e3 => ?_, fun e0 e3 p o np hd => ?_⟩))
      · have e4 := r1.nil_iff.mp e0
        subst e4
        exact q H Ex.refl s _ rb
      · have e4 := r2.nil_iff.mp e3
        subst e4
        rw [List.append_nil] at q
        exact q H Ex.refl s _ ra
      · exact q _ (Ex.new np) (s.new np) _ (new_tup s np hd (by rw [List.length_append]; exact z) (r1.append r2))
    · cases e
  · rename_i u v e1 e2
    split at e
    · rename_i c
      cases e
      exact .inr (.inr (.inr ⟨u, v, view_str ra s e1, view_str rb s e2, line_of c, q H Ex.refl s _ (Rp.of (.str _))⟩))
    · cases e
  · cases e
theorem RAll.rep {L : Cn} {H : Hp} {vs : List V} {ds : List D} (h : RAll w K L H vs ds) : ∀ k : Nat, RAll w K L H (List.replicate k vs).flatten (List.replicate k ds).flatten
  | 0 => .nil
  | k + 1 => by
    rw [List.replicate_succ, List.replicate_succ, List.flatten_cons, List.flatten_cons]
    exact h.append (RAll.rep h k)
theorem len_rep {α : Type} (k : Nat) (l : List α) : (List.replicate k l).flatten.length = l.length * k := by
  induction k with
  | zero => simp
  | succ k ih => rw [List.replicate_succ, List.flatten_cons, List.length_append, ih, Nat.mul_succ]; omega
theorem od_mul : OpD w K rMulA gMul := by
  intro L H S x y a b d Q s ra rb e q
  unfold gMul at e
  split at e
  · rename_i i j e1 e2
    split at e
    · rename_i c
      cases e
      rcases mul_ok c with c | c
      · exact .inl ⟨i, j, view_int ra s e1, view_int rb s e2, c, q H Ex.refl s _ (Rp.of (.int _))⟩
      · exact .inr (.inl ⟨i, j, view_int ra s e1, view_int rb s e2, c, q H Ex.refl s _ (Rp.of (.int _))⟩)
    · cases e
  · rename_i xs k e1 e2
    split at e
    · rename_i c
      cases e
      simp only [Bool.and_eq_true, decide_eq_true_eq] at c
      obtain ⟨a1, vs, rfl, h1, z1, r1⟩ := view_lst ra s e1
      have z : vs.length * k.toNat ≤ sizeLine := by rw [r1.length]; exact line_of c.2
      refine .inr (.inr ⟨a1, k, vs, rfl, view_int rb s e2, h1, by omega, by omega, z, fun p np => q _ (Ex.new np) (s.new np) _ (new_lst s np (by rw [len_rep]; exact z) (r1.rep _))⟩)
    · cases e
  · cases e
theorem od_sub : OpD w K (rI0 fun i j => .int (i - j)) gSub := by
  intro L H S x y a b d Q s ra rb e q
  unfold gSub at e
  split at e
  · rename_i i j
    cases e; cases ra; cases rb
    exact ⟨i, j, rfl, rfl, q H Ex.refl s _ (Rp.of (.int _))⟩
  · cases e
theorem od_fdiv : OpD w K rFdivA gFdiv := by
  intro L H S x y a b d Q s ra rb e q
  unfold gFdiv at e
  split at e
  · rename_i i j
    cases ra; cases rb
    split at e
    · rename_i c
      cases e
      simp only [Bool.and_eq_true, decide_eq_true_eq] at c
      exact .inl ⟨i, j, rfl, rfl, c, q H Ex.refl s _ (Rp.of (.int _))⟩
    · split at e
      · rename_i c
        cases e
        simp only [Bool.and_eq_true, decide_eq_true_eq] at c
        exact .inr ⟨i, j, rfl, rfl, ⟨by omega, c.2⟩, q H Ex.refl s _ (Rp.of (.int _))⟩
      · cases e
  · cases e
theorem od_mod : OpD w K rModA gMod := by
  intro L H S x y a b d Q s ra rb e q
  unfold gMod at e
  split at e
  · rename_i i j
    cases ra; cases rb
    split at e
    · rename_i c
      cases e
      exact .inl ⟨i, j, rfl, rfl, of_decide_eq_true c, q H Ex.refl s _ (Rp.of (.int _))⟩
    · split at e
      · rename_i c
        cases e
        have c := of_decide_eq_true c
        exact .inr ⟨i, j, rfl, rfl, by omega, q H Ex.refl s _ (Rp.of (.int _))⟩
      · cases e
  · cases e
theorem powI_eq (i : Int) (n : Nat) : powI i n = i ^ n := by
  unfold powI
  split
  · rename_i h
    rw [Int.natCast_pow, Int.toNat_of_nonneg h]
  · rfl
theorem od_pow : OpD w K (rI CPow fun i j => .int (i ^ j.toNat)) gPow := by
  intro L H S x y a b d Q s ra rb e q
  unfold gPow at e
  split at e
  · rename_i i j
    cases ra; cases rb
    split at e
    · rename_i c
      cases e
      unfold smallI at c
      simp only [Bool.and_eq_true, decide_eq_true_eq] at c
      rw [powI_eq] at q
      exact ⟨i, j, rfl, rfl, ⟨c.1.1, c.1.2, c.2⟩, q H Ex.refl s _ (Rp.of (.int _))⟩
    · cases e
  · cases e
theorem ud_neg : UnD w K (rU fun i => .int (-i)) gNeg := by
  intro L H S x a d Q s ra e q
  unfold gNeg at e
  split at e
  · rename_i i
    cases e; cases ra
    exact ⟨i, rfl, q H Ex.refl s _ (Rp.of (.int _))⟩
  · cases e
end
section
variable {X : Cx} {Wi : Wish} {a b : Expr} {f1 f2 : De} {pos : Pos}
theorem se_add (ha : SE X Wi a f1) (hb : SE X Wi b f2) : SE X Wi (.BinOp a .Add b pos) (dOp gAdd f1 f2) := se_op op_addA od_add ha hb
theorem se_sub (ha : SE X Wi a f1) (hb : SE X Wi b f2) : SE X Wi (.BinOp a .Sub b pos) (dOp gSub f1 f2) := se_op op_sub od_sub ha hb
theorem se_mul (ha : SE X Wi a f1) (hb : SE X Wi b f2) : SE X Wi (.BinOp a .Mult b pos) (dOp gMul f1 f2) := se_op op_mulA od_mul ha hb
theorem se_fdiv (ha : SE X Wi a f1) (hb : SE X Wi b f2) : SE X Wi (.BinOp a .FloorDiv b pos) (dOp gFdiv f1 f2) := se_op op_fdivA od_fdiv ha hb
theorem se_mod (ha : SE X Wi a f1) (hb : SE X Wi b f2) : SE X Wi (.BinOp a .Mod b pos) (dOp gMod f1 f2) := se_op op_modA od_mod ha hb
theorem se_pow (ha : SE X Wi a f1) (hb : SE X Wi b f2) : SE X Wi (.BinOp a .Pow b pos) (dOp gPow f1 f2) := se_op op_pow od_pow ha hb
theorem se_neg (ha : SE X Wi a f1) : SE X Wi (.UnaryOp .USub a pos) (dUn gNeg f1) := se_un un_neg ud_neg ha
end
def gEq (S : Store) (a b : D) : Option D := if (view S a).shp 60 && (view S b).shp 60 then some (.bl ((view S a).eqv (view S b))) else none
def gNe (S : Store) (a b : D) : Option D := if (view S a).shp 60 && (view S b).shp 60 then some (.bl (!(view S a).eqv (view S b))) else none
def gCmp (p : Int → Int → Bool) (_ : Store) : D → D → Option D
  | .int i, .int j => some (.bl (p i j))
  | _, _ => none
abbrev gLt := gCmp fun i j => decide (i < j)
abbrev gLe := gCmp fun i j => decide (i ≤ j)
abbrev gGt := gCmp fun i j => decide (j < i)
abbrev gGe := gCmp fun i j => decide (j ≤ i)
def D.isNon : D → Bool
  | .non => true
  | _ => false
def gIsN (_ : Store) (a b : D) : Option D := match b with
  | .non => some (.bl a.isNon)
  | _ => none
def gIsNotN (_ : Store) (a b : D) : Option D := match b with
  | .non => some (.bl (!a.isNon))
  | _ => none
def anyEq (d : D) : List D → Bool
  | [] => false
  | x :: r => x.eqv d || anyEq d r
/-- a nested tuple of numbers that can be a member of a set -/
def keyTup : D → Bool
  | .tup xs => match D.keys xs with
    | some ks => decide ((NestedKey.tup ks).depth ≤ 8)
    | none => false
  | _ => false
theorem keyTup_key {d : D} (h : keyTup d = true) : ∃ k, d.key = some k ∧ k.depth ≤ 8 ∧ ∃ xs, d = .tup xs := by
  unfold keyTup at h
  split at h
  · rename_i xs
    split at h
    · rename_i ks e
      exact ⟨.tup ks, by simp [D.key, e], by simpa using h, xs, rfl⟩
    · cases h
  · cases h
mutual
theorem eqv_key : ∀ (d e : D) {k l : NestedKey}, d.key = some k → e.key = some l → (d.eqv e = true ↔ d = e)
  | .int i, e, k, l, h, h2 => by
    cases e with
    | int j => simp [D.eqv]
    | tup ys => simp [D.eqv]
    | _ => simp [D.key] at h2
  | .tup xs, e, k, l, h, h2 => by
    simp only [D.key, Option.map_eq_some_iff] at h
    obtain ⟨ks, h1, rfl⟩ := h
    cases e with
    | tup ys =>
      simp only [D.key, Option.map_eq_some_iff] at h2
      obtain ⟨ls, h3, rfl⟩ := h2
      simp only [D.eqv, D.tup.injEq]
      exact eqvs_key xs ys h1 h3
    | int j => simp [D.eqv]
    | _ => simp [D.key] at h2
  | .non, _, _, _, h, _ => by simp [D.key] at h
  | .bl _, _, _, _, h, _ => by simp [D.key] at h
  | .str _, _, _, _, h, _ => by simp [D.key] at h
  | .lst _, _, _, _, h, _ => by simp [D.key] at h
  | .set _, _, _, _, h, _ => by simp [D.key] at h
  | .seti _, _, _, _, h, _ => by simp [D.key] at h
  | .dct _ _, _, _, _, h, _ => by simp [D.key] at h
  | .tupw _, _, _, _, h, _ => by simp [D.key] at h
  | .scr _, _, _, _, h, _ => by simp [D.key] at h
  | .ref _, _, _, _, h, _ => by simp [D.key] at h
theorem eqvs_key : ∀ (ds es : List D) {ks ls : List NestedKey}, D.keys ds = some ks → D.keys es = some ls → (D.eqvs ds es = true ↔ ds = es)
  | [], es, _, _, _, _ => by cases es <;> simp [D.eqvs]
  | d :: ds, [], _, _, _, _ => by simp [D.eqvs]
  | d :: ds, e :: es, _, _, h, h2 => by
    obtain ⟨k, kr, rfl, h3, h4⟩ := keys_cons h
    obtain ⟨l, lr, rfl, h5, h6⟩ := keys_cons h2
    simp only [D.eqvs, Bool.and_eq_true, List.cons.injEq, eqv_key d e h3 h5, eqvs_key ds es h4 h6]
end
theorem anyEq_key {d : D} {k : NestedKey} (hd : d.key = some k) : ∀ {ds : List D}, (∀ x ∈ ds, ∃ l, x.key = some l) → (anyEq d ds = true ↔ d ∈ ds)
  | [], _ => by simp [anyEq]
  | x :: ds, h => by
    obtain ⟨l, hl⟩ := h x (List.mem_cons_self ..)
    simp only [anyEq, Bool.or_eq_true, List.mem_cons, eqv_key x d hl hd, anyEq_key hd fun y m => h y (List.mem_cons_of_mem _ m)]
    exact ⟨fun h => h.imp Eq.symm id, fun h => h.imp Eq.symm id⟩
def gInSeq (neg : Bool) (S : Store) (a b : D) : Option D :=
  match view S b with
  | .lst xs => if a.shp 60 && D.shps xs 59 then some (.bl (if neg then !anyEq a xs else anyEq a xs)) else none
  | .tup xs => if a.shp 60 && D.shps xs 59 then some (.bl (if neg then !anyEq a xs else anyEq a xs)) else none
  | .set xs => if keyTup a then some (.bl (if neg then !anyEq a xs else anyEq a xs)) else none
  | .dct xs _ => if keyTup a then some (.bl (if neg then !anyEq a xs else anyEq a xs)) else none
  | _ => none
theorem atE_mem {xs : List Ent} {k : NestedKey} : (atE xs k).isSome = decide (k ∈ xs.map (·.1)) := by
  induction xs with
  | nil => rfl
  | cons x xs ih =>
    unfold atE at ih ⊢
    rw [List.find?_cons]
    by_cases q : x.1 = k
    · rw [decide_eq_true q]
      exact (decide_eq_true (by rw [List.map_cons, q]; exact List.mem_cons_self ..)).symm
    · rw [decide_eq_false q]
      rw [show (Option.map (fun x : Ent => x.2) (match false with | true => some x | false => List.find? (fun x : Ent => decide (x.1 = k)) xs)).isSome = (Option.map (fun x : Ent => x.2) (List.find? (fun x : Ent => decide (x.1 = k)) xs)).isSome from rfl, ih]
      refine decide_eq_decide.mpr ?_
      rw [List.map_cons, List.mem_cons]
      exact ⟨.inr, fun h => h.elim (fun e => absurd e.symm q) id⟩
def rInT (K : PySem.W.Frag) : R2 := fun x y H Q => ∃ d ds, Dp K H x d ∧ Dp K H y (.tuple ds) ∧ SeqAt.shaped d = true ∧ SeqAt.shaped (.tuple ds) = true ∧ Q (.bl (ds.any fun z => PyData.eqv z d)) H
def rNotInT (K : PySem.W.Frag) : R2 := fun x y H Q => ∃ d ds, Dp K H x d ∧ Dp K H y (.tuple ds) ∧ SeqAt.shaped d = true ∧ SeqAt.shaped (.tuple ds) = true ∧ Q (.bl (!ds.any fun z => PyData.eqv z d)) H
section
variable {X : Cx}
theorem op_inT (hu : X.A.units + 65 < cLine) : OpR X (compareOp .In) (rInT X.K) := by
  intro pins s σ H x y v u Q I rx ry h
  obtain ⟨d, ds, hd, he, sd, se, q⟩ := h
  obtain ⟨as, r1⟩ := Dp.reads I d x v hd rx
  obtain ⟨bs, r2⟩ := Dp.reads I (.tuple ds) y u he ry
  exact SeqAt.in_tuple_reads r2 r1 (SeqAt.canLay_of_shaped se) (SeqAt.canLay_of_shaped sd) (room_in_shaped sd hu) ⟨.bl _, H, I, rfl, q⟩
end
section
variable {w : World} {K : PySem.W.Frag}
theorem od_eq : OpD w K (rEqD K) gEq := by
  intro L H S x y a b d Q s ra rb e q
  unfold gEq at e
  split at e
  · rename_i c
    cases e
    simp only [Bool.and_eq_true] at c
    refine ⟨_, _, view_dp ra s c.1, view_dp rb s c.2, shp_shaped c.1, shp_shaped c.2, ?_⟩
    rw [eqv_py _ _ _ _ c.1 c.2]
    exact q H Ex.refl s _ (Rp.of (.bl _))
  · cases e
theorem od_ne : OpD w K (rNeD K) gNe := by
  intro L H S x y a b d Q s ra rb e q
  unfold gNe at e
  split at e
  · rename_i c
    cases e
    simp only [Bool.and_eq_true] at c
    refine ⟨_, _, view_dp ra s c.1, view_dp rb s c.2, shp_shaped c.1, shp_shaped c.2, ?_⟩
    rw [eqv_py _ _ _ _ c.1 c.2]
    exact q H Ex.refl s _ (Rp.of (.bl _))
  · cases e
theorem od_cmp (p : Int → Int → Bool) : OpD w K (rI0 fun i j => .bl (p i j)) (gCmp p) := by
  intro L H S x y a b d Q s ra rb e q
  unfold gCmp at e
  split at e
  · rename_i i j
    cases e; cases ra; cases rb
    exact ⟨i, j, rfl, rfl, q H Ex.refl s _ (Rp.of (.bl _))⟩
  · cases e
theorem Rp.non_iff {L : Cn} {H : Hp} {v : V} {d : D} (r : Rp w K L H v d) : decide (v = .non) = d.isNon := by
  cases d with
  | ref n => obtain ⟨a, _, rfl⟩ := r; simp [D.isNon]
  | non => cases r; simp [D.isNon]
  | _ => cases r <;> simp [D.isNon]
theorem od_isN : OpD w K (fun x y H Q => y = .non ∧ Q (.bl (decide (x = .non))) H) gIsN := by
  intro L H S x y a b d Q s ra rb e q
  unfold gIsN at e
  split at e
  · cases e; cases rb
    refine ⟨rfl, ?_⟩
    rw [ra.non_iff]
    exact q H Ex.refl s _ (Rp.of (.bl _))
  · cases e
theorem any_py {d : D} (hd : d.shp 60 = true) : ∀ {xs : List D} {n : Nat}, D.shps xs n = true → ((D.toPys xs).any fun z => PyData.eqv z d.toPy) = anyEq d xs
  | [], _, _ => rfl
  | x :: xs, n, h => by
    simp only [D.shps, Bool.and_eq_true] at h
    show (PyData.eqv x.toPy d.toPy || (D.toPys xs).any fun z => PyData.eqv z d.toPy) = (x.eqv d || anyEq d xs)
    rw [eqv_py x d n 60 h.1 hd, any_py hd h.2]
theorem shp60_noref {S : Store} {d : D} (h : d.shp 60 = true) : view S d = d := by cases d <;> first | rfl | (simp [D.shp] at h)
theorem od_in (neg : Bool) : OpD w K (fun x y H Q => if neg then (rNotInD K x y H Q ∨ rNotInT K x y H Q ∨ rInN true K w x y H Q ∨ rInDc true K w x y H Q) else (rInD K x y H Q ∨ rInT K x y H Q ∨ rInN false K w x y H Q ∨ rInDc false K w x y H Q)) (gInSeq neg) := by
  intro L H S x y a b d Q s ra rb e q
  unfold gInSeq at e
  split at e
  · rename_i xs e1
    split at e
    · rename_i c
      cases e
      simp only [Bool.and_eq_true] at c
      have h1 := view_dp (n := 60) ra s (by rw [shp60_noref c.1]; exact c.1)
      rw [shp60_noref c.1] at h1
      have hl : (view S b).shp 60 = true := by rw [e1]; simpa [D.shp] using c.2
      have h2 := view_dp rb s hl
      rw [e1] at h2 hl
      have q := q H Ex.refl s _ (Rp.of (.bl _))
      cases neg with
      | true => exact .inl ⟨_, _, h1, h2, shp_shaped c.1, shp_shaped hl, by rw [any_py c.1 c.2]; exact q⟩
      | false => exact .inl ⟨_, _, h1, h2, shp_shaped c.1, shp_shaped hl, by rw [any_py c.1 c.2]; exact q⟩
    · cases e
  · rename_i xs e1
    split at e
    · rename_i c
      cases e
      simp only [Bool.and_eq_true] at c
      have h1 := view_dp (n := 60) ra s (by rw [shp60_noref c.1]; exact c.1)
      rw [shp60_noref c.1] at h1
      have hl : (view S b).shp 60 = true := by rw [e1]; simpa [D.shp] using c.2
      have h2 := view_dp rb s hl
      rw [e1] at h2 hl
      have q := q H Ex.refl s _ (Rp.of (.bl _))
      cases neg with
      | true => exact .inr (.inl ⟨_, _, h1, h2, shp_shaped c.1, shp_shaped hl, by rw [any_py c.1 c.2]; exact q⟩)
      | false => exact .inr (.inl ⟨_, _, h1, h2, shp_shaped c.1, shp_shaped hl, by rw [any_py c.1 c.2]; exact q⟩)
    · cases e
  · rename_i xs e1
    split at e
    · rename_i c
      cases e
      obtain ⟨k, hk, hdk, ys, rfl⟩ := keyTup_key c
      obtain ⟨rfl, rb'⟩ := view_self rb s e1 (fun _ z => nomatch z)
      have q := q H Ex.refl s _ (Rp.of (.bl _))
      have ra' : R0 w K L H x (.tup ys) := ra
      have rb2 : R0 w K L H y (.set xs) := rb'
      cases rb2 with
      | @set a M es _ h1 h2 h3 h4 h5 =>
        cases ra' with
        | @tup b us _ t1 t2 t3 =>
          have hm : anyEq (.tup ys) xs = decide (k ∈ M.map (·.2)) := by
            have hx : ∀ z ∈ xs, ∃ l, z.key = some l := fun z m => by
              obtain ⟨l, _, hl⟩ := keys_mem h4 (h5.1.mem_iff.mpr m); exact ⟨l, hl⟩
            refine Bool.eq_iff_iff.mpr ?_
            rw [anyEq_key hk hx, decide_eq_true_eq]
            constructor
            · intro m
              obtain ⟨l, hl, e⟩ := keys_mem h4 (h5.1.mem_iff.mpr m)
              rw [hk] at e; cases e; exact hl
            · intro m
              obtain ⟨z, hz, e⟩ := mem_keys h4 m
              rw [key_inj _ z hk e]; exact h5.1.mem_iff.mp hz
          rw [hm] at q
          cases neg with
          | true => exact .inr (.inr (.inl ⟨L, b, a, M, es, .tup ys, k, rfl, rfl, h1, h3, h4, h5.2, .tup t1 t2 t3, hk, hdk, q⟩))
          | false => exact .inr (.inr (.inl ⟨L, b, a, M, es, .tup ys, k, rfl, rfl, h1, h3, h4, h5.2, .tup t1 t2 t3, hk, hdk, q⟩))
    · cases e
  · rename_i ks vs e1
    split at e
    · rename_i c
      cases e
      obtain ⟨k, hk, hdk, ys, rfl⟩ := keyTup_key c
      obtain ⟨ad, xs, rfl, h1, dk, r2⟩ := view_dct rb s e1
      have q := q H Ex.refl s _ (Rp.of (.bl _))
      have ra' : R0 w K L H x (.tup ys) := ra
      cases ra' with
      | @tup b us _ t1 t2 t3 =>
        have hm : anyEq (.tup ys) ks = (atE xs k).isSome := by
          have hx : ∀ z ∈ ks, ∃ l, z.key = some l := fun z m => by
            obtain ⟨l, _, hl⟩ := keys_mem dk.key m; exact ⟨l, hl⟩
          rw [atE_mem]
          refine Bool.eq_iff_iff.mpr ?_
          rw [anyEq_key hk hx, decide_eq_true_eq]
          constructor
          · intro m
            obtain ⟨l, hl, e⟩ := keys_mem dk.key m
            rw [hk] at e; cases e; exact hl
          · intro m
            obtain ⟨z, hz, e⟩ := mem_keys dk.key m
            rw [key_inj _ z hk e]; exact hz
        rw [hm] at q
        cases neg with
        | true => exact .inr (.inr (.inr ⟨L, b, ad, xs, ks, .tup ys, k, rfl, rfl, h1, dk, .tup t1 t2 t3, hk, hdk, q⟩))
        | false => exact .inr (.inr (.inr ⟨L, b, ad, xs, ks, .tup ys, k, rfl, rfl, h1, dk, .tup t1 t2 t3, hk, hdk, q⟩))
    · cases e
  · cases e
def lookD (k : D) : List D → List D → Option D
  | x :: ks, v :: vs => if x.eqv k then some v else lookD k ks vs
  | _, _ => none
def setV (k v : D) : List D → List D → List D
  | x :: ks, u :: vs => (if x.eqv k then v else u) :: setV k v ks vs
  | _, _ => []
def putKs (k : D) (ks : List D) : List D := if anyEq k ks then ks else ks ++ [k]
def putVs (k v : D) (ks vs : List D) : List D := if anyEq k ks then setV k v ks vs else vs ++ [v]
theorem anyEq_atE {L : Cn} {H : Hp} {xs : List Ent} {ks : List D} {e : D} {k : NestedKey} (dk : DK w K L H xs ks) (hk : e.key = some k) : anyEq e ks = (atE xs k).isSome := by
  have hx : ∀ z ∈ ks, ∃ l, z.key = some l := fun z m => by
    obtain ⟨l, _, hl⟩ := keys_mem dk.key m; exact ⟨l, hl⟩
  rw [atE_mem]
  refine Bool.eq_iff_iff.mpr ?_
  rw [anyEq_key hk hx, decide_eq_true_eq]
  constructor
  · intro m
    obtain ⟨l, hl, e⟩ := keys_mem dk.key m
    rw [hk] at e; cases e; exact hl
  · intro m
    obtain ⟨z, hz, e⟩ := mem_keys dk.key m
    rw [key_inj _ z hk e]; exact hz
theorem eqv_iff {x e : D} {l k : NestedKey} (hx : x.key = some l) (hk : e.key = some k) : x.eqv e = decide (l = k) := by
  refine Bool.eq_iff_iff.mpr ?_
  rw [eqv_key x e hx hk, decide_eq_true_eq]
  constructor
  · intro h; subst h; rw [hx] at hk; cases hk; rfl
  · intro h; subst h; exact key_inj x e hx hk
theorem look_atE {L : Cn} {H : Hp} {e : D} {k : NestedKey} (hk : e.key = some k) : ∀ {xs : List Ent} {ks vs : List D}, D.keys ks = some (xs.map (·.1)) → RAll w K L H (xs.map fun p => p.2.2) vs → match lookD e ks vs with | some v => ∃ p, atE xs k = some p ∧ R0 w K L H p.2 v | none => atE xs k = none
  | [], ks, vs, h1, h2 => by
    cases ks with
    | nil => rfl
    | cons z ks => obtain ⟨_, _, q, _⟩ := keys_cons h1; cases q
  | x :: xs, ks, vs, h1, h2 => by
    cases ks with
    | nil => cases h1
    | cons z ks =>
      obtain ⟨l, kr, q, h3, h4⟩ := keys_cons h1
      cases q
      cases h2 with
      | @cons _ d _ ds r0 ra =>
        have ih := look_atE hk h4 ra
        unfold lookD atE
        rw [List.find?_cons, eqv_iff h3 hk]
        by_cases q : x.1 = k
        · rw [decide_eq_true q]
          exact ⟨x.2, rfl, r0⟩
        · rw [decide_eq_false q]
          exact ih
theorem setV_all {L : Cn} {H : Hp} {e d : D} {v : V} {k : NestedKey} (hk : e.key = some k) (rv : R0 w K L H v d) : ∀ {xs : List Ent} {ks vs : List D}, D.keys ks = some (xs.map (·.1)) → RAll w K L H (xs.map fun p => p.2.2) vs → RAll w K L H ((xs.map (putE k v)).map fun p => p.2.2) (setV e d ks vs)
  | [], ks, vs, h1, h2 => by
    cases ks with
    | nil => exact .nil
    | cons z ks => obtain ⟨_, _, q, _⟩ := keys_cons h1; cases q
  | x :: xs, ks, vs, h1, h2 => by
    cases ks with
    | nil => cases h1
    | cons z ks =>
      obtain ⟨l, kr, q, h3, h4⟩ := keys_cons h1
      cases q
      cases h2 with
      | @cons _ u _ ds r0 ra =>
        unfold setV
        rw [eqv_iff h3 hk]
        refine .cons ?_ (setV_all hk rv h4 ra)
        unfold putE
        by_cases q : x.1 = k
        · rw [decide_eq_true q, if_pos q, if_pos rfl]; exact rv
        · rw [decide_eq_false q, if_neg q, if_neg (by decide)]; exact r0
theorem keys_app : ∀ {ks ms : List D} {a b : List NestedKey}, D.keys ks = some a → D.keys ms = some b → D.keys (ks ++ ms) = some (a ++ b)
  | [], _, _, _, h1, h2 => by cases h1; exact h2
  | _ :: ks, ms, _, _, h1, h2 => by
    obtain ⟨l, kr, rfl, h3, h4⟩ := keys_cons h1
    exact keys_mk h3 (keys_app h4 h2)
/-- a dict with one entry written -/
theorem put_dk {L : Cn} {H : Hp} {e d : D} {b : Addr} {v : V} {k : NestedKey} {xs : List Ent} {ks vs : List D} (dk : DK w K L H xs ks) (ra : RAll w K L H (xs.map fun p => p.2.2) vs) (r0 : R0 w K L H (.ref b) e) (hk : e.key = some k) (hd : k.depth ≤ 8) (rv : R0 w K L H v d) :
    DK w K L H (storeE xs k b v) (putKs e ks) ∧ RAll w K L H ((storeE xs k b v).map fun p => p.2.2) (putVs e d ks vs) := by
  unfold putKs putVs storeE
  rw [anyEq_atE dk hk]
  cases q : (atE xs k).isSome with
  | true =>
    simp only [if_true]
    refine ⟨⟨?_, ?_, fun p m => ?_⟩, setV_all hk rv dk.key ra⟩
    · have : (xs.map (putE k v)).map (fun p => V.ref p.2.1) = xs.map fun p => V.ref p.2.1 := by
        rw [List.map_map]
        refine List.map_congr_left fun p _ => ?_
        show V.ref (putE k v p).2.1 = _
        unfold putE; split <;> rfl
      rw [this]; exact dk.ra
    · have : (xs.map (putE k v)).map (·.1) = xs.map (·.1) := by
        rw [List.map_map]
        refine List.map_congr_left fun p _ => ?_
        show (putE k v p).1 = _
        unfold putE; split <;> rfl
      rw [this]; exact dk.key
    · obtain ⟨p', m', rfl⟩ := List.mem_map.mp m
      have : (putE k v p').1 = p'.1 := by unfold putE; split <;> rfl
      rw [this]; exact dk.dep p' m'
  | false =>
    simp only [Bool.false_eq_true, if_false]
    refine ⟨⟨?_, ?_, fun p m => ?_⟩, ?_⟩
    · rw [List.map_append]; exact dk.ra.append (.cons r0 .nil)
    · rw [List.map_append]; exact keys_app dk.key (keys_mk hk rfl)
    · rcases List.mem_append.mp m with m | m
      · exact dk.dep p m
      · rw [List.mem_singleton.mp m]; exact hd
    · rw [List.map_append]; exact ra.append (.cons rv .nil)
end
def dedupD : List D → List D
  | [] => []
  | x :: r => if anyEq x r then dedupD r else x :: dedupD r
def setOk (xs : List D) : Bool := decide (xs.length ≤ 1000) && xs.all keyTup
/-- whole numbers, at most 1000 -/
def intsA : List D → Option (List Int)
  | [] => some []
  | .int i :: r => (intsA r).map (i :: ·)
  | _ => none
def intsK (xs : List D) : Option (List Int) := if decide (xs.length ≤ 1000) then intsA xs else none
def dedI : List Int → List Int
  | [] => []
  | x :: r => if r.contains x then dedI r else x :: dedI r
def gSet (S : Store) : List D → Option D
  | [d] => match view S d with
    | .lst xs => if setOk xs then some (.set (dedupD xs)) else (intsK xs).map fun ns => .seti (dedI ns)
    | .tup xs => if setOk xs then some (.set (dedupD xs)) else (intsK xs).map fun ns => .seti (dedI ns)
    | _ => none
  | _ => none
theorem mem_dedupD {x : D} : ∀ {ds : List D}, (∀ y ∈ ds, ∃ l, D.key y = some l) → (x ∈ dedupD ds ↔ x ∈ ds)
  | [], _ => Iff.rfl
  | y :: ds, h => by
    obtain ⟨l, hl⟩ := h y (List.mem_cons_self ..)
    have ht : ∀ z ∈ ds, ∃ l, D.key z = some l := fun z m => h z (List.mem_cons_of_mem _ m)
    unfold dedupD
    split
    · rename_i c
      rw [mem_dedupD ht, List.mem_cons]
      exact ⟨.inr, fun z => z.elim (fun e => by rw [e]; exact (anyEq_key hl ht).mp c) id⟩
    · rw [List.mem_cons, List.mem_cons, mem_dedupD ht]
theorem nodup_dedupD : ∀ {ds : List D}, (∀ y ∈ ds, ∃ l, D.key y = some l) → (dedupD ds).Nodup
  | [], _ => List.nodup_nil
  | y :: ds, h => by
    obtain ⟨l, hl⟩ := h y (List.mem_cons_self ..)
    have ht : ∀ z ∈ ds, ∃ l, D.key z = some l := fun z m => h z (List.mem_cons_of_mem _ m)
    unfold dedupD
    split
    · exact nodup_dedupD ht
    · rename_i c
      exact List.nodup_cons.mpr ⟨fun m => c ((anyEq_key hl ht).mpr ((mem_dedupD ht).mp m)), nodup_dedupD ht⟩
section
variable {w : World} {K : PySem.W.Frag} {L : Cn} {H : Hp}
theorem key_rows : ∀ {vs : List V} {xs : List D}, RAll w K L H vs xs → xs.all keyTup = true → ∃ ks : List (Addr × NestedKey), vs = ks.map (fun p => V.ref p.1) ∧ D.keys xs = some (ks.map (·.2)) ∧ (∀ p ∈ ks, p.2.depth ≤ 8) ∧ ∀ p ∈ ks, ∃ x ∈ xs, R0 w K L H (.ref p.1) x ∧ x.key = some p.2
  | _, _, .nil, _ => ⟨[], rfl, rfl, fun _ m => (nomatch m), fun _ m => (nomatch m)⟩
  | _, _, .cons (v := v) (d := x) r0 ra, h => by
    simp only [List.all_cons, Bool.and_eq_true] at h
    obtain ⟨ks, e1, e2, e3, e4⟩ := key_rows ra h.2
    obtain ⟨k, hk, hd, ys, rfl⟩ := keyTup_key h.1
    have r0' := r0
    cases r0 with
    | @tup a us _ t1 t2 t3 =>
      refine ⟨(a, k) :: ks, by rw [e1]; rfl, keys_mk hk e2, fun p m => ?_, fun p m => ?_⟩
      · rcases List.mem_cons.mp m with rfl | m
        · exact hd
        · exact e3 p m
      · rcases List.mem_cons.mp m with rfl | m
        · exact ⟨_, List.mem_cons_self .., r0', hk⟩
        · obtain ⟨x, hx, h5⟩ := e4 p m; exact ⟨x, List.mem_cons_of_mem _ hx, h5⟩
theorem rows_pick {xs : List D} : ∀ {M : List (Addr × NestedKey)}, (∀ p ∈ M, ∃ x ∈ xs, R0 w K L H (.ref p.1) x ∧ x.key = some p.2) → ∃ es, RAll w K L H (M.map fun p => V.ref p.1) es ∧ D.keys es = some (M.map (·.2)) ∧ ∀ e ∈ es, e ∈ xs
  | [], _ => ⟨[], .nil, rfl, fun _ m => (nomatch m)⟩
  | p :: M, h => by
    obtain ⟨es, h1, h2, h3⟩ := rows_pick fun q m => h q (List.mem_cons_of_mem _ m)
    obtain ⟨x, hx, h4, h5⟩ := h p (List.mem_cons_self ..)
    exact ⟨x :: es, .cons h4 h1, keys_mk h5 h2, fun e m => (List.mem_cons.mp m).elim (fun z => z ▸ hx) (h3 e)⟩
theorem keys_nodup : ∀ {es : List D} {ks : List NestedKey}, D.keys es = some ks → ks.Nodup → es.Nodup
  | [], _, _, _ => List.nodup_nil
  | e :: es, _, h, hn => by
    obtain ⟨k, kr, rfl, h1, h2⟩ := keys_cons h
    have hn' := List.nodup_cons.mp hn
    refine List.nodup_cons.mpr ⟨fun m => ?_, keys_nodup h2 hn'.2⟩
    obtain ⟨l, hl, e2⟩ := keys_mem h2 m
    rw [h1] at e2; cases e2; exact hn'.1 hl
end
end Ws
namespace Ws
open PySem PySem.Spec PyProof.Rows L2
section
variable {X : Cx} {Wi : Wish} {a b : Expr} {f1 f2 : De} {pos : Pos} {k : Nat}
theorem u64 (hr : Room k X.A) : X.A.units + 64 < cLine := hr.units
theorem u65 (hr : Room k X.A) : X.A.units + 65 < cLine := by have := hr.un; omega
theorem se_eq (hr : Room k X.A) (ha : SE X Wi a f1) (hb : SE X Wi b f2) : SE X Wi (.Compare a [.Eq] [b] pos) (dOp gEq f1 f2) := se_cmp (op_eqD (u64 hr)) od_eq ha hb (nomark _)
theorem se_gt (ha : SE X Wi a f1) (hb : SE X Wi b f2) : SE X Wi (.Compare a [.Gt] [b] pos) (dOp gGt f1 f2) := se_cmp op_gt (od_cmp _) ha hb (nomark _)
theorem se_ge (ha : SE X Wi a f1) (hb : SE X Wi b f2) : SE X Wi (.Compare a [.GtE] [b] pos) (dOp gGe f1 f2) := se_cmp op_ge (od_cmp _) ha hb (nomark _)
theorem se_is (ha : SE X Wi a f1) (hb : SE X Wi b f2) : SE X Wi (.Compare a [.Is] [b] pos) (dOp gIsN f1 f2) := se_cmp op_isN od_isN ha hb (nomark _)
theorem st_eq (hr : Room k X.A) (ha : SE X Wi a f1) (hb : SE X Wi b f2) : ST X Wi (.Compare a [.Eq] [b] pos) (dTest (dOp gEq f1 f2)) := st_cmp (op_eqD (u64 hr)) od_eq ha hb (nomark _)
theorem st_ne (hr : Room k X.A) (ha : SE X Wi a f1) (hb : SE X Wi b f2) : ST X Wi (.Compare a [.NotEq] [b] pos) (dTest (dOp gNe f1 f2)) := st_cmp (op_neD (u64 hr)) od_ne ha hb (nomark _)
theorem st_gt (ha : SE X Wi a f1) (hb : SE X Wi b f2) : ST X Wi (.Compare a [.Gt] [b] pos) (dTest (dOp gGt f1 f2)) := st_cmp op_gt (od_cmp _) ha hb (nomark _)
theorem st_is (ha : SE X Wi a f1) (hb : SE X Wi b f2) : ST X Wi (.Compare a [.Is] [b] pos) (dTest (dOp gIsN f1 f2)) := st_cmp op_isN od_isN ha hb (nomark _)
theorem st_in (hr : Room k X.A) (ha : SE X Wi a f1) (hb : SE X Wi b f2) (hm : behindInMarks .In b = false := by rfl) : ST X Wi (.Compare a [.In] [b] pos) (dTest (dOp (gInSeq false) f1 f2)) :=
  st_cmp ((op_inD (u65 hr)).or ((op_inT (u65 hr)).or ((op_inN (u64 hr)).or (op_inDc (u64 hr))))) (od_in false) ha hb hm
end
def truD (S : Store) (d : D) : Option Bool :=
  match view S d with
  | .bl b => some b
  | .int i => some (i != 0)
  | .non => some false
  | .str x => if lineOk x.length then some ((x.length : Int) != 0) else none
  | .lst xs => some (!xs.isEmpty)
  | .tup xs => some (!xs.isEmpty)
  | _ => none
def dTruth (f : De) : Dt := fun r S => (f r S).bind fun d S1 => match truD S1 d with
  | some b => .ok b S1
  | none => .no
theorem RAll.isEmpty {w : World} {K : PySem.W.Frag} {L : Cn} {H : Hp} {vs : List V} {ds : List D} (h : RAll w K L H vs ds) : vs.isEmpty = ds.isEmpty := by cases h <;> rfl
theorem tru_v {w : World} {K : PySem.W.Frag} {L : Cn} {H : Hp} {S : Store} {v : V} {d : D} {b : Bool} (r : Rp w K L H v d) (s : SRep w K L H S) (e : truD S d = some b) : TruV K v H b := by
  unfold truD at e
  split at e
  · rename_i c h; cases e; have := view_bl r s h; subst this; exact rfl
  · rename_i c h; cases e; have := view_int r s h; subst this; exact rfl
  · rename_i h; cases e
    obtain ⟨_, q⟩ := view_self r s h (fun _ z => nomatch z)
    cases q; exact rfl
  · rename_i x h
    split at e
    · rename_i c; cases e; have := view_str r s h; subst this; exact ⟨line_of c, rfl⟩
    · cases e
  · rename_i xs h; cases e
    obtain ⟨a, vs, rfl, h1, _, q⟩ := view_lst r s h
    exact .inl ⟨vs, SqL.of h1, by rw [q.isEmpty]⟩
  · rename_i xs h; cases e
    obtain ⟨a, vs, rfl, h1, _, q⟩ := view_tup r s h
    exact .inr (.inl ⟨vs, h1, by rw [q.isEmpty]⟩)
  · cases e
section
variable {X : Cx} {Wi : Wish} {a : Expr} {f1 : De}
theorem st_truth (h : SE X Wi a f1) (he : ∀ whole, isTrue a X.env whole = (do let v ← whole; standAt a.pos; holding [v] (truthy v)) := by intro _; rfl) : ST X Wi a (dTruth f1) :=
  pt_imp (pt_truth h he) fun s H Q h => by
    obtain ⟨L, S, rr, er, sr, h⟩ := h
    refine ⟨L, S, rr, er, sr, (After.bnd h).mono fun d S1 L1 H1 e1 s1 h1 x rx => ?_⟩
    cases e : truD S1 d with
    | none => rw [e] at h1; exact False.elim h1
    | some b => rw [e] at h1; exact ⟨b, tru_v rx s1 e, h1 L1 H1 Ex.refl s1⟩
end
def CallD (w : World) (K : PySem.W.Frag) (r : List V → Hp → VK → Prop) (g : Store → List D → Option D) : Prop :=
  ∀ (L : Cn) (H : Hp) (S : Store) (xs : List V) (ds : List D) (d : D) (Q : VK), SRep w K L H S → Rps w K L H xs ds → g S ds = some d →
    (∀ H', Ex L H L H' → SRep w K L H' S → ∀ v, Rp w K L H' v d → Q v H') → r xs H Q
/-- one that makes a new list of items -/
def CallN (w : World) (K : PySem.W.Frag) (r : List V → Hp → VK → Prop) (g : Store → List D → Option (List D)) : Prop :=
  ∀ (L : Cn) (H : Hp) (S : Store) (xs : List V) (ds : List D) (es : List D) (Q : VK), SRep w K L H S → Rps w K L H xs ds → g S ds = some es →
    (∀ vs H', Ex L H L H' → SRep w K L H' S → RAll w K L H' vs es → vs.length ≤ sizeLine → ∀ p, H' p = none → Q (.ref p) (upd H' p (.lst vs))) → r xs H Q
def dCall (g : Store → List D → Option D) (f : Da) : De := fun r S => (f r S).bind fun ds S1 => opt (g S1 ds) S1
def dCallN (g : Store → List D → Option (List D)) (f : Da) : Da := fun r S => (f r S).bind fun ds S1 => match g S1 ds with
  | some es => .ok es S1
  | none => .no
section
variable {w : World} {K : PySem.W.Frag} {Wi : Wish} {H : Hp}
theorem tE_call {g : Store → List D → Option D} {r : List V → Hp → VK → Prop} {f : Da} (o : CallD w K r g) {s : L2.St} {Q : VK} (h : tE w K Wi (dCall g f) s H Q) : tCB r (tAs w K Wi f) s H Q := by
  obtain ⟨L, S, rr, er, sr, h⟩ := h
  refine ⟨L, S, rr, er, sr, (After.bnd h).mono fun ds S1 L1 H1 e1 s1 h1 xs rx => ?_⟩
  obtain ⟨d, hd, h1⟩ := h1.opt
  exact o L1 H1 S1 xs ds d Q s1 rx hd fun H' e' s' v rv => h1 L1 H' e' s' v rv
theorem tN_call {g : Store → List D → Option (List D)} {r : List V → Hp → VK → Prop} {f : Da} (o : CallN w K r g) {s : L2.St} {Q : VK} (h : tNew w K Wi (dCallN g f) s H Q) : tCB r (tAs w K Wi f) s H Q := by
  obtain ⟨L, S, rr, er, sr, h⟩ := h
  refine ⟨L, S, rr, er, sr, (After.bnd h).mono fun ds S1 L1 H1 e1 s1 h1 xs rx => ?_⟩
  cases e : g S1 ds with
  | none => rw [e] at h1; exact False.elim h1
  | some es => rw [e] at h1; exact o L1 H1 S1 xs ds es Q s1 rx e fun vs H' e' s' rv z p np => h1 L1 H' e' s' vs rv z p np
end
section
variable {X : Cx} {Wi : Wish} {x : Str} {p pos : Pos} {e : Expr} {es : List Expr} {f : Da} {id T : String} {r : List V → Hp → VK → Prop} {g : Store → List D → Option D} {gn : Store → List D → Option (List D)}
theorem se_callB (hc : CallR X (.builtin id) r) (o : CallD X.w X.K r g) (hg : Gl X x) (hm : X.mg x = none) (hv : bootBuiltins x = some (.builtin id)) (ha : SA X Wi (e :: es) f) (hn : x ≠ "__name__") (hdb : (x == ("__debug__" : Str)) = false)
    (he : starEach (e :: es) X.env = (false, eval e X.env) :: starEach es X.env := by rfl) (hpl : (backTo pos (starEach es X.env)).any (·.1) = false := by rfl) : SE X Wi (.Call (.Name x p) (e :: es) [] pos) (dCall g f) :=
  pe_imp (pe_callB hc hg hm hv ha hn hdb he hpl) fun _ _ _ h => tE_call o h
theorem se_callTy (hc : CallR X (.type T) r) (o : CallD X.w X.K r g) (hg : Gl X x) (hm : X.mg x = none) (hv : bootBuiltins x = some (.type T)) (ha : SA X Wi (e :: es) f) (hn : x ≠ "__name__") (hdb : (x == ("__debug__" : Str)) = false)
    (he : starEach (e :: es) X.env = (false, eval e X.env) :: starEach es X.env := by rfl) (hpl : (backTo pos (starEach es X.env)).any (·.1) = false := by rfl) : SE X Wi (.Call (.Name x p) (e :: es) [] pos) (dCall g f) :=
  pe_imp (pe_callTy hc hg hm hv ha hn hdb he hpl) fun _ _ _ h => tE_call o h
theorem sn_callB (hc : CallR X (.builtin id) r) (o : CallN X.w X.K r gn) (hg : Gl X x) (hm : X.mg x = none) (hv : bootBuiltins x = some (.builtin id)) (ha : SA X Wi (e :: es) f) (hn : x ≠ "__name__") (hdb : (x == ("__debug__" : Str)) = false)
    (he : starEach (e :: es) X.env = (false, eval e X.env) :: starEach es X.env := by rfl) (hpl : (backTo pos (starEach es X.env)).any (·.1) = false := by rfl) : SN X Wi (.Call (.Name x p) (e :: es) [] pos) (dCallN gn f) :=
  pe_imp (pe_callB hc hg hm hv ha hn hdb he hpl) fun _ _ _ h => tN_call o h
theorem sn_callTy (hc : CallR X (.type T) r) (o : CallN X.w X.K r gn) (hg : Gl X x) (hm : X.mg x = none) (hv : bootBuiltins x = some (.type T)) (ha : SA X Wi (e :: es) f) (hn : x ≠ "__name__") (hdb : (x == ("__debug__" : Str)) = false)
    (he : starEach (e :: es) X.env = (false, eval e X.env) :: starEach es X.env := by rfl) (hpl : (backTo pos (starEach es X.env)).any (·.1) = false := by rfl) : SN X Wi (.Call (.Name x p) (e :: es) [] pos) (dCallN gn f) :=
  pe_imp (pe_callTy hc hg hm hv ha hn hdb he hpl) fun _ _ _ h => tN_call o h
end
def gLen (S : Store) : List D → Option D
  | [d] => match view S d with
    | .lst xs => some (.int xs.length)
    | .tup xs => some (.int xs.length)
    | .str x => if lineOk x.length then some (.int x.length) else none
    | .scr ns => some (.int ns.length)
    | _ => none
  | _ => none
def gAbs (_ : Store) : List D → Option D
  | [.int i] => some (.int (if i < 0 then -i else i))
  | _ => none
def gInt (_ : Store) : List D → Option D
  | [.int i] => some (.int i)
  | [.bl b] => some (.int (if b then 1 else 0))
  | _ => none
def gTuple (S : Store) : List D → Option D
  | [d] => match view S d with
    | .lst xs => some (.tup xs)
    | .tup xs => some (.tup xs)
    | _ => none
  | _ => none
def gList (S : Store) : List D → Option (List D)
  | [d] => match view S d with
    | .lst xs => some xs
    | .tup xs => some xs
    | _ => none
  | _ => none
def intsOf : List D → Option (List Int)
  | [] => some []
  | .int i :: r => (intsOf r).map (i :: ·)
  | _ :: _ => none
def blsOf : List D → Option (List Bool)
  | [] => some []
  | .bl b :: r => (blsOf r).map (b :: ·)
  | _ :: _ => none
def seqOf (S : Store) (d : D) : Option (List D) := match view S d with
  | .lst xs => some xs
  | _ => none
def gAll (S : Store) : List D → Option D
  | [d] => ((seqOf S d).bind blsOf).map fun bs => .bl (bs.all id)
  | _ => none
def minL : Int → List Int → Int
  | m, [] => m
  | m, x :: r => minL (if x < m then x else m) r
def maxL : Int → List Int → Int
  | m, [] => m
  | m, x :: r => maxL (if x > m then x else m) r
def gMin (S : Store) : List D → Option D
  | [d] => match (seqOf S d).bind intsOf with
    | some (n :: ns) => some (.int (minL n ns))
    | _ => none
  | [.int i, .int j] => some (.int (if j < i then j else i))
  | _ => none
def gMax (S : Store) : List D → Option D
  | [d] => match (seqOf S d).bind intsOf with
    | some (n :: ns) => some (.int (maxL n ns))
    | _ => none
  | [.int i, .int j] => some (.int (if j > i then j else i))
  | _ => none
theorem minL_spec : ∀ (ns : List Int) (m : Int), (minL m ns = m ∨ minL m ns ∈ ns) ∧ minL m ns ≤ m ∧ ∀ y ∈ ns, minL m ns ≤ y
  | [], m => ⟨.inl rfl, Int.le_refl _, fun _ h => nomatch h⟩
  | x :: r, m => by
    have ih := minL_spec r (if x < m then x else m)
    show (minL (if x < m then x else m) r = m ∨ minL (if x < m then x else m) r ∈ x :: r) ∧ minL (if x < m then x else m) r ≤ m ∧ ∀ y ∈ x :: r, minL (if x < m then x else m) r ≤ y
    obtain ⟨h1, h2, h3⟩ := ih
    by_cases c : x < m
    · rw [if_pos c] at h1 h2 h3 ⊢
      refine ⟨.inr ?_, by omega, fun y hy => ?_⟩
      · rcases h1 with h1 | h1
        · rw [h1]; exact List.mem_cons_self
        · exact List.mem_cons_of_mem _ h1
      · rcases List.mem_cons.mp hy with rfl | hy
        · exact h2
        · exact h3 y hy
    · rw [if_neg c] at h1 h2 h3 ⊢
      refine ⟨?_, h2, fun y hy => ?_⟩
      · rcases h1 with h1 | h1
        · exact .inl h1
        · exact .inr (List.mem_cons_of_mem _ h1)
      · rcases List.mem_cons.mp hy with rfl | hy
        · omega
        · exact h3 y hy
section
variable {w : World} {K : PySem.W.Frag} {L : Cn} {H : Hp} {S : Store}
theorem Rps.one {xs : List V} {d : D} (h : Rps w K L H xs [d]) : ∃ x, xs = [x] ∧ Rp w K L H x d := by
  cases h with
  | cons h t => cases t; exact ⟨_, rfl, h⟩
theorem Rps.two {xs : List V} {d e : D} (h : Rps w K L H xs [d, e]) : ∃ x y, xs = [x, y] ∧ Rp w K L H x d ∧ Rp w K L H y e := by
  cases h with
  | cons h t =>
    cases t with
    | cons h2 t => cases t; exact ⟨_, _, rfl, h, h2⟩
theorem RAll.ints : ∀ {vs : List V} {ds : List D} {ns : List Int}, RAll w K L H vs ds → intsOf ds = some ns → vs = ns.map V.int
  | _, _, _, .nil, e => by cases e; rfl
  | _, _, ns, .cons (d := d) h t, e => by
    cases d with
    | int i =>
      cases h
      simp only [intsOf, Option.map_eq_some_iff] at e
      obtain ⟨ms, e1, rfl⟩ := e
      rw [RAll.ints t e1]; rfl
    | _ => simp [intsOf] at e
theorem RAll.bls : ∀ {vs : List V} {ds : List D} {ns : List Bool}, RAll w K L H vs ds → blsOf ds = some ns → vs = ns.map V.bl
  | _, _, _, .nil, e => by cases e; rfl
  | _, _, ns, .cons (d := d) h t, e => by
    cases d with
    | bl i =>
      cases h
      simp only [blsOf, Option.map_eq_some_iff] at e
      obtain ⟨ms, e1, rfl⟩ := e
      rw [RAll.bls t e1]; rfl
    | _ => simp [blsOf] at e
theorem seq_of {v : V} {d : D} {xs : List D} (r : Rp w K L H v d) (s : SRep w K L H S) (e : seqOf S d = some xs) : ∃ a vs, v = .ref a ∧ H a = some (.lst vs) ∧ vs.length ≤ sizeLine ∧ RAll w K L H vs xs := by
  unfold seqOf at e
  split at e
  · rename_i ys h; cases e; exact view_lst r s h
  · cases e
theorem cd_len : CallD w K (fun xs H Q => ∃ x n, xs = [x] ∧ LenV K x H n ∧ Q (.int n) H) gLen := by
  intro L H S xs ds d Q s r e q
  unfold gLen at e
  split at e
  · rename_i d0
    obtain ⟨x, rfl, rx⟩ := r.one
    split at e
    · rename_i ys h; cases e
      obtain ⟨a, vs, rfl, h1, z, p⟩ := view_lst rx s h
      refine ⟨_, ys.length, rfl, .inl ⟨vs, SqL.of h1, p.length.symm⟩, q H Ex.refl s _ (Rp.of (.int _))⟩
    · rename_i ys h; cases e
      obtain ⟨a, vs, rfl, h1, z, p⟩ := view_tup rx s h
      refine ⟨_, ys.length, rfl, .inr ⟨vs, h1, p.length.symm⟩, q H Ex.refl s _ (Rp.of (.int _))⟩
    · rename_i y h
      split at e
      · rename_i c; cases e
        have := view_str rx s h; subst this
        exact ⟨_, y.length, rfl, ⟨line_of c, rfl⟩, q H Ex.refl s _ (Rp.of (.int _))⟩
      · cases e
    · rename_i ns h; cases e
      obtain ⟨_, p⟩ := view_self rx s h (fun _ z => nomatch z)
      cases p with
      | scr h1 z =>
        refine ⟨_, ns.length, rfl, .inl ⟨ns.map V.int, ?_, by simp⟩, q H Ex.refl s _ (Rp.of (.int _))⟩
        rcases h1 with h1 | ⟨o, h1, _⟩
        · rcases h1 with h1 | h1
          · rcases h1 with h1 | ⟨_, h1⟩ <;> cases h1
          · exact .inr h1
        · exact .inl (.inr ⟨o, h1⟩)
    · cases e
  · cases e
theorem cd_abs : CallD w K (fun xs H Q => ∃ i, xs = [.int i] ∧ Q (.int (if i < 0 then -i else i)) H) gAbs := by
  intro L H S xs ds d Q s r e q
  unfold gAbs at e
  split at e
  · obtain ⟨x, rfl, rx⟩ := r.one
    cases e; cases rx
    exact ⟨_, rfl, q H Ex.refl s _ (Rp.of (.int _))⟩
  · cases e
theorem cd_int : CallD w K (fun xs H Q => (∃ i, xs = [.int i] ∧ Q (.int i) H) ∨ ∃ k, xs = [.bl k] ∧ Q (.int (if k then 1 else 0)) H) gInt := by
  intro L H S xs ds d Q s r e q
  unfold gInt at e
  split at e
  · obtain ⟨x, rfl, rx⟩ := r.one
    cases e; cases rx
    exact .inl ⟨_, rfl, q H Ex.refl s _ (Rp.of (.int _))⟩
  · obtain ⟨x, rfl, rx⟩ := r.one
    cases e; cases rx
    exact .inr ⟨_, rfl, q H Ex.refl s _ (Rp.of (.int _))⟩
  · cases e
def rTupX (K : PySem.W.Frag) : List V → Hp → VK → Prop := fun xs H Q => ∃ p ys, xs = [.ref p] ∧ ((SqL K H p ys ∧ ∀ l o, H l = none → o.dict = none → Q (.ref l) (upd H l (.frz o (.tup ys)))) ∨ (SqT K H p ys ∧ Q (.ref p) H))
theorem call_tupX {X : Cx} : CallR X (.type "tuple") (rTupX X.K) := by
  intro pins s σ H xs us Q I r h
  obtain ⟨p, ys, rfl, h⟩ := h
  rw [Vals.ref1 r]
  rcases h with ⟨hq, q⟩ | ⟨hq, q⟩
  · obtain ⟨its, r', pl, hz⟩ := I.list hq
    have hlen := r'.length
    refine call_tuple_list pl.isList (fun h' kp => ?_) (by simp only [List.size_toArray]; omega)
    have I1 : L2.Inv X pins σ H { s with heap := h' } := I.kept (t' := s.toks) kp
    exact tup_laid I1 r' hz q
  · obtain ⟨its, r', pl, _⟩ := I.tuple hq
    exact call_tuple_same pl ⟨.ref p, H, I, rfl, q⟩
theorem cd_tuple : CallD w K (rTupX K) gTuple := by
  intro L H S xs ds d Q s r e q
  unfold gTuple at e
  split at e
  · rename_i d0
    obtain ⟨x, rfl, rx⟩ := r.one
    split at e
    · rename_i ys h; cases e
      obtain ⟨a, vs, rfl, h1, z, p⟩ := view_lst rx s h
      exact ⟨a, vs, rfl, .inl ⟨SqL.of h1, fun l o nl hd => q _ (Ex.new nl) (s.new nl) _ (new_tup s nl hd z p)⟩⟩
    · rename_i ys h; cases e
      have ea := view_tupAt rx s h
      subst ea
      obtain ⟨a, vs, rfl, h1, z, p⟩ := view_tup rx s h
      exact ⟨a, vs, rfl, .inr ⟨h1, q H Ex.refl s _ rx⟩⟩
    · cases e
  · cases e
theorem cn_list : CallN w K (fun xs H Q => ∃ p ys, xs = [.ref p] ∧ (SqL K H p ys ∨ SqT K H p ys) ∧ ∀ l, H l = none → Q (.ref l) (upd H l (.lst ys))) gList := by
  intro L H S xs ds d Q s r e q
  unfold gList at e
  split at e
  · rename_i d0
    obtain ⟨x, rfl, rx⟩ := r.one
    split at e
    · rename_i ys h; cases e
      obtain ⟨a, vs, rfl, h1, z, p⟩ := view_lst rx s h
      exact ⟨a, vs, rfl, .inl (SqL.of h1), fun l nl => q vs H Ex.refl s p z l nl⟩
    · rename_i ys h; cases e
      obtain ⟨a, vs, rfl, h1, z, p⟩ := view_tup rx s h
      exact ⟨a, vs, rfl, .inr h1, fun l nl => q vs H Ex.refl s p z l nl⟩
    · cases e
  · cases e
theorem cd_all : CallD w K (L2.rAll K) gAll := by
  intro L H S xs ds d Q s r e q
  unfold gAll at e
  split at e
  · rename_i d0
    obtain ⟨x, rfl, rx⟩ := r.one
    simp only [Option.map_eq_some_iff, Option.bind_eq_some_iff] at e
    obtain ⟨ns, ⟨ys, e1, e2⟩, rfl⟩ := e
    obtain ⟨a, vs, rfl, h1, z, p⟩ := seq_of rx s e1
    have ev := p.bls e2; subst ev
    exact ⟨a, ns, rfl, SqL.of h1, q H Ex.refl s _ (Rp.of (.bl _))⟩
  · cases e
theorem cd_min : CallD w K (fun xs H Q => rMin K xs H Q ∨ ∃ i j, xs = [.int i, .int j] ∧ Q (.int (if j < i then j else i)) H) gMin := by
  intro L H S xs ds d Q s r e q
  unfold gMin at e
  split at e
  · rename_i d0
    obtain ⟨x, rfl, rx⟩ := r.one
    split at e
    · rename_i n ns h
      cases e
      simp only [Option.bind_eq_some_iff] at h
      obtain ⟨ys, e1, e2⟩ := h
      obtain ⟨a, vs, rfl, h1, z, p⟩ := seq_of rx s e1
      have ev := p.ints e2; subst ev
      refine .inl ⟨a, n :: ns, rfl, SqL.of h1, by simp, fun m hm hle => ?_⟩
      obtain ⟨g1, g2, g3⟩ := minL_spec ns n
      have em : minL n ns = m := by
        have a1 : m ≤ minL n ns := hle _ (by rcases g1 with g1 | g1; rw [g1]; exact List.mem_cons_self; exact List.mem_cons_of_mem _ g1)
        have a2 : minL n ns ≤ m := by
          rcases List.mem_cons.mp hm with rfl | hm
          · exact g2
          · exact g3 m hm
        omega
      rw [← em]
      exact q H Ex.refl s _ (Rp.of (.int _))
    · cases e
  · obtain ⟨x, y, rfl, rx, ry⟩ := r.two
    cases e; cases rx; cases ry
    exact .inr ⟨_, _, rfl, q H Ex.refl s _ (Rp.of (.int _))⟩
  · cases e
end
end Ws
namespace Ws
open PySem PySem.Spec PyProof.Rows L2
section
variable {X : Cx} {Wi : Wish} {p pos : Pos} {e e2 : Expr} {es : List Expr} {f : Da}
theorem se_len (hg : Gl X "len") (hm : X.mg "len" = none) (ha : SA X Wi [e] f) (he : starEach [e] X.env = (false, eval e X.env) :: starEach [] X.env := by rfl) : SE X Wi (.Call (.Name "len" p) [e] [] pos) (dCall gLen f) :=
  se_callB call_len cd_len hg hm PySem.boot_len ha (by decide) (by decide) he rfl
theorem se_abs (hg : Gl X "abs") (hm : X.mg "abs" = none) (ha : SA X Wi [e] f) (he : starEach [e] X.env = (false, eval e X.env) :: starEach [] X.env := by rfl) : SE X Wi (.Call (.Name "abs" p) [e] [] pos) (dCall gAbs f) :=
  se_callB call_abs cd_abs hg hm (by decide +kernel) ha (by decide) (by decide) he rfl
theorem se_intc (hg : Gl X "int") (hm : X.mg "int" = none) (ha : SA X Wi [e] f) (he : starEach [e] X.env = (false, eval e X.env) :: starEach [] X.env := by rfl) : SE X Wi (.Call (.Name "int" p) [e] [] pos) (dCall gInt f) :=
  se_callTy call_int1 cd_int hg hm (by decide +kernel) ha (by decide) (by decide) he rfl
theorem se_tuplec (hg : Gl X "tuple") (hm : X.mg "tuple" = none) (ha : SA X Wi [e] f) (he : starEach [e] X.env = (false, eval e X.env) :: starEach [] X.env := by rfl) : SE X Wi (.Call (.Name "tuple" p) [e] [] pos) (dCall gTuple f) :=
  se_callTy call_tupX cd_tuple hg hm (by decide +kernel) ha (by decide) (by decide) he rfl
theorem sn_list (hg : Gl X "list") (hm : X.mg "list" = none) (ha : SA X Wi [e] f) (he : starEach [e] X.env = (false, eval e X.env) :: starEach [] X.env := by rfl) : SN X Wi (.Call (.Name "list" p) [e] [] pos) (dCallN gList f) :=
  sn_callTy call_list_of cn_list hg hm (by decide +kernel) ha (by decide) (by decide) he rfl
theorem se_all (hc : X.calm = true) (hg : Gl X "all") (hm : X.mg "all" = none) (ha : SA X Wi [e] f) (he : starEach [e] X.env = (false, eval e X.env) :: starEach [] X.env := by rfl) : SE X Wi (.Call (.Name "all" p) [e] [] pos) (dCall gAll f) :=
  se_callB (cr_all hc) cd_all hg hm (by decide +kernel) ha (by decide) (by decide) he rfl
theorem se_min (hc : X.calm = true) (hg : Gl X "min") (hm : X.mg "min" = none) (ha : SA X Wi (e :: es) f) (he : starEach (e :: es) X.env = (false, eval e X.env) :: starEach es X.env := by rfl) (hpl : (backTo pos (starEach es X.env)).any (·.1) = false := by rfl) : SE X Wi (.Call (.Name "min" p) (e :: es) [] pos) (dCall gMin f) :=
  se_callB ((cr_min hc).or (call_min2 hc)) cd_min hg hm (by decide +kernel) ha (by decide) (by decide) he hpl
end
inductive Ty where
  | list | tuple | dict | bool | str | int | set
def Ty.nm : Ty → String
  | .list => "list"
  | .tuple => "tuple"
  | .dict => "dict"
  | .bool => "bool"
  | .str => "str"
  | .int => "int"
  | .set => "set"
/-- what isinstance(d, T) tells of a viewed datum -/
def isTy : D → Ty → Option Bool
  | .non, _ => some false
  | .bl _, .bool => some true
  | .bl _, .int => some true
  | .bl _, _ => some false
  | .int _, .int => some true
  | .int _, _ => some false
  | .str _, .str => some true
  | .str _, _ => some false
  | .tup _, .tuple => some true
  | .tup _, _ => some false
  | .lst _, .list => some true
  | .lst _, _ => some false
  | _, _ => none
def isTys (d : D) : List Ty → Option Bool
  | [] => some false
  | t :: r => match isTy d t with
    | some true => some true
    | some false => isTys d r
    | none => none
def dIsi (ts : List Ty) (f : De) : De := fun r S => (f r S).bind fun d S1 => match isTys (view S1 d) ts with
  | some b => .ok (.bl b) S1
  | none => .no
def tyNm : D → String
  | .non => "NoneType"
  | .bl _ => "bool"
  | .int _ => "int"
  | .str _ => "str"
  | .tup _ => "tuple"
  | .lst _ => "list"
  | _ => ""
theorem isTy_kit {d : D} {t : Ty} {b : Bool} (h : isTy d t = some b) : kitB (tyNm d) t.nm = some b := by
  cases d <;> cases t <;> first | (cases h; done) | (cases h; dsimp only [tyNm, Ty.nm]; decide +kernel)
section
variable {w : World} {K : PySem.W.Frag} {L : Cn} {H : Hp} {S : Store}
theorem ty_of {v : V} {d : D} {t : Ty} {b : Bool} (r : Rp w K L H v d) (s : SRep w K L H S) (h : isTy (view S d) t = some b) : TyX K H v (.type (tyNm (view S d))) := by
  generalize e : view S d = d' at h ⊢
  cases d' with
  | lst xs =>
    obtain ⟨a, vs, rfl, h1, _⟩ := view_lst r s e
    exact .base (.lst h1)
  | tup xs =>
    have ed := view_tupAt r s e
    subst ed
    cases r with
    | tup h1 z q =>
      rcases h1 with ⟨o, _, h1, _⟩ | ⟨o, its, n, h1, h2, _⟩
      · exact .fTuple h1
      · exact .kTuple h1 h2
  | non => obtain ⟨_, q⟩ := view_self r s e (fun _ z => nomatch z); cases q; exact .base .non
  | bl k => obtain ⟨_, q⟩ := view_self r s e (fun _ z => nomatch z); cases q; exact .base (.bl _)
  | int k => obtain ⟨_, q⟩ := view_self r s e (fun _ z => nomatch z); cases q; exact .base (.int _)
  | str k => obtain ⟨_, q⟩ := view_self r s e (fun _ z => nomatch z); cases q; exact .base (.str _)
  | _ => cases t <;> cases h
theorem kit_tys {d : D} : ∀ {ts : List Ty} {b : Bool}, isTys d ts = some b → PySem.W.kitAny K (.type (tyNm d)) (ts.map fun t => Value.type t.nm) = some b
  | [], b, h => by cases h; exact kitAny_nil
  | t :: ts, b, h => by
    unfold isTys at h
    cases e : isTy d t with
    | none => rw [e] at h; cases h
    | some c =>
      rw [e] at h
      refine kitAny_cons (kit_ty (isTy_kit e)) (fun hc => ?_) (fun hc => ?_)
      · subst hc; exact kit_tys h
      · subst hc; cases h; rfl
theorem isTys_ex {d : D} {t : Ty} {ts : List Ty} {b : Bool} (h : isTys d (t :: ts) = some b) : ∃ c, isTy d t = some c := by
  unfold isTys at h
  cases e : isTy d t with
  | none => rw [e] at h; cases h
  | some c => exact ⟨c, rfl⟩
end
section
variable {X : Cx} {Wi : Wish} {p p2 pos pos2 tpos : Pos} {e : Expr} {f : De} {t t2 t3 : Ty} {x x2 : Str} {k}
/-- T, a built-in type, as a value -/
structure TyNm (X : Cx) (x : Str) (t : Ty) : Prop where
  hg : Gl X x
  hm : X.mg x = none
  hv : bootBuiltins x = some (.type t.nm)
  hn : x ≠ "__name__"
  hd : (x == ("__debug__" : Str)) = false
theorem TyNm.pe (h : TyNm X x t) : PE X (.Name x p) (tC (.ty t.nm)) := pe_bltn h.hg h.hm h.hv rfl h.hn h.hd
theorem se_isi1 (hg : Gl X "isinstance") (hm : X.mg "isinstance" = none) (he : SE X Wi e f) (ht : TyNm X x t)
    (hs : starEach [e, .Name x p2] X.env = (false, eval e X.env) :: starEach [.Name x p2] X.env := by rfl) : SE X Wi (.Call (.Name "isinstance" p) [e, .Name x p2] [] pos) (dIsi [t] f) :=
  pe_imp (pe_callB call_isi hg hm (by decide +kernel) (pa_cons he (pa_cons ht.pe pa_nil) hs) (by decide) (by decide) hs rfl) fun s H Q h => by
    obtain ⟨L, S, rr, er, sr, h⟩ := h
    refine ⟨L, S, rr, er, sr, (After.bnd h).mono fun d S1 L1 H1 e1 s1 h1 v rv => ?_⟩
    cases q : isTys (view S1 d) [t] with
    | none => rw [q] at h1; exact False.elim h1
    | some b =>
      rw [q] at h1
      obtain ⟨c, hc⟩ := isTys_ex q
      have cb : c = b := by
        unfold isTys at q
        rw [hc] at q
        cases c <;> (cases q; rfl)
      subst cb
      exact ⟨v, .ty t.nm, _, _, c, rfl, .ty _, ty_of rv s1 hc, kit_ty (isTy_kit hc), h1 L1 H1 Ex.refl s1 _ (Rp.of (.bl _))⟩
theorem se_isi2 (hg : Gl X "isinstance") (hm : X.mg "isinstance" = none) (he : SE X Wi e f) (ht : TyNm X x t) (ht2 : TyNm X x2 t2)
    (hs : starEach [e, .Tuple [.Name x p2, .Name x2 tpos] k pos2] X.env = (false, eval e X.env) :: starEach [.Tuple [.Name x p2, .Name x2 tpos] k pos2] X.env := by rfl) : SE X Wi (.Call (.Name "isinstance" p) [e, .Tuple [.Name x p2, .Name x2 tpos] k pos2] [] pos) (dIsi [t, t2] f) :=
  pe_imp (pe_callB call_isiT hg hm (by decide +kernel) (pa_cons he (pa_cons (pe_tup (pa_cons ht.pe (pa_cons ht2.pe pa_nil))) pa_nil) hs) (by decide) (by decide) hs rfl) fun s H Q h => by
    obtain ⟨L, S, rr, er, sr, h⟩ := h
    refine ⟨L, S, rr, er, sr, (After.bnd h).mono fun d S1 L1 H1 e1 s1 h1 v rv => ?_⟩
    cases q : isTys (view S1 d) [t, t2] with
    | none => rw [q] at h1; exact False.elim h1
    | some b =>
      rw [q] at h1
      obtain ⟨c, hc⟩ := isTys_ex q
      refine ⟨by show 2 ≤ sizeLine; decide, fun tp np => ?_⟩
      have s2 := s1.new (o := .tup [.ty t.nm, .ty t2.nm]) np
      have rv2 := rv.ex (Ex.new (o := .tup [.ty t.nm, .ty t2.nm]) np)
      refine ⟨v, tp, [.ty t.nm, .ty t2.nm], _, [.type t.nm, .type t2.nm], b, rfl, upd_same, .cons (.ty _) (.cons (.ty _) .nil), ty_of rv2 s2 hc, kit_tys q, ?_⟩
      exact h1 L1 _ (Ex.new np) s2 _ (Rp.of (.bl _))
end
def gIx (S : Store) (a b : D) : Option D :=
  match view S a, b with
  | .lst xs, .int i => atI xs i
  | .tup xs, .int i => atI xs i
  | .scr ns, .int i => (atI ns i).map .int
  | .str z, .int i => if lineOk z.length then (atI z.cps.toList i).map fun c => .str ⟨#[c]⟩ else none
  | .dct ks vs, k => if keyTup k then lookD k ks vs else none
  | _, _ => none
section
variable {w : World} {K : PySem.W.Frag} {L : Cn} {H : Hp} {S : Store}
theorem RAll.atI {vs : List V} {ds : List D} {i : Int} {d : D} (h : RAll w K L H vs ds) (e : L2.atI ds i = some d) : ∃ v, L2.atI vs i = some v ∧ R0 w K L H v d := by
  unfold L2.atI at e ⊢
  rw [h.length]
  cases q : ixN ds.length i with
  | none => rw [q] at e; cases e
  | some j =>
    rw [q] at e
    exact h.get e
theorem scr_sq {v : V} {ns : List Int} (r : R0 w K L H v (.scr ns)) : ∃ a, v = .ref a ∧ SqL K H a (ns.map V.int) ∧ ns.length ≤ 1000 := by
  cases r with
  | scr h z =>
    refine ⟨_, rfl, ?_, z⟩
    rcases h with h | ⟨o, h, _⟩
    · rcases h with h | h
      · rcases h with h | ⟨_, h⟩ <;> cases h
      · exact .inr h
    · exact .inl (.inr ⟨o, h⟩)
theorem atI_map {α β : Type} (g : α → β) (xs : List α) (i : Int) : L2.atI (xs.map g) i = (L2.atI xs i).map g := by
  unfold L2.atI
  rw [List.length_map]
  cases ixN xs.length i with
  | none => rfl
  | some j => show (xs.map g)[j]? = (xs[j]?).map g; rw [List.getElem?_map]
theorem od_ix : OpD w K (fun x y H Q => rIx K x y H Q ∨ rGetDc K w x y H Q) gIx := by
  intro L H S x y a b d Q s ra rb e q
  unfold gIx at e
  split at e
  · rename_i xs i e1
    obtain ⟨a1, vs, rfl, h1, z1, r1⟩ := view_lst ra s e1
    cases rb
    obtain ⟨v, e2, rv⟩ := r1.atI e
    exact .inl (.inl ⟨a1, vs, i, v, rfl, rfl, SqL.of h1, e2, q H Ex.refl s v (Rp.of rv)⟩)
  · rename_i xs i e1
    obtain ⟨a1, vs, rfl, h1, z1, r1⟩ := view_tup ra s e1
    cases rb
    obtain ⟨v, e2, rv⟩ := r1.atI e
    exact .inl (.inr (.inl ⟨a1, vs, i, v, rfl, rfl, h1, e2, q H Ex.refl s v (Rp.of rv)⟩))
  · rename_i ns i e1
    cases rb
    obtain ⟨_, p⟩ := view_self ra s e1 (fun _ z => nomatch z)
    obtain ⟨a1, rfl, h1, _⟩ := scr_sq p
    simp only [Option.map_eq_some_iff] at e
    obtain ⟨n, e2, rfl⟩ := e
    refine .inl (.inl ⟨a1, ns.map V.int, i, .int n, rfl, rfl, h1, ?_, q H Ex.refl s _ (Rp.of (.int _))⟩)
    rw [atI_map, e2]; rfl
  · rename_i z i e1
    cases rb
    split at e
    · rename_i c
      simp only [Option.map_eq_some_iff] at e
      obtain ⟨n, e2, rfl⟩ := e
      have := view_str ra s e1; subst this
      exact .inl (.inr (.inr ⟨z, i, n, rfl, rfl, line_of c, e2, q H Ex.refl s _ (Rp.of (.str _))⟩))
    · cases e
  · rename_i ks vs e1
    split at e
    · rename_i c
      obtain ⟨k, hk, hdk, ys, rfl⟩ := keyTup_key c
      obtain ⟨ad, xs, rfl, h1, dk, r2⟩ := view_dct ra s e1
      have rb' : R0 w K L H y (.tup ys) := rb
      cases rb' with
      | @tup b us _ t1 t2 t3 =>
        have lk := look_atE hk dk.key r2
        rw [e] at lk
        obtain ⟨p, hp, rp⟩ := lk
        exact .inr ⟨L, b, ad, xs, ks, .tup ys, k, p, rfl, rfl, h1, dk, .tup t1 t2 t3, hk, hdk, hp, q H Ex.refl s _ (Rp.of rp)⟩
    · cases e
  · cases e
end
section
variable {X : Cx} {Wi : Wish} {a b : Expr} {f1 f2 : De} {pos : Pos}
theorem ix_dc (hu : X.A.units + 64 < cLine) : IxR X (rGetDc X.K X.w) := by
  intro value slice pins s σ H x y v u Q I rx ry h hs
  have h' := h
  obtain ⟨C, b, ad, xs, ks, e, k, p, rfl, rfl, ha, dk, r0, he, hdk, hp0, q⟩ := h'
  obtain ⟨_, _, ys, hp, hd⟩ := dk.keyed I ha
  have h2 := op_getDc hu pins s σ H _ _ v u Q I rx ry h
  cases rx
  exact tail_any hd.typeIs PySem.F.slot_dict_getitem.lookup h2 hs
theorem se_ix {k : Nat} (hr : Room k X.A) (ha : SE X Wi a f1) (hb : SE X Wi b f2) (hs : PlainIx b := by exact fun _ _ => rfl) : SE X Wi (.Subscript a b pos) (dOp gIx f1 f2) :=
  pe_imp (pe_ix (ix_seq.or (ix_dc (u64 hr))) ha hb hs) fun _ _ _ h => tE_op od_ix h
end
/-- the parts of a slice -/
abbrev Do := Sl → Store → Out (Option Int)
def oNone : Do := fun _ S => .ok none S
def oSome (f : De) : Do := fun r S => (f r S).bind fun d S1 => match d with
  | .int i => .ok (some i) S1
  | _ => .no
def tO (w : World) (K : PySem.W.Frag) (Wi : Wish) (f : Do) : TO := fun s H Q => ∃ L S r, ERep w K L H s r ∧ SRep w K L H S ∧ After w K Wi L H (f r S) fun o _ _ H' => Q o H'
abbrev SO (X : Cx) (Wi : Wish) (e : Option Expr) (f : Do) : Prop := PO X e (tO X.w X.K Wi f)
def cutD {α : Type} (xs : List α) (lo hi : Option Int) : List α := (xs.drop (HT.sIx xs.length 0 lo)).take (HT.sIx xs.length xs.length hi - HT.sIx xs.length 0 lo)
def gSl (S : Store) (a : D) (lo hi : Option Int) : Option D :=
  match view S a with
  | .lst xs => some (.lst (cutD xs lo hi))
  | .tup xs => some (.tup (cutD xs lo hi))
  | .scr ns => some (.lst ((cutD ns lo hi).map .int))
  | _ => none
def gSlN (S : Store) (a : D) (lo hi : Option Int) : Option (List D) :=
  match view S a with
  | .lst xs => some (cutD xs lo hi)
  | .scr ns => some ((cutD ns lo hi).map .int)
  | _ => none
def dSl (f : De) (l u : Do) : De := fun r S => (f r S).bind fun d S1 => (l r S1).bind fun lo S2 => (u r S2).bind fun hi S3 => opt (gSl S3 d lo hi) S3
def dSlN (f : De) (l u : Do) : Da := fun r S => (f r S).bind fun d S1 => (l r S1).bind fun lo S2 => (u r S2).bind fun hi S3 => match gSlN S3 d lo hi with
  | some es => .ok es S3
  | none => .no
section
variable {w : World} {K : PySem.W.Frag} {L : Cn} {H : Hp} {S : Store}
theorem RAll.cut {vs : List V} {ds : List D} (h : RAll w K L H vs ds) (lo hi : Option Int) : RAll w K L H (cutV vs lo hi) (cutD ds lo hi) := by
  unfold cutV cutD
  rw [h.length]
  exact (h.drop _).take _
theorem RAll.of_ints : ∀ (ns : List Int), RAll w K L H (ns.map V.int) (ns.map D.int)
  | [] => .nil
  | n :: r => .cons (.int n) (RAll.of_ints r)
theorem cut_map {α β : Type} (g : α → β) (xs : List α) (lo hi : Option Int) : cutD (xs.map g) lo hi = (cutD xs lo hi).map g := by
  unfold cutD
  rw [List.length_map, List.map_take, List.map_drop]
theorem cut_le {α : Type} (xs : List α) (lo hi : Option Int) : (cutD xs lo hi).length ≤ xs.length := by
  unfold cutD
  rw [List.length_take, List.length_drop]; omega
/-- t[lo:hi]: the whole of it is t itself -/
def rSlX (K : PySem.W.Frag) : V → Option Int → Option Int → Hp → VK → Prop := fun x lo hi H Q => ∃ a xs, x = .ref a ∧ SqT K H a xs ∧
  (HT.sIx xs.length 0 lo = 0 ∧ HT.sIx xs.length xs.length hi = xs.length → Q (.ref a) H) ∧ (¬ (HT.sIx xs.length 0 lo = 0 ∧ HT.sIx xs.length xs.length hi = xs.length) → ∀ p o, H p = none → o.dict = none → Q (.ref p) (upd H p (.frz o (.tup (cutV xs lo hi)))))
theorem sl_tupX {X : Cx} : SlR X (rSlX X.K) := by
  intro pins s σ H x v vl vu lo hi sl Q I rx hs pl pu h
  obtain ⟨a, xs, rfl, hx, q1, q2⟩ := h
  cases rx
  obtain ⟨its, r, ht, hz⟩ := I.tuple hx
  have hn : its.toArray.size = xs.length := by rw [List.size_toArray, ← r.length]
  refine ⟨"tuple", _, PyProof.Rows.slot_tuple_getitem.lookup, ht.typeIs, ?_⟩
  by_cases hw : HT.sIx xs.length 0 lo = 0 ∧ HT.sIx xs.length xs.length hi = xs.length
  · exact getItem_tuple_whole ht hs pl pu (by rw [hn]; exact hw) ⟨.ref a, H, I, rfl, q1 hw⟩
  · refine HT.getItem_tuple_cut ht hs pl pu (by rw [hn]; exact hw) ?_ (by rw [hn]; exact hz)
    rw [hn]
    exact tup_laid I ((r.drop _).take _) (Nat.le_trans (cutV_length xs lo hi) hz) (q2 hw)
def rSlAll (K : PySem.W.Frag) : V → Option Int → Option Int → Hp → VK → Prop := fun x lo hi H Q => rSlL K x lo hi H Q ∨ rSlX K x lo hi H Q
theorem sl_all {X : Cx} : SlR X (rSlAll X.K) := sl_list.or sl_tupX
theorem cut_whole {ds : List D} {lo hi : Option Int} (h : HT.sIx ds.length 0 lo = 0 ∧ HT.sIx ds.length ds.length hi = ds.length) : cutD ds lo hi = ds := by
  unfold cutD
  rw [h.1, h.2]; simp
theorem sl_read {x : V} {a d : D} {lo hi : Option Int} {Q : VK} (s : SRep w K L H S) (ra : Rp w K L H x a) (e : gSl S a lo hi = some d) (q : ∀ H', Ex L H L H' → SRep w K L H' S → ∀ v, Rp w K L H' v d → Q v H') : rSlAll K x lo hi H Q := by
  unfold gSl at e
  split at e
  · rename_i xs e1; cases e
    obtain ⟨a1, vs, rfl, h1, z1, r1⟩ := view_lst ra s e1
    exact .inl ⟨a1, vs, rfl, SqL.of h1, fun p np => q _ (Ex.new np) (s.new np) _ (new_lst s np (Nat.le_trans (cutV_length _ _ _) z1) (r1.cut lo hi))⟩
  · rename_i xs e1; cases e
    have ea := view_tupAt ra s e1
    subst ea
    obtain ⟨a1, vs, rfl, h1, z1, r1⟩ := view_tup ra s e1
    refine .inr ⟨a1, vs, rfl, h1, fun hw => ?_, fun hw p o np hd => q _ (Ex.new np) (s.new np) _ (new_tup s np hd (Nat.le_trans (cutV_length _ _ _) z1) (r1.cut lo hi))⟩
    rw [r1.length] at hw
    rw [cut_whole hw] at q
    exact q H Ex.refl s _ ra
  · rename_i ns e1; cases e
    obtain ⟨_, p⟩ := view_self ra s e1 (fun _ z => nomatch z)
    obtain ⟨a1, rfl, h1, z⟩ := scr_sq p
    refine .inl ⟨a1, _, rfl, h1, fun p np => q _ (Ex.new np) (s.new np) _ ?_⟩
    have r1 := (RAll.of_ints (w := w) (K := K) (L := L) (H := H) ns).cut lo hi
    rw [cut_map] at r1
    refine new_lst s np (Nat.le_trans (cutV_length _ _ _) ?_) r1
    rw [List.length_map]; exact Nat.le_trans z (by decide)
  · cases e
end
section
variable {X : Cx} {Wi : Wish} {e : Expr} {lo hi : Option Expr} {f : De} {l u : Do} {pos p2 : Pos}
theorem po_imp {o : Option Expr} {t t' : TO} (h : PO X o t) (i : ∀ s H Q, t' s H Q → t s H Q) : PO X o t' := ⟨fun pins s σ H Q I q => h.run pins s σ H Q I (i _ _ _ q)⟩
theorem so_none : SO X Wi none oNone := po_imp po_none fun s H Q h => by
  obtain ⟨L, S, rr, er, sr, h⟩ := h
  exact h L H Ex.refl sr
theorem so_some (h : SE X Wi e f) : SO X Wi (some e) (oSome f) := po_imp (po_some h) fun s H Q h => by
  obtain ⟨L, S, rr, er, sr, h⟩ := h
  refine ⟨L, S, rr, er, sr, (After.bnd h).mono fun d S1 L1 H1 e1 s1 h1 x rx => ?_⟩
  cases d with
  | int i => cases rx; exact ⟨i, rfl, h1 L1 H1 Ex.refl s1⟩
  | _ => exact False.elim h1
theorem se_sl (he : SE X Wi e f) (hl : SO X Wi lo l) (hu : SO X Wi hi u) : SE X Wi (.Subscript e (.Slice lo hi none p2) pos) (dSl f l u) :=
  pe_imp (pe_slice sl_all he hl hu) fun s H Q h => by
    obtain ⟨L, S, rr, er, sr, h⟩ := h
    refine ⟨L, S, rr, er, sr, (After.bnd h).mono fun d S1 L1 H1 e1 s1 h1 x rx => ?_⟩
    refine ⟨L1, S1, rr, er.ex e1, s1, (After.bnd h1).mono fun l1 S2 L2 H2 e2 s2 h2 => ?_⟩
    refine ⟨L2, S2, rr, (er.ex e1).ex e2, s2, (After.bnd h2).mono fun u1 S3 L3 H3 e3 s3 h3 => ?_⟩
    obtain ⟨d', hd, h3⟩ := h3.opt
    exact sl_read s3 ((rx.ex e2).ex e3) hd fun H' e' s' v rv => h3 L3 H' e' s' v rv
end
end Ws
namespace Ws
open PySem PySem.Spec PyProof.Rows L2
abbrev Dg := D → Sl → Store → Option Sl
abbrev Dgs := List D → Sl → Store → Option Sl
def gNm (i : Nat) : Dg := fun d r _ => some (r.set i (some d))
def gsNil : Dgs := fun ds r _ => match ds with
  | [] => some r
  | _ => none
def gsCons (g : Dg) (h : Dgs) : Dgs := fun ds r S => match ds with
  | d :: es => (g d r S).bind fun r' => h es r' S
  | [] => none
def gTu (n : Nat) (h : Dgs) : Dg := fun d r S => match view S d with
  | .tup xs => if xs.length = n then h xs r S else none
  | .tupw xs => if xs.length = n then h xs r S else none
  | .lst xs => if xs.length = n then h xs r S else none
  | _ => none
/-- slots but those of is stay -/
def Same (is : List Nat) (s s' : L2.St) : Prop := s'.length = s.length ∧ ∀ i, i ∉ is → s'[i]? = s[i]?
theorem Same.refl {is : List Nat} {s : L2.St} : Same is s s := ⟨rfl, fun _ _ => rfl⟩
theorem Same.trans {is js : List Nat} {s s' s'' : L2.St} (h : Same is s s') (h' : Same js s' s'') : Same (is ++ js) s s'' :=
  ⟨h'.1.trans h.1, fun i hi => (h'.2 i fun z => hi (List.mem_append_right _ z)).trans (h.2 i fun z => hi (List.mem_append_left _ z))⟩
theorem Same.set {i : Nat} {v : Option V} {s : L2.St} : Same [i] s (s.set i v) := ⟨by simp, fun j hj => List.getElem?_set_ne (fun z => hj (by simp [z]))⟩
def tGd (w : World) (K : PySem.W.Frag) (is : List Nat) (g : Dg) : TG := fun v s H Q => ∃ L S d r, ERep w K L H s r ∧ SRep w K L H S ∧ Rp w K L H v d ∧ ∃ r', g d r S = some r' ∧ ∀ s', ERep w K L H s' r' → Same is s s' → Q s' H
def tGs (w : World) (K : PySem.W.Frag) (is : List Nat) (g : Dgs) : TGs := fun vs s H Q => ∃ L S ds r, ERep w K L H s r ∧ SRep w K L H S ∧ Rps w K L H vs ds ∧ ∃ r', g ds r S = some r' ∧ ∀ s', ERep w K L H s' r' → Same is s s' → Q s' H
abbrev SG (X : Cx) (tg : Expr) (is : List Nat) (g : Dg) : Prop := PG X tg (tGd X.w X.K is g)
abbrev SGs (X : Cx) (tgs : List Expr) (is : List Nat) (g : Dgs) : Prop := PGs X tgs (tGs X.w X.K is g)
section
variable {X : Cx} {pos : Pos}
theorem pg_imp {tg : Expr} {t t' : TG} (h : PG X tg t) (i : ∀ v s H Q, t' v s H Q → t v s H Q) : PG X tg t' := ⟨fun pins s σ H v u Q I r q => h.run pins s σ H v u Q I r (i _ _ _ _ q)⟩
theorem pgs_imp {tg : List Expr} {t t' : TGs} (h : PGs X tg t) (i : ∀ v s H Q, t' v s H Q → t v s H Q) : PGs X tg t' := ⟨fun pins s σ H v u Q I r q => h.run pins s σ H v u Q I r (i _ _ _ _ q)⟩
theorem pg_or {tg : Expr} {t t' : TG} (h : PG X tg t) (h' : PG X tg t') : PG X tg (fun v s H Q => t v s H Q ∨ t' v s H Q) := ⟨fun pins s σ H v u Q I r q => q.elim (fun q => h.run pins s σ H v u Q I r q) fun q => h'.run pins s σ H v u Q I r q⟩
theorem sg_name {i : Nat} {x : Str} (hN : X.N.Nodup) (hi : X.N[i]? = some x) (hx : Loc X.env.scope x) (hf : X.fn x = true ∨ X.env.scope.names.lookup x = some .local) : SG X (.Name x pos) [i] (gNm i) :=
  pg_imp (pg_name hN hi hx hf) fun v s H Q h => by
    obtain ⟨L, S, d, r, er, sr, rv, r', e, q⟩ := h
    cases e
    exact q _ (er.set i rv) Same.set
theorem sgs_nil : SGs X [] [] gsNil := pgs_imp pgs_nil fun vs s H Q h => by
  obtain ⟨L, S, ds, r, er, sr, rv, r', e, q⟩ := h
  cases rv with
  | nil => cases e; exact ⟨rfl, q _ er Same.refl⟩
  | cons _ _ => cases e
theorem sgs_cons {e : Expr} {es : List Expr} {g : Dg} {h : Dgs} {is js : List Nat} (h1 : SG X e is g) (h2 : SGs X es js h) (hs : (assignEach (e :: es) X.env).map (·.2) = assign e X.env :: (assignEach es X.env).map (·.2) := by rfl) : SGs X (e :: es) (is ++ js) (gsCons g h) :=
  pgs_imp (pgs_cons h1 h2 hs) fun vs s H Q h => by
    obtain ⟨L, S, ds, r, er, sr, rv, r', e, q⟩ := h
    cases rv with
    | nil => cases e
    | @cons v d vs ds rv rvs =>
      simp only [gsCons, Option.bind_eq_some_iff] at e
      obtain ⟨r1, e1, e2⟩ := e
      exact ⟨v, vs, rfl, L, S, d, r, er, sr, rv, r1, e1, fun s' er' sm => ⟨L, S, ds, r1, er', sr, rvs, r', e2, fun s2 er2 sm2 => q s2 er2 (sm.trans sm2)⟩⟩
theorem sg_tup {es : List Expr} {k : Nat} {h : Dgs} {n : Nat} {is : List Nat} (hc : X.calm = true) (hh : SGs X es is h)
    (hn : (assignEach es X.env).length = n := by rfl) (hst : (assignEach es X.env).findIdx? (·.1) = none := by rfl) : SG X (.Tuple es k pos) is (gTu n h) :=
  pg_imp (pg_or (pg_tup hc hh hn hst) (pg_unl hc hh hn hst)) fun v s H Q q => by
    obtain ⟨L, S, d, r, er, sr, rv, r', e, q⟩ := q
    unfold gTu at e
    split at e
    · rename_i xs e1
      split at e
      · rename_i c
        obtain ⟨a, vs, rfl, h1, z, p⟩ := view_tup rv sr e1
        exact .inl ⟨a, vs, rfl, h1, p.length.trans c, L, S, xs, r, er, sr, p.rps, r', e, q⟩
      · cases e
    · rename_i xs e1
      split at e
      · rename_i c
        obtain ⟨_, rv'⟩ := view_self rv sr e1 (fun _ z => nomatch z)
        have rv2 : R0 X.w X.K L H v (.tupw xs) := rv'
        cases rv2 with
        | @tupw a vs _ h1 _ z p => exact .inl ⟨a, vs, rfl, SqT.of h1, p.length.trans c, L, S, xs, r, er, sr, p.rps, r', e, q⟩
      · cases e
    · rename_i xs e1
      split at e
      · rename_i c
        obtain ⟨a, vs, rfl, h1, z, p⟩ := view_lst rv sr e1
        exact .inr ⟨a, vs, rfl, SqL.of h1, p.length.trans c, L, S, xs, r, er, sr, p.rps, r', e, q⟩
      · cases e
    · cases e
end
def FlE (w : World) (K : PySem.W.Frag) (E : Ends) (L : Cn) (H : Hp) : Fl → Prop
  | .nx r => ∀ s, ERep w K L H s r → E.nx s H
  | .rt d => ∀ v, Rp w K L H v d → E.rt v H
  | .bk r => ∀ s, ERep w K L H s r → E.bk s H
  | .ct r => ∀ s, ERep w K L H s r → E.ct s H
def tS (w : World) (K : PySem.W.Frag) (Wi : Wish) (f : Ds) : TS := fun E s H => ∃ L S r, ERep w K L H s r ∧ SRep w K L H S ∧ After w K Wi L H (f r S) fun fl _ L' H' => FlE w K E L' H' fl
abbrev SS (X : Cx) (Wi : Wish) (st : Stmt) (f : Ds) : Prop := PS X st (tS X.w X.K Wi f)
abbrev SSs (X : Cx) (Wi : Wish) (sts : List Stmt) (f : Ds) : Prop := PSs X sts (tS X.w X.K Wi f)
def sNil : Ds := fun r S => .ok (.nx r) S
def sSeq (f g : Ds) : Ds := fun r S => (f r S).bind fun fl S1 => match fl with
  | .nx r1 => g r1 S1
  | fl => .ok fl S1
def sAsg (f : De) (g : Dg) : Ds := fun r S => (f r S).bind fun d S1 => match g d r S1 with
  | some r' => .ok (.nx r') S1
  | none => .no
def sRet (f : De) : Ds := fun r S => (f r S).bind fun d S1 => .ok (.rt d) S1
def sRetN : Ds := fun _ S => .ok (.rt .non) S
def sIf (c : Dt) (f g : Ds) : Ds := fun r S => (c r S).bind fun b S1 => if b = true then f r S1 else g r S1
def sDrop (f : De) : Ds := fun r S => (f r S).bind fun _ S1 => .ok (.nx r) S1
def sBrk : Ds := fun r S => .ok (.bk r) S
def sCnt : Ds := fun r S => .ok (.ct r) S
section
variable {X : Cx} {Wi : Wish} {pos : Pos} {st : Stmt} {sts : List Stmt} {f g : Ds} {e : Expr} {fe : De}
theorem ps_imp {t t' : TS} (h : PS X st t) (i : ∀ E s H, t' E s H → t E s H) : PS X st t' := ⟨fun pins s σ H E I q => h.run pins s σ H E I (i _ _ _ q)⟩
theorem pss_imp {t t' : TS} (h : PSs X sts t) (i : ∀ E s H, t' E s H → t E s H) : PSs X sts t' := ⟨fun pins s σ H E I q => h.run pins s σ H E I (i _ _ _ q)⟩
theorem ss_nil : SSs X Wi [] sNil := pss_imp pss_nil fun E s H h => by
  obtain ⟨L, S, r, er, sr, h⟩ := h
  exact h L H Ex.refl sr s er
theorem ss_cons (h1 : SS X Wi st f) (h2 : SSs X Wi sts g) : SSs X Wi (st :: sts) (sSeq f g) := pss_imp (pss_cons h1 h2) fun E s H h => by
  obtain ⟨L, S, r, er, sr, h⟩ := h
  refine ⟨L, S, r, er, sr, (After.bnd h).mono fun fl S1 L1 H1 e1 s1 h1 => ?_⟩
  cases fl with
  | nx r1 => exact fun s' er' => ⟨L1, S1, r1, er', s1, h1⟩
  | rt d => exact h1 L1 H1 Ex.refl s1
  | bk r => exact h1 L1 H1 Ex.refl s1
  | ct r => exact h1 L1 H1 Ex.refl s1
theorem ss_one (h1 : SS X Wi st f) : SSs X Wi [st] f := pss_one h1
theorem ss_ret (h : SE X Wi e fe) : SS X Wi (.Return (some e) pos) (sRet fe) := ps_imp (ps_ret h) fun E s H h => by
  obtain ⟨L, S, r, er, sr, h⟩ := h
  exact ⟨L, S, r, er, sr, (After.bnd h).mono fun d S1 L1 H1 e1 s1 h1 v rv => h1 L1 H1 Ex.refl s1 v rv⟩
theorem ss_expr (h : SE X Wi e fe) (hs : swapsWith e none pos.line X.env = pure false := by rfl) : SS X Wi (.Expr e pos) (sDrop fe) := ps_imp (ps_expr h hs) fun E s H h => by
  obtain ⟨L, S, r, er, sr, h⟩ := h
  exact ⟨L, S, r, er, sr, (After.bnd h).mono fun d S1 L1 H1 e1 s1 h1 v rv => h1 L1 H1 Ex.refl s1 s (er.ex e1)⟩
theorem ss_if {c : Expr} {a b : List Stmt} {t : Dt} (hc : ST X Wi c t) (ha : SSs X Wi a f) (hb : SSs X Wi b g) : SS X Wi (.If c a b pos) (sIf t f g) := ps_imp (ps_if hc ha hb) fun E s H h => by
  obtain ⟨L, S, r, er, sr, h⟩ := h
  refine ⟨L, S, r, er, sr, (After.bnd h).mono fun k S1 L1 H1 e1 s1 h1 => ?_⟩
  cases k with
  | true => exact ⟨L1, S1, r, er.ex e1, s1, h1⟩
  | false => exact ⟨L1, S1, r, er.ex e1, s1, h1⟩
theorem tS_asg {w : World} {K : PySem.W.Frag} {gd : Dg} {is : List Nat} {E : Ends} {s : L2.St} {H : Hp} (h : tS w K Wi (sAsg fe gd) E s H) : tAsg (tE w K Wi fe) (tGd w K is gd) E s H := by
  obtain ⟨L, S, r, er, sr, h⟩ := h
  refine ⟨L, S, r, er, sr, (After.bnd h).mono fun d S1 L1 H1 e1 s1 h1 v rv => ?_⟩
  cases q : gd d r S1 with
  | none => rw [q] at h1; exact False.elim h1
  | some r' => rw [q] at h1; exact ⟨L1, S1, d, r, er.ex e1, s1, rv, r', q, fun s' er' _ => h1 L1 H1 Ex.refl s1 s' er'⟩
theorem ss_asg {tg : Expr} {gd : Dg} {is : List Nat} (he : SE X Wi e fe) (hg : SG X tg is gd) (hs : swapsWithSole [tg] e pos.line X.env = pure false := by rfl) (hw : swappedStores [tg] e X.env = pure none := by rfl)
    (h1 : (assignEach [tg] X.env).map (·.2) = [assign tg X.env] := by rfl) : SS X Wi (.Assign [tg] e pos) (sAsg fe gd) := ps_imp (ps_asg he hg hs hw h1) fun E s H h => tS_asg h
theorem ss_set {i : Nat} {x : Str} {pos' : Pos} (hN : X.N.Nodup) (hi : X.N[i]? = some x) (hx : Loc X.env.scope x) (hf : X.fn x = true ∨ X.env.scope.names.lookup x = some .local) (he : SE X Wi e fe) (hs : swapsWith e (some (.Name x pos')) pos.line X.env = pure false := by rfl) :
    SS X Wi (.Assign [.Name x pos'] e pos) (sAsg fe (gNm i)) := ps_imp (ps_set hN hi hx he hs hf) fun E s H h => by
  obtain ⟨L, S, r, er, sr, h⟩ := h
  refine ⟨L, S, r, er, sr, (After.bnd h).mono fun d S1 L1 H1 e1 s1 h1 v rv => ?_⟩
  exact h1 L1 H1 Ex.refl s1 _ ((er.ex e1).set i rv)
/-- a, b = x, y of plain local names -/
def sPar (is : List Nat) (f : Da) : Ds := fun r S => (f r S).bind fun ds S1 => if ds.length = is.length then .ok (.nx ((is.zip ds).foldl (fun r p => r.set p.1 (some p.2)) r)) S1 else .no
theorem ss_par {i j : Nat} {x y : Str} {a b : Expr} {fa : Da} {px py pt : Pos} {kt k2 pt2} (hc : X.calm = true) (hN : X.N.Nodup) (hi : X.N[i]? = some x) (hj : X.N[j]? = some y) (hij : i ≠ j)
    (hx : X.env.scope.names.lookup x = some .local) (hy : X.env.scope.names.lookup y = some .local) (ha : SA X Wi [a, b] fa)
    (hw : swappedStores [.Tuple [.Name x px, .Name y py] kt pt] (.Tuple [a, b] k2 pt2) X.env = pure (some [x, y]))
    (hs : swapsWithSole [.Tuple [.Name x px, .Name y py] kt pt] (.Tuple [a, b] k2 pt2) pos.line X.env = pure false := by rfl) :
    SS X Wi (.Assign [.Tuple [.Name x px, .Name y py] kt pt] (.Tuple [a, b] k2 pt2) pos) (sPar [i, j] fa) := ps_imp (ps_par hc hN hi hj hij hx hy ha hw hs) fun E s H h => by
  obtain ⟨L, S, r, er, sr, h⟩ := h
  refine ⟨L, S, r, er, sr, (After.bnd h).mono fun ds S1 L1 H1 e1 s1 h1 vs rvs => ?_⟩
  split at h1
  · rename_i c
    match ds, c, rvs, h1 with
    | [d1, d2], _, .cons r1 (.cons r2 .nil), h1 => exact ⟨_, _, rfl, h1 L1 H1 Ex.refl s1 _ (((er.ex e1).set i r1).set j r2)⟩
  · exact False.elim h1
end
def setAt (S : Store) (o i d : D) : Option Store := match o, i with
  | .ref n, .int k => match S[n]? with
    | some (.lst xs) => match ixN xs.length k with
      | some j => if d.isRef then none else some (S.set n (.lst (xs.set j d)))
      | none => none
    | _ => none
  | .ref n, k => match S[n]? with
    | some (.dct ks vs) => if keyTup k && !d.isRef && decide (ks.length < sizeLine) then some (S.set n (.dct (putKs k ks) (putVs k d ks vs))) else none
    | _ => none
  | _, _ => none
def sSetIx (fo fi fe : De) : Ds := fun r S => (fe r S).bind fun d S1 => (fo r S1).bind fun o S2 => (fi r S2).bind fun i S3 => match setAt S3 o i d with
  | some S' => .ok (.nx r) S'
  | none => .no
section
variable {w : World} {K : PySem.W.Frag} {L : Cn} {H : Hp} {S : Store}
theorem mut_at {v : V} {n : Nat} {xs : List D} (r : Rp w K L H v (.ref n)) (s : SRep w K L H S) (e : S[n]? = some (.lst xs)) : ∃ a vs, v = .ref a ∧ L.l[n]? = some a ∧ H a = some (.lst vs) ∧ vs.length ≤ sizeLine ∧ RAll w K L H vs xs := by
  obtain ⟨a, h1, rfl⟩ := r
  obtain ⟨vs, h3, z, q⟩ := s.obj n a _ h1 e
  exact ⟨a, vs, rfl, h1, h3, z, q⟩
theorem mut_dct {v : V} {n : Nat} {ks vs : List D} (r : Rp w K L H v (.ref n)) (s : SRep w K L H S) (e : S[n]? = some (.dct ks vs)) : ∃ (a : Addr) (xs : List Ent), v = .ref a ∧ L.l[n]? = some a ∧ HDct w H a xs ∧ DK w K L H xs ks ∧ RAll w K L H (xs.map fun p => p.2.2) vs := by
  obtain ⟨a, h1, rfl⟩ := r
  obtain ⟨xs, h3, r1, k1, d1, r2⟩ := s.obj n a _ h1 e
  exact ⟨a, xs, rfl, h1, h3, ⟨r1, k1, d1⟩, r2⟩
theorem mut_write {a : Addr} {n : Nat} {us : List V} {ys : List D} (h1 : L.l[n]? = some a) (s : SRep w K L H S) (z : us.length ≤ sizeLine) (q : RAll w K L H us ys) : SRep w K L (upd H a (.lst us)) (S.set n (.lst ys)) :=
  s.write h1 ⟨us, upd_same, z, q.ex (Ex.write (List.mem_of_getElem? h1))⟩
theorem set_read {vo vi vd : V} {o i d : D} {S' : Store} {Q : Hp → Prop} (s : SRep w K L H S) (ro : Rp w K L H vo o) (ri : Rp w K L H vi i) (rd : Rp w K L H vd d) (e : setAt S o i d = some S')
    (q : ∀ H', Ex L H L H' → SRep w K L H' S' → Q H') : rSetL vo vi vd H Q ∨ rSetDc K w vo vi vd H Q := by
  unfold setAt at e
  split at e
  · rename_i n k
    split at e
    · rename_i xs e1
      split at e
      · rename_i j e2
        split at e
        · cases e
        · rename_i c
          cases e
          obtain ⟨a, vs, rfl, h1, h2, z, p⟩ := mut_at ro s e1
          cases ri
          refine .inl ⟨a, vs, k, j, rfl, rfl, h2, by rw [p.length]; exact e2, q _ (Ex.write (List.mem_of_getElem? h1)) (mut_write h1 s (by simpa using z) (RAll.set (rd.r0 (by simpa using c)) j p))⟩
      · cases e
    · cases e
  · rename_i n k nk
    split at e
    · rename_i ks vs e1
      split at e
      · rename_i c
        cases e
        simp only [Bool.and_eq_true, Bool.not_eq_true', decide_eq_true_eq] at c
        obtain ⟨a, xs, rfl, h1, h2, dk, r2⟩ := mut_dct ro s e1
        obtain ⟨kk, hk, hdk, ys, rfl⟩ := keyTup_key c.1.1
        have ri' : R0 w K L H vi (.tup ys) := ri
        have rd' := rd.r0 c.1.2
        cases ri' with
        | @tup b us _ t1 t2 t3 =>
          refine .inr ⟨L, b, a, xs, ks, .tup ys, kk, rfl, rfl, h2, dk, .tup t1 t2 t3, hk, hdk, ?_, fun o' => q _ (Ex.write (List.mem_of_getElem? h1)) ?_⟩
          · have := keys_len dk.key
            rw [List.length_map] at this
            omega
          · obtain ⟨dk', r2'⟩ := put_dk dk r2 (.tup t1 t2 t3) hk hdk rd'
            have ex : Ex L H L (upd H a (DctNO w a (storeE xs kk b vd) o')) := Ex.write (List.mem_of_getElem? h1)
            exact s.write h1 ⟨_, .new, dk'.ra.ex ex, dk'.key, dk'.dep, r2'.ex ex⟩
      · cases e
    · cases e
  · cases e
end
section
variable {X : Cx} {Wi : Wish} {pos p2 : Pos} {e o i : Expr} {fe fo fi : De}
theorem pset_or {t t' : TSet} (h : PSet X t) (h' : PSet X t') : PSet X (fun o i v H Q => t o i v H Q ∨ t' o i v H Q) := fun pins s σ H o i v ov iv u Q I ro ri rv q => q.elim (h pins s σ H o i v ov iv u Q I ro ri rv) (h' pins s σ H o i v ov iv u Q I ro ri rv)
theorem ss_setIx {k : Nat} (hr : Room k X.A) (he : SE X Wi e fe) (ho : SE X Wi o fo) (hi : SE X Wi i fi)
    (ha : ∀ v, assign (.Subscript o i p2) X.env v = (do
      let ov ← holding [v] (eval o X.env)
      let iv ← holding [v, ov] (eval i X.env)
      standAt p2
      holding [v, ov, iv] (setItem ov iv v)
      release [v, ov, iv] []) := by intro _; rfl)
    (hs : swapsWithSole [.Subscript o i p2] e pos.line X.env = pure false := by rfl) (hw : swappedStores [.Subscript o i p2] e X.env = pure none := by rfl)
    (h1 : (assignEach [.Subscript o i p2] X.env).map (·.2) = [assign (.Subscript o i p2) X.env] := by rfl) : SS X Wi (.Assign [.Subscript o i p2] e pos) (sSetIx fo fi fe) :=
  ps_imp (ps_asg he (pg_sub ho hi (pset_or set_list (set_dc (u64 hr))) ha) hs hw h1) fun E s H h => by
    obtain ⟨L, S, r, er, sr, h⟩ := h
    refine ⟨L, S, r, er, sr, (After.bnd h).mono fun d S1 L1 H1 e1 s1 h1 v rv => ?_⟩
    refine ⟨L1, S1, r, er.ex e1, s1, (After.bnd h1).mono fun o S2 L2 H2 e2 s2 h2 vo ro => ?_⟩
    refine ⟨L2, S2, r, (er.ex e1).ex e2, s2, (After.bnd h2).mono fun i S3 L3 H3 e3 s3 h3 vi ri => ?_⟩
    cases q : setAt S3 o i d with
    | none => rw [q] at h3; exact False.elim h3
    | some S' =>
      rw [q] at h3
      exact set_read s3 (ro.ex e3) ri ((rv.ex e2).ex e3) q fun H' e' s' => h3 L3 H' e' s' s ((((er.ex e1).ex e2).ex e3).ex e')
end
def isLref (S : Store) : D → Bool
  | .ref n => match S[n]? with
    | some (.lst _) => true
    | _ => false
  | _ => false
def appAt (S : Store) (o d : D) : Option Store := match o with
  | .ref n => match S[n]? with
    | some (.lst xs) => if !d.isRef && lineOk (xs.length + 1) then some (S.set n (.lst (xs ++ [d]))) else none
    | _ => none
  | _ => none
def dApp (fo : De) (fa : Da) : De := fun r S => (fo r S).bind fun o S1 => if isLref S1 o = false then .no else (fa r S1).bind fun ds S2 => match ds with
  | [d] => match appAt S2 o d with
    | some S' => .ok .non S'
    | none => .no
  | _ => .no
def popAt (S : Store) (o : D) (ds : List D) : Option (D × Store) := match o with
  | .ref n => match S[n]? with
    | some (.lst xs) => match ds with
      | [] => match xs.getLast? with
        | some d => some (d, S.set n (.lst xs.dropLast))
        | none => none
      | [.int k] => match ixN xs.length k with
        | some j => match xs[j]? with
          | some d => some (d, S.set n (.lst (xs.eraseIdx j)))
          | none => none
        | none => none
      | _ => none
    | _ => none
  | _ => none
def dPop (fo : De) (fa : Da) : De := fun r S => (fo r S).bind fun o S1 => if isLref S1 o = false then .no else (fa r S1).bind fun ds S2 => match popAt S2 o ds with
  | some p => .ok p.1 p.2
  | none => .no
section
variable {w : World} {K : PySem.W.Frag} {L : Cn} {H : Hp} {S : Store}
theorem RAll.last {vs : List V} {ds : List D} {d : D} (h : RAll w K L H vs ds) (e : ds.getLast? = some d) : ∃ v, vs[vs.length - 1]? = some v ∧ R0 w K L H v d := by
  rw [List.getLast?_eq_getElem?] at e
  rw [h.length]
  exact h.get e
theorem RAll.dropLast {vs : List V} {ds : List D} (h : RAll w K L H vs ds) : RAll w K L H vs.dropLast ds.dropLast := by
  rw [List.dropLast_eq_take, List.dropLast_eq_take, h.length]
  exact h.take _
theorem app_read {vo : V} {vd : V} {o d : D} {S' : Store} {Q : VK} (s : SRep w K L H S) (ro : Rp w K L H vo o) (rd : Rp w K L H vd d) (e : appAt S o d = some S') (q : ∀ H', Ex L H L H' → SRep w K L H' S' → Q .non H') : rAppend vo [vd] H Q := by
  unfold appAt at e
  split at e
  · rename_i n
    split at e
    · rename_i xs e1
      split at e
      · rename_i c
        cases e
        simp only [Bool.and_eq_true, Bool.not_eq_true'] at c
        obtain ⟨a, vs, rfl, h1, h2, z, p⟩ := mut_at ro s e1
        have z2 : vs.length < sizeLine := by rw [p.length]; exact line_of c.2
        exact ⟨a, vs, vd, rfl, rfl, h2, z2, q _ (Ex.write (List.mem_of_getElem? h1)) (mut_write h1 s (by rw [List.length_append]; exact z2) (p.append (.cons (rd.r0 c.1) .nil)))⟩
      · cases e
    · cases e
  · cases e
theorem lref_ty {vo : V} {o : D} (s : SRep w K L H S) (ro : Rp w K L H vo o) (e : ¬ isLref S o = false) : tyV K "list" vo H := by
  unfold isLref at e
  split at e
  · rename_i n
    split at e
    · rename_i xs e1
      obtain ⟨a, vs, rfl, h1, h2, z, p⟩ := mut_at ro s e1
      exact .inl ⟨rfl, vs, SqL.of h2⟩
    · exact absurd rfl e
  · exact absurd rfl e
theorem seq_ix {n : Nat} {k : Int} {j : Nat} (e : ixN n k = some j) : seqIndex? k n = some j ∧ -(n : Int) ≤ k ∧ k < n := by
  obtain ⟨h1, _, h3, h4⟩ := ixN_seq e
  exact ⟨h1, h3, h4⟩
theorem pop_read {vo : V} {vs : List V} {o : D} {ds : List D} {p : D × Store} {Q : VK} (s : SRep w K L H S) (ro : Rp w K L H vo o) (rd : Rps w K L H vs ds) (e : popAt S o ds = some p)
    (q : ∀ H', Ex L H L H' → SRep w K L H' p.2 → ∀ v, Rp w K L H' v p.1 → Q v H') : rPop vo vs H Q ∨ rPopAt vo vs H Q := by
  unfold popAt at e
  split at e
  · rename_i n
    split at e
    · rename_i xs e1
      obtain ⟨a, us, rfl, h1, h2, z, r⟩ := mut_at ro s e1
      have mem := List.mem_of_getElem? h1
      split at e
      · split at e
        · rename_i d e2
          cases e
          cases rd
          obtain ⟨v, e3, rv⟩ := r.last e2
          exact .inl ⟨a, us, v, rfl, rfl, h2, e3, q _ (Ex.write mem) (mut_write h1 s (by rw [List.length_dropLast]; omega) r.dropLast) v (Rp.of (rv.ex (Ex.write mem)))⟩
        · cases e
      · rename_i k
        split at e
        · rename_i j e2
          split at e
          · rename_i d e3
            cases e
            obtain ⟨x, rfl, rx⟩ := rd.one
            cases rx
            obtain ⟨v, e4, rv⟩ := r.get e3
            rw [← r.length] at e2
            obtain ⟨g1, g2, g3⟩ := seq_ix e2
            have hs : sizeLine = 16777216 := sizeLine_eq
            exact .inr ⟨a, us, k, j, v, rfl, rfl, h2, by omega, by omega, g1, e4, q _ (Ex.write mem) (mut_write h1 s (Nat.le_trans (len_erase us j) z) (r.eraseIdx j)) v (Rp.of (rv.ex (Ex.write mem)))⟩
          · cases e
        · cases e
      · cases e
    · cases e
  · cases e
end
section
variable {X : Cx} {Wi : Wish} {o e : Expr} {fo : De} {fa : Da} {apos cpos : Pos}
theorem se_append (ho : SE X Wi o fo) (ha : SA X Wi [e] fa) (hbase : attributeBase o "append" X.env (eval o X.env) = eval o X.env := by rfl)
    (hfew : ((backTo cpos (starEach [e] X.env)).all (fun x => !x.1) && (backToKw cpos (keywordEach [] X.env)).all (fun x => x.1.isSome)
      && decide (([e] : List Expr).length + ([] : List Keyword).length + (if ([] : List Keyword).isEmpty then 0 else 1) < 30)) = true := by rfl)
    (hline : (apos.endLine == cpos.line) = true := by rfl) (hs : starEach [e] X.env = (false, eval e X.env) :: starEach [] X.env := by rfl) : SE X Wi (.Call (.Attribute o "append" apos) [e] [] cpos) (dApp fo fa) :=
  pe_imp (pe_bm PySem.F.plainAttrs_list PySem.F.slot_list_append PySem.F.type_list_append mt_append ho ha hbase hfew hline hs rfl) fun s H Q h => by
    obtain ⟨L, S, r, er, sr, h⟩ := h
    refine ⟨L, S, r, er, sr, (After.bnd h).mono fun ov S1 L1 H1 e1 s1 h1 vo ro => ?_⟩
    split at h1
    · exact False.elim h1
    · rename_i c
      refine ⟨lref_ty s1 ro c, L1, S1, r, er.ex e1, s1, (After.bnd h1).mono fun ds S2 L2 H2 e2 s2 h2 vs rvs => ?_⟩
      split at h2
      · rename_i d
        obtain ⟨v, rfl, rv⟩ := rvs.one
        cases q : appAt S2 ov d with
        | none => rw [q] at h2; exact False.elim h2
        | some S' => rw [q] at h2; exact app_read s2 (ro.ex e2) rv q fun H' e' s' => h2 L2 H' e' s' _ (Rp.of .non)
      · exact False.elim h2
theorem se_pop1 (ho : SE X Wi o fo) (ha : SA X Wi [e] fa) (hbase : attributeBase o "pop" X.env (eval o X.env) = eval o X.env := by rfl)
    (hfew : ((backTo cpos (starEach [e] X.env)).all (fun x => !x.1) && (backToKw cpos (keywordEach [] X.env)).all (fun x => x.1.isSome)
      && decide (([e] : List Expr).length + ([] : List Keyword).length + (if ([] : List Keyword).isEmpty then 0 else 1) < 30)) = true := by rfl)
    (hline : (apos.endLine == cpos.line) = true := by rfl) (hs : starEach [e] X.env = (false, eval e X.env) :: starEach [] X.env := by rfl) : SE X Wi (.Call (.Attribute o "pop" apos) [e] [] cpos) (dPop fo fa) :=
  pe_imp (pe_bm PySem.F.plainAttrs_list PySem.F.slot_list_pop PySem.F.type_list_pop (MtR.or mt_pop mt_popAt) ho ha hbase hfew hline hs rfl) fun s H Q h => by
    obtain ⟨L, S, r, er, sr, h⟩ := h
    refine ⟨L, S, r, er, sr, (After.bnd h).mono fun ov S1 L1 H1 e1 s1 h1 vo ro => ?_⟩
    split at h1
    · exact False.elim h1
    · rename_i c
      refine ⟨lref_ty s1 ro c, L1, S1, r, er.ex e1, s1, (After.bnd h1).mono fun ds S2 L2 H2 e2 s2 h2 vs rvs => ?_⟩
      cases q : popAt S2 ov ds with
      | none => rw [q] at h2; exact False.elim h2
      | some p => rw [q] at h2; exact pop_read s2 (ro.ex e2) rvs q fun H' e' s' v rv => h2 L2 H' e' s' v rv
end
end Ws
namespace Ws
open PySem PySem.Spec PyProof.Rows L2 RZ
def enumD : Nat → List D → List D
  | _, [] => []
  | k, d :: r => .tupw [.int k, d] :: enumD (k + 1) r
def zipD : List D → List D → List D
  | d :: r, e :: q => .tupw [d, e] :: zipD r q
  | _, _ => []
/-- a list: as it is, or a mutable one -/
inductive Zs where
  | fx (xs : List D)
  | lv (n : Nat)
/-- what is read turn by turn -/
inductive Lv where
  | one (n : Nat)
  | zip (a b : Zs)
  | enu (n : Nat)
inductive ItD where
  | fix (xs : List D)
  | live (l : Lv)
def liveAt (S : Store) (n : Nat) : Option (List D) := match S[n]? with
  | some (.lst xs) => some xs
  | _ => none
theorem liveAt_eq {S : Store} {n : Nat} {xs : List D} (h : liveAt S n = some xs) : S[n]? = some (.lst xs) := by
  unfold liveAt at h
  split at h
  · rename_i ys e; cases h; exact e
  · cases h
def Zs.at (S : Store) : Zs → Option (List D)
  | .fx xs => some xs
  | .lv n => liveAt S n
def Lv.at (S : Store) : Lv → Option (List D)
  | .one n => liveAt S n
  | .zip a b => match a.at S, b.at S with
    | some xs, some ys => some (zipD xs ys)
    | _, _ => none
  | .enu n => (liveAt S n).map (enumD 0)
def ItD.at (S : Store) : ItD → Option (List D)
  | .fix xs => some xs
  | .live l => l.at S
def ItOk (w : World) (K : PySem.W.Frag) (L0 : Cn) (H0 : Hp) (it : ItD) (J : It) : Prop :=
  ∀ (i : Nat) (L : Cn) (H : Hp) (S : Store) (xs : List D), Ew K L0 H0 L H → SRep w K L H S → it.at S = some xs →
    xs.length ≤ sizeLine ∧ (∀ d, xs[i]? = some d → J.go i H ∧ ∀ x H', J.yld i H x H' → Ex L H L H' ∧ SRep w K L H' S ∧ R0 w K L H' x d) ∧ (xs[i]? = none → J.stop i H)
abbrev Di := Sl → Store → Out ItD
def tIt (w : World) (K : PySem.W.Frag) (Wi : Wish) (f : Di) : TI := fun s H R => ∃ L S r, ERep w K L H s r ∧ SRep w K L H S ∧ After w K Wi L H (f r S) fun it _ L' H' => ∀ J, ItOk w K L' H' it J → R J H'
abbrev SI (X : Cx) (Wi : Wish) (tg iter : Expr) (f : Di) : Prop := PI X tg iter (tIt X.w X.K Wi f)
theorem pi_imp {X : Cx} {tg iter : Expr} {t t' : TI} (h : PI X tg iter t) (i : ∀ s H Q, t' s H Q → t s H Q) : PI X tg iter t' := ⟨fun pins s σ H Q I q => h.run pins s σ H Q I (i _ _ _ q)⟩
/-- the keys of a dict, in their order -/
def ItDc (w : World) (d : Addr) (o : Obj) (xs : List Ent) : It :=
  ⟨fun i H => H d = some (DctNO w d xs o) ∧ i < xs.length, fun i H x H' => H' = H ∧ ∃ p, xs[i]? = some p ∧ x = .ref p.2.1, fun i H => H d = some (DctNO w d xs o) ∧ xs.length ≤ i⟩
theorem paired_at {α β : Type} {F : α → β → Prop} : ∀ {l₁ : List α} {l₂ : List β} {i : Nat} {a : α}, Paired F l₁ l₂ → l₁[i]? = some a → ∃ b, l₂[i]? = some b ∧ F a b
  | _, _, _, _, .nil, e => by simp at e
  | _, _, 0, _, .cons h _, e => by simp at e; subst e; exact ⟨_, rfl, h⟩
  | _, _, i + 1, _, .cons _ t, e => by simpa using paired_at (i := i) t (by simpa using e)
/-- the entry at a place -/
theorem dc_entry {w : World} {h : Heap} {d : Addr} {xs : List Ent} {o : Obj} {es : Array DictEntry} {ep : Nat} (R : Dn0 w h d xs o) (hod : o.data = .dict es ep) : h.get? d = some o ∧ es.size = xs.length ∧ ∀ (i : Nat) p, xs[i]? = some p → ∃ en, es[i]? = some en ∧ en.key = .ref p.2.1 := by
  obtain ⟨ys, hp, es', ep', ho, _, hd, he, _⟩ := R.ex
  rw [hod] at hd
  cases hd
  refine ⟨ho, by rw [← Array.length_toList, he, List.length_map, hp.length], fun i p e => ?_⟩
  obtain ⟨y, hy, r⟩ := paired_at hp e
  refine ⟨⟨y.1.hash w, .ref y.2.1, y.2.2⟩, ?_, by rw [r.2.1]⟩
  rw [← Array.getElem?_toList, he, List.getElem?_map, hy]; rfl
theorem turn_dc {P : Program} {w : World} {K : PySem.W.Frag} {tg : Expr} {d : Addr} {o : Obj} {es : Array DictEntry} {ep : Nat} {xs : List Ent} (it : Addr) (hod : o.data = .dict es ep) : Turn P w K tg (ItDc w d o xs) [it] it (fun i h => h.IsKeyIter it d i xs.length ep) where
  mem := List.mem_singleton.mpr rfl
  obj := fun i h st b hb => by
    cases List.mem_singleton.mp hb
    obtain ⟨oi, e, _, dd⟩ := st
    exact ⟨oi, e, fun v z => by rw [dd] at z; cases z⟩
  keep := fun i h h' st k => st.at (k it (List.mem_singleton.mpr rfl))
  item := by
    intro X hP hw hK _ i pins s σ H E I hf st hg
    subst hP hw hK
    obtain ⟨hd, hi⟩ := hg
    obtain ⟨f0, f1, _, f3, f4, f5⟩ := hf it (List.mem_singleton.mpr rfl)
    obtain ⟨hgd, hsz, ent⟩ := dc_entry (show Dn0 X.w s.heap d xs o from (I.hok d _ hd).1) hod
    obtain ⟨en, hen, hkey⟩ := ent i xs[i] (List.getElem?_eq_getElem hi)
    refine next_key_item st hgd hod hsz hen fun h' st' sb => ?_
    have J : L2.Inv X pins σ H { s with heap := h' } := I.turned (t' := s.toks) (fun b ob hb e => (sb.2 b hb).trans e) f0 f1 f3 f4 f5
    obtain ⟨oi, e, c, dd⟩ := id st'
    exact ⟨en.key, rfl, go_of (s := { s with heap := h' }) e c dd (by decide) ⟨.ref xs[i].2.1, H, J, hkey, ⟨rfl, _, List.getElem?_eq_getElem hi, rfl⟩, st', fun b hb => (hf b hb).1⟩⟩
  done := by
    intro X hP hw hK hc i pins s σ H E I hf st hg
    subst hP hw hK
    obtain ⟨hd, hi⟩ := hg
    obtain ⟨f0, f1, _, f3, f4, f5⟩ := hf it (List.mem_singleton.mpr rfl)
    obtain ⟨hgd, hsz, _⟩ := dc_entry (show Dn0 X.w s.heap d xs o from (I.hok d _ hd).1) hod
    exact next_key_end (I.ok.hd hc) st hgd hod hsz hi fun h' eb => ⟨rfl, I.turned (t' := s.toks) (fun b ob hb e => eb b ob hb e) f0 f1 f3 f4 f5⟩
  self := fun A i s Q E st h => wpAny_pyIter_keyiter st h
section
variable {X : Cx} {Wi : Wish} {tg : Expr}
/-- a list or a tuple, whichever it is -/
def iEither (w : World) (K : PySem.W.Frag) (tl : TE) : TI := fun s H R => tl s H fun x H1 => ∃ a, x = .ref a ∧ (((∃ xs, SqL K H1 a xs) ∧ R (Itl K a) H1) ∨ ((∃ xs, SqT K H1 a xs) ∧ R (Itt K a) H1) ∨ ∃ xs o, H1 a = some (DctNO w a xs o) ∧ R (ItDc w a o xs) H1)
theorem pi_either {l : Expr} {tl : TE} (hl : PE X l tl) : PI X tg l (iEither X.w X.K tl) := by
  refine ⟨fun pins s σ H R I h => ?_⟩
  refine thn (hl.run pins s σ H _ I h) fun v s1 ⟨x, H1, I1, r1, q1⟩ => ?_
  obtain ⟨a, e, q1⟩ := q1
  subst e
  cases r1
  have one : ∀ b ∈ [s1.heap.objs.size], FpOk X pins H1 b := fun b hb => by
    rw [List.mem_singleton.mp hb]
    exact I1.fpOk (Nat.le_refl _) I1.fresh
  rcases q1 with ⟨⟨xs, hq⟩, q⟩ | ⟨⟨xs, hq⟩, q⟩ | ⟨xs, o, hq, q⟩
  · obtain ⟨its, rv, pl, _⟩ := I1.list hq
    refine wpAny_pyIter_list pl.isList ?_
    exact ⟨_, _, _, _, H1, rfl, I1.kept (t' := s1.toks) fun _ _ z => Heap.get?_push_of_some _ z, turn_list a _, ⟨_, Heap.get?_push_size _ rfl, rfl, rfl⟩, one, q⟩
  · obtain ⟨its, rv, pl, _⟩ := I1.tuple hq
    refine wpAny_pyIter_tuple (show s1.heap.IsTuple a its.toArray from pl) ?_
    exact ⟨_, _, _, _, H1, rfl, I1.kept (t' := s1.toks) fun _ _ z => Heap.get?_push_of_some _ z, turn_tuple a _, ⟨_, Heap.get?_push_size _ rfl, rfl, rfl⟩, one, q⟩
  · have R : Dn0 X.w s1.heap a xs o := (I1.hok a _ hq).1
    obtain ⟨_, _, es, ep, ho, hc, hd, _, _⟩ := R.ex
    obtain ⟨_, hsz, _⟩ := dc_entry R hd
    refine wpAny_pyIter_dict_raw R.nsys ⟨o, ho, hc, hd⟩ ?_
    rw [hsz]
    exact ⟨_, _, _, _, H1, rfl, I1.kept (t' := s1.toks) fun _ _ z => Heap.get?_push_of_some _ z, turn_dc _ hd, ⟨_, Heap.get?_push_size _ rfl, rfl, rfl⟩, one, q⟩
end
def iSeq (f : De) : Di := fun r S => (f r S).bind fun d S1 => match d with
  | .lst xs => .ok (.fix xs) S1
  | .tup xs => .ok (.fix xs) S1
  | .scr ns => .ok (.fix (ns.map .int)) S1
  | .dct ks _ => if lineOk ks.length then .ok (.fix ks) S1 else .no
  | .ref n => match S1[n]? with
    | some (.lst _) => .ok (.live (.one n)) S1
    | _ => .no
  | _ => .no
section
variable {w : World} {K : PySem.W.Frag} {L : Cn} {H : Hp}
theorem getV_none {vs : List V} {ds : List D} {i : Nat} (h : RAll w K L H vs ds) (e : ds[i]? = none) : vs.length ≤ i := by
  rw [h.length]; exact List.getElem?_eq_none_iff.mp e
theorem ok_lst {a : Addr} {vs : List V} {ds : List D} (h : LstAt L H a vs) (z : vs.length ≤ sizeLine) (q : RAll w K L H vs ds) : ItOk w K L H (.fix ds) (Itl K a) := by
  intro i L1 H1 S xs e s ex
  cases ex
  have h1 := h.ew e
  have q1 := q.ew e
  refine ⟨by rw [← q.length]; exact z, fun d hd => ?_, fun hd => ⟨vs, h1.sq, getV_none q hd⟩⟩
  obtain ⟨v, hv, rv⟩ := q1.get hd
  refine ⟨⟨vs, v, h1.sq, hv⟩, fun x H' y => ?_⟩
  obtain ⟨rfl, y⟩ := y
  have := y vs h1.sq
  rw [hv] at this; cases this
  exact ⟨Ex.refl, s, rv⟩
theorem ok_tup {a : Addr} {vs : List V} {ds : List D} (h : TupAt K L H a vs) (z : vs.length ≤ sizeLine) (q : RAll w K L H vs ds) : ItOk w K L H (.fix ds) (Itt K a) := by
  intro i L1 H1 S xs e s ex
  cases ex
  have h1 := h.ew e
  have q1 := q.ew e
  refine ⟨by rw [← q.length]; exact z, fun d hd => ?_, fun hd => ⟨vs, h1.sq, getV_none q hd⟩⟩
  obtain ⟨v, hv, rv⟩ := q1.get hd
  refine ⟨⟨vs, v, h1.sq, hv⟩, fun x H' y => ?_⟩
  obtain ⟨rfl, y⟩ := y
  have := y vs h1.sq
  rw [hv] at this; cases this
  exact ⟨Ex.refl, s, rv⟩
theorem ok_dct {a : Addr} {xs : List Ent} {o : Obj} {ks : List D} (h : H a = some (DctNO w a xs o)) (n : L.No a) (z : xs.length ≤ sizeLine) (q : RAll w K L H (xs.map fun p => V.ref p.2.1) ks) : ItOk w K L H (.fix ks) (ItDc w a o xs) := by
  intro i L1 H1 S ys e s ex
  cases ex
  have h1 := (e.at_ a _ n h).2
  have q1 := q.ew e
  have hl : xs.length = ks.length := by have := q.length; rwa [List.length_map] at this
  refine ⟨by rw [← hl]; exact z, fun d hd => ?_, fun hd => ⟨h1, by rw [hl]; exact List.getElem?_eq_none_iff.mp hd⟩⟩
  have hi : i < xs.length := by rw [hl]; exact (List.getElem?_eq_some_iff.mp hd).1
  obtain ⟨v, hv, rv⟩ := q1.get hd
  refine ⟨⟨h1, hi⟩, fun x H' y => ?_⟩
  obtain ⟨rfl, p, hp, rfl⟩ := y
  rw [List.getElem?_map, hp] at hv
  cases hv
  exact ⟨Ex.refl, s, rv⟩
theorem ok_scr {a : Addr} {ns : List Int} (r : R0 w K L H (.ref a) (.scr ns)) : ItOk w K L H (.fix (ns.map .int)) (Itl K a) := by
  intro i L1 H1 S xs e s ex
  cases ex
  obtain ⟨a', e1, h1, zl⟩ := scr_sq (r.ew e)
  cases e1
  refine ⟨by rw [List.length_map]; exact Nat.le_trans zl (by decide), fun d hd => ?_, fun hd => ⟨_, h1, ?_⟩⟩
  · obtain ⟨n, hn, rfl⟩ : ∃ n, ns[i]? = some n ∧ D.int n = d := by simpa using hd
    have hv : (ns.map V.int)[i]? = some (V.int n) := by simp [hn]
    refine ⟨⟨_, _, h1, hv⟩, fun x H' y => ?_⟩
    obtain ⟨rfl, y⟩ := y
    have := y _ h1
    rw [hv] at this; cases this
    exact ⟨Ex.refl, s, .int n⟩
  · have := List.getElem?_eq_none_iff.mp hd
    simpa using this
theorem ok_live {a : Addr} {n : Nat} (h : L.l[n]? = some a) : ItOk w K L H (.live (.one n)) (Itl K a) := by
  intro i L1 H1 S xs e s ex
  have h1 : L1.l[n]? = some a := e.ref n a h
  have ex : S[n]? = some (.lst xs) := liveAt_eq ex
  obtain ⟨vs, g1, z, q⟩ := s.obj n a _ h1 ex
  refine ⟨by rw [← q.length]; exact z, fun d hd => ?_, fun hd => ⟨vs, SqL.of g1, getV_none q hd⟩⟩
  obtain ⟨v, hv, rv⟩ := q.get hd
  refine ⟨⟨vs, v, SqL.of g1, hv⟩, fun x H' y => ?_⟩
  obtain ⟨rfl, y⟩ := y
  have := y vs (SqL.of g1)
  rw [hv] at this; cases this
  exact ⟨Ex.refl, s, rv⟩
end
section
variable {X : Cx} {Wi : Wish} {tg : Expr}
theorem si_seq {l : Expr} {f : De} (hl : SE X Wi l f) : SI X Wi tg l (iSeq f) := pi_imp (pi_either hl) fun s H R h => by
  obtain ⟨L, S, r, er, sr, h⟩ := h
  refine ⟨L, S, r, er, sr, (After.bnd h).mono fun d S1 L1 H1 e1 s1 h1 x rx => ?_⟩
  cases d with
  | lst xs =>
    cases rx with
    | lst g z q => exact ⟨_, rfl, .inl ⟨⟨_, g.sq⟩, h1 L1 H1 Ex.refl s1 _ (ok_lst g z q)⟩⟩
  | tup xs =>
    cases rx with
    | tup g z q => exact ⟨_, rfl, .inr (.inl ⟨⟨_, g.sq⟩, h1 L1 H1 Ex.refl s1 _ (ok_tup g z q)⟩)⟩
  | dct ks vs =>
    cases rx with
    | @dct a xs o _ _ g n r k dd r2 =>
      have h1 : After X.w X.K Wi L1 H1 (if lineOk ks.length then Out.ok (.fix ks) S1 else Out.no) fun it _ L' H' => ∀ J, ItOk X.w X.K L' H' it J → R J H' := h1
      split at h1
      · rename_i c
        have hl : xs.length = ks.length := by have := r.length; rwa [List.length_map] at this
        exact ⟨_, rfl, .inr (.inr ⟨xs, o, g, h1 L1 H1 Ex.refl s1 _ (ok_dct g n (by rw [hl]; exact line_of c) r)⟩)⟩
      · exact False.elim h1
  | scr ns =>
    obtain ⟨a, rfl, g, _⟩ := scr_sq rx
    exact ⟨_, rfl, .inl ⟨⟨_, g⟩, h1 L1 H1 Ex.refl s1 _ (ok_scr rx)⟩⟩
  | ref n =>
    obtain ⟨a, g, rfl⟩ := rx
    obtain ⟨d, g1, o⟩ := s1.at g
    cases d with
    | lst ds =>
      obtain ⟨vs, g2, _⟩ := o
      have h1 : After X.w X.K Wi L1 H1 (match S1[n]? with | some (.lst _) => Out.ok (.live (.one n)) S1 | _ => Out.no) fun it _ L' H' => ∀ J, ItOk X.w X.K L' H' it J → R J H' := h1
      rw [g1] at h1
      exact ⟨_, rfl, .inl ⟨⟨_, SqL.of g2⟩, h1 L1 H1 Ex.refl s1 _ (ok_live g)⟩⟩
    | dct ks vs =>
      have h1 : After X.w X.K Wi L1 H1 (match S1[n]? with | some (.lst _) => Out.ok (.live (.one n)) S1 | _ => Out.no) fun it _ L' H' => ∀ J, ItOk X.w X.K L' H' it J → R J H' := h1
      rw [g1] at h1
      exact False.elim h1
    | _ => exact False.elim o
  | _ => exact False.elim h1
end
/-- lo, lo + 1, .. -/
def rngD (lo : Int) : Nat → List D
  | 0 => []
  | n + 1 => .int lo :: rngD (lo + 1) n
theorem rngD_get : ∀ (n : Nat) (lo : Int) (i : Nat), (rngD lo n)[i]? = if i < n then some (.int (lo + i)) else none
  | 0, lo, i => by simp [rngD]
  | n + 1, lo, 0 => by simp [rngD]
  | n + 1, lo, i + 1 => by
    rw [rngD, List.getElem?_cons_succ, rngD_get n (lo + 1) i]
    by_cases h : i < n
    · rw [if_pos h, if_pos (by omega)]; congr 2; omega
    · rw [if_neg h, if_neg (by omega)]
theorem rngD_len (lo : Int) : ∀ n, (rngD lo n).length = n
  | 0 => rfl
  | n + 1 => by rw [rngD, List.length_cons, rngD_len]
def smallR (i : Int) : Bool := decide (-4611686018427387904 ≤ i) && decide (i < 4611686018427387904)
def iRan1 (f : Da) : Di := fun r S => (f r S).bind fun ds S1 => match ds with
  | [.int j] => if smallR j && lineOk j.toNat then .ok (.fix (rngD 0 j.toNat)) S1 else .no
  | _ => .no
def iRan2 (f : Da) : Di := fun r S => (f r S).bind fun ds S1 => match ds with
  | [.int i, .int j] => if smallR i && smallR j && lineOk (j - i).toNat then .ok (.fix (rngD i (j - i).toNat)) S1 else .no
  | _ => .no
section
variable {w : World} {K : PySem.W.Frag} {L : Cn} {H : Hp}
theorem ok_rng {lo : Int} {n : Nat} (z : n ≤ sizeLine) : ItOk w K L H (.fix (rngD lo n)) (Itr lo n) := by
  intro i L1 H1 S xs e s ex
  cases ex
  rw [rngD_get]
  refine ⟨by rw [rngD_len]; exact z, fun d hd => ?_, fun hd => ?_⟩
  · split at hd
    · rename_i hi
      cases hd
      refine ⟨hi, fun x H' y => ?_⟩
      obtain ⟨rfl, rfl⟩ := y
      exact ⟨Ex.refl, s, .int _⟩
    · cases hd
  · split at hd
    · cases hd
    · rename_i hi; exact Nat.le_of_not_lt hi
end
section
variable {X : Cx} {Wi : Wish} {tg : Expr} {p pos : Pos}
theorem si_range1 {a : Expr} {f : Da} (hg : Gl X "range") (hm : X.mg "range" = none) (ha : SA X Wi [a] f) (hs : starEach [a] X.env = [(false, eval a X.env)] := by rfl) : SI X Wi tg (.Call (.Name "range" p) [a] [] pos) (iRan1 f) :=
  pi_imp (pi_range1 hg hm ha hs) fun s H R h => by
    obtain ⟨L, S, r, er, sr, h⟩ := h
    refine ⟨L, S, r, er, sr, (After.bnd h).mono fun ds S1 L1 H1 e1 s1 h1 vs rvs => ?_⟩
    split at h1
    · rename_i j
      split at h1
      · rename_i c
        unfold smallR at c
        simp only [Bool.and_eq_true, decide_eq_true_eq] at c
        obtain ⟨x, rfl, rx⟩ := rvs.one
        cases rx
        exact ⟨j, rfl, by omega, by omega, h1 L1 H1 Ex.refl s1 _ (ok_rng (line_of c.2))⟩
      · exact False.elim h1
    · exact False.elim h1
end
theorem enumD_get : ∀ (ds : List D) (k i : Nat), (enumD k ds)[i]? = (ds[i]?).map fun d => .tupw [.int ((k + i : Nat) : Int), d]
  | [], k, i => by simp [enumD]
  | d :: r, k, 0 => by simp [enumD]
  | d :: r, k, i + 1 => by
    rw [enumD, List.getElem?_cons_succ, enumD_get r (k + 1) i, List.getElem?_cons_succ]
    have e : k + 1 + i = k + (i + 1) := by omega
    rw [e]
theorem enumD_len : ∀ (ds : List D) (k : Nat), (enumD k ds).length = ds.length
  | [], _ => rfl
  | d :: r, k => by rw [enumD, List.length_cons, List.length_cons, enumD_len r]
theorem zipD_get : ∀ (ds es : List D) (i : Nat), (zipD ds es)[i]? = match ds[i]?, es[i]? with | some d, some e => some (.tupw [d, e]) | _, _ => none
  | [], es, i => by simp [zipD]
  | d :: r, [], i => by
    rw [zipD]
    · cases h : (d :: r)[i]? <;> simp
    · intro _ _ _ _ _ z; cases z
  | d :: r, e :: q, 0 => by simp [zipD]
  | d :: r, e :: q, i + 1 => by
    rw [zipD, List.getElem?_cons_succ, zipD_get r q i, List.getElem?_cons_succ, List.getElem?_cons_succ]
theorem zipD_len : ∀ (ds es : List D), (zipD ds es).length ≤ ds.length
  | [], es => by simp [zipD]
  | d :: r, [] => by simp [zipD]
  | d :: r, e :: q => by rw [zipD, List.length_cons, List.length_cons]; exact Nat.succ_le_succ (zipD_len r q)
def iEnu (f : Da) : Di := fun r S => (f r S).bind fun ds S1 => match ds with
  | [.lst xs] => .ok (.fix (enumD 0 xs)) S1
  | [.ref n] => match S1[n]? with
    | some (.lst _) => .ok (.live (.enu n)) S1
    | _ => .no
  | _ => .no
def srcOf (S : Store) : D → Option Zs
  | .lst xs => some (.fx xs)
  | .ref n => match S[n]? with
    | some (.lst _) => some (.lv n)
    | _ => none
  | _ => none
def zipIt : Zs → Zs → ItD
  | .fx xs, .fx ys => .fix (zipD xs ys)
  | a, b => .live (.zip a b)
def iZipD (f : Da) : Di := fun r S => (f r S).bind fun ds S1 => match ds with
  | [.tup xs, .tup ys] => .ok (.fix (zipD xs ys)) S1
  | [x, y] => match srcOf S1 x, srcOf S1 y with
    | some a, some b => .ok (zipIt a b) S1
    | _, _ => .no
  | _ => .no
section
variable {w : World} {K : PySem.W.Frag} {L : Cn} {H : Hp}
theorem pair_new {S : Store} {T : Addr} {x y : V} {d e : D} (s : SRep w K L H S) (nT : H T = none) (rx : R0 w K L H x d) (ry : R0 w K L H y e) :
    Ex L H L (upd H T (.tup [x, y])) ∧ SRep w K L (upd H T (.tup [x, y])) S ∧ R0 w K L (upd H T (.tup [x, y])) (.ref T) (.tupw [d, e]) :=
  ⟨Ex.new nT, s.new nT, Rp.r0 (new_tupw s nT (by show 2 ≤ sizeLine; decide) (.cons rx (.cons ry .nil))) rfl⟩
theorem ok_enum {a : Addr} {vs : List V} {ds : List D} (h : LstAt L H a vs) (z : vs.length ≤ sizeLine) (q : RAll w K L H vs ds) : ItOk w K L H (.fix (enumD 0 ds)) (Ite K a) := by
  intro i L1 H1 S xs e s ex
  cases ex
  have h1 := h.ew e
  have q1 := q.ew e
  rw [enumD_get]
  refine ⟨by rw [enumD_len, ← q.length]; exact z, fun d hd => ?_, fun hd => ⟨vs, h1.sq, ?_⟩⟩
  · simp only [Option.map_eq_some_iff] at hd
    obtain ⟨c, hc, rfl⟩ := hd
    obtain ⟨v, hv, rv⟩ := q1.get hc
    refine ⟨⟨vs, v, h1.sq, hv⟩, fun x H' y => ?_⟩
    obtain ⟨T, z, rfl, nT, rfl, y⟩ := y
    have := y vs h1.sq
    rw [hv] at this; cases this
    rw [Nat.zero_add]
    exact pair_new s nT (.int _) rv
  · simp only [Option.map_eq_none_iff] at hd
    exact getV_none q hd
theorem zip_cases {ds es : List D} {i : Nat} {d : D} (h : (zipD ds es)[i]? = some d) : ∃ a b, ds[i]? = some a ∧ es[i]? = some b ∧ d = .tupw [a, b] := by
  rw [zipD_get] at h
  split at h
  · rename_i a b h1 h2; cases h; exact ⟨a, b, h1, h2, rfl⟩
  · cases h
theorem zip_none {ds es : List D} {i : Nat} (h : (zipD ds es)[i]? = none) : ds[i]? = none ∨ es[i]? = none := by
  rw [zipD_get] at h
  cases h1 : ds[i]? with
  | none => exact .inl rfl
  | some a =>
    cases h2 : es[i]? with
    | none => exact .inr rfl
    | some b => rw [h1, h2] at h; cases h
/-- the list behind a source -/
def SrcOk (w : World) (K : PySem.W.Frag) (L : Cn) (H : Hp) (z : Zs) (a : Addr) : Prop := match z with
  | .fx ds => ∃ vs, LstAt L H a vs ∧ vs.length ≤ sizeLine ∧ RAll w K L H vs ds
  | .lv n => L.l[n]? = some a
theorem SrcOk.now {z : Zs} {a : Addr} {L1 : Cn} {H1 : Hp} {S : Store} {xs : List D} (h : SrcOk w K L H z a) (e : Ew K L H L1 H1) (s : SRep w K L1 H1 S) (ex : z.at S = some xs) : ∃ vs, SqL K H1 a vs ∧ vs.length ≤ sizeLine ∧ RAll w K L1 H1 vs xs := by
  cases z with
  | fx ds =>
    cases ex
    obtain ⟨vs, h1, h2, h3⟩ := h
    exact ⟨vs, (h1.ew e).sq, h2, h3.ew e⟩
  | lv n =>
    obtain ⟨vs, g1, z, q⟩ := s.obj n a _ (e.ref n a h) (liveAt_eq ex)
    exact ⟨vs, SqL.of g1, z, q⟩
theorem zip_at {a b : Zs} {S : Store} : (zipIt a b).at S = (Lv.zip a b).at S := by cases a <;> cases b <;> rfl
theorem ok_zipL {a b : Addr} {z z' : Zs} (h : SrcOk w K L H z a) (h' : SrcOk w K L H z' b) : ItOk w K L H (zipIt z z') (Itz K a b) := by
  intro i L1 H1 S xs e s ex
  rw [zip_at] at ex
  have ex : (match z.at S, z'.at S with | some xs, some ys => some (zipD xs ys) | _, _ => none) = some xs := ex
  split at ex
  · rename_i ds es e1 e2
    cases ex
    obtain ⟨vs, h1, z1, q1⟩ := h.now e s e1
    obtain ⟨us, h2, z2, q2⟩ := h'.now e s e2
    refine ⟨Nat.le_trans (zipD_len ds es) (by rw [← q1.length]; exact z1), fun d hd => ?_, fun hd => ⟨vs, us, h1, h2, ?_⟩⟩
    · obtain ⟨c, c', hc, hc', rfl⟩ := zip_cases hd
      obtain ⟨v, hv, rv⟩ := q1.get hc
      obtain ⟨v', hv', rv'⟩ := q2.get hc'
      refine ⟨⟨vs, us, v, v', h1, h2, hv, hv'⟩, fun x H' y => ?_⟩
      obtain ⟨T, z, z', rfl, nT, rfl, y, y'⟩ := y
      have e1 := y vs h1
      rw [hv] at e1; cases e1
      have e2 := y' us h2
      rw [hv'] at e2; cases e2
      exact pair_new s nT rv rv'
    · rcases zip_none hd with z | z
      · exact .inl (getV_none q1 z)
      · exact .inr (getV_none q2 z)
  · cases ex
theorem ok_enumL {a : Addr} {n : Nat} (h : L.l[n]? = some a) : ItOk w K L H (.live (.enu n)) (Ite K a) := by
  intro i L1 H1 S xs e s ex
  have h1 : L1.l[n]? = some a := e.ref n a h
  have ex : (liveAt S n).map (enumD 0) = some xs := ex
  obtain ⟨ds, hd0, rfl⟩ := Option.map_eq_some_iff.mp ex
  obtain ⟨vs, g1, z, q⟩ := s.obj n a _ h1 (liveAt_eq hd0)
  rw [enumD_get]
  refine ⟨by rw [enumD_len, ← q.length]; exact z, fun d hd => ?_, fun hd => ⟨vs, SqL.of g1, ?_⟩⟩
  · simp only [Option.map_eq_some_iff] at hd
    obtain ⟨c, hc, rfl⟩ := hd
    obtain ⟨v, hv, rv⟩ := q.get hc
    refine ⟨⟨vs, v, SqL.of g1, hv⟩, fun x H' y => ?_⟩
    obtain ⟨T, z, rfl, nT, rfl, y⟩ := y
    have := y vs (SqL.of g1)
    rw [hv] at this; cases this
    rw [Nat.zero_add]
    exact pair_new s nT (.int _) rv
  · simp only [Option.map_eq_none_iff] at hd
    exact getV_none q hd
/-- a value that is a list, and its source -/
theorem src_ok {S : Store} {v : V} {d : D} {z : Zs} (s : SRep w K L H S) (r : Rp w K L H v d) (e : srcOf S d = some z) : ∃ a vs, v = .ref a ∧ SqL K H a vs ∧ SrcOk w K L H z a := by
  cases d with
  | lst ds =>
    cases e
    cases r with
    | lst g z q => exact ⟨_, _, rfl, g.sq, _, g, z, q⟩
  | ref n =>
    obtain ⟨a, g, rfl⟩ := r
    obtain ⟨d, g1, o⟩ := s.at g
    have e : (match S[n]? with | some (.lst _) => some (Zs.lv n) | _ => none) = some z := e
    rw [g1] at e
    cases d with
    | lst ds =>
      cases e
      obtain ⟨vs, g2, _⟩ := o
      exact ⟨a, vs, rfl, SqL.of g2, g⟩
    | dct ks vs => cases e
    | _ => exact False.elim o
  | _ => cases e
theorem ok_zipT {a b : Addr} {vs us : List V} {ds es : List D} (h : TupAt K L H a vs) (z : vs.length ≤ sizeLine) (q : RAll w K L H vs ds) (h' : TupAt K L H b us) (q' : RAll w K L H us es) : ItOk w K L H (.fix (zipD ds es)) (ItzT K a b) := by
  intro i L1 H1 S xs e s ex
  cases ex
  have h1 := h.ew e
  have q1 := q.ew e
  have h2 := h'.ew e
  have q2 := q'.ew e
  refine ⟨Nat.le_trans (zipD_len ds es) (by rw [← q.length]; exact z), fun d hd => ?_, fun hd => ⟨vs, us, h1.sq, h2.sq, ?_⟩⟩
  · obtain ⟨c, c', hc, hc', rfl⟩ := zip_cases hd
    obtain ⟨v, hv, rv⟩ := q1.get hc
    obtain ⟨v', hv', rv'⟩ := q2.get hc'
    refine ⟨⟨vs, us, v, v', h1.sq, h2.sq, hv, hv'⟩, fun x H' y => ?_⟩
    obtain ⟨T, z, z', rfl, nT, rfl, y, y'⟩ := y
    have e1 := y vs h1.sq
    rw [hv] at e1; cases e1
    have e2 := y' us h2.sq
    rw [hv'] at e2; cases e2
    exact pair_new s nT rv rv'
  · rcases zip_none hd with z | z
    · exact .inl (getV_none q z)
    · exact .inr (getV_none q' z)
end
section
variable {X : Cx} {Wi : Wish} {p pos tpos : Pos} {elts : List Expr} {kk : Nat}
theorem si_enum {e : Expr} {f : Da} (hg : Gl X "enumerate") (hm : X.mg "enumerate" = none) (ha : SA X Wi [e] f) (hs : starEach [e] X.env = [(false, eval e X.env)] := by rfl) : SI X Wi (.Tuple elts kk tpos) (.Call (.Name "enumerate" p) [e] [] pos) (iEnu f) :=
  pi_imp (pi_enum hg hm ha hs) fun s H R h => by
    obtain ⟨L, S, r, er, sr, h⟩ := h
    refine ⟨L, S, r, er, sr, (After.bnd h).mono fun ds S1 L1 H1 e1 s1 h1 vs rvs => ?_⟩
    split at h1
    · obtain ⟨x, rfl, rx⟩ := rvs.one
      cases rx with
      | lst g z q => exact ⟨_, _, rfl, g.sq, h1 L1 H1 Ex.refl s1 _ (ok_enum g z q)⟩
    · rename_i n
      obtain ⟨x, rfl, rx⟩ := rvs.one
      obtain ⟨a, g, rfl⟩ := rx
      obtain ⟨d, g1, o⟩ := s1.at g
      rw [g1] at h1
      cases d with
      | lst ds =>
        obtain ⟨us, g2, _⟩ := o
        exact ⟨_, _, rfl, SqL.of g2, h1 L1 H1 Ex.refl s1 _ (ok_enumL g)⟩
      | dct ks vs => exact False.elim h1
      | _ => exact False.elim o
    · exact False.elim h1
theorem si_zip {e e2 : Expr} {f : Da} (hg : Gl X "zip") (hm : X.mg "zip" = none) (ha : SA X Wi [e, e2] f) (hs : starEach [e, e2] X.env = (false, eval e X.env) :: starEach [e2] X.env := by rfl) (hpl : (backTo pos (starEach [e2] X.env)).any (·.1) = false := by rfl) :
    SI X Wi (.Tuple elts kk tpos) (.Call (.Name "zip" p) [e, e2] [] pos) (iZipD f) :=
  pi_imp (pi_zipA hg hm ha hs hpl) fun s H R h => by
    obtain ⟨L, S, r, er, sr, h⟩ := h
    refine ⟨L, S, r, er, sr, (After.bnd h).mono fun ds S1 L1 H1 e1 s1 h1 vs rvs => ?_⟩
    split at h1
    · obtain ⟨x, y, rfl, rx, ry⟩ := rvs.two
      cases rx with
      | tup g z q =>
        cases ry with
        | tup g' z' q' => exact ⟨_, _, _, _, rfl, .inr ⟨g.sq, g'.sq, h1 L1 H1 Ex.refl s1 _ (ok_zipT g z q g' q')⟩⟩
    · obtain ⟨x, y, rfl, rx, ry⟩ := rvs.two
      split at h1
      · rename_i z z' e1 e2
        obtain ⟨a, us, rfl, g1, o1⟩ := src_ok s1 rx e1
        obtain ⟨b, us2, rfl, g2, o2⟩ := src_ok s1 ry e2
        exact ⟨_, _, _, _, rfl, .inl ⟨g1, g2, h1 L1 H1 Ex.refl s1 _ (ok_zipL o1 o2)⟩⟩
      · exact False.elim h1
    · exact False.elim h1
end
theorem After.ex {α : Type} {w : World} {K : PySem.W.Frag} {Wi : Wish} {L L' : Cn} {H H' : Hp} {o : Out α} {R : α → Store → Cn → Hp → Prop} (e : Ex L H L' H') (h : After w K Wi L H o R) : After w K Wi L' H' o R := by
  cases o with
  | ok a S => exact fun L2 H2 e2 s2 => h L2 H2 (e.trans e2) s2
  | ex c S => exact fun L2 H2 e2 s2 => h L2 H2 (e.trans e2) s2
  | no => exact h
def loopF (g : Dg) (B : Ds) : List D → Sl → Store → Out Fl
  | [], r, S => .ok (.nx r) S
  | d :: ds, r, S => match g d r S with
    | none => .no
    | some r1 => (B r1 S).bind fun fl S1 => match fl with
      | .nx r2 => loopF g B ds r2 S1
      | .ct r2 => loopF g B ds r2 S1
      | .bk r2 => .ok (.nx r2) S1
      | .rt v => .ok (.rt v) S1
def loopL (n : Lv) (g : Dg) (B : Ds) : Nat → Nat → Sl → Store → Out Fl
  | 0, _, _, _ => .no
  | k + 1, i, r, S => match n.at S with
    | none => .no
    | some xs => match xs[i]? with
      | none => .ok (.nx r) S
      | some d => match g d r S with
        | none => .no
        | some r1 => (B r1 S).bind fun fl S1 => match fl with
          | .nx r2 => loopL n g B k (i + 1) r2 S1
          | .ct r2 => loopL n g B k (i + 1) r2 S1
          | .bk r2 => .ok (.nx r2) S1
          | .rt v => .ok (.rt v) S1
def sFor (it : Di) (g : Dg) (B : Ds) : Ds := fun r S => (it r S).bind fun j S1 => match j with
  | .fix xs => loopF g B xs r S1
  | .live n => loopL n g B 100000 0 r S1
section
variable {X : Cx} {Wi : Wish} {tg iter : Expr} {body : List Stmt} {it : Di} {g : Dg} {is : List Nat} {B : Ds} {pos : Pos}
theorem ss_for (hp : PassesOwn (model X.prog X.w) X.A X.env X.xe) (hc : X.calm = true) (hi : SI X Wi tg iter it) (hg : SG X tg is g) (hb : SSs X Wi body B) (hs : ∀ x, foldedSetIterable iter X.env x = pure x := by intro _; rfl) :
    SS X Wi (.For tg iter body [] pos) (sFor it g B) := ps_imp (ps_for hp hc hi hg hb hs) fun E s H h => by
  obtain ⟨L, S, r, er, sr, h⟩ := h
  refine ⟨L, S, r, er, sr, (After.bnd h).mono fun j S1 L1 H1 e1 s1 h1 J ok => ?_⟩
  cases j with
  | fix xs =>
    refine ⟨fun i m σ H => m = xs.length - i ∧ ∃ L S r, Ex L1 H1 L H ∧ ERep X.w X.K L H σ r ∧ SRep X.w X.K L H S ∧ After X.w X.K Wi L H (loopF g B (xs.drop i) r S) fun fl _ L' H' => FlE X.w X.K E L' H' fl,
      ⟨_, rfl, L1, S1, r, Ex.refl, er.ex e1, s1, h1⟩, fun i m σ H hW => ?_⟩
    obtain ⟨rfl, L2, S2, r2, e2, er2, sr2, h2⟩ := hW
    obtain ⟨_, go, stop⟩ := ok i L2 H S2 xs e2.ew sr2 rfl
    cases hx : xs[i]? with
    | none =>
      have hd : xs.drop i = [] := List.drop_eq_nil_of_le (List.getElem?_eq_none_iff.mp hx)
      rw [hd] at h2
      exact .inl ⟨stop hx, h2 L2 H Ex.refl sr2 σ er2⟩
    | some d =>
      obtain ⟨hi, hv⟩ := List.getElem?_eq_some_iff.mp hx
      have hd : xs.drop i = d :: xs.drop (i + 1) := by rw [List.drop_eq_getElem_cons hi, hv]
      rw [hd] at h2
      obtain ⟨g1, y1⟩ := go d hx
      refine .inr ⟨g1, fun σ' H' => ∃ L S r, Ex L1 H1 L H' ∧ ERep X.w X.K L H' σ' r ∧ SRep X.w X.K L H' S ∧ After X.w X.K Wi L H' (loopF g B (xs.drop (i + 1)) r S) fun fl _ L' H' => FlE X.w X.K E L' H' fl,
        fun σ' H' hN => ⟨xs.length - (i + 1), by omega, rfl, hN⟩, fun x H' y => ?_⟩
      obtain ⟨e3, s3, rx⟩ := y1 x H' y
      have h2 : After X.w X.K Wi L2 H (match g d r2 S2 with
        | none => Out.no
        | some r1 => (B r1 S2).bind fun fl S1 => match fl with
          | .nx r2 => loopF g B (xs.drop (i + 1)) r2 S1
          | .ct r2 => loopF g B (xs.drop (i + 1)) r2 S1
          | .bk r2 => .ok (.nx r2) S1
          | .rt v => .ok (.rt v) S1) fun fl _ L' H' => FlE X.w X.K E L' H' fl := h2
      cases hg : g d r2 S2 with
      | none => rw [hg] at h2; exact False.elim h2
      | some r1 =>
        rw [hg] at h2
        refine ⟨L2, S2, d, r2, er2.ex e3, s3, Rp.of rx, r1, hg, fun σ2 er3 _ => ?_⟩
        refine ⟨L2, S2, r1, er3, s3, (After.bnd (After.ex e3 h2)).mono fun fl S4 L4 H4 e4 s4 h4 => ?_⟩
        cases fl with
        | nx r5 => exact fun σ5 er5 => ⟨L4, S4, r5, (e2.trans e3).trans e4, er5, s4, h4⟩
        | ct r5 => exact fun σ5 er5 => ⟨L4, S4, r5, (e2.trans e3).trans e4, er5, s4, h4⟩
        | bk r5 => exact fun σ5 er5 => h4 L4 H4 Ex.refl s4 σ5 er5
        | rt v => exact h4 L4 H4 Ex.refl s4
  | live n =>
    refine ⟨fun i m σ H => ∃ L S r, Ex L1 H1 L H ∧ ERep X.w X.K L H σ r ∧ SRep X.w X.K L H S ∧ After X.w X.K Wi L H (loopL n g B m i r S) fun fl _ L' H' => FlE X.w X.K E L' H' fl,
      ⟨_, L1, S1, r, Ex.refl, er.ex e1, s1, h1⟩, fun i m σ H hW => ?_⟩
    obtain ⟨L2, S2, r2, e2, er2, sr2, h2⟩ := hW
    cases m with
    | zero => exact False.elim h2
    | succ m =>
      have h2 : After X.w X.K Wi L2 H (match n.at S2 with
        | none => Out.no
        | some xs => match xs[i]? with
          | none => .ok (.nx r2) S2
          | some d => match g d r2 S2 with
            | none => .no
            | some r1 => (B r1 S2).bind fun fl S1 => match fl with
              | .nx r2 => loopL n g B m (i + 1) r2 S1
              | .ct r2 => loopL n g B m (i + 1) r2 S1
              | .bk r2 => .ok (.nx r2) S1
              | .rt v => .ok (.rt v) S1) fun fl _ L' H' => FlE X.w X.K E L' H' fl := h2
      cases hl : n.at S2 with
      | none => rw [hl] at h2; exact False.elim h2
      | some xs =>
        rw [hl] at h2
        obtain ⟨_, go, stop⟩ := ok i L2 H S2 xs e2.ew sr2 hl
        cases hx : xs[i]? with
        | none =>
          simp only [hx] at h2
          exact .inl ⟨stop hx, h2 L2 H Ex.refl sr2 σ er2⟩
        | some d =>
          simp only [hx] at h2
          obtain ⟨g1, y1⟩ := go d hx
          refine .inr ⟨g1, fun σ' H' => ∃ L S r, Ex L1 H1 L H' ∧ ERep X.w X.K L H' σ' r ∧ SRep X.w X.K L H' S ∧ After X.w X.K Wi L H' (loopL n g B m (i + 1) r S) fun fl _ L' H' => FlE X.w X.K E L' H' fl,
            fun σ' H' hN => ⟨m, Nat.lt_succ_self _, hN⟩, fun x H' y => ?_⟩
          obtain ⟨e3, s3, rx⟩ := y1 x H' y
          cases hg : g d r2 S2 with
          | none => rw [hg] at h2; exact False.elim h2
          | some r1 =>
            rw [hg] at h2
            refine ⟨L2, S2, d, r2, er2.ex e3, s3, Rp.of rx, r1, hg, fun σ2 er3 _ => ?_⟩
            refine ⟨L2, S2, r1, er3, s3, (After.bnd (After.ex e3 h2)).mono fun fl S4 L4 H4 e4 s4 h4 => ?_⟩
            cases fl with
            | nx r5 => exact fun σ5 er5 => ⟨L4, S4, r5, (e2.trans e3).trans e4, er5, s4, h4⟩
            | ct r5 => exact fun σ5 er5 => ⟨L4, S4, r5, (e2.trans e3).trans e4, er5, s4, h4⟩
            | bk r5 => exact fun σ5 er5 => h4 L4 H4 Ex.refl s4 σ5 er5
            | rt v => exact h4 L4 H4 Ex.refl s4
end
end Ws
namespace Ws
open PySem PySem.Spec PyProof.Rows L2 RZ
def Out.bindN {α β : Type} (o : Out α) (f : α → Store → Out β) : Out β :=
  match o with
  | .ok a S => f a S
  | _ => .no
def stepC (g : Dg) (t : Dt) (e : De) (r : Sl) (d : D) (k : Store → Out (List D)) (S : Store) : Out (List D) :=
  match g d r S with
  | none => .no
  | some r1 => (t r1 S).bindN fun b S1 => if b = true then (e r1 S1).bindN fun x S2 => if x.isRef = true then .no else (k S2).bindN fun xs S3 => .ok (x :: xs) S3 else k S1
def compF (g : Dg) (t : Dt) (e : De) (r : Sl) : List D → Store → Out (List D)
  | [], S => .ok [] S
  | d :: ds, S => stepC g t e r d (compF g t e r ds) S
def compL (n : Lv) (g : Dg) (t : Dt) (e : De) (r : Sl) : Nat → Nat → Store → Out (List D)
  | 0, _, _ => .no
  | k + 1, i, S => match n.at S with
    | none => .no
    | some xs => match xs[i]? with
      | none => .ok [] S
      | some d => stepC g t e r d (compL n g t e r k (i + 1)) S
def runC (g : Dg) (t : Dt) (e : De) (r : Sl) (j : ItD) (S : Store) : Out (List D) := match j with
  | .fix xs => compF g t e r xs S
  | .live n => compL n g t e r 100000 0 S
def dYes : Dt := fun _ S => .ok true S
def dComp (vs : List Nat) (it : Di) (g : Dg) (t : Dt) (e : De) : Da := fun r S => (it r S).bind fun j S1 => runC g t e (wipeD r vs) j S1
section
variable {w : World} {K : PySem.W.Frag} {Wi : Wish} {L : Cn} {H : Hp} {D0 : Addr}
/-- at D0 stands o, hidden from all that is known -/
structure Lck (w : World) (K : PySem.W.Frag) (L : Cn) (H : Hp) (S : Store) (p : Addr) (o : HO) : Prop where
  at_ : H p = some o
  nl : p ∉ L.l
  nm : p ∉ L.m
  sr : SRep w K L (hide p H) S
theorem Lck.locked {S : Store} {p : Addr} {o : HO} (k : Lck w K L H S p o) : SRep w K (L.lock p) H S := by
  have := k.sr.lock (o := o) hide_same
  rw [hide_upd k.at_] at this
  exact this
theorem Lck.ew {S : Store} {p : Addr} {o : HO} (k : Lck w K L H S p o) : Ew K L (hide p H) (L.lock p) H := by
  have := Ew.lock (K := K) (L := L) (o := o) (hide_same (p := p) (H := H))
  rw [hide_upd k.at_] at this
  exact this
theorem Lck.go {S S' : Store} {p : Addr} {o : HO} {L' : Cn} {H' : Hp} (k : Lck w K L H S p o) (e : Ex (L.lock p) H L' H') (s : SRep w K L' H' S') : ∃ L'', L' = L''.lock p ∧ Ex L (hide p H) L'' (hide p H') ∧ Lck w K L'' H' S' p o := by
  rw [← hide_upd k.at_] at e
  obtain ⟨L'', rfl, e2, h⟩ := e.hide hide_same k.nl
  have nm : p ∉ L''.m := by rw [e2.lck]; exact k.nm
  exact ⟨L'', rfl, e2, h, (s.lk p List.mem_cons_self).1, nm, s.hide nm⟩
theorem Lck.run {α β : Type} {S : Store} {p : Addr} {o : HO} {c : Out α} {f : α → Store → Out β} {R : β → Store → Cn → Hp → Prop} (k : Lck w K L H S p o) (h : After w K Wi L (hide p H) (c.bindN f) R) :
    After w K noW (L.lock p) H c fun a S' L' H' => ∃ L'', L' = L''.lock p ∧ Ex L (hide p H) L'' (hide p H') ∧ Lck w K L'' H' S' p o ∧ After w K Wi L'' (hide p H') (f a S') R := by
  cases c with
  | ok a S1 =>
    intro L' H' e s
    obtain ⟨L'', rfl, e2, k2⟩ := k.go e s
    exact ⟨L'', rfl, e2, k2, After.ex e2 h⟩
  | ex c S1 => exact False.elim h
  | no => exact h
theorem wipe_same {is vs : List Nat} {σ σ2 : L2.St} (hs : ∀ i ∈ is, i ∈ vs) (h : Same is (L2.wipe σ vs) σ2) : L2.wipe σ2 vs = L2.wipe σ vs := by
  have out : ∀ (τ : L2.St) (ws : List Nat) (i : Nat), i ∉ ws → (L2.wipe τ ws)[i]? = τ[i]? := by
    intro τ ws
    induction ws with
    | nil => intro i _; rfl
    | cons v ws ih =>
      intro i hi
      show ((L2.wipe τ ws).set v none)[i]? = τ[i]?
      rw [List.getElem?_set_ne (fun z => hi (by simp [z]))]
      exact ih i fun z => hi (List.mem_cons_of_mem _ z)
  have ins : ∀ (τ : L2.St) (ws : List Nat) (i : Nat), i ∈ ws → (L2.wipe τ ws)[i]? = if i < τ.length then some none else none := by
    intro τ ws
    induction ws with
    | nil => intro i hi; cases hi
    | cons v ws ih =>
      intro i hi
      show ((L2.wipe τ ws).set v none)[i]? = _
      by_cases e : v = i
      · subst e
        by_cases hl : v < τ.length
        · rw [if_pos hl, List.getElem?_set_self (by rw [L2.wipe_length]; exact hl)]
        · rw [if_neg hl, List.getElem?_eq_none (by rw [List.length_set, L2.wipe_length]; omega)]
      · rw [List.getElem?_set_ne e]
        exact ih i ((List.mem_cons.mp hi).resolve_left (fun z => e z.symm))
  apply List.ext_getElem?
  intro i
  have hl : σ2.length = σ.length := by rw [h.1, L2.wipe_length]
  by_cases hi : i ∈ vs
  · rw [ins _ _ _ hi, ins _ _ _ hi, hl]
  · rw [out _ _ _ hi, h.2 i fun z => hi (hs i z)]
theorem lock_inj {L L' : Cn} {p : Addr} (h : L.lock p = L'.lock p) : L = L' := by
  cases L; cases L'
  simp only [Cn.lock, Cn.mk.injEq, List.cons.injEq, true_and] at h
  simp only [Cn.mk.injEq]
  exact h
/-- one run of a comprehension's turns -/
def StepC (it : ItD) (g : Dg) (t : Dt) (e : De) (r : Sl) (run : Nat → Nat → Store → Out (List D)) : Prop :=
  ∀ (i m : Nat) (S : Store), run m i S = .no ∨ ∃ xs, it.at S = some xs ∧ ((xs[i]? = none ∧ run m i S = .ok [] S) ∨ ∃ d m', xs[i]? = some d ∧ m' < m ∧ run m i S = stepC g t e r d (run m' (i + 1)) S)
abbrev LcGoal (J : It) (g : TG) (tt : TT) (te : TE) (vs : List Nat) (σ : L2.St) (p : Addr) (H1 : Hp) (Nq : Hp → Prop) : Prop :=
  ∃ W : Nat → Nat → Hp → Prop, (∃ m, W 0 m H1) ∧ ∀ i m H, W i m H →
  (J.stop i H ∧ Nq H) ∨ (J.go i H ∧ ∃ Nx : Hp → Prop, (∀ H', Nx H' → ∃ m', m' < m ∧ W (i + 1) m' H') ∧ ∀ x H', J.yld i H x H' → g x (L2.wipe σ vs) H' fun σ2 H2 => L2.wipe σ2 vs = L2.wipe σ vs ∧ tt σ2 H2 fun b H3 =>
    if b = true then te σ2 H3 fun y H4 => ∃ acc, H4 p = some (.lst acc) ∧ acc.length < sizeLine ∧ Nx (upd H4 p (.lst (acc ++ [y]))) else Nx H3)
/-- behind k more items the filled list is told -/
theorem lc_run {it : ItD} {J : It} {g : Dg} {t : Dt} {e : De} {r : Sl} {is vs : List Nat} {σ : L2.St} {run : Nat → Nat → Store → Out (List D)} {m0 : Nat} {S1 : Store} {L1 : Cn} {H1 : Hp} {p : Addr} {us0 : List V} {ds0 : List D} {Nq : Hp → Prop}
    (L0 : Cn) (H0 : Hp) (ok : ItOk w K L0 H0 it J) (e0 : Ew K L0 H0 L1 (hide p H1)) (st : StepC it g t e r run) (hs : ∀ i ∈ is, i ∈ vs) (er : ERep w K L1 (hide p H1) (L2.wipe σ vs) r) (k1 : Lck w K L1 H1 S1 p (.lst us0)) (ra : RAll w K L1 (hide p H1) us0 ds0) (z0 : us0.length ≤ sizeLine) (zz : us0 = [])
    (h : After w K Wi L1 (hide p H1) (run m0 0 S1) fun ds S' L' H' => ∀ us, RAll w K L' H' us ds → us.length ≤ sizeLine → ∀ H2, Lck w K L' H2 S' p (.lst us) → hide p H2 = H' → Nq H2) :
    LcGoal J (tGd w K is g) (tT w K noW t) (tE w K noW e) vs σ p H1 Nq := by
  subst zz
  refine ⟨fun i m H => ∃ L S acc accd, Ex L1 (hide p H1) L (hide p H) ∧ Lck w K L H S p (.lst acc) ∧ acc.length ≤ i ∧ acc.length ≤ sizeLine ∧ RAll w K L (hide p H) acc accd ∧
      After w K Wi L (hide p H) (run m i S) fun ds S' L' H' => ∀ us, RAll w K L' H' us (accd ++ ds) → us.length ≤ sizeLine → ∀ H2, Lck w K L' H2 S' p (.lst us) → hide p H2 = H' → Nq H2,
    ⟨m0, L1, S1, [], [], Ex.refl, k1, Nat.le_refl _, Nat.zero_le _, .nil, h⟩, fun i m H hW => ?_⟩
  obtain ⟨L, S, acc, accd, ex, k, za, zb, ra, h⟩ := hW
  rcases st i m S with hn | ⟨xs, hx, hst⟩
  · rw [hn] at h; exact False.elim h
  · obtain ⟨zx, go, stop⟩ := ok i (L.lock p) H S xs ((e0.trans ex.ew).trans k.ew) k.locked hx
    rcases hst with ⟨hi, hr⟩ | ⟨d, m', hi, hm, hr⟩
    · rw [hr] at h
      refine .inl ⟨stop hi, h L (hide p H) Ex.refl k.sr acc (by rw [List.append_nil]; exact ra) zb H k rfl⟩
    · rw [hr] at h
      obtain ⟨g1, y1⟩ := go d hi
      have ilt : i < sizeLine := Nat.lt_of_lt_of_le (List.getElem?_eq_some_iff.mp hi).1 zx
      refine .inr ⟨g1, fun H' => ∃ L S acc accd, Ex L1 (hide p H1) L (hide p H') ∧ Lck w K L H' S p (.lst acc) ∧ acc.length ≤ i + 1 ∧ acc.length ≤ sizeLine ∧ RAll w K L (hide p H') acc accd ∧
        After w K Wi L (hide p H') (run m' (i + 1) S) fun ds S' L' H' => ∀ us, RAll w K L' H' us (accd ++ ds) → us.length ≤ sizeLine → ∀ H2, Lck w K L' H2 S' p (.lst us) → hide p H2 = H' → Nq H2,
        fun H' hN => ⟨m', hm, hN⟩, fun x H' y => ?_⟩
      obtain ⟨e3, s3, rx⟩ := y1 x H' y
      obtain ⟨L3, eL, e4, k3⟩ := k.go e3 s3
      have eL3 : L = L3 := lock_inj eL
      subst eL3
      have h := After.ex e4 h
      have er3 : ERep w K (L.lock p) H' (L2.wipe σ vs) r := ((er.ew ex.ew).ew e4.ew).ew k3.ew
      unfold stepC at h
      cases hg : g d r S with
      | none => rw [hg] at h; exact False.elim h
      | some r1 =>
        rw [hg] at h
        refine ⟨L.lock p, S, d, r, er3, k3.locked, Rp.of rx, r1, hg, fun σ2 er4 sm => ⟨wipe_same hs sm, ?_⟩⟩
        refine ⟨L.lock p, S, r1, er4, k3.locked, (k3.run h).mono fun b S5 L5' H5 e5' s5' h5 => ?_⟩
        obtain ⟨L5, rfl, e5, k5, h5⟩ := h5
        cases b with
        | false =>
          exact ⟨L5, S5, acc, accd, (ex.trans e4).trans e5, k5, by omega, zb, (ra.ex e4).ex e5, h5⟩
        | true =>
          have h5 : After w K Wi L5 (hide p H5) ((e r1 S5).bindN fun x S2 => if x.isRef = true then .no else (run m' (i + 1) S2).bindN fun xs S3 => .ok (x :: xs) S3) _ := h5
          refine ⟨L5.lock p, S5, r1, er4.ex e5', s5', (k5.run h5).mono fun yd S6 L6' H6 e6' s6' h6 v rv => ?_⟩
          obtain ⟨L6, rfl, e6, k6, h6⟩ := h6
          split at h6
          · exact False.elim h6
          · rename_i nr
            have ry : R0 w K (L6.lock p) H6 v yd := rv.r0 (by simpa using nr)
            have zacc : acc.length < sizeLine := by omega
            refine ⟨acc, k6.at_, zacc, ?_⟩
            have hh : hide p (upd H6 p (.lst (acc ++ [v]))) = hide p H6 := by
              funext a
              by_cases q : a = p
              · subst q; rw [hide_same, hide_same]
              · rw [hide_ne q, hide_ne q, upd_ne q]
            refine ⟨L6, S6, acc ++ [v], accd ++ [yd], ?_, ⟨upd_same, k6.nl, k6.nm, ?_⟩, ?_, ?_, ?_, ?_⟩
            · rw [hh]; exact ((ex.trans e4).trans e5).trans e6
            · rw [hh]; exact k6.sr
            · rw [List.length_append]; show acc.length + 1 ≤ i + 1; omega
            · rw [List.length_append]; exact zacc
            · rw [hh]; exact (((ra.ex e4).ex e5).ex e6).append (.cons (ry.ew Ew.hide) .nil)
            · rw [hh]
              cases q : run m' (i + 1) S6 with
              | ok ds S7 =>
                rw [q] at h6
                intro L7 H7 e7 s7 us rus
                have := h6 L7 H7 e7 s7 us
                rw [List.append_assoc] at rus
                exact this rus
              | ex c S7 => rw [q] at h6; exact False.elim h6
              | no => rw [q] at h6; exact False.elim h6
end
def fixR (g : Dg) (t : Dt) (e : De) (r : Sl) (xs : List D) (m i : Nat) (S : Store) : Out (List D) := if m = xs.length - i then compF g t e r (xs.drop i) S else .no
theorem fixR_eq {g : Dg} {t : Dt} {e : De} {r : Sl} {xs : List D} {i : Nat} : fixR g t e r xs (xs.length - i) i = compF g t e r (xs.drop i) := by
  funext S; unfold fixR; rw [if_pos rfl]
theorem step_fix {g : Dg} {t : Dt} {e : De} {r : Sl} {xs : List D} : StepC (.fix xs) g t e r (fixR g t e r xs) := by
  intro i m S
  by_cases hm : m = xs.length - i
  · refine .inr ⟨xs, rfl, ?_⟩
    subst hm
    cases hx : xs[i]? with
    | none =>
      refine .inl ⟨rfl, ?_⟩
      rw [fixR_eq, List.drop_eq_nil_of_le (List.getElem?_eq_none_iff.mp hx)]; rfl
    | some d =>
      obtain ⟨hi, hv⟩ := List.getElem?_eq_some_iff.mp hx
      refine .inr ⟨d, xs.length - (i + 1), rfl, by omega, ?_⟩
      rw [fixR_eq, fixR_eq, List.drop_eq_getElem_cons hi, hv]; rfl
  · exact .inl (if_neg hm)
theorem step_live {g : Dg} {t : Dt} {e : De} {r : Sl} {n : Lv} : StepC (.live n) g t e r (compL n g t e r) := by
  intro i m S
  cases m with
  | zero => exact .inl rfl
  | succ m =>
    cases hl : n.at S with
    | none => exact .inl (by simp only [compL, hl])
    | some xs =>
      refine .inr ⟨xs, hl, ?_⟩
      cases hx : xs[i]? with
      | none => exact .inl ⟨rfl, by simp only [compL, hl, hx]⟩
      | some d => exact .inr ⟨d, m, rfl, Nat.lt_succ_self _, by simp only [compL, hl, hx]⟩
abbrev Blk (X : Cx) (scope : Scope) (P : Cx → Prop) : Prop := ∀ (s : Shared) (H : Hp) (C : Addr) (cl : List (Str × Addr)) (fp : List Addr), P (X.blk s H scope (compEnvC scope cl C X.env) fp)
section
variable {X : Cx} {Wi : Wish} {elt tg iter : Expr} {ifs : List Expr} {scope : Scope} {own : List (Str × Nat)} {pos : Pos} {it : Di} {g : Dg} {is : List Nat} {t : Dt} {e : De}
abbrev STs (X : Cx) (Wi : Wish) (ifs : List Expr) (f : Dt) : Prop := PTs X ifs (tT X.w X.K Wi f)
theorem pts_imp {t t' : TT} (h : PTs X ifs t) (i : ∀ s H Q, t' s H Q → t s H Q) : PTs X ifs t' := ⟨fun pins s σ H Q I q => h.run pins s σ H Q I (i _ _ _ q)⟩
theorem sts_nil : STs X Wi [] dYes := pts_imp pts_nil fun s H Q h => by
  obtain ⟨L, S, r, er, sr, h⟩ := h
  exact h L H Ex.refl sr
theorem sts_one {c : Expr} (h : ST X Wi c t) : STs X Wi [c] t := pts_one h
/-- the reading -/
theorem lc_read {w : World} {K : PySem.W.Frag} {vs : List Nat} {σ : L2.St} {H : Hp} {Q : VK} (hs : ∀ i ∈ is, i ∈ vs) (h : tNew w K Wi (dComp vs it g t e) σ H Q) : tLc (tIt w K Wi it) (tGd w K is g) (tT w K noW t) (tE w K noW e) vs σ H Q := by
  obtain ⟨L, S, r, er, sr, h⟩ := h
  refine ⟨L, S, r, er, sr, (After.bnd h).mono fun j S1 L1 H1 e1 s1 h1 J ok p np => ?_⟩
  have hh : hide p (upd H1 p (.lst [])) = H1 := upd_hide np
  have fr := s1.fresh np
  have k : Lck w K L1 (upd H1 p (.lst [])) S1 p (.lst []) := ⟨upd_same, fr.1, fr.2, by rw [hh]; exact s1⟩
  have er1 : ERep w K L1 (hide p (upd H1 p (.lst []))) (L2.wipe σ vs) (wipeD r vs) := by rw [hh]; exact (er.ex e1).wipe vs
  have ew : Ew K L1 H1 L1 (hide p (upd H1 p (.lst []))) := by rw [hh]; exact Ex.refl.ew
  have fin : ∀ (run : Nat → Nat → Store → Out (List D)) (m0 : Nat), StepC j g t e (wipeD r vs) run → run m0 0 S1 = runC g t e (wipeD r vs) j S1 →
      LcGoal J (tGd w K is g) (tT w K noW t) (tE w K noW e) vs σ p (upd H1 p (.lst [])) fun H => Q (.ref p) H := fun run m0 st hr => by
    refine lc_run (Wi := Wi) (m0 := m0) L1 H1 ok ew st hs er1 k .nil (Nat.zero_le _) rfl ?_
    rw [hh, hr]
    refine h1.mono fun ds S' L' H' e' s' h' us rus z H2 k2 hH => ?_
    have q := h' us rus z p (by rw [← hH]; exact hide_same)
    rw [← hH, hide_upd k2.at_] at q
    exact q
  cases j with
  | fix xs => exact fin _ (xs.length - 0) step_fix (by rw [fixR_eq, List.drop_zero]; rfl)
  | live n => exact fin _ 100000 step_live rfl
theorem sn_lc (hc : X.calm = true) (hN : X.N.Nodup) (hi : SI X Wi tg iter it) (ok : BlkOk X.N X.env.scope scope own) (hv : ∀ i ∈ is, i ∈ own.map (·.2)) (hg : Blk X scope fun Y => SG Y tg is g) (ht : Blk X scope fun Y => STs Y noW ifs t) (he : Blk X scope fun Y => SE Y noW elt e)
    (hs : ∀ x, foldedSetIterable iter X.env x = pure x := by intro _; rfl) : SN X Wi (.ListComp elt [⟨tg, iter, ifs, 0⟩] scope pos) (dComp (own.map (·.2)) it g t e) :=
  pe_imp (pe_lc hc hN hi ok hg ht he hs) fun σ H Q h => lc_read hv h
/-- x = [..] on one line, x a plain local name: never changed, or to be changed -/
theorem ss_setLc {i : Nat} {y : Str} {py spos : Pos} (hc : X.calm = true) (hN : X.N.Nodup) (hy : X.N[i]? = some y) (hyl : X.env.scope.names.lookup y = some .local)
    (hsw : swapsWith (.ListComp elt [⟨tg, iter, ifs, 0⟩] scope pos) (some (.Name y py)) spos.line X.env = pure true) (hi : SI X Wi tg iter it) (ok : BlkOk X.N X.env.scope scope own) (hv : ∀ i ∈ is, i ∈ own.map (·.2)) (hg : Blk X scope fun Y => SG Y tg is g) (ht : Blk X scope fun Y => STs Y noW ifs t) (he : Blk X scope fun Y => SE Y noW elt e)
    (hs : ∀ x, foldedSetIterable iter X.env x = pure x := by intro _; rfl) : SS X Wi (.Assign [.Name y py] (.ListComp elt [⟨tg, iter, ifs, 0⟩] scope pos) spos) (sAsg (dFz (dComp (own.map (·.2)) it g t e)) (gNm i)) :=
  ps_imp (ps_setLc hc hN hy hyl hsw hi ok hg ht he hs) fun E s H h => by
    obtain ⟨L, S, r, er, sr, h⟩ := h
    refine lc_read hv ⟨L, S, r, er, sr, (After.bnd (After.bnd h)).mono fun ds S1 L1 H1 e1 s1 h1 vs rvs z p np => ?_⟩
    exact h1 L1 _ (Ex.new np) (s1.new np) L1 _ Ex.refl (s1.new np) _ ((er.ex (e1.trans (Ex.new np))).set i (new_lst s1 np z rvs))
end
end Ws
namespace Ws
open PySem PySem.Spec PyProof.Rows L2 RZ
theorem Rps.get {w : World} {K : PySem.W.Frag} {L : Cn} {H : Hp} : ∀ {vs : List V} {ds : List D} {i : Nat}, Rps w K L H vs ds → (∃ v d, vs[i]? = some v ∧ ds[i]? = some d ∧ Rp w K L H v d) ∨ (vs[i]? = none ∧ ds[i]? = none)
  | _, _, _, .nil => .inr (by simp)
  | _, _, 0, .cons h _ => .inl ⟨_, _, rfl, rfl, h⟩
  | _, _, i + 1, .cons _ t => by
    rcases Rps.get (i := i) t with ⟨v, d, e1, e2, r⟩ | ⟨e1, e2⟩
    · exact .inl ⟨v, d, by simpa using e1, by simpa using e2, r⟩
    · exact .inr ⟨by simpa using e1, by simpa using e2⟩
/-- what is wished of an exception (none yet) -/
def wishOf (_ : XK) : Wish := noW
def spD (w : World) (K : PySem.W.Frag) (F : Df) : Sp := fun vs H Q E => ∃ L S ds, Rps w K L H vs ds ∧ SRep w K L H S ∧ After w K (wishOf E) L H (F ds S) fun d _ L' H' => ∀ v, Rp w K L' H' v d → Q v H'
def Arity (F : Df) (n : Nat) : Prop := ∀ ds S, ds.length ≠ n → F ds S = .no
theorem sp_len {w : World} {K : PySem.W.Frag} {F : Df} {n : Nat} (a : Arity F n) {vs : List V} {H : Hp} {Q : VK} {E : XK} (h : spD w K F vs H Q E) : vs.length = n := by
  obtain ⟨L, S, ds, r, s, h⟩ := h
  rw [r.length]
  by_cases e : ds.length = n
  · exact e
  · rw [a ds S e] at h; exact False.elim h
/-- behind a def's end its own mutable lists are the caller's data -/
def leave (b : Nat) (d : D) (S : Store) : Out D := match d with
  | .ref n => if n < b then .ok (.ref n) (S.take b) else match S[n]? with
    | some (.lst xs) => .ok (.lst xs) (S.take b)
    | some (.dct ks vs) => .ok (.dct ks vs) (S.take b)
    | _ => .no
  | d => .ok d (S.take b)
def endD (b : Nat) : Out Fl → Out D
  | .ok (.rt d) S => leave b d S
  | .ok (.nx _) S => leave b .non S
  | _ => .no
def dDef (n m : Nat) (B : Ds) : Df := fun ds S => if ds.length = n then endD S.length (B (ds.map some ++ List.replicate m none) S) else .no
theorem arity_def {n m : Nat} {B : Ds} : Arity (dDef n m B) n := fun ds S h => if_neg h
section
variable {w : World} {K : PySem.W.Frag} {L L' : Cn} {H H' : Hp} {S S' : Store}
theorem back_ex (e : Ex L H L' H') : Ex L H L H' := ⟨⟨[], by simp, fun _ h => nomatch h⟩, rfl, e.keep, e.there⟩
theorem back_no (e : Ex L H L' H') (b : Addr) (h : L'.No b) : L.No b := by
  obtain ⟨M, e1, _⟩ := e.app
  exact ⟨fun z => h.1 (by rw [e1]; exact List.mem_append_left _ z), by rw [← e.lck]; exact h.2⟩
theorem back_sr (e : Ex L H L' H') (s0 : SRep w K L H S) (s : SRep w K L' H' S') : SRep w K L H' (S'.take S.length) := by
  obtain ⟨M, e1, _⟩ := e.app
  refine ⟨?_, s0.nd, fun n a d h1 h2 => ?_, fun a ha => ?_⟩
  · have h1 := s.len
    have h2 := s0.len
    rw [e1, List.length_append] at h1
    rw [List.length_take]; omega
  · have hn := (List.getElem?_eq_some_iff.mp h1).1
    have h1' : L'.l[n]? = some a := by rw [e1, List.getElem?_append_left hn]; exact h1
    rw [List.getElem?_take_of_lt (by rw [← s0.len]; exact hn)] at h2
    exact (s.obj n a d h1' h2).fewer (back_no e)
  · obtain ⟨g1, g2⟩ := s.lk a (by rw [e.lck]; exact ha)
    exact ⟨(s0.lk a ha).1, g2⟩
/-- an own object is not the caller's -/
theorem back_free (e : Ex L H L' H') (s0 : SRep w K L H S) (s : SRep w K L' H' S') {n : Nat} {a : Addr} (h1 : L'.l[n]? = some a) (c : ¬ n < S.length) : L.No a := by
  obtain ⟨M, e1, hM⟩ := e.app
  refine ⟨fun hz => ?_, fun hz => (s.lk a (by rw [e.lck]; exact hz)).1 (List.mem_of_getElem? h1)⟩
  obtain ⟨m, hm⟩ := List.mem_iff_getElem?.mp hz
  have hm2 := (List.getElem?_eq_some_iff.mp hm).1
  have hm3 : L'.l[m]? = some a := by rw [e1, List.getElem?_append_left hm2]; exact hm
  obtain ⟨i1, j1⟩ := List.getElem?_eq_some_iff.mp h1
  obtain ⟨i2, j2⟩ := List.getElem?_eq_some_iff.mp hm3
  have := (List.getElem_inj s.nd).mp (j1.trans j2.symm)
  rw [s0.len] at hm2
  omega
theorem leave_read {v : V} {d : D} {Q : VK} {Wi : Wish} (e : Ex L H L' H') (s0 : SRep w K L H S) (s : SRep w K L' H' S') (r : Rp w K L' H' v d) (h : After w K Wi L H (leave S.length d S') fun d _ L' H' => ∀ v, Rp w K L' H' v d → Q v H') : Q v H' := by
  have e2 := back_ex e
  have s2 := back_sr e s0 s
  cases d with
  | ref n =>
    obtain ⟨a, h1, rfl⟩ := r
    have h : After w K Wi L H (if n < S.length then Out.ok (.ref n) (S'.take S.length) else match S'[n]? with | some (.lst xs) => Out.ok (.lst xs) (S'.take S.length) | some (.dct ks vs) => Out.ok (.dct ks vs) (S'.take S.length) | _ => Out.no) fun d _ L' H' => ∀ v, Rp w K L' H' v d → Q v H' := h
    obtain ⟨M, e1, hM⟩ := e.app
    split at h
    · rename_i c
      refine h L H' e2 s2 _ ⟨a, ?_, rfl⟩
      rw [e1, List.getElem?_append_left (by rw [s0.len]; exact c)] at h1
      exact h1
    · rename_i c
      have na : L.No a := back_free e s0 s h1 c
      split at h
      · rename_i xs e3
        refine h L H' e2 s2 _ ?_
        obtain ⟨vs, g1, z, q⟩ := s.obj n a _ h1 e3
        exact R0.lst ⟨g1, na⟩ z (RAll.fewer (back_no e) q)
      · rename_i ks vs e3
        refine h L H' e2 s2 _ ?_
        obtain ⟨xs, ⟨_, g1⟩, r1, k1, d1, r2⟩ := s.obj n a _ h1 e3
        exact R0.dct g1 na (RAll.fewer (back_no e) r1) k1 d1 (RAll.fewer (back_no e) r2)
      · exact False.elim h
  | _ => exact h L H' e2 s2 v (R0.fewer (back_no e) r)
end
def frzD (b : Nat) (S : Store) (d : D) : D := match d with
  | .ref n => if n < b then .ref n else match S[n]? with
    | some e => e
    | none => .non
  | d => d
def frzR (b : Nat) (S : Store) (r : Sl) : Sl := r.map fun o => match o with
  | some d => some (frzD b S d)
  | none => none
def blkO (b : Nat) : Out Fl → Out Fl
  | .ok (.nx r) S => .ok (.nx (frzR b S r)) (S.take b)
  | .ok (.bk r) S => .ok (.bk (frzR b S r)) (S.take b)
  | .ok (.ct r) S => .ok (.ct (frzR b S r)) (S.take b)
  | .ok (.rt d) S => .ok (.rt (frzD b S d)) (S.take b)
  | .ex c S => .no
  | .no => .no
def sBlk (f : Ds) : Ds := fun r S => blkO S.length (f r S)
section
variable {P : Program} {w : World} {K : PySem.W.Frag} {mg : Str → Option Value} {base : Heap}
abbrev FD (P : Program) (w : World) (K : PySem.W.Frag) (mg : Str → Option Value) (base : Heap) (k : Nat) (f : Addr) (fd : FuncData) (ps : List Str) (F : Df) : Prop := FnOk P w K mg base CX0 k f fd ps (spD w K F)
theorem start_rep {L : Cn} {H : Hp} {N : List Str} {vs : List V} {ds : List D} {m : Nat} (r : Rps w K L H vs ds) (hm : N.length = ds.length + m) : ERep w K L H (L2.start N vs) (ds.map some ++ List.replicate m none) := by
  have hl := r.length
  refine ⟨by simp [L2.start, hl]; omega, fun i d h => ?_⟩
  by_cases hi : i < ds.length
  · rw [List.getElem?_append_left (by simpa using hi), List.getElem?_map] at h
    have h' : ds[i]? = some d := by
      cases q : ds[i]? with
      | none => rw [q] at h; cases h
      | some c => rw [q] at h; simpa using h
    obtain ⟨v, e1, e2⟩ : ∃ v, vs[i]? = some v ∧ Rp w K L H v d := by
      rcases Rps.get (i := i) r with ⟨v, d', e1, e2, q⟩ | ⟨_, e2⟩
      · rw [h'] at e2; cases e2; exact ⟨v, e1, q⟩
      · rw [h'] at e2; cases e2
    refine ⟨v, ?_, e2⟩
    unfold L2.start
    rw [List.getElem?_append_left (by rw [List.length_map, hl]; exact hi), List.getElem?_map, e1]; rfl
  · rw [List.getElem?_append_right (by simpa using hi)] at h
    have := List.mem_of_getElem? h
    rw [List.mem_replicate] at this
    cases this.2
/-- THE RULE for a def -/
theorem fd_def {x qual : Str} {params : Arguments} {body : List Stmt} {scope : Scope} {dvs : List V} {kws : List (Str × V)} {f : Addr} {fd : FuncData} {N ps : List Str} {k m : Nat} {B : Ds}
    (F : FunD K x qual params body scope dvs kws f fd) (Sc : FnScope N ps scope) (hm : N.length = ps.length + m)
    (hb : ∀ (cdv : Value) (A : Around) (outer : List Env) (s : Shared) (H : Hp) (E : XK), Room k (A.deeper (envOfC qual scope s.heap.objs.size f cdv)) → SSs ((cxOf CX0 P w K mg base N qual scope f cdv A outer s H E).nox) noW body B) :
    FD P w K mg base (k + 1) f fd ps (dDef ps.length m B) := by
  refine F.ok Sc (fun vs H Q E h => sp_len arity_def h) fun cdv A outer s H vs Q E hr h => ⟨_, PSs.nox (hb cdv A outer s H E hr), ?_⟩
  have hl := sp_len arity_def h
  obtain ⟨L, S, ds, r, sr, h⟩ := h
  have hds : ds.length = ps.length := by rw [← r.length]; exact hl
  refine ⟨L, S, ds.map some ++ List.replicate m none, start_rep r (by rw [hds]; exact hm), sr, ?_⟩
  unfold dDef at h
  rw [if_pos hds] at h
  show After w K noW L H (B (ds.map some ++ List.replicate m none) S) _
  generalize B (ds.map some ++ List.replicate m none) S = o at h
  cases o with
  | ok fl S' =>
    intro L' H' e' s'
    cases fl with
    | nx r' => exact fun σ er => leave_read e' sr s' (Rp.of .non) h
    | rt d => exact fun v rv => leave_read e' sr s' rv h
    | bk r' => exact False.elim h
    | ct r' => exact False.elim h
  | ex c S' => exact False.elim h
  | no => exact h
end
def dFn (F : Df) (f : Da) : De := fun r S => (f r S).bind F
def pick {α : Type} (perm : List Nat) (xs : List α) : List α := perm.filterMap (xs[·]?)
def dFnK (F : Df) (perm : List Nat) (f g : Da) : De := fun r S => (f r S).bind fun ds S1 => (g r S1).bind fun es S2 => F (pick perm (ds ++ es)) S2
section
variable {X : Cx} {k : Nat} {f : Addr} {fd : FuncData} {ps : List Str} {F : Df} {x : Str} {p pos : Pos} {e : Expr} {es : List Expr} {fa fk : Da}
theorem se_call (G : FD X.prog X.w X.K X.mg X.base k f fd ps F) (hr : Room k X.A) (hg : Gl X x) (hm : X.mg x = some (.ref f)) (hk : PySem.W.keepIn X.K (.ref f) = true) (hb : Binds X.K fd ps []) (hdb : (x == ("__debug__" : Str)) = false)
    (ha : SA X noW (e :: es) fa) (he : starEach (e :: es) X.env = (false, eval e X.env) :: starEach es X.env := by rfl) (hpl : (backTo pos (starEach es X.env)).any (·.1) = false := by rfl) :
    SE X noW (.Call (.Name x p) (e :: es) [] pos) (dFn F fa) :=
  pe_imp (pe_call G hr hg hm hk hb .nil pass0 ha hdb he hpl) fun s H Q h => by
    obtain ⟨L, S, r, er, sr, h⟩ := h
    refine ⟨L, S, r, er, sr, (After.bnd h).mono fun ds S1 L1 H1 e1 s1 h1 vs rvs => ?_⟩
    show spD X.w X.K F (vs ++ []) H1 Q E0
    rw [List.append_nil]
    exact ⟨L1, S1, ds, rvs, s1, h1⟩
theorem se_call0 (G : FD X.prog X.w X.K X.mg X.base k f fd ps F) (hr : Room k X.A) (hg : Gl X x) (hm : X.mg x = some (.ref f)) (hk : PySem.W.keepIn X.K (.ref f) = true) (hb : Binds X.K fd ps []) (hdb : (x == ("__debug__" : Str)) = false) :
    SE X noW (.Call (.Name x p) [] [] pos) (dFn F dNil) :=
  pe_imp (pe_call0 G hr hg hm hk hb .nil pass0 hdb) fun s H Q h => by
    obtain ⟨L, S, r, er, sr, h⟩ := h
    exact ⟨L, S, [], .nil, sr, h⟩
abbrev SK (X : Cx) (Wi : Wish) (kws : List Keyword) (f : Da) : Prop := PK X kws (tAs X.w X.K Wi f)
theorem pk_imp {kws : List Keyword} {t t' : TA} (h : PK X kws t) (i : ∀ s H Q, t' s H Q → t s H Q) : PK X kws t' := ⟨fun pos pins s σ H Q I q => h.run pos pins s σ H Q I (i _ _ _ q)⟩
theorem sk_nil {Wi : Wish} : SK X Wi [] dNil := pk_imp pk_nil fun s H Q h => by
  obtain ⟨L, S, rr, er, sr, h⟩ := h
  exact h L H Ex.refl sr [] .nil
theorem sk_cons {Wi : Wish} {e : Expr} {kws : List Keyword} {nm : Option Str} {kpos : Pos} {f : De} {g : Da} (h1 : SE X Wi e f) (h2 : SK X Wi kws g) : SK X Wi (⟨nm, e, kpos⟩ :: kws) (dCons f g) :=
  pk_imp (pk_cons h1 h2) fun s H Q h => by
    obtain ⟨L, S, rr, er, sr, h⟩ := h
    refine ⟨L, S, rr, er, sr, (After.bnd h).mono fun d S1 L1 H1 e1 s1 h1 x rx => ?_⟩
    refine ⟨L1, S1, rr, er.ex e1, s1, (After.bnd h1).mono fun ds S2 L2 H2 e2 s2 h2 xs rxs => ?_⟩
    exact h2 L2 H2 Ex.refl s2 (x :: xs) (.cons (rx.ex e2) rxs)
theorem Vals.pick : ∀ (perm : List Nat) {vs : List V} {us : List Value}, Vals vs us → Vals (pick perm vs) (pick perm us)
  | [], _, _, _ => .nil
  | i :: q, vs, us, h => by
    unfold Ws.pick
    cases e : vs[i]? with
    | none =>
      rw [List.filterMap_cons_none e, List.filterMap_cons_none (Vals.none_of h e)]
      exact Vals.pick q h
    | some v =>
      obtain ⟨u, e2, r⟩ := Vals.get h e
      rw [List.filterMap_cons_some e, List.filterMap_cons_some e2]
      exact .cons r (Vals.pick q h)
theorem Rps.pick {w : World} {K : PySem.W.Frag} {L : Cn} {H : Hp} {vs : List V} {ds : List D} (h : Rps w K L H vs ds) : ∀ (perm : List Nat), Rps w K L H (Ws.pick perm vs) (Ws.pick perm ds)
  | [] => .nil
  | i :: q => by
    unfold Ws.pick
    rcases Rps.get (i := i) h with ⟨v, d, e1, e2, r⟩ | ⟨e1, e2⟩
    · rw [List.filterMap_cons_some e1, List.filterMap_cons_some e2]
      exact .cons r (Rps.pick h q)
    · rw [List.filterMap_cons_none e1, List.filterMap_cons_none e2]
      exact Rps.pick h q
theorem Rps.append {w : World} {K : PySem.W.Frag} {L : Cn} {H : Hp} : ∀ {vs us : List V} {ds es : List D}, Rps w K L H vs ds → Rps w K L H us es → Rps w K L H (vs ++ us) (ds ++ es)
  | _, _, _, _, .nil, q => q
  | _, _, _, _, .cons h t, q => .cons h (Rps.append t q)
/-- how n positional values and keywords ks come to the parameters -/
def KB (K : PySem.W.Frag) (fd : FuncData) (ps : List Str) (n : Nat) (ks : List Str) (perm : List Nat) : Prop :=
  ∀ (s : Shared) (us ws : List Value), K.In s.heap → us.length = n → ws.length = ks.length → BindsTo s fd ⟨us, ks.zip ws⟩ (ps.zip (pick perm (us ++ ws)))
theorem KB.kbn {K : PySem.W.Frag} {n : Nat} {ks : List Str} {perm : List Nat} (h : KB K fd ps n ks perm) : KBn K fd ps n ks (fun us ws => pick perm (us ++ ws)) (fun vs zs => pick perm (vs ++ zs)) :=
  ⟨h, fun r1 r2 => Vals.pick perm (r1.append r2)⟩
def dLen (n : Nat) (f : Da) : Da := fun r S => (f r S).bind fun ds S1 => if ds.length = n then .ok ds S1 else .no
theorem se_callK0 {kws : List Keyword} {ks : List Str} {perm : List Nat} (G : FD X.prog X.w X.K X.mg X.base k f fd ps F) (hr : Room k X.A) (hg : Gl X x) (hm : X.mg x = some (.ref f)) (hk : PySem.W.keepIn X.K (.ref f) = true) (hb : KB X.K fd ps 0 ks perm) (hdb : (x == ("__debug__" : Str)) = false)
    (hw : SK X noW kws fk) (hall : (backToKw pos (keywordEach kws X.env)).all (·.1.isSome) = true := by rfl) (hks : (backToKw pos (keywordEach kws X.env)).filterMap (·.1) = ks := by rfl)
    (hpl : ((backTo pos (starEach [] X.env)).any (·.1) || (backToKw pos (keywordEach kws X.env)).any (·.1.isNone)) = false := by rfl) :
    SE X noW (.Call (.Name x p) [] kws pos) (dFnK F perm dNil (dLen ks.length fk)) := by
  refine ⟨fun pins s σ H Q I h => ?_⟩
  obtain ⟨L, S, r, er, sr, h⟩ := h
  refine wpAny_Call_Name_kw (ld_glob I hg hm ?_ hdb)
  refine PySem.W.callWith_KW0 (h₀ := X.base) I.ok.mod.kin hk hall (thn (hw.run pos pins s σ H (fun zs H2 => zs.length = ks.length ∧ spD X.w X.K F (pick perm zs) H2 Q E0) I ?_) fun ws s2 ⟨zs, H2, I2, rz, l2, q2⟩ => ⟨I2.kIn, ?_⟩) hpl
  · refine ⟨L, S, r, er, sr, (After.bnd (After.bnd h)).mono fun zs S2 L2 H2 e2 s2 h2 us rus => ?_⟩
    split at h2
    · rename_i c2
      have h2 := h2 L2 H2 Ex.refl s2
      exact ⟨rus.length.trans c2, L2, S2, _, rus.pick perm, s2, h2⟩
    · exact False.elim h2
  · rw [hks]
    exact run_fnN (vs := []) (us := []) G hr hb.kbn pass0 I2 .nil rz rfl l2 q2
end
end Ws
namespace Ws
open PySem PySem.Spec PyProof.Rows L2 RZ
def dOrB (f g : De) : De := fun r S => (f r S).bind fun d S1 => match truD S1 d with
  | some true => .ok d S1
  | some false => g r S1
  | none => .no
def dAndB (f g : De) : De := fun r S => (f r S).bind fun d S1 => match truD S1 d with
  | some true => g r S1
  | some false => .ok d S1
  | none => .no
def dNotB (f : De) : De := fun r S => (f r S).bind fun d S1 => match truD S1 d with
  | some b => .ok (.bl (!b)) S1
  | none => .no
section
variable {X : Cx} {Wi : Wish} {a b : Expr} {f1 f2 : De} {rest : List Expr} {pos : Pos}
theorem se_orB (ha : SE X Wi a f1) (hb : SE X Wi (.BoolOp .Or (b :: rest) pos) f2) : SE X Wi (.BoolOp .Or (a :: b :: rest) pos) (dOrB f1 f2) :=
  pe_imp (pe_orT ha hb) fun s H Q h => by
    obtain ⟨L, S, rr, er, sr, h⟩ := h
    refine ⟨L, S, rr, er, sr, (After.bnd h).mono fun d S1 L1 H1 e1 s1 h1 x rx => ?_⟩
    cases e : truD S1 d with
    | none => rw [e] at h1; exact False.elim h1
    | some k =>
      rw [e] at h1
      refine ⟨k, tru_v rx s1 e, ?_⟩
      cases k with
      | true => exact h1 L1 H1 Ex.refl s1 x rx
      | false => exact ⟨L1, S1, rr, er.ex e1, s1, h1⟩
theorem se_andB (ha : SE X Wi a f1) (hb : SE X Wi (.BoolOp .And (b :: rest) pos) f2) : SE X Wi (.BoolOp .And (a :: b :: rest) pos) (dAndB f1 f2) :=
  pe_imp (pe_andT ha hb) fun s H Q h => by
    obtain ⟨L, S, rr, er, sr, h⟩ := h
    refine ⟨L, S, rr, er, sr, (After.bnd h).mono fun d S1 L1 H1 e1 s1 h1 x rx => ?_⟩
    cases e : truD S1 d with
    | none => rw [e] at h1; exact False.elim h1
    | some k =>
      rw [e] at h1
      refine ⟨k, tru_v rx s1 e, ?_⟩
      cases k with
      | true => exact ⟨L1, S1, rr, er.ex e1, s1, h1⟩
      | false => exact h1 L1 H1 Ex.refl s1 x rx
theorem se_notB (ha : SE X Wi a f1) : SE X Wi (.UnaryOp .Not a pos) (dNotB f1) :=
  pe_imp (pe_notT ha) fun s H Q h => by
    obtain ⟨L, S, rr, er, sr, h⟩ := h
    refine ⟨L, S, rr, er, sr, (After.bnd h).mono fun d S1 L1 H1 e1 s1 h1 x rx => ?_⟩
    cases e : truD S1 d with
    | none => rw [e] at h1; exact False.elim h1
    | some k => rw [e] at h1; exact ⟨k, tru_v rx s1 e, h1 L1 H1 Ex.refl s1 _ (Rp.of (.bl _))⟩
/-- list + list, to be changed -/
def gAddN (S : Store) (a b : D) : Option (List D) := match view S a, view S b with
  | .lst xs, .lst ys => if lineOk (xs.length + ys.length) then some (xs ++ ys) else none
  | _, _ => none
def dAddN (f g : De) : Da := fun r S => (f r S).bind fun a S1 => (g r S1).bind fun b S2 => match gAddN S2 a b with
  | some xs => .ok xs S2
  | none => .no
theorem sn_add (ha : SE X Wi a f1) (hb : SE X Wi b f2) : SN X Wi (.BinOp a .Add b pos) (dAddN f1 f2) :=
  pe_imp (pe_op op_cat ha hb) fun s H Q h => by
    obtain ⟨L, S, rr, er, sr, h⟩ := h
    refine ⟨L, S, rr, er, sr, (After.bnd h).mono fun d S1 L1 H1 e1 s1 h1 x rx => ?_⟩
    refine ⟨L1, S1, rr, er.ex e1, s1, (After.bnd h1).mono fun d2 S2 L2 H2 e2 s2 h2 y ry => ?_⟩
    cases e : gAddN S2 d d2 with
    | none => rw [e] at h2; exact False.elim h2
    | some xs =>
      rw [e] at h2
      unfold gAddN at e
      split at e
      · rename_i us vs g1 g2
        split at e
        · rename_i c
          cases e
          obtain ⟨a1, ws, rfl, h3, z1, r1⟩ := view_lst (rx.ex e2) s2 g1
          obtain ⟨a2, ws2, rfl, h4, z2, r2⟩ := view_lst ry s2 g2
          have z : ws.length + ws2.length ≤ sizeLine := by rw [r1.length, r2.length]; exact line_of c
          exact ⟨a1, a2, ws, ws2, rfl, rfl, h3, h4, z, fun p np => h2 L2 H2 Ex.refl s2 _ (r1.append r2) (by rw [List.length_append]; exact z) p np⟩
        · cases e
      · cases e
end
def endM : Out Fl → Out D
  | .ok (.rt d) S => .ok d S
  | .ok (.nx _) S => .ok .non S
  | _ => .no
def dDefM (n m : Nat) (B : Ds) : Df := fun ds S => if ds.length = n then endM (B (ds.map some ++ List.replicate m none) S) else .no
theorem arity_defM {n m : Nat} {B : Ds} : Arity (dDefM n m B) n := fun ds S h => if_neg h
section
variable {P : Program} {w : World} {K : PySem.W.Frag} {mg : Str → Option Value} {base : Heap}
theorem fd_defM {x qual : Str} {params : Arguments} {body : List Stmt} {scope : Scope} {dvs : List V} {kws : List (Str × V)} {f : Addr} {fd : FuncData} {N ps : List Str} {k m : Nat} {B : Ds}
    (F : FunD K x qual params body scope dvs kws f fd) (Sc : FnScope N ps scope) (hm : N.length = ps.length + m)
    (hb : ∀ (cdv : Value) (A : Around) (outer : List Env) (s : Shared) (H : Hp) (E : XK), Room k (A.deeper (envOfC qual scope s.heap.objs.size f cdv)) → SSs ((cxOf CX0 P w K mg base N qual scope f cdv A outer s H E).nox) noW body B) :
    FD P w K mg base (k + 1) f fd ps (dDefM ps.length m B) := by
  refine F.ok Sc (fun vs H Q E h => sp_len arity_defM h) fun cdv A outer s H vs Q E hr h => ⟨_, PSs.nox (hb cdv A outer s H E hr), ?_⟩
  have hl := sp_len arity_defM h
  obtain ⟨L, S, ds, r, sr, h⟩ := h
  have hds : ds.length = ps.length := by rw [← r.length]; exact hl
  refine ⟨L, S, ds.map some ++ List.replicate m none, start_rep r (by rw [hds]; exact hm), sr, ?_⟩
  unfold dDefM at h
  rw [if_pos hds] at h
  show After w K noW L H (B (ds.map some ++ List.replicate m none) S) _
  generalize B (ds.map some ++ List.replicate m none) S = o at h
  cases o with
  | ok fl S' =>
    intro L' H' e' s'
    cases fl with
    | nx r' => exact fun σ er => h L' H' e' s' _ (Rp.of .non)
    | rt d => exact fun v rv => h L' H' e' s' v rv
    | bk r' => exact False.elim h
    | ct r' => exact False.elim h
  | ex c S' => exact False.elim h
  | no => exact h
/-- level nought: nothing is promised -/
def dNo : Df := fun _ _ => .no
theorem fd_zero {f : Addr} {fd : FuncData} {ps : List Str} {k : Nat} : FD P w K mg base k f fd ps dNo := by
  refine ⟨fun vs H Q E h => ?_, fun A outer s H args us vs Q E _ _ _ _ h => ?_⟩
  · obtain ⟨L, S, ds, r, sr, h⟩ := h
    exact False.elim h
  · obtain ⟨L, S, ds, r, sr, h⟩ := h
    exact False.elim h
end
def visB (sc : Scope) (x : Str) : Bool := (match sc.names.lookup x with
  | some .local => true
  | some .cell => true
  | some .free => true
  | _ => false) && !(x == ("__debug__" : Str)) && !(x == ("__classdict__" : Str))
/-- inner: the scope as it is written, for a block's own cells -/
def locB (inner : Option Scope) (sc : Scope) (x : Str) : Bool := match sc.names.lookup x with
  | some .local => true
  | some .cell => (match inner with
    | none => true
    | some s => match s.names.lookup x with
      | some .cell => true
      | _ => false)
  | _ => false
def gloB (sc : Scope) (x : Str) : Bool := (match sc.names.lookup x with
  | some .globalImplicit => true
  | _ => false) && !(x == ("__debug__" : Str)) && !decide (x = "__name__")
/-- where one stands: the facts of a def's or a block's context -/
structure Ct (P : Program) (w : World) (K : PySem.W.Frag) (mg : Str → Option Value) (base : Heap) (sc : Scope) (N vs ls gs : List Str) (k : Nat) (X : Cx) : Prop where
  hP : X.prog = P
  hw : X.w = w
  hK : X.K = K
  hmg : X.mg = mg
  hb : X.base = base
  hsc : X.env.scope = sc
  hN : X.N = N
  nd : N.Nodup
  vis : ∀ x ∈ vs, visB sc x = true
  loc : ∀ x ∈ ls, L2.Loc X.env.scope x ∧ (X.fn x = true ∨ X.env.scope.names.lookup x = some .local)
  glo : ∀ x ∈ gs, gloB sc x = true
  calm : X.calm = true
  room : Room k X.A
  pass : PassesOwn (model X.prog X.w) X.A X.env X.xe
mutual
/-- a value of the module is this datum: its tuples lie in the part of the heap that is looked at -/
def okD (K : PySem.W.Frag) : Value → D → Bool
  | .none, .non => true
  | .bool b, .bl c => decide (b = c)
  | .int j _, .int i => decide (j = i)
  | .str y _, .str x => decide (y = x)
  | .ref a, .tup ds => match K.lookup a with
    | some ⟨.type c, none, .seq its _, _⟩ => decide (c = "tuple") && (decide (its.size ≤ sizeLine) && okDs K its.toList ds)
    | _ => false
  | _, _ => false
def okDs (K : PySem.W.Frag) : List Value → List D → Bool
  | [], [] => true
  | v :: vs, d :: ds => okD K v d && okDs K vs ds
  | _, _ => false
end
structure Top (K : PySem.W.Frag) (mg : Str → Option Value) (defs : List (Str × Stmt)) (blt : List Str) (cst : List (Str × D)) (ad : Nat → Addr) (fdd : Nat → FuncData) : Prop where
  d : ∀ (i : Nat) (x : Str) (st : Stmt), defs[i]? = some (x, st) → mg x = some (.ref (ad i)) ∧ FunD K x x (defArgs st) (defBody st) (defScope st) [] [] (ad i) (fdd i)
  b : ∀ x ∈ blt, mg x = none
  c : ∀ p ∈ cst, ∃ u, mg p.1 = some u ∧ okD K u p.2 = true
section
variable {P : Program} {w : World} {K : PySem.W.Frag} {mg : Str → Option Value} {base : Heap} {X : Cx} {sc : Scope} {N vs ls gs : List Str} {k : Nat} {x : Str} {defs : List (Str × Stmt)} {blt : List Str} {cst : List (Str × D)} {ad : Nat → Addr} {fdd : Nat → FuncData}
theorem Ct.vis_ (c : Ct P w K mg base sc N vs ls gs k X) (h : x ∈ vs) : Vis X.env.scope x ∧ (x == ("__debug__" : Str)) = false ∧ (x == ("__classdict__" : Str)) = false := by
  have q := c.vis x h
  unfold visB at q
  simp only [Bool.and_eq_true, Bool.not_eq_true'] at q
  refine ⟨?_, q.1.2, q.2⟩
  rw [c.hsc]
  have q1 := q.1.1
  unfold Vis
  split at q1
  · rename_i e; exact .inl e
  · rename_i e; exact .inr (.inl e)
  · rename_i e; exact .inr (.inr e)
  · cases q1
theorem Ct.glo_ (c : Ct P w K mg base sc N vs ls gs k X) (h : x ∈ gs) : Gl X x ∧ (x == ("__debug__" : Str)) = false ∧ x ≠ "__name__" := by
  have q := c.glo x h
  unfold gloB at q
  simp only [Bool.and_eq_true, Bool.not_eq_true'] at q
  refine ⟨?_, q.1.2, by simpa using q.2⟩
  unfold Gl Env.kindOf
  rw [c.hsc]
  have q1 := q.1.1
  split at q1
  · rename_i e; exact e
  · cases q1
theorem mem_at {α : Type} {l : List α} {i : Nat} {x : α} (h : l[i]? = some x) : x ∈ l := List.mem_of_getElem? h
/-- a built-in that the top has left as it is -/
abbrev Bg (X : Cx) (x : Str) : Prop := Gl X x ∧ X.mg x = none
theorem Ct.bl (c : Ct P w K mg base sc N vs ls gs k X) (T : Top K mg defs blt cst ad fdd) (i j : Nat) (hi : gs[i]? = some x := by rfl) (hj : blt[j]? = some x := by rfl) : Bg X x :=
  ⟨(c.glo_ (mem_at hi)).1, by rw [c.hmg]; exact T.b x (mem_at hj)⟩
theorem Ct.ty (c : Ct P w K mg base sc N vs ls gs k X) (T : Top K mg defs blt cst ad fdd) (t : Ty) (i j : Nat) (hi : gs[i]? = some x := by rfl) (hj : blt[j]? = some x := by rfl) (hv : bootBuiltins x = some (.type t.nm) := by decide +kernel) : TyNm X x t :=
  ⟨(c.glo_ (mem_at hi)).1, by rw [c.hmg]; exact T.b x (mem_at hj), hv, (c.glo_ (mem_at hi)).2.2, (c.glo_ (mem_at hi)).2.1⟩
theorem cv (c : Ct P w K mg base sc N vs ls gs k X) (i j : Nat) {Wi : Wish} {pos : Pos} (hi : N[i]? = some x := by rfl) (hj : vs[j]? = some x := by rfl) : SE X Wi (.Name x pos) (dVar i) :=
  let q := c.vis_ (mem_at hj); se_var (by rw [c.hN]; exact hi) q.1 q.2.1 q.2.2
theorem cn (c : Ct P w K mg base sc N vs ls gs k X) (i j : Nat) {pos : Pos} (hi : N[i]? = some x := by rfl) (hj : ls[j]? = some x := by rfl) : SG X (.Name x pos) [i] (gNm i) :=
  let q := c.loc x (mem_at hj); sg_name (by rw [c.hN]; exact c.nd) (by rw [c.hN]; exact hi) q.1 q.2
theorem cset (c : Ct P w K mg base sc N vs ls gs k X) (i j : Nat) {Wi : Wish} {pos pos' : Pos} {e : Expr} {fe : De} (he : SE X Wi e fe) (hi : N[i]? = some x := by rfl) (hj : ls[j]? = some x := by rfl) (hs : swapsWith e (some (.Name x pos')) pos.line X.env = pure false := by rfl) :
    SS X Wi (.Assign [.Name x pos'] e pos) (sAsg fe (gNm i)) :=
  let q := c.loc x (mem_at hj); ss_set (by rw [c.hN]; exact c.nd) (by rw [c.hN]; exact hi) q.1 q.2 he hs
/-- a def's own call -/
theorem ccall (c : Ct P w K mg base sc N vs ls gs k X) (T : Top K mg defs blt cst ad fdd) (i j : Nat) {st : Stmt} {kk : Nat} {ps : List Str} {F : Df} {p pos : Pos} {e : Expr} {es : List Expr} {fa : Da} (G : FD P w K mg base kk (ad j) (fdd j) ps F) (hb : Binds K (fdd j) ps [])
    (ha : SA X noW (e :: es) fa) (hi : gs[i]? = some x := by rfl) (hj : defs[j]? = some (x, st) := by rfl) (hk : kk ≤ k := by decide) (he : starEach (e :: es) X.env = (false, eval e X.env) :: starEach es X.env := by rfl) (hpl : (backTo pos (starEach es X.env)).any (·.1) = false := by rfl) :
    SE X noW (.Call (.Name x p) (e :: es) [] pos) (dFn F fa) := by
  have t := T.d j x st hj
  have g := c.glo_ (mem_at hi)
  have e1 := c.hP; have e2 := c.hw; have e3 := c.hK; have e4 := c.hmg; have e5 := c.hb
  subst e1 e2 e3 e4 e5
  exact se_call G (c.room.mono hk) g.1 t.1 t.2.kp hb g.2.1 ha he hpl
theorem ccall0 (c : Ct P w K mg base sc N vs ls gs k X) (T : Top K mg defs blt cst ad fdd) (i j : Nat) {st : Stmt} {kk : Nat} {ps : List Str} {F : Df} {p pos : Pos} (G : FD P w K mg base kk (ad j) (fdd j) ps F) (hb : Binds K (fdd j) ps [])
    (hi : gs[i]? = some x := by rfl) (hj : defs[j]? = some (x, st) := by rfl) (hk : kk ≤ k := by decide) : SE X noW (.Call (.Name x p) [] [] pos) (dFn F dNil) := by
  have t := T.d j x st hj
  have g := c.glo_ (mem_at hi)
  have e1 := c.hP; have e2 := c.hw; have e3 := c.hK; have e4 := c.hmg; have e5 := c.hb
  subst e1 e2 e3 e4 e5
  exact se_call0 G (c.room.mono hk) g.1 t.1 t.2.kp hb g.2.1
theorem ccallK0 (c : Ct P w K mg base sc N vs ls gs k X) (T : Top K mg defs blt cst ad fdd) (i j : Nat) {st : Stmt} {kk : Nat} {ks : List Str} {perm : List Nat} {ps : List Str} {F : Df} {p pos : Pos} {kws : List Keyword} {fk : Da} (G : FD P w K mg base kk (ad j) (fdd j) ps F) (hb : KB K (fdd j) ps 0 ks perm)
    (hw : SK X noW kws fk) (hi : gs[i]? = some x := by rfl) (hj : defs[j]? = some (x, st) := by rfl) (hk : kk ≤ k := by decide) (hall : (backToKw pos (keywordEach kws X.env)).all (·.1.isSome) = true := by rfl) (hks : (backToKw pos (keywordEach kws X.env)).filterMap (·.1) = ks := by rfl)
    (hpl : ((backTo pos (starEach [] X.env)).any (·.1) || (backToKw pos (keywordEach kws X.env)).any (·.1.isNone)) = false := by rfl) :
    SE X noW (.Call (.Name x p) [] kws pos) (dFnK F perm dNil (dLen ks.length fk)) := by
  have t := T.d j x st hj
  have g := c.glo_ (mem_at hi)
  have e1 := c.hP; have e2 := c.hw; have e3 := c.hK; have e4 := c.hmg; have e5 := c.hb
  subst e1 e2 e3 e4 e5
  exact se_callK0 G (c.room.mono hk) g.1 t.1 t.2.kp hb g.2.1 hw hall hks hpl
/-- a def's own context -/
theorem ct_def {ps : List Str} {qual : Str} {scope : Scope} {f : Addr} {cdv : Value} {A : Around} {outer : List Env} {s : Shared} {H : Hp} {E : XK}
    (Sc : FnScope N ps scope) (hv : (vs.all (visB scope)) = true) (hl : (ls.all (locB none scope)) = true) (hg : (gs.all (gloB scope)) = true) (hr : Room k (A.deeper (envOfC qual scope s.heap.objs.size f cdv))) :
    Ct P w K mg base scope N vs ls gs k ((cxOf CX0 P w K mg base N qual scope f cdv A outer s H E).nox) where
  hP := rfl
  hw := rfl
  hK := rfl
  hmg := rfl
  hb := rfl
  hsc := rfl
  hN := rfl
  nd := Sc.nd
  vis := fun x h => List.all_eq_true.mp hv x h
  loc := fun x h => by
    have q := List.all_eq_true.mp hl x h
    unfold locB at q
    refine ⟨?_, .inl rfl⟩
    show L2.Loc scope x
    unfold L2.Loc
    split at q
    · rename_i e; exact .inl e
    · rename_i e; exact .inr e
    · cases q
  glo := fun x h => List.all_eq_true.mp hg x h
  calm := rfl
  room := hr
  pass := PassesOwn.never
/-- a block's context -/
theorem ct_blk {scope : Scope} {vs' ls' gs' : List Str} (c : Ct P w K mg base sc N vs ls gs k X) (hv : (vs'.all (visB (relS scope sc))) = true) (hl : (ls'.all (locB (some scope) (relS scope sc))) = true) (hg : (gs'.all (gloB (relS scope sc))) = true)
    (s : Shared) (H : Hp) (C : Addr) (cl : List (Str × Addr)) (fp : List Addr) : Ct P w K mg base (relS scope sc) N vs' ls' gs' k (X.blk s H scope (compEnvC scope cl C X.env) fp) where
  hP := c.hP
  hw := c.hw
  hK := c.hK
  hmg := c.hmg
  hb := c.hb
  hsc := by show relS scope X.env.scope = _; rw [c.hsc]
  hN := c.hN
  nd := c.nd
  vis := fun x h => List.all_eq_true.mp hv x h
  loc := fun x h => by
    have q := List.all_eq_true.mp hl x h
    unfold locB at q
    have e0 : (compEnvC scope cl C X.env).scope = relS scope sc := by show relS scope X.env.scope = _; rw [c.hsc]
    show L2.Loc (compEnvC scope cl C X.env).scope x ∧ ((scope.names.lookup x == some .cell) = true ∨ (compEnvC scope cl C X.env).scope.names.lookup x = some .local)
    rw [e0]
    split at q
    · rename_i e; exact ⟨.inl e, .inr e⟩
    · rename_i e
      refine ⟨.inr e, .inl ?_⟩
      split at q
      · rename_i z; cases z
      · rename_i z; cases z
        split at q
        · rename_i e2; rw [e2]; rfl
        · cases q
    · cases q
  glo := fun x h => List.all_eq_true.mp hg x h
  calm := c.calm
  room := c.room
  pass := PassesOwn.never
/-- what a comprehension's block is made of -/
abbrev InBlk (P : Program) (w : World) (K : PySem.W.Frag) (mg : Str → Option Value) (base : Heap) (sc : Scope) (N vs ls gs : List Str) (k : Nat) (Q : Cx → Prop) : Prop := ∀ Y : Cx, Ct P w K mg base sc N vs ls gs k Y → Q Y
theorem clc (c : Ct P w K mg base sc N vs ls gs k X) (own : List (Str × Nat)) (vs' ls' gs' : List Str) {elt tg iter : Expr} {ifs : List Expr} {scope : Scope} {pos : Pos} {Wi : Wish} {it : Di} {g : Dg} {is : List Nat} {t : Dt} {e : De}
    (hi : SI X Wi tg iter it) (hb : InBlk P w K mg base (relS scope sc) N vs' ls' gs' k fun Y => SG Y tg is g ∧ STs Y noW ifs t ∧ SE Y noW elt e)
    (ok : blkC N sc scope own = true := by decide +kernel) (hv : ∀ i ∈ is, i ∈ own.map (·.2) := by decide) (tv : (vs'.all (visB (relS scope sc))) = true := by decide +kernel) (tl : (ls'.all (locB (some scope) (relS scope sc))) = true := by decide +kernel) (tg' : (gs'.all (gloB (relS scope sc))) = true := by decide +kernel)
    (hs : ∀ x, foldedSetIterable iter X.env x = pure x := by intro _; rfl) : SN X Wi (.ListComp elt [⟨tg, iter, ifs, 0⟩] scope pos) (dComp (own.map (·.2)) it g t e) :=
  sn_lc c.calm (by rw [c.hN]; exact c.nd) hi (by rw [c.hN, c.hsc]; exact blkOk_by ok) hv (fun s H C cl fp => (hb _ (ct_blk c tv tl tg' s H C cl fp)).1) (fun s H C cl fp => (hb _ (ct_blk c tv tl tg' s H C cl fp)).2.1) (fun s H C cl fp => (hb _ (ct_blk c tv tl tg' s H C cl fp)).2.2) hs
theorem sw_ok {elt : Expr} {gs : List Comprehension} {scope : Scope} {pos py : Pos} {y : Str} {l : Nat} {env : Env} (h : env.scope = sc) (hk : (match sc.kind with | .function => true | _ => false) = true) (hy : sc.names.lookup y = some .local) (hl : (py.line == pos.line) = true)
    (ha : (scope.names.any fun (n, k) => n == y && (k == .local || k == .cell)) = false) : swapsWith (.ListComp elt gs scope pos) (some (.Name y py)) l env = pure true := by
  refine sw_true ?_ (by rw [h]; exact hy) hl ha
  rw [h]
  split at hk
  · assumption
  · cases hk
theorem csetLc (c : Ct P w K mg base sc N vs ls gs k X) (i : Nat) (own : List (Str × Nat)) (vs' ls' gs' : List Str) {elt tg iter : Expr} {ifs : List Expr} {scope : Scope} {pos py spos : Pos} {Wi : Wish} {it : Di} {g : Dg} {is : List Nat} {t : Dt} {e : De}
    (hi : SI X Wi tg iter it) (hb : InBlk P w K mg base (relS scope sc) N vs' ls' gs' k fun Y => SG Y tg is g ∧ STs Y noW ifs t ∧ SE Y noW elt e)
    (ix : N[i]? = some x := by rfl) (ok : blkC N sc scope own = true := by decide +kernel) (hv : ∀ i ∈ is, i ∈ own.map (·.2) := by decide) (tv : (vs'.all (visB (relS scope sc))) = true := by decide +kernel) (tl : (ls'.all (locB (some scope) (relS scope sc))) = true := by decide +kernel) (tg' : (gs'.all (gloB (relS scope sc))) = true := by decide +kernel)
    (w1 : (match sc.kind with | .function => true | _ => false) = true := by decide +kernel) (w2 : sc.names.lookup x = some .local := by decide +kernel) (w3 : (py.line == pos.line) = true := by rfl) (w4 : (scope.names.any fun (n, k) => n == x && (k == .local || k == .cell)) = false := by decide +kernel)
    (hs : ∀ x, foldedSetIterable iter X.env x = pure x := by intro _; rfl) : SS X Wi (.Assign [.Name x py] (.ListComp elt [⟨tg, iter, ifs, 0⟩] scope pos) spos) (sAsg (dFz (dComp (own.map (·.2)) it g t e)) (gNm i)) :=
  ss_setLc c.calm (by rw [c.hN]; exact c.nd) (by rw [c.hN]; exact ix) (by rw [c.hsc]; exact w2) (sw_ok c.hsc w1 w2 w3 w4) hi (by rw [c.hN, c.hsc]; exact blkOk_by ok) hv (fun s H C cl fp => (hb _ (ct_blk c tv tl tg' s H C cl fp)).1) (fun s H C cl fp => (hb _ (ct_blk c tv tl tg' s H C cl fp)).2.1) (fun s H C cl fp => (hb _ (ct_blk c tv tl tg' s H C cl fp)).2.2) hs
/-- THE RULES for a def, in a context -/
theorem cdef {ps : List Str} {m j : Nat} {st : Stmt} {B : Ds} (T : Top K mg defs blt cst ad fdd) (hj : defs[j]? = some (x, st)) (N vs ls gs : List Str) (Sc : FnScope N ps (defScope st)) (hm : N.length = ps.length + m)
    (tv : (vs.all (visB (defScope st))) = true) (tl : (ls.all (locB none (defScope st))) = true) (tg : (gs.all (gloB (defScope st))) = true)
    (hb : ∀ X, Ct P w K mg base (defScope st) N vs ls gs k X → SSs X noW (defBody st) B) : FD P w K mg base (k + 1) (ad j) (fdd j) ps (dDef ps.length m B) :=
  fd_def (T.d j x st hj).2 Sc hm fun cdv A outer s H E hr => hb _ (ct_def Sc tv tl tg hr)
theorem cdefM {ps : List Str} {m j : Nat} {st : Stmt} {B : Ds} (T : Top K mg defs blt cst ad fdd) (hj : defs[j]? = some (x, st)) (N vs ls gs : List Str) (Sc : FnScope N ps (defScope st)) (hm : N.length = ps.length + m)
    (tv : (vs.all (visB (defScope st))) = true) (tl : (ls.all (locB none (defScope st))) = true) (tg : (gs.all (gloB (defScope st))) = true)
    (hb : ∀ X, Ct P w K mg base (defScope st) N vs ls gs k X → SSs X noW (defBody st) B) : FD P w K mg base (k + 1) (ad j) (fdd j) ps (dDefM ps.length m B) :=
  fd_defM (T.d j x st hj).2 Sc hm fun cdv A outer s H E hr => hb _ (ct_def Sc tv tl tg hr)
end
end Ws
namespace Ws
open PySem PySem.Spec PyProof.Rows L2 RZ
def atSc (env : Env) (sc : Scope) : Env := { env with scope := sc }
theorem atSc_eq {env : Env} {sc : Scope} (h : env.scope = sc) : atSc env sc = env := by subst h; rfl
section
variable {P : Program} {w : World} {K : PySem.W.Frag} {mg : Str → Option Value} {base : Heap} {X : Cx} {sc : Scope} {N vs ls gs : List Str} {k : Nat} {x : Str} {defs : List (Str × Stmt)} {blt : List Str} {cst : List (Str × Int)} {ad : Nat → Addr} {fdd : Nat → FuncData}
theorem casg (c : Ct P w K mg base sc N vs ls gs k X) {Wi : Wish} {pos : Pos} {e tg : Expr} {fe : De} {gd : Dg} {is : List Nat} (he : SE X Wi e fe) (hg : SG X tg is gd)
    (hs : ∀ env, swapsWithSole [tg] e pos.line (atSc env sc) = pure false := by intro _; rfl) (hw : ∀ env, swappedStores [tg] e (atSc env sc) = pure none := by intro _; kernel_rfl)
    (h1 : (assignEach [tg] X.env).map (·.2) = [assign tg X.env] := by rfl) : SS X Wi (.Assign [tg] e pos) (sAsg fe gd) :=
  ss_asg he hg (by have h := hs X.env; rwa [atSc_eq c.hsc] at h) (by have h := hw X.env; rwa [atSc_eq c.hsc] at h) h1
theorem cpar (c : Ct P w K mg base sc N vs ls gs k X) (i j : Nat) {Wi : Wish} {x y : Str} {a b : Expr} {fa : Da} {px py pt pos : Pos} {kt k2 pt2} (ha : SA X Wi [a, b] fa) (hi : N[i]? = some x := by rfl) (hj : N[j]? = some y := by rfl) (hij : i ≠ j := by decide)
    (hx : sc.names.lookup x = some .local := by decide +kernel) (hy : sc.names.lookup y = some .local := by decide +kernel)
    (hw : ∀ env, swappedStores [.Tuple [.Name x px, .Name y py] kt pt] (.Tuple [a, b] k2 pt2) (atSc env sc) = pure (some [x, y]) := by intro _; kernel_rfl) :
    SS X Wi (.Assign [.Tuple [.Name x px, .Name y py] kt pt] (.Tuple [a, b] k2 pt2) pos) (sPar [i, j] fa) :=
  ss_par c.calm (by rw [c.hN]; exact c.nd) (by rw [c.hN]; exact hi) (by rw [c.hN]; exact hj) hij (by rw [c.hsc]; exact hx) (by rw [c.hsc]; exact hy) ha (by have h := hw X.env; rwa [atSc_eq c.hsc] at h)
end
end Ws
namespace Ws
open PySem PySem.Spec PyProof.Rows L2 RZ
section
variable {P : Program} {w : World} {A : Around} {E : Value → Shared → Prop} {s : Shared} {a : Addr} {L : List (Addr × NestedKey)} {es : Array (Int × Value)} {ep : Nat} {t : SetTable}
theorem each_ref {α : Type} {R : Value → Addr × α → Prop} : ∀ (M : List (Addr × α)), (∀ q ∈ M, R (.ref q.1) q) → PySem.W.EachIs R (M.map fun q => Value.ref q.1) M
  | [], _ => .nil
  | q :: M, h => .cons (h q (List.mem_cons_self ..)) (each_ref M fun r m => h r (List.mem_cons_of_mem _ m))
theorem ref_each {α : Type} : ∀ {us : List Value} {M : List (Addr × α)}, PySem.W.EachIs (fun u q => u = Value.ref q.1) us M → us = M.map fun q => Value.ref q.1
  | _, _, .nil => rfl
  | _, _, .cons h t => by rw [h, ref_each t]; rfl
theorem nodup_fst {α β : Type} {f : α → β} {l : List α} (h : (l.map f).Nodup) : l.Nodup := List.Pairwise.of_map f (fun _ _ hne e => hne (congrArg f e)) h
theorem sort_coll {PD : List (Addr × PyData)} {Ps : Shared → Prop} {Q : Value → Shared → Prop} (hcol : ∀ (E' : Value → Shared → Prop) (Q' : List Value → Shared → Prop), (∀ s1 vs, Ps s1 → (∀ b o, s.heap.get? b = some o → s1.heap.get? b = some o) → vs.Perm (PD.map fun q => Value.ref q.1) → Q' vs s1) → wpAny (model P w) A.in1 (collect (.ref a)) Q' E' s)
    (hrd : ∀ q ∈ PD, ∃ as, Reads s.heap (.ref q.1) q.2 as) (hal : PySem.W.AllAlike (PD.map (·.2))) (hso : PySem.W.Sortable (PD.map (·.2))) (hdep : ∀ q ∈ PD, q.2.depth ≤ 60) (hlen : PD.length < 4000)
    (hu : A.units + 64 < cLine)
    (hQ : ∀ (s1 s' : Shared) (p : Addr) (out : List Value) (c : Nat) (N : List (Addr × PyData)), Ps s1 → (∀ b o, s1.heap.get? b = some o → s'.heap.get? b = some o) → s'.gens = s1.gens → s'.os = s1.os → s1.heap.objs.size ≤ p →
      s'.heap.get? p = some (seqObj "list" out.toArray c) → out = N.map (fun q => Value.ref q.1) → N.Perm PD → N.Pairwise (fun q r => PySem.W.dataLe false (fun q : Addr × PyData => q.2) q r = true) → Q (.ref p) s') : wpAny (model P w) A (call (.builtin "sorted") [.ref a]) Q E s := by
  refine Calls.call_function_entry kind_sorted plain_sorted entry_sorted (args_sorted1 _) ?_
  unfold Builtin.«sorted»
  refine wpAny_bind (m := checkCount "sorted" 1 1 _) (wpAny_pure ?_)
  refine wpAny_bind (hcol _ _ fun s1 vs ps k1 pm => ?_)
  obtain ⟨M, eM, pML⟩ : ∃ M : List (Addr × PyData), vs = M.map (fun q => Value.ref q.1) ∧ M.Perm PD := by
    have gen : ∀ (l : List (Addr × PyData)) (ys : List Value), (l.map fun q => Value.ref q.1).Perm ys → ∃ m : List (Addr × PyData), ys = m.map (fun q => Value.ref q.1) ∧ m.Perm l := by
      intro l
      induction l with
      | nil => intro ys h; exact ⟨[], by simpa using h.symm.eq_nil, .refl _⟩
      | cons b l ih =>
        intro ys h
        have hm : Value.ref b.1 ∈ ys := h.mem_iff.mp (by simp)
        obtain ⟨u, v, rfl⟩ := List.append_of_mem hm
        have h2 : (l.map fun q => Value.ref q.1).Perm (u ++ v) := (List.perm_cons (Value.ref b.1)).mp (h.trans List.perm_middle)
        obtain ⟨m, e, pm⟩ := ih _ h2
        refine ⟨m.take u.length ++ b :: m.drop u.length, ?_, ?_⟩
        · have e1 : u = (m.take u.length).map (fun q => Value.ref q.1) := by rw [List.map_take, ← e]; simp
          have e2 : v = (m.drop u.length).map (fun q => Value.ref q.1) := by rw [List.map_drop, ← e]; simp
          rw [List.map_append, List.map_cons, ← e1, ← e2]
        · refine List.perm_middle.trans ?_
          rw [List.take_append_drop]
          exact pm.cons b
    exact gen PD vs pm.symm
  have hln : M.length < 4000 := by rw [pML.length_eq]; exact hlen
  have hvl : vs.length < 4000 := by rw [eM, List.length_map]; exact hln
  refine wpAny_bind (wpAny_newList ?_ (by rw [sizeLine_eq]; omega))
  have hoL : (s1.heap.push (seqObj "list" vs.toArray 0)).get? s1.heap.objs.size = some (seqObj "list" vs.toArray 0) := Heap.get?_push_size _ rfl
  have er2 : PySem.W.EachIs (fun v (q : Addr × PyData) => ∃ as, Reads (s1.heap.push (seqObj "list" vs.toArray 0)) v q.2 as ∧ s1.heap.objs.size ∉ as) vs M := by
    rw [eM]
    refine each_ref M fun q m => ?_
    obtain ⟨as, z⟩ := hrd q (pML.mem_iff.mp m)
    have z1 := PyProof.Rows.Reads.keeps k1 z
    refine ⟨as, PyProof.Rows.Reads.keeps (fun b u e => Heap.get?_push_of_some _ e) z1, fun hm => ?_⟩
    exact Nat.lt_irrefl _ (Heap.lt_size (PyProof.On.reads_mem_get z1 _ hm).choose_spec)
  refine wpAny_bind (wpAny_holding (PySem.W.list_sort_data (s := { s1 with heap := s1.heap.push (seqObj "list" vs.toArray 0) }) (R := fun u (q : Addr × PyData) => u = Value.ref q.1) (enc := fun q => q.2) (bs := M) hoL (by rw [eM]; exact each_ref M fun q _ => rfl) er2 ?_ ?_ (by rw [sizeLine_eq]; omega) (fun q m => ?_) fun out ho2 eo => ?_))
  · intro x hx y hy
    exact hal x ((pML.map (·.2)).mem_iff.mp hx) y ((pML.map (·.2)).mem_iff.mp hy)
  · exact hso.imp (fun h d hd => h d ((pML.map (·.2)).mem_iff.mp hd)) fun h d hd => h d ((pML.map (·.2)).mem_iff.mp hd)
  · have := hdep q (pML.mem_iff.mp m)
    show A.units + 1 + 1 + q.2.depth < cLine
    omega
  · obtain ⟨c, hc⟩ := sortedHeap_at (vs := vs) (out := out.toArray) hoL
    refine wpAny_pure ⟨_, rfl, hQ s1 _ s1.heap.objs.size out c _ ps (fun b u q => ?_) rfl rfl (Nat.le_refl _) hc (ref_each eo) ((List.mergeSort_perm M _).trans pML) ?_⟩
    · have hlt := Heap.lt_size q
      show (sortedHeap (s1.heap.push (seqObj "list" vs.toArray 0)) s1.heap.objs.size vs out.toArray).get? b = some u
      rw [sortedHeap_old (Nat.ne_of_lt hlt) (by rw [size_push']; exact Nat.lt_succ_of_lt hlt)]
      exact Heap.get?_push_of_some _ q
    · have T : PySem.W.TotalLe (PySem.W.dataLe false fun q : Addr × PyData => q.2) := PySem.W.sortLe_total ..
      exact List.pairwise_mergeSort T.trans (fun a b => by rw [Bool.or_eq_true]; exact T.total a b) M
theorem gs_sorted {PD : List (Addr × PyData)} {Q : Value → Shared → Prop} (R : Sn w s.heap a L es ep t) (hpd : PD.map (·.1) = L.map (·.1)) (hrd : ∀ q ∈ PD, ∃ as, Reads s.heap (.ref q.1) q.2 as) (hal : PySem.W.AllAlike (PD.map (·.2))) (hso : PySem.W.Sortable (PD.map (·.2))) (hdep : ∀ q ∈ PD, q.2.depth ≤ 60) (hlen : L.length < 4000)
    (hh : A.handled = none) (hu : A.units + 64 < cLine)
    (hQ : ∀ (s' : Shared) (p : Addr) (out : List Value) (c : Nat) (N : List (Addr × PyData)), (∀ b o, s.heap.get? b = some o → s'.heap.get? b = some o) → s'.gens = s.gens → s'.os = s.os → s.heap.objs.size ≤ p →
      s'.heap.get? p = some (seqObj "list" out.toArray c) → out = N.map (fun q => Value.ref q.1) → N.Perm PD → N.Pairwise (fun q r => PySem.W.dataLe false (fun q : Addr × PyData => q.2) q r = true) → Q (.ref p) s') : wpAny (model P w) A (call (.builtin "sorted") [.ref a]) Q E s := by
  obtain ⟨o, ho, hex, hdat⟩ := R.ob
  have hsz := R.size
  have nda : (L.map (·.1)).Nodup := by
    have n1 : L.Nodup := nodup_fst (f := fun p : Addr × NestedKey => p.2) R.nd
    refine List.pairwise_map.mpr (List.Pairwise.imp_of_mem (fun {p q} hp hq hne e => hne ?_) n1)
    have h1 := R.keys p hp
    rw [e] at h1
    exact Prod.ext e (NestedIs.inj _ _ _ h1.1.1 (R.keys q hq).1.1)
  refine sort_coll (Ps := fun s1 => (∀ b o, s.heap.get? b = some o → s1.heap.get? b = some o) ∧ s.heap.objs.size ≤ s1.heap.objs.size ∧ s1.gens = s.gens ∧ s1.os = s.os) (fun E' Q' hq => ?_) hrd hal hso hdep (by rw [← List.length_map (f := (·.1)) (as := PD), hpd, List.length_map]; exact hlen) hu fun s1 s' p out c N ps k g o hp hg => hQ s' p out c N (fun b u e => k b u (ps.1 b u e)) (g.trans ps.2.2.1) (o.trans ps.2.2.2) (Nat.le_trans ps.2.1 hp) hg
  refine collect_set (A := A.in1) hh ⟨o, ho, hex.1, hdat⟩ R.fits (by unfold scanBound; omega) R.tab.rs R.led fun s1 vs k1 hz g1 o1 pm => ?_
  have hes : es.toList.map (·.2) = PD.map fun q => Value.ref q.1 := by
    have e1 : es.toList.map (·.2) = (L.map (·.1)).map Value.ref := by rw [R.rows, rowsN, List.map_map, List.map_map]; rfl
    rw [e1, ← hpd, List.map_map]; rfl
  rw [hes] at pm
  exact hq s1 vs ⟨k1, hz, g1, o1⟩ k1 pm
/-- .. of a dict -/
theorem gd_sorted {PD : List (Addr × PyData)} {ys : List (NestedKey × Addr × Value)} {Q : Value → Shared → Prop} (hs : (a == sysModules) = false) (hd : s.heap.DictOfH (nestedKind P w) a ys) (hpd : PD.map (·.1) = ys.map (·.2.1)) (hrd : ∀ q ∈ PD, ∃ as, Reads s.heap (.ref q.1) q.2 as) (hal : PySem.W.AllAlike (PD.map (·.2))) (hso : PySem.W.Sortable (PD.map (·.2))) (hdep : ∀ q ∈ PD, q.2.depth ≤ 60) (hlen : ys.length < 4000)
    (hh : A.handled = none) (hu : A.units + 64 < cLine)
    (hQ : ∀ (h' : Heap) (tk : Nat) (s' : Shared) (p : Addr) (out : List Value) (c : Nat) (N : List (Addr × PyData)), (∀ b o, s.heap.get? b = some o → h'.get? b = some o) → (∀ b o, h'.get? b = some o → s'.heap.get? b = some o) → s'.gens = s.gens → s'.os = s.os → h'.objs.size ≤ p →
      s'.heap.get? p = some (seqObj "list" out.toArray c) → out = N.map (fun q => Value.ref q.1) → N.Perm PD → N.Pairwise (fun q r => PySem.W.dataLe false (fun q : Addr × PyData => q.2) q r = true) → Q (.ref p) s') : wpAny (model P w) A (call (.builtin "sorted") [.ref a]) Q E s := by
  obtain ⟨o, des, dep, ho, hc, hda, he, _, hn⟩ := hd
  have hsz : des.size = ys.length := by rw [← Array.length_toList, he, List.length_map]
  refine sort_coll (Ps := fun s1 => ∃ h' tk, s1 = { s with heap := h', toks := tk } ∧ ∀ b o, s.heap.get? b = some o → h'.get? b = some o) (fun E' Q' hq => ?_) hrd hal hso hdep (by rw [← List.length_map (f := (·.1)) (as := PD), hpd, List.length_map]; exact hlen) hu fun s1 s' p out c N ps k g o hp hg => by
    obtain ⟨h', tk, rfl, k0⟩ := ps
    exact hQ h' tk s' p out c N k0 k g o hp hg
  refine PySem.W.kdu_collect (A := A.in1) (KdlSrc.rawDict (es := des) (ep := dep) hs) hh ⟨o, ho, hc, hda⟩ (by rw [hsz, sizeLine_eq]; omega) fun h' tk acc hk hacc => ?_
  refine hq { s with heap := h', toks := tk } acc.toList ⟨h', tk, rfl, hk⟩ hk ?_
  have eq1 : acc.toList = PD.map fun q => Value.ref q.1 := by
    have e2 : (PD.map fun q => Value.ref q.1) = ys.map fun y => Value.ref y.2.1 := by
      have := congrArg (List.map Value.ref) hpd
      rw [List.map_map, List.map_map] at this
      exact this
    rw [e2]
    refine List.ext_getElem? fun j => ?_
    cases hj : acc.toList[j]? with
    | none =>
      have h1 := List.getElem?_eq_none_iff.mp hj
      rw [Array.length_toList, hacc.1, hsz] at h1
      rw [List.getElem?_eq_none (by rw [List.length_map]; exact h1)]
    | some v =>
      obtain ⟨hi, hv⟩ := hacc.2 j v (by rw [← Array.getElem?_toList]; exact hj)
      have h2 : des.toList[j]? = some des[j] := by rw [Array.getElem?_toList]; exact Array.getElem?_eq_getElem hi
      rw [he, List.getElem?_map] at h2
      rw [List.getElem?_map]
      cases hy : ys[j]? with
      | none => rw [hy] at h2; cases h2
      | some y =>
        rw [hy] at h2
        rw [hv, ← Option.some.inj h2]; rfl
  rw [eq1]
end
/-- a set, or a dict's keys -/
def SrcN (w : World) (H : Hp) (a : Addr) (M : List (Addr × NestedKey)) : Prop := H a = some (SetNO w a M) ∨ ∃ xs : List Ent, HDct w H a xs ∧ M = xs.map fun p => (p.2.1, p.1)
def rSortN (K : PySem.W.Frag) (w : World) : List V → Hp → VK → Prop := fun vs H Q => ∃ (C : Cn) (a : Addr) (M : List (Addr × NestedKey)) (es : List D) (PD : List (Addr × PyData)), vs = [.ref a] ∧ SrcN w H a M ∧ RAll w K C H (M.map fun p => V.ref p.1) es ∧ D.keys es = some (M.map (·.2)) ∧ (∀ p ∈ M, p.2.depth ≤ 8) ∧ PD.map (·.1) = M.map (·.1) ∧ (∀ q ∈ PD, Dp K H (.ref q.1) q.2) ∧
  PySem.W.AllAlike (PD.map (·.2)) ∧ PySem.W.Sortable (PD.map (·.2)) ∧ (∀ q ∈ PD, q.2.depth ≤ 60) ∧ M.length < 4000 ∧
  ∀ (N : List (Addr × PyData)) (p : Addr), N.Perm PD → N.Pairwise (fun q r => PySem.W.dataLe false (fun q : Addr × PyData => q.2) q r = true) → H p = none → Q (.ref p) (upd H p (.lst (N.map fun q => V.ref q.1)))
theorem vals_refs {α : Type} : ∀ N : List (Addr × α), Vals (N.map fun q => V.ref q.1) (N.map fun q => Value.ref q.1)
  | [] => .nil
  | _ :: N => .cons rfl (vals_refs N)
theorem ent_addrs : ∀ {xs : List Ent} {ys : List (NestedKey × Addr × Value)}, Paired EntR xs ys → xs.map (·.2.1) = ys.map (·.2.1)
  | _, _, .nil => rfl
  | _, _, .cons r t => by rw [List.map_cons, List.map_cons, ent_addrs t, r.2.1]
theorem cr_sortN {X : Cx} (hc : X.calm = true) (hu : X.A.units + 64 < cLine) : CallR X (.builtin "sorted") (rSortN X.K X.w) := by
  intro pins s σ H vs us Q I r h
  obtain ⟨C, a, M, es, PD, rfl, ha, ra, hk, hd, hpd, hdp, hal, hso, hdep, hlen, q⟩ := h
  rw [Vals.ref1 r]
  have fin : ∀ (s : Shared), L2.Inv X pins σ H s → ∀ (s' : Shared) (p : Addr) (out : List Value) (c : Nat) (N : List (Addr × PyData)), (∀ b o, s.heap.get? b = some o → s'.heap.get? b = some o) → s'.gens = s.gens → s'.os = s.os → s.heap.objs.size ≤ p →
      s'.heap.get? p = some (seqObj "list" out.toArray c) → out = N.map (fun q => Value.ref q.1) → N.Perm PD → N.Pairwise (fun q r => PySem.W.dataLe false (fun q : Addr × PyData => q.2) q r = true) → EP X pins σ Q (.ref p) s' := fun s I s' p out c N k g o hp hg hout pm pw => by
    have hn : H p = none := I.hok.fresh hp
    have hl : (N.map fun q => V.ref q.1).length ≤ sizeLine := by
      rw [List.length_map, pm.length_eq, ← List.length_map (f := (·.1)) (as := PD), hpd, List.length_map, sizeLine_eq]; omega
    have J : L2.Inv X pins σ (upd H p (.lst (N.map fun q => V.ref q.1))) { s with heap := s'.heap, gens := s'.gens, drawn := s'.drawn, toks := s'.toks } :=
      I.call (ch := []) (Un.laid k hp hn) (I.hok.laid k hp ⟨hl, out, c, by rw [hout]; exact vals_refs N, hg⟩) (by rw [g]; exact I.bare) (fun _ z => nomatch z)
    have e : s' = { s with heap := s'.heap, gens := s'.gens, drawn := s'.drawn, toks := s'.toks } := by cases s'; cases s; cases o; rfl
    rw [e]
    exact ⟨.ref p, _, J, rfl, q N p pm pw hn⟩
  have rd := fun (z : Addr × PyData) (m : z ∈ PD) => Dp.reads I z.2 (.ref z.1) (.ref z.1) (hdp z m) rfl
  rcases ha with ha | ⟨xs, ha, rfl⟩
  · obtain ⟨es', ep, t, R⟩ := (show Sn0 X.w s.heap a M from (I.hok a _ ha).1).full fun p m => RAll.kat I ra hk hd p m
    exact gs_sorted R hpd rd hal hso hdep hlen (I.ok.hd hc) hu (fin s I)
  · have ra' := ra
    have hk' := hk
    rw [List.map_map] at ra' hk'
    have dk : DK X.w X.K C H xs es := ⟨ra', hk', fun p m => hd (p.2.1, p.1) (List.mem_map.mpr ⟨p, m, rfl⟩)⟩
    obtain ⟨hs, hl, ys, hp, hdd⟩ := dk.keyed I ha
    exact gd_sorted hs hdd (by rw [hpd, List.map_map]; exact ent_addrs hp) rd hal hso hdep (by rw [← hp.length]; simpa using hlen) (I.ok.hd hc) hu fun h' tk s' p out c N k0 k => fin _ (I.kept (t' := tk) k0) s' p out c N k
end Ws
namespace Ws
open PySem PySem.Spec PyProof.Rows L2 RZ
def rSortD (K : PySem.W.Frag) : List V → Hp → VK → Prop := fun vs H Q => ∃ (a : Addr) (ps : List (V × PyData)), vs = [.ref a] ∧ (SqL K H a (ps.map (·.1)) ∨ SqT K H a (ps.map (·.1))) ∧ (∀ p ∈ ps, Dp K H p.1 p.2) ∧ PySem.W.AllAlike (ps.map (·.2)) ∧ PySem.W.Sortable (ps.map (·.2)) ∧ (∀ p ∈ ps, p.2.depth ≤ 60) ∧
  ∀ l, H l = none → Q (.ref l) (upd H l (.lst ((ps.mergeSort (PySem.W.dataLe false (·.2))).map (·.1))))
theorem each_of_vals {β : Type} {f : β → V} {R : Value → β → Prop} : ∀ {ps : List β} {us : List Value}, Vals (ps.map f) us → (∀ p ∈ ps, ∀ u, RelV (f p) u → R u p) → PySem.W.EachIs R us ps
  | [], _, .nil, _ => .nil
  | p :: ps, _, .cons r t, h => .cons (h p (List.mem_cons_self ..) _ r) (each_of_vals t fun q m => h q (List.mem_cons_of_mem _ m))
theorem vals_of_each {β : Type} {f : β → V} : ∀ {us : List Value} {ps : List β}, PySem.W.EachIs (fun u p => RelV (f p) u) us ps → Vals (ps.map f) us
  | _, _, .nil => .nil
  | _, _, .cons r t => .cons r (vals_of_each t)
theorem st_sorted {P : Program} {w : World} {A : Around} {E : Value → Shared → Prop} {s : Shared} {a : Addr} {o : Obj} {n : Nat} {vs : List Value} {β : Type} {bs : List β} {R : Value → β → Prop} {enc : β → PyData} {Q : Value → Shared → Prop}
    (ho : s.heap.get? a = some o) (hc : o.cls = .type "tuple") (hd : o.data = .seq vs.toArray n) (e : PySem.W.EachIs R vs bs) (er : PySem.W.EachIs (fun v b => ∃ as, Reads s.heap v (enc b) as) vs bs) (hal : PySem.W.AllAlike (bs.map enc)) (hk : PySem.W.Sortable (bs.map enc)) (hL : bs.length ≤ sizeLine) (hvl : vs.length = bs.length)
    (hu : ∀ b, b ∈ bs → A.units + 2 + (enc b).depth < cLine)
    (h : ∀ (h1 h' : Heap) (p : Addr) (out : List Value) (c : Nat), (∀ b o, s.heap.get? b = some o → h1.get? b = some o) → (∀ b o, h1.get? b = some o → h'.get? b = some o) → h1.objs.size ≤ p → h'.get? p = some (seqObj "list" out.toArray c) → PySem.W.EachIs R out (bs.mergeSort (PySem.W.dataLe false enc)) → Q (.ref p) { s with heap := h' }) :
    wpAny (model P w) A (call (.builtin "sorted") [.ref a]) Q E s := by
  refine Calls.call_function_entry kind_sorted plain_sorted entry_sorted (args_sorted1 _) ?_
  unfold Builtin.«sorted»
  refine wpAny_bind (m := checkCount "sorted" 1 1 _) (wpAny_pure ?_)
  refine wpAny_bind (wpAny_collect_seq (A := A.in1) a (.inr rfl) ho hc hd (fun h1 k1 => ?_) (by rw [List.size_toArray, hvl]; exact hL))
  refine wpAny_bind (wpAny_newList ?_ (by rw [hvl]; exact hL))
  have hoL : (h1.push (seqObj "list" vs.toArray 0)).get? h1.objs.size = some (seqObj "list" vs.toArray 0) := Heap.get?_push_size _ rfl
  have er2 : PySem.W.EachIs (fun v b => ∃ as, Reads (h1.push (seqObj "list" vs.toArray 0)) v (enc b) as ∧ h1.objs.size ∉ as) vs bs := er.mono fun v b ⟨as, z⟩ => by
    have z1 := PyProof.Rows.Reads.keeps k1 z
    refine ⟨as, PyProof.Rows.Reads.keeps (fun b u e => Heap.get?_push_of_some _ e) z1, fun hm => ?_⟩
    exact Nat.lt_irrefl _ (Heap.lt_size (PyProof.On.reads_mem_get z1 _ hm).choose_spec)
  refine wpAny_bind (wpAny_holding (PySem.W.list_sort_data (s := { s with heap := h1.push (seqObj "list" vs.toArray 0) }) (R := R) (enc := enc) (bs := bs) hoL e er2 hal hk hL (fun b m => ?_) fun out ho2 eo => ?_))
  · have := hu b m
    show A.units + 1 + 1 + (enc b).depth < cLine
    omega
  · obtain ⟨c, hc⟩ := sortedHeap_at (vs := vs) (out := out.toArray) hoL
    refine wpAny_pure ⟨_, rfl, h h1 _ h1.objs.size out c k1 (fun b u q1 => ?_) (Nat.le_refl _) hc eo⟩
    have hlt := Heap.lt_size q1
    show (sortedHeap (h1.push (seqObj "list" vs.toArray 0)) h1.objs.size vs out.toArray).get? b = some u
    rw [sortedHeap_old (Nat.ne_of_lt hlt) (by rw [size_push']; exact Nat.lt_succ_of_lt hlt)]
    exact Heap.get?_push_of_some _ q1
section
variable {X : Cx}
theorem cr_sortD (hu : X.A.units + 64 < cLine) : CallR X (.builtin "sorted") (rSortD X.K) := by
  intro pins s σ H vs us Q I r h
  obtain ⟨a, ps, rfl, hs, hd, ha, hk, hdep, q⟩ := h
  rw [Vals.ref1 r]
  rcases hs with hs | hs
  · obtain ⟨its, rv, hl, hz⟩ := I.list hs
    have hlen : ps.length ≤ sizeLine := by simpa using hz
    refine PySem.W.sorted_data (R := fun u (p : V × PyData) => RelV p.1 u) (enc := (·.2)) hl.isList (each_of_vals rv fun p _ u h => h) (each_of_vals rv fun p m u h => Dp.reads I p.2 p.1 u (hd p m) h) ha hk hlen (fun b m => ?_) fun out ho eo => ?_
    · have := hdep b m
      omega
    · obtain ⟨n, hn⟩ := sortedAll_at s.heap its out.toArray
      refine ⟨.ref _, upd H _ (.lst _), I.laid (t' := s.toks) (fun b o e => sortedAll_old e) (Nat.le_succ _) ⟨?_, out, n, vals_of_each eo, hn⟩, rfl, q _ (I.hok.fresh (Nat.le_succ _))⟩
      rw [List.length_map, List.length_mergeSort]; exact hlen
  · obtain ⟨its, rv, ⟨o, ho, hc, n, hda⟩, hz⟩ := I.tuple hs
    have hlen : ps.length ≤ sizeLine := by simpa using hz
    have hil : its.length = ps.length := by have := rv.length; simpa using this.symm
    refine st_sorted (R := fun u (p : V × PyData) => RelV p.1 u) (enc := (·.2)) ho hc hda (each_of_vals rv fun p _ u h => h) (each_of_vals rv fun p m u h => Dp.reads I p.2 p.1 u (hd p m) h) ha hk hlen hil (fun b m => ?_) fun h1 h' p out c k1 k hp hg eo => ?_
    · have := hdep b m
      omega
    · have J := I.kept (t' := s.toks) k1
      refine ⟨.ref p, upd H p (.lst _), J.laid (t' := s.toks) k hp ⟨?_, out, c, vals_of_each eo, hg⟩, rfl, q _ (J.hok.fresh hp)⟩
      rw [List.length_map, List.length_mergeSort]; exact hlen
end
mutual
def ltD : D → D → Bool
  | .int i, b => (match b with
    | .int j => decide (i < j)
    | _ => false)
  | .tup xs, b => (match b with
    | .tup ys => ltDs xs ys
    | _ => false)
  | .lst xs, b => (match b with
    | .lst ys => ltDs xs ys
    | _ => false)
  | a, b => PySem.W.dataLt a.toPy b.toPy
def ltDs : List D → List D → Bool
  | [], ys => (match ys with
    | [] => false
    | _ :: _ => true)
  | x :: xs, ys => (match ys with
    | [] => false
    | y :: ys => if x.eqv y then ltDs xs ys else ltD x y)
end
open PySem.W in
mutual
theorem ltD_py : ∀ (a b : D) (n m : Nat), a.shp n = true → b.shp m = true → alike a.toPy b.toPy = true → dataLt a.toPy b.toPy = ltD a b
  | .int i, b, n, m, _, hb, h => by
    cases b with
    | int j => exact dataLt_int i j
    | _ => first | (exact absurd h (by simp [D.toPy, alike])) | (simp [D.shp] at hb)
  | .tup xs, b, n, m, ha, hb, h => by
    cases b with
    | tup ys =>
      cases n with
      | zero => simp [D.shp] at ha
      | succ n =>
        cases m with
        | zero => simp [D.shp] at hb
        | succ m =>
          show dataLt (.tuple (D.toPys xs)) (.tuple (D.toPys ys)) = ltDs xs ys
          rw [dataLt_tuple]
          exact ltDs_py xs ys n m (by simpa [D.shp] using ha) (by simpa [D.shp] using hb) (by simpa [D.toPy, alike] using h)
    | _ => first | (exact absurd h (by simp [D.toPy, alike])) | (simp [D.shp] at hb)
  | .lst xs, b, n, m, ha, hb, h => by
    cases b with
    | lst ys =>
      cases n with
      | zero => simp [D.shp] at ha
      | succ n =>
        cases m with
        | zero => simp [D.shp] at hb
        | succ m =>
          show dataLt (.list (D.toPys xs)) (.list (D.toPys ys)) = ltDs xs ys
          rw [dataLt_list]
          exact ltDs_py xs ys n m (by simpa [D.shp] using ha) (by simpa [D.shp] using hb) (by simpa [D.toPy, alike] using h)
    | _ => first | (exact absurd h (by simp [D.toPy, alike])) | (simp [D.shp] at hb)
  | .non, b, n, m, ha, hb, h => by simp only [ltD]
  | .bl _, b, n, m, ha, hb, h => by simp only [ltD]
  | .str _, b, n, m, ha, hb, h => by simp only [ltD]
  | .set _, _, _, _, h, _, _ => by simp [D.shp] at h
  | .seti _, _, _, _, h, _, _ => by simp [D.shp] at h
  | .dct _ _, _, _, _, h, _, _ => by simp [D.shp] at h
  | .tupw _, _, _, _, h, _, _ => by simp [D.shp] at h
  | .scr _, _, _, _, h, _, _ => by simp [D.shp] at h
  | .ref _, _, _, _, h, _, _ => by simp [D.shp] at h
theorem ltDs_py : ∀ (xs ys : List D) (n m : Nat), D.shps xs n = true → D.shps ys m = true → alikeAll (D.toPys xs) (D.toPys ys) = true → PyProof.Rows.lexLt itemOrd (keyToksAll (D.toPys xs)) (keyToksAll (D.toPys ys)) = ltDs xs ys
  | [], [], _, _, _, _, _ => by show PyProof.Rows.lexLt itemOrd (keyToksAll []) (keyToksAll []) = false; exact lex_irrefl _
  | [], y :: ys, _, _, _, _, _ => by
    show PyProof.Rows.lexLt itemOrd (keyToksAll []) (keyToksAll (y.toPy :: D.toPys ys)) = true
    rw [toks_all_cons]
    simp only [keyToksAll]
    rw [lex_diff (O := itemOrd) (by simp)]
    rfl
  | x :: xs, [], _, _, _, _, _ => by
    show PyProof.Rows.lexLt itemOrd (keyToksAll (x.toPy :: D.toPys xs)) (keyToksAll []) = false
    rw [toks_all_cons]
    simp only [keyToksAll]
    rw [lex_diff (O := itemOrd) (by simp)]
    rfl
  | x :: xs, y :: ys, n, m, h1, h2, h => by
    simp only [D.shps, Bool.and_eq_true] at h1 h2
    have h' := alike_all_cons (x := x.toPy) (y := y.toPy) (xs := D.toPys xs) (ys := D.toPys ys) h
    show PyProof.Rows.lexLt itemOrd (keyToksAll (x.toPy :: D.toPys xs)) (keyToksAll (y.toPy :: D.toPys ys)) = if x.eqv y then ltDs xs ys else ltD x y
    rw [dataLt_cons h'.1, eqv_py x y n m h1.1 h2.1, ltDs_py xs ys n m h1.2 h2.2 h'.2, ltD_py x y n m h1.1 h2.1 h'.1]
end
def insD (x : D) : List D → List D
  | [] => [x]
  | y :: r => if ltD y x then y :: insD x r else x :: y :: r
def isort : List D → List D
  | [] => []
  | x :: r => insD x (isort r)
inductive Tm
  | int | str | bl
  | tupA (t : Tm)
  | tupF (ts : List Tm)
  | lstA (t : Tm)
mutual
def D.fits : D → Tm → Bool
  | .int _, .int => true
  | .str _, .str => true
  | .bl _, .bl => true
  | .tup xs, .tupA t => D.fitsA xs t
  | .tup xs, .tupF ts => D.fitsF xs ts
  | .lst xs, .lstA t => D.fitsA xs t
  | _, _ => false
def D.fitsA : List D → Tm → Bool
  | [], _ => true
  | x :: xs, t => D.fits x t && D.fitsA xs t
def D.fitsF : List D → List Tm → Bool
  | [], _ => true
  | x :: xs, [] => false
  | x :: xs, t :: ts => D.fits x t && D.fitsF xs ts
end
open PySem.W in
mutual
theorem fits_alike : ∀ (a b : D) (t : Tm), a.fits t = true → b.fits t = true → alike a.toPy b.toPy = true
  | .int _, b, t, h1, h2 => by cases t <;> first | (simp [D.fits] at h1; done) | (cases b <;> first | rfl | (simp [D.fits] at h2; done))
  | .str _, b, t, h1, h2 => by cases t <;> first | (simp [D.fits] at h1; done) | (cases b <;> first | rfl | (simp [D.fits] at h2; done))
  | .bl _, b, t, h1, h2 => by cases t <;> first | (simp [D.fits] at h1; done) | (cases b <;> first | rfl | (simp [D.fits] at h2; done))
  | .tup xs, b, t, h1, h2 => by
    cases t with
    | tupA t =>
      cases b with
      | tup ys =>
        show alike (.tuple (D.toPys xs)) (.tuple (D.toPys ys)) = true
        rw [alike]; exact fitsA_alike xs ys t (by simpa [D.fits] using h1) (by simpa [D.fits] using h2)
      | _ => simp [D.fits] at h2
    | tupF t =>
      cases b with
      | tup ys =>
        show alike (.tuple (D.toPys xs)) (.tuple (D.toPys ys)) = true
        rw [alike]; exact fitsF_alike xs ys t (by simpa [D.fits] using h1) (by simpa [D.fits] using h2)
      | _ => simp [D.fits] at h2
    | _ => simp [D.fits] at h1
  | .lst xs, b, t, h1, h2 => by
    cases t with
    | lstA t =>
      cases b with
      | lst ys =>
        show alike (.list (D.toPys xs)) (.list (D.toPys ys)) = true
        rw [alike]; exact fitsA_alike xs ys t (by simpa [D.fits] using h1) (by simpa [D.fits] using h2)
      | _ => simp [D.fits] at h2
    | _ => simp [D.fits] at h1
  | .non, _, t, h1, _ => by cases t <;> simp [D.fits] at h1
  | .set _, _, t, h1, _ => by cases t <;> simp [D.fits] at h1
  | .seti _, _, t, h1, _ => by cases t <;> simp [D.fits] at h1
  | .dct _ _, _, t, h1, _ => by cases t <;> simp [D.fits] at h1
  | .tupw _, _, t, h1, _ => by cases t <;> simp [D.fits] at h1
  | .scr _, _, t, h1, _ => by cases t <;> simp [D.fits] at h1
  | .ref _, _, t, h1, _ => by cases t <;> simp [D.fits] at h1
theorem fitsA_alike : ∀ (xs ys : List D) (t : Tm), D.fitsA xs t = true → D.fitsA ys t = true → alikeAll (D.toPys xs) (D.toPys ys) = true
  | [], _, _, _, _ => by simp [D.toPys, alikeAll]
  | x :: xs, [], _, _, _ => by simp [D.toPys, alikeAll]
  | x :: xs, y :: ys, t, h1, h2 => by
    simp only [D.fitsA, Bool.and_eq_true] at h1 h2
    show alikeAll (x.toPy :: D.toPys xs) (y.toPy :: D.toPys ys) = true
    rw [alikeAll, fits_alike x y t h1.1 h2.1, fitsA_alike xs ys t h1.2 h2.2]; rfl
theorem fitsF_alike : ∀ (xs ys : List D) (ts : List Tm), D.fitsF xs ts = true → D.fitsF ys ts = true → alikeAll (D.toPys xs) (D.toPys ys) = true
  | [], _, _, _, _ => by simp [D.toPys, alikeAll]
  | x :: xs, [], _, _, _ => by simp [D.toPys, alikeAll]
  | x :: xs, y :: ys, ts, h1, h2 => by
    cases ts with
    | nil => simp [D.fitsF] at h1
    | cons t ts =>
      simp only [D.fitsF, Bool.and_eq_true] at h1 h2
      show alikeAll (x.toPy :: D.toPys xs) (y.toPy :: D.toPys ys) = true
      rw [alikeAll, fits_alike x y t h1.1 h2.1, fitsF_alike xs ys ts h1.2 h2.2]; rfl
end
def D.isTup1 : D → Bool
  | .tup (_ :: _) => true
  | _ => false
def D.noTup : D → Bool
  | .int _ => true
  | .str _ => true
  | .bl _ => true
  | .lst _ => true
  | _ => false
def tmPt : Tm := .tupA .int
def tmPic : Tm := .tupA tmPt
/-- the kinds of things that are sorted -/
def tms : List Tm := [tmPt, .int, tmPic, .str, .tupF [tmPic, .int], .tupF [tmPt, .int], .tupA tmPic, .tupF [.int, tmPt], .tupF [.int, tmPic], .tupF [.int, .int, tmPic], .tupF [.int, .int, tmPt], .tupF [tmPt, tmPt], .tupF [tmPic, tmPic, .int], .tupF [tmPt, tmPic], .tupF [.tupA tmPic, .int], .tupF [.str, .int], .lstA .int, .bl]
def sortOk (xs : List D) : Bool := D.shps xs 58 && (xs.all D.isTup1 || xs.all D.noTup) && tms.any fun t => D.fitsA xs t
def gSorted (S : Store) : List D → Option (List D)
  | [d] => match view S d with
    | .lst xs => if sortOk xs then some (isort xs) else none
    | .tup xs => if sortOk xs then some (isort xs) else none
    | .set xs => if sortOk xs && decide (xs.length < 4000) then some (isort xs) else none
    | .dct xs _ => if sortOk xs && decide (xs.length < 4000) then some (isort xs) else none
    | .seti ns => if decide (ns.length < 64) then some (isort (ns.map .int)) else none
    | _ => none
  | _ => none
theorem fitsA_mem : ∀ {xs : List D} {t : Tm}, D.fitsA xs t = true → ∀ x ∈ xs, x.fits t = true
  | x :: xs, t, h, y, m => by
    simp only [D.fitsA, Bool.and_eq_true] at h
    rcases List.mem_cons.mp m with rfl | m
    · exact h.1
    · exact fitsA_mem h.2 y m
theorem shps_mem : ∀ {xs : List D} {n : Nat}, D.shps xs n = true → ∀ x ∈ xs, x.shp n = true
  | x :: xs, t, h, y, m => by
    simp only [D.shps, Bool.and_eq_true] at h
    rcases List.mem_cons.mp m with rfl | m
    · exact h.1
    · exact shps_mem h.2 y m
abbrev leD : D → D → Bool := PySem.W.dataLe false D.toPy
theorem leD_total : PySem.W.TotalLe leD := PySem.W.sortLe_total ..
theorem leD_tot (a b : D) : (leD a b || leD b a) = true := by rw [Bool.or_eq_true]; exact leD_total.total a b
theorem leD_eq (a b : D) : leD a b = !PySem.W.dataLt b.toPy a.toPy := rfl
theorem insD_at (x : D) : ∀ (l1 l2 : List D), (∀ b ∈ l1, ltD b x = true) → (∀ b ∈ l2, ltD b x = false) → insD x (l1 ++ l2) = l1 ++ x :: l2
  | [], [], _, _ => rfl
  | [], y :: r, _, h => by
    show (if ltD y x then y :: insD x r else x :: y :: r) = _
    rw [h y (List.mem_cons_self ..)]; rfl
  | b :: l1, l2, h1, h2 => by
    show (if ltD b x then b :: insD x (l1 ++ l2) else x :: b :: (l1 ++ l2)) = _
    rw [h1 b (List.mem_cons_self ..), if_pos rfl, insD_at x l1 l2 (fun c m => h1 c (List.mem_cons_of_mem _ m)) h2]; rfl
theorem isort_eq : ∀ (xs : List D), (∀ a ∈ xs, ∀ b ∈ xs, PySem.W.dataLt a.toPy b.toPy = ltD a b) → xs.mergeSort leD = isort xs
  | [], _ => by simp [isort]
  | x :: r, h => by
    have hr := isort_eq r fun a ha b hb => h a (List.mem_cons_of_mem _ ha) b (List.mem_cons_of_mem _ hb)
    obtain ⟨l1, l2, e1, e2, e3⟩ := List.mergeSort_cons (le := leD) leD_total.trans leD_tot x r
    have hm : ∀ b, b ∈ l1 ++ l2 → b ∈ r := fun b m => by rw [← e2] at m; exact List.mem_mergeSort.mp m
    have hp := List.pairwise_mergeSort (le := leD) leD_total.trans leD_tot (x :: r)
    rw [e1] at hp
    show _ = insD x (isort r)
    rw [← hr, e2, e1, insD_at x l1 l2]
    · intro b m
      have q := e3 b m
      rw [leD_eq, h b (List.mem_cons_of_mem _ (hm b (List.mem_append_left _ m))) x (List.mem_cons_self ..)] at q
      simpa using q
    · intro b m
      have q := (List.pairwise_cons.mp (List.pairwise_append.mp hp).2.1).1 b m
      rw [leD_eq, h b (List.mem_cons_of_mem _ (hm b (List.mem_append_right _ m))) x (List.mem_cons_self ..)] at q
      simpa using q
theorem sortOk_alike {xs : List D} (h : sortOk xs = true) : D.shps xs 58 = true ∧ (∀ a ∈ xs, ∀ b ∈ xs, PySem.W.alike a.toPy b.toPy = true) ∧ PySem.W.Sortable (xs.map D.toPy) := by
  unfold sortOk at h
  simp only [Bool.and_eq_true, List.any_eq_true, Bool.or_eq_true, List.all_eq_true] at h
  obtain ⟨⟨h1, h2⟩, t, _, h3⟩ := h
  refine ⟨h1, fun a ha b hb => fits_alike a b t (fitsA_mem h3 a ha) (fitsA_mem h3 b hb), ?_⟩
  rcases h2 with h2 | h2
  · refine .inl fun d hd => ?_
    obtain ⟨a, ha, rfl⟩ := List.mem_map.mp hd
    have q := h2 a ha
    unfold D.isTup1 at q
    split at q
    · exact ⟨_, _, rfl⟩
    · cases q
  · refine .inr fun d hd => ?_
    obtain ⟨a, ha, rfl⟩ := List.mem_map.mp hd
    have q := h2 a ha
    unfold D.noTup at q
    cases a <;> first | (exfalso; exact Bool.false_ne_true q) | (exact ⟨by simp [D.toPy], by simp [D.toPy]⟩)
theorem RAll.zipR {w : World} {K : PySem.W.Frag} {L : Cn} {H : Hp} : ∀ {vs : List V} {ds : List D}, RAll w K L H vs ds → (vs.zip ds).map (·.1) = vs ∧ (vs.zip ds).map (·.2) = ds ∧ ∀ z ∈ vs.zip ds, R0 w K L H z.1 z.2
  | _, _, .nil => ⟨rfl, rfl, fun _ m => nomatch m⟩
  | _, _, .cons h t => by
    obtain ⟨e1, e2, e3⟩ := RAll.zipR t
    refine ⟨by simp [e1], by simp [e2], fun z m => ?_⟩
    rcases List.mem_cons.mp m with rfl | m
    · exact h
    · exact e3 z m
theorem RAll.ofZip {w : World} {K : PySem.W.Frag} {L : Cn} {H : Hp} : ∀ (zs : List (V × D)), (∀ z ∈ zs, R0 w K L H z.1 z.2) → RAll w K L H (zs.map (·.1)) (zs.map (·.2))
  | [], _ => .nil
  | z :: zs, h => .cons (h z (List.mem_cons_self ..)) (RAll.ofZip zs fun y m => h y (List.mem_cons_of_mem _ m))
theorem mergeSort_map {α β : Type} (f : α → β) (r : β → β → Bool) (l : List α) : (l.mergeSort fun a b => r (f a) (f b)).map f = (l.map f).mergeSort r := List.map_mergeSort fun _ _ _ _ => rfl
section
variable {w : World} {K : PySem.W.Frag}
mutual
/-- of two keys of one kind one is less, or they are one -/
theorem ltD_anti : ∀ (d e : D) {t : Tm} {k l : NestedKey}, d.fits t = true → e.fits t = true → d.key = some k → e.key = some l → ltD d e = false → ltD e d = false → d = e
  | .int i, e, t, k, l, hf, hg, hk, hl, h1, h2 => by
    cases e with
    | int j => simp only [ltD, decide_eq_false_iff_not] at h1 h2; congr 1; omega
    | tup ys => cases t <;> simp [D.fits] at hf hg
    | _ => simp [D.key] at hl
  | .tup xs, e, t, k, l, hf, hg, hk, hl, h1, h2 => by
    simp only [D.key, Option.map_eq_some_iff] at hk
    obtain ⟨ks, hk, rfl⟩ := hk
    cases e with
    | tup ys =>
      simp only [D.key, Option.map_eq_some_iff] at hl
      obtain ⟨ls, hl, rfl⟩ := hl
      simp only [ltD] at h1 h2
      cases t with
      | tupA t => simp only [D.fits] at hf hg; rw [ltDs_antiA xs ys hf hg hk hl h1 h2]
      | tupF ts => simp only [D.fits] at hf hg; rw [ltDs_antiF xs ys hf hg hk hl h1 h2]
      | _ => simp [D.fits] at hf
    | int j => cases t <;> simp [D.fits] at hf hg
    | _ => simp [D.key] at hl
  | .non, _, _, _, _, _, _, h, _, _, _ => by simp [D.key] at h
  | .bl _, _, _, _, _, _, _, h, _, _, _ => by simp [D.key] at h
  | .str _, _, _, _, _, _, _, h, _, _, _ => by simp [D.key] at h
  | .lst _, _, _, _, _, _, _, h, _, _, _ => by simp [D.key] at h
  | .set _, _, _, _, _, _, _, h, _, _, _ => by simp [D.key] at h
  | .seti _, _, _, _, _, _, _, h, _, _, _ => by simp [D.key] at h
  | .dct _ _, _, _, _, _, _, _, h, _, _, _ => by simp [D.key] at h
  | .tupw _, _, _, _, _, _, _, h, _, _, _ => by simp [D.key] at h
  | .scr _, _, _, _, _, _, _, h, _, _, _ => by simp [D.key] at h
  | .ref _, _, _, _, _, _, _, h, _, _, _ => by simp [D.key] at h
theorem ltDs_antiA : ∀ (xs ys : List D) {t : Tm} {ks ls : List NestedKey}, D.fitsA xs t = true → D.fitsA ys t = true → D.keys xs = some ks → D.keys ys = some ls → ltDs xs ys = false → ltDs ys xs = false → xs = ys
  | [], [], _, _, _, _, _, _, _, _, _ => rfl
  | [], _ :: _, _, _, _, _, _, _, _, h, _ => by simp [ltDs] at h
  | _ :: _, [], _, _, _, _, _, _, _, _, h => by simp [ltDs] at h
  | x :: xs, y :: ys, t, _, _, hf, hg, hk, hl, h1, h2 => by
    obtain ⟨k, kr, rfl, hk1, hk2⟩ := keys_cons hk
    obtain ⟨l, lr, rfl, hl1, hl2⟩ := keys_cons hl
    simp only [D.fitsA, Bool.and_eq_true] at hf hg
    by_cases e : x = y
    · subst e
      have es : x.eqv x = true := (eqv_key x x hk1 hk1).mpr rfl
      simp only [ltDs, es, if_true] at h1 h2
      rw [ltDs_antiA xs ys hf.2 hg.2 hk2 hl2 h1 h2]
    · have e1 : x.eqv y = false := Bool.eq_false_iff.mpr fun z => e ((eqv_key x y hk1 hl1).mp z)
      have e2 : y.eqv x = false := Bool.eq_false_iff.mpr fun z => e ((eqv_key y x hl1 hk1).mp z).symm
      simp only [ltDs, e1, e2, Bool.false_eq_true, if_false] at h1 h2
      exact absurd (ltD_anti x y hf.1 hg.1 hk1 hl1 h1 h2) e
theorem ltDs_antiF : ∀ (xs ys : List D) {ts : List Tm} {ks ls : List NestedKey}, D.fitsF xs ts = true → D.fitsF ys ts = true → D.keys xs = some ks → D.keys ys = some ls → ltDs xs ys = false → ltDs ys xs = false → xs = ys
  | [], [], _, _, _, _, _, _, _, _, _ => rfl
  | [], _ :: _, _, _, _, _, _, _, _, h, _ => by simp [ltDs] at h
  | _ :: _, [], _, _, _, _, _, _, _, _, h => by simp [ltDs] at h
  | x :: xs, y :: ys, [], _, _, hf, _, _, _, _, _ => by simp [D.fitsF] at hf
  | x :: xs, y :: ys, t :: ts, _, _, hf, hg, hk, hl, h1, h2 => by
    obtain ⟨k, kr, rfl, hk1, hk2⟩ := keys_cons hk
    obtain ⟨l, lr, rfl, hl1, hl2⟩ := keys_cons hl
    simp only [D.fitsF, Bool.and_eq_true] at hf hg
    by_cases e : x = y
    · subst e
      have es : x.eqv x = true := (eqv_key x x hk1 hk1).mpr rfl
      simp only [ltDs, es, if_true] at h1 h2
      rw [ltDs_antiF xs ys hf.2 hg.2 hk2 hl2 h1 h2]
    · have e1 : x.eqv y = false := Bool.eq_false_iff.mpr fun z => e ((eqv_key x y hk1 hl1).mp z)
      have e2 : y.eqv x = false := Bool.eq_false_iff.mpr fun z => e ((eqv_key y x hl1 hk1).mp z).symm
      simp only [ltDs, e1, e2, Bool.false_eq_true, if_false] at h1 h2
      exact absurd (ltD_anti x y hf.1 hg.1 hk1 hl1 h1 h2) e
end
theorem sortOk_fits {xs : List D} (h : sortOk xs = true) : ∃ t, D.fitsA xs t = true := by
  unfold sortOk at h
  simp only [Bool.and_eq_true, List.any_eq_true] at h
  obtain ⟨_, t, _, h3⟩ := h
  exact ⟨t, h3⟩
theorem perm_sortOk {xs ys : List D} (p : xs.Perm ys) (h : sortOk ys = true) : sortOk xs = true := by
  have all_perm : ∀ f : D → Bool, ys.all f = true → xs.all f = true := fun f h => by rw [List.all_eq_true] at h ⊢; exact fun x m => h x (p.mem_iff.mp m)
  have shA : ∀ n, D.shps ys n = true → D.shps xs n = true := fun n h => by
    have : ∀ l : List D, (D.shps l n = true ↔ ∀ x ∈ l, x.shp n = true) := fun l => by
      induction l with
      | nil => simp [D.shps]
      | cons a l ih => simp [D.shps, ih]
    exact (this xs).mpr fun x m => (this ys).mp h x (p.mem_iff.mp m)
  have fiA : ∀ t, D.fitsA ys t = true → D.fitsA xs t = true := fun t h => by
    have : ∀ l : List D, (D.fitsA l t = true ↔ ∀ x ∈ l, x.fits t = true) := fun l => by
      induction l with
      | nil => simp [D.fitsA]
      | cons a l ih => simp [D.fitsA, ih]
    exact (this xs).mpr fun x m => (this ys).mp h x (p.mem_iff.mp m)
  unfold sortOk at *
  simp only [Bool.and_eq_true, List.any_eq_true, Bool.or_eq_true] at *
  obtain ⟨⟨h1, h2⟩, t, ht, h3⟩ := h
  exact ⟨⟨shA _ h1, h2.imp (all_perm _) (all_perm _)⟩, t, ht, fiA t h3⟩
theorem sort_rows {L : Cn} {H : Hp} {S : Store} {Q : VK} {a : Addr} {M : List (Addr × NestedKey)} {es ys : List D} (s : SRep w K L H S) (g1 : SrcN w H a M) (g3 : RAll w K L H (M.map fun p => V.ref p.1) es) (g4 : D.keys es = some (M.map (·.2))) (g5 : es.Perm ys ∧ ∀ p ∈ M, p.2.depth ≤ 8) (c : sortOk ys = true ∧ ys.length < 4000)
    (q : ∀ vs H', Ex L H L H' → SRep w K L H' S → RAll w K L H' vs (isort ys) → vs.length ≤ sizeLine → ∀ p, H' p = none → Q (.ref p) (upd H' p (.lst vs))) : rSortN K w [.ref a] H Q := by
  have c2 := perm_sortOk g5.1 c.1
  obtain ⟨h1, h2, h3⟩ := sortOk_alike c2
  obtain ⟨z1, z2, z3⟩ := g3.zipR
  have lenM : M.length = es.length := by have := g3.length; simpa using this
  have zfst : ∀ (N : List (Addr × NestedKey)) (fs : List D), N.length = fs.length → ((N.zip fs).map fun z => (z.1.1, z.2.toPy)).map (·.1) = N.map (·.1) := fun N fs hl => by
    rw [List.map_map]
    have := List.map_fst_zip (l₁ := N) (l₂ := fs) (by omega)
    conv => rhs; rw [← this, List.map_map]
    rfl
  have zsnd : ∀ (N : List (Addr × NestedKey)) (fs : List D), N.length = fs.length → ((N.zip fs).map fun z => (z.1.1, z.2.toPy)).map (·.2) = fs.map D.toPy := fun N fs hl => by
    rw [List.map_map]
    have := List.map_snd_zip (l₁ := N) (l₂ := fs) (by omega)
    conv => rhs; rw [← this, List.map_map]
    rfl
  have zr : ∀ (N : List (Addr × NestedKey)) (fs : List D), RAll w K L H (N.map fun p => V.ref p.1) fs → ∀ z ∈ N.zip fs, R0 w K L H (.ref z.1.1) z.2 ∧ z.2 ∈ fs := fun N => by
    induction N with
    | nil => intro fs _ z m; simp at m
    | cons q N ih =>
      intro fs r z m
      cases r with
      | cons r0 ra =>
        rcases List.mem_cons.mp m with rfl | m
        · exact ⟨r0, List.mem_cons_self ..⟩
        · obtain ⟨u1, u2⟩ := ih _ ra z m; exact ⟨u1, List.mem_cons_of_mem _ u2⟩
  refine ⟨L, a, M, es, (M.zip es).map fun z => (z.1.1, z.2.toPy), rfl, g1, g3, g4, g5.2, zfst M es lenM, ?_, ?_, ?_, ?_, by rw [lenM, g5.1.length_eq]; exact c.2, fun N p pm pw np => ?_⟩
  · intro q m0
    obtain ⟨z, m, rfl⟩ := List.mem_map.mp m0
    obtain ⟨u1, u2⟩ := zr M es g3 z m
    exact R0.dp u1 (shps_mem h1 _ u2)
  · rw [zsnd M es lenM]
    intro d hd d' hd'
    obtain ⟨y, m, rfl⟩ := List.mem_map.mp hd
    obtain ⟨y', m', rfl⟩ := List.mem_map.mp hd'
    exact h2 _ m _ m'
  · rw [zsnd M es lenM]; exact h3
  · intro q m0
    obtain ⟨z, m, rfl⟩ := List.mem_map.mp m0
    have := (shp_py z.2 58 (shps_mem h1 _ (zr M es g3 z m).2)).2
    show z.2.toPy.depth ≤ 60
    omega
  · -- the sorted rows, as data
    have back : ∃ W : List ((Addr × NestedKey) × D), N = W.map (fun z => (z.1.1, z.2.toPy)) ∧ W.Perm (M.zip es) := by
      have gen : ∀ (l : List ((Addr × NestedKey) × D)) (ys : List (Addr × PyData)), (l.map fun z => (z.1.1, z.2.toPy)).Perm ys → ∃ m : List ((Addr × NestedKey) × D), ys = m.map (fun z => (z.1.1, z.2.toPy)) ∧ m.Perm l := by
        intro l
        induction l with
        | nil => intro ys h; exact ⟨[], by simpa using h.symm.eq_nil, .refl _⟩
        | cons b l ih =>
          intro ys h
          have hm : (b.1.1, b.2.toPy) ∈ ys := h.mem_iff.mp (by simp)
          obtain ⟨u, v, rfl⟩ := List.append_of_mem hm
          have h2 : (l.map fun z => (z.1.1, z.2.toPy)).Perm (u ++ v) := (List.perm_cons (b.1.1, b.2.toPy)).mp (h.trans List.perm_middle)
          obtain ⟨m, e, pm⟩ := ih _ h2
          refine ⟨m.take u.length ++ b :: m.drop u.length, ?_, ?_⟩
          · have e1 : u = (m.take u.length).map (fun z => (z.1.1, z.2.toPy)) := by rw [List.map_take, ← e]; simp
            have e2 : v = (m.drop u.length).map (fun z => (z.1.1, z.2.toPy)) := by rw [List.map_drop, ← e]; simp
            rw [List.map_append, List.map_cons, ← e1, ← e2]
          · refine List.perm_middle.trans ?_
            rw [List.take_append_drop]
            exact pm.cons b
      exact gen _ _ pm.symm
    obtain ⟨W, rfl, pW⟩ := back
    have ra : RAll w K L H ((W.map fun z => (z.1.1, z.2.toPy)).map fun q => V.ref q.1) (W.map (·.2)) := by
      have : (W.map fun z => (z.1.1, z.2.toPy)).map (fun q => V.ref q.1) = (W.map fun z => (V.ref z.1.1, z.2)).map (·.1) := by simp [List.map_map]
      rw [this]
      have e2 : W.map (·.2) = (W.map fun z => (V.ref z.1.1, z.2)).map (·.2) := by simp [List.map_map]
      rw [e2]
      refine RAll.ofZip _ fun z m => ?_
      obtain ⟨z', m', rfl⟩ := List.mem_map.mp m
      exact (zr M es g3 z' (pW.mem_iff.mp m')).1
    have pes : (W.map (·.2)).Perm ys := by
      have h5 := pW.map (·.2)
      rw [List.map_snd_zip (by omega)] at h5
      exact h5.trans g5.1
    have key : ∀ y ∈ ys, ∃ l, y.key = some l := fun y m => by obtain ⟨l, _, hl⟩ := keys_mem g4 (g5.1.mem_iff.mpr m); exact ⟨l, hl⟩
    have hall : ∀ a ∈ ys, ∀ b ∈ ys, PySem.W.dataLt a.toPy b.toPy = ltD a b := fun a ha b hb => by
      have q1 := (g5.1.mem_iff.mpr ha); have q2 := (g5.1.mem_iff.mpr hb)
      exact ltD_py a b 58 58 (shps_mem h1 a q1) (shps_mem h1 b q2) (h2 a q1 b q2)
    have eq1 : W.map (·.2) = isort ys := by
      rw [← isort_eq ys hall]
      obtain ⟨t, ht⟩ := sortOk_fits c.1
      refine List.Perm.eq_of_pairwise (le := fun a b => leD a b = true) (fun a b ha hb q1 q2 => ?_) ?_ (List.pairwise_mergeSort leD_total.trans leD_tot _) (pes.trans (List.mergeSort_perm _ _).symm)
      · have ma := pes.mem_iff.mp ha
        have mb := List.mem_mergeSort.mp hb
        obtain ⟨l1, hl1⟩ := key a ma
        obtain ⟨l2, hl2⟩ := key b mb
        rw [leD_eq, hall b mb a ma] at q1
        rw [leD_eq, hall a ma b mb] at q2
        exact ltD_anti a b (fitsA_mem ht a ma) (fitsA_mem ht b mb) hl1 hl2 (by simpa using q2) (by simpa using q1)
      · refine List.pairwise_map.mpr ?_
        exact (List.pairwise_map.mp pw).imp fun z => z
    rw [eq1] at ra
    refine q _ H Ex.refl s ra ?_ p np
    rw [List.length_map, List.length_map, pW.length_eq, List.length_zip, ← lenM, Nat.min_self, lenM, g5.1.length_eq, sizeLine_eq]
    have := c.2; omega
theorem sort_seq {L : Cn} {H : Hp} {S : Store} {Q : VK} {a : Addr} {vs : List V} {ys : List D} (s : SRep w K L H S) (c : sortOk ys = true) (g1 : SqL K H a vs ∨ SqT K H a vs) (z : vs.length ≤ sizeLine) (p : RAll w K L H vs ys)
    (q : ∀ vs H', Ex L H L H' → SRep w K L H' S → RAll w K L H' vs (isort ys) → vs.length ≤ sizeLine → ∀ p, H' p = none → Q (.ref p) (upd H' p (.lst vs))) : rSortD K [.ref a] H Q := by
  obtain ⟨h1, h2, h3⟩ := sortOk_alike c
  obtain ⟨z1, z2, z3⟩ := p.zipR
  have hall : ∀ a ∈ ys, ∀ b ∈ ys, PySem.W.dataLt a.toPy b.toPy = ltD a b := fun a ha b hb => ltD_py a b 58 58 (shps_mem h1 a ha) (shps_mem h1 b hb) (h2 a ha b hb)
  have hy : ∀ y ∈ vs.zip ys, y.2 ∈ ys := fun y m => by rw [← z2]; exact List.mem_map.mpr ⟨y, m, rfl⟩
  refine ⟨a, (vs.zip ys).map fun z => (z.1, z.2.toPy), rfl, ?_, ?_, ?_, ?_, ?_, fun l nl => ?_⟩
  · rw [List.map_map]; show SqL K H a ((vs.zip ys).map (·.1)) ∨ SqT K H a ((vs.zip ys).map (·.1)); rw [z1]; exact g1
  · intro pp m0
    obtain ⟨y, m, rfl⟩ := List.mem_map.mp m0
    exact R0.dp (z3 y m) (shps_mem h1 _ (hy y m))
  · intro d hd d' hd'
    rw [List.map_map] at hd hd'
    obtain ⟨y, m, rfl⟩ := List.mem_map.mp hd
    obtain ⟨y', m', rfl⟩ := List.mem_map.mp hd'
    exact h2 _ (hy y m) _ (hy y' m')
  · rw [List.map_map]
    have e : (vs.zip ys).map ((·.2) ∘ fun z : V × D => (z.1, z.2.toPy)) = ys.map D.toPy := by
      rw [← z2, List.map_map, z2]; rfl
    rw [e]; exact h3
  · intro pp m0
    obtain ⟨y, m, rfl⟩ := List.mem_map.mp m0
    have := (shp_py y.2 58 (shps_mem h1 _ (hy y m))).2
    show y.2.toPy.depth ≤ 60
    omega
  · have e1 : (((vs.zip ys).map fun z : V × D => (z.1, z.2.toPy)).mergeSort (PySem.W.dataLe false (·.2))).map (·.1) = ((vs.zip ys).mergeSort fun a b => leD a.2 b.2).map (·.1) := by
      have := mergeSort_map (fun z : V × D => (z.1, z.2.toPy)) (PySem.W.dataLe false (·.2)) (vs.zip ys)
      rw [← this, List.map_map]; rfl
    have e2 : ((vs.zip ys).mergeSort fun a b => leD a.2 b.2).map (·.2) = isort ys := by
      rw [mergeSort_map (fun z : V × D => z.2) leD, z2]; exact isort_eq ys hall
    rw [e1]
    have ra := RAll.ofZip (w := w) (K := K) (L := L) (H := H) ((vs.zip ys).mergeSort fun a b => leD a.2 b.2) fun y m => z3 y (List.mem_mergeSort.mp m)
    rw [e2] at ra
    refine q _ H Ex.refl s ra ?_ l nl
    rw [List.length_map, List.length_mergeSort, ← List.length_map (f := (·.1)), z1]; exact z
def insI (x : Int) : List Int → List Int
  | [] => [x]
  | y :: r => if y < x then y :: insI x r else x :: y :: r
def sI : List Int → List Int
  | [] => []
  | x :: r => insI x (sI r)
theorem insI_map (x : Int) : ∀ l : List Int, insD (.int x) (l.map D.int) = (insI x l).map D.int
  | [] => rfl
  | y :: l => by
    show (if ltD (.int y) (.int x) then _ else _) = _
    rw [insI_map x l]
    show (if decide (y < x) = true then _ else _) = _
    show _ = (if y < x then y :: insI x l else x :: y :: l).map D.int
    by_cases h : y < x
    · rw [decide_eq_true h, if_pos rfl, if_pos h]; rfl
    · rw [decide_eq_false h, if_neg (by decide), if_neg h]; rfl
theorem sI_map : ∀ l : List Int, isort (l.map D.int) = (sI l).map D.int
  | [] => rfl
  | x :: l => by show insD (.int x) (isort (l.map D.int)) = _; rw [sI_map l, insI_map]; rfl
theorem insI_perm (x : Int) : ∀ l : List Int, (insI x l).Perm (x :: l)
  | [] => .refl _
  | y :: l => by
    show (if y < x then y :: insI x l else x :: y :: l).Perm _
    split
    · exact ((insI_perm x l).cons y).trans (List.Perm.swap ..)
    · exact .refl _
theorem sI_perm : ∀ l : List Int, (sI l).Perm l
  | [] => .refl _
  | x :: l => (insI_perm x (sI l)).trans ((sI_perm l).cons x)
theorem insI_sorted (x : Int) : ∀ {l : List Int}, l.Pairwise (· ≤ ·) → (insI x l).Pairwise (· ≤ ·)
  | [], _ => List.pairwise_singleton _ _
  | y :: l, h => by
    have h' := List.pairwise_cons.mp h
    show (if y < x then y :: insI x l else x :: y :: l).Pairwise _
    split
    · rename_i c
      refine List.pairwise_cons.mpr ⟨fun z hz => ?_, insI_sorted x h'.2⟩
      rcases List.mem_cons.mp ((insI_perm x l).mem_iff.mp hz) with e | e
      · omega
      · exact h'.1 z e
    · rename_i c
      refine List.pairwise_cons.mpr ⟨fun z hz => ?_, h⟩
      rcases List.mem_cons.mp hz with e | e
      · omega
      · have := h'.1 z e; omega
theorem sI_sorted : ∀ l : List Int, (sI l).Pairwise (· ≤ ·)
  | [] => .nil
  | x :: l => insI_sorted x (sI_sorted l)
theorem rall_ints {w : World} {K : PySem.W.Frag} {L : Cn} {H : Hp} : ∀ l : List Int, RAll w K L H (l.map V.int) (l.map D.int)
  | [] => .nil
  | i :: l => .cons (.int i) (rall_ints l)
theorem cn_sorted : CallN w K (fun vs H Q => (rSortD K vs H Q ∨ rSortN K w vs H Q) ∨ rSortedSet w vs H Q) gSorted := by
  intro L H S xs ds es Q s r e q
  unfold gSorted at e
  split at e
  · rename_i d0
    obtain ⟨x, rfl, rx⟩ := r.one
    split at e
    · rename_i ys h
      split at e
      · rename_i c
        cases e
        obtain ⟨a, vs, rfl, g1, z, p⟩ := view_lst rx s h
        exact .inl (.inl (sort_seq s c (.inl (SqL.of g1)) z p q))
      · cases e
    · rename_i ys h
      split at e
      · rename_i c
        cases e
        obtain ⟨a, vs, rfl, g1, z, p⟩ := view_tup rx s h
        exact .inl (.inl (sort_seq s c (.inr g1) z p q))
      · cases e
    · rename_i ys h
      split at e
      · rename_i c
        cases e
        simp only [Bool.and_eq_true, decide_eq_true_eq] at c
        obtain ⟨rfl, rx'⟩ := view_self rx s h (fun _ z => nomatch z)
        have rx2 : R0 w K L H x (.set ys) := rx'
        cases rx2 with
        | @set a M es _ g1 g2 g3 g4 g5 =>
          exact .inl (.inr (sort_rows s (.inl g1) g3 g4 g5 c q))
      · cases e
    · rename_i ys vs0 h
      split at e
      · rename_i c
        cases e
        simp only [Bool.and_eq_true, decide_eq_true_eq] at c
        obtain ⟨a, xs, rfl, g1, dk, r2⟩ := view_dct rx s h
        refine .inl (.inr (sort_rows (M := xs.map fun p => (p.2.1, p.1)) s (.inr ⟨xs, g1, rfl⟩) ?_ ?_ ⟨.refl _, fun p m => ?_⟩ c q))
        · rw [List.map_map]; exact dk.ra
        · rw [List.map_map]; exact dk.key
        · obtain ⟨p', m', rfl⟩ := List.mem_map.mp m
          exact dk.dep p' m'
      · cases e
    · rename_i ns h
      split at e
      · rename_i c
        cases e
        simp only [decide_eq_true_eq] at c
        obtain ⟨rfl, rx'⟩ := view_self rx s h (fun _ z => nomatch z)
        have rx2 : R0 w K L H x (.seti ns) := rx'
        cases rx2 with
        | @seti a F _ g1 g2 g3 g4 =>
          refine .inr ⟨a, F, ns.length, rfl, g1, c, fun ms p hs hm hl np => ?_⟩
          have e1 : isort (ns.map D.int) = ms.map D.int := by
            rw [sI_map]
            congr 1
            have pm : (sI ns).Perm ms := (sI_perm ns).trans ((List.perm_ext_iff_of_nodup g3 (hs.imp fun {a b} h => by omega)).mpr fun k => (g4 k).trans (hm k).symm)
            exact List.Perm.eq_of_pairwise (le := fun a b => a ≤ b) (fun a b _ _ h1 h2 => Int.le_antisymm h1 h2) (sI_sorted ns) (hs.imp fun {a b} h => by omega) pm
          refine q _ H Ex.refl s (by rw [e1]; exact rall_ints ms) ?_ p np
          rw [List.length_map, hl, sizeLine_eq]
          omega
      · cases e
    · cases e
  · cases e
end
section
variable {X : Cx} {Wi : Wish} {p pos : Pos} {e : Expr} {f : Da} {k : Nat}
theorem CallR.or' {f : Value} {r r' : List V → Hp → VK → Prop} (h : CallR X f r) (h' : CallR X f r') : CallR X f (fun vs H Q => r vs H Q ∨ r' vs H Q) := fun pins s σ H vs us Q I rv q => q.elim (h pins s σ H vs us Q I rv) (h' pins s σ H vs us Q I rv)
theorem sn_sorted (hr : Room k X.A) (hc : X.calm = true) (hg : Gl X "sorted") (hm : X.mg "sorted" = none) (ha : SA X Wi [e] f) (he : starEach [e] X.env = (false, eval e X.env) :: starEach [] X.env := by rfl) : SN X Wi (.Call (.Name "sorted" p) [e] [] pos) (dCallN gSorted f) :=
  sn_callB (CallR.or' (CallR.or' (cr_sortD (u64 hr)) (cr_sortN hc (u64 hr))) (cr_sortedSet hc)) cn_sorted hg hm boot_sorted ha (by decide) (by rfl) he
end
end Ws
namespace Ws
open PySem PySem.Spec PyProof.Rows L2
section
variable {P : Program} {w : World} {A : Around} {E : Value → Shared → Prop} {s : Shared}
set_option maxHeartbeats 3200000 in
theorem gsI_new {lst : Bool} {l : Addr} {items : Array Value} (ns : List Int) {Q : Value → Shared → Prop} (hh : A.handled = none) (hl : SeqIn lst s.heap l items) (hit : IntsAre items.toList ns) (hb : ns.length + 1 < scanBound)
    (h : ∀ (h' : Heap) (tk c : Nat), SetR w h' s.heap.objs.size (fun j => decide (j ∈ ns)) c → (∀ b o, s.heap.get? b = some o → h'.get? b = some o) → Q (.ref s.heap.objs.size) { s with heap := h', toks := tk }) : wpAny (model P w) A (call (.type "set") [.ref l]) Q E s := by
  have hisz : items.size = ns.length := by
    have q := IntsAre.length hit
    rw [Array.length_toList] at q
    exact q
  obtain ⟨c, tl, hmro⟩ := F.called_set.mro
  have hmade := F.called_set.made
  have hsub := F.called_set.sub
  refine wpAny_call (codeAny_of_tree ?_)
  show wpAny _ _ (callAny (.type "set") _) _ _ _
  refine wpAny_pure ⟨Code.quiet_builtin _ (by decide +kernel), codeAny_builtin F.entry_type_call ?_⟩
  rw [Around.under_plain (weight_type_call_type "set" [.ref l] []) rfl]
  have h1 := F.called_set.notType
  have h2 := F.called_set.canCreate
  have hct := F.typeCall_set_1 (.ref l)
  repeat (any_goals (first | assumption | wp_step))
  refine codeAny_mono (code_set_led1 (.ref l) (E := E) (Q₁ := fun obj s₁ => obj = .ref s.heap.objs.size ∧ s₁ = { s with heap := s.heap.push (freshO w) }) ⟨rfl, rfl⟩) fun r s₁ hr => ?_
  cases r with
  | error e => exact hr
  | ok fl =>
    cases fl with
    | ret obj =>
      obtain ⟨rfl, rfl⟩ := hr
      have hS : (s.heap.push (freshO w)).get? s.heap.objs.size = some (freshO w) := Heap.get?_push_size _ rfl
      have hT : Shared.TypeIs { s with heap := s.heap.push (freshO w) } (.ref s.heap.objs.size) "set" := ⟨_, hS, rfl⟩
      have hli := F.called_set.init.lookup
      have hbi := F.called_set.init.bind (.ref s.heap.objs.size)
      repeat (any_goals (first | assumption | wp_step))
      have hval : ∀ (i : Nat) (v : Value), items[i]? = some v → ∃ k t, ns[i]? = some k ∧ v = .int k t := fun i v hv => by
        have hi : i < ns.length := by rw [← hisz]; exact (Array.getElem?_eq_some_iff.mp hv).1
        obtain ⟨t, e⟩ := PyProof.Rows.IntsAre.int_at hit i v (by rw [Array.getElem?_toList]; exact hv)
        refine ⟨ns[i], t, List.getElem?_eq_getElem hi, ?_⟩
        rw [e, List.getD_eq_getElem?_getD, List.getElem?_eq_getElem hi] <;> rfl
      have hh3 : A.in1.in1.in1.handled = none := by simp [hh]
      refine codeAny_mono (codeAny_call_builtin (R := wants (fun r s₂ => r = .none ∧ ∃ h' tk c, s₂ = { s with heap := h', toks := tk } ∧ SetR w h' s.heap.objs.size (fun j => decide (j ∈ ns)) c ∧ (∀ b o, s.heap.get? b = some o → h'.get? b = some o)) E) F.called_set.init.plain F.entry_set_init (check_set_init_1 hT ?_)) fun r₂ s₂ hr₂ => ?_
      · cases lst with
        | true =>
          obtain ⟨ol, hol, hcl, nl, hdl⟩ := (show s.heap.IsList l items from hl)
          obtain ⟨ocls, odict, odata, oslots⟩ := ol
          simp only at hcl hdl
          subst hcl; subst hdl
          have hol' : (s.heap.push (freshO w)).get? l = some { cls := .type "list", dict := odict, data := .seq items nl, slots := oslots } := Heap.get?_push_of_some _ hol
          have hsls := F.sub_list_set
          have hslf := F.sub_list_frozenset
          have hne : (Value.type "list" == Value.type "dict") = false := by decide
          have hl1 : (s.heap.push (freshO w)).IsList l items := ⟨_, hol', rfl, nl, rfl⟩
          unfold Builtin.«set.__init__» noKeywords Builtin.Frozenset.updateFrom
          generalize hPI : pyIter = PI
          wp_walk
          subst hPI
          refine wpAny_pyIter_list hl1 (wpAny_bind (wpAny_runValue ?_))
          have hlS : l < s.heap.objs.size := Heap.lt_size hol
          refine set_update_ints ((Walks.list hh3 _ l (by rw [Heap.size_push]; exact Nat.ne_of_lt (Nat.lt_succ_of_lt hlS)) items).toS) s.heap.objs.size (by rw [Heap.size_push]; simp only [List.mem_cons, List.not_mem_nil, or_false, not_or]; exact ⟨Nat.ne_of_lt (Nat.lt_succ_self _), Nat.ne_of_gt hlS⟩) ns hisz hb hval (items.size - 0) 0 _ (by omega) (Nat.zero_le _)
            ⟨⟨_, Heap.get?_push_size _ rfl, rfl, rfl⟩, (hl1.push _)⟩ ⟨0, Nat.le_refl 0, setR_new_at (Heap.get?_push_of_some _ hS)⟩ ?_
          intro s' c' hm hc' hS'
          obtain ⟨h', g2, d', tk', os'⟩ := s'
          have eg : g2 = s.gens := hm.gens
          have ed : d' = s.drawn := hm.drawn
          have eo : os' = s.os := hm.os
          subst eg; subst ed; subst eo
          show wpAny _ _ _ _ _ _
          refine wpAny_pure ?_
          show wpAny _ _ (ret Value.none) _ _ _
          refine wpAny_pure ⟨rfl, h', tk', c', rfl, hS', fun b o e => ?_⟩
          have hb0 : b < s.heap.objs.size := Heap.lt_size e
          have hb1 : b ≠ s.heap.objs.size := Nat.ne_of_lt hb0
          have hb2 : b ≠ (s.heap.push (freshO w)).objs.size := by
            rw [Heap.size_push]; exact Nat.ne_of_lt (Nat.lt_succ_of_lt hb0)
          exact hm.heap b o (by simp only [List.mem_cons, List.mem_singleton, List.not_mem_nil, or_false, not_or]; exact ⟨hb1, hb2⟩) (Heap.get?_push_of_some _ (Heap.get?_push_of_some _ e))
        | false =>
          obtain ⟨ol, hol, hcl, nl, hdl⟩ := (show s.heap.IsTuple l items from hl)
          obtain ⟨ocls, odict, odata, oslots⟩ := ol
          simp only at hcl hdl
          subst hcl; subst hdl
          have hol' : (s.heap.push (freshO w)).get? l = some { cls := .type "tuple", dict := odict, data := .seq items nl, slots := oslots } := Heap.get?_push_of_some _ hol
          have hsls := F.sub_tuple_set
          have hslf := F.sub_tuple_frozenset
          have hne : (Value.type "tuple" == Value.type "dict") = false := by decide
          have hl1 : (s.heap.push (freshO w)).IsTuple l items := ⟨_, hol', rfl, nl, rfl⟩
          unfold Builtin.«set.__init__» noKeywords Builtin.Frozenset.updateFrom
          generalize hPI : pyIter = PI
          wp_walk
          subst hPI
          refine wpAny_pyIter_tuple hl1 (wpAny_bind (wpAny_runValue ?_))
          have hlS : l < s.heap.objs.size := Heap.lt_size hol
          refine set_update_ints ((Walks.tuple hh3 _ l (by rw [Heap.size_push]; exact Nat.ne_of_lt (Nat.lt_succ_of_lt hlS)) items).toS) s.heap.objs.size (by rw [Heap.size_push]; simp only [List.mem_cons, List.not_mem_nil, or_false, not_or]; exact ⟨Nat.ne_of_lt (Nat.lt_succ_self _), Nat.ne_of_gt hlS⟩) ns hisz hb hval (items.size - 0) 0 _ (by omega) (Nat.zero_le _)
            ⟨⟨_, Heap.get?_push_size _ rfl, rfl, rfl⟩, (hl1.push _)⟩ ⟨0, Nat.le_refl 0, setR_new_at (Heap.get?_push_of_some _ hS)⟩ ?_
          intro s' c' hm hc' hS'
          obtain ⟨h', g2, d', tk', os'⟩ := s'
          have eg : g2 = s.gens := hm.gens
          have ed : d' = s.drawn := hm.drawn
          have eo : os' = s.os := hm.os
          subst eg; subst ed; subst eo
          show wpAny _ _ _ _ _ _
          refine wpAny_pure ?_
          show wpAny _ _ (ret Value.none) _ _ _
          refine wpAny_pure ⟨rfl, h', tk', c', rfl, hS', fun b o e => ?_⟩
          have hb0 : b < s.heap.objs.size := Heap.lt_size e
          have hb1 : b ≠ s.heap.objs.size := Nat.ne_of_lt hb0
          have hb2 : b ≠ (s.heap.push (freshO w)).objs.size := by
            rw [Heap.size_push]; exact Nat.ne_of_lt (Nat.lt_succ_of_lt hb0)
          exact hm.heap b o (by simp only [List.mem_cons, List.mem_singleton, List.not_mem_nil, or_false, not_or]; exact ⟨hb1, hb2⟩) (Heap.get?_push_of_some _ (Heap.get?_push_of_some _ e))
      · cases r₂ with
        | error e => exact hr₂
        | ok fl₂ =>
          cases fl₂ with
          | ret r =>
            obtain ⟨rfl, h', tk, c', rfl, hS', hk'⟩ := hr₂
            repeat (any_goals (first | assumption | wp_step))
            exact h _ _ _ hS' hk'
          | _ => exact hr₂.elim
    | _ => exact hr.elim
end
end Ws
namespace Ws
open PySem PySem.Spec PyProof.Rows L2 RZ
theorem mem_dedI {k : Int} : ∀ {ns : List Int}, k ∈ dedI ns ↔ k ∈ ns
  | [] => Iff.rfl
  | x :: ns => by
    unfold dedI
    split
    · rename_i c
      rw [mem_dedI, List.mem_cons]
      exact ⟨.inr, fun z => z.elim (fun e => by rw [e]; exact List.contains_iff_mem.mp c) id⟩
    · rw [List.mem_cons, List.mem_cons, mem_dedI]
theorem nodup_dedI : ∀ ns : List Int, (dedI ns).Nodup
  | [] => List.nodup_nil
  | x :: ns => by
    unfold dedI
    split
    · exact nodup_dedI ns
    · rename_i c
      exact List.nodup_cons.mpr ⟨fun m => c (List.contains_iff_mem.mpr (mem_dedI.mp m)), nodup_dedI ns⟩
theorem setR_count {w : World} {h : Heap} {a : Addr} {F : Int → Bool} {n : Nat} (R : SetR w h a F n) {ns : List Int} (nd : ns.Nodup) (hm : ∀ k, k ∈ ns ↔ F k = true) : n = ns.length := by
  obtain ⟨o, es, ep, t, ho, hx, hd, g, nd', hm', hb, hf, hn, _⟩ := R
  have p : (es.toList.map keyOf).Perm ns := (List.perm_ext_iff_of_nodup nd' nd).mpr fun k => (hm' k).symm.trans (hm k).symm
  have := p.length_eq
  rw [List.length_map, Array.length_toList] at this
  omega
def rSetI (K : PySem.W.Frag) (w : World) : List V → Hp → VK → Prop := fun vs H Q => ∃ (a : Addr) (ns : List Int), vs = [.ref a] ∧ (SqL K H a (ns.map V.int) ∨ SqT K H a (ns.map V.int)) ∧ ns.length ≤ 1000 ∧
  ∀ b, H b = none → Q (.ref b) (upd H b (SetO w b (fun j => decide (j ∈ ns)) (dedI ns).length))
theorem cr_setI {X : Cx} (hc : X.calm = true) : CallR X (.type "set") (rSetI X.K X.w) := by
  intro pins s σ H xs us Q I r h
  obtain ⟨a, ns, rfl, hq, hf, q⟩ := h
  rw [Vals.ref1 r]
  have hn : H s.heap.objs.size = none := I.hok.fresh (Nat.le_refl _)
  have hb : ns.length + 1 < scanBound := by unfold scanBound; omega
  have fin : ∀ (h' : Heap) (tk c : Nat), SetR X.w h' s.heap.objs.size (fun j => decide (j ∈ ns)) c → (∀ b o, s.heap.get? b = some o → h'.get? b = some o) → ∃ v H', L2.Inv X pins σ H' { s with heap := h', toks := tk } ∧ RelV v (.ref s.heap.objs.size) ∧ Q v H' := fun h' tk c R k => by
    have ec : c = (dedI ns).length := setR_count R (nodup_dedI ns) fun k => by rw [mem_dedI]; simp
    subst ec
    exact ⟨.ref s.heap.objs.size, upd H s.heap.objs.size (SetO X.w s.heap.objs.size (fun j => decide (j ∈ ns)) (dedI ns).length), I.laid (t' := tk) k (Nat.le_refl _) (setO_new R), rfl, q _ hn⟩
  rcases hq with hq | hq
  · obtain ⟨its, rv, pl, _⟩ := I.list hq
    exact gsI_new (lst := true) ns (I.ok.hd hc) pl.isList (by simpa using ints_of_vals rv) hb fin
  · obtain ⟨its, rv, pl, _⟩ := I.tuple hq
    exact gsI_new (lst := false) ns (I.ok.hd hc) (show s.heap.IsTuple a its.toArray from pl) (by simpa using ints_of_vals rv) hb fin
theorem intsA_rel {w : World} {K : PySem.W.Frag} {L : Cn} {H : Hp} : ∀ {vs : List V} {xs : List D} {ns : List Int}, RAll w K L H vs xs → intsA xs = some ns → vs = ns.map V.int ∧ xs.length = ns.length
  | _, _, _, .nil, e => by cases e; exact ⟨rfl, rfl⟩
  | _, _, _, .cons (d := d) (ds := ds) r0 ra, e => by
    cases d with
    | int i =>
      simp only [intsA, Option.map_eq_some_iff] at e
      obtain ⟨ms, e, rfl⟩ := e
      obtain ⟨e1, e2⟩ := intsA_rel ra e
      cases r0
      exact ⟨by rw [e1]; rfl, by simp [e2]⟩
    | _ => simp [intsA] at e
section
variable {w : World} {K : PySem.W.Frag}
theorem cd_set : CallD w K (fun vs H Q => rSetN K w vs H Q ∨ rSetI K w vs H Q) gSet := by
  intro L H S xs ds d Q s rs e q
  unfold gSet at e
  split at e
  · rename_i d0
    obtain ⟨x, rfl, rx⟩ := rs.one
    have main : ∀ (a : Addr) (vs : List V) (ys : List D), (SqL K H a vs ∨ SqT K H a vs) → RAll w K L H vs ys → setOk ys = true → d = .set (dedupD ys) → rSetN K w [.ref a] H Q := fun a vs ys hq ra c ed => by
      unfold setOk at c
      simp only [Bool.and_eq_true, decide_eq_true_eq] at c
      obtain ⟨ks, e1, e2, e3, e4⟩ := key_rows ra c.2
      subst e1
      refine ⟨L, a, ks, ys, rfl, hq, ra, e2, e3, by rw [← List.length_map (f := fun p : Addr × NestedKey => V.ref p.1) (as := ks), ra.length]; exact c.1, fun b M nb m1 m2 nd => ?_⟩
      have ex1 : Ex L H L (upd H b (SetNO w b M)) := Ex.new nb
      obtain ⟨es, h1, h2, h3⟩ := rows_pick (fun p m => e4 p (m1 p m))
      have hy : ∀ y ∈ ys, ∃ l, D.key y = some l := fun y m => by obtain ⟨l, _, hl⟩ := keys_mem e2 m; exact ⟨l, hl⟩
      have pm : es.Perm (dedupD ys) := (List.perm_ext_iff_of_nodup (keys_nodup h2 nd) (nodup_dedupD hy)).mpr fun z => by
        rw [mem_dedupD hy]
        refine ⟨h3 z, fun m => ?_⟩
        obtain ⟨l, hl, e⟩ := keys_mem e2 m
        obtain ⟨p, hp, rfl⟩ := List.mem_map.mp hl
        obtain ⟨z', hz', e'⟩ := mem_keys h2 (m2 p hp)
        rw [key_inj z z' e e']; exact hz'
      rw [ed] at q
      exact q _ ex1 (s.new nb) _ (Rp.of (.set upd_same (s.fresh nb) (h1.ex ex1) h2 ⟨pm, fun p m => e3 p (m1 p m)⟩))
    have mainI : ∀ (a : Addr) (vs : List V) (ys : List D), (SqL K H a vs ∨ SqT K H a vs) → RAll w K L H vs ys → (intsK ys).map (fun ns => D.seti (dedI ns)) = some d → rSetI K w [.ref a] H Q := fun a vs ys hq ra ed => by
      obtain ⟨ns, e1, rfl⟩ := Option.map_eq_some_iff.mp ed
      unfold intsK at e1
      split at e1
      · rename_i c
        simp only [decide_eq_true_eq] at c
        obtain ⟨e2, e3⟩ := intsA_rel ra e1
        subst e2
        refine ⟨a, ns, rfl, hq, by omega, fun b nb => ?_⟩
        have ex1 : Ex L H L (upd H b (SetO w b (fun j => decide (j ∈ ns)) (dedI ns).length)) := Ex.new nb
        exact q _ ex1 (s.new nb) _ (Rp.of (.seti upd_same (s.fresh nb) (nodup_dedI ns) fun k => by rw [mem_dedI]; simp))
      · cases e1
    split at e
    · rename_i ys e1
      obtain ⟨a, vs, rfl, g1, z, p⟩ := view_lst rx s e1
      split at e
      · rename_i c
        cases e
        exact .inl (main a vs ys (.inl (SqL.of g1)) p c rfl)
      · exact .inr (mainI a vs ys (.inl (SqL.of g1)) p e)
    · rename_i ys e1
      obtain ⟨a, vs, rfl, g1, z, p⟩ := view_tup rx s e1
      split at e
      · rename_i c
        cases e
        exact .inl (main a vs ys (.inr g1) p c rfl)
      · exact .inr (mainI a vs ys (.inr g1) p e)
    · cases e
  · cases e
end
section
variable {X : Cx} {Wi : Wish} {p pos : Pos} {e : Expr} {f : Da} {k : Nat}
theorem se_set (hr : Room k X.A) (hc : X.calm = true) (hg : Gl X "set") (hm : X.mg "set" = none) (ha : SA X Wi [e] f) (he : starEach [e] X.env = (false, eval e X.env) :: starEach [] X.env := by rfl) : SE X Wi (.Call (.Name "set" p) [e] [] pos) (dCall gSet f) :=
  se_callTy (CallR.or' (cr_setN hc (u64 hr)) (cr_setI hc)) cd_set hg hm boot_set ha (by decide) (by rfl) he
end
end Ws
namespace Ws
open PySem PySem.Spec PyProof.Rows L2 RZ
theorem KB.byD {K : PySem.W.Frag} {x qual : Str} {params : Arguments} {body : List Stmt} {scope : Scope} {kws : List (Str × V)} {f : Addr} {fd : FuncData} {ps : List Str} {n : Nat} {ks : List Str} {perm : List Nat} (F : FunD K x qual params body scope [] kws f fd)
    (h : ∀ (kV doc pm : Value) (an : Option Addr) (cdv ct : Value) (us ws : List Value), us.length = n → ws.length = ks.length → bindArgs (PySem.W.fnOf x qual params body scope .none kV doc pm an cdv ct) ⟨us, ks.zip ws⟩ = pure (ps.zip (pick perm (us ++ ws)))) : KB K fd ps n ks perm := by
  obtain ⟨oc, od, dV, kV, doc, pm, an, cdv, ct, osl, rfl, lk, hcd, hD, hK⟩ := F.ex
  intro s us ws _ h1 h2
  rcases hD with ⟨_, rfl⟩ | ⟨e, _⟩
  · exact .of_eq (h kV doc pm an cdv ct us ws h1 h2)
  · exact absurd rfl e
end Ws
namespace Ws
open PySem PySem.Spec PyProof.Rows L2 RZ
def nmAt (defs : List (Str × Stmt)) (i : Nat) : Str := match defs[i]? with
  | some p => p.1
  | none => ""
def fnsOf (defs : List (Str × Stmt)) : List He.DefD := defs.map fun p => ⟨(p.1, none), p.1, p.1, defArgs p.2, defBody p.2, defScope p.2, [], []⟩
def fasOf (defs : List (Str × Stmt)) (blts : List Str) : List He.Fa := (defs.map fun p => He.Fa.glo p.1) ++ blts.map He.Fa.free
def cstOk (K : PySem.W.Frag) (p : Str × D) : Bool := match PySem.W.nsIn K mainGlobals p.1 with
  | some (some u) => okD K u p.2
  | _ => false
abbrev AlC : Type := Bool × He.AlD
def obsC (fa : List He.Fa) (fn : List He.DefD) (cs : List (Str × D)) (K : PySem.W.Frag) : AlC := (cs.all (cstOk K), He.obsD fa fn K)
def valC (fn : List He.DefD) : AlC := (true, He.valD fn)
def obsCG (n : Nat) (fa : List He.Fa) (fn : List He.DefD) (cs : List (Str × D)) (g : Addr → Option Obj) : AlC := obsC fa fn cs (He.frG g (He.asD g n))
def SaysC (fa : List He.Fa) (fn : List He.DefD) (cs : List (Str × D)) (K : PySem.W.Frag) : Prop := obsC fa fn cs K = valC fn
def hookC (n : Nat) (fa : List He.Fa) (fn : List He.DefD) (cs : List (Str × D)) : PySem.W.Hook where
  α := AlC
  obs := fun s => obsCG n fa fn cs s.heap.get?
  val := fun _ => valC fn
  says := fun _ h => ∃ K : PySem.W.Frag, K.In h ∧ SaysC fa fn cs K
  of := fun _ _ e => ⟨_, He.frG_in, e⟩
  keeps := fun _ _ _ ⟨K, hK, c⟩ k => ⟨K, PySem.W.Frag.In.keeps hK k, c⟩
theorem obsCG_eq {n : Nat} {fa : List He.Fa} {fn : List He.DefD} {cs : List (Str × D)} {g : Addr → Option Obj} {s : Shared} (h : ∀ a, g a = s.heap.get? a) : obsCG n fa fn cs g = (hookC n fa fn cs).obs s := by
  have e : g = s.heap.get? := funext h
  rw [e] <;> rfl
theorem SaysC.d {fa : List He.Fa} {fn : List He.DefD} {cs : List (Str × D)} {K : PySem.W.Frag} (c : SaysC fa fn cs K) : He.SaysD fa fn K := congrArg (fun z : AlC => z.2) c
theorem SaysC.con {fa : List He.Fa} {fn : List He.DefD} {cs : List (Str × D)} {K : PySem.W.Frag} (c : SaysC fa fn cs K) {p : Str × D} (h : p ∈ cs) : cstOk K p = true := List.all_eq_true.mp (congrArg (fun z : AlC => z.1) c) p h
theorem facts_mem {fa : List He.Fa} {fn : List He.DefD} {K : PySem.W.Frag} (c : He.SaysD fa fn K) {f : He.Fa} (h : f ∈ fa) : f.ok K = true := by
  obtain ⟨i, hi⟩ := List.mem_iff_getElem?.mp h
  exact c.fact i hi
theorem top_mk {K : PySem.W.Frag} {h : Heap} {mg : Str → Option Value} {defs : List (Str × Stmt)} {blts : List Str} {cst : List (Str × D)} (X : K.In h) (G : h.Ns mainGlobals mg) (c0 : SaysC (fasOf defs blts) (fnsOf defs) cst K) :
    ∃ fdd : Nat → FuncData, Top K mg defs blts cst (fun i => He.ga K (nmAt defs i)) fdd := by
  have c := c0.d
  have hd : ∀ i : Nat, ∃ fd : FuncData, ∀ x st, defs[i]? = some (x, st) → FunD K x x (defArgs st) (defBody st) (defScope st) [] [] (He.ga K x) fd := fun i => by
    cases e : defs[i]? with
    | none => exact ⟨default, fun _ _ h => nomatch h⟩
    | some p =>
      obtain ⟨fd, F⟩ := c.def_ i (d := ⟨(p.1, none), p.1, p.1, defArgs p.2, defBody p.2, defScope p.2, [], []⟩) (by unfold fnsOf; rw [List.getElem?_map, e]; rfl)
      exact ⟨fd, fun x st q => by cases q; exact F⟩
  refine ⟨fun i => (hd i).choose, fun i x st e => ?_, fun x m => ?_, fun p m => ?_⟩
  · have en : nmAt defs i = x := by unfold nmAt; rw [e]
    refine ⟨?_, ?_⟩
    · show mg x = some (.ref (He.ga K (nmAt defs i)))
      rw [en]
      exact He.glo_ok X G (facts_mem c (List.mem_append_left _ (List.mem_map.mpr ⟨_, List.mem_of_getElem? e, rfl⟩)))
    · show FunD K x x _ _ _ [] [] (He.ga K (nmAt defs i)) _
      rw [en]; exact (hd i).choose_spec x st e
  · exact He.free_ok X G (facts_mem c (List.mem_append_right _ (List.mem_map.mpr ⟨_, m, rfl⟩)))
  · have q := c0.con m
    unfold cstOk at q
    cases e : PySem.W.nsIn K mainGlobals p.1 with
    | none => rw [e] at q; cases q
    | some o =>
      rw [e] at q
      cases o with
      | none => cases q
      | some u => exact ⟨u, PySem.W.mg_of X G e, q⟩
def cn0 : Cn := ⟨[], []⟩
theorem sp_end {w : World} {K : PySem.W.Frag} {F : Df} {H : Hp} {a : Addr} {ns : List Int} {E : XK} (hO : L2.Only H) (hS : SqL K H a (ns.map V.int)) (hl : ns.length ≤ 1000) (h : ∃ S', F [.scr ns] [] = .ok (.bl true) S') : spD w K F [.ref a] H (fun v _ => v = .bl true) E := by
  obtain ⟨S', h⟩ := h
  refine ⟨cn0, [], [.scr ns], .cons (R0.scr ?_ hl) .nil, ⟨rfl, List.nodup_nil, fun n b d h1 _ => by simp [cn0] at h1, fun b m => by simp [cn0] at m⟩, ?_⟩
  · rcases hS with hr | hk
    · rcases hO a with e | ⟨o, xs, e⟩
      · rcases hr with hr | ⟨o, hr⟩ <;> rw [e] at hr <;> cases hr
      · rcases hr with hr | ⟨o', hr⟩
        · rw [e] at hr; cases hr
        · exact .inr ⟨o', hr, ⟨by simp [cn0], by simp [cn0]⟩⟩
    · exact .inl (.inr hk)
  · rw [h]
    exact fun L' H' _ _ v rv => by cases rv; rfl
end Ws
namespace Ws
open PySem PySem.Spec PyProof.Rows L2 RZ
def dRevN (f : De) : Da := fun r S => (f r S).bind fun d S1 => match view S1 d with
  | .lst xs => .ok xs.reverse S1
  | _ => .no
section
variable {X : Cx} {Wi : Wish} {e : Expr} {f : De} {k : Nat} {p1 p2 p3 pos : Pos}
def dStar (f : De) (g : Da) : Da := fun r S => (f r S).bind fun d S1 => match view S1 d with
  | .lst xs => (g r S1).bind fun ds S2 => .ok (xs ++ ds) S2
  | .tup xs => (g r S1).bind fun ds S2 => .ok (xs ++ ds) S2
  | _ => .no
theorem Rps.app {w : World} {K : PySem.W.Frag} {L : Cn} {H : Hp} : ∀ {vs us : List V} {ds es : List D}, Rps w K L H vs ds → Rps w K L H us es → Rps w K L H (vs ++ us) (ds ++ es)
  | _, _, _, _, .nil, q => q
  | _, _, _, _, .cons h t, q => .cons h (Rps.app t q)
end
def gLtA (_ : Store) (a b : D) : Option D := match a, b with
  | .int i, .int j => some (.bl (decide (i < j)))
  | .tup xs, .tup ys => if D.shps xs 50 && D.shps ys 50 && PySem.W.alike (D.tup xs).toPy (D.tup ys).toPy then some (.bl (ltDs xs ys)) else none
  | _, _ => none
def rLtD (K : PySem.W.Frag) : R2 := fun x y H Q => ∃ d e, Dp K H x d ∧ Dp K H y e ∧ PySem.W.alike d e = true ∧ d ≠ .none ∧ d.depth ≤ 60 ∧ Q (.bl (PySem.W.dataLt d e)) H
section
variable {X : Cx}
theorem op_ltD (hu : X.A.units + 64 < cLine) : OpR X (compareOp .Lt) (rLtD X.K) := by
  intro pins s σ H x y v u Q I rx ry h
  obtain ⟨d, e, h1, h2, ha, hn, hd, q⟩ := h
  obtain ⟨as, r1⟩ := Dp.reads I d x v h1 rx
  obtain ⟨bs, r2⟩ := Dp.reads I e y u h2 ry
  exact PySem.W.lt_data r1 r2 ha hn (by omega) ⟨.bl _, H, I.tok _, rfl, q⟩
end
theorem od_ltA {w : World} {K : PySem.W.Frag} : OpD w K (fun x y H Q => rI0 (fun i j => .bl (decide (i < j))) x y H Q ∨ rLtD K x y H Q) gLtA := by
  intro L H S x y a b d Q s ra rb e q
  unfold gLtA at e
  split at e
  · rename_i i j
    cases e
    cases ra; cases rb
    exact .inl ⟨i, j, rfl, rfl, q H Ex.refl s _ (Rp.of (.bl _))⟩
  · rename_i xs ys
    split at e
    · rename_i c
      cases e
      simp only [Bool.and_eq_true] at c
      have s1 : (D.tup xs).shp 51 = true := by simpa [D.shp] using c.1.1
      have s2 : (D.tup ys).shp 51 = true := by simpa [D.shp] using c.1.2
      have h1 : Dp K H x (D.tup xs).toPy := R0.dp (show R0 w K L H x (.tup xs) from ra) s1
      have h2 : Dp K H y (D.tup ys).toPy := R0.dp (show R0 w K L H y (.tup ys) from rb) s2
      refine .inr ⟨_, _, h1, h2, c.2, by simp [D.toPy], by have := (shp_py _ 51 s1).2; omega, ?_⟩
      rw [ltD_py _ _ 51 51 s1 s2 c.2]
      exact q H Ex.refl s _ (Rp.of (.bl _))
    · cases e
  · cases e
section
variable {X : Cx} {Wi : Wish} {a b : Expr} {f1 f2 : De} {pos : Pos} {k : Nat}
theorem se_ltA (hr : Room k X.A) (ha : SE X Wi a f1) (hb : SE X Wi b f2) : SE X Wi (.Compare a [.Lt] [b] pos) (dOp gLtA f1 f2) := se_cmp (op_lt.or (op_ltD (u64 hr))) od_ltA ha hb (nomark _)
theorem st_ltA (hr : Room k X.A) (ha : SE X Wi a f1) (hb : SE X Wi b f2) : ST X Wi (.Compare a [.Lt] [b] pos) (dTest (dOp gLtA f1 f2)) := st_cmp (op_lt.or (op_ltD (u64 hr))) od_ltA ha hb (nomark _)
end
end Ws
namespace Ws
open PySem PySem.Spec PyProof.Rows L2 RZ
section
variable {prog : Program} {w : World} {A : Around} {E : Value → Shared → Prop} {s : Shared}
theorem adj_rev (n : Nat) : Builtin.Slice.sliceAdjust none none (-1) (n : Int) = ((n : Int) - 1, -1) := by
  unfold Builtin.Slice.sliceAdjust
  simp
theorem plc_rev (n : Nat) : Builtin.Slice.slicePlaces ((n : Int) - 1) (-1) (-1) = n := by
  unfold Builtin.Slice.slicePlaces
  have h1 : ¬ ((-1 : Int) > 0) := by decide
  simp only [h1, if_false]
  split
  · have : (- -1 : Int) = 1 := by decide
    rw [this, Int.ediv_one]; omega
  · omega
theorem fm_congr {α β : Type} {f g : α → Option β} : ∀ {l : List α}, (∀ x ∈ l, f x = g x) → l.filterMap f = l.filterMap g
  | [], _ => rfl
  | a :: l, h => by rw [List.filterMap_cons, List.filterMap_cons, h a (List.mem_cons_self ..), fm_congr fun x m => h x (List.mem_cons_of_mem _ m)]
theorem pick_rev (xs : Array Value) : ((List.range xs.size).filterMap fun (m : Nat) => xs[(((xs.size : Int) - 1) + (m : Int) * (-1)).toNat]?).toArray = xs.toList.reverse.toArray := by
  congr 1
  have e : (List.range xs.size).filterMap (fun (m : Nat) => xs[(((xs.size : Int) - 1) + (m : Int) * (-1)).toNat]?) = ((List.range xs.size).map fun k => xs.size - 1 - k).filterMap (xs[·]?) := by
    rw [List.filterMap_map]
    refine fm_congr fun m hm => ?_
    have hm' := List.mem_range.mp hm
    have : (((xs.size : Int) - 1) + (m : Int) * (-1)).toNat = xs.size - 1 - m := by omega
    rw [this]; rfl
  rw [e, PySem.W.krv_range, List.filterMap_reverse, PySem.W.krv_all]
theorem sl_rev {sl : Addr} {vl vu vs : Value} {n : Nat} {Q : Int × Int × Nat → Shared → Prop} (hs : s.heap.IsSliceOf sl vl vu vs) (pl : IsPart vl none) (pu : IsPart vu none) (ps : IsPart vs (some (-1))) (h : Q ((n : Int) - 1, -1, n) s) : wpAny (model prog w) A (Builtin.Slice.sliceApplied (.ref sl) (pure (n : Int))) Q E s := by
  obtain ⟨os, hos, hcs, hds⟩ := id hs
  unfold Builtin.Slice.sliceApplied Builtin.Slice.sliceFields
  refine wpAny_bind (wpAny_bind (wpAny_field hos hds (x := vl) rfl (wpAny_bind (wpAny_field hos hds (x := vu) rfl (wpAny_bind (wpAny_field hos hds (x := vs) rfl (wpAny_pure ?_)))))))
  refine wpAny_bind (HT.slicePart_ ps ?_)
  show wpAny _ _ (if ((-1 : Int) == 0) = true then _ else _) _ _ s
  rw [if_neg (by decide)]
  refine wpAny_bind (HT.slicePart_ pl (wpAny_bind (HT.slicePart_ pu (wpAny_bind (wpAny_pure ?_)))))
  show wpAny _ _ (match Builtin.Slice.sliceAdjust none none (-1) (n : Int) with | (lo, hi) => pure (lo, (-1 : Int), Builtin.Slice.slicePlaces lo hi (-1))) _ _ s
  rw [adj_rev]
  show wpAny _ _ (pure ((n : Int) - 1, (-1 : Int), Builtin.Slice.slicePlaces ((n : Int) - 1) (-1) (-1))) _ _ s
  rw [plc_rev]
  exact wpAny_pure h
theorem tup_rev {t sl : Addr} {items : Array Value} {vl vu vs : Value} {Q : Value → Shared → Prop} (ht : IsTup s.heap t items) (hs : s.heap.IsSliceOf sl vl vu vs) (pl : IsPart vl none) (pu : IsPart vu none) (ps : IsPart vs (some (-1)))
    (h : Q (.ref s.heap.objs.size) { s with heap := s.heap.push { cls := .type "tuple", data := .seq items.toList.reverse.toArray } }) (hsz : items.size ≤ sizeLine) : wpAny (model prog w) A (getItem (.ref t) (.ref sl)) Q E s := by
  have htake : sizeOk (.seq items.toList.reverse.toArray) := by
    show items.toList.reverse.toArray.size ≤ sizeLine
    rw [List.size_toArray, List.length_reverse, Array.length_toList]; exact hsz
  obtain ⟨os, hos, hcs, hds⟩ := id hs
  have hTs : s.TypeIs (.ref sl) "slice" := ⟨os, hos, hcs⟩
  unfold getItem
  try with_reducible refine wpAny_holding ?_
  first | refine wpAny_bind (wpAny_pure ?_) | skip
  refine wpAny_bind (wpAny_sequenceKey ht.typeIs (by decide) ?_)
  refine wpAny_bind (wpAny_callSpecial?_slot (name := Str.ofString "__getitem__") ht.typeIs PyProof.Rows.slot_tuple_getitem (wpAny_call_entry PyProof.Rows.slot_tuple_getitem ht.typeIs PyProof.Rows.entry_tuple_getitem ?_ (PyProof.Rows.args_tuple_getitem _ _)))
  show wpAny _ _ (Builtin.Tuple.tupleItemsOf (.ref t) >>= _) _ _ s
  refine wpAny_bind (PyProof.Rows.tupleItemsOf_ ht ?_)
  refine wpAny_bind (wpAny_typeOf hTs ?_)
  rw [if_pos (by decide)]
  refine wpAny_bind (sl_rev hs pl pu ps ?_)
  show wpAny _ _ (if (((items.size : Int) - 1) == 0 && (-1 : Int) == 1 && items.size == items.size) = true then _ else _) _ _ s
  rw [if_neg (by simp), pick_rev]
  first
    | exact wpAny_bind (m := Builtin.Tuple.tupleExact _) (wpAny_newObj_type (wpAny_pure ⟨_, rfl, wpAny_pure h⟩) htake)
    | exact wpAny_bind (m := Builtin.Tuple.tupleExact _) (wpAny_newObj_type (wpAny_bind (wpAny_pure (wpAny_pure ⟨_, rfl, wpAny_pure h⟩))) htake)
    | exact wpAny_bind (wpAny_bind (m := Builtin.Tuple.tupleExact _) (wpAny_newObj_type (wpAny_pure (wpAny_pure ⟨_, rfl, wpAny_pure h⟩)) htake))
    | exact wpAny_bind (wpAny_bind (m := Builtin.Tuple.tupleExact _) (wpAny_newObj_type (wpAny_pure ⟨_, rfl, wpAny_pure h⟩) htake))
end
section
variable {X : Cx} {Wi : Wish} {e : Expr} {f : De} {k : Nat} {p1 p2 p3 pos : Pos}
def tRevA (K : PySem.W.Frag) (te : TE) : TE := fun σ H Q => te σ H fun x H1 => ∃ a xs, x = .ref a ∧ ((SqL K H1 a xs ∧ ∀ p, H1 p = none → Q (.ref p) (upd H1 p (.lst xs.reverse))) ∨ (SqT K H1 a xs ∧ ∀ p o, H1 p = none → o.dict = none → Q (.ref p) (upd H1 p (.frz o (.tup xs.reverse)))))
theorem pe_revA {te : TE} (he : PE X e te) : PE X (.Subscript e (.Slice none none (some (.UnaryOp .USub (.Constant (.int 1) k p1) p2)) p3) pos) (tRevA X.K te) := by
  refine ⟨fun pins s σ H Q I h => ?_⟩
  refine Subscript_ (thn (he.run pins s σ H _ I h) fun v s1 ⟨x, H1, I1, r1, q1⟩ => ?_)
  obtain ⟨a, xs, ex, q⟩ := q1
  subst ex
  cases r1
  have hst : PO X (some (.UnaryOp .USub (.Constant (.int 1) k p1) p2)) (tPart (tUn (rU fun i => .int (-i)) (tC (.int 1)))) := po_some (pe_un un_neg pe_int)
  refine wpAny_Slice (thn (po_none.run pins s1 σ H1 (fun o H2 => o = none ∧ H2 = H1) I1 ⟨rfl, rfl⟩) fun vl s2 ⟨l, H2, I2, pl, el, e2⟩ => ?_)
  subst el e2
  refine thn (po_none.run pins s2 σ H2 (fun o H3 => o = none ∧ H3 = H2) I2 ⟨rfl, rfl⟩) fun vu s3 ⟨u, H3, I3, pu, eu, e3⟩ => ?_
  subst eu e3
  refine thn (hst.run pins s3 σ H3 (fun o H4 => o = some (-1) ∧ H4 = H3) I3 ⟨1, rfl, -1, rfl, rfl, rfl⟩) fun vs s4 ⟨o, H4, I4, ps, eo, e4⟩ => ?_
  subst eo e4
  have I5 : L2.Inv X pins σ H4 { s4 with heap := s4.heap.push { cls := .type "slice", data := .fields #[vl, vu, vs] } } := I4.kept (t' := s4.toks) fun b ob q => Heap.get?_push_of_some _ q
  show wpAny (model X.prog X.w) X.A (subscriptTail e (.Slice none none (some (.UnaryOp .USub (.Constant (.int 1) k p1) p2)) p3) (.ref a) (.ref s4.heap.objs.size)) (EP X pins σ Q) X.xe { s4 with heap := s4.heap.push { cls := .type "slice", data := .fields #[vl, vu, vs] } }
  rcases q with ⟨hx, q⟩ | ⟨hx, q⟩
  · obtain ⟨its, r, ht, hz⟩ := I5.list hx
    have hlen := r.length
    refine tail_any (ops := [.ref a, .ref s4.heap.objs.size]) ht.isList.typeIs (PySem.slot_list_getitem.lookup) ?_ (by with_unfolding_all rfl)
    refine wpAny_getItem_list_slice ht.isList (Heap.IsSliceOf.new _ vl vu vs) pl pu ps (by decide) ?_ (by rw [List.size_toArray]; omega)
    rw [PySem.W.krv_pick]
    exact ⟨.ref _, _, I5.laid (t' := s4.toks) (o := .lst xs.reverse) (fun b ob q => Heap.get?_push_of_some _ q) (Nat.le_refl _) ⟨by rw [List.length_reverse]; exact hz, _, 0, r.reverse, Heap.get?_push_size _ rfl⟩, rfl, q _ (I5.hok.fresh (Nat.le_refl _))⟩
  · obtain ⟨its, r, ht, hz⟩ := I5.tuple hx
    have hlen := r.length
    refine tail_any (ops := [.ref a, .ref s4.heap.objs.size]) ht.typeIs (PyProof.Rows.slot_tuple_getitem.lookup) ?_ (by with_unfolding_all rfl)
    refine tup_rev ht (Heap.IsSliceOf.new _ vl vu vs) pl pu ps ?_ (by rw [List.size_toArray]; omega)
    exact tup_laid I5 r.reverse (by rw [List.length_reverse]; exact hz) q
/-- [::-1] of a list or a tuple -/
def dRevA (f : De) : De := fun r S => (f r S).bind fun d S1 => match view S1 d with
  | .lst xs => .ok (.lst xs.reverse) S1
  | .tup xs => .ok (.tup xs.reverse) S1
  | _ => .no
theorem se_revA (he : SE X Wi e f) : SE X Wi (.Subscript e (.Slice none none (some (.UnaryOp .USub (.Constant (.int 1) k p1) p2)) p3) pos) (dRevA f) :=
  pe_imp (pe_revA he) fun s H Q h => by
    obtain ⟨L, S, rr, er, sr, h⟩ := h
    refine ⟨L, S, rr, er, sr, (After.bnd h).mono fun d S1 L1 H1 e1 s1 h1 x rx => ?_⟩
    split at h1
    · rename_i xs hv
      obtain ⟨a, vs, rfl, g1, z, p⟩ := view_lst rx s1 hv
      exact ⟨a, vs, rfl, .inl ⟨SqL.of g1, fun q nq => h1 L1 _ (Ex.new nq) (s1.new nq) _ (new_lst s1 nq (by rw [List.length_reverse]; exact z) p.reverse)⟩⟩
    · rename_i xs hv
      obtain ⟨a, vs, rfl, g1, z, p⟩ := view_tup rx s1 hv
      exact ⟨a, vs, rfl, .inr ⟨g1, fun q o nq hd => h1 L1 _ (Ex.new nq) (s1.new nq) _ (new_tup s1 nq hd (by rw [List.length_reverse]; exact z) p.reverse)⟩⟩
    · exact False.elim h1
end
end Ws
namespace Ws
open PySem PySem.Spec PyProof.Rows L2 RZ
abbrev Dd := Sl → Store → Out (List D × List D)
def dFzD (f : Dd) : De := fun r S => (f r S).bind fun kv S1 => .ok (.dct kv.1 kv.2) S1
def dMuD (f : Dd) : De := fun r S => (f r S).bind fun kv S1 => .ok (.ref S1.length) (S1 ++ [.dct kv.1 kv.2])
section
variable {w : World} {K : PySem.W.Frag} {L L' : Cn} {H H' : Hp}
theorem DK.ex {xs : List Ent} {ks : List D} (e : Ex L H L' H') (h : DK w K L H xs ks) : DK w K L' H' xs ks := ⟨h.ra.ex e, h.key, h.dep⟩
end
section
variable {X : Cx} {Wi : Wish} {e : Expr} {f : Dd} {pos : Pos}
def dEmp : Dd := fun _ S => .ok ([], []) S
end
def dCallD (g : Store → List D → Option (List D × List D)) (f : Da) : Dd := fun r S => (f r S).bind fun ds S1 => match g S1 ds with
  | some kv => .ok kv S1
  | none => .no
end Ws
namespace Ws
open PySem PySem.Spec PyProof.Rows L2 RZ
end Ws
namespace Ws
open PySem PySem.Spec PyProof.Rows L2 RZ
def isDct (S : Store) (d : D) : Bool := match view S d with
  | .dct _ _ => true
  | _ => false
def dMet (g : Store → D → List D → Option D) (fo : De) (fa : Da) : De := fun r S => (fo r S).bind fun o S1 => if isDct S1 o = false then .no else (fa r S1).bind fun ds S2 => opt (g S2 o ds) S2
end Ws
namespace Ws
open PySem PySem.Spec PyProof.Rows L2 RZ
abbrev iAdd : Int → Int → Int := fun i j => i + j
abbrev iSub : Int → Int → Int := fun i j => i - j
def sAugN (g : Int → Int → Int) (i : Nat) (f : De) : Ds := fun r S => match r[i]? with
  | some (some d) => (f r S).bind fun e S1 => match d, e with
    | .int a, .int b => .ok (.nx (r.set i (some (.int (g a b))))) S1
    | _, _ => .no
  | _ => .no
def getAt (S : Store) (o i : D) : Option Int := match o, i with
  | .ref n, .int k => match S[n]? with
    | some (.lst xs) => match atI xs k with
      | some (.int z) => some z
      | _ => none
    | _ => none
  | _, _ => none
def sAugS (g : Int → Int → Int) (fo fi fe : De) : Ds := fun r S => (fo r S).bind fun o S1 => (fi r S1).bind fun i S2 => match getAt S2 o i with
  | some z => (fe r S2).bind fun e S3 => match e with
    | .int y => match setAt S3 o i (.int (g z y)) with
      | some S' => .ok (.nx r) S'
      | none => .no
    | _ => .no
  | none => .no
end Ws
namespace Ws
open PySem PySem.Spec PyProof.Rows L2 RZ
section
variable {X : Cx} {pins : List (Addr × Obj)} {σ : L2.St} {H : Hp} {s : Shared}
/-- a change at addresses that are nobody's -/
theorem inv_poke {h' : Heap} {t' : Nat} {ch : List Addr} (I : L2.Inv X pins σ H s) (f : ∀ it ∈ ch, FpOk X pins H it) (k : ∀ b ob, b ∉ ch → s.heap.get? b = some ob → h'.get? b = some ob) : L2.Inv X pins σ H { s with heap := h', toks := t' } := by
  have nit : ∀ b u, H b = some u → b ∉ ch := fun b u e z => by rw [(f b z).1] at e; cases e
  refine I.step (g' := s.gens) (d' := s.drawn) (ch := ch) (fun b hb => ?_) (fun b ob _ _ hc e _ => k b ob hc e) (fun b ob _ _ hc e _ => ⟨ob.slots, k b ob hc e⟩)
    (fun b ob _ _ n => n) (fun b ob hc e => ⟨ob, k b ob hc e⟩) (fun b _ e => e) (fun b _ _ e => e) (fun b ps e => ⟨#[], by rw [e]; simp⟩) (fun m hm => ?_) (fun b u e => ?_) I.bare
  · obtain ⟨_, hL, _, h1, h2, h3⟩ := f b hb
    exact ⟨h1, hL, h2, h3⟩
  · obtain ⟨ob, es, ep, ho, r⟩ := hm
    exact ⟨ob, es, ep, k _ ob (fun z => (f _ z).2.1 rfl) ho, r⟩
  · refine (I.hok b u e).stay (fun c v hc q => k c v ?_ q) (fun c q => q) fun c _ q => q
    rcases hc with z | z
    · rw [z]; exact nit b u e
    · exact nit c _ z
end
/-- the keys, one by one -/
def keysF (F : Df) : List D → Store → Out (List D)
  | [], S => .ok [] S
  | y :: r, S => (F [y] S).bind fun k S1 => if k.isRef then .no else (keysF F r S1).bind fun ks S2 => .ok (k :: ks) S2
def insK (x : D × D) : List (D × D) → List (D × D)
  | [] => [x]
  | y :: r => if ltD y.1 x.1 then y :: insK x r else x :: y :: r
def isortK : List (D × D) → List (D × D)
  | [] => []
  | x :: r => insK x (isortK r)
def sortBy (ks ys : List D) : List D := (isortK (ks.zip ys)).map (·.2)
def sortKO (F : Df) (ys : List D) (S : Store) : Out (List D) := (keysF F ys S).bind fun ks S1 => if sortOk ks then .ok (sortBy ks ys) S1 else .no
/-- sorted(.., key=F) -/
def dSortK (F : Df) (fa : Da) : Da := fun r S => (fa r S).bind fun ds S1 => match ds with
  | [d] => match view S1 d with
    | .lst ys => sortKO F ys S1
    | _ => .no
  | _ => .no
theorem RAll.snoc {w : World} {K : PySem.W.Frag} {L : Cn} {H : Hp} {v : V} {d : D} : ∀ {vs : List V} {ds : List D}, RAll w K L H vs ds → R0 w K L H v d → RAll w K L H (vs ++ [v]) (ds ++ [d])
  | _, _, .nil, h => .cons h .nil
  | _, _, .cons h t, q => .cons h (RAll.snoc t q)
theorem Vals.snoc {v : V} {u : Value} : ∀ {vs : List V} {us : List Value}, Vals vs us → RelV v u → Vals (vs ++ [v]) (us ++ [u])
  | _, _, .nil, h => .cons h .nil
  | _, _, .cons h t, q => .cons h (Vals.snoc t q)
theorem rall_at {w : World} {K : PySem.W.Frag} {L : Cn} {H : Hp} : ∀ {vs : List V} {ds : List D} {j : Nat} {v : V}, RAll w K L H vs ds → vs[j]? = some v → ∃ d, ds[j]? = some d ∧ R0 w K L H v d
  | _, _, 0, _, .cons r t, h => by cases h; exact ⟨_, rfl, r⟩
  | _, _, j + 1, _, .cons r t, h => rall_at (j := j) t h
  | _, _, _, _, .nil, h => by simp at h
end Ws
namespace Ws
open PySem PySem.Spec PyProof.Rows L2 RZ
def gMulN (S : Store) (a b : D) : Option (List D) := match view S a, view S b with
  | .lst xs, .int k => if decide (-1000000 ≤ k) && decide (k ≤ 1000000) && lineOk (xs.length * k.toNat) then some (List.replicate k.toNat xs).flatten else none
  | _, _ => none
def dMulN (f g : De) : Da := fun r S => (f r S).bind fun a S1 => (g r S1).bind fun b S2 => match gMulN S2 a b with
  | some xs => .ok xs S2
  | none => .no
end Ws
namespace Ws
open PySem PySem.Spec PyProof.Rows L2 RZ
def rgO (d : D) (S : Store) : Out (List D) := match d with
  | .int j => if decide (0 ≤ j) && decide (j ≤ 100000) then .ok (rngD 0 j.toNat) S else .no
  | _ => .no
def dRgL (f : De) : Da := fun r S => (f r S).bind rgO
def tupO (xs : List D) (S : Store) : Out D := .ok (.tup xs) S
def rgT (d : D) (S : Store) : Out D := (rgO d S).bind tupO
def dRgT (f : De) : De := fun r S => (f r S).bind rgT
end Ws
namespace Ws
open PySem PySem.Spec PyProof.Rows L2 RZ
theorem bindN_assoc {α β γ : Type} {c : Out α} {f : α → Store → Out β} {h : β → Store → Out γ} : (c.bindN f).bindN h = c.bindN fun a S => (f a S).bindN h := by cases c <;> rfl
def lim (ds : List D) (S : Store) : Out (List D) := if lineOk ds.length then .ok ds S else .no
def kTail (k : Store → Out (List D)) (xs : List D) (S : Store) : Out (List D) := (k S).bindN fun ys S4 => .ok (xs ++ ys) S4
def kIn (vs1 : List Nat) (g1 : Dg) (t1 : Dt) (e : De) (r1 : Sl) (k : Store → Out (List D)) (j : ItD) (S : Store) : Out (List D) := (runC g1 t1 e (wipeD r1 vs1) j S).bindN (kTail k)
def kTst (it1 : Di) (vs1 : List Nat) (g1 : Dg) (t1 : Dt) (e : De) (r1 : Sl) (k : Store → Out (List D)) (b : Bool) (S : Store) : Out (List D) := if b = true then (it1 r1 S).bindN (kIn vs1 g1 t1 e r1 k) else k S
def stepC2 (g : Dg) (t : Dt) (it1 : Di) (vs1 : List Nat) (g1 : Dg) (t1 : Dt) (e : De) (r : Sl) (d : D) (k : Store → Out (List D)) (S : Store) : Out (List D) :=
  match g d r S with
  | none => .no
  | some r1 => (t r1 S).bindN (kTst it1 vs1 g1 t1 e r1 k)
def compF2 (g : Dg) (t : Dt) (it1 : Di) (vs1 : List Nat) (g1 : Dg) (t1 : Dt) (e : De) (r : Sl) : List D → Store → Out (List D)
  | [], S => .ok [] S
  | d :: ds, S => stepC2 g t it1 vs1 g1 t1 e r d (compF2 g t it1 vs1 g1 t1 e r ds) S
def runC2 (g : Dg) (t : Dt) (it1 : Di) (vs1 : List Nat) (g1 : Dg) (t1 : Dt) (e : De) (r : Sl) (j : ItD) (S : Store) : Out (List D) := match j with
  | .fix xs => (compF2 g t it1 vs1 g1 t1 e r xs S).bindN lim
  | _ => .no
def dComp2 (vs vs1 : List Nat) (it : Di) (g : Dg) (t : Dt) (it1 : Di) (g1 : Dg) (t1 : Dt) (e : De) : Da := fun r S => (it r S).bind fun j S1 => runC2 g t it1 vs1 g1 t1 e (wipeD r vs) j S1
end Ws
namespace Ws
open PySem PySem.Spec PyProof.Rows L2 RZ
def asgMO (n : Nat) (h : Dgs) (r : Sl) (ds : List D) (S : Store) : Out Fl := if ds.length = n && lineOk ds.length then (match h ds r S with
  | some r' => .ok (.nx r') S
  | none => .no) else .no
def sAsgM (n : Nat) (f : Da) (h : Dgs) : Ds := fun r S => (f r S).bind (asgMO n h r)
end Ws
namespace Ws
open PySem PySem.Spec PyProof.Rows L2 RZ
def hideL : List Addr → Hp → Hp
  | [], H => H
  | p :: ps, H => hide p (hideL ps H)
def lockL : Cn → List Addr → Cn
  | L, [] => L
  | L, p :: ps => lockL (L.lock p) ps
theorem hideL_in {H : Hp} {a : Addr} : ∀ {ps : List Addr}, a ∈ ps → hideL ps H a = none
  | p :: ps, h => by
    show hide p (hideL ps H) a = none
    by_cases e : a = p
    · subst e; exact hide_same
    · rw [hide_ne e]
      rcases List.mem_cons.mp h with q | q
      · exact absurd q e
      · exact hideL_in q
theorem hideL_out {H : Hp} {a : Addr} : ∀ {ps : List Addr}, a ∉ ps → hideL ps H a = H a
  | [], _ => rfl
  | p :: ps, h => by
    show hide p (hideL ps H) a = _
    rw [hide_ne fun e => h (by rw [e]; exact List.mem_cons_self ..), hideL_out fun z => h (List.mem_cons_of_mem _ z)]
theorem hideL_upd {H : Hp} {ps : List Addr} {p : Addr} {o : HO} (h : p ∈ ps) : hideL ps (upd H p o) = hideL ps H := funext fun a => by
  by_cases e : a ∈ ps
  · rw [hideL_in e, hideL_in e]
  · rw [hideL_out e, hideL_out e, upd_ne fun z => e (by rw [z]; exact h)]
theorem hideL_new {H : Hp} {ps : List Addr} {q : Addr} {o : HO} (h : H q = none) : hideL (q :: ps) (upd H q o) = hideL ps H := funext fun a => by
  by_cases e : a = q
  · subst e
    rw [hideL_in (List.mem_cons_self ..)]
    by_cases z : a ∈ ps
    · rw [hideL_in z]
    · rw [hideL_out z, h]
  · by_cases z : a ∈ ps
    · rw [hideL_in (List.mem_cons_of_mem _ z), hideL_in z]
    · rw [hideL_out (by simp [e, z]), hideL_out z, upd_ne e]
structure LckL (w : World) (K : PySem.W.Frag) (L : Cn) (H : Hp) (S : Store) (ps : List Addr) : Prop where
  nd : ps.Nodup
  so : ∀ p ∈ ps, ∃ o, H p = some o
  no : ∀ p ∈ ps, L.No p
  sr : SRep w K L (hideL ps H) S
section
variable {w : World} {K : PySem.W.Frag} {Wi : Wish}
theorem LckL.head {L : Cn} {H : Hp} {S : Store} {p : Addr} {ps : List Addr} (k : LckL w K L H S (p :: ps)) : ∃ o, Lck w K L (hideL ps H) S p o ∧ H p = some o := by
  obtain ⟨o, e⟩ := k.so p (List.mem_cons_self ..)
  have hn := (List.nodup_cons.mp k.nd).1
  have no := k.no p (List.mem_cons_self ..)
  exact ⟨o, ⟨by rw [hideL_out hn]; exact e, no.1, no.2, k.sr⟩, e⟩
theorem LckL.tail {L : Cn} {H : Hp} {S : Store} {p : Addr} {ps : List Addr} (k : LckL w K L H S (p :: ps)) : LckL w K (L.lock p) H S ps := by
  obtain ⟨o, k1, _⟩ := k.head
  have hn := List.nodup_cons.mp k.nd
  refine ⟨hn.2, fun q hq => k.so q (List.mem_cons_of_mem _ hq), fun q hq => ?_, k1.locked⟩
  have := k.no q (List.mem_cons_of_mem _ hq)
  refine ⟨this.1, fun z => ?_⟩
  rcases List.mem_cons.mp z with e | e
  · exact hn.1 (by rw [← e]; exact hq)
  · exact this.2 e
theorem LckL.locked {H : Hp} {S : Store} : ∀ {ps : List Addr} {L : Cn}, LckL w K L H S ps → SRep w K (lockL L ps) H S
  | [], _, k => k.sr
  | p :: ps, L, k => by
    have := LckL.locked (ps := ps) (L := L.lock p) k.tail
    exact this
theorem LckL.ew {H : Hp} {S : Store} : ∀ {ps : List Addr} {L : Cn}, LckL w K L H S ps → Ew K L (hideL ps H) (lockL L ps) H
  | [], _, _ => Ex.refl.ew
  | p :: ps, L, k => by
    obtain ⟨o, k1, _⟩ := k.head
    exact k1.ew.trans (LckL.ew k.tail)
theorem LckL.go {H H' : Hp} {S S' : Store} : ∀ {ps : List Addr} {L L' : Cn}, LckL w K L H S ps → Ex (lockL L ps) H L' H' → SRep w K L' H' S' → ∃ L'', L' = lockL L'' ps ∧ Ex L (hideL ps H) L'' (hideL ps H') ∧ LckL w K L'' H' S' ps ∧ ∀ p ∈ ps, H' p = H p
  | [], L, L', k, e, s => ⟨L', rfl, e, ⟨k.nd, (fun _ h => nomatch h), (fun _ h => nomatch h), s⟩, (fun _ h => nomatch h)⟩
  | p :: ps, L, L', k, e, s => by
    obtain ⟨o, k1, ho⟩ := k.head
    obtain ⟨L1, e1, x1, l1, q1⟩ := LckL.go k.tail e s
    obtain ⟨L2, e2, x2, k2⟩ := k1.go x1 l1.sr
    have hn := List.nodup_cons.mp k.nd
    have hp : H' p = some o := by have := k2.at_; rw [hideL_out hn.1] at this; exact this
    refine ⟨L2, by rw [e1, e2]; rfl, x2, ⟨k.nd, fun q hq => ?_, fun q hq => ?_, k2.sr⟩, fun q hq => ?_⟩
    · rcases List.mem_cons.mp hq with z | z
      · exact ⟨o, by rw [z]; exact hp⟩
      · exact l1.so q z
    · rcases List.mem_cons.mp hq with z | z
      · rw [z]; exact ⟨k2.nl, k2.nm⟩
      · have := l1.no q z; rw [e2] at this; exact (No.unlock this).1
    · rcases List.mem_cons.mp hq with z | z
      · rw [z, hp, ho]
      · exact q1 q z
theorem LckL.run {α β : Type} {L : Cn} {H : Hp} {S : Store} {ps : List Addr} {c : Out α} {f : α → Store → Out β} {R : β → Store → Cn → Hp → Prop} (k : LckL w K L H S ps) (h : After w K Wi L (hideL ps H) (c.bindN f) R) :
    After w K noW (lockL L ps) H c fun a S' L' H' => ∃ L'', L' = lockL L'' ps ∧ Ex L (hideL ps H) L'' (hideL ps H') ∧ LckL w K L'' H' S' ps ∧ (∀ p ∈ ps, H' p = H p) ∧ After w K Wi L'' (hideL ps H') (f a S') R := by
  cases c with
  | ok a S1 =>
    intro L' H' e s
    obtain ⟨L'', rfl, e2, k2, q⟩ := k.go e s
    exact ⟨L'', rfl, e2, k2, q, After.ex e2 h⟩
  | ex c S1 => exact False.elim h
  | no => exact h
theorem LckL.put {L : Cn} {H : Hp} {S : Store} {ps : List Addr} {p : Addr} {o : HO} (k : LckL w K L H S ps) (h : p ∈ ps) : LckL w K L (upd H p o) S ps := by
  refine ⟨k.nd, fun q hq => ?_, k.no, by rw [hideL_upd h]; exact k.sr⟩
  by_cases e : q = p
  · subst e; exact ⟨o, upd_same⟩
  · obtain ⟨u, hu⟩ := k.so q hq; exact ⟨u, by rw [upd_ne e]; exact hu⟩
theorem LckL.more {L : Cn} {H : Hp} {S : Store} {ps : List Addr} {q : Addr} {o : HO} (k : LckL w K L H S ps) (h : H q = none) : LckL w K L (upd H q o) S (q :: ps) := by
  have hq : q ∉ ps := fun z => by obtain ⟨u, hu⟩ := k.so q z; rw [h] at hu; cases hu
  refine ⟨List.nodup_cons.mpr ⟨hq, k.nd⟩, fun a ha => ?_, fun a ha => ?_, by rw [hideL_new h]; exact k.sr⟩
  · rcases List.mem_cons.mp ha with z | z
    · rw [z]; exact ⟨o, upd_same⟩
    · obtain ⟨u, hu⟩ := k.so a z; exact ⟨u, by rw [upd_ne fun e => hq (by rw [← e]; exact z)]; exact hu⟩
  · rcases List.mem_cons.mp ha with z | z
    · rw [z]; exact k.sr.fresh (by rw [hideL_out hq]; exact h)
    · exact k.no a z
/-- a new frozen object beside the hidden ones -/
theorem LckL.laid {L : Cn} {H : Hp} {S : Store} {ps : List Addr} {q : Addr} {o : HO} (k : LckL w K L H S ps) (h : H q = none) : LckL w K L (upd H q o) S ps ∧ Ex L (hideL ps H) L (hideL ps (upd H q o)) := by
  have hq : q ∉ ps := fun z => by obtain ⟨u, hu⟩ := k.so q z; rw [h] at hu; cases hu
  have e : hideL ps (upd H q o) = upd (hideL ps H) q o := funext fun a => by
    by_cases z : a ∈ ps
    · rw [hideL_in z, upd_ne fun e => hq (by rw [← e]; exact z), hideL_in z]
    · rw [hideL_out z]
      by_cases e : a = q
      · subst e; rw [upd_same, upd_same]
      · rw [upd_ne e, upd_ne e, hideL_out z]
  have hn : hideL ps H q = none := by rw [hideL_out hq]; exact h
  refine ⟨⟨k.nd, fun a ha => ?_, k.no, by rw [e]; exact k.sr.new hn⟩, by rw [e]; exact Ex.new hn⟩
  obtain ⟨u, hu⟩ := k.so a ha
  exact ⟨u, by rw [upd_ne fun e => hq (by rw [← e]; exact ha)]; exact hu⟩
end
abbrev Acc := List D × List D
structure Gv (w : World) (K : PySem.W.Frag) (L : Cn) (Hh H : Hp) (ps : List Addr) (p : Addr) (xs : List Ent) (bs : List Addr) (a : Acc) : Prop where
  pin : p ∈ ps
  bin : ∀ b ∈ bs, b ∈ ps
  pnb : p ∉ bs
  nd : bs.Nodup
  dct : HDct w H p xs
  dk : DK w K L Hh xs a.1
  vb : xs.map (fun e => e.2.2) = bs.map V.ref
  len : a.2.length = bs.length
  ls : ∀ (j : Nat) (b : Addr), bs[j]? = some b → ∃ us ds, a.2[j]? = some (.lst ds) ∧ H b = some (.lst us) ∧ us.length ≤ sizeLine ∧ RAll w K L Hh us ds
section
variable {w : World} {K : PySem.W.Frag} {Wi : Wish}
theorem Gv.ex {L L' : Cn} {Hh Hh' H H' : Hp} {ps : List Addr} {p : Addr} {xs : List Ent} {bs : List Addr} {a : Acc} (g : Gv w K L Hh H ps p xs bs a) (e : Ex L Hh L' Hh') (k : ∀ q ∈ ps, H' q = H q) : Gv w K L' Hh' H' ps p xs bs a :=
  ⟨g.pin, g.bin, g.pnb, g.nd, g.dct.eq (k p g.pin), g.dk.ex e, g.vb, g.len, fun j b hj => by
    obtain ⟨us, ds, h1, h2, h3, h4⟩ := g.ls j b hj
    exact ⟨us, ds, h1, (k b (g.bin b (List.mem_of_getElem? hj))).trans h2, h3, h4.ex e⟩⟩
theorem ERep.at_ {L : Cn} {H : Hp} {s : L2.St} {r : Sl} {i : Nat} {v : V} {d : D} (h : ERep w K L H s r) (hv : s[i]? = some (some v)) (rv : Rp w K L H v d) : ERep w K L H s (r.set i (some d)) := by
  refine ⟨by simp [h.1], fun j e hj => ?_⟩
  by_cases z : i = j
  · subst z
    have hl : i < r.length := by rw [← h.1]; exact (List.getElem?_eq_some_iff.mp hv).1
    rw [List.getElem?_set_self hl] at hj
    cases hj
    exact ⟨v, hv, rv⟩
  · rw [List.getElem?_set_ne z] at hj
    exact h.2 j e hj
end
end Ws
namespace Ws
open PySem PySem.Spec PyProof.Rows L2 RZ
def kCh3 (g' : Store → D → D → Option D) (b c : D) (S : Store) : Out D := opt (g' S b c) S
def kCh2 (g g' : Store → D → D → Option D) (f3 : De) (r : Sl) (a b : D) (S : Store) : Out D := match g S a b with
  | some (.bl true) => (f3 r S).bind (kCh3 g' b)
  | some (.bl false) => .ok (.bl false) S
  | _ => .no
def kCh1 (g g' : Store → D → D → Option D) (f2 f3 : De) (r : Sl) (a : D) (S : Store) : Out D := (f2 r S).bind (kCh2 g g' f3 r a)
def dCh (g g' : Store → D → D → Option D) (f1 f2 f3 : De) : De := fun r S => (f1 r S).bind (kCh1 g g' f2 f3 r)
section
variable {X : Cx} {Wi : Wish} {a b c : Expr} {f1 f2 f3 : De} {pos : Pos} {w : World} {K : PySem.W.Frag} {H : Hp}
theorem tE_chain {g g' : Store → D → D → Option D} {r r' : R2} (o : OpD w K r g) (o' : OpD w K r' g') {s : L2.St} {Q : VK} (h : tE w K Wi (dCh g g' f1 f2 f3) s H Q) : tChain r r' (tE w K Wi f1) (tE w K Wi f2) (tE w K Wi f3) s H Q := by
  obtain ⟨L, S, rr, er, sr, h⟩ := h
  refine ⟨L, S, rr, er, sr, (After.bnd h).mono fun a S1 L1 H1 e1 s1 h1 x rx => ?_⟩
  refine ⟨L1, S1, rr, er.ex e1, s1, (After.bnd h1).mono fun b S2 L2 H2 e2 s2 h2 y ry => ?_⟩
  unfold kCh2 at h2
  cases hg : g S2 a b with
  | none => rw [hg] at h2; exact False.elim h2
  | some d =>
    rw [hg] at h2
    cases d with
    | bl k =>
      refine o L2 H2 S2 x y a b _ _ s2 (rx.ex e2) ry hg fun H' e' s' v rv => ?_
      cases rv
      refine ⟨k, rfl, ?_⟩
      cases k with
      | true =>
        rw [if_pos rfl]
        have h2 : After w K Wi L2 H2 ((f3 rr S2).bind (kCh3 g' b)) _ := h2
        refine ⟨L2, S2, rr, (er.ex e1).ex (e2.trans e'), s', (After.bnd (After.ex e' h2)).mono fun c S3 L3 H3 e3 s3 h3 z rz => ?_⟩
        obtain ⟨d, hd, h3⟩ := After.opt h3
        exact o' L3 H3 S3 y z b c d Q s3 ((ry.ex e').ex e3) rz hd fun H4 e4 s4 v rv => h3 L3 H4 e4 s4 v rv
      | false =>
        rw [if_neg (by decide)]
        have h2 : After w K Wi L2 H2 (Out.ok (D.bl false) S2) _ := h2
        exact h2 L2 H' e' s' (V.bl false) (Rp.of (R0.bl false))
    | _ => exact False.elim h2
theorem se_chain {op op' : CmpOp} {r r' : R2} {g g' : Store → D → D → Option D} (ho : OpR X (compareOp op) r) (o : OpD X.w X.K r g) (ho' : OpR X (compareOp op') r') (o' : OpD X.w X.K r' g') (ha : SE X Wi a f1) (hb : SE X Wi b f2) (hc : SE X Wi c f3)
    (hm : lastMarks [op, op'] [b, c] = false := by with_unfolding_all rfl) : SE X Wi (.Compare a [op, op'] [b, c] pos) (dCh g g' f1 f2 f3) :=
  pe_imp (pe_chain ho ho' ha hb hc hm) fun _ _ _ h => tE_chain o o' h
end
end Ws
namespace Ws
open PySem PySem.Spec PyProof.Rows L2
section
variable {prog : Program} {w : World} {A : Around} {elt : Expr} {gens : List Comprehension} {scope : Scope} {pos : Pos}
/-- nothing raised passes -/
abbrev noE : Value → Shared → Prop := fun _ _ => False
/-- what stands behind the tests ahead of clause n -/
def EmOk (prog : Program) (w : World) (A : Around) (elt : Expr) (gens : List Comprehension) (scope : Scope) (pos : Pos) (n : Nat) (acc : Value) (env : Env) (Q : Shared → Prop) (s : Shared) : Prop := match gens[n]? with
  | some c => wpAny (model prog w) A (eval c.iter env) (fun x s4 => wpAny (model prog w) A (pyIter x) (fun jt s5 =>
      codeAny (model prog w) A (.compStart (.ListComp elt gens scope pos) n jt acc env) (fun r s6 => match r with
        | .ok _ => Q s6
        | .error _ => False) s5) noE s4) noE s
  | none => wpAny (model prog w) A (eval elt env) (fun x s4 => wpAny (model prog w) A (call (.builtin "list.append") [acc, x]) (fun _ s5 => Q s5) noE s4) noE s
/-- one turn of clause n -/
def TurnOk (prog : Program) (w : World) (A : Around) (elt : Expr) (gens : List Comprehension) (scope : Scope) (pos : Pos) (n : Nat) (t : Expr) (ifs : List Expr) (it acc : Value) (env : Env) (stop go : Shared → Prop) (s : Shared) : Prop :=
  wpAny (model prog w) A (pyNext it) (fun r s1 => match r with
    | none => stop s1
    | some v => wpAny (model prog w) A (letOwnedTupleGo t it v) (fun _ s2 => wpAny (model prog w) A (assign t env v) (fun _ s3 =>
        wpAny (model prog w) A (forIn ifs true fun c r => if r = true then do let ok ← isTrue c env (eval c env); pure (ForInStep.yield ok) else pure (ForInStep.yield r)) (fun ok s4 =>
          if ok = true then EmOk prog w A elt gens scope pos (n + 1) acc env go s4 else go s4) noE s3) noE s2) noE s1) noE s
theorem turn_last {n : Nat} {t i : Expr} {ifs : List Expr} {it acc : Value} {env : Env} (h : gens[n]? = some ⟨t, i, ifs, 0⟩) (h' : gens[n + 1]? = none) :
    compTurn (.ListComp elt gens scope pos) n it acc env = (do
      standAt i.pos
      let r ← pyNext it
      match r with
      | none => pure (.done .next)
      | some v =>
        letOwnedTupleGo t it v
        assign t env v
        let ok ← forIn ifs true fun c r => if r = true then do let ok ← isTrue c env (eval c env); pure (ForInStep.yield ok) else pure (ForInStep.yield r)
        if ok then
          (do let _ ← call (.builtin "list.append") [acc, ← eval elt env])
          again (.compLoop (.ListComp elt gens scope pos) n it acc env)
        else again (.compLoop (.ListComp elt gens scope pos) n it acc env)) := by
  unfold compTurn
  simp only [h, h']
  rfl
theorem turn_more {n : Nat} {t i t' i' : Expr} {ifs ifs' : List Expr} {it acc : Value} {env : Env} (h : gens[n]? = some ⟨t, i, ifs, 0⟩) (h' : gens[n + 1]? = some ⟨t', i', ifs', 0⟩) :
    compTurn (.ListComp elt gens scope pos) n it acc env = (do
      standAt i.pos
      let r ← pyNext it
      match r with
      | none => pure (.done .next)
      | some v =>
        letOwnedTupleGo t it v
        assign t env v
        let ok ← forIn ifs true fun c r => if r = true then do let ok ← isTrue c env (eval c env); pure (ForInStep.yield ok) else pure (ForInStep.yield r)
        if ok then
          let y ← eval i' env
          standAt i'.pos
          let y ← foldedSetIterable i' env y
          let _ ← runOwn (.compStart (.ListComp elt gens scope pos) (n + 1) (← holding [y] (pyIter y)) acc env) env
          again (.compLoop (.ListComp elt gens scope pos) n it acc env)
        else again (.compLoop (.ListComp elt gens scope pos) n it acc env)) := by
  unfold compTurn
  simp only [h, h']
  rfl
/-- nothing is raised behind a bar -/
theorem un {α : Type} {t : Sem α} {Q : α → Shared → Prop} {E : Value → Shared → Prop} {s : Shared} {M : Model} (q : wpAny M A t Q noE s) : wpAny M A t Q E s := wpAny_mono q (fun _ _ z => z) fun _ _ z => False.elim z
theorem loopN {n : Nat} {t i : Expr} {ifs : List Expr} {it acc : Value} {env : Env} {R : Result → Shared → Prop} (h : gens[n]? = some ⟨t, i, ifs, 0⟩)
    (hz : ∀ c, gens[n + 1]? = some c → c.is_async = 0 ∧ ∀ x, foldedSetIterable c.iter env x = pure x) (I : Nat → Shared → Prop)
    (turn : ∀ k s, I k s → TurnOk prog w A elt gens scope pos n t ifs it acc env (fun s1 => R (.ok .next) s1) (fun s1 => ∃ m, m < k ∧ I m s1) s) {k : Nat} {s : Shared} (h0 : I k s) :
    codeAny (model prog w) A (.compLoop (.ListComp elt gens scope pos) n it acc env) R s := by
  refine codeAny_loop rfl I (fun k s hI => ?_) k h0
  have tn := turn k s hI
  unfold TurnOk at tn
  show wpAny _ A ((compTurn (.ListComp elt gens scope pos) n it acc env).onRaise fun x => do noteFrame x env; theTreesLotGoes x) _ _ s
  refine wpAny_noted ?_
  cases h' : gens[n + 1]? with
  | none =>
    rw [turn_last h h']
    refine wpAny_bind (wpAny_standAt (wpAny_bind (un (wpAny_mono tn (fun r s1 q => ?_) fun _ _ z => z))))
    cases r with
    | none => exact wpAny_pure q
    | some v =>
      refine wpAny_bind (un (wpAny_mono q (fun _ s2 q2 => wpAny_bind (un (wpAny_mono q2 (fun _ s3 q3 => wpAny_bind (un (wpAny_mono q3 (fun ok s4 q4 => ?_) fun _ _ z => z))) fun _ _ z => z))) fun _ _ z => z))
      cases ok with
      | false => exact wpAny_pure ⟨rfl, q4⟩
      | true =>
        have q4 : EmOk prog w A elt gens scope pos (n + 1) acc env _ s4 := q4
        unfold EmOk at q4
        simp only [h'] at q4
        exact wpAny_bind (wpAny_bind (un (wpAny_mono q4 (fun x s5 q5 => wpAny_bind (un (wpAny_mono q5 (fun _ s6 q6 => wpAny_pure (wpAny_pure ⟨rfl, q6⟩)) fun _ _ z => z))) fun _ _ z => z)))
  | some c =>
    obtain ⟨hc0, hcs⟩ := hz c h'
    obtain ⟨t', i', ifs', as'⟩ := c
    simp only at hc0 hcs
    subst hc0
    rw [turn_more h h']
    refine wpAny_bind (wpAny_standAt (wpAny_bind (un (wpAny_mono tn (fun r s1 q => ?_) fun _ _ z => z))))
    cases r with
    | none => exact wpAny_pure q
    | some v =>
      refine wpAny_bind (un (wpAny_mono q (fun _ s2 q2 => wpAny_bind (un (wpAny_mono q2 (fun _ s3 q3 => wpAny_bind (un (wpAny_mono q3 (fun ok s4 q4 => ?_) fun _ _ z => z))) fun _ _ z => z))) fun _ _ z => z))
      cases ok with
      | false => exact wpAny_pure ⟨rfl, q4⟩
      | true =>
        have q4 : EmOk prog w A elt gens scope pos (n + 1) acc env _ s4 := q4
        unfold EmOk at q4
        simp only [h'] at q4
        refine wpAny_bind (un (wpAny_mono q4 (fun x s5 q5 => ?_) fun _ _ z => z))
        refine wpAny_bind (wpAny_standAt (wpAny_bind (wpAny_of_eq (hcs x) (wpAny_bind (wpAny_holding (un (wpAny_mono q5 (fun jt s6 q6 => ?_) fun _ _ z => z)))))))
        refine wpAny_bind (wpAny_runOwn ?_)
        rw [Around.mark_none]
        refine codeAny_mono q6 fun r s7 hr => ?_
        cases r with
        | ok f =>
          first
            | exact wpAny_pure ⟨rfl, hr⟩
            | exact wpAny_bind (wpAny_pure (wpAny_pure ⟨rfl, hr⟩))
        | error e => exact hr.elim
/-- the start of a later clause -/
theorem startN {n : Nat} {t i : Expr} {ifs : List Expr} {it acc : Value} {env : Env} {R : Result → Shared → Prop} {s : Shared} (h : gens[n]? = some ⟨t, i, ifs, 0⟩)
    (h0 : codeAny (model prog w) A (.compLoop (.ListComp elt gens scope pos) n it acc env) R s)
    (h1 : wpAny (model prog w) A (pyIter it) (fun jt s1 => codeAny (model prog w) A (.compLoop (.ListComp elt gens scope pos) n jt acc env) R s1) noE s) :
    codeAny (model prog w) A (.compStart (.ListComp elt gens scope pos) n it acc env) R s := by
  refine codeAny_of_tree ?_
  show wpAny _ _ ((compStart (.ListComp elt gens scope pos) n it acc env).onRaise fun x => do noteFrame x env; standAt theWindowsPlace) _ _ s
  refine wpAny_notedAt ?_
  have hcl : (clausesOf (.ListComp elt gens scope pos))[n]? = some ⟨t, i, ifs, 0⟩ := h
  unfold compStart
  simp only [hcl]
  show wpAny _ _ (ask >>= _) _ _ s
  refine wpAny_bind (wpAny_askSetting (wpAny_ite ?_))
  split
  · first
      | exact wpAny_bind (wpAny_pure (wpAny_pure ⟨rfl, h0⟩))
      | exact wpAny_pure ⟨rfl, h0⟩
  · first
      | exact wpAny_bind (wpAny_rule (wpAny_bind (wpAny_standAt (wpAny_bind (un (wpAny_mono h1 (fun jt s1 q => wpAny_pure ⟨rfl, q⟩) fun _ _ x => x))))))
      | (refine wpAny_bind (wpAny_rule ?_); show wpAny _ _ (standAt i.pos >>= _) _ _ s; exact wpAny_bind (wpAny_standAt (wpAny_bind (un (wpAny_mono h1 (fun jt s1 q => wpAny_pure ⟨rfl, q⟩) fun _ _ x => x)))))
theorem EmOk.go {n : Nat} {acc : Value} {env : Env} {Q Q' : Shared → Prop} {s : Shared} (h : EmOk prog w A elt gens scope pos n acc env Q s) (f : ∀ s', Q s' → Q' s') : EmOk prog w A elt gens scope pos n acc env Q' s := by
  unfold EmOk at h ⊢
  split at h
  · refine thnF h fun x s1 h1 => thnF h1 fun jt s2 h2 => codeAny_mono h2 fun r s3 hr => ?_
    cases r with
    | ok _ => exact f _ hr
    | error _ => exact hr.elim
  · exact thnF h fun x s1 h1 => thnF h1 fun _ s2 h2 => f _ h2
end
abbrev TCl := Addr → L2.St → Hp → (Hp → Prop) → Prop
def LG (J : It) (g : TG) (tt : TT) (vs : List Nat) (T : TCl) (p : Addr) (σ : L2.St) (H1 : Hp) (Q : Hp → Prop) : Prop := ∃ W : Nat → Nat → Hp → Prop, (∃ m, W 0 m H1) ∧ ∀ i m H, W i m H → (J.stop i H ∧ Q H) ∨
  (J.go i H ∧ ∃ Nq : Hp → Prop, (∀ H', Nq H' → ∃ m', m' < m ∧ W (i + 1) m' H') ∧ ∀ x H', J.yld i H x H' → g x (L2.wipe σ vs) H' fun σ2 H2 => L2.wipe σ2 vs = L2.wipe σ vs ∧ tt σ2 H2 fun b H3 => if b = true then T p σ2 H3 Nq else Nq H3)
def tEl (te : TE) : TCl := fun p σ H Nq => te σ H fun y H' => ∃ us, H' p = some (.lst us) ∧ us.length < sizeLine ∧ Nq (upd H' p (.lst (us ++ [y])))
def tCl (wi : TI) (g : TG) (tt : TT) (vs : List Nat) (T : TCl) : TCl := fun p σ H Q => wi σ H fun J H1 => LG J g tt vs T p σ H1 Q
def tCn (wi : TI) (g : TG) (tt : TT) (vs : List Nat) (T : TCl) : TE := fun σ H Q => wi σ H fun J H1 => ∀ p, H1 p = none → LG J g tt vs T p σ (upd H1 p (.lst [])) fun H' => Q (.ref p) H'
/-- the clauses from n on; vs: the names that they set -/
structure PCl (Y : Cx) (elt : Expr) (gens : List Comprehension) (scope : Scope) (pos : Pos) (n : Nat) (vs : List Nat) (T : TCl) : Prop where
  run : ∀ (pins : List (Addr × Obj)) (s : Shared) (σ : L2.St) (H : Hp) (p : Addr) (Q : Hp → Prop), Inv Y pins σ H s → T p σ H Q → EmOk Y.prog Y.w Y.A elt gens scope pos n (.ref p) Y.env (fun s' =>
    ∃ σ' H', Inv Y pins σ' H' s' ∧ σ.length = σ'.length ∧ (∀ (j : Nat) v, σ[j]? = some (some v) → j ∉ vs → σ'[j]? = some (some v)) ∧ Q H') s
section
variable {Y : Cx} {elt : Expr} {gens : List Comprehension} {scope : Scope} {pos : Pos} {tg iter : Expr} {ifs : List Expr} {n : Nat} {wi : TI} {g : TG} {tt : TT} {vs vs1 : List Nat} {T : TCl} {te : TE}
/-- the loop of a clause -/
theorem loop_cl (hx : Y.xe = noE) (hc : Y.calm = true) (hn : gens[n]? = some ⟨tg, iter, ifs, 0⟩) (hz : ∀ c, gens[n + 1]? = some c → c.is_async = 0 ∧ ∀ x, foldedSetIterable c.iter Y.env x = pure x) (pg : PG Y tg g) (pt : PTs Y ifs tt) (pc : PCl Y elt gens scope pos (n + 1) vs1 T) (hv : ∀ j ∈ vs1, j ∈ vs)
    {it : Addr} {fp : List Addr} {tn : Nat → Heap → Prop} {J : It} (Tr : Turn Y.prog Y.w Y.K tg J fp it tn) {pins : List (Addr × Obj)} {σ : L2.St} {H1 : Hp} {s : Shared} {p : Addr} {Q : Hp → Prop} {R : Result → Shared → Prop}
    (stat : ∀ (σ' : L2.St) (H' : Hp) (s' : Shared), Inv Y pins σ' H' s' → (∀ b ∈ fp, H' b = none) → ∀ b ∈ fp, FpOk Y pins H' b) (I : Inv Y pins (L2.wipe σ vs) H1 s) (st : tn 0 s.heap) (nf : ∀ b ∈ fp, H1 b = none) (lg : LG J g tt vs T p σ H1 Q)
    (hR : ∀ H' s', Inv Y pins (L2.wipe σ vs) H' s' → Q H' → R (.ok .next) s') : codeAny (model Y.prog Y.w) Y.A (.compLoop (.ListComp elt gens scope pos) n (.ref it) (.ref p) Y.env) R s := by
  obtain ⟨W, ⟨m0, w0⟩, turn⟩ := lg
  refine loopN hn hz (fun k s' => ∃ i H', Inv Y pins (L2.wipe σ vs) H' s' ∧ tn i s'.heap ∧ (∀ b ∈ fp, H' b = none) ∧ W i k H') ?_ ⟨0, H1, I, st, nf, w0⟩
  rintro k s5 ⟨i, H5, I5, st5, n5, w5⟩
  unfold TurnOk
  have gx : ∀ {pins' σ0 H0 v u s0 Q0}, Inv Y pins' σ0 H0 s0 → RelV v u → g v σ0 H0 Q0 → wpAny (model Y.prog Y.w) Y.A (assign tg Y.env u) (fun _ s' => ∃ σ' H', Inv Y pins' σ' H' s' ∧ Q0 σ' H') noE s0 := fun {pins' σ0 H0 v u s0 Q0} a b c => by
    have := pg.run pins' s0 σ0 H0 v u Q0 a b c
    rw [hx] at this
    exact this
  have tx : ∀ {pins' σ0 H0 s0 Q0}, Inv Y pins' σ0 H0 s0 → tt σ0 H0 Q0 → wpAny (model Y.prog Y.w) Y.A (forIn ifs true fun c r => if r = true then do let ok ← isTrue c Y.env (eval c Y.env); pure (ForInStep.yield ok) else pure (ForInStep.yield r)) (TP Y pins' σ0 Q0) noE s0 := fun {pins' σ0 H0 s0 Q0} a c => by
    have := pt.run pins' s0 σ0 H0 Q0 a c
    rw [hx] at this
    exact this
  rcases turn i k H5 w5 with ⟨stop, qq⟩ | ⟨go, Nq, hNq, step⟩
  · refine thnF (Tr.done Y rfl rfl rfl hc i pins s5 _ H5 noE I5 (stat _ _ _ I5 n5) st5 stop) fun r s6 ⟨hr, I6⟩ => ?_
    subst hr
    exact hR H5 s6 I6 qq
  · refine thnF (Tr.item Y rfl rfl rfl hc i pins s5 _ H5 noE I5 (stat _ _ _ I5 n5) st5 go) fun r s6 ⟨u, hr, h6⟩ => ?_
    subst hr
    refine thnF h6 fun _ s7 ⟨x, H7, I7, r7, y7, st7, n7⟩ => ?_
    have I7p := I7.pinned (stat _ _ _ I7 n7) (Tr.obj _ _ st7)
    refine thnF (gx I7p r7 (step x H7 y7)) fun _ s8 ⟨σ8, H8, I8, hw8, q8⟩ => ?_
    refine thnF (tx I8 q8) fun b s9 ⟨H9, I9, q9⟩ => ?_
    have l8 : (L2.wipe σ vs).length = σ8.length := by rw [← hw8, wipe_length]
    have k8 : ∀ (j : Nat) v, (L2.wipe σ vs)[j]? = some (some v) → σ8[j]? = some (some v) ∧ j ∉ vs := fun j v e => by
      rw [← hw8] at e
      exact wipe_some e
    have fin : ∀ {σ9 : L2.St} {s' : Shared} {H' : Hp}, Inv Y (pins ++ pinsAt fp s7.heap) σ9 H' s' → (L2.wipe σ vs).length = σ9.length → (∀ (j : Nat) v, (L2.wipe σ vs)[j]? = some (some v) → σ9[j]? = some (some v)) → Nq H' →
        ∃ m, m < k ∧ ∃ i H', Inv Y pins (L2.wipe σ vs) H' s' ∧ tn i s'.heap ∧ (∀ b ∈ fp, H' b = none) ∧ W i m H' := fun {σ9 s' H'} I' hl hk nx => by
      obtain ⟨m', hm, w'⟩ := hNq H' nx
      have pin : ∀ b ∈ fp, ∀ o, s7.heap.get? b = some o → s'.heap.get? b = some o ∧ H' b = none := fun b hb o e =>
        have z := I'.pin (b, o) (List.mem_append_right _ (List.mem_append_right _ (mem_pinsAt hb e)))
        ⟨z.1, z.2.1⟩
      refine ⟨m', hm, i + 1, H', (I'.unpinned (pins := pins)).weak hl hk, Tr.keep _ _ _ st7 fun b hb o e => (pin b hb o e).1, fun b hb => ?_, w'⟩
      obtain ⟨o, e, _⟩ := Tr.obj _ _ st7 b hb
      exact (pin b hb o e).2
    cases b with
    | false => exact fin I9 l8 (fun j v e => (k8 j v e).1) q9
    | true =>
      show EmOk Y.prog Y.w Y.A elt gens scope pos (n + 1) (.ref p) Y.env _ s9
      refine (pc.run _ s9 σ8 H9 p Nq I9 q9).go fun s' ⟨σ', H', I', hl, hk, nx⟩ => ?_
      exact fin I' (l8.trans hl) (fun j v e => hk j v (k8 j v e).1 fun z => (k8 j v e).2 (hv j z)) nx
/-- a clause behind another -/
theorem pcl_cl (hx : Y.xe = noE) (hc : Y.calm = true) (hn : gens[n]? = some ⟨tg, iter, ifs, 0⟩) (hz : ∀ c, gens[n + 1]? = some c → c.is_async = 0 ∧ ∀ x, foldedSetIterable c.iter Y.env x = pure x) (pi : PI Y tg iter wi) (pg : PG Y tg g) (pt : PTs Y ifs tt) (pc : PCl Y elt gens scope pos (n + 1) vs1 T) (hv : ∀ j ∈ vs1, j ∈ vs) :
    PCl Y elt gens scope pos n vs (tCl wi g tt vs T) := by
  refine ⟨fun pins s σ H p Q I h => ?_⟩
  unfold EmOk
  rw [hn]
  simp only
  have px := pi.run pins s σ H _ I h
  rw [hx] at px
  refine thnF px fun xv s1 h1 => thnF h1 fun itv s2 ⟨it, fp, tn, J, H2, e, I2, Tr, st, f, lg⟩ => ?_
  subst e
  have lp := loop_cl hx hc hn hz pg pt pc hv Tr (R := fun r s' => match r with | .ok _ => ∃ σ' H', Inv Y pins σ' H' s' ∧ σ.length = σ'.length ∧ (∀ (j : Nat) v, σ[j]? = some (some v) → j ∉ vs → σ'[j]? = some (some v)) ∧ Q H' | .error _ => False)
    (fun σ' H' s' _ hn b hb => ⟨hn b hb, (f b hb).2⟩) (I2.weak (wipe_length _ _) fun j v e => (wipe_some e).1) st (fun b hb => (f b hb).1) lg
    fun H' s' I' q => ⟨_, H', I', (wipe_length _ _).symm, fun j v e hj => by rw [wipe_out hj]; exact e, q⟩
  exact startN hn lp (Tr.self Y.A 0 _ _ _ st lp)
/-- the element -/
theorem pcl_el (hx : Y.xe = noE) (hn : gens[n]? = none) (pe : PE Y elt te) : PCl Y elt gens scope pos n [] (tEl te) := by
  refine ⟨fun pins s σ H p Q I h => ?_⟩
  unfold EmOk
  rw [hn]
  simp only
  have px := pe.run pins s σ H _ I h
  rw [hx] at px
  refine thnF px fun z s1 ⟨yv, H1, I1, r1, us, hp, hl, nx⟩ => ?_
  exact app_ok (X := Y) I1 hp hl r1 fun s2 I2 => ⟨σ, _, I2, rfl, fun j v e _ => e, nx⟩
end
section
variable {X : Cx} {elt tg iter : Expr} {ifs : List Expr} {rest : List Comprehension} {scope : Scope} {own : List (Str × Nat)} {pos : Pos} {wi : TI} {g : TG} {tt : TT} {vs1 : List Nat} {T : TCl}
/-- in every block of this scope -/
abbrev BlkP (X : Cx) (scope : Scope) (F : Cx → Prop) : Prop := ∀ (s : Shared) (H : Hp) (C : Addr) (cl : List (Str × Addr)) (fp : List Addr), F (X.blk s H scope (compEnvC scope cl C X.env) fp)
/-- [.. for .. for .. for ..], as a value -/
theorem pe_cn (hc : X.calm = true) (hN : X.N.Nodup) (pi : PI X tg iter wi) (ok : BlkOk X.N X.env.scope scope own) (hz : ∀ env c, rest[0]? = some c → c.is_async = 0 ∧ ∀ x, foldedSetIterable c.iter env x = pure x)
    (pg : BlkP X scope fun Y => PG Y tg g) (pt : BlkP X scope fun Y => PTs Y ifs tt) (pc : BlkP X scope fun Y => PCl Y elt (⟨tg, iter, ifs, 0⟩ :: rest) scope pos 1 vs1 T) (hv : ∀ j ∈ vs1, j ∈ own.map (·.2))
    (hs : ∀ x, foldedSetIterable iter X.env x = pure x) : PE X (.ListComp elt (⟨tg, iter, ifs, 0⟩ :: rest) scope pos) (tCn wi g tt (own.map (·.2)) T) := by
  refine ⟨fun pins s σ H Q I hw => ?_⟩
  rw [eval_ListComp]
  have hfr : ∀ y ∈ scope.names, y.2 = .free → ∃ c, X.env.cells.lookup y.1 = some c := fun y hy e => (ok.free y hy e).elim (fun k => I.ok.has _ (.inl k)) fun k => I.ok.has _ (.inr k)
  refine wpAny_comprehension_free (use := none) rfl hs (closure_ok hfr) ok.kind (fun y hy e => by rw [ok.uniq y hy, e])
    (thn (pi.run pins s σ H _ I hw) fun xv s1 h1 => thn h1 fun itv s2 h2 => ?_)
  obtain ⟨it, fp, tn, J, H2, e, I2, Tr, st2, f2, q⟩ := h2
  subst e
  refine wpAny_newObj_type (newEnv_comp ?_) (by show 0 ≤ sizeLine; decide)
  generalize hp : s2.heap.objs.size = p
  have np : H2 p = none := I2.hok.fresh (Nat.le_of_eq hp)
  have lg := q p np
  -- the list that is filled
  generalize es3 : ({ s2 with heap := s2.heap.push { cls := .type "list", data := .seq ([] : List Value).toArray } } : Shared) = s3
  have e3 : s3.heap = s2.heap.push { cls := .type "list", data := .seq ([] : List Value).toArray } := by rw [← es3]
  have I3 : Inv X pins σ (upd H2 p (.lst [])) s3 := by
    rw [← es3]
    refine I2.laid (t' := s2.toks) (fun c u z => Heap.get?_push_of_some _ z) (Nat.le_of_eq hp) ⟨Nat.zero_le _, [], 0, .nil, ?_⟩
    rw [← hp]; exact Heap.get?_push_size _ rfl
  have f3 : ∀ b ∈ fp, FpOk X pins (upd H2 p (.lst [])) b ∧ b < s3.heap.objs.size := fun b hb => by
    obtain ⟨u, z, _⟩ := Tr.obj _ _ st2 b hb
    have lt := Heap.lt_size z
    refine ⟨⟨by rw [upd_ne (by rw [← hp]; exact Nat.ne_of_lt lt)]; exact (f2 b hb).1, (f2 b hb).2⟩, ?_⟩
    rw [e3, Heap.size_push]; exact Nat.lt_succ_of_lt lt
  have st3 : tn 0 s3.heap := Tr.keep _ _ _ st2 fun b _ u z => by rw [e3]; exact Heap.get?_push_of_some _ z
  have I4 := block_start I3 ok hN f3
  have p1 := pg s3 (upd H2 p (.lst [])) s3.heap.objs.size (cellsFrom (s3.heap.objs.size + 1) scope.names (cloFrom X.env.cells scope.names [])) fp
  have p2 := pt s3 (upd H2 p (.lst [])) s3.heap.objs.size (cellsFrom (s3.heap.objs.size + 1) scope.names (cloFrom X.env.cells scope.names [])) fp
  have p3 := pc s3 (upd H2 p (.lst [])) s3.heap.objs.size (cellsFrom (s3.heap.objs.size + 1) scope.names (cloFrom X.env.cells scope.names [])) fp
  have nf : ∀ b ∈ fp, (upd H2 p (.lst [])) b = none := fun b hb => (f3 b hb).1.1
  have st4 : tn 0 (pushCells (s3.heap.push { cls := .type "dict", data := .dict #[] }) scope.names) := Tr.keep _ _ _ st3 fun b _ u z => pushCells_keeps _ _ _ _ (Heap.get?_push_of_some _ z)
  have lp := loop_cl (Y := X.blk s3 (upd H2 p (.lst [])) scope (compEnvC scope (cellsFrom (s3.heap.objs.size + 1) scope.names (cloFrom X.env.cells scope.names [])) s3.heap.objs.size X.env) fp) (n := 0) rfl hc rfl (fun c h => hz _ c h) p1 p2 p3 hv Tr (pins := []) (σ := σ)
    (R := compPost (model X.prog X.w) X.A X.xe none (fun a s' => EP X pins σ Q a s') (.ref p) s3.heap.objs.size)
    (fun σ' H' s' I' hn b hb => ⟨hn b hb, (I'.ok.exf b hb).1, I'.ok.exfs b hb, .inl hb, fun x c z => (I'.ok.exf b hb).2 x c z, fun u hu => absurd (show u ∈ ([] : List (Addr × Obj)) ++ [] from hu) (by simp)⟩) I4 st4 nf lg fun H5 s5 I5 qq => ?_
  · exact codeAny_compStart_list lp (Tr.self X.A 0 _ _ _ st4 lp)
  · have I7 : Inv X pins σ H5 s5 := I3.call' (ch := fp) I5.os I5.base I5.hok I5.bare fun b hb => ⟨(f3 b hb).1.2.2.2.1, (f3 b hb).1.2.1, (f3 b hb).1.2.2.2.2.1, (f3 b hb).1.2.2.2.2.2⟩
    have nC : H5 s3.heap.objs.size = none := I5.free
    obtain ⟨m, hn, _⟩ := I5.loc
    refine ⟨m, hn, fun h'' sb => ?_⟩
    obtain ⟨f0, f1, f2, f3, f4, f5⟩ := I3.fpOk (Nat.le_refl _) nC
    exact ⟨.ref p, H5, I7.turned (t' := s5.toks) (fun c u hb z => (sb.2 c hb).trans z) f0 f1 f3 f4 f5, rfl, qq⟩
end
end Ws
namespace Ws
open PySem PySem.Spec PyProof.Rows L2 RZ
def kEl (x : D) (S : Store) : Out (List D) := if x.isRef = true then .no else .ok [x] S
def dEl (e : De) : Da := fun r S => (e r S).bindN kEl
def kGt (f : Da) (r1 : Sl) (k : Store → Out (List D)) (b : Bool) (S : Store) : Out (List D) := if b = true then (f r1 S).bindN (kTail k) else k S
def stepG (g : Dg) (t : Dt) (f : Da) (r : Sl) (d : D) (k : Store → Out (List D)) (S : Store) : Out (List D) := match g d r S with
  | none => .no
  | some r1 => (t r1 S).bindN (kGt f r1 k)
def compG (g : Dg) (t : Dt) (f : Da) (r : Sl) : List D → Store → Out (List D)
  | [], S => .ok [] S
  | d :: ds, S => stepG g t f r d (compG g t f r ds) S
def runG (g : Dg) (t : Dt) (f : Da) (r : Sl) (j : ItD) (S : Store) : Out (List D) := match j with
  | .fix xs => compG g t f r xs S
  | _ => .no
def kCl (vs : List Nat) (g : Dg) (t : Dt) (f : Da) (r : Sl) (j : ItD) (S : Store) : Out (List D) := runG g t f (wipeD r vs) j S
def kCn (vs : List Nat) (g : Dg) (t : Dt) (f : Da) (r : Sl) (j : ItD) (S : Store) : Out (List D) := (runG g t f (wipeD r vs) j S).bindN lim
def dCl (vs : List Nat) (it : Di) (g : Dg) (t : Dt) (f : Da) : Da := fun r S => (it r S).bindN (kCl vs g t f r)
def dCn (vs : List Nat) (it : Di) (g : Dg) (t : Dt) (f : Da) : Da := fun r S => (it r S).bind (kCn vs g t f r)
def KcOk (Kc : List D → Store → Out (List D)) : Prop := ∀ ds S, (∃ ys S', Kc ds S = .ok ys S' ∧ ds.length ≤ sizeLine) ∨ Kc ds S = .no
/-- clauses that are read by a denotation -/
structure RCl (w : World) (K : PySem.W.Frag) (f : Da) (T : TCl) : Prop where
  run : ∀ {Wi : Wish} {L : Cn} {S : Store} {r : Sl} {σ : L2.St} {H : Hp} {p : Addr} {us : List V} {ds : List D} {Kc : List D → Store → Out (List D)} {R : List D → Store → Cn → Hp → Prop} {Nq : Hp → Prop},
    ERep w K (L.lock p) H σ r → Lck w K L H S p (.lst us) → us.length ≤ sizeLine → RAll w K L (hide p H) us ds → KcOk Kc → After w K Wi L (hide p H) ((f r S).bindN fun xs S' => Kc (ds ++ xs) S') R →
    (∀ H' L' S' us' ds', Ex L (hide p H) L' (hide p H') → Lck w K L' H' S' p (.lst us') → us'.length ≤ sizeLine → RAll w K L' (hide p H') us' ds' → After w K Wi L' (hide p H') (Kc ds' S') R → Nq H') → T p σ H Nq
section
variable {w : World} {K : PySem.W.Frag}
theorem hide_upd2 {p : Addr} {H : Hp} {o : HO} : hide p (upd H p o) = hide p H := by
  funext a
  by_cases q : a = p
  · subst q; rw [hide_same, hide_same]
  · rw [hide_ne q, hide_ne q, upd_ne q]
theorem rcl_el {e : De} : RCl w K (dEl e) (tEl (tE w K noW e)) := by
  refine ⟨fun {Wi L S r σ H p us ds Kc R Nq} er k zu ra hK h fin => ?_⟩
  unfold dEl at h
  rw [bindN_assoc] at h
  refine ⟨L.lock p, S, r, er, k.locked, (k.run h).mono fun yd S6 L6' H6 e6' s6' h6 v rv => ?_⟩
  obtain ⟨L6, rfl, e6, k6, h6⟩ := h6
  by_cases nr : yd.isRef = true
  · unfold kEl at h6; rw [if_pos nr] at h6; exact False.elim h6
  · have h7 : After w K Wi L6 (hide p H6) (Kc (ds ++ [yd]) S6) R := by unfold kEl at h6; rw [if_neg nr] at h6; exact h6
    have ry : R0 w K (L6.lock p) H6 v yd := rv.r0 (by simpa using nr)
    have zu2 : us.length < sizeLine := by
      rcases hK (ds ++ [yd]) S6 with ⟨ys, S8, _, q⟩ | q2
      · rw [List.length_append] at q
        rw [ra.length]
        simp only [List.length_cons, List.length_nil] at q
        omega
      · rw [q2] at h7; exact False.elim h7
    refine ⟨us, k6.at_, zu2, ?_⟩
    refine fin _ L6 S6 (us ++ [v]) (ds ++ [yd]) ?_ ⟨upd_same, k6.nl, k6.nm, ?_⟩ ?_ ?_ ?_
    · rw [hide_upd2]; exact e6
    · rw [hide_upd2]; exact k6.sr
    · rw [List.length_append]; exact zu2
    · rw [hide_upd2]; exact (ra.ex e6).append (.cons (ry.ew Ew.hide) .nil)
    · rw [hide_upd2]; exact h7
theorem kc_more {c : Store → Out (List D)} {Kc : List D → Store → Out (List D)} (hK : KcOk Kc) : KcOk fun ds S => (c S).bindN fun ys S4 => Kc (ds ++ ys) S4 := by
  intro ds S
  show (∃ zs S', ((c S).bindN fun ys S4 => Kc (ds ++ ys) S4) = .ok zs S' ∧ ds.length ≤ sizeLine) ∨ ((c S).bindN fun ys S4 => Kc (ds ++ ys) S4) = .no
  cases q : c S with
  | ok ys S1 =>
    rcases hK (ds ++ ys) S1 with ⟨zs, S2, e, hl⟩ | e
    · exact .inl ⟨zs, S2, e, by rw [List.length_append] at hl; omega⟩
    · exact .inr e
  | ex _ S1 => exact .inr rfl
  | no => exact .inr rfl
theorem kc_lim : KcOk fun ds S => lim ds S := by
  intro ds S
  show (∃ zs S', lim ds S = .ok zs S' ∧ ds.length ≤ sizeLine) ∨ lim ds S = .no
  unfold lim
  by_cases hl : lineOk ds.length = true
  · exact .inl ⟨ds, S, if_pos hl, line_of hl⟩
  · exact .inr (if_neg hl)
/-- the turns of one clause -/
theorem lg_run {Wi : Wish} {f : Da} {T : TCl} (hf : RCl w K f T) {g : Dg} {t : Dt} {is vs : List Nat} (hs : ∀ i ∈ is, i ∈ vs) {xs : List D} {J : It} {L1 : Cn} {H1 : Hp} {S1 : Store} {p : Addr} {us0 : List V} {ds0 : List D} {r : Sl} {σ : L2.St} {Kc : List D → Store → Out (List D)} {R : List D → Store → Cn → Hp → Prop} {Nq : Hp → Prop}
    {L0 : Cn} {H0 : Hp} (ok : ItOk w K L0 H0 (.fix xs) J) (e0 : Ew K L0 H0 L1 (hide p H1)) (er : ERep w K L1 (hide p H1) (L2.wipe σ vs) r) (k1 : Lck w K L1 H1 S1 p (.lst us0)) (z0 : us0.length ≤ sizeLine) (ra0 : RAll w K L1 (hide p H1) us0 ds0) (hK : KcOk Kc)
    (h0 : After w K Wi L1 (hide p H1) ((compG g t f r xs S1).bindN fun ys S' => Kc (ds0 ++ ys) S') R)
    (fin : ∀ H' L' S' us' ds', Ex L1 (hide p H1) L' (hide p H') → Lck w K L' H' S' p (.lst us') → us'.length ≤ sizeLine → RAll w K L' (hide p H') us' ds' → After w K Wi L' (hide p H') (Kc ds' S') R → Nq H') :
    LG J (tGd w K is g) (tT w K noW t) vs T p σ H1 Nq := by
  refine ⟨fun i m H => m = xs.length - i ∧ ∃ L S us ds, Ex L1 (hide p H1) L (hide p H) ∧ Lck w K L H S p (.lst us) ∧ us.length ≤ sizeLine ∧ RAll w K L (hide p H) us ds ∧ After w K Wi L (hide p H) ((compG g t f r (xs.drop i) S).bindN fun ys S' => Kc (ds ++ ys) S') R,
    ⟨_, rfl, L1, S1, us0, ds0, Ex.refl, k1, z0, ra0, by rw [List.drop_zero]; exact h0⟩, fun i m H hW => ?_⟩
  obtain ⟨rfl, L, S, us, ds, ex, k, zb, ra, h⟩ := hW
  obtain ⟨zx, go, stop⟩ := ok i (L.lock p) H S xs ((e0.trans ex.ew).trans k.ew) k.locked rfl
  cases hx : xs[i]? with
  | none =>
    rw [List.drop_eq_nil_of_le (List.getElem?_eq_none_iff.mp hx)] at h
    have h : After w K Wi L (hide p H) (Kc (ds ++ []) S) R := h
    rw [List.append_nil] at h
    exact .inl ⟨stop hx, fin H L S us ds ex k zb ra h⟩
  | some d =>
    obtain ⟨hi, hv⟩ := List.getElem?_eq_some_iff.mp hx
    rw [List.drop_eq_getElem_cons hi, hv] at h
    obtain ⟨gg, y1⟩ := go d hx
    refine .inr ⟨gg, fun H' => ∃ L S us ds, Ex L1 (hide p H1) L (hide p H') ∧ Lck w K L H' S p (.lst us) ∧ us.length ≤ sizeLine ∧ RAll w K L (hide p H') us ds ∧ After w K Wi L (hide p H') ((compG g t f r (xs.drop (i + 1)) S).bindN fun ys S' => Kc (ds ++ ys) S') R,
      fun H' hN => ⟨xs.length - (i + 1), by omega, rfl, hN⟩, fun x H' y => ?_⟩
    obtain ⟨e3, s3, rx⟩ := y1 x H' y
    obtain ⟨L3, eL, e4, k3⟩ := k.go e3 s3
    have eL3 : L = L3 := lock_inj eL
    subst eL3
    have h := After.ex e4 h
    have er3 : ERep w K (L.lock p) H' (L2.wipe σ vs) r := ((er.ew ex.ew).ew e4.ew).ew k3.ew
    have h : After w K Wi L (hide p H') ((stepG g t f r d (compG g t f r (xs.drop (i + 1))) S).bindN fun ys S' => Kc (ds ++ ys) S') R := h
    unfold stepG at h
    cases hg : g d r S with
    | none => rw [hg] at h; exact False.elim h
    | some r1 =>
      rw [hg] at h
      simp only [bindN_assoc] at h
      refine ⟨L.lock p, S, d, r, er3, k3.locked, Rp.of rx, r1, hg, fun σ2 er4 sm => ⟨wipe_same hs sm, ?_⟩⟩
      refine ⟨L.lock p, S, r1, er4, k3.locked, (k3.run h).mono fun b S5 L5' H5 e5' s5' h5 => ?_⟩
      obtain ⟨L5, rfl, e5, k5, h5⟩ := h5
      cases b with
      | false => exact ⟨L5, S5, us, ds, (ex.trans e4).trans e5, k5, zb, (ra.ex e4).ex e5, h5⟩
      | true =>
        have h5 : After w K Wi L5 (hide p H5) (((f r1 S5).bindN (kTail (compG g t f r (xs.drop (i + 1))))).bindN fun ys S' => Kc (ds ++ ys) S') R := h5
        rw [bindN_assoc] at h5
        have e9 : (fun (zs : List D) (S' : Store) => (fun ds S => (compG g t f r (xs.drop (i + 1)) S).bindN fun ys S4 => Kc (ds ++ ys) S4) (ds ++ zs) S') = fun (a : List D) (S : Store) => (kTail (compG g t f r (xs.drop (i + 1))) a S).bindN fun ys S' => Kc (ds ++ ys) S' := by
          funext zs S'
          show ((compG g t f r (xs.drop (i + 1)) S').bindN fun ys S4 => Kc ((ds ++ zs) ++ ys) S4) = _
          unfold kTail
          rw [bindN_assoc]
          congr 1
          funext ys S4
          show _ = Kc (ds ++ (zs ++ ys)) S4
          rw [List.append_assoc]
        rw [← e9] at h5
        refine hf.run (er4.ex e5') k5 zb ((ra.ex e4).ex e5) (kc_more hK) h5 fun H6 L6 S6 us6 ds6 ex6 k6 z6 ra6 h6 => ?_
        exact ⟨L6, S6, us6, ds6, ((ex.trans e4).trans e5).trans ex6, k6, z6, ra6, h6⟩
theorem rcl_cl {f : Da} {T : TCl} (hf : RCl w K f T) {it : Di} {g : Dg} {t : Dt} {is vs : List Nat} (hs : ∀ i ∈ is, i ∈ vs) : RCl w K (dCl vs it g t f) (tCl (tIt w K noW it) (tGd w K is g) (tT w K noW t) vs T) := by
  refine ⟨fun {Wi L S r σ H p us ds Kc R Nq} er k zu ra hK h fin => ?_⟩
  unfold dCl at h
  rw [bindN_assoc] at h
  refine ⟨L.lock p, S, r, er, k.locked, (k.run h).mono fun j S6 L6' H6 e6' s6' h6 J ok => ?_⟩
  obtain ⟨L6, rfl, e6, k6, h6⟩ := h6
  cases j with
  | live n => exact False.elim h6
  | fix xs =>
    have er6 : ERep w K L6 (hide p H6) (L2.wipe σ vs) (wipeD r vs) := ((er.ex e6').ew Ew.hide).wipe vs
    exact lg_run hf hs (L0 := L6.lock p) (H0 := H6) ok Ew.hide er6 k6 zu (ra.ex e6) hK h6 fun H' L' S' us' ds' ex' k' z' ra' h' => fin H' L' S' us' ds' (e6.trans ex') k' z' ra' h'
theorem cn_read {Wi : Wish} {f : Da} {T : TCl} (hf : RCl w K f T) {it : Di} {g : Dg} {t : Dt} {is vs : List Nat} {σ : L2.St} {H : Hp} {Q : VK} (hs : ∀ i ∈ is, i ∈ vs) (h : tNew w K Wi (dCn vs it g t f) σ H Q) :
    tCn (tIt w K Wi it) (tGd w K is g) (tT w K noW t) vs T σ H Q := by
  obtain ⟨L, S, r, er, sr, h⟩ := h
  refine ⟨L, S, r, er, sr, (After.bnd h).mono fun j S1 L1 H1 e1 s1 h1 J ok p np => ?_⟩
  have hh : hide p (upd H1 p (.lst [])) = H1 := upd_hide np
  have fr := s1.fresh np
  have k : Lck w K L1 (upd H1 p (.lst [])) S1 p (.lst []) := ⟨upd_same, fr.1, fr.2, by rw [hh]; exact s1⟩
  cases j with
  | live n => exact False.elim h1
  | fix xs =>
    refine lg_run (Wi := Wi) hf hs (L0 := L1) (H0 := H1) (ds0 := []) (Kc := fun ds S => lim ds S) (R := fun ds _ L' H' => ∀ vs, RAll w K L' H' vs ds → vs.length ≤ sizeLine → ∀ p, H' p = none → Q (.ref p) (upd H' p (.lst vs))) ok (by rw [hh]; exact ⟨fun _ _ n h => ⟨n, h⟩, fun _ _ h => h⟩) (by rw [hh]; exact (er.ex e1).wipe vs) k (Nat.zero_le _) .nil kc_lim (by rw [hh]; exact h1) fun H' L' S' us' ds' ex' k' z' ra' h' => ?_
    unfold lim at h'
    split at h'
    · have q := h' L' (hide p H') Ex.refl k'.sr us' ra' z' p hide_same
      rw [hide_upd k'.at_] at q
      exact q
    · exact False.elim h'
end
section
variable {X : Cx} {Wi : Wish} {elt tg iter tg1 iter1 tg2 iter2 : Expr} {ifs ifs1 ifs2 : List Expr} {scope : Scope} {own : List (Str × Nat)} {pos : Pos} {it it1 it2 : Di} {g g1 g2 : Dg} {is is1 is2 vs1 vs2 : List Nat} {t t1 t2 : Dt} {e : De}
theorem sn_lc3 (hc : X.calm = true) (hN : X.N.Nodup) (hi : SI X Wi tg iter it) (ok : BlkOk X.N X.env.scope scope own) (h0 : ∀ i ∈ is, i ∈ own.map (·.2)) (h1 : ∀ i ∈ vs1, i ∈ own.map (·.2)) (h2 : ∀ i ∈ is1, i ∈ vs1) (h3 : ∀ i ∈ vs2, i ∈ vs1) (h4 : ∀ i ∈ is2, i ∈ vs2)
    (hg : Blk X scope fun Y => SG Y tg is g) (ht : Blk X scope fun Y => STs Y noW ifs t) (hi1 : Blk X scope fun Y => SI Y noW tg1 iter1 it1) (hg1 : Blk X scope fun Y => SG Y tg1 is1 g1) (ht1 : Blk X scope fun Y => STs Y noW ifs1 t1)
    (hi2 : Blk X scope fun Y => SI Y noW tg2 iter2 it2) (hg2 : Blk X scope fun Y => SG Y tg2 is2 g2) (ht2 : Blk X scope fun Y => STs Y noW ifs2 t2) (he : Blk X scope fun Y => SE Y noW elt e)
    (hs : ∀ x, foldedSetIterable iter X.env x = pure x) (hs1 : ∀ env x, foldedSetIterable iter1 env x = pure x) (hs2 : ∀ env x, foldedSetIterable iter2 env x = pure x) :
    SN X Wi (.ListComp elt [⟨tg, iter, ifs, 0⟩, ⟨tg1, iter1, ifs1, 0⟩, ⟨tg2, iter2, ifs2, 0⟩] scope pos) (dCn (own.map (·.2)) it g t (dCl vs1 it1 g1 t1 (dCl vs2 it2 g2 t2 (dEl e)))) :=
  pe_imp (pe_cn (vs1 := vs1) (T := tCl (tIt X.w X.K noW it1) (tGd X.w X.K is1 g1) (tT X.w X.K noW t1) vs1 (tCl (tIt X.w X.K noW it2) (tGd X.w X.K is2 g2) (tT X.w X.K noW t2) vs2 (tEl (tE X.w X.K noW e)))) hc hN hi ok (fun env c h => by cases h; exact ⟨rfl, hs1 env⟩) hg ht
    (fun s H C cl fp => pcl_cl (n := 1) rfl hc rfl (fun c h => by cases h; exact ⟨rfl, hs2 _⟩) (hi1 s H C cl fp) (hg1 s H C cl fp) (ht1 s H C cl fp) (pcl_cl (n := 2) rfl hc rfl (fun c h => nomatch h) (hi2 s H C cl fp) (hg2 s H C cl fp) (ht2 s H C cl fp) (pcl_el (n := 3) rfl rfl (he s H C cl fp)) fun _ h => nomatch h) h3) h1 hs)
    fun σ H Q h => cn_read (rcl_cl (rcl_cl rcl_el h4) h2) h0 h
end
section
variable {P : Program} {w : World} {K : PySem.W.Frag} {mg : Str → Option Value} {base : Heap} {sc : Scope} {N vs ls gs : List Str} {k : Nat} {X : Cx} {x : Str}
theorem clc3 (c : Ct P w K mg base sc N vs ls gs k X) (own : List (Str × Nat)) (vs1 vs2 : List Nat) (vs' ls' gs' : List Str) {elt tg iter tg1 iter1 tg2 iter2 : Expr} {ifs ifs1 ifs2 : List Expr} {scope : Scope} {pos : Pos} {Wi : Wish} {it it1 it2 : Di} {g g1 g2 : Dg} {is is1 is2 : List Nat} {t t1 t2 : Dt} {e : De}
    (hi : SI X Wi tg iter it) (hb : InBlk P w K mg base (relS scope sc) N vs' ls' gs' k fun Y => SG Y tg is g ∧ STs Y noW ifs t ∧ SI Y noW tg1 iter1 it1 ∧ SG Y tg1 is1 g1 ∧ STs Y noW ifs1 t1 ∧ SI Y noW tg2 iter2 it2 ∧ SG Y tg2 is2 g2 ∧ STs Y noW ifs2 t2 ∧ SE Y noW elt e)
    (ok : blkC N sc scope own = true := by decide +kernel) (h0 : ∀ i ∈ is, i ∈ own.map (·.2) := by decide) (h1 : ∀ i ∈ vs1, i ∈ own.map (·.2) := by decide) (h2 : ∀ i ∈ is1, i ∈ vs1 := by decide) (h3 : ∀ i ∈ vs2, i ∈ vs1 := by decide) (h4 : ∀ i ∈ is2, i ∈ vs2 := by decide)
    (tv : (vs'.all (visB (relS scope sc))) = true := by decide +kernel) (tl : (ls'.all (locB (some scope) (relS scope sc))) = true := by decide +kernel) (tg' : (gs'.all (gloB (relS scope sc))) = true := by decide +kernel)
    (hs : ∀ x, foldedSetIterable iter X.env x = pure x := by intro _; rfl) (hs1 : ∀ env x, foldedSetIterable iter1 env x = pure x := by intro _ _; rfl) (hs2 : ∀ env x, foldedSetIterable iter2 env x = pure x := by intro _ _; rfl) :
    SN X Wi (.ListComp elt [⟨tg, iter, ifs, 0⟩, ⟨tg1, iter1, ifs1, 0⟩, ⟨tg2, iter2, ifs2, 0⟩] scope pos) (dCn (own.map (·.2)) it g t (dCl vs1 it1 g1 t1 (dCl vs2 it2 g2 t2 (dEl e)))) :=
  have B := fun s H C cl fp => hb _ (ct_blk c tv tl tg' s H C cl fp)
  sn_lc3 c.calm (by rw [c.hN]; exact c.nd) hi (by rw [c.hN, c.hsc]; exact blkOk_by ok) h0 h1 h2 h3 h4 (fun s H C cl fp => (B s H C cl fp).1) (fun s H C cl fp => (B s H C cl fp).2.1) (fun s H C cl fp => (B s H C cl fp).2.2.1) (fun s H C cl fp => (B s H C cl fp).2.2.2.1) (fun s H C cl fp => (B s H C cl fp).2.2.2.2.1)
    (fun s H C cl fp => (B s H C cl fp).2.2.2.2.2.1) (fun s H C cl fp => (B s H C cl fp).2.2.2.2.2.2.1) (fun s H C cl fp => (B s H C cl fp).2.2.2.2.2.2.2.1) (fun s H C cl fp => (B s H C cl fp).2.2.2.2.2.2.2.2) hs hs1 hs2
end
end Ws
namespace Ws
open PySem PySem.Spec PyProof.Rows L2 RZ
def minK (next : Option (D × D) → Store → Out (Option D)) (y : D) (b : Option (D × D)) (k : D) (S : Store) : Out (Option D) := if k.isRef = true then .no else match b with
  | none => next (some (y, k)) S
  | some (x, kx) => match gLtA S k kx with
    | some (.bl true) => next (some (y, k)) S
    | some (.bl false) => next (some (x, kx)) S
    | _ => .no
def minF (F : Df) : List D → Option (D × D) → Store → Out (Option D)
  | [], b, S => .ok (b.map (·.1)) S
  | y :: r, b, S => (F [y] S).bind (minK (minF F r) y b)
def idF : Df := fun ds S => match ds with
  | [d] => .ok d S
  | _ => .no
section
variable {X : Cx} {pins : List (Addr × Obj)} {σ : L2.St}
/-- the best one so far lies in the list of two -/
def BR (X : Cx) (L : Cn) (H : Hp) (b : Option (D × D)) (arr : List Value) : Prop := match b with
  | none => arr = []
  | some (d, k) => ∃ u uk v vk, arr = [u, uk] ∧ RelV v u ∧ RelV vk uk ∧ R0 X.w X.K L H v d ∧ R0 X.w X.K L H vk k
theorem BR.ex {L L' : Cn} {H H' : Hp} {b : Option (D × D)} {arr : List Value} (e : Ex L H L' H') (h : BR X L H b arr) : BR X L' H' b arr := by
  cases b with
  | none => exact h
  | some p => obtain ⟨u, uk, v, vk, h1, h2, h3, h4, h5⟩ := h; exact ⟨u, uk, v, vk, h1, h2, h3, h4.ex e, h5.ex e⟩
/-- how a key is asked -/
def KeyOk (X : Cx) (F : Df) (q : Value) : Prop := ∀ (pins : List (Addr × Obj)) (σ : L2.St) (s : Shared) (H : Hp) (L : Cn) (S : Store) (y : D) (v : V) (u : Value) (bl : List Addr) (R : D → Store → Cn → Hp → Prop), L2.Inv X pins σ H s → SRep X.w X.K L H S → R0 X.w X.K L H v y → RelV v u →
  (∀ b ∈ bl, FpOk X pins H b ∧ ∃ o, s.heap.get? b = some o ∧ ∀ v, o.data ≠ .cell v) → After X.w X.K noW L H (F [y] S) R →
  wpAny (model X.prog X.w) X.A.in1 (match q with | .none => pure u | _ => holding [u] (call q [u])) (fun uk s2 => ∃ H2 M2 S2 k vk, L2.Inv X pins σ H2 s2 ∧ Ex L H M2 H2 ∧ SRep X.w X.K M2 H2 S2 ∧ RelV vk uk ∧ Rp X.w X.K M2 H2 vk k ∧ R k S2 M2 H2 ∧
    ∀ b ∈ bl, FpOk X pins H2 b ∧ ∀ o, s.heap.get? b = some o → s2.heap.get? b = some o) noE s
theorem keyOk_id : KeyOk X idF .none := fun pins σ s H L S y v u bl R I sr r0 rv hb h =>
  wpAny_pure ⟨H, L, S, y, v, I, Ex.refl, sr, rv, Rp.of r0, h L H Ex.refl sr, fun b m => ⟨(hb b m).1, fun o e => e⟩⟩
theorem gLt_data {S : Store} {a b : D} {t : Bool} (h : gLtA S a b = some (.bl t)) : a.shp 51 = true ∧ b.shp 51 = true ∧ PySem.W.alike a.toPy b.toPy = true ∧ a.toPy ≠ .none ∧ t = PySem.W.dataLt a.toPy b.toPy := by
  unfold gLtA at h
  split at h
  · cases h
    refine ⟨rfl, rfl, ?_, by simp [D.toPy], ?_⟩
    · simp [D.toPy, PySem.W.alike]
    · exact (PySem.W.dataLt_int _ _).symm
  · split at h
    · rename_i xs ys c
      cases h
      simp only [Bool.and_eq_true] at c
      have s1 : (D.tup xs).shp 51 = true := by simpa [D.shp] using c.1.1
      have s2 : (D.tup ys).shp 51 = true := by simpa [D.shp] using c.1.2
      exact ⟨s1, s2, c.2, by simp [D.toPy], by rw [ltD_py _ _ 51 51 s1 s2 c.2]; rfl⟩
    · cases h
  · cases h
/-- the turns of min -/
theorem min_loop {F : Df} {q : Value} (hq : KeyOk X F q) (hc : X.calm = true) (hu : X.A.in1.units + 64 < cLine) {it B a : Addr} (hB : B ≠ it) {xs : List V} {ys : List D} {kw : List (Str × Value)} {Rr : Result → Shared → Prop} {L0 : Cn} {H0 : Hp} (hl : LstAt L0 H0 a xs)
    (rx : RAll X.w X.K L0 H0 xs ys) : ∀ (n i : Nat) (s : Shared) (L : Cn) (H : Hp) (S : Store) (b : Option (D × D)) (arr : List Value) (c : Nat) (R : Option D → Store → Cn → Hp → Prop), xs.length - i = n → i ≤ xs.length → L2.Inv X pins σ H s → Ex L0 H0 L H → SRep X.w X.K L H S → FpOk X pins H it → FpOk X pins H B →
      s.heap.IsListIter it a i → s.heap.get? B = some (seqObj "list" (List.toArray arr) c) → BR X L H b arr → After X.w X.K noW L H (minF F (ys.drop i) b S) R →
      (∀ d S' L' H' s' v u, Ex L H L' H' → SRep X.w X.K L' H' S' → R (some d) S' L' H' → L2.Inv X pins σ H' s' → R0 X.w X.K L' H' v d → RelV v u → Rr (.ok (.ret u)) s') →
      (∀ S' L' H' s', Ex L H L' H' → SRep X.w X.K L' H' S' → R none S' L' H' → L2.Inv X pins σ H' s' → kw = [(Str.ofString "default", .none)] ∧ Rr (.ok (.ret .none)) s') →
      codeAny (model X.prog X.w) X.A (.builtin "min.loop" ⟨[.ref it, q, .ref B], kw⟩) Rr s := by
  have hname : (toString "min" ++ toString ".loop" : String) = "min.loop" := by decide
  intro n
  induction n with
  | zero =>
    intro i s L H S b arr c R hn hi I x0 sr fi fB hit hS br h hR hN
    have hin : i = xs.length := by omega
    have hd : ys.drop i = [] := List.drop_of_length_le (by rw [← rx.length]; omega)
    rw [hd] at h
    have h : R (b.map (·.1)) S L H := h L H Ex.refl sr
    obtain ⟨its, rv, p, hz⟩ := I.list (SqL.of (hl.ex x0).1)
    have hlen := rv.length
    refine codeAny_builtin PySem.F.entry_min_loop ?_
    rw [Around.under_plainId PySem.F.plain_min_loop _]
    show wpAny _ X.A.in1 (seqItems? (.ref B) >>= _) _ _ s
    refine wpAny_bind (wpAny_seqItems hS rfl ?_)
    show wpAny _ X.A.in1 (tryCatch (pyNext (.ref it)) _ >>= _) _ _ s
    refine wpAny_bind (wpAny_tryCatch (wpAny_pyNext_list_end (A := X.A.in1) (I.ok.hd hc) hit p.isList (by simp; omega) fun h' eb => ?_))
    have I1 : L2.Inv X pins σ H { s with heap := h' } := inv_poke (t' := s.toks) (ch := [it]) I (fun b m => by rw [List.mem_singleton.mp m]; exact fi) fun b o m e => eb b o (fun z => m (by rw [z]; exact List.mem_singleton.mpr rfl)) e
    cases b with
    | none =>
      have br : arr = [] := br
      subst br
      obtain ⟨hk, hr⟩ := hN S L H _ Ex.refl sr h I1
      subst hk
      show wpAny _ X.A.in1 (rule _ >>= _) _ _ _
      exact wpAny_bind (wpAny_rule (wpAny_pure hr))
    | some e =>
      obtain ⟨d, k⟩ := e
      obtain ⟨u, uk, v, vk, rfl, r1, r2, r3, r4⟩ := br
      have hS' : h'.get? B = some (seqObj "list" (List.toArray [u, uk]) c) := eb B _ hB hS
      have sb := Heap.SameBut.update h' B (Obj.mapSeq fun _ => (#[] : Array Value))
      show wpAny _ X.A.in1 (updateSeq B (fun _ => #[]) >>= _) _ _ _
      refine wpAny_bind ?_
      refine wpAny_updateSeq hS' rfl (wpAny_bind (wpAny_letGo (wpAny_pure ?_)))
      refine hR d S L H _ v u Ex.refl sr h ?_ r3 r1
      exact inv_poke (s := { s with heap := h' }) (t' := s.toks) (ch := [B]) I1 (fun b m => by rw [List.mem_singleton.mp m]; exact fB) fun b o m e => (sb.2 b (fun z => m (by rw [z]; exact List.mem_singleton.mpr rfl))).trans e
  | succ n ih =>
    intro i s L H S b arr c R hn hi I x0 sr fi fB hit hS br h hR hN
    have hlt : i < xs.length := by omega
    have hly : i < ys.length := by rw [← rx.length]; exact hlt
    obtain ⟨its, rv, p, hz⟩ := I.list (SqL.of (hl.ex x0).1)
    have hxi : xs[i]? = some xs[i] := List.getElem?_eq_getElem hlt
    obtain ⟨u, hu1, ru⟩ := rv.get hxi
    obtain ⟨y, hy, ry⟩ := rall_at rx hxi
    have hdr : ys.drop i = y :: ys.drop (i + 1) := by
      rw [List.drop_eq_getElem_cons hly]
      rw [List.getElem?_eq_getElem hly] at hy
      rw [Option.some.inj hy]
    rw [hdr] at h
    have h := After.bnd (show After X.w X.K noW L H ((F [y] S).bind (minK (minF F (ys.drop (i + 1))) y b)) R from h)
    refine codeAny_builtin PySem.F.entry_min_loop ?_
    rw [Around.under_plainId PySem.F.plain_min_loop _]
    show wpAny _ X.A.in1 (seqItems? (.ref B) >>= _) _ _ s
    refine wpAny_bind (wpAny_seqItems hS rfl ?_)
    show wpAny _ X.A.in1 (tryCatch (pyNext (.ref it)) _ >>= _) _ _ s
    refine wpAny_bind (wpAny_tryCatch (wpAny_pyNext_list_item (A := X.A.in1) hit p.isList (x := u) (by simpa using hu1) fun h' hit' sb1 => ?_))
    have I1 : L2.Inv X pins σ H { s with heap := h' } := inv_poke (t' := s.toks) (ch := [it]) I (fun b m => by rw [List.mem_singleton.mp m]; exact fi) fun b o m e => (sb1.2 b (fun z => m (by rw [z]; exact List.mem_singleton.mpr rfl))).trans e
    have hS1 : h'.get? B = some (seqObj "list" (List.toArray arr) c) := (sb1.2 B hB).trans hS
    obtain ⟨oI, hoI, hoc, hod⟩ := id hit'
    have KK := hq pins σ { s with heap := h' } H L S y _ u [it, B] _ I1 sr (ry.ex x0) ru (fun b m => by
      rcases List.mem_cons.mp m with rfl | m
      · exact ⟨fi, oI, hoI, fun v z => by rw [hod] at z; cases z⟩
      · rw [List.mem_singleton.mp m]; exact ⟨fB, _, hS1, fun v z => by cases z⟩) h
    have key : ∀ {Q : PySem.Fin → Shared → Prop} {E : Value → Shared → Prop} {hnd : Value → Sem Value} {k0 : Value → Sem PySem.Fin} {s0 : Shared}, wpAny (model X.prog X.w) X.A.in1 (match q with | .none => pure u | _ => holding [u] (call q [u])) (fun uk s2 => wpAny (model X.prog X.w) X.A.in1 (k0 uk) Q E s2) noE s0 →
        wpAny (model X.prog X.w) X.A.in1 (match q with | .none => (pure u >>= fun val => k0 val) | _ => (tryCatch (holding [u] (call q [u])) hnd >>= fun val => k0 val)) Q E s0 := by
      intro Q E hnd k0 s0 hh
      cases q <;> first
        | exact wpAny_bind (un hh)
        | exact wpAny_bind (wpAny_tryCatch (un hh))
    -- behind a turn
    have turn : ∀ (s3 : Shared) (M2 : Cn) (H2 : Hp) (S2 : Store) (b2 : Option (D × D)) (arr2 : List Value) (c2 : Nat), Ex L H M2 H2 → SRep X.w X.K M2 H2 S2 → L2.Inv X pins σ H2 s3 → FpOk X pins H2 it → FpOk X pins H2 B → s3.heap.IsListIter it a (i + 1) → s3.heap.get? B = some (seqObj "list" (List.toArray arr2) c2) →
        BR X M2 H2 b2 arr2 → After X.w X.K noW M2 H2 (minF F (ys.drop (i + 1)) b2 S2) R → wpAny (model X.prog X.w) X.A.in1 (again (.builtin (toString "min" ++ toString ".loop") ⟨[.ref it, q, .ref B], kw⟩)) (fun fin s' => match fin with
          | .done f => Rr (.ok f) s'
          | .again c' => c'.quiet = true ∧ codeAny (model X.prog X.w) X.A c' Rr s') (fun e s' => Rr (.error e) s') s3 := by
      intro s3 M2 H2 S2 b2 arr2 c2 x2 sr2 I3 fi2 fB2 it2 hB2 br2 h2
      rw [hname]
      refine wpAny_pure ⟨plainId_quiet PySem.F.plain_min_loop _, ih (i + 1) s3 M2 H2 S2 b2 arr2 c2 R (by omega) (by omega) I3 (x0.trans x2) sr2 fi2 fB2 it2 hB2 br2 h2 ?_ ?_⟩
      · exact fun d S' L' H' s' v u x' => hR d S' L' H' s' v u (x2.trans x')
      · exact fun S' L' H' s' x' => hN S' L' H' s' (x2.trans x')
    have upd : ∀ {s2 : Shared} {H2 : Hp} {arr2 : List Value} {c2 : Nat} (nw : Array Value), L2.Inv X pins σ H2 s2 → FpOk X pins H2 B → s2.heap.get? B = some (seqObj "list" (List.toArray arr2) c2) → s2.heap.IsListIter it a (i + 1) →
        (∃ c3, (s2.heap.update B (Obj.mapSeq fun _ => nw)).get? B = some (seqObj "list" nw c3)) ∧ L2.Inv X pins σ H2 { s2 with heap := s2.heap.update B (Obj.mapSeq fun _ => nw) } ∧ (s2.heap.update B (Obj.mapSeq fun _ => nw)).IsListIter it a (i + 1) := by
      intro s2 H2 arr2 c2 nw I2 fB2 hB2 it2
      have sb := Heap.SameBut.update s2.heap B (Obj.mapSeq fun _ => nw)
      refine ⟨⟨_, get?_update_seq hB2 fun _ => nw⟩, ?_, ?_⟩
      · exact inv_poke (t' := s2.toks) (ch := [B]) I2 (fun b m => by rw [List.mem_singleton.mp m]; exact fB2) fun b o m e => (sb.2 b (fun z => m (by rw [z]; exact List.mem_singleton.mpr rfl))).trans e
      · obtain ⟨o, e, c1, d1⟩ := it2
        exact ⟨o, (sb.2 it hB.symm).trans e, c1, d1⟩
    cases b with
    | none =>
      have br : arr = [] := br
      subst br
      refine key (thn KK fun uk s2 ⟨H2, M2, S2, k, vk, I2, x2, sr2, rk, rp, h2, kp⟩ => ?_)
      obtain ⟨fB2, kB2⟩ := kp B (List.mem_cons_of_mem _ (List.mem_singleton.mpr rfl))
      obtain ⟨fi2, ki2⟩ := kp it (List.mem_cons_self ..)
      have hB2 := kB2 _ hS1
      have it2 : s2.heap.IsListIter it a (i + 1) := ⟨oI, ki2 _ hoI, hoc, hod⟩
      obtain ⟨⟨c3, hc3⟩, I3, it3⟩ := upd #[u, uk] I2 fB2 hB2 it2
      unfold minK at h2
      by_cases hk : k.isRef = true
      · rw [if_pos hk] at h2; exact False.elim h2
      · rw [if_neg hk] at h2
        show wpAny _ X.A.in1 (updateSeq B (fun _ => #[u, uk]) >>= _) _ _ s2
        refine wpAny_bind (wpAny_updateSeq hB2 rfl ?_)
        exact turn _ M2 H2 S2 (some (y, k)) [u, uk] c3 x2 sr2 I3 fi2 fB2 it3 hc3 ⟨u, uk, _, vk, rfl, ru, rk, (ry.ex x0).ex x2, rp.r0 (by simpa using hk)⟩ h2
    | some e =>
      obtain ⟨d, kd⟩ := e
      obtain ⟨ub, kb, vb, vkb, rfl, r1, r2, r3, r4⟩ := br
      refine key (thn KK fun uk s2 ⟨H2, M2, S2, k, vk, I2, x2, sr2, rk, rp, h2, kp⟩ => ?_)
      obtain ⟨fB2, kB2⟩ := kp B (List.mem_cons_of_mem _ (List.mem_singleton.mpr rfl))
      obtain ⟨fi2, ki2⟩ := kp it (List.mem_cons_self ..)
      have hB2 := kB2 _ hS1
      have it2 : s2.heap.IsListIter it a (i + 1) := ⟨oI, ki2 _ hoI, hoc, hod⟩
      unfold minK at h2
      by_cases hk : k.isRef = true
      · rw [if_pos hk] at h2; exact False.elim h2
      · rw [if_neg hk] at h2
        dsimp only at h2
        have rk0 : R0 X.w X.K M2 H2 vk k := rp.r0 (by simpa using hk)
        have cmp : ∀ t, gLtA S2 k kd = some (.bl t) → ∀ {Q E}, Q (.bool t) s2 → wpAny (model X.prog X.w) X.A.in1 (richCompare .Lt uk kb) Q E s2 := fun t ht {Q E} hQ => by
          obtain ⟨s1, s2', ha, hne, rfl⟩ := gLt_data ht
          obtain ⟨as1, q1⟩ := Dp.reads I2 _ _ _ (R0.dp rk0 s1) rk
          obtain ⟨as2, q2⟩ := Dp.reads I2 _ _ _ (R0.dp (r4.ex x2) s2') r2
          refine PySem.W.rcLt_alike _ _ X.A.in1 s2 uk kb _ _ q1 q2 ha hne ?_ X.prog X.w E Q hQ
          have := (shp_py _ 51 s1).2
          have := Nat.min_le_left k.toPy.depth kd.toPy.depth
          omega
        have body : ∀ t, gLtA S2 k kd = some (.bl t) → ∀ {Q : Bool → Shared → Prop} {E} {hnd : Value → Sem Bool}, Q t s2 → wpAny (model X.prog X.w) X.A.in1 (tryCatch (holding [u, uk] (do
              let answer ← richCompare .Lt uk kb
              let yes ← holding [answer] (truthy answer)
              letGo [answer]
              pure yes)) hnd) Q E s2 := fun t ht {Q E hnd} hQ =>
          wpAny_tryCatch (wpAny_holding (wpAny_bind (cmp t ht (wpAny_bind (wpAny_holding (wpAny_truthy_bool (wpAny_bind (wpAny_letGo (wpAny_pure hQ)))))))))
        cases hg : gLtA S2 k kd with
        | none => rw [hg] at h2; exact False.elim h2
        | some t0 =>
          rw [hg] at h2
          cases t0 with
          | bl t =>
            show wpAny _ X.A.in1 (tryCatch (holding [u, uk] _) _ >>= _) _ _ s2
            refine wpAny_bind (body t hg ?_)
            cases t with
            | true =>
              obtain ⟨⟨c3, hc3⟩, I3, it3⟩ := upd #[u, uk] I2 fB2 hB2 it2
              rw [if_pos rfl]
              refine wpAny_bind (wpAny_updateSeq hB2 rfl (wpAny_bind (wpAny_letGo ?_)))
              exact turn _ M2 H2 S2 (some (y, k)) [u, uk] c3 x2 sr2 I3 fi2 fB2 it3 hc3 ⟨u, uk, _, vk, rfl, ru, rk, (ry.ex x0).ex x2, rk0⟩ h2
            | false =>
              rw [if_neg (by decide)]
              refine wpAny_bind (wpAny_letGo ?_)
              exact turn _ M2 H2 S2 (some (d, kd)) [ub, kb] c x2 sr2 I2 fi2 fB2 it2 hB2 ⟨ub, kb, vb, vkb, rfl, r1, r2, r3.ex x2, r4.ex x2⟩ h2
          | _ => exact False.elim h2
def mnRel (X : Cx) (F : Df) (dfl : Bool) : List V → Hp → VK → Prop := fun vs H Q => ∃ (a : Addr) (L : Cn) (S : Store) (xs : List V) (ys : List D), vs = [.ref a] ∧ LstAt L H a xs ∧ RAll X.w X.K L H xs ys ∧ SRep X.w X.K L H S ∧
  After X.w X.K noW L H (minF F ys none S) fun o _ L' H' => match o with
    | some d => ∀ v, R0 X.w X.K L' H' v d → Q v H'
    | none => dfl = true ∧ Q .non H'
theorem min_call {F : Df} {q : Value} {kw kw2 : List (Str × Value)} {kq dq : Option Value} {dfl : Bool} (hq : KeyOk X F q) (hc : X.calm = true) (hu : X.A.in1.units + 64 < cLine) (hb : Builtin.Builtins.bindParams "min" ["key", "default"] 0 ⟨[], kw⟩ = pure [kq, dq]) (hk : kq.getD .none = q)
    (hd : (dq.toList.map fun d => (("default" : Str), d)) = kw2) (hd2 : dfl = true → kw2 = [(Str.ofString "default", .none)]) (ha : ∀ v, argsOk "min" ⟨[v], kw⟩) {s : Shared} {H : Hp} {vs : List V} {us : List Value} {Q : VK} (I : L2.Inv X pins σ H s) (rv : Vals vs us) (h : mnRel X F dfl vs H Q) :
    wpAny (model X.prog X.w) X.A (call (.builtin "min") us kw) (EP X pins σ Q) X.xe s := by
  obtain ⟨a, L, S, xs, ys, rfl, hl, rx, sr, h⟩ := h
  rw [Vals.ref1 rv]
  obtain ⟨its, rvi, p, hz⟩ := I.list (SqL.of hl.1)
  refine PyProof.Rows.kmk_tree PySem.F.kind_min PySem.F.plain_min PySem.F.entry_min (ha _) ?_
  show wpAny _ X.A.in1 (Builtin.Builtins.bindParams "min" ["key", "default"] 0 ⟨[], kw⟩ >>= _) _ _ s
  refine wpAny_bind (wpAny_of_eq hb ?_)
  refine wpAny_bind (wpAny_pure ?_)
  refine wpAny_bind (wpAny_pyIter_list p.isList ?_)
  refine wpAny_bind (wpAny_newObj_type ?_)
  have hname : (toString "min" ++ toString ".loop" : String) = "min.loop" := by decide
  rw [hname, hk, hd]
  generalize hit : s.heap.objs.size = it
  have n0 : s.heap.objs.size ≤ it := by omega
  generalize hh1 : s.heap.push { cls := .type "list_iterator", data := .fields #[.ref a, .int 0 0] } = h1
  have hs1 : h1.objs.size = it + 1 := by rw [← hh1, Heap.size_push, hit]
  have e1 : h1.get? it = some { cls := .type "list_iterator", data := .fields #[.ref a, .int 0 0] } := by rw [← hh1, ← hit]; exact Heap.get?_push_size _ rfl
  have I2 : L2.Inv X pins σ H { s with heap := h1.push { cls := .type "list", data := .seq #[] 0 } } := I.kept (t' := s.toks) fun b o e => Heap.get?_push_of_some _ (by rw [← hh1]; exact Heap.get?_push_of_some _ e)
  have fi : FpOk X pins H it := I.fpOk n0 (I.hok.fresh n0)
  have fB : FpOk X pins H h1.objs.size := I.fpOk (by omega) (I.hok.fresh (by omega))
  refine wpAny_pure ⟨plainId_quiet PySem.F.plain_min_loop _, ?_⟩
  refine min_loop (F := F) (q := q) (kw := kw2) hq hc hu (it := it) (B := h1.objs.size) (a := a) (by rw [hs1]; exact Nat.succ_ne_self it) hl rx _ 0 _ L H S none [] 0 _ rfl (Nat.zero_le _) I2 Ex.refl sr fi fB ⟨_, Heap.get?_push_of_some _ e1, rfl, rfl⟩ (Heap.get?_push_size _ rfl) rfl h ?_ ?_
  · exact fun d S' L' H' s' v u x s2 hR I' r0 ru => ⟨v, H', I', ru, hR v r0⟩
  · exact fun S' L' H' s' x s2 hR I' => ⟨hd2 hR.1, .non, H', I', rfl, hR.2⟩
/-- the denotation -/
def minO (dfl : Bool) (o : Option D) (S : Store) : Out D := match o with
  | some d => .ok d S
  | none => if dfl = true then .ok .non S else .no
def kMinK (F : Df) (dfl : Bool) (d : D) (S : Store) : Out D := match d with
  | .lst ys => (minF F ys none S).bind (minO dfl)
  | _ => .no
def dMinK (F : Df) (dfl : Bool) (f : De) : De := fun r S => (f r S).bind (kMinK F dfl)
theorem min_read {F : Df} {dfl : Bool} {L : Cn} {H : Hp} {S : Store} {d : D} {v : V} {Q : VK} (rp : Rp X.w X.K L H v d) (sr : SRep X.w X.K L H S) (h : After X.w X.K noW L H (kMinK F dfl d S) fun d _ L' H' => ∀ v, Rp X.w X.K L' H' v d → Q v H') : mnRel X F dfl [v] H Q := by
  unfold kMinK at h
  split at h
  · rename_i ys
    have r0 : R0 X.w X.K L H v (.lst ys) := rp
    cases r0 with
    | lst hl hz ra =>
      refine ⟨_, L, S, _, ys, rfl, hl, ra, sr, (After.bnd h).mono fun o S1 L1 H1 x1 s1 h1 => ?_⟩
      cases o with
      | some d => exact fun v r => h1 L1 H1 Ex.refl s1 v (Rp.of r)
      | none =>
        unfold minO at h1
        cases dfl with
        | true => exact ⟨rfl, h1 L1 H1 Ex.refl s1 .non (Rp.of .non)⟩
        | false => exact False.elim h1
  · exact False.elim h
/-- min(xs) -/
theorem se_minD {k : Nat} {p pos : Pos} {e : Expr} {f : De} (hc : X.calm = true) (hr : Room (k + 1) X.A) (hgs : Gl X "min") (hms : X.mg "min" = none) (ha : SE X noW e f) (he : starEach [e] X.env = (false, eval e X.env) :: starEach [] X.env := by rfl) : SE X noW (.Call (.Name "min" p) [e] [] pos) (dMinK idF false f) :=
  pe_imp (pe_callB (r := mnRel X idF false) (fun pins s σ H xs us Q I rv h => min_call (pins := pins) (σ := σ) (kw := []) (kw2 := []) (kq := none) (dq := none) keyOk_id hc (Room.units hr.in1) rfl rfl rfl (fun z => by cases z) (fun v => PySem.F.args_min1 v) I rv h) hgs hms (by decide +kernel) (pa_cons ha pa_nil he) (by decide) (by decide) he rfl) fun s H Q h => by
    obtain ⟨L, S, r, er, sr, h⟩ := h
    exact ⟨L, S, r, er, sr, (After.bnd h).mono fun d S1 L1 H1 x1 s1 h1 v rp => min_read rp s1 h1⟩
end
section
variable {P : Program} {w : World} {K : PySem.W.Frag} {mg : Str → Option Value} {base : Heap} {sc : Scope} {N vs ls gs : List Str} {k : Nat} {X : Cx} {x : Str} {defs : List (Str × Stmt)} {blt : List Str} {cst : List (Str × D)} {ad : Nat → Addr} {fdd : Nat → FuncData}
theorem cminD (c : Ct P w K mg base sc N vs ls gs k X) {p pos : Pos} {e : Expr} {f : De} (hgs : Gl X "min") (hms : X.mg "min" = none) (ha : SE X noW e f) (hk : 1 ≤ k := by decide) (he : starEach [e] X.env = (false, eval e X.env) :: starEach [] X.env := by rfl) : SE X noW (.Call (.Name "min" p) [e] [] pos) (dMinK idF false f) :=
  se_minD (k := 0) c.calm (c.room.mono hk) hgs hms ha he
end
end Ws
namespace Ws
open PySem L2
def wp {α : Type} (o : Out α) (Q : α → Store → Prop) : Prop := ∃ a S, o = .ok a S ∧ Q a S
section
variable {α β : Type} {o o' : Out α} {a : α} {S S' : Store} {Q Q' : α → Store → Prop}
theorem wp_ok : wp (.ok a S) Q = Q a S := propext ⟨fun ⟨_, _, e, q⟩ => by cases e; exact q, fun q => ⟨_, _, rfl, q⟩⟩
theorem wp_bind {f : α → Store → Out β} {Q : β → Store → Prop} : wp (o.bind f) Q = wp o fun a S => wp (f a S) Q := by
  cases o with
  | ok a S => rw [Out.bind_ok, wp_ok]
  | ex c S => exact propext ⟨fun h => (by obtain ⟨_, _, e, _⟩ := h; cases e), fun h => by obtain ⟨_, _, e, _⟩ := h; cases e⟩
  | no => exact propext ⟨fun h => (by obtain ⟨_, _, e, _⟩ := h; cases e), fun h => by obtain ⟨_, _, e, _⟩ := h; cases e⟩
theorem wp_is (h : wp o fun d T => d = a ∧ T = S) : o = .ok a S := by obtain ⟨d, T, e, rfl, rfl⟩ := h; exact e
theorem bindN_ok {f : α → Store → Out β} : (Out.ok a S).bindN f = f a S := rfl
end
def kOp2 (g : Store → D → D → Option D) (a b : D) (S : Store) : Out D := opt (g S a b) S
def kOp (g : Store → D → D → Option D) (f2 : De) (r : Sl) (a : D) (S : Store) : Out D := (f2 r S).bind (kOp2 g a)
def kUn (g : Store → D → Option D) (a : D) (S : Store) : Out D := opt (g S a) S
def kAnd (t2 : Dt) (r : Sl) (b : Bool) (S : Store) : Out Bool := if b = true then t2 r S else .ok false S
def kOr (t2 : Dt) (r : Sl) (b : Bool) (S : Store) : Out Bool := if b = true then .ok true S else t2 r S
def kNot (b : Bool) (S : Store) : Out Bool := .ok (!b) S
def kIf (f1 f2 : De) (r : Sl) (b : Bool) (S : Store) : Out D := if b = true then f1 r S else f2 r S
def kCons2 (d : D) (ds : List D) (S : Store) : Out (List D) := .ok (d :: ds) S
def kCons (fa : Da) (r : Sl) (d : D) (S : Store) : Out (List D) := (fa r S).bind (kCons2 d)
def kFz (ds : List D) (S : Store) : Out D := .ok (.lst ds) S
def kMu (ds : List D) (S : Store) : Out D := .ok (.ref S.length) (S ++ [.lst ds])
def kCall (g : Store → List D → Option D) (ds : List D) (S : Store) : Out D := opt (g S ds) S
def optL (o : Option (List D)) (S : Store) : Out (List D) := match o with
  | some es => .ok es S
  | none => .no
def kCallN (g : Store → List D → Option (List D)) (ds : List D) (S : Store) : Out (List D) := optL (g S ds) S
def kAddN2 (a b : D) (S : Store) : Out (List D) := optL (gAddN S a b) S
def kAddN (f2 : De) (r : Sl) (a : D) (S : Store) : Out (List D) := (f2 r S).bind (kAddN2 a)
def kSl3 (d : D) (lo hi : Option Int) (S : Store) : Out D := opt (gSl S d lo hi) S
def kSl2 (u : Do) (r : Sl) (d : D) (lo : Option Int) (S : Store) : Out D := (u r S).bind (kSl3 d lo)
def kSl (l u : Do) (r : Sl) (d : D) (S : Store) : Out D := (l r S).bind (kSl2 u r d)
def kSlN3 (d : D) (lo hi : Option Int) (S : Store) : Out (List D) := optL (gSlN S d lo hi) S
def kSlN2 (u : Do) (r : Sl) (d : D) (lo : Option Int) (S : Store) : Out (List D) := (u r S).bind (kSlN3 d lo)
def kSlN (l u : Do) (r : Sl) (d : D) (S : Store) : Out (List D) := (l r S).bind (kSlN2 u r d)
def kFnK2 (F : Df) (perm : List Nat) (ds es : List D) (S : Store) : Out D := F (pick perm (ds ++ es)) S
def kFnK (F : Df) (perm : List Nat) (ga : Da) (r : Sl) (ds : List D) (S : Store) : Out D := (ga r S).bind (kFnK2 F perm ds)
def kLen (n : Nat) (ds : List D) (S : Store) : Out (List D) := if ds.length = n then .ok ds S else .no
def nxO (o : Option Sl) (S : Store) : Out Fl := match o with
  | some r' => .ok (.nx r') S
  | none => .no
def kAsg (g : Dg) (r : Sl) (d : D) (S : Store) : Out Fl := nxO (g d r S) S
def kRet (d : D) (S : Store) : Out Fl := .ok (.rt d) S
def kSIf (s1 s2 : Ds) (r : Sl) (b : Bool) (S : Store) : Out Fl := if b = true then s1 r S else s2 r S
def kDrop (r : Sl) (_ : D) (S : Store) : Out Fl := .ok (.nx r) S
def stO (o : Option Store) (r : Sl) : Out Fl := match o with
  | some S' => .ok (.nx r) S'
  | none => .no
def kSet3 (r : Sl) (d o i : D) (S : Store) : Out Fl := stO (setAt S o i d) r
def kSet2 (fi : De) (r : Sl) (d o : D) (S : Store) : Out Fl := (fi r S).bind (kSet3 r d o)
def kSet (fo fi : De) (r : Sl) (d : D) (S : Store) : Out Fl := (fo r S).bind (kSet2 fi r d)
def truO (d : D) (S : Store) : Out Bool := match truD S d with
  | some b => .ok b S
  | none => .no
def kOrB2 (d : D) (f2 : De) (r : Sl) (b : Bool) (S : Store) : Out D := if b = true then .ok d S else f2 r S
def kOrB (f2 : De) (r : Sl) (d : D) (S : Store) : Out D := (truO d S).bind (kOrB2 d f2 r)
def kAndB2 (d : D) (f2 : De) (r : Sl) (b : Bool) (S : Store) : Out D := if b = true then f2 r S else .ok d S
def kAndB (f2 : De) (r : Sl) (d : D) (S : Store) : Out D := (truO d S).bind (kAndB2 d f2 r)
def kNotB2 (b : Bool) (S : Store) : Out D := .ok (.bl (!b)) S
def kNotB (d : D) (S : Store) : Out D := (truO d S).bind kNotB2
def kRev (d : D) (S : Store) : Out (List D) := match view S d with
  | .lst xs => .ok xs.reverse S
  | _ => .no
def kRevA (d : D) (S : Store) : Out D := match view S d with
  | .lst xs => .ok (.lst xs.reverse) S
  | .tup xs => .ok (.tup xs.reverse) S
  | _ => .no
def kStar2 (xs ds : List D) (S : Store) : Out (List D) := .ok (xs ++ ds) S
def kStar (g : Da) (r : Sl) (d : D) (S : Store) : Out (List D) := match view S d with
  | .lst xs => (g r S).bind (kStar2 xs)
  | .tup xs => (g r S).bind (kStar2 xs)
  | _ => .no
section
variable {r : Sl} {S : Store} {f f1 f2 : De} {t t1 t2 : Dt} {fa ga : Da} {s1 s2 : Ds} {d : D} {F : Df}
theorem ev_opt : opt (some d) S = .ok d S := rfl
theorem ev_C : dC d r S = .ok d S := rfl
theorem ev_Var {i : Nat} : dVar i r S = (match r[i]? with | some (some d) => .ok d S | _ => .no) := rfl
theorem ev_Op {g} : dOp g f1 f2 r S = (f1 r S).bind (kOp g f2 r) := rfl
theorem ev_Un {g} : dUn g f1 r S = (f1 r S).bind (kUn g) := rfl
def testD (d : D) (S : Store) : Out Bool := match d with
  | .bl b => .ok b S
  | _ => .no
theorem ev_Test : dTest f r S = (f r S).bind testD := rfl
theorem ev_test {b} : testD (.bl b) S = .ok b S := rfl
theorem ev_AndT : dAndT t1 t2 r S = (t1 r S).bind (kAnd t2 r) := rfl
theorem ev_OrT : dOrT t1 t2 r S = (t1 r S).bind (kOr t2 r) := rfl
theorem ev_NotT : dNotT t r S = (t r S).bind kNot := rfl
theorem ev_If : dIf t f1 f2 r S = (t r S).bind (kIf f1 f2 r) := rfl
theorem ev_Truth : dTruth f r S = (f r S).bind truO := rfl
theorem ev_truB {b} : truO (.bl b) S = .ok b S := rfl
theorem ev_truI {i} : truO (.int i) S = .ok (i != 0) S := rfl
theorem ev_truL {xs} : truO (.lst xs) S = .ok (!xs.isEmpty) S := rfl
theorem ev_truT {xs} : truO (.tup xs) S = .ok (!xs.isEmpty) S := rfl
theorem ev_truN : truO .non S = .ok false S := rfl
theorem ev_OrB : dOrB f1 f2 r S = (f1 r S).bind (kOrB f2 r) := by
  unfold dOrB; cases f1 r S with
  | ok a S1 => simp only [Out.bind_ok, kOrB, kAndB, kNotB, truO]; cases truD S1 a with
    | none => rfl
    | some b => cases b <;> rfl
  | _ => rfl
theorem ev_AndB : dAndB f1 f2 r S = (f1 r S).bind (kAndB f2 r) := by
  unfold dAndB; cases f1 r S with
  | ok a S1 => simp only [Out.bind_ok, kOrB, kAndB, kNotB, truO]; cases truD S1 a with
    | none => rfl
    | some b => cases b <;> rfl
  | _ => rfl
theorem ev_NotB : dNotB f r S = (f r S).bind kNotB := by
  unfold dNotB; cases f r S with
  | ok a S1 => simp only [Out.bind_ok, kOrB, kAndB, kNotB, truO]; cases truD S1 a <;> rfl
  | _ => rfl
theorem ev_Nil : dNil r S = .ok [] S := rfl
theorem ev_Cons : dCons f fa r S = (f r S).bind (kCons fa r) := rfl
theorem ev_Tup : dTup fa r S = (fa r S).bind mkTup := rfl
theorem ev_Chk : dChk fa r S = (fa r S).bind chk := rfl
theorem ev_Fz : dFz fa r S = (fa r S).bind kFz := rfl
theorem ev_Mu : dMu fa r S = (fa r S).bind kMu := rfl
theorem ev_Call {g} : dCall g fa r S = (fa r S).bind (kCall g) := rfl
theorem ev_CallN {g} : dCallN g fa r S = (fa r S).bind (kCallN g) := rfl
theorem ev_optL {es} : optL (some es) S = .ok es S := rfl
theorem ev_AddN : dAddN f1 f2 r S = (f1 r S).bind (kAddN f2 r) := rfl
def isiO (ts : List Ty) (d : D) (S : Store) : Out D := match isTys (view S d) ts with
  | some b => .ok (.bl b) S
  | none => .no
theorem ev_Isi {ts} : dIsi ts f r S = (f r S).bind (isiO ts) := rfl
theorem ev_oNone : oNone r S = .ok none S := rfl
def oInt (d : D) (S : Store) : Out (Option Int) := match d with
  | .int i => .ok (some i) S
  | _ => .no
theorem ev_oSome : oSome f r S = (f r S).bind oInt := rfl
theorem ev_oInt {i} : oInt (.int i) S = .ok (some i) S := rfl
theorem ev_Sl {l u} : dSl f l u r S = (f r S).bind (kSl l u r) := rfl
theorem ev_SlN {l u} : dSlN f l u r S = (f r S).bind (kSlN l u r) := rfl
theorem ev_Fn : dFn F fa r S = (fa r S).bind F := rfl
theorem ev_FnK {perm} : dFnK F perm fa ga r S = (fa r S).bind (kFnK F perm ga r) := rfl
theorem ev_Len {n} : dLen n fa r S = (fa r S).bind (kLen n) := rfl
theorem ev_sNil : sNil r S = .ok (.nx r) S := rfl
def seqF (g : Ds) (fl : Fl) (S : Store) : Out Fl := match fl with
  | .nx r1 => g r1 S
  | fl => .ok fl S
theorem ev_Seq : sSeq s1 s2 r S = (s1 r S).bind (seqF s2) := by
  unfold sSeq; cases s1 r S with
  | ok fl S1 => cases fl <;> rfl
  | _ => rfl
theorem ev_nx {r1} : seqF s2 (.nx r1) S = s2 r1 S := rfl
theorem ev_rt : seqF s2 (.rt d) S = .ok (.rt d) S := rfl
theorem ev_bk {r1} : seqF s2 (.bk r1) S = .ok (.bk r1) S := rfl
theorem ev_ct {r1} : seqF s2 (.ct r1) S = .ok (.ct r1) S := rfl
theorem ev_Asg {g} : sAsg f g r S = (f r S).bind (kAsg g r) := rfl
theorem ev_nxO {r'} : nxO (some r') S = .ok (.nx r') S := rfl
theorem ev_gNm {i} : gNm i d r S = some (r.set i (some d)) := rfl
theorem ev_gsNil : gsNil [] r S = some r := rfl
theorem ev_gsCons {g h ds} : gsCons g h (d :: ds) r S = (g d r S).bind fun r' => h ds r' S := rfl
theorem ev_Ret : sRet f r S = (f r S).bind kRet := rfl
theorem ev_RetN : sRetN r S = .ok (.rt .non) S := rfl
theorem ev_sIf : sIf t s1 s2 r S = (t r S).bind (kSIf s1 s2 r) := rfl
theorem ev_Drop : sDrop f r S = (f r S).bind (kDrop r) := rfl
theorem ev_Brk : sBrk r S = .ok (.bk r) S := rfl
theorem ev_Cnt : sCnt r S = .ok (.ct r) S := rfl
def parF (is : List Nat) (r : Sl) (ds : List D) (S : Store) : Out Fl := if ds.length = is.length then .ok (.nx ((is.zip ds).foldl (fun r p => r.set p.1 (some p.2)) r)) S else .no
theorem ev_Par {is} : sPar is fa r S = (fa r S).bind (parF is r) := rfl
theorem ev_par2 {i j a b} : parF [i, j] r [a, b] S = .ok (.nx ((r.set i (some a)).set j (some b))) S := rfl
theorem ev_par3 {i j k a b c} : parF [i, j, k] r [a, b, c] S = .ok (.nx (((r.set i (some a)).set j (some b)).set k (some c))) S := rfl
theorem ev_SetIx {fo fi fe : De} : sSetIx fo fi fe r S = (fe r S).bind (kSet fo fi r) := rfl
theorem ev_stO {S'} : stO (some S') r = .ok (.nx r) S' := rfl
def itOf (d : D) (S : Store) : Out ItD := match d with
  | .lst xs => .ok (.fix xs) S
  | .tup xs => .ok (.fix xs) S
  | .scr ns => .ok (.fix (ns.map .int)) S
  | .dct ks _ => if lineOk ks.length then .ok (.fix ks) S else .no
  | .ref n => match S[n]? with
    | some (.lst _) => .ok (.live (.one n)) S
    | _ => .no
  | _ => .no
theorem ev_iSeq : iSeq f r S = (f r S).bind itOf := rfl
theorem ev_itL {xs} : itOf (.lst xs) S = .ok (.fix xs) S := rfl
theorem ev_itT {xs} : itOf (.tup xs) S = .ok (.fix xs) S := rfl
def ran1 (ds : List D) (S : Store) : Out ItD := match ds with
  | [.int j] => if smallR j && lineOk j.toNat then .ok (.fix (rngD 0 j.toNat)) S else .no
  | _ => .no
theorem ev_Ran1 : iRan1 fa r S = (fa r S).bind ran1 := rfl
def ran2 (ds : List D) (S : Store) : Out ItD := match ds with
  | [.int i, .int j] => if smallR i && smallR j && lineOk (j - i).toNat then .ok (.fix (rngD i (j - i).toNat)) S else .no
  | _ => .no
theorem ev_Ran2 : iRan2 fa r S = (fa r S).bind ran2 := rfl
def enuO (ds : List D) (S : Store) : Out ItD := match ds with
  | [.lst xs] => .ok (.fix (enumD 0 xs)) S
  | [.ref n] => match S[n]? with
    | some (.lst _) => .ok (.live (.enu n)) S
    | _ => .no
  | _ => .no
theorem ev_Enu : iEnu fa r S = (fa r S).bind enuO := rfl
theorem ev_enu {xs} : enuO [.lst xs] S = .ok (.fix (enumD 0 xs)) S := rfl
def zipO (ds : List D) (S : Store) : Out ItD := match ds with
  | [.tup xs, .tup ys] => .ok (.fix (zipD xs ys)) S
  | [x, y] => match srcOf S x, srcOf S y with
    | some a, some b => .ok (zipIt a b) S
    | _, _ => .no
  | _ => .no
theorem ev_Zip : iZipD fa r S = (fa r S).bind zipO := rfl
theorem ev_zipL {xs ys} : zipO [.lst xs, .lst ys] S = .ok (.fix (zipD xs ys)) S := rfl
theorem ev_zipT {xs ys} : zipO [.tup xs, .tup ys] S = .ok (.fix (zipD xs ys)) S := rfl
theorem ev_Comp {vs it g t e} : dComp vs it g t e r S = (it r S).bind (runC g t e (wipeD r vs)) := rfl
theorem ev_fix {xs g t} {e : De} : runC g t e r (.fix xs) S = compF g t e r xs S := rfl
theorem ev_Yes : dYes r S = .ok true S := rfl
theorem ev_wipe0 : wipeD r [] = r := rfl
theorem ev_wipe {v vs} : wipeD r (v :: vs) = (wipeD r vs).set v none := rfl
def forO (g : Dg) (B : Ds) (r : Sl) (j : ItD) (S : Store) : Out Fl := match j with
  | .fix xs => loopF g B xs r S
  | .live n => loopL n g B 100000 0 r S
theorem ev_For {it g B} : sFor it g B r S = (it r S).bind (forO g B r) := rfl
theorem ev_forF {xs g B} : forO g B r (.fix xs) S = loopF g B xs r S := rfl
theorem ev_RevN : dRevN f r S = (f r S).bind kRev := rfl
theorem ek_Rev {xs} : kRev (.lst xs) S = .ok xs.reverse S := rfl
theorem ev_RevA : dRevA f r S = (f r S).bind kRevA := rfl
theorem ek_RevAL {xs} : kRevA (.lst xs) S = .ok (.lst xs.reverse) S := rfl
theorem ek_RevAT {xs} : kRevA (.tup xs) S = .ok (.tup xs.reverse) S := rfl
theorem ev_Star : dStar f fa r S = (f r S).bind (kStar fa r) := rfl
theorem ek_StarL {xs} : kStar fa r (.lst xs) S = (fa r S).bind (kStar2 xs) := rfl
theorem ek_StarT {xs} : kStar fa r (.tup xs) S = (fa r S).bind (kStar2 xs) := rfl
theorem ek_Star2 {xs ds} : kStar2 xs ds S = .ok (xs ++ ds) S := rfl
theorem ev_ltI {i j} : gLtA S (.int i) (.int j) = some (.bl (decide (i < j))) := rfl
theorem ek_Op {g a} : kOp g f2 r a S = (f2 r S).bind (kOp2 g a) := rfl
theorem ek_Op2 {g a b} : kOp2 g a b S = opt (g S a b) S := rfl
theorem ek_Un {g a} : kUn g a S = opt (g S a) S := rfl
theorem ek_AndT : kAnd t2 r true S = t2 r S := rfl
theorem ek_AndF : kAnd t2 r false S = .ok false S := rfl
theorem ek_OrT : kOr t2 r true S = .ok true S := rfl
theorem ek_OrF : kOr t2 r false S = t2 r S := rfl
theorem ek_Not {b} : kNot b S = .ok (!b) S := rfl
theorem ek_IfT : kIf f1 f2 r true S = f1 r S := rfl
theorem ek_IfF : kIf f1 f2 r false S = f2 r S := rfl
theorem ek_Cons : kCons fa r d S = (fa r S).bind (kCons2 d) := rfl
theorem ek_Cons2 {ds} : kCons2 d ds S = .ok (d :: ds) S := rfl
theorem ek_Fz {ds} : kFz ds S = .ok (.lst ds) S := rfl
theorem ek_Mu {ds} : kMu ds S = .ok (.ref S.length) (S ++ [.lst ds]) := rfl
theorem ek_Call {g ds} : kCall g ds S = opt (g S ds) S := rfl
theorem ek_CallN {g ds} : kCallN g ds S = optL (g S ds) S := rfl
theorem ek_AddN {a} : kAddN f2 r a S = (f2 r S).bind (kAddN2 a) := rfl
theorem ek_AddN2 {a b} : kAddN2 a b S = optL (gAddN S a b) S := rfl
theorem ek_Sl {l u} : kSl l u r d S = (l r S).bind (kSl2 u r d) := rfl
theorem ek_Sl2 {u lo} : kSl2 u r d lo S = (u r S).bind (kSl3 d lo) := rfl
theorem ek_Sl3 {lo hi} : kSl3 d lo hi S = opt (gSl S d lo hi) S := rfl
theorem ek_SlN {l u} : kSlN l u r d S = (l r S).bind (kSlN2 u r d) := rfl
theorem ek_SlN2 {u lo} : kSlN2 u r d lo S = (u r S).bind (kSlN3 d lo) := rfl
theorem ek_SlN3 {lo hi} : kSlN3 d lo hi S = optL (gSlN S d lo hi) S := rfl
theorem ek_FnK {perm ds} : kFnK F perm ga r ds S = (ga r S).bind (kFnK2 F perm ds) := rfl
theorem ek_FnK2 {perm ds es} : kFnK2 F perm ds es S = F (pick perm (ds ++ es)) S := rfl
theorem ek_Len {n : Nat} {ds : List D} (h : ds.length = n) : kLen n ds S = .ok ds S := if_pos h
theorem ek_Asg {g} : kAsg g r d S = nxO (g d r S) S := rfl
theorem ek_Ret : kRet d S = .ok (.rt d) S := rfl
theorem ek_SIfT : kSIf s1 s2 r true S = s1 r S := rfl
theorem ek_SIfF : kSIf s1 s2 r false S = s2 r S := rfl
theorem ek_Drop : kDrop r d S = .ok (.nx r) S := rfl
theorem ek_Set {fo fi} : kSet fo fi r d S = (fo r S).bind (kSet2 fi r d) := rfl
theorem ek_Set2 {fi o} : kSet2 fi r d o S = (fi r S).bind (kSet3 r d o) := rfl
theorem ek_Set3 {o i} : kSet3 r d o i S = stO (setAt S o i d) r := rfl
theorem ek_OrB : kOrB f2 r d S = (truO d S).bind (kOrB2 d f2 r) := rfl
theorem ek_OrBT : kOrB2 d f2 r true S = .ok d S := rfl
theorem ek_OrBF : kOrB2 d f2 r false S = f2 r S := rfl
theorem ek_AndB : kAndB f2 r d S = (truO d S).bind (kAndB2 d f2 r) := rfl
theorem ek_AndBT : kAndB2 d f2 r true S = f2 r S := rfl
theorem ek_AndBF : kAndB2 d f2 r false S = .ok d S := rfl
theorem ek_NotB : kNotB d S = (truO d S).bind kNotB2 := rfl
theorem ek_NotB2 {b} : kNotB2 b S = .ok (.bl (!b)) S := rfl
theorem dDef_eq {n m : Nat} {B : Ds} {ds : List D} (h : ds.length = n) : dDef n m B ds S = endD S.length (B (ds.map some ++ List.replicate m none) S) := if_pos h
theorem dDefM_eq {n m : Nat} {B : Ds} {ds : List D} (h : ds.length = n) : dDefM n m B ds S = endM (B (ds.map some ++ List.replicate m none) S) := if_pos h
theorem ev_endRt {b : Nat} : endD b (.ok (.rt d) S) = leave b d S := rfl
theorem ev_endNx {b : Nat} : endD b (.ok (.nx r) S) = leave b .non S := rfl
theorem ev_lvT {b : Nat} {xs} : leave b (.tup xs) S = .ok (.tup xs) (S.take b) := rfl
theorem ev_lvL {b : Nat} {xs} : leave b (.lst xs) S = .ok (.lst xs) (S.take b) := rfl
theorem ev_lvI {b : Nat} {i} : leave b (.int i) S = .ok (.int i) (S.take b) := rfl
theorem ev_lvB {b : Nat} {i} : leave b (.bl i) S = .ok (.bl i) (S.take b) := rfl
theorem ev_lvS {b : Nat} {i} : leave b (.str i) S = .ok (.str i) (S.take b) := rfl
theorem ev_lvN {b : Nat} : leave b .non S = .ok .non (S.take b) := rfl
theorem leave_ref {b n : Nat} {ys} (h : ¬ n < b) (e : S[n]? = some (.lst ys)) : leave b (.ref n) S = .ok (.lst ys) (S.take b) := by unfold leave; simp only [if_neg h, e]
theorem leave_refD {b n : Nat} {ks vs} (h : ¬ n < b) (e : S[n]? = some (.dct ks vs)) : leave b (.ref n) S = .ok (.dct ks vs) (S.take b) := by unfold leave; simp only [if_neg h, e]
theorem ev_lvD {b : Nat} {ks vs} : leave b (.dct ks vs) S = .ok (.dct ks vs) (S.take b) := rfl
theorem leave_nr {b : Nat} (h : d.isRef = false) : leave b d S = .ok d (S.take b) := by cases d <;> first | rfl | (cases h)
theorem ev_endM {d} : endM (.ok (.rt d) S) = .ok d S := rfl
theorem wp_endD {b : Nat} {o : Out Fl} {Q : D → Store → Prop} (h : wp o fun fl S => match fl with
    | .rt d => wp (leave b d S) Q
    | .nx _ => wp (leave b .non S) Q
    | _ => False) : wp (endD b o) Q := by
  obtain ⟨fl, S, rfl, q⟩ := h
  cases fl <;> first | exact q | exact False.elim q
theorem wp_bind_end {b : Nat} {o : Out Fl} {s2 : Ds} {Q : D → Store → Prop} : wp o (fun fl S => wp (endD b (seqF s2 fl S)) Q) = wp (endD b (o.bind (seqF s2))) Q := by
  cases o with
  | ok fl S => rw [wp_ok]; rfl
  | ex c S => exact propext ⟨fun h => (by obtain ⟨_, _, e, _⟩ := h; cases e), fun h => (by obtain ⟨_, _, e, _⟩ := h; cases e)⟩
  | no => exact propext ⟨fun h => (by obtain ⟨_, _, e, _⟩ := h; cases e), fun h => (by obtain ⟨_, _, e, _⟩ := h; cases e)⟩
theorem ev_addI {i j} : gAdd S (.int i) (.int j) = some (.int (i + j)) := rfl
theorem ev_subI {i j} : gSub S (.int i) (.int j) = some (.int (i - j)) := rfl
theorem ev_negI {i} : gNeg S (.int i) = some (.int (-i)) := rfl
theorem ev_mulI {i j} (h : mulOk i j = true) : gMul S (.int i) (.int j) = some (.int (i * j)) := if_pos h
theorem ev_modI {i j} (h : 0 < j) : gMod S (.int i) (.int j) = some (.int (i % j)) := by unfold gMod; simp [h]
theorem ev_fdivI {i j : Int} (h : 0 < j) (h2 : j < 2 ^ 64) : gFdiv S (.int i) (.int j) = some (.int (i / j)) := by
  have : j.natAbs.log2 < 9000 := by
    have h3 : j.natAbs < 2 ^ 64 := by omega
    have : j.natAbs.log2 < 64 := (Nat.log2_lt (by omega)).mpr h3
    omega
  unfold gFdiv; simp [h, this]
theorem ev_eqI {i j} : gEq S (.int i) (.int j) = some (.bl (i == j)) := rfl
theorem ev_neI {i j} : gNe S (.int i) (.int j) = some (.bl (!(i == j))) := rfl
theorem ev_eqB {i j} : gEq S (.bl i) (.bl j) = some (.bl (i == j)) := rfl
theorem ev_neB {i j} : gNe S (.bl i) (.bl j) = some (.bl (!(i == j))) := rfl
theorem ev_cmpI {p i j} : gCmp p S (.int i) (.int j) = some (.bl (p i j)) := rfl
theorem ev_isN {d} : gIsN S d .non = some (.bl d.isNon) := rfl
theorem ev_isNotN {d} : gIsNotN S d .non = some (.bl !d.isNon) := rfl
theorem ev_lenL {xs} : gLen S [.lst xs] = some (.int xs.length) := rfl
theorem ev_lenT {xs} : gLen S [.tup xs] = some (.int xs.length) := rfl
theorem ev_tupL {xs} : gTuple S [.lst xs] = some (.tup xs) := rfl
theorem ev_tupT {xs} : gTuple S [.tup xs] = some (.tup xs) := rfl
theorem ev_lstL {xs} : gList S [.lst xs] = some xs := rfl
theorem ev_lstT {xs} : gList S [.tup xs] = some xs := rfl
theorem ev_int {i} : gInt S [.int i] = some (.int i) := rfl
theorem ev_intB {b} : gInt S [.bl b] = some (.int (if b then 1 else 0)) := rfl
theorem ev_abs {i} : gAbs S [.int i] = some (.int (if i < 0 then -i else i)) := rfl
theorem ev_min2 {i j} : gMin S [.int i, .int j] = some (.int (if j < i then j else i)) := rfl
theorem ev_max2 {i j} : gMax S [.int i, .int j] = some (.int (if j > i then j else i)) := rfl
theorem ev_ixL {xs i} : gIx S (.lst xs) (.int i) = atI xs i := rfl
theorem ev_ixT {xs i} : gIx S (.tup xs) (.int i) = atI xs i := rfl
theorem ev_addL {xs ys} (h : lineOk (xs.length + ys.length) = true) : gAdd S (.lst xs) (.lst ys) = some (.lst (xs ++ ys)) := if_pos h
end
def oneC (g : Dg) (t : Dt) (e : De) (r : Sl) (d : D) (S : Store) : Out (Option D) :=
  match g d r S with
  | none => .no
  | some r1 => (t r1 S).bindN fun b S1 => if b = true then (e r1 S1).bindN fun x S2 => if x.isRef = true then .no else .ok (some x) S2 else .ok none S1
section
variable {g : Dg} {t : Dt} {e : De} {r : Sl} {d : D} {S : Store}
theorem compF_cons {ds : List D} {o : Option D} {S1 S2 : Store} {xs : List D} (h : oneC g t e r d S = .ok o S1) (h2 : compF g t e r ds S1 = .ok xs S2) : compF g t e r (d :: ds) S = .ok (o.toList ++ xs) S2 := by
  show stepC g t e r d (compF g t e r ds) S = _
  unfold oneC at h
  unfold stepC
  cases hg : g d r S with
  | none => rw [hg] at h; cases h
  | some r1 =>
    rw [hg] at h
    simp only at h ⊢
    cases ht : t r1 S with
    | ok b S3 =>
      rw [ht] at h
      simp only [bindN_ok] at h ⊢
      cases b with
      | false =>
        simp only [Bool.false_eq_true, if_false] at h ⊢
        cases h
        rw [h2]; rfl
      | true =>
        simp only [if_true] at h ⊢
        cases he : e r1 S3 with
        | ok x S4 =>
          rw [he] at h
          simp only [bindN_ok] at h ⊢
          by_cases hx : x.isRef = true
          · rw [if_pos hx] at h; cases h
          · rw [if_neg hx] at h ⊢
            cases h
            rw [h2]; rfl
        | _ => rw [he] at h; cases h
    | _ => rw [ht] at h; cases h
def rdAll {α : Type} (rd : D → Option α) : List D → Option (List α)
  | [] => some []
  | d :: ds => match rd d, rdAll rd ds with
    | some a, some l => some (a :: l)
    | _, _ => none
theorem rdAll_cons {α : Type} {rd : D → Option α} {ds : List D} {l : List α} (h : rdAll rd (d :: ds) = some l) : ∃ a l', l = a :: l' ∧ rd d = some a ∧ rdAll rd ds = some l' := by
  unfold rdAll at h
  split at h
  · rename_i a l' e1 e2
    cases h; exact ⟨a, l', rfl, e1, e2⟩
  · cases h
theorem rdAll_mk {α : Type} {rd : D → Option α} {ds : List D} {a : α} {l : List α} (h1 : rd d = some a) (h2 : rdAll rd ds = some l) : rdAll rd (d :: ds) = some (a :: l) := by simp only [rdAll, h1, h2]
theorem rdAll_no1 {α : Type} {rd : D → Option α} {ds : List D} (h1 : rd d = none) : rdAll rd (d :: ds) = none := by simp only [rdAll, h1]
theorem rdAll_no2 {α : Type} {rd : D → Option α} {ds : List D} (h1 : rdAll rd ds = none) : rdAll rd (d :: ds) = none := by
  unfold rdAll; rw [h1]; cases rd d <;> rfl
theorem rdAll_map {α : Type} {rd : D → Option α} {en : α → D} (h : ∀ a, rd (en a) = some a) : ∀ l : List α, rdAll rd (l.map en) = some l
  | [] => rfl
  | a :: l => by show (match rd (en a), rdAll rd (l.map en) with | some a, some l => some (a :: l) | _, _ => none) = _; rw [h, rdAll_map h l]
/-- items that are read; each gives at most one -/
theorem compF_rd {α : Type} {rd : D → Option α} {f : α → Option D} : ∀ {ds : List D} {l : List α}, rdAll rd ds = some l → (∀ d a, a ∈ l → rd d = some a → oneC g t e r d S = .ok (f a) S) → compF g t e r ds S = .ok (l.filterMap f) S
  | [], _, h, _ => by cases h; rfl
  | d :: ds, _, h, st => by
    obtain ⟨a, l', rfl, h1, h2⟩ := rdAll_cons h
    rw [compF_cons (st d a (List.mem_cons_self ..) h1) (compF_rd h2 fun d b m q => st d b (List.mem_cons_of_mem _ m) q)]
    congr 1
    rw [List.filterMap_cons]
    cases f a <;> rfl
/-- .. each gives one -/
theorem compF_rdA {α : Type} {rd : D → Option α} {f : α → D} {ds : List D} {l : List α} (h : rdAll rd ds = some l) (st : ∀ d a, a ∈ l → rd d = some a → oneC g t e r d S = .ok (some (f a)) S) : compF g t e r ds S = .ok (l.map f) S := by
  rw [compF_rd (f := fun a => some (f a)) h st]
  congr 1
  rw [List.filterMap_eq_map']
/-- items that are made -/
theorem compF_en {α : Type} {en : α → D} {f : α → Option D} : ∀ {l : List α}, (∀ a ∈ l, oneC g t e r (en a) S = .ok (f a) S) → compF g t e r (l.map en) S = .ok (l.filterMap f) S
  | [], _ => rfl
  | a :: l, st => by
    rw [List.map_cons, compF_cons (st a (List.mem_cons_self ..)) (compF_en fun b m => st b (List.mem_cons_of_mem _ m))]
    congr 1
    rw [List.filterMap_cons]
    cases f a <;> rfl
theorem compF_enA {α : Type} {en : α → D} {f : α → D} {l : List α} (st : ∀ a ∈ l, oneC g t e r (en a) S = .ok (some (f a)) S) : compF g t e r (l.map en) S = .ok (l.map f) S := by
  rw [compF_en (f := fun a => some (f a)) st]
  congr 1
  rw [List.filterMap_eq_map']
/-- a comprehension that changes the store -/
theorem wp_compF {Q : List D → Store → Prop} : ∀ {xs : List D} {S : Store} (I : List D → Store → Prop), I [] S → (∀ acc d S, d ∈ xs → I acc S → wp (oneC g t e r d S) fun o S1 => I (acc ++ o.toList) S1) → (∀ acc S, I acc S → Q acc S) → wp (compF g t e r xs S) Q
  | [], S, I, h0, _, hq => ⟨[], S, rfl, hq _ _ h0⟩
  | d :: xs, S, I, h0, st, hq => by
    obtain ⟨o, S1, e1, h1⟩ := st [] d S (List.mem_cons_self ..) h0
    obtain ⟨ys, S2, e2, h2⟩ := wp_compF (xs := xs) (S := S1) (Q := fun ys S => Q (o.toList ++ ys) S) (fun acc S => I (o.toList ++ acc) S) (by simpa using h1) (fun acc d S m h => by
      have := st (o.toList ++ acc) d S (List.mem_cons_of_mem _ m) h
      simpa [List.append_assoc] using this) fun acc S h => hq _ _ h
    exact ⟨_, S2, compF_cons e1 e2, h2⟩
theorem one_ok {x : D} {r1 : Sl} {S1 S2 : Store} (h1 : g d r S = some r1) (h2 : t r1 S = .ok true S1) (h3 : e r1 S1 = .ok x S2) (h4 : x.isRef = false) : oneC g t e r d S = .ok (some x) S2 := by
  unfold oneC; simp only [h1, h2, bindN_ok, if_true, h3, h4, Bool.false_eq_true, if_false]
theorem one_yes {x : D} {r1 : Sl} {S2 : Store} (h1 : g d r S = some r1) (h3 : e r1 S = .ok x S2) (h4 : x.isRef = false) : oneC g dYes e r d S = .ok (some x) S2 := one_ok h1 rfl h3 h4
theorem one_if {x : D} {r1 : Sl} {b : Bool} (h1 : g d r S = some r1) (h2 : t r1 S = .ok b S) (h3 : b = true → e r1 S = .ok x S) (h4 : x.isRef = false) : oneC g t e r d S = .ok (if b then some x else none) S := by
  unfold oneC; simp only [h1, h2, bindN_ok]
  cases b with
  | false => rfl
  | true => simp only [if_true, h3 rfl, bindN_ok, h4, Bool.false_eq_true, if_false]
end
theorem wp_loopF {g : Dg} {B : Ds} {Q : Fl → Store → Prop} : ∀ {xs : List D} {r : Sl} {S : Store} (I : Nat → Sl → Store → Prop), I 0 r S →
    (∀ i d r S, xs[i]? = some d → I i r S → ∃ r1, g d r S = some r1 ∧ wp (B r1 S) fun fl S1 => match fl with
      | .nx r2 => I (i + 1) r2 S1
      | .ct r2 => I (i + 1) r2 S1
      | .bk r2 => Q (.nx r2) S1
      | .rt v => Q (.rt v) S1) → (∀ r S, I xs.length r S → Q (.nx r) S) → wp (loopF g B xs r S) Q
  | [], r, S, I, h0, _, hq => ⟨_, _, rfl, hq _ _ h0⟩
  | d :: xs, r, S, I, h0, st, hq => by
    obtain ⟨r1, e1, fl, S1, e2, h⟩ := st 0 d r S rfl h0
    have go : ∀ r2 S1, I 1 r2 S1 → wp (loopF g B xs r2 S1) Q := fun r2 S1 h =>
      wp_loopF (fun i => I (i + 1)) h (fun i d r S e q => st (i + 1) d r S (by simpa using e) q) fun r S q => hq r S (by simpa using q)
    unfold loopF
    rw [e1]
    simp only [e2, Out.bind_ok]
    cases fl with
    | nx r2 => exact go r2 S1 h
    | ct r2 => exact go r2 S1 h
    | bk r2 => exact ⟨_, _, rfl, h⟩
    | rt v => exact ⟨_, _, rfl, h⟩
def rdSeq : D → Option (List D)
  | .tup xs => some xs
  | .lst xs => some xs
  | _ => none
section
variable {d : D} {xs : List D} {S : Store} {r : Sl}
theorem rd_it (h : rdSeq d = some xs) : itOf d S = .ok (.fix xs) S := by cases d <;> first | (cases h; rfl) | cases h
theorem rd_len (h : rdSeq d = some xs) : gLen S [d] = some (.int xs.length) := by cases d <;> first | (cases h; rfl) | cases h
theorem rd_tu {n : Nat} {k : Dgs} (h : rdSeq d = some xs) (hn : xs.length = n) : gTu n k d r S = k xs r S := by
  cases d <;> first | (cases h; subst hn; exact if_pos rfl) | cases h
theorem rd_ix {i : Int} (h : rdSeq d = some xs) : gIx S d (.int i) = atI xs i := by cases d <;> first | (cases h; rfl) | cases h
theorem rd_list (h : rdSeq d = some xs) : gList S [d] = some xs := by cases d <;> first | (cases h; rfl) | cases h
end
section
variable {r : Sl} {S : Store} {d : D} {b n : Nat} {f : Ds}
theorem ev_Blk : sBlk f r S = blkO S.length (f r S) := rfl
theorem ek_blkNx : blkO b (.ok (.nx r) S) = .ok (.nx (frzR b S r)) (S.take b) := rfl
theorem ek_blkRt : blkO b (.ok (.rt d) S) = .ok (.rt (frzD b S d)) (S.take b) := rfl
theorem ek_blkBk : blkO b (.ok (.bk r) S) = .ok (.bk (frzR b S r)) (S.take b) := rfl
theorem ek_blkCt : blkO b (.ok (.ct r) S) = .ok (.ct (frzR b S r)) (S.take b) := rfl
theorem frz_nil : frzR b S [] = [] := by simp only [frzR, List.map_nil]
theorem frz_some : frzR b S (some d :: r) = some (frzD b S d) :: frzR b S r := by simp only [frzR, List.map_cons]
theorem frz_none : frzR b S (none :: r) = none :: frzR b S r := by simp only [frzR, List.map_cons]
theorem frz_int {i} : frzD b S (.int i) = .int i := by simp only [frzD]
theorem frz_bl {i} : frzD b S (.bl i) = .bl i := by simp only [frzD]
theorem frz_str {i} : frzD b S (.str i) = .str i := by simp only [frzD]
theorem frz_non : frzD b S .non = .non := by simp only [frzD]
theorem frz_tup {xs} : frzD b S (.tup xs) = .tup xs := by simp only [frzD]
theorem frz_lst {xs} : frzD b S (.lst xs) = .lst xs := by simp only [frzD]
theorem frz_set {xs} : frzD b S (.set xs) = .set xs := by simp only [frzD]
theorem frz_dct {ks vs} : frzD b S (.dct ks vs) = .dct ks vs := by simp only [frzD]
theorem frz_new (h : ¬ n < b) (e : S[n]? = some d) : frzD b S (.ref n) = d := by unfold frzD; simp only [if_neg h, e]
def dctF (kv : List D × List D) (S : Store) : Out D := .ok (.dct kv.1 kv.2) S
def dctM (kv : List D × List D) (S : Store) : Out D := .ok (.ref S.length) (S ++ [.dct kv.1 kv.2])
def optD (o : Option (List D × List D)) (S : Store) : Out (List D × List D) := match o with
  | some kv => .ok kv S
  | none => .no
def kCallD (g : Store → List D → Option (List D × List D)) (ds : List D) (S : Store) : Out (List D × List D) := optD (g S ds) S
theorem ev_FzD {f : Dd} : dFzD f r S = (f r S).bind dctF := rfl
theorem ev_MuD {f : Dd} : dMuD f r S = (f r S).bind dctM := rfl
theorem ek_dctF {kv} : dctF kv S = .ok (.dct kv.1 kv.2) S := rfl
theorem ek_dctM {kv} : dctM kv S = .ok (.ref S.length) (S ++ [.dct kv.1 kv.2]) := rfl
theorem ev_Emp : dEmp r S = .ok ([], []) S := rfl
theorem ev_CallD {g} {fa : Da} : dCallD g fa r S = (fa r S).bind (kCallD g) := rfl
theorem ek_CallD {g ds} : kCallD g ds S = optD (g S ds) S := rfl
theorem ev_optD {kv} : optD (some kv) S = .ok kv S := rfl
def kMet2 (g : Store → D → List D → Option D) (o : D) (ds : List D) (S : Store) : Out D := opt (g S o ds) S
def kMet (g : Store → D → List D → Option D) (fa : Da) (r : Sl) (o : D) (S : Store) : Out D := if isDct S o = false then .no else (fa r S).bind (kMet2 g o)
theorem ev_Met {g} {fo : De} {fa : Da} : dMet g fo fa r S = (fo r S).bind (kMet g fa r) := rfl
theorem ek_Met {g} {fa : Da} (h : isDct S d = true) : kMet g fa r d S = (fa r S).bind (kMet2 g d) := by unfold kMet; rw [h]; rfl
theorem ek_Met2 {g ds} : kMet2 g d ds S = opt (g S d ds) S := rfl
theorem isDct_dct {ks vs} : isDct S (.dct ks vs) = true := by simp only [isDct, view]
theorem isDct_ref {ks vs} (h : S[n]? = some (.dct ks vs)) : isDct S (.ref n) = true := by
  unfold isDct; rw [show view S (.ref n) = .dct ks vs by show (S[n]?).getD .non = _; rw [h]; rfl]
end
theorem take_self {S : Store} : S.take S.length = S := List.take_length
theorem take_app {S T : Store} : (S ++ T).take S.length = S := List.take_left
end Ws
namespace Ws
open PySem L2
class En (α : Type) extends BEq α, LawfulBEq α where
  en : α → D
  lt : α → α → Bool
  dep : Nat
  eqv_en : ∀ a b, (en a).eqv (en b) = (a == b)
  lt_en : ∀ a b, ltD (en a) (en b) = lt a b
  irr : ∀ a, lt a a = false
  trans : ∀ a b c, lt a b = true → lt b c = true → lt a c = true
  tri : ∀ a b, lt a b = false → lt b a = false → a = b
  shp : ∀ a, (en a).shp dep = true
  nr : ∀ a, (en a).isRef = false
  kk : α → NestedKey
  key_en : ∀ a, (en a).key = some (kk a)
  kdep : ∀ a, (kk a).depth ≤ dep
open En (en)
section
variable {α : Type} [En α]
theorem lt_asymm {a b : α} (h : En.lt a b = true) : En.lt b a = false := by
  cases e : En.lt b a with
  | false => rfl
  | true => have := En.trans a b a h e; rw [En.irr] at this; cases this
/-- a ≤ b -/
def le (a b : α) : Prop := En.lt b a = false
theorem le_trans' {a b c : α} (h1 : le a b) (h2 : le b c) : le a c := by
  unfold le at *
  cases e : En.lt c a with
  | false => rfl
  | true =>
    cases e2 : En.lt a b with
    | true => have := En.trans c a b e e2; rw [h2] at this; cases this
    | false => have := En.tri a b e2 h1; subst this; rw [h2] at e; cases e
theorem le_of_lt' {a b : α} (h : En.lt a b = true) : le a b := lt_asymm h
theorem le_anti {a b : α} (h1 : le a b) (h2 : le b a) : a = b := En.tri a b h2 h1
def insE (x : α) : List α → List α
  | [] => [x]
  | y :: r => if En.lt y x then y :: insE x r else x :: y :: r
def srt : List α → List α
  | [] => []
  | x :: r => insE x (srt r)
theorem insD_en (x : α) : ∀ l : List α, insD (en x) (l.map en) = (insE x l).map en
  | [] => rfl
  | y :: l => by
    show (if ltD (en y) (en x) then en y :: insD (en x) (l.map en) else en x :: en y :: l.map en) = _
    rw [En.lt_en, insD_en x l, insE]
    split <;> rfl
theorem isort_en : ∀ l : List α, isort (l.map en) = (srt l).map en
  | [] => rfl
  | x :: l => by show insD (en x) (isort (l.map en)) = _; rw [isort_en l, insD_en]; rfl
theorem insE_perm (x : α) : ∀ l : List α, (insE x l).Perm (x :: l)
  | [] => .refl _
  | y :: l => by
    unfold insE
    split
    · exact ((insE_perm x l).cons y).trans (.swap ..)
    · exact .refl _
theorem srt_perm : ∀ l : List α, (srt l).Perm l
  | [] => .refl _
  | x :: l => (insE_perm x _).trans ((srt_perm l).cons x)
theorem insE_sorted (x : α) : ∀ {l : List α}, l.Pairwise le → (insE x l).Pairwise le
  | [], _ => by simp [insE]
  | y :: l, h => by
    unfold insE
    have h' := List.pairwise_cons.mp h
    split
    · rename_i c
      refine List.pairwise_cons.mpr ⟨fun z m => ?_, insE_sorted x h'.2⟩
      rcases List.mem_cons.mp ((insE_perm x l).mem_iff.mp m) with rfl | m
      · exact le_of_lt' c
      · exact h'.1 z m
    · rename_i c
      refine List.pairwise_cons.mpr ⟨fun z m => ?_, h⟩
      have c : le x y := by unfold le; simpa using c
      rcases List.mem_cons.mp m with rfl | m
      · exact c
      · exact le_trans' c (h'.1 z m)
theorem srt_sorted : ∀ l : List α, (srt l).Pairwise le
  | [] => .nil
  | x :: l => insE_sorted x (srt_sorted l)
theorem sorted_eq {l l' : List α} (p : l.Perm l') (h : l.Pairwise le) (h' : l'.Pairwise le) : l = l' :=
  List.Perm.eq_of_pairwise (le := le) (fun _ _ _ _ h1 h2 => le_anti h1 h2) h h' p
theorem srt_len (l : List α) : (srt l).length = l.length := (srt_perm l).length_eq
theorem mem_srt {l : List α} {a : α} : a ∈ srt l ↔ a ∈ l := (srt_perm l).mem_iff
/-- strictly rising -/
abbrev Ris (l : List α) : Prop := l.Pairwise fun a b => En.lt a b = true
theorem Ris.le {l : List α} (h : Ris l) : l.Pairwise le := h.imp fun h => le_of_lt' h
theorem Ris.nodup {l : List α} (h : Ris l) : l.Nodup := h.imp fun {a b} h e => by subst e; rw [En.irr] at h; cases h
theorem ris_of {l : List α} (h : l.Pairwise le) (n : l.Nodup) : Ris l := (h.and n).imp fun {a b} ⟨h, n⟩ => by
  cases e : En.lt a b with
  | true => rfl
  | false => exact absurd (En.tri a b e h) n
theorem srt_ris {l : List α} (h : l.Nodup) : Ris (srt l) := ris_of (srt_sorted l) ((srt_perm l).nodup_iff.mpr h)
theorem ris_eq {l l' : List α} (h : Ris l) (h' : Ris l') (m : ∀ a, a ∈ l ↔ a ∈ l') : l = l' := sorted_eq ((List.perm_ext_iff_of_nodup h.nodup h'.nodup).mpr m) h.le h'.le
/-- each once -/
def ded : List α → List α
  | [] => []
  | x :: r => if r.contains x then ded r else x :: ded r
theorem anyEq_en {a : α} : ∀ l : List α, anyEq (en a) (l.map en) = l.contains a
  | [] => rfl
  | b :: l => by
    show ((en b).eqv (en a) || anyEq (en a) (l.map en)) = _
    rw [En.eqv_en, anyEq_en l, List.contains_cons]
    congr 1
    exact Bool.eq_iff_iff.mpr ⟨fun h => by rw [eq_of_beq h]; exact beq_self_eq_true _, fun h => by rw [eq_of_beq h]; exact beq_self_eq_true _⟩
theorem dedup_en : ∀ l : List α, dedupD (l.map en) = (ded l).map en
  | [] => rfl
  | x :: l => by
    show (if anyEq (en x) (l.map en) then dedupD (l.map en) else en x :: dedupD (l.map en)) = _
    rw [anyEq_en, dedup_en l, ded]
    split <;> rfl
theorem mem_ded {a : α} : ∀ {l : List α}, a ∈ ded l ↔ a ∈ l
  | [] => Iff.rfl
  | x :: l => by
    unfold ded
    split
    · rename_i c
      rw [mem_ded, List.mem_cons]
      exact ⟨.inr, fun h => h.elim (fun e => by rw [e]; exact List.contains_iff_mem.mp c) id⟩
    · rw [List.mem_cons, List.mem_cons, mem_ded]
theorem ded_nodup : ∀ l : List α, (ded l).Nodup
  | [] => List.nodup_nil
  | x :: l => by
    unfold ded
    split
    · exact ded_nodup l
    · rename_i c
      exact List.nodup_cons.mpr ⟨fun m => c (List.contains_iff_mem.mpr (mem_ded.mp m)), ded_nodup l⟩
/-- sorted(set(l)) -/
def srs (l : List α) : List α := srt (ded l)
theorem srs_ris (l : List α) : Ris (srs l) := srt_ris (ded_nodup l)
theorem mem_srs {l : List α} {a : α} : a ∈ srs l ↔ a ∈ l := mem_srt.trans mem_ded
theorem srs_congr {l l' : List α} (h : ∀ a, a ∈ l ↔ a ∈ l') : srs l = srs l' := ris_eq (srs_ris l) (srs_ris l') fun a => mem_srs.trans ((h a).trans mem_srs.symm)
theorem noRefs_en : ∀ l : List α, noRefs (l.map en) = true
  | [] => rfl
  | a :: l => by show (!(en a).isRef && noRefs (l.map en)) = true; rw [En.nr, noRefs_en l]; rfl
theorem shps_en : ∀ (l : List α) , D.shps (l.map en) (En.dep α) = true
  | [] => rfl
  | a :: l => by show ((en a).shp _ && D.shps (l.map en) _) = true; rw [En.shp, shps_en l]; rfl
end
mutual
theorem shp_mono : ∀ (d : D) {n m : Nat}, n ≤ m → d.shp n = true → d.shp m = true
  | .non, _, _, _, _ => rfl
  | .bl _, _, _, _, _ => rfl
  | .int _, _, _, _, _ => rfl
  | .str _, _, _, _, h => h
  | .tup xs, 0, _, _, h => by simp [D.shp] at h
  | .tup xs, n + 1, 0, hm, h => absurd hm (by omega)
  | .tup xs, n + 1, m + 1, hm, h => by simp only [D.shp] at h ⊢; exact shps_mono xs (by omega) h
  | .lst xs, 0, _, _, h => by simp [D.shp] at h
  | .lst xs, n + 1, 0, hm, h => absurd hm (by omega)
  | .lst xs, n + 1, m + 1, hm, h => by simp only [D.shp] at h ⊢; exact shps_mono xs (by omega) h
  | .set _, _, _, _, h => by simp [D.shp] at h
  | .seti _, _, _, _, h => by simp [D.shp] at h
  | .dct _ _, _, _, _, h => by simp [D.shp] at h
  | .tupw _, _, _, _, h => by simp [D.shp] at h
  | .scr _, _, _, _, h => by simp [D.shp] at h
  | .ref _, _, _, _, h => by simp [D.shp] at h
theorem shps_mono : ∀ (ds : List D) {n m : Nat}, n ≤ m → D.shps ds n = true → D.shps ds m = true
  | [], _, _, _, _ => rfl
  | d :: r, n, m, hm, h => by
    simp only [D.shps, Bool.and_eq_true] at h ⊢
    exact ⟨shp_mono d hm h.1, shps_mono r hm h.2⟩
end
instance : En Int where
  en := .int
  lt a b := decide (a < b)
  dep := 0
  eqv_en _ _ := rfl
  lt_en _ _ := rfl
  irr a := by simp
  trans a b c h1 h2 := by simp at *; omega
  tri a b h1 h2 := by simp at *; omega
  shp _ := rfl
  nr _ := rfl
  kk := .num
  key_en _ := rfl
  kdep _ := Nat.le_refl _
theorem map_int_en (l : List Int) : l.map D.int = l.map en := rfl
section
variable {α β : Type} [En α] [En β]
instance : En (α × β) where
  en p := .tup [en p.1, en p.2]
  lt p q := if p.1 == q.1 then En.lt p.2 q.2 else En.lt p.1 q.1
  dep := max (En.dep α) (En.dep β) + 1
  eqv_en p q := by
    show ((en p.1).eqv (en q.1) && ((en p.2).eqv (en q.2) && true)) = _
    rw [En.eqv_en, En.eqv_en, Bool.and_true]; rfl
  lt_en p q := by
    show (if (en p.1).eqv (en q.1) then (if (en p.2).eqv (en q.2) then false else ltD (en p.2) (en q.2)) else ltD (en p.1) (en q.1)) = _
    rw [En.eqv_en, En.eqv_en, En.lt_en, En.lt_en]
    split
    · split
      · rename_i h; rw [eq_of_beq h, En.irr]
      · rfl
    · rfl
  irr p := by show (if p.1 == p.1 then En.lt p.2 p.2 else En.lt p.1 p.1) = false; rw [En.irr, En.irr]; simp
  trans p q s h1 h2 := by
    by_cases e1 : p.1 = q.1
    · by_cases e2 : q.1 = s.1
      · simp only [e1, e2, beq_self_eq_true, if_true] at *
        exact En.trans _ _ _ h1 h2
      · have n2 : (q.1 == s.1) = false := by simpa using e2
        rw [e1, n2]
        simpa [n2] using h2
    · have n1 : (p.1 == q.1) = false := by simpa using e1
      rw [n1] at h1
      simp only [Bool.false_eq_true, if_false] at h1
      by_cases e2 : q.1 = s.1
      · rw [← e2, n1]
        simpa using h1
      · have n2 : (q.1 == s.1) = false := by simpa using e2
        rw [n2] at h2
        simp only [Bool.false_eq_true, if_false] at h2
        have h3 := En.trans _ _ _ h1 h2
        have n3 : (p.1 == s.1) = false := by
          cases e : p.1 == s.1 with
          | false => rfl
          | true => rw [eq_of_beq e, En.irr] at h3; cases h3
        rw [n3]
        simpa using h3
  tri p q h1 h2 := by
    by_cases e1 : p.1 = q.1
    · simp only [e1, beq_self_eq_true, if_true] at h1 h2
      exact Prod.ext e1 (En.tri _ _ h1 h2)
    · have n1 : (p.1 == q.1) = false := by simpa using e1
      have n2 : (q.1 == p.1) = false := by simpa using fun e => e1 e.symm
      rw [n1] at h1; rw [n2] at h2
      simp only [Bool.false_eq_true, if_false] at h1 h2
      exact absurd (En.tri _ _ h1 h2) e1
  shp p := by
    show ((en p.1).shp _ && ((en p.2).shp _ && true)) = true
    rw [shp_mono _ (Nat.le_max_left ..) (En.shp p.1), shp_mono _ (Nat.le_max_right ..) (En.shp p.2)]; rfl
  nr _ := rfl
  kk p := .tup [En.kk p.1, En.kk p.2]
  key_en p := by
    show (D.keys [en p.1, en p.2]).map NestedKey.tup = _
    rw [keys_mk (En.key_en p.1) (keys_mk (En.key_en p.2) rfl)]; rfl
  kdep p := by
    have h1 := En.kdep p.1
    have h2 := En.kdep p.2
    simp only [NestedKey.depth, NestedKey.depthAll]
    omega
def ltL : List α → List α → Bool
  | [], [] => false
  | [], _ :: _ => true
  | _ :: _, [] => false
  | a :: l, b :: m => if a == b then ltL l m else En.lt a b
theorem ltL_en : ∀ l m : List α, ltDs (l.map en) (m.map en) = ltL l m
  | [], [] => rfl
  | [], _ :: _ => rfl
  | _ :: _, [] => rfl
  | a :: l, b :: m => by
    show (if (en a).eqv (en b) then ltDs (l.map en) (m.map en) else ltD (en a) (en b)) = _
    rw [En.eqv_en, En.lt_en, ltL_en l m]; rfl
theorem eqvs_en : ∀ l m : List α, D.eqvs (l.map en) (m.map en) = (l == m)
  | [], [] => rfl
  | [], _ :: _ => rfl
  | _ :: _, [] => rfl
  | a :: l, b :: m => by
    show ((en a).eqv (en b) && D.eqvs (l.map en) (m.map en)) = _
    rw [En.eqv_en, eqvs_en l m]; rfl
theorem ltL_irr : ∀ l : List α, ltL l l = false
  | [] => rfl
  | a :: l => by unfold ltL; simp [ltL_irr l]
theorem ltL_trans : ∀ l m k : List α, ltL l m = true → ltL m k = true → ltL l k = true
  | [], [], _, h, _ => by cases h
  | [], _ :: _, [], _, h => by cases h
  | [], _ :: _, _ :: _, _, _ => rfl
  | _ :: _, [], _, h, _ => by cases h
  | _ :: _, _ :: _, [], _, h => by cases h
  | a :: l, b :: m, c :: k, h1, h2 => by
    unfold ltL at *
    by_cases e1 : a = b
    · subst e1
      by_cases e2 : a = c
      · subst e2
        simp only [beq_self_eq_true, if_true] at *
        exact ltL_trans l m k h1 h2
      · have n2 : (a == c) = false := by simpa using e2
        rw [n2] at h2 ⊢
        exact h2
    · have n1 : (a == b) = false := by simpa using e1
      rw [n1] at h1
      simp only [Bool.false_eq_true, if_false] at h1
      by_cases e2 : b = c
      · subst e2
        rw [n1]; simpa using h1
      · have n2 : (b == c) = false := by simpa using e2
        rw [n2] at h2
        simp only [Bool.false_eq_true, if_false] at h2
        have h3 := En.trans _ _ _ h1 h2
        have n3 : (a == c) = false := by
          cases e : a == c with
          | false => rfl
          | true => rw [eq_of_beq e, En.irr] at h3; cases h3
        rw [n3]
        simpa using h3
theorem ltL_tri : ∀ l m : List α, ltL l m = false → ltL m l = false → l = m
  | [], [], _, _ => rfl
  | [], _ :: _, h, _ => by cases h
  | _ :: _, [], _, h => by cases h
  | a :: l, b :: m, h1, h2 => by
    unfold ltL at *
    by_cases e1 : a = b
    · subst e1
      simp only [beq_self_eq_true, if_true] at *
      rw [ltL_tri l m h1 h2]
    · have n1 : (a == b) = false := by simpa using e1
      have n2 : (b == a) = false := by simpa using fun e => e1 e.symm
      rw [n1] at h1; rw [n2] at h2
      simp only [Bool.false_eq_true, if_false] at h1 h2
      exact absurd (En.tri _ _ h1 h2) e1
instance : En (List α) where
  en l := .tup (l.map en)
  lt := ltL
  dep := En.dep α + 1
  eqv_en l m := eqvs_en l m
  lt_en l m := ltL_en l m
  irr := ltL_irr
  trans := ltL_trans
  tri := ltL_tri
  shp l := shps_en l
  nr _ := rfl
  kk l := .tup (l.map En.kk)
  key_en l := by
    have : ∀ l : List α, D.keys (l.map en) = some (l.map En.kk) := fun l => by
      induction l with
      | nil => rfl
      | cons a l ih => exact keys_mk (En.key_en a) ih
    show (D.keys (l.map en)).map NestedKey.tup = _
    rw [this]; rfl
  kdep l := by
    have : ∀ l : List α, NestedKey.depthAll (l.map En.kk) ≤ En.dep α := fun l => by
      induction l with
      | nil => exact Nat.zero_le _
      | cons a l ih => have := En.kdep a; simp only [List.map_cons, NestedKey.depthAll]; omega
    have := this l
    simp only [NestedKey.depth]
    omega
end
abbrev Pt := Int × Int
abbrev Pic := List Pt
/-- read: tuples or lists -/
def rdInt : D → Option Int
  | .int i => some i
  | _ => none
def rdPair {α β : Type} (f : D → Option α) (g : D → Option β) (d : D) : Option (α × β) := match rdSeq d with
  | some [x, y] => match f x, g y with
    | some a, some b => some (a, b)
    | _, _ => none
  | _ => none
def rdL {α : Type} (f : D → Option α) (d : D) : Option (List α) := match rdSeq d with
  | some xs => rdAll f xs
  | none => none
abbrev rdPt : D → Option Pt := rdPair rdInt rdInt
abbrev rdPic : D → Option Pic := rdL rdPt
section
variable {α β : Type} {f : D → Option α} {g : D → Option β} {d : D}
theorem rdPair_some {p : α × β} (h : rdPair f g d = some p) : ∃ x y, rdSeq d = some [x, y] ∧ f x = some p.1 ∧ g y = some p.2 := by
  unfold rdPair at h
  split at h
  · rename_i x y e
    split at h
    · rename_i a b e1 e2
      cases h; exact ⟨x, y, e, e1, e2⟩
    · cases h
  · cases h
theorem rdL_some {l : List α} (h : rdL f d = some l) : ∃ xs, rdSeq d = some xs ∧ rdAll f xs = some l := by
  unfold rdL at h
  split at h
  · rename_i xs e; exact ⟨xs, e, h⟩
  · cases h
theorem rdInt_some {i : Int} (h : rdInt d = some i) : d = .int i := by cases d <;> first | (cases h; rfl) | cases h
theorem rdPt_some {p : Pt} (h : rdPt d = some p) : rdSeq d = some [.int p.1, .int p.2] := by
  obtain ⟨x, y, h1, h2, h3⟩ := rdPair_some h
  rw [rdInt_some h2, rdInt_some h3] at h1; exact h1
theorem rd_pt (p : Pt) : rdPt (en p) = some p := rfl
theorem rd_list' [En α] (hf : ∀ a, f (en a) = some a) (l : List α) : rdL f (en l) = some l := rdAll_map hf l
theorem rd_pic (l : Pic) : rdPic (en l) = some l := rd_list' rd_pt l
end
theorem atI_0 {α : Type} {x : α} {l : List α} : atI (x :: l) 0 = some x := by
  unfold atI ixN; simp
theorem atI_1 {α : Type} {x y : α} {l : List α} : atI (x :: y :: l) 1 = some y := by
  have h : (1 : Int) < (l.length : Int) + 1 + 1 := by omega
  unfold atI ixN; simp [h]
theorem lineOk_of {n : Nat} (h : n ≤ 1000000) : lineOk n = true := by
  unfold lineOk; rw [sizeLine_eq]; simp; omega
theorem sortOk_pt (l : Pic) : sortOk (l.map en) = true := by
  unfold sortOk
  have h1 : D.shps (l.map en) 58 = true := shps_mono _ (by decide) (shps_en l)
  have h2 : (l.map (en : Pt → D)).all D.isTup1 = true := by rw [List.all_eq_true]; intro d m; obtain ⟨p, _, rfl⟩ := List.mem_map.mp m; rfl
  have h3 : ∀ l : Pic, D.fitsA (l.map en) tmPt = true := fun l => by
    induction l with
    | nil => rfl
    | cons p l ih => show (D.fits (en p) tmPt && D.fitsA (l.map en) tmPt) = true; rw [ih]; rfl
  rw [h1, h2]
  show (true && (true || _) && (D.fitsA (l.map en) tmPt || _)) = true
  rw [h3]; rfl
theorem sorted_pt {S : Store} (l : Pic) : gSorted S [.lst (l.map en)] = some ((srt l).map en) := by
  show (if sortOk (l.map en) then some (isort (l.map en)) else none) = _
  rw [sortOk_pt, isort_en]; rfl
theorem keyTup_of {d : D} {xs : List D} {k : NestedKey} (e : d = .tup xs) (hk : d.key = some k) (hd : k.depth ≤ 8) : keyTup d = true := by
  subst e
  simp only [D.key, Option.map_eq_some_iff] at hk
  obtain ⟨ks, h1, rfl⟩ := hk
  unfold keyTup
  simp only [h1, decide_eq_true_eq]
  exact hd
section
variable {α β : Type} [En α] [En β]
theorem kt_pair (h : En.dep (α × β) ≤ 8) (p : α × β) : keyTup (en p) = true := keyTup_of rfl (En.key_en p) (Nat.le_trans (En.kdep p) h)
theorem setOk_en (kt : ∀ a : α, keyTup (en a) = true) {l : List α} (h : l.length ≤ 1000) : setOk (l.map en) = true := by
  unfold setOk
  rw [List.length_map, decide_eq_true h, Bool.true_and, List.all_eq_true]
  intro d m
  obtain ⟨a, _, rfl⟩ := List.mem_map.mp m
  exact kt a
theorem set_enL (kt : ∀ a : α, keyTup (en a) = true) {S : Store} {l : List α} (h : l.length ≤ 1000) : gSet S [.lst (l.map en)] = some (.set ((ded l).map en)) := by
  show (if setOk (l.map en) then some (D.set (dedupD (l.map en))) else _) = _
  rw [setOk_en kt h, dedup_en]; rfl
theorem sorted_set (so : ∀ l : List α, sortOk (l.map en) = true) {S : Store} {l : List α} (h : l.length < 4000) : gSorted S [.set (l.map en)] = some ((srt l).map en) := by
  show (if sortOk (l.map en) && decide ((l.map en).length < 4000) then some (isort (l.map en)) else none) = _
  rw [so, isort_en, List.length_map, decide_eq_true h]; rfl
theorem ded_len : ∀ l : List α, (ded l).length ≤ l.length
  | [] => Nat.le_refl _
  | x :: l => by
    have := ded_len l
    unfold ded
    split
    · simp; omega
    · simp; omega
end
theorem kt_pt (p : Pt) : keyTup (en p) = true := kt_pair (by decide) p
theorem set_ptL {S : Store} {l : Pic} (h : l.length ≤ 1000) : gSet S [.lst (l.map en)] = some (.set ((ded l).map en)) := set_enL kt_pt h
theorem sorted_spt {S : Store} {l : Pic} (h : (ded l).length < 4000) : gSorted S [.set ((ded l).map en)] = some ((srs l).map en) := sorted_set sortOk_pt h
theorem blsOf_en : ∀ l : List Bool, blsOf (l.map D.bl) = some l
  | [] => rfl
  | a :: l => by show (blsOf (l.map D.bl)).map (a :: ·) = _; rw [blsOf_en l]; rfl
theorem all_en {S : Store} {l : List Bool} : gAll S [.lst (l.map D.bl)] = some (.bl (l.all id)) := by
  show (blsOf (l.map D.bl)).map _ = _
  rw [blsOf_en]; rfl
theorem all_true {S : Store} {xs : List D} (h : ∀ x ∈ xs, x = .bl true) : gAll S [.lst xs] = some (.bl true) := by
  have : xs = (xs.map fun _ => true).map D.bl := by
    rw [List.map_map]
    exact (List.map_id xs).symm.trans (List.map_congr_left fun x m => h x m)
  rw [this, all_en]
  congr 2
  rw [List.all_eq_true]; intro b m; obtain ⟨_, _, rfl⟩ := List.mem_map.mp m; rfl
section
variable {S : Store} {a b c d : D} {n : Nat} {xs : List D} {fo : De} {fa : Da} {r : Sl}
theorem nr_int {i} : (D.int i).isRef = false := by simp only [D.isRef]
theorem nr_bl {i} : (D.bl i).isRef = false := by simp only [D.isRef]
theorem nr_str {i} : (D.str i).isRef = false := by simp only [D.isRef]
theorem nr_non : D.non.isRef = false := by simp only [D.isRef]
theorem nr_tup {i} : (D.tup i).isRef = false := by simp only [D.isRef]
theorem nr_lst {i} : (D.lst i).isRef = false := by simp only [D.isRef]
theorem noRefs_nil : noRefs [] = true := by simp only [noRefs]
theorem noRefs_cons {ds} : noRefs (d :: ds) = (!d.isRef && noRefs ds) := by simp only [noRefs]
theorem ev_ck (h : noRefs xs = true) (h2 : xs.length ≤ 1000) : chk xs S = .ok xs S := by
  unfold chk; rw [h, lineOk_of (by omega)]; rfl
theorem ev_mk (h : noRefs xs = true) (h2 : xs.length ≤ 1000) : mkTup xs S = .ok (.tup xs) S := by
  unfold mkTup; rw [h, lineOk_of (by omega)]; rfl
theorem ev_ck0 : chk [] S = .ok [] S := rfl
theorem ev_mk0 : mkTup [] S = .ok (.tup []) S := rfl
theorem ev_mk1 (h : a.isRef = false) : mkTup [a] S = .ok (.tup [a]) S := ev_mk (by simp [noRefs, h]) (by simp)
theorem ev_mk2 (h : a.isRef = false) (h2 : b.isRef = false) : mkTup [a, b] S = .ok (.tup [a, b]) S := ev_mk (by simp [noRefs, h, h2]) (by simp)
theorem ev_mk3 (h : a.isRef = false) (h2 : b.isRef = false) (h3 : c.isRef = false) : mkTup [a, b, c] S = .ok (.tup [a, b, c]) S := ev_mk (by simp [noRefs, h, h2, h3]) (by simp)
theorem ev_mk4 (h : a.isRef = false) (h2 : b.isRef = false) (h3 : c.isRef = false) (h4 : d.isRef = false) : mkTup [a, b, c, d] S = .ok (.tup [a, b, c, d]) S := ev_mk (by simp [noRefs, h, h2, h3, h4]) (by simp)
theorem take_set {b : D} : (S.set n b).take S.length = S.set n b := List.take_of_length_le (by simp)
theorem ev_tu2 {k : Dgs} : gTu 2 k (.tup [a, b]) r S = k [a, b] r S := rfl
theorem ev_tu2w {k : Dgs} : gTu 2 k (.tupw [a, b]) r S = k [a, b] r S := rfl
theorem ev_tu2L {k : Dgs} : gTu 2 k (.lst [a, b]) r S = k [a, b] r S := rfl
theorem ev_tu3 {k : Dgs} : gTu 3 k (.tup [a, b, c]) r S = k [a, b, c] r S := rfl
theorem ev_tu4 {k : Dgs} : gTu 4 k (.tup [a, b, c, d]) r S = k [a, b, c, d] r S := rfl
theorem ev_pick0 {α : Type} {xs : List α} : pick [] xs = [] := rfl
theorem ev_pick {α : Type} {xs : List α} {i : Nat} {p : List Nat} : pick (i :: p) xs = (match xs[i]? with | some x => x :: pick p xs | none => pick p xs) := by
  unfold pick; rw [List.filterMap_cons]; cases xs[i]? <;> rfl
theorem get_set {e : D} (h : S[n]? = some e) : (S.set n b)[n]? = some b := List.getElem?_set_self (List.getElem?_eq_some_iff.mp h).1
theorem view_at (h : S[n]? = some b) : view S (.ref n) = b := by show (S[n]?).getD .non = b; rw [h]; rfl
theorem ref_ix {i : Int} (h : S[n]? = some (.lst xs)) : gIx S (.ref n) (.int i) = atI xs i := by unfold gIx; rw [view_at h]
theorem ref_len (h : S[n]? = some (.lst xs)) : gLen S [.ref n] = some (.int xs.length) := by unfold gLen; simp only [view_at h]
theorem ref_set {i : Int} {j : Nat} (h : S[n]? = some (.lst xs)) (hi : ixN xs.length i = some j) (hd : d.isRef = false) : setAt S (.ref n) (.int i) d = some (S.set n (.lst (xs.set j d))) := by
  unfold setAt; simp only [h, hi, hd, Bool.false_eq_true, if_false]
theorem ref_tru (h : S[n]? = some (.lst xs)) : truO (.ref n) S = .ok (!xs.isEmpty) S := by unfold truO truD; rw [view_at h]
theorem isL_ref (h : S[n]? = some (.lst xs)) : isLref S (.ref n) = true := by unfold isLref; simp only [h]
theorem app_ref (h : S[n]? = some (.lst xs)) (hd : d.isRef = false) (hl : xs.length ≤ 999999) : appAt S (.ref n) d = some (S.set n (.lst (xs ++ [d]))) := by
  unfold appAt; simp only [h, hd, lineOk_of (show xs.length + 1 ≤ 1000000 by omega)]; rfl
theorem pop_ref {k : Int} {j : Nat} (h : S[n]? = some (.lst xs)) (hi : ixN xs.length k = some j) (hj : xs[j]? = some d) : popAt S (.ref n) [.int k] = some (d, S.set n (.lst (xs.eraseIdx j))) := by
  unfold popAt; simp only [h, hi, hj]
def appO (o : D) (ds : List D) (S : Store) : Out D := match ds with
  | [d] => match appAt S o d with
    | some S' => .ok .non S'
    | none => .no
  | _ => .no
def kApp (fa : Da) (r : Sl) (o : D) (S : Store) : Out D := if isLref S o = false then .no else (fa r S).bind (appO o)
theorem ev_App : dApp fo fa r S = (fo r S).bind (kApp fa r) := rfl
theorem ek_App (h : isLref S a = true) : kApp fa r a S = (fa r S).bind (appO a) := by unfold kApp; rw [h]; rfl
theorem ev_app {S'} (h : appAt S a d = some S') : appO a [d] S = .ok .non S' := by unfold appO; simp only [h]
def popO (o : D) (ds : List D) (S : Store) : Out D := match popAt S o ds with
  | some p => .ok p.1 p.2
  | none => .no
def kPop (fa : Da) (r : Sl) (o : D) (S : Store) : Out D := if isLref S o = false then .no else (fa r S).bind (popO o)
theorem ev_Pop : dPop fo fa r S = (fo r S).bind (kPop fa r) := rfl
theorem ek_Pop (h : isLref S a = true) : kPop fa r a S = (fa r S).bind (popO a) := by unfold kPop; rw [h]; rfl
theorem ev_pop {S'} {ds : List D} (h : popAt S a ds = some (d, S')) : popO a ds S = .ok d S' := by unfold popO; simp only [h]
theorem ixN_nat {m j : Nat} (h : j < m) : ixN m (j : Int) = some j := by
  unfold ixN; simp; omega
theorem ixN_of {m : Nat} {v : Int} (h0 : 0 ≤ v) (h : v < m) : ixN m v = some v.toNat := by
  obtain ⟨j, rfl⟩ := Int.eq_ofNat_of_zero_le h0
  rw [ixN_nat (by omega)]; rfl
theorem atI_of {α : Type} {l : List α} {v : Int} (h0 : 0 ≤ v) (h : v < l.length) : atI l v = l[v.toNat]? := by
  unfold atI; rw [ixN_of h0 h]; rfl
theorem compF_all {g : Dg} {t : Dt} {e : De} {f : D → D} (st : ∀ d ∈ xs, oneC g t e r d S = .ok (some (f d)) S) : compF g t e r xs S = .ok (xs.map f) S := by
  have := compF_enA (en := id) (f := f) (l := xs) st
  rwa [List.map_id] at this
theorem ran1_ok {j : Int} (h0 : 0 ≤ j) (h : j ≤ 1000000) : ran1 [.int j] S = .ok (.fix (rngD 0 j.toNat)) S := by
  unfold ran1 smallR
  simp only [decide_eq_true (show -4611686018427387904 ≤ j by omega), decide_eq_true (show j < 4611686018427387904 by omega), lineOk_of (show j.toNat ≤ 1000000 by omega)]; rfl
theorem ran1_nat {j : Nat} (h : j ≤ 1000000) : ran1 [.int (j : Int)] S = .ok (.fix (rngD 0 j)) S := by
  have := ran1_ok (S := S) (j := (j : Int)) (by omega) (by omega)
  rw [Int.toNat_natCast] at this
  exact this
theorem rng_len : ∀ (n : Nat) (lo : Int), (rngD lo n).length = n
  | 0, _ => rfl
  | n + 1, lo => by simp [rngD, rng_len n]
theorem rng_get : ∀ (n : Nat) (lo : Int) (i : Nat), i < n → (rngD lo n)[i]? = some (.int (lo + i))
  | 0, _, _, h => absurd h (Nat.not_lt_zero _)
  | n + 1, lo, 0, _ => by simp [rngD]
  | n + 1, lo, i + 1, h => by
    show (rngD (lo + 1) n)[i]? = _
    rw [rng_get n (lo + 1) i (by omega)]; congr 2; omega
theorem rng_at {n : Nat} {lo : Int} {i : Nat} {d : D} (h : (rngD lo n)[i]? = some d) : i < n ∧ d = .int (lo + i) := by
  have hl := (List.getElem?_eq_some_iff.mp h).1
  rw [rng_len] at hl
  rw [rng_get n lo i hl] at h
  exact ⟨hl, (Option.some.inj h).symm⟩
/-- a range, as numbers -/
def rgI (lo : Int) : Nat → List Int
  | 0 => []
  | n + 1 => lo :: rgI (lo + 1) n
theorem rng_en : ∀ (n : Nat) (lo : Int), rngD lo n = (rgI lo n).map D.int
  | 0, _ => rfl
  | n + 1, lo => by show D.int lo :: rngD (lo + 1) n = _; rw [rng_en n (lo + 1)]; rfl
theorem mem_rgI {i : Int} : ∀ {n : Nat} {lo : Int}, i ∈ rgI lo n ↔ lo ≤ i ∧ i < lo + n
  | 0, lo => by simp only [rgI, List.not_mem_nil, false_iff]; omega
  | n + 1, lo => by simp [rgI, mem_rgI (n := n)]; omega
theorem rgI_len : ∀ (n : Nat) (lo : Int), (rgI lo n).length = n
  | 0, _ => rfl
  | n + 1, lo => by simp [rgI, rgI_len n]
end
/-- from numbers mapped back -/
theorem perm_map_inv {α β : Type} {f : α → β} {ys : List β} {l : List α} (h : ys.Perm (l.map f)) : ∃ m : List α, ys = m.map f ∧ m.Perm l := by
  have gen : ∀ (l : List α) (ys : List β), (l.map f).Perm ys → ∃ m : List α, ys = m.map f ∧ m.Perm l := by
    intro l
    induction l with
    | nil => intro ys h; exact ⟨[], by simpa using h.symm.eq_nil, .refl _⟩
    | cons a l ih =>
      intro ys h
      have hm : f a ∈ ys := h.mem_iff.mp (by simp)
      obtain ⟨s, t, rfl⟩ := List.append_of_mem hm
      have h2 : (l.map f).Perm (s ++ t) := by
        have := h.trans List.perm_middle
        exact (List.perm_cons (f a)).mp this
      obtain ⟨m, e, pm⟩ := ih _ h2
      refine ⟨m.take s.length ++ a :: m.drop s.length, ?_, ?_⟩
      · have e1 : s = (m.take s.length).map f := by rw [List.map_take, ← e]; simp
        have e2 : t = (m.drop s.length).map f := by rw [List.map_drop, ← e]; simp
        rw [List.map_append, List.map_cons, ← e1, ← e2]
      · refine List.perm_middle.trans ?_
        rw [List.take_append_drop]
        exact pm.cons a
  exact gen l ys h.symm
theorem set_same {α : Type} : ∀ {l : List α} {n : Nat} {b : α}, l[n]? = some b → l.set n b = l
  | [], _, _, h => by simp at h
  | x :: l, 0, b, h => by simp at h; subst h; rfl
  | x :: l, n + 1, b, h => by rw [List.set_cons_succ, set_same (by simpa using h)]
theorem erase_perm {α : Type} : ∀ {l : List α} {j : Nat} (h : j < l.length), (l[j] :: l.eraseIdx j).Perm l
  | [], _, h => absurd h (Nat.not_lt_zero _)
  | x :: l, 0, _ => .refl _
  | x :: l, j + 1, h => by
    have h' : j < l.length := by simpa using h
    show (l[j] :: x :: l.eraseIdx j).Perm (x :: l)
    exact (List.Perm.swap ..).trans ((erase_perm h').cons x)
end Ws
namespace Ws
open PySem L2
open En (en)
def boxB (c : Int) : Ds := sSeq (sAsg (dIf (dTest (dOp gLtA (dVar 1) (dCall gLen (dCons (dVar 0) dNil)))) (dOp gIx (dVar 0) (dVar 1)) (dC (.int 0))) (gNm 2)) (sRet (dMu (dChk (dCons (dOp gMul (dCall gAbs (dCons (dVar 2) dNil)) (dCall gInt (dCons (dOp gGe (dCall gAbs (dCons (dVar 2) dNil)) (dOp gPow (dC (.int 10)) (dC (.int 18)))) dNil))) (dCons (dOp gAdd (dOp gAdd (dOp gMod (dCall gInt (dCons (dVar 2) dNil)) (dC (.int 2305843009213693951))) (dOp gMul (dC (.int 39373)) (dVar 1))) (dC (.int c))) (dCons (dC (.int 0)) dNil))))))
def boxF (c : Int) : Df := dDefM 2 1 (boxB c)
theorem U_box {c : Int} {x0 x1 : D} {S : Store} : boxF c [x0, x1] S = endM (boxB c [some x0, some x1, none] S) := dDefM_eq (B := boxB c) rfl
def B__law_take : Ds := sSeq (sIf (dTest (dOp gGt (dOp gIx (dVar 0) (dC (.int 0))) (dC (.int 0)))) (sSeq (sAsg (dOp gMod (dCall gInt (dCons (dOp gIx (dVar 0) (dC (.int 0))) dNil)) (dVar 1)) (gNm 2)) (sSeq (sSetIx (dVar 0) (dC (.int 0)) (dOp gFdiv (dOp gIx (dVar 0) (dC (.int 0))) (dVar 1))) (sRet (dVar 2)))) sNil) (sSeq (sSetIx (dVar 0) (dC (.int 2)) (dOp gAdd (dOp gIx (dVar 0) (dC (.int 2))) (dC (.int 1)))) (sSeq (sAsg (dOp gMod (dCall gInt (dCons (dOp gMul (dOp gAdd (dOp gIx (dVar 0) (dC (.int 1))) (dOp gMul (dC (.int 48271)) (dOp gIx (dVar 0) (dC (.int 2))))) (dOp gAdd (dC (.int 39373)) (dOp gIx (dVar 0) (dC (.int 2))))) dNil)) (dC (.int 2147483647))) (gNm 3)) (sSeq (sAsg (dOp gAdd (dOp gMod (dCall gInt (dCons (dVar 3) dNil)) (dC (.int 40009))) (dC (.int 7))) (gNm 4)) (sSeq (sAsg (dOp gMod (dCall gInt (dCons (dOp gMul (dOp gAdd (dOp gAdd (dVar 3) (dOp gIx (dVar 0) (dC (.int 2)))) (dOp gFdiv (dOp gIx (dVar 0) (dC (.int 1))) (dC (.int 1000003)))) (dVar 4)) dNil)) (dC (.int 2147483629))) (gNm 5)) (sRet (dOp gMod (dCall gInt (dCons (dOp gFdiv (dOp gMod (dCall gInt (dCons (dOp gAdd (dOp gMul (dVar 5) (dC (.int 48271))) (dVar 3)) dNil)) (dC (.int 2147483587))) (dC (.int 64))) dNil)) (dVar 1)))))))
def F__law_take : Df := dDef 2 4 B__law_take
theorem U__law_take {x0 x1 : D} {S : Store} : F__law_take [x0, x1] S = endD S.length (B__law_take [some x0, some x1, none, none, none, none] S) := dDef_eq (B := B__law_take) rfl
def B__law_cells : Ds := sSeq (sAsg (dOrB (dMu (dCallN gList (dCons (dSl (dVar 0) oNone (oSome (dVar 1))) dNil))) (dMu (dChk (dCons (dC (.int 0)) dNil)))) (gNm 2)) (sSeq (sFor (iEnu (dCons (dSl (dVar 0) (oSome (dVar 1)) (oSome (dC (.int 63)))) dNil)) (gTu 2 (gsCons (gNm 3) (gsCons (gNm 4) gsNil))) (sSeq (sAsg (dOp gMod (dCall gInt (dCons (dVar 3) dNil)) (dVar 1)) (gNm 5)) (sSetIx (dVar 2) (dVar 5) (dOp gAdd (dOp gIx (dVar 2) (dVar 5)) (dOp gMul (dVar 4) (dOp gAdd (dVar 3) (dC (.int 2)))))))) (sRet (dVar 2)))
def F__law_cells : Df := dDefM 2 4 B__law_cells
theorem U__law_cells {x0 x1 : D} {S : Store} : F__law_cells [x0, x1] S = endM (B__law_cells [some x0, some x1, none, none, none, none] S) := dDefM_eq (B := B__law_cells) rfl
def B__law_of : Ds := sRet (dOp gIx (dVar 1) (dFn F__law_take (dCons (dVar 0) (dCons (dCall gLen (dCons (dVar 1) dNil)) dNil))))
def F__law_of : Df := dDef 2 0 B__law_of
theorem U__law_of {x0 x1 : D} {S : Store} : F__law_of [x0, x1] S = endD S.length (B__law_of [some x0, some x1] S) := dDef_eq (B := B__law_of) rfl
def B__law_pick : Ds := sSeq (sPar [3, 4] (dCons (dMu (dCallN gList (dCons (dVar 1) dNil))) (dCons (dMu (dChk dNil)) dNil))) (sSeq (sFor (iRan1 (dCons (dCall gMin (dCons (dVar 2) (dCons (dCall gLen (dCons (dVar 3) dNil)) dNil))) dNil)) (gNm 5) (sDrop (dApp (dVar 4) (dCons (dPop (dVar 3) (dCons (dFn F__law_take (dCons (dVar 0) (dCons (dCall gLen (dCons (dVar 3) dNil)) dNil))) dNil)) dNil)))) (sRet (dVar 4)))
def F__law_pick : Df := dDef 3 3 B__law_pick
theorem U__law_pick {x0 x1 x2 : D} {S : Store} : F__law_pick [x0, x1, x2] S = endD S.length (B__law_pick [some x0, some x1, some x2, none, none, none] S) := dDef_eq (B := B__law_pick) rfl
def B__law_lists (F : Df) : Ds := sRet (dIf (dTruth (dIsi [.list, .tuple] (dVar 0))) (dFz (dComp [1] (iSeq (dVar 0)) (gNm 1) dYes (dFn F (dCons (dVar 1) dNil)))) (dVar 0))
def F__law_lists : Nat → Df
  | 0 => dNo
  | k + 1 => dDef 1 1 (B__law_lists (F__law_lists k))
theorem U__law_lists {k : Nat} {x0 : D} {S : Store} : F__law_lists (k + 1) [x0] S = endD S.length (B__law_lists (F__law_lists k) [some x0, none] S) := dDef_eq (B := B__law_lists (F__law_lists k)) rfl
def B__law_same (F : Df) : Ds := sSeq (sIf (dTruth (dIsi [.list, .tuple] (dVar 1))) (sSeq (sIf (dOrT (dTest (dOp gNe (dIsi [.list] (dVar 0)) (dIsi [.list] (dVar 1)))) (dTest (dOp gNe (dIsi [.tuple] (dVar 0)) (dIsi [.tuple] (dVar 1))))) (sRet (dC (.bl false))) sNil) (sRet (dAndB (dOp gEq (dCall gLen (dCons (dVar 0) dNil)) (dCall gLen (dCons (dVar 1) dNil))) (dCall gAll (dCons (dFz (dComp [3, 4] (iZipD (dCons (dVar 0) (dCons (dVar 1) dNil))) (gTu 2 (gsCons (gNm 3) (gsCons (gNm 4) gsNil))) dYes (dFn F (dCons (dVar 3) (dCons (dVar 4) dNil))))) dNil))))) sNil) (sSeq (sIf (dTruth (dIsi [.dict] (dVar 1))) (sSeq (sIf (dOrT (dNotT (dTruth (dIsi [.dict] (dVar 0)))) (dTest (dOp gNe (dFz (dCallN gSorted (dCons (dVar 0) dNil))) (dFz (dCallN gSorted (dCons (dVar 1) dNil)))))) (sRet (dC (.bl false))) sNil) (sRet (dCall gAll (dCons (dFz (dComp [2] (iSeq (dVar 1)) (gNm 2) dYes (dFn F (dCons (dOp gIx (dVar 0) (dVar 2)) (dCons (dOp gIx (dVar 1) (dVar 2)) dNil))))) dNil)))) sNil) (sSeq (sIf (dOrT (dTest (dOp gIsN (dVar 1) (dC .non))) (dTruth (dIsi [.bool, .str] (dVar 1)))) (sRet (dAndB (dOp gEq (dVar 0) (dVar 1)) (dAndB (dOp gEq (dIsi [.bool] (dVar 0)) (dIsi [.bool] (dVar 1))) (dOp gEq (dOp gIsN (dVar 0) (dC .non)) (dOp gIsN (dVar 1) (dC .non)))))) sNil) (sRet (dAndB (dIsi [.int] (dVar 0)) (dAndB (dNotB (dIsi [.bool] (dVar 0))) (dOp gEq (dVar 0) (dVar 1)))))))
def F__law_same : Nat → Df
  | 0 => dNo
  | k + 1 => dDef 2 3 (B__law_same (F__law_same k))
theorem U__law_same {k : Nat} {x0 x1 : D} {S : Store} : F__law_same (k + 1) [x0, x1] S = endD S.length (B__law_same (F__law_same k) [some x0, some x1, none, none, none] S) := dDef_eq (B := B__law_same (F__law_same k)) rfl
def B__law_grid : Ds := sSeq (sAsg (dFz (dChk dNil)) (gNm 2)) (sSeq (sFor (iRan1 (dCons (dVar 0) dNil)) (gNm 3) (sAsg (dOp gAdd (dVar 2) (dFz (dComp [4] (iRan1 (dCons (dVar 1) dNil)) (gNm 4) dYes (dTup (dCons (dVar 3) (dCons (dVar 4) dNil)))))) (gNm 2))) (sRet (dVar 2)))
def F__law_grid : Df := dDef 2 3 B__law_grid
theorem U__law_grid {x0 x1 : D} {S : Store} : F__law_grid [x0, x1] S = endD S.length (B__law_grid [some x0, some x1, none, none, none] S) := dDef_eq (B := B__law_grid) rfl
def B__law_ink : Ds := sSeq (sAsg (dFn F__law_pick (dCons (dVar 0) (dCons (dFn F__law_grid (dCons (dVar 2) (dCons (dVar 3) dNil))) (dCons (dFn F__law_take (dCons (dVar 0) (dCons (dOp gAdd (dVar 1) (dC (.int 1))) dNil))) dNil)))) (gNm 4)) (sSeq (sAsg (dTup (dCons (dFn F__law_of (dCons (dVar 0) (dCons (dFz (dChk (dCons (dC (.int 0)) (dCons (dC (.int 0)) (dCons (dUn gNeg (dC (.int 1))) (dCons (dC (.int 7)) (dCons (dUn gNeg (dC (.int 3))) (dCons (dOp gPow (dC (.int 10)) (dC (.int 20))) (dCons (dOp gSub (dC (.int 5)) (dOp gPow (dC (.int 10)) (dC (.int 29)))) dNil))))))))) dNil))) (dCons (dFn F__law_of (dCons (dVar 0) (dCons (dFz (dChk (dCons (dC (.int 0)) (dCons (dC (.int 0)) (dCons (dUn gNeg (dC (.int 2))) (dCons (dC (.int 4)) (dCons (dOp gPow (dC (.int 10)) (dC (.int 20))) dNil))))))) dNil))) dNil))) (gTu 2 (gsCons (gNm 5) (gsCons (gNm 6) gsNil)))) (sRet (dCall gTuple (dCons (dFz (dCallN gSorted (dCons (dFz (dComp [7] (iSeq (dVar 4)) (gNm 7) dYes (dTup (dCons (dOp gAdd (dOp gIx (dVar 7) (dC (.int 0))) (dVar 5)) (dCons (dOp gAdd (dOp gIx (dVar 7) (dC (.int 1))) (dVar 6)) dNil))))) dNil))) dNil))))
def F__law_ink : Df := dDef 4 4 B__law_ink
theorem U__law_ink {x0 x1 x2 x3 : D} {S : Store} : F__law_ink [x0, x1, x2, x3] S = endD S.length (B__law_ink [some x0, some x1, some x2, some x3, none, none, none, none] S) := dDef_eq (B := B__law_ink) rfl
def Bx (c : Nat) (b : D) : Prop := ∃ x y k : Int, b = .lst [.int x, .int y, .int k] ∧ 0 ≤ x ∧ 0 ≤ y ∧ y < 2 ^ 62 ∧ 0 ≤ k ∧ k ≤ c
theorem Bx.mono {c c' : Nat} {b : D} (h : Bx c b) (hc : c ≤ c') : Bx c' b := by
  obtain ⟨x, y, k, e, h1, h2, h3, h4, h5⟩ := h
  exact ⟨x, y, k, e, h1, h2, h3, h4, by omega⟩
theorem small_of {i : Int} (h : -1152921504606846976 ≤ i) (h2 : i ≤ 9223372036854775808) : smallI i = true := by unfold smallI; simp; omega
theorem mulOk_l {i j : Int} (h : smallI i = true) : mulOk i j = true := by unfold mulOk; rw [h]; rfl
theorem mulOk_r {i j : Int} (h : smallI j = true) : mulOk i j = true := by unfold mulOk; rw [h]; simp
theorem pow10_18 {S : Store} : gPow S (.int 10) (.int 18) = some (.int 1000000000000000000) := rfl
/-- a new box -/
theorem box_ok {c k : Int} {S : Store} {m : Nat} {cs : List Int} (hm : S[m]? = some (.lst (cs.map D.int))) (h0 : 0 ≤ k) (hk : k < cs.length) (hl : cs.length ≤ 63) (hc : 0 ≤ c) (hc2 : c ≤ 1000000000) :
    ∃ b, boxF c [.ref m, .int k] S = .ok (.ref S.length) (S ++ [b]) ∧ Bx 0 b := by
  have hk2 : k.toNat < cs.length := by omega
  have hix : gIx S (.ref m) (.int k) = some (.int cs[k.toNat]) := by
    rw [ref_ix hm, atI_of h0 (by simpa using hk), List.getElem?_map, List.getElem?_eq_getElem hk2]; rfl
  have hlen := ref_len hm
  rw [List.length_map] at hlen
  rw [U_box]
  unfold boxB
  have h3 : decide (k < (cs.length : Int)) = true := decide_eq_true hk
  generalize cs[k.toNat] = z at hix
  have hz : mulOk (if z < 0 then -z else z) (if (decide (1000000000000000000 ≤ (if z < 0 then -z else z))) = true then 1 else 0) = true := by
    refine mulOk_r (small_of ?_ ?_) <;> split <;> omega
  have hz2 : mulOk 39373 k = true := mulOk_l rfl
  simp -implicitDefEqProofs only [ev_Blk, ek_blkNx, ek_blkRt, ek_blkBk, ek_blkCt, frz_nil, frz_some, frz_none, frz_int, frz_bl, frz_str, frz_non, frz_tup, frz_lst, frz_set, frz_dct, ev_FzD, ev_MuD, ek_dctF, ek_dctM, ev_Emp, ev_CallD, ek_CallD, ev_optD, ev_Met, ek_Met, ek_Met2, isDct_dct, ev_RevA, ek_RevAL, ek_RevAT, ev_RevN, ek_Rev, ev_Star, ek_StarL, ek_StarT, ek_Star2, ev_ltI, ek_Op, ek_Op2, ek_Un, ek_AndT, ek_AndF, ek_OrT, ek_OrF, ek_Not, ek_IfT, ek_IfF, ek_Cons, ek_Cons2, ek_Fz, ek_Mu, ek_Call, ek_CallN, ek_AddN, ek_AddN2, ek_Sl, ek_Sl2, ek_Sl3, ek_SlN, ek_SlN2, ek_SlN3, ek_FnK, ek_FnK2, ek_Len, ek_Asg, ek_Ret, ek_SIfT, ek_SIfF, ek_Drop, ek_Set, ek_Set2, ek_Set3, ek_OrB, ek_OrBT, ek_OrBF, ek_AndB, ek_AndBT, ek_AndBF, ek_NotB, ek_NotB2, ev_App, ev_Pop, ev_opt, ev_C, ev_Var, ev_Op, ev_Un, ev_Test, ev_test, ev_AndT, ev_OrT, ev_NotT, ev_If, ev_Truth, ev_truB, ev_truI, ev_truL, ev_truT, ev_truN, ev_OrB, ev_AndB, ev_NotB, ev_Nil, ev_Cons, ev_Tup, ev_Chk, ev_Fz, ev_Mu, ev_Call, ev_CallN, ev_optL, ev_AddN, ev_Isi, ev_oNone, ev_oSome, ev_oInt, ev_Sl, ev_SlN, ev_Fn, ev_FnK, ev_Len, ev_sNil, ev_Seq, ev_nx, ev_rt, ev_bk, ev_ct, ev_Asg, ev_nxO, ev_gNm, ev_gsNil, ev_gsCons, ev_Ret, ev_RetN, ev_sIf, ev_Drop, ev_Brk, ev_Cnt, ev_Par, ev_par2, ev_par3, ev_SetIx, ev_stO, ev_iSeq, ev_itL, ev_itT, ev_Ran1, ev_Ran2, ev_Enu, ev_enu, ev_Zip, ev_zipL, ev_zipT, ev_Comp, ev_fix, ev_Yes, ev_wipe0, ev_wipe, ev_For, ev_forF, ev_endRt, ev_endNx, ev_endM, ev_lvT, ev_lvL, ev_lvI, ev_lvB, ev_lvS, ev_lvN, ev_lvD, ev_addI, ev_subI, ev_negI, ev_eqI, ev_neI, ev_eqB, ev_neB, ev_cmpI, ev_isN, ev_isNotN, ev_lenL, ev_lenT, ev_tupL, ev_tupT, ev_lstL, ev_lstT, ev_int, ev_intB, ev_abs, ev_min2, ev_max2, ev_ixL, ev_ixT, Out.bind_ok, bindN_ok, Option.bind_some, List.set_cons_zero, List.set_cons_succ, List.getElem?_cons_zero, List.getElem?_cons_succ, ev_mk0, ev_mk1, ev_mk2, ev_mk3, ev_mk4, ev_ck0, ev_ck, Nat.zero_le, nr_int, nr_bl, nr_str, nr_non, nr_tup, nr_lst, En.nr, noRefs_nil, noRefs_cons, Bool.not_false, Bool.and_self, Bool.and_true, Bool.true_and, List.length_cons, List.length_nil, Nat.reduceAdd, Nat.reduceLeDiff, take_self, take_app, take_set, if_true, if_false, Bool.false_eq_true, Bool.not_true, atI_0, atI_1, ev_tu2, ev_tu2w, ev_tu2L, ev_tu3, ev_tu4, ev_pick0, ev_pick, List.nil_append, List.cons_append, hlen, h3, hix, pow10_18, ev_modI (show (0 : Int) < 2305843009213693951 by decide), ev_mulI hz, ev_mulI hz2]
  refine ⟨_, rfl, _, _, _, rfl, ?_, ?_, ?_, ?_, ?_⟩
  · refine Int.mul_nonneg ?_ ?_ <;> split <;> omega
  · have := Int.emod_nonneg z (show (2305843009213693951 : Int) ≠ 0 by decide); omega
  · have := Int.emod_lt_of_pos z (show (0 : Int) < 2305843009213693951 by decide); omega
  · exact Int.le_refl _
  · exact Int.le_refl _
/-- one draw -/
theorem take_ok {n c : Nat} {top : Int} {S : Store} {b : D} (hb : S[n]? = some b) (hx : Bx c b) (ht : 0 < top) (hc : c < 1000000000 := by omega) (ht2 : top < 18446744073709551616 := by omega) :
    ∃ v b', F__law_take [.ref n, .int top] S = .ok (.int v) (S.set n b') ∧ 0 ≤ v ∧ v < top ∧ Bx (c + 1) b' := by
  obtain ⟨x, y, k, rfl, hx0, hy0, hy1, hk0, hk1⟩ := hx
  rw [U__law_take]
  unfold B__law_take
  have s0 : ∀ v : Int, setAt S (.ref n) (.int 0) (.int v) = some (S.set n (.lst [.int v, .int y, .int k])) := fun v => by rw [ref_set hb (j := 0) rfl rfl]; rfl
  have s2 : ∀ v : Int, setAt S (.ref n) (.int 2) (.int v) = some (S.set n (.lst [.int x, .int y, .int v])) := fun v => by rw [ref_set hb (j := 2) rfl rfl]; rfl
  have a0 : gIx S (.ref n) (.int 0) = some (.int x) := ref_ix hb
  have a2 : gIx S (.ref n) (.int 2) = some (.int k) := ref_ix hb
  by_cases hp : 0 < x
  · have h3 : decide (0 < x) = true := decide_eq_true hp
    simp -implicitDefEqProofs only [ev_Blk, ek_blkNx, ek_blkRt, ek_blkBk, ek_blkCt, frz_nil, frz_some, frz_none, frz_int, frz_bl, frz_str, frz_non, frz_tup, frz_lst, frz_set, frz_dct, ev_FzD, ev_MuD, ek_dctF, ek_dctM, ev_Emp, ev_CallD, ek_CallD, ev_optD, ev_Met, ek_Met, ek_Met2, isDct_dct, ev_RevA, ek_RevAL, ek_RevAT, ev_RevN, ek_Rev, ev_Star, ek_StarL, ek_StarT, ek_Star2, ev_ltI, ek_Op, ek_Op2, ek_Un, ek_AndT, ek_AndF, ek_OrT, ek_OrF, ek_Not, ek_IfT, ek_IfF, ek_Cons, ek_Cons2, ek_Fz, ek_Mu, ek_Call, ek_CallN, ek_AddN, ek_AddN2, ek_Sl, ek_Sl2, ek_Sl3, ek_SlN, ek_SlN2, ek_SlN3, ek_FnK, ek_FnK2, ek_Len, ek_Asg, ek_Ret, ek_SIfT, ek_SIfF, ek_Drop, ek_Set, ek_Set2, ek_Set3, ek_OrB, ek_OrBT, ek_OrBF, ek_AndB, ek_AndBT, ek_AndBF, ek_NotB, ek_NotB2, ev_App, ev_Pop, ev_opt, ev_C, ev_Var, ev_Op, ev_Un, ev_Test, ev_test, ev_AndT, ev_OrT, ev_NotT, ev_If, ev_Truth, ev_truB, ev_truI, ev_truL, ev_truT, ev_truN, ev_OrB, ev_AndB, ev_NotB, ev_Nil, ev_Cons, ev_Tup, ev_Chk, ev_Fz, ev_Mu, ev_Call, ev_CallN, ev_optL, ev_AddN, ev_Isi, ev_oNone, ev_oSome, ev_oInt, ev_Sl, ev_SlN, ev_Fn, ev_FnK, ev_Len, ev_sNil, ev_Seq, ev_nx, ev_rt, ev_bk, ev_ct, ev_Asg, ev_nxO, ev_gNm, ev_gsNil, ev_gsCons, ev_Ret, ev_RetN, ev_sIf, ev_Drop, ev_Brk, ev_Cnt, ev_Par, ev_par2, ev_par3, ev_SetIx, ev_stO, ev_iSeq, ev_itL, ev_itT, ev_Ran1, ev_Ran2, ev_Enu, ev_enu, ev_Zip, ev_zipL, ev_zipT, ev_Comp, ev_fix, ev_Yes, ev_wipe0, ev_wipe, ev_For, ev_forF, ev_endRt, ev_endNx, ev_endM, ev_lvT, ev_lvL, ev_lvI, ev_lvB, ev_lvS, ev_lvN, ev_lvD, ev_addI, ev_subI, ev_negI, ev_eqI, ev_neI, ev_eqB, ev_neB, ev_cmpI, ev_isN, ev_isNotN, ev_lenL, ev_lenT, ev_tupL, ev_tupT, ev_lstL, ev_lstT, ev_int, ev_intB, ev_abs, ev_min2, ev_max2, ev_ixL, ev_ixT, Out.bind_ok, bindN_ok, Option.bind_some, List.set_cons_zero, List.set_cons_succ, List.getElem?_cons_zero, List.getElem?_cons_succ, ev_mk0, ev_mk1, ev_mk2, ev_mk3, ev_mk4, ev_ck0, ev_ck, Nat.zero_le, nr_int, nr_bl, nr_str, nr_non, nr_tup, nr_lst, En.nr, noRefs_nil, noRefs_cons, Bool.not_false, Bool.and_self, Bool.and_true, Bool.true_and, List.length_cons, List.length_nil, Nat.reduceAdd, Nat.reduceLeDiff, take_self, take_app, take_set, if_true, if_false, Bool.false_eq_true, Bool.not_true, atI_0, atI_1, ev_tu2, ev_tu2w, ev_tu2L, ev_tu3, ev_tu4, ev_pick0, ev_pick, List.nil_append, List.cons_append, a0, h3, ev_modI ht, ev_fdivI ht (show top < 2 ^ 64 by omega), s0]
    refine ⟨_, _, rfl, Int.emod_nonneg _ (by omega), Int.emod_lt_of_pos _ ht, _, _, _, rfl, ?_, hy0, hy1, hk0, by omega⟩
    exact Int.ediv_nonneg hx0 (by omega)
  · have h3 : decide (0 < x) = false := decide_eq_false hp
    have hb2 : (S.set n (.lst [.int x, .int y, .int (k + 1)]))[n]? = some (.lst [.int x, .int y, .int (k + 1)]) := get_set hb
    have b1 : gIx (S.set n (.lst [.int x, .int y, .int (k + 1)])) (.ref n) (.int 1) = some (.int y) := ref_ix hb2
    have b2 : gIx (S.set n (.lst [.int x, .int y, .int (k + 1)])) (.ref n) (.int 2) = some (.int (k + 1)) := ref_ix hb2
    have m1 : mulOk 48271 (k + 1) = true := mulOk_l rfl
    have m2 : mulOk (y + 48271 * (k + 1)) (39373 + (k + 1)) = true := mulOk_l (small_of (by omega) (by omega))
    have h5 : ∀ z : Int, 0 ≤ z % 2147483647 ∧ z % 2147483647 < 2147483647 := fun z => ⟨Int.emod_nonneg _ (by decide), Int.emod_lt_of_pos _ (by decide)⟩
    have m3 : ∀ i : Int, ∀ z : Int, mulOk i (z % 40009 + 7) = true := fun i z => mulOk_r (small_of (by have := Int.emod_nonneg z (show (40009 : Int) ≠ 0 by decide); omega) (by have := Int.emod_lt_of_pos z (show (0 : Int) < 40009 by decide); omega))
    have m4 : ∀ i : Int, mulOk i 48271 = true := fun i => mulOk_r rfl
    simp -implicitDefEqProofs only [ev_Blk, ek_blkNx, ek_blkRt, ek_blkBk, ek_blkCt, frz_nil, frz_some, frz_none, frz_int, frz_bl, frz_str, frz_non, frz_tup, frz_lst, frz_set, frz_dct, ev_FzD, ev_MuD, ek_dctF, ek_dctM, ev_Emp, ev_CallD, ek_CallD, ev_optD, ev_Met, ek_Met, ek_Met2, isDct_dct, ev_RevA, ek_RevAL, ek_RevAT, ev_RevN, ek_Rev, ev_Star, ek_StarL, ek_StarT, ek_Star2, ev_ltI, ek_Op, ek_Op2, ek_Un, ek_AndT, ek_AndF, ek_OrT, ek_OrF, ek_Not, ek_IfT, ek_IfF, ek_Cons, ek_Cons2, ek_Fz, ek_Mu, ek_Call, ek_CallN, ek_AddN, ek_AddN2, ek_Sl, ek_Sl2, ek_Sl3, ek_SlN, ek_SlN2, ek_SlN3, ek_FnK, ek_FnK2, ek_Len, ek_Asg, ek_Ret, ek_SIfT, ek_SIfF, ek_Drop, ek_Set, ek_Set2, ek_Set3, ek_OrB, ek_OrBT, ek_OrBF, ek_AndB, ek_AndBT, ek_AndBF, ek_NotB, ek_NotB2, ev_App, ev_Pop, ev_opt, ev_C, ev_Var, ev_Op, ev_Un, ev_Test, ev_test, ev_AndT, ev_OrT, ev_NotT, ev_If, ev_Truth, ev_truB, ev_truI, ev_truL, ev_truT, ev_truN, ev_OrB, ev_AndB, ev_NotB, ev_Nil, ev_Cons, ev_Tup, ev_Chk, ev_Fz, ev_Mu, ev_Call, ev_CallN, ev_optL, ev_AddN, ev_Isi, ev_oNone, ev_oSome, ev_oInt, ev_Sl, ev_SlN, ev_Fn, ev_FnK, ev_Len, ev_sNil, ev_Seq, ev_nx, ev_rt, ev_bk, ev_ct, ev_Asg, ev_nxO, ev_gNm, ev_gsNil, ev_gsCons, ev_Ret, ev_RetN, ev_sIf, ev_Drop, ev_Brk, ev_Cnt, ev_Par, ev_par2, ev_par3, ev_SetIx, ev_stO, ev_iSeq, ev_itL, ev_itT, ev_Ran1, ev_Ran2, ev_Enu, ev_enu, ev_Zip, ev_zipL, ev_zipT, ev_Comp, ev_fix, ev_Yes, ev_wipe0, ev_wipe, ev_For, ev_forF, ev_endRt, ev_endNx, ev_endM, ev_lvT, ev_lvL, ev_lvI, ev_lvB, ev_lvS, ev_lvN, ev_lvD, ev_addI, ev_subI, ev_negI, ev_eqI, ev_neI, ev_eqB, ev_neB, ev_cmpI, ev_isN, ev_isNotN, ev_lenL, ev_lenT, ev_tupL, ev_tupT, ev_lstL, ev_lstT, ev_int, ev_intB, ev_abs, ev_min2, ev_max2, ev_ixL, ev_ixT, Out.bind_ok, bindN_ok, Option.bind_some, List.set_cons_zero, List.set_cons_succ, List.getElem?_cons_zero, List.getElem?_cons_succ, ev_mk0, ev_mk1, ev_mk2, ev_mk3, ev_mk4, ev_ck0, ev_ck, Nat.zero_le, nr_int, nr_bl, nr_str, nr_non, nr_tup, nr_lst, En.nr, noRefs_nil, noRefs_cons, Bool.not_false, Bool.and_self, Bool.and_true, Bool.true_and, List.length_cons, List.length_nil, Nat.reduceAdd, Nat.reduceLeDiff, take_self, take_app, take_set, if_true, if_false, Bool.false_eq_true, Bool.not_true, atI_0, atI_1, ev_tu2, ev_tu2w, ev_tu2L, ev_tu3, ev_tu4, ev_pick0, ev_pick, List.nil_append, List.cons_append, a0, a2, h3, s2, b1, b2, ev_mulI m1, ev_mulI m2, ev_mulI (m3 _ _), ev_mulI (m4 _), ev_modI (show (0 : Int) < 2147483647 by decide), ev_modI (show (0 : Int) < 40009 by decide), ev_modI (show (0 : Int) < 2147483629 by decide), ev_modI (show (0 : Int) < 2147483587 by decide), ev_fdivI (show (0 : Int) < 1000003 by decide) (by decide), ev_fdivI (show (0 : Int) < 64 by decide) (by decide), ev_modI ht]
    exact ⟨_, _, rfl, Int.emod_nonneg _ (by omega), Int.emod_lt_of_pos _ ht, _, _, _, rfl, hx0, hy0, hy1, by omega, by omega⟩
/-- one of several -/
theorem of_ok {n c : Nat} {d : D} {xs : List D} {S : Store} {b : D} (hb : S[n]? = some b) (hx : Bx c b) (hd : rdSeq d = some xs) (hn : noRefs xs = true) (h1 : 0 < xs.length) (h2 : xs.length ≤ 1000000) (hc : c < 1000000000 := by omega) :
    ∃ v b', F__law_of [.ref n, d] S = .ok v (S.set n b') ∧ v ∈ xs ∧ Bx (c + 1) b' := by
  obtain ⟨v, b', e, hv0, hv1, hB⟩ := take_ok hb hx (top := xs.length) (by omega) hc
  rw [U__law_of]
  unfold B__law_of
  have hv2 : v.toNat < xs.length := by omega
  have hi : gIx (S.set n b') d (.int v) = some xs[v.toNat] := by rw [rd_ix hd, atI_of hv0 hv1, List.getElem?_eq_getElem hv2]
  have hr : (xs[v.toNat]).isRef = false := by
    have : ∀ (l : List D), noRefs l = true → ∀ x ∈ l, x.isRef = false := fun l => by
      induction l with
      | nil => intro _ x m; cases m
      | cons y l ih =>
        intro h x m
        simp only [noRefs, Bool.and_eq_true, Bool.not_eq_true'] at h
        rcases List.mem_cons.mp m with rfl | m
        · exact h.1
        · exact ih h.2 x m
    exact this xs hn _ (List.getElem_mem hv2)
  simp -implicitDefEqProofs only [ev_Blk, ek_blkNx, ek_blkRt, ek_blkBk, ek_blkCt, frz_nil, frz_some, frz_none, frz_int, frz_bl, frz_str, frz_non, frz_tup, frz_lst, frz_set, frz_dct, ev_FzD, ev_MuD, ek_dctF, ek_dctM, ev_Emp, ev_CallD, ek_CallD, ev_optD, ev_Met, ek_Met, ek_Met2, isDct_dct, ev_RevA, ek_RevAL, ek_RevAT, ev_RevN, ek_Rev, ev_Star, ek_StarL, ek_StarT, ek_Star2, ev_ltI, ek_Op, ek_Op2, ek_Un, ek_AndT, ek_AndF, ek_OrT, ek_OrF, ek_Not, ek_IfT, ek_IfF, ek_Cons, ek_Cons2, ek_Fz, ek_Mu, ek_Call, ek_CallN, ek_AddN, ek_AddN2, ek_Sl, ek_Sl2, ek_Sl3, ek_SlN, ek_SlN2, ek_SlN3, ek_FnK, ek_FnK2, ek_Len, ek_Asg, ek_Ret, ek_SIfT, ek_SIfF, ek_Drop, ek_Set, ek_Set2, ek_Set3, ek_OrB, ek_OrBT, ek_OrBF, ek_AndB, ek_AndBT, ek_AndBF, ek_NotB, ek_NotB2, ev_App, ev_Pop, ev_opt, ev_C, ev_Var, ev_Op, ev_Un, ev_Test, ev_test, ev_AndT, ev_OrT, ev_NotT, ev_If, ev_Truth, ev_truB, ev_truI, ev_truL, ev_truT, ev_truN, ev_OrB, ev_AndB, ev_NotB, ev_Nil, ev_Cons, ev_Tup, ev_Chk, ev_Fz, ev_Mu, ev_Call, ev_CallN, ev_optL, ev_AddN, ev_Isi, ev_oNone, ev_oSome, ev_oInt, ev_Sl, ev_SlN, ev_Fn, ev_FnK, ev_Len, ev_sNil, ev_Seq, ev_nx, ev_rt, ev_bk, ev_ct, ev_Asg, ev_nxO, ev_gNm, ev_gsNil, ev_gsCons, ev_Ret, ev_RetN, ev_sIf, ev_Drop, ev_Brk, ev_Cnt, ev_Par, ev_par2, ev_par3, ev_SetIx, ev_stO, ev_iSeq, ev_itL, ev_itT, ev_Ran1, ev_Ran2, ev_Enu, ev_enu, ev_Zip, ev_zipL, ev_zipT, ev_Comp, ev_fix, ev_Yes, ev_wipe0, ev_wipe, ev_For, ev_forF, ev_endRt, ev_endNx, ev_endM, ev_lvT, ev_lvL, ev_lvI, ev_lvB, ev_lvS, ev_lvN, ev_lvD, ev_addI, ev_subI, ev_negI, ev_eqI, ev_neI, ev_eqB, ev_neB, ev_cmpI, ev_isN, ev_isNotN, ev_lenL, ev_lenT, ev_tupL, ev_tupT, ev_lstL, ev_lstT, ev_int, ev_intB, ev_abs, ev_min2, ev_max2, ev_ixL, ev_ixT, Out.bind_ok, bindN_ok, Option.bind_some, List.set_cons_zero, List.set_cons_succ, List.getElem?_cons_zero, List.getElem?_cons_succ, ev_mk0, ev_mk1, ev_mk2, ev_mk3, ev_mk4, ev_ck0, ev_ck, Nat.zero_le, nr_int, nr_bl, nr_str, nr_non, nr_tup, nr_lst, En.nr, noRefs_nil, noRefs_cons, Bool.not_false, Bool.and_self, Bool.and_true, Bool.true_and, List.length_cons, List.length_nil, Nat.reduceAdd, Nat.reduceLeDiff, take_self, take_app, take_set, if_true, if_false, Bool.false_eq_true, Bool.not_true, atI_0, atI_1, ev_tu2, ev_tu2w, ev_tu2L, ev_tu3, ev_tu4, ev_pick0, ev_pick, List.nil_append, List.cons_append, rd_len hd, e, hi, leave_nr hr]
  exact ⟨_, _, rfl, List.getElem_mem hv2, hB⟩
theorem noRefs_mem : ∀ {l : List D}, noRefs l = true ↔ ∀ x ∈ l, x.isRef = false
  | [] => ⟨fun _ _ m => (nomatch m), fun _ => rfl⟩
  | y :: l => by
    simp only [noRefs, Bool.and_eq_true, Bool.not_eq_true', noRefs_mem (l := l), List.mem_cons, forall_eq_or_imp]
theorem of_en {α : Type} [En α] {n c : Nat} {l : List α} {S : Store} {b : D} (hb : S[n]? = some b) (hx : Bx c b) (h1 : 0 < l.length) (h2 : l.length ≤ 1000000) (hc : c < 1000000000 := by omega) :
    ∃ a b', F__law_of [.ref n, .lst (l.map en)] S = .ok (en a) (S.set n b') ∧ a ∈ l ∧ Bx (c + 1) b' := by
  obtain ⟨v, b', e, m, hB⟩ := of_ok (d := .lst (l.map en)) hb hx rfl (noRefs_en l) (by simpa using h1) (by simpa using h2) hc
  obtain ⟨a, ha, rfl⟩ := List.mem_map.mp m
  exact ⟨a, b', e, ha, hB⟩
/-- some of a pool, each place once -/
theorem pick_ok {n c : Nat} {d : D} {xs : List D} {k : Int} {S : Store} {b : D} (hb : S[n]? = some b) (hx : Bx c b) (hd : rdSeq d = some xs) (hn : noRefs xs = true) (h2 : xs.length ≤ 100000) (hk0 : 0 ≤ k) (hk : k ≤ 100000) (hc : c + 100000 < 1000000000 := by omega) :
    ∃ ys zs b', F__law_pick [.ref n, d, .int k] S = .ok (.lst ys) (S.set n b') ∧ (ys ++ zs).Perm xs ∧ ys.length = min k.toNat xs.length ∧ Bx (c + min k.toNat xs.length) b' := by
  have hnl := (List.getElem?_eq_some_iff.mp hb).1
  suffices h : wp (F__law_pick [.ref n, d, .int k] S) fun v T => ∃ ys zs b', v = .lst ys ∧ T = S.set n b' ∧ (ys ++ zs).Perm xs ∧ ys.length = min k.toNat xs.length ∧ Bx (c + min k.toNat xs.length) b' by
    obtain ⟨v, T, e, ys, zs, b', rfl, rfl, h⟩ := h
    exact ⟨ys, zs, b', e, h⟩
  rw [U__law_pick]
  unfold B__law_pick
  have g1 : ∀ (T : Store) (p q : D), T.length = S.length → (T ++ [p] ++ [q])[S.length]? = some p := fun T p q h => by
    rw [List.append_assoc, List.getElem?_append_right (by omega), h, Nat.sub_self]; rfl
  have g2 : ∀ (T : Store) (p q : D), T.length = S.length → (T ++ [p] ++ [q])[S.length + 1]? = some q := fun T p q h => by
    rw [List.append_assoc, List.getElem?_append_right (by omega), h, Nat.add_sub_cancel_left]; rfl
  have g3 : ∀ (T : Store) (p q : D), T.length = S.length → (T ++ [p] ++ [q])[n]? = T[n]? := fun T p q h => by
    rw [List.append_assoc, List.getElem?_append_left (by omega)]
  have w1 : ∀ (T : Store) (p q z : D), T.length = S.length → (T ++ [p] ++ [q]).set S.length z = T ++ [z] ++ [q] := fun T p q z h => by
    rw [List.append_assoc, List.append_assoc, List.set_append_right _ _ (by omega), h, Nat.sub_self]; rfl
  have w2 : ∀ (T : Store) (p q z : D), T.length = S.length → (T ++ [p] ++ [q]).set (S.length + 1) z = T ++ [p] ++ [z] := fun T p q z h => by
    rw [List.append_assoc, List.append_assoc, List.set_append_right _ _ (by omega), h, Nat.add_sub_cancel_left]; rfl
  have w3 : ∀ (T : Store) (p q z : D), T.length = S.length → (T ++ [p] ++ [q]).set n z = T.set n z ++ [p] ++ [q] := fun T p q z h => by
    rw [List.append_assoc, List.set_append_left _ _ (by omega), List.append_assoc]
  have hmin : (if (xs.length : Int) < k then (xs.length : Int) else k).toNat = min k.toNat xs.length := by split <;> omega
  have hmin0 : 0 ≤ (if (xs.length : Int) < k then (xs.length : Int) else k) := by split <;> omega
  have hmin1 : (if (xs.length : Int) < k then (xs.length : Int) else k) ≤ 1000000 := by split <;> omega
  have hl1 : (S ++ [D.lst xs]).length = S.length + 1 := by simp
  simp -implicitDefEqProofs only [ev_Blk, ek_blkNx, ek_blkRt, ek_blkBk, ek_blkCt, frz_nil, frz_some, frz_none, frz_int, frz_bl, frz_str, frz_non, frz_tup, frz_lst, frz_set, frz_dct, ev_FzD, ev_MuD, ek_dctF, ek_dctM, ev_Emp, ev_CallD, ek_CallD, ev_optD, ev_Met, ek_Met, ek_Met2, isDct_dct, ev_RevA, ek_RevAL, ek_RevAT, ev_RevN, ek_Rev, ev_Star, ek_StarL, ek_StarT, ek_Star2, ev_ltI, ek_Op, ek_Op2, ek_Un, ek_AndT, ek_AndF, ek_OrT, ek_OrF, ek_Not, ek_IfT, ek_IfF, ek_Cons, ek_Cons2, ek_Fz, ek_Mu, ek_Call, ek_CallN, ek_AddN, ek_AddN2, ek_Sl, ek_Sl2, ek_Sl3, ek_SlN, ek_SlN2, ek_SlN3, ek_FnK, ek_FnK2, ek_Len, ek_Asg, ek_Ret, ek_SIfT, ek_SIfF, ek_Drop, ek_Set, ek_Set2, ek_Set3, ek_OrB, ek_OrBT, ek_OrBF, ek_AndB, ek_AndBT, ek_AndBF, ek_NotB, ek_NotB2, ev_App, ev_Pop, ev_opt, ev_C, ev_Var, ev_Op, ev_Un, ev_Test, ev_test, ev_AndT, ev_OrT, ev_NotT, ev_If, ev_Truth, ev_truB, ev_truI, ev_truL, ev_truT, ev_truN, ev_OrB, ev_AndB, ev_NotB, ev_Nil, ev_Cons, ev_Tup, ev_Chk, ev_Fz, ev_Mu, ev_Call, ev_CallN, ev_optL, ev_AddN, ev_Isi, ev_oNone, ev_oSome, ev_oInt, ev_Sl, ev_SlN, ev_Fn, ev_FnK, ev_Len, ev_sNil, ev_Seq, ev_nx, ev_rt, ev_bk, ev_ct, ev_Asg, ev_nxO, ev_gNm, ev_gsNil, ev_gsCons, ev_Ret, ev_RetN, ev_sIf, ev_Drop, ev_Brk, ev_Cnt, ev_Par, ev_par2, ev_par3, ev_SetIx, ev_stO, ev_iSeq, ev_itL, ev_itT, ev_Ran1, ev_Ran2, ev_Enu, ev_enu, ev_Zip, ev_zipL, ev_zipT, ev_Comp, ev_fix, ev_Yes, ev_wipe0, ev_wipe, ev_For, ev_forF, ev_endRt, ev_endNx, ev_endM, ev_lvT, ev_lvL, ev_lvI, ev_lvB, ev_lvS, ev_lvN, ev_lvD, ev_addI, ev_subI, ev_negI, ev_eqI, ev_neI, ev_eqB, ev_neB, ev_cmpI, ev_isN, ev_isNotN, ev_lenL, ev_lenT, ev_tupL, ev_tupT, ev_lstL, ev_lstT, ev_int, ev_intB, ev_abs, ev_min2, ev_max2, ev_ixL, ev_ixT, Out.bind_ok, bindN_ok, Option.bind_some, List.set_cons_zero, List.set_cons_succ, List.getElem?_cons_zero, List.getElem?_cons_succ, ev_mk0, ev_mk1, ev_mk2, ev_mk3, ev_mk4, ev_ck0, ev_ck, Nat.zero_le, nr_int, nr_bl, nr_str, nr_non, nr_tup, nr_lst, En.nr, noRefs_nil, noRefs_cons, Bool.not_false, Bool.and_self, Bool.and_true, Bool.true_and, List.length_cons, List.length_nil, Nat.reduceAdd, Nat.reduceLeDiff, take_self, take_app, take_set, if_true, if_false, Bool.false_eq_true, Bool.not_true, atI_0, atI_1, ev_tu2, ev_tu2w, ev_tu2L, ev_tu3, ev_tu4, ev_pick0, ev_pick, List.nil_append, List.cons_append, rd_list hd, hl1, ref_len (g1 S _ _ rfl), ran1_ok hmin0 hmin1, hmin]
  have hlast : ∀ r T, (∃ x b' ys zs, r = [some (D.ref n), some d, some (.int k), some (.ref S.length), some (.ref (S.length + 1)), x] ∧ T = S.set n b' ++ [.lst zs] ++ [.lst ys] ∧ (ys ++ zs).Perm xs ∧ ys.length = min k.toNat xs.length ∧ Bx (c + min k.toNat xs.length) b') →
      wp (endD S.length (sRet (dVar 4) r T)) fun v T => ∃ ys zs b', v = .lst ys ∧ T = S.set n b' ∧ (ys ++ zs).Perm xs ∧ ys.length = min k.toNat xs.length ∧ Bx (c + min k.toNat xs.length) b' := by
    rintro r T ⟨x, b', ys, zs, rfl, rfl, h1, h2, h3⟩
    have hs : (S.set n b').length = S.length := List.length_set
    simp -implicitDefEqProofs only [ev_Blk, ek_blkNx, ek_blkRt, ek_blkBk, ek_blkCt, frz_nil, frz_some, frz_none, frz_int, frz_bl, frz_str, frz_non, frz_tup, frz_lst, frz_set, frz_dct, ev_FzD, ev_MuD, ek_dctF, ek_dctM, ev_Emp, ev_CallD, ek_CallD, ev_optD, ev_Met, ek_Met, ek_Met2, isDct_dct, ev_RevA, ek_RevAL, ek_RevAT, ev_RevN, ek_Rev, ev_Star, ek_StarL, ek_StarT, ek_Star2, ev_ltI, ek_Op, ek_Op2, ek_Un, ek_AndT, ek_AndF, ek_OrT, ek_OrF, ek_Not, ek_IfT, ek_IfF, ek_Cons, ek_Cons2, ek_Fz, ek_Mu, ek_Call, ek_CallN, ek_AddN, ek_AddN2, ek_Sl, ek_Sl2, ek_Sl3, ek_SlN, ek_SlN2, ek_SlN3, ek_FnK, ek_FnK2, ek_Len, ek_Asg, ek_Ret, ek_SIfT, ek_SIfF, ek_Drop, ek_Set, ek_Set2, ek_Set3, ek_OrB, ek_OrBT, ek_OrBF, ek_AndB, ek_AndBT, ek_AndBF, ek_NotB, ek_NotB2, ev_App, ev_Pop, ev_opt, ev_C, ev_Var, ev_Op, ev_Un, ev_Test, ev_test, ev_AndT, ev_OrT, ev_NotT, ev_If, ev_Truth, ev_truB, ev_truI, ev_truL, ev_truT, ev_truN, ev_OrB, ev_AndB, ev_NotB, ev_Nil, ev_Cons, ev_Tup, ev_Chk, ev_Fz, ev_Mu, ev_Call, ev_CallN, ev_optL, ev_AddN, ev_Isi, ev_oNone, ev_oSome, ev_oInt, ev_Sl, ev_SlN, ev_Fn, ev_FnK, ev_Len, ev_sNil, ev_Seq, ev_nx, ev_rt, ev_bk, ev_ct, ev_Asg, ev_nxO, ev_gNm, ev_gsNil, ev_gsCons, ev_Ret, ev_RetN, ev_sIf, ev_Drop, ev_Brk, ev_Cnt, ev_Par, ev_par2, ev_par3, ev_SetIx, ev_stO, ev_iSeq, ev_itL, ev_itT, ev_Ran1, ev_Ran2, ev_Enu, ev_enu, ev_Zip, ev_zipL, ev_zipT, ev_Comp, ev_fix, ev_Yes, ev_wipe0, ev_wipe, ev_For, ev_forF, ev_endRt, ev_endNx, ev_endM, ev_lvT, ev_lvL, ev_lvI, ev_lvB, ev_lvS, ev_lvN, ev_lvD, ev_addI, ev_subI, ev_negI, ev_eqI, ev_neI, ev_eqB, ev_neB, ev_cmpI, ev_isN, ev_isNotN, ev_lenL, ev_lenT, ev_tupL, ev_tupT, ev_lstL, ev_lstT, ev_int, ev_intB, ev_abs, ev_min2, ev_max2, ev_ixL, ev_ixT, Out.bind_ok, bindN_ok, Option.bind_some, List.set_cons_zero, List.set_cons_succ, List.getElem?_cons_zero, List.getElem?_cons_succ, ev_mk0, ev_mk1, ev_mk2, ev_mk3, ev_mk4, ev_ck0, ev_ck, Nat.zero_le, nr_int, nr_bl, nr_str, nr_non, nr_tup, nr_lst, En.nr, noRefs_nil, noRefs_cons, Bool.not_false, Bool.and_self, Bool.and_true, Bool.true_and, List.length_cons, List.length_nil, Nat.reduceAdd, Nat.reduceLeDiff, take_self, take_app, take_set, if_true, if_false, Bool.false_eq_true, Bool.not_true, atI_0, atI_1, ev_tu2, ev_tu2w, ev_tu2L, ev_tu3, ev_tu4, ev_pick0, ev_pick, List.nil_append, List.cons_append]
    refine ⟨.lst ys, S.set n b', ?_, ys, zs, b', rfl, rfl, h1, h2, h3⟩
    rw [leave_ref (by omega) (g2 _ _ _ hs), List.append_assoc, ← hs, List.take_left]
  rw [← wp_bind_end]
  refine wp_loopF (I := fun i r T => ∃ x b' ys zs, r = [some (D.ref n), some d, some (.int k), some (.ref S.length), some (.ref (S.length + 1)), x] ∧ T = S.set n b' ++ [.lst zs] ++ [.lst ys] ∧ (ys ++ zs).Perm xs ∧ ys.length = i ∧ Bx (c + i) b') ?_ ?_ ?_
  · exact ⟨none, b, [], xs, rfl, by rw [set_same hb], .refl _, rfl, hx⟩
  · rintro i v r T hi ⟨x, b', ys, zs, rfl, rfl, h1, rfl, h3⟩
    obtain ⟨hi1, rfl⟩ := rng_at hi
    refine ⟨_, rfl, ?_⟩
    have hs : (S.set n b').length = S.length := List.length_set
    have hzl : 0 < zs.length := by have := h1.length_eq; simp at this; omega
    have hyl : ys.length ≤ 999999 := by have := h1.length_eq; simp at this; omega
    have hb' : (S.set n b' ++ [D.lst zs] ++ [D.lst ys])[n]? = some b' := by rw [g3 _ _ _ hs]; exact get_set hb
    have l1 := g1 (S.set n b') (.lst zs) (.lst ys) hs
    have l2 := g2 (S.set n b') (.lst zs) (.lst ys) hs
    obtain ⟨t, b2, e, ht0, ht1, hB⟩ := take_ok hb' h3 (top := zs.length) (by omega) (by omega) (by have := h1.length_eq; simp at this; omega)
    rw [w3 _ _ _ _ hs, List.set_set] at e
    have hs2 : (S.set n b2).length = S.length := List.length_set
    have l12 := g1 (S.set n b2) (.lst zs) (.lst ys) hs2
    have l22 := g2 (S.set n b2) (.lst zs) (.lst ys) hs2
    have ht2 : t.toNat < zs.length := by omega
    have ep : popAt (S.set n b2 ++ [.lst zs] ++ [.lst ys]) (.ref S.length) [.int t] = some (zs[t.toNat], S.set n b2 ++ [.lst (zs.eraseIdx t.toNat)] ++ [.lst ys]) := by
      rw [pop_ref l12 (ixN_of ht0 ht1) (List.getElem?_eq_getElem ht2), w1 _ _ _ _ hs2]
    have hnz : (zs[t.toNat]).isRef = false := noRefs_mem.mp hn _ (h1.mem_iff.mp (List.mem_append_right _ (List.getElem_mem ht2)))
    have l23 := g2 (S.set n b2) (.lst (zs.eraseIdx t.toNat)) (.lst ys) hs2
    have ea : appAt (S.set n b2 ++ [.lst (zs.eraseIdx t.toNat)] ++ [.lst ys]) (.ref (S.length + 1)) zs[t.toNat] = some (S.set n b2 ++ [.lst (zs.eraseIdx t.toNat)] ++ [.lst (ys ++ [zs[t.toNat]])]) := by
      rw [app_ref l23 hnz hyl, w2 _ _ _ _ hs2]
    simp -implicitDefEqProofs only [ev_Blk, ek_blkNx, ek_blkRt, ek_blkBk, ek_blkCt, frz_nil, frz_some, frz_none, frz_int, frz_bl, frz_str, frz_non, frz_tup, frz_lst, frz_set, frz_dct, ev_FzD, ev_MuD, ek_dctF, ek_dctM, ev_Emp, ev_CallD, ek_CallD, ev_optD, ev_Met, ek_Met, ek_Met2, isDct_dct, ev_RevA, ek_RevAL, ek_RevAT, ev_RevN, ek_Rev, ev_Star, ek_StarL, ek_StarT, ek_Star2, ev_ltI, ek_Op, ek_Op2, ek_Un, ek_AndT, ek_AndF, ek_OrT, ek_OrF, ek_Not, ek_IfT, ek_IfF, ek_Cons, ek_Cons2, ek_Fz, ek_Mu, ek_Call, ek_CallN, ek_AddN, ek_AddN2, ek_Sl, ek_Sl2, ek_Sl3, ek_SlN, ek_SlN2, ek_SlN3, ek_FnK, ek_FnK2, ek_Len, ek_Asg, ek_Ret, ek_SIfT, ek_SIfF, ek_Drop, ek_Set, ek_Set2, ek_Set3, ek_OrB, ek_OrBT, ek_OrBF, ek_AndB, ek_AndBT, ek_AndBF, ek_NotB, ek_NotB2, ev_App, ev_Pop, ev_opt, ev_C, ev_Var, ev_Op, ev_Un, ev_Test, ev_test, ev_AndT, ev_OrT, ev_NotT, ev_If, ev_Truth, ev_truB, ev_truI, ev_truL, ev_truT, ev_truN, ev_OrB, ev_AndB, ev_NotB, ev_Nil, ev_Cons, ev_Tup, ev_Chk, ev_Fz, ev_Mu, ev_Call, ev_CallN, ev_optL, ev_AddN, ev_Isi, ev_oNone, ev_oSome, ev_oInt, ev_Sl, ev_SlN, ev_Fn, ev_FnK, ev_Len, ev_sNil, ev_Seq, ev_nx, ev_rt, ev_bk, ev_ct, ev_Asg, ev_nxO, ev_gNm, ev_gsNil, ev_gsCons, ev_Ret, ev_RetN, ev_sIf, ev_Drop, ev_Brk, ev_Cnt, ev_Par, ev_par2, ev_par3, ev_SetIx, ev_stO, ev_iSeq, ev_itL, ev_itT, ev_Ran1, ev_Ran2, ev_Enu, ev_enu, ev_Zip, ev_zipL, ev_zipT, ev_Comp, ev_fix, ev_Yes, ev_wipe0, ev_wipe, ev_For, ev_forF, ev_endRt, ev_endNx, ev_endM, ev_lvT, ev_lvL, ev_lvI, ev_lvB, ev_lvS, ev_lvN, ev_lvD, ev_addI, ev_subI, ev_negI, ev_eqI, ev_neI, ev_eqB, ev_neB, ev_cmpI, ev_isN, ev_isNotN, ev_lenL, ev_lenT, ev_tupL, ev_tupT, ev_lstL, ev_lstT, ev_int, ev_intB, ev_abs, ev_min2, ev_max2, ev_ixL, ev_ixT, Out.bind_ok, bindN_ok, Option.bind_some, List.set_cons_zero, List.set_cons_succ, List.getElem?_cons_zero, List.getElem?_cons_succ, ev_mk0, ev_mk1, ev_mk2, ev_mk3, ev_mk4, ev_ck0, ev_ck, Nat.zero_le, nr_int, nr_bl, nr_str, nr_non, nr_tup, nr_lst, En.nr, noRefs_nil, noRefs_cons, Bool.not_false, Bool.and_self, Bool.and_true, Bool.true_and, List.length_cons, List.length_nil, Nat.reduceAdd, Nat.reduceLeDiff, take_self, take_app, take_set, if_true, if_false, Bool.false_eq_true, Bool.not_true, atI_0, atI_1, ev_tu2, ev_tu2w, ev_tu2L, ev_tu3, ev_tu4, ev_pick0, ev_pick, List.nil_append, List.cons_append, ek_App (isL_ref l2), ek_Pop (isL_ref l1), ref_len l1, e, ev_pop ep, ev_app ea, wp_ok]
    refine ⟨_, b2, _, _, rfl, rfl, ?_, by simp, hB⟩
    refine .trans ?_ h1
    rw [List.append_assoc]
    exact .append_left _ (erase_perm ht2)
  · rintro r T ⟨x, b', ys, zs, rfl, rfl, h1, h2, h3⟩
    rw [rng_len] at h2 h3
    exact hlast _ _ ⟨x, b', ys, zs, rfl, rfl, h1, h2, h3⟩
theorem pick_en {α : Type} [En α] {n c : Nat} {d : D} {l : List α} {k : Int} {S : Store} {b : D} (hb : S[n]? = some b) (hx : Bx c b) (hd : rdSeq d = some (l.map en)) (h2 : l.length ≤ 100000) (hk0 : 0 ≤ k) (hk : k ≤ 100000) (hc : c + 100000 < 1000000000 := by omega) :
    ∃ (m z : List α) (b' : D), F__law_pick [.ref n, d, .int k] S = .ok (.lst (m.map en)) (S.set n b') ∧ (m ++ z).Perm l ∧ m.length = min k.toNat l.length ∧ Bx (c + min k.toNat l.length) b' := by
  obtain ⟨ys, zs, b', e, hp, hl, hB⟩ := pick_ok hb hx hd (noRefs_en l) (by simpa using h2) hk0 hk hc
  obtain ⟨m, em, pm⟩ := perm_map_inv hp
  rw [List.length_map] at hl hB
  have e1 : ys = (m.take ys.length).map en := by rw [List.map_take, ← em]; simp
  refine ⟨m.take ys.length, m.drop ys.length, b', by rw [← e1]; exact e, by rw [List.take_append_drop]; exact pm, ?_, hB⟩
  have := congrArg List.length em
  simp at this
  rw [List.length_take]; omega
mutual
def lstD : D → D
  | .tup xs => .lst (lstDs xs)
  | .lst xs => .lst (lstDs xs)
  | d => d
def lstDs : List D → List D
  | [] => []
  | d :: r => lstD d :: lstDs r
end
mutual
def tupD : D → D
  | .tup xs => .tup (tupDs xs)
  | .lst xs => .tup (tupDs xs)
  | d => d
def tupDs : List D → List D
  | [] => []
  | d :: r => tupD d :: tupDs r
end
theorem lstDs_map : ∀ l : List D, lstDs l = l.map lstD
  | [] => rfl
  | d :: l => by show lstD d :: lstDs l = _; rw [lstDs_map l]; rfl
theorem tupDs_map : ∀ l : List D, tupDs l = l.map tupD
  | [] => rfl
  | d :: l => by show tupD d :: tupDs l = _; rw [tupDs_map l]; rfl
theorem lstD_nr {d : D} (h : d.isRef = false) : (lstD d).isRef = false := by cases d <;> first | rfl | cases h
theorem tupD_nr {d : D} (h : d.isRef = false) : (tupD d).isRef = false := by cases d <;> first | rfl | cases h
theorem shp_nr {d : D} {n : Nat} (h : d.shp n = true) : d.isRef = false := by cases d <;> first | rfl | (simp [D.shp] at h)
theorem shps_all : ∀ {l : List D} {n : Nat}, D.shps l n = true ↔ ∀ x ∈ l, x.shp n = true
  | [], _ => ⟨fun _ _ m => (nomatch m), fun _ => rfl⟩
  | y :: l, n => by simp only [D.shps, Bool.and_eq_true, shps_all (l := l), List.mem_cons, forall_eq_or_imp]
theorem isi_seqT {xs : List D} {S : Store} : isiO [.list, .tuple] (.tup xs) S = .ok (.bl true) S := rfl
theorem isi_seqL {xs : List D} {S : Store} : isiO [.list, .tuple] (.lst xs) S = .ok (.bl true) S := rfl
theorem lists_ok {S : Store} : ∀ (n : Nat) (d : D), d.shp n = true → F__law_lists (n + 1) [d] S = .ok (lstD d) S := by
  intro n
  induction n with
  | zero =>
    intro d h
    rw [U__law_lists]
    unfold B__law_lists
    cases d <;> first | (simp -implicitDefEqProofs only [ev_Blk, ek_blkNx, ek_blkRt, ek_blkBk, ek_blkCt, frz_nil, frz_some, frz_none, frz_int, frz_bl, frz_str, frz_non, frz_tup, frz_lst, frz_set, frz_dct, ev_FzD, ev_MuD, ek_dctF, ek_dctM, ev_Emp, ev_CallD, ek_CallD, ev_optD, ev_Met, ek_Met, ek_Met2, isDct_dct, ev_RevA, ek_RevAL, ek_RevAT, ev_RevN, ek_Rev, ev_Star, ek_StarL, ek_StarT, ek_Star2, ev_ltI, ek_Op, ek_Op2, ek_Un, ek_AndT, ek_AndF, ek_OrT, ek_OrF, ek_Not, ek_IfT, ek_IfF, ek_Cons, ek_Cons2, ek_Fz, ek_Mu, ek_Call, ek_CallN, ek_AddN, ek_AddN2, ek_Sl, ek_Sl2, ek_Sl3, ek_SlN, ek_SlN2, ek_SlN3, ek_FnK, ek_FnK2, ek_Len, ek_Asg, ek_Ret, ek_SIfT, ek_SIfF, ek_Drop, ek_Set, ek_Set2, ek_Set3, ek_OrB, ek_OrBT, ek_OrBF, ek_AndB, ek_AndBT, ek_AndBF, ek_NotB, ek_NotB2, ev_App, ev_Pop, ev_opt, ev_C, ev_Var, ev_Op, ev_Un, ev_Test, ev_test, ev_AndT, ev_OrT, ev_NotT, ev_If, ev_Truth, ev_truB, ev_truI, ev_truL, ev_truT, ev_truN, ev_OrB, ev_AndB, ev_NotB, ev_Nil, ev_Cons, ev_Tup, ev_Chk, ev_Fz, ev_Mu, ev_Call, ev_CallN, ev_optL, ev_AddN, ev_Isi, ev_oNone, ev_oSome, ev_oInt, ev_Sl, ev_SlN, ev_Fn, ev_FnK, ev_Len, ev_sNil, ev_Seq, ev_nx, ev_rt, ev_bk, ev_ct, ev_Asg, ev_nxO, ev_gNm, ev_gsNil, ev_gsCons, ev_Ret, ev_RetN, ev_sIf, ev_Drop, ev_Brk, ev_Cnt, ev_Par, ev_par2, ev_par3, ev_SetIx, ev_stO, ev_iSeq, ev_itL, ev_itT, ev_Ran1, ev_Ran2, ev_Enu, ev_enu, ev_Zip, ev_zipL, ev_zipT, ev_Comp, ev_fix, ev_Yes, ev_wipe0, ev_wipe, ev_For, ev_forF, ev_endRt, ev_endNx, ev_endM, ev_lvT, ev_lvL, ev_lvI, ev_lvB, ev_lvS, ev_lvN, ev_lvD, ev_addI, ev_subI, ev_negI, ev_eqI, ev_neI, ev_eqB, ev_neB, ev_cmpI, ev_isN, ev_isNotN, ev_lenL, ev_lenT, ev_tupL, ev_tupT, ev_lstL, ev_lstT, ev_int, ev_intB, ev_abs, ev_min2, ev_max2, ev_ixL, ev_ixT, Out.bind_ok, bindN_ok, Option.bind_some, List.set_cons_zero, List.set_cons_succ, List.getElem?_cons_zero, List.getElem?_cons_succ, ev_mk0, ev_mk1, ev_mk2, ev_mk3, ev_mk4, ev_ck0, ev_ck, Nat.zero_le, nr_int, nr_bl, nr_str, nr_non, nr_tup, nr_lst, En.nr, noRefs_nil, noRefs_cons, Bool.not_false, Bool.and_self, Bool.and_true, Bool.true_and, List.length_cons, List.length_nil, Nat.reduceAdd, Nat.reduceLeDiff, take_self, take_app, take_set, if_true, if_false, Bool.false_eq_true, Bool.not_true, atI_0, atI_1, ev_tu2, ev_tu2w, ev_tu2L, ev_tu3, ev_tu4, ev_pick0, ev_pick, List.nil_append, List.cons_append, isiO, view, isTys, isTy]; rfl) | (simp [D.shp] at h; done)
  | succ n ih =>
    intro d h
    rw [U__law_lists]
    unfold B__law_lists
    have go : ∀ (xs : List D), D.shps xs n = true → ∀ r : Sl, compF (gNm 1) dYes (dFn (F__law_lists (n + 1)) (dCons (dVar 1) dNil)) [r.head?.getD none, none] xs S = .ok (lstDs xs) S := fun xs hx r => by
      rw [lstDs_map]
      refine compF_all fun x m => one_yes rfl ?_ (lstD_nr (shp_nr (shps_all.mp hx x m)))
      simp -implicitDefEqProofs only [ev_Blk, ek_blkNx, ek_blkRt, ek_blkBk, ek_blkCt, frz_nil, frz_some, frz_none, frz_int, frz_bl, frz_str, frz_non, frz_tup, frz_lst, frz_set, frz_dct, ev_FzD, ev_MuD, ek_dctF, ek_dctM, ev_Emp, ev_CallD, ek_CallD, ev_optD, ev_Met, ek_Met, ek_Met2, isDct_dct, ev_RevA, ek_RevAL, ek_RevAT, ev_RevN, ek_Rev, ev_Star, ek_StarL, ek_StarT, ek_Star2, ev_ltI, ek_Op, ek_Op2, ek_Un, ek_AndT, ek_AndF, ek_OrT, ek_OrF, ek_Not, ek_IfT, ek_IfF, ek_Cons, ek_Cons2, ek_Fz, ek_Mu, ek_Call, ek_CallN, ek_AddN, ek_AddN2, ek_Sl, ek_Sl2, ek_Sl3, ek_SlN, ek_SlN2, ek_SlN3, ek_FnK, ek_FnK2, ek_Len, ek_Asg, ek_Ret, ek_SIfT, ek_SIfF, ek_Drop, ek_Set, ek_Set2, ek_Set3, ek_OrB, ek_OrBT, ek_OrBF, ek_AndB, ek_AndBT, ek_AndBF, ek_NotB, ek_NotB2, ev_App, ev_Pop, ev_opt, ev_C, ev_Var, ev_Op, ev_Un, ev_Test, ev_test, ev_AndT, ev_OrT, ev_NotT, ev_If, ev_Truth, ev_truB, ev_truI, ev_truL, ev_truT, ev_truN, ev_OrB, ev_AndB, ev_NotB, ev_Nil, ev_Cons, ev_Tup, ev_Chk, ev_Fz, ev_Mu, ev_Call, ev_CallN, ev_optL, ev_AddN, ev_Isi, ev_oNone, ev_oSome, ev_oInt, ev_Sl, ev_SlN, ev_Fn, ev_FnK, ev_Len, ev_sNil, ev_Seq, ev_nx, ev_rt, ev_bk, ev_ct, ev_Asg, ev_nxO, ev_gNm, ev_gsNil, ev_gsCons, ev_Ret, ev_RetN, ev_sIf, ev_Drop, ev_Brk, ev_Cnt, ev_Par, ev_par2, ev_par3, ev_SetIx, ev_stO, ev_iSeq, ev_itL, ev_itT, ev_Ran1, ev_Ran2, ev_Enu, ev_enu, ev_Zip, ev_zipL, ev_zipT, ev_Comp, ev_fix, ev_Yes, ev_wipe0, ev_wipe, ev_For, ev_forF, ev_endRt, ev_endNx, ev_endM, ev_lvT, ev_lvL, ev_lvI, ev_lvB, ev_lvS, ev_lvN, ev_lvD, ev_addI, ev_subI, ev_negI, ev_eqI, ev_neI, ev_eqB, ev_neB, ev_cmpI, ev_isN, ev_isNotN, ev_lenL, ev_lenT, ev_tupL, ev_tupT, ev_lstL, ev_lstT, ev_int, ev_intB, ev_abs, ev_min2, ev_max2, ev_ixL, ev_ixT, Out.bind_ok, bindN_ok, Option.bind_some, List.set_cons_zero, List.set_cons_succ, List.getElem?_cons_zero, List.getElem?_cons_succ, ev_mk0, ev_mk1, ev_mk2, ev_mk3, ev_mk4, ev_ck0, ev_ck, Nat.zero_le, nr_int, nr_bl, nr_str, nr_non, nr_tup, nr_lst, En.nr, noRefs_nil, noRefs_cons, Bool.not_false, Bool.and_self, Bool.and_true, Bool.true_and, List.length_cons, List.length_nil, Nat.reduceAdd, Nat.reduceLeDiff, take_self, take_app, take_set, if_true, if_false, Bool.false_eq_true, Bool.not_true, atI_0, atI_1, ev_tu2, ev_tu2w, ev_tu2L, ev_tu3, ev_tu4, ev_pick0, ev_pick, List.nil_append, List.cons_append, ih x (shps_all.mp hx x m)]
    cases d with
    | tup xs =>
      simp -implicitDefEqProofs only [ev_Blk, ek_blkNx, ek_blkRt, ek_blkBk, ek_blkCt, frz_nil, frz_some, frz_none, frz_int, frz_bl, frz_str, frz_non, frz_tup, frz_lst, frz_set, frz_dct, ev_FzD, ev_MuD, ek_dctF, ek_dctM, ev_Emp, ev_CallD, ek_CallD, ev_optD, ev_Met, ek_Met, ek_Met2, isDct_dct, ev_RevA, ek_RevAL, ek_RevAT, ev_RevN, ek_Rev, ev_Star, ek_StarL, ek_StarT, ek_Star2, ev_ltI, ek_Op, ek_Op2, ek_Un, ek_AndT, ek_AndF, ek_OrT, ek_OrF, ek_Not, ek_IfT, ek_IfF, ek_Cons, ek_Cons2, ek_Fz, ek_Mu, ek_Call, ek_CallN, ek_AddN, ek_AddN2, ek_Sl, ek_Sl2, ek_Sl3, ek_SlN, ek_SlN2, ek_SlN3, ek_FnK, ek_FnK2, ek_Len, ek_Asg, ek_Ret, ek_SIfT, ek_SIfF, ek_Drop, ek_Set, ek_Set2, ek_Set3, ek_OrB, ek_OrBT, ek_OrBF, ek_AndB, ek_AndBT, ek_AndBF, ek_NotB, ek_NotB2, ev_App, ev_Pop, ev_opt, ev_C, ev_Var, ev_Op, ev_Un, ev_Test, ev_test, ev_AndT, ev_OrT, ev_NotT, ev_If, ev_Truth, ev_truB, ev_truI, ev_truL, ev_truT, ev_truN, ev_OrB, ev_AndB, ev_NotB, ev_Nil, ev_Cons, ev_Tup, ev_Chk, ev_Fz, ev_Mu, ev_Call, ev_CallN, ev_optL, ev_AddN, ev_Isi, ev_oNone, ev_oSome, ev_oInt, ev_Sl, ev_SlN, ev_Fn, ev_FnK, ev_Len, ev_sNil, ev_Seq, ev_nx, ev_rt, ev_bk, ev_ct, ev_Asg, ev_nxO, ev_gNm, ev_gsNil, ev_gsCons, ev_Ret, ev_RetN, ev_sIf, ev_Drop, ev_Brk, ev_Cnt, ev_Par, ev_par2, ev_par3, ev_SetIx, ev_stO, ev_iSeq, ev_itL, ev_itT, ev_Ran1, ev_Ran2, ev_Enu, ev_enu, ev_Zip, ev_zipL, ev_zipT, ev_Comp, ev_fix, ev_Yes, ev_wipe0, ev_wipe, ev_For, ev_forF, ev_endRt, ev_endNx, ev_endM, ev_lvT, ev_lvL, ev_lvI, ev_lvB, ev_lvS, ev_lvN, ev_lvD, ev_addI, ev_subI, ev_negI, ev_eqI, ev_neI, ev_eqB, ev_neB, ev_cmpI, ev_isN, ev_isNotN, ev_lenL, ev_lenT, ev_tupL, ev_tupT, ev_lstL, ev_lstT, ev_int, ev_intB, ev_abs, ev_min2, ev_max2, ev_ixL, ev_ixT, Out.bind_ok, bindN_ok, Option.bind_some, List.set_cons_zero, List.set_cons_succ, List.getElem?_cons_zero, List.getElem?_cons_succ, ev_mk0, ev_mk1, ev_mk2, ev_mk3, ev_mk4, ev_ck0, ev_ck, Nat.zero_le, nr_int, nr_bl, nr_str, nr_non, nr_tup, nr_lst, En.nr, noRefs_nil, noRefs_cons, Bool.not_false, Bool.and_self, Bool.and_true, Bool.true_and, List.length_cons, List.length_nil, Nat.reduceAdd, Nat.reduceLeDiff, take_self, take_app, take_set, if_true, if_false, Bool.false_eq_true, Bool.not_true, atI_0, atI_1, ev_tu2, ev_tu2w, ev_tu2L, ev_tu3, ev_tu4, ev_pick0, ev_pick, List.nil_append, List.cons_append, isi_seqT, go xs (by simpa [D.shp] using h) [some (.tup xs)]]
      have := go xs (by simpa [D.shp] using h) [some (.tup xs)]
      simp only [List.head?_cons, Option.getD_some] at this
      simp -implicitDefEqProofs only [this, ev_Blk, ek_blkNx, ek_blkRt, ek_blkBk, ek_blkCt, frz_nil, frz_some, frz_none, frz_int, frz_bl, frz_str, frz_non, frz_tup, frz_lst, frz_set, frz_dct, ev_FzD, ev_MuD, ek_dctF, ek_dctM, ev_Emp, ev_CallD, ek_CallD, ev_optD, ev_Met, ek_Met, ek_Met2, isDct_dct, ev_RevA, ek_RevAL, ek_RevAT, ev_RevN, ek_Rev, ev_Star, ek_StarL, ek_StarT, ek_Star2, ev_ltI, ek_Op, ek_Op2, ek_Un, ek_AndT, ek_AndF, ek_OrT, ek_OrF, ek_Not, ek_IfT, ek_IfF, ek_Cons, ek_Cons2, ek_Fz, ek_Mu, ek_Call, ek_CallN, ek_AddN, ek_AddN2, ek_Sl, ek_Sl2, ek_Sl3, ek_SlN, ek_SlN2, ek_SlN3, ek_FnK, ek_FnK2, ek_Len, ek_Asg, ek_Ret, ek_SIfT, ek_SIfF, ek_Drop, ek_Set, ek_Set2, ek_Set3, ek_OrB, ek_OrBT, ek_OrBF, ek_AndB, ek_AndBT, ek_AndBF, ek_NotB, ek_NotB2, ev_App, ev_Pop, ev_opt, ev_C, ev_Var, ev_Op, ev_Un, ev_Test, ev_test, ev_AndT, ev_OrT, ev_NotT, ev_If, ev_Truth, ev_truB, ev_truI, ev_truL, ev_truT, ev_truN, ev_OrB, ev_AndB, ev_NotB, ev_Nil, ev_Cons, ev_Tup, ev_Chk, ev_Fz, ev_Mu, ev_Call, ev_CallN, ev_optL, ev_AddN, ev_Isi, ev_oNone, ev_oSome, ev_oInt, ev_Sl, ev_SlN, ev_Fn, ev_FnK, ev_Len, ev_sNil, ev_Seq, ev_nx, ev_rt, ev_bk, ev_ct, ev_Asg, ev_nxO, ev_gNm, ev_gsNil, ev_gsCons, ev_Ret, ev_RetN, ev_sIf, ev_Drop, ev_Brk, ev_Cnt, ev_Par, ev_par2, ev_par3, ev_SetIx, ev_stO, ev_iSeq, ev_itL, ev_itT, ev_Ran1, ev_Ran2, ev_Enu, ev_enu, ev_Zip, ev_zipL, ev_zipT, ev_Comp, ev_fix, ev_Yes, ev_wipe0, ev_wipe, ev_For, ev_forF, ev_endRt, ev_endNx, ev_endM, ev_lvT, ev_lvL, ev_lvI, ev_lvB, ev_lvS, ev_lvN, ev_lvD, ev_addI, ev_subI, ev_negI, ev_eqI, ev_neI, ev_eqB, ev_neB, ev_cmpI, ev_isN, ev_isNotN, ev_lenL, ev_lenT, ev_tupL, ev_tupT, ev_lstL, ev_lstT, ev_int, ev_intB, ev_abs, ev_min2, ev_max2, ev_ixL, ev_ixT, Out.bind_ok, bindN_ok, Option.bind_some, List.set_cons_zero, List.set_cons_succ, List.getElem?_cons_zero, List.getElem?_cons_succ, ev_mk0, ev_mk1, ev_mk2, ev_mk3, ev_mk4, ev_ck0, ev_ck, Nat.zero_le, nr_int, nr_bl, nr_str, nr_non, nr_tup, nr_lst, En.nr, noRefs_nil, noRefs_cons, Bool.not_false, Bool.and_self, Bool.and_true, Bool.true_and, List.length_cons, List.length_nil, Nat.reduceAdd, Nat.reduceLeDiff, take_self, take_app, take_set, if_true, if_false, Bool.false_eq_true, Bool.not_true, atI_0, atI_1, ev_tu2, ev_tu2w, ev_tu2L, ev_tu3, ev_tu4, ev_pick0, ev_pick, List.nil_append, List.cons_append]
      rfl
    | lst xs =>
      simp -implicitDefEqProofs only [ev_Blk, ek_blkNx, ek_blkRt, ek_blkBk, ek_blkCt, frz_nil, frz_some, frz_none, frz_int, frz_bl, frz_str, frz_non, frz_tup, frz_lst, frz_set, frz_dct, ev_FzD, ev_MuD, ek_dctF, ek_dctM, ev_Emp, ev_CallD, ek_CallD, ev_optD, ev_Met, ek_Met, ek_Met2, isDct_dct, ev_RevA, ek_RevAL, ek_RevAT, ev_RevN, ek_Rev, ev_Star, ek_StarL, ek_StarT, ek_Star2, ev_ltI, ek_Op, ek_Op2, ek_Un, ek_AndT, ek_AndF, ek_OrT, ek_OrF, ek_Not, ek_IfT, ek_IfF, ek_Cons, ek_Cons2, ek_Fz, ek_Mu, ek_Call, ek_CallN, ek_AddN, ek_AddN2, ek_Sl, ek_Sl2, ek_Sl3, ek_SlN, ek_SlN2, ek_SlN3, ek_FnK, ek_FnK2, ek_Len, ek_Asg, ek_Ret, ek_SIfT, ek_SIfF, ek_Drop, ek_Set, ek_Set2, ek_Set3, ek_OrB, ek_OrBT, ek_OrBF, ek_AndB, ek_AndBT, ek_AndBF, ek_NotB, ek_NotB2, ev_App, ev_Pop, ev_opt, ev_C, ev_Var, ev_Op, ev_Un, ev_Test, ev_test, ev_AndT, ev_OrT, ev_NotT, ev_If, ev_Truth, ev_truB, ev_truI, ev_truL, ev_truT, ev_truN, ev_OrB, ev_AndB, ev_NotB, ev_Nil, ev_Cons, ev_Tup, ev_Chk, ev_Fz, ev_Mu, ev_Call, ev_CallN, ev_optL, ev_AddN, ev_Isi, ev_oNone, ev_oSome, ev_oInt, ev_Sl, ev_SlN, ev_Fn, ev_FnK, ev_Len, ev_sNil, ev_Seq, ev_nx, ev_rt, ev_bk, ev_ct, ev_Asg, ev_nxO, ev_gNm, ev_gsNil, ev_gsCons, ev_Ret, ev_RetN, ev_sIf, ev_Drop, ev_Brk, ev_Cnt, ev_Par, ev_par2, ev_par3, ev_SetIx, ev_stO, ev_iSeq, ev_itL, ev_itT, ev_Ran1, ev_Ran2, ev_Enu, ev_enu, ev_Zip, ev_zipL, ev_zipT, ev_Comp, ev_fix, ev_Yes, ev_wipe0, ev_wipe, ev_For, ev_forF, ev_endRt, ev_endNx, ev_endM, ev_lvT, ev_lvL, ev_lvI, ev_lvB, ev_lvS, ev_lvN, ev_lvD, ev_addI, ev_subI, ev_negI, ev_eqI, ev_neI, ev_eqB, ev_neB, ev_cmpI, ev_isN, ev_isNotN, ev_lenL, ev_lenT, ev_tupL, ev_tupT, ev_lstL, ev_lstT, ev_int, ev_intB, ev_abs, ev_min2, ev_max2, ev_ixL, ev_ixT, Out.bind_ok, bindN_ok, Option.bind_some, List.set_cons_zero, List.set_cons_succ, List.getElem?_cons_zero, List.getElem?_cons_succ, ev_mk0, ev_mk1, ev_mk2, ev_mk3, ev_mk4, ev_ck0, ev_ck, Nat.zero_le, nr_int, nr_bl, nr_str, nr_non, nr_tup, nr_lst, En.nr, noRefs_nil, noRefs_cons, Bool.not_false, Bool.and_self, Bool.and_true, Bool.true_and, List.length_cons, List.length_nil, Nat.reduceAdd, Nat.reduceLeDiff, take_self, take_app, take_set, if_true, if_false, Bool.false_eq_true, Bool.not_true, atI_0, atI_1, ev_tu2, ev_tu2w, ev_tu2L, ev_tu3, ev_tu4, ev_pick0, ev_pick, List.nil_append, List.cons_append, isi_seqL]
      have := go xs (by simpa [D.shp] using h) [some (.lst xs)]
      simp only [List.head?_cons, Option.getD_some] at this
      simp -implicitDefEqProofs only [this, ev_Blk, ek_blkNx, ek_blkRt, ek_blkBk, ek_blkCt, frz_nil, frz_some, frz_none, frz_int, frz_bl, frz_str, frz_non, frz_tup, frz_lst, frz_set, frz_dct, ev_FzD, ev_MuD, ek_dctF, ek_dctM, ev_Emp, ev_CallD, ek_CallD, ev_optD, ev_Met, ek_Met, ek_Met2, isDct_dct, ev_RevA, ek_RevAL, ek_RevAT, ev_RevN, ek_Rev, ev_Star, ek_StarL, ek_StarT, ek_Star2, ev_ltI, ek_Op, ek_Op2, ek_Un, ek_AndT, ek_AndF, ek_OrT, ek_OrF, ek_Not, ek_IfT, ek_IfF, ek_Cons, ek_Cons2, ek_Fz, ek_Mu, ek_Call, ek_CallN, ek_AddN, ek_AddN2, ek_Sl, ek_Sl2, ek_Sl3, ek_SlN, ek_SlN2, ek_SlN3, ek_FnK, ek_FnK2, ek_Len, ek_Asg, ek_Ret, ek_SIfT, ek_SIfF, ek_Drop, ek_Set, ek_Set2, ek_Set3, ek_OrB, ek_OrBT, ek_OrBF, ek_AndB, ek_AndBT, ek_AndBF, ek_NotB, ek_NotB2, ev_App, ev_Pop, ev_opt, ev_C, ev_Var, ev_Op, ev_Un, ev_Test, ev_test, ev_AndT, ev_OrT, ev_NotT, ev_If, ev_Truth, ev_truB, ev_truI, ev_truL, ev_truT, ev_truN, ev_OrB, ev_AndB, ev_NotB, ev_Nil, ev_Cons, ev_Tup, ev_Chk, ev_Fz, ev_Mu, ev_Call, ev_CallN, ev_optL, ev_AddN, ev_Isi, ev_oNone, ev_oSome, ev_oInt, ev_Sl, ev_SlN, ev_Fn, ev_FnK, ev_Len, ev_sNil, ev_Seq, ev_nx, ev_rt, ev_bk, ev_ct, ev_Asg, ev_nxO, ev_gNm, ev_gsNil, ev_gsCons, ev_Ret, ev_RetN, ev_sIf, ev_Drop, ev_Brk, ev_Cnt, ev_Par, ev_par2, ev_par3, ev_SetIx, ev_stO, ev_iSeq, ev_itL, ev_itT, ev_Ran1, ev_Ran2, ev_Enu, ev_enu, ev_Zip, ev_zipL, ev_zipT, ev_Comp, ev_fix, ev_Yes, ev_wipe0, ev_wipe, ev_For, ev_forF, ev_endRt, ev_endNx, ev_endM, ev_lvT, ev_lvL, ev_lvI, ev_lvB, ev_lvS, ev_lvN, ev_lvD, ev_addI, ev_subI, ev_negI, ev_eqI, ev_neI, ev_eqB, ev_neB, ev_cmpI, ev_isN, ev_isNotN, ev_lenL, ev_lenT, ev_tupL, ev_tupT, ev_lstL, ev_lstT, ev_int, ev_intB, ev_abs, ev_min2, ev_max2, ev_ixL, ev_ixT, Out.bind_ok, bindN_ok, Option.bind_some, List.set_cons_zero, List.set_cons_succ, List.getElem?_cons_zero, List.getElem?_cons_succ, ev_mk0, ev_mk1, ev_mk2, ev_mk3, ev_mk4, ev_ck0, ev_ck, Nat.zero_le, nr_int, nr_bl, nr_str, nr_non, nr_tup, nr_lst, En.nr, noRefs_nil, noRefs_cons, Bool.not_false, Bool.and_self, Bool.and_true, Bool.true_and, List.length_cons, List.length_nil, Nat.reduceAdd, Nat.reduceLeDiff, take_self, take_app, take_set, if_true, if_false, Bool.false_eq_true, Bool.not_true, atI_0, atI_1, ev_tu2, ev_tu2w, ev_tu2L, ev_tu3, ev_tu4, ev_pick0, ev_pick, List.nil_append, List.cons_append]
      rfl
    | _ => first | (simp -implicitDefEqProofs only [ev_Blk, ek_blkNx, ek_blkRt, ek_blkBk, ek_blkCt, frz_nil, frz_some, frz_none, frz_int, frz_bl, frz_str, frz_non, frz_tup, frz_lst, frz_set, frz_dct, ev_FzD, ev_MuD, ek_dctF, ek_dctM, ev_Emp, ev_CallD, ek_CallD, ev_optD, ev_Met, ek_Met, ek_Met2, isDct_dct, ev_RevA, ek_RevAL, ek_RevAT, ev_RevN, ek_Rev, ev_Star, ek_StarL, ek_StarT, ek_Star2, ev_ltI, ek_Op, ek_Op2, ek_Un, ek_AndT, ek_AndF, ek_OrT, ek_OrF, ek_Not, ek_IfT, ek_IfF, ek_Cons, ek_Cons2, ek_Fz, ek_Mu, ek_Call, ek_CallN, ek_AddN, ek_AddN2, ek_Sl, ek_Sl2, ek_Sl3, ek_SlN, ek_SlN2, ek_SlN3, ek_FnK, ek_FnK2, ek_Len, ek_Asg, ek_Ret, ek_SIfT, ek_SIfF, ek_Drop, ek_Set, ek_Set2, ek_Set3, ek_OrB, ek_OrBT, ek_OrBF, ek_AndB, ek_AndBT, ek_AndBF, ek_NotB, ek_NotB2, ev_App, ev_Pop, ev_opt, ev_C, ev_Var, ev_Op, ev_Un, ev_Test, ev_test, ev_AndT, ev_OrT, ev_NotT, ev_If, ev_Truth, ev_truB, ev_truI, ev_truL, ev_truT, ev_truN, ev_OrB, ev_AndB, ev_NotB, ev_Nil, ev_Cons, ev_Tup, ev_Chk, ev_Fz, ev_Mu, ev_Call, ev_CallN, ev_optL, ev_AddN, ev_Isi, ev_oNone, ev_oSome, ev_oInt, ev_Sl, ev_SlN, ev_Fn, ev_FnK, ev_Len, ev_sNil, ev_Seq, ev_nx, ev_rt, ev_bk, ev_ct, ev_Asg, ev_nxO, ev_gNm, ev_gsNil, ev_gsCons, ev_Ret, ev_RetN, ev_sIf, ev_Drop, ev_Brk, ev_Cnt, ev_Par, ev_par2, ev_par3, ev_SetIx, ev_stO, ev_iSeq, ev_itL, ev_itT, ev_Ran1, ev_Ran2, ev_Enu, ev_enu, ev_Zip, ev_zipL, ev_zipT, ev_Comp, ev_fix, ev_Yes, ev_wipe0, ev_wipe, ev_For, ev_forF, ev_endRt, ev_endNx, ev_endM, ev_lvT, ev_lvL, ev_lvI, ev_lvB, ev_lvS, ev_lvN, ev_lvD, ev_addI, ev_subI, ev_negI, ev_eqI, ev_neI, ev_eqB, ev_neB, ev_cmpI, ev_isN, ev_isNotN, ev_lenL, ev_lenT, ev_tupL, ev_tupT, ev_lstL, ev_lstT, ev_int, ev_intB, ev_abs, ev_min2, ev_max2, ev_ixL, ev_ixT, Out.bind_ok, bindN_ok, Option.bind_some, List.set_cons_zero, List.set_cons_succ, List.getElem?_cons_zero, List.getElem?_cons_succ, ev_mk0, ev_mk1, ev_mk2, ev_mk3, ev_mk4, ev_ck0, ev_ck, Nat.zero_le, nr_int, nr_bl, nr_str, nr_non, nr_tup, nr_lst, En.nr, noRefs_nil, noRefs_cons, Bool.not_false, Bool.and_self, Bool.and_true, Bool.true_and, List.length_cons, List.length_nil, Nat.reduceAdd, Nat.reduceLeDiff, take_self, take_app, take_set, if_true, if_false, Bool.false_eq_true, Bool.not_true, atI_0, atI_1, ev_tu2, ev_tu2w, ev_tu2L, ev_tu3, ev_tu4, ev_pick0, ev_pick, List.nil_append, List.cons_append, isiO, view, isTys, isTy]; rfl) | (simp [D.shp] at h; done)
/-- what is read is read of the lists, too -/
theorem rdInt_lst (d : D) : rdInt (lstD d) = rdInt d := by cases d <;> rfl
theorem rdSeq_lst (d : D) : rdSeq (lstD d) = (rdSeq d).map (·.map lstD) := by cases d <;> first | rfl | (show some (lstDs _) = _; rw [lstDs_map]; rfl)
theorem rdPair_lst {α β : Type} {f : D → Option α} {g : D → Option β} (hf : ∀ x, f (lstD x) = f x) (hg : ∀ x, g (lstD x) = g x) (d : D) : rdPair f g (lstD d) = rdPair f g d := by
  unfold rdPair
  rw [rdSeq_lst]
  cases rdSeq d with
  | none => rfl
  | some xs => match xs with
    | [] => rfl
    | [_] => rfl
    | [x, y] => simp only [Option.map_some, List.map_cons, List.map_nil, hf, hg]
    | _ :: _ :: _ :: _ => rfl
theorem rdAll_lst {α : Type} {f : D → Option α} (hf : ∀ x, f (lstD x) = f x) : ∀ l : List D, rdAll f (l.map lstD) = rdAll f l
  | [] => rfl
  | d :: l => by simp only [List.map_cons, rdAll, hf, rdAll_lst hf l]
theorem rdL_lst {α : Type} {f : D → Option α} (hf : ∀ x, f (lstD x) = f x) (d : D) : rdL f (lstD d) = rdL f d := by
  unfold rdL
  rw [rdSeq_lst]
  cases rdSeq d with
  | none => rfl
  | some xs => exact rdAll_lst hf xs
theorem rdPt_lst (d : D) : rdPt (lstD d) = rdPt d := rdPair_lst rdInt_lst rdInt_lst d
theorem rdPic_lst (d : D) : rdPic (lstD d) = rdPic d := rdL_lst rdPt_lst d
/-- what is read is the tuples -/
theorem rdInt_tup {d : D} {i : Int} (h : rdInt d = some i) : tupD d = en i := by rw [rdInt_some h]; rfl
theorem rdSeq_tup {d : D} {xs : List D} (h : rdSeq d = some xs) : tupD d = .tup (xs.map tupD) := by
  cases d <;> first | (cases h; show D.tup (tupDs _) = _; rw [tupDs_map]) | cases h
theorem rdPair_tup {α β : Type} [En α] [En β] {f : D → Option α} {g : D → Option β} (hf : ∀ x a, f x = some a → tupD x = en a) (hg : ∀ x b, g x = some b → tupD x = en b) {d : D} {p : α × β} (h : rdPair f g d = some p) : tupD d = en p := by
  obtain ⟨x, y, h1, h2, h3⟩ := rdPair_some h
  rw [rdSeq_tup h1]
  simp only [List.map_cons, List.map_nil, hf _ _ h2, hg _ _ h3]
  rfl
theorem rdAll_tup {α : Type} [En α] {f : D → Option α} (hf : ∀ x a, f x = some a → tupD x = en a) : ∀ {ds : List D} {l : List α}, rdAll f ds = some l → ds.map tupD = l.map en
  | [], _, h => by cases h; rfl
  | d :: ds, _, h => by
    obtain ⟨a, l', rfl, h1, h2⟩ := rdAll_cons h
    rw [List.map_cons, List.map_cons, hf _ _ h1, rdAll_tup hf h2]
theorem rdL_tup {α : Type} [En α] {f : D → Option α} (hf : ∀ x a, f x = some a → tupD x = en a) {d : D} {l : List α} (h : rdL f d = some l) : tupD d = en l := by
  obtain ⟨xs, h1, h2⟩ := rdL_some h
  rw [rdSeq_tup h1, rdAll_tup hf h2]; rfl
theorem rdPt_tup {d : D} {p : Pt} (h : rdPt d = some p) : tupD d = en p := rdPair_tup (fun _ _ => rdInt_tup) (fun _ _ => rdInt_tup) h
theorem rdPic_tup {d : D} {l : Pic} (h : rdPic d = some l) : tupD d = en l := rdL_tup (fun _ _ => rdPt_tup) h
/-- depths of what is read -/
theorem rdInt_shp {d : D} {i : Int} (h : rdInt d = some i) : d.shp 0 = true := by rw [rdInt_some h]; rfl
theorem rdSeq_shp {d : D} {xs : List D} {n : Nat} (h : rdSeq d = some xs) (hx : ∀ x ∈ xs, x.shp n = true) : d.shp (n + 1) = true := by
  cases d <;> first | (cases h; exact shps_all.mpr hx) | cases h
theorem rdPair_shp {α β : Type} {f : D → Option α} {g : D → Option β} {n : Nat} (hf : ∀ x a, f x = some a → x.shp n = true) (hg : ∀ x b, g x = some b → x.shp n = true) {d : D} {p : α × β} (h : rdPair f g d = some p) : d.shp (n + 1) = true := by
  obtain ⟨x, y, h1, h2, h3⟩ := rdPair_some h
  refine rdSeq_shp h1 fun z m => ?_
  rcases List.mem_cons.mp m with rfl | m
  · exact hf _ _ h2
  · rcases List.mem_cons.mp m with rfl | m
    · exact hg _ _ h3
    · cases m
theorem rdAll_shp {α : Type} {f : D → Option α} {n : Nat} (hf : ∀ x a, f x = some a → x.shp n = true) : ∀ {ds : List D} {l : List α}, rdAll f ds = some l → ∀ x ∈ ds, x.shp n = true
  | [], _, _, _, m => by cases m
  | d :: ds, _, h, x, m => by
    obtain ⟨a, l', rfl, h1, h2⟩ := rdAll_cons h
    rcases List.mem_cons.mp m with rfl | m
    · exact hf _ _ h1
    · exact rdAll_shp hf h2 x m
theorem rdL_shp {α : Type} {f : D → Option α} {n : Nat} (hf : ∀ x a, f x = some a → x.shp n = true) {d : D} {l : List α} (h : rdL f d = some l) : d.shp (n + 1) = true := by
  obtain ⟨xs, h1, h2⟩ := rdL_some h
  exact rdSeq_shp h1 (rdAll_shp hf h2)
theorem rdPt_shp {d : D} {p : Pt} (h : rdPt d = some p) : d.shp 1 = true := rdPair_shp (fun _ _ => rdInt_shp) (fun _ _ => rdInt_shp) h
theorem rdPic_shp {d : D} {p : Pic} (h : rdPic d = some p) : d.shp 2 = true := rdL_shp (fun _ _ => rdPt_shp) h
theorem zipD_self : ∀ l : List D, zipD l l = l.map fun x => .tupw [x, x]
  | [] => rfl
  | d :: l => by show D.tupw [d, d] :: zipD l l = _; rw [zipD_self l]; rfl
mutual
theorem eqv_self : ∀ (d : D) {n : Nat}, d.shp n = true → d.eqv d = true
  | .non, _, _ => rfl
  | .bl b, _, _ => by simp [D.eqv]
  | .int i, _, _ => by simp [D.eqv]
  | .str x, _, _ => by simp [D.eqv]
  | .tup xs, 0, h => by simp [D.shp] at h
  | .tup xs, n + 1, h => by simp only [D.shp] at h; simp only [D.eqv]; exact eqvs_self xs h
  | .lst xs, 0, h => by simp [D.shp] at h
  | .lst xs, n + 1, h => by simp only [D.shp] at h; simp only [D.eqv]; exact eqvs_self xs h
  | .set _, _, h => by simp [D.shp] at h
  | .seti _, _, h => by simp [D.shp] at h
  | .dct _ _, _, h => by simp [D.shp] at h
  | .tupw _, _, h => by simp [D.shp] at h
  | .scr _, _, h => by simp [D.shp] at h
  | .ref _, _, h => by simp [D.shp] at h
theorem eqvs_self : ∀ (ds : List D) {n : Nat}, D.shps ds n = true → D.eqvs ds ds = true
  | [], _, _ => rfl
  | d :: r, n, h => by
    simp only [D.shps, Bool.and_eq_true] at h
    simp only [D.eqvs, eqv_self d h.1, eqvs_self r h.2, Bool.and_self]
end
theorem same_ok {S : Store} : ∀ (n : Nat) (d : D), d.shp n = true → F__law_same (n + 1) [d, d] S = .ok (.bl true) S := by
  have flat : ∀ (n : Nat) (d : D), d.shp 0 = true → F__law_same (n + 1) [d, d] S = .ok (.bl true) S := fun n d h => by
    rw [U__law_same]
    unfold B__law_same
    have e : gEq S d d = some (.bl true) := by
      have h60 : d.shp 60 = true := shp_mono d (by omega) h
      unfold gEq
      rw [shp60_noref h60, h60, eqv_self d h60]; rfl
    cases d with
    | non => simp -implicitDefEqProofs only [ev_Blk, ek_blkNx, ek_blkRt, ek_blkBk, ek_blkCt, frz_nil, frz_some, frz_none, frz_int, frz_bl, frz_str, frz_non, frz_tup, frz_lst, frz_set, frz_dct, ev_FzD, ev_MuD, ek_dctF, ek_dctM, ev_Emp, ev_CallD, ek_CallD, ev_optD, ev_Met, ek_Met, ek_Met2, isDct_dct, ev_RevA, ek_RevAL, ek_RevAT, ev_RevN, ek_Rev, ev_Star, ek_StarL, ek_StarT, ek_Star2, ev_ltI, ek_Op, ek_Op2, ek_Un, ek_AndT, ek_AndF, ek_OrT, ek_OrF, ek_Not, ek_IfT, ek_IfF, ek_Cons, ek_Cons2, ek_Fz, ek_Mu, ek_Call, ek_CallN, ek_AddN, ek_AddN2, ek_Sl, ek_Sl2, ek_Sl3, ek_SlN, ek_SlN2, ek_SlN3, ek_FnK, ek_FnK2, ek_Len, ek_Asg, ek_Ret, ek_SIfT, ek_SIfF, ek_Drop, ek_Set, ek_Set2, ek_Set3, ek_OrB, ek_OrBT, ek_OrBF, ek_AndB, ek_AndBT, ek_AndBF, ek_NotB, ek_NotB2, ev_App, ev_Pop, ev_opt, ev_C, ev_Var, ev_Op, ev_Un, ev_Test, ev_test, ev_AndT, ev_OrT, ev_NotT, ev_If, ev_Truth, ev_truB, ev_truI, ev_truL, ev_truT, ev_truN, ev_OrB, ev_AndB, ev_NotB, ev_Nil, ev_Cons, ev_Tup, ev_Chk, ev_Fz, ev_Mu, ev_Call, ev_CallN, ev_optL, ev_AddN, ev_Isi, ev_oNone, ev_oSome, ev_oInt, ev_Sl, ev_SlN, ev_Fn, ev_FnK, ev_Len, ev_sNil, ev_Seq, ev_nx, ev_rt, ev_bk, ev_ct, ev_Asg, ev_nxO, ev_gNm, ev_gsNil, ev_gsCons, ev_Ret, ev_RetN, ev_sIf, ev_Drop, ev_Brk, ev_Cnt, ev_Par, ev_par2, ev_par3, ev_SetIx, ev_stO, ev_iSeq, ev_itL, ev_itT, ev_Ran1, ev_Ran2, ev_Enu, ev_enu, ev_Zip, ev_zipL, ev_zipT, ev_Comp, ev_fix, ev_Yes, ev_wipe0, ev_wipe, ev_For, ev_forF, ev_endRt, ev_endNx, ev_endM, ev_lvT, ev_lvL, ev_lvI, ev_lvB, ev_lvS, ev_lvN, ev_lvD, ev_addI, ev_subI, ev_negI, ev_eqI, ev_neI, ev_eqB, ev_neB, ev_cmpI, ev_isN, ev_isNotN, ev_lenL, ev_lenT, ev_tupL, ev_tupT, ev_lstL, ev_lstT, ev_int, ev_intB, ev_abs, ev_min2, ev_max2, ev_ixL, ev_ixT, Out.bind_ok, bindN_ok, Option.bind_some, List.set_cons_zero, List.set_cons_succ, List.getElem?_cons_zero, List.getElem?_cons_succ, ev_mk0, ev_mk1, ev_mk2, ev_mk3, ev_mk4, ev_ck0, ev_ck, Nat.zero_le, nr_int, nr_bl, nr_str, nr_non, nr_tup, nr_lst, En.nr, noRefs_nil, noRefs_cons, Bool.not_false, Bool.and_self, Bool.and_true, Bool.true_and, List.length_cons, List.length_nil, Nat.reduceAdd, Nat.reduceLeDiff, take_self, take_app, take_set, if_true, if_false, Bool.false_eq_true, Bool.not_true, atI_0, atI_1, ev_tu2, ev_tu2w, ev_tu2L, ev_tu3, ev_tu4, ev_pick0, ev_pick, List.nil_append, List.cons_append, isiO, view, isTys, isTy, D.isNon, e, beq_self_eq_true]
    | bl b => simp -implicitDefEqProofs only [ev_Blk, ek_blkNx, ek_blkRt, ek_blkBk, ek_blkCt, frz_nil, frz_some, frz_none, frz_int, frz_bl, frz_str, frz_non, frz_tup, frz_lst, frz_set, frz_dct, ev_FzD, ev_MuD, ek_dctF, ek_dctM, ev_Emp, ev_CallD, ek_CallD, ev_optD, ev_Met, ek_Met, ek_Met2, isDct_dct, ev_RevA, ek_RevAL, ek_RevAT, ev_RevN, ek_Rev, ev_Star, ek_StarL, ek_StarT, ek_Star2, ev_ltI, ek_Op, ek_Op2, ek_Un, ek_AndT, ek_AndF, ek_OrT, ek_OrF, ek_Not, ek_IfT, ek_IfF, ek_Cons, ek_Cons2, ek_Fz, ek_Mu, ek_Call, ek_CallN, ek_AddN, ek_AddN2, ek_Sl, ek_Sl2, ek_Sl3, ek_SlN, ek_SlN2, ek_SlN3, ek_FnK, ek_FnK2, ek_Len, ek_Asg, ek_Ret, ek_SIfT, ek_SIfF, ek_Drop, ek_Set, ek_Set2, ek_Set3, ek_OrB, ek_OrBT, ek_OrBF, ek_AndB, ek_AndBT, ek_AndBF, ek_NotB, ek_NotB2, ev_App, ev_Pop, ev_opt, ev_C, ev_Var, ev_Op, ev_Un, ev_Test, ev_test, ev_AndT, ev_OrT, ev_NotT, ev_If, ev_Truth, ev_truB, ev_truI, ev_truL, ev_truT, ev_truN, ev_OrB, ev_AndB, ev_NotB, ev_Nil, ev_Cons, ev_Tup, ev_Chk, ev_Fz, ev_Mu, ev_Call, ev_CallN, ev_optL, ev_AddN, ev_Isi, ev_oNone, ev_oSome, ev_oInt, ev_Sl, ev_SlN, ev_Fn, ev_FnK, ev_Len, ev_sNil, ev_Seq, ev_nx, ev_rt, ev_bk, ev_ct, ev_Asg, ev_nxO, ev_gNm, ev_gsNil, ev_gsCons, ev_Ret, ev_RetN, ev_sIf, ev_Drop, ev_Brk, ev_Cnt, ev_Par, ev_par2, ev_par3, ev_SetIx, ev_stO, ev_iSeq, ev_itL, ev_itT, ev_Ran1, ev_Ran2, ev_Enu, ev_enu, ev_Zip, ev_zipL, ev_zipT, ev_Comp, ev_fix, ev_Yes, ev_wipe0, ev_wipe, ev_For, ev_forF, ev_endRt, ev_endNx, ev_endM, ev_lvT, ev_lvL, ev_lvI, ev_lvB, ev_lvS, ev_lvN, ev_lvD, ev_addI, ev_subI, ev_negI, ev_eqI, ev_neI, ev_eqB, ev_neB, ev_cmpI, ev_isN, ev_isNotN, ev_lenL, ev_lenT, ev_tupL, ev_tupT, ev_lstL, ev_lstT, ev_int, ev_intB, ev_abs, ev_min2, ev_max2, ev_ixL, ev_ixT, Out.bind_ok, bindN_ok, Option.bind_some, List.set_cons_zero, List.set_cons_succ, List.getElem?_cons_zero, List.getElem?_cons_succ, ev_mk0, ev_mk1, ev_mk2, ev_mk3, ev_mk4, ev_ck0, ev_ck, Nat.zero_le, nr_int, nr_bl, nr_str, nr_non, nr_tup, nr_lst, En.nr, noRefs_nil, noRefs_cons, Bool.not_false, Bool.and_self, Bool.and_true, Bool.true_and, List.length_cons, List.length_nil, Nat.reduceAdd, Nat.reduceLeDiff, take_self, take_app, take_set, if_true, if_false, Bool.false_eq_true, Bool.not_true, atI_0, atI_1, ev_tu2, ev_tu2w, ev_tu2L, ev_tu3, ev_tu4, ev_pick0, ev_pick, List.nil_append, List.cons_append, isiO, view, isTys, isTy, D.isNon, e, beq_self_eq_true]
    | int i => simp -implicitDefEqProofs only [ev_Blk, ek_blkNx, ek_blkRt, ek_blkBk, ek_blkCt, frz_nil, frz_some, frz_none, frz_int, frz_bl, frz_str, frz_non, frz_tup, frz_lst, frz_set, frz_dct, ev_FzD, ev_MuD, ek_dctF, ek_dctM, ev_Emp, ev_CallD, ek_CallD, ev_optD, ev_Met, ek_Met, ek_Met2, isDct_dct, ev_RevA, ek_RevAL, ek_RevAT, ev_RevN, ek_Rev, ev_Star, ek_StarL, ek_StarT, ek_Star2, ev_ltI, ek_Op, ek_Op2, ek_Un, ek_AndT, ek_AndF, ek_OrT, ek_OrF, ek_Not, ek_IfT, ek_IfF, ek_Cons, ek_Cons2, ek_Fz, ek_Mu, ek_Call, ek_CallN, ek_AddN, ek_AddN2, ek_Sl, ek_Sl2, ek_Sl3, ek_SlN, ek_SlN2, ek_SlN3, ek_FnK, ek_FnK2, ek_Len, ek_Asg, ek_Ret, ek_SIfT, ek_SIfF, ek_Drop, ek_Set, ek_Set2, ek_Set3, ek_OrB, ek_OrBT, ek_OrBF, ek_AndB, ek_AndBT, ek_AndBF, ek_NotB, ek_NotB2, ev_App, ev_Pop, ev_opt, ev_C, ev_Var, ev_Op, ev_Un, ev_Test, ev_test, ev_AndT, ev_OrT, ev_NotT, ev_If, ev_Truth, ev_truB, ev_truI, ev_truL, ev_truT, ev_truN, ev_OrB, ev_AndB, ev_NotB, ev_Nil, ev_Cons, ev_Tup, ev_Chk, ev_Fz, ev_Mu, ev_Call, ev_CallN, ev_optL, ev_AddN, ev_Isi, ev_oNone, ev_oSome, ev_oInt, ev_Sl, ev_SlN, ev_Fn, ev_FnK, ev_Len, ev_sNil, ev_Seq, ev_nx, ev_rt, ev_bk, ev_ct, ev_Asg, ev_nxO, ev_gNm, ev_gsNil, ev_gsCons, ev_Ret, ev_RetN, ev_sIf, ev_Drop, ev_Brk, ev_Cnt, ev_Par, ev_par2, ev_par3, ev_SetIx, ev_stO, ev_iSeq, ev_itL, ev_itT, ev_Ran1, ev_Ran2, ev_Enu, ev_enu, ev_Zip, ev_zipL, ev_zipT, ev_Comp, ev_fix, ev_Yes, ev_wipe0, ev_wipe, ev_For, ev_forF, ev_endRt, ev_endNx, ev_endM, ev_lvT, ev_lvL, ev_lvI, ev_lvB, ev_lvS, ev_lvN, ev_lvD, ev_addI, ev_subI, ev_negI, ev_eqI, ev_neI, ev_eqB, ev_neB, ev_cmpI, ev_isN, ev_isNotN, ev_lenL, ev_lenT, ev_tupL, ev_tupT, ev_lstL, ev_lstT, ev_int, ev_intB, ev_abs, ev_min2, ev_max2, ev_ixL, ev_ixT, Out.bind_ok, bindN_ok, Option.bind_some, List.set_cons_zero, List.set_cons_succ, List.getElem?_cons_zero, List.getElem?_cons_succ, ev_mk0, ev_mk1, ev_mk2, ev_mk3, ev_mk4, ev_ck0, ev_ck, Nat.zero_le, nr_int, nr_bl, nr_str, nr_non, nr_tup, nr_lst, En.nr, noRefs_nil, noRefs_cons, Bool.not_false, Bool.and_self, Bool.and_true, Bool.true_and, List.length_cons, List.length_nil, Nat.reduceAdd, Nat.reduceLeDiff, take_self, take_app, take_set, if_true, if_false, Bool.false_eq_true, Bool.not_true, atI_0, atI_1, ev_tu2, ev_tu2w, ev_tu2L, ev_tu3, ev_tu4, ev_pick0, ev_pick, List.nil_append, List.cons_append, isiO, view, isTys, isTy, D.isNon, e, beq_self_eq_true]
    | str x => simp -implicitDefEqProofs only [ev_Blk, ek_blkNx, ek_blkRt, ek_blkBk, ek_blkCt, frz_nil, frz_some, frz_none, frz_int, frz_bl, frz_str, frz_non, frz_tup, frz_lst, frz_set, frz_dct, ev_FzD, ev_MuD, ek_dctF, ek_dctM, ev_Emp, ev_CallD, ek_CallD, ev_optD, ev_Met, ek_Met, ek_Met2, isDct_dct, ev_RevA, ek_RevAL, ek_RevAT, ev_RevN, ek_Rev, ev_Star, ek_StarL, ek_StarT, ek_Star2, ev_ltI, ek_Op, ek_Op2, ek_Un, ek_AndT, ek_AndF, ek_OrT, ek_OrF, ek_Not, ek_IfT, ek_IfF, ek_Cons, ek_Cons2, ek_Fz, ek_Mu, ek_Call, ek_CallN, ek_AddN, ek_AddN2, ek_Sl, ek_Sl2, ek_Sl3, ek_SlN, ek_SlN2, ek_SlN3, ek_FnK, ek_FnK2, ek_Len, ek_Asg, ek_Ret, ek_SIfT, ek_SIfF, ek_Drop, ek_Set, ek_Set2, ek_Set3, ek_OrB, ek_OrBT, ek_OrBF, ek_AndB, ek_AndBT, ek_AndBF, ek_NotB, ek_NotB2, ev_App, ev_Pop, ev_opt, ev_C, ev_Var, ev_Op, ev_Un, ev_Test, ev_test, ev_AndT, ev_OrT, ev_NotT, ev_If, ev_Truth, ev_truB, ev_truI, ev_truL, ev_truT, ev_truN, ev_OrB, ev_AndB, ev_NotB, ev_Nil, ev_Cons, ev_Tup, ev_Chk, ev_Fz, ev_Mu, ev_Call, ev_CallN, ev_optL, ev_AddN, ev_Isi, ev_oNone, ev_oSome, ev_oInt, ev_Sl, ev_SlN, ev_Fn, ev_FnK, ev_Len, ev_sNil, ev_Seq, ev_nx, ev_rt, ev_bk, ev_ct, ev_Asg, ev_nxO, ev_gNm, ev_gsNil, ev_gsCons, ev_Ret, ev_RetN, ev_sIf, ev_Drop, ev_Brk, ev_Cnt, ev_Par, ev_par2, ev_par3, ev_SetIx, ev_stO, ev_iSeq, ev_itL, ev_itT, ev_Ran1, ev_Ran2, ev_Enu, ev_enu, ev_Zip, ev_zipL, ev_zipT, ev_Comp, ev_fix, ev_Yes, ev_wipe0, ev_wipe, ev_For, ev_forF, ev_endRt, ev_endNx, ev_endM, ev_lvT, ev_lvL, ev_lvI, ev_lvB, ev_lvS, ev_lvN, ev_lvD, ev_addI, ev_subI, ev_negI, ev_eqI, ev_neI, ev_eqB, ev_neB, ev_cmpI, ev_isN, ev_isNotN, ev_lenL, ev_lenT, ev_tupL, ev_tupT, ev_lstL, ev_lstT, ev_int, ev_intB, ev_abs, ev_min2, ev_max2, ev_ixL, ev_ixT, Out.bind_ok, bindN_ok, Option.bind_some, List.set_cons_zero, List.set_cons_succ, List.getElem?_cons_zero, List.getElem?_cons_succ, ev_mk0, ev_mk1, ev_mk2, ev_mk3, ev_mk4, ev_ck0, ev_ck, Nat.zero_le, nr_int, nr_bl, nr_str, nr_non, nr_tup, nr_lst, En.nr, noRefs_nil, noRefs_cons, Bool.not_false, Bool.and_self, Bool.and_true, Bool.true_and, List.length_cons, List.length_nil, Nat.reduceAdd, Nat.reduceLeDiff, take_self, take_app, take_set, if_true, if_false, Bool.false_eq_true, Bool.not_true, atI_0, atI_1, ev_tu2, ev_tu2w, ev_tu2L, ev_tu3, ev_tu4, ev_pick0, ev_pick, List.nil_append, List.cons_append, isiO, view, isTys, isTy, D.isNon, e, beq_self_eq_true]
    | _ => simp [D.shp] at h
  intro n
  induction n with
  | zero => exact fun d h => flat 0 d h
  | succ n ih =>
    intro d h
    have go : ∀ (xs : List D), D.shps xs n = true → ∀ a b c : Option D, compF (gTu 2 (gsCons (gNm 3) (gsCons (gNm 4) gsNil))) dYes (dFn (F__law_same (n + 1)) (dCons (dVar 3) (dCons (dVar 4) dNil))) [a, b, c, none, none] (zipD xs xs) S = .ok (xs.map fun _ => .bl true) S := fun xs hx a b c => by
      rw [zipD_self]
      refine compF_enA fun x m => one_yes (ev_tu2w.trans rfl) ?_ rfl
      simp -implicitDefEqProofs only [ev_Blk, ek_blkNx, ek_blkRt, ek_blkBk, ek_blkCt, frz_nil, frz_some, frz_none, frz_int, frz_bl, frz_str, frz_non, frz_tup, frz_lst, frz_set, frz_dct, ev_FzD, ev_MuD, ek_dctF, ek_dctM, ev_Emp, ev_CallD, ek_CallD, ev_optD, ev_Met, ek_Met, ek_Met2, isDct_dct, ev_RevA, ek_RevAL, ek_RevAT, ev_RevN, ek_Rev, ev_Star, ek_StarL, ek_StarT, ek_Star2, ev_ltI, ek_Op, ek_Op2, ek_Un, ek_AndT, ek_AndF, ek_OrT, ek_OrF, ek_Not, ek_IfT, ek_IfF, ek_Cons, ek_Cons2, ek_Fz, ek_Mu, ek_Call, ek_CallN, ek_AddN, ek_AddN2, ek_Sl, ek_Sl2, ek_Sl3, ek_SlN, ek_SlN2, ek_SlN3, ek_FnK, ek_FnK2, ek_Len, ek_Asg, ek_Ret, ek_SIfT, ek_SIfF, ek_Drop, ek_Set, ek_Set2, ek_Set3, ek_OrB, ek_OrBT, ek_OrBF, ek_AndB, ek_AndBT, ek_AndBF, ek_NotB, ek_NotB2, ev_App, ev_Pop, ev_opt, ev_C, ev_Var, ev_Op, ev_Un, ev_Test, ev_test, ev_AndT, ev_OrT, ev_NotT, ev_If, ev_Truth, ev_truB, ev_truI, ev_truL, ev_truT, ev_truN, ev_OrB, ev_AndB, ev_NotB, ev_Nil, ev_Cons, ev_Tup, ev_Chk, ev_Fz, ev_Mu, ev_Call, ev_CallN, ev_optL, ev_AddN, ev_Isi, ev_oNone, ev_oSome, ev_oInt, ev_Sl, ev_SlN, ev_Fn, ev_FnK, ev_Len, ev_sNil, ev_Seq, ev_nx, ev_rt, ev_bk, ev_ct, ev_Asg, ev_nxO, ev_gNm, ev_gsNil, ev_gsCons, ev_Ret, ev_RetN, ev_sIf, ev_Drop, ev_Brk, ev_Cnt, ev_Par, ev_par2, ev_par3, ev_SetIx, ev_stO, ev_iSeq, ev_itL, ev_itT, ev_Ran1, ev_Ran2, ev_Enu, ev_enu, ev_Zip, ev_zipL, ev_zipT, ev_Comp, ev_fix, ev_Yes, ev_wipe0, ev_wipe, ev_For, ev_forF, ev_endRt, ev_endNx, ev_endM, ev_lvT, ev_lvL, ev_lvI, ev_lvB, ev_lvS, ev_lvN, ev_lvD, ev_addI, ev_subI, ev_negI, ev_eqI, ev_neI, ev_eqB, ev_neB, ev_cmpI, ev_isN, ev_isNotN, ev_lenL, ev_lenT, ev_tupL, ev_tupT, ev_lstL, ev_lstT, ev_int, ev_intB, ev_abs, ev_min2, ev_max2, ev_ixL, ev_ixT, Out.bind_ok, bindN_ok, Option.bind_some, List.set_cons_zero, List.set_cons_succ, List.getElem?_cons_zero, List.getElem?_cons_succ, ev_mk0, ev_mk1, ev_mk2, ev_mk3, ev_mk4, ev_ck0, ev_ck, Nat.zero_le, nr_int, nr_bl, nr_str, nr_non, nr_tup, nr_lst, En.nr, noRefs_nil, noRefs_cons, Bool.not_false, Bool.and_self, Bool.and_true, Bool.true_and, List.length_cons, List.length_nil, Nat.reduceAdd, Nat.reduceLeDiff, take_self, take_app, take_set, if_true, if_false, Bool.false_eq_true, Bool.not_true, atI_0, atI_1, ev_tu2, ev_tu2w, ev_tu2L, ev_tu3, ev_tu4, ev_pick0, ev_pick, List.nil_append, List.cons_append, ih x (shps_all.mp hx x m)]
    have al : ∀ xs : List D, gAll S [.lst (xs.map fun _ => .bl true)] = some (.bl true) := fun xs => all_true fun x m => by obtain ⟨_, _, rfl⟩ := List.mem_map.mp m; rfl
    cases d with
    | tup xs =>
      rw [U__law_same]
      unfold B__law_same
      have hx : D.shps xs n = true := by simpa [D.shp] using h
      simp -implicitDefEqProofs only [ev_Blk, ek_blkNx, ek_blkRt, ek_blkBk, ek_blkCt, frz_nil, frz_some, frz_none, frz_int, frz_bl, frz_str, frz_non, frz_tup, frz_lst, frz_set, frz_dct, ev_FzD, ev_MuD, ek_dctF, ek_dctM, ev_Emp, ev_CallD, ek_CallD, ev_optD, ev_Met, ek_Met, ek_Met2, isDct_dct, ev_RevA, ek_RevAL, ek_RevAT, ev_RevN, ek_Rev, ev_Star, ek_StarL, ek_StarT, ek_Star2, ev_ltI, ek_Op, ek_Op2, ek_Un, ek_AndT, ek_AndF, ek_OrT, ek_OrF, ek_Not, ek_IfT, ek_IfF, ek_Cons, ek_Cons2, ek_Fz, ek_Mu, ek_Call, ek_CallN, ek_AddN, ek_AddN2, ek_Sl, ek_Sl2, ek_Sl3, ek_SlN, ek_SlN2, ek_SlN3, ek_FnK, ek_FnK2, ek_Len, ek_Asg, ek_Ret, ek_SIfT, ek_SIfF, ek_Drop, ek_Set, ek_Set2, ek_Set3, ek_OrB, ek_OrBT, ek_OrBF, ek_AndB, ek_AndBT, ek_AndBF, ek_NotB, ek_NotB2, ev_App, ev_Pop, ev_opt, ev_C, ev_Var, ev_Op, ev_Un, ev_Test, ev_test, ev_AndT, ev_OrT, ev_NotT, ev_If, ev_Truth, ev_truB, ev_truI, ev_truL, ev_truT, ev_truN, ev_OrB, ev_AndB, ev_NotB, ev_Nil, ev_Cons, ev_Tup, ev_Chk, ev_Fz, ev_Mu, ev_Call, ev_CallN, ev_optL, ev_AddN, ev_Isi, ev_oNone, ev_oSome, ev_oInt, ev_Sl, ev_SlN, ev_Fn, ev_FnK, ev_Len, ev_sNil, ev_Seq, ev_nx, ev_rt, ev_bk, ev_ct, ev_Asg, ev_nxO, ev_gNm, ev_gsNil, ev_gsCons, ev_Ret, ev_RetN, ev_sIf, ev_Drop, ev_Brk, ev_Cnt, ev_Par, ev_par2, ev_par3, ev_SetIx, ev_stO, ev_iSeq, ev_itL, ev_itT, ev_Ran1, ev_Ran2, ev_Enu, ev_enu, ev_Zip, ev_zipL, ev_zipT, ev_Comp, ev_fix, ev_Yes, ev_wipe0, ev_wipe, ev_For, ev_forF, ev_endRt, ev_endNx, ev_endM, ev_lvT, ev_lvL, ev_lvI, ev_lvB, ev_lvS, ev_lvN, ev_lvD, ev_addI, ev_subI, ev_negI, ev_eqI, ev_neI, ev_eqB, ev_neB, ev_cmpI, ev_isN, ev_isNotN, ev_lenL, ev_lenT, ev_tupL, ev_tupT, ev_lstL, ev_lstT, ev_int, ev_intB, ev_abs, ev_min2, ev_max2, ev_ixL, ev_ixT, Out.bind_ok, bindN_ok, Option.bind_some, List.set_cons_zero, List.set_cons_succ, List.getElem?_cons_zero, List.getElem?_cons_succ, ev_mk0, ev_mk1, ev_mk2, ev_mk3, ev_mk4, ev_ck0, ev_ck, Nat.zero_le, nr_int, nr_bl, nr_str, nr_non, nr_tup, nr_lst, En.nr, noRefs_nil, noRefs_cons, Bool.not_false, Bool.and_self, Bool.and_true, Bool.true_and, List.length_cons, List.length_nil, Nat.reduceAdd, Nat.reduceLeDiff, take_self, take_app, take_set, if_true, if_false, Bool.false_eq_true, Bool.not_true, atI_0, atI_1, ev_tu2, ev_tu2w, ev_tu2L, ev_tu3, ev_tu4, ev_pick0, ev_pick, List.nil_append, List.cons_append, isiO, view, isTys, isTy, beq_self_eq_true, go xs hx, al]
    | lst xs =>
      rw [U__law_same]
      unfold B__law_same
      have hx : D.shps xs n = true := by simpa [D.shp] using h
      simp -implicitDefEqProofs only [ev_Blk, ek_blkNx, ek_blkRt, ek_blkBk, ek_blkCt, frz_nil, frz_some, frz_none, frz_int, frz_bl, frz_str, frz_non, frz_tup, frz_lst, frz_set, frz_dct, ev_FzD, ev_MuD, ek_dctF, ek_dctM, ev_Emp, ev_CallD, ek_CallD, ev_optD, ev_Met, ek_Met, ek_Met2, isDct_dct, ev_RevA, ek_RevAL, ek_RevAT, ev_RevN, ek_Rev, ev_Star, ek_StarL, ek_StarT, ek_Star2, ev_ltI, ek_Op, ek_Op2, ek_Un, ek_AndT, ek_AndF, ek_OrT, ek_OrF, ek_Not, ek_IfT, ek_IfF, ek_Cons, ek_Cons2, ek_Fz, ek_Mu, ek_Call, ek_CallN, ek_AddN, ek_AddN2, ek_Sl, ek_Sl2, ek_Sl3, ek_SlN, ek_SlN2, ek_SlN3, ek_FnK, ek_FnK2, ek_Len, ek_Asg, ek_Ret, ek_SIfT, ek_SIfF, ek_Drop, ek_Set, ek_Set2, ek_Set3, ek_OrB, ek_OrBT, ek_OrBF, ek_AndB, ek_AndBT, ek_AndBF, ek_NotB, ek_NotB2, ev_App, ev_Pop, ev_opt, ev_C, ev_Var, ev_Op, ev_Un, ev_Test, ev_test, ev_AndT, ev_OrT, ev_NotT, ev_If, ev_Truth, ev_truB, ev_truI, ev_truL, ev_truT, ev_truN, ev_OrB, ev_AndB, ev_NotB, ev_Nil, ev_Cons, ev_Tup, ev_Chk, ev_Fz, ev_Mu, ev_Call, ev_CallN, ev_optL, ev_AddN, ev_Isi, ev_oNone, ev_oSome, ev_oInt, ev_Sl, ev_SlN, ev_Fn, ev_FnK, ev_Len, ev_sNil, ev_Seq, ev_nx, ev_rt, ev_bk, ev_ct, ev_Asg, ev_nxO, ev_gNm, ev_gsNil, ev_gsCons, ev_Ret, ev_RetN, ev_sIf, ev_Drop, ev_Brk, ev_Cnt, ev_Par, ev_par2, ev_par3, ev_SetIx, ev_stO, ev_iSeq, ev_itL, ev_itT, ev_Ran1, ev_Ran2, ev_Enu, ev_enu, ev_Zip, ev_zipL, ev_zipT, ev_Comp, ev_fix, ev_Yes, ev_wipe0, ev_wipe, ev_For, ev_forF, ev_endRt, ev_endNx, ev_endM, ev_lvT, ev_lvL, ev_lvI, ev_lvB, ev_lvS, ev_lvN, ev_lvD, ev_addI, ev_subI, ev_negI, ev_eqI, ev_neI, ev_eqB, ev_neB, ev_cmpI, ev_isN, ev_isNotN, ev_lenL, ev_lenT, ev_tupL, ev_tupT, ev_lstL, ev_lstT, ev_int, ev_intB, ev_abs, ev_min2, ev_max2, ev_ixL, ev_ixT, Out.bind_ok, bindN_ok, Option.bind_some, List.set_cons_zero, List.set_cons_succ, List.getElem?_cons_zero, List.getElem?_cons_succ, ev_mk0, ev_mk1, ev_mk2, ev_mk3, ev_mk4, ev_ck0, ev_ck, Nat.zero_le, nr_int, nr_bl, nr_str, nr_non, nr_tup, nr_lst, En.nr, noRefs_nil, noRefs_cons, Bool.not_false, Bool.and_self, Bool.and_true, Bool.true_and, List.length_cons, List.length_nil, Nat.reduceAdd, Nat.reduceLeDiff, take_self, take_app, take_set, if_true, if_false, Bool.false_eq_true, Bool.not_true, atI_0, atI_1, ev_tu2, ev_tu2w, ev_tu2L, ev_tu3, ev_tu4, ev_pick0, ev_pick, List.nil_append, List.cons_append, isiO, view, isTys, isTy, beq_self_eq_true, go xs hx, al]
    | non => exact flat _ _ rfl
    | bl b => exact flat _ _ rfl
    | int i => exact flat _ _ rfl
    | str x => exact flat _ _ (by simpa [D.shp] using h)
    | _ => simp [D.shp] at h
end Ws
namespace Ws
open PySem L2
open En (en)
def B_tupled (F : Df) : Ds := sRet (dIf (dTruth (dIsi [.list, .tuple] (dVar 0))) (dCall gTuple (dCons (dFz (dComp [1] (iSeq (dVar 0)) (gNm 1) dYes (dFn F (dCons (dVar 1) dNil)))) dNil)) (dVar 0))
def F_tupled : Nat → Df
  | 0 => dNo
  | k + 1 => dDef 1 1 (B_tupled (F_tupled k))
theorem U_tupled {k : Nat} {x0 : D} {S : Store} : F_tupled (k + 1) [x0] S = endD S.length (B_tupled (F_tupled k) [some x0, none] S) := dDef_eq (B := B_tupled (F_tupled k)) rfl
def B_moved : Ds := sRet (dCall gTuple (dCons (dFz (dComp [3, 4] (iSeq (dVar 0)) (gTu 2 (gsCons (gNm 3) (gsCons (gNm 4) gsNil))) dYes (dTup (dCons (dOp gAdd (dVar 3) (dVar 1)) (dCons (dOp gAdd (dVar 4) (dVar 2)) dNil))))) dNil))
def F_moved : Df := dDef 3 2 B_moved
theorem U_moved {x0 x1 x2 : D} {S : Store} : F_moved [x0, x1, x2] S = endD S.length (B_moved [some x0, some x1, some x2, none, none] S) := dDef_eq (B := B_moved) rfl
theorem E_tupled' {S : Store} : ∀ (n : Nat) (d : D), d.shp n = true → F_tupled (n + 1) [d] S = .ok (tupD d) S := by
  intro n
  induction n with
  | zero =>
    intro d h
    rw [U_tupled]
    unfold B_tupled
    cases d <;> first | (simp -implicitDefEqProofs only [ev_Blk, ek_blkNx, ek_blkRt, ek_blkBk, ek_blkCt, frz_nil, frz_some, frz_none, frz_int, frz_bl, frz_str, frz_non, frz_tup, frz_lst, frz_set, frz_dct, ev_FzD, ev_MuD, ek_dctF, ek_dctM, ev_Emp, ev_CallD, ek_CallD, ev_optD, ev_Met, ek_Met, ek_Met2, isDct_dct, ev_RevA, ek_RevAL, ek_RevAT, ev_RevN, ek_Rev, ev_Star, ek_StarL, ek_StarT, ek_Star2, ev_ltI, ek_Op, ek_Op2, ek_Un, ek_AndT, ek_AndF, ek_OrT, ek_OrF, ek_Not, ek_IfT, ek_IfF, ek_Cons, ek_Cons2, ek_Fz, ek_Mu, ek_Call, ek_CallN, ek_AddN, ek_AddN2, ek_Sl, ek_Sl2, ek_Sl3, ek_SlN, ek_SlN2, ek_SlN3, ek_FnK, ek_FnK2, ek_Len, ek_Asg, ek_Ret, ek_SIfT, ek_SIfF, ek_Drop, ek_Set, ek_Set2, ek_Set3, ek_OrB, ek_OrBT, ek_OrBF, ek_AndB, ek_AndBT, ek_AndBF, ek_NotB, ek_NotB2, ev_App, ev_Pop, ev_opt, ev_C, ev_Var, ev_Op, ev_Un, ev_Test, ev_test, ev_AndT, ev_OrT, ev_NotT, ev_If, ev_Truth, ev_truB, ev_truI, ev_truL, ev_truT, ev_truN, ev_OrB, ev_AndB, ev_NotB, ev_Nil, ev_Cons, ev_Tup, ev_Chk, ev_Fz, ev_Mu, ev_Call, ev_CallN, ev_optL, ev_AddN, ev_Isi, ev_oNone, ev_oSome, ev_oInt, ev_Sl, ev_SlN, ev_Fn, ev_FnK, ev_Len, ev_sNil, ev_Seq, ev_nx, ev_rt, ev_bk, ev_ct, ev_Asg, ev_nxO, ev_gNm, ev_gsNil, ev_gsCons, ev_Ret, ev_RetN, ev_sIf, ev_Drop, ev_Brk, ev_Cnt, ev_Par, ev_par2, ev_par3, ev_SetIx, ev_stO, ev_iSeq, ev_itL, ev_itT, ev_Ran1, ev_Ran2, ev_Enu, ev_enu, ev_Zip, ev_zipL, ev_zipT, ev_Comp, ev_fix, ev_Yes, ev_wipe0, ev_wipe, ev_For, ev_forF, ev_endRt, ev_endNx, ev_endM, ev_lvT, ev_lvL, ev_lvI, ev_lvB, ev_lvS, ev_lvN, ev_lvD, ev_addI, ev_subI, ev_negI, ev_eqI, ev_neI, ev_eqB, ev_neB, ev_cmpI, ev_isN, ev_isNotN, ev_lenL, ev_lenT, ev_tupL, ev_tupT, ev_lstL, ev_lstT, ev_int, ev_intB, ev_abs, ev_min2, ev_max2, ev_ixL, ev_ixT, Out.bind_ok, bindN_ok, Option.bind_some, List.set_cons_zero, List.set_cons_succ, List.getElem?_cons_zero, List.getElem?_cons_succ, ev_mk0, ev_mk1, ev_mk2, ev_mk3, ev_mk4, ev_ck0, ev_ck, Nat.zero_le, nr_int, nr_bl, nr_str, nr_non, nr_tup, nr_lst, En.nr, noRefs_nil, noRefs_cons, Bool.not_false, Bool.and_self, Bool.and_true, Bool.true_and, List.length_cons, List.length_nil, Nat.reduceAdd, Nat.reduceLeDiff, take_self, take_app, take_set, if_true, if_false, Bool.false_eq_true, Bool.not_true, atI_0, atI_1, ev_tu2, ev_tu2w, ev_tu2L, ev_tu3, ev_tu4, ev_pick0, ev_pick, List.nil_append, List.cons_append, isiO, view, isTys, isTy]; rfl) | (simp [D.shp] at h; done)
  | succ n ih =>
    intro d h
    rw [U_tupled]
    unfold B_tupled
    have go : ∀ (xs : List D), D.shps xs n = true → ∀ r : Option D, compF (gNm 1) dYes (dFn (F_tupled (n + 1)) (dCons (dVar 1) dNil)) [r, none] xs S = .ok (tupDs xs) S := fun xs hx r => by
      rw [tupDs_map]
      refine compF_all fun x m => one_yes rfl ?_ (tupD_nr (shp_nr (shps_all.mp hx x m)))
      simp -implicitDefEqProofs only [ev_Blk, ek_blkNx, ek_blkRt, ek_blkBk, ek_blkCt, frz_nil, frz_some, frz_none, frz_int, frz_bl, frz_str, frz_non, frz_tup, frz_lst, frz_set, frz_dct, ev_FzD, ev_MuD, ek_dctF, ek_dctM, ev_Emp, ev_CallD, ek_CallD, ev_optD, ev_Met, ek_Met, ek_Met2, isDct_dct, ev_RevA, ek_RevAL, ek_RevAT, ev_RevN, ek_Rev, ev_Star, ek_StarL, ek_StarT, ek_Star2, ev_ltI, ek_Op, ek_Op2, ek_Un, ek_AndT, ek_AndF, ek_OrT, ek_OrF, ek_Not, ek_IfT, ek_IfF, ek_Cons, ek_Cons2, ek_Fz, ek_Mu, ek_Call, ek_CallN, ek_AddN, ek_AddN2, ek_Sl, ek_Sl2, ek_Sl3, ek_SlN, ek_SlN2, ek_SlN3, ek_FnK, ek_FnK2, ek_Len, ek_Asg, ek_Ret, ek_SIfT, ek_SIfF, ek_Drop, ek_Set, ek_Set2, ek_Set3, ek_OrB, ek_OrBT, ek_OrBF, ek_AndB, ek_AndBT, ek_AndBF, ek_NotB, ek_NotB2, ev_App, ev_Pop, ev_opt, ev_C, ev_Var, ev_Op, ev_Un, ev_Test, ev_test, ev_AndT, ev_OrT, ev_NotT, ev_If, ev_Truth, ev_truB, ev_truI, ev_truL, ev_truT, ev_truN, ev_OrB, ev_AndB, ev_NotB, ev_Nil, ev_Cons, ev_Tup, ev_Chk, ev_Fz, ev_Mu, ev_Call, ev_CallN, ev_optL, ev_AddN, ev_Isi, ev_oNone, ev_oSome, ev_oInt, ev_Sl, ev_SlN, ev_Fn, ev_FnK, ev_Len, ev_sNil, ev_Seq, ev_nx, ev_rt, ev_bk, ev_ct, ev_Asg, ev_nxO, ev_gNm, ev_gsNil, ev_gsCons, ev_Ret, ev_RetN, ev_sIf, ev_Drop, ev_Brk, ev_Cnt, ev_Par, ev_par2, ev_par3, ev_SetIx, ev_stO, ev_iSeq, ev_itL, ev_itT, ev_Ran1, ev_Ran2, ev_Enu, ev_enu, ev_Zip, ev_zipL, ev_zipT, ev_Comp, ev_fix, ev_Yes, ev_wipe0, ev_wipe, ev_For, ev_forF, ev_endRt, ev_endNx, ev_endM, ev_lvT, ev_lvL, ev_lvI, ev_lvB, ev_lvS, ev_lvN, ev_lvD, ev_addI, ev_subI, ev_negI, ev_eqI, ev_neI, ev_eqB, ev_neB, ev_cmpI, ev_isN, ev_isNotN, ev_lenL, ev_lenT, ev_tupL, ev_tupT, ev_lstL, ev_lstT, ev_int, ev_intB, ev_abs, ev_min2, ev_max2, ev_ixL, ev_ixT, Out.bind_ok, bindN_ok, Option.bind_some, List.set_cons_zero, List.set_cons_succ, List.getElem?_cons_zero, List.getElem?_cons_succ, ev_mk0, ev_mk1, ev_mk2, ev_mk3, ev_mk4, ev_ck0, ev_ck, Nat.zero_le, nr_int, nr_bl, nr_str, nr_non, nr_tup, nr_lst, En.nr, noRefs_nil, noRefs_cons, Bool.not_false, Bool.and_self, Bool.and_true, Bool.true_and, List.length_cons, List.length_nil, Nat.reduceAdd, Nat.reduceLeDiff, take_self, take_app, take_set, if_true, if_false, Bool.false_eq_true, Bool.not_true, atI_0, atI_1, ev_tu2, ev_tu2w, ev_tu2L, ev_tu3, ev_tu4, ev_pick0, ev_pick, List.nil_append, List.cons_append, ih x (shps_all.mp hx x m)]
    cases d with
    | tup xs => simp -implicitDefEqProofs only [ev_Blk, ek_blkNx, ek_blkRt, ek_blkBk, ek_blkCt, frz_nil, frz_some, frz_none, frz_int, frz_bl, frz_str, frz_non, frz_tup, frz_lst, frz_set, frz_dct, ev_FzD, ev_MuD, ek_dctF, ek_dctM, ev_Emp, ev_CallD, ek_CallD, ev_optD, ev_Met, ek_Met, ek_Met2, isDct_dct, ev_RevA, ek_RevAL, ek_RevAT, ev_RevN, ek_Rev, ev_Star, ek_StarL, ek_StarT, ek_Star2, ev_ltI, ek_Op, ek_Op2, ek_Un, ek_AndT, ek_AndF, ek_OrT, ek_OrF, ek_Not, ek_IfT, ek_IfF, ek_Cons, ek_Cons2, ek_Fz, ek_Mu, ek_Call, ek_CallN, ek_AddN, ek_AddN2, ek_Sl, ek_Sl2, ek_Sl3, ek_SlN, ek_SlN2, ek_SlN3, ek_FnK, ek_FnK2, ek_Len, ek_Asg, ek_Ret, ek_SIfT, ek_SIfF, ek_Drop, ek_Set, ek_Set2, ek_Set3, ek_OrB, ek_OrBT, ek_OrBF, ek_AndB, ek_AndBT, ek_AndBF, ek_NotB, ek_NotB2, ev_App, ev_Pop, ev_opt, ev_C, ev_Var, ev_Op, ev_Un, ev_Test, ev_test, ev_AndT, ev_OrT, ev_NotT, ev_If, ev_Truth, ev_truB, ev_truI, ev_truL, ev_truT, ev_truN, ev_OrB, ev_AndB, ev_NotB, ev_Nil, ev_Cons, ev_Tup, ev_Chk, ev_Fz, ev_Mu, ev_Call, ev_CallN, ev_optL, ev_AddN, ev_Isi, ev_oNone, ev_oSome, ev_oInt, ev_Sl, ev_SlN, ev_Fn, ev_FnK, ev_Len, ev_sNil, ev_Seq, ev_nx, ev_rt, ev_bk, ev_ct, ev_Asg, ev_nxO, ev_gNm, ev_gsNil, ev_gsCons, ev_Ret, ev_RetN, ev_sIf, ev_Drop, ev_Brk, ev_Cnt, ev_Par, ev_par2, ev_par3, ev_SetIx, ev_stO, ev_iSeq, ev_itL, ev_itT, ev_Ran1, ev_Ran2, ev_Enu, ev_enu, ev_Zip, ev_zipL, ev_zipT, ev_Comp, ev_fix, ev_Yes, ev_wipe0, ev_wipe, ev_For, ev_forF, ev_endRt, ev_endNx, ev_endM, ev_lvT, ev_lvL, ev_lvI, ev_lvB, ev_lvS, ev_lvN, ev_lvD, ev_addI, ev_subI, ev_negI, ev_eqI, ev_neI, ev_eqB, ev_neB, ev_cmpI, ev_isN, ev_isNotN, ev_lenL, ev_lenT, ev_tupL, ev_tupT, ev_lstL, ev_lstT, ev_int, ev_intB, ev_abs, ev_min2, ev_max2, ev_ixL, ev_ixT, Out.bind_ok, bindN_ok, Option.bind_some, List.set_cons_zero, List.set_cons_succ, List.getElem?_cons_zero, List.getElem?_cons_succ, ev_mk0, ev_mk1, ev_mk2, ev_mk3, ev_mk4, ev_ck0, ev_ck, Nat.zero_le, nr_int, nr_bl, nr_str, nr_non, nr_tup, nr_lst, En.nr, noRefs_nil, noRefs_cons, Bool.not_false, Bool.and_self, Bool.and_true, Bool.true_and, List.length_cons, List.length_nil, Nat.reduceAdd, Nat.reduceLeDiff, take_self, take_app, take_set, if_true, if_false, Bool.false_eq_true, Bool.not_true, atI_0, atI_1, ev_tu2, ev_tu2w, ev_tu2L, ev_tu3, ev_tu4, ev_pick0, ev_pick, List.nil_append, List.cons_append, isi_seqT, go xs (by simpa [D.shp] using h)]; rfl
    | lst xs => simp -implicitDefEqProofs only [ev_Blk, ek_blkNx, ek_blkRt, ek_blkBk, ek_blkCt, frz_nil, frz_some, frz_none, frz_int, frz_bl, frz_str, frz_non, frz_tup, frz_lst, frz_set, frz_dct, ev_FzD, ev_MuD, ek_dctF, ek_dctM, ev_Emp, ev_CallD, ek_CallD, ev_optD, ev_Met, ek_Met, ek_Met2, isDct_dct, ev_RevA, ek_RevAL, ek_RevAT, ev_RevN, ek_Rev, ev_Star, ek_StarL, ek_StarT, ek_Star2, ev_ltI, ek_Op, ek_Op2, ek_Un, ek_AndT, ek_AndF, ek_OrT, ek_OrF, ek_Not, ek_IfT, ek_IfF, ek_Cons, ek_Cons2, ek_Fz, ek_Mu, ek_Call, ek_CallN, ek_AddN, ek_AddN2, ek_Sl, ek_Sl2, ek_Sl3, ek_SlN, ek_SlN2, ek_SlN3, ek_FnK, ek_FnK2, ek_Len, ek_Asg, ek_Ret, ek_SIfT, ek_SIfF, ek_Drop, ek_Set, ek_Set2, ek_Set3, ek_OrB, ek_OrBT, ek_OrBF, ek_AndB, ek_AndBT, ek_AndBF, ek_NotB, ek_NotB2, ev_App, ev_Pop, ev_opt, ev_C, ev_Var, ev_Op, ev_Un, ev_Test, ev_test, ev_AndT, ev_OrT, ev_NotT, ev_If, ev_Truth, ev_truB, ev_truI, ev_truL, ev_truT, ev_truN, ev_OrB, ev_AndB, ev_NotB, ev_Nil, ev_Cons, ev_Tup, ev_Chk, ev_Fz, ev_Mu, ev_Call, ev_CallN, ev_optL, ev_AddN, ev_Isi, ev_oNone, ev_oSome, ev_oInt, ev_Sl, ev_SlN, ev_Fn, ev_FnK, ev_Len, ev_sNil, ev_Seq, ev_nx, ev_rt, ev_bk, ev_ct, ev_Asg, ev_nxO, ev_gNm, ev_gsNil, ev_gsCons, ev_Ret, ev_RetN, ev_sIf, ev_Drop, ev_Brk, ev_Cnt, ev_Par, ev_par2, ev_par3, ev_SetIx, ev_stO, ev_iSeq, ev_itL, ev_itT, ev_Ran1, ev_Ran2, ev_Enu, ev_enu, ev_Zip, ev_zipL, ev_zipT, ev_Comp, ev_fix, ev_Yes, ev_wipe0, ev_wipe, ev_For, ev_forF, ev_endRt, ev_endNx, ev_endM, ev_lvT, ev_lvL, ev_lvI, ev_lvB, ev_lvS, ev_lvN, ev_lvD, ev_addI, ev_subI, ev_negI, ev_eqI, ev_neI, ev_eqB, ev_neB, ev_cmpI, ev_isN, ev_isNotN, ev_lenL, ev_lenT, ev_tupL, ev_tupT, ev_lstL, ev_lstT, ev_int, ev_intB, ev_abs, ev_min2, ev_max2, ev_ixL, ev_ixT, Out.bind_ok, bindN_ok, Option.bind_some, List.set_cons_zero, List.set_cons_succ, List.getElem?_cons_zero, List.getElem?_cons_succ, ev_mk0, ev_mk1, ev_mk2, ev_mk3, ev_mk4, ev_ck0, ev_ck, Nat.zero_le, nr_int, nr_bl, nr_str, nr_non, nr_tup, nr_lst, En.nr, noRefs_nil, noRefs_cons, Bool.not_false, Bool.and_self, Bool.and_true, Bool.true_and, List.length_cons, List.length_nil, Nat.reduceAdd, Nat.reduceLeDiff, take_self, take_app, take_set, if_true, if_false, Bool.false_eq_true, Bool.not_true, atI_0, atI_1, ev_tu2, ev_tu2w, ev_tu2L, ev_tu3, ev_tu4, ev_pick0, ev_pick, List.nil_append, List.cons_append, isi_seqL, go xs (by simpa [D.shp] using h)]; rfl
    | _ => first | (simp -implicitDefEqProofs only [ev_Blk, ek_blkNx, ek_blkRt, ek_blkBk, ek_blkCt, frz_nil, frz_some, frz_none, frz_int, frz_bl, frz_str, frz_non, frz_tup, frz_lst, frz_set, frz_dct, ev_FzD, ev_MuD, ek_dctF, ek_dctM, ev_Emp, ev_CallD, ek_CallD, ev_optD, ev_Met, ek_Met, ek_Met2, isDct_dct, ev_RevA, ek_RevAL, ek_RevAT, ev_RevN, ek_Rev, ev_Star, ek_StarL, ek_StarT, ek_Star2, ev_ltI, ek_Op, ek_Op2, ek_Un, ek_AndT, ek_AndF, ek_OrT, ek_OrF, ek_Not, ek_IfT, ek_IfF, ek_Cons, ek_Cons2, ek_Fz, ek_Mu, ek_Call, ek_CallN, ek_AddN, ek_AddN2, ek_Sl, ek_Sl2, ek_Sl3, ek_SlN, ek_SlN2, ek_SlN3, ek_FnK, ek_FnK2, ek_Len, ek_Asg, ek_Ret, ek_SIfT, ek_SIfF, ek_Drop, ek_Set, ek_Set2, ek_Set3, ek_OrB, ek_OrBT, ek_OrBF, ek_AndB, ek_AndBT, ek_AndBF, ek_NotB, ek_NotB2, ev_App, ev_Pop, ev_opt, ev_C, ev_Var, ev_Op, ev_Un, ev_Test, ev_test, ev_AndT, ev_OrT, ev_NotT, ev_If, ev_Truth, ev_truB, ev_truI, ev_truL, ev_truT, ev_truN, ev_OrB, ev_AndB, ev_NotB, ev_Nil, ev_Cons, ev_Tup, ev_Chk, ev_Fz, ev_Mu, ev_Call, ev_CallN, ev_optL, ev_AddN, ev_Isi, ev_oNone, ev_oSome, ev_oInt, ev_Sl, ev_SlN, ev_Fn, ev_FnK, ev_Len, ev_sNil, ev_Seq, ev_nx, ev_rt, ev_bk, ev_ct, ev_Asg, ev_nxO, ev_gNm, ev_gsNil, ev_gsCons, ev_Ret, ev_RetN, ev_sIf, ev_Drop, ev_Brk, ev_Cnt, ev_Par, ev_par2, ev_par3, ev_SetIx, ev_stO, ev_iSeq, ev_itL, ev_itT, ev_Ran1, ev_Ran2, ev_Enu, ev_enu, ev_Zip, ev_zipL, ev_zipT, ev_Comp, ev_fix, ev_Yes, ev_wipe0, ev_wipe, ev_For, ev_forF, ev_endRt, ev_endNx, ev_endM, ev_lvT, ev_lvL, ev_lvI, ev_lvB, ev_lvS, ev_lvN, ev_lvD, ev_addI, ev_subI, ev_negI, ev_eqI, ev_neI, ev_eqB, ev_neB, ev_cmpI, ev_isN, ev_isNotN, ev_lenL, ev_lenT, ev_tupL, ev_tupT, ev_lstL, ev_lstT, ev_int, ev_intB, ev_abs, ev_min2, ev_max2, ev_ixL, ev_ixT, Out.bind_ok, bindN_ok, Option.bind_some, List.set_cons_zero, List.set_cons_succ, List.getElem?_cons_zero, List.getElem?_cons_succ, ev_mk0, ev_mk1, ev_mk2, ev_mk3, ev_mk4, ev_ck0, ev_ck, Nat.zero_le, nr_int, nr_bl, nr_str, nr_non, nr_tup, nr_lst, En.nr, noRefs_nil, noRefs_cons, Bool.not_false, Bool.and_self, Bool.and_true, Bool.true_and, List.length_cons, List.length_nil, Nat.reduceAdd, Nat.reduceLeDiff, take_self, take_app, take_set, if_true, if_false, Bool.false_eq_true, Bool.not_true, atI_0, atI_1, ev_tu2, ev_tu2w, ev_tu2L, ev_tu3, ev_tu4, ev_pick0, ev_pick, List.nil_append, List.cons_append, isiO, view, isTys, isTy]; rfl) | (simp [D.shp] at h; done)
theorem E_tupled {S : Store} {d : D} (h : d.shp 15 = true) : F_tupled 16 [d] S = .ok (tupD d) S := E_tupled' 15 d h
theorem E_tupled_pic {S : Store} {d : D} {l : Pic} (h : rdPic d = some l) : F_tupled 16 [d] S = .ok (en l) S := by
  rw [E_tupled (shp_mono d (by decide) (rdPic_shp h)), rdPic_tup h]
def mv (a b : Int) (p : Pt) : Pt := (p.1 + a, p.2 + b)
theorem E_moved {S : Store} {d : D} {l : Pic} {a b : Int} (h : rdPic d = some l) : F_moved [d, .int a, .int b] S = .ok (en (l.map (mv a b))) S := by
  obtain ⟨xs, h1, h2⟩ := rdL_some h
  rw [U_moved]
  unfold B_moved
  have go : ∀ r0 : Option D, compF (gTu 2 (gsCons (gNm 3) (gsCons (gNm 4) gsNil))) dYes (dTup (dCons (dOp gAdd (dVar 3) (dVar 1)) (dCons (dOp gAdd (dVar 4) (dVar 2)) dNil))) [r0, some (.int a), some (.int b), none, none] xs S = .ok (l.map fun p => en (mv a b p)) S := fun r0 =>
    compF_rdA h2 fun x p _ hx => one_yes ((rd_tu (rdPt_some hx) rfl).trans rfl) (by simp -implicitDefEqProofs only [ev_Blk, ek_blkNx, ek_blkRt, ek_blkBk, ek_blkCt, frz_nil, frz_some, frz_none, frz_int, frz_bl, frz_str, frz_non, frz_tup, frz_lst, frz_set, frz_dct, ev_FzD, ev_MuD, ek_dctF, ek_dctM, ev_Emp, ev_CallD, ek_CallD, ev_optD, ev_Met, ek_Met, ek_Met2, isDct_dct, ev_RevA, ek_RevAL, ek_RevAT, ev_RevN, ek_Rev, ev_Star, ek_StarL, ek_StarT, ek_Star2, ev_ltI, ek_Op, ek_Op2, ek_Un, ek_AndT, ek_AndF, ek_OrT, ek_OrF, ek_Not, ek_IfT, ek_IfF, ek_Cons, ek_Cons2, ek_Fz, ek_Mu, ek_Call, ek_CallN, ek_AddN, ek_AddN2, ek_Sl, ek_Sl2, ek_Sl3, ek_SlN, ek_SlN2, ek_SlN3, ek_FnK, ek_FnK2, ek_Len, ek_Asg, ek_Ret, ek_SIfT, ek_SIfF, ek_Drop, ek_Set, ek_Set2, ek_Set3, ek_OrB, ek_OrBT, ek_OrBF, ek_AndB, ek_AndBT, ek_AndBF, ek_NotB, ek_NotB2, ev_App, ev_Pop, ev_opt, ev_C, ev_Var, ev_Op, ev_Un, ev_Test, ev_test, ev_AndT, ev_OrT, ev_NotT, ev_If, ev_Truth, ev_truB, ev_truI, ev_truL, ev_truT, ev_truN, ev_OrB, ev_AndB, ev_NotB, ev_Nil, ev_Cons, ev_Tup, ev_Chk, ev_Fz, ev_Mu, ev_Call, ev_CallN, ev_optL, ev_AddN, ev_Isi, ev_oNone, ev_oSome, ev_oInt, ev_Sl, ev_SlN, ev_Fn, ev_FnK, ev_Len, ev_sNil, ev_Seq, ev_nx, ev_rt, ev_bk, ev_ct, ev_Asg, ev_nxO, ev_gNm, ev_gsNil, ev_gsCons, ev_Ret, ev_RetN, ev_sIf, ev_Drop, ev_Brk, ev_Cnt, ev_Par, ev_par2, ev_par3, ev_SetIx, ev_stO, ev_iSeq, ev_itL, ev_itT, ev_Ran1, ev_Ran2, ev_Enu, ev_enu, ev_Zip, ev_zipL, ev_zipT, ev_Comp, ev_fix, ev_Yes, ev_wipe0, ev_wipe, ev_For, ev_forF, ev_endRt, ev_endNx, ev_endM, ev_lvT, ev_lvL, ev_lvI, ev_lvB, ev_lvS, ev_lvN, ev_lvD, ev_addI, ev_subI, ev_negI, ev_eqI, ev_neI, ev_eqB, ev_neB, ev_cmpI, ev_isN, ev_isNotN, ev_lenL, ev_lenT, ev_tupL, ev_tupT, ev_lstL, ev_lstT, ev_int, ev_intB, ev_abs, ev_min2, ev_max2, ev_ixL, ev_ixT, Out.bind_ok, bindN_ok, Option.bind_some, List.set_cons_zero, List.set_cons_succ, List.getElem?_cons_zero, List.getElem?_cons_succ, ev_mk0, ev_mk1, ev_mk2, ev_mk3, ev_mk4, ev_ck0, ev_ck, Nat.zero_le, nr_int, nr_bl, nr_str, nr_non, nr_tup, nr_lst, En.nr, noRefs_nil, noRefs_cons, Bool.not_false, Bool.and_self, Bool.and_true, Bool.true_and, List.length_cons, List.length_nil, Nat.reduceAdd, Nat.reduceLeDiff, take_self, take_app, take_set, if_true, if_false, Bool.false_eq_true, Bool.not_true, atI_0, atI_1, ev_tu2, ev_tu2w, ev_tu2L, ev_tu3, ev_tu4, ev_pick0, ev_pick, List.nil_append, List.cons_append]; rfl) rfl
  simp -implicitDefEqProofs only [ev_Blk, ek_blkNx, ek_blkRt, ek_blkBk, ek_blkCt, frz_nil, frz_some, frz_none, frz_int, frz_bl, frz_str, frz_non, frz_tup, frz_lst, frz_set, frz_dct, ev_FzD, ev_MuD, ek_dctF, ek_dctM, ev_Emp, ev_CallD, ek_CallD, ev_optD, ev_Met, ek_Met, ek_Met2, isDct_dct, ev_RevA, ek_RevAL, ek_RevAT, ev_RevN, ek_Rev, ev_Star, ek_StarL, ek_StarT, ek_Star2, ev_ltI, ek_Op, ek_Op2, ek_Un, ek_AndT, ek_AndF, ek_OrT, ek_OrF, ek_Not, ek_IfT, ek_IfF, ek_Cons, ek_Cons2, ek_Fz, ek_Mu, ek_Call, ek_CallN, ek_AddN, ek_AddN2, ek_Sl, ek_Sl2, ek_Sl3, ek_SlN, ek_SlN2, ek_SlN3, ek_FnK, ek_FnK2, ek_Len, ek_Asg, ek_Ret, ek_SIfT, ek_SIfF, ek_Drop, ek_Set, ek_Set2, ek_Set3, ek_OrB, ek_OrBT, ek_OrBF, ek_AndB, ek_AndBT, ek_AndBF, ek_NotB, ek_NotB2, ev_App, ev_Pop, ev_opt, ev_C, ev_Var, ev_Op, ev_Un, ev_Test, ev_test, ev_AndT, ev_OrT, ev_NotT, ev_If, ev_Truth, ev_truB, ev_truI, ev_truL, ev_truT, ev_truN, ev_OrB, ev_AndB, ev_NotB, ev_Nil, ev_Cons, ev_Tup, ev_Chk, ev_Fz, ev_Mu, ev_Call, ev_CallN, ev_optL, ev_AddN, ev_Isi, ev_oNone, ev_oSome, ev_oInt, ev_Sl, ev_SlN, ev_Fn, ev_FnK, ev_Len, ev_sNil, ev_Seq, ev_nx, ev_rt, ev_bk, ev_ct, ev_Asg, ev_nxO, ev_gNm, ev_gsNil, ev_gsCons, ev_Ret, ev_RetN, ev_sIf, ev_Drop, ev_Brk, ev_Cnt, ev_Par, ev_par2, ev_par3, ev_SetIx, ev_stO, ev_iSeq, ev_itL, ev_itT, ev_Ran1, ev_Ran2, ev_Enu, ev_enu, ev_Zip, ev_zipL, ev_zipT, ev_Comp, ev_fix, ev_Yes, ev_wipe0, ev_wipe, ev_For, ev_forF, ev_endRt, ev_endNx, ev_endM, ev_lvT, ev_lvL, ev_lvI, ev_lvB, ev_lvS, ev_lvN, ev_lvD, ev_addI, ev_subI, ev_negI, ev_eqI, ev_neI, ev_eqB, ev_neB, ev_cmpI, ev_isN, ev_isNotN, ev_lenL, ev_lenT, ev_tupL, ev_tupT, ev_lstL, ev_lstT, ev_int, ev_intB, ev_abs, ev_min2, ev_max2, ev_ixL, ev_ixT, Out.bind_ok, bindN_ok, Option.bind_some, List.set_cons_zero, List.set_cons_succ, List.getElem?_cons_zero, List.getElem?_cons_succ, ev_mk0, ev_mk1, ev_mk2, ev_mk3, ev_mk4, ev_ck0, ev_ck, Nat.zero_le, nr_int, nr_bl, nr_str, nr_non, nr_tup, nr_lst, En.nr, noRefs_nil, noRefs_cons, Bool.not_false, Bool.and_self, Bool.and_true, Bool.true_and, List.length_cons, List.length_nil, Nat.reduceAdd, Nat.reduceLeDiff, take_self, take_app, take_set, if_true, if_false, Bool.false_eq_true, Bool.not_true, atI_0, atI_1, ev_tu2, ev_tu2w, ev_tu2L, ev_tu3, ev_tu4, ev_pick0, ev_pick, List.nil_append, List.cons_append, rd_it h1, go]
  show Out.ok (D.tup _) S = Out.ok (D.tup _) S
  rw [List.map_map]; rfl
def minR : Pic → Int
  | [] => 0
  | p :: l => minL p.1 (l.map (·.1))
def minC : Pic → Int
  | [] => 0
  | p :: l => minL p.2 (l.map (·.2))
def shape (l : Pic) : Pic := l.map (mv (-minR l) (-minC l))
def iter {α : Type} (f : α → α) : Nat → α → α
  | 0, a => a
  | n + 1, a => f (iter f n a)
theorem lt_pt {p q : Pt} : En.lt p q = true ↔ p.1 < q.1 ∨ (p.1 = q.1 ∧ p.2 < q.2) := by
  show (if p.1 == q.1 then decide (p.2 < q.2) else decide (p.1 < q.1)) = true ↔ _
  by_cases e : p.1 = q.1
  · simp [e]
  · simp [e]
theorem mv_nodup {a b : Int} {l : Pic} (h : l.Nodup) : (l.map (mv a b)).Nodup := by
  refine List.pairwise_map.mpr (h.imp fun {p q} hpq e => hpq ?_)
  simp only [mv, Prod.mk.injEq] at e
  exact Prod.ext (by omega) (by omega)
def gridP (h w : Nat) : Pic := (rgI 0 h).flatMap fun i => (rgI 0 w).map fun j => (i, j)
theorem rgI_succ : ∀ (n : Nat) (lo : Int), rgI lo (n + 1) = rgI lo n ++ [lo + n]
  | 0, lo => by simp [rgI]
  | n + 1, lo => by
    show lo :: rgI (lo + 1) (n + 1) = lo :: rgI (lo + 1) n ++ [lo + ((n + 1 : Nat) : Int)]
    rw [rgI_succ n (lo + 1)]
    have : lo + 1 + (n : Int) = lo + ((n + 1 : Nat) : Int) := by omega
    rw [this]; rfl
theorem rgI_nodup : ∀ (n : Nat) (lo : Int), (rgI lo n).Nodup
  | 0, _ => List.nodup_nil
  | n + 1, lo => List.nodup_cons.mpr ⟨fun m => by have := mem_rgI.mp m; omega, rgI_nodup n (lo + 1)⟩
theorem mem_gridP {h w : Nat} {p : Pt} : p ∈ gridP h w ↔ 0 ≤ p.1 ∧ p.1 < h ∧ 0 ≤ p.2 ∧ p.2 < w := by
  unfold gridP
  rw [List.mem_flatMap]
  constructor
  · rintro ⟨i, hi, hp⟩
    obtain ⟨j, hj, rfl⟩ := List.mem_map.mp hp
    have := mem_rgI.mp hi; have := mem_rgI.mp hj
    simp only; omega
  · rintro ⟨h1, h2, h3, h4⟩
    exact ⟨p.1, mem_rgI.mpr ⟨h1, by omega⟩, List.mem_map.mpr ⟨p.2, mem_rgI.mpr ⟨h3, by omega⟩, rfl⟩⟩
theorem gridP_nodup (h w : Nat) : (gridP h w).Nodup := by
  unfold gridP
  refine List.pairwise_flatMap.mpr ⟨fun i _ => List.pairwise_map.mpr ((rgI_nodup w 0).imp fun {a b} hab e => hab (Prod.mk.inj e).2), ?_⟩
  refine (rgI_nodup h 0).imp fun {a b} hab x hx y hy e => ?_
  obtain ⟨_, _, rfl⟩ := List.mem_map.mp hx
  obtain ⟨_, _, rfl⟩ := List.mem_map.mp hy
  exact hab (Prod.mk.inj e).1
theorem gridP_len (h w : Nat) : (gridP h w).length = h * w := by
  unfold gridP
  rw [List.length_flatMap]
  have : (rgI 0 h).map (fun i => ((rgI 0 w).map fun j => (i, j)).length) = (rgI 0 h).map fun _ => w := List.map_congr_left fun i _ => by rw [List.length_map, rgI_len]
  rw [this, List.map_const', rgI_len, List.sum_replicate_nat]
theorem grid_ok {S : Store} {h w : Nat} (hh : h ≤ 1000) (hw : w ≤ 1000) (hl : h * w ≤ 100000) : F__law_grid [.int h, .int w] S = .ok (.lst ((gridP h w).map en)) S := by
  rw [U__law_grid]
  unfold B__law_grid
  simp -implicitDefEqProofs only [ev_Blk, ek_blkNx, ek_blkRt, ek_blkBk, ek_blkCt, frz_nil, frz_some, frz_none, frz_int, frz_bl, frz_str, frz_non, frz_tup, frz_lst, frz_set, frz_dct, ev_FzD, ev_MuD, ek_dctF, ek_dctM, ev_Emp, ev_CallD, ek_CallD, ev_optD, ev_Met, ek_Met, ek_Met2, isDct_dct, ev_RevA, ek_RevAL, ek_RevAT, ev_RevN, ek_Rev, ev_Star, ek_StarL, ek_StarT, ek_Star2, ev_ltI, ek_Op, ek_Op2, ek_Un, ek_AndT, ek_AndF, ek_OrT, ek_OrF, ek_Not, ek_IfT, ek_IfF, ek_Cons, ek_Cons2, ek_Fz, ek_Mu, ek_Call, ek_CallN, ek_AddN, ek_AddN2, ek_Sl, ek_Sl2, ek_Sl3, ek_SlN, ek_SlN2, ek_SlN3, ek_FnK, ek_FnK2, ek_Len, ek_Asg, ek_Ret, ek_SIfT, ek_SIfF, ek_Drop, ek_Set, ek_Set2, ek_Set3, ek_OrB, ek_OrBT, ek_OrBF, ek_AndB, ek_AndBT, ek_AndBF, ek_NotB, ek_NotB2, ev_App, ev_Pop, ev_opt, ev_C, ev_Var, ev_Op, ev_Un, ev_Test, ev_test, ev_AndT, ev_OrT, ev_NotT, ev_If, ev_Truth, ev_truB, ev_truI, ev_truL, ev_truT, ev_truN, ev_OrB, ev_AndB, ev_NotB, ev_Nil, ev_Cons, ev_Tup, ev_Chk, ev_Fz, ev_Mu, ev_Call, ev_CallN, ev_optL, ev_AddN, ev_Isi, ev_oNone, ev_oSome, ev_oInt, ev_Sl, ev_SlN, ev_Fn, ev_FnK, ev_Len, ev_sNil, ev_Seq, ev_nx, ev_rt, ev_bk, ev_ct, ev_Asg, ev_nxO, ev_gNm, ev_gsNil, ev_gsCons, ev_Ret, ev_RetN, ev_sIf, ev_Drop, ev_Brk, ev_Cnt, ev_Par, ev_par2, ev_par3, ev_SetIx, ev_stO, ev_iSeq, ev_itL, ev_itT, ev_Ran1, ev_Ran2, ev_Enu, ev_enu, ev_Zip, ev_zipL, ev_zipT, ev_Comp, ev_fix, ev_Yes, ev_wipe0, ev_wipe, ev_For, ev_forF, ev_endRt, ev_endNx, ev_endM, ev_lvT, ev_lvL, ev_lvI, ev_lvB, ev_lvS, ev_lvN, ev_lvD, ev_addI, ev_subI, ev_negI, ev_eqI, ev_neI, ev_eqB, ev_neB, ev_cmpI, ev_isN, ev_isNotN, ev_lenL, ev_lenT, ev_tupL, ev_tupT, ev_lstL, ev_lstT, ev_int, ev_intB, ev_abs, ev_min2, ev_max2, ev_ixL, ev_ixT, Out.bind_ok, bindN_ok, Option.bind_some, List.set_cons_zero, List.set_cons_succ, List.getElem?_cons_zero, List.getElem?_cons_succ, ev_mk0, ev_mk1, ev_mk2, ev_mk3, ev_mk4, ev_ck0, ev_ck, Nat.zero_le, nr_int, nr_bl, nr_str, nr_non, nr_tup, nr_lst, En.nr, noRefs_nil, noRefs_cons, Bool.not_false, Bool.and_self, Bool.and_true, Bool.true_and, List.length_cons, List.length_nil, Nat.reduceAdd, Nat.reduceLeDiff, take_self, take_app, take_set, if_true, if_false, Bool.false_eq_true, Bool.not_true, atI_0, atI_1, ev_tu2, ev_tu2w, ev_tu2L, ev_tu3, ev_tu4, ev_pick0, ev_pick, List.nil_append, List.cons_append, ran1_nat (show h ≤ 1000000 by omega)]
  refine wp_is ?_
  rw [← wp_bind_end]
  refine wp_loopF (I := fun i r T => ∃ x, r = [some (D.int h), some (D.int w), some (.lst ((gridP i w).map en)), x, none] ∧ T = S) ⟨none, rfl, rfl⟩ ?_ ?_
  · rintro i v r T hi ⟨x, rfl, rfl⟩
    obtain ⟨hi1, rfl⟩ := rng_at hi
    refine ⟨_, rfl, ?_⟩
    have go : compF (gNm 4) dYes (dTup (dCons (dVar 3) (dCons (dVar 4) dNil))) [some (D.int h), some (D.int w), some (.lst ((gridP i w).map en)), some (D.int (0 + i)), none] (rngD 0 w) T = .ok (((rgI 0 w).map fun j => ((0 + (i : Int), j) : Pt)).map en) T := by
      rw [rng_en, List.map_map]
      exact compF_enA fun j _ => one_yes rfl (by simp -implicitDefEqProofs only [ev_Blk, ek_blkNx, ek_blkRt, ek_blkBk, ek_blkCt, frz_nil, frz_some, frz_none, frz_int, frz_bl, frz_str, frz_non, frz_tup, frz_lst, frz_set, frz_dct, ev_FzD, ev_MuD, ek_dctF, ek_dctM, ev_Emp, ev_CallD, ek_CallD, ev_optD, ev_Met, ek_Met, ek_Met2, isDct_dct, ev_RevA, ek_RevAL, ek_RevAT, ev_RevN, ek_Rev, ev_Star, ek_StarL, ek_StarT, ek_Star2, ev_ltI, ek_Op, ek_Op2, ek_Un, ek_AndT, ek_AndF, ek_OrT, ek_OrF, ek_Not, ek_IfT, ek_IfF, ek_Cons, ek_Cons2, ek_Fz, ek_Mu, ek_Call, ek_CallN, ek_AddN, ek_AddN2, ek_Sl, ek_Sl2, ek_Sl3, ek_SlN, ek_SlN2, ek_SlN3, ek_FnK, ek_FnK2, ek_Len, ek_Asg, ek_Ret, ek_SIfT, ek_SIfF, ek_Drop, ek_Set, ek_Set2, ek_Set3, ek_OrB, ek_OrBT, ek_OrBF, ek_AndB, ek_AndBT, ek_AndBF, ek_NotB, ek_NotB2, ev_App, ev_Pop, ev_opt, ev_C, ev_Var, ev_Op, ev_Un, ev_Test, ev_test, ev_AndT, ev_OrT, ev_NotT, ev_If, ev_Truth, ev_truB, ev_truI, ev_truL, ev_truT, ev_truN, ev_OrB, ev_AndB, ev_NotB, ev_Nil, ev_Cons, ev_Tup, ev_Chk, ev_Fz, ev_Mu, ev_Call, ev_CallN, ev_optL, ev_AddN, ev_Isi, ev_oNone, ev_oSome, ev_oInt, ev_Sl, ev_SlN, ev_Fn, ev_FnK, ev_Len, ev_sNil, ev_Seq, ev_nx, ev_rt, ev_bk, ev_ct, ev_Asg, ev_nxO, ev_gNm, ev_gsNil, ev_gsCons, ev_Ret, ev_RetN, ev_sIf, ev_Drop, ev_Brk, ev_Cnt, ev_Par, ev_par2, ev_par3, ev_SetIx, ev_stO, ev_iSeq, ev_itL, ev_itT, ev_Ran1, ev_Ran2, ev_Enu, ev_enu, ev_Zip, ev_zipL, ev_zipT, ev_Comp, ev_fix, ev_Yes, ev_wipe0, ev_wipe, ev_For, ev_forF, ev_endRt, ev_endNx, ev_endM, ev_lvT, ev_lvL, ev_lvI, ev_lvB, ev_lvS, ev_lvN, ev_lvD, ev_addI, ev_subI, ev_negI, ev_eqI, ev_neI, ev_eqB, ev_neB, ev_cmpI, ev_isN, ev_isNotN, ev_lenL, ev_lenT, ev_tupL, ev_tupT, ev_lstL, ev_lstT, ev_int, ev_intB, ev_abs, ev_min2, ev_max2, ev_ixL, ev_ixT, Out.bind_ok, bindN_ok, Option.bind_some, List.set_cons_zero, List.set_cons_succ, List.getElem?_cons_zero, List.getElem?_cons_succ, ev_mk0, ev_mk1, ev_mk2, ev_mk3, ev_mk4, ev_ck0, ev_ck, Nat.zero_le, nr_int, nr_bl, nr_str, nr_non, nr_tup, nr_lst, En.nr, noRefs_nil, noRefs_cons, Bool.not_false, Bool.and_self, Bool.and_true, Bool.true_and, List.length_cons, List.length_nil, Nat.reduceAdd, Nat.reduceLeDiff, take_self, take_app, take_set, if_true, if_false, Bool.false_eq_true, Bool.not_true, atI_0, atI_1, ev_tu2, ev_tu2w, ev_tu2L, ev_tu3, ev_tu4, ev_pick0, ev_pick, List.nil_append, List.cons_append]; rfl) rfl
    have hl2 : lineOk (((gridP i w).map (en : Pt → D)).length + (((rgI 0 w).map fun j => ((0 + (i : Int), j) : Pt)).map (en : Pt → D)).length) = true := by
      refine lineOk_of ?_
      rw [List.length_map, List.length_map, List.length_map, gridP_len, rgI_len]
      have h1 : i * w ≤ h * w := Nat.mul_le_mul_right _ (Nat.le_of_lt hi1)
      omega
    simp -implicitDefEqProofs only [ev_Blk, ek_blkNx, ek_blkRt, ek_blkBk, ek_blkCt, frz_nil, frz_some, frz_none, frz_int, frz_bl, frz_str, frz_non, frz_tup, frz_lst, frz_set, frz_dct, ev_FzD, ev_MuD, ek_dctF, ek_dctM, ev_Emp, ev_CallD, ek_CallD, ev_optD, ev_Met, ek_Met, ek_Met2, isDct_dct, ev_RevA, ek_RevAL, ek_RevAT, ev_RevN, ek_Rev, ev_Star, ek_StarL, ek_StarT, ek_Star2, ev_ltI, ek_Op, ek_Op2, ek_Un, ek_AndT, ek_AndF, ek_OrT, ek_OrF, ek_Not, ek_IfT, ek_IfF, ek_Cons, ek_Cons2, ek_Fz, ek_Mu, ek_Call, ek_CallN, ek_AddN, ek_AddN2, ek_Sl, ek_Sl2, ek_Sl3, ek_SlN, ek_SlN2, ek_SlN3, ek_FnK, ek_FnK2, ek_Len, ek_Asg, ek_Ret, ek_SIfT, ek_SIfF, ek_Drop, ek_Set, ek_Set2, ek_Set3, ek_OrB, ek_OrBT, ek_OrBF, ek_AndB, ek_AndBT, ek_AndBF, ek_NotB, ek_NotB2, ev_App, ev_Pop, ev_opt, ev_C, ev_Var, ev_Op, ev_Un, ev_Test, ev_test, ev_AndT, ev_OrT, ev_NotT, ev_If, ev_Truth, ev_truB, ev_truI, ev_truL, ev_truT, ev_truN, ev_OrB, ev_AndB, ev_NotB, ev_Nil, ev_Cons, ev_Tup, ev_Chk, ev_Fz, ev_Mu, ev_Call, ev_CallN, ev_optL, ev_AddN, ev_Isi, ev_oNone, ev_oSome, ev_oInt, ev_Sl, ev_SlN, ev_Fn, ev_FnK, ev_Len, ev_sNil, ev_Seq, ev_nx, ev_rt, ev_bk, ev_ct, ev_Asg, ev_nxO, ev_gNm, ev_gsNil, ev_gsCons, ev_Ret, ev_RetN, ev_sIf, ev_Drop, ev_Brk, ev_Cnt, ev_Par, ev_par2, ev_par3, ev_SetIx, ev_stO, ev_iSeq, ev_itL, ev_itT, ev_Ran1, ev_Ran2, ev_Enu, ev_enu, ev_Zip, ev_zipL, ev_zipT, ev_Comp, ev_fix, ev_Yes, ev_wipe0, ev_wipe, ev_For, ev_forF, ev_endRt, ev_endNx, ev_endM, ev_lvT, ev_lvL, ev_lvI, ev_lvB, ev_lvS, ev_lvN, ev_lvD, ev_addI, ev_subI, ev_negI, ev_eqI, ev_neI, ev_eqB, ev_neB, ev_cmpI, ev_isN, ev_isNotN, ev_lenL, ev_lenT, ev_tupL, ev_tupT, ev_lstL, ev_lstT, ev_int, ev_intB, ev_abs, ev_min2, ev_max2, ev_ixL, ev_ixT, Out.bind_ok, bindN_ok, Option.bind_some, List.set_cons_zero, List.set_cons_succ, List.getElem?_cons_zero, List.getElem?_cons_succ, ev_mk0, ev_mk1, ev_mk2, ev_mk3, ev_mk4, ev_ck0, ev_ck, Nat.zero_le, nr_int, nr_bl, nr_str, nr_non, nr_tup, nr_lst, En.nr, noRefs_nil, noRefs_cons, Bool.not_false, Bool.and_self, Bool.and_true, Bool.true_and, List.length_cons, List.length_nil, Nat.reduceAdd, Nat.reduceLeDiff, take_self, take_app, take_set, if_true, if_false, Bool.false_eq_true, Bool.not_true, atI_0, atI_1, ev_tu2, ev_tu2w, ev_tu2L, ev_tu3, ev_tu4, ev_pick0, ev_pick, List.nil_append, List.cons_append, ran1_nat (show w ≤ 1000000 by omega), go, ev_addL hl2, wp_ok]
    refine ⟨some (D.int (0 + i)), ?_, trivial⟩
    have : gridP (i + 1) w = gridP i w ++ (rgI 0 w).map fun j => ((0 + (i : Int), j) : Pt) := by
      unfold gridP
      rw [rgI_succ, List.flatMap_append]; simp
    rw [this, List.map_append]
  · rintro r T ⟨x, rfl, rfl⟩
    rw [rng_len]
    simp -implicitDefEqProofs only [ev_Blk, ek_blkNx, ek_blkRt, ek_blkBk, ek_blkCt, frz_nil, frz_some, frz_none, frz_int, frz_bl, frz_str, frz_non, frz_tup, frz_lst, frz_set, frz_dct, ev_FzD, ev_MuD, ek_dctF, ek_dctM, ev_Emp, ev_CallD, ek_CallD, ev_optD, ev_Met, ek_Met, ek_Met2, isDct_dct, ev_RevA, ek_RevAL, ek_RevAT, ev_RevN, ek_Rev, ev_Star, ek_StarL, ek_StarT, ek_Star2, ev_ltI, ek_Op, ek_Op2, ek_Un, ek_AndT, ek_AndF, ek_OrT, ek_OrF, ek_Not, ek_IfT, ek_IfF, ek_Cons, ek_Cons2, ek_Fz, ek_Mu, ek_Call, ek_CallN, ek_AddN, ek_AddN2, ek_Sl, ek_Sl2, ek_Sl3, ek_SlN, ek_SlN2, ek_SlN3, ek_FnK, ek_FnK2, ek_Len, ek_Asg, ek_Ret, ek_SIfT, ek_SIfF, ek_Drop, ek_Set, ek_Set2, ek_Set3, ek_OrB, ek_OrBT, ek_OrBF, ek_AndB, ek_AndBT, ek_AndBF, ek_NotB, ek_NotB2, ev_App, ev_Pop, ev_opt, ev_C, ev_Var, ev_Op, ev_Un, ev_Test, ev_test, ev_AndT, ev_OrT, ev_NotT, ev_If, ev_Truth, ev_truB, ev_truI, ev_truL, ev_truT, ev_truN, ev_OrB, ev_AndB, ev_NotB, ev_Nil, ev_Cons, ev_Tup, ev_Chk, ev_Fz, ev_Mu, ev_Call, ev_CallN, ev_optL, ev_AddN, ev_Isi, ev_oNone, ev_oSome, ev_oInt, ev_Sl, ev_SlN, ev_Fn, ev_FnK, ev_Len, ev_sNil, ev_Seq, ev_nx, ev_rt, ev_bk, ev_ct, ev_Asg, ev_nxO, ev_gNm, ev_gsNil, ev_gsCons, ev_Ret, ev_RetN, ev_sIf, ev_Drop, ev_Brk, ev_Cnt, ev_Par, ev_par2, ev_par3, ev_SetIx, ev_stO, ev_iSeq, ev_itL, ev_itT, ev_Ran1, ev_Ran2, ev_Enu, ev_enu, ev_Zip, ev_zipL, ev_zipT, ev_Comp, ev_fix, ev_Yes, ev_wipe0, ev_wipe, ev_For, ev_forF, ev_endRt, ev_endNx, ev_endM, ev_lvT, ev_lvL, ev_lvI, ev_lvB, ev_lvS, ev_lvN, ev_lvD, ev_addI, ev_subI, ev_negI, ev_eqI, ev_neI, ev_eqB, ev_neB, ev_cmpI, ev_isN, ev_isNotN, ev_lenL, ev_lenT, ev_tupL, ev_tupT, ev_lstL, ev_lstT, ev_int, ev_intB, ev_abs, ev_min2, ev_max2, ev_ixL, ev_ixT, Out.bind_ok, bindN_ok, Option.bind_some, List.set_cons_zero, List.set_cons_succ, List.getElem?_cons_zero, List.getElem?_cons_succ, ev_mk0, ev_mk1, ev_mk2, ev_mk3, ev_mk4, ev_ck0, ev_ck, Nat.zero_le, nr_int, nr_bl, nr_str, nr_non, nr_tup, nr_lst, En.nr, noRefs_nil, noRefs_cons, Bool.not_false, Bool.and_self, Bool.and_true, Bool.true_and, List.length_cons, List.length_nil, Nat.reduceAdd, Nat.reduceLeDiff, take_self, take_app, take_set, if_true, if_false, Bool.false_eq_true, Bool.not_true, atI_0, atI_1, ev_tu2, ev_tu2w, ev_tu2L, ev_tu3, ev_tu4, ev_pick0, ev_pick, List.nil_append, List.cons_append, wp_ok]
    exact ⟨trivial, trivial⟩
theorem pow10_20 {S : Store} : gPow S (.int 10) (.int 20) = some (.int 100000000000000000000) := rfl
theorem pow10_29 {S : Store} : gPow S (.int 10) (.int 29) = some (.int 100000000000000000000000000000) := rfl
/-- all numbers small enough -/
def InB (l : Pic) : Prop := ∀ p ∈ l, -200000000000000000000000000000 ≤ p.1 ∧ p.1 ≤ 200000000000000000000000000000 ∧ -200000000000000000000000000000 ≤ p.2 ∧ p.2 ≤ 200000000000000000000000000000
theorem ink_ok {n c h w : Nat} {most : Nat} {S : Store} {b : D} (hb : S[n]? = some b) (hx : Bx c b) (hm : most ≤ 1000) (hh : h ≤ 1000) (hw : w ≤ 1000) (hl : h * w ≤ 100000) (hc : c + 102000 < 1000000000 := by omega) :
    ∃ (l : Pic) (b' : D), F__law_ink [.ref n, .int most, .int h, .int w] S = .ok (en l) (S.set n b') ∧ Ris l ∧ l.length ≤ most ∧ l.length ≤ h * w ∧ InB l ∧ Bx (c + most + 3) b' := by
  rw [U__law_ink]
  unfold B__law_ink
  obtain ⟨v, b1, e1, hv0, hv1, hB1⟩ := take_ok hb hx (top := most + 1) (by omega) (by omega) (by omega)
  obtain ⟨m, z, b2, e2, hp, hml, hB2⟩ := pick_en (l := gridP h w) (d := .lst ((gridP h w).map en)) (k := v) (get_set (b := b1) hb) hB1 rfl (by rw [gridP_len]; exact hl) hv0 (by omega) (by omega)
  rw [List.set_set] at e2
  have hB2' := hB2.mono (c' := c + most + 1) (by omega)
  obtain ⟨dr, b3, e3, m3, hB3⟩ := of_en (l := ([0, 0, -1, 7, -3, 100000000000000000000, 5 - 100000000000000000000000000000] : List Int)) (get_set (b := b2) hb) hB2' (by decide) (by decide) (by omega)
  rw [List.set_set] at e3
  obtain ⟨dc, b4, e4, m4, hB4⟩ := of_en (l := ([0, 0, -2, 4, 100000000000000000000] : List Int)) (get_set (b := b3) hb) hB3 (by decide) (by decide) (by omega)
  rw [List.set_set] at e4
  have e3' : F__law_of [.ref n, .lst [.int 0, .int 0, .int (-1), .int 7, .int (-3), .int 100000000000000000000, .int (5 - 100000000000000000000000000000)]] (S.set n b2) = .ok (.int dr) (S.set n b3) := e3
  have e4' : F__law_of [.ref n, .lst [.int 0, .int 0, .int (-2), .int 4, .int 100000000000000000000]] (S.set n b3) = .ok (.int dc) (S.set n b4) := e4
  have go : ∀ T : Store, compF (gNm 7) dYes (dTup (dCons (dOp gAdd (dOp gIx (dVar 7) (dC (.int 0))) (dVar 5)) (dCons (dOp gAdd (dOp gIx (dVar 7) (dC (.int 1))) (dVar 6)) dNil))) [some (.ref n), some (.int most), some (.int h), some (.int w), some (.lst (m.map en)), some (.int dr), some (.int dc), none] (m.map en) T = .ok ((m.map (mv dr dc)).map en) T := fun T => by
    rw [List.map_map]
    exact compF_enA fun p _ => one_yes rfl (by simp -implicitDefEqProofs only [ev_Blk, ek_blkNx, ek_blkRt, ek_blkBk, ek_blkCt, frz_nil, frz_some, frz_none, frz_int, frz_bl, frz_str, frz_non, frz_tup, frz_lst, frz_set, frz_dct, ev_FzD, ev_MuD, ek_dctF, ek_dctM, ev_Emp, ev_CallD, ek_CallD, ev_optD, ev_Met, ek_Met, ek_Met2, isDct_dct, ev_RevA, ek_RevAL, ek_RevAT, ev_RevN, ek_Rev, ev_Star, ek_StarL, ek_StarT, ek_Star2, ev_ltI, ek_Op, ek_Op2, ek_Un, ek_AndT, ek_AndF, ek_OrT, ek_OrF, ek_Not, ek_IfT, ek_IfF, ek_Cons, ek_Cons2, ek_Fz, ek_Mu, ek_Call, ek_CallN, ek_AddN, ek_AddN2, ek_Sl, ek_Sl2, ek_Sl3, ek_SlN, ek_SlN2, ek_SlN3, ek_FnK, ek_FnK2, ek_Len, ek_Asg, ek_Ret, ek_SIfT, ek_SIfF, ek_Drop, ek_Set, ek_Set2, ek_Set3, ek_OrB, ek_OrBT, ek_OrBF, ek_AndB, ek_AndBT, ek_AndBF, ek_NotB, ek_NotB2, ev_App, ev_Pop, ev_opt, ev_C, ev_Var, ev_Op, ev_Un, ev_Test, ev_test, ev_AndT, ev_OrT, ev_NotT, ev_If, ev_Truth, ev_truB, ev_truI, ev_truL, ev_truT, ev_truN, ev_OrB, ev_AndB, ev_NotB, ev_Nil, ev_Cons, ev_Tup, ev_Chk, ev_Fz, ev_Mu, ev_Call, ev_CallN, ev_optL, ev_AddN, ev_Isi, ev_oNone, ev_oSome, ev_oInt, ev_Sl, ev_SlN, ev_Fn, ev_FnK, ev_Len, ev_sNil, ev_Seq, ev_nx, ev_rt, ev_bk, ev_ct, ev_Asg, ev_nxO, ev_gNm, ev_gsNil, ev_gsCons, ev_Ret, ev_RetN, ev_sIf, ev_Drop, ev_Brk, ev_Cnt, ev_Par, ev_par2, ev_par3, ev_SetIx, ev_stO, ev_iSeq, ev_itL, ev_itT, ev_Ran1, ev_Ran2, ev_Enu, ev_enu, ev_Zip, ev_zipL, ev_zipT, ev_Comp, ev_fix, ev_Yes, ev_wipe0, ev_wipe, ev_For, ev_forF, ev_endRt, ev_endNx, ev_endM, ev_lvT, ev_lvL, ev_lvI, ev_lvB, ev_lvS, ev_lvN, ev_lvD, ev_addI, ev_subI, ev_negI, ev_eqI, ev_neI, ev_eqB, ev_neB, ev_cmpI, ev_isN, ev_isNotN, ev_lenL, ev_lenT, ev_tupL, ev_tupT, ev_lstL, ev_lstT, ev_int, ev_intB, ev_abs, ev_min2, ev_max2, ev_ixL, ev_ixT, Out.bind_ok, bindN_ok, Option.bind_some, List.set_cons_zero, List.set_cons_succ, List.getElem?_cons_zero, List.getElem?_cons_succ, ev_mk0, ev_mk1, ev_mk2, ev_mk3, ev_mk4, ev_ck0, ev_ck, Nat.zero_le, nr_int, nr_bl, nr_str, nr_non, nr_tup, nr_lst, En.nr, noRefs_nil, noRefs_cons, Bool.not_false, Bool.and_self, Bool.and_true, Bool.true_and, List.length_cons, List.length_nil, Nat.reduceAdd, Nat.reduceLeDiff, take_self, take_app, take_set, if_true, if_false, Bool.false_eq_true, Bool.not_true, atI_0, atI_1, ev_tu2, ev_tu2w, ev_tu2L, ev_tu3, ev_tu4, ev_pick0, ev_pick, List.nil_append, List.cons_append, rd_ix (show rdSeq (en p) = some [.int p.1, .int p.2] from rfl)]; rfl) rfl
  have tu : ∀ (a b : Int), rdSeq (.tup [.int a, .int b]) = some [.int a, .int b] := fun _ _ => rfl
  simp -implicitDefEqProofs only [ev_Blk, ek_blkNx, ek_blkRt, ek_blkBk, ek_blkCt, frz_nil, frz_some, frz_none, frz_int, frz_bl, frz_str, frz_non, frz_tup, frz_lst, frz_set, frz_dct, ev_FzD, ev_MuD, ek_dctF, ek_dctM, ev_Emp, ev_CallD, ek_CallD, ev_optD, ev_Met, ek_Met, ek_Met2, isDct_dct, ev_RevA, ek_RevAL, ek_RevAT, ev_RevN, ek_Rev, ev_Star, ek_StarL, ek_StarT, ek_Star2, ev_ltI, ek_Op, ek_Op2, ek_Un, ek_AndT, ek_AndF, ek_OrT, ek_OrF, ek_Not, ek_IfT, ek_IfF, ek_Cons, ek_Cons2, ek_Fz, ek_Mu, ek_Call, ek_CallN, ek_AddN, ek_AddN2, ek_Sl, ek_Sl2, ek_Sl3, ek_SlN, ek_SlN2, ek_SlN3, ek_FnK, ek_FnK2, ek_Len, ek_Asg, ek_Ret, ek_SIfT, ek_SIfF, ek_Drop, ek_Set, ek_Set2, ek_Set3, ek_OrB, ek_OrBT, ek_OrBF, ek_AndB, ek_AndBT, ek_AndBF, ek_NotB, ek_NotB2, ev_App, ev_Pop, ev_opt, ev_C, ev_Var, ev_Op, ev_Un, ev_Test, ev_test, ev_AndT, ev_OrT, ev_NotT, ev_If, ev_Truth, ev_truB, ev_truI, ev_truL, ev_truT, ev_truN, ev_OrB, ev_AndB, ev_NotB, ev_Nil, ev_Cons, ev_Tup, ev_Chk, ev_Fz, ev_Mu, ev_Call, ev_CallN, ev_optL, ev_AddN, ev_Isi, ev_oNone, ev_oSome, ev_oInt, ev_Sl, ev_SlN, ev_Fn, ev_FnK, ev_Len, ev_sNil, ev_Seq, ev_nx, ev_rt, ev_bk, ev_ct, ev_Asg, ev_nxO, ev_gNm, ev_gsNil, ev_gsCons, ev_Ret, ev_RetN, ev_sIf, ev_Drop, ev_Brk, ev_Cnt, ev_Par, ev_par2, ev_par3, ev_SetIx, ev_stO, ev_iSeq, ev_itL, ev_itT, ev_Ran1, ev_Ran2, ev_Enu, ev_enu, ev_Zip, ev_zipL, ev_zipT, ev_Comp, ev_fix, ev_Yes, ev_wipe0, ev_wipe, ev_For, ev_forF, ev_endRt, ev_endNx, ev_endM, ev_lvT, ev_lvL, ev_lvI, ev_lvB, ev_lvS, ev_lvN, ev_lvD, ev_addI, ev_subI, ev_negI, ev_eqI, ev_neI, ev_eqB, ev_neB, ev_cmpI, ev_isN, ev_isNotN, ev_lenL, ev_lenT, ev_tupL, ev_tupT, ev_lstL, ev_lstT, ev_int, ev_intB, ev_abs, ev_min2, ev_max2, ev_ixL, ev_ixT, Out.bind_ok, bindN_ok, Option.bind_some, List.set_cons_zero, List.set_cons_succ, List.getElem?_cons_zero, List.getElem?_cons_succ, ev_mk0, ev_mk1, ev_mk2, ev_mk3, ev_mk4, ev_ck0, ev_ck, Nat.zero_le, nr_int, nr_bl, nr_str, nr_non, nr_tup, nr_lst, En.nr, noRefs_nil, noRefs_cons, Bool.not_false, Bool.and_self, Bool.and_true, Bool.true_and, List.length_cons, List.length_nil, Nat.reduceAdd, Nat.reduceLeDiff, take_self, take_app, take_set, if_true, if_false, Bool.false_eq_true, Bool.not_true, atI_0, atI_1, ev_tu2, ev_tu2w, ev_tu2L, ev_tu3, ev_tu4, ev_pick0, ev_pick, List.nil_append, List.cons_append, grid_ok hh hw hl, e1, e2, pow10_20, pow10_29, e3', e4', go, sorted_pt]
  have nd : m.Nodup := (List.nodup_append.mp (hp.nodup_iff.mpr (gridP_nodup h w))).1
  refine ⟨srt (m.map (mv dr dc)), b4, rfl, srt_ris (mv_nodup nd), ?_, ?_, fun p hp' => ?_, hB4.mono (by omega)⟩
  · rw [srt_len, List.length_map, hml]; omega
  · rw [srt_len, List.length_map, hml, gridP_len]; omega
  · obtain ⟨q, hq, rfl⟩ := List.mem_map.mp (mem_srt.mp hp')
    have hg := mem_gridP.mp (hp.mem_iff.mp (List.mem_append_left _ hq))
    simp only [List.mem_cons, List.not_mem_nil, or_false] at m3 m4
    simp only [mv]
    omega
theorem cut_first {ns : List Int} {m : Nat} : cutD ns none (some (m : Int)) = ns.take m := by
  unfold cutD
  rw [HT.sIx_nat, HT.sIx_none, List.drop_zero, Nat.sub_zero]
  exact List.take_eq_take_iff.mpr (by omega)
theorem cut_rest {ns : List Int} {m : Nat} (h : cutD ns (some (m : Int)) (some 63) ≠ []) : m < ns.length := by
  unfold cutD at h
  rw [HT.sIx_nat] at h
  by_cases hm : m < ns.length
  · exact hm
  · rw [Nat.min_eq_right (by omega), List.drop_length] at h
    simp at h
theorem enum_get : ∀ (l : List D) (k i : Nat) {d : D}, (enumD k l)[i]? = some d → ∃ x, l[i]? = some x ∧ d = .tupw [.int ((k + i : Nat) : Int), x]
  | [], _, _, _, h => by simp [enumD] at h
  | x :: l, k, 0, d, h => by simp [enumD] at h; exact ⟨x, rfl, h.symm⟩
  | x :: l, k, i + 1, d, h => by
    obtain ⟨y, h1, h2⟩ := enum_get l (k + 1) i (by simpa [enumD] using h)
    exact ⟨y, by simpa using h1, by rw [h2]; congr 3; omega⟩
theorem cut_le63 {ns : List Int} {lo hi : Option Int} : (cutD ns lo hi).length ≤ ns.length := cut_le ns lo hi
theorem cells_ok {ns : List Int} {m : Nat} {S : Store} (hm : 0 < m) (hm2 : m ≤ 60) (hn : ns.length ≤ 63) :
    ∃ (T : Store) (cs : List Int), F__law_cells [.scr ns, .int m] S = .ok (.ref T.length) (T ++ [.lst (cs.map D.int)]) ∧ 0 < cs.length ∧ cs.length ≤ m ∧ ∃ T', T = S ++ T' := by
  suffices h : wp (F__law_cells [.scr ns, .int m] S) fun v U => ∃ (T : Store) (cs : List Int), v = .ref T.length ∧ U = T ++ [.lst (cs.map D.int)] ∧ 0 < cs.length ∧ cs.length ≤ m ∧ ∃ T', T = S ++ T' by
    obtain ⟨v, U, e, T, cs, rfl, rfl, h⟩ := h
    exact ⟨T, cs, e, h⟩
  rw [U__law_cells]
  unfold B__law_cells
  have sl1 : ∀ U, gSl U (.scr ns) none (some (m : Int)) = some (.lst ((ns.take m).map .int)) := fun U => by
    show some (D.lst ((cutD ns none (some (m : Int))).map .int)) = _; rw [cut_first]
  have sl2 : ∀ U, gSl U (.scr ns) (some (m : Int)) (some 63) = some (.lst ((cutD ns (some (m : Int)) (some 63)).map .int)) := fun U => rfl
  have main : ∀ (T : Store) (cs0 : List Int), 0 < cs0.length → cs0.length ≤ m → (cutD ns (some (m : Int)) (some 63) ≠ [] → cs0.length = m) →
      wp (forO (gTu 2 (gsCons (gNm 3) (gsCons (gNm 4) gsNil))) (sSeq (sAsg (dOp gMod (dCall gInt (dCons (dVar 3) dNil)) (dVar 1)) (gNm 5)) (sSetIx (dVar 2) (dVar 5) (dOp gAdd (dOp gIx (dVar 2) (dVar 5)) (dOp gMul (dVar 4) (dOp gAdd (dVar 3) (dC (.int 2)))))))
        [some (.scr ns), some (.int m), some (.ref T.length), none, none, none] (.fix (enumD 0 ((cutD ns (some (m : Int)) (some 63)).map .int))) (T ++ [.lst (cs0.map D.int)])) fun fl U => ∃ (x y z : Option D) (cs : List Int), fl = .nx [some (.scr ns), some (.int m), some (.ref T.length), x, y, z] ∧ U = T ++ [.lst (cs.map D.int)] ∧ 0 < cs.length ∧ cs.length ≤ m := by
    intro T cs0 h1 h2 h3
    rw [ev_forF]
    refine wp_loopF (I := fun i r U => ∃ (x y z : Option D) (cs : List Int), r = [some (.scr ns), some (D.int m), some (.ref T.length), x, y, z] ∧ U = T ++ [.lst (cs.map D.int)] ∧ cs.length = cs0.length) ⟨none, none, none, cs0, rfl, rfl, rfl⟩ ?_ ?_
    · rintro i v r U hi ⟨x, y, z, cs, rfl, rfl, hl⟩
      obtain ⟨g, hg, rfl⟩ := enum_get _ _ _ hi
      rw [List.getElem?_map] at hg
      obtain ⟨q, hq, rfl⟩ := Option.map_eq_some_iff.mp hg
      have hne : cutD ns (some (m : Int)) (some 63) ≠ [] := fun e => by rw [e] at hq; simp at hq
      have hcs : cs.length = m := hl.trans (h3 hne)
      refine ⟨_, ev_tu2w.trans rfl, ?_⟩
      have hi2 : i < 63 := by
        have := (List.getElem?_eq_some_iff.mp hq).1
        have := cut_le63 (ns := ns) (lo := some (m : Int)) (hi := some 63)
        omega
      have hat : (T ++ [D.lst (cs.map D.int)])[T.length]? = some (.lst (cs.map D.int)) := by rw [List.getElem?_append_right (Nat.le_refl _), Nat.sub_self]; rfl
      have hm0 : (0 : Int) < m := by omega
      have hq0 : 0 ≤ ((0 + i : Nat) : Int) % (m : Int) := Int.emod_nonneg _ (by omega)
      have hq1 : ((0 + i : Nat) : Int) % (m : Int) < (cs.map D.int).length := by
        rw [List.length_map, hcs]; exact Int.emod_lt_of_pos _ hm0
      have hj : (((0 + i : Nat) : Int) % (m : Int)).toNat < cs.length := by rw [List.length_map] at hq1; omega
      have hix : gIx (T ++ [D.lst (cs.map D.int)]) (.ref T.length) (.int (((0 + i : Nat) : Int) % (m : Int))) = some (.int cs[(((0 + i : Nat) : Int) % (m : Int)).toNat]) := by
        rw [ref_ix hat, atI_of hq0 hq1, List.getElem?_map, List.getElem?_eq_getElem hj]; rfl
      have hmul : mulOk q (((0 + i : Nat) : Int) + 2) = true := mulOk_r (small_of (by omega) (by omega))
      have hset : ∀ v : Int, setAt (T ++ [D.lst (cs.map D.int)]) (.ref T.length) (.int (((0 + i : Nat) : Int) % (m : Int))) (.int v) = some (T ++ [.lst ((cs.set (((0 + i : Nat) : Int) % (m : Int)).toNat v).map D.int)]) := fun v => by
        rw [ref_set hat (ixN_of hq0 hq1) rfl, List.set_append_right _ _ (Nat.le_refl _), Nat.sub_self, List.map_set]; rfl
      simp -implicitDefEqProofs only [ev_Blk, ek_blkNx, ek_blkRt, ek_blkBk, ek_blkCt, frz_nil, frz_some, frz_none, frz_int, frz_bl, frz_str, frz_non, frz_tup, frz_lst, frz_set, frz_dct, ev_FzD, ev_MuD, ek_dctF, ek_dctM, ev_Emp, ev_CallD, ek_CallD, ev_optD, ev_Met, ek_Met, ek_Met2, isDct_dct, ev_RevA, ek_RevAL, ek_RevAT, ev_RevN, ek_Rev, ev_Star, ek_StarL, ek_StarT, ek_Star2, ev_ltI, ek_Op, ek_Op2, ek_Un, ek_AndT, ek_AndF, ek_OrT, ek_OrF, ek_Not, ek_IfT, ek_IfF, ek_Cons, ek_Cons2, ek_Fz, ek_Mu, ek_Call, ek_CallN, ek_AddN, ek_AddN2, ek_Sl, ek_Sl2, ek_Sl3, ek_SlN, ek_SlN2, ek_SlN3, ek_FnK, ek_FnK2, ek_Len, ek_Asg, ek_Ret, ek_SIfT, ek_SIfF, ek_Drop, ek_Set, ek_Set2, ek_Set3, ek_OrB, ek_OrBT, ek_OrBF, ek_AndB, ek_AndBT, ek_AndBF, ek_NotB, ek_NotB2, ev_App, ev_Pop, ev_opt, ev_C, ev_Var, ev_Op, ev_Un, ev_Test, ev_test, ev_AndT, ev_OrT, ev_NotT, ev_If, ev_Truth, ev_truB, ev_truI, ev_truL, ev_truT, ev_truN, ev_OrB, ev_AndB, ev_NotB, ev_Nil, ev_Cons, ev_Tup, ev_Chk, ev_Fz, ev_Mu, ev_Call, ev_CallN, ev_optL, ev_AddN, ev_Isi, ev_oNone, ev_oSome, ev_oInt, ev_Sl, ev_SlN, ev_Fn, ev_FnK, ev_Len, ev_sNil, ev_Seq, ev_nx, ev_rt, ev_bk, ev_ct, ev_Asg, ev_nxO, ev_gNm, ev_gsNil, ev_gsCons, ev_Ret, ev_RetN, ev_sIf, ev_Drop, ev_Brk, ev_Cnt, ev_Par, ev_par2, ev_par3, ev_SetIx, ev_stO, ev_iSeq, ev_itL, ev_itT, ev_Ran1, ev_Ran2, ev_Enu, ev_enu, ev_Zip, ev_zipL, ev_zipT, ev_Comp, ev_fix, ev_Yes, ev_wipe0, ev_wipe, ev_For, ev_forF, ev_endRt, ev_endNx, ev_endM, ev_lvT, ev_lvL, ev_lvI, ev_lvB, ev_lvS, ev_lvN, ev_lvD, ev_addI, ev_subI, ev_negI, ev_eqI, ev_neI, ev_eqB, ev_neB, ev_cmpI, ev_isN, ev_isNotN, ev_lenL, ev_lenT, ev_tupL, ev_tupT, ev_lstL, ev_lstT, ev_int, ev_intB, ev_abs, ev_min2, ev_max2, ev_ixL, ev_ixT, Out.bind_ok, bindN_ok, Option.bind_some, List.set_cons_zero, List.set_cons_succ, List.getElem?_cons_zero, List.getElem?_cons_succ, ev_mk0, ev_mk1, ev_mk2, ev_mk3, ev_mk4, ev_ck0, ev_ck, Nat.zero_le, nr_int, nr_bl, nr_str, nr_non, nr_tup, nr_lst, En.nr, noRefs_nil, noRefs_cons, Bool.not_false, Bool.and_self, Bool.and_true, Bool.true_and, List.length_cons, List.length_nil, Nat.reduceAdd, Nat.reduceLeDiff, take_self, take_app, take_set, if_true, if_false, Bool.false_eq_true, Bool.not_true, atI_0, atI_1, ev_tu2, ev_tu2w, ev_tu2L, ev_tu3, ev_tu4, ev_pick0, ev_pick, List.nil_append, List.cons_append, ev_modI hm0, hix, ev_mulI hmul, hset, wp_ok]
      exact ⟨_, _, _, _, rfl, rfl, by rw [List.length_set]; exact hl⟩
    · rintro r U ⟨x, y, z, cs, rfl, rfl, hl⟩
      exact ⟨x, y, z, cs, rfl, rfl, by omega, by omega⟩
  have fin : ∀ (T : Store) (T' : Store), T = S ++ T' → ∀ {o : Out Fl}, (wp o fun fl U => ∃ (x y z : Option D) (cs : List Int), fl = .nx [some (.scr ns), some (D.int m), some (.ref T.length), x, y, z] ∧ U = T ++ [.lst (cs.map D.int)] ∧ 0 < cs.length ∧ cs.length ≤ m) →
      wp (endM (o.bind (seqF (sRet (dVar 2))))) fun v U => ∃ (T : Store) (cs : List Int), v = .ref T.length ∧ U = T ++ [.lst (cs.map D.int)] ∧ 0 < cs.length ∧ cs.length ≤ m ∧ ∃ T', T = S ++ T' := by
    rintro T T' rfl o ⟨fl, U, rfl, x, y, z, cs, rfl, rfl, hc1, hc2⟩
    exact ⟨_, _, rfl, S ++ T', cs, rfl, rfl, hc1, hc2, T', rfl⟩
  have hat0 : (S ++ [D.lst ((ns.take m).map D.int)])[S.length]? = some (.lst ((ns.take m).map D.int)) := by rw [List.getElem?_append_right (Nat.le_refl _), Nat.sub_self]; rfl
  by_cases hz : ns = []
  · have he : ((ns.take m).map D.int).isEmpty = true := by rw [hz]; simp
    simp -implicitDefEqProofs only [ev_Blk, ek_blkNx, ek_blkRt, ek_blkBk, ek_blkCt, frz_nil, frz_some, frz_none, frz_int, frz_bl, frz_str, frz_non, frz_tup, frz_lst, frz_set, frz_dct, ev_FzD, ev_MuD, ek_dctF, ek_dctM, ev_Emp, ev_CallD, ek_CallD, ev_optD, ev_Met, ek_Met, ek_Met2, isDct_dct, ev_RevA, ek_RevAL, ek_RevAT, ev_RevN, ek_Rev, ev_Star, ek_StarL, ek_StarT, ek_Star2, ev_ltI, ek_Op, ek_Op2, ek_Un, ek_AndT, ek_AndF, ek_OrT, ek_OrF, ek_Not, ek_IfT, ek_IfF, ek_Cons, ek_Cons2, ek_Fz, ek_Mu, ek_Call, ek_CallN, ek_AddN, ek_AddN2, ek_Sl, ek_Sl2, ek_Sl3, ek_SlN, ek_SlN2, ek_SlN3, ek_FnK, ek_FnK2, ek_Len, ek_Asg, ek_Ret, ek_SIfT, ek_SIfF, ek_Drop, ek_Set, ek_Set2, ek_Set3, ek_OrB, ek_OrBT, ek_OrBF, ek_AndB, ek_AndBT, ek_AndBF, ek_NotB, ek_NotB2, ev_App, ev_Pop, ev_opt, ev_C, ev_Var, ev_Op, ev_Un, ev_Test, ev_test, ev_AndT, ev_OrT, ev_NotT, ev_If, ev_Truth, ev_truB, ev_truI, ev_truL, ev_truT, ev_truN, ev_OrB, ev_AndB, ev_NotB, ev_Nil, ev_Cons, ev_Tup, ev_Chk, ev_Fz, ev_Mu, ev_Call, ev_CallN, ev_optL, ev_AddN, ev_Isi, ev_oNone, ev_oSome, ev_oInt, ev_Sl, ev_SlN, ev_Fn, ev_FnK, ev_Len, ev_sNil, ev_Seq, ev_nx, ev_rt, ev_bk, ev_ct, ev_Asg, ev_nxO, ev_gNm, ev_gsNil, ev_gsCons, ev_Ret, ev_RetN, ev_sIf, ev_Drop, ev_Brk, ev_Cnt, ev_Par, ev_par2, ev_par3, ev_SetIx, ev_stO, ev_iSeq, ev_itL, ev_itT, ev_Ran1, ev_Ran2, ev_Enu, ev_enu, ev_Zip, ev_zipL, ev_zipT, ev_Comp, ev_fix, ev_Yes, ev_wipe0, ev_wipe, ev_For, ev_forF, ev_endRt, ev_endNx, ev_endM, ev_lvT, ev_lvL, ev_lvI, ev_lvB, ev_lvS, ev_lvN, ev_lvD, ev_addI, ev_subI, ev_negI, ev_eqI, ev_neI, ev_eqB, ev_neB, ev_cmpI, ev_isN, ev_isNotN, ev_lenL, ev_lenT, ev_tupL, ev_tupT, ev_lstL, ev_lstT, ev_int, ev_intB, ev_abs, ev_min2, ev_max2, ev_ixL, ev_ixT, Out.bind_ok, bindN_ok, Option.bind_some, List.set_cons_zero, List.set_cons_succ, List.getElem?_cons_zero, List.getElem?_cons_succ, ev_mk0, ev_mk1, ev_mk2, ev_mk3, ev_mk4, ev_ck0, ev_ck, Nat.zero_le, nr_int, nr_bl, nr_str, nr_non, nr_tup, nr_lst, En.nr, noRefs_nil, noRefs_cons, Bool.not_false, Bool.and_self, Bool.and_true, Bool.true_and, List.length_cons, List.length_nil, Nat.reduceAdd, Nat.reduceLeDiff, take_self, take_app, take_set, if_true, if_false, Bool.false_eq_true, Bool.not_true, atI_0, atI_1, ev_tu2, ev_tu2w, ev_tu2L, ev_tu3, ev_tu4, ev_pick0, ev_pick, List.nil_append, List.cons_append, sl1, ref_tru hat0, he, sl2]
    refine fin (S ++ [D.lst ((ns.take m).map D.int)]) [D.lst ((ns.take m).map D.int)] rfl (main _ [0] (by decide) hm fun h => ?_)
    have := cut_rest h
    rw [hz] at this
    exact absurd this (Nat.not_lt_zero _)
  · have he : ((ns.take m).map D.int).isEmpty = false := by
      have h0 : 0 < ns.length := List.length_pos_iff.mpr hz
      have : 0 < ((ns.take m).map D.int).length := by rw [List.length_map, List.length_take]; omega
      cases hh : (ns.take m).map D.int with
      | nil => rw [hh] at this; cases this
      | cons a l => rfl
    simp -implicitDefEqProofs only [ev_Blk, ek_blkNx, ek_blkRt, ek_blkBk, ek_blkCt, frz_nil, frz_some, frz_none, frz_int, frz_bl, frz_str, frz_non, frz_tup, frz_lst, frz_set, frz_dct, ev_FzD, ev_MuD, ek_dctF, ek_dctM, ev_Emp, ev_CallD, ek_CallD, ev_optD, ev_Met, ek_Met, ek_Met2, isDct_dct, ev_RevA, ek_RevAL, ek_RevAT, ev_RevN, ek_Rev, ev_Star, ek_StarL, ek_StarT, ek_Star2, ev_ltI, ek_Op, ek_Op2, ek_Un, ek_AndT, ek_AndF, ek_OrT, ek_OrF, ek_Not, ek_IfT, ek_IfF, ek_Cons, ek_Cons2, ek_Fz, ek_Mu, ek_Call, ek_CallN, ek_AddN, ek_AddN2, ek_Sl, ek_Sl2, ek_Sl3, ek_SlN, ek_SlN2, ek_SlN3, ek_FnK, ek_FnK2, ek_Len, ek_Asg, ek_Ret, ek_SIfT, ek_SIfF, ek_Drop, ek_Set, ek_Set2, ek_Set3, ek_OrB, ek_OrBT, ek_OrBF, ek_AndB, ek_AndBT, ek_AndBF, ek_NotB, ek_NotB2, ev_App, ev_Pop, ev_opt, ev_C, ev_Var, ev_Op, ev_Un, ev_Test, ev_test, ev_AndT, ev_OrT, ev_NotT, ev_If, ev_Truth, ev_truB, ev_truI, ev_truL, ev_truT, ev_truN, ev_OrB, ev_AndB, ev_NotB, ev_Nil, ev_Cons, ev_Tup, ev_Chk, ev_Fz, ev_Mu, ev_Call, ev_CallN, ev_optL, ev_AddN, ev_Isi, ev_oNone, ev_oSome, ev_oInt, ev_Sl, ev_SlN, ev_Fn, ev_FnK, ev_Len, ev_sNil, ev_Seq, ev_nx, ev_rt, ev_bk, ev_ct, ev_Asg, ev_nxO, ev_gNm, ev_gsNil, ev_gsCons, ev_Ret, ev_RetN, ev_sIf, ev_Drop, ev_Brk, ev_Cnt, ev_Par, ev_par2, ev_par3, ev_SetIx, ev_stO, ev_iSeq, ev_itL, ev_itT, ev_Ran1, ev_Ran2, ev_Enu, ev_enu, ev_Zip, ev_zipL, ev_zipT, ev_Comp, ev_fix, ev_Yes, ev_wipe0, ev_wipe, ev_For, ev_forF, ev_endRt, ev_endNx, ev_endM, ev_lvT, ev_lvL, ev_lvI, ev_lvB, ev_lvS, ev_lvN, ev_lvD, ev_addI, ev_subI, ev_negI, ev_eqI, ev_neI, ev_eqB, ev_neB, ev_cmpI, ev_isN, ev_isNotN, ev_lenL, ev_lenT, ev_tupL, ev_tupT, ev_lstL, ev_lstT, ev_int, ev_intB, ev_abs, ev_min2, ev_max2, ev_ixL, ev_ixT, Out.bind_ok, bindN_ok, Option.bind_some, List.set_cons_zero, List.set_cons_succ, List.getElem?_cons_zero, List.getElem?_cons_succ, ev_mk0, ev_mk1, ev_mk2, ev_mk3, ev_mk4, ev_ck0, ev_ck, Nat.zero_le, nr_int, nr_bl, nr_str, nr_non, nr_tup, nr_lst, En.nr, noRefs_nil, noRefs_cons, Bool.not_false, Bool.and_self, Bool.and_true, Bool.true_and, List.length_cons, List.length_nil, Nat.reduceAdd, Nat.reduceLeDiff, take_self, take_app, take_set, if_true, if_false, Bool.false_eq_true, Bool.not_true, atI_0, atI_1, ev_tu2, ev_tu2w, ev_tu2L, ev_tu3, ev_tu4, ev_pick0, ev_pick, List.nil_append, List.cons_append, sl1, ref_tru hat0, he, sl2]
    have h0 : 0 < ns.length := List.length_pos_iff.mpr hz
    refine fin S [] (by simp) (main S (ns.take m) (by rw [List.length_take]; omega) (by rw [List.length_take]; omega) fun h => ?_)
    have := cut_rest h
    rw [List.length_take]; omega
def lawB (H C R X : Df) (m : Int) : Ds := sSeq (sIf (dNotT (dTruth (dFn H dNil))) (sRet (dC (.bl false))) sNil) (sSeq (sAsg (dFn C (dCons (dVar 0) (dCons (dC (.int m)) dNil))) (gNm 1)) (sRet (dCall gAll (dCons (dFz (dComp [2] (iRan1 (dCons (dCall gLen (dCons (dVar 1) dNil)) dNil)) (gNm 2) dYes (dFn R (dCons (dFn X (dCons (dVar 1) (dCons (dVar 2) dNil))) dNil)))) dNil))))
theorem law_of {H R : Df} {c : Int} {m : Nat} {ns : List Int} (hn : ns.length ≤ 63) (hm : 0 < m) (hm2 : m ≤ 60) (hc : 0 ≤ c) (hc2 : c ≤ 1000000000) (hH : H [] [] = .ok (.bl true) [])
    (hR : ∀ (n : Nat) (S : Store) (b : D), S[n]? = some b → Bx 0 b → ∃ b', R [.ref n] S = .ok (.bl true) (S.set n b')) :
    ∃ S', dDef 1 2 (lawB H F__law_cells R (boxF c) m) [.scr ns] [] = .ok (.bl true) S' := by
  suffices h : wp (dDef 1 2 (lawB H F__law_cells R (boxF c) m) [.scr ns] []) fun v _ => v = .bl true by
    obtain ⟨v, S', e, rfl⟩ := h; exact ⟨S', e⟩
  rw [dDef_eq (n := 1) rfl]
  unfold lawB
  obtain ⟨T, cs, e, h1, h2, -⟩ := cells_ok (S := []) hm hm2 hn
  have hat : (T ++ [D.lst (cs.map D.int)])[T.length]? = some (.lst (cs.map D.int)) := by rw [List.getElem?_append_right (Nat.le_refl _), Nat.sub_self]; rfl
  have hlen := ref_len hat
  rw [List.length_map] at hlen
  have hsl : [D.scr ns].map some ++ List.replicate 2 none = [some (D.scr ns), none, none] := rfl
  simp -implicitDefEqProofs only [hsl, ev_Blk, ek_blkNx, ek_blkRt, ek_blkBk, ek_blkCt, frz_nil, frz_some, frz_none, frz_int, frz_bl, frz_str, frz_non, frz_tup, frz_lst, frz_set, frz_dct, ev_FzD, ev_MuD, ek_dctF, ek_dctM, ev_Emp, ev_CallD, ek_CallD, ev_optD, ev_Met, ek_Met, ek_Met2, isDct_dct, ev_RevA, ek_RevAL, ek_RevAT, ev_RevN, ek_Rev, ev_Star, ek_StarL, ek_StarT, ek_Star2, ev_ltI, ek_Op, ek_Op2, ek_Un, ek_AndT, ek_AndF, ek_OrT, ek_OrF, ek_Not, ek_IfT, ek_IfF, ek_Cons, ek_Cons2, ek_Fz, ek_Mu, ek_Call, ek_CallN, ek_AddN, ek_AddN2, ek_Sl, ek_Sl2, ek_Sl3, ek_SlN, ek_SlN2, ek_SlN3, ek_FnK, ek_FnK2, ek_Len, ek_Asg, ek_Ret, ek_SIfT, ek_SIfF, ek_Drop, ek_Set, ek_Set2, ek_Set3, ek_OrB, ek_OrBT, ek_OrBF, ek_AndB, ek_AndBT, ek_AndBF, ek_NotB, ek_NotB2, ev_App, ev_Pop, ev_opt, ev_C, ev_Var, ev_Op, ev_Un, ev_Test, ev_test, ev_AndT, ev_OrT, ev_NotT, ev_If, ev_Truth, ev_truB, ev_truI, ev_truL, ev_truT, ev_truN, ev_OrB, ev_AndB, ev_NotB, ev_Nil, ev_Cons, ev_Tup, ev_Chk, ev_Fz, ev_Mu, ev_Call, ev_CallN, ev_optL, ev_AddN, ev_Isi, ev_oNone, ev_oSome, ev_oInt, ev_Sl, ev_SlN, ev_Fn, ev_FnK, ev_Len, ev_sNil, ev_Seq, ev_nx, ev_rt, ev_bk, ev_ct, ev_Asg, ev_nxO, ev_gNm, ev_gsNil, ev_gsCons, ev_Ret, ev_RetN, ev_sIf, ev_Drop, ev_Brk, ev_Cnt, ev_Par, ev_par2, ev_par3, ev_SetIx, ev_stO, ev_iSeq, ev_itL, ev_itT, ev_Ran1, ev_Ran2, ev_Enu, ev_enu, ev_Zip, ev_zipL, ev_zipT, ev_Comp, ev_fix, ev_Yes, ev_wipe0, ev_wipe, ev_For, ev_forF, ev_endRt, ev_endNx, ev_endM, ev_lvT, ev_lvL, ev_lvI, ev_lvB, ev_lvS, ev_lvN, ev_lvD, ev_addI, ev_subI, ev_negI, ev_eqI, ev_neI, ev_eqB, ev_neB, ev_cmpI, ev_isN, ev_isNotN, ev_lenL, ev_lenT, ev_tupL, ev_tupT, ev_lstL, ev_lstT, ev_int, ev_intB, ev_abs, ev_min2, ev_max2, ev_ixL, ev_ixT, Out.bind_ok, bindN_ok, Option.bind_some, List.set_cons_zero, List.set_cons_succ, List.getElem?_cons_zero, List.getElem?_cons_succ, ev_mk0, ev_mk1, ev_mk2, ev_mk3, ev_mk4, ev_ck0, ev_ck, Nat.zero_le, nr_int, nr_bl, nr_str, nr_non, nr_tup, nr_lst, En.nr, noRefs_nil, noRefs_cons, Bool.not_false, Bool.and_self, Bool.and_true, Bool.true_and, List.length_cons, List.length_nil, Nat.reduceAdd, Nat.reduceLeDiff, take_self, take_app, take_set, if_true, if_false, Bool.false_eq_true, Bool.not_true, atI_0, atI_1, ev_tu2, ev_tu2w, ev_tu2L, ev_tu3, ev_tu4, ev_pick0, ev_pick, List.nil_append, List.cons_append, hH, e, hlen, ran1_nat (show cs.length ≤ 1000000 by omega)]
  refine wp_endD ?_
  simp only [wp_bind]
  refine wp_compF (I := fun acc U => (∀ x ∈ acc, x = D.bl true) ∧ ∃ U', U = T ++ [.lst (cs.map D.int)] ++ U') ⟨fun _ h => (nomatch h), [], by simp⟩ ?_ ?_
  · rintro acc d U hd ⟨ha, U', rfl⟩
    rw [rng_en] at hd
    obtain ⟨k, hk, rfl⟩ := List.mem_map.mp hd
    have hk' := mem_rgI.mp hk
    have hat2 : (T ++ [D.lst (cs.map D.int)] ++ U')[T.length]? = some (.lst (cs.map D.int)) := by
      rw [List.getElem?_append_left (by simp)]; exact hat
    obtain ⟨b, eb, hB⟩ := box_ok (c := c) hat2 (k := k) (by omega) (by omega) (by omega) hc hc2
    obtain ⟨b', er⟩ := hR (T ++ [D.lst (cs.map D.int)] ++ U').length (T ++ [D.lst (cs.map D.int)] ++ U' ++ [b]) b (by rw [List.getElem?_append_right (Nat.le_refl _), Nat.sub_self]; rfl) hB
    refine ⟨_, _, one_yes rfl (by simp -implicitDefEqProofs only [ev_Blk, ek_blkNx, ek_blkRt, ek_blkBk, ek_blkCt, frz_nil, frz_some, frz_none, frz_int, frz_bl, frz_str, frz_non, frz_tup, frz_lst, frz_set, frz_dct, ev_FzD, ev_MuD, ek_dctF, ek_dctM, ev_Emp, ev_CallD, ek_CallD, ev_optD, ev_Met, ek_Met, ek_Met2, isDct_dct, ev_RevA, ek_RevAL, ek_RevAT, ev_RevN, ek_Rev, ev_Star, ek_StarL, ek_StarT, ek_Star2, ev_ltI, ek_Op, ek_Op2, ek_Un, ek_AndT, ek_AndF, ek_OrT, ek_OrF, ek_Not, ek_IfT, ek_IfF, ek_Cons, ek_Cons2, ek_Fz, ek_Mu, ek_Call, ek_CallN, ek_AddN, ek_AddN2, ek_Sl, ek_Sl2, ek_Sl3, ek_SlN, ek_SlN2, ek_SlN3, ek_FnK, ek_FnK2, ek_Len, ek_Asg, ek_Ret, ek_SIfT, ek_SIfF, ek_Drop, ek_Set, ek_Set2, ek_Set3, ek_OrB, ek_OrBT, ek_OrBF, ek_AndB, ek_AndBT, ek_AndBF, ek_NotB, ek_NotB2, ev_App, ev_Pop, ev_opt, ev_C, ev_Var, ev_Op, ev_Un, ev_Test, ev_test, ev_AndT, ev_OrT, ev_NotT, ev_If, ev_Truth, ev_truB, ev_truI, ev_truL, ev_truT, ev_truN, ev_OrB, ev_AndB, ev_NotB, ev_Nil, ev_Cons, ev_Tup, ev_Chk, ev_Fz, ev_Mu, ev_Call, ev_CallN, ev_optL, ev_AddN, ev_Isi, ev_oNone, ev_oSome, ev_oInt, ev_Sl, ev_SlN, ev_Fn, ev_FnK, ev_Len, ev_sNil, ev_Seq, ev_nx, ev_rt, ev_bk, ev_ct, ev_Asg, ev_nxO, ev_gNm, ev_gsNil, ev_gsCons, ev_Ret, ev_RetN, ev_sIf, ev_Drop, ev_Brk, ev_Cnt, ev_Par, ev_par2, ev_par3, ev_SetIx, ev_stO, ev_iSeq, ev_itL, ev_itT, ev_Ran1, ev_Ran2, ev_Enu, ev_enu, ev_Zip, ev_zipL, ev_zipT, ev_Comp, ev_fix, ev_Yes, ev_wipe0, ev_wipe, ev_For, ev_forF, ev_endRt, ev_endNx, ev_endM, ev_lvT, ev_lvL, ev_lvI, ev_lvB, ev_lvS, ev_lvN, ev_lvD, ev_addI, ev_subI, ev_negI, ev_eqI, ev_neI, ev_eqB, ev_neB, ev_cmpI, ev_isN, ev_isNotN, ev_lenL, ev_lenT, ev_tupL, ev_tupT, ev_lstL, ev_lstT, ev_int, ev_intB, ev_abs, ev_min2, ev_max2, ev_ixL, ev_ixT, Out.bind_ok, bindN_ok, Option.bind_some, List.set_cons_zero, List.set_cons_succ, List.getElem?_cons_zero, List.getElem?_cons_succ, ev_mk0, ev_mk1, ev_mk2, ev_mk3, ev_mk4, ev_ck0, ev_ck, Nat.zero_le, nr_int, nr_bl, nr_str, nr_non, nr_tup, nr_lst, En.nr, noRefs_nil, noRefs_cons, Bool.not_false, Bool.and_self, Bool.and_true, Bool.true_and, List.length_cons, List.length_nil, Nat.reduceAdd, Nat.reduceLeDiff, take_self, take_app, take_set, if_true, if_false, Bool.false_eq_true, Bool.not_true, atI_0, atI_1, ev_tu2, ev_tu2w, ev_tu2L, ev_tu3, ev_tu4, ev_pick0, ev_pick, List.nil_append, List.cons_append, eb, er]; rfl) rfl, fun x hx => ?_, ?_⟩
    · rcases List.mem_append.mp hx with hx | hx
      · exact ha x hx
      · simpa using hx
    · exact ⟨U' ++ [b'], by rw [List.set_append_right _ _ (Nat.le_refl _), Nat.sub_self]; simp⟩
  · rintro acc U ⟨ha, -⟩
    simp -implicitDefEqProofs only [ev_Blk, ek_blkNx, ek_blkRt, ek_blkBk, ek_blkCt, frz_nil, frz_some, frz_none, frz_int, frz_bl, frz_str, frz_non, frz_tup, frz_lst, frz_set, frz_dct, ev_FzD, ev_MuD, ek_dctF, ek_dctM, ev_Emp, ev_CallD, ek_CallD, ev_optD, ev_Met, ek_Met, ek_Met2, isDct_dct, ev_RevA, ek_RevAL, ek_RevAT, ev_RevN, ek_Rev, ev_Star, ek_StarL, ek_StarT, ek_Star2, ev_ltI, ek_Op, ek_Op2, ek_Un, ek_AndT, ek_AndF, ek_OrT, ek_OrF, ek_Not, ek_IfT, ek_IfF, ek_Cons, ek_Cons2, ek_Fz, ek_Mu, ek_Call, ek_CallN, ek_AddN, ek_AddN2, ek_Sl, ek_Sl2, ek_Sl3, ek_SlN, ek_SlN2, ek_SlN3, ek_FnK, ek_FnK2, ek_Len, ek_Asg, ek_Ret, ek_SIfT, ek_SIfF, ek_Drop, ek_Set, ek_Set2, ek_Set3, ek_OrB, ek_OrBT, ek_OrBF, ek_AndB, ek_AndBT, ek_AndBF, ek_NotB, ek_NotB2, ev_App, ev_Pop, ev_opt, ev_C, ev_Var, ev_Op, ev_Un, ev_Test, ev_test, ev_AndT, ev_OrT, ev_NotT, ev_If, ev_Truth, ev_truB, ev_truI, ev_truL, ev_truT, ev_truN, ev_OrB, ev_AndB, ev_NotB, ev_Nil, ev_Cons, ev_Tup, ev_Chk, ev_Fz, ev_Mu, ev_Call, ev_CallN, ev_optL, ev_AddN, ev_Isi, ev_oNone, ev_oSome, ev_oInt, ev_Sl, ev_SlN, ev_Fn, ev_FnK, ev_Len, ev_sNil, ev_Seq, ev_nx, ev_rt, ev_bk, ev_ct, ev_Asg, ev_nxO, ev_gNm, ev_gsNil, ev_gsCons, ev_Ret, ev_RetN, ev_sIf, ev_Drop, ev_Brk, ev_Cnt, ev_Par, ev_par2, ev_par3, ev_SetIx, ev_stO, ev_iSeq, ev_itL, ev_itT, ev_Ran1, ev_Ran2, ev_Enu, ev_enu, ev_Zip, ev_zipL, ev_zipT, ev_Comp, ev_fix, ev_Yes, ev_wipe0, ev_wipe, ev_For, ev_forF, ev_endRt, ev_endNx, ev_endM, ev_lvT, ev_lvL, ev_lvI, ev_lvB, ev_lvS, ev_lvN, ev_lvD, ev_addI, ev_subI, ev_negI, ev_eqI, ev_neI, ev_eqB, ev_neB, ev_cmpI, ev_isN, ev_isNotN, ev_lenL, ev_lenT, ev_tupL, ev_tupT, ev_lstL, ev_lstT, ev_int, ev_intB, ev_abs, ev_min2, ev_max2, ev_ixL, ev_ixT, Out.bind_ok, bindN_ok, Option.bind_some, List.set_cons_zero, List.set_cons_succ, List.getElem?_cons_zero, List.getElem?_cons_succ, ev_mk0, ev_mk1, ev_mk2, ev_mk3, ev_mk4, ev_ck0, ev_ck, Nat.zero_le, nr_int, nr_bl, nr_str, nr_non, nr_tup, nr_lst, En.nr, noRefs_nil, noRefs_cons, Bool.not_false, Bool.and_self, Bool.and_true, Bool.true_and, List.length_cons, List.length_nil, Nat.reduceAdd, Nat.reduceLeDiff, take_self, take_app, take_set, if_true, if_false, Bool.false_eq_true, Bool.not_true, atI_0, atI_1, ev_tu2, ev_tu2w, ev_tu2L, ev_tu3, ev_tu4, ev_pick0, ev_pick, List.nil_append, List.cons_append, all_true ha, wp_ok]
end Ws
namespace Ws
open PySem L2
open En (en)
def B_is_number : Ds := sRet (dAndB (dIsi [.int] (dVar 0)) (dNotB (dIsi [.bool] (dVar 0))))
def F_is_number : Df := dDef 1 0 B_is_number
theorem U_is_number {x0 : D} {S : Store} : F_is_number [x0] S = endD S.length (B_is_number [some x0] S) := dDef_eq (B := B_is_number) rfl
def B_rises : Ds := sRet (dCall gAll (dCons (dFz (dComp [1, 2] (iZipD (dCons (dVar 0) (dCons (dSl (dVar 0) (oSome (dC (.int 1))) oNone) dNil))) (gTu 2 (gsCons (gNm 1) (gsCons (gNm 2) gsNil))) dYes (dOp gLtA (dVar 1) (dVar 2)))) dNil))
def F_rises : Df := dDef 1 2 B_rises
theorem U_rises {x0 : D} {S : Store} : F_rises [x0] S = endD S.length (B_rises [some x0, none, none] S) := dDef_eq (B := B_rises) rfl
def B_is_cell : Ds := sRet (dAndB (dIsi [.tuple] (dVar 0)) (dAndB (dOp gEq (dCall gLen (dCons (dVar 0) dNil)) (dC (.int 2))) (dAndB (dFn F_is_number (dCons (dOp gIx (dVar 0) (dC (.int 0))) dNil)) (dFn F_is_number (dCons (dOp gIx (dVar 0) (dC (.int 1))) dNil)))))
def F_is_cell : Df := dDef 1 0 B_is_cell
theorem U_is_cell {x0 : D} {S : Store} : F_is_cell [x0] S = endD S.length (B_is_cell [some x0] S) := dDef_eq (B := B_is_cell) rfl
def B_is_picture : Ds := sRet (dAndB (dIsi [.tuple] (dVar 0)) (dAndB (dCall gAll (dCons (dFz (dComp [1] (iSeq (dVar 0)) (gNm 1) dYes (dFn F_is_cell (dCons (dVar 1) dNil)))) dNil)) (dFn F_rises (dCons (dVar 0) dNil))))
def F_is_picture : Df := dDef 1 1 B_is_picture
theorem U_is_picture {x0 : D} {S : Store} : F_is_picture [x0] S = endD S.length (B_is_picture [some x0, none] S) := dDef_eq (B := B_is_picture) rfl
def isNum : D → Bool
  | .int _ => true
  | _ => false
theorem isi_int {d : D} {S : Store} {n : Nat} (h : d.shp n = true) : isiO [.int] d S = .ok (.bl (match d with | .int _ => true | .bl _ => true | _ => false)) S := by cases d <;> first | rfl | (simp [D.shp] at h; done)
theorem isi_bool {d : D} {S : Store} {n : Nat} (h : d.shp n = true) : isiO [.bool] d S = .ok (.bl (match d with | .bl _ => true | _ => false)) S := by cases d <;> first | rfl | (simp [D.shp] at h; done)
theorem isi_tuple {d : D} {S : Store} {n : Nat} (h : d.shp n = true) : isiO [.tuple] d S = .ok (.bl (match d with | .tup _ => true | _ => false)) S := by cases d <;> first | rfl | (simp [D.shp] at h; done)
theorem E_is_number {S : Store} {d : D} {n : Nat} (h : d.shp n = true) : F_is_number [d] S = .ok (.bl (isNum d)) S := by
  rw [U_is_number]
  unfold B_is_number
  cases d <;> first | (simp -implicitDefEqProofs only [ev_Blk, ek_blkNx, ek_blkRt, ek_blkBk, ek_blkCt, frz_nil, frz_some, frz_none, frz_int, frz_bl, frz_str, frz_non, frz_tup, frz_lst, frz_set, frz_dct, ev_FzD, ev_MuD, ek_dctF, ek_dctM, ev_Emp, ev_CallD, ek_CallD, ev_optD, ev_Met, ek_Met, ek_Met2, isDct_dct, ev_RevA, ek_RevAL, ek_RevAT, ev_RevN, ek_Rev, ev_Star, ek_StarL, ek_StarT, ek_Star2, ev_ltI, ek_Op, ek_Op2, ek_Un, ek_AndT, ek_AndF, ek_OrT, ek_OrF, ek_Not, ek_IfT, ek_IfF, ek_Cons, ek_Cons2, ek_Fz, ek_Mu, ek_Call, ek_CallN, ek_AddN, ek_AddN2, ek_Sl, ek_Sl2, ek_Sl3, ek_SlN, ek_SlN2, ek_SlN3, ek_FnK, ek_FnK2, ek_Len, ek_Asg, ek_Ret, ek_SIfT, ek_SIfF, ek_Drop, ek_Set, ek_Set2, ek_Set3, ek_OrB, ek_OrBT, ek_OrBF, ek_AndB, ek_AndBT, ek_AndBF, ek_NotB, ek_NotB2, ev_App, ev_Pop, ev_opt, ev_C, ev_Var, ev_Op, ev_Un, ev_Test, ev_test, ev_AndT, ev_OrT, ev_NotT, ev_If, ev_Truth, ev_truB, ev_truI, ev_truL, ev_truT, ev_truN, ev_OrB, ev_AndB, ev_NotB, ev_Nil, ev_Cons, ev_Tup, ev_Chk, ev_Fz, ev_Mu, ev_Call, ev_CallN, ev_optL, ev_AddN, ev_Isi, ev_oNone, ev_oSome, ev_oInt, ev_Sl, ev_SlN, ev_Fn, ev_FnK, ev_Len, ev_sNil, ev_Seq, ev_nx, ev_rt, ev_bk, ev_ct, ev_Asg, ev_nxO, ev_gNm, ev_gsNil, ev_gsCons, ev_Ret, ev_RetN, ev_sIf, ev_Drop, ev_Brk, ev_Cnt, ev_Par, ev_par2, ev_par3, ev_SetIx, ev_stO, ev_iSeq, ev_itL, ev_itT, ev_Ran1, ev_Ran2, ev_Enu, ev_enu, ev_Zip, ev_zipL, ev_zipT, ev_Comp, ev_fix, ev_Yes, ev_wipe0, ev_wipe, ev_For, ev_forF, ev_endRt, ev_endNx, ev_endM, ev_lvT, ev_lvL, ev_lvI, ev_lvB, ev_lvS, ev_lvN, ev_lvD, ev_addI, ev_subI, ev_negI, ev_eqI, ev_neI, ev_eqB, ev_neB, ev_cmpI, ev_isN, ev_isNotN, ev_lenL, ev_lenT, ev_tupL, ev_tupT, ev_lstL, ev_lstT, ev_int, ev_intB, ev_abs, ev_min2, ev_max2, ev_ixL, ev_ixT, Out.bind_ok, bindN_ok, Option.bind_some, List.set_cons_zero, List.set_cons_succ, List.getElem?_cons_zero, List.getElem?_cons_succ, ev_mk0, ev_mk1, ev_mk2, ev_mk3, ev_mk4, ev_ck0, ev_ck, Nat.zero_le, nr_int, nr_bl, nr_str, nr_non, nr_tup, nr_lst, En.nr, noRefs_nil, noRefs_cons, Bool.not_false, Bool.and_self, Bool.and_true, Bool.true_and, List.length_cons, List.length_nil, Nat.reduceAdd, Nat.reduceLeDiff, take_self, take_app, take_set, if_true, if_false, Bool.false_eq_true, Bool.not_true, atI_0, atI_1, ev_tu2, ev_tu2w, ev_tu2L, ev_tu3, ev_tu4, ev_pick0, ev_pick, List.nil_append, List.cons_append, isi_int h, isi_bool h, isNum]; done) | (simp [D.shp] at h; done)
def isCellB : D → Bool
  | .tup [a, b] => isNum a && isNum b
  | _ => false
theorem ne2 {m : Nat} (h : m ≠ 2) : ((m : Int) == 2) = false := by simp; omega
theorem isCell_len {xs : List D} (h : xs.length ≠ 2) : isCellB (.tup xs) = false := by
  match xs with
  | [] => rfl
  | [_] => rfl
  | [_, _] => exact absurd rfl h
  | _ :: _ :: _ :: _ => rfl
theorem E_is_cell {S : Store} {d : D} {n : Nat} (h : d.shp n = true) : F_is_cell [d] S = .ok (.bl (isCellB d)) S := by
  rw [U_is_cell]
  unfold B_is_cell
  cases d with
  | tup xs =>
    by_cases hl : xs.length = 2
    · match xs, hl with
      | [a, b], _ =>
        cases n with
        | zero => simp [D.shp] at h
        | succ n =>
          have hs : D.shps [a, b] n = true := by simpa [D.shp] using h
          have ha := shps_all.mp hs a (by simp)
          have hb := shps_all.mp hs b (by simp)
          simp -implicitDefEqProofs only [ev_Blk, ek_blkNx, ek_blkRt, ek_blkBk, ek_blkCt, frz_nil, frz_some, frz_none, frz_int, frz_bl, frz_str, frz_non, frz_tup, frz_lst, frz_set, frz_dct, ev_FzD, ev_MuD, ek_dctF, ek_dctM, ev_Emp, ev_CallD, ek_CallD, ev_optD, ev_Met, ek_Met, ek_Met2, isDct_dct, ev_RevA, ek_RevAL, ek_RevAT, ev_RevN, ek_Rev, ev_Star, ek_StarL, ek_StarT, ek_Star2, ev_ltI, ek_Op, ek_Op2, ek_Un, ek_AndT, ek_AndF, ek_OrT, ek_OrF, ek_Not, ek_IfT, ek_IfF, ek_Cons, ek_Cons2, ek_Fz, ek_Mu, ek_Call, ek_CallN, ek_AddN, ek_AddN2, ek_Sl, ek_Sl2, ek_Sl3, ek_SlN, ek_SlN2, ek_SlN3, ek_FnK, ek_FnK2, ek_Len, ek_Asg, ek_Ret, ek_SIfT, ek_SIfF, ek_Drop, ek_Set, ek_Set2, ek_Set3, ek_OrB, ek_OrBT, ek_OrBF, ek_AndB, ek_AndBT, ek_AndBF, ek_NotB, ek_NotB2, ev_App, ev_Pop, ev_opt, ev_C, ev_Var, ev_Op, ev_Un, ev_Test, ev_test, ev_AndT, ev_OrT, ev_NotT, ev_If, ev_Truth, ev_truB, ev_truI, ev_truL, ev_truT, ev_truN, ev_OrB, ev_AndB, ev_NotB, ev_Nil, ev_Cons, ev_Tup, ev_Chk, ev_Fz, ev_Mu, ev_Call, ev_CallN, ev_optL, ev_AddN, ev_Isi, ev_oNone, ev_oSome, ev_oInt, ev_Sl, ev_SlN, ev_Fn, ev_FnK, ev_Len, ev_sNil, ev_Seq, ev_nx, ev_rt, ev_bk, ev_ct, ev_Asg, ev_nxO, ev_gNm, ev_gsNil, ev_gsCons, ev_Ret, ev_RetN, ev_sIf, ev_Drop, ev_Brk, ev_Cnt, ev_Par, ev_par2, ev_par3, ev_SetIx, ev_stO, ev_iSeq, ev_itL, ev_itT, ev_Ran1, ev_Ran2, ev_Enu, ev_enu, ev_Zip, ev_zipL, ev_zipT, ev_Comp, ev_fix, ev_Yes, ev_wipe0, ev_wipe, ev_For, ev_forF, ev_endRt, ev_endNx, ev_endM, ev_lvT, ev_lvL, ev_lvI, ev_lvB, ev_lvS, ev_lvN, ev_lvD, ev_addI, ev_subI, ev_negI, ev_eqI, ev_neI, ev_eqB, ev_neB, ev_cmpI, ev_isN, ev_isNotN, ev_lenL, ev_lenT, ev_tupL, ev_tupT, ev_lstL, ev_lstT, ev_int, ev_intB, ev_abs, ev_min2, ev_max2, ev_ixL, ev_ixT, Out.bind_ok, bindN_ok, Option.bind_some, List.set_cons_zero, List.set_cons_succ, List.getElem?_cons_zero, List.getElem?_cons_succ, ev_mk0, ev_mk1, ev_mk2, ev_mk3, ev_mk4, ev_ck0, ev_ck, Nat.zero_le, nr_int, nr_bl, nr_str, nr_non, nr_tup, nr_lst, En.nr, noRefs_nil, noRefs_cons, Bool.not_false, Bool.and_self, Bool.and_true, Bool.true_and, List.length_cons, List.length_nil, Nat.reduceAdd, Nat.reduceLeDiff, take_self, take_app, take_set, if_true, if_false, Bool.false_eq_true, Bool.not_true, atI_0, atI_1, ev_tu2, ev_tu2w, ev_tu2L, ev_tu3, ev_tu4, ev_pick0, ev_pick, List.nil_append, List.cons_append, isi_tuple h, E_is_number ha, E_is_number hb, show (((0 + 1 + 1 : Nat) : Int) == 2) = true from rfl, show (((2 : Nat) : Int) == 2) = true from rfl, isCellB]
          cases isNum a <;> simp -implicitDefEqProofs only [ev_Blk, ek_blkNx, ek_blkRt, ek_blkBk, ek_blkCt, frz_nil, frz_some, frz_none, frz_int, frz_bl, frz_str, frz_non, frz_tup, frz_lst, frz_set, frz_dct, ev_FzD, ev_MuD, ek_dctF, ek_dctM, ev_Emp, ev_CallD, ek_CallD, ev_optD, ev_Met, ek_Met, ek_Met2, isDct_dct, ev_RevA, ek_RevAL, ek_RevAT, ev_RevN, ek_Rev, ev_Star, ek_StarL, ek_StarT, ek_Star2, ev_ltI, ek_Op, ek_Op2, ek_Un, ek_AndT, ek_AndF, ek_OrT, ek_OrF, ek_Not, ek_IfT, ek_IfF, ek_Cons, ek_Cons2, ek_Fz, ek_Mu, ek_Call, ek_CallN, ek_AddN, ek_AddN2, ek_Sl, ek_Sl2, ek_Sl3, ek_SlN, ek_SlN2, ek_SlN3, ek_FnK, ek_FnK2, ek_Len, ek_Asg, ek_Ret, ek_SIfT, ek_SIfF, ek_Drop, ek_Set, ek_Set2, ek_Set3, ek_OrB, ek_OrBT, ek_OrBF, ek_AndB, ek_AndBT, ek_AndBF, ek_NotB, ek_NotB2, ev_App, ev_Pop, ev_opt, ev_C, ev_Var, ev_Op, ev_Un, ev_Test, ev_test, ev_AndT, ev_OrT, ev_NotT, ev_If, ev_Truth, ev_truB, ev_truI, ev_truL, ev_truT, ev_truN, ev_OrB, ev_AndB, ev_NotB, ev_Nil, ev_Cons, ev_Tup, ev_Chk, ev_Fz, ev_Mu, ev_Call, ev_CallN, ev_optL, ev_AddN, ev_Isi, ev_oNone, ev_oSome, ev_oInt, ev_Sl, ev_SlN, ev_Fn, ev_FnK, ev_Len, ev_sNil, ev_Seq, ev_nx, ev_rt, ev_bk, ev_ct, ev_Asg, ev_nxO, ev_gNm, ev_gsNil, ev_gsCons, ev_Ret, ev_RetN, ev_sIf, ev_Drop, ev_Brk, ev_Cnt, ev_Par, ev_par2, ev_par3, ev_SetIx, ev_stO, ev_iSeq, ev_itL, ev_itT, ev_Ran1, ev_Ran2, ev_Enu, ev_enu, ev_Zip, ev_zipL, ev_zipT, ev_Comp, ev_fix, ev_Yes, ev_wipe0, ev_wipe, ev_For, ev_forF, ev_endRt, ev_endNx, ev_endM, ev_lvT, ev_lvL, ev_lvI, ev_lvB, ev_lvS, ev_lvN, ev_lvD, ev_addI, ev_subI, ev_negI, ev_eqI, ev_neI, ev_eqB, ev_neB, ev_cmpI, ev_isN, ev_isNotN, ev_lenL, ev_lenT, ev_tupL, ev_tupT, ev_lstL, ev_lstT, ev_int, ev_intB, ev_abs, ev_min2, ev_max2, ev_ixL, ev_ixT, Out.bind_ok, bindN_ok, Option.bind_some, List.set_cons_zero, List.set_cons_succ, List.getElem?_cons_zero, List.getElem?_cons_succ, ev_mk0, ev_mk1, ev_mk2, ev_mk3, ev_mk4, ev_ck0, ev_ck, Nat.zero_le, nr_int, nr_bl, nr_str, nr_non, nr_tup, nr_lst, En.nr, noRefs_nil, noRefs_cons, Bool.not_false, Bool.and_self, Bool.and_true, Bool.true_and, List.length_cons, List.length_nil, Nat.reduceAdd, Nat.reduceLeDiff, take_self, take_app, take_set, if_true, if_false, Bool.false_eq_true, Bool.not_true, atI_0, atI_1, ev_tu2, ev_tu2w, ev_tu2L, ev_tu3, ev_tu4, ev_pick0, ev_pick, List.nil_append, List.cons_append, Bool.false_and, E_is_number hb]
    · simp -implicitDefEqProofs only [ev_Blk, ek_blkNx, ek_blkRt, ek_blkBk, ek_blkCt, frz_nil, frz_some, frz_none, frz_int, frz_bl, frz_str, frz_non, frz_tup, frz_lst, frz_set, frz_dct, ev_FzD, ev_MuD, ek_dctF, ek_dctM, ev_Emp, ev_CallD, ek_CallD, ev_optD, ev_Met, ek_Met, ek_Met2, isDct_dct, ev_RevA, ek_RevAL, ek_RevAT, ev_RevN, ek_Rev, ev_Star, ek_StarL, ek_StarT, ek_Star2, ev_ltI, ek_Op, ek_Op2, ek_Un, ek_AndT, ek_AndF, ek_OrT, ek_OrF, ek_Not, ek_IfT, ek_IfF, ek_Cons, ek_Cons2, ek_Fz, ek_Mu, ek_Call, ek_CallN, ek_AddN, ek_AddN2, ek_Sl, ek_Sl2, ek_Sl3, ek_SlN, ek_SlN2, ek_SlN3, ek_FnK, ek_FnK2, ek_Len, ek_Asg, ek_Ret, ek_SIfT, ek_SIfF, ek_Drop, ek_Set, ek_Set2, ek_Set3, ek_OrB, ek_OrBT, ek_OrBF, ek_AndB, ek_AndBT, ek_AndBF, ek_NotB, ek_NotB2, ev_App, ev_Pop, ev_opt, ev_C, ev_Var, ev_Op, ev_Un, ev_Test, ev_test, ev_AndT, ev_OrT, ev_NotT, ev_If, ev_Truth, ev_truB, ev_truI, ev_truL, ev_truT, ev_truN, ev_OrB, ev_AndB, ev_NotB, ev_Nil, ev_Cons, ev_Tup, ev_Chk, ev_Fz, ev_Mu, ev_Call, ev_CallN, ev_optL, ev_AddN, ev_Isi, ev_oNone, ev_oSome, ev_oInt, ev_Sl, ev_SlN, ev_Fn, ev_FnK, ev_Len, ev_sNil, ev_Seq, ev_nx, ev_rt, ev_bk, ev_ct, ev_Asg, ev_nxO, ev_gNm, ev_gsNil, ev_gsCons, ev_Ret, ev_RetN, ev_sIf, ev_Drop, ev_Brk, ev_Cnt, ev_Par, ev_par2, ev_par3, ev_SetIx, ev_stO, ev_iSeq, ev_itL, ev_itT, ev_Ran1, ev_Ran2, ev_Enu, ev_enu, ev_Zip, ev_zipL, ev_zipT, ev_Comp, ev_fix, ev_Yes, ev_wipe0, ev_wipe, ev_For, ev_forF, ev_endRt, ev_endNx, ev_endM, ev_lvT, ev_lvL, ev_lvI, ev_lvB, ev_lvS, ev_lvN, ev_lvD, ev_addI, ev_subI, ev_negI, ev_eqI, ev_neI, ev_eqB, ev_neB, ev_cmpI, ev_isN, ev_isNotN, ev_lenL, ev_lenT, ev_tupL, ev_tupT, ev_lstL, ev_lstT, ev_int, ev_intB, ev_abs, ev_min2, ev_max2, ev_ixL, ev_ixT, Out.bind_ok, bindN_ok, Option.bind_some, List.set_cons_zero, List.set_cons_succ, List.getElem?_cons_zero, List.getElem?_cons_succ, ev_mk0, ev_mk1, ev_mk2, ev_mk3, ev_mk4, ev_ck0, ev_ck, Nat.zero_le, nr_int, nr_bl, nr_str, nr_non, nr_tup, nr_lst, En.nr, noRefs_nil, noRefs_cons, Bool.not_false, Bool.and_self, Bool.and_true, Bool.true_and, List.length_cons, List.length_nil, Nat.reduceAdd, Nat.reduceLeDiff, take_self, take_app, take_set, if_true, if_false, Bool.false_eq_true, Bool.not_true, atI_0, atI_1, ev_tu2, ev_tu2w, ev_tu2L, ev_tu3, ev_tu4, ev_pick0, ev_pick, List.nil_append, List.cons_append, isi_tuple h, ne2 hl, isCell_len hl]
  | _ => first | (simp -implicitDefEqProofs only [ev_Blk, ek_blkNx, ek_blkRt, ek_blkBk, ek_blkCt, frz_nil, frz_some, frz_none, frz_int, frz_bl, frz_str, frz_non, frz_tup, frz_lst, frz_set, frz_dct, ev_FzD, ev_MuD, ek_dctF, ek_dctM, ev_Emp, ev_CallD, ek_CallD, ev_optD, ev_Met, ek_Met, ek_Met2, isDct_dct, ev_RevA, ek_RevAL, ek_RevAT, ev_RevN, ek_Rev, ev_Star, ek_StarL, ek_StarT, ek_Star2, ev_ltI, ek_Op, ek_Op2, ek_Un, ek_AndT, ek_AndF, ek_OrT, ek_OrF, ek_Not, ek_IfT, ek_IfF, ek_Cons, ek_Cons2, ek_Fz, ek_Mu, ek_Call, ek_CallN, ek_AddN, ek_AddN2, ek_Sl, ek_Sl2, ek_Sl3, ek_SlN, ek_SlN2, ek_SlN3, ek_FnK, ek_FnK2, ek_Len, ek_Asg, ek_Ret, ek_SIfT, ek_SIfF, ek_Drop, ek_Set, ek_Set2, ek_Set3, ek_OrB, ek_OrBT, ek_OrBF, ek_AndB, ek_AndBT, ek_AndBF, ek_NotB, ek_NotB2, ev_App, ev_Pop, ev_opt, ev_C, ev_Var, ev_Op, ev_Un, ev_Test, ev_test, ev_AndT, ev_OrT, ev_NotT, ev_If, ev_Truth, ev_truB, ev_truI, ev_truL, ev_truT, ev_truN, ev_OrB, ev_AndB, ev_NotB, ev_Nil, ev_Cons, ev_Tup, ev_Chk, ev_Fz, ev_Mu, ev_Call, ev_CallN, ev_optL, ev_AddN, ev_Isi, ev_oNone, ev_oSome, ev_oInt, ev_Sl, ev_SlN, ev_Fn, ev_FnK, ev_Len, ev_sNil, ev_Seq, ev_nx, ev_rt, ev_bk, ev_ct, ev_Asg, ev_nxO, ev_gNm, ev_gsNil, ev_gsCons, ev_Ret, ev_RetN, ev_sIf, ev_Drop, ev_Brk, ev_Cnt, ev_Par, ev_par2, ev_par3, ev_SetIx, ev_stO, ev_iSeq, ev_itL, ev_itT, ev_Ran1, ev_Ran2, ev_Enu, ev_enu, ev_Zip, ev_zipL, ev_zipT, ev_Comp, ev_fix, ev_Yes, ev_wipe0, ev_wipe, ev_For, ev_forF, ev_endRt, ev_endNx, ev_endM, ev_lvT, ev_lvL, ev_lvI, ev_lvB, ev_lvS, ev_lvN, ev_lvD, ev_addI, ev_subI, ev_negI, ev_eqI, ev_neI, ev_eqB, ev_neB, ev_cmpI, ev_isN, ev_isNotN, ev_lenL, ev_lenT, ev_tupL, ev_tupT, ev_lstL, ev_lstT, ev_int, ev_intB, ev_abs, ev_min2, ev_max2, ev_ixL, ev_ixT, Out.bind_ok, bindN_ok, Option.bind_some, List.set_cons_zero, List.set_cons_succ, List.getElem?_cons_zero, List.getElem?_cons_succ, ev_mk0, ev_mk1, ev_mk2, ev_mk3, ev_mk4, ev_ck0, ev_ck, Nat.zero_le, nr_int, nr_bl, nr_str, nr_non, nr_tup, nr_lst, En.nr, noRefs_nil, noRefs_cons, Bool.not_false, Bool.and_self, Bool.and_true, Bool.true_and, List.length_cons, List.length_nil, Nat.reduceAdd, Nat.reduceLeDiff, take_self, take_app, take_set, if_true, if_false, Bool.false_eq_true, Bool.not_true, atI_0, atI_1, ev_tu2, ev_tu2w, ev_tu2L, ev_tu3, ev_tu4, ev_pick0, ev_pick, List.nil_append, List.cons_append, isi_tuple h]; rfl) | (simp [D.shp] at h; done)
/-- a tuple of points, told as points -/
def ptT : D → Option Pt
  | .tup [.int a, .int b] => some (a, b)
  | _ => none
def picT : D → Option Pic
  | .tup xs => rdAll ptT xs
  | _ => none
theorem ptT_some {d : D} {p : Pt} (h : ptT d = some p) : d = en p := by
  unfold ptT at h
  split at h
  · cases h; rfl
  · cases h
theorem ptT_cell (d : D) : (ptT d).isSome = isCellB d := by
  unfold ptT
  split
  · rfl
  · rename_i h
    cases d with
    | tup xs =>
      match xs with
      | [] => rfl
      | [_] => rfl
      | [a, b] => cases a <;> cases b <;> first | rfl | exact absurd rfl (h _ _)
      | _ :: _ :: _ :: _ => rfl
    | _ => rfl
theorem rdAll_ptT : ∀ {xs : List D} {l : Pic}, rdAll ptT xs = some l → xs = l.map en
  | [], _, h => by cases h; rfl
  | x :: xs, _, h => by
    obtain ⟨p, l', rfl, h1, h2⟩ := rdAll_cons h
    rw [ptT_some h1, rdAll_ptT h2]; rfl
theorem rdAll_all : ∀ (xs : List D), (rdAll ptT xs).isSome = xs.all isCellB
  | [] => rfl
  | x :: xs => by
    rw [List.all_cons, ← ptT_cell, ← rdAll_all xs]
    cases h1 : ptT x with
    | none => rw [rdAll_no1 h1]; rfl
    | some p =>
      cases h2 : rdAll ptT xs with
      | none => rw [rdAll_no2 h2]; rfl
      | some l => rw [rdAll_mk h1 h2]; rfl
def risB {α : Type} [En α] : List α → Bool
  | a :: b :: l => En.lt a b && risB (b :: l)
  | _ => true
theorem risB_iff {α : Type} [En α] : ∀ {l : List α}, risB l = true ↔ Ris l
  | [] => by simp [risB, Ris]
  | [a] => by simp [risB, Ris]
  | a :: b :: l => by
    rw [show risB (a :: b :: l) = (En.lt a b && risB (b :: l)) from rfl, Bool.and_eq_true, risB_iff (l := b :: l)]
    constructor
    · rintro ⟨h1, h2⟩
      refine List.pairwise_cons.mpr ⟨fun c hc => ?_, h2⟩
      rcases List.mem_cons.mp hc with rfl | hc
      · exact h1
      · exact En.trans _ _ _ h1 ((List.pairwise_cons.mp h2).1 c hc)
    · intro h
      have h' := List.pairwise_cons.mp h
      exact ⟨h'.1 b (List.mem_cons_self ..), h'.2⟩
theorem zip_ris {α : Type} [En α] : ∀ (l : List α), zipD (l.map en) ((l.drop 1).map en) = (l.zip (l.drop 1)).map fun p => .tupw [en p.1, en p.2]
  | [] => rfl
  | [a] => rfl
  | a :: b :: l => by
    have := zip_ris (b :: l)
    show D.tupw [en a, en b] :: zipD ((b :: l).map en) (l.map en) = _
    rw [show (l.map en : List D) = ((b :: l).drop 1).map en from rfl, this]; rfl
theorem all_ris {α : Type} [En α] : ∀ (l : List α), ((l.zip (l.drop 1)).map fun p => En.lt p.1 p.2).all id = risB l
  | [] => rfl
  | [a] => rfl
  | a :: b :: l => by
    have := all_ris (b :: l)
    rw [show risB (a :: b :: l) = (En.lt a b && risB (b :: l)) from rfl, ← this]; rfl
theorem cut_tail {α : Type} (l : List α) : cutD l (some 1) none = l.drop 1 := by
  unfold cutD
  rw [show (some (1 : Int)) = some ((1 : Nat) : Int) from rfl, HT.sIx_nat, HT.sIx_none]
  cases l with
  | nil => rfl
  | cons a l => simp
theorem E_rises {α : Type} [En α] (lt : ∀ (S : Store) (a b : α), gLtA S (en a) (en b) = some (.bl (En.lt a b))) {S : Store} {d : D} {l : List α} (hd : rdSeq d = some (l.map en)) : F_rises [d] S = .ok (.bl (risB l)) S := by
  rw [U_rises]
  unfold B_rises
  have go : compF (gTu 2 (gsCons (gNm 1) (gsCons (gNm 2) gsNil))) dYes (dOp gLtA (dVar 1) (dVar 2)) [some d, none, none] (zipD (l.map en) ((l.drop 1).map en)) S = .ok (((l.zip (l.drop 1)).map fun p => En.lt p.1 p.2).map D.bl) S := by
    rw [zip_ris, List.map_map]
    exact compF_enA fun p _ => one_yes rfl (by simp -implicitDefEqProofs only [ev_Blk, ek_blkNx, ek_blkRt, ek_blkBk, ek_blkCt, frz_nil, frz_some, frz_none, frz_int, frz_bl, frz_str, frz_non, frz_tup, frz_lst, frz_set, frz_dct, ev_FzD, ev_MuD, ek_dctF, ek_dctM, ev_Emp, ev_CallD, ek_CallD, ev_optD, ev_Met, ek_Met, ek_Met2, isDct_dct, ev_RevA, ek_RevAL, ek_RevAT, ev_RevN, ek_Rev, ev_Star, ek_StarL, ek_StarT, ek_Star2, ev_ltI, ek_Op, ek_Op2, ek_Un, ek_AndT, ek_AndF, ek_OrT, ek_OrF, ek_Not, ek_IfT, ek_IfF, ek_Cons, ek_Cons2, ek_Fz, ek_Mu, ek_Call, ek_CallN, ek_AddN, ek_AddN2, ek_Sl, ek_Sl2, ek_Sl3, ek_SlN, ek_SlN2, ek_SlN3, ek_FnK, ek_FnK2, ek_Len, ek_Asg, ek_Ret, ek_SIfT, ek_SIfF, ek_Drop, ek_Set, ek_Set2, ek_Set3, ek_OrB, ek_OrBT, ek_OrBF, ek_AndB, ek_AndBT, ek_AndBF, ek_NotB, ek_NotB2, ev_App, ev_Pop, ev_opt, ev_C, ev_Var, ev_Op, ev_Un, ev_Test, ev_test, ev_AndT, ev_OrT, ev_NotT, ev_If, ev_Truth, ev_truB, ev_truI, ev_truL, ev_truT, ev_truN, ev_OrB, ev_AndB, ev_NotB, ev_Nil, ev_Cons, ev_Tup, ev_Chk, ev_Fz, ev_Mu, ev_Call, ev_CallN, ev_optL, ev_AddN, ev_Isi, ev_oNone, ev_oSome, ev_oInt, ev_Sl, ev_SlN, ev_Fn, ev_FnK, ev_Len, ev_sNil, ev_Seq, ev_nx, ev_rt, ev_bk, ev_ct, ev_Asg, ev_nxO, ev_gNm, ev_gsNil, ev_gsCons, ev_Ret, ev_RetN, ev_sIf, ev_Drop, ev_Brk, ev_Cnt, ev_Par, ev_par2, ev_par3, ev_SetIx, ev_stO, ev_iSeq, ev_itL, ev_itT, ev_Ran1, ev_Ran2, ev_Enu, ev_enu, ev_Zip, ev_zipL, ev_zipT, ev_Comp, ev_fix, ev_Yes, ev_wipe0, ev_wipe, ev_For, ev_forF, ev_endRt, ev_endNx, ev_endM, ev_lvT, ev_lvL, ev_lvI, ev_lvB, ev_lvS, ev_lvN, ev_lvD, ev_addI, ev_subI, ev_negI, ev_eqI, ev_neI, ev_eqB, ev_neB, ev_cmpI, ev_isN, ev_isNotN, ev_lenL, ev_lenT, ev_tupL, ev_tupT, ev_lstL, ev_lstT, ev_int, ev_intB, ev_abs, ev_min2, ev_max2, ev_ixL, ev_ixT, Out.bind_ok, bindN_ok, Option.bind_some, List.set_cons_zero, List.set_cons_succ, List.getElem?_cons_zero, List.getElem?_cons_succ, ev_mk0, ev_mk1, ev_mk2, ev_mk3, ev_mk4, ev_ck0, ev_ck, Nat.zero_le, nr_int, nr_bl, nr_str, nr_non, nr_tup, nr_lst, En.nr, noRefs_nil, noRefs_cons, Bool.not_false, Bool.and_self, Bool.and_true, Bool.true_and, List.length_cons, List.length_nil, Nat.reduceAdd, Nat.reduceLeDiff, take_self, take_app, take_set, if_true, if_false, Bool.false_eq_true, Bool.not_true, atI_0, atI_1, ev_tu2, ev_tu2w, ev_tu2L, ev_tu3, ev_tu4, ev_pick0, ev_pick, List.nil_append, List.cons_append, lt]; rfl) rfl
  have hz : zipO [d, (match d with | .tup _ => D.tup ((l.drop 1).map en) | _ => D.lst ((l.drop 1).map en))] S = .ok (.fix (zipD (l.map en) ((l.drop 1).map en))) S := by
    cases d <;> first | (cases hd; rfl) | cases hd
  have hs : gSl S d (some 1) none = some (match d with | .tup _ => D.tup ((l.drop 1).map en) | _ => D.lst ((l.drop 1).map en)) := by
    cases d with
    | tup xs => cases hd; show some (D.tup (cutD (l.map en) (some 1) none)) = _; rw [cut_tail, List.map_drop]
    | lst xs => cases hd; show some (D.lst (cutD (l.map en) (some 1) none)) = _; rw [cut_tail, List.map_drop]
    | _ => cases hd
  simp -implicitDefEqProofs only [ev_Blk, ek_blkNx, ek_blkRt, ek_blkBk, ek_blkCt, frz_nil, frz_some, frz_none, frz_int, frz_bl, frz_str, frz_non, frz_tup, frz_lst, frz_set, frz_dct, ev_FzD, ev_MuD, ek_dctF, ek_dctM, ev_Emp, ev_CallD, ek_CallD, ev_optD, ev_Met, ek_Met, ek_Met2, isDct_dct, ev_RevA, ek_RevAL, ek_RevAT, ev_RevN, ek_Rev, ev_Star, ek_StarL, ek_StarT, ek_Star2, ev_ltI, ek_Op, ek_Op2, ek_Un, ek_AndT, ek_AndF, ek_OrT, ek_OrF, ek_Not, ek_IfT, ek_IfF, ek_Cons, ek_Cons2, ek_Fz, ek_Mu, ek_Call, ek_CallN, ek_AddN, ek_AddN2, ek_Sl, ek_Sl2, ek_Sl3, ek_SlN, ek_SlN2, ek_SlN3, ek_FnK, ek_FnK2, ek_Len, ek_Asg, ek_Ret, ek_SIfT, ek_SIfF, ek_Drop, ek_Set, ek_Set2, ek_Set3, ek_OrB, ek_OrBT, ek_OrBF, ek_AndB, ek_AndBT, ek_AndBF, ek_NotB, ek_NotB2, ev_App, ev_Pop, ev_opt, ev_C, ev_Var, ev_Op, ev_Un, ev_Test, ev_test, ev_AndT, ev_OrT, ev_NotT, ev_If, ev_Truth, ev_truB, ev_truI, ev_truL, ev_truT, ev_truN, ev_OrB, ev_AndB, ev_NotB, ev_Nil, ev_Cons, ev_Tup, ev_Chk, ev_Fz, ev_Mu, ev_Call, ev_CallN, ev_optL, ev_AddN, ev_Isi, ev_oNone, ev_oSome, ev_oInt, ev_Sl, ev_SlN, ev_Fn, ev_FnK, ev_Len, ev_sNil, ev_Seq, ev_nx, ev_rt, ev_bk, ev_ct, ev_Asg, ev_nxO, ev_gNm, ev_gsNil, ev_gsCons, ev_Ret, ev_RetN, ev_sIf, ev_Drop, ev_Brk, ev_Cnt, ev_Par, ev_par2, ev_par3, ev_SetIx, ev_stO, ev_iSeq, ev_itL, ev_itT, ev_Ran1, ev_Ran2, ev_Enu, ev_enu, ev_Zip, ev_zipL, ev_zipT, ev_Comp, ev_fix, ev_Yes, ev_wipe0, ev_wipe, ev_For, ev_forF, ev_endRt, ev_endNx, ev_endM, ev_lvT, ev_lvL, ev_lvI, ev_lvB, ev_lvS, ev_lvN, ev_lvD, ev_addI, ev_subI, ev_negI, ev_eqI, ev_neI, ev_eqB, ev_neB, ev_cmpI, ev_isN, ev_isNotN, ev_lenL, ev_lenT, ev_tupL, ev_tupT, ev_lstL, ev_lstT, ev_int, ev_intB, ev_abs, ev_min2, ev_max2, ev_ixL, ev_ixT, Out.bind_ok, bindN_ok, Option.bind_some, List.set_cons_zero, List.set_cons_succ, List.getElem?_cons_zero, List.getElem?_cons_succ, ev_mk0, ev_mk1, ev_mk2, ev_mk3, ev_mk4, ev_ck0, ev_ck, Nat.zero_le, nr_int, nr_bl, nr_str, nr_non, nr_tup, nr_lst, En.nr, noRefs_nil, noRefs_cons, Bool.not_false, Bool.and_self, Bool.and_true, Bool.true_and, List.length_cons, List.length_nil, Nat.reduceAdd, Nat.reduceLeDiff, take_self, take_app, take_set, if_true, if_false, Bool.false_eq_true, Bool.not_true, atI_0, atI_1, ev_tu2, ev_tu2w, ev_tu2L, ev_tu3, ev_tu4, ev_pick0, ev_pick, List.nil_append, List.cons_append, hs, hz, go, all_en, all_ris]
theorem lt_ptD (S : Store) (a b : Pt) : gLtA S (en a) (en b) = some (.bl (En.lt a b)) := by
  show (if D.shps [D.int a.1, .int a.2] 50 && D.shps [D.int b.1, .int b.2] 50 && PySem.W.alike (D.tup [.int a.1, .int a.2]).toPy (D.tup [.int b.1, .int b.2]).toPy then some (D.bl (ltDs [.int a.1, .int a.2] [.int b.1, .int b.2])) else none) = _
  have e : PySem.W.alike (D.tup [.int a.1, .int a.2]).toPy (D.tup [.int b.1, .int b.2]).toPy = true := by simp [D.toPy, D.toPys, PySem.W.alike, PySem.W.alikeAll]
  rw [e]
  exact congrArg (fun z => some (D.bl z)) (En.lt_en a b)
theorem cells_comp {S : Store} {n : Nat} {xs : List D} {i : Nat} {r : Sl} (hx : D.shps xs n = true) (hi : i < r.length) : compF (gNm i) dYes (dFn F_is_cell (dCons (dVar i) dNil)) r xs S = .ok ((xs.map isCellB).map D.bl) S := by
  rw [List.map_map]
  refine compF_all fun x m => one_yes rfl ?_ rfl
  simp -implicitDefEqProofs only [ev_Blk, ek_blkNx, ek_blkRt, ek_blkBk, ek_blkCt, frz_nil, frz_some, frz_none, frz_int, frz_bl, frz_str, frz_non, frz_tup, frz_lst, frz_set, frz_dct, ev_FzD, ev_MuD, ek_dctF, ek_dctM, ev_Emp, ev_CallD, ek_CallD, ev_optD, ev_Met, ek_Met, ek_Met2, isDct_dct, ev_RevA, ek_RevAL, ek_RevAT, ev_RevN, ek_Rev, ev_Star, ek_StarL, ek_StarT, ek_Star2, ev_ltI, ek_Op, ek_Op2, ek_Un, ek_AndT, ek_AndF, ek_OrT, ek_OrF, ek_Not, ek_IfT, ek_IfF, ek_Cons, ek_Cons2, ek_Fz, ek_Mu, ek_Call, ek_CallN, ek_AddN, ek_AddN2, ek_Sl, ek_Sl2, ek_Sl3, ek_SlN, ek_SlN2, ek_SlN3, ek_FnK, ek_FnK2, ek_Len, ek_Asg, ek_Ret, ek_SIfT, ek_SIfF, ek_Drop, ek_Set, ek_Set2, ek_Set3, ek_OrB, ek_OrBT, ek_OrBF, ek_AndB, ek_AndBT, ek_AndBF, ek_NotB, ek_NotB2, ev_App, ev_Pop, ev_opt, ev_C, ev_Var, ev_Op, ev_Un, ev_Test, ev_test, ev_AndT, ev_OrT, ev_NotT, ev_If, ev_Truth, ev_truB, ev_truI, ev_truL, ev_truT, ev_truN, ev_OrB, ev_AndB, ev_NotB, ev_Nil, ev_Cons, ev_Tup, ev_Chk, ev_Fz, ev_Mu, ev_Call, ev_CallN, ev_optL, ev_AddN, ev_Isi, ev_oNone, ev_oSome, ev_oInt, ev_Sl, ev_SlN, ev_Fn, ev_FnK, ev_Len, ev_sNil, ev_Seq, ev_nx, ev_rt, ev_bk, ev_ct, ev_Asg, ev_nxO, ev_gNm, ev_gsNil, ev_gsCons, ev_Ret, ev_RetN, ev_sIf, ev_Drop, ev_Brk, ev_Cnt, ev_Par, ev_par2, ev_par3, ev_SetIx, ev_stO, ev_iSeq, ev_itL, ev_itT, ev_Ran1, ev_Ran2, ev_Enu, ev_enu, ev_Zip, ev_zipL, ev_zipT, ev_Comp, ev_fix, ev_Yes, ev_wipe0, ev_wipe, ev_For, ev_forF, ev_endRt, ev_endNx, ev_endM, ev_lvT, ev_lvL, ev_lvI, ev_lvB, ev_lvS, ev_lvN, ev_lvD, ev_addI, ev_subI, ev_negI, ev_eqI, ev_neI, ev_eqB, ev_neB, ev_cmpI, ev_isN, ev_isNotN, ev_lenL, ev_lenT, ev_tupL, ev_tupT, ev_lstL, ev_lstT, ev_int, ev_intB, ev_abs, ev_min2, ev_max2, ev_ixL, ev_ixT, Out.bind_ok, bindN_ok, Option.bind_some, List.set_cons_zero, List.set_cons_succ, List.getElem?_cons_zero, List.getElem?_cons_succ, ev_mk0, ev_mk1, ev_mk2, ev_mk3, ev_mk4, ev_ck0, ev_ck, Nat.zero_le, nr_int, nr_bl, nr_str, nr_non, nr_tup, nr_lst, En.nr, noRefs_nil, noRefs_cons, Bool.not_false, Bool.and_self, Bool.and_true, Bool.true_and, List.length_cons, List.length_nil, Nat.reduceAdd, Nat.reduceLeDiff, take_self, take_app, take_set, if_true, if_false, Bool.false_eq_true, Bool.not_true, atI_0, atI_1, ev_tu2, ev_tu2w, ev_tu2L, ev_tu3, ev_tu4, ev_pick0, ev_pick, List.nil_append, List.cons_append, List.getElem?_set_self hi, E_is_cell (shps_all.mp hx x m)]; rfl
def isPicB (d : D) : Bool := match picT d with
  | some l => risB l
  | none => false
theorem all_map {α : Type} (f : α → Bool) (l : List α) : (l.map f).all id = l.all f := by rw [List.all_map]; rfl
theorem E_is_picture {S : Store} {d : D} {n : Nat} (h : d.shp n = true) : F_is_picture [d] S = .ok (.bl (isPicB d)) S := by
  rw [U_is_picture]
  unfold B_is_picture isPicB
  cases d with
  | tup xs =>
    cases n with
    | zero => simp [D.shp] at h
    | succ n =>
      have hx : D.shps xs n = true := by simpa [D.shp] using h
      simp -implicitDefEqProofs only [ev_Blk, ek_blkNx, ek_blkRt, ek_blkBk, ek_blkCt, frz_nil, frz_some, frz_none, frz_int, frz_bl, frz_str, frz_non, frz_tup, frz_lst, frz_set, frz_dct, ev_FzD, ev_MuD, ek_dctF, ek_dctM, ev_Emp, ev_CallD, ek_CallD, ev_optD, ev_Met, ek_Met, ek_Met2, isDct_dct, ev_RevA, ek_RevAL, ek_RevAT, ev_RevN, ek_Rev, ev_Star, ek_StarL, ek_StarT, ek_Star2, ev_ltI, ek_Op, ek_Op2, ek_Un, ek_AndT, ek_AndF, ek_OrT, ek_OrF, ek_Not, ek_IfT, ek_IfF, ek_Cons, ek_Cons2, ek_Fz, ek_Mu, ek_Call, ek_CallN, ek_AddN, ek_AddN2, ek_Sl, ek_Sl2, ek_Sl3, ek_SlN, ek_SlN2, ek_SlN3, ek_FnK, ek_FnK2, ek_Len, ek_Asg, ek_Ret, ek_SIfT, ek_SIfF, ek_Drop, ek_Set, ek_Set2, ek_Set3, ek_OrB, ek_OrBT, ek_OrBF, ek_AndB, ek_AndBT, ek_AndBF, ek_NotB, ek_NotB2, ev_App, ev_Pop, ev_opt, ev_C, ev_Var, ev_Op, ev_Un, ev_Test, ev_test, ev_AndT, ev_OrT, ev_NotT, ev_If, ev_Truth, ev_truB, ev_truI, ev_truL, ev_truT, ev_truN, ev_OrB, ev_AndB, ev_NotB, ev_Nil, ev_Cons, ev_Tup, ev_Chk, ev_Fz, ev_Mu, ev_Call, ev_CallN, ev_optL, ev_AddN, ev_Isi, ev_oNone, ev_oSome, ev_oInt, ev_Sl, ev_SlN, ev_Fn, ev_FnK, ev_Len, ev_sNil, ev_Seq, ev_nx, ev_rt, ev_bk, ev_ct, ev_Asg, ev_nxO, ev_gNm, ev_gsNil, ev_gsCons, ev_Ret, ev_RetN, ev_sIf, ev_Drop, ev_Brk, ev_Cnt, ev_Par, ev_par2, ev_par3, ev_SetIx, ev_stO, ev_iSeq, ev_itL, ev_itT, ev_Ran1, ev_Ran2, ev_Enu, ev_enu, ev_Zip, ev_zipL, ev_zipT, ev_Comp, ev_fix, ev_Yes, ev_wipe0, ev_wipe, ev_For, ev_forF, ev_endRt, ev_endNx, ev_endM, ev_lvT, ev_lvL, ev_lvI, ev_lvB, ev_lvS, ev_lvN, ev_lvD, ev_addI, ev_subI, ev_negI, ev_eqI, ev_neI, ev_eqB, ev_neB, ev_cmpI, ev_isN, ev_isNotN, ev_lenL, ev_lenT, ev_tupL, ev_tupT, ev_lstL, ev_lstT, ev_int, ev_intB, ev_abs, ev_min2, ev_max2, ev_ixL, ev_ixT, Out.bind_ok, bindN_ok, Option.bind_some, List.set_cons_zero, List.set_cons_succ, List.getElem?_cons_zero, List.getElem?_cons_succ, ev_mk0, ev_mk1, ev_mk2, ev_mk3, ev_mk4, ev_ck0, ev_ck, Nat.zero_le, nr_int, nr_bl, nr_str, nr_non, nr_tup, nr_lst, En.nr, noRefs_nil, noRefs_cons, Bool.not_false, Bool.and_self, Bool.and_true, Bool.true_and, List.length_cons, List.length_nil, Nat.reduceAdd, Nat.reduceLeDiff, take_self, take_app, take_set, if_true, if_false, Bool.false_eq_true, Bool.not_true, atI_0, atI_1, ev_tu2, ev_tu2w, ev_tu2L, ev_tu3, ev_tu4, ev_pick0, ev_pick, List.nil_append, List.cons_append, isi_tuple h, cells_comp hx (show 1 < [some (D.tup xs), none].length by simp), all_en, all_map]
      show endD S.length ((if xs.all isCellB = true then _ else _ : Out D).bind kRet) = _
      rw [← rdAll_all]
      show _ = Out.ok (D.bl (match rdAll ptT xs with | some l => risB l | none => false)) S
      cases hr : rdAll ptT xs with
      | none => simp -implicitDefEqProofs only [Option.isSome_none, Bool.false_eq_true, if_false, ev_Blk, ek_blkNx, ek_blkRt, ek_blkBk, ek_blkCt, frz_nil, frz_some, frz_none, frz_int, frz_bl, frz_str, frz_non, frz_tup, frz_lst, frz_set, frz_dct, ev_FzD, ev_MuD, ek_dctF, ek_dctM, ev_Emp, ev_CallD, ek_CallD, ev_optD, ev_Met, ek_Met, ek_Met2, isDct_dct, ev_RevA, ek_RevAL, ek_RevAT, ev_RevN, ek_Rev, ev_Star, ek_StarL, ek_StarT, ek_Star2, ev_ltI, ek_Op, ek_Op2, ek_Un, ek_AndT, ek_AndF, ek_OrT, ek_OrF, ek_Not, ek_IfT, ek_IfF, ek_Cons, ek_Cons2, ek_Fz, ek_Mu, ek_Call, ek_CallN, ek_AddN, ek_AddN2, ek_Sl, ek_Sl2, ek_Sl3, ek_SlN, ek_SlN2, ek_SlN3, ek_FnK, ek_FnK2, ek_Len, ek_Asg, ek_Ret, ek_SIfT, ek_SIfF, ek_Drop, ek_Set, ek_Set2, ek_Set3, ek_OrB, ek_OrBT, ek_OrBF, ek_AndB, ek_AndBT, ek_AndBF, ek_NotB, ek_NotB2, ev_App, ev_Pop, ev_opt, ev_C, ev_Var, ev_Op, ev_Un, ev_Test, ev_test, ev_AndT, ev_OrT, ev_NotT, ev_If, ev_Truth, ev_truB, ev_truI, ev_truL, ev_truT, ev_truN, ev_OrB, ev_AndB, ev_NotB, ev_Nil, ev_Cons, ev_Tup, ev_Chk, ev_Fz, ev_Mu, ev_Call, ev_CallN, ev_optL, ev_AddN, ev_Isi, ev_oNone, ev_oSome, ev_oInt, ev_Sl, ev_SlN, ev_Fn, ev_FnK, ev_Len, ev_sNil, ev_Seq, ev_nx, ev_rt, ev_bk, ev_ct, ev_Asg, ev_nxO, ev_gNm, ev_gsNil, ev_gsCons, ev_Ret, ev_RetN, ev_sIf, ev_Drop, ev_Brk, ev_Cnt, ev_Par, ev_par2, ev_par3, ev_SetIx, ev_stO, ev_iSeq, ev_itL, ev_itT, ev_Ran1, ev_Ran2, ev_Enu, ev_enu, ev_Zip, ev_zipL, ev_zipT, ev_Comp, ev_fix, ev_Yes, ev_wipe0, ev_wipe, ev_For, ev_forF, ev_endRt, ev_endNx, ev_endM, ev_lvT, ev_lvL, ev_lvI, ev_lvB, ev_lvS, ev_lvN, ev_lvD, ev_addI, ev_subI, ev_negI, ev_eqI, ev_neI, ev_eqB, ev_neB, ev_cmpI, ev_isN, ev_isNotN, ev_lenL, ev_lenT, ev_tupL, ev_tupT, ev_lstL, ev_lstT, ev_int, ev_intB, ev_abs, ev_min2, ev_max2, ev_ixL, ev_ixT, Out.bind_ok, bindN_ok, Option.bind_some, List.set_cons_zero, List.set_cons_succ, List.getElem?_cons_zero, List.getElem?_cons_succ, ev_mk0, ev_mk1, ev_mk2, ev_mk3, ev_mk4, ev_ck0, ev_ck, Nat.zero_le, nr_int, nr_bl, nr_str, nr_non, nr_tup, nr_lst, En.nr, noRefs_nil, noRefs_cons, Bool.not_false, Bool.and_self, Bool.and_true, Bool.true_and, List.length_cons, List.length_nil, Nat.reduceAdd, Nat.reduceLeDiff, take_self, take_app, take_set, if_true, if_false, Bool.false_eq_true, Bool.not_true, atI_0, atI_1, ev_tu2, ev_tu2w, ev_tu2L, ev_tu3, ev_tu4, ev_pick0, ev_pick, List.nil_append, List.cons_append]
      | some l =>
        have e := rdAll_ptT hr
        simp -implicitDefEqProofs only [Option.isSome_some, if_true, ev_Blk, ek_blkNx, ek_blkRt, ek_blkBk, ek_blkCt, frz_nil, frz_some, frz_none, frz_int, frz_bl, frz_str, frz_non, frz_tup, frz_lst, frz_set, frz_dct, ev_FzD, ev_MuD, ek_dctF, ek_dctM, ev_Emp, ev_CallD, ek_CallD, ev_optD, ev_Met, ek_Met, ek_Met2, isDct_dct, ev_RevA, ek_RevAL, ek_RevAT, ev_RevN, ek_Rev, ev_Star, ek_StarL, ek_StarT, ek_Star2, ev_ltI, ek_Op, ek_Op2, ek_Un, ek_AndT, ek_AndF, ek_OrT, ek_OrF, ek_Not, ek_IfT, ek_IfF, ek_Cons, ek_Cons2, ek_Fz, ek_Mu, ek_Call, ek_CallN, ek_AddN, ek_AddN2, ek_Sl, ek_Sl2, ek_Sl3, ek_SlN, ek_SlN2, ek_SlN3, ek_FnK, ek_FnK2, ek_Len, ek_Asg, ek_Ret, ek_SIfT, ek_SIfF, ek_Drop, ek_Set, ek_Set2, ek_Set3, ek_OrB, ek_OrBT, ek_OrBF, ek_AndB, ek_AndBT, ek_AndBF, ek_NotB, ek_NotB2, ev_App, ev_Pop, ev_opt, ev_C, ev_Var, ev_Op, ev_Un, ev_Test, ev_test, ev_AndT, ev_OrT, ev_NotT, ev_If, ev_Truth, ev_truB, ev_truI, ev_truL, ev_truT, ev_truN, ev_OrB, ev_AndB, ev_NotB, ev_Nil, ev_Cons, ev_Tup, ev_Chk, ev_Fz, ev_Mu, ev_Call, ev_CallN, ev_optL, ev_AddN, ev_Isi, ev_oNone, ev_oSome, ev_oInt, ev_Sl, ev_SlN, ev_Fn, ev_FnK, ev_Len, ev_sNil, ev_Seq, ev_nx, ev_rt, ev_bk, ev_ct, ev_Asg, ev_nxO, ev_gNm, ev_gsNil, ev_gsCons, ev_Ret, ev_RetN, ev_sIf, ev_Drop, ev_Brk, ev_Cnt, ev_Par, ev_par2, ev_par3, ev_SetIx, ev_stO, ev_iSeq, ev_itL, ev_itT, ev_Ran1, ev_Ran2, ev_Enu, ev_enu, ev_Zip, ev_zipL, ev_zipT, ev_Comp, ev_fix, ev_Yes, ev_wipe0, ev_wipe, ev_For, ev_forF, ev_endRt, ev_endNx, ev_endM, ev_lvT, ev_lvL, ev_lvI, ev_lvB, ev_lvS, ev_lvN, ev_lvD, ev_addI, ev_subI, ev_negI, ev_eqI, ev_neI, ev_eqB, ev_neB, ev_cmpI, ev_isN, ev_isNotN, ev_lenL, ev_lenT, ev_tupL, ev_tupT, ev_lstL, ev_lstT, ev_int, ev_intB, ev_abs, ev_min2, ev_max2, ev_ixL, ev_ixT, Out.bind_ok, bindN_ok, Option.bind_some, List.set_cons_zero, List.set_cons_succ, List.getElem?_cons_zero, List.getElem?_cons_succ, ev_mk0, ev_mk1, ev_mk2, ev_mk3, ev_mk4, ev_ck0, ev_ck, Nat.zero_le, nr_int, nr_bl, nr_str, nr_non, nr_tup, nr_lst, En.nr, noRefs_nil, noRefs_cons, Bool.not_false, Bool.and_self, Bool.and_true, Bool.true_and, List.length_cons, List.length_nil, Nat.reduceAdd, Nat.reduceLeDiff, take_self, take_app, take_set, if_true, if_false, Bool.false_eq_true, Bool.not_true, atI_0, atI_1, ev_tu2, ev_tu2w, ev_tu2L, ev_tu3, ev_tu4, ev_pick0, ev_pick, List.nil_append, List.cons_append, E_rises lt_ptD (d := .tup xs) (l := l) (by rw [e]; rfl)]
  | _ => first | (simp -implicitDefEqProofs only [ev_Blk, ek_blkNx, ek_blkRt, ek_blkBk, ek_blkCt, frz_nil, frz_some, frz_none, frz_int, frz_bl, frz_str, frz_non, frz_tup, frz_lst, frz_set, frz_dct, ev_FzD, ev_MuD, ek_dctF, ek_dctM, ev_Emp, ev_CallD, ek_CallD, ev_optD, ev_Met, ek_Met, ek_Met2, isDct_dct, ev_RevA, ek_RevAL, ek_RevAT, ev_RevN, ek_Rev, ev_Star, ek_StarL, ek_StarT, ek_Star2, ev_ltI, ek_Op, ek_Op2, ek_Un, ek_AndT, ek_AndF, ek_OrT, ek_OrF, ek_Not, ek_IfT, ek_IfF, ek_Cons, ek_Cons2, ek_Fz, ek_Mu, ek_Call, ek_CallN, ek_AddN, ek_AddN2, ek_Sl, ek_Sl2, ek_Sl3, ek_SlN, ek_SlN2, ek_SlN3, ek_FnK, ek_FnK2, ek_Len, ek_Asg, ek_Ret, ek_SIfT, ek_SIfF, ek_Drop, ek_Set, ek_Set2, ek_Set3, ek_OrB, ek_OrBT, ek_OrBF, ek_AndB, ek_AndBT, ek_AndBF, ek_NotB, ek_NotB2, ev_App, ev_Pop, ev_opt, ev_C, ev_Var, ev_Op, ev_Un, ev_Test, ev_test, ev_AndT, ev_OrT, ev_NotT, ev_If, ev_Truth, ev_truB, ev_truI, ev_truL, ev_truT, ev_truN, ev_OrB, ev_AndB, ev_NotB, ev_Nil, ev_Cons, ev_Tup, ev_Chk, ev_Fz, ev_Mu, ev_Call, ev_CallN, ev_optL, ev_AddN, ev_Isi, ev_oNone, ev_oSome, ev_oInt, ev_Sl, ev_SlN, ev_Fn, ev_FnK, ev_Len, ev_sNil, ev_Seq, ev_nx, ev_rt, ev_bk, ev_ct, ev_Asg, ev_nxO, ev_gNm, ev_gsNil, ev_gsCons, ev_Ret, ev_RetN, ev_sIf, ev_Drop, ev_Brk, ev_Cnt, ev_Par, ev_par2, ev_par3, ev_SetIx, ev_stO, ev_iSeq, ev_itL, ev_itT, ev_Ran1, ev_Ran2, ev_Enu, ev_enu, ev_Zip, ev_zipL, ev_zipT, ev_Comp, ev_fix, ev_Yes, ev_wipe0, ev_wipe, ev_For, ev_forF, ev_endRt, ev_endNx, ev_endM, ev_lvT, ev_lvL, ev_lvI, ev_lvB, ev_lvS, ev_lvN, ev_lvD, ev_addI, ev_subI, ev_negI, ev_eqI, ev_neI, ev_eqB, ev_neB, ev_cmpI, ev_isN, ev_isNotN, ev_lenL, ev_lenT, ev_tupL, ev_tupT, ev_lstL, ev_lstT, ev_int, ev_intB, ev_abs, ev_min2, ev_max2, ev_ixL, ev_ixT, Out.bind_ok, bindN_ok, Option.bind_some, List.set_cons_zero, List.set_cons_succ, List.getElem?_cons_zero, List.getElem?_cons_succ, ev_mk0, ev_mk1, ev_mk2, ev_mk3, ev_mk4, ev_ck0, ev_ck, Nat.zero_le, nr_int, nr_bl, nr_str, nr_non, nr_tup, nr_lst, En.nr, noRefs_nil, noRefs_cons, Bool.not_false, Bool.and_self, Bool.and_true, Bool.true_and, List.length_cons, List.length_nil, Nat.reduceAdd, Nat.reduceLeDiff, take_self, take_app, take_set, if_true, if_false, Bool.false_eq_true, Bool.not_true, atI_0, atI_1, ev_tu2, ev_tu2w, ev_tu2L, ev_tu3, ev_tu4, ev_pick0, ev_pick, List.nil_append, List.cons_append, isi_tuple h]; rfl) | (simp [D.shp] at h; done)
theorem picT_en (l : Pic) : picT (en l) = some l := by
  show rdAll ptT (l.map en) = some l
  exact rdAll_map (rd := ptT) (en := (en : Pt → D)) (fun _ => rfl) l
end Ws
namespace Ws
open PySem L2
open En (en)
theorem fitsA_en {α : Type} [En α] {t : Tm} {l : List α} (h : ∀ a ∈ l, D.fits (en a) t = true) : D.fitsA (l.map en) t = true := by
  induction l with
  | nil => rfl
  | cons a l ih =>
    show (D.fits (en a) t && D.fitsA (l.map en) t) = true
    rw [h a (by simp), ih fun b m => h b (by simp [m])]; rfl
theorem fits_pt (p : Pt) : D.fits (en p) tmPt = true := rfl
theorem fits_pic (l : Pic) : D.fits (en l) tmPic = true := fitsA_en fun p _ => fits_pt p
theorem lt_picD (S : Store) (a b : Pic) : gLtA S (en a) (en b) = some (.bl (En.lt a b)) := by
  show (if D.shps (a.map en) 50 && D.shps (b.map en) 50 && PySem.W.alike (D.tup (a.map en)).toPy (D.tup (b.map en)).toPy then some (D.bl (ltDs (a.map en) (b.map en))) else none) = _
  have e : PySem.W.alike (D.tup (a.map (en : Pt → D))).toPy (D.tup (b.map (en : Pt → D))).toPy = true := fits_alike _ _ tmPic (fits_pic a) (fits_pic b)
  have s : ∀ l : Pic, D.shps (l.map (en : Pt → D)) 50 = true := fun l => shps_mono _ (by decide) (shps_en l)
  rw [e, s, s]
  exact congrArg (fun z => some (D.bl z)) (En.lt_en a b)
theorem in_seq {α : Type} [En α] (hd : En.dep α ≤ 59) {neg : Bool} {S : Store} {a : α} {l : List α} {d : D} (h : rdSeq d = some (l.map en)) : gInSeq neg S (en a) d = some (.bl (if neg then !l.contains a else l.contains a)) := by
  have h1 : D.shp (en a) 60 = true := shp_mono _ (by omega) (En.shp a)
  have h2 : D.shps (l.map (en : α → D)) 59 = true := shps_mono _ hd (shps_en l)
  cases d <;> first | cases h; done | skip
  · cases h
    show (if D.shp (en a) 60 && D.shps (l.map en) 59 then some (D.bl (if neg then !anyEq (en a) (l.map en) else anyEq (en a) (l.map en))) else none) = _
    rw [h1, h2, anyEq_en]; rfl
  · cases h
    show (if D.shp (en a) 60 && D.shps (l.map en) 59 then some (D.bl (if neg then !anyEq (en a) (l.map en) else anyEq (en a) (l.map en))) else none) = _
    rw [h1, h2, anyEq_en]; rfl
end Ws
namespace Ws
open PySem L2
open En (en)
/-- a window: rising, with its corner at 0, not empty -/
def Shp (l : Pic) : Prop := Ris l ∧ l ≠ [] ∧ minR l = 0 ∧ minC l = 0
theorem srt_le {α : Type} [En α] (l : List α) : (srs l).length ≤ l.length := by unfold srs; rw [srt_len]; exact ded_len l
def InP (l : Pic) : Prop := ∀ p ∈ l, 0 ≤ p.1 ∧ p.1 ≤ 3 ∧ 0 ≤ p.2 ∧ p.2 ≤ 1000010
instance (l : Pic) : Decidable (Ris l) := by unfold Ris; infer_instance
instance (l : Pic) : Decidable (Shp l) := by unfold Shp; infer_instance
instance (l : Pic) : Decidable (InP l) := by unfold InP; infer_instance
end Ws
namespace Ws
open PySem L2
open En (en)
theorem wp_loopE {α : Type} {e : α → D} {g : Dg} {B : Ds} {Q : Fl → Store → Prop} {l : List α} {r : Sl} {S : Store} (I : List α → Sl → Store → Prop) (h0 : I [] r S)
    (st : ∀ pre a post r S, l = pre ++ a :: post → I pre r S → ∃ r1, g (e a) r S = some r1 ∧ wp (B r1 S) fun fl S1 => match fl with
      | .nx r2 => I (pre ++ [a]) r2 S1
      | .ct r2 => I (pre ++ [a]) r2 S1
      | .bk r2 => Q (.nx r2) S1
      | .rt v => Q (.rt v) S1) (hq : ∀ r S, I l r S → Q (.nx r) S) : wp (loopF g B (l.map e) r S) Q := by
  have gen : ∀ (post pre : List α) (r : Sl) (S : Store), l = pre ++ post → I pre r S → wp (loopF g B (post.map e) r S) Q := by
    intro post
    induction post with
    | nil => intro pre r S hl h; rw [List.append_nil] at hl; exact ⟨_, _, rfl, hq _ _ (hl ▸ h)⟩
    | cons a post ih =>
      intro pre r S hl h
      obtain ⟨r1, e1, fl, S1, e2, h3⟩ := st pre a post r S hl h
      have go : ∀ r2 S1, I (pre ++ [a]) r2 S1 → wp (loopF g B (post.map e) r2 S1) Q := fun r2 S1 h4 => ih (pre ++ [a]) r2 S1 (by rw [hl, List.append_assoc]; rfl) h4
      show wp (loopF g B (e a :: post.map e) r S) Q
      unfold loopF
      rw [e1]
      simp only [e2, Out.bind_ok]
      cases fl with
      | nx r2 => exact go r2 S1 h3
      | ct r2 => exact go r2 S1 h3
      | bk r2 => exact ⟨_, _, rfl, h3⟩
      | rt v => exact ⟨_, _, rfl, h3⟩
  exact gen l [] r S rfl h0
section
variable {S : Store} {d e : D} {xs : List D}
theorem at_last : (S ++ [d])[S.length]? = some d := by rw [List.getElem?_append_right (Nat.le_refl _), Nat.sub_self]; rfl
theorem set_last : (S ++ [d]).set S.length e = S ++ [e] := by rw [List.set_append_right _ _ (Nat.le_refl _), Nat.sub_self]; rfl
theorem app_last (h : e.isRef = false) (hl : xs.length ≤ 999999) : appAt (S ++ [.lst xs]) (.ref S.length) e = some (S ++ [.lst (xs ++ [e])]) := by
  rw [app_ref at_last h hl, set_last]
theorem isL_last : isLref (S ++ [.lst xs]) (.ref S.length) = true := isL_ref at_last
theorem lv_last {ys : List D} : leave S.length (.ref S.length) (S ++ [.lst ys]) = .ok (.lst ys) S := by
  rw [leave_ref (Nat.lt_irrefl _) at_last, take_app]
theorem lv_lastD {ks vs : List D} : leave S.length (.ref S.length) (S ++ [.dct ks vs]) = .ok (.dct ks vs) S := by
  rw [leave_refD (Nat.lt_irrefl _) at_last, take_app]
theorem frz_last : frzD S.length (S ++ [d]) (.ref S.length) = d := frz_new (Nat.lt_irrefl _) at_last
end
section
variable {α : Type} [En α]
abbrev Al (α : Type) := List (α × D)
def aD (l : Al α) : D := .dct (l.map fun p => en p.1) (l.map fun p => p.2)
def aGet (l : Al α) (a : α) : Option D := (l.find? fun p => p.1 == a).map (·.2)
def aPut (l : Al α) (a : α) (v : D) : Al α := if (l.map (·.1)).contains a then l.map fun p => if p.1 == a then (p.1, v) else p else l ++ [(a, v)]
theorem aPut_nodup (l : Al α) (a : α) (v : D) (h : (l.map (·.1)).Nodup) : ((aPut l a v).map (·.1)).Nodup := by
  unfold aPut
  split
  · have : (l.map fun p => if (p.1 == a) = true then (p.1, v) else p).map (·.1) = l.map (·.1) := by
      rw [List.map_map]
      refine List.map_congr_left fun p _ => ?_
      show (if (p.1 == a) = true then (p.1, v) else p).1 = p.1
      split <;> rfl
    rw [this]; exact h
  · rename_i hc
    rw [List.map_append]
    refine List.nodup_append.mpr ⟨h, by simp, fun x hx y hy => ?_⟩
    simp only [List.map_cons, List.map_nil, List.mem_singleton] at hy
    subst hy
    exact fun e => hc (List.contains_iff_mem.mpr (e ▸ hx))
theorem aPut_len (l : Al α) (a : α) (v : D) : (aPut l a v).length ≤ l.length + 1 := by
  unfold aPut; split <;> simp
variable {S : Store}
theorem isDct_aD {l : Al α} : isDct S (aD l) = true := rfl
theorem isDct_last {l : Al α} : isDct (S ++ [aD l]) (.ref S.length) = true := isDct_ref at_last
end
end Ws
namespace Ws
open PySem L2
open En (en)
theorem pt_seq (p : Pt) : rdSeq (en p) = some [.int p.1, .int p.2] := rfl
theorem rdPt_seq {x : D} {p : Pt} (h : rdPt x = some p) : rdSeq x = some [.int p.1, .int p.2] := by
  obtain ⟨a, b, h1, h2, h3⟩ := rdPair_some h
  rw [h1, rdInt_some h2, rdInt_some h3]
end Ws
namespace Ws
open PySem L2
open En (en)
theorem fm_filter {α : Type} (f : α → Bool) (e : α → D) (l : List α) : (l.filterMap fun x => if f x then some (e x) else none) = (l.filter f).map e := by
  induction l with
  | nil => rfl
  | cons a l ih =>
    rw [List.filterMap_cons, List.filter_cons]
    cases h : f a with
    | true => simp [h, ih]
    | false => simp [h, ih]
end Ws
namespace Ws
open PySem L2
open En (en)
theorem wp_compE {α : Type} {e : α → D} {g : Dg} {t : Dt} {f : De} {r : Sl} {Q : List D → Store → Prop} {l : List α} {S : Store} (I : List α → List D → Store → Prop) (h0 : I [] [] S)
    (st : ∀ pre a post acc S, l = pre ++ a :: post → I pre acc S → wp (oneC g t f r (e a) S) fun o S1 => I (pre ++ [a]) (acc ++ o.toList) S1) (hq : ∀ acc S, I l acc S → Q acc S) : wp (compF g t f r (l.map e) S) Q := by
  have gen : ∀ (post pre : List α) (acc : List D) (S : Store), l = pre ++ post → I pre acc S → ∃ ys S', compF g t f r (post.map e) S = .ok ys S' ∧ I l (acc ++ ys) S' := by
    intro post
    induction post with
    | nil => intro pre acc S hl h; rw [List.append_nil] at hl; exact ⟨[], S, rfl, by rw [List.append_nil, hl]; exact h⟩
    | cons a post ih =>
      intro pre acc S hl h
      obtain ⟨o, S1, e1, h1⟩ := st pre a post acc S hl h
      obtain ⟨ys, S', e2, h2⟩ := ih (pre ++ [a]) (acc ++ o.toList) S1 (by rw [hl, List.append_assoc]; rfl) h1
      exact ⟨o.toList ++ ys, S', compF_cons e1 e2, by rw [← List.append_assoc]; exact h2⟩
  obtain ⟨ys, S', e1, h1⟩ := gen l [] [] S rfl h0
  exact ⟨ys, S', e1, hq _ _ h1⟩
theorem eq_tnil {S : Store} {α : Type} [En α] (hd : En.dep α ≤ 57) (l : List α) : gEq S (en l) (.tup []) = some (.bl l.isEmpty) := by
  have h1 : D.shp (.tup (l.map en)) 60 = true := by
    show D.shps _ 59 = true
    exact shps_mono _ (by omega) (shps_en _)
  show (if D.shp (.tup (l.map en)) 60 && D.shp (.tup []) 60 then some (D.bl (D.eqvs (l.map en) [])) else none) = _
  rw [h1]
  cases l with
  | nil => rfl
  | cons a l => simp [D.eqvs, D.shp, D.shps]
end Ws
namespace Ws
open PySem L2
section
variable {S : Store} {r : Sl} {f fo fi fe : De} {g : Int → Int → Int} {i : Nat} {a b z y : Int} {o d : D}
def kAugN (g : Int → Int → Int) (i : Nat) (r : Sl) (d e : D) (S : Store) : Out Fl := match d, e with
  | .int a, .int b => .ok (.nx (r.set i (some (.int (g a b))))) S
  | _, _ => .no
theorem ev_AugN : sAugN g i f r S = (match r[i]? with | some (some d) => (f r S).bind (kAugN g i r d) | _ => .no) := rfl
theorem ek_AugAdd : kAugN iAdd i r (.int a) (.int b) S = .ok (.nx (r.set i (some (.int (a + b))))) S := rfl
theorem ek_AugSub : kAugN iSub i r (.int a) (.int b) S = .ok (.nx (r.set i (some (.int (a - b))))) S := rfl
def kAugS3 (g : Int → Int → Int) (o i : D) (z : Int) (r : Sl) (e : D) (S : Store) : Out Fl := match e with
  | .int y => stO (setAt S o i (.int (g z y))) r
  | _ => .no
def kAugS2 (g : Int → Int → Int) (fe : De) (r : Sl) (o i : D) (S : Store) : Out Fl := match getAt S o i with
  | some z => (fe r S).bind (kAugS3 g o i z r)
  | none => .no
def kAugS1 (g : Int → Int → Int) (fi fe : De) (r : Sl) (o : D) (S : Store) : Out Fl := (fi r S).bind (kAugS2 g fe r o)
theorem ev_AugS : sAugS g fo fi fe r S = (fo r S).bind (kAugS1 g fi fe r) := by
  unfold sAugS kAugS1 kAugS2 kAugS3 stO
  rfl
theorem ek_AugS1 : kAugS1 g fi fe r o S = (fi r S).bind (kAugS2 g fe r o) := rfl
theorem ek_AugS3a {i : D} : kAugS3 iAdd o i z r (.int y) S = stO (setAt S o i (.int (z + y))) r := rfl
theorem ek_AugS3s {i : D} : kAugS3 iSub o i z r (.int y) S = stO (setAt S o i (.int (z - y))) r := rfl
end
section
variable {S : Store} {r : Sl} {F : Df} {fa : Da} {ys : List D}
def kSortK (F : Df) (ds : List D) (S : Store) : Out (List D) := match ds with
  | [d] => match view S d with
    | .lst ys => sortKO F ys S
    | _ => .no
  | _ => .no
theorem ev_SortK : dSortK F fa r S = (fa r S).bind (kSortK F) := rfl
theorem ek_SortK : kSortK F [.lst ys] S = sortKO F ys S := rfl
end
end Ws
namespace Ws
open PySem L2
open En (en)
end Ws
namespace Ws
open PySem L2
open En (en)
theorem rgI_lt : ∀ (n : Nat) (lo : Int), (rgI lo n).Pairwise (· < ·)
  | 0, _ => .nil
  | n + 1, lo => .cons (fun k hk => by have := mem_rgI.mp hk; omega) (rgI_lt n (lo + 1))
theorem grid_ris (h w : Nat) : Ris (gridP h w) := by
  unfold gridP
  refine List.pairwise_flatMap.mpr ⟨fun i _ => List.pairwise_map.mpr ((rgI_lt w 0).imp fun {a b} (hab : a < b) => (lt_pt (p := (i, a)) (q := (i, b))).mpr (.inr ⟨rfl, hab⟩)), ?_⟩
  refine (rgI_lt h 0).imp fun {i j} hij a ha b hb => ?_
  obtain ⟨x, -, rfl⟩ := List.mem_map.mp ha
  obtain ⟨y, -, rfl⟩ := List.mem_map.mp hb
  exact lt_pt.mpr (.inl hij)
end Ws
namespace Ws
open PySem L2
open En (en)
def kMulN2 (a b : D) (S : Store) : Out (List D) := optL (gMulN S a b) S
def kMulN (f2 : De) (r : Sl) (a : D) (S : Store) : Out (List D) := (f2 r S).bind (kMulN2 a)
section
variable {r : Sl} {S : Store} {f f1 f2 : De} {d a b : D}
theorem ev_MulN : dMulN f1 f2 r S = (f1 r S).bind (kMulN f2 r) := rfl
theorem ek_MulN : kMulN f2 r a S = (f2 r S).bind (kMulN2 a) := rfl
theorem ek_MulN2 : kMulN2 a b S = optL (gMulN S a b) S := rfl
theorem ev_RgL : dRgL f r S = (f r S).bind rgO := rfl
theorem ev_RgT : dRgT f r S = (f r S).bind rgT := rfl
theorem ev_AsgM {n : Nat} {fa : Da} {h : Dgs} : sAsgM n fa h r S = (fa r S).bind (asgMO n h r) := rfl
theorem ev_Comp2 {vs vs1 : List Nat} {it it1 : Di} {g g1 : Dg} {t t1 : Dt} {e : De} : dComp2 vs vs1 it g t it1 g1 t1 e r S = (it r S).bind (runC2 g t it1 vs1 g1 t1 e (wipeD r vs)) := rfl
theorem ev_fix2 {vs1 : List Nat} {it1 : Di} {g g1 : Dg} {t t1 : Dt} {e : De} {xs : List D} : runC2 g t it1 vs1 g1 t1 e r (.fix xs) S = (compF2 g t it1 vs1 g1 t1 e r xs S).bindN lim := rfl
theorem lim_ok {xs : List D} (h : xs.length ≤ 1000000) : lim xs S = .ok xs S := by unfold lim; rw [lineOk_of h]; rfl
end
end Ws
namespace Ws
open PySem L2
open En (en)
theorem Shp.self {s : Pic} (h : Shp s) : shape s = s := by
  unfold shape
  rw [h.2.2.1, h.2.2.2]
  have : mv (-0) (-0) = id := funext fun p => by refine Prod.ext ?_ ?_ <;> simp [mv]
  rw [this, List.map_id]
def ch : Nat → Nat → Nat
  | _, 0 => 1
  | 0, _ + 1 => 0
  | n + 1, k + 1 => ch n k + ch n (k + 1)
end Ws
namespace Ws
open PySem L2
open En (en)
end Ws
namespace Ws
open PySem L2
open En (en)
theorem eq_en {α : Type} [En α] (hd : En.dep α ≤ 60) {S : Store} (a b : α) : gEq S (en a) (en b) = some (.bl (a == b)) := by
  have ha := shp_mono _ hd (En.shp a)
  have hb := shp_mono _ hd (En.shp b)
  unfold gEq
  rw [shp60_noref ha, shp60_noref hb, ha, hb, En.eqv_en]; rfl
end Ws
namespace Ws
open PySem L2
open En (en)
end Ws
namespace Ws
open PySem L2
open En (en)
def lsO : Option D → List D
  | some (.lst l) => l
  | _ => []
section
variable {α : Type} [En α]
def grpA (A : Al α) (a : α) (v : D) : Al α := aPut A a (.lst (lsO (aGet A a) ++ [v]))
structure Good (n : Nat) (A : Al α) : Prop where
  nd : (A.map (·.1)).Nodup
  len : A.length ≤ n
  ls : ∀ e ∈ A, ∃ l, e.2 = .lst l ∧ l.length ≤ n
theorem Good.put {n : Nat} {a : α} {v : D} {A : Al α} (g : Good n A) : Good (n + 1) (grpA A a v) := by
  refine ⟨aPut_nodup _ _ _ g.nd, ?_, fun e he => ?_⟩
  · have := aPut_len A a (.lst (lsO (aGet A a) ++ [v])); have := g.len; unfold grpA; omega
  · have hq : (lsO (aGet A a)).length ≤ n := by
      cases h : aGet A a with
      | none => exact Nat.zero_le _
      | some d =>
        unfold aGet at h
        cases h2 : A.find? fun p => p.1 == a with
        | none => rw [h2] at h; cases h
        | some p =>
          rw [h2] at h
          obtain ⟨l, e1, e2⟩ := g.ls p (List.mem_of_find?_eq_some h2)
          cases h
          show (lsO (some p.2)).length ≤ n
          rw [e1]; exact e2
    have hh : e ∈ A ∨ e.2 = .lst (lsO (aGet A a) ++ [v]) := by
      unfold grpA aPut at he
      split at he
      · obtain ⟨p, hp, rfl⟩ := List.mem_map.mp he
        split
        · exact .inr rfl
        · exact .inl hp
      · rcases List.mem_append.mp he with h | h
        · exact .inl h
        · rw [List.mem_singleton.mp h]; exact .inr rfl
    rcases hh with h | h
    · obtain ⟨l, e1, e2⟩ := g.ls e h; exact ⟨l, e1, by omega⟩
    · exact ⟨_, h, by rw [List.length_append, List.length_singleton]; omega⟩
end
end Ws
namespace Ws
open PySem L2
open En (en)
def subP (q p : Pt) : Pt := (q.1 - p.1, q.2 - p.2)
end Ws
namespace Ws
open PySem L2
open En (en)
theorem mv_mv {a b a' b' : Int} {p : Pt} : mv a b (mv a' b' p) = mv (a' + a) (b' + b) p := by refine Prod.ext ?_ ?_ <;> simp only [mv] <;> omega
end Ws
namespace Ws
open PySem L2
open En (en)
def B_fallen : Ds := sRet (dCall gTuple (dCons (dFz (dCallN gSorted (dCons (dCall gSet (dCons (dFz (dComp [2, 3] (iSeq (dVar 0)) (gTu 2 (gsCons (gNm 2) (gsCons (gNm 3) gsNil))) dYes (dTup (dCons (dOp gMod (dVar 2) (dOp gIx (dVar 1) (dC (.int 0)))) (dCons (dOp gMod (dVar 3) (dOp gIx (dVar 1) (dC (.int 1)))) dNil))))) dNil)) dNil))) dNil))
def F_fallen : Df := dDef 2 2 B_fallen
theorem U_fallen {x0 x1 : D} {S : Store} : F_fallen [x0, x1] S = endD S.length (B_fallen [some x0, some x1, none, none] S) := dDef_eq (B := B_fallen) rfl
def B__law_rest : Ds := sRet (dCall gTuple (dCons (dFz (dCallN gSorted (dCons (dCall gSet (dCons (dFz (dComp [2] (iSeq (dVar 0)) (gNm 2) dYes (dTup (dCons (dOp gMod (dCall gInt (dCons (dOp gIx (dVar 2) (dC (.int 0))) dNil)) (dOp gIx (dVar 1) (dC (.int 0)))) (dCons (dOp gMod (dCall gInt (dCons (dOp gIx (dVar 2) (dC (.int 1))) dNil)) (dOp gIx (dVar 1) (dC (.int 1)))) dNil))))) dNil)) dNil))) dNil))
def F__law_rest : Df := dDef 2 1 B__law_rest
theorem U__law_rest {x0 x1 : D} {S : Store} : F__law_rest [x0, x1] S = endD S.length (B__law_rest [some x0, some x1, none] S) := dDef_eq (B := B__law_rest) rfl
def B__law_shift : Ds := sRet (dFn F__law_rest (dCons (dFz (dComp [3] (iSeq (dVar 0)) (gNm 3) dYes (dTup (dCons (dOp gAdd (dOp gIx (dVar 3) (dC (.int 0))) (dOp gIx (dVar 2) (dC (.int 0)))) (dCons (dOp gAdd (dOp gIx (dVar 3) (dC (.int 1))) (dOp gIx (dVar 2) (dC (.int 1)))) dNil))))) (dCons (dVar 1) dNil)))
def F__law_shift : Df := dDef 3 1 B__law_shift
theorem U__law_shift {x0 x1 x2 : D} {S : Store} : F__law_shift [x0, x1, x2] S = endD S.length (B__law_shift [some x0, some x1, some x2, none] S) := dDef_eq (B := B__law_shift) rfl
/-- a cell on the floor -/
def modP (R C : Int) (p : Pt) : Pt := (p.1 % R, p.2 % C)
/-- a picture that lies on the floor -/
structure OnF (R C : Int) (m : Pic) : Prop where
  nd : m.Nodup
  on : ∀ q ∈ m, 0 ≤ q.1 ∧ q.1 < R ∧ 0 ≤ q.2 ∧ q.2 < C
theorem mod_of {a r R : Int} (h0 : 0 ≤ r) (h1 : r < R) (k : Int) (e : a = r + R * k) : a % R = r := by
  rw [e, Int.add_mul_emod_self_left, Int.emod_eq_of_lt h0 h1]
theorem mod1 {q p c R : Int} (hq0 : 0 ≤ q) (hq1 : q < R) (hc0 : 0 ≤ c) (hc1 : c < R) : (q - p) % R = c ↔ q = (p + c) % R := by
  constructor
  · intro h
    have := Int.emod_add_mul_ediv (q - p) R
    exact (mod_of hq0 hq1 (-((q - p) / R)) (by rw [Int.mul_neg]; omega)).symm
  · intro h
    have := Int.emod_add_mul_ediv (p + c) R
    exact mod_of hc0 hc1 (-((p + c) / R)) (by rw [Int.mul_neg]; omega)
theorem sub_mod {R C : Int} {q p c : Pt} (hq : 0 ≤ q.1 ∧ q.1 < R ∧ 0 ≤ q.2 ∧ q.2 < C) (hc : 0 ≤ c.1 ∧ c.1 < R ∧ 0 ≤ c.2 ∧ c.2 < C) : modP R C (subP q p) = c ↔ q = modP R C (mv c.1 c.2 p) := by
  unfold modP subP mv
  rw [Prod.ext_iff, Prod.ext_iff]
  exact and_congr (mod1 hq.1 hq.2.1 hc.1 hc.2.1) (mod1 hq.2.2.1 hq.2.2.2 hc.2.2.1 hc.2.2.2)
theorem mod_on {R C : Int} (hR : 0 < R) (hC : 0 < C) (p : Pt) : 0 ≤ (modP R C p).1 ∧ (modP R C p).1 < R ∧ 0 ≤ (modP R C p).2 ∧ (modP R C p).2 < C :=
  ⟨Int.emod_nonneg _ (by omega), Int.emod_lt_of_pos _ hR, Int.emod_nonneg _ (by omega), Int.emod_lt_of_pos _ hC⟩
def rdFl (d : D) (R C : Int) : Prop := rdSeq d = some [.int R, .int C]
theorem E_fallen {S : Store} {dd df : D} {l : Pic} {R C : Int} (h : rdPic dd = some l) (hf : rdFl df R C) (hR : 0 < R) (hC : 0 < C) (hl : l.length ≤ 1000) : F_fallen [dd, df] S = .ok (en (srs (l.map (modP R C)))) S := by
  obtain ⟨xs, h1, h2⟩ := rdL_some h
  have hf : rdSeq df = some [.int R, .int C] := hf
  rw [U_fallen]
  unfold B_fallen
  have gc : compF (gTu 2 (gsCons (gNm 2) (gsCons (gNm 3) gsNil))) dYes (dTup (dCons (dOp gMod (dVar 2) (dOp gIx (dVar 1) (dC (.int 0)))) (dCons (dOp gMod (dVar 3) (dOp gIx (dVar 1) (dC (.int 1)))) dNil))) [some dd, some df, none, none] xs S = .ok ((l.map (modP R C)).map en) S := by
    rw [List.map_map]
    refine compF_rdA h2 fun x p _ hp => one_yes ((rd_tu (rdPt_some hp) rfl).trans rfl) ?_ rfl
    simp -implicitDefEqProofs only [ev_Blk, ek_blkNx, ek_blkRt, ek_blkBk, ek_blkCt, frz_nil, frz_some, frz_none, frz_int, frz_bl, frz_str, frz_non, frz_tup, frz_lst, frz_set, frz_dct, ev_FzD, ev_MuD, ek_dctF, ek_dctM, ev_Emp, ev_CallD, ek_CallD, ev_optD, ev_Met, ek_Met, ek_Met2, isDct_dct, ev_RevA, ek_RevAL, ek_RevAT, ev_RevN, ek_Rev, ev_Star, ek_StarL, ek_StarT, ek_Star2, ev_ltI, ek_Op, ek_Op2, ek_Un, ek_AndT, ek_AndF, ek_OrT, ek_OrF, ek_Not, ek_IfT, ek_IfF, ek_Cons, ek_Cons2, ek_Fz, ek_Mu, ek_Call, ek_CallN, ek_AddN, ek_AddN2, ek_Sl, ek_Sl2, ek_Sl3, ek_SlN, ek_SlN2, ek_SlN3, ek_FnK, ek_FnK2, ek_Len, ek_Asg, ek_Ret, ek_SIfT, ek_SIfF, ek_Drop, ek_Set, ek_Set2, ek_Set3, ek_OrB, ek_OrBT, ek_OrBF, ek_AndB, ek_AndBT, ek_AndBF, ek_NotB, ek_NotB2, ev_App, ev_Pop, ev_opt, ev_C, ev_Var, ev_Op, ev_Un, ev_Test, ev_test, ev_AndT, ev_OrT, ev_NotT, ev_If, ev_Truth, ev_truB, ev_truI, ev_truL, ev_truT, ev_truN, ev_OrB, ev_AndB, ev_NotB, ev_Nil, ev_Cons, ev_Tup, ev_Chk, ev_Fz, ev_Mu, ev_Call, ev_CallN, ev_optL, ev_AddN, ev_Isi, ev_oNone, ev_oSome, ev_oInt, ev_Sl, ev_SlN, ev_Fn, ev_FnK, ev_Len, ev_sNil, ev_Seq, ev_nx, ev_rt, ev_bk, ev_ct, ev_Asg, ev_nxO, ev_gNm, ev_gsNil, ev_gsCons, ev_Ret, ev_RetN, ev_sIf, ev_Drop, ev_Brk, ev_Cnt, ev_Par, ev_par2, ev_par3, ev_SetIx, ev_stO, ev_iSeq, ev_itL, ev_itT, ev_Ran1, ev_Ran2, ev_Enu, ev_enu, ev_Zip, ev_zipL, ev_zipT, ev_Comp, ev_fix, ev_Yes, ev_wipe0, ev_wipe, ev_For, ev_forF, ev_endRt, ev_endNx, ev_endM, ev_lvT, ev_lvL, ev_lvI, ev_lvB, ev_lvS, ev_lvN, ev_lvD, ev_addI, ev_subI, ev_negI, ev_eqI, ev_neI, ev_eqB, ev_neB, ev_cmpI, ev_isN, ev_isNotN, ev_lenL, ev_lenT, ev_tupL, ev_tupT, ev_lstL, ev_lstT, ev_int, ev_intB, ev_abs, ev_min2, ev_max2, ev_ixL, ev_ixT, Out.bind_ok, bindN_ok, Option.bind_some, List.set_cons_zero, List.set_cons_succ, List.getElem?_cons_zero, List.getElem?_cons_succ, ev_mk0, ev_mk1, ev_mk2, ev_mk3, ev_mk4, ev_ck0, ev_ck, Nat.zero_le, nr_int, nr_bl, nr_str, nr_non, nr_tup, nr_lst, En.nr, noRefs_nil, noRefs_cons, Bool.not_false, Bool.and_self, Bool.and_true, Bool.true_and, List.length_cons, List.length_nil, Nat.reduceAdd, Nat.reduceLeDiff, take_self, take_app, take_set, if_true, if_false, Bool.false_eq_true, Bool.not_true, atI_0, atI_1, ev_tu2, ev_tu2w, ev_tu2L, ev_tu3, ev_tu4, ev_pick0, ev_pick, List.nil_append, List.cons_append, frz_last, lv_last, lv_lastD, isDct_last, isDct_aD, ev_AugN, ek_AugAdd, ek_AugSub, ev_AugS, ek_AugS1, ek_AugS3a, ek_AugS3s, ev_SortK, ek_SortK, ev_MulN, ek_MulN, ek_MulN2, ev_RgL, ev_RgT, ev_Comp2, ev_fix2, ev_AsgM, rd_ix hf, ev_modI hR, ev_modI hC]
    rfl
  have hs := set_ptL (S := S) (l := l.map (modP R C)) (by rw [List.length_map]; exact hl)
  have hdl := ded_len (l.map (modP R C))
  rw [List.length_map] at hdl
  have hso := sorted_spt (S := S) (l := l.map (modP R C)) (by omega)
  simp -implicitDefEqProofs only [ev_Blk, ek_blkNx, ek_blkRt, ek_blkBk, ek_blkCt, frz_nil, frz_some, frz_none, frz_int, frz_bl, frz_str, frz_non, frz_tup, frz_lst, frz_set, frz_dct, ev_FzD, ev_MuD, ek_dctF, ek_dctM, ev_Emp, ev_CallD, ek_CallD, ev_optD, ev_Met, ek_Met, ek_Met2, isDct_dct, ev_RevA, ek_RevAL, ek_RevAT, ev_RevN, ek_Rev, ev_Star, ek_StarL, ek_StarT, ek_Star2, ev_ltI, ek_Op, ek_Op2, ek_Un, ek_AndT, ek_AndF, ek_OrT, ek_OrF, ek_Not, ek_IfT, ek_IfF, ek_Cons, ek_Cons2, ek_Fz, ek_Mu, ek_Call, ek_CallN, ek_AddN, ek_AddN2, ek_Sl, ek_Sl2, ek_Sl3, ek_SlN, ek_SlN2, ek_SlN3, ek_FnK, ek_FnK2, ek_Len, ek_Asg, ek_Ret, ek_SIfT, ek_SIfF, ek_Drop, ek_Set, ek_Set2, ek_Set3, ek_OrB, ek_OrBT, ek_OrBF, ek_AndB, ek_AndBT, ek_AndBF, ek_NotB, ek_NotB2, ev_App, ev_Pop, ev_opt, ev_C, ev_Var, ev_Op, ev_Un, ev_Test, ev_test, ev_AndT, ev_OrT, ev_NotT, ev_If, ev_Truth, ev_truB, ev_truI, ev_truL, ev_truT, ev_truN, ev_OrB, ev_AndB, ev_NotB, ev_Nil, ev_Cons, ev_Tup, ev_Chk, ev_Fz, ev_Mu, ev_Call, ev_CallN, ev_optL, ev_AddN, ev_Isi, ev_oNone, ev_oSome, ev_oInt, ev_Sl, ev_SlN, ev_Fn, ev_FnK, ev_Len, ev_sNil, ev_Seq, ev_nx, ev_rt, ev_bk, ev_ct, ev_Asg, ev_nxO, ev_gNm, ev_gsNil, ev_gsCons, ev_Ret, ev_RetN, ev_sIf, ev_Drop, ev_Brk, ev_Cnt, ev_Par, ev_par2, ev_par3, ev_SetIx, ev_stO, ev_iSeq, ev_itL, ev_itT, ev_Ran1, ev_Ran2, ev_Enu, ev_enu, ev_Zip, ev_zipL, ev_zipT, ev_Comp, ev_fix, ev_Yes, ev_wipe0, ev_wipe, ev_For, ev_forF, ev_endRt, ev_endNx, ev_endM, ev_lvT, ev_lvL, ev_lvI, ev_lvB, ev_lvS, ev_lvN, ev_lvD, ev_addI, ev_subI, ev_negI, ev_eqI, ev_neI, ev_eqB, ev_neB, ev_cmpI, ev_isN, ev_isNotN, ev_lenL, ev_lenT, ev_tupL, ev_tupT, ev_lstL, ev_lstT, ev_int, ev_intB, ev_abs, ev_min2, ev_max2, ev_ixL, ev_ixT, Out.bind_ok, bindN_ok, Option.bind_some, List.set_cons_zero, List.set_cons_succ, List.getElem?_cons_zero, List.getElem?_cons_succ, ev_mk0, ev_mk1, ev_mk2, ev_mk3, ev_mk4, ev_ck0, ev_ck, Nat.zero_le, nr_int, nr_bl, nr_str, nr_non, nr_tup, nr_lst, En.nr, noRefs_nil, noRefs_cons, Bool.not_false, Bool.and_self, Bool.and_true, Bool.true_and, List.length_cons, List.length_nil, Nat.reduceAdd, Nat.reduceLeDiff, take_self, take_app, take_set, if_true, if_false, Bool.false_eq_true, Bool.not_true, atI_0, atI_1, ev_tu2, ev_tu2w, ev_tu2L, ev_tu3, ev_tu4, ev_pick0, ev_pick, List.nil_append, List.cons_append, frz_last, lv_last, lv_lastD, isDct_last, isDct_aD, ev_AugN, ek_AugAdd, ek_AugSub, ev_AugS, ek_AugS1, ek_AugS3a, ek_AugS3s, ev_SortK, ek_SortK, ev_MulN, ek_MulN, ek_MulN2, ev_RgL, ev_RgT, ev_Comp2, ev_fix2, ev_AsgM, rd_it h1, gc, hs, hso]
  rfl
theorem law_rest {S : Store} {dd df : D} {l : Pic} {R C : Int} (h : rdPic dd = some l) (hf : rdFl df R C) (hR : 0 < R) (hC : 0 < C) (hl : l.length ≤ 1000) : F__law_rest [dd, df] S = .ok (en (srs (l.map (modP R C)))) S := by
  obtain ⟨xs, h1, h2⟩ := rdL_some h
  have hf : rdSeq df = some [.int R, .int C] := hf
  rw [U__law_rest]
  unfold B__law_rest
  have gc : compF (gNm 2) dYes (dTup (dCons (dOp gMod (dCall gInt (dCons (dOp gIx (dVar 2) (dC (.int 0))) dNil)) (dOp gIx (dVar 1) (dC (.int 0)))) (dCons (dOp gMod (dCall gInt (dCons (dOp gIx (dVar 2) (dC (.int 1))) dNil)) (dOp gIx (dVar 1) (dC (.int 1)))) dNil))) [some dd, some df, none] xs S = .ok ((l.map (modP R C)).map en) S := by
    rw [List.map_map]
    refine compF_rdA h2 fun x p _ hp => one_yes rfl ?_ rfl
    simp -implicitDefEqProofs only [ev_Blk, ek_blkNx, ek_blkRt, ek_blkBk, ek_blkCt, frz_nil, frz_some, frz_none, frz_int, frz_bl, frz_str, frz_non, frz_tup, frz_lst, frz_set, frz_dct, ev_FzD, ev_MuD, ek_dctF, ek_dctM, ev_Emp, ev_CallD, ek_CallD, ev_optD, ev_Met, ek_Met, ek_Met2, isDct_dct, ev_RevA, ek_RevAL, ek_RevAT, ev_RevN, ek_Rev, ev_Star, ek_StarL, ek_StarT, ek_Star2, ev_ltI, ek_Op, ek_Op2, ek_Un, ek_AndT, ek_AndF, ek_OrT, ek_OrF, ek_Not, ek_IfT, ek_IfF, ek_Cons, ek_Cons2, ek_Fz, ek_Mu, ek_Call, ek_CallN, ek_AddN, ek_AddN2, ek_Sl, ek_Sl2, ek_Sl3, ek_SlN, ek_SlN2, ek_SlN3, ek_FnK, ek_FnK2, ek_Len, ek_Asg, ek_Ret, ek_SIfT, ek_SIfF, ek_Drop, ek_Set, ek_Set2, ek_Set3, ek_OrB, ek_OrBT, ek_OrBF, ek_AndB, ek_AndBT, ek_AndBF, ek_NotB, ek_NotB2, ev_App, ev_Pop, ev_opt, ev_C, ev_Var, ev_Op, ev_Un, ev_Test, ev_test, ev_AndT, ev_OrT, ev_NotT, ev_If, ev_Truth, ev_truB, ev_truI, ev_truL, ev_truT, ev_truN, ev_OrB, ev_AndB, ev_NotB, ev_Nil, ev_Cons, ev_Tup, ev_Chk, ev_Fz, ev_Mu, ev_Call, ev_CallN, ev_optL, ev_AddN, ev_Isi, ev_oNone, ev_oSome, ev_oInt, ev_Sl, ev_SlN, ev_Fn, ev_FnK, ev_Len, ev_sNil, ev_Seq, ev_nx, ev_rt, ev_bk, ev_ct, ev_Asg, ev_nxO, ev_gNm, ev_gsNil, ev_gsCons, ev_Ret, ev_RetN, ev_sIf, ev_Drop, ev_Brk, ev_Cnt, ev_Par, ev_par2, ev_par3, ev_SetIx, ev_stO, ev_iSeq, ev_itL, ev_itT, ev_Ran1, ev_Ran2, ev_Enu, ev_enu, ev_Zip, ev_zipL, ev_zipT, ev_Comp, ev_fix, ev_Yes, ev_wipe0, ev_wipe, ev_For, ev_forF, ev_endRt, ev_endNx, ev_endM, ev_lvT, ev_lvL, ev_lvI, ev_lvB, ev_lvS, ev_lvN, ev_lvD, ev_addI, ev_subI, ev_negI, ev_eqI, ev_neI, ev_eqB, ev_neB, ev_cmpI, ev_isN, ev_isNotN, ev_lenL, ev_lenT, ev_tupL, ev_tupT, ev_lstL, ev_lstT, ev_int, ev_intB, ev_abs, ev_min2, ev_max2, ev_ixL, ev_ixT, Out.bind_ok, bindN_ok, Option.bind_some, List.set_cons_zero, List.set_cons_succ, List.getElem?_cons_zero, List.getElem?_cons_succ, ev_mk0, ev_mk1, ev_mk2, ev_mk3, ev_mk4, ev_ck0, ev_ck, Nat.zero_le, nr_int, nr_bl, nr_str, nr_non, nr_tup, nr_lst, En.nr, noRefs_nil, noRefs_cons, Bool.not_false, Bool.and_self, Bool.and_true, Bool.true_and, List.length_cons, List.length_nil, Nat.reduceAdd, Nat.reduceLeDiff, take_self, take_app, take_set, if_true, if_false, Bool.false_eq_true, Bool.not_true, atI_0, atI_1, ev_tu2, ev_tu2w, ev_tu2L, ev_tu3, ev_tu4, ev_pick0, ev_pick, List.nil_append, List.cons_append, frz_last, lv_last, lv_lastD, isDct_last, isDct_aD, ev_AugN, ek_AugAdd, ek_AugSub, ev_AugS, ek_AugS1, ek_AugS3a, ek_AugS3s, ev_SortK, ek_SortK, ev_MulN, ek_MulN, ek_MulN2, ev_RgL, ev_RgT, ev_Comp2, ev_fix2, ev_AsgM, rd_ix (rdPt_seq hp), rd_ix hf, ev_modI hR, ev_modI hC]
    rfl
  have hs := set_ptL (S := S) (l := l.map (modP R C)) (by rw [List.length_map]; exact hl)
  have hdl := ded_len (l.map (modP R C))
  rw [List.length_map] at hdl
  have hso := sorted_spt (S := S) (l := l.map (modP R C)) (by omega)
  simp -implicitDefEqProofs only [ev_Blk, ek_blkNx, ek_blkRt, ek_blkBk, ek_blkCt, frz_nil, frz_some, frz_none, frz_int, frz_bl, frz_str, frz_non, frz_tup, frz_lst, frz_set, frz_dct, ev_FzD, ev_MuD, ek_dctF, ek_dctM, ev_Emp, ev_CallD, ek_CallD, ev_optD, ev_Met, ek_Met, ek_Met2, isDct_dct, ev_RevA, ek_RevAL, ek_RevAT, ev_RevN, ek_Rev, ev_Star, ek_StarL, ek_StarT, ek_Star2, ev_ltI, ek_Op, ek_Op2, ek_Un, ek_AndT, ek_AndF, ek_OrT, ek_OrF, ek_Not, ek_IfT, ek_IfF, ek_Cons, ek_Cons2, ek_Fz, ek_Mu, ek_Call, ek_CallN, ek_AddN, ek_AddN2, ek_Sl, ek_Sl2, ek_Sl3, ek_SlN, ek_SlN2, ek_SlN3, ek_FnK, ek_FnK2, ek_Len, ek_Asg, ek_Ret, ek_SIfT, ek_SIfF, ek_Drop, ek_Set, ek_Set2, ek_Set3, ek_OrB, ek_OrBT, ek_OrBF, ek_AndB, ek_AndBT, ek_AndBF, ek_NotB, ek_NotB2, ev_App, ev_Pop, ev_opt, ev_C, ev_Var, ev_Op, ev_Un, ev_Test, ev_test, ev_AndT, ev_OrT, ev_NotT, ev_If, ev_Truth, ev_truB, ev_truI, ev_truL, ev_truT, ev_truN, ev_OrB, ev_AndB, ev_NotB, ev_Nil, ev_Cons, ev_Tup, ev_Chk, ev_Fz, ev_Mu, ev_Call, ev_CallN, ev_optL, ev_AddN, ev_Isi, ev_oNone, ev_oSome, ev_oInt, ev_Sl, ev_SlN, ev_Fn, ev_FnK, ev_Len, ev_sNil, ev_Seq, ev_nx, ev_rt, ev_bk, ev_ct, ev_Asg, ev_nxO, ev_gNm, ev_gsNil, ev_gsCons, ev_Ret, ev_RetN, ev_sIf, ev_Drop, ev_Brk, ev_Cnt, ev_Par, ev_par2, ev_par3, ev_SetIx, ev_stO, ev_iSeq, ev_itL, ev_itT, ev_Ran1, ev_Ran2, ev_Enu, ev_enu, ev_Zip, ev_zipL, ev_zipT, ev_Comp, ev_fix, ev_Yes, ev_wipe0, ev_wipe, ev_For, ev_forF, ev_endRt, ev_endNx, ev_endM, ev_lvT, ev_lvL, ev_lvI, ev_lvB, ev_lvS, ev_lvN, ev_lvD, ev_addI, ev_subI, ev_negI, ev_eqI, ev_neI, ev_eqB, ev_neB, ev_cmpI, ev_isN, ev_isNotN, ev_lenL, ev_lenT, ev_tupL, ev_tupT, ev_lstL, ev_lstT, ev_int, ev_intB, ev_abs, ev_min2, ev_max2, ev_ixL, ev_ixT, Out.bind_ok, bindN_ok, Option.bind_some, List.set_cons_zero, List.set_cons_succ, List.getElem?_cons_zero, List.getElem?_cons_succ, ev_mk0, ev_mk1, ev_mk2, ev_mk3, ev_mk4, ev_ck0, ev_ck, Nat.zero_le, nr_int, nr_bl, nr_str, nr_non, nr_tup, nr_lst, En.nr, noRefs_nil, noRefs_cons, Bool.not_false, Bool.and_self, Bool.and_true, Bool.true_and, List.length_cons, List.length_nil, Nat.reduceAdd, Nat.reduceLeDiff, take_self, take_app, take_set, if_true, if_false, Bool.false_eq_true, Bool.not_true, atI_0, atI_1, ev_tu2, ev_tu2w, ev_tu2L, ev_tu3, ev_tu4, ev_pick0, ev_pick, List.nil_append, List.cons_append, frz_last, lv_last, lv_lastD, isDct_last, isDct_aD, ev_AugN, ek_AugAdd, ek_AugSub, ev_AugS, ek_AugS1, ek_AugS3a, ek_AugS3s, ev_SortK, ek_SortK, ev_MulN, ek_MulN, ek_MulN2, ev_RgL, ev_RgT, ev_Comp2, ev_fix2, ev_AsgM, rd_it h1, gc, hs, hso]
  rfl
theorem law_shift {S : Store} {dd df dc : D} {l : Pic} {R C : Int} {c : Pt} (h : rdPic dd = some l) (hf : rdFl df R C) (hc : rdPt dc = some c) (hR : 0 < R) (hC : 0 < C) (hl : l.length ≤ 1000) : F__law_shift [dd, df, dc] S = .ok (en (srs (l.map fun p => modP R C (mv c.1 c.2 p)))) S := by
  obtain ⟨xs, h1, h2⟩ := rdL_some h
  rw [U__law_shift]
  unfold B__law_shift
  have gc : compF (gNm 3) dYes (dTup (dCons (dOp gAdd (dOp gIx (dVar 3) (dC (.int 0))) (dOp gIx (dVar 2) (dC (.int 0)))) (dCons (dOp gAdd (dOp gIx (dVar 3) (dC (.int 1))) (dOp gIx (dVar 2) (dC (.int 1)))) dNil))) [some dd, some df, some dc, none] xs S = .ok ((l.map (mv c.1 c.2)).map en) S := by
    rw [List.map_map]
    refine compF_rdA h2 fun x p _ hp => one_yes rfl ?_ rfl
    simp -implicitDefEqProofs only [ev_Blk, ek_blkNx, ek_blkRt, ek_blkBk, ek_blkCt, frz_nil, frz_some, frz_none, frz_int, frz_bl, frz_str, frz_non, frz_tup, frz_lst, frz_set, frz_dct, ev_FzD, ev_MuD, ek_dctF, ek_dctM, ev_Emp, ev_CallD, ek_CallD, ev_optD, ev_Met, ek_Met, ek_Met2, isDct_dct, ev_RevA, ek_RevAL, ek_RevAT, ev_RevN, ek_Rev, ev_Star, ek_StarL, ek_StarT, ek_Star2, ev_ltI, ek_Op, ek_Op2, ek_Un, ek_AndT, ek_AndF, ek_OrT, ek_OrF, ek_Not, ek_IfT, ek_IfF, ek_Cons, ek_Cons2, ek_Fz, ek_Mu, ek_Call, ek_CallN, ek_AddN, ek_AddN2, ek_Sl, ek_Sl2, ek_Sl3, ek_SlN, ek_SlN2, ek_SlN3, ek_FnK, ek_FnK2, ek_Len, ek_Asg, ek_Ret, ek_SIfT, ek_SIfF, ek_Drop, ek_Set, ek_Set2, ek_Set3, ek_OrB, ek_OrBT, ek_OrBF, ek_AndB, ek_AndBT, ek_AndBF, ek_NotB, ek_NotB2, ev_App, ev_Pop, ev_opt, ev_C, ev_Var, ev_Op, ev_Un, ev_Test, ev_test, ev_AndT, ev_OrT, ev_NotT, ev_If, ev_Truth, ev_truB, ev_truI, ev_truL, ev_truT, ev_truN, ev_OrB, ev_AndB, ev_NotB, ev_Nil, ev_Cons, ev_Tup, ev_Chk, ev_Fz, ev_Mu, ev_Call, ev_CallN, ev_optL, ev_AddN, ev_Isi, ev_oNone, ev_oSome, ev_oInt, ev_Sl, ev_SlN, ev_Fn, ev_FnK, ev_Len, ev_sNil, ev_Seq, ev_nx, ev_rt, ev_bk, ev_ct, ev_Asg, ev_nxO, ev_gNm, ev_gsNil, ev_gsCons, ev_Ret, ev_RetN, ev_sIf, ev_Drop, ev_Brk, ev_Cnt, ev_Par, ev_par2, ev_par3, ev_SetIx, ev_stO, ev_iSeq, ev_itL, ev_itT, ev_Ran1, ev_Ran2, ev_Enu, ev_enu, ev_Zip, ev_zipL, ev_zipT, ev_Comp, ev_fix, ev_Yes, ev_wipe0, ev_wipe, ev_For, ev_forF, ev_endRt, ev_endNx, ev_endM, ev_lvT, ev_lvL, ev_lvI, ev_lvB, ev_lvS, ev_lvN, ev_lvD, ev_addI, ev_subI, ev_negI, ev_eqI, ev_neI, ev_eqB, ev_neB, ev_cmpI, ev_isN, ev_isNotN, ev_lenL, ev_lenT, ev_tupL, ev_tupT, ev_lstL, ev_lstT, ev_int, ev_intB, ev_abs, ev_min2, ev_max2, ev_ixL, ev_ixT, Out.bind_ok, bindN_ok, Option.bind_some, List.set_cons_zero, List.set_cons_succ, List.getElem?_cons_zero, List.getElem?_cons_succ, ev_mk0, ev_mk1, ev_mk2, ev_mk3, ev_mk4, ev_ck0, ev_ck, Nat.zero_le, nr_int, nr_bl, nr_str, nr_non, nr_tup, nr_lst, En.nr, noRefs_nil, noRefs_cons, Bool.not_false, Bool.and_self, Bool.and_true, Bool.true_and, List.length_cons, List.length_nil, Nat.reduceAdd, Nat.reduceLeDiff, take_self, take_app, take_set, if_true, if_false, Bool.false_eq_true, Bool.not_true, atI_0, atI_1, ev_tu2, ev_tu2w, ev_tu2L, ev_tu3, ev_tu4, ev_pick0, ev_pick, List.nil_append, List.cons_append, frz_last, lv_last, lv_lastD, isDct_last, isDct_aD, ev_AugN, ek_AugAdd, ek_AugSub, ev_AugS, ek_AugS1, ek_AugS3a, ek_AugS3s, ev_SortK, ek_SortK, ev_MulN, ek_MulN, ek_MulN2, ev_RgL, ev_RgT, ev_Comp2, ev_fix2, ev_AsgM, rd_ix (rdPt_seq hp), rd_ix (rdPt_seq hc)]
    rfl
  have rp : rdPic (.lst ((l.map (mv c.1 c.2)).map en)) = some (l.map (mv c.1 c.2)) := rdAll_map rd_pt _
  have rs := law_rest (S := S) rp hf hR hC (by rw [List.length_map]; exact hl)
  have em : (l.map (mv c.1 c.2)).map (modP R C) = l.map fun p => modP R C (mv c.1 c.2 p) := by rw [List.map_map]; rfl
  rw [em] at rs
  have rs' : F__law_rest [.lst ((l.map (mv c.1 c.2)).map en), df] S = .ok (en (srs (l.map fun p => modP R C (mv c.1 c.2 p)))) S := rs
  simp -implicitDefEqProofs only [ev_Blk, ek_blkNx, ek_blkRt, ek_blkBk, ek_blkCt, frz_nil, frz_some, frz_none, frz_int, frz_bl, frz_str, frz_non, frz_tup, frz_lst, frz_set, frz_dct, ev_FzD, ev_MuD, ek_dctF, ek_dctM, ev_Emp, ev_CallD, ek_CallD, ev_optD, ev_Met, ek_Met, ek_Met2, isDct_dct, ev_RevA, ek_RevAL, ek_RevAT, ev_RevN, ek_Rev, ev_Star, ek_StarL, ek_StarT, ek_Star2, ev_ltI, ek_Op, ek_Op2, ek_Un, ek_AndT, ek_AndF, ek_OrT, ek_OrF, ek_Not, ek_IfT, ek_IfF, ek_Cons, ek_Cons2, ek_Fz, ek_Mu, ek_Call, ek_CallN, ek_AddN, ek_AddN2, ek_Sl, ek_Sl2, ek_Sl3, ek_SlN, ek_SlN2, ek_SlN3, ek_FnK, ek_FnK2, ek_Len, ek_Asg, ek_Ret, ek_SIfT, ek_SIfF, ek_Drop, ek_Set, ek_Set2, ek_Set3, ek_OrB, ek_OrBT, ek_OrBF, ek_AndB, ek_AndBT, ek_AndBF, ek_NotB, ek_NotB2, ev_App, ev_Pop, ev_opt, ev_C, ev_Var, ev_Op, ev_Un, ev_Test, ev_test, ev_AndT, ev_OrT, ev_NotT, ev_If, ev_Truth, ev_truB, ev_truI, ev_truL, ev_truT, ev_truN, ev_OrB, ev_AndB, ev_NotB, ev_Nil, ev_Cons, ev_Tup, ev_Chk, ev_Fz, ev_Mu, ev_Call, ev_CallN, ev_optL, ev_AddN, ev_Isi, ev_oNone, ev_oSome, ev_oInt, ev_Sl, ev_SlN, ev_Fn, ev_FnK, ev_Len, ev_sNil, ev_Seq, ev_nx, ev_rt, ev_bk, ev_ct, ev_Asg, ev_nxO, ev_gNm, ev_gsNil, ev_gsCons, ev_Ret, ev_RetN, ev_sIf, ev_Drop, ev_Brk, ev_Cnt, ev_Par, ev_par2, ev_par3, ev_SetIx, ev_stO, ev_iSeq, ev_itL, ev_itT, ev_Ran1, ev_Ran2, ev_Enu, ev_enu, ev_Zip, ev_zipL, ev_zipT, ev_Comp, ev_fix, ev_Yes, ev_wipe0, ev_wipe, ev_For, ev_forF, ev_endRt, ev_endNx, ev_endM, ev_lvT, ev_lvL, ev_lvI, ev_lvB, ev_lvS, ev_lvN, ev_lvD, ev_addI, ev_subI, ev_negI, ev_eqI, ev_neI, ev_eqB, ev_neB, ev_cmpI, ev_isN, ev_isNotN, ev_lenL, ev_lenT, ev_tupL, ev_tupT, ev_lstL, ev_lstT, ev_int, ev_intB, ev_abs, ev_min2, ev_max2, ev_ixL, ev_ixT, Out.bind_ok, bindN_ok, Option.bind_some, List.set_cons_zero, List.set_cons_succ, List.getElem?_cons_zero, List.getElem?_cons_succ, ev_mk0, ev_mk1, ev_mk2, ev_mk3, ev_mk4, ev_ck0, ev_ck, Nat.zero_le, nr_int, nr_bl, nr_str, nr_non, nr_tup, nr_lst, En.nr, noRefs_nil, noRefs_cons, Bool.not_false, Bool.and_self, Bool.and_true, Bool.true_and, List.length_cons, List.length_nil, Nat.reduceAdd, Nat.reduceLeDiff, take_self, take_app, take_set, if_true, if_false, Bool.false_eq_true, Bool.not_true, atI_0, atI_1, ev_tu2, ev_tu2w, ev_tu2L, ev_tu3, ev_tu4, ev_pick0, ev_pick, List.nil_append, List.cons_append, frz_last, lv_last, lv_lastD, isDct_last, isDct_aD, ev_AugN, ek_AugAdd, ek_AugSub, ev_AugS, ek_AugS1, ek_AugS3a, ek_AugS3s, ev_SortK, ek_SortK, ev_MulN, ek_MulN, ek_MulN2, ev_RgL, ev_RgT, ev_Comp2, ev_fix2, ev_AsgM, rd_it h1, gc, rs']
  rw [leave_nr (En.nr _), take_self]
end Ws
namespace Ws
open PySem L2
open En (en)
def passAt (st : Nat) (v : List Int) (i : Nat) : Int := if i / st % 2 = 1 then v.getD i 0 - v.getD (i - st) 0 else v.getD i 0
def pass (st : Nat) (v : List Int) : List Int := (List.range v.length).map (passAt st v)
end Ws
namespace Ws
open PySem L2
open En (en)
theorem mod_in {p x R : Int} : (p + x % R) % R = (p + x) % R := by
  have := Int.emod_add_mul_ediv x R
  have e : p + x % R = (p + x) + R * (-(x / R)) := by rw [Int.mul_neg]; omega
  rw [e, Int.add_mul_emod_self_left]
theorem modP_in {R C : Int} {p c : Pt} : modP R C (mv (modP R C c).1 (modP R C c).2 p) = modP R C (mv c.1 c.2 p) := Prod.ext mod_in mod_in
theorem modP_on {R C : Int} {c : Pt} (h : 0 ≤ c.1 ∧ c.1 < R ∧ 0 ≤ c.2 ∧ c.2 < C) : modP R C c = c := Prod.ext (Int.emod_eq_of_lt h.1 h.2.1) (Int.emod_eq_of_lt h.2.2.1 h.2.2.2)
theorem modP_mv {R C : Int} {a b : Int} {c : Pt} : modP R C (mv a b (modP R C c)) = modP R C (mv a b c) := by
  have h : ∀ q : Pt, mv a b q = mv q.1 q.2 (a, b) := fun q => Prod.ext (Int.add_comm _ _) (Int.add_comm _ _)
  rw [h, h, modP_in]
end Ws
namespace Ws
open PySem L2
open En (en)
section
variable {r : Sl} {S : Store} {f1 f2 f3 : De} {i j k : Int}
theorem ch_le_lt (h1 : f1 r S = .ok (.int i) S) (h2 : f2 r S = .ok (.int j) S) (h3 : f3 r S = .ok (.int k) S) : dCh gLe gLt f1 f2 f3 r S = .ok (.bl (decide (i ≤ j) && decide (j < k))) S := by
  unfold dCh
  rw [h1, Out.bind_ok]
  unfold kCh1
  rw [h2, Out.bind_ok]
  show (match some (D.bl (decide (i ≤ j))) with | some (.bl true) => (f3 r S).bind (kCh3 gLt (.int j)) | some (.bl false) => .ok (.bl false) S | _ => .no) = _
  cases decide (i ≤ j) with
  | false => rfl
  | true => simp only; rw [h3, Out.bind_ok]; rfl
variable {g : Dg} {t : Dt} {fd : Da} {vs : List Nat} {it : Di} {e : De} {x : D} {xs ys : List D}
theorem el_ok (h : e r S = .ok x S) (hn : x.isRef = false) : dEl e r S = .ok [x] S := by
  unfold dEl
  rw [h, bindN_ok]
  unfold kEl
  rw [hn]; rfl
theorem compG_rd {α : Type} {rd : D → Option α} {f : α → List D} : ∀ {ds : List D} {l : List α}, rdAll rd ds = some l → (∀ d a, a ∈ l → rd d = some a → ∃ r1, g d r S = some r1 ∧ t r1 S = .ok true S ∧ fd r1 S = .ok (f a) S) → compG g t fd r ds S = .ok (l.flatMap f) S
  | [], _, h, _ => by cases h; rfl
  | d :: ds, _, h, st => by
    obtain ⟨a, l', rfl, h1, h2⟩ := rdAll_cons h
    obtain ⟨r1, e1, e2, e3⟩ := st d a (List.mem_cons_self ..) h1
    have ih := compG_rd h2 fun d b m q => st d b (List.mem_cons_of_mem _ m) q
    show stepG g t fd r d (compG g t fd r ds) S = _
    unfold stepG
    rw [e1]
    simp only [e2, bindN_ok]
    unfold kGt
    rw [if_pos rfl, e3, bindN_ok]
    unfold kTail
    rw [ih, bindN_ok]
    rfl
theorem compG_en {α : Type} {en' : α → D} {f : α → List D} : ∀ {l : List α}, (∀ a ∈ l, ∃ r1, g (en' a) r S = some r1 ∧ t r1 S = .ok true S ∧ fd r1 S = .ok (f a) S) → compG g t fd r (l.map en') S = .ok (l.flatMap f) S
  | [], _ => rfl
  | a :: l, st => by
    obtain ⟨r1, e1, e2, e3⟩ := st a (List.mem_cons_self ..)
    have ih := compG_en (l := l) fun b m => st b (List.mem_cons_of_mem _ m)
    show stepG g t fd r (en' a) (compG g t fd r (l.map en')) S = _
    unfold stepG
    rw [e1]
    simp only [e2, bindN_ok]
    unfold kGt
    rw [if_pos rfl, e3, bindN_ok]
    unfold kTail
    rw [ih, bindN_ok]
    rfl
theorem cl_ok (h1 : it r S = .ok (.fix xs) S) (h2 : compG g t fd (wipeD r vs) xs S = .ok ys S) : dCl vs it g t fd r S = .ok ys S := by
  unfold dCl
  rw [h1, bindN_ok]
  exact h2
theorem cn_ok (h1 : it r S = .ok (.fix xs) S) (h2 : compG g t fd (wipeD r vs) xs S = .ok ys S) (hl : ys.length ≤ 1000000) : dCn vs it g t fd r S = .ok ys S := by
  unfold dCn
  rw [h1, Out.bind_ok]
  show (compG g t fd (wipeD r vs) xs S).bindN lim = _
  rw [h2, bindN_ok, lim_ok hl]
theorem ev_MinK {F : Df} {dfl : Bool} : dMinK F dfl f1 r S = (f1 r S).bind (kMinK F dfl) := rfl
def bstK {α β : Type} [En β] (k : α → β) (a : α) : List α → α
  | [] => a
  | x :: l => bstK k (if En.lt (k x) (k a) then x else a) l
theorem bst_mem {α β : Type} [En β] (k : α → β) : ∀ (l : List α) (a : α), bstK k a l = a ∨ bstK k a l ∈ l
  | [], a => .inl rfl
  | x :: l, a => by
    show bstK k _ l = a ∨ bstK k _ l ∈ x :: l
    rcases bst_mem k l (if En.lt (k x) (k a) then x else a) with h | h
    · rw [h]
      split
      · exact .inr (List.mem_cons_self ..)
      · exact .inl rfl
    · exact .inr (List.mem_cons_of_mem _ h)
theorem bst_le {α β : Type} [En β] (k : α → β) : ∀ (l : List α) (a : α), le (k (bstK k a l)) (k a) ∧ ∀ x ∈ l, le (k (bstK k a l)) (k x)
  | [], a => ⟨En.irr _, fun _ h => nomatch h⟩
  | x :: l, a => by
    obtain ⟨h1, h2⟩ := bst_le k l (if En.lt (k x) (k a) then x else a)
    show le (k (bstK k _ l)) _ ∧ ∀ y ∈ x :: l, le (k (bstK k _ l)) _
    have h3 : le (k (if En.lt (k x) (k a) then x else a)) (k a) ∧ le (k (if En.lt (k x) (k a) then x else a)) (k x) := by
      cases e : En.lt (k x) (k a) with
      | true => exact ⟨le_of_lt' e, En.irr _⟩
      | false => exact ⟨En.irr _, e⟩
    refine ⟨le_trans' h1 h3.1, fun y hy => ?_⟩
    rcases List.mem_cons.mp hy with rfl | hy
    · exact le_trans' h1 h3.2
    · exact h2 y hy
theorem minF_en {α β : Type} [En β] {F : Df} {en' : α → D} {k : α → β} (lt : ∀ (S : Store) (a b : β), gLtA S (en a) (en b) = some (.bl (En.lt a b))) : ∀ {l : List α} (a : α), (∀ x ∈ l, F [en' x] S = .ok (en (k x)) S) → minF F (l.map en') (some (en' a, en (k a))) S = .ok (some (en' (bstK k a l))) S
  | [], a, _ => rfl
  | x :: l, a, h => by
    show (F [en' x] S).bind (minK (minF F (l.map en')) (en' x) (some (en' a, en (k a)))) = _
    rw [h x (List.mem_cons_self ..), Out.bind_ok]
    unfold minK
    rw [if_neg (by rw [En.nr]; decide)]
    simp only [lt]
    have hr : ∀ y ∈ l, F [en' y] S = .ok (en (k y)) S := fun y m => h y (List.mem_cons_of_mem _ m)
    cases e : En.lt (k x) (k a) with
    | true =>
      rw [show bstK k a (x :: l) = bstK k x l by show bstK k _ l = _; rw [e]; rfl]
      exact minF_en lt x hr
    | false =>
      rw [show bstK k a (x :: l) = bstK k a l by show bstK k _ l = _; rw [e]; rfl]
      exact minF_en lt a hr
theorem minK_en {α β : Type} [En β] {F : Df} {en' : α → D} {k : α → β} {dfl : Bool} (lt : ∀ (S : Store) (a b : β), gLtA S (en a) (en b) = some (.bl (En.lt a b))) {a : α} {l : List α} (h : ∀ x ∈ a :: l, F [en' x] S = .ok (en (k x)) S) : kMinK F dfl (.lst ((a :: l).map en')) S = .ok (en' (bstK k a l)) S := by
  show (minF F ((a :: l).map en') none S).bind (minO dfl) = _
  have e : minF F ((a :: l).map en') none S = .ok (some (en' (bstK k a l))) S := by
    show (F [en' a] S).bind (minK (minF F (l.map en')) (en' a) none) = _
    rw [h a (List.mem_cons_self ..), Out.bind_ok]
    unfold minK
    rw [if_neg (by rw [En.nr]; decide)]
    exact minF_en lt a fun x m => h x (List.mem_cons_of_mem _ m)
  rw [e, Out.bind_ok]
  rfl
theorem id_en {α : Type} [En α] (a : α) : idF [en a] S = .ok (en a) S := rfl
/-- the least one is one alone -/
theorem bst_eq {α : Type} [En α] {a m : α} {l : List α} (hm : m ∈ a :: l) (h : ∀ x ∈ a :: l, le m x) : bstK (fun x => x) a l = m := by
  obtain ⟨h1, h2⟩ := bst_le (fun x : α => x) l a
  have hall : ∀ x ∈ a :: l, le (bstK (fun x => x) a l) x := fun x hx => by
    rcases List.mem_cons.mp hx with rfl | hx
    · exact h1
    · exact h2 x hx
  refine le_anti (hall m hm) (h _ ?_)
  rcases bst_mem (fun x : α => x) l a with e | e
  · rw [e]; exact List.mem_cons_self ..
  · exact List.mem_cons_of_mem _ e
end
end Ws
namespace Ws
open PySem L2
open En (en)
def B_is_floor : Ds := sSeq (sIf (dOrT (dNotT (dTruth (dIsi [.tuple] (dVar 0)))) (dTest (dOp gNe (dCall gLen (dCons (dVar 0) dNil)) (dC (.int 2))))) (sRet (dC (.bl false))) sNil) (sRet (dCall gAll (dCons (dFz (dComp [1] (iSeq (dVar 0)) (gNm 1) dYes (dAndB (dFn F_is_number (dCons (dVar 1) dNil)) (dOp gGt (dVar 1) (dC (.int 0)))))) dNil)))
def F_is_floor : Df := dDef 1 1 B_is_floor
def B_is_on : Ds := sRet (dAndB (dFn F_is_picture (dCons (dVar 1) dNil)) (dCall gAll (dCons (dFz (dComp [2, 3] (iSeq (dVar 1)) (gTu 2 (gsCons (gNm 2) (gsCons (gNm 3) gsNil))) dYes (dAndB (dCh gLe gLt (dC (.int 0)) (dVar 2) (dOp gIx (dVar 0) (dC (.int 0)))) (dCh gLe gLt (dC (.int 0)) (dVar 3) (dOp gIx (dVar 0) (dC (.int 1))))))) dNil)))
def F_is_on : Df := dDef 2 2 B_is_on
theorem U_is_on {x0 x1 : D} {S : Store} : F_is_on [x0, x1] S = endD S.length (B_is_on [some x0, some x1, none, none] S) := dDef_eq (B := B_is_on) rfl
def B_folded : Ds := sSeq (sAsg (dFn F_fallen (dCons (dVar 0) (dCons (dVar 1) dNil))) (gNm 2)) (sRet (dMinK idF false (dFz (dComp [3, 4] (iSeq (dVar 2)) (gTu 2 (gsCons (gNm 3) (gsCons (gNm 4) gsNil))) dYes (dFn F_fallen (dCons (dFn F_moved (dCons (dVar 2) (dCons (dUn gNeg (dVar 3)) (dCons (dUn gNeg (dVar 4)) dNil)))) (dCons (dVar 1) dNil)))))))
def F_folded : Df := dDef 2 3 B_folded
theorem U_folded {x0 x1 : D} {S : Store} : F_folded [x0, x1] S = endD S.length (B_folded [some x0, some x1, none, none, none] S) := dDef_eq (B := B_folded) rfl
def B_onto_itself : Ds := sSeq (sPar [2, 3] (dCons (dFn (F_tupled 16) (dCons (dVar 0) dNil)) (dCons (dMu (dChk dNil)) dNil))) (sSeq (sFor (iSeq (dVar 2)) (gTu 2 (gsCons (gNm 4) (gsCons (gNm 5) gsNil))) (sSeq (sPar [6, 7] (dCons (dOp gMod (dOp gSub (dVar 4) (dOp gIx (dOp gIx (dVar 2) (dC (.int 0))) (dC (.int 0)))) (dOp gIx (dVar 1) (dC (.int 0)))) (dCons (dOp gMod (dOp gSub (dVar 5) (dOp gIx (dOp gIx (dVar 2) (dC (.int 0))) (dC (.int 1)))) (dOp gIx (dVar 1) (dC (.int 1)))) dNil))) (sIf (dTest (dOp gEq (dFn F_fallen (dCons (dFn F_moved (dCons (dVar 2) (dCons (dVar 6) (dCons (dVar 7) dNil)))) (dCons (dVar 1) dNil))) (dVar 2))) (sDrop (dApp (dVar 3) (dCons (dTup (dCons (dVar 6) (dCons (dVar 7) dNil))) dNil))) sNil))) (sRet (dFz (dCallN gSorted (dCons (dVar 3) dNil)))))
def F_onto_itself : Df := dDef 2 6 B_onto_itself
theorem U_onto_itself {x0 x1 : D} {S : Store} : F_onto_itself [x0, x1] S = endD S.length (B_onto_itself [some x0, some x1, none, none, none, none, none, none] S) := dDef_eq (B := B_onto_itself) rfl
def B_laid : Ds := sRet (dCall gTuple (dCons (dFz (dCallN gSorted (dCons (dFz (dCn [4, 5, 6, 7] (iSeq (dVar 0)) (gTu 2 (gsCons (gNm 4) (gsCons (gNm 5) gsNil))) dYes (dCl [6, 7] (iRan1 (dCons (dVar 2) dNil)) (gNm 6) dYes (dCl [7] (iRan1 (dCons (dVar 3) dNil)) (gNm 7) dYes (dEl (dTup (dCons (dOp gAdd (dVar 4) (dOp gMul (dVar 6) (dOp gIx (dVar 1) (dC (.int 0))))) (dCons (dOp gAdd (dVar 5) (dOp gMul (dVar 7) (dOp gIx (dVar 1) (dC (.int 1))))) dNil)))))))) dNil))) dNil))
def F_laid : Df := dDef 4 4 B_laid
theorem U_laid {x0 x1 x2 x3 : D} {S : Store} : F_laid [x0, x1, x2, x3] S = endD S.length (B_laid [some x0, some x1, some x2, some x3, none, none, none, none] S) := dDef_eq (B := B_laid) rfl
def B__law_least : Ds := sRet (dMinK idF false (dFz (dComp [2] (iSeq (dFn F__law_grid (dCons (dOp gIx (dVar 1) (dC (.int 0))) (dCons (dOp gIx (dVar 1) (dC (.int 1))) dNil)))) (gNm 2) dYes (dFn F__law_shift (dCons (dVar 0) (dCons (dVar 1) (dCons (dVar 2) dNil)))))))
def F__law_least : Df := dDef 2 1 B__law_least
theorem U__law_least {x0 x1 : D} {S : Store} : F__law_least [x0, x1] S = endD S.length (B__law_least [some x0, some x1, none] S) := dDef_eq (B := B__law_least) rfl
theorem lv_enL {α : Type} [En α] {S : Store} (l : List α) : leave S.length (en l) S = .ok (en l) S := by
  show leave S.length (.tup (l.map en)) S = _
  rw [ev_lvT, take_self]; rfl
/-- on a floor, as a truth -/
def onB (R C : Int) (p : Pt) : Bool := (decide (0 ≤ p.1) && decide (p.1 < R)) && (decide (0 ≤ p.2) && decide (p.2 < C))
theorem onB_iff {R C : Int} {p : Pt} : onB R C p = true ↔ 0 ≤ p.1 ∧ p.1 < R ∧ 0 ≤ p.2 ∧ p.2 < C := by
  unfold onB; simp only [Bool.and_eq_true, decide_eq_true_eq, and_assoc]
theorem E_is_on {S : Store} {df : D} {m : Pic} {R C : Int} (hf : rdFl df R C) : F_is_on [df, en m] S = .ok (.bl (risB m && m.all (onB R C))) S := by
  have hf : rdSeq df = some [.int R, .int C] := hf
  rw [U_is_on]
  unfold B_is_on
  have hp : F_is_picture [en m] S = .ok (.bl (risB m)) S := by
    rw [E_is_picture (En.shp m)]
    unfold isPicB
    rw [picT_en]
  have gc : compF (gTu 2 (gsCons (gNm 2) (gsCons (gNm 3) gsNil))) dYes (dAndB (dCh gLe gLt (dC (.int 0)) (dVar 2) (dOp gIx (dVar 0) (dC (.int 0)))) (dCh gLe gLt (dC (.int 0)) (dVar 3) (dOp gIx (dVar 0) (dC (.int 1))))) [some df, some (en m), none, none] (m.map en) S = .ok ((m.map fun p => onB R C p).map D.bl) S := by
    rw [List.map_map]
    refine compF_enA fun p _ => one_yes ((rd_tu (pt_seq p) rfl).trans rfl) ?_ rfl
    have c1 : dCh gLe gLt (dC (.int 0)) (dVar 2) (dOp gIx (dVar 0) (dC (.int 0))) [some df, some (en m), some (.int p.1), some (.int p.2)] S = .ok (.bl (decide (0 ≤ p.1) && decide (p.1 < R))) S := ch_le_lt rfl rfl (by simp -implicitDefEqProofs only [ev_Blk, ek_blkNx, ek_blkRt, ek_blkBk, ek_blkCt, frz_nil, frz_some, frz_none, frz_int, frz_bl, frz_str, frz_non, frz_tup, frz_lst, frz_set, frz_dct, ev_FzD, ev_MuD, ek_dctF, ek_dctM, ev_Emp, ev_CallD, ek_CallD, ev_optD, ev_Met, ek_Met, ek_Met2, isDct_dct, ev_RevA, ek_RevAL, ek_RevAT, ev_RevN, ek_Rev, ev_Star, ek_StarL, ek_StarT, ek_Star2, ev_ltI, ek_Op, ek_Op2, ek_Un, ek_AndT, ek_AndF, ek_OrT, ek_OrF, ek_Not, ek_IfT, ek_IfF, ek_Cons, ek_Cons2, ek_Fz, ek_Mu, ek_Call, ek_CallN, ek_AddN, ek_AddN2, ek_Sl, ek_Sl2, ek_Sl3, ek_SlN, ek_SlN2, ek_SlN3, ek_FnK, ek_FnK2, ek_Len, ek_Asg, ek_Ret, ek_SIfT, ek_SIfF, ek_Drop, ek_Set, ek_Set2, ek_Set3, ek_OrB, ek_OrBT, ek_OrBF, ek_AndB, ek_AndBT, ek_AndBF, ek_NotB, ek_NotB2, ev_App, ev_Pop, ev_opt, ev_C, ev_Var, ev_Op, ev_Un, ev_Test, ev_test, ev_AndT, ev_OrT, ev_NotT, ev_If, ev_Truth, ev_truB, ev_truI, ev_truL, ev_truT, ev_truN, ev_OrB, ev_AndB, ev_NotB, ev_Nil, ev_Cons, ev_Tup, ev_Chk, ev_Fz, ev_Mu, ev_Call, ev_CallN, ev_optL, ev_AddN, ev_Isi, ev_oNone, ev_oSome, ev_oInt, ev_Sl, ev_SlN, ev_Fn, ev_FnK, ev_Len, ev_sNil, ev_Seq, ev_nx, ev_rt, ev_bk, ev_ct, ev_Asg, ev_nxO, ev_gNm, ev_gsNil, ev_gsCons, ev_Ret, ev_RetN, ev_sIf, ev_Drop, ev_Brk, ev_Cnt, ev_Par, ev_par2, ev_par3, ev_SetIx, ev_stO, ev_iSeq, ev_itL, ev_itT, ev_Ran1, ev_Ran2, ev_Enu, ev_enu, ev_Zip, ev_zipL, ev_zipT, ev_Comp, ev_fix, ev_Yes, ev_wipe0, ev_wipe, ev_For, ev_forF, ev_endRt, ev_endNx, ev_endM, ev_lvT, ev_lvL, ev_lvI, ev_lvB, ev_lvS, ev_lvN, ev_lvD, ev_addI, ev_subI, ev_negI, ev_eqI, ev_neI, ev_eqB, ev_neB, ev_cmpI, ev_isN, ev_isNotN, ev_lenL, ev_lenT, ev_tupL, ev_tupT, ev_lstL, ev_lstT, ev_int, ev_intB, ev_abs, ev_min2, ev_max2, ev_ixL, ev_ixT, Out.bind_ok, bindN_ok, Option.bind_some, List.set_cons_zero, List.set_cons_succ, List.getElem?_cons_zero, List.getElem?_cons_succ, ev_mk0, ev_mk1, ev_mk2, ev_mk3, ev_mk4, ev_ck0, ev_ck, Nat.zero_le, nr_int, nr_bl, nr_str, nr_non, nr_tup, nr_lst, En.nr, noRefs_nil, noRefs_cons, Bool.not_false, Bool.and_self, Bool.and_true, Bool.true_and, List.length_cons, List.length_nil, Nat.reduceAdd, Nat.reduceLeDiff, take_self, take_app, take_set, if_true, if_false, Bool.false_eq_true, Bool.not_true, atI_0, atI_1, ev_tu2, ev_tu2w, ev_tu2L, ev_tu3, ev_tu4, ev_pick0, ev_pick, List.nil_append, List.cons_append, frz_last, lv_last, lv_lastD, isDct_last, isDct_aD, ev_AugN, ek_AugAdd, ek_AugSub, ev_AugS, ek_AugS1, ek_AugS3a, ek_AugS3s, ev_SortK, ek_SortK, ev_MulN, ek_MulN, ek_MulN2, ev_RgL, ev_RgT, ev_Comp2, ev_fix2, ev_AsgM, rd_ix hf])
    have c2 : dCh gLe gLt (dC (.int 0)) (dVar 3) (dOp gIx (dVar 0) (dC (.int 1))) [some df, some (en m), some (.int p.1), some (.int p.2)] S = .ok (.bl (decide (0 ≤ p.2) && decide (p.2 < C))) S := ch_le_lt rfl rfl (by simp -implicitDefEqProofs only [ev_Blk, ek_blkNx, ek_blkRt, ek_blkBk, ek_blkCt, frz_nil, frz_some, frz_none, frz_int, frz_bl, frz_str, frz_non, frz_tup, frz_lst, frz_set, frz_dct, ev_FzD, ev_MuD, ek_dctF, ek_dctM, ev_Emp, ev_CallD, ek_CallD, ev_optD, ev_Met, ek_Met, ek_Met2, isDct_dct, ev_RevA, ek_RevAL, ek_RevAT, ev_RevN, ek_Rev, ev_Star, ek_StarL, ek_StarT, ek_Star2, ev_ltI, ek_Op, ek_Op2, ek_Un, ek_AndT, ek_AndF, ek_OrT, ek_OrF, ek_Not, ek_IfT, ek_IfF, ek_Cons, ek_Cons2, ek_Fz, ek_Mu, ek_Call, ek_CallN, ek_AddN, ek_AddN2, ek_Sl, ek_Sl2, ek_Sl3, ek_SlN, ek_SlN2, ek_SlN3, ek_FnK, ek_FnK2, ek_Len, ek_Asg, ek_Ret, ek_SIfT, ek_SIfF, ek_Drop, ek_Set, ek_Set2, ek_Set3, ek_OrB, ek_OrBT, ek_OrBF, ek_AndB, ek_AndBT, ek_AndBF, ek_NotB, ek_NotB2, ev_App, ev_Pop, ev_opt, ev_C, ev_Var, ev_Op, ev_Un, ev_Test, ev_test, ev_AndT, ev_OrT, ev_NotT, ev_If, ev_Truth, ev_truB, ev_truI, ev_truL, ev_truT, ev_truN, ev_OrB, ev_AndB, ev_NotB, ev_Nil, ev_Cons, ev_Tup, ev_Chk, ev_Fz, ev_Mu, ev_Call, ev_CallN, ev_optL, ev_AddN, ev_Isi, ev_oNone, ev_oSome, ev_oInt, ev_Sl, ev_SlN, ev_Fn, ev_FnK, ev_Len, ev_sNil, ev_Seq, ev_nx, ev_rt, ev_bk, ev_ct, ev_Asg, ev_nxO, ev_gNm, ev_gsNil, ev_gsCons, ev_Ret, ev_RetN, ev_sIf, ev_Drop, ev_Brk, ev_Cnt, ev_Par, ev_par2, ev_par3, ev_SetIx, ev_stO, ev_iSeq, ev_itL, ev_itT, ev_Ran1, ev_Ran2, ev_Enu, ev_enu, ev_Zip, ev_zipL, ev_zipT, ev_Comp, ev_fix, ev_Yes, ev_wipe0, ev_wipe, ev_For, ev_forF, ev_endRt, ev_endNx, ev_endM, ev_lvT, ev_lvL, ev_lvI, ev_lvB, ev_lvS, ev_lvN, ev_lvD, ev_addI, ev_subI, ev_negI, ev_eqI, ev_neI, ev_eqB, ev_neB, ev_cmpI, ev_isN, ev_isNotN, ev_lenL, ev_lenT, ev_tupL, ev_tupT, ev_lstL, ev_lstT, ev_int, ev_intB, ev_abs, ev_min2, ev_max2, ev_ixL, ev_ixT, Out.bind_ok, bindN_ok, Option.bind_some, List.set_cons_zero, List.set_cons_succ, List.getElem?_cons_zero, List.getElem?_cons_succ, ev_mk0, ev_mk1, ev_mk2, ev_mk3, ev_mk4, ev_ck0, ev_ck, Nat.zero_le, nr_int, nr_bl, nr_str, nr_non, nr_tup, nr_lst, En.nr, noRefs_nil, noRefs_cons, Bool.not_false, Bool.and_self, Bool.and_true, Bool.true_and, List.length_cons, List.length_nil, Nat.reduceAdd, Nat.reduceLeDiff, take_self, take_app, take_set, if_true, if_false, Bool.false_eq_true, Bool.not_true, atI_0, atI_1, ev_tu2, ev_tu2w, ev_tu2L, ev_tu3, ev_tu4, ev_pick0, ev_pick, List.nil_append, List.cons_append, frz_last, lv_last, lv_lastD, isDct_last, isDct_aD, ev_AugN, ek_AugAdd, ek_AugSub, ev_AugS, ek_AugS1, ek_AugS3a, ek_AugS3s, ev_SortK, ek_SortK, ev_MulN, ek_MulN, ek_MulN2, ev_RgL, ev_RgT, ev_Comp2, ev_fix2, ev_AsgM, rd_ix hf])
    show dAndB (dCh gLe gLt (dC (.int 0)) (dVar 2) (dOp gIx (dVar 0) (dC (.int 0)))) (dCh gLe gLt (dC (.int 0)) (dVar 3) (dOp gIx (dVar 0) (dC (.int 1)))) [some df, some (en m), some (.int p.1), some (.int p.2)] S = .ok (.bl (onB R C p)) S
    rw [ev_AndB, c1, Out.bind_ok]
    unfold onB
    show (truO (.bl (decide (0 ≤ p.1) && decide (p.1 < R))) S).bind _ = _
    rw [ev_truB, Out.bind_ok]
    cases (decide (0 ≤ p.1) && decide (p.1 < R)) with
    | false => rfl
    | true => exact c2
  have em : itOf (en m) S = .ok (.fix (m.map en)) S := rfl
  cases hr : risB m with
  | false => rw [hr] at hp; simp -implicitDefEqProofs only [ev_Blk, ek_blkNx, ek_blkRt, ek_blkBk, ek_blkCt, frz_nil, frz_some, frz_none, frz_int, frz_bl, frz_str, frz_non, frz_tup, frz_lst, frz_set, frz_dct, ev_FzD, ev_MuD, ek_dctF, ek_dctM, ev_Emp, ev_CallD, ek_CallD, ev_optD, ev_Met, ek_Met, ek_Met2, isDct_dct, ev_RevA, ek_RevAL, ek_RevAT, ev_RevN, ek_Rev, ev_Star, ek_StarL, ek_StarT, ek_Star2, ev_ltI, ek_Op, ek_Op2, ek_Un, ek_AndT, ek_AndF, ek_OrT, ek_OrF, ek_Not, ek_IfT, ek_IfF, ek_Cons, ek_Cons2, ek_Fz, ek_Mu, ek_Call, ek_CallN, ek_AddN, ek_AddN2, ek_Sl, ek_Sl2, ek_Sl3, ek_SlN, ek_SlN2, ek_SlN3, ek_FnK, ek_FnK2, ek_Len, ek_Asg, ek_Ret, ek_SIfT, ek_SIfF, ek_Drop, ek_Set, ek_Set2, ek_Set3, ek_OrB, ek_OrBT, ek_OrBF, ek_AndB, ek_AndBT, ek_AndBF, ek_NotB, ek_NotB2, ev_App, ev_Pop, ev_opt, ev_C, ev_Var, ev_Op, ev_Un, ev_Test, ev_test, ev_AndT, ev_OrT, ev_NotT, ev_If, ev_Truth, ev_truB, ev_truI, ev_truL, ev_truT, ev_truN, ev_OrB, ev_AndB, ev_NotB, ev_Nil, ev_Cons, ev_Tup, ev_Chk, ev_Fz, ev_Mu, ev_Call, ev_CallN, ev_optL, ev_AddN, ev_Isi, ev_oNone, ev_oSome, ev_oInt, ev_Sl, ev_SlN, ev_Fn, ev_FnK, ev_Len, ev_sNil, ev_Seq, ev_nx, ev_rt, ev_bk, ev_ct, ev_Asg, ev_nxO, ev_gNm, ev_gsNil, ev_gsCons, ev_Ret, ev_RetN, ev_sIf, ev_Drop, ev_Brk, ev_Cnt, ev_Par, ev_par2, ev_par3, ev_SetIx, ev_stO, ev_iSeq, ev_itL, ev_itT, ev_Ran1, ev_Ran2, ev_Enu, ev_enu, ev_Zip, ev_zipL, ev_zipT, ev_Comp, ev_fix, ev_Yes, ev_wipe0, ev_wipe, ev_For, ev_forF, ev_endRt, ev_endNx, ev_endM, ev_lvT, ev_lvL, ev_lvI, ev_lvB, ev_lvS, ev_lvN, ev_lvD, ev_addI, ev_subI, ev_negI, ev_eqI, ev_neI, ev_eqB, ev_neB, ev_cmpI, ev_isN, ev_isNotN, ev_lenL, ev_lenT, ev_tupL, ev_tupT, ev_lstL, ev_lstT, ev_int, ev_intB, ev_abs, ev_min2, ev_max2, ev_ixL, ev_ixT, Out.bind_ok, bindN_ok, Option.bind_some, List.set_cons_zero, List.set_cons_succ, List.getElem?_cons_zero, List.getElem?_cons_succ, ev_mk0, ev_mk1, ev_mk2, ev_mk3, ev_mk4, ev_ck0, ev_ck, Nat.zero_le, nr_int, nr_bl, nr_str, nr_non, nr_tup, nr_lst, En.nr, noRefs_nil, noRefs_cons, Bool.not_false, Bool.and_self, Bool.and_true, Bool.true_and, List.length_cons, List.length_nil, Nat.reduceAdd, Nat.reduceLeDiff, take_self, take_app, take_set, if_true, if_false, Bool.false_eq_true, Bool.not_true, atI_0, atI_1, ev_tu2, ev_tu2w, ev_tu2L, ev_tu3, ev_tu4, ev_pick0, ev_pick, List.nil_append, List.cons_append, frz_last, lv_last, lv_lastD, isDct_last, isDct_aD, ev_AugN, ek_AugAdd, ek_AugSub, ev_AugS, ek_AugS1, ek_AugS3a, ek_AugS3s, ev_SortK, ek_SortK, ev_MulN, ek_MulN, ek_MulN2, ev_RgL, ev_RgT, ev_Comp2, ev_fix2, ev_AsgM, hp, Bool.false_and]
  | true =>
    rw [hr] at hp
    have ha : gAll S [.lst ((m.map fun p => onB R C p).map D.bl)] = some (.bl (m.all (onB R C))) := by rw [all_en, all_map]
    simp -implicitDefEqProofs only [ev_Blk, ek_blkNx, ek_blkRt, ek_blkBk, ek_blkCt, frz_nil, frz_some, frz_none, frz_int, frz_bl, frz_str, frz_non, frz_tup, frz_lst, frz_set, frz_dct, ev_FzD, ev_MuD, ek_dctF, ek_dctM, ev_Emp, ev_CallD, ek_CallD, ev_optD, ev_Met, ek_Met, ek_Met2, isDct_dct, ev_RevA, ek_RevAL, ek_RevAT, ev_RevN, ek_Rev, ev_Star, ek_StarL, ek_StarT, ek_Star2, ev_ltI, ek_Op, ek_Op2, ek_Un, ek_AndT, ek_AndF, ek_OrT, ek_OrF, ek_Not, ek_IfT, ek_IfF, ek_Cons, ek_Cons2, ek_Fz, ek_Mu, ek_Call, ek_CallN, ek_AddN, ek_AddN2, ek_Sl, ek_Sl2, ek_Sl3, ek_SlN, ek_SlN2, ek_SlN3, ek_FnK, ek_FnK2, ek_Len, ek_Asg, ek_Ret, ek_SIfT, ek_SIfF, ek_Drop, ek_Set, ek_Set2, ek_Set3, ek_OrB, ek_OrBT, ek_OrBF, ek_AndB, ek_AndBT, ek_AndBF, ek_NotB, ek_NotB2, ev_App, ev_Pop, ev_opt, ev_C, ev_Var, ev_Op, ev_Un, ev_Test, ev_test, ev_AndT, ev_OrT, ev_NotT, ev_If, ev_Truth, ev_truB, ev_truI, ev_truL, ev_truT, ev_truN, ev_OrB, ev_AndB, ev_NotB, ev_Nil, ev_Cons, ev_Tup, ev_Chk, ev_Fz, ev_Mu, ev_Call, ev_CallN, ev_optL, ev_AddN, ev_Isi, ev_oNone, ev_oSome, ev_oInt, ev_Sl, ev_SlN, ev_Fn, ev_FnK, ev_Len, ev_sNil, ev_Seq, ev_nx, ev_rt, ev_bk, ev_ct, ev_Asg, ev_nxO, ev_gNm, ev_gsNil, ev_gsCons, ev_Ret, ev_RetN, ev_sIf, ev_Drop, ev_Brk, ev_Cnt, ev_Par, ev_par2, ev_par3, ev_SetIx, ev_stO, ev_iSeq, ev_itL, ev_itT, ev_Ran1, ev_Ran2, ev_Enu, ev_enu, ev_Zip, ev_zipL, ev_zipT, ev_Comp, ev_fix, ev_Yes, ev_wipe0, ev_wipe, ev_For, ev_forF, ev_endRt, ev_endNx, ev_endM, ev_lvT, ev_lvL, ev_lvI, ev_lvB, ev_lvS, ev_lvN, ev_lvD, ev_addI, ev_subI, ev_negI, ev_eqI, ev_neI, ev_eqB, ev_neB, ev_cmpI, ev_isN, ev_isNotN, ev_lenL, ev_lenT, ev_tupL, ev_tupT, ev_lstL, ev_lstT, ev_int, ev_intB, ev_abs, ev_min2, ev_max2, ev_ixL, ev_ixT, Out.bind_ok, bindN_ok, Option.bind_some, List.set_cons_zero, List.set_cons_succ, List.getElem?_cons_zero, List.getElem?_cons_succ, ev_mk0, ev_mk1, ev_mk2, ev_mk3, ev_mk4, ev_ck0, ev_ck, Nat.zero_le, nr_int, nr_bl, nr_str, nr_non, nr_tup, nr_lst, En.nr, noRefs_nil, noRefs_cons, Bool.not_false, Bool.and_self, Bool.and_true, Bool.true_and, List.length_cons, List.length_nil, Nat.reduceAdd, Nat.reduceLeDiff, take_self, take_app, take_set, if_true, if_false, Bool.false_eq_true, Bool.not_true, atI_0, atI_1, ev_tu2, ev_tu2w, ev_tu2L, ev_tu3, ev_tu4, ev_pick0, ev_pick, List.nil_append, List.cons_append, frz_last, lv_last, lv_lastD, isDct_last, isDct_aD, ev_AugN, ek_AugAdd, ek_AugSub, ev_AugS, ek_AugS1, ek_AugS3a, ek_AugS3s, ev_SortK, ek_SortK, ev_MulN, ek_MulN, ek_MulN2, ev_RgL, ev_RgT, ev_Comp2, ev_fix2, ev_AsgM, hp, em, gc, ha, Bool.true_and]
def fallP (R C : Int) (l : Pic) : Pic := srs (l.map (modP R C))
/-- moved on the floor -/
def shP (R C : Int) (l : Pic) (c : Pt) : Pic := srs (l.map fun p => modP R C (mv c.1 c.2 p))
def foldP (R C : Int) (l : Pic) : Pic := match fallP R C l with
  | [] => []
  | q :: r => bstK (fun x => x) (shP R C (q :: r) (-q.1, -q.2)) (r.map fun o => shP R C (q :: r) (-o.1, -o.2))
theorem fall_len (R C : Int) (l : Pic) : (fallP R C l).length ≤ l.length := by
  unfold fallP; have := srt_le (l.map (modP R C)); rwa [List.length_map] at this
theorem fall_ne {R C : Int} {l : Pic} (h : l ≠ []) : fallP R C l ≠ [] := fun e => by
  obtain ⟨p, hp⟩ := List.exists_mem_of_ne_nil _ h
  have : modP R C p ∈ fallP R C l := mem_srs.mpr (List.mem_map.mpr ⟨p, hp, rfl⟩)
  rw [e] at this; cases this
theorem mem_fall {R C : Int} {l : Pic} {q : Pt} : q ∈ fallP R C l ↔ ∃ p ∈ l, modP R C p = q := mem_srs.trans List.mem_map
theorem mem_sh {R C : Int} {l : Pic} {c q : Pt} : q ∈ shP R C l c ↔ ∃ p ∈ l, modP R C (mv c.1 c.2 p) = q := mem_srs.trans List.mem_map
theorem sh_ris (R C : Int) (l : Pic) (c : Pt) : Ris (shP R C l c) := srs_ris _
theorem sh_ne {R C : Int} {l : Pic} {c : Pt} (h : l ≠ []) : shP R C l c ≠ [] := fun e => by
  obtain ⟨p, hp⟩ := List.exists_mem_of_ne_nil _ h
  have : modP R C (mv c.1 c.2 p) ∈ shP R C l c := mem_sh.mpr ⟨p, hp, rfl⟩
  rw [e] at this; cases this
theorem E_folded {S : Store} {dd df : D} {l : Pic} {R C : Int} (h : rdPic dd = some l) (hf : rdFl df R C) (hR : 0 < R) (hC : 0 < C) (hl : l.length ≤ 1000) (hne : l ≠ []) : F_folded [dd, df] S = .ok (en (foldP R C l)) S := by
  have e1 := E_fallen (S := S) h hf hR hC hl
  have hfl := fall_len R C l
  rw [U_folded]
  unfold B_folded foldP
  have ef : (en (srs (l.map (modP R C))) : D) = en (fallP R C l) := rfl
  rw [ef] at e1
  cases hq : fallP R C l with
  | nil => exact absurd hq (fall_ne hne)
  | cons q r =>
    rw [hq] at e1 hfl
    have gc : compF (gTu 2 (gsCons (gNm 3) (gsCons (gNm 4) gsNil))) dYes (dFn F_fallen (dCons (dFn F_moved (dCons (dVar 2) (dCons (dUn gNeg (dVar 3)) (dCons (dUn gNeg (dVar 4)) dNil)))) (dCons (dVar 1) dNil))) [some dd, some df, some (en (q :: r)), none, none] ((q :: r).map en) S = .ok (((q :: r).map fun o => shP R C (q :: r) (-o.1, -o.2)).map en) S := by
      rw [List.map_map]
      refine compF_enA fun o _ => one_yes ((rd_tu (pt_seq o) rfl).trans rfl) ?_ rfl
      have m1 := E_moved (S := S) (a := -o.1) (b := -o.2) (rd_pic (q :: r))
      have f1 := E_fallen (S := S) (R := R) (C := C) (rd_pic ((q :: r).map (mv (-o.1) (-o.2)))) hf hR hC (by rw [List.length_map]; omega)
      rw [List.map_map] at f1
      simp -implicitDefEqProofs only [ev_Blk, ek_blkNx, ek_blkRt, ek_blkBk, ek_blkCt, frz_nil, frz_some, frz_none, frz_int, frz_bl, frz_str, frz_non, frz_tup, frz_lst, frz_set, frz_dct, ev_FzD, ev_MuD, ek_dctF, ek_dctM, ev_Emp, ev_CallD, ek_CallD, ev_optD, ev_Met, ek_Met, ek_Met2, isDct_dct, ev_RevA, ek_RevAL, ek_RevAT, ev_RevN, ek_Rev, ev_Star, ek_StarL, ek_StarT, ek_Star2, ev_ltI, ek_Op, ek_Op2, ek_Un, ek_AndT, ek_AndF, ek_OrT, ek_OrF, ek_Not, ek_IfT, ek_IfF, ek_Cons, ek_Cons2, ek_Fz, ek_Mu, ek_Call, ek_CallN, ek_AddN, ek_AddN2, ek_Sl, ek_Sl2, ek_Sl3, ek_SlN, ek_SlN2, ek_SlN3, ek_FnK, ek_FnK2, ek_Len, ek_Asg, ek_Ret, ek_SIfT, ek_SIfF, ek_Drop, ek_Set, ek_Set2, ek_Set3, ek_OrB, ek_OrBT, ek_OrBF, ek_AndB, ek_AndBT, ek_AndBF, ek_NotB, ek_NotB2, ev_App, ev_Pop, ev_opt, ev_C, ev_Var, ev_Op, ev_Un, ev_Test, ev_test, ev_AndT, ev_OrT, ev_NotT, ev_If, ev_Truth, ev_truB, ev_truI, ev_truL, ev_truT, ev_truN, ev_OrB, ev_AndB, ev_NotB, ev_Nil, ev_Cons, ev_Tup, ev_Chk, ev_Fz, ev_Mu, ev_Call, ev_CallN, ev_optL, ev_AddN, ev_Isi, ev_oNone, ev_oSome, ev_oInt, ev_Sl, ev_SlN, ev_Fn, ev_FnK, ev_Len, ev_sNil, ev_Seq, ev_nx, ev_rt, ev_bk, ev_ct, ev_Asg, ev_nxO, ev_gNm, ev_gsNil, ev_gsCons, ev_Ret, ev_RetN, ev_sIf, ev_Drop, ev_Brk, ev_Cnt, ev_Par, ev_par2, ev_par3, ev_SetIx, ev_stO, ev_iSeq, ev_itL, ev_itT, ev_Ran1, ev_Ran2, ev_Enu, ev_enu, ev_Zip, ev_zipL, ev_zipT, ev_Comp, ev_fix, ev_Yes, ev_wipe0, ev_wipe, ev_For, ev_forF, ev_endRt, ev_endNx, ev_endM, ev_lvT, ev_lvL, ev_lvI, ev_lvB, ev_lvS, ev_lvN, ev_lvD, ev_addI, ev_subI, ev_negI, ev_eqI, ev_neI, ev_eqB, ev_neB, ev_cmpI, ev_isN, ev_isNotN, ev_lenL, ev_lenT, ev_tupL, ev_tupT, ev_lstL, ev_lstT, ev_int, ev_intB, ev_abs, ev_min2, ev_max2, ev_ixL, ev_ixT, Out.bind_ok, bindN_ok, Option.bind_some, List.set_cons_zero, List.set_cons_succ, List.getElem?_cons_zero, List.getElem?_cons_succ, ev_mk0, ev_mk1, ev_mk2, ev_mk3, ev_mk4, ev_ck0, ev_ck, Nat.zero_le, nr_int, nr_bl, nr_str, nr_non, nr_tup, nr_lst, En.nr, noRefs_nil, noRefs_cons, Bool.not_false, Bool.and_self, Bool.and_true, Bool.true_and, List.length_cons, List.length_nil, Nat.reduceAdd, Nat.reduceLeDiff, take_self, take_app, take_set, if_true, if_false, Bool.false_eq_true, Bool.not_true, atI_0, atI_1, ev_tu2, ev_tu2w, ev_tu2L, ev_tu3, ev_tu4, ev_pick0, ev_pick, List.nil_append, List.cons_append, frz_last, lv_last, lv_lastD, isDct_last, isDct_aD, ev_AugN, ek_AugAdd, ek_AugSub, ev_AugS, ek_AugS1, ek_AugS3a, ek_AugS3s, ev_SortK, ek_SortK, ev_MulN, ek_MulN, ek_MulN2, ev_RgL, ev_RgT, ev_Comp2, ev_fix2, ev_AsgM, m1, f1]
      rfl
    have em : itOf (en (q :: r)) S = .ok (.fix ((q :: r).map en)) S := rfl
    have gm := minK_en (S := S) (F := idF) (dfl := false) (en' := (en : Pic → D)) (k := fun x : Pic => x) lt_picD (a := shP R C (q :: r) (-q.1, -q.2)) (l := r.map fun o => shP R C (q :: r) (-o.1, -o.2)) fun x _ => id_en x
    rw [show ((q :: r).map fun o => shP R C (q :: r) (-o.1, -o.2)) = shP R C (q :: r) (-q.1, -q.2) :: r.map fun o => shP R C (q :: r) (-o.1, -o.2) from rfl] at gc
    simp -implicitDefEqProofs only [ev_Blk, ek_blkNx, ek_blkRt, ek_blkBk, ek_blkCt, frz_nil, frz_some, frz_none, frz_int, frz_bl, frz_str, frz_non, frz_tup, frz_lst, frz_set, frz_dct, ev_FzD, ev_MuD, ek_dctF, ek_dctM, ev_Emp, ev_CallD, ek_CallD, ev_optD, ev_Met, ek_Met, ek_Met2, isDct_dct, ev_RevA, ek_RevAL, ek_RevAT, ev_RevN, ek_Rev, ev_Star, ek_StarL, ek_StarT, ek_Star2, ev_ltI, ek_Op, ek_Op2, ek_Un, ek_AndT, ek_AndF, ek_OrT, ek_OrF, ek_Not, ek_IfT, ek_IfF, ek_Cons, ek_Cons2, ek_Fz, ek_Mu, ek_Call, ek_CallN, ek_AddN, ek_AddN2, ek_Sl, ek_Sl2, ek_Sl3, ek_SlN, ek_SlN2, ek_SlN3, ek_FnK, ek_FnK2, ek_Len, ek_Asg, ek_Ret, ek_SIfT, ek_SIfF, ek_Drop, ek_Set, ek_Set2, ek_Set3, ek_OrB, ek_OrBT, ek_OrBF, ek_AndB, ek_AndBT, ek_AndBF, ek_NotB, ek_NotB2, ev_App, ev_Pop, ev_opt, ev_C, ev_Var, ev_Op, ev_Un, ev_Test, ev_test, ev_AndT, ev_OrT, ev_NotT, ev_If, ev_Truth, ev_truB, ev_truI, ev_truL, ev_truT, ev_truN, ev_OrB, ev_AndB, ev_NotB, ev_Nil, ev_Cons, ev_Tup, ev_Chk, ev_Fz, ev_Mu, ev_Call, ev_CallN, ev_optL, ev_AddN, ev_Isi, ev_oNone, ev_oSome, ev_oInt, ev_Sl, ev_SlN, ev_Fn, ev_FnK, ev_Len, ev_sNil, ev_Seq, ev_nx, ev_rt, ev_bk, ev_ct, ev_Asg, ev_nxO, ev_gNm, ev_gsNil, ev_gsCons, ev_Ret, ev_RetN, ev_sIf, ev_Drop, ev_Brk, ev_Cnt, ev_Par, ev_par2, ev_par3, ev_SetIx, ev_stO, ev_iSeq, ev_itL, ev_itT, ev_Ran1, ev_Ran2, ev_Enu, ev_enu, ev_Zip, ev_zipL, ev_zipT, ev_Comp, ev_fix, ev_Yes, ev_wipe0, ev_wipe, ev_For, ev_forF, ev_endRt, ev_endNx, ev_endM, ev_lvT, ev_lvL, ev_lvI, ev_lvB, ev_lvS, ev_lvN, ev_lvD, ev_addI, ev_subI, ev_negI, ev_eqI, ev_neI, ev_eqB, ev_neB, ev_cmpI, ev_isN, ev_isNotN, ev_lenL, ev_lenT, ev_tupL, ev_tupT, ev_lstL, ev_lstT, ev_int, ev_intB, ev_abs, ev_min2, ev_max2, ev_ixL, ev_ixT, Out.bind_ok, bindN_ok, Option.bind_some, List.set_cons_zero, List.set_cons_succ, List.getElem?_cons_zero, List.getElem?_cons_succ, ev_mk0, ev_mk1, ev_mk2, ev_mk3, ev_mk4, ev_ck0, ev_ck, Nat.zero_le, nr_int, nr_bl, nr_str, nr_non, nr_tup, nr_lst, En.nr, noRefs_nil, noRefs_cons, Bool.not_false, Bool.and_self, Bool.and_true, Bool.true_and, List.length_cons, List.length_nil, Nat.reduceAdd, Nat.reduceLeDiff, take_self, take_app, take_set, if_true, if_false, Bool.false_eq_true, Bool.not_true, atI_0, atI_1, ev_tu2, ev_tu2w, ev_tu2L, ev_tu3, ev_tu4, ev_pick0, ev_pick, List.nil_append, List.cons_append, frz_last, lv_last, lv_lastD, isDct_last, isDct_aD, ev_AugN, ek_AugAdd, ek_AugSub, ev_AugS, ek_AugS1, ek_AugS3a, ek_AugS3s, ev_SortK, ek_SortK, ev_MulN, ek_MulN, ek_MulN2, ev_RgL, ev_RgT, ev_Comp2, ev_fix2, ev_AsgM, ev_MinK, e1, em, gc, gm]
    exact lv_enL _
theorem law_least {S : Store} {dd df : D} {l : Pic} {h w : Nat} (hd : rdPic dd = some l) (hf : rdFl df h w) (hh : 0 < h) (hw : 0 < w) (hh2 : h ≤ 100) (hw2 : w ≤ 100) (hl : l.length ≤ 1000) : ∃ m : Pic, F__law_least [dd, df] S = .ok (en m) S ∧ (∃ c ∈ gridP h w, m = shP h w l c) ∧ ∀ c ∈ gridP h w, le m (shP h w l c) := by
  have hf' : rdSeq df = some [.int (h : Int), .int (w : Int)] := hf
  obtain ⟨g0, gr, hg⟩ : ∃ g0 gr, gridP h w = g0 :: gr := by
    cases e : gridP h w with
    | nil => have := gridP_len h w; rw [e] at this; have := Nat.mul_pos hh hw; simp at *; omega
    | cons a b => exact ⟨a, b, rfl⟩
  have hhw : h * w ≤ 100 * 100 := Nat.mul_le_mul hh2 hw2
  have eg := grid_ok (S := S) (h := h) (w := w) (by omega) (by omega) (by omega)
  have gc : compF (gNm 2) dYes (dFn F__law_shift (dCons (dVar 0) (dCons (dVar 1) (dCons (dVar 2) dNil)))) [some dd, some df, none] ((gridP h w).map en) S = .ok (((gridP h w).map (shP h w l)).map en) S := by
    rw [List.map_map]
    refine compF_enA fun c _ => one_yes rfl ?_ rfl
    have f1 := law_shift (S := S) (c := c) hd hf (rd_pt c) (by omega) (by omega) hl
    simp -implicitDefEqProofs only [ev_Blk, ek_blkNx, ek_blkRt, ek_blkBk, ek_blkCt, frz_nil, frz_some, frz_none, frz_int, frz_bl, frz_str, frz_non, frz_tup, frz_lst, frz_set, frz_dct, ev_FzD, ev_MuD, ek_dctF, ek_dctM, ev_Emp, ev_CallD, ek_CallD, ev_optD, ev_Met, ek_Met, ek_Met2, isDct_dct, ev_RevA, ek_RevAL, ek_RevAT, ev_RevN, ek_Rev, ev_Star, ek_StarL, ek_StarT, ek_Star2, ev_ltI, ek_Op, ek_Op2, ek_Un, ek_AndT, ek_AndF, ek_OrT, ek_OrF, ek_Not, ek_IfT, ek_IfF, ek_Cons, ek_Cons2, ek_Fz, ek_Mu, ek_Call, ek_CallN, ek_AddN, ek_AddN2, ek_Sl, ek_Sl2, ek_Sl3, ek_SlN, ek_SlN2, ek_SlN3, ek_FnK, ek_FnK2, ek_Len, ek_Asg, ek_Ret, ek_SIfT, ek_SIfF, ek_Drop, ek_Set, ek_Set2, ek_Set3, ek_OrB, ek_OrBT, ek_OrBF, ek_AndB, ek_AndBT, ek_AndBF, ek_NotB, ek_NotB2, ev_App, ev_Pop, ev_opt, ev_C, ev_Var, ev_Op, ev_Un, ev_Test, ev_test, ev_AndT, ev_OrT, ev_NotT, ev_If, ev_Truth, ev_truB, ev_truI, ev_truL, ev_truT, ev_truN, ev_OrB, ev_AndB, ev_NotB, ev_Nil, ev_Cons, ev_Tup, ev_Chk, ev_Fz, ev_Mu, ev_Call, ev_CallN, ev_optL, ev_AddN, ev_Isi, ev_oNone, ev_oSome, ev_oInt, ev_Sl, ev_SlN, ev_Fn, ev_FnK, ev_Len, ev_sNil, ev_Seq, ev_nx, ev_rt, ev_bk, ev_ct, ev_Asg, ev_nxO, ev_gNm, ev_gsNil, ev_gsCons, ev_Ret, ev_RetN, ev_sIf, ev_Drop, ev_Brk, ev_Cnt, ev_Par, ev_par2, ev_par3, ev_SetIx, ev_stO, ev_iSeq, ev_itL, ev_itT, ev_Ran1, ev_Ran2, ev_Enu, ev_enu, ev_Zip, ev_zipL, ev_zipT, ev_Comp, ev_fix, ev_Yes, ev_wipe0, ev_wipe, ev_For, ev_forF, ev_endRt, ev_endNx, ev_endM, ev_lvT, ev_lvL, ev_lvI, ev_lvB, ev_lvS, ev_lvN, ev_lvD, ev_addI, ev_subI, ev_negI, ev_eqI, ev_neI, ev_eqB, ev_neB, ev_cmpI, ev_isN, ev_isNotN, ev_lenL, ev_lenT, ev_tupL, ev_tupT, ev_lstL, ev_lstT, ev_int, ev_intB, ev_abs, ev_min2, ev_max2, ev_ixL, ev_ixT, Out.bind_ok, bindN_ok, Option.bind_some, List.set_cons_zero, List.set_cons_succ, List.getElem?_cons_zero, List.getElem?_cons_succ, ev_mk0, ev_mk1, ev_mk2, ev_mk3, ev_mk4, ev_ck0, ev_ck, Nat.zero_le, nr_int, nr_bl, nr_str, nr_non, nr_tup, nr_lst, En.nr, noRefs_nil, noRefs_cons, Bool.not_false, Bool.and_self, Bool.and_true, Bool.true_and, List.length_cons, List.length_nil, Nat.reduceAdd, Nat.reduceLeDiff, take_self, take_app, take_set, if_true, if_false, Bool.false_eq_true, Bool.not_true, atI_0, atI_1, ev_tu2, ev_tu2w, ev_tu2L, ev_tu3, ev_tu4, ev_pick0, ev_pick, List.nil_append, List.cons_append, frz_last, lv_last, lv_lastD, isDct_last, isDct_aD, ev_AugN, ek_AugAdd, ek_AugSub, ev_AugS, ek_AugS1, ek_AugS3a, ek_AugS3s, ev_SortK, ek_SortK, ev_MulN, ek_MulN, ek_MulN2, ev_RgL, ev_RgT, ev_Comp2, ev_fix2, ev_AsgM, f1]
    rfl
  have gm := minK_en (S := S) (F := idF) (dfl := false) (en' := (en : Pic → D)) (k := fun x : Pic => x) lt_picD (a := shP h w l g0) (l := gr.map (shP h w l)) fun x _ => id_en x
  have el : itOf (.lst ((gridP h w).map en)) S = .ok (.fix ((gridP h w).map en)) S := rfl
  rw [hg] at gc eg el
  refine ⟨bstK (fun x => x) (shP h w l g0) (gr.map (shP h w l)), ?_, ?_, ?_⟩
  · rw [U__law_least]
    unfold B__law_least
    rw [List.map_cons (f := shP h w l)] at gc
    simp -implicitDefEqProofs only [ev_Blk, ek_blkNx, ek_blkRt, ek_blkBk, ek_blkCt, frz_nil, frz_some, frz_none, frz_int, frz_bl, frz_str, frz_non, frz_tup, frz_lst, frz_set, frz_dct, ev_FzD, ev_MuD, ek_dctF, ek_dctM, ev_Emp, ev_CallD, ek_CallD, ev_optD, ev_Met, ek_Met, ek_Met2, isDct_dct, ev_RevA, ek_RevAL, ek_RevAT, ev_RevN, ek_Rev, ev_Star, ek_StarL, ek_StarT, ek_Star2, ev_ltI, ek_Op, ek_Op2, ek_Un, ek_AndT, ek_AndF, ek_OrT, ek_OrF, ek_Not, ek_IfT, ek_IfF, ek_Cons, ek_Cons2, ek_Fz, ek_Mu, ek_Call, ek_CallN, ek_AddN, ek_AddN2, ek_Sl, ek_Sl2, ek_Sl3, ek_SlN, ek_SlN2, ek_SlN3, ek_FnK, ek_FnK2, ek_Len, ek_Asg, ek_Ret, ek_SIfT, ek_SIfF, ek_Drop, ek_Set, ek_Set2, ek_Set3, ek_OrB, ek_OrBT, ek_OrBF, ek_AndB, ek_AndBT, ek_AndBF, ek_NotB, ek_NotB2, ev_App, ev_Pop, ev_opt, ev_C, ev_Var, ev_Op, ev_Un, ev_Test, ev_test, ev_AndT, ev_OrT, ev_NotT, ev_If, ev_Truth, ev_truB, ev_truI, ev_truL, ev_truT, ev_truN, ev_OrB, ev_AndB, ev_NotB, ev_Nil, ev_Cons, ev_Tup, ev_Chk, ev_Fz, ev_Mu, ev_Call, ev_CallN, ev_optL, ev_AddN, ev_Isi, ev_oNone, ev_oSome, ev_oInt, ev_Sl, ev_SlN, ev_Fn, ev_FnK, ev_Len, ev_sNil, ev_Seq, ev_nx, ev_rt, ev_bk, ev_ct, ev_Asg, ev_nxO, ev_gNm, ev_gsNil, ev_gsCons, ev_Ret, ev_RetN, ev_sIf, ev_Drop, ev_Brk, ev_Cnt, ev_Par, ev_par2, ev_par3, ev_SetIx, ev_stO, ev_iSeq, ev_itL, ev_itT, ev_Ran1, ev_Ran2, ev_Enu, ev_enu, ev_Zip, ev_zipL, ev_zipT, ev_Comp, ev_fix, ev_Yes, ev_wipe0, ev_wipe, ev_For, ev_forF, ev_endRt, ev_endNx, ev_endM, ev_lvT, ev_lvL, ev_lvI, ev_lvB, ev_lvS, ev_lvN, ev_lvD, ev_addI, ev_subI, ev_negI, ev_eqI, ev_neI, ev_eqB, ev_neB, ev_cmpI, ev_isN, ev_isNotN, ev_lenL, ev_lenT, ev_tupL, ev_tupT, ev_lstL, ev_lstT, ev_int, ev_intB, ev_abs, ev_min2, ev_max2, ev_ixL, ev_ixT, Out.bind_ok, bindN_ok, Option.bind_some, List.set_cons_zero, List.set_cons_succ, List.getElem?_cons_zero, List.getElem?_cons_succ, ev_mk0, ev_mk1, ev_mk2, ev_mk3, ev_mk4, ev_ck0, ev_ck, Nat.zero_le, nr_int, nr_bl, nr_str, nr_non, nr_tup, nr_lst, En.nr, noRefs_nil, noRefs_cons, Bool.not_false, Bool.and_self, Bool.and_true, Bool.true_and, List.length_cons, List.length_nil, Nat.reduceAdd, Nat.reduceLeDiff, take_self, take_app, take_set, if_true, if_false, Bool.false_eq_true, Bool.not_true, atI_0, atI_1, ev_tu2, ev_tu2w, ev_tu2L, ev_tu3, ev_tu4, ev_pick0, ev_pick, List.nil_append, List.cons_append, frz_last, lv_last, lv_lastD, isDct_last, isDct_aD, ev_AugN, ek_AugAdd, ek_AugSub, ev_AugS, ek_AugS1, ek_AugS3a, ek_AugS3s, ev_SortK, ek_SortK, ev_MulN, ek_MulN, ek_MulN2, ev_RgL, ev_RgT, ev_Comp2, ev_fix2, ev_AsgM, ev_MinK, rd_ix hf', atI_0, atI_1, eg, el, gc, gm]
    exact lv_enL _
  · rw [hg]
    rcases bst_mem (fun x : Pic => x) (gr.map (shP h w l)) (shP h w l g0) with e | e
    · exact ⟨g0, List.mem_cons_self .., e⟩
    · obtain ⟨c, hc, e⟩ := List.mem_map.mp e
      exact ⟨c, List.mem_cons_of_mem _ hc, e.symm⟩
  · obtain ⟨h1, h2⟩ := bst_le (fun x : Pic => x) (gr.map (shP h w l)) (shP h w l g0)
    rw [hg]
    intro c hc
    rcases List.mem_cons.mp hc with rfl | hc
    · exact h1
    · exact h2 _ (List.mem_map.mpr ⟨c, hc, rfl⟩)
theorem sh_mod (R C : Int) (l : Pic) (c : Pt) : shP R C l (modP R C c) = shP R C l c := srs_congr fun q => by
  rw [List.mem_map, List.mem_map]
  exact ⟨fun ⟨p, hp, e⟩ => ⟨p, hp, by rw [← e, modP_in]⟩, fun ⟨p, hp, e⟩ => ⟨p, hp, by rw [← e, modP_in]⟩⟩
theorem sh_fall (R C : Int) (l : Pic) (c : Pt) : shP R C (fallP R C l) c = shP R C l c := srs_congr fun q => by
  rw [List.mem_map, List.mem_map]
  constructor
  · rintro ⟨p, hp, rfl⟩
    obtain ⟨o, ho, rfl⟩ := mem_fall.mp hp
    exact ⟨o, ho, by rw [modP_mv]⟩
  · rintro ⟨o, ho, rfl⟩
    exact ⟨modP R C o, mem_fall.mpr ⟨o, ho, rfl⟩, by rw [modP_mv]⟩
theorem sh_sh (R C : Int) (l : Pic) (c d : Pt) : shP R C (shP R C l c) d = shP R C l (c.1 + d.1, c.2 + d.2) := srs_congr fun q => by
  rw [List.mem_map, List.mem_map]
  constructor
  · rintro ⟨p, hp, rfl⟩
    obtain ⟨o, ho, rfl⟩ := mem_sh.mp hp
    exact ⟨o, ho, by rw [modP_mv, mv_mv]⟩
  · rintro ⟨o, ho, rfl⟩
    exact ⟨_, mem_sh.mpr ⟨o, ho, rfl⟩, by rw [modP_mv, mv_mv]⟩
theorem sh_on {R C : Int} (hR : 0 < R) (hC : 0 < C) {l : Pic} {c q : Pt} (h : q ∈ shP R C l c) : 0 ≤ q.1 ∧ q.1 < R ∧ 0 ≤ q.2 ∧ q.2 < C := by
  obtain ⟨p, _, rfl⟩ := mem_sh.mp h
  exact mod_on hR hC _
theorem fall_on {R C : Int} (hR : 0 < R) (hC : 0 < C) {l : Pic} : OnF R C (fallP R C l) := ⟨(srs_ris _).nodup, fun q h => by
  obtain ⟨p, _, rfl⟩ := mem_fall.mp h
  exact mod_on hR hC _⟩
theorem fall_id {R C : Int} {m : Pic} (hm : OnF R C m) (hr : Ris m) : fallP R C m = m := ris_eq (srs_ris _) hr fun q => by
  rw [mem_fall]
  exact ⟨fun ⟨p, hp, e⟩ => by rw [← e, modP_on (hm.on p hp)]; exact hp, fun h => ⟨q, h, modP_on (hm.on q h)⟩⟩
/-- m is the least of all that l becomes -/
structure Lst (h w : Nat) (l m : Pic) : Prop where
  one : ∃ c ∈ gridP h w, m = shP h w l c
  le : ∀ c ∈ gridP h w, le m (shP h w l c)
theorem mod_grid {h w : Nat} (hh : 0 < h) (hw : 0 < w) (c : Pt) : modP h w c ∈ gridP h w := mem_gridP.mpr (mod_on (by omega) (by omega) c)
theorem Lst.all {h w : Nat} {l m : Pic} (L : Lst h w l m) (hh : 0 < h) (hw : 0 < w) (c : Pt) : Ws.le m (shP h w l c) := by
  have := L.le _ (mod_grid hh hw c)
  rwa [sh_mod] at this
theorem neg_mod {p R : Int} : (-(p % R)) % R = (-p) % R := by
  have := Int.emod_add_mul_ediv p R
  have e : -(p % R) = -p + R * (p / R) := by omega
  rw [e, Int.add_mul_emod_self_left]
theorem mod_neg {a p R : Int} (h0 : 0 ≤ a) (h1 : a < R) (h : (p + a) % R = 0) : (-p) % R = a := by
  have := Int.emod_add_mul_ediv (p + a) R
  exact mod_of h0 h1 (-((p + a) / R)) (by rw [Int.mul_neg]; omega)
theorem lst_zero {h w : Nat} (hh : 0 < h) (hw : 0 < w) {l m : Pic} (hne : l ≠ []) (L : Lst h w l m) : ((0, 0) : Pt) ∈ m := by
  obtain ⟨c, hc, rfl⟩ := L.one
  refine Classical.byContradiction fun hz => ?_
  obtain ⟨e, he⟩ := List.exists_mem_of_ne_nil _ (sh_ne (R := h) (C := w) (c := c) hne)
  have hle := L.all hh hw (c.1 - e.1, c.2 - e.2)
  obtain ⟨p, hp, hpe⟩ := mem_sh.mp he
  have z : ((0, 0) : Pt) ∈ shP h w l (c.1 - e.1, c.2 - e.2) := mem_sh.mpr ⟨p, hp, by
    have e1 : mv (c.1 - e.1) (c.2 - e.2) p = mv (-e.1) (-e.2) (mv c.1 c.2 p) := by rw [mv_mv]; rfl
    rw [e1, ← modP_mv, hpe]
    show modP _ _ (e.1 + -e.1, e.2 + -e.2) = _
    rw [Int.add_right_neg, Int.add_right_neg]
    exact Prod.ext (Int.zero_emod _) (Int.zero_emod _)⟩
  have hr1 := sh_ris h w l c
  have hr2 := sh_ris h w l (c.1 - e.1, c.2 - e.2)
  have on2 := fun q (hq : q ∈ shP h w l (c.1 - e.1, c.2 - e.2)) => sh_on (R := h) (C := w) (by omega) (by omega) hq
  have on1 := fun q (hq : q ∈ shP h w l c) => sh_on (R := h) (C := w) (by omega) (by omega) hq
  generalize shP h w l (c.1 - e.1, c.2 - e.2) = b at hle z hr2 on2
  generalize shP h w l c = a at hle hz hr1 on1 he
  cases a with
  | nil => cases he
  | cons a0 a =>
    cases b with
    | nil => cases z
    | cons b0 b =>
      have hb0 : b0 = (0, 0) := by
        rcases List.mem_cons.mp z with q | q
        · exact q.symm
        · have := lt_pt.mp ((List.pairwise_cons.mp hr2).1 _ q)
          have o := on2 b0 (List.mem_cons_self ..)
          refine Prod.ext ?_ ?_ <;> simp only at this ⊢ <;> omega
      subst hb0
      have ha0 : a0 ≠ (0, 0) := fun q => hz (by rw [q]; exact List.mem_cons_self ..)
      have o := on1 a0 (List.mem_cons_self ..)
      have lt0 : En.lt ((0, 0) : Pt) a0 = true := lt_pt.mpr (by
        rcases Int.lt_or_le 0 a0.1 with q | q
        · exact .inl q
        · refine .inr ⟨by show (0 : Int) = a0.1; omega, ?_⟩
          show (0 : Int) < a0.2
          rcases Int.lt_or_le 0 a0.2 with q2 | q2
          · exact q2
          · exact absurd (Prod.ext (by show a0.1 = 0; omega) (by show a0.2 = 0; omega)) ha0)
      have : En.lt (((0, 0) : Pt) :: b) (a0 :: a) = true := by
        show (if ((0, 0) : Pt) == a0 then _ else En.lt ((0, 0) : Pt) a0) = true
        rw [show (((0, 0) : Pt) == a0) = false by simpa using fun q => ha0 q.symm]
        exact lt0
      unfold Ws.le at hle
      rw [this] at hle
      cases hle
theorem fold_eq {h w : Nat} (hh : 0 < h) (hw : 0 < w) {l m : Pic} (hne : l ≠ []) (L : Lst h w l m) : foldP h w l = m := by
  have hz := lst_zero hh hw hne L
  unfold foldP
  cases hq : fallP (h : Int) (w : Int) l with
  | nil => exact absurd hq (fall_ne hne)
  | cons q r =>
    have hs : ∀ c, shP h w (q :: r) c = shP h w l c := fun c => by rw [← hq, sh_fall]
    refine bst_eq (a := shP h w (q :: r) (-q.1, -q.2)) (l := r.map fun o => shP h w (q :: r) (-o.1, -o.2)) ?_ ?_
    · obtain ⟨c, hc, rfl⟩ := L.one
      obtain ⟨p, hp, e⟩ := mem_sh.mp hz
      have ho : modP h w p ∈ q :: r := by rw [← hq]; exact mem_fall.mpr ⟨p, hp, rfl⟩
      have hg := mem_gridP.mp hc
      have e1 : modP h w (-(modP h w p).1, -(modP h w p).2) = c := by
        have e2 := Prod.ext_iff.mp e
        refine Prod.ext ?_ ?_
        · show (-(p.1 % (h : Int))) % (h : Int) = c.1
          rw [neg_mod]; exact mod_neg hg.1 hg.2.1 e2.1
        · show (-(p.2 % (w : Int))) % (w : Int) = c.2
          rw [neg_mod]; exact mod_neg hg.2.2.1 hg.2.2.2 e2.2
      have e3 : shP h w l c = shP h w (q :: r) (-(modP h w p).1, -(modP h w p).2) := by rw [hs]; exact (congrArg (shP h w l) e1).symm.trans (sh_mod ..)
      rw [e3]
      rcases List.mem_cons.mp ho with z | z
      · rw [z]; exact List.mem_cons_self ..
      · exact List.mem_cons_of_mem _ (List.mem_map.mpr ⟨_, z, rfl⟩)
    · intro x hx
      rcases List.mem_cons.mp hx with rfl | hx
      · rw [hs]; exact L.all hh hw _
      · obtain ⟨o, _, rfl⟩ := List.mem_map.mp hx
        rw [hs]; exact L.all hh hw _
theorem Lst.fall {h w : Nat} {l m : Pic} (L : Lst h w l m) : Lst h w (fallP h w l) m := ⟨by
  obtain ⟨c, hc, e⟩ := L.one
  exact ⟨c, hc, by rw [sh_fall]; exact e⟩, fun c hc => by rw [sh_fall]; exact L.le c hc⟩
/-- moved on the floor it folds to the same -/
theorem Lst.sh {h w : Nat} (hh : 0 < h) (hw : 0 < w) {l m : Pic} (L : Lst h w l m) (d : Pt) : Lst h w (shP h w l d) m := ⟨by
  obtain ⟨c, hc, e⟩ := L.one
  refine ⟨modP h w (c.1 - d.1, c.2 - d.2), mod_grid hh hw _, ?_⟩
  rw [sh_mod, sh_sh, e]
  congr 1
  refine Prod.ext ?_ ?_ <;> simp only <;> omega, fun c hc => by rw [sh_sh]; exact L.all hh hw _⟩
theorem Lst.self {h w : Nat} (hh : 0 < h) (hw : 0 < w) {l m : Pic} (L : Lst h w l m) : Lst h w m m := by
  obtain ⟨c, hc, e⟩ := L.one
  have := L.sh hh hw c
  rwa [← e] at this
def gapP (R C : Int) (o q : Pt) : Pt := modP R C (subP q o)
def ontoP (R C : Int) (l : Pic) : List Pt := match l with
  | [] => []
  | o :: r => srt (((o :: r).filter fun q => shP R C (o :: r) (gapP R C o q) == o :: r).map (gapP R C o))
theorem sorted_ptL {S : Store} (l : Pic) : gSorted (S ++ [.lst (l.map en)]) [.ref S.length] = some ((srt l).map en) := by
  have := sorted_pt (S := S ++ [.lst (l.map en)]) l
  have v1 : view (S ++ [D.lst (l.map en)]) (.ref S.length) = .lst (l.map en) := view_at at_last
  have v2 : view (S ++ [D.lst (l.map en)]) (.lst (l.map en)) = .lst (l.map en) := rfl
  unfold gSorted at this ⊢
  simp only [v1, v2] at this ⊢
  exact this
theorem E_onto {S : Store} {dd df : D} {l : Pic} {R C : Int} (h : rdPic dd = some l) (hf : rdFl df R C) (hR : 0 < R) (hC : 0 < C) (hl : l.length ≤ 1000) : F_onto_itself [dd, df] S = .ok (.lst ((ontoP R C l).map en)) S := by
  have hf' : rdSeq df = some [.int R, .int C] := hf
  have e1 := E_tupled_pic (S := S) h
  rw [U_onto_itself]
  unfold B_onto_itself
  cases l with
  | nil =>
    have em : ∀ T, itOf (en ([] : Pic)) T = .ok (.fix []) T := fun _ => rfl
    have so := sorted_ptL (S := S) []
    have so' : gSorted (S ++ [D.lst []]) [D.ref S.length] = some [] := so
    have lp : ∀ (g : Dg) (B : Ds) (r : Sl) (T : Store), loopF g B [] r T = .ok (.nx r) T := fun _ _ _ _ => rfl
    simp -implicitDefEqProofs only [ev_Blk, ek_blkNx, ek_blkRt, ek_blkBk, ek_blkCt, frz_nil, frz_some, frz_none, frz_int, frz_bl, frz_str, frz_non, frz_tup, frz_lst, frz_set, frz_dct, ev_FzD, ev_MuD, ek_dctF, ek_dctM, ev_Emp, ev_CallD, ek_CallD, ev_optD, ev_Met, ek_Met, ek_Met2, isDct_dct, ev_RevA, ek_RevAL, ek_RevAT, ev_RevN, ek_Rev, ev_Star, ek_StarL, ek_StarT, ek_Star2, ev_ltI, ek_Op, ek_Op2, ek_Un, ek_AndT, ek_AndF, ek_OrT, ek_OrF, ek_Not, ek_IfT, ek_IfF, ek_Cons, ek_Cons2, ek_Fz, ek_Mu, ek_Call, ek_CallN, ek_AddN, ek_AddN2, ek_Sl, ek_Sl2, ek_Sl3, ek_SlN, ek_SlN2, ek_SlN3, ek_FnK, ek_FnK2, ek_Len, ek_Asg, ek_Ret, ek_SIfT, ek_SIfF, ek_Drop, ek_Set, ek_Set2, ek_Set3, ek_OrB, ek_OrBT, ek_OrBF, ek_AndB, ek_AndBT, ek_AndBF, ek_NotB, ek_NotB2, ev_App, ev_Pop, ev_opt, ev_C, ev_Var, ev_Op, ev_Un, ev_Test, ev_test, ev_AndT, ev_OrT, ev_NotT, ev_If, ev_Truth, ev_truB, ev_truI, ev_truL, ev_truT, ev_truN, ev_OrB, ev_AndB, ev_NotB, ev_Nil, ev_Cons, ev_Tup, ev_Chk, ev_Fz, ev_Mu, ev_Call, ev_CallN, ev_optL, ev_AddN, ev_Isi, ev_oNone, ev_oSome, ev_oInt, ev_Sl, ev_SlN, ev_Fn, ev_FnK, ev_Len, ev_sNil, ev_Seq, ev_nx, ev_rt, ev_bk, ev_ct, ev_Asg, ev_nxO, ev_gNm, ev_gsNil, ev_gsCons, ev_Ret, ev_RetN, ev_sIf, ev_Drop, ev_Brk, ev_Cnt, ev_Par, ev_par2, ev_par3, ev_SetIx, ev_stO, ev_iSeq, ev_itL, ev_itT, ev_Ran1, ev_Ran2, ev_Enu, ev_enu, ev_Zip, ev_zipL, ev_zipT, ev_Comp, ev_fix, ev_Yes, ev_wipe0, ev_wipe, ev_For, ev_forF, ev_endRt, ev_endNx, ev_endM, ev_lvT, ev_lvL, ev_lvI, ev_lvB, ev_lvS, ev_lvN, ev_lvD, ev_addI, ev_subI, ev_negI, ev_eqI, ev_neI, ev_eqB, ev_neB, ev_cmpI, ev_isN, ev_isNotN, ev_lenL, ev_lenT, ev_tupL, ev_tupT, ev_lstL, ev_lstT, ev_int, ev_intB, ev_abs, ev_min2, ev_max2, ev_ixL, ev_ixT, Out.bind_ok, bindN_ok, Option.bind_some, List.set_cons_zero, List.set_cons_succ, List.getElem?_cons_zero, List.getElem?_cons_succ, ev_mk0, ev_mk1, ev_mk2, ev_mk3, ev_mk4, ev_ck0, ev_ck, Nat.zero_le, nr_int, nr_bl, nr_str, nr_non, nr_tup, nr_lst, En.nr, noRefs_nil, noRefs_cons, Bool.not_false, Bool.and_self, Bool.and_true, Bool.true_and, List.length_cons, List.length_nil, Nat.reduceAdd, Nat.reduceLeDiff, take_self, take_app, take_set, if_true, if_false, Bool.false_eq_true, Bool.not_true, atI_0, atI_1, ev_tu2, ev_tu2w, ev_tu2L, ev_tu3, ev_tu4, ev_pick0, ev_pick, List.nil_append, List.cons_append, frz_last, lv_last, lv_lastD, isDct_last, isDct_aD, ev_AugN, ek_AugAdd, ek_AugSub, ev_AugS, ek_AugS1, ek_AugS3a, ek_AugS3s, ev_SortK, ek_SortK, ev_MulN, ek_MulN, ek_MulN2, ev_RgL, ev_RgT, ev_Comp2, ev_fix2, ev_AsgM, ev_MinK, e1, em, lp, so']
    rfl
  | cons o r =>
    have em : ∀ T, itOf (en (o :: r)) T = .ok (.fix ((o :: r).map en)) T := fun _ => rfl
    have i0 : ∀ T, gIx T (en (o :: r)) (.int 0) = some (en o) := fun T => by rw [rd_ix (xs := en o :: r.map en) rfl, atI_0]
    refine wp_is ?_
    simp -implicitDefEqProofs only [ev_Blk, ek_blkNx, ek_blkRt, ek_blkBk, ek_blkCt, frz_nil, frz_some, frz_none, frz_int, frz_bl, frz_str, frz_non, frz_tup, frz_lst, frz_set, frz_dct, ev_FzD, ev_MuD, ek_dctF, ek_dctM, ev_Emp, ev_CallD, ek_CallD, ev_optD, ev_Met, ek_Met, ek_Met2, isDct_dct, ev_RevA, ek_RevAL, ek_RevAT, ev_RevN, ek_Rev, ev_Star, ek_StarL, ek_StarT, ek_Star2, ev_ltI, ek_Op, ek_Op2, ek_Un, ek_AndT, ek_AndF, ek_OrT, ek_OrF, ek_Not, ek_IfT, ek_IfF, ek_Cons, ek_Cons2, ek_Fz, ek_Mu, ek_Call, ek_CallN, ek_AddN, ek_AddN2, ek_Sl, ek_Sl2, ek_Sl3, ek_SlN, ek_SlN2, ek_SlN3, ek_FnK, ek_FnK2, ek_Len, ek_Asg, ek_Ret, ek_SIfT, ek_SIfF, ek_Drop, ek_Set, ek_Set2, ek_Set3, ek_OrB, ek_OrBT, ek_OrBF, ek_AndB, ek_AndBT, ek_AndBF, ek_NotB, ek_NotB2, ev_App, ev_Pop, ev_opt, ev_C, ev_Var, ev_Op, ev_Un, ev_Test, ev_test, ev_AndT, ev_OrT, ev_NotT, ev_If, ev_Truth, ev_truB, ev_truI, ev_truL, ev_truT, ev_truN, ev_OrB, ev_AndB, ev_NotB, ev_Nil, ev_Cons, ev_Tup, ev_Chk, ev_Fz, ev_Mu, ev_Call, ev_CallN, ev_optL, ev_AddN, ev_Isi, ev_oNone, ev_oSome, ev_oInt, ev_Sl, ev_SlN, ev_Fn, ev_FnK, ev_Len, ev_sNil, ev_Seq, ev_nx, ev_rt, ev_bk, ev_ct, ev_Asg, ev_nxO, ev_gNm, ev_gsNil, ev_gsCons, ev_Ret, ev_RetN, ev_sIf, ev_Drop, ev_Brk, ev_Cnt, ev_Par, ev_par2, ev_par3, ev_SetIx, ev_stO, ev_iSeq, ev_itL, ev_itT, ev_Ran1, ev_Ran2, ev_Enu, ev_enu, ev_Zip, ev_zipL, ev_zipT, ev_Comp, ev_fix, ev_Yes, ev_wipe0, ev_wipe, ev_For, ev_forF, ev_endRt, ev_endNx, ev_endM, ev_lvT, ev_lvL, ev_lvI, ev_lvB, ev_lvS, ev_lvN, ev_lvD, ev_addI, ev_subI, ev_negI, ev_eqI, ev_neI, ev_eqB, ev_neB, ev_cmpI, ev_isN, ev_isNotN, ev_lenL, ev_lenT, ev_tupL, ev_tupT, ev_lstL, ev_lstT, ev_int, ev_intB, ev_abs, ev_min2, ev_max2, ev_ixL, ev_ixT, Out.bind_ok, bindN_ok, Option.bind_some, List.set_cons_zero, List.set_cons_succ, List.getElem?_cons_zero, List.getElem?_cons_succ, ev_mk0, ev_mk1, ev_mk2, ev_mk3, ev_mk4, ev_ck0, ev_ck, Nat.zero_le, nr_int, nr_bl, nr_str, nr_non, nr_tup, nr_lst, En.nr, noRefs_nil, noRefs_cons, Bool.not_false, Bool.and_self, Bool.and_true, Bool.true_and, List.length_cons, List.length_nil, Nat.reduceAdd, Nat.reduceLeDiff, take_self, take_app, take_set, if_true, if_false, Bool.false_eq_true, Bool.not_true, atI_0, atI_1, ev_tu2, ev_tu2w, ev_tu2L, ev_tu3, ev_tu4, ev_pick0, ev_pick, List.nil_append, List.cons_append, frz_last, lv_last, lv_lastD, isDct_last, isDct_aD, ev_AugN, ek_AugAdd, ek_AugSub, ev_AugS, ek_AugS1, ek_AugS3a, ek_AugS3s, ev_SortK, ek_SortK, ev_MulN, ek_MulN, ek_MulN2, ev_RgL, ev_RgT, ev_Comp2, ev_fix2, ev_AsgM, ev_MinK, e1, em]
    rw [← wp_bind_end]
    refine wp_loopE (e := (en : Pt → D)) (l := o :: r) (I := fun pre r' T => ∃ x4 x5 x6 x7, r' = [some dd, some df, some (en (o :: r)), some (.ref S.length), x4, x5, x6, x7] ∧ T = S ++ [.lst (((pre.filter fun q => shP R C (o :: r) (gapP R C o q) == o :: r).map (gapP R C o)).map en)]) ⟨none, none, none, none, rfl, rfl⟩ ?_ ?_
    · rintro pre q post r' T hpe ⟨x4, x5, x6, x7, rfl, rfl⟩
      refine ⟨_, (rd_tu (pt_seq q) rfl).trans rfl, ?_⟩
      have hpl : pre.length ≤ 1000 := by have := congrArg List.length hpe; simp at this hl; omega
      have hfl : ((pre.filter fun q => shP R C (o :: r) (gapP R C o q) == o :: r).map (gapP R C o)).length ≤ 1000 := by
        rw [List.length_map]; exact Nat.le_trans (List.length_filter_le _ _) hpl
      have hsn : ((pre ++ [q]).filter fun q => shP R C (o :: r) (gapP R C o q) == o :: r).map (gapP R C o) = (pre.filter fun q => shP R C (o :: r) (gapP R C o q) == o :: r).map (gapP R C o) ++ (if shP R C (o :: r) (gapP R C o q) == o :: r then [gapP R C o q] else []) := by
        rw [List.filter_append, List.map_append, List.filter_cons]
        split <;> rfl
      rw [hsn]
      generalize (pre.filter fun q => shP R C (o :: r) (gapP R C o q) == o :: r).map (gapP R C o) = acc at hfl
      have m1 := E_moved (S := S ++ [.lst (acc.map en)]) (a := (q.1 - o.1) % R) (b := (q.2 - o.2) % C) (rd_pic (o :: r))
      have f1 := E_fallen (S := S ++ [.lst (acc.map en)]) (R := R) (C := C) (rd_pic ((o :: r).map (mv ((q.1 - o.1) % R) ((q.2 - o.2) % C)))) hf hR hC (by rw [List.length_map]; exact hl)
      rw [List.map_map] at f1
      have ee := eq_en (α := List Pt) (by decide) (S := S ++ [.lst (acc.map en)]) (shP R C (o :: r) (gapP R C o q)) (o :: r)
      have f2 : F_fallen [en ((o :: r).map (mv ((q.1 - o.1) % R) ((q.2 - o.2) % C))), df] (S ++ [.lst (acc.map en)]) = .ok (en (shP R C (o :: r) (gapP R C o q))) (S ++ [.lst (acc.map en)]) := f1
      simp -implicitDefEqProofs only [ev_Blk, ek_blkNx, ek_blkRt, ek_blkBk, ek_blkCt, frz_nil, frz_some, frz_none, frz_int, frz_bl, frz_str, frz_non, frz_tup, frz_lst, frz_set, frz_dct, ev_FzD, ev_MuD, ek_dctF, ek_dctM, ev_Emp, ev_CallD, ek_CallD, ev_optD, ev_Met, ek_Met, ek_Met2, isDct_dct, ev_RevA, ek_RevAL, ek_RevAT, ev_RevN, ek_Rev, ev_Star, ek_StarL, ek_StarT, ek_Star2, ev_ltI, ek_Op, ek_Op2, ek_Un, ek_AndT, ek_AndF, ek_OrT, ek_OrF, ek_Not, ek_IfT, ek_IfF, ek_Cons, ek_Cons2, ek_Fz, ek_Mu, ek_Call, ek_CallN, ek_AddN, ek_AddN2, ek_Sl, ek_Sl2, ek_Sl3, ek_SlN, ek_SlN2, ek_SlN3, ek_FnK, ek_FnK2, ek_Len, ek_Asg, ek_Ret, ek_SIfT, ek_SIfF, ek_Drop, ek_Set, ek_Set2, ek_Set3, ek_OrB, ek_OrBT, ek_OrBF, ek_AndB, ek_AndBT, ek_AndBF, ek_NotB, ek_NotB2, ev_App, ev_Pop, ev_opt, ev_C, ev_Var, ev_Op, ev_Un, ev_Test, ev_test, ev_AndT, ev_OrT, ev_NotT, ev_If, ev_Truth, ev_truB, ev_truI, ev_truL, ev_truT, ev_truN, ev_OrB, ev_AndB, ev_NotB, ev_Nil, ev_Cons, ev_Tup, ev_Chk, ev_Fz, ev_Mu, ev_Call, ev_CallN, ev_optL, ev_AddN, ev_Isi, ev_oNone, ev_oSome, ev_oInt, ev_Sl, ev_SlN, ev_Fn, ev_FnK, ev_Len, ev_sNil, ev_Seq, ev_nx, ev_rt, ev_bk, ev_ct, ev_Asg, ev_nxO, ev_gNm, ev_gsNil, ev_gsCons, ev_Ret, ev_RetN, ev_sIf, ev_Drop, ev_Brk, ev_Cnt, ev_Par, ev_par2, ev_par3, ev_SetIx, ev_stO, ev_iSeq, ev_itL, ev_itT, ev_Ran1, ev_Ran2, ev_Enu, ev_enu, ev_Zip, ev_zipL, ev_zipT, ev_Comp, ev_fix, ev_Yes, ev_wipe0, ev_wipe, ev_For, ev_forF, ev_endRt, ev_endNx, ev_endM, ev_lvT, ev_lvL, ev_lvI, ev_lvB, ev_lvS, ev_lvN, ev_lvD, ev_addI, ev_subI, ev_negI, ev_eqI, ev_neI, ev_eqB, ev_neB, ev_cmpI, ev_isN, ev_isNotN, ev_lenL, ev_lenT, ev_tupL, ev_tupT, ev_lstL, ev_lstT, ev_int, ev_intB, ev_abs, ev_min2, ev_max2, ev_ixL, ev_ixT, Out.bind_ok, bindN_ok, Option.bind_some, List.set_cons_zero, List.set_cons_succ, List.getElem?_cons_zero, List.getElem?_cons_succ, ev_mk0, ev_mk1, ev_mk2, ev_mk3, ev_mk4, ev_ck0, ev_ck, Nat.zero_le, nr_int, nr_bl, nr_str, nr_non, nr_tup, nr_lst, En.nr, noRefs_nil, noRefs_cons, Bool.not_false, Bool.and_self, Bool.and_true, Bool.true_and, List.length_cons, List.length_nil, Nat.reduceAdd, Nat.reduceLeDiff, take_self, take_app, take_set, if_true, if_false, Bool.false_eq_true, Bool.not_true, atI_0, atI_1, ev_tu2, ev_tu2w, ev_tu2L, ev_tu3, ev_tu4, ev_pick0, ev_pick, List.nil_append, List.cons_append, frz_last, lv_last, lv_lastD, isDct_last, isDct_aD, ev_AugN, ek_AugAdd, ek_AugSub, ev_AugS, ek_AugS1, ek_AugS3a, ek_AugS3s, ev_SortK, ek_SortK, ev_MulN, ek_MulN, ek_MulN2, ev_RgL, ev_RgT, ev_Comp2, ev_fix2, ev_AsgM, ev_MinK, i0, rd_ix (pt_seq o), rd_ix hf', atI_0, atI_1, ev_modI hR, ev_modI hC, m1, f2, ee]
      cases hc : shP R C (o :: r) (gapP R C o q) == o :: r with
      | true =>
        have ea := app_last (S := S) (xs := acc.map en) (e := en (gapP R C o q)) rfl (by rw [List.length_map]; omega)
        have ea' : appAt (S ++ [.lst (acc.map en)]) (.ref S.length) (.tup [.int ((q.1 - o.1) % R), .int ((q.2 - o.2) % C)]) = some (S ++ [.lst (acc.map en ++ [en (gapP R C o q)])]) := ea
        simp -implicitDefEqProofs only [ev_Blk, ek_blkNx, ek_blkRt, ek_blkBk, ek_blkCt, frz_nil, frz_some, frz_none, frz_int, frz_bl, frz_str, frz_non, frz_tup, frz_lst, frz_set, frz_dct, ev_FzD, ev_MuD, ek_dctF, ek_dctM, ev_Emp, ev_CallD, ek_CallD, ev_optD, ev_Met, ek_Met, ek_Met2, isDct_dct, ev_RevA, ek_RevAL, ek_RevAT, ev_RevN, ek_Rev, ev_Star, ek_StarL, ek_StarT, ek_Star2, ev_ltI, ek_Op, ek_Op2, ek_Un, ek_AndT, ek_AndF, ek_OrT, ek_OrF, ek_Not, ek_IfT, ek_IfF, ek_Cons, ek_Cons2, ek_Fz, ek_Mu, ek_Call, ek_CallN, ek_AddN, ek_AddN2, ek_Sl, ek_Sl2, ek_Sl3, ek_SlN, ek_SlN2, ek_SlN3, ek_FnK, ek_FnK2, ek_Len, ek_Asg, ek_Ret, ek_SIfT, ek_SIfF, ek_Drop, ek_Set, ek_Set2, ek_Set3, ek_OrB, ek_OrBT, ek_OrBF, ek_AndB, ek_AndBT, ek_AndBF, ek_NotB, ek_NotB2, ev_App, ev_Pop, ev_opt, ev_C, ev_Var, ev_Op, ev_Un, ev_Test, ev_test, ev_AndT, ev_OrT, ev_NotT, ev_If, ev_Truth, ev_truB, ev_truI, ev_truL, ev_truT, ev_truN, ev_OrB, ev_AndB, ev_NotB, ev_Nil, ev_Cons, ev_Tup, ev_Chk, ev_Fz, ev_Mu, ev_Call, ev_CallN, ev_optL, ev_AddN, ev_Isi, ev_oNone, ev_oSome, ev_oInt, ev_Sl, ev_SlN, ev_Fn, ev_FnK, ev_Len, ev_sNil, ev_Seq, ev_nx, ev_rt, ev_bk, ev_ct, ev_Asg, ev_nxO, ev_gNm, ev_gsNil, ev_gsCons, ev_Ret, ev_RetN, ev_sIf, ev_Drop, ev_Brk, ev_Cnt, ev_Par, ev_par2, ev_par3, ev_SetIx, ev_stO, ev_iSeq, ev_itL, ev_itT, ev_Ran1, ev_Ran2, ev_Enu, ev_enu, ev_Zip, ev_zipL, ev_zipT, ev_Comp, ev_fix, ev_Yes, ev_wipe0, ev_wipe, ev_For, ev_forF, ev_endRt, ev_endNx, ev_endM, ev_lvT, ev_lvL, ev_lvI, ev_lvB, ev_lvS, ev_lvN, ev_lvD, ev_addI, ev_subI, ev_negI, ev_eqI, ev_neI, ev_eqB, ev_neB, ev_cmpI, ev_isN, ev_isNotN, ev_lenL, ev_lenT, ev_tupL, ev_tupT, ev_lstL, ev_lstT, ev_int, ev_intB, ev_abs, ev_min2, ev_max2, ev_ixL, ev_ixT, Out.bind_ok, bindN_ok, Option.bind_some, List.set_cons_zero, List.set_cons_succ, List.getElem?_cons_zero, List.getElem?_cons_succ, ev_mk0, ev_mk1, ev_mk2, ev_mk3, ev_mk4, ev_ck0, ev_ck, Nat.zero_le, nr_int, nr_bl, nr_str, nr_non, nr_tup, nr_lst, En.nr, noRefs_nil, noRefs_cons, Bool.not_false, Bool.and_self, Bool.and_true, Bool.true_and, List.length_cons, List.length_nil, Nat.reduceAdd, Nat.reduceLeDiff, take_self, take_app, take_set, if_true, if_false, Bool.false_eq_true, Bool.not_true, atI_0, atI_1, ev_tu2, ev_tu2w, ev_tu2L, ev_tu3, ev_tu4, ev_pick0, ev_pick, List.nil_append, List.cons_append, ek_App isL_last, ev_app ea', wp_ok]
        exact ⟨_, _, _, _, rfl, by rw [List.map_append]; rfl⟩
      | false =>
        simp -implicitDefEqProofs only [ev_Blk, ek_blkNx, ek_blkRt, ek_blkBk, ek_blkCt, frz_nil, frz_some, frz_none, frz_int, frz_bl, frz_str, frz_non, frz_tup, frz_lst, frz_set, frz_dct, ev_FzD, ev_MuD, ek_dctF, ek_dctM, ev_Emp, ev_CallD, ek_CallD, ev_optD, ev_Met, ek_Met, ek_Met2, isDct_dct, ev_RevA, ek_RevAL, ek_RevAT, ev_RevN, ek_Rev, ev_Star, ek_StarL, ek_StarT, ek_Star2, ev_ltI, ek_Op, ek_Op2, ek_Un, ek_AndT, ek_AndF, ek_OrT, ek_OrF, ek_Not, ek_IfT, ek_IfF, ek_Cons, ek_Cons2, ek_Fz, ek_Mu, ek_Call, ek_CallN, ek_AddN, ek_AddN2, ek_Sl, ek_Sl2, ek_Sl3, ek_SlN, ek_SlN2, ek_SlN3, ek_FnK, ek_FnK2, ek_Len, ek_Asg, ek_Ret, ek_SIfT, ek_SIfF, ek_Drop, ek_Set, ek_Set2, ek_Set3, ek_OrB, ek_OrBT, ek_OrBF, ek_AndB, ek_AndBT, ek_AndBF, ek_NotB, ek_NotB2, ev_App, ev_Pop, ev_opt, ev_C, ev_Var, ev_Op, ev_Un, ev_Test, ev_test, ev_AndT, ev_OrT, ev_NotT, ev_If, ev_Truth, ev_truB, ev_truI, ev_truL, ev_truT, ev_truN, ev_OrB, ev_AndB, ev_NotB, ev_Nil, ev_Cons, ev_Tup, ev_Chk, ev_Fz, ev_Mu, ev_Call, ev_CallN, ev_optL, ev_AddN, ev_Isi, ev_oNone, ev_oSome, ev_oInt, ev_Sl, ev_SlN, ev_Fn, ev_FnK, ev_Len, ev_sNil, ev_Seq, ev_nx, ev_rt, ev_bk, ev_ct, ev_Asg, ev_nxO, ev_gNm, ev_gsNil, ev_gsCons, ev_Ret, ev_RetN, ev_sIf, ev_Drop, ev_Brk, ev_Cnt, ev_Par, ev_par2, ev_par3, ev_SetIx, ev_stO, ev_iSeq, ev_itL, ev_itT, ev_Ran1, ev_Ran2, ev_Enu, ev_enu, ev_Zip, ev_zipL, ev_zipT, ev_Comp, ev_fix, ev_Yes, ev_wipe0, ev_wipe, ev_For, ev_forF, ev_endRt, ev_endNx, ev_endM, ev_lvT, ev_lvL, ev_lvI, ev_lvB, ev_lvS, ev_lvN, ev_lvD, ev_addI, ev_subI, ev_negI, ev_eqI, ev_neI, ev_eqB, ev_neB, ev_cmpI, ev_isN, ev_isNotN, ev_lenL, ev_lenT, ev_tupL, ev_tupT, ev_lstL, ev_lstT, ev_int, ev_intB, ev_abs, ev_min2, ev_max2, ev_ixL, ev_ixT, Out.bind_ok, bindN_ok, Option.bind_some, List.set_cons_zero, List.set_cons_succ, List.getElem?_cons_zero, List.getElem?_cons_succ, ev_mk0, ev_mk1, ev_mk2, ev_mk3, ev_mk4, ev_ck0, ev_ck, Nat.zero_le, nr_int, nr_bl, nr_str, nr_non, nr_tup, nr_lst, En.nr, noRefs_nil, noRefs_cons, Bool.not_false, Bool.and_self, Bool.and_true, Bool.true_and, List.length_cons, List.length_nil, Nat.reduceAdd, Nat.reduceLeDiff, take_self, take_app, take_set, if_true, if_false, Bool.false_eq_true, Bool.not_true, atI_0, atI_1, ev_tu2, ev_tu2w, ev_tu2L, ev_tu3, ev_tu4, ev_pick0, ev_pick, List.nil_append, List.cons_append, wp_ok]
        exact ⟨_, _, _, _, rfl, by rw [List.map_append]; exact congrArg (fun z => S ++ [D.lst z]) (List.append_nil _).symm⟩
    · rintro r' T ⟨x4, x5, x6, x7, rfl, rfl⟩
      have so := sorted_ptL (S := S) (((o :: r).filter fun q => shP R C (o :: r) (gapP R C o q) == o :: r).map (gapP R C o))
      simp -implicitDefEqProofs only [ev_Blk, ek_blkNx, ek_blkRt, ek_blkBk, ek_blkCt, frz_nil, frz_some, frz_none, frz_int, frz_bl, frz_str, frz_non, frz_tup, frz_lst, frz_set, frz_dct, ev_FzD, ev_MuD, ek_dctF, ek_dctM, ev_Emp, ev_CallD, ek_CallD, ev_optD, ev_Met, ek_Met, ek_Met2, isDct_dct, ev_RevA, ek_RevAL, ek_RevAT, ev_RevN, ek_Rev, ev_Star, ek_StarL, ek_StarT, ek_Star2, ev_ltI, ek_Op, ek_Op2, ek_Un, ek_AndT, ek_AndF, ek_OrT, ek_OrF, ek_Not, ek_IfT, ek_IfF, ek_Cons, ek_Cons2, ek_Fz, ek_Mu, ek_Call, ek_CallN, ek_AddN, ek_AddN2, ek_Sl, ek_Sl2, ek_Sl3, ek_SlN, ek_SlN2, ek_SlN3, ek_FnK, ek_FnK2, ek_Len, ek_Asg, ek_Ret, ek_SIfT, ek_SIfF, ek_Drop, ek_Set, ek_Set2, ek_Set3, ek_OrB, ek_OrBT, ek_OrBF, ek_AndB, ek_AndBT, ek_AndBF, ek_NotB, ek_NotB2, ev_App, ev_Pop, ev_opt, ev_C, ev_Var, ev_Op, ev_Un, ev_Test, ev_test, ev_AndT, ev_OrT, ev_NotT, ev_If, ev_Truth, ev_truB, ev_truI, ev_truL, ev_truT, ev_truN, ev_OrB, ev_AndB, ev_NotB, ev_Nil, ev_Cons, ev_Tup, ev_Chk, ev_Fz, ev_Mu, ev_Call, ev_CallN, ev_optL, ev_AddN, ev_Isi, ev_oNone, ev_oSome, ev_oInt, ev_Sl, ev_SlN, ev_Fn, ev_FnK, ev_Len, ev_sNil, ev_Seq, ev_nx, ev_rt, ev_bk, ev_ct, ev_Asg, ev_nxO, ev_gNm, ev_gsNil, ev_gsCons, ev_Ret, ev_RetN, ev_sIf, ev_Drop, ev_Brk, ev_Cnt, ev_Par, ev_par2, ev_par3, ev_SetIx, ev_stO, ev_iSeq, ev_itL, ev_itT, ev_Ran1, ev_Ran2, ev_Enu, ev_enu, ev_Zip, ev_zipL, ev_zipT, ev_Comp, ev_fix, ev_Yes, ev_wipe0, ev_wipe, ev_For, ev_forF, ev_endRt, ev_endNx, ev_endM, ev_lvT, ev_lvL, ev_lvI, ev_lvB, ev_lvS, ev_lvN, ev_lvD, ev_addI, ev_subI, ev_negI, ev_eqI, ev_neI, ev_eqB, ev_neB, ev_cmpI, ev_isN, ev_isNotN, ev_lenL, ev_lenT, ev_tupL, ev_tupT, ev_lstL, ev_lstT, ev_int, ev_intB, ev_abs, ev_min2, ev_max2, ev_ixL, ev_ixT, Out.bind_ok, bindN_ok, Option.bind_some, List.set_cons_zero, List.set_cons_succ, List.getElem?_cons_zero, List.getElem?_cons_succ, ev_mk0, ev_mk1, ev_mk2, ev_mk3, ev_mk4, ev_ck0, ev_ck, Nat.zero_le, nr_int, nr_bl, nr_str, nr_non, nr_tup, nr_lst, En.nr, noRefs_nil, noRefs_cons, Bool.not_false, Bool.and_self, Bool.and_true, Bool.true_and, List.length_cons, List.length_nil, Nat.reduceAdd, Nat.reduceLeDiff, take_self, take_app, take_set, if_true, if_false, Bool.false_eq_true, Bool.not_true, atI_0, atI_1, ev_tu2, ev_tu2w, ev_tu2L, ev_tu3, ev_tu4, ev_pick0, ev_pick, List.nil_append, List.cons_append, frz_last, lv_last, lv_lastD, isDct_last, isDct_aD, ev_AugN, ek_AugAdd, ek_AugSub, ev_AugS, ek_AugS1, ek_AugS3a, ek_AugS3s, ev_SortK, ek_SortK, ev_MulN, ek_MulN, ek_MulN2, ev_RgL, ev_RgT, ev_Comp2, ev_fix2, ev_AsgM, ev_MinK, so, wp_ok]
      exact ⟨rfl, trivial⟩
theorem gap_inj {R C : Int} {o p q : Pt} (hp : 0 ≤ p.1 ∧ p.1 < R ∧ 0 ≤ p.2 ∧ p.2 < C) (hq : 0 ≤ q.1 ∧ q.1 < R ∧ 0 ≤ q.2 ∧ q.2 < C) (e : gapP R C o p = gapP R C o q) : p = q := by
  have hR : 0 < R := by omega
  have hC : 0 < C := by omega
  have h1 := (sub_mod hp (mod_on hR hC (subP p o))).mp rfl
  have h2 := (sub_mod hq (mod_on hR hC (subP q o))).mp rfl
  have e' : modP R C (subP p o) = modP R C (subP q o) := e
  rw [h1, e']; exact h2.symm
theorem onto_grid {h w : Nat} (hh : 0 < h) (hw : 0 < w) {l : Pic} (hm : OnF h w l) (hr : Ris l) (hne : l ≠ []) : ontoP h w l = (gridP h w).filter fun c => shP h w l c == l := by
  cases l with
  | nil => exact absurd rfl hne
  | cons o r =>
    unfold ontoP
    have on := hm.on
    have o0 := on o (List.mem_cons_self ..)
    refine ris_eq (srt_ris ?_) ((grid_ris h w).filter _) fun c => ?_
    · refine List.pairwise_map.mpr (List.Pairwise.imp_of_mem (fun {x y} hx hy hne e => hne ?_) (hm.nd.filter _))
      exact gap_inj (on x (List.mem_filter.mp hx).1) (on y (List.mem_filter.mp hy).1) e
    · rw [mem_srt, List.mem_map, List.mem_filter]
      constructor
      · rintro ⟨q, hq, rfl⟩
        exact ⟨mod_grid hh hw _, (List.mem_filter.mp hq).2⟩
      · rintro ⟨hc, he⟩
        have hg := mem_gridP.mp hc
        have e1 : shP h w (o :: r) c = o :: r := eq_of_beq he
        have hq : modP h w (mv c.1 c.2 o) ∈ o :: r := by
          have : modP h w (mv c.1 c.2 o) ∈ shP h w (o :: r) c := mem_sh.mpr ⟨o, List.mem_cons_self .., rfl⟩
          rwa [e1] at this
        have hgap : gapP h w o (modP h w (mv c.1 c.2 o)) = c := (sub_mod (on _ hq) hg).mpr rfl
        exact ⟨_, List.mem_filter.mpr ⟨hq, by rw [hgap]; exact he⟩, hgap⟩
def laidL (R C : Int) (l : Pic) (d a : Nat) : Pic := l.flatMap fun p => (rgI 0 d).flatMap fun y => (rgI 0 a).map fun x => (p.1 + y * R, p.2 + x * C)
theorem E_laid {S : Store} {dd df : D} {l : Pic} {R C : Int} {d a : Nat} (h : rdPic dd = some l) (hf : rdFl df R C) (hd : d ≤ 100000) (ha : a ≤ 100000) (hl : l.length * (d * a) ≤ 1000000) : F_laid [dd, df, .int (d : Int), .int (a : Int)] S = .ok (en (srt (laidL R C l d a))) S := by
  obtain ⟨xs, h1, h2⟩ := rdL_some h
  have hf' : rdSeq df = some [.int R, .int C] := hf
  rw [U_laid]
  unfold B_laid
  have r1 : ∀ (r : Sl) (T : Store), r[2]? = some (some (.int (d : Int))) → iRan1 (dCons (dVar 2) dNil) r T = .ok (.fix ((rgI 0 d).map en)) T := fun r T e => by
    have q := ran1_nat (S := T) (show d ≤ 1000000 by omega)
    rw [← map_int_en, ← rng_en]
    simp -implicitDefEqProofs only [ev_Blk, ek_blkNx, ek_blkRt, ek_blkBk, ek_blkCt, frz_nil, frz_some, frz_none, frz_int, frz_bl, frz_str, frz_non, frz_tup, frz_lst, frz_set, frz_dct, ev_FzD, ev_MuD, ek_dctF, ek_dctM, ev_Emp, ev_CallD, ek_CallD, ev_optD, ev_Met, ek_Met, ek_Met2, isDct_dct, ev_RevA, ek_RevAL, ek_RevAT, ev_RevN, ek_Rev, ev_Star, ek_StarL, ek_StarT, ek_Star2, ev_ltI, ek_Op, ek_Op2, ek_Un, ek_AndT, ek_AndF, ek_OrT, ek_OrF, ek_Not, ek_IfT, ek_IfF, ek_Cons, ek_Cons2, ek_Fz, ek_Mu, ek_Call, ek_CallN, ek_AddN, ek_AddN2, ek_Sl, ek_Sl2, ek_Sl3, ek_SlN, ek_SlN2, ek_SlN3, ek_FnK, ek_FnK2, ek_Len, ek_Asg, ek_Ret, ek_SIfT, ek_SIfF, ek_Drop, ek_Set, ek_Set2, ek_Set3, ek_OrB, ek_OrBT, ek_OrBF, ek_AndB, ek_AndBT, ek_AndBF, ek_NotB, ek_NotB2, ev_App, ev_Pop, ev_opt, ev_C, ev_Var, ev_Op, ev_Un, ev_Test, ev_test, ev_AndT, ev_OrT, ev_NotT, ev_If, ev_Truth, ev_truB, ev_truI, ev_truL, ev_truT, ev_truN, ev_OrB, ev_AndB, ev_NotB, ev_Nil, ev_Cons, ev_Tup, ev_Chk, ev_Fz, ev_Mu, ev_Call, ev_CallN, ev_optL, ev_AddN, ev_Isi, ev_oNone, ev_oSome, ev_oInt, ev_Sl, ev_SlN, ev_Fn, ev_FnK, ev_Len, ev_sNil, ev_Seq, ev_nx, ev_rt, ev_bk, ev_ct, ev_Asg, ev_nxO, ev_gNm, ev_gsNil, ev_gsCons, ev_Ret, ev_RetN, ev_sIf, ev_Drop, ev_Brk, ev_Cnt, ev_Par, ev_par2, ev_par3, ev_SetIx, ev_stO, ev_iSeq, ev_itL, ev_itT, ev_Ran1, ev_Ran2, ev_Enu, ev_enu, ev_Zip, ev_zipL, ev_zipT, ev_Comp, ev_fix, ev_Yes, ev_wipe0, ev_wipe, ev_For, ev_forF, ev_endRt, ev_endNx, ev_endM, ev_lvT, ev_lvL, ev_lvI, ev_lvB, ev_lvS, ev_lvN, ev_lvD, ev_addI, ev_subI, ev_negI, ev_eqI, ev_neI, ev_eqB, ev_neB, ev_cmpI, ev_isN, ev_isNotN, ev_lenL, ev_lenT, ev_tupL, ev_tupT, ev_lstL, ev_lstT, ev_int, ev_intB, ev_abs, ev_min2, ev_max2, ev_ixL, ev_ixT, Out.bind_ok, bindN_ok, Option.bind_some, List.set_cons_zero, List.set_cons_succ, List.getElem?_cons_zero, List.getElem?_cons_succ, ev_mk0, ev_mk1, ev_mk2, ev_mk3, ev_mk4, ev_ck0, ev_ck, Nat.zero_le, nr_int, nr_bl, nr_str, nr_non, nr_tup, nr_lst, En.nr, noRefs_nil, noRefs_cons, Bool.not_false, Bool.and_self, Bool.and_true, Bool.true_and, List.length_cons, List.length_nil, Nat.reduceAdd, Nat.reduceLeDiff, take_self, take_app, take_set, if_true, if_false, Bool.false_eq_true, Bool.not_true, atI_0, atI_1, ev_tu2, ev_tu2w, ev_tu2L, ev_tu3, ev_tu4, ev_pick0, ev_pick, List.nil_append, List.cons_append, frz_last, lv_last, lv_lastD, isDct_last, isDct_aD, ev_AugN, ek_AugAdd, ek_AugSub, ev_AugS, ek_AugS1, ek_AugS3a, ek_AugS3s, ev_SortK, ek_SortK, ev_MulN, ek_MulN, ek_MulN2, ev_RgL, ev_RgT, ev_Comp2, ev_fix2, ev_AsgM, ev_MinK, e, q]
  have r2 : ∀ (r : Sl) (T : Store), r[3]? = some (some (.int (a : Int))) → iRan1 (dCons (dVar 3) dNil) r T = .ok (.fix ((rgI 0 a).map en)) T := fun r T e => by
    have q := ran1_nat (S := T) (show a ≤ 1000000 by omega)
    rw [← map_int_en, ← rng_en]
    simp -implicitDefEqProofs only [ev_Blk, ek_blkNx, ek_blkRt, ek_blkBk, ek_blkCt, frz_nil, frz_some, frz_none, frz_int, frz_bl, frz_str, frz_non, frz_tup, frz_lst, frz_set, frz_dct, ev_FzD, ev_MuD, ek_dctF, ek_dctM, ev_Emp, ev_CallD, ek_CallD, ev_optD, ev_Met, ek_Met, ek_Met2, isDct_dct, ev_RevA, ek_RevAL, ek_RevAT, ev_RevN, ek_Rev, ev_Star, ek_StarL, ek_StarT, ek_Star2, ev_ltI, ek_Op, ek_Op2, ek_Un, ek_AndT, ek_AndF, ek_OrT, ek_OrF, ek_Not, ek_IfT, ek_IfF, ek_Cons, ek_Cons2, ek_Fz, ek_Mu, ek_Call, ek_CallN, ek_AddN, ek_AddN2, ek_Sl, ek_Sl2, ek_Sl3, ek_SlN, ek_SlN2, ek_SlN3, ek_FnK, ek_FnK2, ek_Len, ek_Asg, ek_Ret, ek_SIfT, ek_SIfF, ek_Drop, ek_Set, ek_Set2, ek_Set3, ek_OrB, ek_OrBT, ek_OrBF, ek_AndB, ek_AndBT, ek_AndBF, ek_NotB, ek_NotB2, ev_App, ev_Pop, ev_opt, ev_C, ev_Var, ev_Op, ev_Un, ev_Test, ev_test, ev_AndT, ev_OrT, ev_NotT, ev_If, ev_Truth, ev_truB, ev_truI, ev_truL, ev_truT, ev_truN, ev_OrB, ev_AndB, ev_NotB, ev_Nil, ev_Cons, ev_Tup, ev_Chk, ev_Fz, ev_Mu, ev_Call, ev_CallN, ev_optL, ev_AddN, ev_Isi, ev_oNone, ev_oSome, ev_oInt, ev_Sl, ev_SlN, ev_Fn, ev_FnK, ev_Len, ev_sNil, ev_Seq, ev_nx, ev_rt, ev_bk, ev_ct, ev_Asg, ev_nxO, ev_gNm, ev_gsNil, ev_gsCons, ev_Ret, ev_RetN, ev_sIf, ev_Drop, ev_Brk, ev_Cnt, ev_Par, ev_par2, ev_par3, ev_SetIx, ev_stO, ev_iSeq, ev_itL, ev_itT, ev_Ran1, ev_Ran2, ev_Enu, ev_enu, ev_Zip, ev_zipL, ev_zipT, ev_Comp, ev_fix, ev_Yes, ev_wipe0, ev_wipe, ev_For, ev_forF, ev_endRt, ev_endNx, ev_endM, ev_lvT, ev_lvL, ev_lvI, ev_lvB, ev_lvS, ev_lvN, ev_lvD, ev_addI, ev_subI, ev_negI, ev_eqI, ev_neI, ev_eqB, ev_neB, ev_cmpI, ev_isN, ev_isNotN, ev_lenL, ev_lenT, ev_tupL, ev_tupT, ev_lstL, ev_lstT, ev_int, ev_intB, ev_abs, ev_min2, ev_max2, ev_ixL, ev_ixT, Out.bind_ok, bindN_ok, Option.bind_some, List.set_cons_zero, List.set_cons_succ, List.getElem?_cons_zero, List.getElem?_cons_succ, ev_mk0, ev_mk1, ev_mk2, ev_mk3, ev_mk4, ev_ck0, ev_ck, Nat.zero_le, nr_int, nr_bl, nr_str, nr_non, nr_tup, nr_lst, En.nr, noRefs_nil, noRefs_cons, Bool.not_false, Bool.and_self, Bool.and_true, Bool.true_and, List.length_cons, List.length_nil, Nat.reduceAdd, Nat.reduceLeDiff, take_self, take_app, take_set, if_true, if_false, Bool.false_eq_true, Bool.not_true, atI_0, atI_1, ev_tu2, ev_tu2w, ev_tu2L, ev_tu3, ev_tu4, ev_pick0, ev_pick, List.nil_append, List.cons_append, frz_last, lv_last, lv_lastD, isDct_last, isDct_aD, ev_AugN, ek_AugAdd, ek_AugSub, ev_AugS, ek_AugS1, ek_AugS3a, ek_AugS3s, ev_SortK, ek_SortK, ev_MulN, ek_MulN, ek_MulN2, ev_RgL, ev_RgT, ev_Comp2, ev_fix2, ev_AsgM, ev_MinK, e, q]
  have hlen : ((laidL R C l d a).map (en : Pt → D)).length = l.length * (d * a) := by
    rw [List.length_map]
    unfold laidL
    have e2 : ∀ p : Pt, ((rgI 0 d).flatMap fun y => (rgI 0 a).map fun x => ((p.1 + y * R, p.2 + x * C) : Pt)).length = d * a := fun p => by
      rw [List.length_flatMap]
      have : ((rgI 0 d).map fun y => ((rgI 0 a).map fun x => ((p.1 + y * R, p.2 + x * C) : Pt)).length) = (rgI 0 d).map fun _ => a := List.map_congr_left fun y _ => by rw [List.length_map, rgI_len]
      rw [this, List.map_const', rgI_len, List.sum_replicate_nat]
    rw [List.length_flatMap]
    have : (l.map fun p => ((rgI 0 d).flatMap fun y => (rgI 0 a).map fun x => ((p.1 + y * R, p.2 + x * C) : Pt)).length) = l.map fun _ => d * a := List.map_congr_left fun p _ => e2 p
    rw [this, List.map_const', List.sum_replicate_nat]
  have gc : dCn [4, 5, 6, 7] (iSeq (dVar 0)) (gTu 2 (gsCons (gNm 4) (gsCons (gNm 5) gsNil))) dYes (dCl [6, 7] (iRan1 (dCons (dVar 2) dNil)) (gNm 6) dYes (dCl [7] (iRan1 (dCons (dVar 3) dNil)) (gNm 7) dYes (dEl (dTup (dCons (dOp gAdd (dVar 4) (dOp gMul (dVar 6) (dOp gIx (dVar 1) (dC (.int 0))))) (dCons (dOp gAdd (dVar 5) (dOp gMul (dVar 7) (dOp gIx (dVar 1) (dC (.int 1))))) dNil)))))) [some dd, some df, some (.int (d : Int)), some (.int (a : Int)), none, none, none, none] S = .ok ((laidL R C l d a).map en) S := by
    refine cn_ok (xs := xs) (by simp -implicitDefEqProofs only [ev_Blk, ek_blkNx, ek_blkRt, ek_blkBk, ek_blkCt, frz_nil, frz_some, frz_none, frz_int, frz_bl, frz_str, frz_non, frz_tup, frz_lst, frz_set, frz_dct, ev_FzD, ev_MuD, ek_dctF, ek_dctM, ev_Emp, ev_CallD, ek_CallD, ev_optD, ev_Met, ek_Met, ek_Met2, isDct_dct, ev_RevA, ek_RevAL, ek_RevAT, ev_RevN, ek_Rev, ev_Star, ek_StarL, ek_StarT, ek_Star2, ev_ltI, ek_Op, ek_Op2, ek_Un, ek_AndT, ek_AndF, ek_OrT, ek_OrF, ek_Not, ek_IfT, ek_IfF, ek_Cons, ek_Cons2, ek_Fz, ek_Mu, ek_Call, ek_CallN, ek_AddN, ek_AddN2, ek_Sl, ek_Sl2, ek_Sl3, ek_SlN, ek_SlN2, ek_SlN3, ek_FnK, ek_FnK2, ek_Len, ek_Asg, ek_Ret, ek_SIfT, ek_SIfF, ek_Drop, ek_Set, ek_Set2, ek_Set3, ek_OrB, ek_OrBT, ek_OrBF, ek_AndB, ek_AndBT, ek_AndBF, ek_NotB, ek_NotB2, ev_App, ev_Pop, ev_opt, ev_C, ev_Var, ev_Op, ev_Un, ev_Test, ev_test, ev_AndT, ev_OrT, ev_NotT, ev_If, ev_Truth, ev_truB, ev_truI, ev_truL, ev_truT, ev_truN, ev_OrB, ev_AndB, ev_NotB, ev_Nil, ev_Cons, ev_Tup, ev_Chk, ev_Fz, ev_Mu, ev_Call, ev_CallN, ev_optL, ev_AddN, ev_Isi, ev_oNone, ev_oSome, ev_oInt, ev_Sl, ev_SlN, ev_Fn, ev_FnK, ev_Len, ev_sNil, ev_Seq, ev_nx, ev_rt, ev_bk, ev_ct, ev_Asg, ev_nxO, ev_gNm, ev_gsNil, ev_gsCons, ev_Ret, ev_RetN, ev_sIf, ev_Drop, ev_Brk, ev_Cnt, ev_Par, ev_par2, ev_par3, ev_SetIx, ev_stO, ev_iSeq, ev_itL, ev_itT, ev_Ran1, ev_Ran2, ev_Enu, ev_enu, ev_Zip, ev_zipL, ev_zipT, ev_Comp, ev_fix, ev_Yes, ev_wipe0, ev_wipe, ev_For, ev_forF, ev_endRt, ev_endNx, ev_endM, ev_lvT, ev_lvL, ev_lvI, ev_lvB, ev_lvS, ev_lvN, ev_lvD, ev_addI, ev_subI, ev_negI, ev_eqI, ev_neI, ev_eqB, ev_neB, ev_cmpI, ev_isN, ev_isNotN, ev_lenL, ev_lenT, ev_tupL, ev_tupT, ev_lstL, ev_lstT, ev_int, ev_intB, ev_abs, ev_min2, ev_max2, ev_ixL, ev_ixT, Out.bind_ok, bindN_ok, Option.bind_some, List.set_cons_zero, List.set_cons_succ, List.getElem?_cons_zero, List.getElem?_cons_succ, ev_mk0, ev_mk1, ev_mk2, ev_mk3, ev_mk4, ev_ck0, ev_ck, Nat.zero_le, nr_int, nr_bl, nr_str, nr_non, nr_tup, nr_lst, En.nr, noRefs_nil, noRefs_cons, Bool.not_false, Bool.and_self, Bool.and_true, Bool.true_and, List.length_cons, List.length_nil, Nat.reduceAdd, Nat.reduceLeDiff, take_self, take_app, take_set, if_true, if_false, Bool.false_eq_true, Bool.not_true, atI_0, atI_1, ev_tu2, ev_tu2w, ev_tu2L, ev_tu3, ev_tu4, ev_pick0, ev_pick, List.nil_append, List.cons_append, frz_last, lv_last, lv_lastD, isDct_last, isDct_aD, ev_AugN, ek_AugAdd, ek_AugSub, ev_AugS, ek_AugS1, ek_AugS3a, ek_AugS3s, ev_SortK, ek_SortK, ev_MulN, ek_MulN, ek_MulN2, ev_RgL, ev_RgT, ev_Comp2, ev_fix2, ev_AsgM, ev_MinK, rd_it h1]) ?_ (by rw [hlen]; exact hl)
    unfold laidL
    rw [List.map_flatMap]
    refine compG_rd h2 fun x p _ hp => ⟨_, (rd_tu (rdPt_some hp) rfl).trans rfl, rfl, ?_⟩
    refine cl_ok (r1 _ _ rfl) ?_
    rw [List.map_flatMap]
    refine compG_en fun y hy => ⟨_, rfl, rfl, ?_⟩
    refine cl_ok (r2 _ _ rfl) ?_
    have e3 : ∀ L : List Int, (L.map fun x => ((p.1 + y * R, p.2 + x * C) : Pt)).map (en : Pt → D) = L.flatMap fun x => [en ((p.1 + y * R, p.2 + x * C) : Pt)] := fun L => by induction L with
      | nil => rfl
      | cons x L ih => rw [List.map_cons, List.map_cons, List.flatMap_cons, ih]; rfl
    rw [e3]
    refine compG_en fun x hx => ⟨_, rfl, rfl, el_ok ?_ rfl⟩
    have hy' := mem_rgI.mp hy
    have hx' := mem_rgI.mp hx
    have m1 : mulOk y R = true := mulOk_l (small_of (by omega) (by omega))
    have m2 : mulOk x C = true := mulOk_l (small_of (by omega) (by omega))
    have ey : (en y : D) = .int y := rfl
    have ex : (en x : D) = .int x := rfl
    simp -implicitDefEqProofs only [ev_Blk, ek_blkNx, ek_blkRt, ek_blkBk, ek_blkCt, frz_nil, frz_some, frz_none, frz_int, frz_bl, frz_str, frz_non, frz_tup, frz_lst, frz_set, frz_dct, ev_FzD, ev_MuD, ek_dctF, ek_dctM, ev_Emp, ev_CallD, ek_CallD, ev_optD, ev_Met, ek_Met, ek_Met2, isDct_dct, ev_RevA, ek_RevAL, ek_RevAT, ev_RevN, ek_Rev, ev_Star, ek_StarL, ek_StarT, ek_Star2, ev_ltI, ek_Op, ek_Op2, ek_Un, ek_AndT, ek_AndF, ek_OrT, ek_OrF, ek_Not, ek_IfT, ek_IfF, ek_Cons, ek_Cons2, ek_Fz, ek_Mu, ek_Call, ek_CallN, ek_AddN, ek_AddN2, ek_Sl, ek_Sl2, ek_Sl3, ek_SlN, ek_SlN2, ek_SlN3, ek_FnK, ek_FnK2, ek_Len, ek_Asg, ek_Ret, ek_SIfT, ek_SIfF, ek_Drop, ek_Set, ek_Set2, ek_Set3, ek_OrB, ek_OrBT, ek_OrBF, ek_AndB, ek_AndBT, ek_AndBF, ek_NotB, ek_NotB2, ev_App, ev_Pop, ev_opt, ev_C, ev_Var, ev_Op, ev_Un, ev_Test, ev_test, ev_AndT, ev_OrT, ev_NotT, ev_If, ev_Truth, ev_truB, ev_truI, ev_truL, ev_truT, ev_truN, ev_OrB, ev_AndB, ev_NotB, ev_Nil, ev_Cons, ev_Tup, ev_Chk, ev_Fz, ev_Mu, ev_Call, ev_CallN, ev_optL, ev_AddN, ev_Isi, ev_oNone, ev_oSome, ev_oInt, ev_Sl, ev_SlN, ev_Fn, ev_FnK, ev_Len, ev_sNil, ev_Seq, ev_nx, ev_rt, ev_bk, ev_ct, ev_Asg, ev_nxO, ev_gNm, ev_gsNil, ev_gsCons, ev_Ret, ev_RetN, ev_sIf, ev_Drop, ev_Brk, ev_Cnt, ev_Par, ev_par2, ev_par3, ev_SetIx, ev_stO, ev_iSeq, ev_itL, ev_itT, ev_Ran1, ev_Ran2, ev_Enu, ev_enu, ev_Zip, ev_zipL, ev_zipT, ev_Comp, ev_fix, ev_Yes, ev_wipe0, ev_wipe, ev_For, ev_forF, ev_endRt, ev_endNx, ev_endM, ev_lvT, ev_lvL, ev_lvI, ev_lvB, ev_lvS, ev_lvN, ev_lvD, ev_addI, ev_subI, ev_negI, ev_eqI, ev_neI, ev_eqB, ev_neB, ev_cmpI, ev_isN, ev_isNotN, ev_lenL, ev_lenT, ev_tupL, ev_tupT, ev_lstL, ev_lstT, ev_int, ev_intB, ev_abs, ev_min2, ev_max2, ev_ixL, ev_ixT, Out.bind_ok, bindN_ok, Option.bind_some, List.set_cons_zero, List.set_cons_succ, List.getElem?_cons_zero, List.getElem?_cons_succ, ev_mk0, ev_mk1, ev_mk2, ev_mk3, ev_mk4, ev_ck0, ev_ck, Nat.zero_le, nr_int, nr_bl, nr_str, nr_non, nr_tup, nr_lst, En.nr, noRefs_nil, noRefs_cons, Bool.not_false, Bool.and_self, Bool.and_true, Bool.true_and, List.length_cons, List.length_nil, Nat.reduceAdd, Nat.reduceLeDiff, take_self, take_app, take_set, if_true, if_false, Bool.false_eq_true, Bool.not_true, atI_0, atI_1, ev_tu2, ev_tu2w, ev_tu2L, ev_tu3, ev_tu4, ev_pick0, ev_pick, List.nil_append, List.cons_append, frz_last, lv_last, lv_lastD, isDct_last, isDct_aD, ev_AugN, ek_AugAdd, ek_AugSub, ev_AugS, ek_AugS1, ek_AugS3a, ek_AugS3s, ev_SortK, ek_SortK, ev_MulN, ek_MulN, ek_MulN2, ev_RgL, ev_RgT, ev_Comp2, ev_fix2, ev_AsgM, ev_MinK, ey, ex, rd_ix hf', atI_0, atI_1, ev_mulI m1, ev_mulI m2]
    rfl
  have hs := sorted_pt (S := S) (laidL R C l d a)
  simp -implicitDefEqProofs only [ev_Blk, ek_blkNx, ek_blkRt, ek_blkBk, ek_blkCt, frz_nil, frz_some, frz_none, frz_int, frz_bl, frz_str, frz_non, frz_tup, frz_lst, frz_set, frz_dct, ev_FzD, ev_MuD, ek_dctF, ek_dctM, ev_Emp, ev_CallD, ek_CallD, ev_optD, ev_Met, ek_Met, ek_Met2, isDct_dct, ev_RevA, ek_RevAL, ek_RevAT, ev_RevN, ek_Rev, ev_Star, ek_StarL, ek_StarT, ek_Star2, ev_ltI, ek_Op, ek_Op2, ek_Un, ek_AndT, ek_AndF, ek_OrT, ek_OrF, ek_Not, ek_IfT, ek_IfF, ek_Cons, ek_Cons2, ek_Fz, ek_Mu, ek_Call, ek_CallN, ek_AddN, ek_AddN2, ek_Sl, ek_Sl2, ek_Sl3, ek_SlN, ek_SlN2, ek_SlN3, ek_FnK, ek_FnK2, ek_Len, ek_Asg, ek_Ret, ek_SIfT, ek_SIfF, ek_Drop, ek_Set, ek_Set2, ek_Set3, ek_OrB, ek_OrBT, ek_OrBF, ek_AndB, ek_AndBT, ek_AndBF, ek_NotB, ek_NotB2, ev_App, ev_Pop, ev_opt, ev_C, ev_Var, ev_Op, ev_Un, ev_Test, ev_test, ev_AndT, ev_OrT, ev_NotT, ev_If, ev_Truth, ev_truB, ev_truI, ev_truL, ev_truT, ev_truN, ev_OrB, ev_AndB, ev_NotB, ev_Nil, ev_Cons, ev_Tup, ev_Chk, ev_Fz, ev_Mu, ev_Call, ev_CallN, ev_optL, ev_AddN, ev_Isi, ev_oNone, ev_oSome, ev_oInt, ev_Sl, ev_SlN, ev_Fn, ev_FnK, ev_Len, ev_sNil, ev_Seq, ev_nx, ev_rt, ev_bk, ev_ct, ev_Asg, ev_nxO, ev_gNm, ev_gsNil, ev_gsCons, ev_Ret, ev_RetN, ev_sIf, ev_Drop, ev_Brk, ev_Cnt, ev_Par, ev_par2, ev_par3, ev_SetIx, ev_stO, ev_iSeq, ev_itL, ev_itT, ev_Ran1, ev_Ran2, ev_Enu, ev_enu, ev_Zip, ev_zipL, ev_zipT, ev_Comp, ev_fix, ev_Yes, ev_wipe0, ev_wipe, ev_For, ev_forF, ev_endRt, ev_endNx, ev_endM, ev_lvT, ev_lvL, ev_lvI, ev_lvB, ev_lvS, ev_lvN, ev_lvD, ev_addI, ev_subI, ev_negI, ev_eqI, ev_neI, ev_eqB, ev_neB, ev_cmpI, ev_isN, ev_isNotN, ev_lenL, ev_lenT, ev_tupL, ev_tupT, ev_lstL, ev_lstT, ev_int, ev_intB, ev_abs, ev_min2, ev_max2, ev_ixL, ev_ixT, Out.bind_ok, bindN_ok, Option.bind_some, List.set_cons_zero, List.set_cons_succ, List.getElem?_cons_zero, List.getElem?_cons_succ, ev_mk0, ev_mk1, ev_mk2, ev_mk3, ev_mk4, ev_ck0, ev_ck, Nat.zero_le, nr_int, nr_bl, nr_str, nr_non, nr_tup, nr_lst, En.nr, noRefs_nil, noRefs_cons, Bool.not_false, Bool.and_self, Bool.and_true, Bool.true_and, List.length_cons, List.length_nil, Nat.reduceAdd, Nat.reduceLeDiff, take_self, take_app, take_set, if_true, if_false, Bool.false_eq_true, Bool.not_true, atI_0, atI_1, ev_tu2, ev_tu2w, ev_tu2L, ev_tu3, ev_tu4, ev_pick0, ev_pick, List.nil_append, List.cons_append, frz_last, lv_last, lv_lastD, isDct_last, isDct_aD, ev_AugN, ek_AugAdd, ek_AugSub, ev_AugS, ek_AugS1, ek_AugS3a, ek_AugS3s, ev_SortK, ek_SortK, ev_MulN, ek_MulN, ek_MulN2, ev_RgL, ev_RgT, ev_Comp2, ev_fix2, ev_AsgM, ev_MinK, gc, hs]
  rfl
theorem mem_laidL {R C : Int} {l : Pic} {d a : Nat} {q : Pt} : q ∈ laidL R C l d a ↔ ∃ p ∈ l, ∃ y x : Int, 0 ≤ y ∧ y < d ∧ 0 ≤ x ∧ x < a ∧ q = (p.1 + y * R, p.2 + x * C) := by
  unfold laidL
  rw [List.mem_flatMap]
  constructor
  · rintro ⟨p, hp, h⟩
    obtain ⟨y, hy, h⟩ := List.mem_flatMap.mp h
    obtain ⟨x, hx, rfl⟩ := List.mem_map.mp h
    have hy := mem_rgI.mp hy
    have hx := mem_rgI.mp hx
    exact ⟨p, hp, y, x, by omega, by omega, by omega, by omega, rfl⟩
  · rintro ⟨p, hp, y, x, h1, h2, h3, h4, rfl⟩
    exact ⟨p, hp, List.mem_flatMap.mpr ⟨y, mem_rgI.mpr (by omega), List.mem_map.mpr ⟨x, mem_rgI.mpr (by omega), rfl⟩⟩⟩
theorem off_mod {p y R : Int} (h0 : 0 ≤ p) (h1 : p < R) : (p + y * R) % R = p := by
  rw [Int.add_mul_emod_self_right, Int.emod_eq_of_lt h0 h1]
theorem off_div {p y R : Int} (h0 : 0 ≤ p) (h1 : p < R) : (p + y * R) / R = y := by
  rw [Int.add_mul_ediv_right _ _ (by omega), Int.ediv_eq_zero_of_lt h0 h1]; omega
theorem laid_nodup {R C : Int} {l : Pic} {d a : Nat} (hm : OnF R C l) : (laidL R C l d a).Nodup := by
  unfold laidL
  refine List.pairwise_flatMap.mpr ⟨fun p hp => ?_, ?_⟩
  · have o := hm.on p hp
    refine List.pairwise_flatMap.mpr ⟨fun y _ => ?_, ?_⟩
    · refine List.pairwise_map.mpr ((rgI_nodup _ _).imp fun {x x'} hne e => hne ?_)
      have e2 := congrArg (fun z : Pt => z.2 / C) e
      simp only [off_div o.2.2.1 o.2.2.2] at e2
      exact e2
    · refine (rgI_nodup _ _).imp fun {y y'} hne => ?_
      intro q hq q' hq' eq
      subst eq
      obtain ⟨x, _, rfl⟩ := List.mem_map.mp hq
      obtain ⟨x', _, e⟩ := List.mem_map.mp hq'
      have e2 := congrArg (fun z : Pt => z.1 / R) e
      simp only [off_div o.1 o.2.1] at e2
      exact hne e2.symm
  · refine List.Pairwise.imp_of_mem (fun {p p'} hp hp' hne => ?_) hm.nd
    intro q hq q' hq' eq
    subst eq
    obtain ⟨y, _, hq⟩ := List.mem_flatMap.mp hq
    obtain ⟨x, _, rfl⟩ := List.mem_map.mp hq
    obtain ⟨y', _, hq'⟩ := List.mem_flatMap.mp hq'
    obtain ⟨x', _, e⟩ := List.mem_map.mp hq'
    have o := hm.on p hp
    have o' := hm.on p' hp'
    have e1 := congrArg (modP R C) e
    have f : ∀ {p : Pt} {y x : Int}, (0 ≤ p.1 ∧ p.1 < R ∧ 0 ≤ p.2 ∧ p.2 < C) → modP R C (p.1 + y * R, p.2 + x * C) = p := fun {p y x} o => Prod.ext (off_mod o.1 o.2.1) (off_mod o.2.2.1 o.2.2.2)
    rw [f o, f o'] at e1
    exact hne e1.symm
theorem laid_grid {H W d a : Nat} (hH : 0 < H) (hW : 0 < W) {l : Pic} (hm : OnF H W l) : srt (laidL H W l d a) = (gridP (H * d) (W * a)).filter fun q => l.contains (modP H W q) := by
  refine ris_eq (srt_ris (laid_nodup hm)) ((grid_ris _ _).filter _) fun q => ?_
  rw [mem_srt, mem_laidL, List.mem_filter, mem_gridP, List.contains_iff_mem]
  constructor
  · rintro ⟨p, hp, y, x, h1, h2, h3, h4, rfl⟩
    have o := hm.on p hp
    have e : modP H W (p.1 + y * (H : Int), p.2 + x * (W : Int)) = p := Prod.ext (off_mod o.1 o.2.1) (off_mod o.2.2.1 o.2.2.2)
    have up : ∀ {p y : Int} {H d : Nat}, 0 ≤ p → p < H → 0 ≤ y → y < d → 0 ≤ p + y * (H : Int) ∧ p + y * (H : Int) < ((H * d : Nat) : Int) := fun {p y H d} p0 p1 y0 y1 => by
      have q1 : 0 ≤ y * (H : Int) := Int.mul_nonneg y0 (by omega)
      have q2 : (y + 1) * (H : Int) ≤ (d : Int) * (H : Int) := Int.mul_le_mul_of_nonneg_right (by omega) (by omega)
      rw [Int.add_mul, Int.one_mul] at q2
      have q3 : ((H * d : Nat) : Int) = (d : Int) * (H : Int) := by rw [Int.natCast_mul, Int.mul_comm]
      rw [q3]
      omega
    have u1 := up (H := H) (d := d) o.1 o.2.1 h1 h2
    have u2 := up (H := W) (d := a) o.2.2.1 o.2.2.2 h3 h4
    exact ⟨⟨u1.1, u1.2, u2.1, u2.2⟩, by rw [e]; exact hp⟩
  · rintro ⟨⟨h1, h2, h3, h4⟩, hp⟩
    have dn : ∀ {q : Int} {H d : Nat}, 0 < H → 0 ≤ q → q < ((H * d : Nat) : Int) → 0 ≤ q / (H : Int) ∧ q / (H : Int) < d := fun {q H d} hH q0 q1 => by
      refine ⟨Int.ediv_nonneg q0 (by omega), Int.ediv_lt_of_lt_mul (by omega) ?_⟩
      rw [Int.natCast_mul, Int.mul_comm] at q1
      exact q1
    have d1 := dn (H := H) (d := d) hH h1 h2
    have d2 := dn (H := W) (d := a) hW h3 h4
    refine ⟨_, hp, q.1 / (H : Int), q.2 / (W : Int), d1.1, d1.2, d2.1, d2.2, ?_⟩
    refine Prod.ext ?_ ?_
    · show q.1 = q.1 % (H : Int) + q.1 / (H : Int) * (H : Int)
      have := Int.emod_add_mul_ediv q.1 (H : Int)
      rw [Int.mul_comm (q.1 / (H : Int))]; omega
    · show q.2 = q.2 % (W : Int) + q.2 / (W : Int) * (W : Int)
      have := Int.emod_add_mul_ediv q.2 (W : Int)
      rw [Int.mul_comm (q.2 / (W : Int))]; omega
theorem risB_true {α : Type} [En α] {l : List α} (h : Ris l) : risB l = true := risB_iff.mpr h
theorem on_grid {h w : Nat} {m : Pic} (hs : ∀ q ∈ m, q ∈ gridP h w) : m.all (onB h w) = true := List.all_eq_true.mpr fun q hq => onB_iff.mpr (mem_gridP.mp (hs q hq))
theorem on_fall {R C : Int} (hR : 0 < R) (hC : 0 < C) {l : Pic} (hr : Ris l) : (risB l && l.all (onB R C)) = (l == fallP R C l) := by
  rw [risB_true hr, Bool.true_and, Bool.eq_iff_iff, beq_iff_eq, List.all_eq_true]
  constructor
  · intro h
    exact (fall_id ⟨hr.nodup, fun q hq => onB_iff.mp (h q hq)⟩ hr).symm
  · intro e q hq
    rw [e] at hq
    exact onB_iff.mpr ((fall_on hR hC).on q hq)
end Ws
namespace Lw
open PySem L2 Ws
def B__law_box : Ds := boxB 2809
def F__law_box : Df := dDefM 2 1 B__law_box
def B__law_things_right : Ds := sSeq (sAsg (dFz (dChk (dCons (dTup (dCons (dC (.int 1)) (dCons (dC (.int 1)) dNil))) (dCons (dTup (dCons (dC (.int 3)) (dCons (dOp gPow (dC (.int 10)) (dC (.int 30))) dNil))) (dCons (dTup (dCons (dOp gPow (dC (.int 10)) (dC (.int 50))) (dCons (dC (.int 7)) dNil))) dNil))))) (gNm 0)) (sSeq (sAsg (dFz (dChk (dCons (dTup (dCons (dC (.int 0)) (dCons (dC (.int 1)) dNil))) (dCons (dTup (dCons (dC (.int 1)) (dCons (dC (.int 0)) dNil))) (dCons (dTup (dCons (dUn gNeg (dC (.int 1))) (dCons (dC (.int 4)) dNil))) (dCons (dTup (dCons (dC (.int 2)) dNil)) (dCons (dTup (dCons (dC (.int 2)) (dCons (dC (.int 3)) (dCons (dC (.int 4)) dNil)))) (dCons (dFz (dChk (dCons (dC (.int 2)) (dCons (dC (.int 3)) dNil)))) (dCons (dTup (dCons (dC (.bl true)) (dCons (dC (.int 2)) dNil))) (dCons (dTup (dCons (dC (.int 2)) (dCons (dC (.bl true)) dNil))) (dCons (dTup (dCons (dC (.int 2)) (dCons (dC .non) dNil))) (dCons (dTup (dCons (dC (.str "2")) (dCons (dC (.int 3)) dNil))) (dCons (dTup dNil) (dCons (dC .non) (dCons (dC (.int 5)) (dCons (dC (.str "ab")) dNil)))))))))))))))) (gNm 1)) (sSeq (sAsg (dOp gAdd (dVar 1) (dFz (dChk (dCons (dTup (dCons (dTup (dCons (dC (.int 2)) (dCons (dC (.int 3)) dNil))) dNil)) (dCons (dTup (dCons (dTup (dCons (dC (.int 1)) (dCons (dC (.int 1)) dNil))) (dCons (dTup (dCons (dC (.int 1)) (dCons (dC (.int 1)) dNil))) dNil))) (dCons (dC (.bl true)) (dCons (dFz (dChk dNil)) (dCons (dTup (dCons (dC (.int 2)) (dCons (dTup (dCons (dC (.int 3)) dNil)) dNil))) (dCons (dTup (dCons (dC (.int 2)) (dCons (dFz (dChk (dCons (dC (.int 3)) dNil))) dNil))) dNil))))))))) (gNm 1)) (sSeq (sAsg (dFz (dComp [6] (iSeq (dOp gAdd (dVar 0) (dVar 1))) (gNm 6) dYes (dFn F_is_floor (dCons (dVar 6) dNil)))) (gNm 2)) (sSeq (sAsg (dOp gAdd (dOp gMul (dFz (dChk (dCons (dC (.bl true)) dNil))) (dCall gLen (dCons (dVar 0) dNil))) (dOp gMul (dFz (dChk (dCons (dC (.bl false)) dNil))) (dCall gLen (dCons (dVar 1) dNil)))) (gNm 3)) (sSeq (sAsg (dFz (dChk (dCons (dTup dNil) (dCons (dTup (dCons (dTup (dCons (dC (.int 0)) (dCons (dC (.int 0)) dNil))) dNil)) (dCons (dTup (dCons (dTup (dCons (dC (.int 1)) (dCons (dC (.int 2)) dNil))) dNil)) (dCons (dTup (dCons (dTup (dCons (dC (.int 0)) (dCons (dC (.int 0)) dNil))) (dCons (dTup (dCons (dC (.int 0)) (dCons (dC (.int 2)) dNil))) (dCons (dTup (dCons (dC (.int 1)) (dCons (dC (.int 1)) dNil))) dNil)))) (dCons (dTup (dCons (dTup (dCons (dC (.int 0)) (dCons (dC (.int 0)) dNil))) (dCons (dTup (dCons (dC (.int 0)) (dCons (dC (.int 1)) dNil))) (dCons (dTup (dCons (dC (.int 0)) (dCons (dC (.int 2)) dNil))) (dCons (dTup (dCons (dC (.int 1)) (dCons (dC (.int 0)) dNil))) (dCons (dTup (dCons (dC (.int 1)) (dCons (dC (.int 1)) dNil))) (dCons (dTup (dCons (dC (.int 1)) (dCons (dC (.int 2)) dNil))) dNil))))))) dNil))))))) (gNm 4)) (sSeq (sAsg (dFz (dChk (dCons (dTup (dCons (dTup (dCons (dC (.int 2)) (dCons (dC (.int 0)) dNil))) dNil)) (dCons (dTup (dCons (dTup (dCons (dC (.int 0)) (dCons (dC (.int 3)) dNil))) dNil)) (dCons (dTup (dCons (dTup (dCons (dUn gNeg (dC (.int 1))) (dCons (dC (.int 0)) dNil))) dNil)) (dCons (dTup (dCons (dTup (dCons (dC (.int 0)) (dCons (dUn gNeg (dC (.int 1))) dNil))) dNil)) (dCons (dTup (dCons (dTup (dCons (dC (.int 1)) (dCons (dC (.int 1)) dNil))) (dCons (dTup (dCons (dC (.int 0)) (dCons (dC (.int 0)) dNil))) dNil))) (dCons (dTup (dCons (dTup (dCons (dC (.int 0)) (dCons (dC (.int 0)) dNil))) (dCons (dTup (dCons (dC (.int 0)) (dCons (dC (.int 0)) dNil))) dNil))) (dCons (dFz (dChk (dCons (dTup (dCons (dC (.int 0)) (dCons (dC (.int 0)) dNil))) dNil))) (dCons (dTup (dCons (dFz (dChk (dCons (dC (.int 0)) (dCons (dC (.int 0)) dNil)))) dNil)) (dCons (dC .non) (dCons (dC (.int 7)) dNil)))))))))))) (gNm 5)) (sSeq (sAsg (dOp gAdd (dVar 5) (dFz (dChk (dCons (dTup (dCons (dTup (dCons (dC (.int 0)) (dCons (dC (.bl true)) dNil))) dNil)) (dCons (dTup (dCons (dTup (dCons (dC (.int 0)) (dCons (dC (.int 0)) (dCons (dC (.int 0)) dNil)))) dNil)) (dCons (dTup (dCons (dTup (dCons (dC (.int 0)) dNil)) dNil)) (dCons (dC (.str "")) (dCons (dC (.bl true)) (dCons (dTup (dCons (dTup (dCons (dC (.int 0)) (dCons (dC (.int 0)) dNil))) (dCons (dTup (dCons (dOp gPow (dC (.int 10)) (dC (.int 40))) (dCons (dC (.int 0)) dNil))) dNil))) (dCons (dTup (dCons (dTup (dCons (dC (.int 0)) (dCons (dC (.int 0)) dNil))) (dCons (dC .non) dNil))) (dCons (dTup (dCons (dC (.int 0)) (dCons (dC (.int 0)) dNil))) (dCons (dFz (dChk dNil)) dNil)))))))))))) (gNm 5)) (sSeq (sAsg (dOp gAdd (dOp gAdd (dVar 2) (dFz (dComp [6] (iSeq (dOp gAdd (dVar 4) (dVar 5))) (gNm 6) dYes (dFn F_is_on (dCons (dTup (dCons (dC (.int 2)) (dCons (dC (.int 3)) dNil))) (dCons (dVar 6) dNil)))))) (dFz (dChk (dCons (dFnK F_is_on [1, 0] dNil (dLen 2 (dCons (dTup (dCons (dTup (dCons (dC (.int 1)) (dCons (dC (.int 2)) dNil))) dNil)) (dCons (dFz (dChk (dCons (dC (.int 2)) (dCons (dC (.int 3)) dNil)))) dNil)))) (dCons (dFnK F_is_floor [0] dNil (dLen 1 (dCons (dTup (dCons (dC (.int 4)) (dCons (dC (.int 4)) dNil))) dNil))) dNil))))) (gNm 2)) (sRet (dFn (F__law_same 16) (dCons (dVar 2) (dCons (dOp gAdd (dOp gAdd (dOp gAdd (dVar 3) (dOp gMul (dFz (dChk (dCons (dC (.bl true)) dNil))) (dCall gLen (dCons (dVar 4) dNil)))) (dOp gMul (dFz (dChk (dCons (dC (.bl false)) dNil))) (dCall gLen (dCons (dVar 5) dNil)))) (dFz (dChk (dCons (dC (.bl true)) (dCons (dC (.bl true)) dNil))))) dNil))))))))))))
def F__law_things_right : Df := dDef 0 7 B__law_things_right
def B_onto_itselfM : Ds := sSeq (sPar [2, 3] (dCons (dFn (F_tupled 16) (dCons (dVar 0) dNil)) (dCons (dMu (dChk dNil)) dNil))) (sSeq (sFor (iSeq (dVar 2)) (gTu 2 (gsCons (gNm 4) (gsCons (gNm 5) gsNil))) (sSeq (sPar [6, 7] (dCons (dOp gMod (dOp gSub (dVar 4) (dOp gIx (dOp gIx (dVar 2) (dC (.int 0))) (dC (.int 0)))) (dOp gIx (dVar 1) (dC (.int 0)))) (dCons (dOp gMod (dOp gSub (dVar 5) (dOp gIx (dOp gIx (dVar 2) (dC (.int 0))) (dC (.int 1)))) (dOp gIx (dVar 1) (dC (.int 1)))) dNil))) (sIf (dTest (dOp gEq (dFn F_fallen (dCons (dFn F_moved (dCons (dVar 2) (dCons (dVar 6) (dCons (dVar 7) dNil)))) (dCons (dVar 1) dNil))) (dVar 2))) (sDrop (dApp (dVar 3) (dCons (dTup (dCons (dVar 6) (dCons (dVar 7) dNil))) dNil))) sNil))) (sRet (dMu (dCallN gSorted (dCons (dVar 3) dNil)))))
def F_onto_itselfM : Df := dDefM 2 6 B_onto_itselfM
def B__law_hand_right : Ds := sSeq (sAsg (dTup (dCons (dTup (dCons (dTup (dCons (dC (.int 0)) (dCons (dC (.int 0)) dNil))) dNil)) (dCons (dTup (dCons (dTup (dCons (dC (.int 0)) (dCons (dC (.int 0)) dNil))) (dCons (dTup (dCons (dC (.int 0)) (dCons (dC (.int 1)) dNil))) dNil))) (dCons (dTup (dCons (dTup (dCons (dC (.int 0)) (dCons (dC (.int 0)) dNil))) (dCons (dTup (dCons (dC (.int 0)) (dCons (dC (.int 1)) dNil))) (dCons (dTup (dCons (dC (.int 0)) (dCons (dC (.int 2)) dNil))) dNil)))) (dCons (dTup (dCons (dTup (dCons (dC (.int 0)) (dCons (dC (.int 0)) dNil))) (dCons (dTup (dCons (dC (.int 0)) (dCons (dC (.int 2)) dNil))) dNil))) dNil))))) (gTu 4 (gsCons (gNm 0) (gsCons (gNm 1) (gsCons (gNm 2) (gsCons (gNm 3) gsNil)))))) (sSeq (sAsg (dMu (dChk (dCons (dFn F_fallen (dCons (dTup (dCons (dTup (dCons (dUn gNeg (dC (.int 1))) (dCons (dC (.int 5)) dNil))) (dCons (dTup (dCons (dC (.int 4)) (dCons (dUn gNeg (dC (.int 3))) dNil))) dNil))) (dCons (dTup (dCons (dC (.int 2)) (dCons (dC (.int 4)) dNil))) dNil))) (dCons (dFn F_fallen (dCons (dTup dNil) (dCons (dTup (dCons (dC (.int 3)) (dCons (dC (.int 3)) dNil))) dNil))) (dCons (dFn F_fallen (dCons (dTup (dCons (dTup (dCons (dC (.int 0)) (dCons (dC (.int 0)) dNil))) (dCons (dTup (dCons (dC (.int 2)) (dCons (dC (.int 3)) dNil))) (dCons (dTup (dCons (dC (.int 4)) (dCons (dC (.int 6)) dNil))) dNil)))) (dCons (dTup (dCons (dC (.int 2)) (dCons (dC (.int 3)) dNil))) dNil))) (dCons (dFn F_fallen (dCons (dVar 2) (dCons (dTup (dCons (dC (.int 1)) (dCons (dC (.int 1)) dNil))) dNil))) dNil)))))) (gNm 4)) (sSeq (sAsg (dFz (dChk (dCons (dTup (dCons (dTup (dCons (dC (.int 0)) (dCons (dC (.int 1)) dNil))) (dCons (dTup (dCons (dC (.int 1)) (dCons (dC (.int 1)) dNil))) dNil))) (dCons (dTup dNil) (dCons (dVar 0) (dCons (dVar 0) dNil)))))) (gNm 5)) (sSeq (sAsg (dMu (dAddN (dVar 4) (dFz (dChk (dCons (dFn F_folded (dCons (dVar 3) (dCons (dTup (dCons (dC (.int 1)) (dCons (dC (.int 3)) dNil))) dNil))) (dCons (dFn F_folded (dCons (dVar 3) (dCons (dTup (dCons (dC (.int 1)) (dCons (dC (.int 2)) dNil))) dNil))) (dCons (dFn F_folded (dCons (dVar 2) (dCons (dTup (dCons (dC (.int 7)) (dCons (dC (.int 3)) dNil))) dNil))) (dCons (dFn F_folded (dCons (dTup (dCons (dTup (dCons (dC (.int 5)) (dCons (dC (.int 5)) dNil))) dNil)) (dCons (dTup (dCons (dC (.int 3)) (dCons (dC (.int 4)) dNil))) dNil))) dNil)))))))) (gNm 4)) (sSeq (sAsg (dOp gAdd (dVar 5) (dFz (dChk (dCons (dVar 1) (dCons (dVar 0) (dCons (dVar 2) (dCons (dVar 0) dNil))))))) (gNm 5)) (sSeq (sAsg (dMu (dAddN (dVar 4) (dFz (dChk (dCons (dFn F_folded (dCons (dTup (dCons (dTup (dCons (dC (.int 0)) (dCons (dC (.int 1)) dNil))) (dCons (dTup (dCons (dC (.int 1)) (dCons (dC (.int 0)) dNil))) dNil))) (dCons (dTup (dCons (dC (.int 2)) (dCons (dC (.int 2)) dNil))) dNil))) (dCons (dFn F_folded (dCons (dTup (dCons (dTup (dCons (dC (.int 0)) (dCons (dC (.int 1)) dNil))) (dCons (dTup (dCons (dC (.int 1)) (dCons (dC (.int 0)) dNil))) dNil))) (dCons (dTup (dCons (dC (.int 5)) (dCons (dC (.int 5)) dNil))) dNil))) (dCons (dFn F_folded (dCons (dTup (dCons (dTup (dCons (dC (.int 0)) (dCons (dC (.int 0)) dNil))) (dCons (dTup (dCons (dC (.int 3)) (dCons (dC (.int 1)) dNil))) dNil))) (dCons (dTup (dCons (dC (.int 4)) (dCons (dC (.int 9)) dNil))) dNil))) dNil))))))) (gNm 4)) (sSeq (sAsg (dOp gAdd (dVar 5) (dFz (dChk (dCons (dTup (dCons (dTup (dCons (dC (.int 0)) (dCons (dC (.int 0)) dNil))) (dCons (dTup (dCons (dC (.int 1)) (dCons (dC (.int 1)) dNil))) dNil))) (dCons (dTup (dCons (dTup (dCons (dC (.int 0)) (dCons (dC (.int 0)) dNil))) (dCons (dTup (dCons (dC (.int 1)) (dCons (dC (.int 4)) dNil))) dNil))) (dCons (dTup (dCons (dTup (dCons (dC (.int 0)) (dCons (dC (.int 0)) dNil))) (dCons (dTup (dCons (dC (.int 1)) (dCons (dC (.int 8)) dNil))) dNil))) dNil)))))) (gNm 5)) (sSeq (sAsg (dMu (dAddN (dVar 4) (dFz (dChk (dCons (dFn F_onto_itself (dCons (dVar 3) (dCons (dTup (dCons (dC (.int 1)) (dCons (dC (.int 4)) dNil))) dNil))) (dCons (dFn F_onto_itself (dCons (dVar 1) (dCons (dTup (dCons (dC (.int 1)) (dCons (dC (.int 4)) dNil))) dNil))) (dCons (dFn F_onto_itself (dCons (dVar 1) (dCons (dTup (dCons (dC (.int 1)) (dCons (dC (.int 2)) dNil))) dNil))) (dCons (dFn F_onto_itself (dCons (dTup (dCons (dTup (dCons (dC (.int 1)) (dCons (dC (.int 1)) dNil))) dNil)) (dCons (dTup (dCons (dC (.int 3)) (dCons (dC (.int 2)) dNil))) dNil))) dNil)))))))) (gNm 4)) (sSeq (sAsg (dOp gAdd (dVar 5) (dFz (dChk (dCons (dFz (dChk (dCons (dTup (dCons (dC (.int 0)) (dCons (dC (.int 0)) dNil))) (dCons (dTup (dCons (dC (.int 0)) (dCons (dC (.int 2)) dNil))) dNil)))) (dCons (dFz (dChk (dCons (dTup (dCons (dC (.int 0)) (dCons (dC (.int 0)) dNil))) dNil))) (dCons (dFz (dChk (dCons (dTup (dCons (dC (.int 0)) (dCons (dC (.int 0)) dNil))) (dCons (dTup (dCons (dC (.int 0)) (dCons (dC (.int 1)) dNil))) dNil)))) (dCons (dFz (dChk (dCons (dTup (dCons (dC (.int 0)) (dCons (dC (.int 0)) dNil))) dNil))) dNil))))))) (gNm 5)) (sSeq (sAsg (dMu (dAddN (dVar 4) (dFz (dChk (dCons (dFn F_onto_itself (dCons (dTup (dCons (dTup (dCons (dC (.int 0)) (dCons (dC (.int 0)) dNil))) (dCons (dTup (dCons (dC (.int 1)) (dCons (dC (.int 1)) dNil))) dNil))) (dCons (dTup (dCons (dC (.int 2)) (dCons (dC (.int 2)) dNil))) dNil))) (dCons (dFn F_onto_itself (dCons (dTup (dCons (dTup (dCons (dC (.int 0)) (dCons (dC (.int 1)) dNil))) (dCons (dTup (dCons (dC (.int 1)) (dCons (dC (.int 0)) dNil))) (dCons (dTup (dCons (dC (.int 2)) (dCons (dC (.int 2)) dNil))) dNil)))) (dCons (dTup (dCons (dC (.int 3)) (dCons (dC (.int 3)) dNil))) dNil))) dNil)))))) (gNm 4)) (sSeq (sAsg (dOp gAdd (dVar 5) (dFz (dChk (dCons (dFz (dChk (dCons (dTup (dCons (dC (.int 0)) (dCons (dC (.int 0)) dNil))) (dCons (dTup (dCons (dC (.int 1)) (dCons (dC (.int 1)) dNil))) dNil)))) (dCons (dFz (dChk (dCons (dTup (dCons (dC (.int 0)) (dCons (dC (.int 0)) dNil))) (dCons (dTup (dCons (dC (.int 1)) (dCons (dC (.int 2)) dNil))) (dCons (dTup (dCons (dC (.int 2)) (dCons (dC (.int 1)) dNil))) dNil))))) dNil))))) (gNm 5)) (sSeq (sAsg (dMu (dAddN (dVar 4) (dFz (dChk (dCons (dFn F_laid (dCons (dTup (dCons (dTup (dCons (dC (.int 0)) (dCons (dC (.int 1)) dNil))) dNil)) (dCons (dTup (dCons (dC (.int 1)) (dCons (dC (.int 2)) dNil))) (dCons (dC (.int 2)) (dCons (dC (.int 2)) dNil))))) (dCons (dFn F_laid (dCons (dTup dNil) (dCons (dTup (dCons (dC (.int 3)) (dCons (dC (.int 3)) dNil))) (dCons (dOp gPow (dC (.int 10)) (dC (.int 30))) (dCons (dC (.int 2)) dNil))))) (dCons (dFn F_laid (dCons (dVar 1) (dCons (dTup (dCons (dC (.int 5)) (dCons (dC (.int 7)) dNil))) (dCons (dC (.int 1)) (dCons (dC (.int 1)) dNil))))) (dCons (dFn F_laid (dCons (dVar 0) (dCons (dTup (dCons (dC (.int 3)) (dCons (dC (.int 4)) dNil))) (dCons (dC (.int 2)) (dCons (dC (.int 1)) dNil))))) dNil)))))))) (gNm 4)) (sSeq (sAsg (dOp gAdd (dVar 5) (dFz (dChk (dCons (dTup (dCons (dTup (dCons (dC (.int 0)) (dCons (dC (.int 1)) dNil))) (dCons (dTup (dCons (dC (.int 0)) (dCons (dC (.int 3)) dNil))) (dCons (dTup (dCons (dC (.int 1)) (dCons (dC (.int 1)) dNil))) (dCons (dTup (dCons (dC (.int 1)) (dCons (dC (.int 3)) dNil))) dNil))))) (dCons (dTup dNil) (dCons (dVar 1) (dCons (dTup (dCons (dTup (dCons (dC (.int 0)) (dCons (dC (.int 0)) dNil))) (dCons (dTup (dCons (dC (.int 3)) (dCons (dC (.int 0)) dNil))) dNil))) dNil))))))) (gNm 5)) (sSeq (sAsg (dFn F_laid (dCons (dVar 1) (dCons (dTup (dCons (dC (.int 1)) (dCons (dC (.int 2)) dNil))) (dCons (dC (.int 1)) (dCons (dC (.int 100)) dNil))))) (gNm 6)) (sSeq (sAsg (dMu (dAddN (dVar 4) (dFz (dChk (dCons (dCall gLen (dCons (dVar 6) dNil)) (dCons (dOp gIx (dVar 6) (dUn gNeg (dC (.int 1)))) (dCons (dFnK F_folded [0, 1] dNil (dLen 2 (dCons (dRevA (dFz (dChk (dCons (dFz (dChk (dCons (dC (.int 0)) (dCons (dC (.int 2)) dNil)))) (dCons (dFz (dChk (dCons (dC (.int 0)) (dCons (dC (.int 0)) dNil)))) dNil))))) (dCons (dFz (dChk (dCons (dC (.int 1)) (dCons (dC (.int 3)) dNil)))) dNil)))) (dCons (dFnK F_fallen [1, 0] dNil (dLen 2 (dCons (dFz (dChk (dCons (dC (.int 2)) (dCons (dC (.int 4)) dNil)))) (dCons (dFz (dChk (dCons (dFz (dChk (dCons (dC (.int 4)) (dCons (dUn gNeg (dC (.int 3))) dNil)))) dNil))) dNil)))) dNil)))))))) (gNm 4)) (sSeq (sAsg (dOp gAdd (dVar 5) (dFz (dChk (dCons (dC (.int 200)) (dCons (dTup (dCons (dC (.int 0)) (dCons (dC (.int 199)) dNil))) (dCons (dVar 1) (dCons (dTup (dCons (dTup (dCons (dC (.int 0)) (dCons (dC (.int 1)) dNil))) dNil)) dNil))))))) (gNm 5)) (sSeq (sAsg (dMu (dAddN (dVar 4) (dFz (dChk (dCons (dFnK F_onto_itself [1, 0] dNil (dLen 2 (dCons (dFz (dChk (dCons (dC (.int 1)) (dCons (dC (.int 4)) dNil)))) (dCons (dFz (dChk (dCons (dFz (dChk (dCons (dC (.int 0)) (dCons (dC (.int 0)) dNil)))) (dCons (dFz (dChk (dCons (dC (.int 0)) (dCons (dC (.int 2)) dNil)))) dNil)))) dNil)))) (dCons (dFnK F_laid [3, 2, 1, 0] dNil (dLen 4 (dCons (dC (.int 2)) (dCons (dC (.int 2)) (dCons (dFz (dChk (dCons (dC (.int 1)) (dCons (dC (.int 2)) dNil)))) (dCons (dFz (dChk (dCons (dFz (dChk (dCons (dC (.int 0)) (dCons (dC (.int 1)) dNil)))) dNil))) dNil)))))) dNil)))))) (gNm 4)) (sSeq (sAsg (dMu (dAddN (dVar 4) (dFz (dChk (dCons (dFn F_onto_itself (dCons (dTup (dCons (dTup (dCons (dC (.int 0)) (dCons (dC (.int 1)) dNil))) (dCons (dTup (dCons (dC (.int 0)) (dCons (dC (.int 3)) dNil))) (dCons (dTup (dCons (dC (.int 1)) (dCons (dC (.int 0)) dNil))) (dCons (dTup (dCons (dC (.int 1)) (dCons (dC (.int 2)) dNil))) dNil))))) (dCons (dTup (dCons (dC (.int 2)) (dCons (dC (.int 4)) dNil))) dNil))) (dCons (dFn F_laid (dCons (dVar 1) (dCons (dTup (dCons (dC (.int 1)) (dCons (dC (.int 2)) dNil))) (dCons (dC (.int 1)) (dCons (dC (.int 2)) dNil))))) dNil)))))) (gNm 4)) (sSeq (sAsg (dFn F_onto_itselfM (dCons (dVar 3) (dCons (dTup (dCons (dC (.int 1)) (dCons (dC (.int 4)) dNil))) dNil))) (gNm 7)) (sSeq (sDrop (dApp (dVar 7) (dCons (dTup (dCons (dC (.int 9)) (dCons (dC (.int 9)) dNil))) dNil))) (sSeq (sDrop (dApp (dVar 4) (dCons (dFn F_onto_itself (dCons (dVar 3) (dCons (dTup (dCons (dC (.int 1)) (dCons (dC (.int 4)) dNil))) dNil))) dNil))) (sRet (dAndB (dFn (F__law_same 16) (dCons (dVar 4) (dCons (dOp gAdd (dVar 5) (dFz (dChk (dCons (dFz (dChk (dCons (dTup (dCons (dC (.int 0)) (dCons (dC (.int 0)) dNil))) (dCons (dTup (dCons (dC (.int 0)) (dCons (dC (.int 2)) dNil))) dNil)))) (dCons (dTup (dCons (dTup (dCons (dC (.int 0)) (dCons (dC (.int 1)) dNil))) (dCons (dTup (dCons (dC (.int 0)) (dCons (dC (.int 3)) dNil))) (dCons (dTup (dCons (dC (.int 1)) (dCons (dC (.int 1)) dNil))) (dCons (dTup (dCons (dC (.int 1)) (dCons (dC (.int 3)) dNil))) dNil))))) (dCons (dFz (dChk (dCons (dTup (dCons (dC (.int 0)) (dCons (dC (.int 0)) dNil))) (dCons (dTup (dCons (dC (.int 0)) (dCons (dC (.int 2)) dNil))) (dCons (dTup (dCons (dC (.int 1)) (dCons (dC (.int 1)) dNil))) (dCons (dTup (dCons (dC (.int 1)) (dCons (dC (.int 3)) dNil))) dNil)))))) (dCons (dTup (dCons (dTup (dCons (dC (.int 0)) (dCons (dC (.int 0)) dNil))) (dCons (dTup (dCons (dC (.int 0)) (dCons (dC (.int 1)) dNil))) (dCons (dTup (dCons (dC (.int 0)) (dCons (dC (.int 2)) dNil))) (dCons (dTup (dCons (dC (.int 0)) (dCons (dC (.int 3)) dNil))) dNil))))) (dCons (dFz (dChk (dCons (dTup (dCons (dC (.int 0)) (dCons (dC (.int 0)) dNil))) (dCons (dTup (dCons (dC (.int 0)) (dCons (dC (.int 2)) dNil))) dNil)))) dNil)))))))) dNil))) (dFn F__law_things_right dNil)))))))))))))))))))))))
def F__law_hand_right : Df := dDef 0 8 B__law_hand_right
def B__law_case_right : Ds := sSeq (sAsg (dTup (dCons (dTup (dCons (dOp gAdd (dC (.int 1)) (dFn F__law_take (dCons (dVar 0) (dCons (dC (.int 5)) dNil)))) (dCons (dOp gAdd (dC (.int 1)) (dFn F__law_take (dCons (dVar 0) (dCons (dC (.int 5)) dNil)))) dNil))) (dCons (dFn F__law_ink (dCons (dVar 0) (dCons (dC (.int 6)) (dCons (dC (.int 4)) (dCons (dC (.int 5)) dNil))))) dNil))) (gTu 2 (gsCons (gNm 1) (gsCons (gNm 2) gsNil)))) (sSeq (sAsg (dTup (dCons (dFn F__law_rest (dCons (dVar 2) (dCons (dVar 1) dNil))) (dCons (dFn (F__law_lists 16) (dCons (dVar 2) dNil)) dNil))) (gTu 2 (gsCons (gNm 3) (gsCons (gNm 4) gsNil)))) (sSeq (sIf (dNotT (dTruth (dFn (F__law_same 16) (dCons (dFz (dChk (dCons (dFn F_fallen (dCons (dVar 2) (dCons (dVar 1) dNil))) (dCons (dFn F_fallen (dCons (dVar 4) (dCons (dFz (dCallN gList (dCons (dVar 1) dNil))) dNil))) (dCons (dFn F_is_on (dCons (dVar 1) (dCons (dVar 3) dNil))) dNil))))) (dCons (dFz (dChk (dCons (dVar 3) (dCons (dVar 3) (dCons (dC (.bl true)) dNil))))) dNil))))) (sRet (dC (.bl false))) sNil) (sSeq (sIf (dNotT (dTruth (dFn (F__law_same 16) (dCons (dFn F_is_on (dCons (dVar 1) (dCons (dVar 2) dNil))) (dCons (dOp gEq (dVar 2) (dVar 3)) dNil))))) (sRet (dC (.bl false))) sNil) (sSeq (sPar [5, 6] (dCons (dOp gAdd (dC (.int 1)) (dFn F__law_take (dCons (dVar 0) (dCons (dC (.int 4)) dNil)))) (dCons (dOp gAdd (dC (.int 1)) (dFn F__law_take (dCons (dVar 0) (dCons (dC (.int 4)) dNil)))) dNil))) (sSeq (sAsg (dTup (dCons (dOp gMul (dOp gIx (dVar 1) (dC (.int 0))) (dVar 5)) (dCons (dOp gMul (dOp gIx (dVar 1) (dC (.int 1))) (dVar 6)) dNil))) (gNm 7)) (sSeq (sAsg (dCall gTuple (dCons (dFz (dComp [12] (iSeq (dFn F__law_grid (dCons (dOp gIx (dVar 7) (dC (.int 0))) (dCons (dOp gIx (dVar 7) (dC (.int 1))) dNil)))) (gNm 12) (dTest (dOp (gInSeq false) (dOp gIx (dFn F__law_rest (dCons (dTup (dCons (dVar 12) dNil)) (dCons (dVar 1) dNil))) (dC (.int 0))) (dVar 3))) (dVar 12))) dNil)) (gNm 8)) (sSeq (sAsg (dFn F_laid (dCons (dVar 3) (dCons (dVar 1) (dCons (dVar 5) (dCons (dVar 6) dNil))))) (gNm 9)) (sSeq (sIf (dNotT (dTruth (dFn (F__law_same 16) (dCons (dFz (dChk (dCons (dVar 9) (dCons (dFn F_is_on (dCons (dVar 7) (dCons (dVar 9) dNil))) (dCons (dFn F_laid (dCons (dFn (F__law_lists 16) (dCons (dVar 3) dNil)) (dCons (dFz (dCallN gList (dCons (dVar 1) dNil))) (dCons (dVar 5) (dCons (dVar 6) dNil))))) dNil))))) (dCons (dFz (dChk (dCons (dVar 8) (dCons (dC (.bl true)) (dCons (dVar 8) dNil))))) dNil))))) (sRet (dC (.bl false))) sNil) (sSeq (sIf (dTest (dOp gEq (dVar 2) (dTup dNil))) (sRet (dC (.bl true))) sNil) (sSeq (sAsg (dFn F__law_least (dCons (dVar 2) (dCons (dVar 1) dNil))) (gNm 10)) (sSeq (sIf (dNotT (dTruth (dFn (F__law_same 16) (dCons (dFz (dChk (dCons (dFn F_folded (dCons (dVar 2) (dCons (dVar 1) dNil))) (dCons (dFn F_folded (dCons (dVar 3) (dCons (dVar 1) dNil))) (dCons (dFn F_folded (dCons (dVar 4) (dCons (dFz (dCallN gList (dCons (dVar 1) dNil))) dNil))) (dCons (dFn F_folded (dCons (dVar 10) (dCons (dVar 1) dNil))) dNil)))))) (dCons (dOp gMul (dFz (dChk (dCons (dVar 10) dNil))) (dC (.int 4))) dNil))))) (sRet (dC (.bl false))) sNil) (sSeq (sAsg (dFz (dComp [12] (iSeq (dFn F__law_grid (dCons (dOp gIx (dVar 1) (dC (.int 0))) (dCons (dOp gIx (dVar 1) (dC (.int 1))) dNil)))) (gNm 12) (dTest (dOp gEq (dFn F__law_shift (dCons (dVar 3) (dCons (dVar 1) (dCons (dVar 12) dNil)))) (dVar 3))) (dVar 12))) (gNm 11)) (sRet (dFn (F__law_same 16) (dCons (dFz (dChk (dCons (dFn F_onto_itself (dCons (dVar 3) (dCons (dVar 1) dNil))) (dCons (dFn F_onto_itself (dCons (dFn (F__law_lists 16) (dCons (dVar 3) dNil)) (dCons (dFz (dCallN gList (dCons (dVar 1) dNil))) dNil))) dNil)))) (dCons (dFz (dChk (dCons (dVar 11) (dCons (dVar 11) dNil)))) dNil))))))))))))))))
def F__law_case_right : Df := dDef 1 12 B__law_case_right
theorem U__law_case_right {x0 : D} {S : Store} : F__law_case_right [x0] S = endD S.length (B__law_case_right [some x0, none, none, none, none, none, none, none, none, none, none, none, none] S) := dDef_eq (B := B__law_case_right) rfl
def B__law_right : Ds := sRet (dCall gAll (dCons (dFz (dComp [1] (iRan1 (dCons (dC (.int 8)) dNil)) (gNm 1) dYes (dFn F__law_case_right (dCons (dVar 0) dNil)))) dNil))
def F__law_right : Df := dDef 1 1 B__law_right
theorem U__law_right {x0 : D} {S : Store} : F__law_right [x0] S = endD S.length (B__law_right [some x0, none] S) := dDef_eq (B := B__law_right) rfl
def B_law : Ds := sSeq (sIf (dNotT (dTruth (dFn F__law_hand_right dNil))) (sRet (dC (.bl false))) sNil) (sSeq (sAsg (dFn F__law_cells (dCons (dVar 0) (dCons (dC (.int 3)) dNil))) (gNm 1)) (sRet (dCall gAll (dCons (dFz (dComp [2] (iRan1 (dCons (dCall gLen (dCons (dVar 1) dNil)) dNil)) (gNm 2) dYes (dFn F__law_right (dCons (dFn F__law_box (dCons (dVar 1) (dCons (dVar 2) dNil))) dNil)))) dNil))))
def F_law : Df := dDef 1 2 B_law
end Lw
namespace Lw
open PySem PySem.Spec PyProof.Rows L2 RZ Ws
def top (i : Nat) : Stmt := PySem.Challenge.pw_windowscores_k86_pictures_that_fall_on_f.main.body.getD i (.Pass ⟨0, 0, 0, 0⟩)
def defs : List (Str × Stmt) := ("is_number", top 1) :: ("tupled", top 2) :: ("rises", top 3) :: ("is_cell", top 5) :: ("is_picture", top 6) :: ("moved", top 7) :: ("is_floor", top 9) :: ("is_on", top 10) :: ("fallen", top 11) :: ("folded", top 12) :: ("onto_itself", top 13) :: ("laid", top 14) :: ("_law_box", top 16) :: ("_law_take", top 17) :: ("_law_cells", top 18) :: ("_law_of", top 19) :: ("_law_pick", top 20) :: ("_law_lists", top 21) :: ("_law_same", top 22) :: ("_law_grid", top 23) :: ("_law_ink", top 24) :: ("_law_rest", top 25) :: ("_law_shift", top 26) :: ("_law_least", top 27) :: ("_law_things_right", top 28) :: ("_law_hand_right", top 29) :: ("_law_case_right", top 30) :: ("_law_right", top 31) :: ("law", top 32) :: []
def blts : List Str := ["isinstance", "int", "bool", "list", "tuple", "zip", "all", "len", "set", "sorted", "min", "range", "abs", "enumerate", "dict", "str"]
def cst : List (Str × D) := []
abbrev TopT (K : PySem.W.Frag) (mg : Str → Option Value) (ad : Nat → Addr) (fdd : Nat → FuncData) : Prop := Top K mg defs blts cst ad fdd
section
variable {P : Program} {w : World} {K : PySem.W.Frag} {mg : Str → Option Value} {base : Heap} {ad : Nat → Addr} {fdd : Nat → FuncData}
abbrev st_is_number : Stmt := top 1
theorem sc_is_number : FnScope ["thing"] ["thing"] (defScope st_is_number) := ⟨rfl, rfl, rfl, by decide +kernel, rfl, by decide +kernel, by decide +kernel⟩
theorem bd_is_number (T : TopT K mg ad fdd) : Binds K (fdd 0) ["thing"] [] := (T.d 0 "is_number" st_is_number rfl).2.bindsN fun _ _ _ _ _ _ us hl => match us, hl with | [_], _ => rfl
theorem G_is_number (T : TopT K mg ad fdd) : FD P w K mg base 1 (ad 0) (fdd 0) ["thing"] F_is_number := cdef T (x := "is_number") (st := st_is_number) rfl ["thing"] ["thing"] [] ["isinstance", "int", "bool"] sc_is_number rfl (by decide +kernel) (by decide +kernel) (by decide +kernel) fun X c => ss_one (ss_ret (se_andB (se_isi1 (c.bl T 0 0).1 (c.bl T 0 0).2 (cv c 0 0) (c.ty T .int 1 1)) (se_one (se_notB (se_isi1 (c.bl T 0 0).1 (c.bl T 0 0).2 (cv c 0 0) (c.ty T .bool 2 2))))))
abbrev st_tupled : Stmt := top 2
theorem sc_tupled : FnScope ["thing", "part"] ["thing"] (defScope st_tupled) := ⟨rfl, rfl, rfl, by decide +kernel, rfl, by decide +kernel, by decide +kernel⟩
theorem bd_tupled (T : TopT K mg ad fdd) : Binds K (fdd 1) ["thing"] [] := (T.d 1 "tupled" st_tupled rfl).2.bindsN fun _ _ _ _ _ _ us hl => match us, hl with | [_], _ => rfl
theorem S_tupled (T : TopT K mg ad fdd) (k : Nat) {F : Df} (ih : FD P w K mg base (0 + k) (ad 1) (fdd 1) ["thing"] F) : FD P w K mg base (0 + k + 1) (ad 1) (fdd 1) ["thing"] (dDef 1 1 (B_tupled F)) := cdef T (x := "tupled") (st := st_tupled) rfl ["thing", "part"] ["thing"] [] ["isinstance", "list", "tuple"] sc_tupled rfl (by decide +kernel) (by decide +kernel) (by decide +kernel) fun X c => ss_one (ss_ret (se_if (st_truth (se_isi2 (c.bl T 0 0).1 (c.bl T 0 0).2 (cv c 0 0) (c.ty T .list 1 3) (c.ty T .tuple 2 4))) (se_tuplec (c.bl T 2 4).1 (c.bl T 2 4).2 (sa_cons (se_fz (clc c [("part", 1)] ["part"] ["part"] ["tupled"] (si_seq (cv c 0 0)) (fun Y1 c1 => ⟨cn c1 1 0, sts_nil, ccall c1 T 0 1 ih (bd_tupled T) (sa_cons (cv c1 1 0) sa_nil) (hk := Nat.le_refl _)⟩))) sa_nil)) (cv c 0 0)))
theorem G_tupled (T : TopT K mg ad fdd) : ∀ k, FD P w K mg base (0 + k) (ad 1) (fdd 1) ["thing"] (F_tupled k)
  | 0 => fd_zero
  | k + 1 => S_tupled T k (G_tupled T k)
abbrev st_rises : Stmt := top 3
theorem sc_rises : FnScope ["thing", "one", "other"] ["thing"] (defScope st_rises) := ⟨rfl, rfl, rfl, by decide +kernel, rfl, by decide +kernel, by decide +kernel⟩
theorem bd_rises (T : TopT K mg ad fdd) : Binds K (fdd 2) ["thing"] [] := (T.d 2 "rises" st_rises rfl).2.bindsN fun _ _ _ _ _ _ us hl => match us, hl with | [_], _ => rfl
theorem G_rises (T : TopT K mg ad fdd) : FD P w K mg base 1 (ad 2) (fdd 2) ["thing"] F_rises := cdef T (x := "rises") (st := st_rises) rfl ["thing", "one", "other"] ["thing"] [] ["zip", "all"] sc_rises rfl (by decide +kernel) (by decide +kernel) (by decide +kernel) fun X c => ss_one (ss_ret (se_all c.calm (c.bl T 1 6).1 (c.bl T 1 6).2 (sa_cons (se_fz (clc c [("one", 1), ("other", 2)] ["one", "other"] ["other", "one"] [] (si_zip (c.bl T 0 5).1 (c.bl T 0 5).2 (sa_cons (cv c 0 0) (sa_cons (se_sl (cv c 0 0) (so_some se_int) so_none) sa_nil))) (fun Y1 c1 => ⟨sg_tup c1.calm (sgs_cons (cn c1 1 1) (sgs_cons (cn c1 2 0) sgs_nil)), sts_nil, se_ltA c1.room (cv c1 1 0) (cv c1 2 1)⟩))) sa_nil)))
abbrev st_is_cell : Stmt := top 5
theorem sc_is_cell : FnScope ["thing"] ["thing"] (defScope st_is_cell) := ⟨rfl, rfl, rfl, by decide +kernel, rfl, by decide +kernel, by decide +kernel⟩
theorem bd_is_cell (T : TopT K mg ad fdd) : Binds K (fdd 3) ["thing"] [] := (T.d 3 "is_cell" st_is_cell rfl).2.bindsN fun _ _ _ _ _ _ us hl => match us, hl with | [_], _ => rfl
theorem G_is_cell (T : TopT K mg ad fdd) : FD P w K mg base 2 (ad 3) (fdd 3) ["thing"] F_is_cell := cdef T (x := "is_cell") (st := st_is_cell) rfl ["thing"] ["thing"] [] ["isinstance", "tuple", "len", "is_number"] sc_is_cell rfl (by decide +kernel) (by decide +kernel) (by decide +kernel) fun X c => ss_one (ss_ret (se_andB (se_isi1 (c.bl T 0 0).1 (c.bl T 0 0).2 (cv c 0 0) (c.ty T .tuple 1 4)) (se_andB (se_eq c.room (se_len (c.bl T 2 7).1 (c.bl T 2 7).2 (sa_cons (cv c 0 0) sa_nil)) se_int) (se_andB (ccall c T 3 0 (G_is_number T) (bd_is_number T) (sa_cons (se_ix c.room (cv c 0 0) se_int) sa_nil)) (se_one (ccall c T 3 0 (G_is_number T) (bd_is_number T) (sa_cons (se_ix c.room (cv c 0 0) se_int) sa_nil)))))))
abbrev st_is_picture : Stmt := top 6
theorem sc_is_picture : FnScope ["thing", "part"] ["thing"] (defScope st_is_picture) := ⟨rfl, rfl, rfl, by decide +kernel, rfl, by decide +kernel, by decide +kernel⟩
theorem bd_is_picture (T : TopT K mg ad fdd) : Binds K (fdd 4) ["thing"] [] := (T.d 4 "is_picture" st_is_picture rfl).2.bindsN fun _ _ _ _ _ _ us hl => match us, hl with | [_], _ => rfl
theorem G_is_picture (T : TopT K mg ad fdd) : FD P w K mg base 3 (ad 4) (fdd 4) ["thing"] F_is_picture := cdef T (x := "is_picture") (st := st_is_picture) rfl ["thing", "part"] ["thing"] [] ["isinstance", "tuple", "all", "rises"] sc_is_picture rfl (by decide +kernel) (by decide +kernel) (by decide +kernel) fun X c => ss_one (ss_ret (se_andB (se_isi1 (c.bl T 0 0).1 (c.bl T 0 0).2 (cv c 0 0) (c.ty T .tuple 1 4)) (se_andB (se_all c.calm (c.bl T 2 6).1 (c.bl T 2 6).2 (sa_cons (se_fz (clc c [("part", 1)] ["part"] ["part"] ["is_cell"] (si_seq (cv c 0 0)) (fun Y1 c1 => ⟨cn c1 1 0, sts_nil, ccall c1 T 0 3 (G_is_cell T) (bd_is_cell T) (sa_cons (cv c1 1 0) sa_nil)⟩))) sa_nil)) (se_one (ccall c T 3 2 (G_rises T) (bd_rises T) (sa_cons (cv c 0 0) sa_nil))))))
abbrev st_moved : Stmt := top 7
theorem sc_moved : FnScope ["picture", "rows", "columns", "row", "column"] ["picture", "rows", "columns"] (defScope st_moved) := ⟨rfl, rfl, rfl, by decide +kernel, rfl, by decide +kernel, by decide +kernel⟩
theorem bd_moved (T : TopT K mg ad fdd) : Binds K (fdd 5) ["picture", "rows", "columns"] [] := (T.d 5 "moved" st_moved rfl).2.bindsN fun _ _ _ _ _ _ us hl => match us, hl with | [_, _, _], _ => rfl
theorem G_moved (T : TopT K mg ad fdd) : FD P w K mg base 1 (ad 5) (fdd 5) ["picture", "rows", "columns"] F_moved := cdef T (x := "moved") (st := st_moved) rfl ["picture", "rows", "columns", "row", "column"] ["picture"] [] ["tuple"] sc_moved rfl (by decide +kernel) (by decide +kernel) (by decide +kernel) fun X c => ss_one (ss_ret (se_tuplec (c.bl T 0 4).1 (c.bl T 0 4).2 (sa_cons (se_fz (clc c [("row", 3), ("column", 4)] ["column", "columns", "row", "rows"] ["column", "row"] [] (si_seq (cv c 0 0)) (fun Y1 c1 => ⟨sg_tup c1.calm (sgs_cons (cn c1 3 1) (sgs_cons (cn c1 4 0) sgs_nil)), sts_nil, se_tup (sa_cons (se_add (cv c1 3 2) (cv c1 1 3)) (sa_cons (se_add (cv c1 4 0) (cv c1 2 1)) sa_nil))⟩))) sa_nil)))
abbrev st_is_floor : Stmt := top 9
theorem sc_is_floor : FnScope ["thing", "part"] ["thing"] (defScope st_is_floor) := ⟨rfl, rfl, rfl, by decide +kernel, rfl, by decide +kernel, by decide +kernel⟩
theorem bd_is_floor (T : TopT K mg ad fdd) : Binds K (fdd 6) ["thing"] [] := (T.d 6 "is_floor" st_is_floor rfl).2.bindsN fun _ _ _ _ _ _ us hl => match us, hl with | [_], _ => rfl
theorem G_is_floor (T : TopT K mg ad fdd) : FD P w K mg base 2 (ad 6) (fdd 6) ["thing"] F_is_floor := cdef T (x := "is_floor") (st := st_is_floor) rfl ["thing", "part"] ["thing"] [] ["isinstance", "tuple", "len", "all"] sc_is_floor rfl (by decide +kernel) (by decide +kernel) (by decide +kernel) fun X c => ss_cons (ss_if (st_w (sw_or (st_not (st_truth (se_isi1 (c.bl T 0 0).1 (c.bl T 0 0).2 (cv c 0 0) (c.ty T .tuple 1 4)))) (sw_or1 (st_ne c.room (se_len (c.bl T 2 7).1 (c.bl T 2 7).2 (sa_cons (cv c 0 0) sa_nil)) se_int)))) (ss_one (ss_ret se_bl)) ss_nil) (ss_one (ss_ret (se_all c.calm (c.bl T 3 6).1 (c.bl T 3 6).2 (sa_cons (se_fz (clc c [("part", 1)] ["part"] ["part"] ["is_number"] (si_seq (cv c 0 0)) (fun Y1 c1 => ⟨cn c1 1 0, sts_nil, se_andB (ccall c1 T 0 0 (G_is_number T) (bd_is_number T) (sa_cons (cv c1 1 0) sa_nil)) (se_one (se_gt (cv c1 1 0) se_int))⟩))) sa_nil))))
abbrev st_is_on : Stmt := top 10
theorem sc_is_on : FnScope ["floor", "thing", "row", "column"] ["floor", "thing"] (defScope st_is_on) := ⟨rfl, rfl, rfl, by decide +kernel, rfl, by decide +kernel, by decide +kernel⟩
theorem bd_is_on (T : TopT K mg ad fdd) : Binds K (fdd 7) ["floor", "thing"] [] := (T.d 7 "is_on" st_is_on rfl).2.bindsN fun _ _ _ _ _ _ us hl => match us, hl with | [_, _], _ => rfl
theorem G_is_on (T : TopT K mg ad fdd) : FD P w K mg base 4 (ad 7) (fdd 7) ["floor", "thing"] F_is_on := cdef T (x := "is_on") (st := st_is_on) rfl ["floor", "thing", "row", "column"] ["thing"] [] ["is_picture", "all"] sc_is_on rfl (by decide +kernel) (by decide +kernel) (by decide +kernel) fun X c => ss_one (ss_ret (se_andB (ccall c T 0 4 (G_is_picture T) (bd_is_picture T) (sa_cons (cv c 1 0) sa_nil)) (se_one (se_all c.calm (c.bl T 1 6).1 (c.bl T 1 6).2 (sa_cons (se_fz (clc c [("row", 2), ("column", 3)] ["row", "floor", "column"] ["column", "row"] [] (si_seq (cv c 1 0)) (fun Y1 c1 => ⟨sg_tup c1.calm (sgs_cons (cn c1 2 1) (sgs_cons (cn c1 3 0) sgs_nil)), sts_nil, se_andB (se_chain op_le (od_cmp _) op_lt (od_cmp _) se_int (cv c1 2 0) (se_ix c1.room (cv c1 0 1) se_int)) (se_one (se_chain op_le (od_cmp _) op_lt (od_cmp _) se_int (cv c1 3 2) (se_ix c1.room (cv c1 0 1) se_int)))⟩))) sa_nil)))))
abbrev st_fallen : Stmt := top 11
theorem sc_fallen : FnScope ["picture", "floor", "row", "column"] ["picture", "floor"] (defScope st_fallen) := ⟨rfl, rfl, rfl, by decide +kernel, rfl, by decide +kernel, by decide +kernel⟩
theorem bd_fallen (T : TopT K mg ad fdd) : Binds K (fdd 8) ["picture", "floor"] [] := (T.d 8 "fallen" st_fallen rfl).2.bindsN fun _ _ _ _ _ _ us hl => match us, hl with | [_, _], _ => rfl
theorem G_fallen (T : TopT K mg ad fdd) : FD P w K mg base 1 (ad 8) (fdd 8) ["picture", "floor"] F_fallen := cdef T (x := "fallen") (st := st_fallen) rfl ["picture", "floor", "row", "column"] ["picture"] [] ["set", "sorted", "tuple"] sc_fallen rfl (by decide +kernel) (by decide +kernel) (by decide +kernel) fun X c => ss_one (ss_ret (se_tuplec (c.bl T 2 4).1 (c.bl T 2 4).2 (sa_cons (se_fz (sn_sorted c.room c.calm (c.bl T 1 9).1 (c.bl T 1 9).2 (sa_cons (se_set c.room c.calm (c.bl T 0 8).1 (c.bl T 0 8).2 (sa_cons (se_fz (clc c [("row", 2), ("column", 3)] ["column", "floor", "row"] ["column", "row"] [] (si_seq (cv c 0 0)) (fun Y1 c1 => ⟨sg_tup c1.calm (sgs_cons (cn c1 2 1) (sgs_cons (cn c1 3 0) sgs_nil)), sts_nil, se_tup (sa_cons (se_mod (cv c1 2 2) (se_ix c1.room (cv c1 1 1) se_int)) (sa_cons (se_mod (cv c1 3 0) (se_ix c1.room (cv c1 1 1) se_int)) sa_nil))⟩))) sa_nil)) sa_nil))) sa_nil)))
abbrev st_folded : Stmt := top 12
theorem sc_folded : FnScope ["picture", "floor", "own", "row", "column"] ["picture", "floor"] (defScope st_folded) := ⟨rfl, rfl, rfl, by decide +kernel, rfl, by decide +kernel, by decide +kernel⟩
theorem bd_folded (T : TopT K mg ad fdd) : Binds K (fdd 9) ["picture", "floor"] [] := (T.d 9 "folded" st_folded rfl).2.bindsN fun _ _ _ _ _ _ us hl => match us, hl with | [_, _], _ => rfl
theorem G_folded (T : TopT K mg ad fdd) : FD P w K mg base 2 (ad 9) (fdd 9) ["picture", "floor"] F_folded := cdef T (x := "folded") (st := st_folded) rfl ["picture", "floor", "own", "row", "column"] ["floor", "picture", "own"] ["own"] ["fallen", "min"] sc_folded rfl (by decide +kernel) (by decide +kernel) (by decide +kernel) fun X c => ss_cons (cset c 2 0 (ccall c T 0 8 (G_fallen T) (bd_fallen T) (sa_cons (cv c 0 1) (sa_cons (cv c 1 0) sa_nil)))) (ss_one (ss_ret (cminD c (c.bl T 1 10).1 (c.bl T 1 10).2 (se_fz (clc c [("row", 3), ("column", 4)] ["floor", "column", "row", "own"] ["column", "row"] ["fallen", "moved"] (si_seq (cv c 2 2)) (fun Y1 c1 => ⟨sg_tup c1.calm (sgs_cons (cn c1 3 1) (sgs_cons (cn c1 4 0) sgs_nil)), sts_nil, ccall c1 T 0 8 (G_fallen T) (bd_fallen T) (sa_cons (ccall c1 T 1 5 (G_moved T) (bd_moved T) (sa_cons (cv c1 2 3) (sa_cons (se_neg (cv c1 3 2)) (sa_cons (se_neg (cv c1 4 1)) sa_nil)))) (sa_cons (cv c1 1 0) sa_nil))⟩))))))
abbrev st_onto_itself : Stmt := top 13
theorem sc_onto_itself : FnScope ["picture", "floor", "own", "found", "row", "column", "rows", "columns"] ["picture", "floor"] (defScope st_onto_itself) := ⟨rfl, rfl, rfl, by decide +kernel, rfl, by decide +kernel, by decide +kernel⟩
theorem bd_onto_itself (T : TopT K mg ad fdd) : Binds K (fdd 10) ["picture", "floor"] [] := (T.d 10 "onto_itself" st_onto_itself rfl).2.bindsN fun _ _ _ _ _ _ us hl => match us, hl with | [_, _], _ => rfl
theorem G_onto_itself (T : TopT K mg ad fdd) : FD P w K mg base 17 (ad 10) (fdd 10) ["picture", "floor"] F_onto_itself := cdef T (x := "onto_itself") (st := st_onto_itself) rfl ["picture", "floor", "own", "found", "row", "column", "rows", "columns"] ["picture", "own", "row", "floor", "column", "columns", "rows", "found"] ["column", "row"] ["tupled", "fallen", "moved", "sorted"] sc_onto_itself rfl (by decide +kernel) (by decide +kernel) (by decide +kernel) fun X c => ss_cons (cpar c 2 3 (sa_cons (ccall c T 0 1 (G_tupled T 16) (bd_tupled T) (sa_cons (cv c 0 0) sa_nil)) (sa_cons (se_mu (sn_lst sa_nil)) sa_nil))) (ss_cons (ss_for c.pass c.calm (si_seq (cv c 2 1)) (sg_tup c.calm (sgs_cons (cn c 4 1) (sgs_cons (cn c 5 0) sgs_nil))) (ss_cons (cpar c 6 7 (sa_cons (se_mod (se_sub (cv c 4 2) (se_ix c.room (se_ix c.room (cv c 2 1) se_int) se_int)) (se_ix c.room (cv c 1 3) se_int)) (sa_cons (se_mod (se_sub (cv c 5 4) (se_ix c.room (se_ix c.room (cv c 2 1) se_int) se_int)) (se_ix c.room (cv c 1 3) se_int)) sa_nil))) (ss_one (ss_if (st_eq c.room (ccall c T 1 8 (G_fallen T) (bd_fallen T) (sa_cons (ccall c T 2 5 (G_moved T) (bd_moved T) (sa_cons (cv c 2 1) (sa_cons (cv c 6 6) (sa_cons (cv c 7 5) sa_nil)))) (sa_cons (cv c 1 3) sa_nil))) (cv c 2 1)) (ss_one (ss_expr (se_append (cv c 3 7) (sa_cons (se_tup (sa_cons (cv c 6 6) (sa_cons (cv c 7 5) sa_nil))) sa_nil)))) ss_nil)))) (ss_one (ss_ret (se_fz (sn_sorted c.room c.calm (c.bl T 3 9).1 (c.bl T 3 9).2 (sa_cons (cv c 3 7) sa_nil))))))
abbrev st_laid : Stmt := top 14
theorem sc_laid : FnScope ["picture", "floor", "down", "across", "row", "column", "high", "wide"] ["picture", "floor", "down", "across"] (defScope st_laid) := ⟨rfl, rfl, rfl, by decide +kernel, rfl, by decide +kernel, by decide +kernel⟩
theorem bd_laid (T : TopT K mg ad fdd) : Binds K (fdd 11) ["picture", "floor", "down", "across"] [] := (T.d 11 "laid" st_laid rfl).2.bindsN fun _ _ _ _ _ _ us hl => match us, hl with | [_, _, _, _], _ => rfl
theorem G_laid (T : TopT K mg ad fdd) : FD P w K mg base 1 (ad 11) (fdd 11) ["picture", "floor", "down", "across"] F_laid := cdef T (x := "laid") (st := st_laid) rfl ["picture", "floor", "down", "across", "row", "column", "high", "wide"] ["picture"] [] ["sorted", "tuple"] sc_laid rfl (by decide +kernel) (by decide +kernel) (by decide +kernel) fun X c => ss_one (ss_ret (se_tuplec (c.bl T 1 4).1 (c.bl T 1 4).2 (sa_cons (se_fz (sn_sorted c.room c.calm (c.bl T 0 9).1 (c.bl T 0 9).2 (sa_cons (se_fz (clc3 c [("row", 4), ("column", 5), ("high", 6), ("wide", 7)] [6, 7] [7] ["down", "across", "column", "wide", "floor", "row", "high"] ["column", "row", "high", "wide"] ["range"] (si_seq (cv c 0 0)) (fun Y1 c1 => ⟨sg_tup c1.calm (sgs_cons (cn c1 4 1) (sgs_cons (cn c1 5 0) sgs_nil)), sts_nil, si_range1 (c1.bl T 0 11).1 (c1.bl T 0 11).2 (sa_cons (cv c1 2 0) sa_nil), cn c1 6 2, sts_nil, si_range1 (c1.bl T 0 11).1 (c1.bl T 0 11).2 (sa_cons (cv c1 3 1) sa_nil), cn c1 7 3, sts_nil, se_tup (sa_cons (se_add (cv c1 4 5) (se_mul (cv c1 6 6) (se_ix c1.room (cv c1 1 4) se_int))) (sa_cons (se_add (cv c1 5 2) (se_mul (cv c1 7 3) (se_ix c1.room (cv c1 1 4) se_int))) sa_nil))⟩))) sa_nil))) sa_nil)))
abbrev st__law_box : Stmt := top 16
theorem sc__law_box : FnScope ["_law_script", "_law_k", "_law_great_so"] ["_law_script", "_law_k"] (defScope st__law_box) := ⟨rfl, rfl, rfl, by decide +kernel, rfl, by decide +kernel, by decide +kernel⟩
theorem bd__law_box (T : TopT K mg ad fdd) : Binds K (fdd 12) ["_law_script", "_law_k"] [] := (T.d 12 "_law_box" st__law_box rfl).2.bindsN fun _ _ _ _ _ _ us hl => match us, hl with | [_, _], _ => rfl
theorem G__law_box (T : TopT K mg ad fdd) : FD P w K mg base 1 (ad 12) (fdd 12) ["_law_script", "_law_k"] F__law_box := cdefM T (x := "_law_box") (st := st__law_box) rfl ["_law_script", "_law_k", "_law_great_so"] ["_law_k", "_law_script", "_law_great_so"] ["_law_great_so"] ["len", "int", "abs"] sc__law_box rfl (by decide +kernel) (by decide +kernel) (by decide +kernel) fun X c => ss_cons (cset c 2 0 (se_if (st_ltA c.room (cv c 1 0) (se_len (c.bl T 0 7).1 (c.bl T 0 7).2 (sa_cons (cv c 0 1) sa_nil))) (se_ix c.room (cv c 0 1) (cv c 1 0)) se_int)) (ss_one (ss_ret (se_mu (sn_lst (sa_cons (se_mul (se_abs (c.bl T 2 12).1 (c.bl T 2 12).2 (sa_cons (cv c 2 2) sa_nil)) (se_intc (c.bl T 1 1).1 (c.bl T 1 1).2 (sa_cons (se_ge (se_abs (c.bl T 2 12).1 (c.bl T 2 12).2 (sa_cons (cv c 2 2) sa_nil)) (se_pow se_int se_int)) sa_nil))) (sa_cons (se_add (se_add (se_mod (se_intc (c.bl T 1 1).1 (c.bl T 1 1).2 (sa_cons (cv c 2 2) sa_nil)) se_int) (se_mul se_int (cv c 1 0))) se_int) (sa_cons se_int sa_nil)))))))
abbrev st__law_take : Stmt := top 17
theorem sc__law_take : FnScope ["_law_box_here", "_law_top_so", "_law_digit_so", "_law_once", "_law_far", "_law_twice"] ["_law_box_here", "_law_top_so"] (defScope st__law_take) := ⟨rfl, rfl, rfl, by decide +kernel, rfl, by decide +kernel, by decide +kernel⟩
theorem bd__law_take (T : TopT K mg ad fdd) : Binds K (fdd 13) ["_law_box_here", "_law_top_so"] [] := (T.d 13 "_law_take" st__law_take rfl).2.bindsN fun _ _ _ _ _ _ us hl => match us, hl with | [_, _], _ => rfl
theorem G__law_take (T : TopT K mg ad fdd) : FD P w K mg base 1 (ad 13) (fdd 13) ["_law_box_here", "_law_top_so"] F__law_take := cdef T (x := "_law_take") (st := st__law_take) rfl ["_law_box_here", "_law_top_so", "_law_digit_so", "_law_once", "_law_far", "_law_twice"] ["_law_box_here", "_law_top_so", "_law_digit_so", "_law_once", "_law_far", "_law_twice"] ["_law_digit_so", "_law_once", "_law_far", "_law_twice"] ["int"] sc__law_take rfl (by decide +kernel) (by decide +kernel) (by decide +kernel) fun X c => ss_cons (ss_if (st_gt (se_ix c.room (cv c 0 0) se_int) se_int) (ss_cons (cset c 2 0 (se_mod (se_intc (c.bl T 0 1).1 (c.bl T 0 1).2 (sa_cons (se_ix c.room (cv c 0 0) se_int) sa_nil)) (cv c 1 1))) (ss_cons (ss_setIx c.room (se_fdiv (se_ix c.room (cv c 0 0) se_int) (cv c 1 1)) (cv c 0 0) se_int) (ss_one (ss_ret (cv c 2 2))))) ss_nil) (ss_cons (ss_setIx c.room (se_add (se_ix c.room (cv c 0 0) se_int) se_int) (cv c 0 0) se_int) (ss_cons (cset c 3 1 (se_mod (se_intc (c.bl T 0 1).1 (c.bl T 0 1).2 (sa_cons (se_mul (se_add (se_ix c.room (cv c 0 0) se_int) (se_mul se_int (se_ix c.room (cv c 0 0) se_int))) (se_add se_int (se_ix c.room (cv c 0 0) se_int))) sa_nil)) se_int)) (ss_cons (cset c 4 2 (se_add (se_mod (se_intc (c.bl T 0 1).1 (c.bl T 0 1).2 (sa_cons (cv c 3 3) sa_nil)) se_int) se_int)) (ss_cons (cset c 5 3 (se_mod (se_intc (c.bl T 0 1).1 (c.bl T 0 1).2 (sa_cons (se_mul (se_add (se_add (cv c 3 3) (se_ix c.room (cv c 0 0) se_int)) (se_fdiv (se_ix c.room (cv c 0 0) se_int) se_int)) (cv c 4 4)) sa_nil)) se_int)) (ss_one (ss_ret (se_mod (se_intc (c.bl T 0 1).1 (c.bl T 0 1).2 (sa_cons (se_fdiv (se_mod (se_intc (c.bl T 0 1).1 (c.bl T 0 1).2 (sa_cons (se_add (se_mul (cv c 5 5) se_int) (cv c 3 3)) sa_nil)) se_int) se_int) sa_nil)) (cv c 1 1))))))))
abbrev st__law_cells : Stmt := top 18
theorem sc__law_cells : FnScope ["_law_script", "_law_most", "_law_cells_here", "_law_k", "_law_great_so", "_law_at_so"] ["_law_script", "_law_most"] (defScope st__law_cells) := ⟨rfl, rfl, rfl, by decide +kernel, rfl, by decide +kernel, by decide +kernel⟩
theorem bd__law_cells (T : TopT K mg ad fdd) : Binds K (fdd 14) ["_law_script", "_law_most"] [] := (T.d 14 "_law_cells" st__law_cells rfl).2.bindsN fun _ _ _ _ _ _ us hl => match us, hl with | [_, _], _ => rfl
theorem G__law_cells (T : TopT K mg ad fdd) : FD P w K mg base 1 (ad 14) (fdd 14) ["_law_script", "_law_most"] F__law_cells := cdefM T (x := "_law_cells") (st := st__law_cells) rfl ["_law_script", "_law_most", "_law_cells_here", "_law_k", "_law_great_so", "_law_at_so"] ["_law_script", "_law_most", "_law_k", "_law_cells_here", "_law_at_so", "_law_great_so"] ["_law_cells_here", "_law_great_so", "_law_k", "_law_at_so"] ["list", "enumerate", "int"] sc__law_cells rfl (by decide +kernel) (by decide +kernel) (by decide +kernel) fun X c => ss_cons (cset c 2 0 (se_orB (se_mu (sn_list (c.bl T 0 3).1 (c.bl T 0 3).2 (sa_cons (se_sl (cv c 0 0) so_none (so_some (cv c 1 1))) sa_nil))) (se_one (se_mu (sn_lst (sa_cons se_int sa_nil)))))) (ss_cons (ss_for c.pass c.calm (si_enum (c.bl T 1 13).1 (c.bl T 1 13).2 (sa_cons (se_sl (cv c 0 0) (so_some (cv c 1 1)) (so_some se_int)) sa_nil)) (sg_tup c.calm (sgs_cons (cn c 3 2) (sgs_cons (cn c 4 1) sgs_nil))) (ss_cons (cset c 5 3 (se_mod (se_intc (c.bl T 2 1).1 (c.bl T 2 1).2 (sa_cons (cv c 3 2) sa_nil)) (cv c 1 1))) (ss_one (ss_setIx c.room (se_add (se_ix c.room (cv c 2 3) (cv c 5 4)) (se_mul (cv c 4 5) (se_add (cv c 3 2) se_int))) (cv c 2 3) (cv c 5 4))))) (ss_one (ss_ret (cv c 2 3))))
abbrev st__law_of : Stmt := top 19
theorem sc__law_of : FnScope ["_law_box_here", "_law_some"] ["_law_box_here", "_law_some"] (defScope st__law_of) := ⟨rfl, rfl, rfl, by decide +kernel, rfl, by decide +kernel, by decide +kernel⟩
theorem bd__law_of (T : TopT K mg ad fdd) : Binds K (fdd 15) ["_law_box_here", "_law_some"] [] := (T.d 15 "_law_of" st__law_of rfl).2.bindsN fun _ _ _ _ _ _ us hl => match us, hl with | [_, _], _ => rfl
theorem G__law_of (T : TopT K mg ad fdd) : FD P w K mg base 2 (ad 15) (fdd 15) ["_law_box_here", "_law_some"] F__law_of := cdef T (x := "_law_of") (st := st__law_of) rfl ["_law_box_here", "_law_some"] ["_law_some", "_law_box_here"] [] ["_law_take", "len"] sc__law_of rfl (by decide +kernel) (by decide +kernel) (by decide +kernel) fun X c => ss_one (ss_ret (se_ix c.room (cv c 1 0) (ccall c T 0 13 (G__law_take T) (bd__law_take T) (sa_cons (cv c 0 1) (sa_cons (se_len (c.bl T 1 7).1 (c.bl T 1 7).2 (sa_cons (cv c 1 0) sa_nil)) sa_nil)))))
abbrev st__law_pick : Stmt := top 20
theorem sc__law_pick : FnScope ["_law_box_here", "_law_pool", "_law_size_so", "_law_rest_here", "_law_some", "_law_turn"] ["_law_box_here", "_law_pool", "_law_size_so"] (defScope st__law_pick) := ⟨rfl, rfl, rfl, by decide +kernel, rfl, by decide +kernel, by decide +kernel⟩
theorem bd__law_pick (T : TopT K mg ad fdd) : Binds K (fdd 16) ["_law_box_here", "_law_pool", "_law_size_so"] [] := (T.d 16 "_law_pick" st__law_pick rfl).2.bindsN fun _ _ _ _ _ _ us hl => match us, hl with | [_, _, _], _ => rfl
theorem G__law_pick (T : TopT K mg ad fdd) : FD P w K mg base 2 (ad 16) (fdd 16) ["_law_box_here", "_law_pool", "_law_size_so"] F__law_pick := cdef T (x := "_law_pick") (st := st__law_pick) rfl ["_law_box_here", "_law_pool", "_law_size_so", "_law_rest_here", "_law_some", "_law_turn"] ["_law_pool", "_law_rest_here", "_law_size_so", "_law_some", "_law_box_here"] ["_law_turn"] ["list", "len", "min", "range", "_law_take"] sc__law_pick rfl (by decide +kernel) (by decide +kernel) (by decide +kernel) fun X c => ss_cons (cpar c 3 4 (sa_cons (se_mu (sn_list (c.bl T 0 3).1 (c.bl T 0 3).2 (sa_cons (cv c 1 0) sa_nil))) (sa_cons (se_mu (sn_lst sa_nil)) sa_nil))) (ss_cons (ss_for c.pass c.calm (si_range1 (c.bl T 3 11).1 (c.bl T 3 11).2 (sa_cons (se_min c.calm (c.bl T 2 10).1 (c.bl T 2 10).2 (sa_cons (cv c 2 2) (sa_cons (se_len (c.bl T 1 7).1 (c.bl T 1 7).2 (sa_cons (cv c 3 1) sa_nil)) sa_nil))) sa_nil)) (cn c 5 0) (ss_one (ss_expr (se_append (cv c 4 3) (sa_cons (se_pop1 (cv c 3 1) (sa_cons (ccall c T 4 13 (G__law_take T) (bd__law_take T) (sa_cons (cv c 0 4) (sa_cons (se_len (c.bl T 1 7).1 (c.bl T 1 7).2 (sa_cons (cv c 3 1) sa_nil)) sa_nil))) sa_nil)) sa_nil))))) (ss_one (ss_ret (cv c 4 3))))
abbrev st__law_lists : Stmt := top 21
theorem sc__law_lists : FnScope ["_law_matter", "_law_bit"] ["_law_matter"] (defScope st__law_lists) := ⟨rfl, rfl, rfl, by decide +kernel, rfl, by decide +kernel, by decide +kernel⟩
theorem bd__law_lists (T : TopT K mg ad fdd) : Binds K (fdd 17) ["_law_matter"] [] := (T.d 17 "_law_lists" st__law_lists rfl).2.bindsN fun _ _ _ _ _ _ us hl => match us, hl with | [_], _ => rfl
theorem S__law_lists (T : TopT K mg ad fdd) (k : Nat) {F : Df} (ih : FD P w K mg base (0 + k) (ad 17) (fdd 17) ["_law_matter"] F) : FD P w K mg base (0 + k + 1) (ad 17) (fdd 17) ["_law_matter"] (dDef 1 1 (B__law_lists F)) := cdef T (x := "_law_lists") (st := st__law_lists) rfl ["_law_matter", "_law_bit"] ["_law_matter"] [] ["isinstance", "list", "tuple"] sc__law_lists rfl (by decide +kernel) (by decide +kernel) (by decide +kernel) fun X c => ss_one (ss_ret (se_if (st_truth (se_isi2 (c.bl T 0 0).1 (c.bl T 0 0).2 (cv c 0 0) (c.ty T .list 1 3) (c.ty T .tuple 2 4))) (se_fz (clc c [("_law_bit", 1)] ["_law_bit"] ["_law_bit"] ["_law_lists"] (si_seq (cv c 0 0)) (fun Y1 c1 => ⟨cn c1 1 0, sts_nil, ccall c1 T 0 17 ih (bd__law_lists T) (sa_cons (cv c1 1 0) sa_nil) (hk := Nat.le_refl _)⟩))) (cv c 0 0)))
theorem G__law_lists (T : TopT K mg ad fdd) : ∀ k, FD P w K mg base (0 + k) (ad 17) (fdd 17) ["_law_matter"] (F__law_lists k)
  | 0 => fd_zero
  | k + 1 => S__law_lists T k (G__law_lists T k)
abbrev st__law_same : Stmt := top 22
theorem sc__law_same : FnScope ["_law_got", "_law_due", "_law_own", "_law_mine", "_law_its"] ["_law_got", "_law_due"] (defScope st__law_same) := ⟨rfl, rfl, rfl, by decide +kernel, rfl, by decide +kernel, by decide +kernel⟩
theorem bd__law_same (T : TopT K mg ad fdd) : Binds K (fdd 18) ["_law_got", "_law_due"] [] := (T.d 18 "_law_same" st__law_same rfl).2.bindsN fun _ _ _ _ _ _ us hl => match us, hl with | [_, _], _ => rfl
theorem S__law_same (T : TopT K mg ad fdd) (k : Nat) {F : Df} (ih : FD P w K mg base (0 + k) (ad 18) (fdd 18) ["_law_got", "_law_due"] F) : FD P w K mg base (0 + k + 1) (ad 18) (fdd 18) ["_law_got", "_law_due"] (dDef 2 3 (B__law_same F)) := cdef T (x := "_law_same") (st := st__law_same) rfl ["_law_got", "_law_due", "_law_own", "_law_mine", "_law_its"] ["_law_due", "_law_got"] [] ["isinstance", "list", "tuple", "len", "zip", "all", "dict", "sorted", "bool", "str", "int"] sc__law_same rfl (by decide +kernel) (by decide +kernel) (by decide +kernel) fun X c => ss_cons (ss_if (st_truth (se_isi2 (c.bl T 0 0).1 (c.bl T 0 0).2 (cv c 1 0) (c.ty T .list 1 3) (c.ty T .tuple 2 4))) (ss_cons (ss_if (st_w (sw_or (st_ne c.room (se_isi1 (c.bl T 0 0).1 (c.bl T 0 0).2 (cv c 0 1) (c.ty T .list 1 3)) (se_isi1 (c.bl T 0 0).1 (c.bl T 0 0).2 (cv c 1 0) (c.ty T .list 1 3))) (sw_or1 (st_ne c.room (se_isi1 (c.bl T 0 0).1 (c.bl T 0 0).2 (cv c 0 1) (c.ty T .tuple 2 4)) (se_isi1 (c.bl T 0 0).1 (c.bl T 0 0).2 (cv c 1 0) (c.ty T .tuple 2 4)))))) (ss_one (ss_ret se_bl)) ss_nil) (ss_one (ss_ret (se_andB (se_eq c.room (se_len (c.bl T 3 7).1 (c.bl T 3 7).2 (sa_cons (cv c 0 1) sa_nil)) (se_len (c.bl T 3 7).1 (c.bl T 3 7).2 (sa_cons (cv c 1 0) sa_nil))) (se_one (se_all c.calm (c.bl T 5 6).1 (c.bl T 5 6).2 (sa_cons (se_fz (clc c [("_law_mine", 3), ("_law_its", 4)] ["_law_its", "_law_mine"] ["_law_its", "_law_mine"] ["_law_same"] (si_zip (c.bl T 4 5).1 (c.bl T 4 5).2 (sa_cons (cv c 0 1) (sa_cons (cv c 1 0) sa_nil))) (fun Y1 c1 => ⟨sg_tup c1.calm (sgs_cons (cn c1 3 1) (sgs_cons (cn c1 4 0) sgs_nil)), sts_nil, ccall c1 T 0 18 ih (bd__law_same T) (sa_cons (cv c1 3 1) (sa_cons (cv c1 4 0) sa_nil)) (hk := Nat.le_refl _)⟩))) sa_nil))))))) ss_nil) (ss_cons (ss_if (st_truth (se_isi1 (c.bl T 0 0).1 (c.bl T 0 0).2 (cv c 1 0) (c.ty T .dict 6 14))) (ss_cons (ss_if (st_w (sw_or (st_not (st_truth (se_isi1 (c.bl T 0 0).1 (c.bl T 0 0).2 (cv c 0 1) (c.ty T .dict 6 14)))) (sw_or1 (st_ne c.room (se_fz (sn_sorted c.room c.calm (c.bl T 7 9).1 (c.bl T 7 9).2 (sa_cons (cv c 0 1) sa_nil))) (se_fz (sn_sorted c.room c.calm (c.bl T 7 9).1 (c.bl T 7 9).2 (sa_cons (cv c 1 0) sa_nil))))))) (ss_one (ss_ret se_bl)) ss_nil) (ss_one (ss_ret (se_all c.calm (c.bl T 5 6).1 (c.bl T 5 6).2 (sa_cons (se_fz (clc c [("_law_own", 2)] ["_law_due", "_law_own", "_law_got"] ["_law_own"] ["_law_same"] (si_seq (cv c 1 0)) (fun Y2 c2 => ⟨cn c2 2 0, sts_nil, ccall c2 T 0 18 ih (bd__law_same T) (sa_cons (se_ix c2.room (cv c2 0 2) (cv c2 2 1)) (sa_cons (se_ix c2.room (cv c2 1 0) (cv c2 2 1)) sa_nil)) (hk := Nat.le_refl _)⟩))) sa_nil))))) ss_nil) (ss_cons (ss_if (st_w (sw_or (st_is (cv c 1 0) se_non) (sw_or1 (st_truth (se_isi2 (c.bl T 0 0).1 (c.bl T 0 0).2 (cv c 1 0) (c.ty T .bool 8 2) (c.ty T .str 9 15)))))) (ss_one (ss_ret (se_andB (se_eq c.room (cv c 0 1) (cv c 1 0)) (se_andB (se_eq c.room (se_isi1 (c.bl T 0 0).1 (c.bl T 0 0).2 (cv c 0 1) (c.ty T .bool 8 2)) (se_isi1 (c.bl T 0 0).1 (c.bl T 0 0).2 (cv c 1 0) (c.ty T .bool 8 2))) (se_one (se_eq c.room (se_is (cv c 0 1) se_non) (se_is (cv c 1 0) se_non))))))) ss_nil) (ss_one (ss_ret (se_andB (se_isi1 (c.bl T 0 0).1 (c.bl T 0 0).2 (cv c 0 1) (c.ty T .int 10 1)) (se_andB (se_notB (se_isi1 (c.bl T 0 0).1 (c.bl T 0 0).2 (cv c 0 1) (c.ty T .bool 8 2))) (se_one (se_eq c.room (cv c 0 1) (cv c 1 0)))))))))
theorem G__law_same (T : TopT K mg ad fdd) : ∀ k, FD P w K mg base (0 + k) (ad 18) (fdd 18) ["_law_got", "_law_due"] (F__law_same k)
  | 0 => fd_zero
  | k + 1 => S__law_same T k (G__law_same T k)
abbrev st__law_grid : Stmt := top 23
theorem sc__law_grid : FnScope ["_law_high_so", "_law_wide_so", "_law_found", "_law_k", "_law_j"] ["_law_high_so", "_law_wide_so"] (defScope st__law_grid) := ⟨rfl, rfl, rfl, by decide +kernel, rfl, by decide +kernel, by decide +kernel⟩
theorem bd__law_grid (T : TopT K mg ad fdd) : Binds K (fdd 19) ["_law_high_so", "_law_wide_so"] [] := (T.d 19 "_law_grid" st__law_grid rfl).2.bindsN fun _ _ _ _ _ _ us hl => match us, hl with | [_, _], _ => rfl
theorem G__law_grid (T : TopT K mg ad fdd) : FD P w K mg base 1 (ad 19) (fdd 19) ["_law_high_so", "_law_wide_so"] F__law_grid := cdef T (x := "_law_grid") (st := st__law_grid) rfl ["_law_high_so", "_law_wide_so", "_law_found", "_law_k", "_law_j"] ["_law_high_so", "_law_found", "_law_wide_so"] ["_law_found", "_law_k"] ["range"] sc__law_grid rfl (by decide +kernel) (by decide +kernel) (by decide +kernel) fun X c => ss_cons (cset c 2 0 (se_fz (sn_lst sa_nil))) (ss_cons (ss_for c.pass c.calm (si_range1 (c.bl T 0 11).1 (c.bl T 0 11).2 (sa_cons (cv c 0 0) sa_nil)) (cn c 3 1) (ss_one (cset c 2 0 (se_add (cv c 2 1) (se_fz (clc c [("_law_j", 4)] ["_law_j", "_law_k"] ["_law_j"] [] (si_range1 (c.bl T 0 11).1 (c.bl T 0 11).2 (sa_cons (cv c 1 2) sa_nil)) (fun Y1 c1 => ⟨cn c1 4 0, sts_nil, se_tup (sa_cons (cv c1 3 1) (sa_cons (cv c1 4 0) sa_nil))⟩))))))) (ss_one (ss_ret (cv c 2 1))))
abbrev st__law_ink : Stmt := top 24
theorem sc__law_ink : FnScope ["_law_box_here", "_law_most", "_law_high_so", "_law_wide_so", "_law_some", "_law_down_so", "_law_right_so", "_law_dot"] ["_law_box_here", "_law_most", "_law_high_so", "_law_wide_so"] (defScope st__law_ink) := ⟨rfl, rfl, rfl, by decide +kernel, rfl, by decide +kernel, by decide +kernel⟩
theorem bd__law_ink (T : TopT K mg ad fdd) : Binds K (fdd 20) ["_law_box_here", "_law_most", "_law_high_so", "_law_wide_so"] [] := (T.d 20 "_law_ink" st__law_ink rfl).2.bindsN fun _ _ _ _ _ _ us hl => match us, hl with | [_, _, _, _], _ => rfl
theorem G__law_ink (T : TopT K mg ad fdd) : FD P w K mg base 3 (ad 20) (fdd 20) ["_law_box_here", "_law_most", "_law_high_so", "_law_wide_so"] F__law_ink := cdef T (x := "_law_ink") (st := st__law_ink) rfl ["_law_box_here", "_law_most", "_law_high_so", "_law_wide_so", "_law_some", "_law_down_so", "_law_right_so", "_law_dot"] ["_law_most", "_law_box_here", "_law_wide_so", "_law_high_so", "_law_some"] ["_law_some", "_law_right_so", "_law_down_so"] ["_law_pick", "_law_take", "_law_grid", "_law_of", "sorted", "tuple"] sc__law_ink rfl (by decide +kernel) (by decide +kernel) (by decide +kernel) fun X c => ss_cons (cset c 4 0 (ccall c T 0 16 (G__law_pick T) (bd__law_pick T) (sa_cons (cv c 0 1) (sa_cons (ccall c T 2 19 (G__law_grid T) (bd__law_grid T) (sa_cons (cv c 2 3) (sa_cons (cv c 3 2) sa_nil))) (sa_cons (ccall c T 1 13 (G__law_take T) (bd__law_take T) (sa_cons (cv c 0 1) (sa_cons (se_add (cv c 1 0) se_int) sa_nil))) sa_nil))))) (ss_cons (casg c (se_tup (sa_cons (ccall c T 3 15 (G__law_of T) (bd__law_of T) (sa_cons (cv c 0 1) (sa_cons (se_fz (sn_lst (sa_cons se_int (sa_cons se_int (sa_cons (se_neg se_int) (sa_cons se_int (sa_cons (se_neg se_int) (sa_cons (se_pow se_int se_int) (sa_cons (se_sub se_int (se_pow se_int se_int)) sa_nil))))))))) sa_nil))) (sa_cons (ccall c T 3 15 (G__law_of T) (bd__law_of T) (sa_cons (cv c 0 1) (sa_cons (se_fz (sn_lst (sa_cons se_int (sa_cons se_int (sa_cons (se_neg se_int) (sa_cons se_int (sa_cons (se_pow se_int se_int) sa_nil))))))) sa_nil))) sa_nil))) (sg_tup c.calm (sgs_cons (cn c 5 2) (sgs_cons (cn c 6 1) sgs_nil)))) (ss_one (ss_ret (se_tuplec (c.bl T 5 4).1 (c.bl T 5 4).2 (sa_cons (se_fz (sn_sorted c.room c.calm (c.bl T 4 9).1 (c.bl T 4 9).2 (sa_cons (se_fz (clc c [("_law_dot", 7)] ["_law_dot", "_law_right_so", "_law_down_so"] ["_law_dot"] [] (si_seq (cv c 4 4)) (fun Y1 c1 => ⟨cn c1 7 0, sts_nil, se_tup (sa_cons (se_add (se_ix c1.room (cv c1 7 0) se_int) (cv c1 5 2)) (sa_cons (se_add (se_ix c1.room (cv c1 7 0) se_int) (cv c1 6 1)) sa_nil))⟩))) sa_nil))) sa_nil)))))
abbrev st__law_rest : Stmt := top 25
theorem sc__law_rest : FnScope ["_law_ink_here", "_law_plot", "_law_dot"] ["_law_ink_here", "_law_plot"] (defScope st__law_rest) := ⟨rfl, rfl, rfl, by decide +kernel, rfl, by decide +kernel, by decide +kernel⟩
theorem bd__law_rest (T : TopT K mg ad fdd) : Binds K (fdd 21) ["_law_ink_here", "_law_plot"] [] := (T.d 21 "_law_rest" st__law_rest rfl).2.bindsN fun _ _ _ _ _ _ us hl => match us, hl with | [_, _], _ => rfl
theorem G__law_rest (T : TopT K mg ad fdd) : FD P w K mg base 1 (ad 21) (fdd 21) ["_law_ink_here", "_law_plot"] F__law_rest := cdef T (x := "_law_rest") (st := st__law_rest) rfl ["_law_ink_here", "_law_plot", "_law_dot"] ["_law_ink_here"] [] ["set", "sorted", "tuple"] sc__law_rest rfl (by decide +kernel) (by decide +kernel) (by decide +kernel) fun X c => ss_one (ss_ret (se_tuplec (c.bl T 2 4).1 (c.bl T 2 4).2 (sa_cons (se_fz (sn_sorted c.room c.calm (c.bl T 1 9).1 (c.bl T 1 9).2 (sa_cons (se_set c.room c.calm (c.bl T 0 8).1 (c.bl T 0 8).2 (sa_cons (se_fz (clc c [("_law_dot", 2)] ["_law_dot", "_law_plot"] ["_law_dot"] ["int"] (si_seq (cv c 0 0)) (fun Y1 c1 => ⟨cn c1 2 0, sts_nil, se_tup (sa_cons (se_mod (se_intc (c1.bl T 0 1).1 (c1.bl T 0 1).2 (sa_cons (se_ix c1.room (cv c1 2 0) se_int) sa_nil)) (se_ix c1.room (cv c1 1 1) se_int)) (sa_cons (se_mod (se_intc (c1.bl T 0 1).1 (c1.bl T 0 1).2 (sa_cons (se_ix c1.room (cv c1 2 0) se_int) sa_nil)) (se_ix c1.room (cv c1 1 1) se_int)) sa_nil))⟩))) sa_nil)) sa_nil))) sa_nil)))
abbrev st__law_shift : Stmt := top 26
theorem sc__law_shift : FnScope ["_law_ink_here", "_law_plot", "_law_spot", "_law_dot"] ["_law_ink_here", "_law_plot", "_law_spot"] (defScope st__law_shift) := ⟨rfl, rfl, rfl, by decide +kernel, rfl, by decide +kernel, by decide +kernel⟩
theorem bd__law_shift (T : TopT K mg ad fdd) : Binds K (fdd 22) ["_law_ink_here", "_law_plot", "_law_spot"] [] := (T.d 22 "_law_shift" st__law_shift rfl).2.bindsN fun _ _ _ _ _ _ us hl => match us, hl with | [_, _, _], _ => rfl
theorem G__law_shift (T : TopT K mg ad fdd) : FD P w K mg base 2 (ad 22) (fdd 22) ["_law_ink_here", "_law_plot", "_law_spot"] F__law_shift := cdef T (x := "_law_shift") (st := st__law_shift) rfl ["_law_ink_here", "_law_plot", "_law_spot", "_law_dot"] ["_law_plot", "_law_ink_here"] [] ["_law_rest"] sc__law_shift rfl (by decide +kernel) (by decide +kernel) (by decide +kernel) fun X c => ss_one (ss_ret (ccall c T 0 21 (G__law_rest T) (bd__law_rest T) (sa_cons (se_fz (clc c [("_law_dot", 3)] ["_law_dot", "_law_spot"] ["_law_dot"] [] (si_seq (cv c 0 1)) (fun Y1 c1 => ⟨cn c1 3 0, sts_nil, se_tup (sa_cons (se_add (se_ix c1.room (cv c1 3 0) se_int) (se_ix c1.room (cv c1 2 1) se_int)) (sa_cons (se_add (se_ix c1.room (cv c1 3 0) se_int) (se_ix c1.room (cv c1 2 1) se_int)) sa_nil))⟩))) (sa_cons (cv c 1 0) sa_nil))))
abbrev st__law_least : Stmt := top 27
theorem sc__law_least : FnScope ["_law_ink_here", "_law_plot", "_law_spot"] ["_law_ink_here", "_law_plot"] (defScope st__law_least) := ⟨rfl, rfl, rfl, by decide +kernel, rfl, by decide +kernel, by decide +kernel⟩
theorem bd__law_least (T : TopT K mg ad fdd) : Binds K (fdd 23) ["_law_ink_here", "_law_plot"] [] := (T.d 23 "_law_least" st__law_least rfl).2.bindsN fun _ _ _ _ _ _ us hl => match us, hl with | [_, _], _ => rfl
theorem G__law_least (T : TopT K mg ad fdd) : FD P w K mg base 3 (ad 23) (fdd 23) ["_law_ink_here", "_law_plot"] F__law_least := cdef T (x := "_law_least") (st := st__law_least) rfl ["_law_ink_here", "_law_plot", "_law_spot"] ["_law_plot"] [] ["_law_grid", "min"] sc__law_least rfl (by decide +kernel) (by decide +kernel) (by decide +kernel) fun X c => ss_one (ss_ret (cminD c (c.bl T 1 10).1 (c.bl T 1 10).2 (se_fz (clc c [("_law_spot", 2)] ["_law_spot", "_law_plot", "_law_ink_here"] ["_law_spot"] ["_law_shift"] (si_seq (ccall c T 0 19 (G__law_grid T) (bd__law_grid T) (sa_cons (se_ix c.room (cv c 1 0) se_int) (sa_cons (se_ix c.room (cv c 1 0) se_int) sa_nil)))) (fun Y1 c1 => ⟨cn c1 2 0, sts_nil, ccall c1 T 0 22 (G__law_shift T) (bd__law_shift T) (sa_cons (cv c1 0 2) (sa_cons (cv c1 1 1) (sa_cons (cv c1 2 0) sa_nil)))⟩)))))
abbrev st__law_things_right : Stmt := top 28
theorem sc__law_things_right : FnScope ["_law_good", "_law_odd", "_law_got", "_law_due", "_law_fine", "_law_bad", "_law_own"] [] (defScope st__law_things_right) := ⟨rfl, rfl, rfl, by decide +kernel, rfl, by decide +kernel, by decide +kernel⟩
theorem bd__law_things_right (T : TopT K mg ad fdd) : Binds K (fdd 24) [] [] := (T.d 24 "_law_things_right" st__law_things_right rfl).2.bindsN fun _ _ _ _ _ _ us hl => match us, hl with | [], _ => rfl
theorem kb_is_floor_0_thing (T : TopT K mg ad fdd) : KB K (fdd 6) ["thing"] 0 ["thing"] [0] := KB.byD (T.d 6 "is_floor" st_is_floor rfl).2 fun _ _ _ _ _ _ us ws h1 h2 => match us, ws, h1, h2 with | [], [_], _, _ => rfl
theorem kb_is_on_0_thing_floor (T : TopT K mg ad fdd) : KB K (fdd 7) ["floor", "thing"] 0 ["thing", "floor"] [1, 0] := KB.byD (T.d 7 "is_on" st_is_on rfl).2 fun _ _ _ _ _ _ us ws h1 h2 => match us, ws, h1, h2 with | [], [_, _], _, _ => rfl
theorem G__law_things_right (T : TopT K mg ad fdd) : FD P w K mg base 17 (ad 24) (fdd 24) [] F__law_things_right := cdef T (x := "_law_things_right") (st := st__law_things_right) rfl ["_law_good", "_law_odd", "_law_got", "_law_due", "_law_fine", "_law_bad", "_law_own"] ["_law_odd", "_law_good", "_law_bad", "_law_got", "_law_fine", "_law_due"] ["_law_good", "_law_odd", "_law_got", "_law_due", "_law_fine", "_law_bad"] ["len", "is_floor", "is_on", "_law_same"] sc__law_things_right rfl (by decide +kernel) (by decide +kernel) (by decide +kernel) fun X c => ss_cons (cset c 0 0 (se_fz (sn_lst (sa_cons (se_tup (sa_cons se_int (sa_cons se_int sa_nil))) (sa_cons (se_tup (sa_cons se_int (sa_cons (se_pow se_int se_int) sa_nil))) (sa_cons (se_tup (sa_cons (se_pow se_int se_int) (sa_cons se_int sa_nil))) sa_nil)))))) (ss_cons (cset c 1 1 (se_fz (sn_lst (sa_cons (se_tup (sa_cons se_int (sa_cons se_int sa_nil))) (sa_cons (se_tup (sa_cons se_int (sa_cons se_int sa_nil))) (sa_cons (se_tup (sa_cons (se_neg se_int) (sa_cons se_int sa_nil))) (sa_cons (se_tup (sa_cons se_int sa_nil)) (sa_cons (se_tup (sa_cons se_int (sa_cons se_int (sa_cons se_int sa_nil)))) (sa_cons (se_fz (sn_lst (sa_cons se_int (sa_cons se_int sa_nil)))) (sa_cons (se_tup (sa_cons se_bl (sa_cons se_int sa_nil))) (sa_cons (se_tup (sa_cons se_int (sa_cons se_bl sa_nil))) (sa_cons (se_tup (sa_cons se_int (sa_cons se_non sa_nil))) (sa_cons (se_tup (sa_cons se_str (sa_cons se_int sa_nil))) (sa_cons (se_tup sa_nil) (sa_cons se_non (sa_cons se_int (sa_cons se_str sa_nil))))))))))))))))) (ss_cons (cset c 1 1 (se_add (cv c 1 0) (se_fz (sn_lst (sa_cons (se_tup (sa_cons (se_tup (sa_cons se_int (sa_cons se_int sa_nil))) sa_nil)) (sa_cons (se_tup (sa_cons (se_tup (sa_cons se_int (sa_cons se_int sa_nil))) (sa_cons (se_tup (sa_cons se_int (sa_cons se_int sa_nil))) sa_nil))) (sa_cons se_bl (sa_cons (se_fz (sn_lst sa_nil)) (sa_cons (se_tup (sa_cons se_int (sa_cons (se_tup (sa_cons se_int sa_nil)) sa_nil))) (sa_cons (se_tup (sa_cons se_int (sa_cons (se_fz (sn_lst (sa_cons se_int sa_nil))) sa_nil))) sa_nil)))))))))) (ss_cons (csetLc c 2 [("_law_own", 6)] ["_law_own"] ["_law_own"] ["is_floor"] (si_seq (se_add (cv c 0 1) (cv c 1 0))) (fun Y1 c1 => ⟨cn c1 6 0, sts_nil, ccall c1 T 0 6 (G_is_floor T) (bd_is_floor T) (sa_cons (cv c1 6 0) sa_nil)⟩)) (ss_cons (cset c 3 3 (se_add (se_mul (se_fz (sn_lst (sa_cons se_bl sa_nil))) (se_len (c.bl T 0 7).1 (c.bl T 0 7).2 (sa_cons (cv c 0 1) sa_nil))) (se_mul (se_fz (sn_lst (sa_cons se_bl sa_nil))) (se_len (c.bl T 0 7).1 (c.bl T 0 7).2 (sa_cons (cv c 1 0) sa_nil))))) (ss_cons (cset c 4 4 (se_fz (sn_lst (sa_cons (se_tup sa_nil) (sa_cons (se_tup (sa_cons (se_tup (sa_cons se_int (sa_cons se_int sa_nil))) sa_nil)) (sa_cons (se_tup (sa_cons (se_tup (sa_cons se_int (sa_cons se_int sa_nil))) sa_nil)) (sa_cons (se_tup (sa_cons (se_tup (sa_cons se_int (sa_cons se_int sa_nil))) (sa_cons (se_tup (sa_cons se_int (sa_cons se_int sa_nil))) (sa_cons (se_tup (sa_cons se_int (sa_cons se_int sa_nil))) sa_nil)))) (sa_cons (se_tup (sa_cons (se_tup (sa_cons se_int (sa_cons se_int sa_nil))) (sa_cons (se_tup (sa_cons se_int (sa_cons se_int sa_nil))) (sa_cons (se_tup (sa_cons se_int (sa_cons se_int sa_nil))) (sa_cons (se_tup (sa_cons se_int (sa_cons se_int sa_nil))) (sa_cons (se_tup (sa_cons se_int (sa_cons se_int sa_nil))) (sa_cons (se_tup (sa_cons se_int (sa_cons se_int sa_nil))) sa_nil))))))) sa_nil)))))))) (ss_cons (cset c 5 5 (se_fz (sn_lst (sa_cons (se_tup (sa_cons (se_tup (sa_cons se_int (sa_cons se_int sa_nil))) sa_nil)) (sa_cons (se_tup (sa_cons (se_tup (sa_cons se_int (sa_cons se_int sa_nil))) sa_nil)) (sa_cons (se_tup (sa_cons (se_tup (sa_cons (se_neg se_int) (sa_cons se_int sa_nil))) sa_nil)) (sa_cons (se_tup (sa_cons (se_tup (sa_cons se_int (sa_cons (se_neg se_int) sa_nil))) sa_nil)) (sa_cons (se_tup (sa_cons (se_tup (sa_cons se_int (sa_cons se_int sa_nil))) (sa_cons (se_tup (sa_cons se_int (sa_cons se_int sa_nil))) sa_nil))) (sa_cons (se_tup (sa_cons (se_tup (sa_cons se_int (sa_cons se_int sa_nil))) (sa_cons (se_tup (sa_cons se_int (sa_cons se_int sa_nil))) sa_nil))) (sa_cons (se_fz (sn_lst (sa_cons (se_tup (sa_cons se_int (sa_cons se_int sa_nil))) sa_nil))) (sa_cons (se_tup (sa_cons (se_fz (sn_lst (sa_cons se_int (sa_cons se_int sa_nil)))) sa_nil)) (sa_cons se_non (sa_cons se_int sa_nil))))))))))))) (ss_cons (cset c 5 5 (se_add (cv c 5 2) (se_fz (sn_lst (sa_cons (se_tup (sa_cons (se_tup (sa_cons se_int (sa_cons se_bl sa_nil))) sa_nil)) (sa_cons (se_tup (sa_cons (se_tup (sa_cons se_int (sa_cons se_int (sa_cons se_int sa_nil)))) sa_nil)) (sa_cons (se_tup (sa_cons (se_tup (sa_cons se_int sa_nil)) sa_nil)) (sa_cons se_str (sa_cons se_bl (sa_cons (se_tup (sa_cons (se_tup (sa_cons se_int (sa_cons se_int sa_nil))) (sa_cons (se_tup (sa_cons (se_pow se_int se_int) (sa_cons se_int sa_nil))) sa_nil))) (sa_cons (se_tup (sa_cons (se_tup (sa_cons se_int (sa_cons se_int sa_nil))) (sa_cons se_non sa_nil))) (sa_cons (se_tup (sa_cons se_int (sa_cons se_int sa_nil))) (sa_cons (se_fz (sn_lst sa_nil)) sa_nil))))))))))))) (ss_cons (cset c 2 2 (se_add (se_add (cv c 2 3) (se_fz (clc c [("_law_own", 6)] ["_law_own"] ["_law_own"] ["is_on"] (si_seq (se_add (cv c 4 4) (cv c 5 2))) (fun Y2 c2 => ⟨cn c2 6 0, sts_nil, ccall c2 T 0 7 (G_is_on T) (bd_is_on T) (sa_cons (se_tup (sa_cons se_int (sa_cons se_int sa_nil))) (sa_cons (cv c2 6 0) sa_nil))⟩)))) (se_fz (sn_lst (sa_cons (ccallK0 c T 2 7 (G_is_on T) (kb_is_on_0_thing_floor T) (sk_cons (se_tup (sa_cons (se_tup (sa_cons se_int (sa_cons se_int sa_nil))) sa_nil)) (sk_cons (se_fz (sn_lst (sa_cons se_int (sa_cons se_int sa_nil)))) sk_nil))) (sa_cons (ccallK0 c T 1 6 (G_is_floor T) (kb_is_floor_0_thing T) (sk_cons (se_tup (sa_cons se_int (sa_cons se_int sa_nil))) sk_nil)) sa_nil)))))) (ss_one (ss_ret (ccall c T 3 18 (G__law_same T 16) (bd__law_same T) (sa_cons (cv c 2 3) (sa_cons (se_add (se_add (se_add (cv c 3 5) (se_mul (se_fz (sn_lst (sa_cons se_bl sa_nil))) (se_len (c.bl T 0 7).1 (c.bl T 0 7).2 (sa_cons (cv c 4 4) sa_nil)))) (se_mul (se_fz (sn_lst (sa_cons se_bl sa_nil))) (se_len (c.bl T 0 7).1 (c.bl T 0 7).2 (sa_cons (cv c 5 2) sa_nil)))) (se_fz (sn_lst (sa_cons se_bl (sa_cons se_bl sa_nil))))) sa_nil)))))))))))))
theorem G_onto_itselfM (T : TopT K mg ad fdd) : FD P w K mg base 17 (ad 10) (fdd 10) ["picture", "floor"] F_onto_itselfM := cdefM T (x := "onto_itself") (st := st_onto_itself) rfl ["picture", "floor", "own", "found", "row", "column", "rows", "columns"] ["picture", "own", "row", "floor", "column", "columns", "rows", "found"] ["column", "row"] ["tupled", "fallen", "moved", "sorted"] sc_onto_itself rfl (by decide +kernel) (by decide +kernel) (by decide +kernel) fun X c => ss_cons (cpar c 2 3 (sa_cons (ccall c T 0 1 (G_tupled T 16) (bd_tupled T) (sa_cons (cv c 0 0) sa_nil)) (sa_cons (se_mu (sn_lst sa_nil)) sa_nil))) (ss_cons (ss_for c.pass c.calm (si_seq (cv c 2 1)) (sg_tup c.calm (sgs_cons (cn c 4 1) (sgs_cons (cn c 5 0) sgs_nil))) (ss_cons (cpar c 6 7 (sa_cons (se_mod (se_sub (cv c 4 2) (se_ix c.room (se_ix c.room (cv c 2 1) se_int) se_int)) (se_ix c.room (cv c 1 3) se_int)) (sa_cons (se_mod (se_sub (cv c 5 4) (se_ix c.room (se_ix c.room (cv c 2 1) se_int) se_int)) (se_ix c.room (cv c 1 3) se_int)) sa_nil))) (ss_one (ss_if (st_eq c.room (ccall c T 1 8 (G_fallen T) (bd_fallen T) (sa_cons (ccall c T 2 5 (G_moved T) (bd_moved T) (sa_cons (cv c 2 1) (sa_cons (cv c 6 6) (sa_cons (cv c 7 5) sa_nil)))) (sa_cons (cv c 1 3) sa_nil))) (cv c 2 1)) (ss_one (ss_expr (se_append (cv c 3 7) (sa_cons (se_tup (sa_cons (cv c 6 6) (sa_cons (cv c 7 5) sa_nil))) sa_nil)))) ss_nil)))) (ss_one (ss_ret (se_mu (sn_sorted c.room c.calm (c.bl T 3 9).1 (c.bl T 3 9).2 (sa_cons (cv c 3 7) sa_nil))))))
abbrev st__law_hand_right : Stmt := top 29
theorem sc__law_hand_right : FnScope ["_law_dot", "_law_pair", "_law_bar", "_law_dots_so", "_law_got", "_law_due", "_law_long_so", "_law_told"] [] (defScope st__law_hand_right) := ⟨rfl, rfl, rfl, by decide +kernel, rfl, by decide +kernel, by decide +kernel⟩
theorem bd__law_hand_right (T : TopT K mg ad fdd) : Binds K (fdd 25) [] [] := (T.d 25 "_law_hand_right" st__law_hand_right rfl).2.bindsN fun _ _ _ _ _ _ us hl => match us, hl with | [], _ => rfl
theorem kb_fallen_0_floor_picture (T : TopT K mg ad fdd) : KB K (fdd 8) ["picture", "floor"] 0 ["floor", "picture"] [1, 0] := KB.byD (T.d 8 "fallen" st_fallen rfl).2 fun _ _ _ _ _ _ us ws h1 h2 => match us, ws, h1, h2 with | [], [_, _], _, _ => rfl
theorem kb_folded_0_picture_floor (T : TopT K mg ad fdd) : KB K (fdd 9) ["picture", "floor"] 0 ["picture", "floor"] [0, 1] := KB.byD (T.d 9 "folded" st_folded rfl).2 fun _ _ _ _ _ _ us ws h1 h2 => match us, ws, h1, h2 with | [], [_, _], _, _ => rfl
theorem kb_laid_0_across_down_floor_picture (T : TopT K mg ad fdd) : KB K (fdd 11) ["picture", "floor", "down", "across"] 0 ["across", "down", "floor", "picture"] [3, 2, 1, 0] := KB.byD (T.d 11 "laid" st_laid rfl).2 fun _ _ _ _ _ _ us ws h1 h2 => match us, ws, h1, h2 with | [], [_, _, _, _], _, _ => rfl
theorem kb_onto_itself_0_floor_picture (T : TopT K mg ad fdd) : KB K (fdd 10) ["picture", "floor"] 0 ["floor", "picture"] [1, 0] := KB.byD (T.d 10 "onto_itself" st_onto_itself rfl).2 fun _ _ _ _ _ _ us ws h1 h2 => match us, ws, h1, h2 with | [], [_, _], _, _ => rfl
theorem G__law_hand_right (T : TopT K mg ad fdd) : FD P w K mg base 18 (ad 25) (fdd 25) [] F__law_hand_right := cdef T (x := "_law_hand_right") (st := st__law_hand_right) rfl ["_law_dot", "_law_pair", "_law_bar", "_law_dots_so", "_law_got", "_law_due", "_law_long_so", "_law_told"] ["_law_bar", "_law_dot", "_law_got", "_law_dots_so", "_law_due", "_law_pair", "_law_long_so", "_law_told"] ["_law_dots_so", "_law_bar", "_law_pair", "_law_dot", "_law_got", "_law_due", "_law_long_so", "_law_told"] ["fallen", "folded", "onto_itself", "laid", "len", "_law_same", "_law_things_right"] sc__law_hand_right rfl (by decide +kernel) (by decide +kernel) (by decide +kernel) fun X c => ss_cons (casg c (se_tup (sa_cons (se_tup (sa_cons (se_tup (sa_cons se_int (sa_cons se_int sa_nil))) sa_nil)) (sa_cons (se_tup (sa_cons (se_tup (sa_cons se_int (sa_cons se_int sa_nil))) (sa_cons (se_tup (sa_cons se_int (sa_cons se_int sa_nil))) sa_nil))) (sa_cons (se_tup (sa_cons (se_tup (sa_cons se_int (sa_cons se_int sa_nil))) (sa_cons (se_tup (sa_cons se_int (sa_cons se_int sa_nil))) (sa_cons (se_tup (sa_cons se_int (sa_cons se_int sa_nil))) sa_nil)))) (sa_cons (se_tup (sa_cons (se_tup (sa_cons se_int (sa_cons se_int sa_nil))) (sa_cons (se_tup (sa_cons se_int (sa_cons se_int sa_nil))) sa_nil))) sa_nil))))) (sg_tup c.calm (sgs_cons (cn c 0 3) (sgs_cons (cn c 1 2) (sgs_cons (cn c 2 1) (sgs_cons (cn c 3 0) sgs_nil)))))) (ss_cons (cset c 4 4 (se_mu (sn_lst (sa_cons (ccall c T 0 8 (G_fallen T) (bd_fallen T) (sa_cons (se_tup (sa_cons (se_tup (sa_cons (se_neg se_int) (sa_cons se_int sa_nil))) (sa_cons (se_tup (sa_cons se_int (sa_cons (se_neg se_int) sa_nil))) sa_nil))) (sa_cons (se_tup (sa_cons se_int (sa_cons se_int sa_nil))) sa_nil))) (sa_cons (ccall c T 0 8 (G_fallen T) (bd_fallen T) (sa_cons (se_tup sa_nil) (sa_cons (se_tup (sa_cons se_int (sa_cons se_int sa_nil))) sa_nil))) (sa_cons (ccall c T 0 8 (G_fallen T) (bd_fallen T) (sa_cons (se_tup (sa_cons (se_tup (sa_cons se_int (sa_cons se_int sa_nil))) (sa_cons (se_tup (sa_cons se_int (sa_cons se_int sa_nil))) (sa_cons (se_tup (sa_cons se_int (sa_cons se_int sa_nil))) sa_nil)))) (sa_cons (se_tup (sa_cons se_int (sa_cons se_int sa_nil))) sa_nil))) (sa_cons (ccall c T 0 8 (G_fallen T) (bd_fallen T) (sa_cons (cv c 2 0) (sa_cons (se_tup (sa_cons se_int (sa_cons se_int sa_nil))) sa_nil))) sa_nil))))))) (ss_cons (cset c 5 5 (se_fz (sn_lst (sa_cons (se_tup (sa_cons (se_tup (sa_cons se_int (sa_cons se_int sa_nil))) (sa_cons (se_tup (sa_cons se_int (sa_cons se_int sa_nil))) sa_nil))) (sa_cons (se_tup sa_nil) (sa_cons (cv c 0 1) (sa_cons (cv c 0 1) sa_nil))))))) (ss_cons (cset c 4 4 (se_mu (sn_add (cv c 4 2) (se_fz (sn_lst (sa_cons (ccall c T 1 9 (G_folded T) (bd_folded T) (sa_cons (cv c 3 3) (sa_cons (se_tup (sa_cons se_int (sa_cons se_int sa_nil))) sa_nil))) (sa_cons (ccall c T 1 9 (G_folded T) (bd_folded T) (sa_cons (cv c 3 3) (sa_cons (se_tup (sa_cons se_int (sa_cons se_int sa_nil))) sa_nil))) (sa_cons (ccall c T 1 9 (G_folded T) (bd_folded T) (sa_cons (cv c 2 0) (sa_cons (se_tup (sa_cons se_int (sa_cons se_int sa_nil))) sa_nil))) (sa_cons (ccall c T 1 9 (G_folded T) (bd_folded T) (sa_cons (se_tup (sa_cons (se_tup (sa_cons se_int (sa_cons se_int sa_nil))) sa_nil)) (sa_cons (se_tup (sa_cons se_int (sa_cons se_int sa_nil))) sa_nil))) sa_nil))))))))) (ss_cons (cset c 5 5 (se_add (cv c 5 4) (se_fz (sn_lst (sa_cons (cv c 1 5) (sa_cons (cv c 0 1) (sa_cons (cv c 2 0) (sa_cons (cv c 0 1) sa_nil)))))))) (ss_cons (cset c 4 4 (se_mu (sn_add (cv c 4 2) (se_fz (sn_lst (sa_cons (ccall c T 1 9 (G_folded T) (bd_folded T) (sa_cons (se_tup (sa_cons (se_tup (sa_cons se_int (sa_cons se_int sa_nil))) (sa_cons (se_tup (sa_cons se_int (sa_cons se_int sa_nil))) sa_nil))) (sa_cons (se_tup (sa_cons se_int (sa_cons se_int sa_nil))) sa_nil))) (sa_cons (ccall c T 1 9 (G_folded T) (bd_folded T) (sa_cons (se_tup (sa_cons (se_tup (sa_cons se_int (sa_cons se_int sa_nil))) (sa_cons (se_tup (sa_cons se_int (sa_cons se_int sa_nil))) sa_nil))) (sa_cons (se_tup (sa_cons se_int (sa_cons se_int sa_nil))) sa_nil))) (sa_cons (ccall c T 1 9 (G_folded T) (bd_folded T) (sa_cons (se_tup (sa_cons (se_tup (sa_cons se_int (sa_cons se_int sa_nil))) (sa_cons (se_tup (sa_cons se_int (sa_cons se_int sa_nil))) sa_nil))) (sa_cons (se_tup (sa_cons se_int (sa_cons se_int sa_nil))) sa_nil))) sa_nil)))))))) (ss_cons (cset c 5 5 (se_add (cv c 5 4) (se_fz (sn_lst (sa_cons (se_tup (sa_cons (se_tup (sa_cons se_int (sa_cons se_int sa_nil))) (sa_cons (se_tup (sa_cons se_int (sa_cons se_int sa_nil))) sa_nil))) (sa_cons (se_tup (sa_cons (se_tup (sa_cons se_int (sa_cons se_int sa_nil))) (sa_cons (se_tup (sa_cons se_int (sa_cons se_int sa_nil))) sa_nil))) (sa_cons (se_tup (sa_cons (se_tup (sa_cons se_int (sa_cons se_int sa_nil))) (sa_cons (se_tup (sa_cons se_int (sa_cons se_int sa_nil))) sa_nil))) sa_nil))))))) (ss_cons (cset c 4 4 (se_mu (sn_add (cv c 4 2) (se_fz (sn_lst (sa_cons (ccall c T 2 10 (G_onto_itself T) (bd_onto_itself T) (sa_cons (cv c 3 3) (sa_cons (se_tup (sa_cons se_int (sa_cons se_int sa_nil))) sa_nil))) (sa_cons (ccall c T 2 10 (G_onto_itself T) (bd_onto_itself T) (sa_cons (cv c 1 5) (sa_cons (se_tup (sa_cons se_int (sa_cons se_int sa_nil))) sa_nil))) (sa_cons (ccall c T 2 10 (G_onto_itself T) (bd_onto_itself T) (sa_cons (cv c 1 5) (sa_cons (se_tup (sa_cons se_int (sa_cons se_int sa_nil))) sa_nil))) (sa_cons (ccall c T 2 10 (G_onto_itself T) (bd_onto_itself T) (sa_cons (se_tup (sa_cons (se_tup (sa_cons se_int (sa_cons se_int sa_nil))) sa_nil)) (sa_cons (se_tup (sa_cons se_int (sa_cons se_int sa_nil))) sa_nil))) sa_nil))))))))) (ss_cons (cset c 5 5 (se_add (cv c 5 4) (se_fz (sn_lst (sa_cons (se_fz (sn_lst (sa_cons (se_tup (sa_cons se_int (sa_cons se_int sa_nil))) (sa_cons (se_tup (sa_cons se_int (sa_cons se_int sa_nil))) sa_nil)))) (sa_cons (se_fz (sn_lst (sa_cons (se_tup (sa_cons se_int (sa_cons se_int sa_nil))) sa_nil))) (sa_cons (se_fz (sn_lst (sa_cons (se_tup (sa_cons se_int (sa_cons se_int sa_nil))) (sa_cons (se_tup (sa_cons se_int (sa_cons se_int sa_nil))) sa_nil)))) (sa_cons (se_fz (sn_lst (sa_cons (se_tup (sa_cons se_int (sa_cons se_int sa_nil))) sa_nil))) sa_nil)))))))) (ss_cons (cset c 4 4 (se_mu (sn_add (cv c 4 2) (se_fz (sn_lst (sa_cons (ccall c T 2 10 (G_onto_itself T) (bd_onto_itself T) (sa_cons (se_tup (sa_cons (se_tup (sa_cons se_int (sa_cons se_int sa_nil))) (sa_cons (se_tup (sa_cons se_int (sa_cons se_int sa_nil))) sa_nil))) (sa_cons (se_tup (sa_cons se_int (sa_cons se_int sa_nil))) sa_nil))) (sa_cons (ccall c T 2 10 (G_onto_itself T) (bd_onto_itself T) (sa_cons (se_tup (sa_cons (se_tup (sa_cons se_int (sa_cons se_int sa_nil))) (sa_cons (se_tup (sa_cons se_int (sa_cons se_int sa_nil))) (sa_cons (se_tup (sa_cons se_int (sa_cons se_int sa_nil))) sa_nil)))) (sa_cons (se_tup (sa_cons se_int (sa_cons se_int sa_nil))) sa_nil))) sa_nil))))))) (ss_cons (cset c 5 5 (se_add (cv c 5 4) (se_fz (sn_lst (sa_cons (se_fz (sn_lst (sa_cons (se_tup (sa_cons se_int (sa_cons se_int sa_nil))) (sa_cons (se_tup (sa_cons se_int (sa_cons se_int sa_nil))) sa_nil)))) (sa_cons (se_fz (sn_lst (sa_cons (se_tup (sa_cons se_int (sa_cons se_int sa_nil))) (sa_cons (se_tup (sa_cons se_int (sa_cons se_int sa_nil))) (sa_cons (se_tup (sa_cons se_int (sa_cons se_int sa_nil))) sa_nil))))) sa_nil)))))) (ss_cons (cset c 4 4 (se_mu (sn_add (cv c 4 2) (se_fz (sn_lst (sa_cons (ccall c T 3 11 (G_laid T) (bd_laid T) (sa_cons (se_tup (sa_cons (se_tup (sa_cons se_int (sa_cons se_int sa_nil))) sa_nil)) (sa_cons (se_tup (sa_cons se_int (sa_cons se_int sa_nil))) (sa_cons se_int (sa_cons se_int sa_nil))))) (sa_cons (ccall c T 3 11 (G_laid T) (bd_laid T) (sa_cons (se_tup sa_nil) (sa_cons (se_tup (sa_cons se_int (sa_cons se_int sa_nil))) (sa_cons (se_pow se_int se_int) (sa_cons se_int sa_nil))))) (sa_cons (ccall c T 3 11 (G_laid T) (bd_laid T) (sa_cons (cv c 1 5) (sa_cons (se_tup (sa_cons se_int (sa_cons se_int sa_nil))) (sa_cons se_int (sa_cons se_int sa_nil))))) (sa_cons (ccall c T 3 11 (G_laid T) (bd_laid T) (sa_cons (cv c 0 1) (sa_cons (se_tup (sa_cons se_int (sa_cons se_int sa_nil))) (sa_cons se_int (sa_cons se_int sa_nil))))) sa_nil))))))))) (ss_cons (cset c 5 5 (se_add (cv c 5 4) (se_fz (sn_lst (sa_cons (se_tup (sa_cons (se_tup (sa_cons se_int (sa_cons se_int sa_nil))) (sa_cons (se_tup (sa_cons se_int (sa_cons se_int sa_nil))) (sa_cons (se_tup (sa_cons se_int (sa_cons se_int sa_nil))) (sa_cons (se_tup (sa_cons se_int (sa_cons se_int sa_nil))) sa_nil))))) (sa_cons (se_tup sa_nil) (sa_cons (cv c 1 5) (sa_cons (se_tup (sa_cons (se_tup (sa_cons se_int (sa_cons se_int sa_nil))) (sa_cons (se_tup (sa_cons se_int (sa_cons se_int sa_nil))) sa_nil))) sa_nil)))))))) (ss_cons (cset c 6 6 (ccall c T 3 11 (G_laid T) (bd_laid T) (sa_cons (cv c 1 5) (sa_cons (se_tup (sa_cons se_int (sa_cons se_int sa_nil))) (sa_cons se_int (sa_cons se_int sa_nil)))))) (ss_cons (cset c 4 4 (se_mu (sn_add (cv c 4 2) (se_fz (sn_lst (sa_cons (se_len (c.bl T 4 7).1 (c.bl T 4 7).2 (sa_cons (cv c 6 6) sa_nil)) (sa_cons (se_ix c.room (cv c 6 6) (se_neg se_int)) (sa_cons (ccallK0 c T 1 9 (G_folded T) (kb_folded_0_picture_floor T) (sk_cons (se_revA (se_fz (sn_lst (sa_cons (se_fz (sn_lst (sa_cons se_int (sa_cons se_int sa_nil)))) (sa_cons (se_fz (sn_lst (sa_cons se_int (sa_cons se_int sa_nil)))) sa_nil))))) (sk_cons (se_fz (sn_lst (sa_cons se_int (sa_cons se_int sa_nil)))) sk_nil))) (sa_cons (ccallK0 c T 0 8 (G_fallen T) (kb_fallen_0_floor_picture T) (sk_cons (se_fz (sn_lst (sa_cons se_int (sa_cons se_int sa_nil)))) (sk_cons (se_fz (sn_lst (sa_cons (se_fz (sn_lst (sa_cons se_int (sa_cons (se_neg se_int) sa_nil)))) sa_nil))) sk_nil))) sa_nil))))))))) (ss_cons (cset c 5 5 (se_add (cv c 5 4) (se_fz (sn_lst (sa_cons se_int (sa_cons (se_tup (sa_cons se_int (sa_cons se_int sa_nil))) (sa_cons (cv c 1 5) (sa_cons (se_tup (sa_cons (se_tup (sa_cons se_int (sa_cons se_int sa_nil))) sa_nil)) sa_nil)))))))) (ss_cons (cset c 4 4 (se_mu (sn_add (cv c 4 2) (se_fz (sn_lst (sa_cons (ccallK0 c T 2 10 (G_onto_itself T) (kb_onto_itself_0_floor_picture T) (sk_cons (se_fz (sn_lst (sa_cons se_int (sa_cons se_int sa_nil)))) (sk_cons (se_fz (sn_lst (sa_cons (se_fz (sn_lst (sa_cons se_int (sa_cons se_int sa_nil)))) (sa_cons (se_fz (sn_lst (sa_cons se_int (sa_cons se_int sa_nil)))) sa_nil)))) sk_nil))) (sa_cons (ccallK0 c T 3 11 (G_laid T) (kb_laid_0_across_down_floor_picture T) (sk_cons se_int (sk_cons se_int (sk_cons (se_fz (sn_lst (sa_cons se_int (sa_cons se_int sa_nil)))) (sk_cons (se_fz (sn_lst (sa_cons (se_fz (sn_lst (sa_cons se_int (sa_cons se_int sa_nil)))) sa_nil))) sk_nil))))) sa_nil))))))) (ss_cons (cset c 4 4 (se_mu (sn_add (cv c 4 2) (se_fz (sn_lst (sa_cons (ccall c T 2 10 (G_onto_itself T) (bd_onto_itself T) (sa_cons (se_tup (sa_cons (se_tup (sa_cons se_int (sa_cons se_int sa_nil))) (sa_cons (se_tup (sa_cons se_int (sa_cons se_int sa_nil))) (sa_cons (se_tup (sa_cons se_int (sa_cons se_int sa_nil))) (sa_cons (se_tup (sa_cons se_int (sa_cons se_int sa_nil))) sa_nil))))) (sa_cons (se_tup (sa_cons se_int (sa_cons se_int sa_nil))) sa_nil))) (sa_cons (ccall c T 3 11 (G_laid T) (bd_laid T) (sa_cons (cv c 1 5) (sa_cons (se_tup (sa_cons se_int (sa_cons se_int sa_nil))) (sa_cons se_int (sa_cons se_int sa_nil))))) sa_nil))))))) (ss_cons (cset c 7 7 (ccall c T 2 10 (G_onto_itselfM T) (bd_onto_itself T) (sa_cons (cv c 3 3) (sa_cons (se_tup (sa_cons se_int (sa_cons se_int sa_nil))) sa_nil)))) (ss_cons (ss_expr (se_append (cv c 7 7) (sa_cons (se_tup (sa_cons se_int (sa_cons se_int sa_nil))) sa_nil))) (ss_cons (ss_expr (se_append (cv c 4 2) (sa_cons (ccall c T 2 10 (G_onto_itself T) (bd_onto_itself T) (sa_cons (cv c 3 3) (sa_cons (se_tup (sa_cons se_int (sa_cons se_int sa_nil))) sa_nil))) sa_nil))) (ss_one (ss_ret (se_andB (ccall c T 5 18 (G__law_same T 16) (bd__law_same T) (sa_cons (cv c 4 2) (sa_cons (se_add (cv c 5 4) (se_fz (sn_lst (sa_cons (se_fz (sn_lst (sa_cons (se_tup (sa_cons se_int (sa_cons se_int sa_nil))) (sa_cons (se_tup (sa_cons se_int (sa_cons se_int sa_nil))) sa_nil)))) (sa_cons (se_tup (sa_cons (se_tup (sa_cons se_int (sa_cons se_int sa_nil))) (sa_cons (se_tup (sa_cons se_int (sa_cons se_int sa_nil))) (sa_cons (se_tup (sa_cons se_int (sa_cons se_int sa_nil))) (sa_cons (se_tup (sa_cons se_int (sa_cons se_int sa_nil))) sa_nil))))) (sa_cons (se_fz (sn_lst (sa_cons (se_tup (sa_cons se_int (sa_cons se_int sa_nil))) (sa_cons (se_tup (sa_cons se_int (sa_cons se_int sa_nil))) (sa_cons (se_tup (sa_cons se_int (sa_cons se_int sa_nil))) (sa_cons (se_tup (sa_cons se_int (sa_cons se_int sa_nil))) sa_nil)))))) (sa_cons (se_tup (sa_cons (se_tup (sa_cons se_int (sa_cons se_int sa_nil))) (sa_cons (se_tup (sa_cons se_int (sa_cons se_int sa_nil))) (sa_cons (se_tup (sa_cons se_int (sa_cons se_int sa_nil))) (sa_cons (se_tup (sa_cons se_int (sa_cons se_int sa_nil))) sa_nil))))) (sa_cons (se_fz (sn_lst (sa_cons (se_tup (sa_cons se_int (sa_cons se_int sa_nil))) (sa_cons (se_tup (sa_cons se_int (sa_cons se_int sa_nil))) sa_nil)))) sa_nil)))))))) sa_nil))) (se_one (ccall0 c T 6 24 (G__law_things_right T) (bd__law_things_right T))))))))))))))))))))))))))
abbrev st__law_case_right : Stmt := top 30
theorem sc__law_case_right : FnScope ["_law_box_here", "_law_plot", "_law_ink_here", "_law_due", "_law_soft", "_law_high_so", "_law_wide_so", "_law_many_so", "_law_wide_ink", "_law_told", "_law_least_so", "_law_stays", "_law_spot"] ["_law_box_here"] (defScope st__law_case_right) := ⟨rfl, rfl, rfl, by decide +kernel, rfl, by decide +kernel, by decide +kernel⟩
theorem bd__law_case_right (T : TopT K mg ad fdd) : Binds K (fdd 26) ["_law_box_here"] [] := (T.d 26 "_law_case_right" st__law_case_right rfl).2.bindsN fun _ _ _ _ _ _ us hl => match us, hl with | [_], _ => rfl
theorem G__law_case_right (T : TopT K mg ad fdd) : FD P w K mg base 18 (ad 26) (fdd 26) ["_law_box_here"] F__law_case_right := cdef T (x := "_law_case_right") (st := st__law_case_right) rfl ["_law_box_here", "_law_plot", "_law_ink_here", "_law_due", "_law_soft", "_law_high_so", "_law_wide_so", "_law_many_so", "_law_wide_ink", "_law_told", "_law_least_so", "_law_stays", "_law_spot"] ["_law_box_here", "_law_ink_here", "_law_plot", "_law_due", "_law_soft", "_law_wide_so", "_law_high_so", "_law_many_so", "_law_wide_ink", "_law_told", "_law_least_so", "_law_stays"] ["_law_ink_here", "_law_plot", "_law_soft", "_law_due", "_law_many_so", "_law_wide_ink", "_law_told", "_law_least_so", "_law_stays"] ["_law_ink", "_law_take", "_law_lists", "_law_rest", "_law_same", "is_on", "fallen", "list", "_law_grid", "tuple", "laid", "_law_least", "folded", "onto_itself"] sc__law_case_right rfl (by decide +kernel) (by decide +kernel) (by decide +kernel) fun X c => ss_cons (casg c (se_tup (sa_cons (se_tup (sa_cons (se_add se_int (ccall c T 1 13 (G__law_take T) (bd__law_take T) (sa_cons (cv c 0 0) (sa_cons se_int sa_nil)))) (sa_cons (se_add se_int (ccall c T 1 13 (G__law_take T) (bd__law_take T) (sa_cons (cv c 0 0) (sa_cons se_int sa_nil)))) sa_nil))) (sa_cons (ccall c T 0 20 (G__law_ink T) (bd__law_ink T) (sa_cons (cv c 0 0) (sa_cons se_int (sa_cons se_int (sa_cons se_int sa_nil))))) sa_nil))) (sg_tup c.calm (sgs_cons (cn c 1 1) (sgs_cons (cn c 2 0) sgs_nil)))) (ss_cons (casg c (se_tup (sa_cons (ccall c T 3 21 (G__law_rest T) (bd__law_rest T) (sa_cons (cv c 2 1) (sa_cons (cv c 1 2) sa_nil))) (sa_cons (ccall c T 2 17 (G__law_lists T 16) (bd__law_lists T) (sa_cons (cv c 2 1) sa_nil)) sa_nil))) (sg_tup c.calm (sgs_cons (cn c 3 3) (sgs_cons (cn c 4 2) sgs_nil)))) (ss_cons (ss_if (st_not (st_truth (ccall c T 4 18 (G__law_same T 16) (bd__law_same T) (sa_cons (se_fz (sn_lst (sa_cons (ccall c T 6 8 (G_fallen T) (bd_fallen T) (sa_cons (cv c 2 1) (sa_cons (cv c 1 2) sa_nil))) (sa_cons (ccall c T 6 8 (G_fallen T) (bd_fallen T) (sa_cons (cv c 4 4) (sa_cons (se_fz (sn_list (c.bl T 7 3).1 (c.bl T 7 3).2 (sa_cons (cv c 1 2) sa_nil))) sa_nil))) (sa_cons (ccall c T 5 7 (G_is_on T) (bd_is_on T) (sa_cons (cv c 1 2) (sa_cons (cv c 3 3) sa_nil))) sa_nil))))) (sa_cons (se_fz (sn_lst (sa_cons (cv c 3 3) (sa_cons (cv c 3 3) (sa_cons se_bl sa_nil))))) sa_nil))))) (ss_one (ss_ret se_bl)) ss_nil) (ss_cons (ss_if (st_not (st_truth (ccall c T 4 18 (G__law_same T 16) (bd__law_same T) (sa_cons (ccall c T 5 7 (G_is_on T) (bd_is_on T) (sa_cons (cv c 1 2) (sa_cons (cv c 2 1) sa_nil))) (sa_cons (se_eq c.room (cv c 2 1) (cv c 3 3)) sa_nil))))) (ss_one (ss_ret se_bl)) ss_nil) (ss_cons (cpar c 5 6 (sa_cons (se_add se_int (ccall c T 1 13 (G__law_take T) (bd__law_take T) (sa_cons (cv c 0 0) (sa_cons se_int sa_nil)))) (sa_cons (se_add se_int (ccall c T 1 13 (G__law_take T) (bd__law_take T) (sa_cons (cv c 0 0) (sa_cons se_int sa_nil)))) sa_nil))) (ss_cons (cset c 7 4 (se_tup (sa_cons (se_mul (se_ix c.room (cv c 1 2) se_int) (cv c 5 6)) (sa_cons (se_mul (se_ix c.room (cv c 1 2) se_int) (cv c 6 5)) sa_nil)))) (ss_cons (cset c 8 5 (se_tuplec (c.bl T 9 4).1 (c.bl T 9 4).2 (sa_cons (se_fz (clc c [("_law_spot", 12)] ["_law_plot", "_law_spot", "_law_due"] ["_law_spot"] ["_law_rest"] (si_seq (ccall c T 8 19 (G__law_grid T) (bd__law_grid T) (sa_cons (se_ix c.room (cv c 7 7) se_int) (sa_cons (se_ix c.room (cv c 7 7) se_int) sa_nil)))) (fun Y1 c1 => ⟨cn c1 12 0, sts_one (st_in c1.room (se_ix c1.room (ccall c1 T 0 21 (G__law_rest T) (bd__law_rest T) (sa_cons (se_tup (sa_cons (cv c1 12 1) sa_nil)) (sa_cons (cv c1 1 0) sa_nil))) se_int) (cv c1 3 2)), cv c1 12 1⟩))) sa_nil))) (ss_cons (cset c 9 6 (ccall c T 10 11 (G_laid T) (bd_laid T) (sa_cons (cv c 3 3) (sa_cons (cv c 1 2) (sa_cons (cv c 5 6) (sa_cons (cv c 6 5) sa_nil)))))) (ss_cons (ss_if (st_not (st_truth (ccall c T 4 18 (G__law_same T 16) (bd__law_same T) (sa_cons (se_fz (sn_lst (sa_cons (cv c 9 9) (sa_cons (ccall c T 5 7 (G_is_on T) (bd_is_on T) (sa_cons (cv c 7 7) (sa_cons (cv c 9 9) sa_nil))) (sa_cons (ccall c T 10 11 (G_laid T) (bd_laid T) (sa_cons (ccall c T 2 17 (G__law_lists T 16) (bd__law_lists T) (sa_cons (cv c 3 3) sa_nil)) (sa_cons (se_fz (sn_list (c.bl T 7 3).1 (c.bl T 7 3).2 (sa_cons (cv c 1 2) sa_nil))) (sa_cons (cv c 5 6) (sa_cons (cv c 6 5) sa_nil))))) sa_nil))))) (sa_cons (se_fz (sn_lst (sa_cons (cv c 8 8) (sa_cons se_bl (sa_cons (cv c 8 8) sa_nil))))) sa_nil))))) (ss_one (ss_ret se_bl)) ss_nil) (ss_cons (ss_if (st_eq c.room (cv c 2 1) (se_tup sa_nil)) (ss_one (ss_ret se_bl)) ss_nil) (ss_cons (cset c 10 7 (ccall c T 11 23 (G__law_least T) (bd__law_least T) (sa_cons (cv c 2 1) (sa_cons (cv c 1 2) sa_nil)))) (ss_cons (ss_if (st_not (st_truth (ccall c T 4 18 (G__law_same T 16) (bd__law_same T) (sa_cons (se_fz (sn_lst (sa_cons (ccall c T 12 9 (G_folded T) (bd_folded T) (sa_cons (cv c 2 1) (sa_cons (cv c 1 2) sa_nil))) (sa_cons (ccall c T 12 9 (G_folded T) (bd_folded T) (sa_cons (cv c 3 3) (sa_cons (cv c 1 2) sa_nil))) (sa_cons (ccall c T 12 9 (G_folded T) (bd_folded T) (sa_cons (cv c 4 4) (sa_cons (se_fz (sn_list (c.bl T 7 3).1 (c.bl T 7 3).2 (sa_cons (cv c 1 2) sa_nil))) sa_nil))) (sa_cons (ccall c T 12 9 (G_folded T) (bd_folded T) (sa_cons (cv c 10 10) (sa_cons (cv c 1 2) sa_nil))) sa_nil)))))) (sa_cons (se_mul (se_fz (sn_lst (sa_cons (cv c 10 10) sa_nil))) se_int) sa_nil))))) (ss_one (ss_ret se_bl)) ss_nil) (ss_cons (csetLc c 11 [("_law_spot", 12)] ["_law_spot", "_law_plot", "_law_due"] ["_law_spot"] ["_law_shift"] (si_seq (ccall c T 8 19 (G__law_grid T) (bd__law_grid T) (sa_cons (se_ix c.room (cv c 1 2) se_int) (sa_cons (se_ix c.room (cv c 1 2) se_int) sa_nil)))) (fun Y2 c2 => ⟨cn c2 12 0, sts_one (st_eq c2.room (ccall c2 T 0 22 (G__law_shift T) (bd__law_shift T) (sa_cons (cv c2 3 2) (sa_cons (cv c2 1 1) (sa_cons (cv c2 12 0) sa_nil)))) (cv c2 3 2)), cv c2 12 0⟩)) (ss_one (ss_ret (ccall c T 4 18 (G__law_same T 16) (bd__law_same T) (sa_cons (se_fz (sn_lst (sa_cons (ccall c T 13 10 (G_onto_itself T) (bd_onto_itself T) (sa_cons (cv c 3 3) (sa_cons (cv c 1 2) sa_nil))) (sa_cons (ccall c T 13 10 (G_onto_itself T) (bd_onto_itself T) (sa_cons (ccall c T 2 17 (G__law_lists T 16) (bd__law_lists T) (sa_cons (cv c 3 3) sa_nil)) (sa_cons (se_fz (sn_list (c.bl T 7 3).1 (c.bl T 7 3).2 (sa_cons (cv c 1 2) sa_nil))) sa_nil))) sa_nil)))) (sa_cons (se_fz (sn_lst (sa_cons (cv c 11 11) (sa_cons (cv c 11 11) sa_nil)))) sa_nil)))))))))))))))))
abbrev st__law_right : Stmt := top 31
theorem sc__law_right : FnScope ["_law_box_here", "_law_turn"] ["_law_box_here"] (defScope st__law_right) := ⟨rfl, rfl, rfl, by decide +kernel, rfl, by decide +kernel, by decide +kernel⟩
theorem bd__law_right (T : TopT K mg ad fdd) : Binds K (fdd 27) ["_law_box_here"] [] := (T.d 27 "_law_right" st__law_right rfl).2.bindsN fun _ _ _ _ _ _ us hl => match us, hl with | [_], _ => rfl
theorem G__law_right (T : TopT K mg ad fdd) : FD P w K mg base 19 (ad 27) (fdd 27) ["_law_box_here"] F__law_right := cdef T (x := "_law_right") (st := st__law_right) rfl ["_law_box_here", "_law_turn"] [] [] ["range", "all"] sc__law_right rfl (by decide +kernel) (by decide +kernel) (by decide +kernel) fun X c => ss_one (ss_ret (se_all c.calm (c.bl T 1 6).1 (c.bl T 1 6).2 (sa_cons (se_fz (clc c [("_law_turn", 1)] ["_law_box_here"] ["_law_turn"] ["_law_case_right"] (si_range1 (c.bl T 0 11).1 (c.bl T 0 11).2 (sa_cons se_int sa_nil)) (fun Y1 c1 => ⟨cn c1 1 0, sts_nil, ccall c1 T 0 26 (G__law_case_right T) (bd__law_case_right T) (sa_cons (cv c1 0 0) sa_nil)⟩))) sa_nil)))
abbrev st_law : Stmt := top 32
theorem sc_law : FnScope ["_law_script", "_law_cells_so", "_law_k"] ["_law_script"] (defScope st_law) := ⟨rfl, rfl, rfl, by decide +kernel, rfl, by decide +kernel, by decide +kernel⟩
theorem G_law (T : TopT K mg ad fdd) : FD P w K mg base 20 (ad 28) (fdd 28) ["_law_script"] F_law := cdef T (x := "law") (st := st_law) rfl ["_law_script", "_law_cells_so", "_law_k"] ["_law_script", "_law_cells_so"] ["_law_cells_so"] ["_law_hand_right", "_law_cells", "len", "range", "all"] sc_law rfl (by decide +kernel) (by decide +kernel) (by decide +kernel) fun X c => ss_cons (ss_if (st_not (st_truth (ccall0 c T 0 25 (G__law_hand_right T) (bd__law_hand_right T)))) (ss_one (ss_ret se_bl)) ss_nil) (ss_cons (cset c 1 0 (ccall c T 1 14 (G__law_cells T) (bd__law_cells T) (sa_cons (cv c 0 0) (sa_cons se_int sa_nil)))) (ss_one (ss_ret (se_all c.calm (c.bl T 4 6).1 (c.bl T 4 6).2 (sa_cons (se_fz (clc c [("_law_k", 2)] ["_law_k", "_law_cells_so"] ["_law_k"] ["_law_right", "_law_box"] (si_range1 (c.bl T 3 11).1 (c.bl T 3 11).2 (sa_cons (se_len (c.bl T 2 7).1 (c.bl T 2 7).2 (sa_cons (cv c 1 1) sa_nil)) sa_nil)) (fun Y1 c1 => ⟨cn c1 2 0, sts_nil, ccall c1 T 0 27 (G__law_right T) (bd__law_right T) (sa_cons (ccall c1 T 1 12 (G__law_box T) (bd__law_box T) (sa_cons (cv c1 1 1) (sa_cons (cv c1 2 0) sa_nil))) sa_nil)⟩))) sa_nil)))))
theorem ba_law (T : TopT K mg ad fdd) (s : Shared) (us : List Value) (hl : us.length = 1) : BindsTo s (fdd 28) ⟨us, []⟩ (List.zip ["_law_script"] us) := FunD.bindsA (ps := ["_law_script"]) (T.d 28 "law" st_law rfl).2 (fun _ _ _ _ _ _ us hl => match us, hl with | [_], _ => rfl) s us hl
end
end Lw
namespace Lw
open PySem L2 Ws
open En (en)
theorem rest1 {S : Store} {h w : Nat} {p : Pt} (hh : 0 < h) (hw : 0 < w) : F__law_rest [.tup [en p], .tup [.int h, .int w]] S = .ok (.tup [en (modP h w p)]) S :=
  law_rest (l := [p]) (R := h) (C := w) (rd_pic [p]) rfl (by omega) (by omega) (by simp)
theorem mul_four {T : Store} {x : D} : gMul T (.lst [x]) (.int 4) = some (.lst [x, x, x, x]) := by
  have h : lineOk ([x].length * (4 : Int).toNat) = true := lineOk_of (by simp)
  unfold gMul
  simp only [view]
  rw [h]
  rfl
theorem case_ok {n c : Nat} {S : Store} {b : D} (hb : S[n]? = some b) (hx : Bx c b) (hc : c ≤ 80000) : ∃ b', F__law_case_right [.ref n] S = .ok (.bl true) (S.set n b') ∧ Bx (c + 30) b' := by
  suffices hh : wp (F__law_case_right [.ref n] S) fun v T => ∃ b', v = .bl true ∧ T = S.set n b' ∧ Bx (c + 30) b' by
    obtain ⟨v, T, e, b', rfl, rfl, hB⟩ := hh; exact ⟨b', e, hB⟩
  rw [U__law_case_right]
  unfold B__law_case_right
  obtain ⟨a, b1, e1, ha0, ha1, hB1⟩ := take_ok hb hx (top := 5) (by decide)
  obtain ⟨h, hh4, rfl⟩ : ∃ k : Nat, k < 5 ∧ a = k := ⟨a.toNat, by omega, by omega⟩
  obtain ⟨a2, b2, e2, ha20, ha21, hB2⟩ := take_ok (get_set (b := b1) hb) hB1 (top := 5) (by decide)
  rw [List.set_set] at e2
  obtain ⟨w, hw5, rfl⟩ : ∃ k : Nat, k < 5 ∧ a2 = k := ⟨a2.toNat, by omega, by omega⟩
  have eh : (1 : Int) + (h : Int) = ((h + 1 : Nat) : Int) := by omega
  have ew : (1 : Int) + (w : Int) = ((w + 1 : Nat) : Int) := by omega
  have hhp : 0 < h + 1 := by omega
  have hwp : 0 < w + 1 := by omega
  have hh5 : h + 1 ≤ 5 := by omega
  have hw6 : w + 1 ≤ 5 := by omega
  generalize h + 1 = H at eh hhp hh5
  generalize w + 1 = W at ew hwp hw6
  obtain ⟨l, b3, e3, hr, hl6, -, -, hB3⟩ := ink_ok (most := 6) (h := 4) (w := 5) (get_set (b := b2) hb) hB2 (by decide) (by decide) (by decide) (by decide)
  rw [List.set_set] at e3
  have e3' : F__law_ink [.ref n, .int 6, .int 4, .int 5] (S.set n b2) = .ok (en l) (S.set n b3) := e3
  obtain ⟨a4, b4, e4, ha40, ha41, hB4⟩ := take_ok (get_set (b := b3) hb) hB3 (top := 4) (by decide)
  rw [List.set_set] at e4
  obtain ⟨k, hk4, rfl⟩ : ∃ k : Nat, k < 4 ∧ a4 = k := ⟨a4.toNat, by omega, by omega⟩
  obtain ⟨a5, b5, e5, ha50, ha51, hB5⟩ := take_ok (get_set (b := b4) hb) hB4 (top := 4) (by decide)
  rw [List.set_set] at e5
  obtain ⟨j, hj4, rfl⟩ : ∃ k : Nat, k < 4 ∧ a5 = k := ⟨a5.toNat, by omega, by omega⟩
  have ek : (1 : Int) + (k : Int) = ((k + 1 : Nat) : Int) := by omega
  have ej : (1 : Int) + (j : Int) = ((j + 1 : Nat) : Int) := by omega
  have hk5 : k + 1 ≤ 4 := by omega
  have hj5 : j + 1 ≤ 4 := by omega
  generalize k + 1 = K at ek hk5
  generalize j + 1 = J at ej hj5
  have fin : Bx (c + 30) b5 := hB5.mono (by omega)
  have pH : (0 : Int) < (H : Int) := by omega
  have pW : (0 : Int) < (W : Int) := by omega
  have q1 : ∀ T : Store, gIx T (.tup [.int (H : Int), .int (W : Int)]) (.int 0) = some (.int H) := fun _ => rfl
  have q2 : ∀ T : Store, gIx T (.tup [.int (H : Int), .int (W : Int)]) (.int 1) = some (.int W) := fun _ => rfl
  have fl : rdFl (.tup [.int (H : Int), .int (W : Int)]) H W := rfl
  have fll : rdFl (.lst [.int (H : Int), .int (W : Int)]) H W := rfl
  have gl : ∀ T, gList T [.tup [.int (H : Int), .int (W : Int)]] = some [.int H, .int W] := fun _ => rfl
  have rl : rdPic (lstD (en l)) = some l := by rw [rdPic_lst]; exact rd_pic l
  have hdl := fall_len H W l
  have hdo := fall_on (R := H) (C := W) pH pW (l := l)
  have hdr : Ris (fallP H W l) := srs_ris _
  generalize hT1 : S.set n b3 = T1 at *
  generalize hT2 : S.set n b5 = T2 at *
  have k1 : F__law_rest [en l, .tup [.int (H : Int), .int (W : Int)]] T1 = .ok (en (fallP H W l)) T1 := law_rest (rd_pic l) fl pH pW (by omega)
  have k2 : F_fallen [en l, .tup [.int (H : Int), .int (W : Int)]] T1 = .ok (en (fallP H W l)) T1 := E_fallen (rd_pic l) fl pH pW (by omega)
  have k3 : F_fallen [lstD (en l), .lst [.int (H : Int), .int (W : Int)]] T1 = .ok (en (fallP H W l)) T1 := E_fallen rl fll pH pW (by omega)
  have k4 := E_is_on (S := T1) (m := fallP H W l) fl
  have k4b : (risB (fallP H W l) && (fallP H W l).all (onB H W)) = true := by rw [on_fall pH pW hdr, fall_id hdo hdr]; exact beq_self_eq_true _
  rw [k4b] at k4
  have k5 := E_is_on (S := T1) (m := l) fl
  rw [on_fall pH pW hr] at k5
  have k6 := eq_en (α := List Pt) (by decide) (S := T1) l (fallP H W l)
  have l1 := lists_ok (S := T1) 15 (en l) (shp_mono _ (by decide) (En.shp l))
  generalize hdue : fallP H W l = due at *
  have sdue : D.shp (en due) 14 = true := shp_mono _ (by decide) (En.shp due)
  have s1 := same_ok (S := T1) 15 (.lst [en due, en due, .bl true]) (by simp only [D.shp, D.shps, sdue, Bool.and_self])
  have s2 := same_ok (S := T1) 15 (.bl (l == due)) rfl
  have nl : (lstD (en l)).isRef = false := lstD_nr (En.nr l)
  have nd : (lstD (en due)).isRef = false := lstD_nr (En.nr due)
  -- laid
  have hHK : H * K ≤ 5 * 4 := Nat.mul_le_mul hh5 hk5
  have hWJ : W * J ≤ 5 * 4 := Nat.mul_le_mul hw6 hj5
  have hKJ : K * J ≤ 4 * 4 := Nat.mul_le_mul hk5 hj5
  have hgl : H * K * (W * J) ≤ 20 * 20 := Nat.mul_le_mul hHK hWJ
  have hLKJ : due.length * (K * J) ≤ 6 * 16 := Nat.mul_le_mul (by omega) hKJ
  have m1 : mulOk (H : Int) (K : Int) = true := mulOk_l (small_of (by omega) (by omega))
  have m2 : mulOk (W : Int) (J : Int) = true := mulOk_l (small_of (by omega) (by omega))
  have c1 : (H : Int) * (K : Int) = ((H * K : Nat) : Int) := (Int.natCast_mul ..).symm
  have c2 : (W : Int) * (J : Int) = ((W * J : Nat) : Int) := (Int.natCast_mul ..).symm
  have q3 : ∀ T : Store, gIx T (.tup [.int ((H * K : Nat) : Int), .int ((W * J : Nat) : Int)]) (.int 0) = some (.int ((H * K : Nat) : Int)) := fun _ => rfl
  have q4 : ∀ T : Store, gIx T (.tup [.int ((H * K : Nat) : Int), .int ((W * J : Nat) : Int)]) (.int 1) = some (.int ((W * J : Nat) : Int)) := fun _ => rfl
  have fl2 : rdFl (.tup [.int ((H * K : Nat) : Int), .int ((W * J : Nat) : Int)]) ((H * K : Nat) : Int) ((W * J : Nat) : Int) := rfl
  have rd2 : rdPic (lstD (en due)) = some due := by rw [rdPic_lst]; exact rd_pic due
  have g1 := grid_ok (S := T2) (h := H * K) (w := W * J) (by omega) (by omega) (by omega)
  have it1 : itOf (.lst ((gridP (H * K) (W * J)).map en)) T2 = .ok (.fix ((gridP (H * K) (W * J)).map en)) T2 := rfl
  have gc1 : compF (gNm 12) (dTest (dOp (gInSeq false) (dOp gIx (dFn F__law_rest (dCons (dTup (dCons (dVar 12) dNil)) (dCons (dVar 1) dNil))) (dC (.int 0))) (dVar 3))) (dVar 12) [some (.ref n), some (.tup [.int (H : Int), .int (W : Int)]), some (en l), some (en due), some (lstD (en l)), some (.int (K : Int)), some (.int (J : Int)), some (.tup [.int ((H * K : Nat) : Int), .int ((W * J : Nat) : Int)]), none, none, none, none, none] ((gridP (H * K) (W * J)).map en) T2 = .ok (((gridP (H * K) (W * J)).filter fun q => due.contains (modP H W q)).map en) T2 := by
    rw [← fm_filter (fun q => due.contains (modP H W q)) en (gridP (H * K) (W * J))]
    refine compF_en fun q _ => one_if rfl ?_ (fun _ => rfl) rfl
    have hi := in_seq (α := Pt) (by decide) (neg := false) (S := T2) (a := modP H W q) (l := due) (d := en due) rfl
    have q5 : rdSeq (.tup [en (modP H W q)]) = some [en (modP H W q)] := rfl
    simp -implicitDefEqProofs only [ev_Blk, ek_blkNx, ek_blkRt, ek_blkBk, ek_blkCt, frz_nil, frz_some, frz_none, frz_int, frz_bl, frz_str, frz_non, frz_tup, frz_lst, frz_set, frz_dct, ev_FzD, ev_MuD, ek_dctF, ek_dctM, ev_Emp, ev_CallD, ek_CallD, ev_optD, ev_Met, ek_Met, ek_Met2, isDct_dct, ev_RevA, ek_RevAL, ek_RevAT, ev_RevN, ek_Rev, ev_Star, ek_StarL, ek_StarT, ek_Star2, ev_ltI, ek_Op, ek_Op2, ek_Un, ek_AndT, ek_AndF, ek_OrT, ek_OrF, ek_Not, ek_IfT, ek_IfF, ek_Cons, ek_Cons2, ek_Fz, ek_Mu, ek_Call, ek_CallN, ek_AddN, ek_AddN2, ek_Sl, ek_Sl2, ek_Sl3, ek_SlN, ek_SlN2, ek_SlN3, ek_FnK, ek_FnK2, ek_Len, ek_Asg, ek_Ret, ek_SIfT, ek_SIfF, ek_Drop, ek_Set, ek_Set2, ek_Set3, ek_OrB, ek_OrBT, ek_OrBF, ek_AndB, ek_AndBT, ek_AndBF, ek_NotB, ek_NotB2, ev_App, ev_Pop, ev_opt, ev_C, ev_Var, ev_Op, ev_Un, ev_Test, ev_test, ev_AndT, ev_OrT, ev_NotT, ev_If, ev_Truth, ev_truB, ev_truI, ev_truL, ev_truT, ev_truN, ev_OrB, ev_AndB, ev_NotB, ev_Nil, ev_Cons, ev_Tup, ev_Chk, ev_Fz, ev_Mu, ev_Call, ev_CallN, ev_optL, ev_AddN, ev_Isi, ev_oNone, ev_oSome, ev_oInt, ev_Sl, ev_SlN, ev_Fn, ev_FnK, ev_Len, ev_sNil, ev_Seq, ev_nx, ev_rt, ev_bk, ev_ct, ev_Asg, ev_nxO, ev_gNm, ev_gsNil, ev_gsCons, ev_Ret, ev_RetN, ev_sIf, ev_Drop, ev_Brk, ev_Cnt, ev_Par, ev_par2, ev_par3, ev_SetIx, ev_stO, ev_iSeq, ev_itL, ev_itT, ev_Ran1, ev_Ran2, ev_Enu, ev_enu, ev_Zip, ev_zipL, ev_zipT, ev_Comp, ev_fix, ev_Yes, ev_wipe0, ev_wipe, ev_For, ev_forF, ev_endRt, ev_endNx, ev_endM, ev_lvT, ev_lvL, ev_lvI, ev_lvB, ev_lvS, ev_lvN, ev_lvD, ev_addI, ev_subI, ev_negI, ev_eqI, ev_neI, ev_eqB, ev_neB, ev_cmpI, ev_isN, ev_isNotN, ev_lenL, ev_lenT, ev_tupL, ev_tupT, ev_lstL, ev_lstT, ev_int, ev_intB, ev_abs, ev_min2, ev_max2, ev_ixL, ev_ixT, Out.bind_ok, bindN_ok, Option.bind_some, List.set_cons_zero, List.set_cons_succ, List.getElem?_cons_zero, List.getElem?_cons_succ, ev_mk0, ev_mk1, ev_mk2, ev_mk3, ev_mk4, ev_ck0, ev_ck, Nat.zero_le, nr_int, nr_bl, nr_str, nr_non, nr_tup, nr_lst, En.nr, noRefs_nil, noRefs_cons, Bool.not_false, Bool.and_self, Bool.and_true, Bool.true_and, List.length_cons, List.length_nil, Nat.reduceAdd, Nat.reduceLeDiff, take_self, take_app, take_set, if_true, if_false, Bool.false_eq_true, Bool.not_true, atI_0, atI_1, ev_tu2, ev_tu2w, ev_tu2L, ev_tu3, ev_tu4, ev_pick0, ev_pick, List.nil_append, List.cons_append, frz_last, lv_last, lv_lastD, isDct_last, isDct_aD, ev_AugN, ek_AugAdd, ek_AugSub, ev_AugS, ek_AugS1, ek_AugS3a, ek_AugS3s, ev_SortK, ek_SortK, ev_MulN, ek_MulN, ek_MulN2, ev_RgL, ev_RgT, ev_Comp2, ev_fix2, ev_AsgM, ev_MinK, rest1 hhp hwp, rd_ix q5, atI_0, hi]
    try rfl
  have k7 := E_laid (S := T2) (l := due) (d := K) (a := J) (rd_pic due) fl (by omega) (by omega) (by omega)
  have k8 := E_laid (S := T2) (l := due) (d := K) (a := J) rd2 fll (by omega) (by omega) (by omega)
  rw [laid_grid hhp hwp hdo] at k7 k8
  have k9 := E_is_on (S := T2) (m := (gridP (H * K) (W * J)).filter fun q => due.contains (modP H W q)) fl2
  have k9b : (risB ((gridP (H * K) (W * J)).filter fun q => due.contains (modP H W q)) && ((gridP (H * K) (W * J)).filter fun q => due.contains (modP H W q)).all (onB ((H * K : Nat) : Int) ((W * J : Nat) : Int))) = true := by
    rw [risB_true ((grid_ris _ _).filter _), on_grid fun q hq => (List.mem_filter.mp hq).1]; rfl
  rw [k9b] at k9
  generalize (gridP (H * K) (W * J)).filter (fun q => due.contains (modP H W q)) = wide at gc1 k7 k8 k9
  have ewide : D.tup (wide.map en) = en wide := rfl
  have swide : D.shp (en wide) 14 = true := shp_mono _ (by decide) (En.shp wide)
  have s3 := same_ok (S := T2) 15 (.lst [en wide, .bl true, en wide]) (by simp only [D.shp, D.shps, swide, Bool.and_self])
  have l2 := lists_ok (S := T2) 15 (en due) (shp_mono _ (by decide) (En.shp due))
  have k10 := eq_tnil (S := T2) (α := Pt) (by decide) l
  simp -implicitDefEqProofs only [ev_Blk, ek_blkNx, ek_blkRt, ek_blkBk, ek_blkCt, frz_nil, frz_some, frz_none, frz_int, frz_bl, frz_str, frz_non, frz_tup, frz_lst, frz_set, frz_dct, ev_FzD, ev_MuD, ek_dctF, ek_dctM, ev_Emp, ev_CallD, ek_CallD, ev_optD, ev_Met, ek_Met, ek_Met2, isDct_dct, ev_RevA, ek_RevAL, ek_RevAT, ev_RevN, ek_Rev, ev_Star, ek_StarL, ek_StarT, ek_Star2, ev_ltI, ek_Op, ek_Op2, ek_Un, ek_AndT, ek_AndF, ek_OrT, ek_OrF, ek_Not, ek_IfT, ek_IfF, ek_Cons, ek_Cons2, ek_Fz, ek_Mu, ek_Call, ek_CallN, ek_AddN, ek_AddN2, ek_Sl, ek_Sl2, ek_Sl3, ek_SlN, ek_SlN2, ek_SlN3, ek_FnK, ek_FnK2, ek_Len, ek_Asg, ek_Ret, ek_SIfT, ek_SIfF, ek_Drop, ek_Set, ek_Set2, ek_Set3, ek_OrB, ek_OrBT, ek_OrBF, ek_AndB, ek_AndBT, ek_AndBF, ek_NotB, ek_NotB2, ev_App, ev_Pop, ev_opt, ev_C, ev_Var, ev_Op, ev_Un, ev_Test, ev_test, ev_AndT, ev_OrT, ev_NotT, ev_If, ev_Truth, ev_truB, ev_truI, ev_truL, ev_truT, ev_truN, ev_OrB, ev_AndB, ev_NotB, ev_Nil, ev_Cons, ev_Tup, ev_Chk, ev_Fz, ev_Mu, ev_Call, ev_CallN, ev_optL, ev_AddN, ev_Isi, ev_oNone, ev_oSome, ev_oInt, ev_Sl, ev_SlN, ev_Fn, ev_FnK, ev_Len, ev_sNil, ev_Seq, ev_nx, ev_rt, ev_bk, ev_ct, ev_Asg, ev_nxO, ev_gNm, ev_gsNil, ev_gsCons, ev_Ret, ev_RetN, ev_sIf, ev_Drop, ev_Brk, ev_Cnt, ev_Par, ev_par2, ev_par3, ev_SetIx, ev_stO, ev_iSeq, ev_itL, ev_itT, ev_Ran1, ev_Ran2, ev_Enu, ev_enu, ev_Zip, ev_zipL, ev_zipT, ev_Comp, ev_fix, ev_Yes, ev_wipe0, ev_wipe, ev_For, ev_forF, ev_endRt, ev_endNx, ev_endM, ev_lvT, ev_lvL, ev_lvI, ev_lvB, ev_lvS, ev_lvN, ev_lvD, ev_addI, ev_subI, ev_negI, ev_eqI, ev_neI, ev_eqB, ev_neB, ev_cmpI, ev_isN, ev_isNotN, ev_lenL, ev_lenT, ev_tupL, ev_tupT, ev_lstL, ev_lstT, ev_int, ev_intB, ev_abs, ev_min2, ev_max2, ev_ixL, ev_ixT, Out.bind_ok, bindN_ok, Option.bind_some, List.set_cons_zero, List.set_cons_succ, List.getElem?_cons_zero, List.getElem?_cons_succ, ev_mk0, ev_mk1, ev_mk2, ev_mk3, ev_mk4, ev_ck0, ev_ck, Nat.zero_le, nr_int, nr_bl, nr_str, nr_non, nr_tup, nr_lst, En.nr, noRefs_nil, noRefs_cons, Bool.not_false, Bool.and_self, Bool.and_true, Bool.true_and, List.length_cons, List.length_nil, Nat.reduceAdd, Nat.reduceLeDiff, take_self, take_app, take_set, if_true, if_false, Bool.false_eq_true, Bool.not_true, atI_0, atI_1, ev_tu2, ev_tu2w, ev_tu2L, ev_tu3, ev_tu4, ev_pick0, ev_pick, List.nil_append, List.cons_append, frz_last, lv_last, lv_lastD, isDct_last, isDct_aD, ev_AugN, ek_AugAdd, ek_AugSub, ev_AugS, ek_AugS1, ek_AugS3a, ek_AugS3s, ev_SortK, ek_SortK, ev_MulN, ek_MulN, ek_MulN2, ev_RgL, ev_RgT, ev_Comp2, ev_fix2, ev_AsgM, ev_MinK, e1, e2, eh, ew, q1, q2, gl, e3', k1, k2, k3, k4, k5, k6, l1, s1, s2, e4, e5, ek, ej, nl, nd, ev_mulI m1, ev_mulI m2, c1, c2, q3, q4, g1, it1, gc1, ewide, k7, k8, k9, s3, l2, k10]
  cases hemp : l.isEmpty with
  | true =>
    simp -implicitDefEqProofs only [ev_Blk, ek_blkNx, ek_blkRt, ek_blkBk, ek_blkCt, frz_nil, frz_some, frz_none, frz_int, frz_bl, frz_str, frz_non, frz_tup, frz_lst, frz_set, frz_dct, ev_FzD, ev_MuD, ek_dctF, ek_dctM, ev_Emp, ev_CallD, ek_CallD, ev_optD, ev_Met, ek_Met, ek_Met2, isDct_dct, ev_RevA, ek_RevAL, ek_RevAT, ev_RevN, ek_Rev, ev_Star, ek_StarL, ek_StarT, ek_Star2, ev_ltI, ek_Op, ek_Op2, ek_Un, ek_AndT, ek_AndF, ek_OrT, ek_OrF, ek_Not, ek_IfT, ek_IfF, ek_Cons, ek_Cons2, ek_Fz, ek_Mu, ek_Call, ek_CallN, ek_AddN, ek_AddN2, ek_Sl, ek_Sl2, ek_Sl3, ek_SlN, ek_SlN2, ek_SlN3, ek_FnK, ek_FnK2, ek_Len, ek_Asg, ek_Ret, ek_SIfT, ek_SIfF, ek_Drop, ek_Set, ek_Set2, ek_Set3, ek_OrB, ek_OrBT, ek_OrBF, ek_AndB, ek_AndBT, ek_AndBF, ek_NotB, ek_NotB2, ev_App, ev_Pop, ev_opt, ev_C, ev_Var, ev_Op, ev_Un, ev_Test, ev_test, ev_AndT, ev_OrT, ev_NotT, ev_If, ev_Truth, ev_truB, ev_truI, ev_truL, ev_truT, ev_truN, ev_OrB, ev_AndB, ev_NotB, ev_Nil, ev_Cons, ev_Tup, ev_Chk, ev_Fz, ev_Mu, ev_Call, ev_CallN, ev_optL, ev_AddN, ev_Isi, ev_oNone, ev_oSome, ev_oInt, ev_Sl, ev_SlN, ev_Fn, ev_FnK, ev_Len, ev_sNil, ev_Seq, ev_nx, ev_rt, ev_bk, ev_ct, ev_Asg, ev_nxO, ev_gNm, ev_gsNil, ev_gsCons, ev_Ret, ev_RetN, ev_sIf, ev_Drop, ev_Brk, ev_Cnt, ev_Par, ev_par2, ev_par3, ev_SetIx, ev_stO, ev_iSeq, ev_itL, ev_itT, ev_Ran1, ev_Ran2, ev_Enu, ev_enu, ev_Zip, ev_zipL, ev_zipT, ev_Comp, ev_fix, ev_Yes, ev_wipe0, ev_wipe, ev_For, ev_forF, ev_endRt, ev_endNx, ev_endM, ev_lvT, ev_lvL, ev_lvI, ev_lvB, ev_lvS, ev_lvN, ev_lvD, ev_addI, ev_subI, ev_negI, ev_eqI, ev_neI, ev_eqB, ev_neB, ev_cmpI, ev_isN, ev_isNotN, ev_lenL, ev_lenT, ev_tupL, ev_tupT, ev_lstL, ev_lstT, ev_int, ev_intB, ev_abs, ev_min2, ev_max2, ev_ixL, ev_ixT, Out.bind_ok, bindN_ok, Option.bind_some, List.set_cons_zero, List.set_cons_succ, List.getElem?_cons_zero, List.getElem?_cons_succ, ev_mk0, ev_mk1, ev_mk2, ev_mk3, ev_mk4, ev_ck0, ev_ck, Nat.zero_le, nr_int, nr_bl, nr_str, nr_non, nr_tup, nr_lst, En.nr, noRefs_nil, noRefs_cons, Bool.not_false, Bool.and_self, Bool.and_true, Bool.true_and, List.length_cons, List.length_nil, Nat.reduceAdd, Nat.reduceLeDiff, take_self, take_app, take_set, if_true, if_false, Bool.false_eq_true, Bool.not_true, atI_0, atI_1, ev_tu2, ev_tu2w, ev_tu2L, ev_tu3, ev_tu4, ev_pick0, ev_pick, List.nil_append, List.cons_append, frz_last, lv_last, lv_lastD, isDct_last, isDct_aD, ev_AugN, ek_AugAdd, ek_AugSub, ev_AugS, ek_AugS1, ek_AugS3a, ek_AugS3s, ev_SortK, ek_SortK, ev_MulN, ek_MulN, ek_MulN2, ev_RgL, ev_RgT, ev_Comp2, ev_fix2, ev_AsgM, ev_MinK, wp_ok]
    exact ⟨b5, trivial, by rw [← hT2, take_set], fin⟩
  | false =>
    have hne : l ≠ [] := fun z => by rw [z] at hemp; cases hemp
    have hdne : due ≠ [] := by rw [← hdue]; exact fall_ne hne
    obtain ⟨m, k11, hm1, hm2⟩ := law_least (S := T2) (l := l) (h := H) (w := W) (rd_pic l) fl hhp hwp (by omega) (by omega) (by omega)
    have L : Lst H W l m := ⟨hm1, hm2⟩
    have hmne : m ≠ [] := by obtain ⟨c0, _, rfl⟩ := hm1; exact sh_ne hne
    have hml : m.length ≤ 1000 := by
      obtain ⟨c0, _, rfl⟩ := hm1
      unfold shP
      have := srt_le (l.map fun p => modP H W (mv c0.1 c0.2 p))
      rw [List.length_map] at this
      omega
    have Ld : Lst H W due m := by rw [← hdue]; exact L.fall
    have k12 := E_folded (S := T2) (rd_pic l) fl pH pW (by omega) hne
    have k13 := E_folded (S := T2) (rd_pic due) fl pH pW (by omega) hdne
    have k14 := E_folded (S := T2) rl fll pH pW (by omega) hne
    have k15 := E_folded (S := T2) (rd_pic m) fl pH pW hml hmne
    rw [fold_eq hhp hwp hne L] at k12 k14
    rw [fold_eq hhp hwp hdne Ld] at k13
    rw [fold_eq hhp hwp hmne (L.self hhp hwp)] at k15
    have sm : D.shp (en m) 14 = true := shp_mono _ (by decide) (En.shp m)
    have s4 := same_ok (S := T2) 15 (.lst [en m, en m, en m, en m]) (by simp only [D.shp, D.shps, sm, Bool.and_self])
    have g2 := grid_ok (S := T2) (h := H) (w := W) (by omega) (by omega) (by have := Nat.mul_le_mul hh5 hw6; omega)
    have it2 : itOf (.lst ((gridP H W).map en)) T2 = .ok (.fix ((gridP H W).map en)) T2 := rfl
    have gc2 : ∀ x9 x10, compF (gNm 12) (dTest (dOp gEq (dFn F__law_shift (dCons (dVar 3) (dCons (dVar 1) (dCons (dVar 12) dNil)))) (dVar 3))) (dVar 12) [some (.ref n), some (.tup [.int (H : Int), .int (W : Int)]), some (en l), some (en due), some (lstD (en l)), some (.int (K : Int)), some (.int (J : Int)), some (.tup [.int ((H * K : Nat) : Int), .int ((W * J : Nat) : Int)]), some (en wide), x9, x10, none, none] ((gridP H W).map en) T2 = .ok (((gridP H W).filter fun c => shP H W due c == due).map en) T2 := fun x9 x10 => by
      rw [← fm_filter (fun c => shP H W due c == due) en (gridP H W)]
      refine compF_en fun c0 _ => one_if rfl ?_ (fun _ => rfl) rfl
      have f1 : F__law_shift [en due, .tup [.int (H : Int), .int (W : Int)], en c0] T2 = .ok (en (shP H W due c0)) T2 := law_shift (rd_pic due) fl (rd_pt c0) pH pW (by omega)
      have f2 := eq_en (α := List Pt) (by decide) (S := T2) (shP H W due c0) due
      simp -implicitDefEqProofs only [ev_Blk, ek_blkNx, ek_blkRt, ek_blkBk, ek_blkCt, frz_nil, frz_some, frz_none, frz_int, frz_bl, frz_str, frz_non, frz_tup, frz_lst, frz_set, frz_dct, ev_FzD, ev_MuD, ek_dctF, ek_dctM, ev_Emp, ev_CallD, ek_CallD, ev_optD, ev_Met, ek_Met, ek_Met2, isDct_dct, ev_RevA, ek_RevAL, ek_RevAT, ev_RevN, ek_Rev, ev_Star, ek_StarL, ek_StarT, ek_Star2, ev_ltI, ek_Op, ek_Op2, ek_Un, ek_AndT, ek_AndF, ek_OrT, ek_OrF, ek_Not, ek_IfT, ek_IfF, ek_Cons, ek_Cons2, ek_Fz, ek_Mu, ek_Call, ek_CallN, ek_AddN, ek_AddN2, ek_Sl, ek_Sl2, ek_Sl3, ek_SlN, ek_SlN2, ek_SlN3, ek_FnK, ek_FnK2, ek_Len, ek_Asg, ek_Ret, ek_SIfT, ek_SIfF, ek_Drop, ek_Set, ek_Set2, ek_Set3, ek_OrB, ek_OrBT, ek_OrBF, ek_AndB, ek_AndBT, ek_AndBF, ek_NotB, ek_NotB2, ev_App, ev_Pop, ev_opt, ev_C, ev_Var, ev_Op, ev_Un, ev_Test, ev_test, ev_AndT, ev_OrT, ev_NotT, ev_If, ev_Truth, ev_truB, ev_truI, ev_truL, ev_truT, ev_truN, ev_OrB, ev_AndB, ev_NotB, ev_Nil, ev_Cons, ev_Tup, ev_Chk, ev_Fz, ev_Mu, ev_Call, ev_CallN, ev_optL, ev_AddN, ev_Isi, ev_oNone, ev_oSome, ev_oInt, ev_Sl, ev_SlN, ev_Fn, ev_FnK, ev_Len, ev_sNil, ev_Seq, ev_nx, ev_rt, ev_bk, ev_ct, ev_Asg, ev_nxO, ev_gNm, ev_gsNil, ev_gsCons, ev_Ret, ev_RetN, ev_sIf, ev_Drop, ev_Brk, ev_Cnt, ev_Par, ev_par2, ev_par3, ev_SetIx, ev_stO, ev_iSeq, ev_itL, ev_itT, ev_Ran1, ev_Ran2, ev_Enu, ev_enu, ev_Zip, ev_zipL, ev_zipT, ev_Comp, ev_fix, ev_Yes, ev_wipe0, ev_wipe, ev_For, ev_forF, ev_endRt, ev_endNx, ev_endM, ev_lvT, ev_lvL, ev_lvI, ev_lvB, ev_lvS, ev_lvN, ev_lvD, ev_addI, ev_subI, ev_negI, ev_eqI, ev_neI, ev_eqB, ev_neB, ev_cmpI, ev_isN, ev_isNotN, ev_lenL, ev_lenT, ev_tupL, ev_tupT, ev_lstL, ev_lstT, ev_int, ev_intB, ev_abs, ev_min2, ev_max2, ev_ixL, ev_ixT, Out.bind_ok, bindN_ok, Option.bind_some, List.set_cons_zero, List.set_cons_succ, List.getElem?_cons_zero, List.getElem?_cons_succ, ev_mk0, ev_mk1, ev_mk2, ev_mk3, ev_mk4, ev_ck0, ev_ck, Nat.zero_le, nr_int, nr_bl, nr_str, nr_non, nr_tup, nr_lst, En.nr, noRefs_nil, noRefs_cons, Bool.not_false, Bool.and_self, Bool.and_true, Bool.true_and, List.length_cons, List.length_nil, Nat.reduceAdd, Nat.reduceLeDiff, take_self, take_app, take_set, if_true, if_false, Bool.false_eq_true, Bool.not_true, atI_0, atI_1, ev_tu2, ev_tu2w, ev_tu2L, ev_tu3, ev_tu4, ev_pick0, ev_pick, List.nil_append, List.cons_append, frz_last, lv_last, lv_lastD, isDct_last, isDct_aD, ev_AugN, ek_AugAdd, ek_AugSub, ev_AugS, ek_AugS1, ek_AugS3a, ek_AugS3s, ev_SortK, ek_SortK, ev_MulN, ek_MulN, ek_MulN2, ev_RgL, ev_RgT, ev_Comp2, ev_fix2, ev_AsgM, ev_MinK, f1, f2]
    have k16 := E_onto (S := T2) (rd_pic due) fl pH pW (by omega)
    have k17 := E_onto (S := T2) rd2 fll pH pW (by omega)
    rw [onto_grid hhp hwp hdo hdr hdne] at k16 k17
    have sst : D.shp (.lst (((gridP H W).filter fun c => shP H W due c == due).map en)) 14 = true := by
      show D.shps _ 13 = true
      exact shps_mono _ (by decide) (shps_en _)
    generalize ((gridP H W).filter fun c => shP H W due c == due).map (en : Pt → D) = ps at k16 k17 sst gc2
    have s5 := same_ok (S := T2) 15 (.lst [.lst ps, .lst ps]) (by simp only [D.shp, D.shps] at sst ⊢; simp only [sst, Bool.and_self])
    simp -implicitDefEqProofs only [ev_Blk, ek_blkNx, ek_blkRt, ek_blkBk, ek_blkCt, frz_nil, frz_some, frz_none, frz_int, frz_bl, frz_str, frz_non, frz_tup, frz_lst, frz_set, frz_dct, ev_FzD, ev_MuD, ek_dctF, ek_dctM, ev_Emp, ev_CallD, ek_CallD, ev_optD, ev_Met, ek_Met, ek_Met2, isDct_dct, ev_RevA, ek_RevAL, ek_RevAT, ev_RevN, ek_Rev, ev_Star, ek_StarL, ek_StarT, ek_Star2, ev_ltI, ek_Op, ek_Op2, ek_Un, ek_AndT, ek_AndF, ek_OrT, ek_OrF, ek_Not, ek_IfT, ek_IfF, ek_Cons, ek_Cons2, ek_Fz, ek_Mu, ek_Call, ek_CallN, ek_AddN, ek_AddN2, ek_Sl, ek_Sl2, ek_Sl3, ek_SlN, ek_SlN2, ek_SlN3, ek_FnK, ek_FnK2, ek_Len, ek_Asg, ek_Ret, ek_SIfT, ek_SIfF, ek_Drop, ek_Set, ek_Set2, ek_Set3, ek_OrB, ek_OrBT, ek_OrBF, ek_AndB, ek_AndBT, ek_AndBF, ek_NotB, ek_NotB2, ev_App, ev_Pop, ev_opt, ev_C, ev_Var, ev_Op, ev_Un, ev_Test, ev_test, ev_AndT, ev_OrT, ev_NotT, ev_If, ev_Truth, ev_truB, ev_truI, ev_truL, ev_truT, ev_truN, ev_OrB, ev_AndB, ev_NotB, ev_Nil, ev_Cons, ev_Tup, ev_Chk, ev_Fz, ev_Mu, ev_Call, ev_CallN, ev_optL, ev_AddN, ev_Isi, ev_oNone, ev_oSome, ev_oInt, ev_Sl, ev_SlN, ev_Fn, ev_FnK, ev_Len, ev_sNil, ev_Seq, ev_nx, ev_rt, ev_bk, ev_ct, ev_Asg, ev_nxO, ev_gNm, ev_gsNil, ev_gsCons, ev_Ret, ev_RetN, ev_sIf, ev_Drop, ev_Brk, ev_Cnt, ev_Par, ev_par2, ev_par3, ev_SetIx, ev_stO, ev_iSeq, ev_itL, ev_itT, ev_Ran1, ev_Ran2, ev_Enu, ev_enu, ev_Zip, ev_zipL, ev_zipT, ev_Comp, ev_fix, ev_Yes, ev_wipe0, ev_wipe, ev_For, ev_forF, ev_endRt, ev_endNx, ev_endM, ev_lvT, ev_lvL, ev_lvI, ev_lvB, ev_lvS, ev_lvN, ev_lvD, ev_addI, ev_subI, ev_negI, ev_eqI, ev_neI, ev_eqB, ev_neB, ev_cmpI, ev_isN, ev_isNotN, ev_lenL, ev_lenT, ev_tupL, ev_tupT, ev_lstL, ev_lstT, ev_int, ev_intB, ev_abs, ev_min2, ev_max2, ev_ixL, ev_ixT, Out.bind_ok, bindN_ok, Option.bind_some, List.set_cons_zero, List.set_cons_succ, List.getElem?_cons_zero, List.getElem?_cons_succ, ev_mk0, ev_mk1, ev_mk2, ev_mk3, ev_mk4, ev_ck0, ev_ck, Nat.zero_le, nr_int, nr_bl, nr_str, nr_non, nr_tup, nr_lst, En.nr, noRefs_nil, noRefs_cons, Bool.not_false, Bool.and_self, Bool.and_true, Bool.true_and, List.length_cons, List.length_nil, Nat.reduceAdd, Nat.reduceLeDiff, take_self, take_app, take_set, if_true, if_false, Bool.false_eq_true, Bool.not_true, atI_0, atI_1, ev_tu2, ev_tu2w, ev_tu2L, ev_tu3, ev_tu4, ev_pick0, ev_pick, List.nil_append, List.cons_append, frz_last, lv_last, lv_lastD, isDct_last, isDct_aD, ev_AugN, ek_AugAdd, ek_AugSub, ev_AugS, ek_AugS1, ek_AugS3a, ek_AugS3s, ev_SortK, ek_SortK, ev_MulN, ek_MulN, ek_MulN2, ev_RgL, ev_RgT, ev_Comp2, ev_fix2, ev_AsgM, ev_MinK, q1, q2, gl, k11, k12, k13, k14, k15, mul_four, s4, g2, it2, gc2, l2, k16, k17, s5, nl, nd, wp_ok]
    exact ⟨b5, trivial, by rw [← hT2, take_set], fin⟩
theorem right_ok {n : Nat} {S : Store} {b : D} (hb : S[n]? = some b) (hx : Bx 0 b) : ∃ b', F__law_right [.ref n] S = .ok (.bl true) (S.set n b') := by
  suffices h : wp (F__law_right [.ref n] S) fun v T => ∃ b', v = .bl true ∧ T = S.set n b' by
    obtain ⟨v, T, e, b', rfl, rfl⟩ := h; exact ⟨b', e⟩
  rw [U__law_right]
  unfold B__law_right
  have r8 : ran1 [.int 8] S = .ok (.fix ((rgI 0 8).map D.int)) S := rfl
  have gc : wp (compF (gNm 1) dYes (dFn F__law_case_right (dCons (dVar 0) dNil)) [some (.ref n), none] ((rgI 0 8).map D.int) S) fun acc T => (∀ x ∈ acc, x = .bl true) ∧ ∃ b', T = S.set n b' := by
    refine wp_compE (l := rgI 0 8) (I := fun pre acc T => (∀ x ∈ acc, x = .bl true) ∧ ∃ b', T = S.set n b' ∧ Bx (300 * pre.length) b') ⟨(fun _ h => nomatch h), b, (set_same hb).symm, hx.mono (by simp)⟩ ?_ ?_
    · rintro pre j post acc T hpe ⟨hacc, b', rfl, hB⟩
      have hpl : pre.length ≤ 8 := by have := congrArg List.length hpe; rw [rgI_len] at this; simp at this; omega
      obtain ⟨b2, e1, hB2⟩ := case_ok (get_set (b := b') hb) hB (by omega)
      rw [List.set_set] at e1
      rw [show oneC (gNm 1) dYes (dFn F__law_case_right (dCons (dVar 0) dNil)) [some (.ref n), none] (D.int j) (S.set n b') = .ok (some (.bl true)) (S.set n b2) from one_yes rfl (by simp -implicitDefEqProofs only [ev_Blk, ek_blkNx, ek_blkRt, ek_blkBk, ek_blkCt, frz_nil, frz_some, frz_none, frz_int, frz_bl, frz_str, frz_non, frz_tup, frz_lst, frz_set, frz_dct, ev_FzD, ev_MuD, ek_dctF, ek_dctM, ev_Emp, ev_CallD, ek_CallD, ev_optD, ev_Met, ek_Met, ek_Met2, isDct_dct, ev_RevA, ek_RevAL, ek_RevAT, ev_RevN, ek_Rev, ev_Star, ek_StarL, ek_StarT, ek_Star2, ev_ltI, ek_Op, ek_Op2, ek_Un, ek_AndT, ek_AndF, ek_OrT, ek_OrF, ek_Not, ek_IfT, ek_IfF, ek_Cons, ek_Cons2, ek_Fz, ek_Mu, ek_Call, ek_CallN, ek_AddN, ek_AddN2, ek_Sl, ek_Sl2, ek_Sl3, ek_SlN, ek_SlN2, ek_SlN3, ek_FnK, ek_FnK2, ek_Len, ek_Asg, ek_Ret, ek_SIfT, ek_SIfF, ek_Drop, ek_Set, ek_Set2, ek_Set3, ek_OrB, ek_OrBT, ek_OrBF, ek_AndB, ek_AndBT, ek_AndBF, ek_NotB, ek_NotB2, ev_App, ev_Pop, ev_opt, ev_C, ev_Var, ev_Op, ev_Un, ev_Test, ev_test, ev_AndT, ev_OrT, ev_NotT, ev_If, ev_Truth, ev_truB, ev_truI, ev_truL, ev_truT, ev_truN, ev_OrB, ev_AndB, ev_NotB, ev_Nil, ev_Cons, ev_Tup, ev_Chk, ev_Fz, ev_Mu, ev_Call, ev_CallN, ev_optL, ev_AddN, ev_Isi, ev_oNone, ev_oSome, ev_oInt, ev_Sl, ev_SlN, ev_Fn, ev_FnK, ev_Len, ev_sNil, ev_Seq, ev_nx, ev_rt, ev_bk, ev_ct, ev_Asg, ev_nxO, ev_gNm, ev_gsNil, ev_gsCons, ev_Ret, ev_RetN, ev_sIf, ev_Drop, ev_Brk, ev_Cnt, ev_Par, ev_par2, ev_par3, ev_SetIx, ev_stO, ev_iSeq, ev_itL, ev_itT, ev_Ran1, ev_Ran2, ev_Enu, ev_enu, ev_Zip, ev_zipL, ev_zipT, ev_Comp, ev_fix, ev_Yes, ev_wipe0, ev_wipe, ev_For, ev_forF, ev_endRt, ev_endNx, ev_endM, ev_lvT, ev_lvL, ev_lvI, ev_lvB, ev_lvS, ev_lvN, ev_lvD, ev_addI, ev_subI, ev_negI, ev_eqI, ev_neI, ev_eqB, ev_neB, ev_cmpI, ev_isN, ev_isNotN, ev_lenL, ev_lenT, ev_tupL, ev_tupT, ev_lstL, ev_lstT, ev_int, ev_intB, ev_abs, ev_min2, ev_max2, ev_ixL, ev_ixT, Out.bind_ok, bindN_ok, Option.bind_some, List.set_cons_zero, List.set_cons_succ, List.getElem?_cons_zero, List.getElem?_cons_succ, ev_mk0, ev_mk1, ev_mk2, ev_mk3, ev_mk4, ev_ck0, ev_ck, Nat.zero_le, nr_int, nr_bl, nr_str, nr_non, nr_tup, nr_lst, En.nr, noRefs_nil, noRefs_cons, Bool.not_false, Bool.and_self, Bool.and_true, Bool.true_and, List.length_cons, List.length_nil, Nat.reduceAdd, Nat.reduceLeDiff, take_self, take_app, take_set, if_true, if_false, Bool.false_eq_true, Bool.not_true, atI_0, atI_1, ev_tu2, ev_tu2w, ev_tu2L, ev_tu3, ev_tu4, ev_pick0, ev_pick, List.nil_append, List.cons_append, frz_last, lv_last, lv_lastD, isDct_last, isDct_aD, ev_AugN, ek_AugAdd, ek_AugSub, ev_AugS, ek_AugS1, ek_AugS3a, ek_AugS3s, ev_SortK, ek_SortK, ev_MulN, ek_MulN, ek_MulN2, ev_RgL, ev_RgT, ev_Comp2, ev_fix2, ev_AsgM, e1]) rfl, wp_ok]
      refine ⟨fun x hx => ?_, b2, rfl, hB2.mono (by simp; omega)⟩
      rcases List.mem_append.mp hx with h | h
      · exact hacc x h
      · simpa using h
    · rintro acc T ⟨hacc, b', rfl, hB⟩
      exact ⟨hacc, b', rfl⟩
  obtain ⟨acc, T, ec, hacc, b', rfl⟩ := gc
  have ha : gAll (S.set n b') [.lst acc] = some (.bl true) := all_true hacc
  simp -implicitDefEqProofs only [ev_Blk, ek_blkNx, ek_blkRt, ek_blkBk, ek_blkCt, frz_nil, frz_some, frz_none, frz_int, frz_bl, frz_str, frz_non, frz_tup, frz_lst, frz_set, frz_dct, ev_FzD, ev_MuD, ek_dctF, ek_dctM, ev_Emp, ev_CallD, ek_CallD, ev_optD, ev_Met, ek_Met, ek_Met2, isDct_dct, ev_RevA, ek_RevAL, ek_RevAT, ev_RevN, ek_Rev, ev_Star, ek_StarL, ek_StarT, ek_Star2, ev_ltI, ek_Op, ek_Op2, ek_Un, ek_AndT, ek_AndF, ek_OrT, ek_OrF, ek_Not, ek_IfT, ek_IfF, ek_Cons, ek_Cons2, ek_Fz, ek_Mu, ek_Call, ek_CallN, ek_AddN, ek_AddN2, ek_Sl, ek_Sl2, ek_Sl3, ek_SlN, ek_SlN2, ek_SlN3, ek_FnK, ek_FnK2, ek_Len, ek_Asg, ek_Ret, ek_SIfT, ek_SIfF, ek_Drop, ek_Set, ek_Set2, ek_Set3, ek_OrB, ek_OrBT, ek_OrBF, ek_AndB, ek_AndBT, ek_AndBF, ek_NotB, ek_NotB2, ev_App, ev_Pop, ev_opt, ev_C, ev_Var, ev_Op, ev_Un, ev_Test, ev_test, ev_AndT, ev_OrT, ev_NotT, ev_If, ev_Truth, ev_truB, ev_truI, ev_truL, ev_truT, ev_truN, ev_OrB, ev_AndB, ev_NotB, ev_Nil, ev_Cons, ev_Tup, ev_Chk, ev_Fz, ev_Mu, ev_Call, ev_CallN, ev_optL, ev_AddN, ev_Isi, ev_oNone, ev_oSome, ev_oInt, ev_Sl, ev_SlN, ev_Fn, ev_FnK, ev_Len, ev_sNil, ev_Seq, ev_nx, ev_rt, ev_bk, ev_ct, ev_Asg, ev_nxO, ev_gNm, ev_gsNil, ev_gsCons, ev_Ret, ev_RetN, ev_sIf, ev_Drop, ev_Brk, ev_Cnt, ev_Par, ev_par2, ev_par3, ev_SetIx, ev_stO, ev_iSeq, ev_itL, ev_itT, ev_Ran1, ev_Ran2, ev_Enu, ev_enu, ev_Zip, ev_zipL, ev_zipT, ev_Comp, ev_fix, ev_Yes, ev_wipe0, ev_wipe, ev_For, ev_forF, ev_endRt, ev_endNx, ev_endM, ev_lvT, ev_lvL, ev_lvI, ev_lvB, ev_lvS, ev_lvN, ev_lvD, ev_addI, ev_subI, ev_negI, ev_eqI, ev_neI, ev_eqB, ev_neB, ev_cmpI, ev_isN, ev_isNotN, ev_lenL, ev_lenT, ev_tupL, ev_tupT, ev_lstL, ev_lstT, ev_int, ev_intB, ev_abs, ev_min2, ev_max2, ev_ixL, ev_ixT, Out.bind_ok, bindN_ok, Option.bind_some, List.set_cons_zero, List.set_cons_succ, List.getElem?_cons_zero, List.getElem?_cons_succ, ev_mk0, ev_mk1, ev_mk2, ev_mk3, ev_mk4, ev_ck0, ev_ck, Nat.zero_le, nr_int, nr_bl, nr_str, nr_non, nr_tup, nr_lst, En.nr, noRefs_nil, noRefs_cons, Bool.not_false, Bool.and_self, Bool.and_true, Bool.true_and, List.length_cons, List.length_nil, Nat.reduceAdd, Nat.reduceLeDiff, take_self, take_app, take_set, if_true, if_false, Bool.false_eq_true, Bool.not_true, atI_0, atI_1, ev_tu2, ev_tu2w, ev_tu2L, ev_tu3, ev_tu4, ev_pick0, ev_pick, List.nil_append, List.cons_append, frz_last, lv_last, lv_lastD, isDct_last, isDct_aD, ev_AugN, ek_AugAdd, ek_AugSub, ev_AugS, ek_AugS1, ek_AugS3a, ek_AugS3s, ev_SortK, ek_SortK, ev_MulN, ek_MulN, ek_MulN2, ev_RgL, ev_RgT, ev_Comp2, ev_fix2, ev_AsgM, r8, ec, ha, wp_ok]
  exact ⟨b', trivial, rfl⟩
theorem Qhand : F__law_hand_right [] [] = .ok (.bl true) [] := by kernel_rfl
theorem law_true (ns : List Int) (h : ns.length ≤ 63) : ∃ S', F_law [.scr ns] [] = .ok (.bl true) S' :=
  law_of (H := F__law_hand_right) (R := F__law_right) (c := 2809) (m := 3) h (by decide) (by decide) (by decide) (by decide) Qhand fun n S b hb hx => right_ok hb hx
end Lw
namespace Lw
open PySem PySem.Spec PyProof.Rows L2 RZ Ws
abbrev R : PySem.W.OpenRow := PySem.W.OpenLaw.row PySem.Challenge.rw_windowscores_k86_pictures_that_fall_on_f
def fa : List He.Fa := fasOf defs blts
def fn : List He.DefD := fnsOf defs
abbrev hk : PySem.W.Hook := hookC 4 fa fn cst
def ob (s : PySem.W.SharedT) : AlC := obsCG 4 fa fn cst (HandSHeadRun.getT s)
theorem ob_eq (s : PySem.W.SharedT) : ob s = hk.obs s.abs := obsCG_eq (HandSHeadRun.getT_eq s)
def loose : List Str := "is_number" :: "tupled" :: "rises" :: "is_cell" :: "is_picture" :: "moved" :: "is_floor" :: "is_on" :: "fallen" :: "folded" :: "onto_itself" :: "laid" :: "_law_box" :: "_law_take" :: "_law_cells" :: "_law_of" :: "_law_pick" :: "_law_lists" :: "_law_same" :: "_law_grid" :: "_law_ink" :: "_law_rest" :: "_law_shift" :: "_law_least" :: "_law_things_right" :: "_law_hand_right" :: "_law_case_right" :: "_law_right" :: []
theorem run (w : World) : HandSHeadRun.RunEq R (PySem.W.view R.prog [32]) hk ob 1720 loose w := by
  intro os
  kernel_rfl
end Lw
open PySem PySem.W PySem.Calls PyProof.Rows in
theorem Lw.holds : PySem.Challenge.rw_windowscores_k86_pictures_that_fall_on_f.Holds := by
  w_on; o_law
  refine HandSHeadRun.head_any (r := OpenLaw.row PySem.Challenge.rw_windowscores_k86_pictures_that_fall_on_f) (q := view (OpenLaw.row PySem.Challenge.rw_windowscores_k86_pictures_that_fall_on_f).prog [32]) (H := Lw.hk) (ob := Lw.ob) (M := 1720) (loose := Lw.loose) (d := HandSHeadRun.topDef (OpenLaw.row PySem.Challenge.rw_windowscores_k86_pictures_that_fall_on_f).prog 32) (kwd := []) Lw.ob_eq
    (by kernel_rfl) (fun s => by kernel_rfl) Lw.run (by kernel_rfl) (by kernel_rfl) (by kernel_rfl) (by rfl) (by first | assumption | decide +kernel) (by decide +kernel) ⟨rfl, rfl, rfl, rfl, rfl, by decide +kernel⟩ ?hw ?hc
  case hw => w_witness2
  case hc =>
    refine L2.walk_ofE (l := PySem.Challenge.rw_windowscores_k86_pictures_that_fall_on_f) (n := 63) (k := 20) (x := "_law_script") (CX := L2.CX0) rfl (by decide) (by kernel_rfl) ⟨rfl, by decide, by decide⟩ ?F (fun _ _ _ _ z => z)
    intro w mg fa h Y G hmg0
    obtain ⟨K, KX, c⟩ := Y
    have hmg : mg ("law" : PySem.Str) = some (.ref fa) := by
      have e : (HandSHeadRun.topDef (OpenLaw.row PySem.Challenge.rw_windowscores_k86_pictures_that_fall_on_f).prog 32).name = ("law" : PySem.Str) := by kernel_rfl
      rw [← e]
      exact hmg0
    obtain ⟨fdd, T⟩ := Ws.top_mk KX G c
    have e := hmg.symm.trans (T.d 28 "law" Lw.st_law rfl).1
    cases e
    exact ⟨K, fdd 28, Ws.spD w K Lw.F_law, KX, fun s v => Lw.ba_law T s [v] rfl, fun H a ns hl hO hS => Ws.sp_end hO hS (Nat.le_trans hl (by decide)) (Lw.law_true ns hl), fun base _ _ => Lw.G_law T⟩
theorem PySem.Challenge.cw_windowscores_k86_pictures_that_fall_on_f_holds : PySem.Challenge.rw_windowscores_k86_pictures_that_fall_on_f.Holds :=
  Lw.holds
