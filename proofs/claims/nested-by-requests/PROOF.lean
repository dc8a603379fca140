import PyProof.Rows.All
import Wide.All
import OpenK.AllK
import Wide.FinOn
import HandS.TupSets
import HandS.ForMost
import HandS.IsInst
import HandS.Conv
import HandS.TupAny
import HandS.TupMul
import HandS.RaiseMore
import HandS.TupLe
import HandS.Style
import HandS.SortInts
import KE.KIndexOf
import KE.DataMinMax
import KE.SortData
import PyProof.TupleOfSeq
import KE.KDictWalk
import KE.KeyNested
import KE.KDictKeyed
import KE.KDictDisplayH
import HandS.Nested
import HandS.EndTab
import HandS.NestedK
import HandS.Iter
import KE.KDictSum
import KE.KDictCopyH
import HandS.SetFor
import KE.DataEq
import HandS.DictComp
import HandS.Wide
import KE.KNestM
import PySem.Challenge.RW_goesout_k32_whole_nested_by_all_requests
set_option Elab.async false
-- part DT0
set_option linter.all false
set_option maxRecDepth 100000
/-! the round of i -> 5 i + 1 among 2 ^ n slots, any n. -/
namespace DL
open PySem PySem.Spec PyProof.Rows L2
/-- (5 ^ k - 1) / 4 -/
def fS : Nat → Nat
  | 0 => 0
  | k + 1 => 5 * fS k + 1
theorem fS_pow : ∀ k, 4 * fS k + 1 = 5 ^ k
  | 0 => rfl
  | k + 1 => by
    have := fS_pow k
    show 4 * (5 * fS k + 1) + 1 = 5 ^ (k + 1)
    rw [Nat.pow_succ]
    omega
theorem fS_add (a : Nat) : ∀ d, fS (a + d) = (2 * (2 * fS a) + 1) * fS d + fS a
  | 0 => by simp [fS]
  | d + 1 => by
    show 5 * fS (a + d) + 1 = (2 * (2 * fS a) + 1) * (5 * fS d + 1) + fS a
    rw [fS_add a d, Nat.mul_add, Nat.mul_add, Nat.mul_left_comm]
    omega
theorem fS_two (e : Nat) : fS (2 * e) = 2 * (fS e * (2 * fS e + 1)) := by
  rw [show 2 * e = e + e by omega, fS_add]
  have h1 : (2 * (2 * fS e) + 1) * fS e = 4 * (fS e * fS e) + fS e := by
    rw [Nat.add_mul, Nat.one_mul, Nat.mul_assoc, Nat.mul_assoc]
    omega
  have h2 : fS e * (2 * fS e + 1) = 2 * (fS e * fS e) + fS e := by
    rw [Nat.mul_add, Nat.mul_one, Nat.mul_left_comm]
  rw [h1, h2]
  omega
theorem fS_par : ∀ k, fS k % 2 = k % 2
  | 0 => rfl
  | k + 1 => by
    have := fS_par k
    show (5 * fS k + 1) % 2 = (k + 1) % 2
    omega
theorem odd_dvd (b : Nat) : ∀ (n a : Nat), 2 ^ n ∣ a * (2 * b + 1) → 2 ^ n ∣ a
  | 0, a, _ => ⟨a, by simp⟩
  | n + 1, a, ⟨c, h⟩ => by
    have h0 : a * (2 * b + 1) = 2 * (a * b) + a := by rw [Nat.mul_add, Nat.mul_one, Nat.mul_left_comm]
    have h1 : 2 ^ (n + 1) * c = 2 * (2 ^ n * c) := by rw [Nat.pow_succ, Nat.mul_comm (2 ^ n) 2, Nat.mul_assoc]
    obtain ⟨a', rfl⟩ : ∃ a', a = 2 * a' := ⟨a / 2, by rw [h0, h1] at h; omega⟩
    have h2 : 2 * a' * (2 * b + 1) = 2 * (a' * (2 * b + 1)) := Nat.mul_assoc _ _ _
    obtain ⟨d, e⟩ := odd_dvd b n a' ⟨c, by rw [h1, h2] at h; omega⟩
    exact ⟨d, by rw [e, Nat.pow_succ, Nat.mul_comm (2 ^ n) 2, Nat.mul_assoc]⟩
theorem fS_dvd : ∀ (n d : Nat), 2 ^ n ∣ fS d → 2 ^ n ∣ d
  | 0, d, _ => ⟨d, by simp⟩
  | n + 1, d, h => by
    have he : fS d % 2 = 0 := by
      obtain ⟨c, e⟩ := h
      rw [e, Nat.pow_succ, Nat.mul_comm (2 ^ n) 2, Nat.mul_assoc]
      omega
    rw [fS_par] at he
    obtain ⟨e, rfl⟩ : ∃ e, d = 2 * e := ⟨d / 2, by omega⟩
    rw [fS_two] at h
    obtain ⟨c, hc⟩ := h
    have h1 : 2 ^ (n + 1) * c = 2 * (2 ^ n * c) := by rw [Nat.pow_succ, Nat.mul_comm (2 ^ n) 2, Nat.mul_assoc]
    obtain ⟨x, hx⟩ := fS_dvd n e (odd_dvd (fS e) n (fS e) ⟨c, by rw [h1] at hc; omega⟩)
    exact ⟨x, by rw [hx, Nat.pow_succ, Nat.mul_comm (2 ^ n) 2, Nat.mul_assoc]⟩
theorem dvd_fS : ∀ n, 2 ^ n ∣ fS (2 ^ n)
  | 0 => ⟨1, rfl⟩
  | n + 1 => by
    obtain ⟨c, e⟩ := dvd_fS n
    rw [show 2 ^ (n + 1) = 2 * 2 ^ n by rw [Nat.pow_succ]; omega, fS_two]
    exact ⟨c * (2 * fS (2 ^ n) + 1), by
      rw [Nat.mul_assoc, ← Nat.mul_assoc (2 ^ n) c, ← e]⟩
/-- the masks: 2 ^ n - 1 -/
def Msk (m : Nat) : Prop := ∃ n, m + 1 = 2 ^ n ∧ 1 ≤ n
theorem lcg_fS (m : Nat) : ∀ k, lcgN m k = fS k % (m + 1)
  | 0 => by show 0 = 0 % (m + 1); simp
  | k + 1 => by
    show (lcgN m k * 5 + 1) % (m + 1) = (5 * fS k + 1) % (m + 1)
    rw [lcg_fS m k, Nat.add_mod, Nat.mul_mod, Nat.mod_mod, ← Nat.mul_mod, ← Nat.add_mod, Nat.mul_comm]
theorem lcg_inj {m : Nat} (hm : Msk m) {i d : Nat} (h : lcgN m i = lcgN m (i + d)) : (m + 1) ∣ d := by
  obtain ⟨n, e, _⟩ := hm
  rw [lcg_fS, lcg_fS, fS_add] at h
  have : (m + 1) ∣ (2 * (2 * fS i) + 1) * fS d := by
    refine (Nat.dvd_iff_mod_eq_zero ..).mpr ?_
    have := Nat.sub_mod_eq_zero_of_mod_eq h.symm
    rw [Nat.add_sub_cancel] at this
    exact this
  rw [e] at this ⊢
  rw [Nat.mul_comm] at this
  exact fS_dvd _ _ (odd_dvd _ _ _ this)
theorem lcgAll {m : Nat} (hm : Msk m) {j : Nat} (hj : j ≤ m) : ∃ b, b ≤ m ∧ lcgN m b = j := by
  rcases Classical.em (∃ b, b ≤ m ∧ lcgN m b = j) with c | c
  · exact c
  exfalso
  have nd : (j :: (List.range (m + 1)).map (lcgN m)).Nodup := by
    refine List.nodup_cons.mpr ⟨fun h => ?_, ?_⟩
    · obtain ⟨b, hb, e⟩ := List.mem_map.mp h
      exact c ⟨b, Nat.le_of_lt_succ (List.mem_range.mp hb), e⟩
    · refine List.pairwise_map.mpr (List.Pairwise.imp_of_mem (fun {a b} ha hb hlt he => ?_) List.pairwise_lt_range)
      have hb := List.mem_range.mp hb
      obtain ⟨d, rfl⟩ : ∃ d, b = a + d := ⟨b - a, by omega⟩
      have := Nat.le_of_dvd (by omega) (lcg_inj hm he)
      omega
  have := nat_nodup_len _ (List.range (m + 1)) nd fun x hx => by
    rcases List.mem_cons.mp hx with e | hx
    · rw [e]
      exact List.mem_range.mpr (by omega)
    · obtain ⟨b, _, e⟩ := List.mem_map.mp hx
      rw [← e, lcg_fS]
      exact List.mem_range.mpr (Nat.mod_lt _ (Nat.succ_pos _))
  rw [List.length_cons, List.length_map, List.length_range] at this
  omega
theorem lcgRound {m : Nat} (hm : Msk m) : lcgN m (m + 1) = 0 := by
  obtain ⟨n, e, _⟩ := hm
  rw [lcg_fS, e]
  exact Nat.mod_eq_zero_of_dvd (dvd_fS n)
theorem lcgN_mod' {m : Nat} (hm : Msk m) : ∀ k, lcgN m (m + 1 + k) = lcgN m k
  | 0 => lcgRound hm
  | k + 1 => by
    show (lcgN m (m + 1 + k) * 5 + 1) % (m + 1) = (lcgN m k * 5 + 1) % (m + 1)
    rw [lcgN_mod' hm k]
theorem lcgI_all' {m : Nat} (hm : Msk m) {i j : Nat} (hi : i ≤ m) (hj : j ≤ m) : ∃ k, k ≤ m ∧ lcgI m i k = j := by
  obtain ⟨a, ha, ea⟩ := lcgAll hm hi
  obtain ⟨b, hb, eb⟩ := lcgAll hm hj
  rw [← ea]
  rcases Nat.lt_or_ge b a with c | c
  · refine ⟨b + (m + 1) - a, by omega, ?_⟩
    rw [lcgN_add, show a + (b + (m + 1) - a) = m + 1 + b by omega, lcgN_mod' hm, eb]
  · refine ⟨b - a, by omega, ?_⟩
    rw [lcgN_add, show a + (b - a) = b by omega, eb]
theorem runMeets {m : Nat} (hm : Msk m) (h : Int) {j : Nat} (hj : j ≤ m) : ∃ n, n ≤ m + 12 ∧ runI m (SetTable.bits h) n = j := by
  obtain ⟨k, hk, e⟩ := lcgI_all' hm (runI_le m (SetTable.bits h) 12) hj
  exact ⟨12 + k, by omega, by rw [runI_tail (bits_lt h)]; exact e⟩
theorem nthMeets {m : Nat} (hm : Msk m) (h : Int) {j : Nat} (hj : j ≤ m) : ∃ k, k < 10 * SetTable.turns m ∧ (nth m (runAt m (SetTable.bits h % (m + 1)) (SetTable.bits h)) k).j = j := by
  obtain ⟨n, hn, e⟩ := runMeets hm h hj
  obtain ⟨k, hk, e2⟩ := run_nth m (SetTable.bits h) n
  exact ⟨k, by unfold SetTable.turns; omega, by rw [e2]; exact e⟩
theorem msk_odd {m : Nat} (h : Msk m) : m % 2 = 1 := by
  obtain ⟨n, e, hn⟩ := h
  obtain ⟨k, rfl⟩ : ∃ k, n = k + 1 := ⟨n - 1, by omega⟩
  rw [Nat.pow_succ] at e
  omega
end DL
-- part SN1
set_option linter.all false
set_option maxRecDepth 100000
/-! A set's table of any mask, told by pairs (hash, slot): each slot is come to through taken slots alone. -/
namespace DL
open PySem PySem.Spec PyProof.Rows L2
/-- the probe of h comes to slot j, all slots ahead of it being taken ones -/
def Comes (m : Nat) (sl : List Nat) (h : Int) (j : Nat) : Prop := ∃ k, way m h k = j ∧ ∀ i < k, way m h i ∈ sl
theorem Comes.mono {m : Nat} {sl sl' : List Nat} {h : Int} {j : Nat} (c : Comes m sl h j) (s : ∀ x ∈ sl, x ∈ sl') : Comes m sl' h j := c.imp fun _ q => ⟨q.1, fun i hi => s _ (q.2 i hi)⟩
theorem way_in (m : Nat) (h : Int) (k : Nat) : way m h k ≤ m := by
  have b := Nat.le_of_lt_succ (Nat.mod_lt (SetTable.bits h) (Nat.zero_lt_succ m))
  have e := runEnd_bd b
  exact Nat.le_trans (Nat.le_add_right _ _) (nth_in k (runAt m _ _) (Nat.le_trans (Nat.le_of_eq (Nat.add_sub_cancel' e.2.1)) e.1))
/-- fewer taken slots than slots: some probe is free, the first such is come to -/
theorem gap_of {m : Nat} (hm : Msk m) {sl : List Nat} (hl : sl.length ≤ m) (h : Int) : ∃ K, K < 10 * SetTable.turns m ∧ way m h K ∉ sl ∧ ∀ i < K, way m h i ∈ sl := by
  obtain ⟨j, jm, jn⟩ := st_missing sl (m + 1) (Nat.lt_succ_of_le hl)
  obtain ⟨k, kb, ke⟩ := nthMeets hm h (Nat.le_of_lt_succ jm)
  obtain ⟨K, le, out, ins⟩ := st_least (p := fun i => way m h i ∉ sl) k (fun z => jn (ke ▸ z))
  exact ⟨K, Nat.lt_of_le_of_lt le kb, out, fun i hi => Classical.not_not.mp (ins i hi)⟩
structure TabN (t : SetTable) (hs : List Int) : Prop where
  mok : Msk t.mask
  ris : Ris t.place.toList
  dm : t.dummies = #[]
  len : t.place.toList.length = hs.length
  low : ∀ x ∈ t.place.toList, x ≤ t.mask
  come : ∀ q ∈ hs.zip t.place.toList, Comes t.mask t.place.toList q.1 q.2
section
variable {t : SetTable} {hs : List Int}
theorem TabN.sz (T : TabN t hs) : t.place.size = hs.length := T.len
theorem TabN.gap (T : TabN t hs) (hl : hs.length ≤ t.mask) (h : Int) : ∃ K, K < 10 * SetTable.turns t.mask ∧ way t.mask h K ∉ t.place.toList ∧ ∀ i < K, way t.mask h i ∈ t.place.toList := gap_of T.mok (T.len ▸ hl) h
/-- an entry of this hash is met ahead of the first free slot -/
theorem TabN.early (T : TabN t hs) {h : Int} {K i j : Nat} (out : way t.mask h K ∉ t.place.toList) (hi : hs[i]? = some h) (hj : t.place.toList[i]? = some j) : ∃ k < K, way t.mask h k = j := by
  obtain ⟨k, e, ins⟩ := T.come (h, j) (List.mem_of_getElem? (i := i) (by rw [List.getElem?_zip_eq_some]; exact ⟨hi, hj⟩))
  refine ⟨k, Nat.lt_of_not_le fun z => ?_, e⟩
  rcases Nat.lt_or_eq_of_le z with z | z
  · exact out (ins K z)
  · rw [z] at out
    exact out (e ▸ List.mem_of_getElem? hj)
theorem TabN.add (T : TabN t hs) {h : Int} {K : Nat} (out : way t.mask h K ∉ t.place.toList) (ins : ∀ i < K, way t.mask h i ∈ t.place.toList) :
    SetTable.below t.place (way t.mask h K) ≤ hs.length ∧ TabN (t.put (way t.mask h K)).1 (hs.take (SetTable.below t.place (way t.mask h K)) ++ h :: hs.drop (SetTable.below t.place (way t.mask h K))) := by
  have low := way_in t.mask h K
  have me : Comes t.mask t.place.toList h (way t.mask h K) := ⟨K, rfl, ins⟩
  generalize way t.mask h K = j at out low me ⊢
  have cut := (below_cut T.ris j).1
  have pl := put_place t j
  have up : Ris (t.put j).1.place.toList := ris_insert T.ris fun e => out (List.mem_of_getElem? (Array.getElem?_toList ▸ e))
  generalize SetTable.below t.place j = p at cut pl up ⊢
  have cut : p ≤ t.place.toList.length := cut
  have pn : p ≤ hs.length := T.len ▸ cut
  have eq : ∀ x, x ∈ (t.put j).1.place.toList ↔ x = j ∨ x ∈ t.place.toList := fun x => by rw [pl]; exact mem_ins
  refine ⟨pn, T.mok, up, put_dm T.dm j, ?_, fun x hx => ?_, fun q hq => ?_⟩
  · rw [pl, len_ins _ cut, len_ins _ pn, T.len]
  · rcases (eq x).mp hx with rfl | z
    · exact low
    · exact T.low x z
  · have cutz : hs.zip t.place.toList = (hs.take p ++ hs.drop p).zip (t.place.toList.take p ++ t.place.toList.drop p) := by rw [List.take_append_drop, List.take_append_drop]
    rw [List.zip_append (by simp [T.len])] at cutz
    rw [pl, List.zip_append (by simp [T.len]), List.zip_cons_cons] at hq
    have old : q ∈ hs.zip t.place.toList → Comes t.mask (t.put j).1.place.toList q.1 q.2 := fun z => (T.come q z).mono fun x hx => (eq x).mpr (.inr hx)
    rcases List.mem_append.mp hq with z | z
    · exact old (cutz ▸ List.mem_append_left _ z)
    rcases List.mem_cons.mp z with rfl | z
    · exact me.mono fun x hx => (eq x).mpr (.inr hx)
    · exact old (cutz ▸ List.mem_append_right _ z)
end
/-! ### laid anew -/
/-- the owners of the slots once the hashes of done are laid: sl tells their slots, in this order -/
structure Laid (m : Nat) (done : List Int) (owner : Array (Option Nat)) (sl : List Nat) : Prop where
  size : owner.size = m + 1
  len : sl.length = done.length
  ans : ∀ j k, j ≤ m → (oAt owner j = some k ↔ sl[k]? = some j)
  low : ∀ j ∈ sl, j ≤ m
  come : ∀ q ∈ done.zip sl, Comes m sl q.1 q.2
section
variable {m : Nat} {owner : Array (Option Nat)} {done : List Int} {sl : List Nat}
theorem Laid.free (W : Laid m done owner sl) {j : Nat} (hj : j ≤ m) : oAt owner j = none ↔ j ∉ sl := by
  constructor
  · intro e z
    obtain ⟨k, hk⟩ := List.mem_iff_getElem?.mp z
    rw [(W.ans j k hj).mpr hk] at e
    cases e
  · intro z
    cases e : oAt owner j with
    | none => rfl
    | some k => exact absurd (List.mem_of_getElem? ((W.ans j k hj).mp e)) z
theorem Laid.nil (m : Nat) : Laid m [] (Array.replicate (m + 1) none) [] := by
  refine ⟨Array.size_replicate, rfl, fun j k hj => ?_, fun j z => (nomatch z), fun q z => (nomatch z)⟩
  rw [oAt_init hj]
  simp
theorem Laid.next (hm : Msk m) (W : Laid m done owner sl) (hl : done.length ≤ m) (h : Int) :
    ∃ j, SetTable.layClean.free m owner (SetTable.turns m) (SetTable.bits h % (m + 1)) (SetTable.bits h) = some j ∧ Laid m (done ++ [h]) (owner.setIfInBounds j (some done.length)) (sl ++ [j]) := by
  have room : sl.length ≤ m := W.len ▸ hl
  have tf : ∀ i, oAt owner (way m h i) = none ↔ way m h i ∉ sl := fun i => W.free (way_in m h i)
  -- the first free slot of the probe lies within the turns that are looked at
  obtain ⟨j0, l0, f0⟩ := st_missing sl (m + 1) (Nat.lt_succ_of_le room)
  obtain ⟨n, nb, ne⟩ := runMeets hm h (Nat.le_of_lt_succ l0)
  have at0 : way m h (off m (SetTable.bits h % (m + 1)) (SetTable.bits h) n) = j0 := by
    unfold way
    rw [nth_off, itL_run]
    exact ne
  obtain ⟨K, Kb, Kout, Kin⟩ := st_least (p := fun i => way m h i ∉ sl) _ (at0.symm ▸ f0)
  have Kin : ∀ i < K, way m h i ∈ sl := fun i hi => Classical.not_not.mp (Kin i hi)
  have fr := free_spec m owner (SetTable.turns m) n _ _ K (Nat.lt_of_le_of_lt nb (by unfold SetTable.turns; omega)) Kb (fun i hi => by
    have q := fun z => (tf i).mp z (Kin i hi)
    show (oAt owner (way m h i)).isNone = false
    cases e : oAt owner (way m h i) with
    | none => exact absurd e q
    | some _ => rfl) (by rw [show oAt owner _ = none from (tf K).mpr Kout]; rfl)
  refine ⟨way m h K, fr, ?_⟩
  have jm := way_in m h K
  have me : Comes m sl h (way m h K) := ⟨K, rfl, Kin⟩
  generalize way m h K = j at Kout jm me
  refine ⟨by rw [Array.size_setIfInBounds, W.size], by rw [List.length_append, List.length_append, W.len]; rfl, fun i k hi => ?_, fun i z => ?_, fun q z => ?_⟩
  · rw [← W.len]
    by_cases c : i = j
    · subst c
      rw [oAt_set_self _ (W.size ▸ Nat.lt_succ_of_le hi)]
      constructor
      · intro e
        rw [← Option.some.inj e]
        simp
      · intro e
        rcases Nat.lt_trichotomy k sl.length with z | z | z
        · rw [List.getElem?_append_left z] at e
          exact absurd (List.mem_of_getElem? e) Kout
        · rw [z]
        · rw [List.getElem?_eq_none (by simp; omega)] at e
          cases e
    · rw [oAt_set_ne _ c, W.ans i k hi]
      rcases Nat.lt_trichotomy k sl.length with z | z | z
      · rw [List.getElem?_append_left z]
      · subst z
        simp [Ne.symm c]
      · rw [List.getElem?_eq_none (by omega), List.getElem?_eq_none (by simp; omega)]
  · rcases List.mem_append.mp z with z | z
    · exact W.low i z
    · exact List.mem_singleton.mp z ▸ jm
  · rw [List.zip_append W.len.symm] at z
    have more : ∀ x ∈ sl, x ∈ sl ++ [j] := fun x hx => List.mem_append_left _ hx
    rcases List.mem_append.mp z with z | z
    · exact (W.come q z).mono more
    · rw [List.mem_singleton.mp z]
      exact me.mono more
theorem Laid.all (hm : Msk m) : ∀ (rest done : List Int) (owner : Array (Option Nat)) (sl : List Nat), Laid m done owner sl → done.length + rest.length ≤ m → ∃ o s n, rest.foldl (stepF m) (some (owner, done.length)) = some (o, n) ∧ Laid m (done ++ rest) o s := by
  intro rest
  induction rest with
  | nil => exact fun done owner sl W _ => ⟨owner, sl, _, rfl, by rw [List.append_nil]; exact W⟩
  | cons h rest ih =>
    intro done owner sl W hl
    have hl : done.length + (rest.length + 1) ≤ m := hl
    obtain ⟨j, e, W1⟩ := W.next hm (by omega) h
    obtain ⟨o, s, n, f, W2⟩ := ih (done ++ [h]) _ _ W1 (by rw [List.length_append]; show done.length + 1 + _ ≤ m; omega)
    refine ⟨o, s, n, ?_, by rw [List.append_assoc] at W2; exact W2⟩
    rw [List.length_append] at f
    rw [List.foldl_cons, stepF_some e]
    exact f
end
/-- a table laid anew: its order, its pairs -/
theorem relaid_fine (t : SetTable) {hs : Array Int} {wanted M : Nat} (hw : SetTable.sizeAbove wanted - 1 = M) (hM : Msk M) (hn : hs.size ≤ M) :
    ∃ t' order, t.relaid hs wanted = some (t', order) ∧ order.toList.Perm (List.range hs.size) ∧ TabN t' (order.toList.map fun i => hs.getD i 0) ∧ t'.mask = M ∧ t'.led = t.led ∧ t'.plain = t.plain ∧ t'.dummies = #[] := by
  obtain ⟨owner, sl, n, f, W⟩ := Laid.all hM hs.toList [] _ _ (Laid.nil M) (by show 0 + hs.size ≤ M; omega)
  rw [List.nil_append] at W
  have lc : SetTable.layClean M hs = some owner := by
    rw [layClean_eq, show (0 : Nat) = ([] : List Int).length from rfl, f]
    rfl
  have hsl : sl.length = hs.size := W.len
  have live : ∀ j k, (j, k) ∈ liveOf M owner ↔ j ≤ M ∧ sl[k]? = some j := fun j k => by
    rw [mem_live W.size]
    exact and_congr_right fun hj => W.ans j k hj
  have live2 : ∀ j k, sl[k]? = some j → (j, k) ∈ liveOf M owner := fun j k e => (live j k).mpr ⟨W.low j (List.mem_of_getElem? e), e⟩
  obtain ⟨up, inr⟩ := ris_live (fun j => owner.getD j none) (List.range (M + 1)) List.pairwise_lt_range
  have up : Ris ((liveOf M owner).map (·.1)) := up
  have ndp : (liveOf M owner).Pairwise fun p q => p.1 ≠ q.1 := List.pairwise_map.mp (up.imp Nat.ne_of_lt)
  have ndk : ((liveOf M owner).map (·.2)).Nodup := List.pairwise_map.mpr (ndp.imp_of_mem fun {p q} hp hq ne e => ne (by
    have a := ((live p.1 p.2).mp hp).2
    rw [e, ((live q.1 q.2).mp hq).2] at a
    exact (Option.some.inj a).symm))
  have perm : ((liveOf M owner).map (·.2)).Perm (List.range hs.size) := (List.perm_ext_iff_of_nodup ndk List.nodup_range).mpr fun k => by
    rw [List.mem_range, ← hsl]
    constructor
    · intro z
      obtain ⟨p, hp, rfl⟩ := List.mem_map.mp z
      exact (List.getElem?_eq_some_iff.mp ((live p.1 p.2).mp hp).2).1
    · exact fun z => List.mem_map.mpr ⟨(sl[k], k), live2 _ _ (List.getElem?_eq_getElem z), rfl⟩
  refine ⟨tabOf t M owner, ((liveOf M owner).map (·.2)).toArray, ?_, perm, ⟨hM, up, rfl, ?_, fun x hx => ?_, fun q hq => ?_⟩, rfl, rfl, rfl, rfl⟩
  · rw [relaid_eq, hw, lc]
    rfl
  · show ((liveOf M owner).map (·.1)).length = (((liveOf M owner).map (·.2)).map _).length
    simp
  · exact Nat.le_of_lt_succ (List.mem_range.mp (inr x hx))
  · have hq : q ∈ ((((liveOf M owner).map (·.2)).map fun i => hs.getD i 0)).zip ((liveOf M owner).map (·.1)) := hq
    rw [List.map_map, List.zip_map'] at hq
    obtain ⟨p, hp, rfl⟩ := List.mem_map.mp hq
    obtain ⟨_, e⟩ := (live p.1 p.2).mp hp
    have lt : p.2 < hs.toList.length := by
      have := (List.getElem?_eq_some_iff.mp e).1
      rw [hsl] at this
      exact this
    have c := W.come (hs.toList[p.2], p.1) (List.mem_of_getElem? (i := p.2) (by rw [List.getElem?_zip_eq_some]; exact ⟨List.getElem?_eq_getElem lt, e⟩))
    have eh : hs.getD p.2 0 = hs.toList[p.2] := by
      rw [Array.getD_eq_getD_getElem?, ← Array.getElem?_toList, List.getElem?_eq_getElem lt]
      rfl
    show Comes M ((liveOf M owner).map (·.1)) (hs.getD p.2 0) p.1
    rw [eh]
    exact c.mono fun x hx => by
      obtain ⟨k, hk⟩ := List.mem_iff_getElem?.mp hx
      exact List.mem_map.mpr ⟨(x, k), live2 x k hk, rfl⟩
end DL
-- part DL0
set_option linter.all false
set_option maxRecDepth 100000
set_option maxHeartbeats 4000000
/-! New tuples with their objects: their methods may be called. -/
namespace DL
open PySem PySem.Spec PyProof.Rows L2
/-- at a stands a plain tuple -/
def RdT (H : Hp) (a : Addr) (xs : List V) : Prop := ∃ o : Obj, H a = some (.frz o (.tup xs)) ∧ o.dict = none
theorem RdT.sqt {K : PySem.W.Frag} {H : Hp} {a : Addr} {xs : List V} (h : RdT H a xs) : SqT K H a xs := let ⟨o, e, _⟩ := h; .inl (.inr ⟨o, e⟩)
theorem RdT.mono {H H' : Hp} {a : Addr} {xs : List V} (h : RdT H a xs) (s : Same H H') : RdT H' a xs := let ⟨o, e, d⟩ := h; ⟨o, s _ _ e, d⟩
theorem RdT.keep {H H' : Hp} {a : Addr} {xs : List V} (h : RdT H a xs) (s : ∀ o, H a = some o → H' a = some o) : RdT H' a xs := let ⟨o, e, d⟩ := h; ⟨o, s _ e, d⟩
theorem RdT.new {H : Hp} {p : Addr} {o : Obj} {xs : List V} (d : o.dict = none) : RdT (upd H p (.frz o (.tup xs))) p xs := ⟨o, upd_same, d⟩
/-- what a new tuple at p gives -/
def NewT (H : Hp) (xs : List V) (Q : VK) : Prop := ∀ (p : Addr) (o : Obj), H p = none → o.dict = none → Q (.ref p) (upd H p (.frz o (.tup xs)))
section
variable {X : Cx} {es : List Expr} {t : TA} {pos : Pos}
theorem frz_new {P : Program} {w : World} {H' : Hp} {h : Heap} {xs : List V} {its : List Value} (hz : xs.length ≤ sizeLine) (r : Vals xs its) : ObjOk P w H' (h.push { cls := .type "tuple", data := .seq its.toArray }) h.objs.size (.frz { cls := .type "tuple", data := .seq its.toArray } (.tup xs)) :=
  ⟨Heap.get?_push_size _ rfl, hz, its, r, IsTup.new _ _⟩
theorem NewT.go {pins : List (Addr × Obj)} {σ : L2.St} {H : Hp} {s : Shared} {xs : List V} {its : List Value} {Q : VK} (q : NewT H xs Q) (I : Inv X pins σ H s) (hz : xs.length ≤ sizeLine) (r : Vals xs its) :
    EP X pins σ Q (.ref s.heap.objs.size) { s with heap := s.heap.push { cls := .type "tuple", data := .seq its.toArray } } :=
  ⟨.ref s.heap.objs.size, _, I.laid (t' := s.toks) (o := .frz { cls := .type "tuple", data := .seq its.toArray } (.tup xs)) (fun b ob q => Heap.get?_push_of_some _ q) (Nat.le_refl _) (frz_new hz r), rfl, q _ _ (I.hok.fresh (Nat.le_refl _)) rfl⟩
/-- (a, b) -/
def tTupF (t : TA) : TE := fun σ H Q => t σ H fun xs H1 => xs.length ≤ sizeLine ∧ NewT H1 xs Q
theorem pe_tupF {x1} (h : PA X es t) : PE X (.Tuple es x1 pos) (tTupF t) := by
  refine ⟨fun pins s σ H Q I hq => ?_⟩
  refine wpAny_Tuple_spliced (thn (h.run pos pins s σ H _ I hq) fun us s1 ⟨xs, H1, I1, r, z, q⟩ => ⟨by rw [← r.length]; exact z, q.go I1 z r⟩)
/-- tuple(list) -/
def rTupF (K : PySem.W.Frag) : List V → Hp → VK → Prop := fun xs H Q => ∃ p ys, xs = [.ref p] ∧ SqL K H p ys ∧ NewT H ys Q
theorem call_tupF : CallR X (.type "tuple") (rTupF X.K) := by
  intro pins s σ H xs us Q I r h
  obtain ⟨p, ys, rfl, hq, q⟩ := h
  obtain ⟨u, rfl, rx⟩ := vals1 r
  cases rx
  obtain ⟨its, r', pl, hz⟩ := I.list hq
  have hlen := r'.length
  refine call_tuple_list pl.isList (fun h' kp => ?_) (by simp only [List.size_toArray] <;> omega)
  have I1 : Inv X pins σ H { s with heap := h' } := I.kept (t' := s.toks) kp
  exact q.go I1 hz r'
/-- t + u -/
def rCatF (K : PySem.W.Frag) : R2 := fun x y H Q => ∃ a b xs ys, x = .ref a ∧ y = .ref b ∧ SqT K H a xs ∧ SqT K H b ys ∧ xs.length + ys.length ≤ sizeLine ∧
  (xs = [] → Q (.ref b) H) ∧ (xs ≠ [] → ys = [] → Q (.ref a) H) ∧ (xs ≠ [] → ys ≠ [] → NewT H (xs ++ ys) Q)
theorem op_catF : OpR X (binaryOp .Add) (rCatF X.K) := by
  intro pins s σ H x y v u Q I rx ry h
  obtain ⟨a, b, xs, ys, rfl, rfl, ha, hb, hz, q0, q1, q2⟩ := h
  cases rx
  cases ry
  obtain ⟨its, r1, p1, _⟩ := I.tuple ha
  obtain ⟨its2, r2, p2, _⟩ := I.tuple hb
  by_cases hx : xs = []
  · subst hx
    cases r1
    exact cat_tup0 p1 p2 ⟨.ref b, H, I, rfl, q0 rfl⟩
  · refine HT.cat_tup p1 p2 (fun z => hx (r1.nil_iff.mp z)) (fun z => ⟨.ref a, H, I, rfl, q1 hx (r2.nil_iff.mp z)⟩) (fun z => ?_) (by rw [← r1.length, ← r2.length]; exact hz)
    exact (q2 hx fun w => z (r2.nil_iff.mpr w)).go I (by rw [List.length_append]; exact hz) (r1.append r2)
/-- t[lo:hi] -/
def rSlF (K : PySem.W.Frag) : V → Option Int → Option Int → Hp → VK → Prop := fun x lo hi H Q => ∃ a xs, x = .ref a ∧ SqT K H a xs ∧
  (HT.sIx xs.length 0 lo = 0 ∧ HT.sIx xs.length xs.length hi = xs.length → Q (.ref a) H) ∧ (¬ (HT.sIx xs.length 0 lo = 0 ∧ HT.sIx xs.length xs.length hi = xs.length) → NewT H (cutV xs lo hi) Q)
theorem sl_tupF : SlR X (rSlF X.K) := by
  intro pins s σ H x v vl vu lo hi sl Q I rx hs pl pu h
  obtain ⟨a, xs, rfl, hx, q1, q2⟩ := h
  cases rx
  obtain ⟨its, r, ht, hz⟩ := I.tuple hx
  have hlen : its.toArray.size = xs.length := by rw [List.size_toArray]; exact r.length.symm
  refine ⟨"tuple", _, PyProof.Rows.slot_tuple_getitem.lookup, ht.typeIs, ?_⟩
  by_cases hw : HT.sIx xs.length 0 lo = 0 ∧ HT.sIx xs.length xs.length hi = xs.length
  · exact getItem_tuple_whole ht hs pl pu (by rw [hlen]; exact hw) ⟨.ref a, H, I, rfl, q1 hw⟩
  · refine HT.getItem_tuple_cut ht hs pl pu (by rw [hlen]; exact hw) ?_ (by rw [hlen]; exact hz)
    rw [hlen]
    exact (q2 hw).go I (Nat.le_trans (cutV_length xs lo hi) hz) ((r.drop (HT.sIx xs.length 0 lo)).take (HT.sIx xs.length xs.length hi - HT.sIx xs.length 0 lo))
/-- tuple(range(..)) -/
def tTupRgF (te : L2.St → Hp → (Int → Int → Hp → Prop) → Prop) : TE := fun σ H Q => te σ H fun a b H1 => RgOk a b ∧ NewT H1 (rgV a b) Q
theorem pe_tupRgF {e : Expr} {te : L2.St → Hp → (Int → Int → Hp → Prop) → Prop} {p pos : Pos} (hc : X.calm = true) (hg : Gl X "tuple") (hm : X.mg "tuple" = none) (he : PRg X e te) (na : starEach [e] X.env = (false, eval e X.env) :: starEach [] X.env := by rfl) : PE X (.Call (.Name "tuple" p) [e] [] pos) (tTupRgF te) := by
  refine ⟨fun pins s σ H Q I h => ?_⟩
  refine Call_ (ld_blt I hg hm boot_tuple (PyProof.Rows.callWith_type1 (args_cons (thn (he pins s σ H _ I h) fun x s1 ⟨r, a, b, t, u, v, H1, ex, hr, I1, ok, q⟩ => args_nil ?_) na) na))
  subst ex
  obtain ⟨b1, b2, b3, b4, b5⟩ := ok
  refine call_tuple_range (n := (b - a).toNat) (I1.ok.hd hc) hr (small_one b1 b2 b3 b4) (rangeSize_nat a b) b5 fun h' tk acc hk hi => ?_
  have I2 : Inv X pins σ H1 { s1 with heap := h', toks := tk } := I1.kept hk
  have g := NewT.go (s := { s1 with heap := h', toks := tk }) q I2 (by rw [rgV_length, sizeLine_eq]; omega) (vals_rg hi)
  rw [Array.toArray_toList] at g
  exact g
/-! ### methods of a tuple -/
def tBMT (r : V → List V → Hp → VK → Prop) (to : TE) (t : TA) : TE := fun σ H Q => to σ H fun x H1 => (∃ p xs, x = .ref p ∧ RdT H1 p xs) ∧ t σ H1 fun xs H2 => r x xs H2 Q
theorem tupV_is {pins : List (Addr × Obj)} {σ : L2.St} {H : Hp} {s : Shared} {x : V} {v : Value} (I : Inv X pins σ H s) (r : RelV x v) (h : ∃ p xs, x = .ref p ∧ RdT H p xs) :
    s.TypeIs v "tuple" ∧ ∀ a, v = .ref a → ∃ ob, s.heap.get? a = some ob ∧ ob.dict = none := by
  obtain ⟨p, xs, rfl, o, e, d⟩ := h
  cases r
  obtain ⟨g, _, its, _, tp⟩ := (show ObjOk X.prog X.w H s.heap p (.frz o (.tup xs)) from I.hok p _ e)
  refine ⟨tp.typeIs, fun a z => ?_⟩
  cases z
  exact ⟨o, g, d⟩
theorem pe_bmT {o e : Expr} {es : List Expr} {to : TE} {t : TA} {name : Str} {apos cpos : Pos} {id : String} {r : V → List V → Hp → VK → Prop} (slot : Slot "tuple" name id) (hty : typeOf (.builtin id) = pure (.type "method_descriptor")) (hm : MtR X id r) (ho : PE X o to) (ha : PA X (e :: es) t)
    (hbase : attributeBase o name X.env (eval o X.env) = eval o X.env := by rfl)
    (hfew : ((backTo cpos (starEach (e :: es) X.env)).all (fun x => !x.1) && (backToKw cpos (keywordEach [] X.env)).all (fun x => x.1.isSome)
      && decide ((e :: es).length + ([] : List Keyword).length + (if ([] : List Keyword).isEmpty then 0 else 1) < 30)) = true := by rfl)
    (hline : (apos.endLine == cpos.line) = true := by rfl) (hs : starEach (e :: es) X.env = (false, eval e X.env) :: starEach es X.env := by rfl) (hplain : (backTo cpos (starEach es X.env)).any (·.1) = false := by rfl) :
    PE X (.Call (.Attribute o name apos) (e :: es) [] cpos) (tBMT r to t) := by
  refine ⟨fun pins s σ H Q I h => ?_⟩
  refine wpAny_Call_method_late hbase hfew hline rfl (thn (ho.run pins s σ H _ I h) fun v s1 ⟨x, H1, I1, r1, ty, q1⟩ => ?_)
  obtain ⟨h1, h2⟩ := tupV_is I1 r1 ty
  refine ⟨"tuple", id, PySem.F.plainAttrs_tuple, slot, hty, h1, h2, ?_⟩
  have hA := ha.run cpos pins s1 σ H1 _ I1 q1
  rw [hs] at hA ⊢
  refine Calls.callWith_builtin (by show (false || (backTo cpos (starEach es X.env)).any (·.1)) = false; rw [hplain] <;> rfl) (Calls.evalArgs_plain ?_)
  exact thn hA fun us s2 ⟨vs, H2, I2, r2, q2⟩ => hm pins s2 σ H2 x vs v us Q I2 r1 r2 q2
/-- t.index(n) -/
def rIndexT (K : PySem.W.Frag) : V → List V → Hp → VK → Prop := fun x xs H Q => ∃ (p : Addr) (ns : List Int) (k : Int), x = .ref p ∧ xs = [.int k] ∧ SqT K H p (ns.map V.int) ∧ k ∈ ns ∧ Q (.int (ns.idxOf k : Nat)) H
theorem mt_indexT : MtR X "tuple.index" (rIndexT X.K) := by
  intro pins s σ H x xs v us Q I rx rs h
  obtain ⟨p, ns, k, rfl, rfl, hq, hk, q⟩ := h
  cases rx
  obtain ⟨u, rfl, t, rfl⟩ := vals1 rs
  obtain ⟨its, r, ⟨o, ho, hc, n, hd⟩, hz⟩ := I.tuple hq
  exact SeqAt.tuple_index_ints ⟨o, ho, hc, n, hd⟩ r.ints hk ⟨.int (ns.idxOf k : Nat), H, I.tok _, ⟨_, rfl⟩, q⟩
/-- t.count(x), flat things -/
def rCountT (K : PySem.W.Frag) : V → List V → Hp → VK → Prop := fun x xs H Q => ∃ (p : Addr) (ys : List V) (y : V), x = .ref p ∧ xs = [y] ∧ SqT K H p ys ∧ flatV y = true ∧ ys.all flatV = true ∧ Q (.int (ys.countP (fun z => eqV z y) : Nat)) H
theorem count_eqU {u : Value} {x : V} (rx : RelV x u) (fx : flatV x = true) : ∀ {ys : List V} {us : List Value}, Vals ys us → ys.all flatV = true → us.countP (eqU x) = ys.countP fun z => eqV z x
  | _, _, .nil, _ => rfl
  | y :: ys, w :: us, .cons r1 r2, f => by
    simp only [List.all_cons, Bool.and_eq_true] at f
    have e : us.countP (eqU x) = ys.countP fun z => eqV z x := count_eqU rx fx r2 f.2
    have e1 : eqU x w = eqV y x := by
      have := any_eqU (x := x) (.cons r1 .nil) (by simp [f.1])
      simpa using this
    rw [List.countP_cons, List.countP_cons, e, e1]
theorem mt_countT : MtR X "tuple.count" (rCountT X.K) := by
  intro pins s σ H x xs v us Q I rx rs h
  obtain ⟨p, ys, y, rfl, rfl, hq, fy, fs, q⟩ := h
  cases rx
  obtain ⟨u, rfl, ru⟩ := vals1 rs
  obtain ⟨its, r, ⟨⟨cls, dd, data, sl⟩, ho, hc, n, hd⟩, hz⟩ := I.tuple hq
  simp only at hc hd
  subst hc hd
  refine call_meets PySem.F.slot_tuple_count ⟨_, ho, rfl⟩ PySem.F.entry_tuple_count (PySem.F.args_tuple_count_2 _ _) (SeqAt.tuple_countAt p its.toArray n dd sl u (eqU y))
    ⟨ho, fun w hw => mem_eqAt ru fy r fs w (by simpa using hw), ?_⟩
  rw [count_eqU ru fy r fs]
  exact ⟨.int _, H, I.tok _, ⟨_, rfl⟩, q⟩
/-- max(t), t a tuple of ints -/
def rMaxT (K : PySem.W.Frag) : List V → Hp → VK → Prop := fun vs H Q => ∃ (a : Addr) (n : Int) (ns : List Int), vs = [.ref a] ∧ SqT K H a ((n :: ns).map V.int) ∧ Q (.int (ns.foldl max n)) H
theorem cr_maxT (hc : X.calm = true) (hu : X.A.units + 64 < cLine) : CallR X (.builtin "max") (rMaxT X.K) := by
  intro pins s σ H vs us Q I r h
  obtain ⟨a, n, ns, rfl, hs, q⟩ := h
  obtain ⟨its, rv, ⟨o, ho, hcl, m, hd⟩, hz⟩ := I.tuple hs
  rw [Vals.ref1 r]
  have hr : ∃ as, ReadsAll s.heap its (.int n :: ns.map PyData.int) as := by
    have g : ∀ (l : List Int) (us : List Value), Vals (l.map V.int) us → ∃ as, ReadsAll s.heap us (l.map PyData.int) as := fun l => by
      induction l with
      | nil => intro us r; cases r; exact ⟨_, .nil⟩
      | cons k l ih =>
        intro us r
        cases r with
        | cons r1 r2 =>
          obtain ⟨t, rfl⟩ := r1
          obtain ⟨as, h⟩ := ih _ r2
          exact ⟨_, .cons (.int k t) h⟩
    exact g (n :: ns) its rv
  obtain ⟨as, hr⟩ := hr
  refine PySem.W.max_tuple_data (x := .int n) (xs := ns.map PyData.int) (I.ok.hd hc) ⟨o, ho, hcl, m, hd⟩ (by simpa using hr) ?_ ?_ fun i v h' tk bs hv rd k => ?_
  · have im : ∀ x ∈ PyData.int n :: ns.map PyData.int, ∃ j, x = .int j := fun x hx => by
      rcases List.mem_cons.mp hx with rfl | hx
      · exact ⟨n, rfl⟩
      · obtain ⟨j, _, rfl⟩ := List.mem_map.mp hx; exact ⟨j, rfl⟩
    refine ⟨fun x hx y hy => ?_, fun x hx => ?_⟩
    · obtain ⟨i, rfl⟩ := im x hx
      obtain ⟨j, rfl⟩ := im y hy
      simp [PySem.W.alike]
    · obtain ⟨i, rfl⟩ := im x hx
      intro z; cases z
  · have d0 : PyData.depthAll (PyData.int n :: ns.map PyData.int) = 0 := PySem.W.depth_ints (n :: ns)
    rw [d0]
    have := hu
    omega
  · rw [PySem.W.maxD_ints] at rd
    cases rd with
    | int _ t => exact ⟨.int _, H, I.kept k, ⟨_, rfl⟩, q⟩
/-- t * n -/
def rRepF (K : PySem.W.Frag) : R2 := fun x y H Q => ∃ l k xs, x = .ref l ∧ y = .int k ∧ SqT K H l xs ∧ xs ≠ [] ∧ 1 ≤ k ∧ k ≤ 1000 ∧ xs.length ≤ 1000 ∧ (k = 1 → Q (.ref l) H) ∧ (2 ≤ k → NewT H (List.replicate k.toNat xs).flatten Q)
theorem tuple_mul1 (l : Addr) (items : Array Value) (n : Nat) (dd : Option Addr) (sl : Array (Option Value)) (u : Tok) :
    Meets (Builtin.«tuple.__mul__» ⟨[.ref l, .int 1 u], []⟩) (fun _ R s => s.heap.get? l = some { cls := .type "tuple", dict := dd, data := .seq items n, slots := sl } ∧ R (.ok (.ret (.ref l))) s) :=
  .of_wp fun prog w A R s h => by
    obtain ⟨hp, g, d, tk, os⟩ := s
    obtain ⟨hl, h⟩ := h
    have f1 := AutoSeq1.idx_int
    have c1 : (items.isEmpty || (1 : Int) == 1) = true := by simp
    wp_walk using wpAny_loadPart' hl
    exact ⟨_, rfl, h⟩
/-- what the model asks ahead of a tuple's repeating -/
theorem rep_bounds {its : List Value} {k : Int} (ne : its ≠ []) (many : its.length ≤ 1000) (k2 : 2 ≤ k) (kb : k ≤ 1000) :
    (decide (k < -(2 ^ 63)) || decide (k ≥ 2 ^ 63)) = false ∧ (its.toArray.isEmpty || k == 1) = false ∧ (decide (k ≤ 0) || its.toArray.isEmpty) = false ∧ Builtin.Tuple.tupleTooMany (((its.toArray.size : Nat) : Int) * k) = false ∧ (List.replicate k.toNat its).flatten.length ≤ sizeLine ∧ ((its.toArray.size : Nat) : Int) * k ≤ 1000000 := by
  have full : its.toArray.isEmpty = false := by cases its <;> first | rfl | exact absurd rfl ne
  obtain ⟨m, rfl⟩ : ∃ m : Nat, k = (m : Int) := ⟨k.toNat, by omega⟩
  have prod : its.length * m ≤ 1000 * 1000 := Nat.mul_le_mul many (by omega)
  have prodI : ((its.length : Nat) : Int) * (m : Int) ≤ 1000000 := Int.ofNat_le.mpr prod
  have line : (1000000 : Nat) ≤ sizeLine := by decide
  refine ⟨Bool.or_eq_false_iff.mpr ⟨decide_eq_false (by omega), decide_eq_false (by omega)⟩, Bool.or_eq_false_iff.mpr ⟨full, beq_false_of_ne (by omega)⟩, Bool.or_eq_false_iff.mpr ⟨decide_eq_false (by omega), full⟩, ?_, ?_, prodI⟩
  · rw [Builtin.Tuple.tupleTooMany, List.size_toArray, sizeLine_eq]
    exact decide_eq_false (Int.not_lt.mpr (Int.le_trans prodI (by decide)))
  · rw [PyProof.Rows.lm_len_rep_flat, Int.toNat_natCast, Nat.mul_comm]
    exact Nat.le_trans prod line
theorem op_repF : OpR X (binaryOp .Mult) (rRepF X.K) := by
  rintro pins s σ H _ _ v u Q I rx ry ⟨l, k, xs, rfl, rfl, hT, ne, k1, kb, many, one, more⟩
  cases rx
  obtain ⟨t, rfl⟩ := ry
  obtain ⟨its, r, ⟨⟨cls, dd, data, sl⟩, ho, hc, n, hd⟩, hs⟩ := I.tuple hT
  obtain rfl : cls = .type "tuple" := hc
  obtain rfl : data = .seq its.toArray n := hd
  have len : its.length = xs.length := r.length.symm
  have isT : s.TypeIs (.ref l) "tuple" := ⟨_, ho, rfl⟩
  -- the int's own method hands over to the tuple's
  rcases Int.lt_or_eq_of_le k1 with two | rfl
  · obtain ⟨c0, c1, c2, c4, c5, c6⟩ := rep_bounds (its := its) (fun z => ne (List.eq_nil_of_length_eq_zero (by rw [← len, z]; rfl))) (len ▸ many) two kb
    refine wpAny_binaryOp_repeat_ref (T := "tuple") (U := "int") (by decide) isT (fun s' => typeIs_int s' k t) noFill_tuple_mul F.fills_int_mul F.slot_int_rmul repeat_tuple F.slot_int_index.lookup
      (call_meets F.slot_int_rmul (typeIs_int s k t) F.entry_int_rmul (F.args_int_rmul_2 _ _) (int_rmul_tuple k t l its.toArray n dd sl) ⟨ho, rfl, isT,
        call_meets F.slot_tuple_mul isT F.entry_tuple_mul (F.args_tuple_mul_2 _ _) (tuple_mulW l its.toArray n dd sl k t c0 c1 c2 (by omega) c4 (by rw [size_rep]; exact c5)) ⟨ho, ?_⟩⟩)
    rw [size_rep]
    exact (more two).go I (by rw [PyProof.Rows.lm_len_rep_flat, ← len, ← PyProof.Rows.lm_len_rep_flat]; exact c5) (r.rep k.toNat)
  · exact wpAny_binaryOp_repeat_ref (T := "tuple") (U := "int") (by decide) isT (fun s' => typeIs_int s' 1 t) noFill_tuple_mul F.fills_int_mul F.slot_int_rmul repeat_tuple F.slot_int_index.lookup
      (call_meets F.slot_int_rmul (typeIs_int s 1 t) F.entry_int_rmul (F.args_int_rmul_2 _ _) (int_rmul_tuple 1 t l its.toArray n dd sl) ⟨ho, rfl, isT,
        call_meets F.slot_tuple_mul isT F.entry_tuple_mul (F.args_tuple_mul_2 _ _) (tuple_mul1 l its.toArray n dd sl t) ⟨ho, .ref l, H, I, rfl, one rfl⟩⟩)
end
end DL
-- part DL1
set_option linter.all false
set_option maxRecDepth 100000
set_option maxHeartbeats 2000000
/-! A layer of data over the hand layer: values as trees of tuples, slots that hold data or lists of data; the heap is hidden. -/
namespace DL
open PySem PySem.Spec PyProof.Rows L2

/-- data that never changes -/
inductive D where
  | non
  | bl (b : Bool)
  | int (i : Int)
  | str (x : Str)
  | tup (ds : List D)

mutual
def Dat (H : Hp) : D → V → Prop
  | .non, v => v = .non
  | .bl b, v => v = .bl b
  | .int i, v => v = .int i
  | .str x, v => v = .str x
  | .tup ds, v => ∃ a xs, v = .ref a ∧ RdT H a xs ∧ DatL H ds xs
def DatL (H : Hp) : List D → List V → Prop
  | [], xs => xs = []
  | d :: ds, xs => ∃ v vs, xs = v :: vs ∧ Dat H d v ∧ DatL H ds vs
end
/-- tuples stay -/
def Tups (H H' : Hp) : Prop := ∀ a xs, RdT H a xs → RdT H' a xs
theorem Tups.of {H H' : Hp} (s : Same H H') : Tups H H' := fun a xs e => e.mono s
mutual
theorem Dat.mono {H H' : Hp} (t : Tups H H') : ∀ (d : D) (v : V), Dat H d v → Dat H' d v
  | .non, _, h => by unfold Dat at h ⊢; exact h
  | .bl _, _, h => by unfold Dat at h ⊢; exact h
  | .int _, _, h => by unfold Dat at h ⊢; exact h
  | .str _, _, h => by unfold Dat at h ⊢; exact h
  | .tup ds, _, h => by
    unfold Dat at h ⊢
    obtain ⟨a, xs, e, e2, h⟩ := h
    exact ⟨a, xs, e, t a xs e2, DatL.mono t ds xs h⟩
theorem DatL.mono {H H' : Hp} (t : Tups H H') : ∀ (ds : List D) (vs : List V), DatL H ds vs → DatL H' ds vs
  | [], _, h => by unfold DatL at h ⊢; exact h
  | d :: ds, _, h => by
    unfold DatL at h ⊢
    obtain ⟨v, vs, e, h1, h2⟩ := h
    exact ⟨v, vs, e, Dat.mono t d v h1, DatL.mono t ds vs h2⟩
end
theorem dat_int {H : Hp} {i : Int} {v : V} : Dat H (.int i) v ↔ v = .int i := by unfold Dat; exact Iff.rfl
theorem dat_bl {H : Hp} {i : Bool} {v : V} : Dat H (.bl i) v ↔ v = .bl i := by unfold Dat; exact Iff.rfl
theorem dat_str {H : Hp} {i : Str} {v : V} : Dat H (.str i) v ↔ v = .str i := by unfold Dat; exact Iff.rfl
theorem dat_non {H : Hp} {v : V} : Dat H .non v ↔ v = .non := by unfold Dat; exact Iff.rfl
theorem dat_tup {H : Hp} {ds : List D} {v : V} : Dat H (.tup ds) v ↔ ∃ a xs, v = .ref a ∧ RdT H a xs ∧ DatL H ds xs := by
  constructor
  · intro h; unfold Dat at h; exact h
  · intro h; unfold Dat; exact h
theorem datL_nil {H : Hp} {vs : List V} : DatL H [] vs ↔ vs = [] := by
  constructor
  · intro h; unfold DatL at h; exact h
  · intro h; unfold DatL; exact h
theorem datL_cons {H : Hp} {d : D} {ds : List D} {vs : List V} : DatL H (d :: ds) vs ↔ ∃ v r, vs = v :: r ∧ Dat H d v ∧ DatL H ds r := by
  constructor
  · intro h; unfold DatL at h; exact h
  · intro h; unfold DatL; exact h
theorem DatL.length {H : Hp} : ∀ {ds : List D} {vs : List V}, DatL H ds vs → vs.length = ds.length
  | [], _, h => by rw [datL_nil.mp h]; rfl
  | d :: ds, _, h => by
    obtain ⟨v, r, e, _, h2⟩ := datL_cons.mp h
    rw [e, List.length_cons, List.length_cons, h2.length]
theorem DatL.get {H : Hp} : ∀ {ds : List D} {vs : List V} {i : Nat} {d : D}, DatL H ds vs → ds[i]? = some d → ∃ v, vs[i]? = some v ∧ Dat H d v
  | [], _, _, _, _, e => by simp at e
  | d :: ds, _, 0, x, h, e => by
    obtain ⟨v, r, e1, h1, _⟩ := datL_cons.mp h
    subst e1
    have e : d = x := by simpa using e
    subst e
    exact ⟨v, rfl, h1⟩
  | d :: ds, _, i + 1, x, h, e => by
    obtain ⟨v, r, e1, _, h2⟩ := datL_cons.mp h
    subst e1
    obtain ⟨w, a, b⟩ := DatL.get (i := i) h2 (by simpa using e)
    exact ⟨w, by simpa using a, b⟩
theorem DatL.getV {H : Hp} {ds : List D} {vs : List V} {i : Nat} {v : V} (h : DatL H ds vs) (e : vs[i]? = some v) : ∃ d, ds[i]? = some d ∧ Dat H d v := by
  have hi : i < ds.length := by rw [← h.length]; exact (List.getElem?_eq_some_iff.mp e).1
  obtain ⟨w, a, b⟩ := h.get (List.getElem?_eq_getElem hi)
  rw [e] at a
  cases a
  exact ⟨_, List.getElem?_eq_getElem hi, b⟩
theorem DatL.app {H : Hp} : ∀ {ds es : List D} {vs us : List V}, DatL H ds vs → DatL H es us → DatL H (ds ++ es) (vs ++ us)
  | [], _, _, _, h, h' => by rw [datL_nil.mp h]; exact h'
  | d :: ds, es, _, us, h, h' => by
    obtain ⟨v, r, e, h1, h2⟩ := datL_cons.mp h
    subst e
    exact datL_cons.mpr ⟨v, r ++ us, rfl, h1, h2.app h'⟩
theorem DatL.one {H : Hp} {d : D} {v : V} (h : Dat H d v) : DatL H [d] [v] := datL_cons.mpr ⟨v, [], rfl, h, datL_nil.mpr rfl⟩
theorem DatL.take {H : Hp} : ∀ {ds : List D} {vs : List V} (n : Nat), DatL H ds vs → DatL H (ds.take n) (vs.take n)
  | _, _, 0, _ => by rw [List.take_zero, List.take_zero]; exact datL_nil.mpr rfl
  | [], _, n + 1, h => by rw [datL_nil.mp h]; exact datL_nil.mpr rfl
  | d :: ds, _, n + 1, h => by
    obtain ⟨v, r, e, h1, h2⟩ := datL_cons.mp h
    subst e
    exact datL_cons.mpr ⟨v, _, rfl, h1, h2.take n⟩
theorem DatL.drop {H : Hp} : ∀ {ds : List D} {vs : List V} (n : Nat), DatL H ds vs → DatL H (ds.drop n) (vs.drop n)
  | _, _, 0, h => h
  | [], _, n + 1, h => by rw [datL_nil.mp h]; exact datL_nil.mpr rfl
  | d :: ds, _, n + 1, h => by
    obtain ⟨v, r, e, h1, h2⟩ := datL_cons.mp h
    subst e
    exact h2.drop n
theorem datL_ints {H : Hp} : ∀ {ns : List Int} {vs : List V}, DatL H (ns.map D.int) vs ↔ vs = ns.map V.int
  | [], vs => datL_nil
  | n :: ns, vs => by
    rw [List.map_cons, datL_cons, List.map_cons]
    constructor
    · rintro ⟨v, r, e, h1, h2⟩
      rw [e, dat_int.mp h1, datL_ints.mp h2]
    · rintro rfl
      exact ⟨_, _, rfl, dat_int.mpr rfl, datL_ints.mpr rfl⟩
theorem datL_bls {H : Hp} : ∀ {ns : List Bool} {vs : List V}, DatL H (ns.map D.bl) vs ↔ vs = ns.map V.bl
  | [], vs => datL_nil
  | n :: ns, vs => by
    rw [List.map_cons, datL_cons, List.map_cons]
    constructor
    · rintro ⟨v, r, e, h1, h2⟩
      rw [e, dat_bl.mp h1, datL_bls.mp h2]
    · rintro rfl
      exact ⟨_, _, rfl, dat_bl.mpr rfl, datL_bls.mpr rfl⟩

/-- what a slot, or an expression, holds: data; a list of our own; a list that is read; a dict of our own; any lasting thing -/
inductive R where
  | d (x : D)
  | l (xs : List D)
  | r (xs : List D)
  | k (kvs : List (Key × V))
  | p (φ : Hp → V → Prop)
def R.own : R → Bool
  | .l _ => true
  | .k _ => true
  | _ => false
abbrev Env := List (Option R)
/-- the addresses of what is ours and may change -/
def Own (σ : L2.St) (δ : Env) (a : Addr) : Prop := ∃ (i : Nat) (x : R), δ[i]? = some (some x) ∧ x.own = true ∧ σ[i]? = some (some (.ref a))
def Keep (O : Addr → Prop) (H H' : Hp) : Prop := ∀ b o, H b = some o → ¬ O b → H' b = some o
def RS (O : Addr → Prop) (H : Hp) (v : V) : R → Prop
  | .d x => Dat H x v
  | .l xs => ∃ a vs, v = .ref a ∧ H a = some (.lst vs) ∧ DatL H xs vs
  | .r xs => ∃ a vs, v = .ref a ∧ ¬ O a ∧ H a = some (.lst vs) ∧ DatL H xs vs
  | .k kvs => ∃ a, v = .ref a ∧ H a = some (.dK kvs)
  | .p φ => ∀ H', Keep O H H' → φ H' v
/-- of a result: from H to H' -/
def RE (H H' : Hp) (v : V) : R → Prop
  | .d x => Dat H' x v
  | .l xs => ∃ a vs, v = .ref a ∧ H a = none ∧ H' a = some (.lst vs) ∧ DatL H' xs vs
  | .r xs => ∃ a vs, v = .ref a ∧ H' a = some (.lst vs) ∧ DatL H' xs vs
  | .k kvs => ∃ a, v = .ref a ∧ H a = none ∧ H' a = some (.dK kvs)
  | .p φ => ∀ H'', Same H' H'' → φ H'' v
/-- of what is handed back -/
def RT (O : Addr → Prop) (H H' : Hp) (v : V) : R → Prop
  | .d x => Dat H' x v
  | .l xs => ∃ a vs, v = .ref a ∧ (O a ∨ H a = none) ∧ H' a = some (.lst vs) ∧ DatL H' xs vs
  | .r _ => False
  | .k kvs => ∃ a, v = .ref a ∧ (O a ∨ H a = none) ∧ H' a = some (.dK kvs)
  | .p φ => ∀ H'', Same H' H'' → φ H'' v
/-- of an argument -/
def RA (H : Hp) (v : V) : R → Prop
  | .d x => Dat H x v
  | .l xs => ∃ a vs, v = .ref a ∧ H a = some (.lst vs) ∧ DatL H xs vs
  | .r xs => ∃ a vs, v = .ref a ∧ H a = some (.lst vs) ∧ DatL H xs vs
  | .k _ => False
  | .p φ => ∀ H', Same H H' → φ H' v
def RAL (H : Hp) : List R → List V → Prop
  | [], vs => vs = []
  | r :: rs, vs => ∃ v us, vs = v :: us ∧ RA H v r ∧ RAL H rs us
structure Rep (σ : L2.St) (H : Hp) (δ : Env) : Prop where
  len : σ.length = δ.length
  val : ∀ (i : Nat) (r : R), δ[i]? = some (some r) → ∃ v, σ[i]? = some (some v) ∧ RS (Own σ δ) H v r
  dist : ∀ (i j : Nat) (x y : R) (a : Addr), i ≠ j → δ[i]? = some (some x) → x.own = true → δ[j]? = some (some y) → y.own = true → σ[i]? = some (some (.ref a)) → σ[j]? ≠ some (some (.ref a))
/-- from one point of a body to a later one -/
structure Later (σ : L2.St) (H : Hp) (δ : Env) (σ' : L2.St) (H' : Hp) (δ' : Env) : Prop where
  keep : Keep (Own σ δ) H H'
  grow : ∀ a, Own σ' δ' a → Own σ δ a ∨ H a = none

theorem skeep {O : Addr → Prop} {H H' : Hp} (s : Same H H') : Keep O H H' := fun b o e _ => s b o e
theorem Keep.mono {O O' : Addr → Prop} {H H' : Hp} (k : Keep O H H') (h : ∀ a, O a → O' a) : Keep O' H H' := fun b o e n => k b o e fun z => n (h b z)
theorem Keep.trans {O : Addr → Prop} {H H1 H2 : Hp} (a : Keep O H H1) (b : Keep O H1 H2) : Keep O H H2 := fun c o e n => b c o (a c o e n) n
section
variable {H H' H1 H2 : Hp} {σ σ1 σ2 : L2.St} {δ δ1 δ2 δ' : Env} {v : V} {r : R} {O O' : Addr → Prop}
theorem re_int {i : Int} : RE H H' (.int i) (.d (.int i)) := by
  show Dat H' (.int i) (.int i)
  exact dat_int.mpr rfl
theorem re_bl {i : Bool} : RE H H' (.bl i) (.d (.bl i)) := by
  show Dat H' (.bl i) (.bl i)
  exact dat_bl.mpr rfl
theorem re_non : RE H H' .non (.d .non) := by
  show Dat H' .non .non
  exact dat_non.mpr rfl
theorem reI {i : Int} (h : RE H H' v (.d (.int i))) : v = .int i := by
  have h : Dat H' (.int i) v := h
  exact dat_int.mp h
theorem reB {i : Bool} (h : RE H H' v (.d (.bl i))) : v = .bl i := by
  have h : Dat H' (.bl i) v := h
  exact dat_bl.mp h
theorem reS {i : Str} (h : RE H H' v (.d (.str i))) : v = .str i := by
  have h : Dat H' (.str i) v := h
  exact dat_str.mp h
theorem reT {ds : List D} (h : RE H H' v (.d (.tup ds))) : ∃ a xs, v = .ref a ∧ RdT H' a xs ∧ DatL H' ds xs := by
  have h : Dat H' (.tup ds) v := h
  exact dat_tup.mp h
theorem re_tup {ds : List D} {a : Addr} {xs : List V} (h : RdT H' a xs) (h2 : DatL H' ds xs) : RE H H' (.ref a) (.d (.tup ds)) := by
  show Dat H' (.tup ds) (.ref a)
  exact dat_tup.mpr ⟨a, xs, rfl, h, h2⟩
theorem re_d {x : D} (h : Dat H' x v) : RE H H' v (.d x) := h
theorem RE.d {x : D} (h : RE H H' v (.d x)) : Dat H' x v := h
theorem RE.ext (s : Same H1 H2) (h : RE H H1 v r) : RE H H2 v r := by
  cases r with
  | d x => exact Dat.mono (.of s) x v h
  | l xs =>
    obtain ⟨a, vs, e, n, e2, q⟩ := h
    exact ⟨a, vs, e, n, s _ _ e2, q.mono (.of s)⟩
  | r xs =>
    obtain ⟨a, vs, e, e2, q⟩ := h
    exact ⟨a, vs, e, s _ _ e2, q.mono (.of s)⟩
  | k kvs =>
    obtain ⟨a, e, n, e2⟩ := h
    exact ⟨a, e, n, s _ _ e2⟩
  | p φ => exact fun H' s' => h H' (s.trans s')
theorem RE.back (s : Same H H1) (h : RE H1 H2 v r) : RE H H2 v r := by
  cases r with
  | d x => exact h
  | l xs =>
    obtain ⟨a, vs, e, n, q⟩ := h
    exact ⟨a, vs, e, s.free n, q⟩
  | r xs => exact h
  | k kvs =>
    obtain ⟨a, e, n, q⟩ := h
    exact ⟨a, e, s.free n, q⟩
  | p φ => exact h
theorem RE.rt (h : RE H H' v r) (hr : ∀ xs, r ≠ .r xs) : RT O H H' v r := by
  cases r with
  | d x => exact h
  | l xs =>
    obtain ⟨a, vs, e, n, q⟩ := h
    exact ⟨a, vs, e, .inr n, q⟩
  | r xs => exact absurd rfl (hr xs)
  | k kvs =>
    obtain ⟨a, e, n, q⟩ := h
    exact ⟨a, e, .inr n, q⟩
  | p φ => exact h
theorem RT.back (k : Keep O H H1) (g : ∀ a, O' a → O a ∨ H a = none) (h : RT O' H1 H2 v r) : RT O H H2 v r := by
  have free : ∀ a, (O' a ∨ H1 a = none) → O a ∨ H a = none := fun a z => by
    rcases z with z | z
    · exact g a z
    · by_cases c : O a
      · exact .inl c
      · right
        cases q : H a with
        | none => rfl
        | some o => rw [k a o q c] at z; cases z
  cases r with
  | d x => exact h
  | l xs =>
    obtain ⟨a, vs, e, n, q⟩ := h
    exact ⟨a, vs, e, free a n, q⟩
  | r xs => exact h
  | k kvs =>
    obtain ⟨a, e, n, q⟩ := h
    exact ⟨a, e, free a n, q⟩
  | p φ => exact h
theorem RA.ext (s : Same H H') (h : RA H v r) : RA H' v r := by
  cases r with
  | d x => exact Dat.mono (.of s) x v h
  | l xs =>
    obtain ⟨a, vs, e, e2, q⟩ := h
    exact ⟨a, vs, e, s _ _ e2, q.mono (.of s)⟩
  | r xs =>
    obtain ⟨a, vs, e, e2, q⟩ := h
    exact ⟨a, vs, e, s _ _ e2, q.mono (.of s)⟩
  | k kvs => exact h
  | p φ => exact fun H'' s' => h H'' (s.trans s')
theorem RAL.ext (s : Same H H') : ∀ {rs : List R} {vs : List V}, RAL H rs vs → RAL H' rs vs
  | [], _, h => h
  | r :: rs, _, h => by
    obtain ⟨v, us, e, h1, h2⟩ := h
    exact ⟨v, us, e, h1.ext s, h2.ext s⟩
theorem RAL.length : ∀ {rs : List R} {vs : List V}, RAL H rs vs → vs.length = rs.length
  | [], _, h => by
    have h : _ = [] := h
    rw [h]; rfl
  | r :: rs, _, h => by
    obtain ⟨v, us, e, _, h2⟩ := h
    rw [e, List.length_cons, List.length_cons, h2.length]
theorem RS.ext (s : Same H H') (h : RS O H v r) : RS O H' v r := by
  cases r with
  | d x => exact Dat.mono (.of s) x v h
  | l xs =>
    obtain ⟨a, vs, e, e2, q⟩ := h
    exact ⟨a, vs, e, s _ _ e2, q.mono (.of s)⟩
  | r xs =>
    obtain ⟨a, vs, e, n, e2, q⟩ := h
    exact ⟨a, vs, e, n, s _ _ e2, q.mono (.of s)⟩
  | k kvs =>
    obtain ⟨a, e, e2⟩ := h
    exact ⟨a, e, s _ _ e2⟩
  | p φ => exact fun H'' k => h H'' ((skeep s).trans k)
theorem Rep.ext (h : Rep σ H δ) (s : Same H H') : Rep σ H' δ :=
  ⟨h.len, fun i r e => by
    obtain ⟨v, e1, q⟩ := h.val i r e
    exact ⟨v, e1, q.ext s⟩, h.dist⟩
theorem Later.refl (s : Same H H') : Later σ H δ σ H' δ := ⟨skeep s, fun _ h => .inl h⟩
theorem Later.trans (a : Later σ H δ σ1 H1 δ1) (b : Later σ1 H1 δ1 σ2 H2 δ2) : Later σ H δ σ2 H2 δ2 := by
  have g : ∀ c, Own σ1 δ1 c ∨ H1 c = none → Own σ δ c ∨ H c = none := fun c z => by
    rcases z with z | z
    · exact a.grow c z
    · by_cases q : Own σ δ c
      · exact .inl q
      · right
        cases e : H c with
        | none => rfl
        | some o => rw [a.keep c o e q] at z; cases z
  refine ⟨fun c o e n => b.keep c o (a.keep c o e n) fun z => ?_, fun c z => g c (b.grow c z)⟩
  rcases a.grow c z with q | q
  · exact n q
  · rw [q] at e; cases e
theorem own_set {i : Nat} {a : Addr} (h : Own (σ.set i (some v)) (δ.set i (some r)) a) : (r.own = true ∧ v = .ref a) ∨ Own σ δ a := by
  obtain ⟨j, x, e1, e2, e3⟩ := h
  by_cases c : j = i
  · subst c
    by_cases l : j < δ.length
    · rw [List.getElem?_set_self l] at e1
      have ex : r = x := Option.some.inj (Option.some.inj e1)
      subst ex
      by_cases l2 : j < σ.length
      · rw [List.getElem?_set_self l2] at e3
        exact .inl ⟨e2, Option.some.inj (Option.some.inj e3)⟩
      · rw [List.getElem?_eq_none (by rw [List.length_set]; omega)] at e3
        cases e3
    · rw [List.getElem?_eq_none (by rw [List.length_set]; omega)] at e1
      cases e1
  · rw [List.getElem?_set_ne (Ne.symm c)] at e1 e3
    exact .inr ⟨j, x, e1, e2, e3⟩
/-- storing a slot: data, or what is new -/
theorem Rep.set0 (h : Rep σ H δ) (s : Same H H1) (i : Nat) (q : RS (Own (σ.set i (some v)) (δ.set i (some r))) H1 v r) (hn : r.own = true → ∀ a, v = .ref a → H a = none) : Rep (σ.set i (some v)) H1 (δ.set i (some r)) := by
  have gd : ∀ (j : Nat) (x : R), (δ.set i (some r))[j]? = some (some x) → (j = i ∧ x = r ∧ i < δ.length) ∨ (j ≠ i ∧ δ[j]? = some (some x)) := fun j x e => by
    by_cases c : j = i
    · subst c
      by_cases l : j < δ.length
      · rw [List.getElem?_set_self l] at e
        exact .inl ⟨rfl, (Option.some.inj (Option.some.inj e)).symm, l⟩
      · rw [List.getElem?_eq_none (by rw [List.length_set]; omega)] at e
        cases e
    · rw [List.getElem?_set_ne (Ne.symm c)] at e
      exact .inr ⟨c, e⟩
  have gs : ∀ (j : Nat), j ≠ i → (σ.set i (some v))[j]? = σ[j]? := fun j c => List.getElem?_set_ne (Ne.symm c)
  have gi : i < δ.length → (σ.set i (some v))[i]? = some (some v) := fun l => List.getElem?_set_self (by rw [h.len]; exact l)
  -- an own slot's address stood in H
  have there : ∀ (j : Nat) (x : R) (a : Addr), δ[j]? = some (some x) → x.own = true → σ[j]? = some (some (.ref a)) → ∃ o, H a = some o := fun j x a e1 e2 e3 => by
    obtain ⟨u, e4, z⟩ := h.val j x e1
    rw [e3] at e4
    have eu : u = .ref a := (Option.some.inj (Option.some.inj e4)).symm
    cases x with
    | d x => cases e2
    | r x => cases e2
    | p x => cases e2
    | l xs => obtain ⟨b, vs, eb, hb, _⟩ := z; rw [eu] at eb; cases eb; exact ⟨_, hb⟩
    | k kvs => obtain ⟨b, eb, hb⟩ := z; rw [eu] at eb; cases eb; exact ⟨_, hb⟩
  have nown : ∀ a, ¬ Own σ δ a → (∃ o, H a = some o) → ¬ Own (σ.set i (some v)) (δ.set i (some r)) a := fun a n ⟨o, ho⟩ z => by
    rcases own_set z with ⟨z1, z2⟩ | z
    · rw [hn z1 a z2] at ho; cases ho
    · exact n z
  refine ⟨by rw [List.length_set, List.length_set]; exact h.len, fun j x e => ?_, fun j k x y a n e1 o1 e2 o2 e3 => ?_⟩
  · rcases gd j x e with ⟨c, ex, l⟩ | ⟨c, e⟩
    · subst c ex
      exact ⟨v, gi l, q⟩
    · obtain ⟨u, e1, q1⟩ := h.val j x e
      refine ⟨u, by rw [gs j c]; exact e1, ?_⟩
      cases x with
      | d x => exact Dat.mono (.of s) x u q1
      | l xs =>
        obtain ⟨a, vs, ea, e2, q2⟩ := q1
        exact ⟨a, vs, ea, s _ _ e2, q2.mono (.of s)⟩
      | r xs =>
        obtain ⟨a, vs, ea, n, e2, q2⟩ := q1
        exact ⟨a, vs, ea, nown a n ⟨_, e2⟩, s _ _ e2, q2.mono (.of s)⟩
      | k kvs =>
        obtain ⟨a, ea, e2⟩ := q1
        exact ⟨a, ea, s _ _ e2⟩
      | p φ => exact fun H' k => q1 H' fun b o eb nb => k b o (s b o eb) (nown b nb ⟨o, eb⟩)
  · rcases gd j _ e1 with ⟨c, ex, l⟩ | ⟨c, e1'⟩
    · rcases gd k _ e2 with ⟨c2, _, _⟩ | ⟨c2, e2'⟩
      · exact absurd (c.trans c2.symm) n
      · subst c ex
        rw [gi l] at e3
        rw [gs k c2]
        intro e4
        obtain ⟨o, ho⟩ := there k y a e2' o2 e4
        rw [hn o1 a (Option.some.inj (Option.some.inj e3))] at ho
        cases ho
    · rw [gs j c] at e3
      rcases gd k _ e2 with ⟨c2, ex, l⟩ | ⟨c2, e2'⟩
      · subst c2 ex
        rw [gi l]
        intro e4
        obtain ⟨o, ho⟩ := there j x a e1' o1 e3
        rw [hn o2 a (Option.some.inj (Option.some.inj e4))] at ho
        cases ho
      · rw [gs k c2]
        exact h.dist j k x y a n e1' o1 e2' o2 e3
theorem Rep.setD (h : Rep σ H δ) (s : Same H H1) (i : Nat) {x : D} (q : Dat H1 x v) : Rep (σ.set i (some v)) H1 (δ.set i (some (.d x))) := h.set0 (r := .d x) s i q fun z => nomatch z
theorem Later.setD (s : Same H H1) (i : Nat) {x : D} : Later σ H δ (σ.set i (some v)) H1 (δ.set i (some (.d x))) := ⟨skeep s, fun a z => by
  rcases own_set z with ⟨z, _⟩ | z
  · cases z
  · exact .inl z⟩
theorem Rep.setL (h : Rep σ H δ) (s : Same H H1) (i : Nat) {xs : List D} (q : RE H H1 v (.l xs)) : Rep (σ.set i (some v)) H1 (δ.set i (some (.l xs))) := by
  obtain ⟨a, vs, e, n, e2, q⟩ := q
  exact h.set0 (r := .l xs) s i ⟨a, vs, e, e2, q⟩ fun _ b e3 => by rw [e] at e3; cases e3; exact n
theorem Later.setL (s : Same H H1) (i : Nat) {xs : List D} (q : RE H H1 v (.l xs)) : Later σ H δ (σ.set i (some v)) H1 (δ.set i (some (.l xs))) := ⟨skeep s, fun a z => by
  obtain ⟨b, vs, e, n, e2, q⟩ := q
  rcases own_set z with ⟨_, z⟩ | z
  · rw [e] at z; cases z; exact .inr n
  · exact .inl z⟩
/-- slots are forgotten -/
theorem Rep.weak (h : Rep σ H δ) (hl : δ'.length = δ.length) (w : ∀ (i : Nat) (r : R), δ'[i]? = some (some r) → δ[i]? = some (some r)) : Rep σ H δ' ∧ Later σ H δ σ H δ' := by
  have ow : ∀ a, Own σ δ' a → Own σ δ a := fun a ⟨i, x, e1, e2, e3⟩ => ⟨i, x, w i x e1, e2, e3⟩
  refine ⟨⟨h.len.trans hl.symm, fun i r e => ?_, fun i j x y a n e1 o1 e2 o2 => h.dist i j x y a n (w i _ e1) o1 (w j _ e2) o2⟩, fun b o e _ => e, fun a z => .inl (ow a z)⟩
  obtain ⟨v, e1, q⟩ := h.val i r (w i r e)
  refine ⟨v, e1, ?_⟩
  cases r with
  | d x => exact q
  | l xs => exact q
  | r xs => obtain ⟨a, vs, ea, n, q⟩ := q; exact ⟨a, vs, ea, fun z => n (ow a z), q⟩
  | k kvs => exact q
  | p φ => exact fun H' k => q H' (k.mono ow)
end

/-! ### judgements on readings -/
def DE (t : TE) (δ : Env) (r : R) : Prop := ∀ (σ : L2.St) (H : Hp), Rep σ H δ → ∀ Q : VK, (∀ v H', Same H H' → RE H H' v r → Q v H') → t σ H Q
def DT (t : TT) (δ : Env) (b : Bool) : Prop := ∀ (σ : L2.St) (H : Hp), Rep σ H δ → ∀ Q : Bool → Hp → Prop, (∀ H', Same H H' → Q b H') → t σ H Q
def DA (t : TA) (δ : Env) (rs : List R) : Prop := ∀ (σ : L2.St) (H : Hp), Rep σ H δ → ∀ Q : List V → Hp → Prop, (∀ vs H', Same H H' → RAL H' rs vs → Q vs H') → t σ H Q
/-- all arguments data -/
def DAd (t : TA) (δ : Env) (ds : List D) : Prop := ∀ (σ : L2.St) (H : Hp), Rep σ H δ → ∀ Q : List V → Hp → Prop, (∀ vs H', Same H H' → DatL H' ds vs → Q vs H') → t σ H Q
def DO (t : TO) (δ : Env) (o : Option Int) : Prop := ∀ (σ : L2.St) (H : Hp), Rep σ H δ → ∀ Q : Option Int → Hp → Prop, (∀ H', Same H H' → Q o H') → t σ H Q
inductive Out where
  | nx (δ : Env)
  | rt (r : R)
  | bk (δ : Env)
  | ct (δ : Env)
def Holds (σ : L2.St) (H : Hp) (δ : Env) (E : Ends) : Out → Prop
  | .nx δ' => ∀ σ' H', Rep σ' H' δ' → Later σ H δ σ' H' δ' → E.nx σ' H'
  | .rt r => ∀ v H', Keep (Own σ δ) H H' → RT (Own σ δ) H H' v r → E.rt v H'
  | .bk δ' => ∀ σ' H', Rep σ' H' δ' → Later σ H δ σ' H' δ' → E.bk σ' H'
  | .ct δ' => ∀ σ' H', Rep σ' H' δ' → Later σ H δ σ' H' δ' → E.ct σ' H'
def DS (t : TS) (δ : Env) (o : Out) : Prop := ∀ (σ : L2.St) (H : Hp), Rep σ H δ → ∀ E : Ends, Holds σ H δ E o → t E σ H
theorem Holds.later {σ σ1 : L2.St} {H H1 : Hp} {δ δ1 : Env} {E : Ends} {o : Out} (l : Later σ H δ σ1 H1 δ1) (h : Holds σ H δ E o) : Holds σ1 H1 δ1 E o := by
  cases o with
  | nx δ' => exact fun σ' H' R l' => h σ' H' R (l.trans l')
  | rt r => exact fun v H' k q => h v H' (fun b o e n => k b o (l.keep b o e n) fun z => (l.grow b z).elim n fun z => by rw [z] at e; cases e) (q.back l.keep l.grow)
  | bk δ' => exact fun σ' H' R l' => h σ' H' R (l.trans l')
  | ct δ' => exact fun σ' H' R l' => h σ' H' R (l.trans l')
theorem Holds.ext {σ : L2.St} {H H1 : Hp} {δ : Env} {E : Ends} {o : Out} (s : Same H H1) (h : Holds σ H δ E o) : Holds σ H1 δ E o := h.later (Later.refl s)

section
variable {K : PySem.W.Frag} {δ δ1 : Env} {ta tb tc te : TE} {tA tB : TT} {r : R} {x y : D} {i j : Int} {b c : Bool}
theorem DE.to (h : DE te δ r) {r' : R} (e : r = r') : DE te δ r' := e ▸ h
theorem DT.to (h : DT tA δ b) {b' : Bool} (e : b = b') : DT tA δ b' := e ▸ h
theorem de_var {i : Nat} (h : δ[i]? = some (some (.d x))) : DE (tVar i) δ (.d x) := fun σ H R Q q => by
  obtain ⟨v, e, s⟩ := R.val i _ h
  exact ⟨v, e, q v H (Same.refl H) s⟩
theorem de_varL {i : Nat} {xs : List D} (h : δ[i]? = some (some (.l xs))) : DE (tVar i) δ (.r xs) := fun σ H R Q q => by
  obtain ⟨v, e, a, vs, e1, e2, s⟩ := R.val i _ h
  exact ⟨v, e, q v H (Same.refl H) ⟨a, vs, e1, e2, s⟩⟩
theorem de_varR {i : Nat} {xs : List D} (h : δ[i]? = some (some (.r xs))) : DE (tVar i) δ (.r xs) := fun σ H R Q q => by
  obtain ⟨v, e, a, vs, e1, _, e2, s⟩ := R.val i _ h
  exact ⟨v, e, q v H (Same.refl H) ⟨a, vs, e1, e2, s⟩⟩
theorem de_varP {i : Nat} {φ : Hp → V → Prop} (h : δ[i]? = some (some (.p φ))) : DE (tVar i) δ (.p φ) := fun σ H R Q q => by
  obtain ⟨v, e, s⟩ := R.val i _ h
  exact ⟨v, e, q v H (Same.refl H) fun H' s' => s H' (skeep s')⟩
theorem de_c {v : V} (h : ∀ H, Dat H x v) : DE (tC v) δ (.d x) := fun _ H _ Q q => q v H (Same.refl H) (h H)
theorem de_int {i : Int} : DE (tC (.int i)) δ (.d (.int i)) := de_c fun _ => dat_int.mpr rfl
theorem de_bl {i : Bool} : DE (tC (.bl i)) δ (.d (.bl i)) := de_c fun _ => dat_bl.mpr rfl
theorem de_str {i : Str} : DE (tC (.str i)) δ (.d (.str i)) := de_c fun _ => dat_str.mpr rfl
theorem de_non : DE (tC .non) δ (.d .non) := de_c fun _ => dat_non.mpr rfl
/-- two operands -/
theorem de_op2 {rr : R2} (ha : DE ta δ (.d x)) (hb : DE tb δ (.d y)) (h : ∀ v w H, Dat H x v → Dat H y w → ∀ Q : VK, (∀ z H', Same H H' → RE H H' z r → Q z H') → rr v w H Q) : DE (tOp rr ta tb) δ r := fun σ H R Q q =>
  ha σ H R _ fun v H1 s1 d1 => hb σ H1 (R.ext s1) _ fun w H2 s2 d2 => h v w H2 (Dat.mono (.of s2) x v d1) d2 Q fun z H3 s3 d3 => q z H3 ((s1.trans s2).trans s3) (d3.back (s1.trans s2))
theorem de_I0 {f : Int → Int → V} {n : Int} (ha : DE ta δ (.d (.int i))) (hb : DE tb δ (.d (.int j))) (e : f i j = .int n := by rfl) : DE (tOp (rI0 f) ta tb) δ (.d (.int n)) :=
  de_op2 ha hb fun v w H h1 h2 Q q => ⟨i, j, dat_int.mp h1, dat_int.mp h2, by rw [e]; exact q _ H (Same.refl H) re_int⟩
theorem de_I {C : Int → Int → Prop} {f : Int → Int → V} {n : Int} (ha : DE ta δ (.d (.int i))) (hb : DE tb δ (.d (.int j))) (hc : C i j) (e : f i j = .int n := by rfl) : DE (tOp (rI C f) ta tb) δ (.d (.int n)) :=
  de_op2 ha hb fun v w H h1 h2 Q q => ⟨i, j, dat_int.mp h1, dat_int.mp h2, hc, by rw [e]; exact q _ H (Same.refl H) re_int⟩
theorem de_B0 {f : Int → Int → V} (ha : DE ta δ (.d (.int i))) (hb : DE tb δ (.d (.int j))) (e : f i j = .bl b := by rfl) : DE (tOp (rI0 f) ta tb) δ (.d (.bl b)) :=
  de_op2 ha hb fun v w H h1 h2 Q q => ⟨i, j, dat_int.mp h1, dat_int.mp h2, by rw [e]; exact q _ H (Same.refl H) re_bl⟩
theorem de_add (ha : DE ta δ (.d (.int i))) (hb : DE tb δ (.d (.int j))) : DE (tAdd ta tb) δ (.d (.int (i + j))) := fun σ H R Q q =>
  ha σ H R _ fun v H1 s1 d1 => hb σ H1 (R.ext s1) _ fun w H2 s2 d2 => ⟨i, j, reI d1, reI d2, q _ H2 (s1.trans s2) re_int⟩
theorem dec_int (i j : Int) : decide (V.int i = V.int j) = decide (i = j) := by
  by_cases h : i = j
  · subst h; simp
  · rw [decide_eq_false h]; exact decide_eq_false fun e => h (V.int.inj e)
theorem dec_str (i j : Str) : decide (V.str i = V.str j) = decide (i = j) := by
  by_cases h : i = j
  · subst h; simp
  · rw [decide_eq_false h]; exact decide_eq_false fun e => h (V.str.inj e)
theorem de_eqI (ha : DE ta δ (.d (.int i))) (hb : DE tb δ (.d (.int j))) : DE (tOp rEq ta tb) δ (.d (.bl (decide (i = j)))) :=
  de_op2 ha hb fun v w H h1 h2 Q q => by
    rw [dat_int.mp h1, dat_int.mp h2]
    exact ⟨rfl, by rw [dec_int]; exact q _ H (Same.refl H) re_bl⟩
theorem de_neI (ha : DE ta δ (.d (.int i))) (hb : DE tb δ (.d (.int j))) : DE (tOp rNe ta tb) δ (.d (.bl (!decide (i = j)))) :=
  de_op2 ha hb fun v w H h1 h2 Q q => by
    rw [dat_int.mp h1, dat_int.mp h2]
    exact ⟨rfl, by rw [dec_int]; exact q _ H (Same.refl H) re_bl⟩
theorem de_eqS {i j : Str} (ha : DE ta δ (.d (.str i))) (hb : DE tb δ (.d (.str j))) : DE (tOp rEq ta tb) δ (.d (.bl (decide (i = j)))) :=
  de_op2 ha hb fun v w H h1 h2 Q q => by
    rw [dat_str.mp h1, dat_str.mp h2]
    exact ⟨rfl, by rw [dec_str]; exact q _ H (Same.refl H) re_bl⟩
theorem de_neS {i j : Str} (ha : DE ta δ (.d (.str i))) (hb : DE tb δ (.d (.str j))) : DE (tOp rNe ta tb) δ (.d (.bl (!decide (i = j)))) :=
  de_op2 ha hb fun v w H h1 h2 Q q => by
    rw [dat_str.mp h1, dat_str.mp h2]
    exact ⟨rfl, by rw [dec_str]; exact q _ H (Same.refl H) re_bl⟩
/-- tests -/
theorem dt_test (h : DE te δ (.d (.bl b))) : DT (tTest te) δ b := fun σ H R Q q => h σ H R _ fun v H1 s1 d1 => ⟨b, reB d1, q H1 s1⟩
theorem dt_B (h : DE te δ (.d (.bl b))) : DT (L2.tB te) δ b := fun σ H R Q q => h σ H R _ fun v H1 s1 d1 => ⟨b, reB d1, q H1 s1⟩
theorem dt_not (h : DT tA δ b) : DT (tNot tA) δ (!b) := fun σ H R Q q => h σ H R _ fun H1 s1 => q H1 s1
theorem dt_and (h : DT tA δ b) (h2 : b = true → DT tB δ c) : DT (tAnd tA tB) δ (b && c) := fun σ H R Q q => h σ H R _ fun H1 s1 => by
  cases b with
  | true => exact h2 rfl σ H1 (R.ext s1) Q fun H2 s2 => q H2 (s1.trans s2)
  | false => exact q H1 s1
theorem dt_or (h : DT tA δ b) (h2 : b = false → DT tB δ c) : DT (tOr tA tB) δ (b || c) := fun σ H R Q q => h σ H R _ fun H1 s1 => by
  cases b with
  | true => exact q H1 s1
  | false => exact h2 rfl σ H1 (R.ext s1) Q fun H2 s2 => q H2 (s1.trans s2)
theorem de_and (h : DE ta δ (.d (.bl b))) (h2 : b = true → DE tb δ (.d (.bl c))) : DE (tAndV ta tb) δ (.d (.bl (b && c))) := fun σ H R Q q => h σ H R _ fun v H1 s1 d1 => ⟨b, reB d1, by
  cases b with
  | true => exact h2 rfl σ H1 (R.ext s1) Q fun w H2 s2 d2 => q w H2 (s1.trans s2) (d2.back s1)
  | false => exact q _ H1 s1 re_bl⟩
theorem de_or (h : DE ta δ (.d (.bl b))) (h2 : b = false → DE tb δ (.d (.bl c))) : DE (tOrV ta tb) δ (.d (.bl (b || c))) := fun σ H R Q q => h σ H R _ fun v H1 s1 d1 => ⟨b, reB d1, by
  cases b with
  | true => exact q _ H1 s1 re_bl
  | false => exact h2 rfl σ H1 (R.ext s1) Q fun w H2 s2 d2 => q w H2 (s1.trans s2) (d2.back s1)⟩
theorem de_not (h : DE ta δ (.d (.bl b))) : DE (tNotV ta) δ (.d (.bl (!b))) := fun σ H R Q q => h σ H R _ fun v H1 s1 d1 => ⟨b, reB d1, q _ H1 s1 re_bl⟩
theorem de_if (h : DT tA δ b) (h1 : b = true → DE ta δ r) (h2 : b = false → DE tb δ r) : DE (tIf tA ta tb) δ r := fun σ H R Q q => h σ H R _ fun H1 s1 => by
  cases b with
  | true => exact h1 rfl σ H1 (R.ext s1) Q fun w H2 s2 d2 => q w H2 (s1.trans s2) (d2.back s1)
  | false => exact h2 rfl σ H1 (R.ext s1) Q fun w H2 s2 d2 => q w H2 (s1.trans s2) (d2.back s1)
/-- x <= y <= z -/
theorem de_chainI {f g : Int → Int → V} {k : Int} (ha : DE ta δ (.d (.int i))) (hb : DE tb δ (.d (.int j))) (hc : DE tc δ (.d (.int k))) (e : f i j = .bl b := by rfl) (e2 : g j k = .bl c := by rfl) : DE (tChain (rI0 f) (rI0 g) ta tb tc) δ (.d (.bl (b && c))) := fun σ H R Q q =>
  ha σ H R _ fun v H1 s1 d1 => hb σ H1 (R.ext s1) _ fun w H2 s2 d2 => ⟨i, j, reI d1, reI d2, by
    rw [e]
    refine ⟨b, rfl, ?_⟩
    cases b with
    | true => exact hc σ H2 (R.ext (s1.trans s2)) _ fun z H3 s3 d3 => ⟨j, k, reI d2, reI d3, by rw [e2]; exact q _ H3 ((s1.trans s2).trans s3) re_bl⟩
    | false => exact q _ H2 (s1.trans s2) re_bl⟩
/-- arguments -/
theorem da_nil : DA tNil δ [] := fun _ H _ Q q => q [] H (Same.refl H) rfl
def R.arg : R → R
  | .l xs => .r xs
  | r => r
theorem RE.arg {H H' : Hp} {v : V} {r : R} (h : RE H H' v r) (hk : ∀ kvs, r ≠ .k kvs) : RA H' v r.arg := by
  cases r with
  | d x => exact h
  | l xs => obtain ⟨a, vs, e, _, q⟩ := h; exact ⟨a, vs, e, q⟩
  | r xs => exact h
  | k kvs => exact absurd rfl (hk kvs)
  | p φ => exact h
theorem da_cons {tr : TA} {rs : List R} (h : DE te δ r) (h2 : DA tr δ rs) (hk : ∀ kvs, r ≠ .k kvs := by intro _ z; cases z) : DA (tCons te tr) δ (r.arg :: rs) := fun σ H R Q q =>
  h σ H R _ fun v H1 s1 d1 => h2 σ H1 (R.ext s1) _ fun vs H2 s2 d2 => q _ H2 (s1.trans s2) ⟨v, vs, rfl, (d1.arg hk).ext s2, d2⟩
theorem da_d {tr : TA} {rs : List R} (h : DE te δ (.d x)) (h2 : DA tr δ rs) : DA (tCons te tr) δ (.d x :: rs) := da_cons h h2
theorem da_l {tr : TA} {rs : List R} {xs : List D} (h : DE te δ (.l xs)) (h2 : DA tr δ rs) : DA (tCons te tr) δ (.r xs :: rs) := da_cons h h2
theorem da_r {tr : TA} {rs : List R} {xs : List D} (h : DE te δ (.r xs)) (h2 : DA tr δ rs) : DA (tCons te tr) δ (.r xs :: rs) := da_cons h h2
theorem da_p {tr : TA} {rs : List R} {φ : Hp → V → Prop} (h : DE te δ (.p φ)) (h2 : DA tr δ rs) : DA (tCons te tr) δ (.p φ :: rs) := da_cons h h2
theorem dd_nil : DAd tNil δ [] := fun _ H _ Q q => q [] H (Same.refl H) (datL_nil.mpr rfl)
theorem dd_cons {tr : TA} {ds : List D} (h : DE te δ (.d x)) (h2 : DAd tr δ ds) : DAd (tCons te tr) δ (x :: ds) := fun σ H R Q q =>
  h σ H R _ fun v H1 s1 d1 => h2 σ H1 (R.ext s1) _ fun vs H2 s2 d2 => q _ H2 (s1.trans s2) (datL_cons.mpr ⟨v, vs, rfl, Dat.mono (.of s2) x v d1, d2⟩)
theorem le_line {n : Nat} (h : n ≤ 100000) : n ≤ sizeLine := Nat.le_trans h (by decide)
theorem lt_line {n : Nat} (h : n < 100000) : n < sizeLine := Nat.lt_of_lt_of_le h (by decide)
theorem same_upd {H : Hp} {p : Addr} {o : HO} (h : H p = none) : Same H (upd H p o) := fun b u e => by
  rw [upd_ne (ne_of_none e h)]
  exact e
theorem de_tup {t : TA} {ds : List D} (h : DAd t δ ds) (hl : ds.length ≤ 100000 := by (first | decide | simp)) : DE (tTupF t) δ (.d (.tup ds)) := fun σ H R Q q =>
  h σ H R _ fun vs H1 s1 d1 => ⟨le_line (by rw [d1.length]; exact hl), fun p o hp hd => q _ _ (s1.trans (same_upd hp)) (re_tup (.new hd) (d1.mono (.of (same_upd hp))))⟩
theorem de_lst {t : TA} {ds : List D} (h : DAd t δ ds) (hl : ds.length ≤ 100000 := by (first | decide | simp)) : DE (tLst t) δ (.l ds) := fun σ H R Q q =>
  h σ H R _ fun vs H1 s1 d1 => ⟨le_line (by rw [d1.length]; exact hl), fun p hp => q _ _ (s1.trans (same_upd hp)) ⟨p, vs, rfl, s1.free hp, upd_same, d1.mono (.of (same_upd hp))⟩⟩

/-! ### calls of defs -/
/-- the promise of a def over data -/
def spD (rel : List R → R → Prop) : Sp := fun vs H Q _ => ∃ rs r, RAL H rs vs ∧ rel rs r ∧ ∀ v H', Same H H' → RE H H' v r → Q v H'
theorem de_call {rel : List R → R → Prop} {E : XK} {t : TA} {rs : List R} (h : DA t δ rs) (hr : rel rs r) : DE (tCall (spD rel) [] E t) δ r := fun σ H R Q q =>
  h σ H R _ fun vs H1 s1 d1 => ⟨rs, r, by rw [List.append_nil]; exact d1, hr, fun v H2 s2 d2 => q v H2 (s1.trans s2) (d2.back s1)⟩

/-! ### statements -/
variable {t u : TS} {o : Out} {D' : Ends}
theorem ds_seq (h : DS t δ (.nx δ1)) (h2 : DS u δ1 o) : DS (tSeq t u) δ o := fun σ H R E q => h σ H R _ fun σ1 H1 R1 l => h2 σ1 H1 R1 E (q.later l)
theorem ds_stop {r : R} (h : DS t δ (.rt r)) : DS (tSeq t u) δ (.rt r) := fun σ H R E q => h σ H R { E with nx := u E } q
theorem ds_stopB (h : DS t δ (.bk δ1)) : DS (tSeq t u) δ (.bk δ1) := fun σ H R E q => h σ H R { E with nx := u E } q
theorem ds_stopC (h : DS t δ (.ct δ1)) : DS (tSeq t u) δ (.ct δ1) := fun σ H R E q => h σ H R { E with nx := u E } q
theorem ds_next : DS tNext δ (.nx δ) := fun σ H R _ q => q σ H R (Later.refl (Same.refl H))
theorem ds_break : DS tBreak δ (.bk δ) := fun σ H R _ q => q σ H R (Later.refl (Same.refl H))
theorem ds_cont : DS tCont δ (.ct δ) := fun σ H R _ q => q σ H R (Later.refl (Same.refl H))
theorem ds_yes (h : DT tA δ true) (h2 : DS t δ o) : DS (tIfS tA t u) δ o := fun σ H R E q => h σ H R _ fun H1 s1 => h2 σ H1 (R.ext s1) E (q.ext s1)
theorem ds_no (h : DT tA δ false) (h2 : DS u δ o) : DS (tIfS tA t u) δ o := fun σ H R E q => h σ H R _ fun H1 s1 => h2 σ H1 (R.ext s1) E (q.ext s1)
theorem ds_if (h : DT tA δ b) (h1 : b = true → DS t δ o) (h2 : b = false → DS u δ o) : DS (tIfS tA t u) δ o := by
  cases b with
  | true => exact ds_yes h (h1 rfl)
  | false => exact ds_no h (h2 rfl)
theorem ds_ret (h : DE te δ r) (hr : ∀ xs, r ≠ .r xs := by intro _ z; cases z) : DS (tRet te) δ (.rt r) := fun σ H R E q => h σ H R _ fun v H1 s1 d1 => q v H1 (skeep s1) (d1.rt hr)
/-- a list of our own is handed back -/
theorem ds_retL {i : Nat} {xs : List D} (h : δ[i]? = some (some (.l xs))) : DS (tRet (tVar i)) δ (.rt (.l xs)) := fun σ H R E q => by
  obtain ⟨v, e, a, vs, e1, e2, s⟩ := R.val i _ h
  exact ⟨v, e, q v H (skeep (Same.refl H)) ⟨a, vs, e1, .inl ⟨i, _, h, rfl, by rw [e, e1]⟩, e2, s⟩⟩
theorem ds_retN : DS tRetN δ (.rt (.d .non)) := fun σ H R E q => q .non H (skeep (Same.refl H)) (RE.rt (H := H) re_non fun _ z => nomatch z)
theorem ds_set {i : Nat} (h : DE te δ (.d x)) : DS (tAsg te (gName i)) δ (.nx (δ.set i (some (.d x)))) := fun σ H R E q =>
  h σ H R _ fun v H1 s1 d1 => q _ _ (R.setD s1 i d1.d) (Later.setD s1 i)
theorem ds_setL {i : Nat} {xs : List D} (h : DE te δ (.l xs)) : DS (tAsg te (gName i)) δ (.nx (δ.set i (some (.l xs)))) := fun σ H R E q =>
  h σ H R _ fun v H1 s1 d1 => q _ _ (R.setL s1 i d1) (Later.setL s1 i d1)
theorem ds_drop (h : DE te δ r) : DS (tDrop te) δ (.nx δ) := fun σ H R E q => h σ H R _ fun v H1 s1 d1 => q σ H1 (R.ext s1) (Later.refl s1)
/-- a, b = x, y -/
theorem ds_par {i j : Nat} {t : TA} (h : DAd t δ [x, y]) : DS (tPar i j t) δ (.nx ((δ.set i (some (.d x))).set j (some (.d y)))) := fun σ H R E q =>
  h σ H R _ fun vs H1 s1 d1 => by
    obtain ⟨v, r1, e1, h1, d2⟩ := datL_cons.mp d1
    obtain ⟨w, r2, e2, h2, d3⟩ := datL_cons.mp d2
    rw [datL_nil.mp d3] at e2
    subst e2
    exact ⟨v, w, e1, q _ _ ((R.setD s1 i h1).setD (Same.refl H1) j h2) ((Later.setD s1 i).trans (Later.setD (Same.refl H1) j))⟩
/-- forget slots -/
theorem ds_weak {t : TS} (h : DS t δ1 o) (hl : δ1.length = δ.length) (w : ∀ (i : Nat) (r : R), δ1[i]? = some (some r) → δ[i]? = some (some r)) : DS t δ o := fun σ H R E q => by
  obtain ⟨R', l⟩ := R.weak hl w
  exact h σ H R' E (q.later l)
end

/-! ### a def by its body -/
def startE (N : List Str) (rs : List R) : Env := rs.map some ++ List.replicate (N.length - rs.length) none
theorem ral_get {H : Hp} : ∀ {rs : List R} {vs : List V} {i : Nat} {r : R}, RAL H rs vs → rs[i]? = some r → ∃ v, vs[i]? = some v ∧ RA H v r
  | [], _, _, _, _, e => by simp at e
  | q :: rs, _, 0, r, h, e => by
    obtain ⟨v, us, e1, h1, _⟩ := h
    subst e1
    have e : q = r := by simpa using e
    subst e
    exact ⟨v, rfl, h1⟩
  | q :: rs, _, i + 1, r, h, e => by
    obtain ⟨v, us, e1, _, h2⟩ := h
    subst e1
    obtain ⟨w, a, b⟩ := ral_get (i := i) h2 (by simpa using e)
    exact ⟨w, by simpa using a, b⟩
/-- the arguments that a def over data takes -/
def ArgOk : R → Prop
  | .d _ => True
  | .r _ => True
  | .p _ => True
  | _ => False
theorem rep_start {H : Hp} {N : List Str} {rs : List R} {vs : List V} (h : RAL H rs vs) (ha : ∀ r ∈ rs, ArgOk r) : Rep (L2.start N vs) H (startE N rs) ∧ ∀ a, ¬ Own (L2.start N vs) (startE N rs) a := by
  have hl := h.length
  have get : ∀ (i : Nat) (r : R), (startE N rs)[i]? = some (some r) → rs[i]? = some r := fun i r e => by
    unfold startE at e
    by_cases c : i < rs.length
    · rw [List.getElem?_append_left (by simpa using c), List.getElem?_map] at e
      cases q : rs[i]? with
      | none => rw [q] at e; cases e
      | some x =>
        rw [q] at e
        exact congrArg some (Option.some.inj (Option.some.inj e))
    · rw [List.getElem?_append_right (by simpa using c), List.getElem?_replicate] at e
      split at e <;> cases e
  have notown : ∀ r ∈ rs, r.own = false := fun r hr => by
    have ok := ha r hr
    cases r <;> first | rfl | exact ok.elim
  have no : ∀ a, ¬ Own (L2.start N vs) (startE N rs) a := fun a ⟨i, x, e1, e2, _⟩ => by
    rw [notown x (List.mem_of_getElem? (get i x e1))] at e2
    cases e2
  refine ⟨⟨?_, fun i r e => ?_, fun i j x y a n e1 o1 => ?_⟩, no⟩
  · unfold L2.start startE
    simp [hl]
  · have q := get i r e
    obtain ⟨v, e1, h1⟩ := ral_get h q
    refine ⟨v, ?_, ?_⟩
    · unfold L2.start
      have hi : i < vs.length := (List.getElem?_eq_some_iff.mp e1).1
      rw [List.getElem?_append_left (by simpa using hi), List.getElem?_map, e1]
      rfl
    · have ok := ha r (List.mem_of_getElem? q)
      cases r with
      | d x => exact h1
      | l xs => exact ok.elim
      | r xs => obtain ⟨a, us, q⟩ := h1; exact ⟨a, us, q.1, no a, q.2⟩
      | k kvs => exact ok.elim
      | p φ => exact fun H' k => h1 H' fun b o e => k b o e (no b)
  · rw [notown x (List.mem_of_getElem? (get i _ e1))] at o1
    cases o1
section
variable {P : Program} {w : World} {K : PySem.W.Frag} {mg : Str → Option Value} {base : Heap}
/-- THE RULE for a def over data: its body's derivation, and the reading of it at all arguments -/
theorem fn_D {x qual : Str} {st : Stmt} {f : Addr} {fd : FuncData} {N ps : List Str} {k : Nat} {rel : List R → R → Prop} (F : Fun K x qual st f fd) (S : FnScope N ps (defScope st)) (hl : ∀ rs r, rel rs r → rs.length = ps.length ∧ ∀ q ∈ rs, ArgOk q)
    (hbody : ∀ (cdv : Value) (A : Around) (outer : List PySem.Env) (s : Shared) (H : Hp) (E : XK), Room k (A.deeper (envOfC qual (defScope st) s.heap.objs.size f cdv)) →
      ∃ t, PSs (cxOf CX0 P w K mg base N qual (defScope st) f cdv A outer s H E).nox (defBody st) t ∧ ∀ rs r, rel rs r → DS t (startE N rs) (.rt r)) : FnOk P w K mg base CX0 (k + 1) f fd ps (spD rel) := by
  refine F.ok S (fun vs H Q E h => ?_) (fun cdv A outer s H vs Q E hr h => ?_)
  · obtain ⟨rs, r, a, b, _⟩ := h
    rw [a.length]
    exact (hl rs r b).1
  · obtain ⟨rs, r, a, b, q⟩ := h
    obtain ⟨t, h1, h2⟩ := hbody cdv A outer s H E hr
    obtain ⟨R0, no⟩ := rep_start (N := N) a (hl rs r b).2
    refine ⟨t, h1, h2 rs r b _ H R0 _ fun v H' k' d' => q v H' (fun c o e => k' c o e (no c)) ?_⟩
    cases r with
    | d x => exact d'
    | l xs => obtain ⟨c, us, e, n, z⟩ := d'; exact ⟨c, us, e, n.resolve_left (no c), z⟩
    | r xs => exact d'.elim
    | k kvs => obtain ⟨c, e, n, z⟩ := d'; exact ⟨c, e, n.resolve_left (no c), z⟩
    | p φ => exact d'
end
end DL
-- part DL2
set_option linter.all false
set_option maxRecDepth 100000
set_option maxHeartbeats 2000000
/-! The data layer, part 2: loops, comprehensions, subscripts, slices, built-ins. -/
namespace DL
open PySem PySem.Spec PyProof.Rows L2

/-! ### targets -/
/-- only the slots in l change -/
def Chg (l : List Nat) (σ σ' : L2.St) : Prop := σ'.length = σ.length ∧ ∀ j, j ∉ l → σ'[j]? = σ[j]?
theorem wipe_get (σ : L2.St) : ∀ (vs : List Nat) (j : Nat), (wipe σ vs)[j]? = if j ∈ vs then (if j < σ.length then some none else none) else σ[j]?
  | [], j => by simp [wipe]
  | v :: vs, j => by
    unfold wipe
    by_cases c : v = j
    · subst c
      by_cases l : v < σ.length
      · rw [List.getElem?_set_self (by rw [wipe_length]; exact l)]
        simp [l]
      · rw [List.getElem?_eq_none (by rw [List.length_set, wipe_length]; omega)]
        simp [l]
    · rw [List.getElem?_set_ne c, wipe_get σ vs j]
      have : (j ∈ v :: vs) ↔ j ∈ vs := by
        rw [List.mem_cons]
        exact ⟨fun h => h.resolve_left fun e => c e.symm, .inr⟩
      simp only [this]
theorem Chg.wipe {l vs : List Nat} {σ σ' : L2.St} (h : Chg l (L2.wipe σ vs) σ') (hs : ∀ i ∈ l, i ∈ vs) : L2.wipe σ' vs = L2.wipe σ vs := by
  apply List.ext_getElem?
  intro j
  rw [wipe_get, wipe_get]
  have hl : σ'.length = σ.length := by rw [h.1, wipe_length]
  by_cases c : j ∈ vs
  · rw [if_pos c, if_pos c, hl]
  · rw [if_neg c, if_neg c, h.2 j fun z => c (hs j z), wipe_get, if_neg c]
theorem Chg.refl (l : List Nat) (σ : L2.St) : Chg l σ σ := ⟨rfl, fun _ _ => rfl⟩
theorem Chg.set (σ : L2.St) (i : Nat) (o : Option V) : Chg [i] σ (σ.set i o) := ⟨by rw [List.length_set], fun j hj => List.getElem?_set_ne fun e => hj (by simp [e])⟩
theorem Chg.trans {l l' : List Nat} {σ σ1 σ2 : L2.St} (a : Chg l σ σ1) (b : Chg l' σ1 σ2) : Chg (l ++ l') σ σ2 :=
  ⟨b.1.trans a.1, fun j hj => by
    rw [b.2 j fun z => hj (List.mem_append_right _ z), a.2 j fun z => hj (List.mem_append_left _ z)]⟩
def wipeE (δ : Env) : List Nat → Env
  | [] => δ
  | v :: vs => (wipeE δ vs).set v none
theorem wipeE_length (δ : Env) : ∀ vs : List Nat, (wipeE δ vs).length = δ.length
  | [] => rfl
  | v :: vs => by unfold wipeE; rw [List.length_set, wipeE_length δ vs]
theorem wipeE_some {δ : Env} {i : Nat} {x : R} : ∀ {vs : List Nat}, (wipeE δ vs)[i]? = some (some x) → δ[i]? = some (some x) ∧ i ∉ vs
  | [], h => ⟨h, by simp⟩
  | v :: vs, h => by
    unfold wipeE at h
    by_cases hi : v = i
    · subst hi
      by_cases hv : v < (wipeE δ vs).length
      · rw [List.getElem?_set_self hv] at h; cases h
      · rw [List.getElem?_eq_none (by simpa using hv)] at h; cases h
    · rw [List.getElem?_set_ne hi] at h
      obtain ⟨h1, h2⟩ := wipeE_some h
      exact ⟨h1, by simp only [List.mem_cons, not_or]; exact ⟨fun e => hi e.symm, h2⟩⟩
theorem Rep.wipe {σ : L2.St} {H : Hp} {δ : Env} (h : Rep σ H δ) (vs : List Nat) : Rep (L2.wipe σ vs) H (wipeE δ vs) := by
  have ow : ∀ a, Own (L2.wipe σ vs) (wipeE δ vs) a → Own σ δ a := fun a ⟨i, x, e1, e2, e3⟩ => ⟨i, x, (wipeE_some e1).1, e2, (wipe_some e3).1⟩
  refine ⟨by rw [wipe_length, wipeE_length]; exact h.len, fun i r e => ?_, fun i j x y a n e1 o1 e2 o2 e3 e4 => h.dist i j x y a n (wipeE_some e1).1 o1 (wipeE_some e2).1 o2 (wipe_some e3).1 (wipe_some e4).1⟩
  obtain ⟨e1, e2⟩ := wipeE_some e
  obtain ⟨v, e3, q⟩ := h.val i r e1
  refine ⟨v, by rw [wipe_get, if_neg e2]; exact e3, ?_⟩
  cases r with
  | d x => exact q
  | l xs => exact q
  | r xs => obtain ⟨a, us, ea, n, q⟩ := q; exact ⟨a, us, ea, fun z => n (ow a z), q⟩
  | k kvs => exact q
  | p φ => exact fun H' k => q H' (k.mono ow)

inductive Tg where
  | nm (i : Nat)
  | tp (is : List Nat)
def setAll : List Nat → List D → Env → Option Env
  | [], [], δ => some δ
  | i :: is, d :: ds, δ => setAll is ds (δ.set i (some (.d d)))
  | _, _, _ => none
def Tg.set : Tg → D → Env → Option Env
  | .nm i, d, δ => some (δ.set i (some (.d d)))
  | .tp is, .tup ds, δ => setAll is ds δ
  | .tp _, _, _ => none
def Tg.slots : Tg → List Nat
  | .nm i => [i]
  | .tp is => is
def GOk (g : TG) (T : Tg) : Prop := ∀ (σ : L2.St) (H : Hp) (δ δ' : Env) (v : V) (d : D), Rep σ H δ → Dat H d v → T.set d δ = some δ' →
  ∀ Q : L2.St → Hp → Prop, (∀ σ', Rep σ' H δ' → Later σ H δ σ' H δ' → Chg T.slots σ σ' → Q σ' H) → g v σ H Q
def GsOk (g : TGs) (is : List Nat) : Prop := ∀ (σ : L2.St) (H : Hp) (δ δ' : Env) (vs : List V) (ds : List D), Rep σ H δ → DatL H ds vs → setAll is ds δ = some δ' →
  ∀ Q : L2.St → Hp → Prop, (∀ σ', Rep σ' H δ' → Later σ H δ σ' H δ' → Chg is σ σ' → Q σ' H) → g vs σ H Q
theorem gok_nm {i : Nat} : GOk (gName i) (.nm i) := fun σ H δ δ' v d R h e Q q => by
  have e : δ.set i (some (.d d)) = δ' := Option.some.inj e
  subst e
  exact q _ (R.setD (Same.refl H) i h) (Later.setD (Same.refl H) i) (Chg.set σ i _)
theorem gsok_nil : GsOk gNil [] := fun σ H δ δ' vs ds R h e Q q => by
  cases ds with
  | nil =>
    have e : δ = δ' := Option.some.inj e
    subst e
    exact ⟨datL_nil.mp h, q σ R (Later.refl (Same.refl H)) (Chg.refl _ σ)⟩
  | cons d ds => cases e
theorem gsok_cons {i : Nat} {is : List Nat} {g : TGs} (hg : GsOk g is) : GsOk (gCons (gName i) g) (i :: is) := fun σ H δ δ' vs ds R h e Q q => by
  cases ds with
  | nil => cases e
  | cons d ds =>
    obtain ⟨v, r, e1, h1, h2⟩ := datL_cons.mp h
    refine ⟨v, r, e1, ?_⟩
    exact hg _ H _ δ' r ds (R.setD (Same.refl H) i h1) h2 e Q fun σ' R' l c => q σ' R' ((Later.setD (Same.refl H) i).trans l) ((Chg.set σ i _).trans c)
theorem setAll_len : ∀ {is : List Nat} {ds : List D} {δ δ' : Env}, setAll is ds δ = some δ' → ds.length = is.length
  | [], [], _, _, _ => rfl
  | i :: is, d :: ds, δ, _, e => congrArg (· + 1) (setAll_len (is := is) (ds := ds) (δ := δ.set i (some (.d d))) e)
  | [], _ :: _, _, _, e => by cases e
  | _ :: _, [], _, _, e => by cases e
theorem gok_tp {K : PySem.W.Frag} {n : Nat} {is : List Nat} {g : TGs} (hg : GsOk g is) (hn : is.length = n := by rfl) : GOk (gTup K n g) (.tp is) := fun σ H δ δ' v d R h e Q q => by
  cases d with
  | tup ds =>
    obtain ⟨a, xs, e1, e2, h2⟩ := dat_tup.mp h
    exact ⟨a, xs, e1, e2.sqt, by rw [h2.length, setAll_len e]; exact hn, hg σ H δ δ' xs ds R h2 e Q q⟩
  | non => cases e
  | bl b => cases e
  | int i => cases e
  | str x => cases e
/-- an own address holds a list or a dict -/
theorem Rep.ownObj {σ : L2.St} {H : Hp} {δ : Env} (h : Rep σ H δ) {a : Addr} (o : Own σ δ a) : (∃ vs, H a = some (.lst vs)) ∨ ∃ kvs, H a = some (.dK kvs) := by
  obtain ⟨i, x, e1, e2, e3⟩ := o
  obtain ⟨v, e4, q⟩ := h.val i x e1
  rw [e3] at e4
  have ev : v = .ref a := (Option.some.inj (Option.some.inj e4)).symm
  subst ev
  cases x with
  | d x => cases e2
  | r x => cases e2
  | p x => cases e2
  | l xs => obtain ⟨b, vs, e, hb, _⟩ := q; cases e; exact .inl ⟨vs, hb⟩
  | k kvs => obtain ⟨b, e, hb⟩ := q; cases e; exact .inr ⟨kvs, hb⟩
theorem Rep.tupNot {σ : L2.St} {H : Hp} {δ : Env} (h : Rep σ H δ) {a : Addr} {xs : List V} (e : RdT H a xs) : ¬ Own σ δ a := fun o => by
  obtain ⟨ob, e, _⟩ := e
  rcases h.ownObj o with ⟨vs, q⟩ | ⟨kvs, q⟩ <;> rw [q] at e <;> cases e
theorem Rep.newNot {σ : L2.St} {H : Hp} {δ : Env} (h : Rep σ H δ) {a : Addr} (e : H a = none) : ¬ Own σ δ a := fun o => by
  rcases h.ownObj o with ⟨vs, q⟩ | ⟨kvs, q⟩ <;> rw [q] at e <;> cases e

/-! ### loops -/
inductive Loop (tb : TS) (T : Tg) : List D → Env → Out → Prop
  | nil {δ : Env} : Loop tb T [] δ (.nx δ)
  | next {d : D} {ds : List D} {δ δ1 δ2 : Env} {o : Out} (e : T.set d δ = some δ1) (h : DS tb δ1 (.nx δ2)) (l : Loop tb T ds δ2 o) : Loop tb T (d :: ds) δ o
  | cont {d : D} {ds : List D} {δ δ1 δ2 : Env} {o : Out} (e : T.set d δ = some δ1) (h : DS tb δ1 (.ct δ2)) (l : Loop tb T ds δ2 o) : Loop tb T (d :: ds) δ o
  | ret {d : D} {ds : List D} {δ δ1 : Env} {r : R} (e : T.set d δ = some δ1) (h : DS tb δ1 (.rt r)) : Loop tb T (d :: ds) δ (.rt r)
  | brk {d : D} {ds : List D} {δ δ1 δ2 : Env} (e : T.set d δ = some δ1) (h : DS tb δ1 (.bk δ2)) : Loop tb T (d :: ds) δ (.nx δ2)
/-- the turn of any loop whose items are data -/
theorem loop_turn {tb : TS} {T : Tg} {g : TG} (hg : GOk g T) {d : D} {ds : List D} {δ : Env} {o : Out} (L : Loop tb T (d :: ds) δ o) {σ : L2.St} {H : Hp} (R0 : Rep σ H δ) {v : V} (hv : Dat H d v) {E : Ends} (q : Holds σ H δ E o) :
    ∃ N : L2.St → Hp → Prop, (∀ σ' H', N σ' H' → ∃ δ', Rep σ' H' δ' ∧ Later σ H δ σ' H' δ' ∧ Loop tb T ds δ' o) ∧ g v σ H fun σ2 H2 => tb { E with nx := N, ct := N, bk := E.nx } σ2 H2 := by
  refine ⟨fun σ' H' => ∃ δ', Rep σ' H' δ' ∧ Later σ H δ σ' H' δ' ∧ Loop tb T ds δ' o, fun _ _ h => h, ?_⟩
  cases L with
  | next e h l => exact hg σ H δ _ v d R0 hv e _ fun σ2 R2 l2 _ => h σ2 H R2 _ fun σ3 H3 R3 l3 => ⟨_, R3, l2.trans l3, l⟩
  | cont e h l => exact hg σ H δ _ v d R0 hv e _ fun σ2 R2 l2 _ => h σ2 H R2 _ fun σ3 H3 R3 l3 => ⟨_, R3, l2.trans l3, l⟩
  | ret e h => exact hg σ H δ _ v d R0 hv e _ fun σ2 R2 l2 _ => h σ2 H R2 { E with nx := _, ct := _, bk := E.nx } (Holds.later (o := .rt _) l2 q)
  | brk e h => exact hg σ H δ _ v d R0 hv e _ fun σ2 R2 l2 _ => h σ2 H R2 _ fun σ3 H3 R3 l3 => q σ3 H3 R3 (l2.trans l3)
section
variable {K : PySem.W.Frag} {δ δ1 : Env} {ta tb tc te tl : TE} {tA tB : TT} {r : R} {x y : D} {i j : Int} {b c : Bool} {o : Out}
/-- over an object that stands through the loop -/
theorem loop_over {tbd : TS} {T : Tg} {g : TG} (hg : GOk g T) {ds : List D} (L : Loop tbd T ds δ o) {σ : L2.St} {H : Hp} (R0 : Rep σ H δ) {E : Ends} (q : Holds σ H δ E o) (J : It) {P : Hp → Prop}
    (hP : P H) (hk : ∀ H', Keep (Own σ δ) H H' → P H → P H')
    (go : ∀ (k : Nat) (d : D) H', P H' → ds[k]? = some d → J.go k H' ∧ ∀ v H'', J.yld k H' v H'' → H'' = H' ∧ (Keep (Own σ δ) H H' → Dat H' d v)) (stop : ∀ H', P H' → J.stop ds.length H') :
    ∃ W : Nat → Nat → L2.St → Hp → Prop, (∃ m, W 0 m σ H) ∧ ∀ i m σ H, W i m σ H →
      (J.stop i H ∧ E.nx σ H) ∨ (J.go i H ∧ ∃ N : L2.St → Hp → Prop, (∀ σ' H', N σ' H' → ∃ m', m' < m ∧ W (i + 1) m' σ' H') ∧ ∀ x H', J.yld i H x H' → g x σ H' fun σ2 H2 => tbd { E with nx := N, ct := N, bk := E.nx } σ2 H2) := by
  refine ⟨fun i m σ' H' => m = ds.length - i ∧ i ≤ ds.length ∧ ∃ δ', Rep σ' H' δ' ∧ Later σ H δ σ' H' δ' ∧ Loop tbd T (ds.drop i) δ' o, ⟨ds.length, by simp, Nat.zero_le _, δ, R0, Later.refl (Same.refl H), by simpa using L⟩, ?_⟩
  rintro i m σ' H' ⟨rfl, hi, δ', R', l', L'⟩
  have p := hk H' l'.keep hP
  by_cases c : i < ds.length
  · right
    have ed : ds.drop i = ds[i] :: ds.drop (i + 1) := List.drop_eq_getElem_cons c
    obtain ⟨g1, g2⟩ := go i ds[i] H' p (List.getElem?_eq_getElem c)
    refine ⟨g1, fun σ2 H2 => ∃ δ2, Rep σ2 H2 δ2 ∧ Later σ H δ σ2 H2 δ2 ∧ Loop tbd T (ds.drop (i + 1)) δ2 o, fun σ2 H2 ⟨δ2, h1, h2, h3⟩ => ⟨ds.length - (i + 1), by omega, rfl, c, δ2, h1, h2, h3⟩, fun v H2 y => ?_⟩
    obtain ⟨e, dv⟩ := g2 v H2 y
    subst e
    rw [ed] at L'
    have dv := dv l'.keep
    cases L' with
    | next e h l => exact hg σ' H2 δ' _ v _ R' dv e _ fun σ3 R3 l3 _ => h σ3 H2 R3 _ fun σ4 H4 R4 l4 => ⟨_, R4, (l'.trans l3).trans l4, l⟩
    | cont e h l => exact hg σ' H2 δ' _ v _ R' dv e _ fun σ3 R3 l3 _ => h σ3 H2 R3 _ fun σ4 H4 R4 l4 => ⟨_, R4, (l'.trans l3).trans l4, l⟩
    | ret e h => exact hg σ' H2 δ' _ v _ R' dv e _ fun σ3 R3 l3 _ => h σ3 H2 R3 { E with nx := _, ct := _, bk := E.nx } (Holds.later (o := .rt _) (l'.trans l3) q)
    | brk e h => exact hg σ' H2 δ' _ v _ R' dv e _ fun σ3 R3 l3 _ => h σ3 H2 R3 _ fun σ4 H4 R4 l4 => q σ4 H4 R4 ((l'.trans l3).trans l4)
  · left
    have e : i = ds.length := by omega
    subst e
    rw [List.drop_length] at L'
    cases L'
    exact ⟨stop H' p, q σ' H' R' l'⟩
theorem ds_forT {tbd : TS} {T : Tg} {g : TG} {ds : List D} (hg : GOk g T) (h : DE tl δ (.d (.tup ds))) (L : Loop tbd T ds δ o) : DS (tFor (iTup K tl) g tbd) δ o := fun σ H R0 E q =>
  h σ H R0 _ fun v H1 s1 d1 => by
    obtain ⟨a, xs, e, e2, q2⟩ := reT d1
    refine ⟨a, e, ⟨xs, e2.sqt⟩, ?_⟩
    have R1 := R0.ext s1
    have no := R1.tupNot e2
    refine loop_over hg L R1 (q.ext s1) (Itt K a) (P := fun H' => RdT H' a xs) e2 (fun H' k p => p.keep fun o e => k a o e no) (fun k d H' p hd => ?_) fun H' p => ⟨xs, p.sqt, by rw [q2.length]; exact Nat.le_refl _⟩
    obtain ⟨w, hw, dw⟩ := q2.get hd
    refine ⟨⟨xs, w, p.sqt, hw⟩, fun u H'' y => ⟨y.1, fun kk => ?_⟩⟩
    have := y.2 xs (p.sqt)
    rw [hw] at this
    cases this
    exact Dat.mono (fun b ys eb => eb.keep fun o e => kk b o e (R1.tupNot eb)) d w dw
theorem ds_forL {tbd : TS} {T : Tg} {g : TG} {ds : List D} (hg : GOk g T) (h : DE tl δ (.l ds)) (L : Loop tbd T ds δ o) : DS (tFor (iList K tl) g tbd) δ o := fun σ H R0 E q =>
  h σ H R0 _ fun v H1 s1 d1 => by
    obtain ⟨a, xs, e, n, e2, q2⟩ := d1
    refine ⟨a, e, ⟨xs, SqL.of e2⟩, ?_⟩
    have R1 := R0.ext s1
    have no : ¬ Own σ δ a := R0.newNot n
    refine loop_over hg L R1 (q.ext s1) (Itl K a) (P := fun H' => H' a = some (.lst xs)) e2 (fun H' k p => k a _ p no) (fun k d H' p hd => ?_) fun H' p => ⟨xs, SqL.of p, by rw [q2.length]; exact Nat.le_refl _⟩
    obtain ⟨w, hw, dw⟩ := q2.get hd
    refine ⟨⟨xs, w, SqL.of p, hw⟩, fun u H'' y => ⟨y.1, fun kk => ?_⟩⟩
    have := y.2 xs (SqL.of p)
    rw [hw] at this
    cases this
    exact Dat.mono (fun b ys eb => eb.keep fun o e => kk b o e (R1.tupNot eb)) d w dw
/-- over a list in a slot that is only read -/
theorem ds_forR {tbd : TS} {T : Tg} {g : TG} {ds : List D} {n : Nat} (hg : GOk g T) (h : δ[n]? = some (some (.r ds))) (L : Loop tbd T ds δ o) : DS (tFor (iList K (tVar n)) g tbd) δ o := fun σ H R1 E q => by
  obtain ⟨v, ev, a, xs, e, no, e2, q2⟩ := R1.val n _ h
  refine ⟨v, ev, a, e, ⟨xs, SqL.of e2⟩, ?_⟩
  refine loop_over hg L R1 q (Itl K a) (P := fun H' => H' a = some (.lst xs)) e2 (fun H' k p => k a _ p no) (fun k d H' p hd => ?_) fun H' p => ⟨xs, SqL.of p, by rw [q2.length]; exact Nat.le_refl _⟩
  obtain ⟨w, hw, dw⟩ := q2.get hd
  refine ⟨⟨xs, w, SqL.of p, hw⟩, fun u H'' y => ⟨y.1, fun kk => ?_⟩⟩
  have := y.2 xs (SqL.of p)
  rw [hw] at this
  cases this
  exact Dat.mono (fun b ys eb => eb.keep fun o e => kk b o e (R1.tupNot eb)) d w dw
def rngD (n : Nat) : List D := (List.range n).map fun (i : Nat) => .int (i : Int)
theorem rngD_get {n k : Nat} {d : D} (h : (rngD n)[k]? = some d) : k < n ∧ d = .int (k : Int) := by
  unfold rngD at h
  rw [List.getElem?_map] at h
  by_cases c : k < n
  · rw [List.getElem?_range c] at h
    exact ⟨c, (Option.some.inj h).symm⟩
  · rw [List.getElem?_eq_none (by simpa using c)] at h
    cases h
theorem rngD_length (n : Nat) : (rngD n).length = n := by simp [rngD]
theorem ds_forN {tbd : TS} {T : Tg} {g : TG} {ta : TA} {n : Int} {m : Nat} (hg : GOk g T) (h : DAd ta δ [.int n]) (hn : -(2 ^ 62) ≤ n ∧ n < 2 ^ 62) (hm : n.toNat = m) (L : Loop tbd T (rngD m) δ o) : DS (tFor (iRng1 ta) g tbd) δ o := fun σ H R0 E q =>
  h σ H R0 _ fun vs H1 s1 d1 => by
    obtain ⟨v, r1, e1, h1, d2⟩ := datL_cons.mp d1
    rw [datL_nil.mp d2, dat_int.mp h1] at e1
    refine ⟨n, e1, hn.1, hn.2, ?_⟩
    rw [hm]
    refine loop_over hg L (R0.ext s1) (q.ext s1) (Itr 0 m) (P := fun _ => True) True.intro (fun _ _ _ => True.intro) (fun k d H' _ hd => ?_) fun H' _ => by rw [rngD_length]; exact Nat.le_refl _
    obtain ⟨hk, ed⟩ := rngD_get hd
    refine ⟨hk, fun u H'' y => ⟨y.1, fun _ => ?_⟩⟩
    rw [ed]
    refine dat_int.mpr ?_
    rw [y.2, Int.zero_add]

/-! ### comprehensions -/
inductive CompR (tt : TT) (te : TE) (T : Tg) (δw : Env) : List D → List D → Prop
  | nil : CompR tt te T δw [] []
  | yes {d x : D} {ds xs : List D} {δ1 : Env} (e : T.set d δw = some δ1) (h : DT tt δ1 true) (h2 : DE te δ1 (.d x)) (l : CompR tt te T δw ds xs) : CompR tt te T δw (d :: ds) (x :: xs)
  | no {d : D} {ds xs : List D} {δ1 : Env} (e : T.set d δw = some δ1) (h : DT tt δ1 false) (l : CompR tt te T δw ds xs) : CompR tt te T δw (d :: ds) xs
theorem tYes_ok : DT tYes δ true := fun σ H R Q q => q H (Same.refl H)
theorem comp_over {tt : TT} {te : TE} {T : Tg} {g : TG} {vs : List Nat} (hg : GOk g T) (hs : ∀ i ∈ T.slots, i ∈ vs) {ds xs : List D} (L : CompR tt te T (wipeE δ vs) ds xs) (hl : xs.length ≤ 100000) {σ : L2.St} {H0 H1 : Hp} (R0 : Rep σ H1 δ) (s0 : Same H0 H1) (J : It) {P : Hp → Prop}
    (hP : P H1) (hk : ∀ H', Same H1 H' → P H') (go : ∀ (k : Nat) (d : D) H', Same H1 H' → ds[k]? = some d → J.go k H' ∧ ∀ v H'', J.yld k H' v H'' → H'' = H' ∧ Dat H' d v) (stop : ∀ H', Same H1 H' → J.stop ds.length H')
    {Q : VK} (q : ∀ v H', Same H0 H' → RE H0 H' v (.l xs) → Q v H') {D : Addr} (hD : H1 D = none) :
    ∃ W : Nat → Nat → Hp → Prop, (∃ m, W 0 m (upd H1 D (.lst []))) ∧ ∀ i m H, W i m H →
      (J.stop i H ∧ Q (.ref D) H) ∨ (J.go i H ∧ ∃ Nx : Hp → Prop, (∀ H', Nx H' → ∃ m', m' < m ∧ W (i + 1) m' H') ∧ ∀ x H', J.yld i H x H' → g x (L2.wipe σ vs) H' fun σ2 H2 => L2.wipe σ2 vs = L2.wipe σ vs ∧ tt σ2 H2 fun b H3 =>
        if b = true then te σ2 H3 fun y H4 => ∃ acc, H4 D = some (.lst acc) ∧ acc.length < sizeLine ∧ Nx (upd H4 D (.lst (acc ++ [y]))) else Nx H3) := by
  have D0 : H0 D = none := s0.free hD
  have up : ∀ {H' : Hp} {o : HO}, Same H1 H' → Same H1 (upd H' D o) := fun {H' o} s b u e => by
    rw [upd_ne (ne_of_none e hD)]
    exact s b u e
  have tupD : ∀ {H' : Hp} {o o' : HO} , H' D = some o → (∀ ob ys, o ≠ .frz ob (.tup ys)) → Tups H' (upd H' D o') := fun {H' o o'} e n b ys ⟨ob, eb, d⟩ => ⟨ob, by
    have : b ≠ D := fun z => by rw [z, e] at eb; exact n ob ys (Option.some.inj eb)
    rw [upd_ne this]
    exact eb, d⟩
  let Wd : Nat → Hp → Prop := fun i H' => i ≤ ds.length ∧ Same H1 H' ∧ ∃ done rest acc, xs = done ++ rest ∧ CompR tt te T (wipeE δ vs) (ds.drop i) rest ∧ H' D = some (.lst acc) ∧ DatL H' done acc
  refine ⟨fun i m H' => m = ds.length - i ∧ Wd i H', ⟨ds.length, by simp, Nat.zero_le _, up (Same.refl H1), [], xs, [], rfl, by simpa using L, upd_same, datL_nil.mpr rfl⟩, ?_⟩
  rintro i m H' ⟨rfl, hi, s, done, rest, acc, ex, L', hacc, hd⟩
  by_cases c : i < ds.length
  · right
    have ed : ds.drop i = ds[i] :: ds.drop (i + 1) := List.drop_eq_getElem_cons c
    obtain ⟨g1, g2⟩ := go i ds[i] H' s (List.getElem?_eq_getElem c)
    refine ⟨g1, fun H2 => Wd (i + 1) H2, fun H2 w => ⟨_, by omega, rfl, w⟩, fun v H2 y => ?_⟩
    obtain ⟨e, dv⟩ := g2 v H2 y
    subst e
    rw [ed] at L'
    have Rw := (R0.ext s).wipe vs
    cases L' with
    | @yes _ x _ xs' δ1 e h h2 l =>
      refine hg _ H2 _ δ1 v _ Rw dv e _ fun σ2 R2 l2 cg => ⟨cg.wipe hs, ?_⟩
      refine h σ2 H2 R2 _ fun H3 s3 => ?_
      rw [if_pos rfl]
      refine h2 σ2 H3 (R2.ext s3) _ fun y H4 s4 d4 => ?_
      have hD4 : H4 D = some (.lst acc) := s4 _ _ (s3 _ _ hacc)
      have ln : acc.length = done.length := hd.length
      refine ⟨acc, hD4, lt_line ?_, c, up ((s.trans s3).trans s4), done ++ [x], xs', acc ++ [y], by rw [ex]; simp, l, upd_same, ?_⟩
      · rw [ln]
        have : xs.length = done.length + (xs'.length + 1) := by rw [ex]; simp
        omega
      · have t := tupD (o' := .lst (acc ++ [y])) hD4 (fun ob ys z => by cases z)
        exact ((hd.mono (.of (s3.trans s4))).app (DatL.one d4.d)).mono t
    | no e h l =>
      refine hg _ H2 _ _ v _ Rw dv e _ fun σ2 R2 l2 cg => ⟨cg.wipe hs, ?_⟩
      refine h σ2 H2 R2 _ fun H3 s3 => ?_
      rw [if_neg (by decide)]
      exact ⟨c, s.trans s3, done, rest, acc, ex, l, s3 _ _ hacc, hd.mono (.of s3)⟩
  · left
    have e : i = ds.length := by omega
    subst e
    rw [List.drop_length] at L'
    cases L'
    refine ⟨stop H' s, q _ H' (s0.trans s) ⟨D, acc, rfl, D0, hacc, ?_⟩⟩
    rw [List.append_nil] at ex
    rw [ex]
    exact hd
theorem de_lcT {tt : TT} {te : TE} {T : Tg} {g : TG} {vs : List Nat} {ds xs : List D} (h : DE tl δ (.d (.tup ds))) (hg : GOk g T) (L : CompR tt te T (wipeE δ vs) ds xs) (hs : ∀ i ∈ T.slots, i ∈ vs := by decide) (hl : xs.length ≤ 100000 := by (first | decide | simp)) : DE (tLc (iTup K tl) g tt te vs) δ (.l xs) := fun σ H R0 Q q =>
  h σ H R0 _ fun v H1 s1 d1 => by
    obtain ⟨a, us, e, e2, q2⟩ := reT d1
    refine ⟨a, e, ⟨us, e2.sqt⟩, fun D hD => ?_⟩
    refine comp_over hg hs L hl (R0.ext s1) s1 (Itt K a) (P := fun _ => True) True.intro (fun _ _ => True.intro) (fun k d H' s hd => ?_) (fun H' s => ⟨us, (e2.mono s).sqt, by rw [q2.length]; exact Nat.le_refl _⟩) q hD
    obtain ⟨w, hw, dw⟩ := q2.get hd
    refine ⟨⟨us, w, (e2.mono s).sqt, hw⟩, fun u H'' y => ⟨y.1, ?_⟩⟩
    have := y.2 us ((e2.mono s).sqt)
    rw [hw] at this
    cases this
    exact Dat.mono (.of s) d w dw
theorem de_lcL {tt : TT} {te : TE} {T : Tg} {g : TG} {vs : List Nat} {ds xs : List D} (h : DE tl δ (.r ds) ∨ DE tl δ (.l ds)) (hg : GOk g T) (L : CompR tt te T (wipeE δ vs) ds xs) (hs : ∀ i ∈ T.slots, i ∈ vs := by decide) (hl : xs.length ≤ 100000 := by (first | decide | simp)) : DE (tLc (iList K tl) g tt te vs) δ (.l xs) := by
  have h : DE tl δ (.r ds) := by
    rcases h with h | h
    · exact h
    · exact fun σ H R0 Q q => h σ H R0 Q fun v H1 s1 d1 => q v H1 s1 (by obtain ⟨a, us, e, _, z⟩ := d1; exact ⟨a, us, e, z⟩)
  exact fun σ H R0 Q q =>
  h σ H R0 _ fun v H1 s1 d1 => by
    obtain ⟨a, us, e, e2, q2⟩ := d1
    refine ⟨a, e, ⟨us, SqL.of e2⟩, fun D hD => ?_⟩
    refine comp_over hg hs L hl (R0.ext s1) s1 (Itl K a) (P := fun _ => True) True.intro (fun _ _ => True.intro) (fun k d H' s hd => ?_) (fun H' s => ⟨us, SqL.of (s _ _ e2), by rw [q2.length]; exact Nat.le_refl _⟩) q hD
    obtain ⟨w, hw, dw⟩ := q2.get hd
    refine ⟨⟨us, w, SqL.of (s _ _ e2), hw⟩, fun u H'' y => ⟨y.1, ?_⟩⟩
    have := y.2 us (SqL.of (s _ _ e2))
    rw [hw] at this
    cases this
    exact Dat.mono (.of s) d w dw
theorem de_lcN {tt : TT} {te : TE} {T : Tg} {g : TG} {ta : TA} {vs : List Nat} {n : Int} {m : Nat} {xs : List D} (h : DAd ta δ [.int n]) (hg : GOk g T) (hn : -(2 ^ 62) ≤ n ∧ n < 2 ^ 62) (hm : n.toNat = m) (L : CompR tt te T (wipeE δ vs) (rngD m) xs) (hs : ∀ i ∈ T.slots, i ∈ vs := by decide) (hl : xs.length ≤ 100000 := by (first | decide | simp)) : DE (tLc (iRng1 ta) g tt te vs) δ (.l xs) := fun σ H R0 Q q =>
  h σ H R0 _ fun us H1 s1 d1 => by
    obtain ⟨v, r1, e1, h1, d2⟩ := datL_cons.mp d1
    rw [datL_nil.mp d2, dat_int.mp h1] at e1
    refine ⟨n, e1, hn.1, hn.2, fun D hD => ?_⟩
    rw [hm]
    refine comp_over hg hs L hl (R0.ext s1) s1 (Itr 0 m) (P := fun _ => True) True.intro (fun _ _ => True.intro) (fun k d H' s hd => ?_) (fun H' s => by rw [rngD_length]; exact Nat.le_refl _) q hD
    obtain ⟨hk, ed⟩ := rngD_get hd
    refine ⟨hk, fun u H'' y => ⟨y.1, ?_⟩⟩
    rw [ed]
    refine dat_int.mpr ?_
    rw [y.2, Int.zero_add]
/-- a comprehension that maps -/
theorem comp_map {te : TE} {T : Tg} {δw : Env} (f : D → D) : ∀ (ds : List D), (∀ d ∈ ds, ∃ δ1, T.set d δw = some δ1 ∧ DE te δ1 (.d (f d))) → CompR tYes te T δw ds (ds.map f)
  | [], _ => .nil
  | d :: ds, h => by
    obtain ⟨δ1, e, q⟩ := h d List.mem_cons_self
    exact .yes e tYes_ok q (comp_map f ds fun x hx => h x (List.mem_cons_of_mem _ hx))
theorem comp_filter {tt : TT} {te : TE} {T : Tg} {δw : Env} (p : D → Bool) (f : D → D) : ∀ (ds : List D), (∀ d ∈ ds, ∃ δ1, T.set d δw = some δ1 ∧ DT tt δ1 (p d) ∧ (p d = true → DE te δ1 (.d (f d)))) → CompR tt te T δw ds ((ds.filter p).map f)
  | [], _ => .nil
  | d :: ds, h => by
    obtain ⟨δ1, e, q1, q2⟩ := h d List.mem_cons_self
    have ih := comp_filter p f ds fun x hx => h x (List.mem_cons_of_mem _ hx)
    cases c : p d with
    | true =>
      rw [List.filter_cons_of_pos c, List.map_cons]
      rw [c] at q1
      exact .yes e q1 (q2 c) ih
    | false =>
      rw [List.filter_cons_of_neg (by rw [c]; decide)]
      rw [c] at q1
      exact .no e q1 ih

/-! ### subscripts, slices -/
theorem de_ix {ds : List D} {n : Int} {d : D} (ha : DE ta δ (.d (.tup ds))) (hb : DE tb δ (.d (.int n))) (h : atI ds n = some d) : DE (tOp (rIxT K) ta tb) δ (.d d) :=
  de_op2 ha hb fun v w H h1 h2 Q q => by
    obtain ⟨a, xs, e, e2, q2⟩ := dat_tup.mp h1
    have e3 : ∃ k, ixN ds.length n = some k ∧ ds[k]? = some d := by
      unfold atI at h
      cases z : ixN ds.length n with
      | none => rw [z] at h; cases h
      | some k => rw [z] at h; exact ⟨k, rfl, h⟩
    obtain ⟨k, e4, e5⟩ := e3
    obtain ⟨u, hu, du⟩ := q2.get e5
    refine ⟨a, xs, n, u, e, dat_int.mp h2, e2.sqt, ?_, q u H (Same.refl H) (re_d du)⟩
    unfold atI
    rw [q2.length, e4]
    exact hu
theorem atI_get0 {ds : List D} {k : Nat} {d : D} (h : ds[k]? = some d) : atI ds (k : Int) = some d := atI_nat h
/-- a list read by place -/
theorem de_ixL {ds : List D} {n : Int} {d : D} (ha : DE ta δ (.r ds)) (hb : DE tb δ (.d (.int n))) (h : atI ds n = some d) : DE (tOp (rIxL K) ta tb) δ (.d d) := fun σ H R0 Q q =>
  ha σ H R0 _ fun v H1 s1 d1 => hb σ H1 (R0.ext s1) _ fun w H2 s2 d2 => by
    obtain ⟨a, xs, e, e2, q2⟩ := d1
    have e3 : ∃ k, ixN ds.length n = some k ∧ ds[k]? = some d := by
      unfold atI at h
      cases z : ixN ds.length n with
      | none => rw [z] at h; cases h
      | some k => rw [z] at h; exact ⟨k, rfl, h⟩
    obtain ⟨k, e4, e5⟩ := e3
    obtain ⟨u, hu, du⟩ := q2.get e5
    refine ⟨a, xs, n, u, e, reI d2, SqL.of (s2 _ _ e2), ?_, q u H2 (s1.trans s2) (re_d (Dat.mono (.of s2) d u du))⟩
    unfold atI
    rw [q2.length, e4]
    exact hu
theorem do_none : DO tNoPart δ none := fun σ H R Q q => q H (Same.refl H)
theorem do_some (h : DE te δ (.d (.int i))) : DO (tPart te) δ (some i) := fun σ H R Q q => h σ H R _ fun v H1 s1 d1 => ⟨i, reI d1, q H1 s1⟩
def cutD (xs : List D) (lo hi : Option Int) : List D := (xs.drop (HT.sIx xs.length 0 lo)).take (HT.sIx xs.length xs.length hi - HT.sIx xs.length 0 lo)
theorem datL_cut {H : Hp} {ds : List D} {vs : List V} (h : DatL H ds vs) (lo hi : Option Int) : DatL H (cutD ds lo hi) (cutV vs lo hi) := by
  unfold cutD cutV
  rw [h.length]
  exact (h.drop _).take _
theorem de_sl {ds : List D} {lo hi : Option Int} {tl th : TO} (ha : DE ta δ (.d (.tup ds))) (h1 : DO tl δ lo) (h2 : DO th δ hi) : DE (tSl (rSlF K) ta tl th) δ (.d (.tup (cutD ds lo hi))) := fun σ H R0 Q q =>
  ha σ H R0 _ fun v H1 s1 d1 => h1 σ H1 (R0.ext s1) _ fun H2 s2 => h2 σ H2 ((R0.ext s1).ext s2) _ fun H3 s3 => by
    obtain ⟨a, xs, e, e2, q2⟩ := reT d1
    have e3 := e2.mono (s2.trans s3)
    have q3 := q2.mono (.of (s2.trans s3))
    refine ⟨a, xs, e, e3.sqt, fun c => ?_, fun _ p o hp hd => q _ _ (((s1.trans s2).trans s3).trans (same_upd hp)) (re_tup (.new hd) ((datL_cut q3 lo hi).mono (.of (same_upd hp))))⟩
    have ew : cutD ds lo hi = ds := by
      have c1 := c.1
      have c2 := c.2
      rw [q3.length] at c1 c2
      unfold cutD
      rw [c1, c2]
      simp
    rw [ew] at q
    exact q _ _ ((s1.trans s2).trans s3) (re_tup e3 q3)

/-! ### built-ins -/
theorem de_len {ds : List D} {t : TA} (h : DA t δ [.d (.tup ds)] ∨ DA t δ [.r ds]) : DE (tCB (fun xs H Q => ∃ p ys, xs = [.ref p] ∧ (SqL K H p ys ∨ SqT K H p ys) ∧ Q (.int ys.length) H) t) δ (.d (.int ds.length)) := fun σ H R0 Q q => by
  rcases h with h | h
  · refine h σ H R0 _ fun vs H1 s1 d1 => ?_
    obtain ⟨v, us, e, h1, h2⟩ := d1
    have h2 : us = [] := h2
    subst h2
    obtain ⟨a, xs, e1, e2, q2⟩ := dat_tup.mp (show Dat H1 (.tup ds) v from h1)
    exact ⟨a, xs, by rw [e, e1], .inr (e2.sqt), by rw [q2.length]; exact q _ H1 s1 re_int⟩
  · refine h σ H R0 _ fun vs H1 s1 d1 => ?_
    obtain ⟨v, us, e, h1, h2⟩ := d1
    have h2 : us = [] := h2
    subst h2
    obtain ⟨a, xs, e1, e2, q2⟩ := h1
    exact ⟨a, xs, by rw [e, e1], .inl (SqL.of e2), by rw [q2.length]; exact q _ H1 s1 re_int⟩
theorem de_all {bs : List Bool} {t : TA} (h : DA t δ [.r (bs.map D.bl)]) : DE (tCB (rAll K) t) δ (.d (.bl (bs.all id))) := fun σ H R0 Q q =>
  h σ H R0 _ fun vs H1 s1 d1 => by
    obtain ⟨v, us, e, h1, h2⟩ := d1
    have h2 : us = [] := h2
    subst h2
    obtain ⟨a, xs, e1, e2, q2⟩ := h1
    rw [datL_bls] at q2
    subst q2
    exact ⟨a, bs, by rw [e, e1], SqL.of e2, q _ H1 s1 re_bl⟩
/-- tuple(list) -/
theorem de_tuple {ds : List D} {t : TA} (h : DA t δ [.r ds]) : DE (tCB (rTupF K) t) δ (.d (.tup ds)) := fun σ H R0 Q q =>
  h σ H R0 _ fun vs H1 s1 d1 => by
    obtain ⟨v, us, e, h1, h2⟩ := d1
    have h2 : us = [] := h2
    subst h2
    obtain ⟨a, xs, e1, e2, q2⟩ := h1
    exact ⟨a, xs, by rw [e, e1], SqL.of e2, fun p o hp hd => q _ _ (s1.trans (same_upd hp)) (re_tup (.new hd) (q2.mono (.of (same_upd hp))))⟩
/-- list(list) and list(tuple) -/
theorem de_list {ds : List D} {t : TA} (h : DA t δ [.r ds] ∨ DA t δ [.d (.tup ds)]) : DE (tCB (fun xs H Q => ∃ p ys, xs = [.ref p] ∧ (SqL K H p ys ∨ SqT K H p ys) ∧ ∀ l, H l = none → Q (.ref l) (upd H l (.lst ys))) t) δ (.l ds) := fun σ H R0 Q q => by
  rcases h with h | h
  · refine h σ H R0 _ fun vs H1 s1 d1 => ?_
    obtain ⟨v, us, e, h1, h2⟩ := d1
    have h2 : us = [] := h2
    subst h2
    obtain ⟨a, xs, e1, e2, q2⟩ := h1
    exact ⟨a, xs, by rw [e, e1], .inl (SqL.of e2), fun p hp => q _ _ (s1.trans (same_upd hp)) ⟨p, xs, rfl, s1.free hp, upd_same, q2.mono (.of (same_upd hp))⟩⟩
  · refine h σ H R0 _ fun vs H1 s1 d1 => ?_
    obtain ⟨v, us, e, h1, h2⟩ := d1
    have h2 : us = [] := h2
    subst h2
    obtain ⟨a, xs, e1, e2, q2⟩ := dat_tup.mp (show Dat H1 (.tup ds) v from h1)
    exact ⟨a, xs, by rw [e, e1], .inr (e2.sqt), fun p hp => q _ _ (s1.trans (same_upd hp)) ⟨p, xs, rfl, s1.free hp, upd_same, q2.mono (.of (same_upd hp))⟩⟩
/-- t + u -/
theorem de_cat {ds es : List D} (ha : DE ta δ (.d (.tup ds))) (hb : DE tb δ (.d (.tup es))) (hl : ds.length + es.length ≤ 100000) : DE (tOp (rCatF K) ta tb) δ (.d (.tup (ds ++ es))) :=
  de_op2 ha hb fun v w H h1 h2 Q q => by
    obtain ⟨a, xs, e, e2, q2⟩ := dat_tup.mp h1
    obtain ⟨b, ys, e3, e4, q4⟩ := dat_tup.mp h2
    refine ⟨a, b, xs, ys, e, e3, e2.sqt, e4.sqt, le_line (by rw [q2.length, q4.length]; exact hl), fun z => ?_, fun _ z => ?_, fun _ _ p o hp hdd => ?_⟩
    · have z2 : ds = [] := by have := q2.length; rw [z] at this; exact List.length_eq_zero_iff.mp this.symm
      subst z2
      exact q _ H (Same.refl H) (re_tup e4 q4)
    · have z2 : es = [] := by have := q4.length; rw [z] at this; exact List.length_eq_zero_iff.mp this.symm
      subst z2
      rw [List.append_nil] at q
      exact q _ H (Same.refl H) (re_tup e2 q2)
    · exact q _ _ (same_upd hp) (re_tup (.new hdd) ((q2.app q4).mono (.of (same_upd hp))))
/-- isinstance -/
def kind : D → String
  | .non => "NoneType"
  | .bl _ => "bool"
  | .int _ => "int"
  | .str _ => "str"
  | .tup _ => "tuple"
theorem tyx_of {H : Hp} {d : D} {v : V} (h : Dat H d v) : TyX K H v (.type (kind d)) := by
  cases d with
  | non => rw [dat_non.mp h]; exact .base .non
  | bl b => rw [dat_bl.mp h]; exact .base (.bl b)
  | int i => rw [dat_int.mp h]; exact .base (.int i)
  | str x => rw [dat_str.mp h]; exact .base (.str x)
  | tup ds => obtain ⟨a, xs, e, e2, _⟩ := dat_tup.mp h; obtain ⟨ob, e2, _⟩ := e2; rw [e]; exact .fTuple e2
end
end DL
-- part DL3
set_option linter.all false
set_option maxRecDepth 100000
set_option maxHeartbeats 2000000
/-! The data layer, part 3: isinstance, in, equality of data, sorted, ranges, methods of own lists, contracts of defs. -/
namespace DL
open PySem PySem.Spec PyProof.Rows L2

section
variable {K : PySem.W.Frag} {δ δ1 : Env} {ta tb tc te tl : TE} {tA tB : TT} {r : R} {x y : D} {i j : Int} {b c : Bool} {o : Out}
/-! ### isinstance -/
def isiK (k T : String) : Bool := k == T || (k == "bool" && T == "int")
def isiB (d : D) (T : String) : Bool := isiK (kind d) T
theorem kit_all : ∀ k ∈ ["NoneType", "bool", "int", "str", "tuple"], ∀ T ∈ ["int", "bool", "tuple"], kitB k T = some (isiK k T) := by decide +kernel
theorem kit_isi (d : D) {T : String} (h : T = "int" ∨ T = "bool" ∨ T = "tuple") : kitB (kind d) T = some (isiB d T) := by
  refine kit_all (kind d) ?_ T (by simpa using h)
  cases d <;> simp [kind]
theorem de_isi {T : String} (ha : DE ta δ (.d x)) (h : T = "int" ∨ T = "bool" ∨ T = "tuple" := by (first | exact .inl rfl | exact .inr (.inl rfl) | exact .inr (.inr rfl))) : DE (tCB (rIsi K) (tCons ta (tCons (tC (.ty T)) tNil))) δ (.d (.bl (isiB x T))) := fun σ H R0 Q q =>
  ha σ H R0 _ fun v H1 s1 d1 => ⟨v, .ty T, .type (kind x), .type T, _, rfl, .ty T, tyx_of d1.d, kit_ty (kit_isi x h), q _ H1 s1 re_bl⟩

/-! ### in, over flat things -/
theorem inV_ints {t : Int} : ∀ {ns : List Int}, inV (.int t) (ns.map V.int) = decide (t ∈ ns)
  | [] => rfl
  | n :: ns => by
    have ih := inV_ints (t := t) (ns := ns)
    unfold inV at ih ⊢
    rw [List.map_cons, List.any_cons, ih]
    show ((n == t) || decide (t ∈ ns)) = _
    by_cases e : n = t
    · subst e; simp
    · have e' : ¬ t = n := fun z => e z.symm
      simp [e, e', beq_eq_false_iff_ne.mpr e]
theorem flat_ints (ns : List Int) : (ns.map V.int).all flatV = true := by
  rw [List.all_map]; simp [flatV, Function.comp_def]
theorem de_in {ns : List Int} {t : Int} (ha : DE ta δ (.d (.int t))) (hb : DE tb δ (.d (.tup (ns.map D.int)))) : DE (tOp (rIn K false) ta tb) δ (.d (.bl (decide (t ∈ ns)))) :=
  de_op2 ha hb fun v w H h1 h2 Q q => by
    obtain ⟨a, xs, e, e2, q2⟩ := dat_tup.mp h2
    rw [datL_ints] at q2
    subst q2
    rw [dat_int.mp h1]
    exact ⟨a, _, e, .inr e2.sqt, rfl, flat_ints ns, by rw [if_neg (by decide), inV_ints]; exact q _ H (Same.refl H) re_bl⟩
theorem de_notin {ns : List Int} {t : Int} (ha : DE ta δ (.d (.int t))) (hb : DE tb δ (.d (.tup (ns.map D.int)))) : DE (tOp (rIn K true) ta tb) δ (.d (.bl (!decide (t ∈ ns)))) :=
  de_op2 ha hb fun v w H h1 h2 Q q => by
    obtain ⟨a, xs, e, e2, q2⟩ := dat_tup.mp h2
    rw [datL_ints] at q2
    subst q2
    rw [dat_int.mp h1]
    exact ⟨a, _, e, .inr e2.sqt, rfl, flat_ints ns, by rw [if_pos rfl, inV_ints]; exact q _ H (Same.refl H) re_bl⟩
theorem de_inL {n : Bool} {ns : List Int} {t : Int} (ha : DE ta δ (.d (.int t))) (hb : DE tb δ (.r (ns.map D.int))) : DE (tOp (rIn K n) ta tb) δ (.d (.bl (if n then !decide (t ∈ ns) else decide (t ∈ ns)))) := fun σ H R0 Q q =>
  ha σ H R0 _ fun v H1 s1 d1 => hb σ H1 (R0.ext s1) _ fun w H2 s2 d2 => by
    obtain ⟨a, xs, e, e2, q2⟩ := d2
    rw [datL_ints] at q2
    subst q2
    rw [reI d1]
    exact ⟨a, _, e, .inl (SqL.of e2), rfl, flat_ints ns, by rw [inV_ints]; exact q _ H2 (s1.trans s2) re_bl⟩

/-! ### equality of data -/
mutual
def toPy : D → PyData
  | .non => .none
  | .bl b => .bool b
  | .int i => .int i
  | .str x => .str x
  | .tup ds => .tuple (toPyL ds)
def toPyL : List D → List PyData
  | [] => []
  | d :: ds => toPy d :: toPyL ds
end
mutual
theorem dp_of {H : Hp} : ∀ (d : D) (v : V), Dat H d v → Dp K H v (toPy d)
  | .non, _, h => by rw [dat_non.mp h]; unfold toPy; exact .non
  | .bl b, _, h => by rw [dat_bl.mp h]; unfold toPy; exact .bl b
  | .int i, _, h => by rw [dat_int.mp h]; unfold toPy; exact .int i
  | .str x, _, h => by rw [dat_str.mp h]; unfold toPy; exact .str x
  | .tup ds, _, h => by
    obtain ⟨a, xs, e, e2, q⟩ := dat_tup.mp h
    rw [e]
    unfold toPy
    exact .tup e2.sqt (dpAll_of ds xs q)
theorem dpAll_of {H : Hp} : ∀ (ds : List D) (vs : List V), DatL H ds vs → DpAll K H vs (toPyL ds)
  | [], _, h => by rw [datL_nil.mp h]; unfold toPyL; exact .nil
  | d :: ds, _, h => by
    obtain ⟨v, r, e, h1, h2⟩ := datL_cons.mp h
    rw [e]
    unfold toPyL
    exact .cons (dp_of d v h1) (dpAll_of ds r h2)
end
theorem shaped_list {ds : List D} (h : SeqAt.shaped (toPy (.tup ds)) = true) : SeqAt.shaped (.list (toPyL ds)) = true := by
  unfold SeqAt.shaped at h ⊢
  unfold toPy at h
  simpa [PyData.canLay0, PyData.depth] using h
theorem toPyL_ints : ∀ ns : List Int, toPyL (ns.map D.int) = ns.map PyData.int
  | [] => by simp [toPyL]
  | n :: ns => by rw [List.map_cons, List.map_cons, toPyL, toPy, toPyL_ints ns]
/-- data equal to itself -/
theorem de_eqD (ha : DE ta δ (.d x)) (hb : DE tb δ (.d x)) (hs : SeqAt.shaped (toPy x) = true) : DE (tOp (rEqD K) ta tb) δ (.d (.bl true)) :=
  de_op2 ha hb fun v w H h1 h2 Q q => ⟨_, _, dp_of x v h1, dp_of x w h2, hs, hs, by
    rw [SeqAt.eqv_refl _ (SeqAt.canLay_of_shaped hs)]
    exact q _ H (Same.refl H) re_bl⟩
theorem re_r_of {H H' : Hp} {v : V} {xs : List D} (h : RE H H' v (.l xs)) : RE H H' v (.r xs) := by
  obtain ⟨a, vs, e, _, q⟩ := h
  exact ⟨a, vs, e, q⟩
/-- a fresh list, only read -/
theorem de_r {xs : List D} (h : DE te δ (.l xs)) : DE te δ (.r xs) := fun σ H R0 Q q => h σ H R0 Q fun v H1 s1 d1 => q v H1 s1 (re_r_of d1)
/-- two lists of data: == -/
theorem de_eqLL {xs ys : List D} {z : Bool} (ha : DE ta δ (.r xs)) (hb : DE tb δ (.r ys)) (hs : SeqAt.shaped (toPy (.tup xs)) = true) (hs2 : SeqAt.shaped (toPy (.tup ys)) = true) (e : PyData.eqv (.list (toPyL xs)) (.list (toPyL ys)) = z) : DE (tOp (rEqD K) ta tb) δ (.d (.bl z)) := fun σ H R0 Q q =>
  ha σ H R0 _ fun v H1 s1 d1 => hb σ H1 (R0.ext s1) _ fun w H2 s2 d2 => by
    obtain ⟨a, vs, e1, e2, q2⟩ := d1
    obtain ⟨a', vs', e1', e2', q2'⟩ := d2
    refine ⟨.list (toPyL xs), .list (toPyL ys), ?_, ?_, shaped_list hs, shaped_list hs2, ?_⟩
    · rw [e1]; exact .lst (SqL.of (s2 _ _ e2)) (dpAll_of xs vs (q2.mono (.of s2)))
    · rw [e1']; exact .lst (SqL.of e2') (dpAll_of ys vs' q2')
    · rw [e]; exact q _ H2 (s1.trans s2) re_bl
theorem de_neLL {xs ys : List D} {z : Bool} (ha : DE ta δ (.r xs)) (hb : DE tb δ (.r ys)) (hs : SeqAt.shaped (toPy (.tup xs)) = true) (hs2 : SeqAt.shaped (toPy (.tup ys)) = true) (e : PyData.eqv (.list (toPyL xs)) (.list (toPyL ys)) = z) : DE (tOp (rNeD K) ta tb) δ (.d (.bl (!z))) := fun σ H R0 Q q =>
  ha σ H R0 _ fun v H1 s1 d1 => hb σ H1 (R0.ext s1) _ fun w H2 s2 d2 => by
    obtain ⟨a, vs, e1, e2, q2⟩ := d1
    obtain ⟨a', vs', e1', e2', q2'⟩ := d2
    refine ⟨.list (toPyL xs), .list (toPyL ys), ?_, ?_, shaped_list hs, shaped_list hs2, ?_⟩
    · rw [e1]; exact .lst (SqL.of (s2 _ _ e2)) (dpAll_of xs vs (q2.mono (.of s2)))
    · rw [e1']; exact .lst (SqL.of e2') (dpAll_of ys vs' q2')
    · rw [e]; exact q _ H2 (s1.trans s2) re_bl
theorem canLay_ints : ∀ ns : List Int, PyData.canLayAll0 (ns.map PyData.int) = true
  | [] => by simp [PyData.canLayAll0]
  | n :: ns => by rw [List.map_cons, PyData.canLayAll0, canLay_ints ns]; simp [PyData.canLay0]
theorem depth_ints : ∀ ns : List Int, PyData.depthAll (ns.map PyData.int) = 0
  | [] => by simp [PyData.depthAll]
  | n :: ns => by rw [List.map_cons, PyData.depthAll, depth_ints ns]; simp [PyData.depth]
theorem shaped_ints (ns : List Int) : SeqAt.shaped (toPy (.tup (ns.map D.int))) = true := by
  unfold toPy SeqAt.shaped
  rw [toPyL_ints]
  simp [PyData.canLay0, PyData.depth, canLay_ints, depth_ints]

/-! ### ranges, sorted -/
theorem rgV_nat {n : Int} {m : Nat} (h : n = (m : Int)) : rgV 0 n = (((List.range m).map fun (i : Nat) => (i : Int)).map V.int) := by
  subst h
  unfold rgV
  rw [List.map_map]
  have : ((m : Int) - 0).toNat = m := by omega
  rw [this]
  refine List.map_congr_left fun i _ => ?_
  simp
def ran (m : Nat) : List Int := (List.range m).map fun (i : Nat) => (i : Int)
theorem rngD_eq (m : Nat) : rngD m = (ran m).map D.int := by unfold rngD ran; rw [List.map_map]; rfl
theorem de_listRg {m : Nat} (h : DE ta δ (.d (.int (m : Int)))) (hm : m ≤ 1000) : DE (tLstRg (tRg1 ta)) δ (.l ((ran m).map D.int)) := fun σ H R0 Q q =>
  h σ H R0 _ fun v H1 s1 d1 => ⟨(m : Int), reI d1, RgOk.of_le (by omega) (by omega) (by omega) (by omega), fun p hp => by
    rw [rgV_nat rfl]
    exact q _ _ (s1.trans (same_upd hp)) ⟨p, _, rfl, s1.free hp, upd_same, datL_ints.mpr rfl⟩⟩
theorem de_tupRg {m : Nat} (h : DE ta δ (.d (.int (m : Int)))) (hm : m ≤ 1000) : DE (tTupRgF (tRg1 ta)) δ (.d (.tup ((ran m).map D.int))) := fun σ H R0 Q q =>
  h σ H R0 _ fun v H1 s1 d1 => ⟨(m : Int), reI d1, RgOk.of_le (by omega) (by omega) (by omega) (by omega), fun p o hp hd => by
    rw [rgV_nat rfl]
    exact q _ _ (s1.trans (same_upd hp)) (re_tup (.new hd) (datL_ints.mpr rfl))⟩
theorem sorted_unique {l1 l2 : List Int} (p : l1.Perm l2) (s1 : l1.Pairwise (· ≤ ·)) (s2 : l2.Pairwise (· ≤ ·)) : l1 = l2 :=
  p.eq_of_pairwise (fun _ _ _ _ h1 h2 => Int.le_antisymm h1 h2) s1 s2
theorem de_sorted {ns ms : List Int} {t : TA} (h : DA t δ [.r (ns.map D.int)]) (hp : ms.Perm ns) (hs : ms.Pairwise (· ≤ ·)) : DE (tCB (rSortedI K) t) δ (.l (ms.map D.int)) := fun σ H R0 Q q =>
  h σ H R0 _ fun vs H1 s1 d1 => by
    obtain ⟨v, us, e, h1, h2⟩ := d1
    have h2 : us = [] := h2
    subst h2
    obtain ⟨a, xs, e1, e2, q2⟩ := h1
    rw [datL_ints] at q2
    subst q2
    refine ⟨a, ns, by rw [e, e1], SqL.of e2, fun ns' p hp' hs' hn => ?_⟩
    have : ns' = ms := sorted_unique (hp'.trans hp.symm) hs' hs
    subst this
    exact q _ _ (s1.trans (same_upd hn)) ⟨p, _, rfl, s1.free hn, upd_same, datL_ints.mpr rfl⟩

/-! ### lists: +, repeat; max, min, int, repr -/
theorem de_catL {xs ys : List D} (ha : DE ta δ (.r xs)) (hb : DE tb δ (.r ys)) (hl : xs.length + ys.length ≤ 100000) : DE (tOp rCat ta tb) δ (.l (xs ++ ys)) := fun σ H R0 Q q =>
  ha σ H R0 _ fun v H1 s1 d1 => hb σ H1 (R0.ext s1) _ fun w H2 s2 d2 => by
    obtain ⟨a, vs, e1, e2, q2⟩ := d1
    obtain ⟨a', vs', e1', e2', q2'⟩ := d2
    refine ⟨a, a', vs, vs', e1, e1', s2 _ _ e2, e2', le_line (by rw [q2.length, q2'.length]; exact hl), fun p hp => q _ _ ((s1.trans s2).trans (same_upd hp)) ⟨p, _, rfl, (s1.trans s2).free hp, upd_same, ((q2.mono (.of s2)).app q2').mono (.of (same_upd hp))⟩⟩
theorem datL_rep {H : Hp} {xs : List D} {vs : List V} (h : DatL H xs vs) : ∀ k : Nat, DatL H (List.replicate k xs).flatten (List.replicate k vs).flatten
  | 0 => datL_nil.mpr rfl
  | k + 1 => by
    rw [List.replicate_succ, List.replicate_succ, List.flatten_cons, List.flatten_cons]
    exact h.app (datL_rep h k)
theorem de_repL {xs : List D} {k : Nat} (ha : DE ta δ (.r xs)) (hb : DE tb δ (.d (.int (k : Int)))) (hk : k ≤ 100000) (hl : xs.length * k ≤ 100000) : DE (tOp rRep ta tb) δ (.l (List.replicate k xs).flatten) := fun σ H R0 Q q =>
  ha σ H R0 _ fun v H1 s1 d1 => hb σ H1 (R0.ext s1) _ fun w H2 s2 d2 => by
    obtain ⟨a, vs, e1, e2, q2⟩ := d1
    have q3 := q2.mono (.of s2)
    refine ⟨a, (k : Int), vs, e1, reI d2, s2 _ _ e2, by omega, by omega, le_line (by rw [q2.length, Int.toNat_natCast]; exact hl), fun p hp => ?_⟩
    rw [Int.toNat_natCast]
    exact q _ _ ((s1.trans s2).trans (same_upd hp)) ⟨p, _, rfl, (s1.trans s2).free hp, upd_same, (datL_rep q3 k).mono (.of (same_upd hp))⟩
theorem da_one {te : TE} {t : TA} (h : DA t δ [.d x]) (σ : L2.St) (H : Hp) (R0 : Rep σ H δ) (Q : List V → Hp → Prop) (q : ∀ v H', Same H H' → Dat H' x v → Q [v] H') : t σ H Q :=
  h σ H R0 _ fun vs H1 s1 d1 => by
    obtain ⟨v, us, e, h1, h2⟩ := d1
    have h2 : us = [] := h2
    subst h2
    rw [e]
    exact q v H1 s1 h1
theorem de_max2 {t : TA} (h : DAd t δ [.int i, .int j]) : DE (tCB (fun xs H Q => ∃ i j, xs = [.int i, .int j] ∧ Q (.int (if j > i then j else i)) H) t) δ (.d (.int (max i j))) := fun σ H R0 Q q =>
  h σ H R0 _ fun vs H1 s1 d1 => by
    obtain ⟨v, r1, e1, h1, d2⟩ := datL_cons.mp d1
    obtain ⟨w, r2, e2, h2, d3⟩ := datL_cons.mp d2
    rw [datL_nil.mp d3, dat_int.mp h2] at e2
    rw [e2, dat_int.mp h1] at e1
    have em : (if j > i then j else i) = max i j := by
      by_cases c : j > i
      · rw [if_pos c]; omega
      · rw [if_neg c]; omega
    exact ⟨i, j, e1, by rw [em]; exact q _ H1 s1 re_int⟩
theorem de_min2 {t : TA} (h : DAd t δ [.int i, .int j]) : DE (tCB (fun xs H Q => ∃ i j, xs = [.int i, .int j] ∧ Q (.int (if j < i then j else i)) H) t) δ (.d (.int (min i j))) := fun σ H R0 Q q =>
  h σ H R0 _ fun vs H1 s1 d1 => by
    obtain ⟨v, r1, e1, h1, d2⟩ := datL_cons.mp d1
    obtain ⟨w, r2, e2, h2, d3⟩ := datL_cons.mp d2
    rw [datL_nil.mp d3, dat_int.mp h2] at e2
    rw [e2, dat_int.mp h1] at e1
    have em : (if j < i then j else i) = min i j := by
      by_cases c : j < i
      · rw [if_pos c]; omega
      · rw [if_neg c]; omega
    exact ⟨i, j, e1, by rw [em]; exact q _ H1 s1 re_int⟩
theorem de_intB {t : TA} (h : DAd t δ [.bl b]) : DE (tCB (fun xs H Q => (∃ i, xs = [.int i] ∧ Q (.int i) H) ∨ ∃ k, xs = [.bl k] ∧ Q (.int (if k then 1 else 0)) H) t) δ (.d (.int (if b then 1 else 0))) := fun σ H R0 Q q =>
  h σ H R0 _ fun vs H1 s1 d1 => by
    obtain ⟨v, r1, e1, h1, d2⟩ := datL_cons.mp d1
    rw [datL_nil.mp d2, dat_bl.mp h1] at e1
    exact .inr ⟨b, e1, q _ H1 s1 re_int⟩
theorem de_repr {t : TA} (h : DAd t δ [.int i]) (hi : i.natAbs.log2 < 1920) : DE (tCB (fun xs H Q => ∃ i, xs = [.int i] ∧ i.natAbs.log2 < 1920 ∧ Q (.str (toString i)) H) t) δ (.d (.str (toString i))) := fun σ H R0 Q q =>
  h σ H R0 _ fun vs H1 s1 d1 => by
    obtain ⟨v, r1, e1, h1, d2⟩ := datL_cons.mp d1
    rw [datL_nil.mp d2, dat_int.mp h1] at e1
    exact ⟨i, e1, hi, q _ H1 s1 (by show Dat H1 _ _; exact dat_str.mpr rfl)⟩
/-! ### is None, is True, truth of lists -/
theorem de_isnot_bl (ha : DE ta δ (.d (.bl b))) (hb : DE tb δ (.d (.bl c))) : DE (tOp (fun x y H Q => ∃ a b, x = .bl a ∧ y = .bl b ∧ Q (.bl (!decide (a = b))) H) ta tb) δ (.d (.bl (!decide (b = c)))) :=
  de_op2 ha hb fun v w H h1 h2 Q q => ⟨b, c, dat_bl.mp h1, dat_bl.mp h2, q _ H (Same.refl H) re_bl⟩
end

/-! ### methods of a list of our own -/
section
variable {σ : L2.St} {H H1 H2 : Hp} {δ : Env} {K : PySem.W.Frag} {te : TE} {x : D}
theorem atSlot {δ : Env} {n i : Nat} {r r' : R} (h : (δ.set n (some r))[i]? = some (some r')) : (i = n ∧ r' = r) ∨ (i ≠ n ∧ δ[i]? = some (some r')) := by
  by_cases c : i = n
  · subst c
    by_cases l : i < δ.length
    · rw [List.getElem?_set_self l] at h
      exact .inl ⟨rfl, (Option.some.inj (Option.some.inj h)).symm⟩
    · rw [List.getElem?_eq_none (by rw [List.length_set]; omega)] at h
      cases h
  · rw [List.getElem?_set_ne (Ne.symm c)] at h
    exact .inr ⟨c, h⟩
theorem Tups.upd {H : Hp} {a : Addr} {o : HO} (h : ∀ ob xs, H a ≠ some (.frz ob (.tup xs))) : Tups H (upd H a o) := fun b ys ⟨ob, e, d⟩ => ⟨ob, by
  have n : b ≠ a := fun z => h ob ys (by rw [← z]; exact e)
  rw [upd_ne n]
  exact e, d⟩
/-- the list in slot n changes in place -/
theorem Rep.putL {n : Nat} {xs xs' : List D} {a : Addr} {vs vs' : List V} (R0 : Rep σ H δ) (hn : δ[n]? = some (some (.l xs))) (hv : σ[n]? = some (some (.ref a))) (ha : H a = some (.lst vs)) (hd : DatL H xs' vs') :
    Rep σ (upd H a (.lst vs')) (δ.set n (some (.l xs'))) ∧ Later σ H δ σ (upd H a (.lst vs')) (δ.set n (some (.l xs'))) := by
  have tp : Tups H (upd H a (.lst vs')) := Tups.upd fun ob ys z => by rw [ha] at z; cases z
  have ownA : Own σ δ a := ⟨n, _, hn, rfl, hv⟩
  have ow : ∀ b, Own σ (δ.set n (some (.l xs'))) b → Own σ δ b := fun b ⟨i, y, e1, e2, e3⟩ => by
    rcases atSlot e1 with ⟨c, _⟩ | ⟨c, e1⟩
    · subst c
      exact ⟨i, _, hn, rfl, e3⟩
    · exact ⟨i, y, e1, e2, e3⟩
  have kp : Keep (Own σ δ) H (upd H a (.lst vs')) := fun b o e nb => by
    have : b ≠ a := fun z => nb (z ▸ ownA)
    rw [upd_ne this]
    exact e
  refine ⟨⟨by rw [List.length_set]; exact R0.len, fun i r e => ?_, fun i j y z b c e1 o1 e2 o2 e3 => ?_⟩, kp, fun b h => .inl (ow b h)⟩
  · rcases atSlot e with ⟨c, er⟩ | ⟨c, e1⟩
    · subst c er
      exact ⟨_, hv, a, vs', rfl, upd_same, hd.mono tp⟩
    · obtain ⟨v, e2, q⟩ := R0.val i r e1
      refine ⟨v, e2, ?_⟩
      cases r with
      | d y => exact Dat.mono tp y v q
      | l ys =>
        obtain ⟨b, us, eb, hb, q⟩ := q
        have nb : b ≠ a := fun z => R0.dist i n _ _ b c e1 rfl hn rfl (by rw [e2, eb]) (by rw [hv, z])
        exact ⟨b, us, eb, by rw [upd_ne nb]; exact hb, q.mono tp⟩
      | r ys =>
        obtain ⟨b, us, eb, no, hb, q⟩ := q
        have nb : b ≠ a := fun z => no (z ▸ ownA)
        exact ⟨b, us, eb, fun z => no (ow b z), by rw [upd_ne nb]; exact hb, q.mono tp⟩
      | k kvs =>
        obtain ⟨b, eb, hb⟩ := q
        have nb : b ≠ a := fun z => R0.dist i n _ _ b c e1 rfl hn rfl (by rw [e2, eb]) (by rw [hv, z])
        exact ⟨b, eb, by rw [upd_ne nb]; exact hb⟩
      | p φ => exact fun H' k => q H' (kp.trans (k.mono ow))
  · have f : ∀ (i : Nat) (y : R), (δ.set n (some (.l xs')))[i]? = some (some y) → y.own = true → ∃ y', δ[i]? = some (some y') ∧ y'.own = true := fun i y e o => by
      rcases atSlot e with ⟨c, _⟩ | ⟨_, e⟩
      · subst c; exact ⟨_, hn, rfl⟩
      · exact ⟨y, e, o⟩
    obtain ⟨y', a1, a2⟩ := f i y e1 o1
    obtain ⟨z', b1, b2⟩ := f j z e2 o2
    exact R0.dist i j _ _ b c a1 a2 b1 b2 e3
/-- xs.append(e) -/
theorem ds_append {n : Nat} {xs : List D} (hn : δ[n]? = some (some (.l xs))) (h : DE te δ (.d x)) (hl : xs.length < 100000) : DS (tDrop (tBM K "list" rAppend (tVar n) (tCons te tNil))) δ (.nx (δ.set n (some (.l (xs ++ [x]))))) := fun σ H R0 E q => by
  obtain ⟨v, hv, a, vs, ea, ha, hd⟩ := R0.val n _ hn
  subst ea
  refine ⟨_, hv, .inl ⟨rfl, vs, SqL.of ha⟩, ?_⟩
  refine h σ H R0 _ fun w H1 s1 d1 => ⟨a, vs, w, rfl, rfl, s1 _ _ ha, lt_line (by rw [hd.length]; exact hl), ?_⟩
  obtain ⟨R1, l1⟩ := (R0.ext s1).putL hn hv (s1 _ _ ha) ((hd.mono (.of s1)).app (DatL.one d1.d))
  exact q _ _ R1 ((Later.refl s1).trans l1)
/-- xs.extend(ys), ys a new list -/
theorem ds_extend {n : Nat} {xs ys : List D} (hn : δ[n]? = some (some (.l xs))) (h : DE te δ (.l ys)) (hl : xs.length + ys.length ≤ 100000) : DS (tDrop (tBM K "list" rExtend (tVar n) (tCons te tNil))) δ (.nx (δ.set n (some (.l (xs ++ ys))))) := fun σ H R0 E q => by
  obtain ⟨v, hv, a, vs, ea, ha, hd⟩ := R0.val n _ hn
  subst ea
  refine ⟨_, hv, .inl ⟨rfl, vs, SqL.of ha⟩, ?_⟩
  refine h σ H R0 _ fun w H1 s1 d1 => ?_
  obtain ⟨b, us, eb, nb, hb, hu⟩ := d1
  refine ⟨a, b, vs, us, rfl, by rw [eb], s1 _ _ ha, hb, le_line (by rw [hd.length, hu.length]; exact hl), ?_⟩
  obtain ⟨R1, l1⟩ := (R0.ext s1).putL hn hv (s1 _ _ ha) ((hd.mono (.of s1)).app hu)
  exact q _ _ R1 ((Later.refl s1).trans l1)
/-- a slot's list is only read from here on -/
theorem Rep.freeze {n : Nat} {xs : List D} (R0 : Rep σ H δ) (hn : δ[n]? = some (some (.l xs))) : Rep σ H (δ.set n (some (.r xs))) ∧ Later σ H δ σ H (δ.set n (some (.r xs))) := by
  have ow : ∀ b, Own σ (δ.set n (some (.r xs))) b → Own σ δ b ∧ σ[n]? ≠ some (some (.ref b)) := fun b ⟨i, y, e1, e2, e3⟩ => by
    rcases atSlot e1 with ⟨c, er⟩ | ⟨c, e1⟩
    · rw [er] at e2; cases e2
    · exact ⟨⟨i, y, e1, e2, e3⟩, R0.dist i n _ _ b c e1 e2 hn rfl e3⟩
  refine ⟨⟨by rw [List.length_set]; exact R0.len, fun i r e => ?_, fun i j y z b c e1 o1 e2 o2 e3 => ?_⟩, skeep (Same.refl H), fun b h => .inl (ow b h).1⟩
  · rcases atSlot e with ⟨c, er⟩ | ⟨c, e1⟩
    · subst c er
      obtain ⟨v, e2, a, vs, ea, ha, hd⟩ := R0.val i _ hn
      refine ⟨v, e2, a, vs, ea, fun z => (ow a z).2 (by rw [e2, ea]), ha, hd⟩
    · obtain ⟨v, e2, q⟩ := R0.val i r e1
      refine ⟨v, e2, ?_⟩
      cases r with
      | d y => exact q
      | l ys => exact q
      | r ys => obtain ⟨b, us, eb, no, q⟩ := q; exact ⟨b, us, eb, fun z => no (ow b z).1, q⟩
      | k kvs => exact q
      | p φ => exact fun H' k => q H' (k.mono fun b z => (ow b z).1)
  · rcases atSlot e1 with ⟨_, er⟩ | ⟨_, e1⟩
    · rw [er] at o1; cases o1
    · rcases atSlot e2 with ⟨_, er⟩ | ⟨_, e2⟩
      · rw [er] at o2; cases o2
      · exact R0.dist i j _ _ b c e1 o1 e2 o2 e3
theorem ds_freeze {t : TS} {o : Out} {n : Nat} {xs : List D} (hn : δ[n]? = some (some (.l xs))) (h : DS t (δ.set n (some (.r xs))) o) : DS t δ o := fun σ H R0 E q => by
  obtain ⟨R1, l1⟩ := R0.freeze hn
  exact h σ H R1 E (q.later l1)
end

/-! ### the contract of a def -/
section
variable {P : Program} {w : World} {K : PySem.W.Frag} {mg : Str → Option Value} {base : Heap}
def Con (P : Program) (w : World) (K : PySem.W.Frag) (mg : Str → Option Value) (base : Heap) (x : Str) (ps : List Str) (k : Nat) (rel : List R → R → Prop) : Prop :=
  ∃ f fd, mg x = some (.ref f) ∧ PySem.W.keepIn K (.ref f) = true ∧ Binds K fd ps [] ∧ FnOk P w K mg base CX0 k f fd ps (spD rel)
/-- what the top has written for a def -/
def Txt1 (K : PySem.W.Frag) (mg : Str → Option Value) (x : Str) (st : Stmt) : Prop := ∃ f fd, Fun K x x st f fd ∧ mg x = some (.ref f)
theorem con_of {x : Str} {st : Stmt} {N ps : List Str} {k : Nat} {rel : List R → R → Prop} (T : Txt1 K mg x st) (S : FnScope N ps (defScope st))
    (hb : ∀ (kV doc pm : Value) (an : Option Addr) (cdv ct : Value) (us : List Value), us.length = ps.length → bindArgs (PySem.W.fnOf x x (defArgs st) (defBody st) (defScope st) .none kV doc pm an cdv ct) ⟨us, []⟩ = pure (ps.zip us))
    (hl : ∀ rs r, rel rs r → rs.length = ps.length ∧ ∀ q ∈ rs, ArgOk q)
    (hbody : ∀ (f : Addr) (cdv : Value) (A : Around) (outer : List PySem.Env) (s : Shared) (H : Hp) (E : XK), Room k (A.deeper (envOfC x (defScope st) s.heap.objs.size f cdv)) →
      ∃ t, PSs (cxOf CX0 P w K mg base N x (defScope st) f cdv A outer s H E).nox (defBody st) t ∧ ∀ rs r, rel rs r → DS t (startE N rs) (.rt r)) : Con P w K mg base x ps (k + 1) rel := by
  obtain ⟨f, fd, F, hm⟩ := T
  exact ⟨f, fd, hm, F.kp, F.binds hb, fn_D F S hl fun cdv A outer s H E hr => hbody f cdv A outer s H E hr⟩
theorem pe_con {X : Cx} {x : Str} {ps : List Str} {j k : Nat} {rel : List R → R → Prop} {t : TA} {e : Expr} {es : List Expr} {p pos : Pos} (C : Con X.prog X.w X.K X.mg X.base x ps j rel) (hr : Room k X.A) (hg : Gl X x) (ha : PA X (e :: es) t) (hjk : j ≤ k := by decide)
    (hdb : (x == ("__debug__" : Str)) = false := by decide) (he : starEach (e :: es) X.env = (false, eval e X.env) :: starEach es X.env := by rfl) (hpl : (backTo pos (starEach es X.env)).any (·.1) = false := by rfl) :
    PE X (.Call (.Name x p) (e :: es) [] pos) (tCall (spD rel) [] E0 t) := by
  obtain ⟨f, fd, h1, h2, h3, h4⟩ := C
  exact pe_call (h4.mono hjk) hr hg h1 h2 h3 .nil pass0 ha hdb he hpl
end
end DL
-- part DL4
set_option linter.all false
set_option maxRecDepth 100000
set_option maxHeartbeats 2000000
/-! sorted of a tuple of data. -/
namespace DL
open PySem PySem.Spec PyProof.Rows L2
section
variable {P : Program} {w : World} {H : Hp} {h h' : Heap} {a : Addr} {o : HO}
theorem objOk_there : ∀ {o : HO}, ObjOk P w H h a o → ∃ ob, h.get? a = some ob
  | .lst xs, x => by obtain ⟨_, _, _, _, e⟩ := x; exact ⟨_, e⟩
  | .tup xs, x => by obtain ⟨_, _, _, e⟩ := x; obtain ⟨o, e, _⟩ := e; exact ⟨_, e⟩
  | .dK kvs, x => by obtain ⟨_, _, _, _, o, _, _, e, _⟩ := x; exact ⟨_, e⟩
  | .dT kvs, x => by obtain ⟨_, _, _, _, o, _, _, e, _⟩ := x; exact ⟨_, e⟩
  | .set S n, x => by obtain ⟨o, _, _, _, e, _⟩ := x; exact ⟨_, e⟩
  | .ins C dx fs, x => by obtain ⟨_, _, _, e, _⟩ := x; exact ⟨_, e⟩
  | .own y, x => x
  | .xd fs, x => by obtain ⟨_, ⟨_, _, _, e, _⟩, _⟩ := x; exact ⟨_, e⟩
  | .rng lo hi, x => by obtain ⟨_, _, _, e⟩ := x; exact ⟨_, e⟩
  | .frz ob u, x => by obtain ⟨e, _⟩ := x; exact ⟨_, e⟩
  | .tbl ps, x => ⟨_, (show h.get? a = some _ from x)⟩
  | .met f y, x => ⟨_, (show h.get? a = some _ from x)⟩
  | .ext φ, x => by obtain ⟨_, e, _⟩ := x; exact e
theorem hok_fresh (x : HOk P w H h) (n : ∀ b u, h.get? b = some u → b ≠ a) : H a = none := by
  cases e : H a with
  | none => rfl
  | some o =>
    obtain ⟨u, q⟩ := objOk_there (x a o e)
    exact absurd rfl (n a u q)
theorem un_laid {fs ex : List Addr} (k : ∀ b u, h.get? b = some u → h'.get? b = some u) (hp : ∀ b u, h.get? b = some u → b ≠ a) (hn : H a = none) : Un fs ex H (upd H a o) h h' where
  keep := fun b u q _ _ _ => k b u q
  slot := fun b u q _ _ _ => ⟨u.slots, k b u q⟩
  free := fun b u q n _ => by rw [upd_ne (hp b u q)]; exact n
  there := fun b u q _ => ⟨u, k b u q⟩
  tups := fun b xs q => by rw [upd_ne (ne_of_none q hn)]; exact q
  frzs := fun b u xs q => by rw [upd_ne (ne_of_none q hn)]; exact q
  tbls := fun b ps q => ⟨#[], by rw [upd_ne (ne_of_none q hn), q]; simp⟩
theorem hok_laid (x : HOk P w H h) (k : ∀ b u, h.get? b = some u → h'.get? b = some u) (hp : ∀ b u, h.get? b = some u → b ≠ a) (new : ObjOk P w (upd H a o) h' a o) : HOk P w (upd H a o) h' := fun b u e => by
  have hn := hok_fresh x hp
  by_cases hb : b = a
  · subst hb; rw [upd_same] at e; cases e; exact new
  · rw [upd_ne hb] at e
    exact (x b u e).stay (fun c v _ q => k c v q) (fun c q => by rw [upd_ne (ne_of_none q hn)]; exact q) fun c xs q => by rw [upd_ne (ne_of_none q hn)]; exact q
/-- a new object at a place where none stood -/
theorem inv_laid {X : Cx} {pins : List (Addr × Obj)} {σ : List (Option V)} {s : Shared} {t' : Nat} (I : Inv X pins σ H s) (k : ∀ b u, s.heap.get? b = some u → h'.get? b = some u) (hp : ∀ b u, s.heap.get? b = some u → b ≠ a) (new : ObjOk X.prog X.w (upd H a o) h' a o) :
    Inv X pins σ (upd H a o) { s with heap := h', toks := t' } := I.un (un_laid k hp (hok_fresh I.hok hp)) (hok_laid I.hok k hp new)
end
section
variable {prog : Program} {w : World} {A : Around} {E : Value → Shared → Prop} {s : Shared}
/-- sorted(x), x anything whose items are at hand -/
theorem sorted_any {x : Value} {vs : List Value} {κ : Heap → PyProof.Rows.KeyKind} {Q : Value → Shared → Prop} (ha : argsOk "sorted" ⟨[x], []⟩)
    (hcol : ∀ (Q' : List Value → Shared → Prop), (∀ (h' : Heap) (tk : Nat), (∀ b o, s.heap.get? b = some o → h'.get? b = some o) → Q' vs { s with heap := h', toks := tk }) → ∀ E', wpAny (model prog w) A.in1 (collect x) Q' E' s)
    (hL : vs.length ≤ sizeLine) (hS : ∀ (h' : Heap) (tk : Nat), (∀ b o, s.heap.get? b = some o → h'.get? b = some o) → PySem.W.SortsAt prog w A.in1.in1 { s with heap := h', toks := tk } (κ h') vs)
    (h : ∀ (h2 h' : Heap) (tk : Nat) (p : Addr) (n : Nat), (∀ b o, s.heap.get? b = some o → h2.get? b = some o) → (∀ b o, s.heap.get? b = some o → h'.get? b = some o) → (∀ b o, s.heap.get? b = some o → b ≠ p) → h'.get? p = some (seqObj "list" (PySem.W.sortVals (κ h2) false vs vs).toArray n) → Q (.ref p) { s with heap := h', toks := tk }) :
    wpAny (model prog w) A (call (.builtin "sorted") [x]) Q E s := by
  refine PySem.Calls.call_function_entry kind_sorted plain_sorted entry_sorted ha ?_
  unfold Builtin.«sorted»
  refine wpAny_bind (m := checkCount "sorted" 1 1 _) (wpAny_pure ?_)
  refine wpAny_bind (hcol _ (fun h1 tk k1 => ?_) _)
  refine wpAny_bind (wpAny_newList ?_ hL)
  have at0 : (h1.push (seqObj "list" vs.toArray 0)).get? h1.objs.size = some (seqObj "list" vs.toArray 0) := Heap.get?_push_size _ rfl
  have k2 : ∀ b o, s.heap.get? b = some o → (h1.push (seqObj "list" vs.toArray 0)).get? b = some o := fun b o e => Heap.get?_push_of_some _ (k1 b o e)
  have ne : ∀ b o, s.heap.get? b = some o → b ≠ h1.objs.size := fun b o e => Nat.ne_of_lt (Heap.lt_size (k1 b o e))
  have k3 : ∀ b o, s.heap.get? b = some o → (PySem.W.sortingHeap (h1.push (seqObj "list" vs.toArray 0)) h1.objs.size vs).get? b = some o := fun b o e => PySem.W.sortingHeap_old (ne b o e) (k2 b o e)
  refine wpAny_bind (wpAny_holding (wpAny_call_entry slot_list_sort ⟨_, at0, rfl⟩ entry_list_sort
    (PySem.W.list_sort_vals (κ := κ _) at0 (hS _ _ k3) hL ⟨_, rfl, ?_⟩) (args_list_sort _)))
  obtain ⟨e, he⟩ := sortedHeap_at (vs := vs) (out := (PySem.W.sortVals (κ (PySem.W.sortingHeap (h1.push (seqObj "list" vs.toArray 0)) h1.objs.size vs)) false vs vs).toArray) at0
  refine wpAny_pure ⟨_, rfl, h _ _ _ _ e k3 (fun b o q => ?_) ne he⟩
  rw [sortedHeap_old (ne b o q) (Heap.lt_size (k2 b o q))]
  exact k2 b o q
end
/-! ### sorted of a tuple of data -/
section
open PySem.W
variable {β : Type} {fv : β → V} {fd : β → D}
theorem each_vals {Rr : Value → β → Prop} : ∀ {ps : List β} {us : List Value}, Vals (ps.map fv) us → (∀ p ∈ ps, ∀ u, RelV (fv p) u → Rr u p) → EachIs Rr us ps
  | [], _, r, _ => by cases r; exact .nil
  | p :: ps, _, r, h => by
    cases r with
    | cons r1 r2 => exact .cons (h p List.mem_cons_self _ r1) (each_vals r2 fun q hq => h q (List.mem_cons_of_mem _ hq))
theorem vals_each : ∀ {ps : List β} {us : List Value}, EachIs (fun u p => RelV (fv p) u) us ps → Vals (ps.map fv) us
  | _, _, .nil => .nil
  | _, _, .cons h t => .cons h (vals_each t)
/-- what sorted gives -/
def srt (fd : β → D) (ps : List β) : List β := ps.mergeSort (dataLe false fun p => toPy (fd p))
/-- the values can be sorted -/
structure SortOk (H : Hp) (fv : β → V) (fd : β → D) (ps : List β) : Prop where
  dat : ∀ p ∈ ps, Dat H (fd p) (fv p)
  alike : AllAlike (ps.map fun p => toPy (fd p))
  sort : Sortable (ps.map fun p => toPy (fd p))
  deep : ∀ p ∈ ps, (toPy (fd p)).depth ≤ 60
  len : ps.length ≤ 100000
variable {X : Cx}
/-- sorted of anything whose items are at hand -/
theorem sorted_dat {pins : List (Addr × Obj)} {s : Shared} {σ : L2.St} {H : Hp} {Q : VK} {x : Value} {us : List Value} {ps : List β} (I : Inv X pins σ H s) (ha : argsOk "sorted" ⟨[x], []⟩) (hu : X.A.units + 64 < cLine)
    (hcol : ∀ (Q' : List Value → Shared → Prop), (∀ (h' : Heap) (tk : Nat), (∀ b o, s.heap.get? b = some o → h'.get? b = some o) → Q' us { s with heap := h', toks := tk }) → ∀ E', wpAny (model X.prog X.w) X.A.in1 (collect x) Q' E' s)
    (r : Vals (ps.map fv) us) (S : SortOk H fv fd ps) (q : ∀ p, H p = none → Q (.ref p) (upd H p (.lst ((srt fd ps).map fv)))) :
    wpAny (model X.prog X.w) X.A (call (.builtin "sorted") [x]) (EP X pins σ Q) X.xe s := by
  have er : EachIs (fun v p => ∃ as, Reads s.heap v (toPy (fd p)) as) us ps := each_vals r fun p hp u ru => Dp.reads I _ _ u (dp_of (fd p) (fv p) (S.dat p hp)) ru
  have ee : EachIs (fun v p => RelV (fv p) v) us ps := each_vals r fun p hp u ru => ru
  have hL : us.length ≤ sizeLine := by rw [← r.length, List.length_map]; exact le_line S.len
  have er' : ∀ h' : Heap, (∀ b o, s.heap.get? b = some o → h'.get? b = some o) → EachIs (fun v p => ∃ as, Reads h' v (toPy (fd p)) as) us ps := fun h' k => er.mono fun _ _ ⟨as, q⟩ => ⟨as, PyProof.Rows.Reads.keeps k q⟩
  have hd : ∀ p ∈ ps, X.A.units + 2 + (toPy (fd p)).depth < cLine := fun p hp => by have := S.deep p hp; omega
  refine sorted_any (κ := fun h' => dataKind h' (ps.map fun p => toPy (fd p))) ha hcol hL (fun h' tk k => ?_) fun h2 h' tk p n k2 k ne hp => ?_
  · exact SortsAt.data (prog := X.prog) (w := X.w) (A := X.A.in1.in1) (s := { s with heap := h', toks := tk }) (each_map (R := fun v d => ∃ as, Reads h' v d as) (fun p : β => toPy (fd p)) (er' h' k)) S.alike S.sort (bound_map hd)
  · have e2 := sortVals_data false ee (er' h2 k2) S.alike
    refine ⟨.ref p, upd H p (.lst ((srt fd ps).map fv)), inv_laid I k ne ⟨?_, _, n, vals_each e2, hp⟩, rfl, q p (hok_fresh I.hok ne)⟩
    rw [List.length_map]
    unfold srt
    rw [List.length_mergeSort]
    exact le_line S.len
theorem srt_perm (ps : List β) : (srt fd ps).Perm ps := List.mergeSort_perm _ _
/-- sorted(t), t a tuple -/
def rSortTup (K : PySem.W.Frag) (fv : β → V) (fd : β → D) : List V → Hp → VK → Prop := fun vs H Q => ∃ (a : Addr) (ps : List β), vs = [.ref a] ∧ SqT K H a (ps.map fv) ∧ SortOk H fv fd ps ∧ ∀ p, H p = none → Q (.ref p) (upd H p (.lst ((srt fd ps).map fv)))
theorem cr_sortTup (hu : X.A.units + 64 < cLine) : CallR X (.builtin "sorted") (rSortTup X.K fv fd) := by
  intro pins s σ H vs us Q I r h
  obtain ⟨a, ps, rfl, hs, S, q⟩ := h
  obtain ⟨its, rv, ⟨o, ho, hc, n, hd⟩, hz⟩ := I.tuple hs
  rw [Vals.ref1 r]
  refine sorted_dat I (args_sorted1 _) hu (fun Q' hq E' => ?_) rv S q
  exact wpAny_collect_seq a (.inr rfl) ho hc hd (fun h' k => hq h' s.toks k) (by rw [List.size_toArray, ← rv.length]; exact hz)
abbrev rSortTupI (K : PySem.W.Frag) := rSortTup K V.int D.int
theorem cr_sortTupI (hu : X.A.units + 64 < cLine) : CallR X (.builtin "sorted") (rSortTupI X.K) := cr_sortTup hu
theorem srt_ints (ns : List Int) : (srt D.int ns).Pairwise (· ≤ ·) := by
  have e : srt D.int ns = ns.mergeSort fun a b => decide (a ≤ b) := by
    have : (fun p : Int => toPy (D.int p)) = fun p => PyData.int (id p) := by funext p; rw [toPy]; rfl
    unfold srt
    rw [this, dataLe_int]
    rfl
  rw [e]
  exact (List.pairwise_mergeSort (fun a b c h1 h2 => by simp only [decide_eq_true_eq] at *; omega) (fun a b => by simp only [Bool.or_eq_true, decide_eq_true_eq]; omega) ns).imp fun h => of_decide_eq_true h
theorem toPy_int (i : Int) : toPy (.int i) = .int i := by rw [toPy]
theorem sortOk_ints {H : Hp} {ns : List Int} (h : ns.length ≤ 100000) : SortOk H V.int D.int ns where
  dat := fun p _ => dat_int.mpr rfl
  alike := AllAlike.of (enc := fun p => toPy (D.int p)) fun b b' => by simp only [toPy_int]; simp [PySem.W.alike]
  sort := Sortable.others (enc := fun p => toPy (D.int p)) fun b => by simp only [toPy_int]; exact ⟨(by intro z; cases z), (by intro xs z; cases z)⟩
  deep := fun p _ => by simp only [toPy_int]; simp [PyData.depth]
  len := h
variable {K : PySem.W.Frag} {δ : Env}
theorem de_sortT {ns ms : List Int} {t : TA} (h : DA t δ [.d (.tup (ns.map D.int))]) (hl : ns.length ≤ 100000) (hp : ms.Perm ns) (hs : ms.Pairwise (· ≤ ·)) : DE (tCB (rSortTupI K) t) δ (.l (ms.map D.int)) := fun σ H R0 Q q =>
  h σ H R0 _ fun vs H1 s1 d1 => by
    obtain ⟨v, us, e, h1, h2⟩ := d1
    have h2 : us = [] := h2
    subst h2
    obtain ⟨a, xs, e1, e2, q2⟩ := dat_tup.mp (show Dat H1 (.tup (ns.map D.int)) v from h1)
    rw [datL_ints] at q2
    subst q2
    refine ⟨a, ns, by rw [e, e1], e2.sqt, sortOk_ints hl, fun p hn => ?_⟩
    have : srt D.int ns = ms := sorted_unique ((srt_perm (fd := D.int) ns).trans hp.symm) (srt_ints ns) hs
    rw [this]
    exact q _ _ (s1.trans (same_upd hn)) ⟨p, _, rfl, s1.free hn, upd_same, datL_ints.mpr rfl⟩
end
end DL
-- part DL5
set_option linter.all false
set_option maxRecDepth 100000
set_option maxHeartbeats 2000000
/-! The data layer, part 5: stores of any kind, dicts with int keys, methods of tuples, max, repeat. -/
namespace DL
open PySem PySem.Spec PyProof.Rows L2
section
variable {K : PySem.W.Frag} {δ δ1 : Env} {ta tb tc te tl : TE} {tA tB : TT} {r : R} {x y : D} {i j : Int} {b c : Bool} {o : Out}
/-! ### stores of any kind -/
/-- a value that may be stored: from H to H' -/
def RP (σ : L2.St) (δ : Env) (H H' : Hp) (v : V) : R → Prop
  | .d x => Dat H' x v
  | .l xs => ∃ a vs, v = .ref a ∧ H a = none ∧ H' a = some (.lst vs) ∧ DatL H' xs vs
  | .r xs => ∃ a vs, v = .ref a ∧ ¬ Own σ δ a ∧ H' a = some (.lst vs) ∧ DatL H' xs vs
  | .k kvs => ∃ a, v = .ref a ∧ H a = none ∧ H' a = some (.dK kvs)
  | .p φ => ∀ H'', Keep (Own σ δ) H' H'' → φ H'' v
def DV (t : TE) (δ : Env) (r : R) : Prop := ∀ (σ : L2.St) (H : Hp), Rep σ H δ → ∀ Q : VK, (∀ v H', Same H H' → RP σ δ H H' v r → Q v H') → t σ H Q
theorem dv_d (h : DE te δ (.d x)) : DV te δ (.d x) := fun σ H R0 Q q => h σ H R0 Q fun v H' s d => q v H' s d
theorem dv_l {xs : List D} (h : DE te δ (.l xs)) : DV te δ (.l xs) := fun σ H R0 Q q => h σ H R0 Q fun v H' s d => q v H' s d
theorem dv_r {n : Nat} {xs : List D} (h : δ[n]? = some (some (.r xs))) : DV (tVar n) δ (.r xs) := fun σ H R0 Q q => by
  obtain ⟨v, e, a, vs, e1, no, e2, s⟩ := R0.val n _ h
  exact ⟨v, e, q v H (Same.refl H) ⟨a, vs, e1, no, e2, s⟩⟩
theorem own_put {σ : L2.St} {δ : Env} {H H1 : Hp} {v : V} {n : Nat} {a : Addr} (q : RP σ δ H H1 v r) (z : Own (σ.set n (some v)) (δ.set n (some r)) a) : H a = none ∨ Own σ δ a := by
  rcases own_set z with ⟨z1, z2⟩ | z
  · cases r with
    | d x => cases z1
    | r x => cases z1
    | p x => cases z1
    | l xs => obtain ⟨b, vs, e, h, _⟩ := q; rw [e] at z2; cases z2; exact .inl h
    | k kvs => obtain ⟨b, e, h, _⟩ := q; rw [e] at z2; cases z2; exact .inl h
  · exact .inr z
theorem Rep.put {σ : L2.St} {H H1 : Hp} {v : V} (R0 : Rep σ H δ) (s : Same H H1) (n : Nat) (q : RP σ δ H H1 v r) : Rep (σ.set n (some v)) H1 (δ.set n (some r)) ∧ Later σ H δ (σ.set n (some v)) H1 (δ.set n (some r)) := by
  have ow := fun a => own_put (n := n) (a := a) q
  refine ⟨R0.set0 s n ?_ fun ho a ea => ?_, skeep s, fun a z => (ow a z).symm⟩
  · cases r with
    | d x => exact q
    | l xs => obtain ⟨a, vs, e, h, q⟩ := q; exact ⟨a, vs, e, q⟩
    | r xs =>
      obtain ⟨a, vs, e, no, q⟩ := q
      refine ⟨a, vs, e, fun z => ?_, q⟩
      rcases own_set z with ⟨z, _⟩ | z
      · cases z
      · exact no z
    | k kvs => obtain ⟨a, e, h, q⟩ := q; exact ⟨a, e, q⟩
    | p φ => exact fun H' k => q H' (k.mono fun b z => (own_set z).elim (fun z => nomatch z.1) id)
  · cases r with
    | d x => cases ho
    | r x => cases ho
    | p x => cases ho
    | l xs => obtain ⟨b, vs, e, h, _⟩ := q; rw [e] at ea; cases ea; exact h
    | k kvs => obtain ⟨b, e, h, _⟩ := q; rw [e] at ea; cases ea; exact h
theorem ds_put {n : Nat} (h : DV te δ r) : DS (tAsg te (gName n)) δ (.nx (δ.set n (some r))) := fun σ H R0 E q =>
  h σ H R0 _ fun v H1 s1 d1 => by
    obtain ⟨R1, l1⟩ := R0.put s1 n d1
    exact q _ _ R1 l1
/-- the second value of a pair, told behind the first's store -/
theorem RP.later {σ : L2.St} {H H1 H2 : Hp} {v w : V} {r1 r2 : R} {n : Nat} (s : Same H H1) (q1 : RP σ δ H H1 v r1) (q : RP σ δ H1 H2 w r2) (old : ∀ xs, r2 = .r xs → ∃ a, w = .ref a ∧ ∃ o, H a = some o) (np : ∀ φ, r2 ≠ .p φ) : RP (σ.set n (some v)) (δ.set n (some r1)) H1 H2 w r2 := by
  cases r2 with
  | d x => exact q
  | l xs => exact q
  | r xs =>
    obtain ⟨a, vs, e, no, q⟩ := q
    refine ⟨a, vs, e, fun z => ?_, q⟩
    obtain ⟨b, eb, ob, hb⟩ := old xs rfl
    rw [e] at eb
    cases eb
    rcases own_put q1 z with z | z
    · rw [hb] at z; cases z
    · exact no z
  | k kvs => exact q
  | p φ => exact absurd rfl (np φ)
/-- a, b = x, y of any kind; a list that is read, as second, is a slot's -/
theorem ds_par2 {n m : Nat} {t1 t2 : TE} {r1 r2 : R} (h1 : DV t1 δ r1) (h2 : DE t2 δ r2) (hr : r2.own = true ∨ ∃ x, r2 = .d x) : DS (tPar n m (tCons t1 (tCons t2 tNil))) δ (.nx ((δ.set n (some r1)).set m (some r2))) := fun σ H R0 E q =>
  h1 σ H R0 _ fun v H1 s1 d1 => h2 σ H1 (R0.ext s1) _ fun w H2 s2 d2 => by
    obtain ⟨R1, l1⟩ := R0.put s1 n d1
    have q2 : RP (σ.set n (some v)) (δ.set n (some r1)) H1 H2 w r2 := by
      rcases hr with hr | ⟨x, rfl⟩
      · cases r2 with
        | d x => cases hr
        | r x => cases hr
        | p x => cases hr
        | l xs => exact d2
        | k kvs => exact d2
      · exact d2
    obtain ⟨R2, l2⟩ := R1.put s2 m q2
    exact ⟨v, w, rfl, q _ _ R2 (l1.trans l2)⟩
theorem ds_par2r {n m k : Nat} {t1 : TE} {r1 : R} {xs : List D} (h1 : DV t1 δ r1) (h2 : δ[k]? = some (some (.r xs))) : DS (tPar n m (tCons t1 (tCons (tVar k) tNil))) δ (.nx ((δ.set n (some r1)).set m (some (.r xs)))) := fun σ H R0 E q =>
  h1 σ H R0 _ fun v H1 s1 d1 => by
    obtain ⟨R1, l1⟩ := R0.put s1 n d1
    obtain ⟨w, e, a, vs, e1, no, e2, dd⟩ := R0.val k _ h2
    have q2 : RP (σ.set n (some v)) (δ.set n (some r1)) H1 H1 w (.r xs) := by
      refine ⟨a, vs, e1, fun z => ?_, s1 _ _ e2, dd.mono (.of s1)⟩
      rcases own_put d1 z with z | z
      · rw [e2] at z; cases z
      · exact no z
    obtain ⟨R2, l2⟩ := R1.put (Same.refl H1) m q2
    exact ⟨w, e, v, w, rfl, q _ _ R2 (l1.trans l2)⟩
theorem ds_par3 {n m k : Nat} {t1 t2 t3 : TE} {r1 r2 r3 : R} (h1 : DV t1 δ r1) (h2 : DE t2 δ r2) (hr : r2.own = true ∨ ∃ x, r2 = .d x) (h3 : DE t3 δ r3) (hr3 : r3.own = true ∨ ∃ x, r3 = .d x) :
    DS (tPar3 n m k (tCons t1 (tCons t2 (tCons t3 tNil)))) δ (.nx (((δ.set n (some r1)).set m (some r2)).set k (some r3))) := fun σ H R0 E q =>
  h1 σ H R0 _ fun v H1 s1 d1 => h2 σ H1 (R0.ext s1) _ fun w H2 s2 d2 => h3 σ H2 ((R0.ext s1).ext s2) _ fun z H3 s3 d3 => by
    have cv : ∀ {σ : L2.St} {δ : Env} {H H' : Hp} {v : V} {r : R}, (r.own = true ∨ ∃ x, r = .d x) → RE H H' v r → RP σ δ H H' v r := fun {σ δ H H' v r} hr d => by
      rcases hr with hr | ⟨x, rfl⟩
      · cases r with
        | d x => cases hr
        | r x => cases hr
        | p x => cases hr
        | l xs => exact d
        | k kvs => exact d
      · exact d
    obtain ⟨R1, l1⟩ := R0.put s1 n d1
    obtain ⟨R2, l2⟩ := R1.put s2 m (cv hr d2)
    obtain ⟨R3, l3⟩ := R2.put s3 k (cv hr3 d3)
    exact ⟨v, w, z, rfl, q _ _ R3 ((l1.trans l2).trans l3)⟩

/-! ### methods of tuples, max, repeat, -1, truth -/
theorem de_index {ns : List Int} {t : Int} (ha : DE ta δ (.d (.tup (ns.map D.int)))) (hb : DE tb δ (.d (.int t))) (h : t ∈ ns) : DE (tBMT (rIndexT K) ta (tCons tb tNil)) δ (.d (.int (ns.idxOf t : Nat))) := fun σ H R0 Q q =>
  ha σ H R0 _ fun v H1 s1 d1 => by
    obtain ⟨a, xs, e, e2, q2⟩ := reT d1
    rw [datL_ints] at q2
    subst q2
    exact ⟨⟨a, _, e, e2⟩, hb σ H1 (R0.ext s1) _ fun w H2 s2 d2 => ⟨a, ns, t, e, by rw [reI d2], (e2.mono s2).sqt, h, q _ _ (s1.trans s2) re_int⟩⟩
theorem countV_ints {t : Int} : ∀ {ns : List Int}, (ns.map V.int).countP (fun z => eqV z (.int t)) = ns.count t
  | [] => rfl
  | n :: ns => by
    rw [List.map_cons, List.countP_cons, List.count_cons, countV_ints (ns := ns)]
    rfl
theorem countV_bls {t : Bool} : ∀ {ns : List Bool}, (ns.map V.bl).countP (fun z => eqV z (.bl t)) = ns.count t
  | [] => rfl
  | n :: ns => by
    rw [List.map_cons, List.countP_cons, List.count_cons, countV_bls (ns := ns)]
    rfl
theorem de_count {ns : List Int} {t : Int} (ha : DE ta δ (.d (.tup (ns.map D.int)))) (hb : DE tb δ (.d (.int t))) : DE (tBMT (rCountT K) ta (tCons tb tNil)) δ (.d (.int (ns.count t : Nat))) := fun σ H R0 Q q =>
  ha σ H R0 _ fun v H1 s1 d1 => by
    obtain ⟨a, xs, e, e2, q2⟩ := reT d1
    rw [datL_ints] at q2
    subst q2
    refine ⟨⟨a, _, e, e2⟩, hb σ H1 (R0.ext s1) _ fun w H2 s2 d2 => ⟨a, _, .int t, e, by rw [reI d2], (e2.mono s2).sqt, rfl, flat_ints ns, ?_⟩⟩
    rw [countV_ints]
    exact q _ _ (s1.trans s2) re_int
theorem de_countB {ns : List Bool} {t : Bool} (ha : DE ta δ (.d (.tup (ns.map D.bl)))) (hb : DE tb δ (.d (.bl t))) : DE (tBMT (rCountT K) ta (tCons tb tNil)) δ (.d (.int (ns.count t : Nat))) := fun σ H R0 Q q =>
  ha σ H R0 _ fun v H1 s1 d1 => by
    obtain ⟨a, xs, e, e2, q2⟩ := reT d1
    rw [datL_bls] at q2
    subst q2
    refine ⟨⟨a, _, e, e2⟩, hb σ H1 (R0.ext s1) _ fun w H2 s2 d2 => ⟨a, _, .bl t, e, by rw [reB d2], (e2.mono s2).sqt, rfl, by rw [List.all_map]; simp [flatV, Function.comp_def], ?_⟩⟩
    rw [countV_bls]
    exact q _ _ (s1.trans s2) re_int
theorem foldl_max {n m : Int} : ∀ {ns : List Int}, m ∈ n :: ns → (∀ y ∈ n :: ns, y ≤ m) → ns.foldl max n = m
  | [], h, _ => by
    have h : m = n := by simpa using h
    rw [h]; rfl
  | k :: ns, h, hl => by
    rw [List.foldl_cons]
    have h1 := hl n List.mem_cons_self
    have h2 := hl k (List.mem_cons_of_mem _ List.mem_cons_self)
    refine foldl_max ?_ fun y hy => ?_
    · rcases List.mem_cons.mp h with h | h
      · have : max n k = m := by omega
        rw [this]; exact List.mem_cons_self
      · rcases List.mem_cons.mp h with h | h
        · have : max n k = m := by omega
          rw [this]; exact List.mem_cons_self
        · exact List.mem_cons_of_mem _ h
    · rcases List.mem_cons.mp hy with hy | hy
      · omega
      · exact hl y (List.mem_cons_of_mem _ (List.mem_cons_of_mem _ hy))
theorem de_maxT {ns : List Int} {m : Int} {t : TA} (h : DA t δ [.d (.tup (ns.map D.int))]) (hm : m ∈ ns) (hl : ∀ y ∈ ns, y ≤ m) : DE (tCB (rMaxT K) t) δ (.d (.int m)) := fun σ H R0 Q q =>
  h σ H R0 _ fun vs H1 s1 d1 => by
    obtain ⟨v, us, e, h1, h2⟩ := d1
    have h2 : us = [] := h2
    subst h2
    obtain ⟨a, xs, e1, e2, q2⟩ := dat_tup.mp (show Dat H1 (.tup (ns.map D.int)) v from h1)
    rw [datL_ints] at q2
    subst q2
    cases ns with
    | nil => cases hm
    | cons n ns =>
      refine ⟨a, n, ns, by rw [e, e1], e2.sqt, ?_⟩
      rw [foldl_max hm hl]
      exact q _ _ s1 re_int
theorem flat_rep {α : Type} (x : α) : ∀ k : Nat, (List.replicate k [x]).flatten = List.replicate k x
  | 0 => rfl
  | k + 1 => by rw [List.replicate_succ, List.flatten_cons, flat_rep x k, List.replicate_succ]; rfl
theorem de_repT {k : Nat} (ha : DE ta δ (.d (.tup [x]))) (hb : DE tb δ (.d (.int (k : Int)))) (h1 : 1 ≤ k) (h2 : k ≤ 1000) : DE (tOp (rRepF K) ta tb) δ (.d (.tup (List.replicate k x))) :=
  de_op2 ha hb fun v w H h3 h4 Q q => by
    obtain ⟨a, xs, e, e2, q2⟩ := dat_tup.mp h3
    have hl : xs.length = 1 := q2.length
    refine ⟨a, k, xs, e, dat_int.mp h4, e2.sqt, (by intro z; rw [z] at hl; cases hl), by omega, by omega, by omega, fun k1 => ?_, fun _ p ob hp hd => ?_⟩
    · have : k = 1 := by omega
      subst this
      exact q _ H (Same.refl H) (re_tup e2 q2)
    · have z := datL_rep q2 k
      rw [flat_rep] at z
      rw [Int.toNat_natCast]
      exact q _ _ (same_upd hp) (re_tup (.new hd) (z.mono (.of (same_upd hp))))
theorem de_neg (ha : DE ta δ (.d (.int i))) : DE (tUn (rU fun i => .int (-i)) ta) δ (.d (.int (-i))) := fun σ H R0 Q q =>
  ha σ H R0 _ fun v H1 s1 d1 => ⟨i, reI d1, q _ H1 s1 re_int⟩
theorem dt_truL {xs : List D} (h : DE te δ (.r xs)) : DT (fun σ H Q => te σ H fun x H' => ∃ k, TruV K x H' k ∧ Q k H') δ (!xs.isEmpty) := fun σ H R0 Q q =>
  h σ H R0 _ fun v H1 s1 d1 => by
    obtain ⟨a, vs, e, e2, q2⟩ := d1
    subst e
    refine ⟨!xs.isEmpty, .inl ⟨vs, SqL.of e2, ?_⟩, q H1 s1⟩
    have := q2.length
    cases xs <;> cases vs <;> first | rfl | simp at this
def isNonD : D → Bool
  | .non => true
  | _ => false
theorem de_isN (h : DE te δ (.d x)) : DE (tIsN te) δ (.d (.bl (isNonD x))) := fun σ H R0 Q q =>
  h σ H R0 _ fun v H1 s1 d1 => by
    have d2 : Dat H1 x v := d1
    clear d1
    have : decide (v = V.non) = isNonD x := by
      cases x with
      | non => rw [dat_non.mp d2]; rfl
      | bl b => rw [dat_bl.mp d2]; rfl
      | int b => rw [dat_int.mp d2]; rfl
      | str b => rw [dat_str.mp d2]; rfl
      | tup b => obtain ⟨a, xs, e, _⟩ := dat_tup.mp d2; rw [e]; rfl
    rw [this]
    exact q _ H1 s1 re_bl
theorem de_isNL {xs : List D} (h : DE te δ (.r xs)) : DE (tIsN te) δ (.d (.bl false)) := fun σ H R0 Q q =>
  h σ H R0 _ fun v H1 s1 d1 => by
    obtain ⟨a, vs, e, _⟩ := d1
    subst e
    exact q _ H1 s1 re_bl
theorem de_notNL {xs : List D} (h : DE te δ (.r xs)) : DE (tNotN te) δ (.d (.bl true)) := fun σ H R0 Q q =>
  h σ H R0 _ fun v H1 s1 d1 => by
    obtain ⟨a, vs, e, _⟩ := d1
    subst e
    exact q _ H1 s1 re_bl

/-! ### dicts from ints to ints -/
def kI (l : List (Int × Int)) : List (Key × V) := l.map fun p => (Sum.inl p.1, V.int p.2)
theorem valV_kI {t : Int} : ∀ {l : List (Int × Int)}, valV (kI l) (Sum.inl t : Key) = (l.lookup t).map V.int
  | [] => rfl
  | p :: l => by
    have ih := valV_kI (t := t) (l := l)
    unfold valV kI at ih ⊢
    rw [List.map_cons, List.find?_cons]
    by_cases c : p.1 = t
    · have : decide ((Sum.inl p.1 : Key) = Sum.inl t) = true := by rw [c]; exact decide_eq_true rfl
      simp only [this]
      obtain ⟨p1, p2⟩ := p
      have c : p1 = t := c
      subst c
      simp [List.lookup]
    · have : decide ((Sum.inl p.1 : Key) = Sum.inl t) = false := decide_eq_false fun z => c (Sum.inl.inj z)
      simp only [this]
      rw [ih]
      obtain ⟨p1, p2⟩ := p
      have c : ¬ p1 = t := c
      have c' : (t == p1) = false := beq_eq_false_iff_ne.mpr fun z => c z.symm
      simp [List.lookup, c']
theorem de_kin {l : List (Int × Int)} {t : Int} {n : Nat} (ha : DE ta δ (.d (.int t))) (hn : δ[n]? = some (some (.k (kI l)))) : DE (tDIn ta (tVar n)) δ (.d (.bl (l.lookup t).isSome)) := fun σ H R0 Q q =>
  ha σ H R0 _ fun v H1 s1 d1 => by
    obtain ⟨w, e, a, e2, e3⟩ := (R0.ext s1).val n _ hn
    refine ⟨w, e, a, (l.lookup t).map V.int, e2, .inl ⟨_, Sum.inl t, .inl e3, by rw [reI d1]; rfl, valV_kI.symm⟩, ?_⟩
    rw [Option.isSome_map]
    exact q _ H1 s1 re_bl
theorem de_knotin {l : List (Int × Int)} {t : Int} {n : Nat} (ha : DE ta δ (.d (.int t))) (hn : δ[n]? = some (some (.k (kI l)))) : DE (tDNotIn ta (tVar n)) δ (.d (.bl (!(l.lookup t).isSome))) := fun σ H R0 Q q =>
  ha σ H R0 _ fun v H1 s1 d1 => by
    obtain ⟨w, e, a, e2, e3⟩ := (R0.ext s1).val n _ hn
    refine ⟨w, e, a, (l.lookup t).map V.int, e2, .inl ⟨_, Sum.inl t, .inl e3, by rw [reI d1]; rfl, valV_kI.symm⟩, ?_⟩
    rw [Option.isSome_map]
    exact q _ H1 s1 re_bl
theorem de_kget {l : List (Int × Int)} {t u : Int} {n : Nat} (hn : δ[n]? = some (some (.k (kI l)))) (ha : DE ta δ (.d (.int t))) (h : l.lookup t = some u) : DE (tDGet (tVar n) ta) δ (.d (.int u)) := fun σ H R0 Q q => by
  obtain ⟨w, e, a, e2, e3⟩ := R0.val n _ hn
  refine ⟨w, e, ?_⟩
  refine ha σ H R0 _ fun v H1 s1 d1 => ⟨a, .int u, e2, .inl ⟨_, Sum.inl t, .inl (s1 _ _ e3), by rw [reI d1]; rfl, by rw [valV_kI, h]; rfl⟩, q _ H1 s1 re_int⟩
theorem de_klen {l : List (Int × Int)} {n : Nat} (hn : δ[n]? = some (some (.k (kI l)))) : DE (tCB (fun xs H Q => ∃ a kvs, xs = [V.ref a] ∧ H a = some (.dK kvs) ∧ Q (.int kvs.length) H) (tCons (tVar n) tNil)) δ (.d (.int (l.length : Nat))) := fun σ H R0 Q q => by
  obtain ⟨w, e, a, e2, e3⟩ := R0.val n _ hn
  refine ⟨w, e, a, _, by rw [e2], e3, ?_⟩
  have : (kI l).length = l.length := by unfold kI; rw [List.length_map]
  rw [this]
  exact q _ H (Same.refl H) re_int
/-- the dict in slot n gets a pair more -/
theorem Rep.putK {σ : L2.St} {H : Hp} {n : Nat} {kvs kvs' : List (Key × V)} {a : Addr} (R0 : Rep σ H δ) (hn : δ[n]? = some (some (.k kvs))) (hv : σ[n]? = some (some (.ref a))) (ha : H a = some (.dK kvs)) :
    Rep σ (upd H a (.dK kvs')) (δ.set n (some (.k kvs'))) ∧ Later σ H δ σ (upd H a (.dK kvs')) (δ.set n (some (.k kvs'))) := by
  have tp : Tups H (upd H a (.dK kvs')) := Tups.upd fun ob ys z => by rw [ha] at z; cases z
  have ownA : Own σ δ a := ⟨n, _, hn, rfl, hv⟩
  have ow : ∀ b, Own σ (δ.set n (some (.k kvs'))) b → Own σ δ b := fun b ⟨i, y, e1, e2, e3⟩ => by
    rcases atSlot e1 with ⟨c, _⟩ | ⟨c, e1⟩
    · subst c
      exact ⟨i, _, hn, rfl, e3⟩
    · exact ⟨i, y, e1, e2, e3⟩
  have kp : Keep (Own σ δ) H (upd H a (.dK kvs')) := fun b o e nb => by
    have : b ≠ a := fun z => nb (z ▸ ownA)
    rw [upd_ne this]
    exact e
  refine ⟨⟨by rw [List.length_set]; exact R0.len, fun i r e => ?_, fun i j y z b c e1 o1 e2 o2 e3 => ?_⟩, kp, fun b h => .inl (ow b h)⟩
  · rcases atSlot e with ⟨c, er⟩ | ⟨c, e1⟩
    · subst c er
      exact ⟨_, hv, a, rfl, upd_same⟩
    · obtain ⟨v, e2, q⟩ := R0.val i r e1
      refine ⟨v, e2, ?_⟩
      cases r with
      | d y => exact Dat.mono tp y v q
      | l ys =>
        obtain ⟨b, us, eb, hb, q⟩ := q
        have nb : b ≠ a := fun z => R0.dist i n _ _ b c e1 rfl hn rfl (by rw [e2, eb]) (by rw [hv, z])
        exact ⟨b, us, eb, by rw [upd_ne nb]; exact hb, q.mono tp⟩
      | r ys =>
        obtain ⟨b, us, eb, no, hb, q⟩ := q
        have nb : b ≠ a := fun z => no (z ▸ ownA)
        exact ⟨b, us, eb, fun z => no (ow b z), by rw [upd_ne nb]; exact hb, q.mono tp⟩
      | k ks =>
        obtain ⟨b, eb, hb⟩ := q
        have nb : b ≠ a := fun z => R0.dist i n _ _ b c e1 rfl hn rfl (by rw [e2, eb]) (by rw [hv, z])
        exact ⟨b, eb, by rw [upd_ne nb]; exact hb⟩
      | p φ => exact fun H' k => q H' (kp.trans (k.mono ow))
  · have f : ∀ (i : Nat) (y : R), (δ.set n (some (.k kvs')))[i]? = some (some y) → y.own = true → ∃ y', δ[i]? = some (some y') ∧ y'.own = true := fun i y e o => by
      rcases atSlot e with ⟨c, _⟩ | ⟨_, e⟩
      · subst c; exact ⟨_, hn, rfl⟩
      · exact ⟨y, e, o⟩
    obtain ⟨y', a1, a2⟩ := f i y e1 o1
    obtain ⟨z', b1, b2⟩ := f j z e2 o2
    exact R0.dist i j _ _ b c a1 a2 b1 b2 e3
theorem kI_put {l : List (Int × Int)} {t u : Int} (h : l.lookup t = none) : L2.putK (kI l) (Sum.inl t : Key) (.int u) = kI (l ++ [(t, u)]) := by
  rw [putK_new _ (by rw [valV_kI, h]; rfl)]
  unfold kI
  rw [List.map_append]
  rfl
theorem ds_kput {l : List (Int × Int)} {t u : Int} {n : Nat} {tv : TE} (hn : δ[n]? = some (some (.k (kI l)))) (ha : DE ta δ (.d (.int t))) (hv : DE tv δ (.d (.int u))) (h : l.lookup t = none) (hl : l.length ≤ 1000) :
    DS (sDPut (tVar n) ta tv) δ (.nx (δ.set n (some (.k (kI (l ++ [(t, u)])))))) := fun σ H R0 E q =>
  hv σ H R0 _ fun v H1 s1 d1 => by
    obtain ⟨w, e, a, e2, e3⟩ := (R0.ext s1).val n _ hn
    refine ⟨w, e, ?_⟩
    refine ha σ H1 (R0.ext s1) _ fun z H2 s2 d2 => ?_
    refine ⟨a, _, e2, .inl ⟨_, Sum.inl t, s2 _ _ e3, by rw [reI d2]; rfl, ?_, rfl⟩, ?_⟩
    · have : (kI l).length = l.length := by unfold kI; rw [List.length_map]
      rw [this]
      exact lt_line (by omega)
    · rw [reI d1, kI_put h]
      subst e2
      obtain ⟨R2, l2⟩ := ((R0.ext s1).ext s2).putK (kvs' := kI (l ++ [(t, u)])) hn e (s2 _ _ e3)
      exact q _ _ R2 ((Later.refl (s1.trans s2)).trans l2)
end
end DL
-- part DL6
set_option linter.all false
set_option maxRecDepth 100000
set_option maxHeartbeats 2000000
/-! The data layer, part 6: comprehensions in short. -/
namespace DL
open PySem PySem.Spec PyProof.Rows L2
section
variable {K : PySem.W.Frag} {δ δ1 : Env} {ta tb tc te tl : TE} {tA tB : TT} {r : R} {x y : D} {j : Int} {b c : Bool} {o : Out}
/-- [e for x in t], t = l.map f -/
theorem de_mapT {α : Type} {l : List α} {f : α → D} {i : Nat} (g : α → D) (h : DE tl δ (.d (.tup (l.map f)))) (he : ∀ a ∈ l, DE te ((δ.set i none).set i (some (.d (f a)))) (.d (g a))) (hl : l.length ≤ 100000) : DE (tLc (iTup K tl) (gName i) tYes te [i]) δ (.l (l.map g)) := by
  refine de_lcT h gok_nm ?_ (by intro k hk; exact hk) (by rw [List.length_map]; exact hl)
  clear h hl
  induction l with
  | nil => exact .nil
  | cons a l ih => exact .yes (δ1 := (δ.set i none).set i (some (.d (f a)))) rfl tYes_ok (he a List.mem_cons_self) (ih fun b hb => he b (List.mem_cons_of_mem _ hb))
theorem de_mapL {α : Type} {l : List α} {f : α → D} {i : Nat} (g : α → D) (h : DE tl δ (.r (l.map f)) ∨ DE tl δ (.l (l.map f))) (he : ∀ a ∈ l, DE te ((δ.set i none).set i (some (.d (f a)))) (.d (g a))) (hl : l.length ≤ 100000) : DE (tLc (iList K tl) (gName i) tYes te [i]) δ (.l (l.map g)) := by
  refine de_lcL h gok_nm ?_ (by intro k hk; exact hk) (by rw [List.length_map]; exact hl)
  clear h hl
  induction l with
  | nil => exact .nil
  | cons a l ih => exact .yes (δ1 := (δ.set i none).set i (some (.d (f a)))) rfl tYes_ok (he a List.mem_cons_self) (ih fun b hb => he b (List.mem_cons_of_mem _ hb))
/-- [e for x in t if c] -/
theorem de_filT {α : Type} {l : List α} {f : α → D} {i : Nat} {tt : TT} (p : α → Bool) (g : α → D) (h : DE tl δ (.d (.tup (l.map f)))) (ht : ∀ a ∈ l, DT tt ((δ.set i none).set i (some (.d (f a)))) (p a)) (he : ∀ a ∈ l, p a = true → DE te ((δ.set i none).set i (some (.d (f a)))) (.d (g a))) (hl : l.length ≤ 100000) :
    DE (tLc (iTup K tl) (gName i) tt te [i]) δ (.l ((l.filter p).map g)) := by
  refine de_lcT h gok_nm ?_ (by intro k hk; exact hk) (by rw [List.length_map]; exact Nat.le_trans (List.length_filter_le _ _) hl)
  clear h hl
  induction l with
  | nil => exact .nil
  | cons a l ih =>
    have q := ht a List.mem_cons_self
    have ih := ih (fun b hb => ht b (List.mem_cons_of_mem _ hb)) fun b hb => he b (List.mem_cons_of_mem _ hb)
    cases c : p a with
    | true =>
      rw [List.filter_cons_of_pos c]
      rw [c] at q
      exact .yes (δ1 := (δ.set i none).set i (some (.d (f a)))) rfl q (he a List.mem_cons_self c) ih
    | false =>
      rw [List.filter_cons_of_neg (by rw [c]; decide)]
      rw [c] at q
      exact .no (δ1 := (δ.set i none).set i (some (.d (f a)))) rfl q ih
theorem de_filL {α : Type} {l : List α} {f : α → D} {i : Nat} {tt : TT} (p : α → Bool) (g : α → D) (h : DE tl δ (.r (l.map f)) ∨ DE tl δ (.l (l.map f))) (ht : ∀ a ∈ l, DT tt ((δ.set i none).set i (some (.d (f a)))) (p a)) (he : ∀ a ∈ l, p a = true → DE te ((δ.set i none).set i (some (.d (f a)))) (.d (g a))) (hl : l.length ≤ 100000) :
    DE (tLc (iList K tl) (gName i) tt te [i]) δ (.l ((l.filter p).map g)) := by
  refine de_lcL h gok_nm ?_ (by intro k hk; exact hk) (by rw [List.length_map]; exact Nat.le_trans (List.length_filter_le _ _) hl)
  clear h hl
  induction l with
  | nil => exact .nil
  | cons a l ih =>
    have q := ht a List.mem_cons_self
    have ih := ih (fun b hb => ht b (List.mem_cons_of_mem _ hb)) fun b hb => he b (List.mem_cons_of_mem _ hb)
    cases c : p a with
    | true =>
      rw [List.filter_cons_of_pos c]
      rw [c] at q
      exact .yes (δ1 := (δ.set i none).set i (some (.d (f a)))) rfl q (he a List.mem_cons_self c) ih
    | false =>
      rw [List.filter_cons_of_neg (by rw [c]; decide)]
      rw [c] at q
      exact .no (δ1 := (δ.set i none).set i (some (.d (f a)))) rfl q ih
/-- [e for x in range(n) if c] -/
theorem de_filN {i m : Nat} {n : Int} {tt : TT} {t : TA} (p : Nat → Bool) (g : Nat → D) (h : DAd t δ [.int n]) (hn : n = (m : Int)) (hm : m ≤ 100000) (ht : ∀ a, a < m → DT tt ((δ.set i none).set i (some (.d (.int (a : Int))))) (p a)) (he : ∀ a, a < m → p a = true → DE te ((δ.set i none).set i (some (.d (.int (a : Int))))) (.d (g a))) :
    DE (tLc (iRng1 t) (gName i) tt te [i]) δ (.l (((List.range m).filter p).map g)) := by
  refine de_lcN h gok_nm (by omega) (m := m) (by omega) ?_ (by intro k hk; exact hk) (by rw [List.length_map]; exact Nat.le_trans (List.length_filter_le _ _) (by rw [List.length_range]; exact hm))
  unfold rngD
  have ht : ∀ a ∈ List.range m, DT tt ((δ.set i none).set i (some (.d (.int (a : Int))))) (p a) := fun a ha => ht a (List.mem_range.mp ha)
  have he : ∀ a ∈ List.range m, p a = true → DE te ((δ.set i none).set i (some (.d (.int (a : Int))))) (.d (g a)) := fun a ha => he a (List.mem_range.mp ha)
  revert ht he
  generalize List.range m = l
  intro ht he
  induction l with
  | nil => exact .nil
  | cons a l ih =>
    have q := ht a List.mem_cons_self
    have ih := ih (fun b hb => ht b (List.mem_cons_of_mem _ hb)) fun b hb => he b (List.mem_cons_of_mem _ hb)
    cases c : p a with
    | true =>
      rw [List.filter_cons_of_pos c]
      rw [c] at q
      exact .yes (δ1 := (δ.set i none).set i (some (.d (.int (a : Int))))) rfl q (he a List.mem_cons_self c) ih
    | false =>
      rw [List.filter_cons_of_neg (by rw [c]; decide)]
      rw [c] at q
      exact .no (δ1 := (δ.set i none).set i (some (.d (.int (a : Int))))) rfl q ih
theorem de_mapN {i m : Nat} {n : Int} {t : TA} (g : Nat → D) (h : DAd t δ [.int n]) (hn : n = (m : Int)) (hm : m ≤ 100000) (he : ∀ a, a < m → DE te ((δ.set i none).set i (some (.d (.int (a : Int))))) (.d (g a))) :
    DE (tLc (iRng1 t) (gName i) tYes te [i]) δ (.l ((List.range m).map g)) := by
  have q := de_filN (tt := tYes) (p := fun _ => true) g h hn hm (fun a _ => tYes_ok) fun a ha _ => he a ha
  rw [List.filter_eq_self.mpr fun a _ => rfl] at q
  exact q
/-- all([e for x in t]) -/
theorem de_allM {α : Type} {l : List α} {f : α → D} {i : Nat} (g : α → Bool) (h : DE tl δ (.d (.tup (l.map f)))) (he : ∀ a ∈ l, DE te ((δ.set i none).set i (some (.d (f a)))) (.d (.bl (g a)))) (hl : l.length ≤ 100000) :
    DE (tCB (rAll K) (tCons (tLc (iTup K tl) (gName i) tYes te [i]) tNil)) δ (.d (.bl (l.all g))) := by
  have q := de_mapT (K := K) (g := fun a => D.bl (g a)) h he hl
  have e : l.map (fun a => D.bl (g a)) = (l.map g).map D.bl := by rw [List.map_map]; rfl
  rw [e] at q
  have z := de_all (K := K) (da_l q da_nil)
  have e2 : (l.map g).all id = l.all g := by rw [List.all_map]; rfl
  rw [e2] at z
  exact z
theorem de_allTrue {α : Type} {l : List α} {f : α → D} {i : Nat} (h : DE tl δ (.d (.tup (l.map f)))) (he : ∀ a ∈ l, DE te ((δ.set i none).set i (some (.d (f a)))) (.d (.bl true))) (hl : l.length ≤ 100000) :
    DE (tCB (rAll K) (tCons (tLc (iTup K tl) (gName i) tYes te [i]) tNil)) δ (.d (.bl true)) := by
  have q := de_allM (K := K) (fun _ => true) h he hl
  have e : l.all (fun _ => true) = true := by simp
  rw [e] at q
  exact q
end
end DL
-- part DL7
set_option linter.all false
set_option maxRecDepth 100000
set_option maxHeartbeats 2000000
/-! The rules again, the frozen part of the heap by name: they hold in a comprehension's block too. -/
namespace DL
open PySem PySem.Spec PyProof.Rows L2
section
variable {X : Cx} (K : PySem.W.Frag) (e : X.K = K := by rfl)
include e
theorem kx_in : OpR X (compareOp .In) (rIn K false) := by subst e; exact op_in_seq
theorem kx_notin : OpR X (compareOp .NotIn) (rIn K true) := by subst e; exact op_notIn_seq
theorem kx_catF : OpR X (binaryOp .Add) (rCatF K) := by subst e; exact op_catF
theorem kx_repF : OpR X (binaryOp .Mult) (rRepF K) := by subst e; exact op_repF
theorem kx_eqD (hu : X.A.units + 64 < cLine) : OpR X (compareOp .Eq) (rEqD K) := by subst e; exact op_eqD hu
theorem kx_neD (hu : X.A.units + 64 < cLine) : OpR X (compareOp .NotEq) (rNeD K) := by subst e; exact op_neD hu
theorem kx_ixL : IxR X (rIxL K) := by subst e; exact ix_list
theorem kx_ixT : IxR X (rIxT K) := by subst e; exact ix_tup
theorem kx_sl : SlR X (rSlF K) := by subst e; exact sl_tupF
theorem kx_isi : CallR X (.builtin "isinstance") (rIsi K) := by subst e; exact call_isi
theorem kx_all (hc : X.calm = true) : CallR X (.builtin "all") (rAll K) := by subst e; exact cr_all hc
theorem kx_sortT (hu : X.A.units + 64 < cLine) : CallR X (.builtin "sorted") (rSortTupI K) := by subst e; exact cr_sortTupI hu
theorem kx_sortI : CallR X (.builtin "sorted") (rSortedI K) := by subst e; exact cr_sortedI
def rLenS (K : PySem.W.Frag) : List V → Hp → VK → Prop := fun xs H Q => ∃ p ys, xs = [.ref p] ∧ (SqL K H p ys ∨ SqT K H p ys) ∧ Q (.int ys.length) H
theorem kx_len : CallR X (.builtin "len") (rLenS K) := by subst e; exact call_len_seq
theorem kx_tup : CallR X (.type "tuple") (rTupF K) := by subst e; exact call_tupF
def rListS (K : PySem.W.Frag) : List V → Hp → VK → Prop := fun xs H Q => ∃ p ys, xs = [.ref p] ∧ (SqL K H p ys ∨ SqT K H p ys) ∧ ∀ l, H l = none → Q (.ref l) (upd H l (.lst ys))
theorem kx_list : CallR X (.type "list") (rListS K) := by subst e; exact call_list_of
theorem kx_maxT (hc : X.calm = true) (hu : X.A.units + 64 < cLine) : CallR X (.builtin "max") (rMaxT K) := by subst e; exact cr_maxT hc hu
theorem kx_index : MtR X "tuple.index" (rIndexT K) := by subst e; exact mt_indexT
theorem kx_count : MtR X "tuple.count" (rCountT K) := by subst e; exact mt_countT
theorem kpi_list {tg l : Expr} {tl : TE} (hl : PE X l tl) : PI X tg l (iList K tl) := by subst e; exact pi_list hl
theorem kpi_tup {tg l : Expr} {tl : TE} (hl : PE X l tl) : PI X tg l (iTup K tl) := by subst e; exact pi_tup hl
theorem kpg_tup {es : List Expr} {k : Nat} {t : TGs} {pos : Pos} (n : Nat) (hc : X.calm = true) (h : PGs X es t) (hn : (assignEach es X.env).length = n := by rfl) (hst : (assignEach es X.env).findIdx? (·.1) = none := by rfl) : PG X (.Tuple es k pos) (gTup K n t) := by
  subst e
  exact pg_tup hc h hn hst
theorem kpt_truth {a : Expr} {ta : TE} (ha : PE X a ta) (he : ∀ whole, isTrue a X.env whole = (do let v ← whole; standAt a.pos; holding [v] (truthy v)) := by intro _; rfl) :
    PT X a (fun σ H Q => ta σ H fun x H' => ∃ k, TruV K x H' k ∧ Q k H') := by
  subst e
  exact pt_truth ha he
theorem kpe_bm {id : String} {o ex : Expr} {es : List Expr} {to : TE} {t : TA} {nm : Str} {apos cpos : Pos} {T : String} {r : V → List V → Hp → VK → Prop} (pa : PlainAttrs T) (slot : Slot T nm id) (hty : typeOf (.builtin id) = pure (.type "method_descriptor")) (hm : MtR X id r) (ho : PE X o to) (ha : PA X (ex :: es) t)
    (hbase : attributeBase o nm X.env (eval o X.env) = eval o X.env := by rfl)
    (hfew : ((backTo cpos (starEach (ex :: es) X.env)).all (fun x => !x.1) && (backToKw cpos (keywordEach [] X.env)).all (fun x => x.1.isSome)
      && decide ((ex :: es).length + ([] : List Keyword).length + (if ([] : List Keyword).isEmpty then 0 else 1) < 30)) = true := by rfl)
    (hline : (apos.endLine == cpos.line) = true := by rfl) (hs : starEach (ex :: es) X.env = (false, eval ex X.env) :: starEach es X.env := by rfl) (hplain : (backTo cpos (starEach es X.env)).any (·.1) = false := by rfl) :
    PE X (.Call (.Attribute o nm apos) (ex :: es) [] cpos) (tBM K T r to t) := by
  subst e
  exact pe_bm pa slot hty hm ho ha hbase hfew hline hs hplain
end
section
variable {K : PySem.W.Frag} {δ δ1 : Env} {te : TE} {x : D} {t : TS} {o : Out}
theorem ds_unp {g : TG} {T : Tg} (h : DE te δ (.d x)) (hg : GOk g T) (e : T.set x δ = some δ1) : DS (tAsg te g) δ (.nx δ1) := fun σ H R0 E q =>
  h σ H R0 _ fun v H1 s1 d1 => hg σ H1 δ δ1 v x (R0.ext s1) d1 e _ fun σ' R' l _ => q σ' H1 R' ((Later.refl s1).trans l)
end
/-- a body whose end is reached hands None back -/
def endN (t : TS) : TS := fun E σ H => t { E with nx := fun _ H' => E.rt .non H' } σ H
theorem ds_endN {t : TS} {δ δ1 : Env} (h : DS t δ (.nx δ1)) : DS (endN t) δ (.rt (.d .non)) := fun σ H R0 E q =>
  h σ H R0 _ fun σ' H' R' l => q .non H' l.keep (RE.rt (H := H) re_non fun _ z => nomatch z)
section
variable {P : Program} {w : World} {K : PySem.W.Frag} {mg : Str → Option Value} {base : Heap}
theorem con_ofN {x : Str} {st : Stmt} {N ps : List Str} {k : Nat} {rel : List R → R → Prop} (T : Txt1 K mg x st) (S : FnScope N ps (defScope st))
    (hb : ∀ (kV doc pm : Value) (an : Option Addr) (cdv ct : Value) (us : List Value), us.length = ps.length → bindArgs (PySem.W.fnOf x x (defArgs st) (defBody st) (defScope st) .none kV doc pm an cdv ct) ⟨us, []⟩ = pure (ps.zip us))
    (hl : ∀ rs r, rel rs r → rs.length = ps.length ∧ ∀ q ∈ rs, ArgOk q)
    (hbody : ∀ (f : Addr) (cdv : Value) (A : Around) (outer : List PySem.Env) (s : Shared) (H : Hp) (E : XK), Room k (A.deeper (envOfC x (defScope st) s.heap.objs.size f cdv)) →
      ∃ t, PSs (cxOf CX0 P w K mg base N x (defScope st) f cdv A outer s H E).nox (defBody st) t ∧ ∀ rs r, rel rs r → DS (endN t) (startE N rs) (.rt r)) : Con P w K mg base x ps (k + 1) rel := by
  obtain ⟨f, fd, F, hm⟩ := T
  refine ⟨f, fd, hm, F.kp, F.binds hb, F.ok S (fun vs H Q E h => ?_) (fun cdv A outer s H vs Q E hr h => ?_)⟩
  · obtain ⟨rs, r, a, b, _⟩ := h
    rw [a.length]
    exact (hl rs r b).1
  · obtain ⟨rs, r, a, b, q⟩ := h
    obtain ⟨t, h1, h2⟩ := hbody f cdv A outer s H E hr
    obtain ⟨R0, no⟩ := rep_start (N := N) a (hl rs r b).2
    refine ⟨t, h1, h2 rs r b _ H R0 { nx := fun _ H' => Q .non H', rt := Q } fun v H' k' d' => q v H' (fun c o e => k' c o e (no c)) ?_⟩
    cases r with
    | d x => exact d'
    | l xs => obtain ⟨c, us, e, n, z⟩ := d'; exact ⟨c, us, e, n.resolve_left (no c), z⟩
    | r xs => exact d'.elim
    | k kvs => obtain ⟨c, e, n, z⟩ := d'; exact ⟨c, e, n.resolve_left (no c), z⟩
    | p φ => exact d'
end
end DL
-- part DL8
set_option linter.all false
set_option maxRecDepth 100000
set_option maxHeartbeats 2000000
/-! The data layer, part 8: loops by an environment for every turn. -/
namespace DL
open PySem PySem.Spec PyProof.Rows L2
/-- the slots of the first are those of the second, some forgotten -/
def SubE : Env → Env → Prop
  | [], [] => True
  | a :: as, b :: bs => (a = none ∨ a = b) ∧ SubE as bs
  | _, _ => False
theorem SubE.len : ∀ {a b : Env}, SubE a b → a.length = b.length
  | [], [], _ => rfl
  | _ :: _, _ :: _, h => congrArg (· + 1) (SubE.len h.2)
  | [], _ :: _, h => h.elim
  | _ :: _, [], h => h.elim
theorem SubE.get : ∀ {a b : Env}, SubE a b → ∀ (i : Nat) (r : R), a[i]? = some (some r) → b[i]? = some (some r)
  | [], [], _, i, r, e => by simp at e
  | x :: as, y :: bs, h, 0, r, e => by
    have e : x = some r := by simpa using e
    rcases h.1 with z | z
    · rw [z] at e; cases e
    · rw [← z, e]; rfl
  | x :: as, y :: bs, h, i + 1, r, e => by
    have e : as[i]? = some (some r) := by simpa using e
    have := SubE.get h.2 i r e
    simpa using this
  | [], _ :: _, h, _, _, _ => h.elim
  | _ :: _, [], h, _, _, _ => h.elim
section
variable {K : PySem.W.Frag} {δ δ1 δ2 : Env} {t u : TS} {o : Out}
theorem ds_fg (h : DS t δ (.nx δ1)) (s : SubE δ2 δ1) : DS t δ (.nx δ2) := fun σ H R0 E q => h σ H R0 E fun σ' H' R' l => by
  obtain ⟨R2, l2⟩ := R'.weak s.len s.get
  exact q σ' H' R2 (l.trans l2)
/-- forget slots first -/
theorem ds_wk (s : SubE δ1 δ) (h : DS t δ1 o) : DS t δ o := ds_weak h s.len s.get
/-- a loop over data whose environment ahead of turn k is env k -/
theorem loop_env {tb : TS} {T : Tg} {ds : List D} (env : Nat → Env) (h : ∀ k d, ds[k]? = some d → ∃ δ1, T.set d (env k) = some δ1 ∧ DS tb δ1 (.nx (env (k + 1)))) : ∀ (j n : Nat), j + n = ds.length → Loop tb T (ds.drop j) (env j) (.nx (env ds.length))
  | j, 0, e => by
    have : j = ds.length := by omega
    subst this
    rw [List.drop_length]
    exact .nil
  | j, n + 1, e => by
    have lt : j < ds.length := by omega
    rw [List.drop_eq_getElem_cons lt]
    obtain ⟨δ1, h1, h2⟩ := h j ds[j] (List.getElem?_eq_getElem lt)
    exact .next h1 h2 (loop_env env h (j + 1) n (by omega))
theorem loop_all {tb : TS} {T : Tg} {ds : List D} {δ0 : Env} (env : Nat → Env) (h0 : δ0 = env 0) (h : ∀ k d, ds[k]? = some d → ∃ δ1, T.set d (env k) = some δ1 ∧ DS tb δ1 (.nx (env (k + 1)))) : Loop tb T ds δ0 (.nx (env ds.length)) := by
  have := loop_env env h 0 ds.length (by omega)
  rw [List.drop_zero] at this
  rw [h0]
  exact this
/-- a loop that may hand back ahead of its end: turn k does not, up to m; the turn m does -/
theorem loop_ret {tb : TS} {T : Tg} {ds : List D} {δ0 : Env} {r : R} (env : Nat → Env) (h0 : δ0 = env 0) (m : Nat) (hm : m < ds.length) (h : ∀ k d, k < m → ds[k]? = some d → ∃ δ1, T.set d (env k) = some δ1 ∧ DS tb δ1 (.nx (env (k + 1))))
    (hr : ∀ d, ds[m]? = some d → ∃ δ1, T.set d (env m) = some δ1 ∧ DS tb δ1 (.rt r)) : Loop tb T ds δ0 (.rt r) := by
  rw [h0]
  have key : ∀ (n j : Nat), j + n = m → Loop tb T (ds.drop j) (env j) (.rt r) := fun n => by
    induction n with
    | zero =>
      intro j e
      have e : j = m := by omega
      subst e
      rw [List.drop_eq_getElem_cons hm]
      obtain ⟨δ1, h1, h2⟩ := hr ds[j] (List.getElem?_eq_getElem hm)
      exact .ret h1 h2
    | succ n ih =>
      intro j e
      have lt : j < ds.length := by omega
      rw [List.drop_eq_getElem_cons lt]
      obtain ⟨δ1, h1, h2⟩ := h j ds[j] (by omega) (List.getElem?_eq_getElem lt)
      exact .next h1 h2 (ih (j + 1) (by omega))
  have := key m 0 (by omega)
  rwa [List.drop_zero] at this
/-- the list in a slot that is ours, frozen for a loop over it -/
theorem ds_forF {tbd : TS} {T : Tg} {g : TG} {ds : List D} {n : Nat} (hg : GOk g T) (h : δ[n]? = some (some (.l ds))) (L : Loop tbd T ds (δ.set n (some (.r ds))) o) : DS (tFor (iList K (tVar n)) g tbd) δ o := by
  have lt : n < δ.length := by
    by_cases c : n < δ.length
    · exact c
    · rw [List.getElem?_eq_none (by omega)] at h; cases h
  exact ds_freeze h (ds_forR hg (by rw [List.getElem?_set_self lt]) L)
end
end DL
-- part DL9
set_option linter.all false
set_option maxRecDepth 100000
set_option maxHeartbeats 2000000
/-! Dicts whose keys are nested tuples; displays of one pair. -/
namespace DL
open PySem PySem.Spec PyProof.Rows L2
mutual
def keyOf : D → NestedKey
  | .non => .none
  | .bl b => .num (if b = true then 1 else 0)
  | .int i => .num i
  | .str x => .text x
  | .tup ds => .tup (keysOf ds)
def keysOf : List D → List NestedKey
  | [] => []
  | d :: ds => keyOf d :: keysOf ds
end
section
variable {X : Cx} {pins : List (Addr × Obj)} {σ : L2.St} {H : Hp} {s : Shared}
mutual
theorem nested_of (I : Inv X pins σ H s) : ∀ (d : D) (v : V) (u : Value), Dat H d v → RelV v u → NestedIs s.heap (keyOf d) u
  | .non, _, _, h, r => by
    rw [dat_non.mp h] at r
    obtain rfl : _ = Value.none := r
    unfold keyOf
    exact .none
  | .bl b, _, _, h, r => by
    rw [dat_bl.mp h] at r
    obtain rfl : _ = Value.bool b := r
    unfold keyOf
    exact .bool rfl
  | .int i, _, _, h, r => by
    rw [dat_int.mp h] at r
    obtain ⟨t, rfl⟩ := r
    unfold keyOf
    exact .int i t
  | .str x, _, _, h, r => by
    rw [dat_str.mp h] at r
    obtain ⟨t, rfl⟩ := r
    unfold keyOf
    exact .text x t
  | .tup ds, _, _, h, r => by
    obtain ⟨a, xs, e, ⟨o, e2, _⟩, q⟩ := dat_tup.mp h
    rw [e] at r
    obtain rfl : _ = Value.ref a := r
    obtain ⟨g, _, its, rv, o', ho, hc, n, hd⟩ := (show ObjOk X.prog X.w H s.heap a (.frz o (.tup xs)) from I.hok a _ e2)
    unfold keyOf
    exact .tup ho hc hd (by rw [List.toList_toArray]; exact nesteds_of I ds xs its q rv)
theorem nesteds_of (I : Inv X pins σ H s) : ∀ (ds : List D) (vs : List V) (us : List Value), DatL H ds vs → Vals vs us → NestedAll s.heap (keysOf ds) us
  | [], _, _, h, r => by
    rw [datL_nil.mp h] at r
    cases r
    unfold keysOf
    exact .nil
  | d :: ds, _, _, h, r => by
    obtain ⟨v, vs, e, h1, h2⟩ := datL_cons.mp h
    rw [e] at r
    cases r with
    | cons r1 r2 =>
      unfold keysOf
      exact .cons (nested_of I d v _ h1 r1) (nesteds_of I ds vs _ h2 r2)
end
end
/-! ### such a dict as a tracked object -/
/-- key, the key's place, value -/
abbrev NE := D × Addr × V
def toVal : V → Value
  | .ref a => .ref a
  | .bl b => .bool b
  | _ => .none
def OkV : V → Prop
  | .ref _ => True
  | .bl _ => True
  | _ => False
theorem okV_rel {v : V} {u : Value} (h : OkV v) (r : RelV v u) : u = toVal v := by
  cases v with
  | ref a => exact r
  | bl b => exact r
  | _ => exact h.elim
theorem okV_to {v : V} (h : OkV v) : RelV v (toVal v) := by
  cases v with
  | ref a => rfl
  | bl b => rfl
  | _ => exact h.elim
def raw (e : NE) : NestedKey × Addr × Value := (keyOf e.1, e.2.1, toVal e.2.2)
def ndO (P : Program) (w : World) (a : Addr) (es : List NE) : HO := .ext fun h => ∃ o es' ep, h.get? a = some o ∧ o.ExactDict ∧ o.data = .dict es' ep ∧ es'.toList = (es.map raw).map (entryOfKey (nestedKind P w))
/-- at a stands a dict with the entries es -/
structure NDat (P : Program) (w : World) (H : Hp) (a : Addr) (es : List NE) : Prop where
  obj : H a = some (ndO P w a es)
  low : (a == sysModules) = false
  nd : (es.map fun e => keyOf e.1).Nodup
  key : ∀ e ∈ es, Dat H e.1 (.ref e.2.1) ∧ (keyOf e.1).depth ≤ 8 ∧ OkV e.2.2
  len : es.length ≤ 100000
theorem NDat.mono {P : Program} {w : World} {H H' : Hp} {a : Addr} {es : List NE} (n : NDat P w H a es) (ha : H' a = H a) (t : Tups H H') : NDat P w H' a es :=
  ⟨by rw [ha]; exact n.obj, n.low, n.nd, fun e he => ⟨Dat.mono t _ _ (n.key e he).1, (n.key e he).2⟩, n.len⟩
theorem NDat.ext {P : Program} {w : World} {H H' : Hp} {a : Addr} {es : List NE} (n : NDat P w H a es) (s : Same H H') : NDat P w H' a es :=
  ⟨s _ _ n.obj, n.low, n.nd, fun e he => ⟨Dat.mono (.of s) _ _ (n.key e he).1, (n.key e he).2⟩, n.len⟩
/-- what is found -/
def findN (es : List NE) (k : D) : Option V := (es.find? fun e => decide (keyOf e.1 = keyOf k)).map fun e => e.2.2
theorem atKey_raw {es : List NE} {k : D} : atKey (es.map raw) (keyOf k) = (es.find? fun e => decide (keyOf e.1 = keyOf k)).map fun e => (e.2.1, toVal e.2.2) := by
  unfold atKey
  rw [List.find?_map, Option.map_map]
  rfl
theorem atKey_find {es : List NE} {k : D} {v : V} (h : findN es k = some v) : ∃ p, atKey (es.map raw) (keyOf k) = some p ∧ p.2 = toVal v := by
  unfold findN at h
  obtain ⟨e, he, rfl⟩ := Option.map_eq_some_iff.mp h
  exact ⟨(e.2.1, toVal e.2.2), by rw [atKey_raw, he]; rfl, rfl⟩
theorem atKey_isSome {es : List NE} {k : D} : (atKey (es.map raw) (keyOf k)).isSome = (findN es k).isSome := by
  rw [atKey_raw]
  unfold findN
  rw [Option.isSome_map, Option.isSome_map]
theorem findN_none {es : List NE} {k : D} (h : findN es k = none) : keyOf k ∉ es.map fun e => keyOf e.1 := fun hm => by
  obtain ⟨e, he, e2⟩ := List.mem_map.mp hm
  unfold findN at h
  have h := Option.map_eq_none_iff.mp h
  have := List.find?_eq_none.mp h e he
  simp [e2] at this
section
variable {X : Cx} {pins : List (Addr × Obj)} {σ : L2.St} {H : Hp} {s : Shared} {a : Addr} {es : List NE}
theorem NDat.ok (n : NDat X.prog X.w H a es) (I : Inv X pins σ H s) : s.heap.DictOfH (nestedKind X.prog X.w) a (es.map raw) := by
  obtain ⟨⟨o, es', ep, h1, h2, h3, h4⟩, _, _⟩ := (show ObjOk X.prog X.w H s.heap a (ndO X.prog X.w a es) from I.hok a _ n.obj)
  refine ⟨o, es', ep, h1, h2, h3, h4, fun x hx => ?_, ?_⟩
  · obtain ⟨e, he, rfl⟩ := List.mem_map.mp hx
    exact ⟨nested_of I e.1 (.ref e.2.1) (.ref e.2.1) (n.key e he).1 rfl, (n.key e he).2.1⟩
  · rw [List.map_map]
    exact n.nd
theorem key_ok {k : D} {b : Addr} (I : Inv X pins σ H s) (h : Dat H k (.ref b)) (hd : (keyOf k).depth ≤ 8) : (nestedKind X.prog X.w).is s.heap (keyOf k) b := ⟨nested_of I k (.ref b) (.ref b) h rfl, hd⟩
theorem room_ok (hu : X.A.units + 64 < cLine) : (nestedKind X.prog X.w).room X.A.in1 := by
  show X.A.in1.units + 8 < cLine
  simp only [Around.in1_units]
  omega
theorem room_ok0 (hu : X.A.units + 64 < cLine) : (nestedKind X.prog X.w).room X.A := by
  show X.A.units + 8 < cLine
  omega
theorem nd_obj {h' : Heap} {H' : Hp} (dd : h'.DictOfH (nestedKind X.prog X.w) a (es.map raw)) : ObjOk X.prog X.w H' h' a (ndO X.prog X.w a es) := by
  obtain ⟨o, es', ep, h1, h2, h3, h4, _, _⟩ := dd
  refine ⟨⟨o, es', ep, h1, h2, h3, h4⟩, ⟨o, h1⟩, fun g1 g2 ⟨o, es', ep, h1, h2, h3, h4⟩ k => ⟨o, es', ep, k _ h1, h2, h3, h4⟩⟩
theorem nd_mut {P : Program} {w : World} (n : H a = some (ndO P w a es)) : Mut (H a) := by rw [n]; exact True.intro
/-- k in d, k not in d -/
def rNIn (P : Program) (w : World) (neg : Bool) : R2 := fun x y H Q => ∃ (a b : Addr) (es : List NE) (k : D), x = .ref b ∧ y = .ref a ∧ NDat P w H a es ∧ Dat H k (.ref b) ∧ (keyOf k).depth ≤ 8 ∧ Q (.bl (if neg then !(findN es k).isSome else (findN es k).isSome)) H
theorem op_nin (hu : X.A.units + 64 < cLine) : OpR X (compareOp .In) (rNIn X.prog X.w false) := by
  intro pins s σ H x y v u Q I rx ry h
  obtain ⟨a, b, es, k, rfl, rfl, n, hk, hd, q⟩ := h
  cases rx
  cases ry
  refine wpAny_in_heap (room_ok hu) (key_ok I hk hd) n.low (n.ok I) ?_
  rw [atKey_isSome]
  exact ⟨.bl _, H, I.tok _, rfl, q⟩
theorem op_nnotin (hu : X.A.units + 64 < cLine) : OpR X (compareOp .NotIn) (rNIn X.prog X.w true) := by
  intro pins s σ H x y v u Q I rx ry h
  obtain ⟨a, b, es, k, rfl, rfl, n, hk, hd, q⟩ := h
  cases rx
  cases ry
  refine wpAny_notIn_heap (room_ok hu) (key_ok I hk hd) n.low (n.ok I) ?_
  rw [atKey_isSome]
  exact ⟨.bl _, H, I.tok _, rfl, q⟩
/-- d[k] -/
def rNGet (P : Program) (w : World) : R2 := fun x y H Q => ∃ (a b : Addr) (es : List NE) (k : D) (z : V), x = .ref a ∧ y = .ref b ∧ NDat P w H a es ∧ Dat H k (.ref b) ∧ (keyOf k).depth ≤ 8 ∧ findN es k = some z ∧ Q z H
theorem pe_nget {o i : Expr} {to ti : TE} {pos : Pos} (hu : X.A.units + 64 < cLine) (ho : PE X o to) (hi : PE X i ti) (hs : NoSl i) : PE X (.Subscript o i pos) (tOp (rNGet X.prog X.w) to ti) := by
  refine ⟨fun pins s σ H Q I h => ?_⟩
  refine subD_of PySem.F.slot_dict_getitem.lookup hs (thn (ho.run pins s σ H _ I h) fun u s1 ⟨x, H1, I1, rx, q1⟩ => thn (hi.run pins s1 σ H1 _ I1 q1) fun iv s2 ⟨y, H2, I2, ry, a, b, es, k, z, ex, ey, n, hk, hd, hz, q2⟩ => ?_)
  subst ex ey
  obtain rfl : u = Value.ref a := rx
  obtain rfl : iv = Value.ref b := ry
  refine ⟨(n.ok I2).typeIs, ?_⟩
  obtain ⟨p, hp, e⟩ := atKey_find hz
  refine wpAny_getItem_heap (room_ok hu) (key_ok I2 hk hd) (n.ok I2) hp ?_
  rw [e]
  have okz : OkV z := by
    unfold findN at hz
    obtain ⟨e3, he, rfl⟩ := Option.map_eq_some_iff.mp hz
    exact (n.key e3 (List.mem_of_find?_eq_some he)).2.2
  exact ⟨z, H2, I2.tok _, okV_to okz, q2⟩
/-- d[k] = v, a new key -/
def tNSet (P : Program) (w : World) : TSet := fun o i v H Q => ∃ (a b : Addr) (es : List NE) (k : D), o = .ref a ∧ i = .ref b ∧ NDat P w H a es ∧ Dat H k (.ref b) ∧ (keyOf k).depth ≤ 8 ∧ OkV v ∧ findN es k = none ∧ es.length < 100000 ∧ Q (upd H a (ndO P w a (es ++ [(k, b, v)])))
theorem raw_new {es : List NE} {k : D} {b : Addr} {v : V} (h : findN es k = none) : storedH (es.map raw) (keyOf k) b (toVal v) = (es ++ [(k, b, v)]).map raw := by
  have e : atKey (es.map raw) (keyOf k) = none := by
    have := atKey_isSome (es := es) (k := k)
    rw [h] at this
    simpa using this
  rw [storedH_new e, List.map_append]
  rfl
theorem NDat.put {P : Program} {w : World} {k : D} {b : Addr} {v : V} (n : NDat P w H a es) (hk : Dat H k (.ref b)) (hd : (keyOf k).depth ≤ 8) (hv : OkV v) (h : findN es k = none) (hl : es.length < 100000) : NDat P w (upd H a (ndO P w a (es ++ [(k, b, v)]))) a (es ++ [(k, b, v)]) := by
  have tp : Tups H (upd H a (ndO P w a (es ++ [(k, b, v)]))) := Tups.upd fun ob xs z => by
    rw [n.obj] at z
    exact absurd (Option.some.inj z) (by unfold ndO; intro z; cases z)
  refine ⟨upd_same, n.low, ?_, fun e he => ?_, by rw [List.length_append]; exact hl⟩
  · rw [List.map_append]
    refine List.nodup_append.mpr ⟨n.nd, by simp, fun x hx y hy e => ?_⟩
    have ey : y = keyOf k := by simpa using hy
    subst ey
    subst e
    exact findN_none h hx
  · rcases List.mem_append.mp he with he | he
    · exact ⟨Dat.mono tp _ _ (n.key e he).1, (n.key e he).2⟩
    · have ee : e = (k, b, v) := by simpa using he
      subst ee
      exact ⟨Dat.mono tp _ _ hk, hd, hv⟩
theorem pset_n (hu : X.A.units + 64 < cLine) : PSet X (tNSet X.prog X.w) := by
  intro pins s σ H o i v ov iv u Q I ro ri rv h
  obtain ⟨a, b, es, k, rfl, rfl, n, hk, hd, hv, hn, hl, q⟩ := h
  cases ro
  cases ri
  have eu := okV_rel hv rv
  subst eu
  refine wpAny_setItem_heap (hsz := by rw [List.length_map]; exact le_line (by omega)) (room_ok hu) (key_ok I hk hd) (n.ok I) fun h' dd hs => ?_
  rw [raw_new hn] at dd
  have he : ∃ q, h'.get? a = some q := let ⟨q, _, _, hq, _⟩ := dd; ⟨q, hq⟩
  exact ⟨_, d_write I (nd_mut n.obj) hs he (nd_obj dd), q⟩
/-- {} -/
def tDNewN (P : Program) (w : World) : TE := fun _ H Q => ∀ p, H p = none → (p == sysModules) = false → Q (.ref p) (upd H p (ndO P w p []))
theorem big_ne (I : Inv X pins σ H s) : (s.heap.objs.size == sysModules) = false := beq_eq_false_iff_ne.mpr (Ne.symm (Nat.ne_of_lt I.big))
theorem pe_dnewN {pos : Pos} : PE X (.Dict [] [] pos) (tDNewN X.prog X.w) := ⟨fun pins s σ H Q I h =>
  wpAny_Dict_empty ⟨.ref s.heap.objs.size, _, I.laid (a := s.heap.objs.size) (o := ndO X.prog X.w s.heap.objs.size []) (t' := s.toks) (fun _ _ q => Heap.get?_push_of_some _ q) (Nat.le_refl _) (nd_obj (Heap.DictOfH.new s.heap)), rfl, h _ (I.hok.fresh (Nat.le_refl _)) (big_ne I)⟩⟩
theorem ndat_new {P : Program} {w : World} {p : Addr} (h : (p == sysModules) = false) : NDat P w (upd H p (ndO P w p [])) p [] := ⟨upd_same, h, List.nodup_nil, (fun e he => by cases he), Nat.zero_le _⟩
/-- {k: v} -/
def tDict1N (P : Program) (w : World) (tk tv : TE) : TE := fun σ H Q => ∀ d, H d = none → (d == sysModules) = false → tk σ (upd H d (ndO P w d [])) fun kx H1 => tv σ H1 fun vx H2 =>
  ∃ (b : Addr) (k : D), kx = .ref b ∧ Dat H2 k (.ref b) ∧ (keyOf k).depth ≤ 8 ∧ OkV vx ∧ H2 d = some (ndO P w d []) ∧ Q (.ref d) (upd H2 d (ndO P w d [(k, b, vx)]))
theorem pe_dict1N {k v : Expr} {tk tv : TE} {pos : Pos} (hu : X.A.units + 64 < cLine) (hk : PE X k tk) (hv : PE X v tv)
    (hshape : (evalEachOpt [some k] X.env).zip ((evalEach [v] X.env).map fun v => do let x ← v; standAt pos; pure x) = [(eval k X.env, do let x ← eval v X.env; standAt pos; pure x)].map fun p => (some p.1, p.2) := by rfl) :
    PE X (.Dict [some k] [v] pos) (tDict1N X.prog X.w tk tv) := by
  refine ⟨fun pins s σ H Q I h => ?_⟩
  have hn := I.hok.fresh (Nat.le_refl s.heap.objs.size)
  have I0 : Inv X pins σ (upd H s.heap.objs.size (ndO X.prog X.w s.heap.objs.size [])) { s with heap := s.heap.push { cls := .type "dict", data := .dict #[] } } :=
    I.laid (t' := s.toks) (fun _ _ q => Heap.get?_push_of_some _ q) (Nat.le_refl _) (nd_obj (Heap.DictOfH.new s.heap))
  rw [arm_eval_Dict, hshape, dictDisplay_pairs _ (by simp) (by simp)]
  refine wpAny_bind (wpAny_standAt (wpAny_bind (wpAny_subDictH (knd := nestedKind X.prog X.w) (room_ok0 hu) (by simp) ?_)))
  show wpAny _ _ (do let kv ← eval k X.env; let vv ← holding [kv] (do let x ← eval v X.env; standAt pos; pure x); return (kv, vv) :: (← holding [kv, vv] (evalPairs []))) _ _ _
  refine wpAny_bind (thn (hk.run pins _ σ _ _ I0 (h _ hn (big_ne I))) fun kv s1 ⟨kx, H1, I1, rk, q1⟩ => ?_)
  refine wpAny_bind (wpAny_holding (wpAny_bind (thn (hv.run pins s1 σ H1 _ I1 q1) fun vv s2 ⟨vx, H2, I2, rv, b, kd, ek, hkd, hdp, hov, hd, q2⟩ => ?_)))
  refine wpAny_bind (wpAny_standAt (wpAny_pure ?_))
  refine wpAny_bind (wpAny_holding (wpAny_pure (wpAny_pure ?_)))
  subst ek
  obtain rfl : kv = Value.ref b := rk
  have ev := okV_rel hov rv
  subst ev
  have n0 : NDat X.prog X.w H2 s.heap.objs.size [] := ⟨hd, big_ne I, List.nodup_nil, (fun e he => by cases he), Nat.zero_le _⟩
  refine ⟨[(keyOf kd, b, toVal vx)], ⟨rfl, rfl, key_ok I2 hkd hdp, trivial⟩, n0.ok I2, fun h' tk dd hs => ?_⟩
  have e1 : storedAllH [] [(keyOf kd, b, toVal vx)] = ([(kd, b, vx)] : List NE).map raw := rfl
  rw [e1] at dd
  have he : ∃ q, h'.get? s.heap.objs.size = some q := let ⟨q, _, _, hq, _⟩ := dd; ⟨q, hq⟩
  refine wpAny_pure ?_
  exact ⟨.ref s.heap.objs.size, _, d_write I2 (nd_mut hd) hs he (nd_obj dd), rfl, q2⟩
end
end DL
-- part DL10
set_option linter.all false
set_option maxRecDepth 100000
set_option maxHeartbeats 2000000
/-! {k: v} with an int key; dict comprehensions with nested keys. -/
namespace DL
open PySem PySem.Spec PyProof.Rows L2
section
variable {X : Cx} {pins : List (Addr × Obj)} {σ : L2.St} {H : Hp} {s : Shared}
def tDict1K (tk tv : TE) : TE := fun σ H Q => ∀ d, H d = none → tk σ (upd H d (.dK [])) fun kx H1 => tv σ H1 fun vx H2 => ∃ i, kx = .int i ∧ H2 d = some (.dK []) ∧ Q (.ref d) (upd H2 d (.dK [(Sum.inl i, vx)]))
theorem pe_dict1K {k v : Expr} {tk tv : TE} {pos : Pos} (hk : PE X k tk) (hv : PE X v tv)
    (hshape : (evalEachOpt [some k] X.env).zip ((evalEach [v] X.env).map fun v => do let x ← v; standAt pos; pure x) = [(eval k X.env, do let x ← eval v X.env; standAt pos; pure x)].map fun p => (some p.1, p.2) := by rfl) :
    PE X (.Dict [some k] [v] pos) (tDict1K tk tv) := by
  refine ⟨fun pins s σ H Q I h => ?_⟩
  have hn := I.hok.fresh (Nat.le_refl s.heap.objs.size)
  have I0 : Inv X pins σ (upd H s.heap.objs.size (.dK [])) { s with heap := s.heap.push { cls := .type "dict", data := .dict #[] } } :=
    I.laid (t' := s.toks) (fun _ _ q => Heap.get?_push_of_some _ q) (Nat.le_refl _) (dk_empty s.heap I.big)
  rw [arm_eval_Dict, hshape, dictDisplay_pairs _ (by simp) (by simp)]
  refine wpAny_bind (wpAny_standAt (wpAny_bind (wpAny_subDict (knd := mixKind X.prog X.w) (by simp) ?_)))
  show wpAny _ _ (do let kv ← eval k X.env; let vv ← holding [kv] (do let x ← eval v X.env; standAt pos; pure x); return (kv, vv) :: (← holding [kv, vv] (evalPairs []))) _ _ _
  refine wpAny_bind (thn (hk.run pins _ σ _ _ I0 (h _ hn)) fun kv s1 ⟨kx, H1, I1, rk, q1⟩ => ?_)
  refine wpAny_bind (wpAny_holding (wpAny_bind (thn (hv.run pins s1 σ H1 _ I1 q1) fun vv s2 ⟨vx, H2, I2, rv, i, ek, hd, q2⟩ => ?_)))
  refine wpAny_bind (wpAny_standAt (wpAny_pure ?_))
  refine wpAny_bind (wpAny_holding (wpAny_pure (wpAny_pure ?_)))
  subst ek
  obtain ⟨t, rfl⟩ := rk
  obtain ⟨z, hlow, vs, rel, dd⟩ := dk_of I2.hok hd
  cases rel
  refine ⟨[(Sum.inl i, vv)], ⟨keyIs_int i t, rfl, trivial⟩, dd, fun h' dd' hs => ?_⟩
  have he : ∃ q, h'.get? s.heap.objs.size = some q := let ⟨q, _, _, hq, _⟩ := dd'; ⟨q, hq⟩
  refine wpAny_pure ?_
  exact ⟨.ref s.heap.objs.size, _, d_write I2 (by rw [hd]; exact True.intro) hs he (dk_new (kvs := [(Sum.inl i, vx)]) (le_line (by simp)) hlow (.cons ⟨rfl, rv⟩ .nil) dd'), rfl, q2⟩
end
section
variable {δ : Env} {tk tv : TE} {i j : Int}
theorem dv_k {te : TE} {kvs : List (Key × V)} (h : DE te δ (.k kvs)) : DV te δ (.k kvs) := fun σ H R0 Q q => h σ H R0 Q fun v H' s d => q v H' s d
theorem de_dict1K (hk : DE tk δ (.d (.int i))) (hv : DE tv δ (.d (.int j))) : DE (tDict1K tk tv) δ (.k (kI [(i, j)])) := fun σ H R0 Q q d hd => by
  have s0 : Same H (upd H d (.dK [])) := same_upd hd
  refine hk σ _ (R0.ext s0) _ fun v H1 s1 d1 => hv σ H1 ((R0.ext s0).ext s1) _ fun w H2 s2 d2 => ?_
  have h2 := s2 _ _ (s1 _ _ (upd_same (H := H) (a := d) (o := .dK [])))
  refine ⟨i, reI d1, h2, ?_⟩
  rw [reI d2]
  refine q _ _ (fun b o e => ?_) ⟨d, rfl, hd, upd_same⟩
  rw [upd_ne (ne_of_none e hd)]
  exact s2 _ _ (s1 _ _ (s0 _ _ e))
end
end DL
-- part GM1
/-! Plain mathematics, part 1: rules, states, steps, renaming, naming. No program in sight. -/
set_option linter.all false
namespace G

abbrev Move := List Nat × Nat
structure Lab where
  hits : List Move
  out : Nat
  comes : List Move
  deriving DecidableEq, Inhabited
structure Rule where
  places : Nat
  labs : List Lab
  deriving DecidableEq, Inhabited
/-- a state: row, label -/
abbrev Sta := List Int × Nat
abbrev Arr := Sta × Sta

def arranged (row : List Int) (o : List Nat) : List Int := o.map fun i => row.getD i 0
def labOf (R : Rule) (s : Sta) : Lab := R.labs.getD s.2 default
def placeOf (R : Rule) (s : Sta) : Nat := if (-1 : Int) ∈ s.1 then s.1.idxOf (-1) else (labOf R s).out
def hitMove (R : Rule) (s : Sta) (t : Int) : Move := (labOf R s).hits.getD (s.1.idxOf t) ([], 0)
def comeMove (R : Rule) (s : Sta) : Move := (labOf R s).comes.getD (placeOf R s) ([], 0)
def step (R : Rule) (s : Sta) (t : Int) : Sta :=
  if t ∈ s.1 then (arranged s.1 (hitMove R s t).1, (hitMove R s t).2)
  else (arranged (s.1.set (placeOf R s) t) (comeMove R s).1, (comeMove R s).2)
def first (R : Rule) : Sta := (List.replicate R.places (-1), 0)
def run (R : Rule) (ts : List Int) : Sta := ts.foldl (step R) (first R)

structure VMove (R : Rule) (m : Move) : Prop where
  perm : m.1.Perm (List.range R.places)
  lab : m.2 < R.labs.length
structure VLab (R : Rule) (L : Lab) : Prop where
  hl : L.hits.length = R.places
  cl : L.comes.length = R.places
  out : L.out < R.places
  hm : ∀ m ∈ L.hits, VMove R m
  cm : ∀ m ∈ L.comes, VMove R m
structure VRule (R : Rule) : Prop where
  pos : 1 ≤ R.places
  le : R.places ≤ 4
  lpos : 1 ≤ R.labs.length
  lle : R.labs.length ≤ 16
  labs : ∀ L ∈ R.labs, VLab R L
structure VRow (n : Nat) (row : List Int) : Prop where
  len : row.length = n
  ge : ∀ x ∈ row, -1 ≤ x
  one : ∀ t : Int, t ≠ -1 → row.count t ≤ 1
structure VSta (R : Rule) (s : Sta) : Prop where
  row : VRow R.places s.1
  lab : s.2 < R.labs.length

theorem getD_mem {α : Type} {l : List α} {i : Nat} {d : α} (h : i < l.length) : l.getD i d ∈ l := by
  rw [List.getD_eq_getElem?_getD, List.getElem?_eq_getElem h]
  exact List.getElem_mem h
theorem arranged_perm {row : List Int} {o : List Nat} (h : o.Perm (List.range row.length)) : (arranged row o).Perm row := by
  have e : (List.range row.length).map (fun i => row.getD i 0) = row := by
    apply List.ext_getElem
    · simp
    · intro i h1 h2
      simp [List.getD_eq_getElem?_getD, h2]
  have q := h.map (fun i => row.getD i 0)
  rw [e] at q
  exact q
theorem arranged_length (row : List Int) (o : List Nat) : (arranged row o).length = o.length := by simp [arranged]

section
variable {R : Rule} {s : Sta} {t : Int}
theorem VRule.lab (v : VRule R) (h : s.2 < R.labs.length) : VLab R (labOf R s) := v.labs _ (getD_mem h)
theorem placeOf_lt (v : VRule R) (w : VSta R s) : placeOf R s < s.1.length := by
  unfold placeOf
  split
  · rename_i h
    exact List.idxOf_lt_length_of_mem h
  · rw [w.row.len]
    exact (v.lab w.lab).out
theorem comeMove_ok (v : VRule R) (w : VSta R s) : VMove R (comeMove R s) := by
  have hp := placeOf_lt v w
  rw [w.row.len] at hp
  exact (v.lab w.lab).cm _ (getD_mem (by rw [(v.lab w.lab).cl]; exact hp))
theorem hitMove_ok (v : VRule R) (w : VSta R s) (h : t ∈ s.1) : VMove R (hitMove R s t) := by
  have hp := List.idxOf_lt_length_of_mem h
  rw [w.row.len] at hp
  exact (v.lab w.lab).hm _ (getD_mem (by rw [(v.lab w.lab).hl]; exact hp))

theorem step_hit (h : t ∈ s.1) : step R s t = (arranged s.1 (hitMove R s t).1, (hitMove R s t).2) := by unfold step; rw [if_pos h]
theorem step_miss (h : ¬ t ∈ s.1) : step R s t = (arranged (s.1.set (placeOf R s) t) (comeMove R s).1, (comeMove R s).2) := by unfold step; rw [if_neg h]
theorem hit_perm (v : VRule R) (w : VSta R s) (h : t ∈ s.1) : (step R s t).1.Perm s.1 := by
  rw [step_hit h]
  refine arranged_perm ?_
  rw [w.row.len]
  exact (hitMove_ok v w h).perm
theorem miss_perm (v : VRule R) (w : VSta R s) (h : ¬ t ∈ s.1) : (step R s t).1.Perm (s.1.set (placeOf R s) t) := by
  rw [step_miss h]
  refine arranged_perm ?_
  rw [List.length_set, w.row.len]
  exact (comeMove_ok v w).perm
theorem step_lab (v : VRule R) (w : VSta R s) : (step R s t).2 < R.labs.length := by
  by_cases h : t ∈ s.1
  · rw [step_hit h]; exact (hitMove_ok v w h).lab
  · rw [step_miss h]; exact (comeMove_ok v w).lab
/-- what stands at a place goes, t comes -/
theorem count_set {l : List Int} {p : Nat} (hp : p < l.length) (t u : Int) : (l.set p t).count u + (if l[p] = u then 1 else 0) = l.count u + (if t = u then 1 else 0) := by
  induction l generalizing p with
  | nil => simp at hp
  | cons a l ih =>
    cases p with
    | zero =>
      simp only [List.set_cons_zero, List.count_cons, List.getElem_cons_zero, beq_iff_eq]
      split <;> split <;> omega
    | succ p =>
      simp only [List.set_cons_succ, List.count_cons, List.getElem_cons_succ]
      have q := ih (p := p) (by simpa using hp)
      omega
theorem VRow.set {n p : Nat} {row : List Int} (w : VRow n row) (h : ¬ t ∈ row) (ht : -1 ≤ t) (hp : p < row.length) : VRow n (row.set p t) := by
  refine ⟨by rw [List.length_set]; exact w.len, fun x hx => ?_, fun u hu => ?_⟩
  · rcases List.mem_or_eq_of_mem_set hx with q | q
    · exact w.ge x q
    · rw [q]; exact ht
  · have q := count_set hp t u
    have c := w.one u hu
    by_cases e : t = u
    · have z : row.count u = 0 := by rw [← e]; exact List.count_eq_zero.mpr h
      rw [if_pos e] at q
      omega
    · rw [if_neg e] at q
      omega
theorem VRow.perm {n : Nat} {a b : List Int} (w : VRow n b) (p : a.Perm b) : VRow n a :=
  ⟨by rw [p.length_eq]; exact w.len, fun x hx => w.ge x (p.mem_iff.mp hx), fun u hu => by rw [p.count_eq]; exact w.one u hu⟩
theorem VSta.step (v : VRule R) (w : VSta R s) (ht : -1 ≤ t) : VSta R (step R s t) := by
  refine ⟨?_, step_lab v w⟩
  by_cases h : t ∈ s.1
  · exact w.row.perm (hit_perm v w h)
  · exact (w.row.set h ht (placeOf_lt v w)).perm (miss_perm v w h)
theorem VSta.first (v : VRule R) : VSta R (first R) := by
  refine ⟨⟨by simp [G.first], fun x hx => ?_, fun t ht => ?_⟩, v.lpos⟩
  · have := List.eq_of_mem_replicate hx
    omega
  · have : ¬ t ∈ (G.first R).1 := fun hx => ht (List.eq_of_mem_replicate hx)
    rw [List.count_eq_zero.mpr this]
    exact Nat.zero_le _
theorem VSta.run (v : VRule R) : ∀ (ts : List Int) (s : Sta), VSta R s → (∀ t ∈ ts, -1 ≤ t) → VSta R (ts.foldl (G.step R) s)
  | [], s, w, _ => w
  | t :: ts, s, w, h => VSta.run v ts _ (w.step v (h t List.mem_cons_self)) fun u hu => h u (List.mem_cons_of_mem _ hu)
theorem mem_step_self (v : VRule R) (w : VSta R s) : t ∈ (step R s t).1 := by
  by_cases h : t ∈ s.1
  · exact (hit_perm v w h).mem_iff.mpr h
  · exact (miss_perm v w h).mem_iff.mpr (List.mem_set (placeOf_lt v w) t)
theorem mem_step (v : VRule R) (w : VSta R s) {u : Int} (hu : u ∈ (step R s t).1) : u = t ∨ u ∈ s.1 := by
  by_cases h : t ∈ s.1
  · exact .inr ((hit_perm v w h).mem_iff.mp hu)
  · rcases List.mem_or_eq_of_mem_set ((miss_perm v w h).mem_iff.mp hu) with q | q
    · exact .inr q
    · exact .inl q
end

/-! ### renaming -/
def ren (f : Int → Int) (s : Sta) : Sta := (s.1.map f, s.2)
def InjOn (f : Int → Int) (l : List Int) : Prop := ∀ x ∈ l, ∀ y ∈ l, f x = f y → x = y
theorem InjOn.sub {f : Int → Int} {l l' : List Int} (h : InjOn f l) (hs : ∀ x ∈ l', x ∈ l) : InjOn f l' := fun x hx y hy e => h x (hs x hx) y (hs y hy) e
theorem mem_map_inj {f : Int → Int} {l : List Int} {t : Int} (h : ∀ x ∈ l, f x = f t → x = t) : f t ∈ l.map f ↔ t ∈ l := by
  constructor
  · intro q
    obtain ⟨x, hx, e⟩ := List.mem_map.mp q
    rw [← h x hx e]
    exact hx
  · exact fun q => List.mem_map.mpr ⟨t, q, rfl⟩
theorem idxOf_map_inj {f : Int → Int} {t : Int} : ∀ {l : List Int}, (∀ x ∈ l, f x = f t → x = t) → (l.map f).idxOf (f t) = l.idxOf t
  | [], _ => rfl
  | x :: l, h => by
    rw [List.map_cons, List.idxOf_cons, List.idxOf_cons, idxOf_map_inj fun y hy => h y (List.mem_cons_of_mem _ hy)]
    have e : (f x == f t) = (x == t) := by
      by_cases q : x = t
      · subst q; simp
      · have q' : ¬ f x = f t := fun z => q (h x List.mem_cons_self z)
        rw [beq_eq_false_iff_ne.mpr q, beq_eq_false_iff_ne.mpr q']
    rw [e]
theorem arranged_map (f : Int → Int) {row : List Int} {o : List Nat} (h : ∀ i ∈ o, i < row.length) : arranged (row.map f) o = (arranged row o).map f := by
  unfold arranged
  rw [List.map_map]
  refine List.map_congr_left fun i hi => ?_
  have := h i hi
  simp [List.getD_eq_getElem?_getD, this]
theorem VMove.lt {R : Rule} {m : Move} (v : VMove R m) : ∀ i ∈ m.1, i < R.places := fun i hi => List.mem_range.mp (v.perm.mem_iff.mp hi)
theorem step_ren {R : Rule} {s : Sta} {t : Int} {f : Int → Int} (v : VRule R) (w : VSta R s) (hf : f (-1) = -1) (hi : InjOn f (-1 :: t :: s.1)) : step R (ren f s) (f t) = ren f (step R s t) := by
  have m0 : (-1 : Int) ∈ -1 :: t :: s.1 := List.mem_cons_self
  have m1 : t ∈ -1 :: t :: s.1 := List.mem_cons_of_mem _ List.mem_cons_self
  have m2 : ∀ x ∈ s.1, x ∈ -1 :: t :: s.1 := fun x hx => List.mem_cons_of_mem _ (List.mem_cons_of_mem _ hx)
  have ht : ∀ x ∈ s.1, f x = f t → x = t := fun x hx e => hi x (m2 x hx) t m1 e
  have hb : ∀ x ∈ s.1, f x = f (-1) → x = -1 := fun x hx e => hi x (m2 x hx) _ m0 e
  have el : labOf R (ren f s) = labOf R s := rfl
  have ep : placeOf R (ren f s) = placeOf R s := by
    unfold placeOf
    rw [el]
    have q : ((-1 : Int) ∈ (ren f s).1) ↔ (-1 : Int) ∈ s.1 := by
      have := mem_map_inj (l := s.1) hb
      rw [hf] at this
      exact this
    have q2 : (ren f s).1.idxOf (-1) = s.1.idxOf (-1) := by
      have := idxOf_map_inj (l := s.1) hb
      rw [hf] at this
      exact this
    by_cases c : (-1 : Int) ∈ s.1
    · rw [if_pos c, if_pos (q.mpr c), q2]
    · rw [if_neg c, if_neg fun z => c (q.mp z)]
  have len : s.1.length = R.places := w.row.len
  by_cases h : t ∈ s.1
  · have h' : f t ∈ (ren f s).1 := (mem_map_inj ht).mpr h
    have em : hitMove R (ren f s) (f t) = hitMove R s t := by
      unfold hitMove
      rw [el]
      show (labOf R s).hits.getD ((s.1.map f).idxOf (f t)) _ = _
      rw [idxOf_map_inj ht]
    rw [step_hit h, step_hit h', em]
    show (arranged (s.1.map f) _, _) = (_, _)
    rw [arranged_map f fun i hi => by rw [len]; exact (hitMove_ok v w h).lt i hi]
  · have h' : ¬ f t ∈ (ren f s).1 := fun z => h ((mem_map_inj ht).mp z)
    have em : comeMove R (ren f s) = comeMove R s := by
      unfold comeMove
      rw [el, ep]
    rw [step_miss h, step_miss h', em, ep]
    have es : (ren f s).1.set (placeOf R s) (f t) = (s.1.set (placeOf R s) t).map f := by
      show (s.1.map f).set _ _ = _
      rw [List.map_set]
    rw [es, arranged_map f fun i hi => by rw [List.length_set, len]; exact (comeMove_ok v w).lt i hi]
    rfl

/-! ### the things in the order in which they come; naming -/
def seenStep (acc : List Int) (t : Int) : List Int := if t = -1 ∨ t ∈ acc then acc else acc ++ [t]
def seen (l : List Int) : List Int := l.foldl seenStep []
def num (l : List Int) (t : Int) : Int := if t = -1 then -1 else ((seen l).idxOf t : Nat)
def rows (a : Arr) : List Int := a.1.1 ++ a.2.1
def named (a : Arr) : Arr := (ren (num (rows a)) a.1, ren (num (rows a)) a.2)
def hm (a : Arr) : Nat := (seen (rows a)).length
def moved (R S : Rule) (a : Arr) (n : Nat) : Arr := named (step R a.1 (n : Int), step S a.2 (n : Int))

theorem seen_fold_mem {l acc : List Int} {t : Int} : t ∈ l.foldl seenStep acc ↔ t ∈ acc ∨ (t ∈ l ∧ t ≠ -1) := by
  induction l generalizing acc with
  | nil => simp
  | cons x l ih =>
    rw [List.foldl_cons, ih]
    unfold seenStep
    by_cases h : x = -1 ∨ x ∈ acc
    · rw [if_pos h]
      constructor
      · rintro (q | ⟨q, n⟩)
        · exact .inl q
        · exact .inr ⟨List.mem_cons_of_mem _ q, n⟩
      · rintro (q | ⟨q, n⟩)
        · exact .inl q
        · rcases List.mem_cons.mp q with e | q
          · subst e
            rcases h with h | h
            · exact absurd h n
            · exact .inl h
          · exact .inr ⟨q, n⟩
    · rw [if_neg h]
      constructor
      · rintro (q | ⟨q, n⟩)
        · rcases List.mem_append.mp q with q | q
          · exact .inl q
          · have e : t = x := by simpa using q
            subst e
            exact .inr ⟨List.mem_cons_self, fun z => h (.inl z)⟩
        · exact .inr ⟨List.mem_cons_of_mem _ q, n⟩
      · rintro (q | ⟨q, n⟩)
        · exact .inl (List.mem_append_left _ q)
        · rcases List.mem_cons.mp q with e | q
          · subst e
            exact .inl (List.mem_append_right _ (by simp))
          · exact .inr ⟨q, n⟩
theorem mem_seen {l : List Int} {t : Int} : t ∈ seen l ↔ t ∈ l ∧ t ≠ -1 := by
  unfold seen
  rw [seen_fold_mem]
  simp
theorem seen_fold_nodup {l acc : List Int} (h : acc.Nodup) : (l.foldl seenStep acc).Nodup := by
  induction l generalizing acc with
  | nil => exact h
  | cons x l ih =>
    rw [List.foldl_cons]
    refine ih ?_
    unfold seenStep
    by_cases q : x = -1 ∨ x ∈ acc
    · rw [if_pos q]; exact h
    · rw [if_neg q]
      refine List.nodup_append.mpr ⟨h, by simp, fun a ha b hb e => ?_⟩
      have e' : b = x := by simpa using hb
      subst e'
      subst e
      exact q (.inr ha)
theorem seen_nodup (l : List Int) : (seen l).Nodup := seen_fold_nodup List.nodup_nil
theorem seen_fold_map {f : Int → Int} (hf : f (-1) = -1) : ∀ {l acc : List Int}, InjOn f (-1 :: acc ++ l) → (l.map f).foldl seenStep (acc.map f) = (l.foldl seenStep acc).map f
  | [], _, _ => rfl
  | x :: l, acc, hi => by
    rw [List.map_cons, List.foldl_cons, List.foldl_cons]
    have mx : x ∈ -1 :: acc ++ x :: l := by simp
    have e : seenStep (acc.map f) (f x) = (seenStep acc x).map f := by
      unfold seenStep
      have q1 : f x = -1 ↔ x = -1 := by
        constructor
        · intro z
          exact hi x mx (-1) (by simp) (z.trans hf.symm)
        · rintro rfl; exact hf
      have q2 : f x ∈ acc.map f ↔ x ∈ acc := mem_map_inj fun y hy z => hi y (by simp [hy]) x mx z
      by_cases c : x = -1 ∨ x ∈ acc
      · rw [if_pos c, if_pos (by rwa [q1, q2])]
      · rw [if_neg c, if_neg (by rwa [q1, q2]), List.map_append]
        rfl
    rw [e]
    refine seen_fold_map hf (hi.sub fun y hy => ?_)
    rcases List.mem_append.mp hy with hy | hy
    · rcases List.mem_cons.mp hy with hy | hy
      · simp [hy]
      · unfold seenStep at hy
        split at hy
        · simp [hy]
        · rcases List.mem_append.mp hy with hy | hy
          · simp [hy]
          · simp at hy; simp [hy]
    · simp [hy]
theorem seen_map {f : Int → Int} {l : List Int} (hf : f (-1) = -1) (hi : InjOn f (-1 :: l)) : seen (l.map f) = (seen l).map f :=
  seen_fold_map (acc := []) hf (by simpa using hi)
theorem num_map {f : Int → Int} {l : List Int} (hf : f (-1) = -1) (hi : InjOn f (-1 :: l)) {t : Int} (ht : t ∈ l) : num (l.map f) (f t) = num l t := by
  have q1 : f t = -1 ↔ t = -1 := by
    constructor
    · intro z
      exact hi t (List.mem_cons_of_mem _ ht) (-1) List.mem_cons_self (z.trans hf.symm)
    · rintro rfl; exact hf
  unfold num
  by_cases c : t = -1
  · rw [if_pos c, if_pos (q1.mpr c)]
  · rw [if_neg c, if_neg fun z => c (q1.mp z), seen_map hf hi, idxOf_map_inj]
    intro x hx e
    have hx' := (mem_seen.mp hx).1
    exact hi x (List.mem_cons_of_mem _ hx') t (List.mem_cons_of_mem _ ht) e
def renA (f : Int → Int) (a : Arr) : Arr := (ren f a.1, ren f a.2)
theorem rows_ren (f : Int → Int) (a : Arr) : rows (renA f a) = (rows a).map f := by
  unfold rows renA ren
  rw [List.map_append]
theorem named_ren {f : Int → Int} {a : Arr} (hf : f (-1) = -1) (hi : InjOn f (-1 :: rows a)) : named (renA f a) = named a := by
  unfold named
  rw [rows_ren]
  have k : ∀ s : Sta, (∀ x ∈ s.1, x ∈ rows a) → ren (num ((rows a).map f)) (ren f s) = ren (num (rows a)) s := fun s hs => by
    unfold ren
    rw [List.map_map]
    congr 1
    refine List.map_congr_left fun x hx => ?_
    exact num_map hf hi (hs x hx)
  exact Prod.ext (k a.1 fun x hx => List.mem_append_left _ hx) (k a.2 fun x hx => List.mem_append_right _ hx)
theorem hm_ren {f : Int → Int} {a : Arr} (hf : f (-1) = -1) (hi : InjOn f (-1 :: rows a)) : hm (renA f a) = hm a := by
  unfold hm
  rw [rows_ren, seen_map hf hi, List.length_map]
theorem num_neg (l : List Int) : num l (-1) = -1 := if_pos rfl
theorem num_seen {l : List Int} {t : Int} (h : t ≠ -1) : num l t = ((seen l).idxOf t : Nat) := if_neg h
theorem num_ge (l : List Int) (t : Int) : -1 ≤ num l t := by
  unfold num
  split <;> omega
theorem idxOf_inj {l : List Int} {x y : Int} (hx : x ∈ l) (hy : y ∈ l) (e : l.idxOf x = l.idxOf y) : x = y := by
  have h1 := List.getElem_idxOf (List.idxOf_lt_length_of_mem hx)
  have h2 := List.getElem_idxOf (List.idxOf_lt_length_of_mem hy)
  rw [← h1, ← h2]
  simp [e]
theorem num_inj (l : List Int) : InjOn (num l) (-1 :: l) := by
  intro x hx y hy e
  unfold num at e
  by_cases cx : x = -1 <;> by_cases cy : y = -1
  · rw [cx, cy]
  · rw [if_pos cx, if_neg cy] at e
    omega
  · rw [if_neg cx, if_pos cy] at e
    omega
  · rw [if_neg cx, if_neg cy] at e
    have hx' : x ∈ seen l := mem_seen.mpr ⟨(List.mem_cons.mp hx).resolve_left cx, cx⟩
    have hy' : y ∈ seen l := mem_seen.mpr ⟨(List.mem_cons.mp hy).resolve_left cy, cy⟩
    exact idxOf_inj hx' hy' (by exact_mod_cast e)
/-- naming twice is naming once -/
theorem named_named (a : Arr) : named (named a) = named a := named_ren (f := num (rows a)) (num_neg _) (num_inj _)
theorem hm_named (a : Arr) : hm (named a) = hm a := hm_ren (f := num (rows a)) (num_neg _) (num_inj _)

/-! ### asking for a thing, and its move number -/
/-- the move number of a thing in a pair of states -/
def numberOf (a : Arr) (t : Int) : Nat := (seen (rows a)).idxOf t
theorem numberOf_le (a : Arr) (t : Int) : numberOf a t ≤ hm a := List.idxOf_le_length
structure VArr (R S : Rule) (a : Arr) : Prop where
  fst : VSta R a.1
  snd : VSta S a.2
theorem VArr.step {R S : Rule} {a : Arr} {t : Int} (v : VRule R) (v' : VRule S) (w : VArr R S a) (ht : -1 ≤ t) : VArr R S (G.step R a.1 t, G.step S a.2 t) := ⟨w.fst.step v ht, w.snd.step v' ht⟩
theorem VRow.map {n : Nat} {row : List Int} {f : Int → Int} (w : VRow n row) (hf : f (-1) = -1) (hg : ∀ x ∈ row, -1 ≤ f x) (hi : InjOn f (-1 :: row)) : VRow n (row.map f) := by
  refine ⟨by rw [List.length_map]; exact w.len, fun x hx => ?_, fun u hu => ?_⟩
  · obtain ⟨y, hy, e⟩ := List.mem_map.mp hx
    rw [← e]; exact hg y hy
  · by_cases m : u ∈ row.map f
    · obtain ⟨y, hy, e⟩ := List.mem_map.mp m
      subst e
      have hy1 : y ≠ -1 := fun z => hu (by rw [z, hf])
      have q : (row.map f).count (f y) = row.count y := by
        rw [List.count_eq_countP, List.countP_map, List.count_eq_countP]
        refine List.countP_congr fun x hx => ?_
        have : f x = f y ↔ x = y := ⟨fun z => hi x (List.mem_cons_of_mem _ hx) y (List.mem_cons_of_mem _ hy) z, fun z => by rw [z]⟩
        simp [this]
      rw [q]; exact w.one y hy1
    · rw [List.count_eq_zero.mpr m]; exact Nat.zero_le _
theorem VSta.ren {R : Rule} {s : Sta} {f : Int → Int} (w : VSta R s) (hf : f (-1) = -1) (hg : ∀ x ∈ s.1, -1 ≤ f x) (hi : InjOn f (-1 :: s.1)) : VSta R (ren f s) := ⟨w.row.map hf hg hi, w.lab⟩
theorem VArr.named {R S : Rule} {a : Arr} (w : VArr R S a) : VArr R S (named a) :=
  ⟨w.fst.ren (num_neg _) (fun x _ => num_ge _ x) ((num_inj _).sub fun x hx => (List.mem_cons.mp hx).elim (fun e => by simp [e]) fun h => by simp [rows, h]),
   w.snd.ren (num_neg _) (fun x _ => num_ge _ x) ((num_inj _).sub fun x hx => (List.mem_cons.mp hx).elim (fun e => by simp [e]) fun h => by simp [rows, h])⟩
/-- K1: asking for t in a pair of states is the move of its number in the arrangement -/
theorem named_step {R S : Rule} {a : Arr} {t : Int} (v : VRule R) (v' : VRule S) (w : VArr R S a) (ht : 0 ≤ t) : named (step R a.1 t, step S a.2 t) = moved R S (named a) (numberOf a t) := by
  let f : Int → Int := fun u => if u = t then ((numberOf a t : Nat) : Int) else num (rows a) u
  have t1 : t ≠ -1 := by omega
  have hf : f (-1) = -1 := by
    show (if (-1 : Int) = t then _ else _) = _
    rw [if_neg (Ne.symm t1), num_neg]
  have ft : f t = ((numberOf a t : Nat) : Int) := if_pos rfl
  have fo : ∀ u ∈ rows a, f u = num (rows a) u := fun u hu => by
    by_cases e : u = t
    · subst e
      rw [ft, num_seen t1]
      rfl
    · exact if_neg e
  have hi : InjOn f (-1 :: t :: rows a) := by
    intro x hx y hy e
    by_cases cx : x = t <;> by_cases cy : y = t
    · rw [cx, cy]
    · subst cx
      have hy' : y ∈ -1 :: rows a := by
        rcases List.mem_cons.mp hy with q | q
        · simp [q]
        · exact List.mem_cons_of_mem _ ((List.mem_cons.mp q).resolve_left cy)
      rw [ft, show f y = num (rows a) y from if_neg cy] at e
      by_cases m : x ∈ rows a
      · have ex : ((numberOf a x : Nat) : Int) = num (rows a) x := (num_seen t1).symm
        rw [ex] at e
        exact num_inj _ x (List.mem_cons_of_mem _ m) y hy' e
      · have z : numberOf a x = (seen (rows a)).length := List.idxOf_eq_length fun q => m (mem_seen.mp q).1
        rw [z] at e
        by_cases y1 : y = -1
        · rw [y1, num_neg] at e; omega
        · rw [num_seen y1] at e
          have hy2 : y ∈ seen (rows a) := mem_seen.mpr ⟨(List.mem_cons.mp hy').resolve_left y1, y1⟩
          have := List.idxOf_lt_length_of_mem hy2
          omega
    · subst cy
      have hx' : x ∈ -1 :: rows a := by
        rcases List.mem_cons.mp hx with q | q
        · simp [q]
        · exact List.mem_cons_of_mem _ ((List.mem_cons.mp q).resolve_left cx)
      rw [ft, show f x = num (rows a) x from if_neg cx] at e
      by_cases m : y ∈ rows a
      · have ex : ((numberOf a y : Nat) : Int) = num (rows a) y := (num_seen t1).symm
        rw [ex] at e
        exact num_inj _ x hx' y (List.mem_cons_of_mem _ m) e
      · have z : numberOf a y = (seen (rows a)).length := List.idxOf_eq_length fun q => m (mem_seen.mp q).1
        rw [z] at e
        by_cases x1 : x = -1
        · rw [x1, num_neg] at e; omega
        · rw [num_seen x1] at e
          have hx2 : x ∈ seen (rows a) := mem_seen.mpr ⟨(List.mem_cons.mp hx').resolve_left x1, x1⟩
          have := List.idxOf_lt_length_of_mem hx2
          omega
    · have hx' : x ∈ -1 :: rows a := by
        rcases List.mem_cons.mp hx with q | q
        · simp [q]
        · exact List.mem_cons_of_mem _ ((List.mem_cons.mp q).resolve_left cx)
      have hy' : y ∈ -1 :: rows a := by
        rcases List.mem_cons.mp hy with q | q
        · simp [q]
        · exact List.mem_cons_of_mem _ ((List.mem_cons.mp q).resolve_left cy)
      rw [show f x = num (rows a) x from if_neg cx, show f y = num (rows a) y from if_neg cy] at e
      exact num_inj _ x hx' y hy' e
  have r1 : ren f a.1 = (named a).1 := by
    unfold named ren
    congr 1
    exact List.map_congr_left fun x hx => fo x (List.mem_append_left _ hx)
  have r2 : ren f a.2 = (named a).2 := by
    unfold named ren
    congr 1
    exact List.map_congr_left fun x hx => fo x (List.mem_append_right _ hx)
  have s1 : step R (named a).1 ((numberOf a t : Nat) : Int) = ren f (step R a.1 t) := by
    rw [← r1, ← ft]
    exact step_ren v w.fst hf (hi.sub fun x hx => by
      rcases List.mem_cons.mp hx with q | q
      · simp [q]
      · rcases List.mem_cons.mp q with q | q
        · simp [q]
        · simp [rows, q])
  have s2 : step S (named a).2 ((numberOf a t : Nat) : Int) = ren f (step S a.2 t) := by
    rw [← r2, ← ft]
    exact step_ren v' w.snd hf (hi.sub fun x hx => by
      rcases List.mem_cons.mp hx with q | q
      · simp [q]
      · rcases List.mem_cons.mp q with q | q
        · simp [q]
        · simp [rows, q])
  unfold moved
  rw [s1, s2]
  refine (named_ren (a := (step R a.1 t, step S a.2 t)) hf (hi.sub fun x hx => ?_)).symm
  rcases List.mem_cons.mp hx with q | q
  · simp [q]
  · rcases List.mem_append.mp q with q | q
    · rcases mem_step v w.fst q with e | e
      · simp [e]
      · simp [rows, e]
    · rcases mem_step v' w.snd q with e | e
      · simp [e]
      · simp [rows, e]

/-! ### what the first row has, the second has -/
def Within (a : Arr) : Prop := ∀ t ∈ a.1.1, t = -1 ∨ t ∈ a.2.1
instance (a : Arr) : Decidable (Within a) := by unfold Within; exact inferInstance
theorem within_ren {f : Int → Int} {a : Arr} (hf : f (-1) = -1) (hi : InjOn f (-1 :: rows a)) : Within (renA f a) ↔ Within a := by
  have m1 : ∀ x ∈ a.1.1, x ∈ -1 :: rows a := fun x hx => by simp [rows, hx]
  have m2 : ∀ x ∈ a.2.1, x ∈ -1 :: rows a := fun x hx => by simp [rows, hx]
  constructor
  · intro h t ht
    rcases h (f t) (List.mem_map.mpr ⟨t, ht, rfl⟩) with q | q
    · exact .inl (hi t (m1 t ht) (-1) List.mem_cons_self (q.trans hf.symm))
    · obtain ⟨y, hy, e⟩ := List.mem_map.mp q
      rw [← hi y (m2 y hy) t (m1 t ht) e]
      exact .inr hy
  · intro h t ht
    obtain ⟨x, hx, e⟩ := List.mem_map.mp ht
    rcases h x hx with q | q
    · left; rw [← e, q, hf]
    · right; rw [← e]; exact List.mem_map.mpr ⟨x, q, rfl⟩
theorem within_named (a : Arr) : Within (named a) ↔ Within a := within_ren (f := num (rows a)) (num_neg _) (num_inj _)
end G
-- part GM2
/-! Plain mathematics, part 2: walks, requests as walks, the search in breadth. -/
set_option linter.all false
namespace G
section
variable {R S : Rule}
def start (R S : Rule) : Arr := (first R, first S)
def walkTo (R S : Rule) (a : Arr) (w : List Nat) : Arr := w.foldl (moved R S) a
def VW (R S : Rule) : Arr → List Nat → Prop
  | _, [] => True
  | a, n :: w => n ≤ hm a ∧ VW R S (moved R S a n) w
theorem VW.append {a : Arr} : ∀ {v w : List Nat}, VW R S a (v ++ w) ↔ VW R S a v ∧ VW R S (walkTo R S a v) w
  | [], w => by simp [VW, walkTo]
  | n :: v, w => by
    show (n ≤ hm a ∧ VW R S (moved R S a n) (v ++ w)) ↔ _
    rw [VW.append]
    show _ ↔ (n ≤ hm a ∧ VW R S (moved R S a n) v) ∧ VW R S (walkTo R S (moved R S a n) v) w
    rw [and_assoc]
theorem walkTo_append (a : Arr) (v w : List Nat) : walkTo R S a (v ++ w) = walkTo R S (walkTo R S a v) w := by
  unfold walkTo
  rw [List.foldl_append]
theorem walkTo_cons (a : Arr) (n : Nat) (w : List Nat) : walkTo R S a (n :: w) = walkTo R S (moved R S a n) w := rfl
theorem named_start (R S : Rule) : named (start R S) = start R S := by
  have k : ∀ (l : List Int) (T : Rule), ren (num l) (first T) = first T := fun l T => by
    unfold ren first
    simp [num_neg]
  unfold named start
  rw [k, k]
theorem VArr.start (v : VRule R) (v' : VRule S) : VArr R S (start R S) := ⟨VSta.first v, VSta.first v'⟩
theorem VArr.moved {a : Arr} (v : VRule R) (v' : VRule S) (w : VArr R S a) (n : Nat) : VArr R S (moved R S a n) := (w.step v v' (t := (n : Int)) (by omega)).named
theorem VArr.walk (v : VRule R) (v' : VRule S) : ∀ (w : List Nat) (a : Arr), VArr R S a → VArr R S (walkTo R S a w)
  | [], _, h => h
  | n :: w, a, h => VArr.walk v v' w _ (h.moved v v' n)
theorem moved_canon (R S : Rule) (a : Arr) (n : Nat) : named (moved R S a n) = moved R S a n := named_named _
theorem walk_canon (R S : Rule) : ∀ (w : List Nat) (a : Arr), named a = a → named (walkTo R S a w) = walkTo R S a w
  | [], _, h => h
  | n :: w, a, _ => walk_canon R S w _ (moved_canon R S a n)

/-- a pair of states behind things -/
def pairTo (R S : Rule) (a : Arr) (ts : List Int) : Arr := (ts.foldl (step R) a.1, ts.foldl (step S) a.2)
theorem walk_of_things (v : VRule R) (v' : VRule S) : ∀ (ts : List Int) (a : Arr), VArr R S a → (∀ t ∈ ts, 0 ≤ t) → ∃ w : List Nat, w.length = ts.length ∧ VW R S (named a) w ∧ walkTo R S (named a) w = named (pairTo R S a ts)
  | [], a, _, _ => ⟨[], rfl, True.intro, rfl⟩
  | t :: ts, a, h, ht => by
    have t0 := ht t List.mem_cons_self
    obtain ⟨w, h1, h2, h3⟩ := walk_of_things v v' ts (step R a.1 t, step S a.2 t) (h.step v v' (by omega)) fun u hu => ht u (List.mem_cons_of_mem _ hu)
    rw [named_step v v' h t0] at h2 h3
    refine ⟨numberOf a t :: w, by simp [h1], ⟨?_, h2⟩, h3⟩
    rw [hm_named]
    exact numberOf_le a t

/-! ### the requests of a walk -/
def thingOf (a : Arr) (used : Int) (n : Nat) : Int := if n < (seen (rows a)).length then (seen (rows a)).getD n 0 else used
def playGo (R S : Rule) : Arr → Int → List Nat → List Int
  | _, _, [] => []
  | a, used, n :: w => thingOf a used n :: playGo R S (step R a.1 (thingOf a used n), step S a.2 (thingOf a used n)) (max used (thingOf a used n + 1)) w
def played (R S : Rule) (w : List Nat) : List Int := playGo R S (start R S) 0 w
theorem idxOf_getD {l : List Int} (nd : l.Nodup) {n : Nat} (h : n < l.length) : l.idxOf (l.getD n 0) = n := by
  rw [List.getD_eq_getElem?_getD, List.getElem?_eq_getElem h]
  show l.idxOf l[n] = n
  have m : l[n] ∈ l := List.getElem_mem h
  have e := List.getElem_idxOf (List.idxOf_lt_length_of_mem m)
  exact (List.getElem_inj nd).mp e
theorem play_ok (v : VRule R) (v' : VRule S) : ∀ (w : List Nat) (a : Arr) (used : Int), VArr R S a → 0 ≤ used → (∀ x ∈ rows a, x < used) → VW R S (named a) w →
    (playGo R S a used w).length = w.length ∧ (∀ t ∈ playGo R S a used w, 0 ≤ t ∧ t < used + w.length) ∧ named (pairTo R S a (playGo R S a used w)) = walkTo R S (named a) w
  | [], a, used, _, _, _, _ => ⟨rfl, fun t h => (nomatch h), rfl⟩
  | n :: w, a, used, h, u0, hu, ⟨hn, hw⟩ => by
    rw [hm_named] at hn
    have key : 0 ≤ thingOf a used n ∧ thingOf a used n ≤ used ∧ numberOf a (thingOf a used n) = n := by
      unfold thingOf
      by_cases c : n < (seen (rows a)).length
      · rw [if_pos c]
        have m : (seen (rows a)).getD n 0 ∈ seen (rows a) := getD_mem c
        obtain ⟨m1, m2⟩ := mem_seen.mp m
        have g : -1 ≤ (seen (rows a)).getD n 0 := by
          rcases List.mem_append.mp m1 with q | q
          · exact h.fst.row.ge _ q
          · exact h.snd.row.ge _ q
        have := hu _ m1
        exact ⟨by omega, by omega, idxOf_getD (seen_nodup _) c⟩
      · rw [if_neg c]
        refine ⟨u0, Int.le_refl _, ?_⟩
        have e : n = (seen (rows a)).length := by
          have : n ≤ (seen (rows a)).length := hn
          omega
        rw [e]
        exact List.idxOf_eq_length fun q => by
          have := hu _ (mem_seen.mp q).1
          omega
    have eq : ∀ t, t = thingOf a used n → playGo R S a used (n :: w) = t :: playGo R S (step R a.1 t, step S a.2 t) (max used (t + 1)) w := fun t e => by
      subst e
      rfl
    generalize ht : thingOf a used n = t at key eq
    obtain ⟨t0, t1, tn⟩ := key
    rw [eq t rfl]
    have hw' : VW R S (named (step R a.1 t, step S a.2 t)) w := by
      rw [named_step v v' h t0, tn]
      exact hw
    obtain ⟨r1, r2, r3⟩ := play_ok v v' w (step R a.1 t, step S a.2 t) (max used (t + 1)) (h.step v v' (by omega)) (by omega) (fun x hx => by
      rcases List.mem_append.mp hx with q | q
      · rcases mem_step v h.fst q with e | e
        · omega
        · have := hu x (List.mem_append_left _ e); omega
      · rcases mem_step v' h.snd q with e | e
        · omega
        · have := hu x (List.mem_append_right _ e); omega) hw'
    refine ⟨by simp [r1], fun u hx => ?_, ?_⟩
    · rcases List.mem_cons.mp hx with e | hx
      · subst e
        simp only [List.length_cons]
        omega
      · have := r2 u hx
        simp only [List.length_cons]
        omega
    · show named (pairTo R S (step R a.1 t, step S a.2 t) _) = _
      rw [r3, named_step v v' h t0, tn]
      rfl
theorem played_ok (v : VRule R) (v' : VRule S) {w : List Nat} (h : VW R S (start R S) w) :
    (played R S w).length = w.length ∧ (∀ t ∈ played R S w, 0 ≤ t ∧ t < w.length) ∧ named (run R (played R S w), run S (played R S w)) = walkTo R S (start R S) w := by
  have hr : ∀ x ∈ rows (start R S), x < 0 := fun x hx => by
    rcases List.mem_append.mp hx with q | q
    · have := List.eq_of_mem_replicate q; omega
    · have := List.eq_of_mem_replicate q; omega
  obtain ⟨a, b, c⟩ := play_ok v v' w (start R S) 0 (VArr.start v v') (Int.le_refl _) hr (by rw [named_start]; exact h)
  refine ⟨a, fun t ht => ?_, ?_⟩
  · have := b t ht
    omega
  · rw [named_start] at c
    exact c

/-- always nested, by requests of any number and any things -/
def Nest (R S : Rule) : Prop := ∀ ts : List Int, (∀ t ∈ ts, 0 ≤ t) → Within (run R ts, run S ts)
theorem nest_iff (v : VRule R) (v' : VRule S) : Nest R S ↔ ∀ w, VW R S (start R S) w → Within (walkTo R S (start R S) w) := by
  constructor
  · intro h w hw
    obtain ⟨_, b, c⟩ := played_ok v v' hw
    rw [← c, within_named]
    exact h _ fun t ht => (b t ht).1
  · intro h ts ht
    obtain ⟨w, _, h2, h3⟩ := walk_of_things v v' ts (start R S) (VArr.start v v') ht
    rw [named_start] at h2 h3
    have q := h w h2
    rw [h3, within_named] at q
    exact q

/-! ### the search in breadth: the line of arrangements, each with its walk -/
abbrev Ln := List (Arr × List Nat)
structure BInv (R S : Rule) (ln : Ln) (at_ : Nat) : Prop where
  nd : (ln.map (·.1)).Nodup
  wk : ∀ p ∈ ln, VW R S (start R S) p.2 ∧ walkTo R S (start R S) p.2 = p.1
  hd : ln[0]? = some (start R S, [])
  mono : ∀ (i j : Nat) (p q : Arr × List Nat), i ≤ j → ln[i]? = some p → ln[j]? = some q → p.2.length ≤ q.2.length
  near : ∀ q, ln[at_]? = some q → ∀ p ∈ ln, p.2.length ≤ q.2.length + 1
  edge : ∀ (i : Nat) (p : Arr × List Nat), i < at_ → ln[i]? = some p → ∀ n, n ≤ hm p.1 → ∃ q ∈ ln, q.1 = moved R S p.1 n ∧ q.2.length ≤ p.2.length + 1
  le : at_ ≤ ln.length
/-- within the turn of the arrangement p, n of its moves done -/
structure TInv (R S : Rule) (ln : Ln) (at_ : Nat) (p : Arr × List Nat) (n : Nat) : Prop where
  b : BInv R S ln at_
  here : ln[at_]? = some p
  done : ∀ k, k < n → ∃ q ∈ ln, q.1 = moved R S p.1 k ∧ q.2.length ≤ p.2.length + 1
theorem BInv.first (R S : Rule) : BInv R S [(start R S, [])] 0 where
  nd := by simp
  wk := fun p hp => by
    have e : p = (start R S, []) := by simpa using hp
    subst e
    exact ⟨True.intro, rfl⟩
  hd := rfl
  mono := fun i j p q hij hi hj => by
    have e1 : p ∈ [(start R S, ([] : List Nat))] := List.mem_of_getElem? hi
    have e : p = (start R S, []) := by simpa using e1
    subst e
    exact Nat.zero_le _
  near := fun q hq p hp => by
    have e : p = (start R S, []) := by simpa using hp
    subst e
    exact Nat.zero_le _
  edge := fun i p hi => absurd hi (Nat.not_lt_zero _)
  le := Nat.zero_le _
theorem TInv.zero {ln : Ln} {at_ : Nat} {p : Arr × List Nat} (b : BInv R S ln at_) (h : ln[at_]? = some p) : TInv R S ln at_ p 0 := ⟨b, h, fun k hk => absurd hk (Nat.not_lt_zero _)⟩
theorem TInv.old {ln : Ln} {at_ n : Nat} {p : Arr × List Nat} (T : TInv R S ln at_ p n) (h : moved R S p.1 n ∈ ln.map (·.1)) : TInv R S ln at_ p (n + 1) := by
  refine ⟨T.b, T.here, fun k hk => ?_⟩
  by_cases e : k = n
  · subst e
    obtain ⟨q, hq, e2⟩ := List.mem_map.mp h
    exact ⟨q, hq, e2, T.b.near p T.here q hq⟩
  · exact T.done k (by omega)
theorem getElem?_snoc {α : Type} {l : List α} {x p : α} {i : Nat} (h : (l ++ [x])[i]? = some p) : l[i]? = some p ∨ (i = l.length ∧ p = x) := by
  by_cases c : i < l.length
  · rw [List.getElem?_append_left c] at h
    exact .inl h
  · rw [List.getElem?_append_right (by omega)] at h
    have c2 : i - l.length < 1 := by
      have := (List.getElem?_eq_some_iff.mp h).1
      simpa using this
    have e : i = l.length := by omega
    subst e
    simp at h
    exact .inr ⟨rfl, h.symm⟩
theorem TInv.new {ln : Ln} {at_ n : Nat} {p : Arr × List Nat} (T : TInv R S ln at_ p n) (hn : n ≤ hm p.1) (h : ¬ moved R S p.1 n ∈ ln.map (·.1)) : TInv R S (ln ++ [(moved R S p.1 n, p.2 ++ [n])]) at_ p (n + 1) := by
  obtain ⟨B, here, done⟩ := T
  have lt : at_ < ln.length := (List.getElem?_eq_some_iff.mp here).1
  have pm : p ∈ ln := List.mem_of_getElem? here
  obtain ⟨w1, w2⟩ := B.wk p pm
  have here' : (ln ++ [(moved R S p.1 n, p.2 ++ [n])])[at_]? = some p := by rw [List.getElem?_append_left lt]; exact here
  refine ⟨⟨?_, fun q hq => ?_, ?_, fun i j x y hij hx hy => ?_, fun q hq x hx => ?_, fun i x hi hx k hk => ?_, ?_⟩, here', fun k hk => ?_⟩
  · rw [List.map_append]
    refine List.nodup_append.mpr ⟨B.nd, by simp, fun a ha b hb e => ?_⟩
    have e2 : b = moved R S p.1 n := by simpa using hb
    rw [e, e2] at ha
    exact h ha
  · rcases List.mem_append.mp hq with hq | hq
    · exact B.wk q hq
    · have e : q = (moved R S p.1 n, p.2 ++ [n]) := by simpa using hq
      subst e
      refine ⟨VW.append.mpr ⟨w1, ?_⟩, ?_⟩
      · rw [w2]
        exact ⟨hn, True.intro⟩
      · show walkTo R S (start R S) (p.2 ++ [n]) = _
        rw [walkTo_append, w2]
        rfl
  · have := B.hd
    rw [List.getElem?_append_left (by omega)]
    exact this
  · rcases getElem?_snoc hx with hx | ⟨_, e⟩
    · rcases getElem?_snoc hy with hy | ⟨_, e⟩
      · exact B.mono i j x y hij hx hy
      · subst e
        have := B.near p here x (List.mem_of_getElem? hx)
        simp only [List.length_append, List.length_cons, List.length_nil]
        omega
    · rcases getElem?_snoc hy with hy | ⟨_, e2⟩
      · have := (List.getElem?_eq_some_iff.mp hy).1
        omega
      · subst e e2
        exact Nat.le_refl _
  · rw [here'] at hq
    cases hq
    rcases List.mem_append.mp hx with hx | hx
    · exact B.near p here x hx
    · have e : x = (moved R S p.1 n, p.2 ++ [n]) := by simpa using hx
      subst e
      simp
  · have hx' : ln[i]? = some x := by
      rcases getElem?_snoc hx with q | ⟨q, _⟩
      · exact q
      · omega
    obtain ⟨q, hq, e1, e2⟩ := B.edge i x hi hx' k hk
    exact ⟨q, List.mem_append_left _ hq, e1, e2⟩
  · rw [List.length_append]
    exact Nat.le_trans B.le (Nat.le_add_right _ _)
  · by_cases e : k = n
    · subst e
      exact ⟨(moved R S p.1 k, p.2 ++ [k]), List.mem_append_right _ (by simp), rfl, by simp⟩
    · obtain ⟨q, hq, e1, e2⟩ := done k (by omega)
      exact ⟨q, List.mem_append_left _ hq, e1, e2⟩
theorem TInv.next {ln : Ln} {at_ : Nat} {p : Arr × List Nat} (T : TInv R S ln at_ p (hm p.1 + 1)) : BInv R S ln (at_ + 1) := by
  obtain ⟨B, here, done⟩ := T
  have lt : at_ < ln.length := (List.getElem?_eq_some_iff.mp here).1
  refine ⟨B.nd, B.wk, B.hd, B.mono, fun q hq x hx => ?_, fun i x hi hx k hk => ?_, lt⟩
  · have h1 := B.near p here x hx
    have h2 := B.mono at_ (at_ + 1) p q (Nat.le_succ _) here hq
    omega
  · by_cases e : i = at_
    · subst e
      rw [here] at hx
      cases hx
      exact done k (by omega)
    · exact B.edge i x (by omega) hx k hk
/-- behind the search every walk's arrangement stands in the line with a walk that is no longer -/
theorem BInv.all {ln : Ln} (B : BInv R S ln ln.length) : ∀ (m : Nat) (w : List Nat), w.length = m → VW R S (start R S) w → ∃ q ∈ ln, q.1 = walkTo R S (start R S) w ∧ q.2.length ≤ w.length
  | 0, w, h, _ => by
    have e : w = [] := List.length_eq_zero_iff.mp h
    subst e
    exact ⟨(start R S, []), List.mem_of_getElem? B.hd, rfl, Nat.le_refl _⟩
  | m + 1, w, h, hw => by
    rcases List.eq_nil_or_concat w with e | ⟨v, n, e⟩
    · subst e; simp at h
    · rw [List.concat_eq_append] at e
      subst e
      rw [List.length_append] at h
      obtain ⟨h1, h2⟩ := VW.append.mp hw
      obtain ⟨q, hq, e1, e2⟩ := B.all m v (by simpa using h) h1
      obtain ⟨i, hi, e3⟩ := List.mem_iff_getElem.mp hq
      have hi' : ln[i]? = some q := by rw [List.getElem?_eq_getElem hi, e3]
      obtain ⟨r, hr, e4, e5⟩ := B.edge i q hi hi' n (by rw [e1]; exact h2.1)
      refine ⟨r, hr, ?_, ?_⟩
      · rw [e4, e1, walkTo_append]
        rfl
      · simp only [List.length_append, List.length_cons, List.length_nil]
        omega
/-- all within: nested -/
theorem BInv.nest {ln : Ln} (v : VRule R) (v' : VRule S) (B : BInv R S ln ln.length) (h : ∀ p ∈ ln, Within p.1) : Nest R S := by
  rw [nest_iff v v']
  intro w hw
  obtain ⟨q, hq, e, _⟩ := B.all w.length w rfl hw
  rw [← e]
  exact h q hq
/-- the first that is not within: no shorter walk leads to such -/
theorem BInv.shortest {ln : Ln} (B : BInv R S ln ln.length) {i : Nat} {p : Arr × List Nat} (hi : ln[i]? = some p) (hb : ∀ (j : Nat) q, j < i → ln[j]? = some q → Within q.1) {w : List Nat} (hw : VW R S (start R S) w) (hn : ¬ Within (walkTo R S (start R S) w)) : p.2.length ≤ w.length := by
  obtain ⟨q, hq, e, l⟩ := B.all w.length w rfl hw
  obtain ⟨j, hj, e3⟩ := List.mem_iff_getElem.mp hq
  have hj' : ln[j]? = some q := by rw [List.getElem?_eq_getElem hj, e3]
  by_cases c : j < i
  · have := hb j q c hj'
    rw [e] at this
    exact absurd this hn
  · exact Nat.le_trans (B.mono i j p q (by omega) hi hj') l
end
end G
-- part GM3
/-! Plain mathematics, part 3: how many arrangements there are. -/
set_option linter.all false
namespace G
theorem nodup_length_le {α : Type} [DecidableEq α] : ∀ (l L : List α), l.Nodup → (∀ x ∈ l, x ∈ L) → l.length ≤ L.length
  | [], _, _, _ => Nat.zero_le _
  | x :: l, L, hn, hs => by
    have hx := hs x List.mem_cons_self
    obtain ⟨n1, n2⟩ := List.nodup_cons.mp hn
    have q := nodup_length_le l (L.erase x) n2 fun y hy => by
      have : y ≠ x := fun e => n1 (e ▸ hy)
      exact (List.mem_erase_of_ne this).mpr (hs y (List.mem_cons_of_mem _ hy))
    rw [List.length_erase_of_mem hx] at q
    have : 0 < L.length := List.length_pos_of_mem hx
    simp only [List.length_cons]
    omega

def gen : Nat → Nat → List (List Int)
  | 0, _ => [[]]
  | n + 1, k => (gen n k).map (fun l => -1 :: l) ++ ((List.range k).flatMap fun (i : Nat) => (gen n k).map fun l => (i : Int) :: l) ++ (gen n (k + 1)).map fun l => (k : Int) :: l
def RG : Nat → List Int → Prop
  | _, [] => True
  | k, x :: l => (x = -1 ∧ RG k l) ∨ (0 ≤ x ∧ x < k ∧ RG k l) ∨ (x = k ∧ RG (k + 1) l)
theorem RG.mem : ∀ {l : List Int} {k : Nat}, RG k l → l ∈ gen l.length k
  | [], _, _ => List.mem_singleton.mpr rfl
  | x :: l, k, h => by
    show _ ∈ gen (l.length + 1) k
    unfold gen
    rcases h with ⟨e, h⟩ | ⟨h0, h1, h⟩ | ⟨e, h⟩
    · subst e
      exact List.mem_append_left _ (List.mem_append_left _ (List.mem_map.mpr ⟨l, h.mem, rfl⟩))
    · refine List.mem_append_left _ (List.mem_append_right _ (List.mem_flatMap.mpr ⟨x.toNat, List.mem_range.mpr (by omega), List.mem_map.mpr ⟨l, h.mem, ?_⟩⟩))
      have : ((x.toNat : Nat) : Int) = x := Int.toNat_of_nonneg h0
      rw [this]
    · subst e
      exact List.mem_append_right _ (List.mem_map.mpr ⟨l, h.mem, rfl⟩)
theorem seen_fold_prefix : ∀ (l acc : List Int), ∃ r, l.foldl seenStep acc = acc ++ r
  | [], acc => ⟨[], by simp⟩
  | x :: l, acc => by
    rw [List.foldl_cons]
    obtain ⟨r, e⟩ := seen_fold_prefix l (seenStep acc x)
    unfold seenStep at e
    split at e
    · unfold seenStep
      rw [if_pos (by assumption)]
      exact ⟨r, e⟩
    · unfold seenStep
      rw [if_neg (by assumption)]
      exact ⟨x :: r, by rw [e]; simp⟩
theorem idxOf_app {l r : List Int} {x : Int} (h : x ∈ l) : (l ++ r).idxOf x = l.idxOf x := by
  rw [List.idxOf_append, if_pos h]
theorem rg_num : ∀ (l acc : List Int) (f : Int → Int), (∀ t ∈ l, f t = if t = -1 then -1 else (((l.foldl seenStep acc).idxOf t : Nat) : Int)) → RG acc.length (l.map f)
  | [], _, _, _ => True.intro
  | x :: l, acc, f, hf => by
    have fx := hf x List.mem_cons_self
    show RG acc.length (f x :: l.map f)
    by_cases c : x = -1
    · left
      rw [if_pos c] at fx
      refine ⟨fx, rg_num l acc f fun t ht => ?_⟩
      have es : seenStep acc x = acc := by unfold seenStep; rw [if_pos (Or.inl c)]
      have q := hf t (List.mem_cons_of_mem _ ht)
      rw [List.foldl_cons, es] at q
      exact q
    · rw [if_neg c, List.foldl_cons] at fx
      by_cases d : x ∈ acc
      · right; left
        have es : seenStep acc x = acc := by unfold seenStep; rw [if_pos (.inr d)]
        rw [es] at fx
        obtain ⟨r, er⟩ := seen_fold_prefix l acc
        rw [er, idxOf_app d] at fx
        have := List.idxOf_lt_length_of_mem d
        refine ⟨by omega, by omega, rg_num l acc f fun t ht => ?_⟩
        have q := hf t (List.mem_cons_of_mem _ ht)
        rw [List.foldl_cons, es] at q
        exact q
      · right; right
        have es : seenStep acc x = acc ++ [x] := by unfold seenStep; rw [if_neg fun z => z.elim c d]
        rw [es] at fx
        obtain ⟨r, er⟩ := seen_fold_prefix l (acc ++ [x])
        rw [er, idxOf_app (by simp)] at fx
        have e2 : (acc ++ [x]).idxOf x = acc.length := by
          rw [List.idxOf_append, if_neg d]
          simp
        rw [e2] at fx
        refine ⟨fx, ?_⟩
        have q := rg_num l (acc ++ [x]) f fun t ht => by
          have q := hf t (List.mem_cons_of_mem _ ht)
          rw [List.foldl_cons, es] at q
          exact q
        rw [List.length_append] at q
        exact q
theorem rg_named (a : Arr) : RG 0 (rows (named a)) := by
  have e : rows (named a) = (rows a).map (num (rows a)) := rows_ren (num (rows a)) a
  rw [e]
  exact rg_num (rows a) [] _ fun t _ => rfl

def rowOk (l : List Int) : Bool := l.all fun t => t == -1 || l.count t == 1
def okRows (p : Nat) (l : List Int) : Bool := rowOk (l.take p) && rowOk (l.drop p)
def labels (p : Nat) (l : List Int) : List Arr := [((l.take p, 0), (l.drop p, 0)), ((l.take p, 0), (l.drop p, 1)), ((l.take p, 1), (l.drop p, 0)), ((l.take p, 1), (l.drop p, 1))]
def allArr (p q : Nat) : List Arr := ((gen (p + q) 0).filter (okRows p)).flatMap (labels p)
theorem length_four {β : Type} (f : List Int → List β) (hf : ∀ l, (f l).length = 4) : ∀ L : List (List Int), (L.flatMap f).length = 4 * L.length
  | [] => rfl
  | l :: L => by rw [List.flatMap_cons, List.length_append, hf, length_four f hf L, List.length_cons]; omega
theorem count_all : ∀ p ∈ [1, 2, 3], ∀ q ∈ [1, 2, 3], ((gen (p + q) 0).filter (okRows p)).length ≤ 286 := by decide +kernel
theorem allArr_length {p q : Nat} (hp : 1 ≤ p) (hp3 : p ≤ 3) (hq : 1 ≤ q) (hq3 : q ≤ 3) : (allArr p q).length ≤ 1144 := by
  unfold allArr
  rw [length_four _ fun l => rfl]
  have := count_all p (by simp; omega) q (by simp; omega)
  omega
theorem VRow.ok {n : Nat} {row : List Int} (w : VRow n row) : rowOk row = true := by
  unfold rowOk
  rw [List.all_eq_true]
  intro t ht
  by_cases c : t = -1
  · simp [c]
  · have h1 := w.one t c
    have h2 : 0 < row.count t := List.count_pos_iff.mpr ht
    have : row.count t = 1 := by omega
    simp [this]
structure Small (R : Rule) : Prop where
  v : VRule R
  p3 : R.places ≤ 3
  l2 : R.labs.length ≤ 2
theorem mem_all {R S : Rule} (r : Small R) (s : Small S) {a : Arr} (w : VArr R S a) (hc : named a = a) : a ∈ allArr R.places S.places := by
  have g := rg_named a
  rw [hc] at g
  have hl : (rows a).length = R.places + S.places := by
    unfold rows
    rw [List.length_append, w.fst.row.len, w.snd.row.len]
  have m := g.mem
  rw [hl] at m
  have e1 : (rows a).take R.places = a.1.1 := by
    unfold rows
    rw [← w.fst.row.len]
    exact List.take_left' rfl
  have e2 : (rows a).drop R.places = a.2.1 := by
    unfold rows
    rw [← w.fst.row.len]
    exact List.drop_left' rfl
  refine List.mem_flatMap.mpr ⟨rows a, List.mem_filter.mpr ⟨m, ?_⟩, ?_⟩
  · unfold okRows
    rw [e1, e2, w.fst.row.ok, w.snd.row.ok]
    rfl
  · unfold labels
    rw [e1, e2]
    have l1 := w.fst.lab
    have l2 := w.snd.lab
    have r2 := r.l2
    have s2 := s.l2
    obtain ⟨⟨x, i⟩, ⟨y, j⟩⟩ := a
    simp only at l1 l2 ⊢
    have hi : i = 0 ∨ i = 1 := by omega
    have hj : j = 0 ∨ j = 1 := by omega
    rcases hi with rfl | rfl <;> rcases hj with rfl | rfl <;> simp
/-- the line of a search holds at most 1144 arrangements -/
theorem BInv.few {R S : Rule} (r : Small R) (s : Small S) {ln : Ln} {at_ : Nat} (B : BInv R S ln at_) : ln.length ≤ 1144 := by
  have q := nodup_length_le (ln.map (·.1)) (allArr R.places S.places) B.nd fun a ha => by
    obtain ⟨p, hp, e⟩ := List.mem_map.mp ha
    obtain ⟨_, e2⟩ := B.wk p hp
    rw [← e, ← e2]
    exact mem_all r s (VArr.walk r.v s.v _ _ (VArr.start r.v s.v)) (walk_canon R S _ _ (named_start R S))
  rw [List.length_map] at q
  exact Nat.le_trans q (allArr_length r.v.pos r.p3 s.v.pos s.p3)
end G
-- part GM4
/-! Plain mathematics, part 4: two caches of equally many places (and one of one place): a short way to a difference. -/
set_option linter.all false
namespace G
/-! ### a chain of ever finer equivalences is short -/
structure Fine {α : Type} (E : Nat → α → α → Prop) : Prop where
  refl : ∀ k u, E k u u
  symm : ∀ k u v, E k u v → E k v u
  trans : ∀ k u v w, E k u v → E k v w → E k u w
  dec : ∀ k u v, E (k + 1) u v → E k u v
theorem Fine.down {α : Type} {E : Nat → α → α → Prop} (F : Fine E) {u v : α} : ∀ {j k : Nat}, j ≤ k → E k u v → E j u v := by
  intro j k h
  induction h with
  | refl => exact id
  | step _ ih => exact fun q => ih (F.dec _ _ _ q)
def Strict {α : Type} (E : Nat → α → α → Prop) (V : List α) (k : Nat) : Prop := ∃ u ∈ V, ∃ v ∈ V, E k u v ∧ ¬ E (k + 1) u v
theorem one_at_most {β : Type} [DecidableEq β] {l : List β} (nd : l.Nodup) (h : ∀ x ∈ l, ∀ y ∈ l, x = y) : l.length ≤ 1 := by
  match l, nd, h with
  | [], _, _ => exact Nat.zero_le _
  | [_], _, _ => exact Nat.le_refl _
  | x :: y :: l, nd, h =>
    have e := h x List.mem_cons_self y (List.mem_cons_of_mem _ List.mem_cons_self)
    have := (List.nodup_cons.mp nd).1
    rw [e] at this
    exact absurd List.mem_cons_self this
open Classical in
theorem filter_two {β : Type} (l : List β) (p : β → Prop) : l.length = (l.filter fun x => decide (p x)).length + (l.filter fun x => decide (¬ p x)).length := by
  induction l with
  | nil => rfl
  | cons x l ih =>
    by_cases h : p x
    · rw [List.filter_cons_of_pos (by simpa using h), List.filter_cons_of_neg (by simpa using h)]
      simp only [List.length_cons]
      omega
    · rw [List.filter_cons_of_neg (by simpa using h), List.filter_cons_of_pos (by simpa using h)]
      simp only [List.length_cons]
      omega
open Classical in
theorem moore {α : Type} {E : Nat → α → α → Prop} (F : Fine E) : ∀ (V : List α) (ks : List Nat), V ≠ [] → ks.Nodup → (∀ k ∈ ks, Strict E V k) → ks.length + 1 ≤ V.length
  | [], _, h, _, _ => absurd rfl h
  | [v], ks, _, _, hs => by
    cases ks with
    | nil => exact Nat.le_refl _
    | cons k ks =>
      obtain ⟨u, hu, w, hw, _, n⟩ := hs k List.mem_cons_self
      have e1 : u = v := by simpa using hu
      have e2 : w = v := by simpa using hw
      subst e1 e2
      exact absurd (F.refl _ _) n
  | v :: v2 :: V, ks, _, nd, hs => by
    have ih := moore F (v2 :: V) (ks.filter fun k => decide (Strict E (v2 :: V) k)) (by simp) (nd.filter _) fun k hk => by
      have := (List.mem_filter.mp hk).2
      exact of_decide_eq_true this
    have rest : (ks.filter fun k => decide (¬ Strict E (v2 :: V) k)).length ≤ 1 := by
      refine one_at_most (nd.filter _) ?_
      have key : ∀ j k, j < k → j ∈ ks → k ∈ ks → ¬ Strict E (v2 :: V) j → ¬ Strict E (v2 :: V) k → False := by
        intro j k hjk hj hk nj nk
        -- at j the pair holds v: from then on v stands alone
        obtain ⟨u, hu, w, hw, e1, e2⟩ := hs j hj
        have alone : ∃ x ∈ v2 :: V, E j v x ∧ ¬ E (j + 1) v x := by
          rcases List.mem_cons.mp hu with q | q
          · subst q
            rcases List.mem_cons.mp hw with r | r
            · subst r; exact absurd (F.refl _ _) e2
            · exact ⟨w, r, e1, e2⟩
          · rcases List.mem_cons.mp hw with r | r
            · subst r; exact ⟨u, q, F.symm _ _ _ e1, fun z => e2 (F.symm _ _ _ z)⟩
            · exact absurd ⟨u, q, w, r, e1, e2⟩ nj
        obtain ⟨x, hx, x1, x2⟩ := alone
        have none : ∀ y ∈ v2 :: V, ¬ E (j + 1) v y := fun y hy z => by
          have xy : E j x y := F.trans _ _ _ _ (F.symm _ _ _ x1) (F.dec _ _ _ z)
          have xy1 : E (j + 1) x y := Classical.byContradiction fun n => nj ⟨x, hx, y, hy, xy, n⟩
          exact x2 (F.trans _ _ _ _ z (F.symm _ _ _ xy1))
        obtain ⟨u', hu', w', hw', f1, f2⟩ := hs k hk
        rcases List.mem_cons.mp hu' with q | q
        · subst q
          rcases List.mem_cons.mp hw' with r | r
          · subst r; exact f2 (F.refl _ _)
          · exact none w' r (F.down (by omega) f1)
        · rcases List.mem_cons.mp hw' with r | r
          · subst r; exact none u' q (F.down (by omega) (F.symm _ _ _ f1))
          · exact nk ⟨u', q, w', r, f1, f2⟩
      intro j hj k hk
      obtain ⟨j1, j2⟩ := List.mem_filter.mp hj
      obtain ⟨k1, k2⟩ := List.mem_filter.mp hk
      have j2 := of_decide_eq_true j2
      have k2 := of_decide_eq_true k2
      rcases Nat.lt_trichotomy j k with h | h | h
      · exact (key j k h j1 k1 j2 k2).elim
      · exact h
      · exact (key k j h k1 j1 k2 j2).elim
    have := filter_two ks (Strict E (v2 :: V))
    simp only [List.length_cons] at ih ⊢
    omega

/-! ### machines with outputs -/
section
variable {α : Type} (nx : α → Option Nat → α) (ot : α → Option Nat → Option Int)
def outs : α → List (Option Nat) → List (Option Int)
  | _, [] => []
  | s, c :: w => ot s c :: outs (nx s c) w
def Eq_ (k : Nat) (u v : α) : Prop := ∀ w : List (Option Nat), w.length ≤ k → outs nx ot u w = outs nx ot v w
theorem eq_fine : Fine (Eq_ nx ot) :=
  ⟨fun k u w _ => rfl, fun k u v h w hw => (h w hw).symm, fun k u v x h h' w hw => (h w hw).trans (h' w hw), fun k u v h w hw => h w (Nat.le_succ_of_le hw)⟩
theorem eq_stable {V : List α} (cl : ∀ u ∈ V, ∀ c, nx u c ∈ V) {k : Nat} (st : ∀ u ∈ V, ∀ v ∈ V, Eq_ nx ot k u v → Eq_ nx ot (k + 1) u v) : ∀ (j : Nat), k ≤ j → ∀ u ∈ V, ∀ v ∈ V, Eq_ nx ot j u v → Eq_ nx ot (j + 1) u v := by
  intro j hj
  induction hj with
  | refl => exact st
  | step hj ih =>
    rename_i j
    intro u hu v hv h w hw
    cases w with
    | nil => rfl
    | cons c w =>
      have h0 : ot u c = ot v c := by
        have q := h [c] (by simp)
        exact (List.cons.inj q).1
      have h1 : Eq_ nx ot j (nx u c) (nx v c) := fun x hx => by
        have q := h (c :: x) (by simp; exact hx)
        exact (List.cons.inj q).2
      have h2 := ih _ (cl u hu c) _ (cl v hv c) h1 w (by simpa using hw)
      show ot u c :: _ = ot v c :: _
      rw [h0]
      exact congrArg _ h2
/-- two states of a closed list that some word tells apart are told apart by one shorter than the list -/
theorem short_word {V : List α} (cl : ∀ u ∈ V, ∀ c, nx u c ∈ V) {u v : α} (hu : u ∈ V) (hv : v ∈ V) {w : List (Option Nat)} (hw : outs nx ot u w ≠ outs nx ot v w) : ∃ w', w'.length + 1 ≤ V.length ∧ outs nx ot u w' ≠ outs nx ot v w' := by
  -- the least length
  have least : ∀ n, (∃ x : List (Option Nat), x.length ≤ n ∧ outs nx ot u x ≠ outs nx ot v x) → ∃ m, ¬ Eq_ nx ot m u v ∧ ∀ k, k < m → Eq_ nx ot k u v := by
    intro n
    induction n with
    | zero =>
      rintro ⟨x, hx, hne⟩
      exact ⟨0, fun h => hne (h x hx), fun k hk => absurd hk (Nat.not_lt_zero _)⟩
    | succ n ih =>
      rintro ⟨x, hx, hne⟩
      by_cases c : ∃ x : List (Option Nat), x.length ≤ n ∧ outs nx ot u x ≠ outs nx ot v x
      · exact ih c
      · refine ⟨n + 1, fun h => hne (h x hx), fun k hk y hy => Classical.byContradiction fun z => c ⟨y, by omega, z⟩⟩
  obtain ⟨m, m1, m2⟩ := least w.length ⟨w, Nat.le_refl _, hw⟩
  have strict : ∀ k, k < m → Strict (Eq_ nx ot) V k := fun k hk => by
    refine Classical.byContradiction fun z => m1 ?_
    have st : ∀ u ∈ V, ∀ v ∈ V, Eq_ nx ot k u v → Eq_ nx ot (k + 1) u v := fun a ha b hb e => Classical.byContradiction fun n => z ⟨a, ha, b, hb, e, n⟩
    have all : ∀ j, k ≤ j → Eq_ nx ot j u v := fun j hj => by
      induction hj with
      | refl => exact m2 k hk
      | step hj ih => exact eq_stable nx ot cl st _ hj u hu v hv ih
    exact all m (Nat.le_of_lt hk)
  have q := moore (eq_fine nx ot) V (List.range m) (fun e => by rw [e] at hu; cases hu) List.nodup_range fun k hk => strict k (List.mem_range.mp hk)
  rw [List.length_range] at q
  obtain ⟨w', h1, h2⟩ : ∃ w' : List (Option Nat), w'.length ≤ m ∧ outs nx ot u w' ≠ outs nx ot v w' := Classical.byContradiction fun z => m1 fun x hx => Classical.byContradiction fun n => z ⟨x, hx, n⟩
  exact ⟨w', by omega, h2⟩
end

/-! ### things named by registers: a new thing takes the name of the one that goes -/
/-- so many names, then blanks -/
def target (n l : Nat) : List Int := (List.range l).map (fun (i : Nat) => (i : Int)) ++ List.replicate (n - l) (-1)
def lv (s : Sta) : Nat := s.1.countP fun x => x != -1
def regNx (R : Rule) (s : Sta) : Option Nat → Sta
  | some i => if (i : Int) ∈ s.1 then step R s i else s
  | none => if (-1 : Int) ∈ s.1 then step R s (lv s : Nat) else (arranged s.1 (comeMove R s).1, (comeMove R s).2)
def regOt (R : Rule) (s : Sta) : Option Nat → Option Int
  | some _ => none
  | none => if (-1 : Int) ∈ s.1 then none else some (s.1.getD (labOf R s).out 0)

theorem count_target {n l : Nat} (h : l ≤ n) (t : Int) : (target n l).count t = (if 0 ≤ t ∧ t < l then 1 else 0) + (if t = -1 then n - l else 0) := by
  unfold target
  rw [List.count_append, List.count_replicate]
  congr 1
  · induction l with
    | zero => simp
    | succ l ih =>
      rw [List.range_succ, List.map_append, List.count_append, ih (by omega)]
      simp only [List.map_cons, List.map_nil, List.count_cons, List.count_nil, beq_iff_eq]
      repeat' split
      all_goals omega
  · by_cases e : t = -1
    · subst e; simp
    · have : ¬ (-1 : Int) = t := fun z => e z.symm
      simp [e, this]
structure Reg (R : Rule) (l : Nat) (s : Sta) : Prop where
  le : l ≤ R.places
  perm : s.1.Perm (target R.places l)
  lab : s.2 < R.labs.length
section
variable {R : Rule} {l : Nat} {s : Sta}
theorem Reg.count (g : Reg R l s) (t : Int) : s.1.count t = (if 0 ≤ t ∧ t < l then 1 else 0) + (if t = -1 then R.places - l else 0) := by
  rw [g.perm.count_eq, count_target g.le]
theorem Reg.mem (g : Reg R l s) {t : Int} : t ∈ s.1 ↔ (0 ≤ t ∧ t < l) ∨ (t = -1 ∧ l < R.places) := by
  have q := g.count t
  have h := g.le
  rw [← List.count_pos_iff, q]
  repeat' split
  all_goals omega
theorem Reg.v (g : Reg R l s) : VSta R s := by
  refine ⟨⟨?_, fun x hx => ?_, fun t ht => ?_⟩, g.lab⟩
  · rw [g.perm.length_eq]
    unfold target
    have := g.le
    simp; omega
  · rcases g.mem.mp hx with h | h <;> omega
  · rw [g.count, if_neg ht]
    split <;> omega
theorem Reg.lv (g : Reg R l s) : lv s = l := by
  unfold G.lv
  rw [g.perm.countP_eq]
  unfold target
  rw [List.countP_append, List.countP_map, List.countP_replicate]
  have e : List.countP ((fun x : Int => x != -1) ∘ fun (i : Nat) => (i : Int)) (List.range l) = l := by
    have q : List.countP ((fun x : Int => x != -1) ∘ fun (i : Nat) => (i : Int)) (List.range l) = (List.range l).length := by
      rw [List.countP_eq_length]
      intro i _
      simp
    rw [q, List.length_range]
  rw [e]
  simp
theorem Reg.first (v : VRule R) : Reg R 0 (first R) := ⟨Nat.zero_le _, by simp [G.first, target], v.lpos⟩
theorem Reg.hit (v : VRule R) (g : Reg R l s) {i : Nat} (h : i < l) : Reg R l (step R s i) :=
  ⟨g.le, (hit_perm v g.v (g.mem.mpr (.inl ⟨by omega, by omega⟩))).trans g.perm, step_lab v g.v⟩
theorem Reg.come (v : VRule R) (g : Reg R l s) (h : l < R.places) : Reg R (l + 1) (step R s (l : Nat)) := by
  have hb : (-1 : Int) ∈ s.1 := g.mem.mpr (.inr ⟨rfl, h⟩)
  have hn : ¬ ((l : Nat) : Int) ∈ s.1 := fun z => by rcases g.mem.mp z with q | q <;> omega
  refine ⟨h, (miss_perm v g.v hn).trans ?_, step_lab v g.v⟩
  have hp := placeOf_lt v g.v
  have ep : s.1[placeOf R s] = -1 := by
    unfold placeOf
    simp only [if_pos hb]
    exact List.getElem_idxOf _
  rw [List.perm_iff_count]
  intro t
  have q := count_set hp ((l : Nat) : Int) t
  rw [ep, g.count] at q
  rw [count_target h]
  repeat' split at q
  all_goals (repeat' split)
  all_goals omega
theorem Reg.full (v : VRule R) (g : Reg R l s) (h : l = R.places) : Reg R l (arranged s.1 (comeMove R s).1, (comeMove R s).2) := by
  refine ⟨g.le, (arranged_perm ?_).trans g.perm, (comeMove_ok v g.v).lab⟩
  rw [g.v.row.len]
  exact (comeMove_ok v g.v).perm
theorem Reg.nx (v : VRule R) (g : Reg R l s) (c : Option Nat) : ∃ l', l ≤ l' ∧ Reg R l' (regNx R s c) := by
  cases c with
  | some i =>
    show ∃ l', l ≤ l' ∧ Reg R l' (if (i : Int) ∈ s.1 then step R s i else s)
    by_cases h : (i : Int) ∈ s.1
    · rw [if_pos h]
      rcases g.mem.mp h with q | q
      · exact ⟨l, Nat.le_refl _, g.hit v (by omega)⟩
      · omega
    · rw [if_neg h]
      exact ⟨l, Nat.le_refl _, g⟩
  | none =>
    show ∃ l', l ≤ l' ∧ Reg R l' (if (-1 : Int) ∈ s.1 then step R s (G.lv s : Nat) else _)
    by_cases h : (-1 : Int) ∈ s.1
    · rw [if_pos h, g.lv]
      rcases g.mem.mp h with q | q
      · omega
      · exact ⟨l + 1, Nat.le_succ _, g.come v q.2⟩
    · rw [if_neg h]
      have e : l = R.places := by
        have := g.le
        by_cases c : l < R.places
        · exact absurd (g.mem.mpr (.inr ⟨rfl, c⟩)) h
        · omega
      exact ⟨l, Nat.le_refl _, g.full v e⟩
end
/-- all lists of so many numbers from -1 to n - 1 -/
def lists : Nat → Nat → List (List Int)
  | 0, _ => [[]]
  | k + 1, n => ((-1 : Int) :: (List.range n).map fun (i : Nat) => (i : Int)).flatMap fun x => (lists k n).map fun l => x :: l
theorem mem_lists {n : Nat} : ∀ {l : List Int}, (∀ x ∈ l, -1 ≤ x ∧ x < n) → l ∈ lists l.length n
  | [], _ => List.mem_singleton.mpr rfl
  | x :: l, h => by
    show _ ∈ lists (l.length + 1) n
    unfold lists
    refine List.mem_flatMap.mpr ⟨x, ?_, List.mem_map.mpr ⟨l, mem_lists fun y hy => h y (List.mem_cons_of_mem _ hy), rfl⟩⟩
    obtain ⟨h1, h2⟩ := h x List.mem_cons_self
    by_cases c : x = -1
    · rw [c]; exact List.mem_cons_self
    · refine List.mem_cons_of_mem _ (List.mem_map.mpr ⟨x.toNat, List.mem_range.mpr (by omega), ?_⟩)
      have : ((x.toNat : Nat) : Int) = x := Int.toNat_of_nonneg (by omega)
      exact this
/-- the rows with one thing at least -/
def rowList (n : Nat) : List (List Int) := (lists n n).filter fun r => (List.range n).any fun l => r.isPerm (target n (l + 1))
theorem rowList_len : (rowList 1).length ≤ 15 ∧ (rowList 2).length ≤ 15 ∧ (rowList 3).length ≤ 15 := by decide +kernel
theorem Reg.row {R : Rule} {l : Nat} {s : Sta} (g : Reg R l s) (h : 1 ≤ l) : s.1 ∈ rowList R.places := by
  refine List.mem_filter.mpr ⟨?_, ?_⟩
  · have q := mem_lists (n := R.places) (l := s.1) fun x hx => by
      have := g.le
      rcases g.mem.mp hx with q | q <;> omega
    rw [g.v.row.len] at q
    exact q
  · rw [List.any_eq_true]
    refine ⟨l - 1, List.mem_range.mpr (by have := g.le; omega), ?_⟩
    rw [List.isPerm_iff]
    have e : l - 1 + 1 = l := by omega
    rw [e]
    exact g.perm

/-! ### two rules with equally many places, their things named alike -/
structure Like (R S : Rule) (l : Nat) (x y a b : Sta) (f : Int → Int) : Prop where
  ga : Reg R l a
  gb : Reg S l b
  fb : f (-1) = -1
  fi : ∀ i j : Int, 0 ≤ i → i < l → 0 ≤ j → j < l → f i = f j → i = j
  fp : ∀ i : Int, 0 ≤ i → i < l → 0 ≤ f i
  ex : x = ren f a
  ey : y = ren f b
section
variable {R S : Rule} {l : Nat} {x y a b : Sta} {f : Int → Int}
theorem Like.mem (L : Like R S l x y a b f) {t : Int} (ht : 0 ≤ t) : (t ∈ x.1 ↔ ∃ i : Nat, i < l ∧ f i = t) ∧ (t ∈ y.1 ↔ ∃ i : Nat, i < l ∧ f i = t) := by
  have k : ∀ {T : Rule} {s : Sta}, Reg T l s → (t ∈ (ren f s).1 ↔ ∃ i : Nat, i < l ∧ f i = t) := fun {T s} g => by
    constructor
    · intro h
      obtain ⟨u, hu, e⟩ := List.mem_map.mp h
      rcases g.mem.mp hu with q | q
      · refine ⟨u.toNat, by omega, ?_⟩
        have : ((u.toNat : Nat) : Int) = u := Int.toNat_of_nonneg q.1
        rw [this]; exact e
      · rw [q.1, L.fb] at e; omega
    · rintro ⟨i, hi, e⟩
      exact List.mem_map.mpr ⟨i, g.mem.mpr (.inl ⟨by omega, by omega⟩), e⟩
  rw [L.ex, L.ey]
  exact ⟨k L.ga, k L.gb⟩
theorem Like.inj (L : Like R S l x y a b f) : InjOn f (-1 :: a.1) ∧ InjOn f (-1 :: b.1) := by
  have k : ∀ {T : Rule} {s : Sta}, Reg T l s → InjOn f (-1 :: s.1) := fun {T s} g u hu v hv e => by
    have w : ∀ z, z ∈ -1 :: s.1 → z = -1 ∨ (0 ≤ z ∧ z < l) := fun z hz => by
      rcases List.mem_cons.mp hz with q | q
      · exact .inl q
      · rcases g.mem.mp q with r | r
        · exact .inr r
        · exact .inl r.1
    rcases w u hu with p | p <;> rcases w v hv with q | q
    · rw [p, q]
    · rw [p, L.fb] at e
      have := L.fp v q.1 q.2
      omega
    · rw [q, L.fb] at e
      have := L.fp u p.1 p.2
      omega
    · exact L.fi u v p.1 p.2 q.1 q.2 e
  exact ⟨k L.ga, k L.gb⟩
theorem Like.within (L : Like R S l x y a b f) : Within (x, y) := by
  intro t ht
  by_cases c : t = -1
  · exact .inl c
  · right
    have t0 : 0 ≤ t := by
      have h : t ∈ (ren f a).1 := by rw [← L.ex]; exact ht
      obtain ⟨u, hu, e⟩ := List.mem_map.mp h
      rcases L.ga.mem.mp hu with q | q
      · rw [← e]; exact L.fp u q.1 q.2
      · rw [q.1, L.fb] at e; exact absurd e.symm c
    exact (L.mem t0).2.mpr ((L.mem t0).1.mp ht)
/-- a thing that both keep -/
theorem Like.hit (v : VRule R) (v' : VRule S) (L : Like R S l x y a b f) {i : Nat} (hi : i < l) : Like R S l (step R x (f i)) (step S y (f i)) (regNx R a (some i)) (regNx S b (some i)) f := by
  have ma : (i : Int) ∈ a.1 := L.ga.mem.mpr (.inl ⟨by omega, by omega⟩)
  have mb : (i : Int) ∈ b.1 := L.gb.mem.mpr (.inl ⟨by omega, by omega⟩)
  have ea : regNx R a (some i) = step R a i := if_pos ma
  have eb : regNx S b (some i) = step S b i := if_pos mb
  obtain ⟨ia, ib⟩ := L.inj
  refine ⟨by rw [ea]; exact L.ga.hit v hi, by rw [eb]; exact L.gb.hit v' hi, L.fb, L.fi, L.fp, ?_, ?_⟩
  · rw [ea, L.ex]
    exact step_ren v L.ga.v L.fb (ia.sub fun z hz => by
      rcases List.mem_cons.mp hz with q | q
      · simp [q]
      · rcases List.mem_cons.mp q with q | q
        · rw [q]; exact List.mem_cons_of_mem _ ma
        · exact List.mem_cons_of_mem _ q)
  · rw [eb, L.ey]
    exact step_ren v' L.gb.v L.fb (ib.sub fun z hz => by
      rcases List.mem_cons.mp hz with q | q
      · simp [q]
      · rcases List.mem_cons.mp q with q | q
        · rw [q]; exact List.mem_cons_of_mem _ mb
        · exact List.mem_cons_of_mem _ q)
theorem ren_congr {f g : Int → Int} {s : Sta} (h : ∀ u ∈ s.1, f u = g u) : ren f s = ren g s := by
  unfold ren
  rw [List.map_congr_left h]
/-- a new thing where places are blank -/
theorem Like.come (v : VRule R) (v' : VRule S) (hp : R.places = S.places) (L : Like R S l x y a b f) (hl : l < R.places) {t : Int} (t0 : 0 ≤ t) (hn : ¬ ∃ i : Nat, i < l ∧ f i = t) :
    ∃ g, Like R S (l + 1) (step R x t) (step S y t) (regNx R a none) (regNx S b none) g := by
  let g : Int → Int := fun u => if u = (l : Nat) then t else f u
  have gl : g (l : Nat) = t := if_pos rfl
  have go : ∀ u : Int, u ≠ (l : Nat) → g u = f u := fun u hu => if_neg hu
  have gb : g (-1) = -1 := by rw [go _ (by omega), L.fb]
  have ea : regNx R a none = step R a (l : Nat) := by
    show (if (-1 : Int) ∈ a.1 then step R a (lv a : Nat) else _) = _
    rw [if_pos (L.ga.mem.mpr (.inr ⟨rfl, hl⟩)), L.ga.lv]
  have eb : regNx S b none = step S b (l : Nat) := by
    show (if (-1 : Int) ∈ b.1 then step S b (lv b : Nat) else _) = _
    rw [if_pos (L.gb.mem.mpr (.inr ⟨rfl, by omega⟩)), L.gb.lv]
  have gi : ∀ i j : Int, 0 ≤ i → i < (l + 1 : Nat) → 0 ≤ j → j < (l + 1 : Nat) → g i = g j → i = j := by
    intro i j i0 i1 j0 j1 e
    by_cases ci : i = (l : Nat) <;> by_cases cj : j = (l : Nat)
    · rw [ci, cj]
    · rw [ci, gl, go j cj] at e
      refine absurd ⟨j.toNat, by omega, ?_⟩ hn
      have : ((j.toNat : Nat) : Int) = j := Int.toNat_of_nonneg j0
      rw [this]; exact e.symm
    · rw [cj, gl, go i ci] at e
      refine absurd ⟨i.toNat, by omega, ?_⟩ hn
      have : ((i.toNat : Nat) : Int) = i := Int.toNat_of_nonneg i0
      rw [this]; exact e
    · rw [go i ci, go j cj] at e
      exact L.fi i j i0 (by omega) j0 (by omega) e
  have gp : ∀ i : Int, 0 ≤ i → i < (l + 1 : Nat) → 0 ≤ g i := fun i i0 i1 => by
    by_cases c : i = (l : Nat)
    · rw [c, gl]; exact t0
    · rw [go i c]; exact L.fp i i0 (by omega)
  have inj : ∀ {T : Rule} {s : Sta}, Reg T l s → InjOn g (-1 :: ((l : Nat) : Int) :: s.1) := fun {T s} q u hu w hw e => by
    have k : ∀ z, z ∈ -1 :: ((l : Nat) : Int) :: s.1 → z = -1 ∨ (0 ≤ z ∧ z < (l + 1 : Nat)) := fun z hz => by
      rcases List.mem_cons.mp hz with r | r
      · exact .inl r
      · rcases List.mem_cons.mp r with r | r
        · right; omega
        · rcases q.mem.mp r with r | r
          · right; omega
          · exact .inl r.1
    rcases k u hu with p | p <;> rcases k w hw with r | r
    · rw [p, r]
    · rw [p, gb] at e
      have := gp w r.1 r.2
      omega
    · rw [r, gb] at e
      have := gp u p.1 p.2
      omega
    · exact gi u w p.1 p.2 r.1 r.2 e
  have same : ∀ {T : Rule} {s : Sta}, Reg T l s → ren f s = ren g s := fun {T s} q => ren_congr fun u hu => by
    rw [go]
    rcases q.mem.mp hu with r | r <;> omega
  refine ⟨g, by rw [ea]; exact L.ga.come v hl, by rw [eb]; exact L.gb.come v' (by omega), gb, gi, gp, ?_, ?_⟩
  · rw [ea, L.ex, same L.ga, ← gl]
    exact step_ren v L.ga.v gb (inj L.ga)
  · rw [eb, L.ey, same L.gb, ← gl]
    exact step_ren v' L.gb.v gb (inj L.gb)
theorem set_ren {f g : Int → Int} {c t : Int} (gc : g c = t) (go : ∀ u, u ≠ c → g u = f u) : ∀ {row : List Int} {p : Nat}, (hp : p < row.length) → row[p] = c → row.count c ≤ 1 → (row.map f).set p t = row.map g
  | [], p, hp, _, _ => by simp at hp
  | u :: row, 0, _, e, n => by
    have e : u = c := e
    subst e
    rw [List.count_cons_self] at n
    have z : ¬ u ∈ row := fun q => by have := List.count_pos_iff.mpr q; omega
    rw [List.map_cons, List.map_cons, List.set_cons_zero, gc]
    congr 1
    exact List.map_congr_left fun w hw => (go w fun q => z (q ▸ hw)).symm
  | u :: row, p + 1, hp, e, n => by
    have e : row[p]'(by simpa using hp) = c := e
    have hu : u ≠ c := fun q => by
      subst q
      rw [List.count_cons_self] at n
      have m : row[p]'(by simpa using hp) ∈ row := List.getElem_mem _
      rw [e] at m
      have := List.count_pos_iff.mpr m
      omega
    rw [List.map_cons, List.map_cons, List.set_cons_succ, go u hu, set_ren gc go (by simpa using hp) e (by rw [List.count_cons_of_ne hu] at n; exact n)]
theorem full_one {T : Rule} {s : Sta} (v : VRule T) (q : Reg T l s) (hl : l = T.places) {c t : Int} (hc : s.1.getD (labOf T s).out 0 = c) {f g : Int → Int} (gc : g c = t) (go : ∀ u, u ≠ c → g u = f u) (hn : ¬ t ∈ (ren f s).1) (hb : ¬ (-1 : Int) ∈ (ren f s).1) :
    step T (ren f s) t = ren g (regNx T s none) ∧ (0 ≤ c ∧ c < l) := by
  have nb : ¬ (-1 : Int) ∈ s.1 := fun z => by rcases q.mem.mp z with r | r <;> omega
  have ep : placeOf T s = (labOf T s).out := if_neg nb
  have lo : (labOf T s).out < s.1.length := by rw [q.v.row.len]; exact (v.lab q.v.lab).out
  have hc' : s.1[(labOf T s).out] = c := by
    rw [List.getD_eq_getElem?_getD, List.getElem?_eq_getElem lo] at hc
    exact hc
  have mc : c ∈ s.1 := by rw [← hc']; exact List.getElem_mem _
  have cb : 0 ≤ c ∧ c < l := by
    rcases q.mem.mp mc with r | r
    · exact r
    · omega
  refine ⟨?_, cb⟩
  have e1 : regNx T s none = (arranged s.1 (comeMove T s).1, (comeMove T s).2) := if_neg nb
  rw [e1, step_miss hn]
  have one : s.1.count c ≤ 1 := q.v.row.one c (by omega)
  have done : placeOf T (ren f s) = (labOf T s).out → (arranged ((ren f s).1.set (placeOf T (ren f s)) t) (comeMove T (ren f s)).1, (comeMove T (ren f s)).2) = ren g (arranged s.1 (comeMove T s).1, (comeMove T s).2) := fun e => by
    have ec : comeMove T (ren f s) = comeMove T s := by
      unfold comeMove
      rw [e, ep]
      rfl
    rw [ec, e]
    show (arranged ((s.1.map f).set (labOf T s).out t) _, _) = _
    rw [set_ren gc go lo hc' one, arranged_map g fun i hi => by rw [q.v.row.len]; exact (comeMove_ok v q.v).lt i hi]
    rfl
  exact done (by
    unfold placeOf
    rw [if_neg hb]
    rfl)
end
end G
-- part GM4b
/-! Plain mathematics, part 4b: equally many places, one place. -/
set_option linter.all false
namespace G
section
variable {R S : Rule} {l : Nat} {x y a b : Sta} {f : Int → Int}
theorem Like.noblank (L : Like R S l x y a b f) : ∀ {T : Rule} {s : Sta}, Reg T l s → l = T.places → ¬ (-1 : Int) ∈ (ren f s).1 := fun {T s} q hl z => by
  obtain ⟨u, hu, e⟩ := List.mem_map.mp z
  rcases q.mem.mp hu with r | r
  · have := L.fp u r.1 r.2
    omega
  · omega
theorem regOt_full {T : Rule} {s : Sta} (q : Reg T l s) (hl : l = T.places) : regOt T s none = some (s.1.getD (labOf T s).out 0) :=
  if_neg fun z => by rcases q.mem.mp z with r | r <;> omega
theorem regOt_blank {T : Rule} {s : Sta} (q : Reg T l s) (hl : l < T.places) : regOt T s none = none :=
  if_pos (q.mem.mpr (.inr ⟨rfl, hl⟩))
/-- a new thing where no place is blank: the same goes, or something parts them -/
theorem Like.full (v : VRule R) (v' : VRule S) (L : Like R S l x y a b f) (hl : l = R.places) (hl' : l = S.places) {t : Int} (t0 : 0 ≤ t) (hn : ¬ ∃ i : Nat, i < l ∧ f i = t) :
    (regOt R a none = regOt S b none → ∃ g, Like R S l (step R x t) (step S y t) (regNx R a none) (regNx S b none) g) ∧
    (regOt R a none ≠ regOt S b none → ¬ Within (step R x t, step S y t)) := by
  have nx : ¬ t ∈ x.1 := fun z => hn ((L.mem t0).1.mp z)
  have ny : ¬ t ∈ y.1 := fun z => hn ((L.mem t0).2.mp z)
  have nbx := L.noblank L.ga hl
  have nby := L.noblank L.gb hl'
  rw [regOt_full L.ga hl, regOt_full L.gb hl']
  generalize hc : a.1.getD (labOf R a).out 0 = c
  generalize hd : b.1.getD (labOf S b).out 0 = d
  let g : Int → Int := fun u => if u = c then t else f u
  have gc : g c = t := if_pos rfl
  have go : ∀ u, u ≠ c → g u = f u := fun u hu => if_neg hu
  obtain ⟨e1, c0, c1⟩ := full_one v L.ga hl hc gc go (by rw [← L.ex]; exact nx) nbx
  constructor
  · intro e
    have e : d = c := (Option.some.inj e).symm
    subst e
    obtain ⟨e2, _⟩ := full_one v' L.gb hl' hd gc go (by rw [← L.ey]; exact ny) nby
    refine ⟨g, ?_, ?_, ?_, ?_, ?_, by rw [L.ex]; exact e1, by rw [L.ey]; exact e2⟩
    · have q : regNx R a none = (arranged a.1 (comeMove R a).1, (comeMove R a).2) := if_neg fun z => by rcases L.ga.mem.mp z with r | r <;> omega
      rw [q]
      exact L.ga.full v hl
    · have q : regNx S b none = (arranged b.1 (comeMove S b).1, (comeMove S b).2) := if_neg fun z => by rcases L.gb.mem.mp z with r | r <;> omega
      rw [q]
      exact L.gb.full v' hl'
    · rw [go _ (by omega)]; exact L.fb
    · intro i j i0 i1 j0 j1 e
      by_cases ci : i = d <;> by_cases cj : j = d
      · rw [ci, cj]
      · rw [ci, gc, go j cj] at e
        refine absurd ⟨j.toNat, by omega, ?_⟩ hn
        have : ((j.toNat : Nat) : Int) = j := Int.toNat_of_nonneg j0
        rw [this]; exact e.symm
      · rw [cj, gc, go i ci] at e
        refine absurd ⟨i.toNat, by omega, ?_⟩ hn
        have : ((i.toNat : Nat) : Int) = i := Int.toNat_of_nonneg i0
        rw [this]; exact e
      · rw [go i ci, go j cj] at e
        exact L.fi i j i0 i1 j0 j1 e
    · intro i i0 i1
      by_cases ci : i = d
      · rw [ci, gc]; exact t0
      · rw [go i ci]; exact L.fp i i0 i1
  · intro hne hw
    have hdc : d ≠ c := fun e => hne (by rw [e])
    let h : Int → Int := fun u => if u = d then t else f u
    have hd' : h d = t := if_pos rfl
    have ho : ∀ u, u ≠ d → h u = f u := fun u hu => if_neg hu
    obtain ⟨e2, d0, d1⟩ := full_one v' L.gb hl' hd hd' ho (by rw [← L.ey]; exact ny) nby
    rw [L.ex, L.ey, e1, e2] at hw
    -- f d is kept by the first alone
    have rx : (regNx R a none).1.Perm a.1 := by
      have q : regNx R a none = (arranged a.1 (comeMove R a).1, (comeMove R a).2) := if_neg fun z => by rcases L.ga.mem.mp z with r | r <;> omega
      rw [q]
      exact (L.ga.full v hl).perm.trans L.ga.perm.symm
    have ry : (regNx S b none).1.Perm b.1 := by
      have q : regNx S b none = (arranged b.1 (comeMove S b).1, (comeMove S b).2) := if_neg fun z => by rcases L.gb.mem.mp z with r | r <;> omega
      rw [q]
      exact (L.gb.full v' hl').perm.trans L.gb.perm.symm
    have md : d ∈ (regNx R a none).1 := rx.mem_iff.mpr (L.ga.mem.mpr (.inl ⟨d0, d1⟩))
    have fd0 := L.fp d d0 d1
    rcases hw (g d) (List.mem_map.mpr ⟨d, md, rfl⟩) with q | q
    · rw [go d hdc] at q; omega
    · obtain ⟨u, hu, e⟩ := List.mem_map.mp q
      rw [go d hdc] at e
      by_cases cu : u = d
      · rw [cu, hd'] at e
        refine hn ⟨d.toNat, by omega, ?_⟩
        have : ((d.toNat : Nat) : Int) = d := Int.toNat_of_nonneg d0
        rw [this]; exact e.symm
      · rw [ho u cu] at e
        rcases L.gb.mem.mp (ry.mem_iff.mp hu) with r | r
        · exact cu (L.fi u d r.1 r.2 d0 d1 e)
        · omega
theorem fresh_thing (f : Int → Int) : ∀ l : Nat, ∃ t : Int, 0 ≤ t ∧ ∀ i : Nat, i < l → f i < t
  | 0 => ⟨0, Int.le_refl _, fun i h => absurd h (Nat.not_lt_zero _)⟩
  | l + 1 => by
    obtain ⟨t, h0, h1⟩ := fresh_thing f l
    refine ⟨max t (f (l : Nat) + 1), by omega, fun i hi => ?_⟩
    by_cases e : i = l
    · rw [e]; omega
    · have := h1 i (by omega)
      omega
/-- both machines as one -/
def nxM (R S : Rule) (u : Bool × Sta) (c : Option Nat) : Bool × Sta := (u.1, if u.1 = true then regNx S u.2 c else regNx R u.2 c)
def otM (R S : Rule) (u : Bool × Sta) (c : Option Nat) : Option Int := if u.1 = true then regOt S u.2 c else regOt R u.2 c
theorem nx_f (R S : Rule) (a : Sta) (c : Option Nat) : nxM R S (false, a) c = (false, regNx R a c) := rfl
theorem nx_t (R S : Rule) (b : Sta) (c : Option Nat) : nxM R S (true, b) c = (true, regNx S b c) := rfl
theorem noop {T : Rule} {s : Sta} (q : Reg T l s) {i : Nat} (h : ¬ i < l) : regNx T s (some i) = s :=
  if_neg fun z => by rcases q.mem.mp z with r | r <;> omega
theorem like_apart (v : VRule R) (v' : VRule S) (hp : R.places = S.places) : ∀ (w : List (Option Nat)) (l : Nat) (x y a b : Sta) (f : Int → Int), Like R S l x y a b f → outs (nxM R S) (otM R S) (false, a) w ≠ outs (nxM R S) (otM R S) (true, b) w →
    ∃ ts : List Int, ts.length ≤ w.length ∧ (∀ t ∈ ts, 0 ≤ t) ∧ ¬ Within (pairTo R S (x, y) ts)
  | [], _, _, _, _, _, _, _, h => absurd rfl h
  | c :: w, l, x, y, a, b, f, L, h => by
    have h : regOt R a c :: outs (nxM R S) (otM R S) (false, regNx R a c) w ≠ regOt S b c :: outs (nxM R S) (otM R S) (true, regNx S b c) w := h
    cases c with
    | some i =>
      have h' : outs (nxM R S) (otM R S) (false, regNx R a (some i)) w ≠ outs (nxM R S) (otM R S) (true, regNx S b (some i)) w := fun e => h (by rw [e]; rfl)
      by_cases hi : i < l
      · obtain ⟨ts, h1, h2, h3⟩ := like_apart v v' hp w l _ _ _ _ f (L.hit v v' hi) h'
        refine ⟨f i :: ts, by simp; exact h1, fun t ht => ?_, h3⟩
        rcases List.mem_cons.mp ht with e | e
        · rw [e]; exact L.fp i (by omega) (by omega)
        · exact h2 t e
      · rw [noop L.ga hi, noop L.gb hi] at h'
        obtain ⟨ts, h1, h2, h3⟩ := like_apart v v' hp w l _ _ _ _ f L h'
        exact ⟨ts, by simp; omega, h2, h3⟩
    | none =>
      obtain ⟨t, t0, t1⟩ := fresh_thing f l
      have hn : ¬ ∃ i : Nat, i < l ∧ f i = t := fun ⟨i, hi, e⟩ => by
        have := t1 i hi
        omega
      have cons : ∀ {g : Int → Int} {l' : Nat}, Like R S l' (step R x t) (step S y t) (regNx R a none) (regNx S b none) g → outs (nxM R S) (otM R S) (false, regNx R a none) w ≠ outs (nxM R S) (otM R S) (true, regNx S b none) w →
          ∃ ts : List Int, ts.length ≤ w.length + 1 ∧ (∀ t ∈ ts, 0 ≤ t) ∧ ¬ Within (pairTo R S (x, y) ts) := fun {g l'} L' h' => by
        obtain ⟨ts, h1, h2, h3⟩ := like_apart v v' hp w l' _ _ _ _ g L' h'
        refine ⟨t :: ts, by simp; exact h1, fun u hu => ?_, h3⟩
        rcases List.mem_cons.mp hu with e | e
        · rw [e]; exact t0
        · exact h2 u e
      have hle := L.ga.le
      by_cases hl : l < R.places
      · obtain ⟨g, L'⟩ := L.come v v' hp hl t0 hn
        refine cons L' fun e => h ?_
        rw [e, regOt_blank L.ga hl, regOt_blank L.gb (by omega)]
      · obtain ⟨f1, f2⟩ := L.full v v' (by omega) (by omega) t0 hn
        by_cases e : regOt R a none = regOt S b none
        · obtain ⟨g, L'⟩ := f1 e
          exact cons L' fun e2 => h (by rw [e2, e])
        · refine ⟨[t], by simp, fun u hu => ?_, f2 e⟩
          have : u = t := by simpa using hu
          rw [this]; exact t0
theorem like_nest (v : VRule R) (v' : VRule S) (hp : R.places = S.places) : ∀ (ts : List Int) (l : Nat) (x y a b : Sta) (f : Int → Int), Like R S l x y a b f → (∀ w, outs (nxM R S) (otM R S) (false, a) w = outs (nxM R S) (otM R S) (true, b) w) → (∀ t ∈ ts, 0 ≤ t) →
    Within (pairTo R S (x, y) ts)
  | [], _, _, _, _, _, _, L, _, _ => L.within
  | t :: ts, l, x, y, a, b, f, L, h, ht => by
    have t0 := ht t List.mem_cons_self
    have ht' : ∀ u ∈ ts, 0 ≤ u := fun u hu => ht u (List.mem_cons_of_mem _ hu)
    have tl : ∀ c w, outs (nxM R S) (otM R S) (false, regNx R a c) w = outs (nxM R S) (otM R S) (true, regNx S b c) w := fun c w => (List.cons.inj (h (c :: w))).2
    have o1 : ∀ c, regOt R a c = regOt S b c := fun c => (List.cons.inj (h [c])).1
    show Within (pairTo R S (step R x t, step S y t) ts)
    by_cases m : ∃ i : Nat, i < l ∧ f i = t
    · obtain ⟨i, hi, e⟩ := m
      rw [← e]
      exact like_nest v v' hp ts l _ _ _ _ f (L.hit v v' hi) (tl _) ht'
    · have hle := L.ga.le
      by_cases hl : l < R.places
      · obtain ⟨g, L'⟩ := L.come v v' hp hl t0 m
        exact like_nest v v' hp ts _ _ _ _ _ g L' (tl _) ht'
      · obtain ⟨g, L'⟩ := (L.full v v' (by omega) (by omega) t0 m).1 (o1 _)
        exact like_nest v v' hp ts _ _ _ _ _ g L' (tl _) ht'
end
def states (R S : Rule) : List (Bool × Sta) :=
  ((rowList R.places).flatMap fun r => (List.range R.labs.length).map fun j => (false, (r, j))) ++ (rowList S.places).flatMap fun r => (List.range S.labs.length).map fun j => (true, (r, j))
theorem length_flat {α β : Type} (f : α → List β) (k : Nat) (hf : ∀ x, (f x).length ≤ k) : ∀ L : List α, (L.flatMap f).length ≤ k * L.length
  | [] => by simp
  | x :: L => by
    rw [List.flatMap_cons, List.length_append, List.length_cons, Nat.mul_succ]
    have := length_flat f k hf L
    have := hf x
    omega
theorem states_len {R S : Rule} (r : Small R) (s : Small S) : (states R S).length ≤ 60 := by
  have k : ∀ n, 1 ≤ n → n ≤ 3 → (rowList n).length ≤ 15 := fun n h1 h2 => by
    obtain ⟨a, b, c⟩ := rowList_len
    rcases (by omega : n = 1 ∨ n = 2 ∨ n = 3) with e | e | e <;> subst e <;> assumption
  unfold states
  rw [List.length_append]
  have h1 := length_flat (fun x : List Int => (List.range R.labs.length).map fun j => (false, (x, j))) 2 (fun x => by simp; exact r.l2) (rowList R.places)
  have h2 := length_flat (fun x : List Int => (List.range S.labs.length).map fun j => (true, (x, j))) 2 (fun x => by simp; exact s.l2) (rowList S.places)
  have h3 := k R.places r.v.pos r.p3
  have h4 := k S.places s.v.pos s.p3
  omega
theorem reg_of_row {R : Rule} {s : Sta} (h : s.1 ∈ rowList R.places) (hl : s.2 < R.labs.length) : ∃ l, 1 ≤ l ∧ Reg R l s := by
  obtain ⟨_, h2⟩ := List.mem_filter.mp h
  obtain ⟨l, hl2, hp⟩ := List.any_eq_true.mp h2
  exact ⟨l + 1, by omega, by have := List.mem_range.mp hl2; omega, List.isPerm_iff.mp hp, hl⟩
theorem mem_states_f {R S : Rule} {s : Sta} {l : Nat} (g : Reg R l s) (h : 1 ≤ l) : (false, s) ∈ states R S :=
  List.mem_append_left _ (List.mem_flatMap.mpr ⟨s.1, g.row h, List.mem_map.mpr ⟨s.2, List.mem_range.mpr g.lab, rfl⟩⟩)
theorem mem_states_t {R S : Rule} {s : Sta} {l : Nat} (g : Reg S l s) (h : 1 ≤ l) : (true, s) ∈ states R S :=
  List.mem_append_right _ (List.mem_flatMap.mpr ⟨s.1, g.row h, List.mem_map.mpr ⟨s.2, List.mem_range.mpr g.lab, rfl⟩⟩)
theorem states_closed {R S : Rule} (v : VRule R) (v' : VRule S) : ∀ u ∈ states R S, ∀ c, nxM R S u c ∈ states R S := by
  intro u hu c
  rcases List.mem_append.mp hu with h | h
  · obtain ⟨r, hr, h⟩ := List.mem_flatMap.mp h
    obtain ⟨j, hj, e⟩ := List.mem_map.mp h
    subst e
    obtain ⟨l, l1, g⟩ := reg_of_row (R := R) (s := (r, j)) hr (List.mem_range.mp hj)
    obtain ⟨l', l2, g'⟩ := g.nx v c
    exact mem_states_f g' (by omega)
  · obtain ⟨r, hr, h⟩ := List.mem_flatMap.mp h
    obtain ⟨j, hj, e⟩ := List.mem_map.mp h
    subst e
    obtain ⟨l, l1, g⟩ := reg_of_row (R := S) (s := (r, j)) hr (List.mem_range.mp hj)
    obtain ⟨l', l2, g'⟩ := g.nx v' c
    exact mem_states_t g' (by omega)
theorem within_start (R S : Rule) : Within (first R, first S) := fun t ht => .inl (List.eq_of_mem_replicate ht)
/-- equally many places: where they are apart, sixty requests tell it -/
theorem apart_equal {R S : Rule} (r : Small R) (s : Small S) (hp : R.places = S.places) (h : ¬ Nest R S) : ∃ ts : List Int, ts.length ≤ 60 ∧ (∀ t ∈ ts, 0 ≤ t) ∧ ¬ Within (run R ts, run S ts) := by
  have L0 : Like R S 0 (first R) (first S) (first R) (first S) id :=
    ⟨Reg.first r.v, Reg.first s.v, rfl, fun i j h1 h2 => by omega, fun i h1 h2 => by omega, by simp [ren], by simp [ren]⟩
  have L1 : ∀ t : Int, 0 ≤ t → ∃ g, Like R S 1 (step R (first R) t) (step S (first S) t) (regNx R (first R) none) (regNx S (first S) none) g := fun t t0 =>
    L0.come r.v s.v hp r.v.pos t0 fun ⟨i, hi, _⟩ => absurd hi (Nat.not_lt_zero _)
  by_cases c : ∀ w, outs (nxM R S) (otM R S) (false, regNx R (first R) none) w = outs (nxM R S) (otM R S) (true, regNx S (first S) none) w
  · refine absurd (fun ts hts => ?_) h
    cases ts with
    | nil => exact within_start R S
    | cons t ts =>
      obtain ⟨g, L⟩ := L1 t (hts t List.mem_cons_self)
      exact like_nest r.v s.v hp ts 1 _ _ _ _ g L c fun u hu => hts u (List.mem_cons_of_mem _ hu)
  · obtain ⟨w, hw⟩ := Classical.not_forall.mp c
    obtain ⟨g, L⟩ := L1 0 (Int.le_refl _)
    obtain ⟨w', h1, h2⟩ := short_word (nxM R S) (otM R S) (states_closed r.v s.v) (mem_states_f L.ga (Nat.le_refl _)) (mem_states_t L.gb (Nat.le_refl _)) hw
    obtain ⟨ts, h3, h4, h5⟩ := like_apart r.v s.v hp w' 1 _ _ _ _ g L h2
    have := states_len r s
    refine ⟨0 :: ts, by simp; omega, fun t ht => ?_, h5⟩
    rcases List.mem_cons.mp ht with e | e
    · omega
    · exact h4 t e
/-- one place: always nested -/
theorem nest_one {R S : Rule} (v : VRule R) (v' : VRule S) (hp : R.places = 1) : Nest R S := by
  intro ts hts
  rcases List.eq_nil_or_concat ts with e | ⟨u, t, e⟩
  · subst e
    exact within_start R S
  · rw [List.concat_eq_append] at e
    subst e
    have hu : ∀ x ∈ u, -1 ≤ x := fun x hx => by
      have := hts x (List.mem_append_left _ hx)
      omega
    have w1 : VSta R (run R u) := VSta.run v u _ (VSta.first v) hu
    have w2 : VSta S (run S u) := VSta.run v' u _ (VSta.first v') hu
    have e1 : run R (u ++ [t]) = step R (run R u) t := by unfold run; rw [List.foldl_append]; rfl
    have e2 : run S (u ++ [t]) = step S (run S u) t := by unfold run; rw [List.foldl_append]; rfl
    rw [e1, e2]
    intro z hz
    right
    have t0 := hts t (List.mem_append_right _ (by simp))
    have l1 : (step R (run R u) t).1.length = 1 := by rw [(w1.step v (by omega)).row.len, hp]
    have m := mem_step_self v w1 (t := t)
    obtain ⟨c, hc⟩ : ∃ c, (step R (run R u) t).1 = [c] := List.length_eq_one_iff.mp l1
    rw [hc] at m
    have hz : z ∈ (step R (run R u) t).1 := hz
    rw [hc] at hz
    have ez : z = t := by
      have h1 : t = c := by simpa using m
      have h2 : z = c := by simpa using hz
      rw [h1, h2]
    rw [ez]
    exact mem_step_self v' w2
end G
-- part GM5
/-! Plain mathematics, part 5: two places beside three: a short way to a difference. -/
set_option linter.all false
namespace G
/-! ### two sequences that turn -/
section
variable {α β : Type} [DecidableEq α] [DecidableEq β]
def prodL (A : List α) (B : List β) : List (α × β) := A.flatMap fun x => B.map fun y => (x, y)
theorem mem_prodL {A : List α} {B : List β} {x : α} {y : β} (hx : x ∈ A) (hy : y ∈ B) : (x, y) ∈ prodL A B := List.mem_flatMap.mpr ⟨x, hx, List.mem_map.mpr ⟨y, hy, rfl⟩⟩
theorem length_prodL (A : List α) (B : List β) : (prodL A B).length = A.length * B.length := by
  induction A with
  | nil => simp [prodL]
  | cons x A ih =>
    unfold prodL at ih ⊢
    rw [List.flatMap_cons, List.length_append, ih, List.length_map, List.length_cons, Nat.succ_mul]
    omega
theorem nodup_map_range {γ : Type} (h : Nat → γ) (a n : Nat) (hd : ∀ i j, i < j → j < n → h (a + i) ≠ h (a + j)) : ((List.range n).map fun i => h (a + i)).Nodup := by
  induction n with
  | zero => simp
  | succ n ih =>
    rw [List.range_succ, List.map_append]
    refine List.nodup_append.mpr ⟨ih fun i j h1 h2 => hd i j h1 (by omega), by simp, fun x hx y hy e => ?_⟩
    obtain ⟨i, hi, e1⟩ := List.mem_map.mp hx
    have e2 : y = h (a + n) := by simpa using hy
    rw [← e1, e2] at e
    exact hd i n (List.mem_range.mp hi) (by omega) e
variable {u : Nat → α} {f : α → α} {A : List α}
theorem shift (hu : ∀ t, u (t + 1) = f (u t)) {i j : Nat} (e : u i = u j) : ∀ d, u (i + d) = u (j + d)
  | 0 => e
  | d + 1 => by
    have q := shift hu e d
    show u (i + d + 1) = u (j + d + 1)
    rw [hu, hu, q]
theorem returns (hu : ∀ t, u (t + 1) = f (u t)) (mu : ∀ t, u t ∈ A) : (∃ s, 1 ≤ s ∧ s ≤ A.length ∧ u s = u 0 ∧ ∀ i j, i < j → j < s → u i ≠ u j) ∨ ∀ t, 1 ≤ t → u t ≠ u 0 := by
  by_cases c : ∃ t, 1 ≤ t ∧ u t = u 0
  · left
    obtain ⟨t, t1, e⟩ := c
    have least : ∀ n, (∃ t, t ≤ n ∧ 1 ≤ t ∧ u t = u 0) → ∃ s, 1 ≤ s ∧ u s = u 0 ∧ ∀ k, 1 ≤ k → k < s → u k ≠ u 0 := by
      intro n
      induction n with
      | zero => rintro ⟨t, h1, h2, _⟩; omega
      | succ n ih =>
        rintro ⟨t, h1, h2, h3⟩
        by_cases d : ∃ t, t ≤ n ∧ 1 ≤ t ∧ u t = u 0
        · exact ih d
        · exact ⟨t, h2, h3, fun k k1 k2 e => d ⟨k, by omega, k1, e⟩⟩
    obtain ⟨s, s1, s2, s3⟩ := least t ⟨t, Nat.le_refl _, t1, e⟩
    have dis : ∀ i j, i < j → j < s → u i ≠ u j := fun i j hij hj e => by
      have q := shift hu e (s - j)
      have e1 : j + (s - j) = s := by omega
      rw [e1, s2] at q
      exact s3 (i + (s - j)) (by omega) (by omega) q
    refine ⟨s, s1, ?_, s2, dis⟩
    have nd := nodup_map_range u 0 s fun i j h1 h2 => by
      rw [Nat.zero_add, Nat.zero_add]
      exact dis i j h1 h2
    have := nodup_length_le _ A nd fun x hx => by
      obtain ⟨i, _, e⟩ := List.mem_map.mp hx
      rw [← e]
      exact mu _
    simpa using this
  · exact .inr fun t t1 e => c ⟨t, t1, e⟩
theorem turns_mul (hu : ∀ t, u (t + 1) = f (u t)) {s : Nat} (e : u s = u 0) : ∀ k, u (k * s) = u 0
  | 0 => by rw [Nat.zero_mul]
  | k + 1 => by
    have q := shift hu e (k * s)
    rw [Nat.zero_add, turns_mul hu e k] at q
    have e2 : (k + 1) * s = s + k * s := by rw [Nat.succ_mul]; omega
    rw [e2, q]
variable {v : Nat → β} {g : β → β} {B : List β}
theorem fit {A' : List α} {B' : List β} {a n : Nat} (hd : ∀ i j, i < j → j < n → ¬ (u (a + i) = u (a + j) ∧ v (a + i) = v (a + j))) (mu : ∀ i, i < n → u (a + i) ∈ A') (mv : ∀ i, i < n → v (a + i) ∈ B') : n ≤ A'.length * B'.length := by
  have nd := nodup_map_range (fun t => (u t, v t)) a n fun i j h1 h2 e => hd i j h1 h2 ⟨congrArg Prod.fst e, congrArg Prod.snd e⟩
  have q := nodup_length_le _ (prodL A' B') nd fun x hx => by
    obtain ⟨i, hi, e⟩ := List.mem_map.mp hx
    rw [← e]
    exact mem_prodL (mu i (List.mem_range.mp hi)) (mv i (List.mem_range.mp hi))
  rw [length_prodL] at q
  simpa using q
structure Two (u : Nat → α) (v : Nat → β) (f : α → α) (g : β → β) (A : List α) (B : List β) (T : Nat) : Prop where
  hu : ∀ t, u (t + 1) = f (u t)
  hv : ∀ t, v (t + 1) = g (v t)
  mu : ∀ t, u t ∈ A
  mv : ∀ t, v t ∈ B
  la : A.length = 4
  lb : B.length = 6
  dis : ∀ i j, i < j → j ≤ T → ¬ (u i = u j ∧ v i = v j)
theorem Two.four {T : Nat} (W : Two u v f g A B T) (hT : 20 ≤ T) : u 4 = u 0 ∧ ∀ i j, i < j → j < 4 → u i ≠ u j := by
  rcases returns W.hu W.mu with ⟨s, s1, s2, s3, s4⟩ | h
  · rw [W.la] at s2
    by_cases c : s = 4
    · subst c
      exact ⟨s3, s4⟩
    · exfalso
      have all : ∀ t, ∃ i, i < s ∧ u t = u i := fun t => by
        induction t with
        | zero => exact ⟨0, by omega, rfl⟩
        | succ t ih =>
          obtain ⟨i, hi, e⟩ := ih
          by_cases d : i + 1 < s
          · exact ⟨i + 1, d, by rw [W.hu, W.hu, e]⟩
          · refine ⟨0, by omega, ?_⟩
            have : i + 1 = s := by omega
            rw [W.hu, e, ← W.hu, this, s3]
      have q := fit (u := u) (v := v) (a := 0) (n := 19) (A' := (List.range s).map u) (B' := B) (fun i j h1 h2 => W.dis _ _ (by omega) (by omega)) (fun i _ => by
        obtain ⟨k, hk, e⟩ := all (0 + i)
        rw [e]
        exact List.mem_map.mpr ⟨k, List.mem_range.mpr hk, rfl⟩) (fun i _ => W.mv _)
      rw [List.length_map, List.length_range, W.lb] at q
      have : s ≤ 3 := by omega
      omega
  · exfalso
    have q := fit (u := u) (v := v) (a := 1) (n := 20) (A' := A.erase (u 0)) (B' := B) (fun i j h1 h2 => W.dis _ _ (by omega) (by omega)) (fun i _ => (List.mem_erase_of_ne (h _ (by omega))).mpr (W.mu _)) (fun i _ => W.mv _)
    rw [List.length_erase_of_mem (W.mu 0), W.la, W.lb] at q
    omega
theorem Two.cycle {T : Nat} (W : Two u v f g A B T) (hT : 20 ≤ T) : ∀ x ∈ A, x ≠ f x ∧ x ≠ f (f x) ∧ f x ≠ f (f x) := by
  obtain ⟨h4, dis⟩ := W.four hT
  intro x hx
  have nd := nodup_map_range u 0 4 fun i j h1 h2 => by
    rw [Nat.zero_add, Nat.zero_add]
    exact dis i j h1 h2
  have mem : ∃ i, i < 4 ∧ u i = x := by
    refine Classical.byContradiction fun n => ?_
    have q := nodup_length_le (x :: (List.range 4).map fun i => u (0 + i)) A (List.nodup_cons.mpr ⟨fun m => by
      obtain ⟨i, hi, e⟩ := List.mem_map.mp m
      rw [Nat.zero_add] at e
      exact n ⟨i, List.mem_range.mp hi, e⟩, nd⟩) fun y hy => by
        rcases List.mem_cons.mp hy with e | e
        · rw [e]; exact hx
        · obtain ⟨i, _, e⟩ := List.mem_map.mp e
          rw [← e]; exact W.mu _
    rw [W.la] at q
    simp at q
  obtain ⟨i, hi, e⟩ := mem
  subst e
  have back : ∀ a b, a < b → b < 4 → u (i + a) ≠ u (i + b) := fun a b hab hb e => by
    have q := shift W.hu e (4 - i)
    have e1 : i + a + (4 - i) = 4 + a := by omega
    have e2 : i + b + (4 - i) = 4 + b := by omega
    rw [e1, e2, shift W.hu h4 a, shift W.hu h4 b, Nat.zero_add, Nat.zero_add] at q
    exact dis a b hab hb q
  have e1 : f (u i) = u (i + 1) := (W.hu i).symm
  have e2 : f (f (u i)) = u (i + 2) := by rw [e1]; exact (W.hu (i + 1)).symm
  rw [e2, e1]
  exact ⟨back 0 1 (by omega) (by omega), back 0 2 (by omega) (by omega), back 1 2 (by omega) (by omega)⟩
theorem Two.no {T : Nat} (W : Two u v f g A B T) (hT : 22 ≤ T) : False := by
  obtain ⟨h4, _⟩ := W.four (by omega)
  rcases returns W.hv W.mv with ⟨s, s1, s2, s3, _⟩ | h
  · rw [W.lb] at s2
    have hit : ∀ k m, k * 4 = m * s → 1 ≤ m * s → m * s ≤ 22 → False := fun k m e h1 h2 => by
      have a := turns_mul W.hu h4 k
      have b := turns_mul W.hv s3 m
      rw [e] at a
      exact W.dis 0 (m * s) (by omega) (by omega) ⟨a.symm, b.symm⟩
    rcases (by omega : s = 1 ∨ s = 2 ∨ s = 3 ∨ s = 4 ∨ s = 5 ∨ s = 6) with e | e | e | e | e | e
    · subst e; exact hit 1 4 (by omega) (by omega) (by omega)
    · subst e; exact hit 1 2 (by omega) (by omega) (by omega)
    · subst e; exact hit 3 4 (by omega) (by omega) (by omega)
    · subst e; exact hit 1 1 (by omega) (by omega) (by omega)
    · subst e; exact hit 5 4 (by omega) (by omega) (by omega)
    · subst e; exact hit 3 2 (by omega) (by omega) (by omega)
  · have q := fit (u := u) (v := v) (a := 1) (n := 22) (A' := A) (B' := B.erase (v 0)) (fun i j h1 h2 => W.dis _ _ (by omega) (by omega)) (fun i _ => W.mu _) (fun i _ => (List.mem_erase_of_ne (h _ (by omega))).mpr (W.mv _))
    rw [List.length_erase_of_mem (W.mv 0), W.la, W.lb] at q
    omega
end

/-! ### levels: how many places are blank -/
def lev (i j : Nat) : List Arr := (allArr 2 3).filter fun a => decide (Within a) && a.1.1.count (-1) == i && a.2.1.count (-1) == j
theorem lev_len : (lev 1 2).length = 24 ∧ (lev 0 1).length = 24 ∧ (lev 0 0).length = 24 := by decide +kernel
theorem lev12 : ∀ a ∈ lev 1 2, (0 : Int) ∈ a.1.1 ∧ (0 : Int) ∈ a.2.1 ∧ ¬ (1 : Int) ∈ a.1.1 ∧ ¬ (1 : Int) ∈ a.2.1 ∧ hm a = 1 ∧ (-1 : Int) ∈ a.2.1 := by decide +kernel
theorem lev01 : ∀ a ∈ lev 0 1, a.1.1 = [0, 1] ∧ (0 : Int) ∈ a.2.1 ∧ (1 : Int) ∈ a.2.1 ∧ ¬ (2 : Int) ∈ a.2.1 ∧ hm a = 2 ∧ (-1 : Int) ∈ a.2.1 := by decide +kernel
theorem lev00 : ∀ a ∈ lev 0 0, a.1.1 = [0, 1] ∧ (0 : Int) ∈ a.2.1 ∧ (1 : Int) ∈ a.2.1 ∧ (2 : Int) ∈ a.2.1 ∧ ¬ (3 : Int) ∈ a.2.1 ∧ hm a = 3 := by decide +kernel
abbrev code (a : Arr) : (Nat × Nat) × (Nat × Nat) := ((a.1.1.idxOf 0, a.1.2), (a.2.1.idxOf 0, a.2.2))
def A1 : List (Nat × Nat) := [(0, 0), (1, 0), (0, 1), (1, 1)]
def B1 : List (Nat × Nat) := [(0, 0), (1, 0), (2, 0), (0, 1), (1, 1), (2, 1)]
theorem lev12_code : (∀ a ∈ lev 1 2, (code a).1 ∈ A1 ∧ (code a).2 ∈ B1) ∧ ∀ a ∈ lev 1 2, ∀ b ∈ lev 1 2, code a = code b → a = b := by decide +kernel
/-- so many of level three are left by a new thing without harm -/
def nb (p0 p1 q0 q1 : Nat) (a : Arr) : Bool := decide (a.2.1.idxOf (a.1.1.getD (1 - if a.1.2 = 0 then p0 else p1) 0) ≠ if a.2.2 = 0 then q0 else q1)
theorem nb_len : ∀ p0 ∈ [0, 1], ∀ p1 ∈ [0, 1], ∀ q0 ∈ [0, 1, 2], ∀ q1 ∈ [0, 1, 2], ((lev 0 0).filter (nb p0 p1 q0 q1)).length ≤ 16 := by decide +kernel

section
variable {R S : Rule}
structure At (R S : Rule) (i j : Nat) (a : Arr) : Prop where
  v : VArr R S a
  c : named a = a
  w : Within a
  bi : a.1.1.count (-1) = i
  bj : a.2.1.count (-1) = j
variable {i j : Nat} {a : Arr}
theorem At.mem (r : Small R) (s : Small S) (h2 : R.places = 2) (h3 : S.places = 3) (x : At R S i j a) : a ∈ lev i j := by
  have m := mem_all r s x.v x.c
  rw [h2, h3] at m
  refine List.mem_filter.mpr ⟨m, ?_⟩
  simp [x.w, x.bi, x.bj]
theorem count_num (l : List Int) (s : Sta) : (ren (num l) s).1.count (-1) = s.1.count (-1) := by
  show (s.1.map (num l)).count (-1) = _
  rw [List.count_eq_countP, List.countP_map, List.count_eq_countP]
  refine List.countP_congr fun x _ => ?_
  have : num l x = -1 ↔ x = -1 := by
    unfold num
    split <;> simp_all
  simp [this]
theorem count_step {s : Sta} {t : Int} (v : VRule R) (w : VSta R s) (t0 : 0 ≤ t) : (step R s t).1.count (-1) = if t ∈ s.1 then s.1.count (-1) else s.1.count (-1) - 1 := by
  by_cases h : t ∈ s.1
  · rw [if_pos h, (hit_perm v w h).count_eq]
  · rw [if_neg h, (miss_perm v w h).count_eq]
    have hp := placeOf_lt v w
    have q := count_set hp t (-1)
    rw [if_neg (show ¬ t = -1 by omega)] at q
    by_cases c : (-1 : Int) ∈ s.1
    · have ep : s.1[placeOf R s] = -1 := by
        unfold placeOf
        simp only [if_pos c]
        exact List.getElem_idxOf _
      rw [if_pos ep] at q
      omega
    · have ep : ¬ s.1[placeOf R s] = -1 := fun e => c (by rw [← e]; exact List.getElem_mem _)
      rw [if_neg ep] at q
      have z := List.count_eq_zero.mpr c
      omega
theorem keep_step {s : Sta} {t z : Int} (v : VRule R) (w : VSta R s) (hz : z ∈ s.1) (z1 : z ≠ -1) (h : t ∈ s.1 ∨ (-1 : Int) ∈ s.1) : z ∈ (step R s t).1 := by
  by_cases c : t ∈ s.1
  · exact (hit_perm v w c).mem_iff.mpr hz
  · have hb := h.resolve_left c
    refine (miss_perm v w c).mem_iff.mpr ?_
    have hp := placeOf_lt v w
    have ep : s.1[placeOf R s] = -1 := by
      unfold placeOf
      simp only [if_pos hb]
      exact List.getElem_idxOf _
    have q := count_set hp t z
    rw [ep, if_neg (show ¬ (-1 : Int) = z from fun e => z1 e.symm)] at q
    have : 0 < s.1.count z := List.count_pos_iff.mpr hz
    exact List.count_pos_iff.mp (by omega)
theorem within_step {t : Int} (v : VRule R) (v' : VRule S) (w : VArr R S a) (h : Within a) (hk : t ∈ a.2.1 ∨ (-1 : Int) ∈ a.2.1) : Within (step R a.1 t, step S a.2 t) := by
  intro z hz
  by_cases z1 : z = -1
  · exact .inl z1
  · right
    rcases mem_step v w.fst hz with e | e
    · rw [e]; exact mem_step_self v' w.snd
    · rcases h z e with q | q
      · exact absurd q z1
      · exact keep_step v' w.snd q z1 hk
theorem At.move (v : VRule R) (v' : VRule S) (x : At R S i j a) {n : Nat} (hw : Within (moved R S a n)) :
    At R S (if (n : Int) ∈ a.1.1 then i else i - 1) (if (n : Int) ∈ a.2.1 then j else j - 1) (moved R S a n) := by
  refine ⟨x.v.moved v v' n, moved_canon R S a n, hw, ?_, ?_⟩
  · show (ren _ _).1.count (-1) = _
    rw [count_num, count_step v x.v.fst (by omega), x.bi]
  · show (ren _ _).1.count (-1) = _
    rw [count_num, count_step v' x.v.snd (by omega), x.bj]
theorem At.keeps (v : VRule R) (v' : VRule S) (x : At R S i j a) {n : Nat} (hk : (n : Int) ∈ a.2.1 ∨ (-1 : Int) ∈ a.2.1) : Within (moved R S a n) :=
  (within_named _).mpr (within_step v v' x.v x.w hk)

/-! ### how far it is to a difference -/
def Dl (R S : Rule) (a : Arr) (k : Nat) : Prop := ∃ w : List Nat, w.length = k ∧ VW R S a w ∧ ¬ Within (walkTo R S a w)
def Trap (R S : Rule) (a : Arr) : Prop := ∀ k, ¬ Dl R S a k
def Least (R S : Rule) (a : Arr) (k : Nat) : Prop := Dl R S a k ∧ ∀ m, m < k → ¬ Dl R S a m
theorem Dl.cons {n k : Nat} (h : Dl R S (moved R S a n) k) (hn : n ≤ hm a) : Dl R S a (k + 1) := by
  obtain ⟨w, h1, h2, h3⟩ := h
  exact ⟨n :: w, by simp [h1], ⟨hn, h2⟩, h3⟩
theorem Dl.uncons {k : Nat} (h : Dl R S a (k + 1)) : ∃ n, n ≤ hm a ∧ Dl R S (moved R S a n) k := by
  obtain ⟨w, h1, h2, h3⟩ := h
  cases w with
  | nil => simp at h1
  | cons n w => exact ⟨n, h2.1, w, by simpa using h1, h2.2, h3⟩
theorem Trap.move (h : Trap R S a) {n : Nat} (hn : n ≤ hm a) : Trap R S (moved R S a n) := fun k q => h (k + 1) (q.cons hn)
theorem Trap.within (h : Trap R S a) : Within a := Classical.byContradiction fun n => h 0 ⟨[], rfl, True.intro, n⟩
theorem least_of {k : Nat} (h : Dl R S a k) : ∃ m, Least R S a m := by
  have q : ∀ n, (∃ m, m ≤ n ∧ Dl R S a m) → ∃ m, Least R S a m := by
    intro n
    induction n with
    | zero =>
      rintro ⟨m, h1, h2⟩
      exact ⟨m, h2, fun k hk => by omega⟩
    | succ n ih =>
      rintro ⟨m, h1, h2⟩
      by_cases c : ∃ m, m ≤ n ∧ Dl R S a m
      · exact ih c
      · exact ⟨m, h2, fun k hk q => c ⟨k, by omega, q⟩⟩
  exact q k ⟨k, Nat.le_refl _, h⟩
theorem Least.uniq {k m : Nat} (h : Least R S a k) (h' : Least R S a m) : k = m := by
  rcases Nat.lt_trichotomy k m with c | c | c
  · exact absurd h.1 (h'.2 k c)
  · exact c
  · exact absurd h'.1 (h.2 m c)
theorem Least.next {k : Nat} (h : Least R S a (k + 1)) : ∃ n, n ≤ hm a ∧ Least R S (moved R S a n) k := by
  obtain ⟨n, hn, q⟩ := h.1.uncons
  exact ⟨n, hn, q, fun m hm' q' => h.2 (m + 1) (by omega) (q'.cons hn)⟩

def outR (R : Rule) (l : Nat) : Nat := (R.labs.getD l default).out
def pool (R S : Rule) : List Arr := lev 0 1 ++ (lev 0 0).filter (nb (outR R 0) (outR R 1) (outR S 0) (outR S 1))
theorem out_lt (v : VRule R) (l : Nat) : outR R l < R.places := by
  unfold outR
  by_cases h : l < R.labs.length
  · exact (v.labs _ (getD_mem h)).out
  · rw [List.getD_eq_getElem?_getD, List.getElem?_eq_none (by omega)]
    exact v.pos
theorem pool_len (r : Small R) (s : Small S) (h2 : R.places = 2) (h3 : S.places = 3) : (pool R S).length ≤ 40 := by
  unfold pool
  rw [List.length_append, lev_len.2.1]
  have a0 := out_lt r.v 0
  have a1 := out_lt r.v 1
  have b0 := out_lt s.v 0
  have b1 := out_lt s.v 1
  rw [h2] at a0 a1
  rw [h3] at b0 b1
  have := nb_len (outR R 0) (by simp; omega) (outR R 1) (by simp; omega) (outR S 0) (by simp; omega) (outR S 1) (by simp; omega)
  omega
theorem not_nb (r : Small R) (s : Small S) (h2 : R.places = 2) (h3 : S.places = 3) (x : At R S 0 0 a) (h : nb (outR R 0) (outR R 1) (outR S 0) (outR S 1) a = false) : ¬ Within (moved R S a 3) := by
  obtain ⟨e1, m0, m1, m2, n3, _⟩ := lev00 a (x.mem r s h2 h3)
  intro hw
  have hw : Within (step R a.1 3, step S a.2 3) := (within_named _).mp hw
  have la : a.1.2 = 0 ∨ a.1.2 = 1 := by have := x.v.fst.lab; have := r.l2; omega
  have lb : a.2.2 = 0 ∨ a.2.2 = 1 := by have := x.v.snd.lab; have := s.l2; omega
  have oa : (if a.1.2 = 0 then outR R 0 else outR R 1) = (labOf R a.1).out := by
    unfold outR labOf
    rcases la with e | e <;> rw [e] <;> rfl
  have ob : (if a.2.2 = 0 then outR S 0 else outR S 1) = (labOf S a.2).out := by
    unfold outR labOf
    rcases lb with e | e <;> rw [e] <;> rfl
  unfold nb at h
  rw [oa, ob, e1] at h
  have h := Classical.not_not.mp (of_decide_eq_false h)
  have oa2 : (labOf R a.1).out < 2 := by have := (r.v.lab x.v.fst.lab).out; omega
  generalize hy : ([0, 1] : List Int).getD (1 - (labOf R a.1).out) 0 = y at h
  have nba : ¬ (-1 : Int) ∈ a.1.1 := List.count_eq_zero.mp x.bi
  have nbb : ¬ (-1 : Int) ∈ a.2.1 := List.count_eq_zero.mp x.bj
  have n3a : ¬ (3 : Int) ∈ a.1.1 := by rw [e1]; decide
  have y01 : y = 0 ∨ y = 1 := by
    rcases (by omega : (labOf R a.1).out = 0 ∨ (labOf R a.1).out = 1) with e | e
    · rw [e] at hy; right; exact hy.symm
    · rw [e] at hy; left; exact hy.symm
  have my : y ∈ a.2.1 := by rcases y01 with e | e <;> rw [e] <;> assumption
  -- y stays in the first
  have mx : y ∈ (step R a.1 3).1 := by
    refine (miss_perm r.v x.v.fst n3a).mem_iff.mpr ?_
    have ep : placeOf R a.1 = (labOf R a.1).out := if_neg nba
    rw [ep, e1]
    rcases (by omega : (labOf R a.1).out = 0 ∨ (labOf R a.1).out = 1) with e | e
    · rw [e] at hy ⊢; subst hy; decide
    · rw [e] at hy ⊢; subst hy; decide
  rcases hw y mx with q | q
  · rcases y01 with e | e <;> omega
  · have q := (miss_perm s.v x.v.snd n3).mem_iff.mp q
    have hp := placeOf_lt s.v x.v.snd
    have ep : placeOf S a.2 = (labOf S a.2).out := if_neg nbb
    have c := count_set hp 3 y
    have e : a.2.1[placeOf S a.2] = y := by
      have : a.2.1.idxOf y = placeOf S a.2 := by rw [ep]; exact h
      simp only [← this]
      exact List.getElem_idxOf _
    rw [if_pos e, if_neg (show ¬ (3 : Int) = y by rcases y01 with z | z <;> omega)] at c
    have c1 := x.v.snd.row.one y (by rcases y01 with z | z <;> omega)
    have c2 : 0 < (a.2.1.set (placeOf S a.2) 3).count y := List.count_pos_iff.mpr q
    omega
/-- levels two and three -/
def Hi (R S : Rule) (a : Arr) : Prop := At R S 0 1 a ∨ At R S 0 0 a
theorem Hi.move (r : Small R) (s : Small S) (h2 : R.places = 2) (h3 : S.places = 3) (x : Hi R S a) {n : Nat} (hn : n ≤ hm a) (hw : Within (moved R S a n)) : Hi R S (moved R S a n) := by
  rcases x with x | x
  · obtain ⟨e1, m0, m1, n2, eh, _⟩ := lev01 a (x.mem r s h2 h3)
    have q := x.move r.v s.v hw
    rw [eh] at hn
    have ea : (if (n : Int) ∈ a.1.1 then (0 : Nat) else 0 - 1) = 0 := by split <;> rfl
    rw [ea] at q
    by_cases c : (n : Int) ∈ a.2.1
    · rw [if_pos c] at q; exact .inl q
    · rw [if_neg c] at q; exact .inr q
  · have q := x.move r.v s.v hw
    have ea : (if (n : Int) ∈ a.1.1 then (0 : Nat) else 0 - 1) = 0 := by split <;> rfl
    have eb : (if (n : Int) ∈ a.2.1 then (0 : Nat) else 0 - 1) = 0 := by split <;> rfl
    rw [ea, eb] at q
    exact .inr q
theorem chain (r : Small R) (s : Small S) (h2 : R.places = 2) (h3 : S.places = 3) : ∀ (k : Nat) (a : Arr), Hi R S a → Least R S a (k + 1) →
    ∃ xs : List Arr, xs.length = k ∧ xs.Nodup ∧ ∀ x ∈ xs, x ∈ pool R S ∧ ∃ m, m ≤ k + 1 ∧ Least R S x m
  | 0, a, _, _ => ⟨[], rfl, List.nodup_nil, fun x hx => nomatch hx⟩
  | k + 1, a, x, h => by
    obtain ⟨n, hn, hl⟩ := h.next
    have hw : Within (moved R S a n) := Classical.byContradiction fun q => by
      have := hl.2 0 (by omega)
      exact this ⟨[], rfl, True.intro, q⟩
    obtain ⟨xs, e1, e2, e3⟩ := chain r s h2 h3 k _ (x.move r s h2 h3 hn hw) hl
    refine ⟨a :: xs, by simp [e1], List.nodup_cons.mpr ⟨fun m => ?_, e2⟩, fun y hy => ?_⟩
    · obtain ⟨_, m', hm', hl'⟩ := e3 a m
      have := h.uniq hl'
      omega
    · rcases List.mem_cons.mp hy with e | hy
      · rw [e]
        refine ⟨?_, k + 2, Nat.le_refl _, h⟩
        rcases x with x | x
        · exact List.mem_append_left _ (x.mem r s h2 h3)
        · refine List.mem_append_right _ (List.mem_filter.mpr ⟨x.mem r s h2 h3, ?_⟩)
          refine Classical.byContradiction fun q => ?_
          have bad := not_nb r s h2 h3 x (by simpa using q)
          have eh := (lev00 a (x.mem r s h2 h3)).2.2.2.2.2
          exact h.2 1 (by omega) (Dl.cons (n := 3) ⟨[], rfl, True.intro, bad⟩ (by omega))
      · obtain ⟨m1, m, m2, m3⟩ := e3 y hy
        exact ⟨m1, m, by omega, m3⟩
theorem trap_pool (r : Small R) (s : Small S) (h2 : R.places = 2) (h3 : S.places = 3) (x : Hi R S a) (h : Trap R S a) : a ∈ pool R S := by
  rcases x with x | x
  · exact List.mem_append_left _ (x.mem r s h2 h3)
  · refine List.mem_append_right _ (List.mem_filter.mpr ⟨x.mem r s h2 h3, ?_⟩)
    refine Classical.byContradiction fun q => ?_
    have bad := not_nb r s h2 h3 x (by simpa using q)
    have eh := (lev00 a (x.mem r s h2 h3)).2.2.2.2.2
    exact h 1 (Dl.cons (n := 3) ⟨[], rfl, True.intro, bad⟩ (by omega))
theorem near_hi (r : Small R) (s : Small S) (h2 : R.places = 2) (h3 : S.places = 3) (x : Hi R S a) {k : Nat} (h : Least R S a k) {U : List Arr} (nd : U.Nodup) (hU : ∀ y ∈ U, Hi R S y ∧ Trap R S y) : k + U.length ≤ 41 := by
  have pl := pool_len r s h2 h3
  cases k with
  | zero =>
    have := nodup_length_le U (pool R S) nd fun y hy => trap_pool r s h2 h3 (hU y hy).1 (hU y hy).2
    omega
  | succ k =>
    obtain ⟨xs, e1, e2, e3⟩ := chain r s h2 h3 k a x h
    have := nodup_length_le (xs ++ U) (pool R S) (List.nodup_append.mpr ⟨e2, nd, fun y hy z hz e => by
      obtain ⟨_, m, _, hl⟩ := e3 y hy
      rw [e] at hl
      exact (hU z hz).2 m hl.1⟩) fun y hy => by
        rcases List.mem_append.mp hy with hy | hy
        · exact (e3 y hy).1
        · exact trap_pool r s h2 h3 (hU y hy).1 (hU y hy).2
    rw [List.length_append, e1] at this
    omega

/-! ### where a thing stands that is asked for -/
def phi (R : Rule) (x : Nat × Nat) : Nat × Nat := (((R.labs.getD x.2 default).hits.getD x.1 ([], 0)).1.idxOf x.1, ((R.labs.getD x.2 default).hits.getD x.1 ([], 0)).2)
theorem idxOf_arranged {row : List Int} {o : List Nat} {t : Int} (hp : o.Perm (List.range row.length)) (hm' : t ∈ row) (h1 : row.count t ≤ 1) : (arranged row o).idxOf t = o.idxOf (row.idxOf t) := by
  have k : ∀ o : List Nat, (∀ i ∈ o, i < row.length) → (arranged row o).idxOf t = o.idxOf (row.idxOf t) := by
    intro o
    induction o with
    | nil => intro _; rfl
    | cons i o ih =>
      intro ho
      show (row.getD i 0 :: arranged row o).idxOf t = _
      rw [List.idxOf_cons, List.idxOf_cons, ih fun j hj => ho j (List.mem_cons_of_mem _ hj)]
      have hi := ho i List.mem_cons_self
      have hx := List.idxOf_lt_length_of_mem hm'
      have e : (row.getD i 0 == t) = (i == row.idxOf t) := by
        by_cases c : i = row.idxOf t
        · have q : row.getD i 0 = t := by
            rw [List.getD_eq_getElem?_getD, List.getElem?_eq_getElem hi]
            show row[i] = t
            simp only [c]
            exact List.getElem_idxOf hx
          rw [q, beq_self_eq_true, c, beq_self_eq_true]
        · have q : row.getD i 0 ≠ t := fun q => by
            rw [List.getD_eq_getElem?_getD, List.getElem?_eq_getElem hi] at q
            have q : row[i] = t := q
            -- two places
            have c2 := count_set hi (t + 1) t
            rw [if_pos q, if_neg (by omega)] at c2
            have : row.idxOf t < (row.set i (t + 1)).length := by rw [List.length_set]; exact hx
            have z : (row.set i (t + 1))[row.idxOf t] = t := by
              rw [List.getElem_set_ne c]
              exact List.getElem_idxOf hx
            have m := List.getElem_mem this
            rw [z] at m
            have := List.count_pos_iff.mpr m
            omega
          rw [beq_eq_false_iff_ne.mpr q, beq_eq_false_iff_ne.mpr c]
      rw [e]
  exact k o fun i hi => List.mem_range.mp (hp.mem_iff.mp hi)
theorem step_code {s : Sta} {t : Int} (v : VRule R) (w : VSta R s) (h : t ∈ s.1) (t1 : t ≠ -1) : ((step R s t).1.idxOf t, (step R s t).2) = phi R (s.1.idxOf t, s.2) := by
  rw [step_hit h]
  have m := hitMove_ok v w h
  unfold phi
  refine Prod.ext ?_ rfl
  show (arranged s.1 (hitMove R s t).1).idxOf t = _
  rw [idxOf_arranged (by rw [w.row.len]; exact m.perm) h (w.row.one t t1)]
  rfl
theorem phi_lt {s : Sta} {t : Int} (v : VRule R) (w : VSta R s) (h : t ∈ s.1) : (phi R (s.1.idxOf t, s.2)).1 < R.places := by
  have m := hitMove_ok v w h
  show (hitMove R s t).1.idxOf (s.1.idxOf t) < _
  have q : s.1.idxOf t ∈ (hitMove R s t).1 := m.perm.mem_iff.mpr (List.mem_range.mpr (by rw [← w.row.len]; exact List.idxOf_lt_length_of_mem h))
  have := List.idxOf_lt_length_of_mem q
  rw [m.perm.length_eq, List.length_range] at this
  exact this
theorem code_moved (r : Small R) (s : Small S) (h2 : R.places = 2) (h3 : S.places = 3) (x : At R S 1 2 a) : At R S 1 2 (moved R S a 0) ∧ code (moved R S a 0) = (phi R (code a).1, phi S (code a).2) := by
  obtain ⟨m0, k0, _, _, eh, _⟩ := lev12 a (x.mem r s h2 h3)
  have y := x.move r.v s.v (n := 0) (x.keeps r.v s.v (.inl k0))
  have m0' : ((0 : Nat) : Int) ∈ a.1.1 := m0
  have k0' : ((0 : Nat) : Int) ∈ a.2.1 := k0
  rw [if_pos m0', if_pos k0'] at y
  refine ⟨y, ?_⟩
  have eh' := (lev12 _ (y.mem r s h2 h3)).2.2.2.2.1
  have c1 := step_code (t := 0) r.v x.v.fst m0 (by omega)
  have c2 := step_code (t := 0) s.v x.v.snd k0 (by omega)
  show ((((step R a.1 0).1.map _).idxOf 0, (step R a.1 0).2), (((step S a.2 0).1.map _).idxOf 0, (step S a.2 0).2)) = _
  generalize hl : rows (step R a.1 ((0 : Nat) : Int), step S a.2 ((0 : Nat) : Int)) = l at *
  have hl' : rows (step R a.1 0, step S a.2 0) = l := hl
  have m1 : (0 : Int) ∈ (step R a.1 0).1 := mem_step_self r.v x.v.fst
  have m2 : (0 : Int) ∈ (step S a.2 0).1 := mem_step_self s.v x.v.snd
  have ml : (0 : Int) ∈ l := by rw [← hl']; exact List.mem_append_left _ m1
  have n0 : num l 0 = 0 := by
    have q : hm (step R a.1 0, step S a.2 0) = 1 := by rw [← hm_named]; exact eh'
    unfold hm at q
    rw [hl'] at q
    rw [num_seen (by omega)]
    have := List.idxOf_lt_length_of_mem (mem_seen.mpr ⟨ml, by omega⟩ : (0 : Int) ∈ seen l)
    omega
  have i1 : ((step R a.1 0).1.map (num l)).idxOf 0 = (step R a.1 0).1.idxOf 0 := by
    have q := idxOf_map_inj (f := num l) (t := 0) (l := (step R a.1 0).1) fun z hz e => num_inj l z (List.mem_cons_of_mem _ (by rw [← hl']; exact List.mem_append_left _ hz)) 0 (List.mem_cons_of_mem _ ml) e
    rw [n0] at q
    exact q
  have i2 : ((step S a.2 0).1.map (num l)).idxOf 0 = (step S a.2 0).1.idxOf 0 := by
    have q := idxOf_map_inj (f := num l) (t := 0) (l := (step S a.2 0).1) fun z hz e => num_inj l z (List.mem_cons_of_mem _ (by rw [← hl']; exact List.mem_append_right _ hz)) 0 (List.mem_cons_of_mem _ ml) e
    rw [n0] at q
    exact q
  have hl2 : rows (step R a.1 ↑(0 : Nat), step S a.2 ↑(0 : Nat)) = l := hl
  rw [i1, i2, c1, c2]
/-- a second state beside a trapped one, of the same level, trapped too -/
theorem second (r : Small R) (s : Small S) (h2 : R.places = 2) (h3 : S.places = 3) {j : Nat} (hj : j = 0 ∨ j = 1) (x : At R S 0 j a) (h : Trap R S a)
    (hc : ∀ y ∈ A1, y ≠ phi R y ∧ y ≠ phi R (phi R y) ∧ phi R y ≠ phi R (phi R y)) : ∃ b, At R S 0 j b ∧ Trap R S b ∧ b ≠ a := by
  have fact : ∀ b, At R S 0 j b → b.1.1 = [0, 1] ∧ (∀ i : Nat, i < 2 → (i : Int) ∈ b.2.1) ∧ 2 ≤ hm b := fun b y => by
    rcases hj with e | e
    · subst e
      obtain ⟨q1, q2, q3, _, _, q6⟩ := lev00 b (y.mem r s h2 h3)
      refine ⟨q1, fun i hi => ?_, by omega⟩
      rcases (by omega : i = 0 ∨ i = 1) with e | e <;> subst e <;> assumption
    · subst e
      obtain ⟨q1, q2, q3, _, q5, _⟩ := lev01 b (y.mem r s h2 h3)
      refine ⟨q1, fun i hi => ?_, by omega⟩
      rcases (by omega : i = 0 ∨ i = 1) with e | e <;> subst e <;> assumption
  have go : ∀ (b : Arr) (i : Nat), At R S 0 j b → Trap R S b → i < 2 → At R S 0 j (moved R S b i) ∧ Trap R S (moved R S b i) ∧ (phi R (i, b.1.2)).1 < 2 ∧ (moved R S b i).1.2 = (phi R (i, b.1.2)).2 := fun b i y t hi => by
    obtain ⟨e1, e2, e3⟩ := fact b y
    have mi : ((i : Nat) : Int) ∈ b.1.1 := by
      rw [e1]
      rcases (by omega : i = 0 ∨ i = 1) with e | e <;> subst e <;> decide
    have ei : b.1.1.idxOf ((i : Nat) : Int) = i := by
      rw [e1]
      rcases (by omega : i = 0 ∨ i = 1) with e | e <;> subst e <;> decide
    have q := y.move r.v s.v (n := i) (y.keeps r.v s.v (.inl (e2 i hi)))
    rw [if_pos mi, if_pos (e2 i hi)] at q
    have p1 := phi_lt r.v y.v.fst mi
    have p2 := step_code r.v y.v.fst mi (by omega)
    rw [ei] at p1 p2
    exact ⟨q, t.move (by omega), by omega, congrArg Prod.snd p2⟩
  have lab : a.1.2 = 0 ∨ a.1.2 = 1 := by have := x.v.fst.lab; have := r.l2; omega
  obtain ⟨y1, t1, p1, l1⟩ := go a 0 x h (by omega)
  obtain ⟨y2, t2, p2, l2⟩ := go _ _ y1 t1 p1
  by_cases c1 : moved R S a 0 = a
  · by_cases c2 : moved R S (moved R S a 0) (phi R (0, a.1.2)).1 = a
    · exfalso
      obtain ⟨n1, n2, n3⟩ := hc (0, a.1.2) (by rcases lab with e | e <;> rw [e] <;> decide)
      rw [c1] at l1
      have e1 : phi R (0, a.1.2) = ((phi R (0, a.1.2)).1, a.1.2) := Prod.ext rfl l1.symm
      rw [c2, c1] at l2
      rw [c1] at p2
      generalize hp : (phi R (0, a.1.2)).1 = p at *
      rw [e1] at n1 n2 n3
      have e2 : phi R (p, a.1.2) = ((phi R (p, a.1.2)).1, a.1.2) := Prod.ext rfl l2.symm
      generalize hq : (phi R (p, a.1.2)).1 = q at *
      rw [e2] at n2 n3
      have m1 : ¬ 0 = p := fun e => n1 (by rw [e])
      have m2 : ¬ 0 = q := fun e => n2 (by rw [e])
      have m3 : ¬ p = q := fun e => n3 (by rw [e])
      omega
    · exact ⟨_, y2, t2, c2⟩
  · exact ⟨_, y1, t1, c1⟩

/-! ### two places beside three -/
def zed (R S : Rule) : Nat → Arr
  | 0 => moved R S (start R S) 0
  | t + 1 => moved R S (zed R S t) 0
theorem hm_start (R S : Rule) : hm (start R S) = 0 := by
  have : seen (rows (start R S)) = [] := by
    refine List.eq_nil_iff_forall_not_mem.mpr fun x hx => ?_
    obtain ⟨h1, h2⟩ := mem_seen.mp hx
    rcases List.mem_append.mp h1 with q | q <;> exact h2 (List.eq_of_mem_replicate q)
  unfold hm
  rw [this]
  rfl
theorem zed_at (r : Small R) (s : Small S) (h2 : R.places = 2) (h3 : S.places = 3) : ∀ t, At R S 1 2 (zed R S t)
  | 0 => by
    have b : (-1 : Int) ∈ (start R S).2.1 := by
      show (-1 : Int) ∈ List.replicate S.places (-1)
      rw [h3]; decide
    have y : At R S 2 3 (start R S) := ⟨VArr.start r.v s.v, named_start R S, within_start R S, by show (List.replicate R.places (-1 : Int)).count (-1) = 2; rw [h2]; decide, by show (List.replicate S.places (-1 : Int)).count (-1) = 3; rw [h3]; decide⟩
    have q := y.move r.v s.v (n := 0) (y.keeps r.v s.v (.inr b))
    have e1 : ¬ ((0 : Nat) : Int) ∈ (start R S).1.1 := by
      show ¬ ((0 : Nat) : Int) ∈ List.replicate R.places (-1)
      rw [h2]; decide
    have e2 : ¬ ((0 : Nat) : Int) ∈ (start R S).2.1 := by
      show ¬ ((0 : Nat) : Int) ∈ List.replicate S.places (-1)
      rw [h3]; decide
    rw [if_neg e1, if_neg e2] at q
    exact q
  | t + 1 => (code_moved r s h2 h3 (zed_at r s h2 h3 t)).1
theorem apart_two (r : Small R) (s : Small S) (h2 : R.places = 2) (h3 : S.places = 3) (h : ¬ Nest R S) : ∃ k, k ≤ 60 ∧ Dl R S (start R S) k := by
  refine Classical.byContradiction fun no => ?_
  have Z := zed_at r s h2 h3
  have ehz : ∀ t, hm (zed R S t) = 1 := fun t => (lev12 _ ((Z t).mem r s h2 h3)).2.2.2.2.1
  -- a new thing behind t hits
  have N : ∀ t, At R S 0 1 (moved R S (zed R S t) 1) := fun t => by
    obtain ⟨_, _, n1, n2, _, b⟩ := lev12 _ ((Z t).mem r s h2 h3)
    have q := (Z t).move r.v s.v (n := 1) ((Z t).keeps r.v s.v (.inr b))
    have n1' : ¬ ((1 : Nat) : Int) ∈ (zed R S t).1.1 := n1
    have n2' : ¬ ((1 : Nat) : Int) ∈ (zed R S t).2.1 := n2
    rw [if_neg n1', if_neg n2'] at q
    exact q
  have up : ∀ t k, Dl R S (zed R S t) k → Dl R S (start R S) (k + t + 1) := fun t => by
    induction t with
    | zero => exact fun k q => q.cons (by omega)
    | succ t ih =>
      intro k q
      have := ih (k + 1) (q.cons (by rw [ehz]; omega))
      have e : k + 1 + t + 1 = k + (t + 1) + 1 := by omega
      rw [e] at this
      exact this
  have some_t : ∃ t, ¬ Trap R S (moved R S (zed R S t) 1) := by
    refine Classical.byContradiction fun all => ?_
    have all : ∀ t, Trap R S (moved R S (zed R S t) 1) := fun t => Classical.byContradiction fun q => all ⟨t, q⟩
    have zt : ∀ k t, ¬ Dl R S (zed R S t) k := fun k => by
      induction k with
      | zero =>
        rintro t ⟨w, e, _, n⟩
        have e : w = [] := List.length_eq_zero_iff.mp e
        subst e
        exact n (Z t).w
      | succ k ih =>
        intro t q
        obtain ⟨n, hn, q'⟩ := q.uncons
        rw [ehz] at hn
        rcases (by omega : n = 0 ∨ n = 1) with e | e
        · subst e; exact ih (t + 1) q'
        · subst e; exact all t k q'
    refine h ((nest_iff r.v s.v).mpr fun w hw => Classical.byContradiction fun n => ?_)
    cases w with
    | nil => exact n (within_start R S)
    | cons m w =>
      obtain ⟨hm0, hw⟩ := hw
      rw [hm_start] at hm0
      have e : m = 0 := by omega
      subst e
      exact zt w.length 0 ⟨w, rfl, hw, n⟩
  obtain ⟨T, hT, hmin⟩ : ∃ T, ¬ Trap R S (moved R S (zed R S T) 1) ∧ ∀ t, t < T → Trap R S (moved R S (zed R S t) 1) := by
    obtain ⟨t, ht⟩ := some_t
    have q : ∀ n, (∃ t, t ≤ n ∧ ¬ Trap R S (moved R S (zed R S t) 1)) → ∃ T, ¬ Trap R S (moved R S (zed R S T) 1) ∧ ∀ t, t < T → Trap R S (moved R S (zed R S t) 1) := by
      intro n
      induction n with
      | zero =>
        rintro ⟨t, h1, h2⟩
        exact ⟨t, h2, fun u hu => by omega⟩
      | succ n ih =>
        rintro ⟨t, h1, h2⟩
        by_cases c : ∃ t, t ≤ n ∧ ¬ Trap R S (moved R S (zed R S t) 1)
        · exact ih c
        · exact ⟨t, h2, fun u hu => Classical.byContradiction fun q => c ⟨u, by omega, q⟩⟩
    exact q t ⟨t, Nat.le_refl _, ht⟩
  obtain ⟨k, hk⟩ : ∃ k, Least R S (moved R S (zed R S T) 1) k := by
    obtain ⟨k, q⟩ := Classical.not_forall.mp hT
    exact least_of (Classical.not_not.mp q)
  have far : 61 ≤ k + T + 2 := Classical.byContradiction fun q => by
    have d := up T (k + 1) (hk.1.cons (by rw [ehz]; omega))
    exact no ⟨_, by omega, d⟩
  have lower : ∀ U : List Arr, U.Nodup → (∀ y ∈ U, Hi R S y ∧ Trap R S y) → 18 + U.length ≤ T := fun U nd hU => by
    have := near_hi r s h2 h3 (.inl (N T)) hk nd hU
    omega
  have T18 := lower [] List.nodup_nil fun y hy => nomatch hy
  have tr0 := hmin 0 (by simp at T18; omega)
  -- its follower on level three
  have N3 : At R S 0 0 (moved R S (moved R S (zed R S 0) 1) 2) ∧ Trap R S (moved R S (moved R S (zed R S 0) 1) 2) := by
    obtain ⟨e1, _, _, n2, eh, b⟩ := lev01 _ ((N 0).mem r s h2 h3)
    have q := (N 0).move r.v s.v (n := 2) ((N 0).keeps r.v s.v (.inr b))
    have n1' : ¬ ((2 : Nat) : Int) ∈ (moved R S (zed R S 0) 1).1.1 := by rw [e1]; decide
    have n2' : ¬ ((2 : Nat) : Int) ∈ (moved R S (zed R S 0) 1).2.1 := n2
    rw [if_neg n1', if_neg n2'] at q
    exact ⟨q, tr0.move (by omega)⟩
  have apart : ∀ {x y : Arr}, At R S 0 1 x → At R S 0 0 y → x ≠ y := fun {x y} p q e => by
    have h1 := p.bj
    have h2 := q.bj
    rw [e, h2] at h1
    omega
  have T20 := lower [moved R S (zed R S 0) 1, moved R S (moved R S (zed R S 0) 1) 2] (by
    refine List.nodup_cons.mpr ⟨fun m => ?_, by simp⟩
    have e := List.mem_singleton.mp m
    exact apart (N 0) N3.1 e) fun y hy => by
      rcases List.mem_cons.mp hy with e | e
      · rw [e]; exact ⟨.inl (N 0), tr0⟩
      · have e := List.mem_singleton.mp e
        rw [e]; exact ⟨.inr N3.1, N3.2⟩
  have W : Two (fun t => (code (zed R S t)).1) (fun t => (code (zed R S t)).2) (phi R) (phi S) A1 B1 T :=
    { hu := fun t => congrArg Prod.fst (code_moved r s h2 h3 (Z t)).2
      hv := fun t => congrArg Prod.snd (code_moved r s h2 h3 (Z t)).2
      mu := fun t => (lev12_code.1 _ ((Z t).mem r s h2 h3)).1
      mv := fun t => (lev12_code.1 _ ((Z t).mem r s h2 h3)).2
      la := rfl
      lb := rfl
      dis := fun i j hij hj ⟨e1, e2⟩ => by
        have e := lev12_code.2 _ ((Z i).mem r s h2 h3) _ ((Z j).mem r s h2 h3) (Prod.ext e1 e2)
        have q : ∀ d, zed R S (i + d) = zed R S (j + d) := fun d => by
          induction d with
          | zero => exact e
          | succ d ih =>
            show moved R S (zed R S (i + d)) 0 = moved R S (zed R S (j + d)) 0
            rw [ih]
        have q := q (T - j)
        have e3 : j + (T - j) = T := by omega
        rw [e3] at q
        have := hmin (i + (T - j)) (by omega)
        rw [q] at this
        exact hT this }
  have cyc := W.cycle (by simpa using T20)
  obtain ⟨b1, x1, t1, d1⟩ := second r s h2 h3 (.inr rfl) (N 0) tr0 cyc
  obtain ⟨b2, x2, t2, d2⟩ := second r s h2 h3 (.inl rfl) N3.1 N3.2 cyc
  have T22 := lower [b1, moved R S (zed R S 0) 1, b2, moved R S (moved R S (zed R S 0) 1) 2] (by
    refine List.nodup_cons.mpr ⟨fun m => ?_, List.nodup_cons.mpr ⟨fun m => ?_, List.nodup_cons.mpr ⟨fun m => ?_, by simp⟩⟩⟩
    · rcases List.mem_cons.mp m with e | m
      · exact d1 e
      · rcases List.mem_cons.mp m with e | m
        · exact apart x1 x2 e
        · exact apart x1 N3.1 (List.mem_singleton.mp m)
    · rcases List.mem_cons.mp m with e | m
      · exact apart (N 0) x2 e
      · exact apart (N 0) N3.1 (List.mem_singleton.mp m)
    · exact d2 (List.mem_singleton.mp m)) fun y hy => by
      rcases List.mem_cons.mp hy with e | hy
      · rw [e]; exact ⟨.inl x1, t1⟩
      · rcases List.mem_cons.mp hy with e | hy
        · rw [e]; exact ⟨.inl (N 0), tr0⟩
        · rcases List.mem_cons.mp hy with e | hy
          · rw [e]; exact ⟨.inr x2, t2⟩
          · have e := List.mem_singleton.mp hy
            rw [e]; exact ⟨.inr N3.1, N3.2⟩
  exact W.no (by simpa using T22)

/-- THE BOUND: where two rules are apart, a walk of at most sixty moves tells it -/
theorem apart_short (r : Small R) (s : Small S) (hp : R.places ≤ S.places) (h : ¬ Nest R S) : ∃ w, w.length ≤ 60 ∧ VW R S (start R S) w ∧ ¬ Within (walkTo R S (start R S) w) := by
  by_cases e : R.places = S.places
  · obtain ⟨ts, h1, h2, h3⟩ := apart_equal r s e h
    obtain ⟨w, w1, w2, w3⟩ := walk_of_things r.v s.v ts (start R S) (VArr.start r.v s.v) h2
    rw [named_start] at w2 w3
    refine ⟨w, by omega, w2, ?_⟩
    rw [w3, within_named]
    exact h3
  · by_cases e1 : R.places = 1
    · exact absurd (nest_one r.v s.v e1) h
    · have := r.v.pos
      have := s.p3
      obtain ⟨k, k1, w, k2, k3, k4⟩ := apart_two r s (by omega) (by omega) h
      exact ⟨w, by omega, k3, k4⟩
end
end G
-- part WT
set_option linter.all false
set_option maxRecDepth 100000
set_option maxHeartbeats 2000000
/-! The text by places, what the top has written, the data of the program. -/
namespace DL
open PySem PySem.Spec PyProof.Rows L2
def top (i : Nat) : Stmt := PySem.Challenge.pw_goesout_k32_whole_nested_by_all_requests.main.body.getD i (.Pass ⟨0, 0, 0, 0⟩)
structure Txt (K : PySem.W.Frag) (mg : Str → Option Value) : Prop where
  f_graph_of : Txt1 K mg "graph_of" (top 9)
  f_followed : Txt1 K mg "followed" (top 10)
  f_end_of : Txt1 K mg "end_of" (top 11)
  f_is_whole : Txt1 K mg "is_whole" (top 17)
  f_is_order : Txt1 K mg "is_order" (top 18)
  f_is_move : Txt1 K mg "is_move" (top 19)
  f_are_moves : Txt1 K mg "are_moves" (top 20)
  f_is_label_row : Txt1 K mg "is_label_row" (top 21)
  f_is_rule : Txt1 K mg "is_rule" (top 22)
  f_need_rule : Txt1 K mg "need_rule" (top 23)
  f_is_thing : Txt1 K mg "is_thing" (top 24)
  f_first_state : Txt1 K mg "first_state" (top 25)
  f_is_row : Txt1 K mg "is_row" (top 26)
  f_is_state_of : Txt1 K mg "is_state_of" (top 27)
  f_things_of : Txt1 K mg "things_of" (top 28)
  f_arranged : Txt1 K mg "arranged" (top 29)
  f_step : Txt1 K mg "step" (top 30)
  f_need_rules : Txt1 K mg "need_rules" (top 32)
  f_named : Txt1 K mg "named" (top 33)
  f_first_pair : Txt1 K mg "first_pair" (top 34)
  f_is_pair : Txt1 K mg "is_pair" (top 35)
  f_how_many : Txt1 K mg "how_many" (top 36)
  f_moved_by : Txt1 K mg "moved_by" (top 37)
  f_steps_of : Txt1 K mg "steps_of" (top 38)
  f_walk_of : Txt1 K mg "walk_of" (top 39)
  f_need_walk : Txt1 K mg "need_walk" (top 40)
  f_seen_in : Txt1 K mg "seen_in" (top 41)
  f_played : Txt1 K mg "played" (top 42)
  f_all_steps : Txt1 K mg "all_steps" (top 43)
  f_are_pairs : Txt1 K mg "are_pairs" (top 44)
  f_need_greater : Txt1 K mg "need_greater" (top 46)
  f_is_within : Txt1 K mg "is_within" (top 47)
  f_nested : Txt1 K mg "nested" (top 48)
  f_are_closed : Txt1 K mg "are_closed" (top 49)
  f_shows_nested : Txt1 K mg "shows_nested" (top 50)
  f_is_requests : Txt1 K mg "is_requests" (top 53)
  f_need_requests : Txt1 K mg "need_requests" (top 54)
  f_run_of : Txt1 K mg "run_of" (top 55)
  f_checked_run : Txt1 K mg "checked_run" (top 56)
  f_behind : Txt1 K mg "behind" (top 57)
  f_kept : Txt1 K mg "kept" (top 58)
  f_hits : Txt1 K mg "hits" (top 59)
  f_misses : Txt1 K mg "misses" (top 60)
  f_law_rows_up_to : Txt1 K mg "_law_rows_up_to" (top 62)
  f_law_pen : Txt1 K mg "_law_pen" (top 63)
  f_law_cell_at : Txt1 K mg "_law_cell_at" (top 64)
  f_law_draw : Txt1 K mg "_law_draw" (top 65)
  f_law_front : Txt1 K mg "_law_front" (top 66)
  f_law_one_label : Txt1 K mg "_law_one_label" (top 67)
  f_law_queue : Txt1 K mg "_law_queue" (top 68)
  f_law_recent : Txt1 K mg "_law_recent" (top 69)
  f_law_newest : Txt1 K mg "_law_newest" (top 70)
  f_law_mixed : Txt1 K mg "_law_mixed" (top 71)
  f_law_moves : Txt1 K mg "_law_moves" (top 72)
  f_law_drawn : Txt1 K mg "_law_drawn" (top 73)
  f_law_pick : Txt1 K mg "_law_pick" (top 74)
  f_law_rising_two : Txt1 K mg "_law_rising_two" (top 75)
  f_law_lacks : Txt1 K mg "_law_lacks" (top 76)
  f_law_right : Txt1 K mg "_law_right" (top 77)
  f_law : Txt1 K mg "law" (top 78)
  n_all : mg "all" = none
  n_bool : mg "bool" = none
  n_int : mg "int" = none
  n_isinstance : mg "isinstance" = none
  n_len : mg "len" = none
  n_list : mg "list" = none
  n_max : mg "max" = none
  n_min : mg "min" = none
  n_range : mg "range" = none
  n_repr : mg "repr" = none
  n_set : mg "set" = none
  n_sorted : mg "sorted" = none
  n_tuple : mg "tuple" = none
  c_MOST_NODES : ∃ t, mg "MOST_NODES" = some (.int 2000 t)
  c_MOST_PLACES : ∃ t, mg "MOST_PLACES" = some (.int 4 t)
  c_MOST_LABELS : ∃ t, mg "MOST_LABELS" = some (.int 16 t)
  c_MOST_THING : ∃ t, mg "MOST_THING" = some (.int 99 t)
  c_BLANK : ∃ t, mg "BLANK" = some (.int (-1) t)
  c_MOST_REQUESTS : ∃ t, mg "MOST_REQUESTS" = some (.int 60 t)
theorem pe_const {X : Cx} {x : Str} {i : Int} {pos : Pos} (h : ∃ t, X.mg x = some (.int i t)) (hg : Gl X x) (hd : (x == ("__debug__" : Str)) = false := by decide) : PE X (.Name x pos) (tC (.int i)) := by
  obtain ⟨t, h⟩ := h
  exact pe_glob hg h ⟨t, rfl⟩ hd
/-! ### the data -/
def eInts (l : List Int) : D := .tup (l.map D.int)
def eNats (l : List Nat) : D := .tup ((l.map fun (n : Nat) => (n : Int)).map D.int)
def eMove (m : G.Move) : D := .tup [eNats m.1, .int (m.2 : Int)]
def eLab (L : G.Lab) : D := .tup [.tup (L.hits.map eMove), .int (L.out : Int), .tup (L.comes.map eMove)]
def eRule (R : G.Rule) : D := .tup [.int (R.places : Int), .tup (R.labs.map eLab)]
def eSta (s : G.Sta) : D := .tup [eInts s.1, .int (s.2 : Int)]
def eArr (a : G.Arr) : D := .tup [eSta a.1, eSta a.2]
theorem all_true {α : Type} (l : List α) : ((l.map fun _ => true).all id) = true := by simp
theorem map_bl (l : List D) (f : D → Bool) : l.map (fun d => D.bl (f d)) = (l.map f).map D.bl := by rw [List.map_map]; rfl
end DL
-- part W1
set_option linter.all false
set_option maxRecDepth 100000
set_option maxHeartbeats 2000000
namespace DL
open PySem PySem.Spec PyProof.Rows L2
section
variable {P : Program} {w : World} {K : PySem.W.Frag} {mg : Str → Option Value} {base : Heap}
/-- a valid rule, as data -/
def VR (R : G.Rule) : Prop := G.VRule R
theorem sum_isi_tup (l : List D) : isiB (.tup l) "tuple" = true := by simp [isiB, isiK, kind]
theorem isi_int (i : Int) : isiB (.int i) "int" = true := by simp [isiB, isiK, kind]
theorem isi_intb (i : Int) : isiB (.int i) "bool" = false := by simp [isiB, isiK, kind]
theorem isi_ints (l : List Int) : isiB (eInts l) "tuple" = true := sum_isi_tup _
theorem isi_nats (l : List Nat) : isiB (eNats l) "tuple" = true := sum_isi_tup _
theorem isi_move (m : G.Move) : isiB (eMove m) "tuple" = true := sum_isi_tup _
theorem isi_lab (m : G.Lab) : isiB (eLab m) "tuple" = true := sum_isi_tup _
theorem isi_rule (m : G.Rule) : isiB (eRule m) "tuple" = true := sum_isi_tup _
theorem isi_sta (m : G.Sta) : isiB (eSta m) "tuple" = true := sum_isi_tup _
theorem isi_arr (m : G.Arr) : isiB (eArr m) "tuple" = true := sum_isi_tup _
abbrev N_is_whole : List Str := ["thing", "low", "high"]
def rel_is_whole (rs : List R) (r : R) : Prop := ∃ (x lo hi : Int), rs = [.d (.int x), .d (.int lo), .d (.int hi)] ∧ r = .d (.bl (decide (lo ≤ x) && decide (x ≤ hi)))
theorem sc_is_whole : FnScope N_is_whole ["thing", "low", "high"] (defScope (top 17)) := ⟨rfl, rfl, rfl, by decide +kernel, rfl, by decide +kernel, by decide +kernel⟩
theorem ok_is_whole (T : Txt K mg) : Con P w K mg base "is_whole" ["thing", "low", "high"] 1 rel_is_whole := by
  refine con_of (N := N_is_whole) T.f_is_whole sc_is_whole (fun _ _ _ _ _ _ us hl => match us, hl with | [_, _, _], _ => rfl) (fun rs r h => ?_) (fun f cdv A outer s H E hr => ?_)
  · obtain ⟨_, _, _, rfl, rfl⟩ := h; exact ⟨rfl, by simp [ArgOk]⟩
  have nd := sc_is_whole.nd
  refine ⟨_, (pss_one (ps_ret (pe_and (pe_callB (kx_isi K) rfl T.n_isinstance (by rfl) (pa_cons (pv 0) (pa_cons (pe_bltn (v := .ty "int") (u := .type "int") rfl T.n_int (by rfl) rfl) pa_nil))) (pe_and (pe_not (pe_callB (kx_isi K) rfl T.n_isinstance (by rfl) (pa_cons (pv 0) (pa_cons (pe_bltn (v := .ty "bool") (u := .type "bool") rfl T.n_bool (by rfl) rfl) pa_nil)))) (pe_one (pe_chain op_le op_le (pv 1) (pv 0) (pv 2))))))), ?_⟩
  rintro rs r ⟨x, lo, hi, rfl, rfl⟩
  exact ds_ret (DE.to (de_and (de_isi (de_var rfl)) fun _ => (de_and (de_not (de_isi (de_var rfl))) fun _ => (de_chainI (de_var rfl) (de_var rfl) (de_var rfl)))) (by rw [isi_int, isi_intb]; rfl))
theorem perm_lt {l : List Nat} {n : Nat} (h : l.Perm (List.range n)) : ∀ z ∈ l, z < n := fun z hz => List.mem_range.mp (h.mem_iff.mp hz)
theorem eqv_ints (l : List Int) : PyData.eqv (.list (toPyL (l.map D.int))) (.list (toPyL (l.map D.int))) = true := SeqAt.eqv_refl _ (SeqAt.canLay_of_shaped (shaped_list (shaped_ints l)))
theorem ran_sorted (n : Nat) : (ran n).Pairwise (· ≤ ·) := by
  unfold ran
  rw [List.pairwise_map]
  exact (List.pairwise_lt_range).imp fun h => by omega
abbrev N_is_order : List Str := ["thing", "places", "one"]
def rel_is_order (rs : List R) (r : R) : Prop := ∃ (l : List Nat) (n : Nat), rs = [.d (eNats l), .d (.int (n : Int))] ∧ r = .d (.bl true) ∧ (l.Perm (List.range n)) ∧ (n ≤ 1000)
theorem sc_is_order : FnScope N_is_order ["thing", "places"] (defScope (top 18)) := ⟨rfl, rfl, rfl, by decide +kernel, rfl, by decide +kernel, by decide +kernel⟩
theorem ok_is_order (T : Txt K mg) : Con P w K mg base "is_order" ["thing", "places"] 2 rel_is_order := by
  refine con_of (N := N_is_order) T.f_is_order sc_is_order (fun _ _ _ _ _ _ us hl => match us, hl with | [_, _], _ => rfl) (fun rs r h => ?_) (fun f cdv A outer s H E hr => ?_)
  · obtain ⟨_, _, rfl, rfl, _, _⟩ := h; exact ⟨rfl, by simp [ArgOk]⟩
  have nd := sc_is_order.nd
  refine ⟨_, (pss_cons (ps_if (PW.pt (pw_or (pt_not (pt_val (pe_callB (kx_isi K) rfl T.n_isinstance (by rfl) (pa_cons (pv 0) (pa_cons (pe_bltn (v := .ty "tuple") (u := .type "tuple") rfl T.n_tuple (by rfl) rfl) pa_nil))))) (pw_or1 (pt_cmpR op_ne (pe_callB (kx_len K) rfl T.n_len PySem.boot_len (pa_cons (pv 0) pa_nil)) (pv 1) (nomark _))))) (pss_one (ps_ret pe_bl)) pss_nil) (pss_one (ps_ret (pe_and (pe_callB (kx_all K rfl rfl) rfl T.n_all (by rfl) (pa_cons (pe_lc (own := [("one", 2)]) rfl nd (kpi_tup K rfl (pv 0)) (blkOk_by (N := N_is_order) (sc := defScope (top 18)) (by decide +kernel)) (fun _ _ _ _ _ => (pg_name (i := 2) nd rfl (Or.inl rfl))) (fun _ _ _ _ _ => pts_nil) (fun _ _ _ _ _ => (pe_con (ok_is_whole T) hr rfl (pa_cons (pv 2) (pa_cons pe_int (pa_cons (pe_op op_sub (pv 1) pe_int) pa_nil)))))) pa_nil)) (pe_one (pe_cmpR (kx_eqD K rfl hr.units) (pe_callB (kx_sortT K rfl hr.units) rfl T.n_sorted (by rfl) (pa_cons (pv 0) pa_nil)) (pe_listRg rfl rfl T.n_list (prg_1 rfl T.n_range (pv 1))) (nomark _))))))), ?_⟩
  rintro rs r ⟨l, n, rfl, rfl, hp, hn⟩
  have hl : l.length = n := by rw [hp.length_eq, List.length_range]
  have lt := perm_lt hp
  refine ds_seq (ds_no (DT.to (dt_or (dt_not (dt_B (de_isi (de_var rfl)))) fun _ => (dt_test (de_neI (de_len (by first | exact .inl (da_d (de_var rfl) da_nil) | exact .inr (da_d (de_var rfl) da_nil))) (de_var rfl)))) (by rw [isi_nats]; simp [hl])) ds_next) ?_
  refine ds_ret (DE.to (de_and (b := true) (c := true) (de_allTrue (l := l.map fun (z : Nat) => (z : Int)) (f := D.int) (de_var rfl) (fun z hz => ?_) (by rw [List.length_map]; omega)) fun _ => ?_) rfl)
  · obtain ⟨k, hk, rfl⟩ := List.mem_map.mp hz
    have := lt k hk
    exact DE.to (de_call (da_d (de_var rfl) (da_d de_int (da_d (de_I0 (de_var rfl) de_int) da_nil))) ⟨_, _, _, rfl, rfl⟩) (by simp; omega)
  · refine de_eqLL (xs := (ran n).map D.int) (ys := (ran n).map D.int) (de_r (de_sortT (ms := ran n) (da_d (de_var rfl) da_nil) (by simp; omega) (hp.symm.map _) (ran_sorted n))) (de_r (de_listRg (de_var rfl) hn)) (shaped_ints _) (shaped_ints _) (eqv_ints _)
abbrev N_is_move : List Str := ["thing", "places", "labels"]
def rel_is_move (rs : List R) (r : R) : Prop := ∃ (R : G.Rule) (m : G.Move), rs = [.d (eMove m), .d (.int (R.places : Int)), .d (.int (R.labs.length : Int))] ∧ r = .d (.bl true) ∧ (G.VMove R m) ∧ (R.places ≤ 1000)
theorem sc_is_move : FnScope N_is_move ["thing", "places", "labels"] (defScope (top 19)) := ⟨rfl, rfl, rfl, by decide +kernel, rfl, by decide +kernel, by decide +kernel⟩
theorem ok_is_move (T : Txt K mg) : Con P w K mg base "is_move" ["thing", "places", "labels"] 3 rel_is_move := by
  refine con_of (N := N_is_move) T.f_is_move sc_is_move (fun _ _ _ _ _ _ us hl => match us, hl with | [_, _, _], _ => rfl) (fun rs r h => ?_) (fun f cdv A outer s H E hr => ?_)
  · obtain ⟨_, _, rfl, rfl, _, _⟩ := h; exact ⟨rfl, by simp [ArgOk]⟩
  have nd := sc_is_move.nd
  refine ⟨_, (pss_cons (ps_if (PW.pt (pw_or (pt_not (pt_val (pe_callB (kx_isi K) rfl T.n_isinstance (by rfl) (pa_cons (pv 0) (pa_cons (pe_bltn (v := .ty "tuple") (u := .type "tuple") rfl T.n_tuple (by rfl) rfl) pa_nil))))) (pw_or1 (pt_cmpR op_ne (pe_callB (kx_len K) rfl T.n_len PySem.boot_len (pa_cons (pv 0) pa_nil)) pe_int (nomark _))))) (pss_one (ps_ret pe_bl)) pss_nil) (pss_one (ps_ret (pe_and (pe_con (ok_is_order T) hr rfl (pa_cons (pe_ix (kx_ixT K) (pv 0) pe_int (fun _ _ => rfl)) (pa_cons (pv 1) pa_nil))) (pe_one (pe_con (ok_is_whole T) hr rfl (pa_cons (pe_ix (kx_ixT K) (pv 0) pe_int (fun _ _ => rfl)) (pa_cons pe_int (pa_cons (pe_op op_sub (pv 2) pe_int) pa_nil))))))))), ?_⟩
  rintro rs r ⟨R, m, rfl, rfl, v, hn⟩
  refine ds_seq (ds_no (DT.to (dt_or (dt_not (dt_B (de_isi (de_var rfl)))) fun _ => (dt_test (de_neI (de_len (by first | exact .inl (da_d (de_var rfl) da_nil) | exact .inr (da_d (de_var rfl) da_nil))) de_int))) (by rw [isi_move]; rfl)) ds_next) ?_
  exact ds_ret (DE.to (de_and (de_call (da_d (de_ix (de_var rfl) de_int (by first | rfl | assumption | decide | omega | (simp; done) | (simp; omega))) (da_d (de_var rfl) da_nil)) ⟨_, _, rfl, rfl, v.perm, hn⟩) fun _ => (de_call (da_d (de_ix (de_var rfl) de_int (by first | rfl | assumption | decide | omega | (simp; done) | (simp; omega))) (da_d de_int (da_d (de_I0 (de_var rfl) de_int) da_nil))) ⟨_, _, _, rfl, rfl⟩)) (by have := v.lab; simp; omega))
abbrev N_are_moves : List Str := ["thing", "places", "labels", "one"]
def rel_are_moves (rs : List R) (r : R) : Prop := ∃ (R : G.Rule) (l : List G.Move), rs = [.d (.tup (l.map eMove)), .d (.int (R.places : Int)), .d (.int (R.labs.length : Int))] ∧ r = .d (.bl true) ∧ (∀ m ∈ l, G.VMove R m) ∧ (l.length = R.places) ∧ (R.places ≤ 1000)
theorem sc_are_moves : FnScope N_are_moves ["thing", "places", "labels"] (defScope (top 20)) := ⟨rfl, rfl, rfl, by decide +kernel, rfl, by decide +kernel, by decide +kernel⟩
theorem ok_are_moves (T : Txt K mg) : Con P w K mg base "are_moves" ["thing", "places", "labels"] 4 rel_are_moves := by
  refine con_of (N := N_are_moves) T.f_are_moves sc_are_moves (fun _ _ _ _ _ _ us hl => match us, hl with | [_, _, _], _ => rfl) (fun rs r h => ?_) (fun f cdv A outer s H E hr => ?_)
  · obtain ⟨_, _, rfl, rfl, _, _, _⟩ := h; exact ⟨rfl, by simp [ArgOk]⟩
  have nd := sc_are_moves.nd
  refine ⟨_, (pss_cons (ps_if (PW.pt (pw_or (pt_not (pt_val (pe_callB (kx_isi K) rfl T.n_isinstance (by rfl) (pa_cons (pv 0) (pa_cons (pe_bltn (v := .ty "tuple") (u := .type "tuple") rfl T.n_tuple (by rfl) rfl) pa_nil))))) (pw_or1 (pt_cmpR op_ne (pe_callB (kx_len K) rfl T.n_len PySem.boot_len (pa_cons (pv 0) pa_nil)) (pv 1) (nomark _))))) (pss_one (ps_ret pe_bl)) pss_nil) (pss_one (ps_ret (pe_callB (kx_all K rfl rfl) rfl T.n_all (by rfl) (pa_cons (pe_lc (own := [("one", 3)]) rfl nd (kpi_tup K rfl (pv 0)) (blkOk_by (N := N_are_moves) (sc := defScope (top 20)) (by decide +kernel)) (fun _ _ _ _ _ => (pg_name (i := 3) nd rfl (Or.inl rfl))) (fun _ _ _ _ _ => pts_nil) (fun _ _ _ _ _ => (pe_con (ok_is_move T) hr rfl (pa_cons (pv 3) (pa_cons (pv 1) (pa_cons (pv 2) pa_nil)))))) pa_nil))))), ?_⟩
  rintro rs r ⟨R, l, rfl, rfl, v, hl, hn⟩
  refine ds_seq (ds_no (DT.to (dt_or (dt_not (dt_B (de_isi (de_var rfl)))) fun _ => (dt_test (de_neI (de_len (by first | exact .inl (da_d (de_var rfl) da_nil) | exact .inr (da_d (de_var rfl) da_nil))) (de_var rfl)))) (by rw [sum_isi_tup]; simp [hl])) ds_next) ?_
  exact ds_ret (de_allTrue (de_var rfl) (fun m hm => (de_call (da_d (de_var rfl) (da_d (de_var rfl) (da_d (de_var rfl) da_nil))) ⟨_, _, rfl, rfl, v m hm, hn⟩)) (by omega))
abbrev N_is_label_row : List Str := ["thing", "places", "labels", "hits", "out", "comes"]
def rel_is_label_row (rs : List R) (r : R) : Prop := ∃ (R : G.Rule) (L : G.Lab), rs = [.d (eLab L), .d (.int (R.places : Int)), .d (.int (R.labs.length : Int))] ∧ r = .d (.bl true) ∧ (G.VLab R L) ∧ (R.places ≤ 1000)
theorem sc_is_label_row : FnScope N_is_label_row ["thing", "places", "labels"] (defScope (top 21)) := ⟨rfl, rfl, rfl, by decide +kernel, rfl, by decide +kernel, by decide +kernel⟩
theorem ok_is_label_row (T : Txt K mg) : Con P w K mg base "is_label_row" ["thing", "places", "labels"] 5 rel_is_label_row := by
  refine con_of (N := N_is_label_row) T.f_is_label_row sc_is_label_row (fun _ _ _ _ _ _ us hl => match us, hl with | [_, _, _], _ => rfl) (fun rs r h => ?_) (fun f cdv A outer s H E hr => ?_)
  · obtain ⟨_, _, rfl, rfl, _, _⟩ := h; exact ⟨rfl, by simp [ArgOk]⟩
  have nd := sc_is_label_row.nd
  refine ⟨_, (pss_cons (ps_if (PW.pt (pw_or (pt_not (pt_val (pe_callB (kx_isi K) rfl T.n_isinstance (by rfl) (pa_cons (pv 0) (pa_cons (pe_bltn (v := .ty "tuple") (u := .type "tuple") rfl T.n_tuple (by rfl) rfl) pa_nil))))) (pw_or1 (pt_cmpR op_ne (pe_callB (kx_len K) rfl T.n_len PySem.boot_len (pa_cons (pv 0) pa_nil)) pe_int (nomark _))))) (pss_one (ps_ret pe_bl)) pss_nil) (pss_cons (ps_asg (pv 0) (kpg_tup K rfl 3 rfl (pgs_cons (pg_name (i := 3) nd rfl (Or.inl rfl)) (pgs_cons (pg_name (i := 4) nd rfl (Or.inl rfl)) (pgs_cons (pg_name (i := 5) nd rfl (Or.inl rfl)) pgs_nil))))) (pss_one (ps_ret (pe_and (pe_con (ok_are_moves T) hr rfl (pa_cons (pv 3) (pa_cons (pv 1) (pa_cons (pv 2) pa_nil)))) (pe_and (pe_con (ok_is_whole T) hr rfl (pa_cons (pv 4) (pa_cons pe_int (pa_cons (pe_op op_sub (pv 1) pe_int) pa_nil)))) (pe_one (pe_con (ok_are_moves T) hr rfl (pa_cons (pv 5) (pa_cons (pv 1) (pa_cons (pv 2) pa_nil))))))))))), ?_⟩
  rintro rs r ⟨R, L, rfl, rfl, v, hn⟩
  refine ds_seq (ds_no (DT.to (dt_or (dt_not (dt_B (de_isi (de_var rfl)))) fun _ => (dt_test (de_neI (de_len (by first | exact .inl (da_d (de_var rfl) da_nil) | exact .inr (da_d (de_var rfl) da_nil))) de_int))) (by rw [isi_lab]; rfl)) ds_next) ?_
  refine ds_seq (ds_unp (de_var rfl) (gok_tp (gsok_cons (gsok_cons (gsok_cons gsok_nil)))) rfl) ?_
  exact ds_ret (DE.to (de_and (de_call (da_d (de_var rfl) (da_d (de_var rfl) (da_d (de_var rfl) da_nil))) ⟨_, _, rfl, rfl, (by first | exact v.hm | exact v.cm), (by first | exact v.hl | exact v.cl), hn⟩) fun _ => (de_and (de_call (da_d (de_var rfl) (da_d de_int (da_d (de_I0 (de_var rfl) de_int) da_nil))) ⟨_, _, _, rfl, rfl⟩) fun _ => (de_call (da_d (de_var rfl) (da_d (de_var rfl) (da_d (de_var rfl) da_nil))) ⟨_, _, rfl, rfl, (by first | exact v.hm | exact v.cm), (by first | exact v.hl | exact v.cl), hn⟩))) (by have := v.out; simp; omega))
abbrev N_is_rule : List Str := ["thing", "places", "labels", "one"]
def rel_is_rule (rs : List R) (r : R) : Prop := ∃ (R : G.Rule), rs = [.d (eRule R)] ∧ r = .d (.bl true) ∧ (VR R)
theorem sc_is_rule : FnScope N_is_rule ["thing"] (defScope (top 22)) := ⟨rfl, rfl, rfl, by decide +kernel, rfl, by decide +kernel, by decide +kernel⟩
theorem ok_is_rule (T : Txt K mg) : Con P w K mg base "is_rule" ["thing"] 6 rel_is_rule := by
  refine con_of (N := N_is_rule) T.f_is_rule sc_is_rule (fun _ _ _ _ _ _ us hl => match us, hl with | [_], _ => rfl) (fun rs r h => ?_) (fun f cdv A outer s H E hr => ?_)
  · obtain ⟨_, rfl, rfl, _⟩ := h; exact ⟨rfl, by simp [ArgOk]⟩
  have nd := sc_is_rule.nd
  refine ⟨_, (pss_cons (ps_if (PW.pt (pw_or (pt_not (pt_val (pe_callB (kx_isi K) rfl T.n_isinstance (by rfl) (pa_cons (pv 0) (pa_cons (pe_bltn (v := .ty "tuple") (u := .type "tuple") rfl T.n_tuple (by rfl) rfl) pa_nil))))) (pw_or1 (pt_cmpR op_ne (pe_callB (kx_len K) rfl T.n_len PySem.boot_len (pa_cons (pv 0) pa_nil)) pe_int (nomark _))))) (pss_one (ps_ret pe_bl)) pss_nil) (pss_cons (ps_asg (pv 0) (kpg_tup K rfl 2 rfl (pgs_cons (pg_name (i := 1) nd rfl (Or.inr rfl)) (pgs_cons (pg_name (i := 2) nd rfl (Or.inr rfl)) pgs_nil)))) (pss_cons (ps_if (PW.pt (pw_or (pt_not (pt_val (pe_con (ok_is_whole T) hr rfl (pa_cons (pv 1) (pa_cons pe_int (pa_cons (pe_const T.c_MOST_PLACES rfl) pa_nil)))))) (pw_or1 (pt_not (pt_val (pe_callB (kx_isi K) rfl T.n_isinstance (by rfl) (pa_cons (pv 2) (pa_cons (pe_bltn (v := .ty "tuple") (u := .type "tuple") rfl T.n_tuple (by rfl) rfl) pa_nil)))))))) (pss_one (ps_ret pe_bl)) pss_nil) (pss_cons (ps_if (pt_not (pt_chain op_le op_le pe_int (pe_callB (kx_len K) rfl T.n_len PySem.boot_len (pa_cons (pv 2) pa_nil)) (pe_const T.c_MOST_LABELS rfl))) (pss_one (ps_ret pe_bl)) pss_nil) (pss_one (ps_ret (pe_callB (kx_all K rfl rfl) rfl T.n_all (by rfl) (pa_cons (pe_lc (own := [("one", 3)]) rfl nd (kpi_tup K rfl (pv 2)) (blkOk_by (N := N_is_rule) (sc := defScope (top 22)) (by decide +kernel)) (fun _ _ _ _ _ => (pg_name (i := 3) nd rfl (Or.inl rfl))) (fun _ _ _ _ _ => pts_nil) (fun _ _ _ _ _ => (pe_con (ok_is_label_row T) hr rfl (pa_cons (pv 3) (pa_cons (pv 1) (pa_cons (pe_callB (kx_len K) rfl T.n_len PySem.boot_len (pa_cons (pv 2) pa_nil)) pa_nil)))))) pa_nil)))))))), ?_⟩
  rintro rs r ⟨R, rfl, rfl, v⟩
  have v : G.VRule R := v
  have h1 := v.pos
  have h2 := v.le
  have h3 := v.lpos
  have h4 := v.lle
  refine ds_seq (ds_no (DT.to (dt_or (dt_not (dt_B (de_isi (de_var rfl)))) fun _ => (dt_test (de_neI (de_len (by first | exact .inl (da_d (de_var rfl) da_nil) | exact .inr (da_d (de_var rfl) da_nil))) de_int))) (by rw [isi_rule]; rfl)) ds_next) ?_
  refine ds_seq (ds_unp (de_var rfl) (gok_tp (gsok_cons (gsok_cons gsok_nil))) rfl) ?_
  refine ds_seq (ds_no (DT.to (dt_or (dt_not (dt_B (de_call (da_d (de_var rfl) (da_d de_int (da_d (de_int) da_nil))) ⟨_, _, _, rfl, rfl⟩))) fun _ => (dt_not (dt_B (de_isi (de_var rfl))))) (by rw [sum_isi_tup]; simp; omega)) ds_next) ?_
  refine ds_seq (ds_no (DT.to (dt_not (dt_test (de_chainI de_int (de_len (by first | exact .inl (da_d (de_var rfl) da_nil) | exact .inr (da_d (de_var rfl) da_nil))) (de_int)))) (by simp; omega)) ds_next) ?_
  exact ds_ret (de_allTrue (de_var rfl) (fun L hL => DE.to (de_call (da_d (de_var rfl) (da_d (de_var rfl) (da_d (de_len (by first | exact .inl (da_d (de_var rfl) da_nil) | exact .inr (da_d (de_var rfl) da_nil))) da_nil))) ⟨R, L, by rw [List.length_map], rfl, v.labs L hL, by omega⟩) rfl) (by omega))
abbrev N_need_rule : List Str := ["rule"]
def rel_need_rule (rs : List R) (r : R) : Prop := ∃ (R : G.Rule), rs = [.d (eRule R)] ∧ r = .d .non ∧ (VR R)
theorem sc_need_rule : FnScope N_need_rule ["rule"] (defScope (top 23)) := ⟨rfl, rfl, rfl, by decide +kernel, rfl, by decide +kernel, by decide +kernel⟩
theorem ok_need_rule (T : Txt K mg) : Con P w K mg base "need_rule" ["rule"] 7 rel_need_rule := by
  refine con_ofN (N := N_need_rule) T.f_need_rule sc_need_rule (fun _ _ _ _ _ _ us hl => match us, hl with | [_], _ => rfl) (fun rs r h => ?_) (fun f cdv A outer s H E hr => ?_)
  · obtain ⟨_, rfl, rfl, _⟩ := h; exact ⟨rfl, by simp [ArgOk]⟩
  have nd := sc_need_rule.nd
  refine ⟨_, (pss_one (ps_if (pt_not (pt_val (pe_con (ok_is_rule T) hr rfl (pa_cons (pv 0) pa_nil)))) (pss_one ps_never) pss_nil)), ?_⟩
  rintro rs r ⟨R, rfl, rfl, v⟩
  exact ds_endN (ds_no (DT.to (dt_not (dt_B (de_call (da_d (de_var rfl) da_nil) ⟨_, rfl, rfl, v⟩))) rfl) ds_next)
end
end DL
-- part WM
set_option linter.all false
set_option maxRecDepth 100000
set_option maxHeartbeats 2000000
/-! Plain facts that the walk needs. -/
namespace DL
open PySem PySem.Spec PyProof.Rows L2
theorem atI_map {α : Type} {l : List α} {f : α → D} {i : Nat} {d : α} (h : i < l.length) : atI (l.map f) (i : Int) = some (f (l.getD i d)) := by
  refine atI_nat ?_
  rw [List.getElem?_map, List.getD_eq_getElem?_getD, List.getElem?_eq_getElem h]
  rfl
theorem cut_take {xs : List D} {p : Nat} (h : p ≤ xs.length) : cutD xs none (some (p : Int)) = xs.take p := by
  unfold cutD
  rw [HT.sIx_none, HT.sIx_nat, Nat.min_eq_left h]
  simp
theorem cut_drop {xs : List D} {p : Nat} (h : p ≤ xs.length) : cutD xs (some (p : Int)) none = xs.drop p := by
  unfold cutD
  rw [HT.sIx_none, HT.sIx_nat, Nat.min_eq_left h]
  refine List.take_of_length_le ?_
  rw [List.length_drop]
  omega
theorem cut_set {row : List Int} {p : Nat} {t : Int} (h : p < row.length) : cutD (row.map D.int) none (some (p : Int)) ++ [D.int t] ++ cutD (row.map D.int) (some ((p : Int) + 1)) none = (row.set p t).map D.int := by
  have e : ((p : Int) + 1) = ((p + 1 : Nat) : Int) := by omega
  rw [e, cut_take (by rw [List.length_map]; omega), cut_drop (by rw [List.length_map]; omega), List.map_set, List.set_eq_take_append_cons_drop, if_pos (by rw [List.length_map]; omega)]
  simp
/-- the things of a row, in rising order -/
def thingsOf (row : List Int) : List Int := (row.filter fun t => !decide (t = -1)).mergeSort fun a b => decide (a ≤ b)
theorem thingsOf_perm (row : List Int) : (thingsOf row).Perm (row.filter fun t => !decide (t = -1)) := List.mergeSort_perm _ _
theorem thingsOf_sorted (row : List Int) : (thingsOf row).Pairwise (· ≤ ·) :=
  (List.pairwise_mergeSort (fun a b c h1 h2 => by simp only [decide_eq_true_eq] at *; omega) (fun a b => by simp only [Bool.or_eq_true, decide_eq_true_eq]; omega) _).imp fun h => of_decide_eq_true h
theorem mem_thingsOf {row : List Int} {t : Int} : t ∈ thingsOf row ↔ t ∈ row ∧ t ≠ -1 := by
  rw [(thingsOf_perm row).mem_iff, List.mem_filter]
  simp
/-- what goes, as data -/
def goneD (R : G.Rule) (s : G.Sta) (t : Int) : D := if t ∈ s.1 then .non else if s.1.getD (G.placeOf R s) 0 = -1 then .non else .int (s.1.getD (G.placeOf R s) 0)
def stepD (R : G.Rule) (s : G.Sta) (t : Int) : D := .tup [.bl (decide (t ∈ s.1)), goneD R s t, eSta (G.step R s t)]
/-- a step's state is at hand -/
structure Ok (R : G.Rule) (s : G.Sta) : Prop where
  v : G.VRule R
  w : G.VSta R s
theorem Ok.lab {R : G.Rule} {s : G.Sta} (o : Ok R s) : atI (R.labs.map eLab) (s.2 : Int) = some (eLab (G.labOf R s)) := atI_map (d := default) o.w.lab
theorem Ok.vlab {R : G.Rule} {s : G.Sta} (o : Ok R s) : G.VLab R (G.labOf R s) := o.v.lab o.w.lab
theorem Ok.hit {R : G.Rule} {s : G.Sta} {t : Int} (o : Ok R s) (h : t ∈ s.1) : atI ((G.labOf R s).hits.map eMove) ((s.1.idxOf t : Nat) : Int) = some (eMove (G.hitMove R s t)) := by
  have := List.idxOf_lt_length_of_mem h
  rw [o.w.row.len] at this
  exact atI_map (d := ([], 0)) (by rw [o.vlab.hl]; exact this)
theorem Ok.placeLt {R : G.Rule} {s : G.Sta} (o : Ok R s) : G.placeOf R s < s.1.length := G.placeOf_lt o.v o.w
theorem Ok.come {R : G.Rule} {s : G.Sta} (o : Ok R s) : atI ((G.labOf R s).comes.map eMove) ((G.placeOf R s : Nat) : Int) = some (eMove (G.comeMove R s)) := by
  have := o.placeLt
  rw [o.w.row.len] at this
  exact atI_map (d := ([], 0)) (by rw [o.vlab.cl]; exact this)
theorem Ok.hitLt {R : G.Rule} {s : G.Sta} {t : Int} (o : Ok R s) (h : t ∈ s.1) : ∀ i ∈ (G.hitMove R s t).1, i < s.1.length := fun i hi => by rw [o.w.row.len]; exact (G.hitMove_ok o.v o.w h).lt i hi
theorem Ok.comeLt {R : G.Rule} {s : G.Sta} {t : Int} (o : Ok R s) : ∀ i ∈ (G.comeMove R s).1, i < (s.1.set (G.placeOf R s) t).length := fun i hi => by rw [List.length_set, o.w.row.len]; exact (G.comeMove_ok o.v o.w).lt i hi
theorem Ok.step {R : G.Rule} {s : G.Sta} {t : Int} (o : Ok R s) (h : -1 ≤ t) : Ok R (G.step R s t) := ⟨o.v, o.w.step o.v h⟩
theorem Ok.len {R : G.Rule} {s : G.Sta} (o : Ok R s) : s.1.length ≤ 4 := by rw [o.w.row.len]; exact o.v.le
theorem Ok.first {R : G.Rule} (v : G.VRule R) : Ok R (G.first R) := ⟨v, G.VSta.first v⟩
theorem map_int_toNat (o : List Nat) (row : List Int) : (o.map fun (n : Nat) => (n : Int)).map (fun z => D.int (row.getD z.toNat 0)) = (G.arranged row o).map D.int := by
  rw [List.map_map]
  unfold G.arranged
  rw [List.map_map]
  rfl
theorem rep_map (k : Nat) : List.replicate k (D.int (-1)) = (List.replicate k (-1 : Int)).map D.int := by rw [List.map_replicate]
theorem count_one {n : Nat} {row : List Int} (w : G.VRow n row) {t : Int} (h : t ∈ row) (ht : ¬ t = -1) : row.count t = 1 := by
  have h1 := w.one t ht
  have h2 := List.count_pos_iff.mpr h
  omega
/-- the run of requests, its hits, its losses -/
def hitsGo (R : G.Rule) : G.Sta → List Int → List Bool
  | _, [] => []
  | s, t :: ts => decide (t ∈ s.1) :: hitsGo R (G.step R s t) ts
def lostGo (R : G.Rule) : G.Sta → List Int → List D
  | _, [] => []
  | s, t :: ts => goneD R s t :: lostGo R (G.step R s t) ts
def hitsOf (R : G.Rule) (ts : List Int) : List Bool := hitsGo R (G.first R) ts
def lostOf (R : G.Rule) (ts : List Int) : List D := lostGo R (G.first R) ts
theorem hitsGo_snoc (R : G.Rule) : ∀ (ts : List Int) (s : G.Sta) (t : Int), hitsGo R s (ts ++ [t]) = hitsGo R s ts ++ [decide (t ∈ (ts.foldl (G.step R) s).1)]
  | [], s, t => rfl
  | u :: ts, s, t => by
    show decide (u ∈ s.1) :: hitsGo R (G.step R s u) (ts ++ [t]) = _
    rw [hitsGo_snoc R ts]
    rfl
theorem lostGo_snoc (R : G.Rule) : ∀ (ts : List Int) (s : G.Sta) (t : Int), lostGo R s (ts ++ [t]) = lostGo R s ts ++ [goneD R (ts.foldl (G.step R) s) t]
  | [], s, t => rfl
  | u :: ts, s, t => by
    show goneD R s u :: lostGo R (G.step R s u) (ts ++ [t]) = _
    rw [lostGo_snoc R ts]
    rfl
theorem hitsGo_length (R : G.Rule) : ∀ (ts : List Int) (s : G.Sta), (hitsGo R s ts).length = ts.length
  | [], s => rfl
  | u :: ts, s => congrArg (· + 1) (hitsGo_length R ts _)
theorem lostGo_length (R : G.Rule) : ∀ (ts : List Int) (s : G.Sta), (lostGo R s ts).length = ts.length
  | [], s => rfl
  | u :: ts, s => congrArg (· + 1) (lostGo_length R ts _)
theorem take_succ' {α : Type} {l : List α} {k : Nat} {a : α} (h : l[k]? = some a) : l.take (k + 1) = l.take k ++ [a] := by
  rw [List.take_add_one, h]; rfl
/-- requests -/
structure Req (ts : List Int) : Prop where
  lo : ∀ t ∈ ts, 0 ≤ t
  hi : ∀ t ∈ ts, t ≤ 99
  len : ts.length ≤ 60
theorem okRun {R : G.Rule} (v : G.VRule R) {ts : List Int} (h : ∀ t ∈ ts, 0 ≤ t) : Ok R (G.run R ts) := ⟨v, G.VSta.run v ts _ (G.VSta.first v) fun t ht => by have := h t ht; omega⟩
end DL
-- part W2
set_option linter.all false
set_option maxRecDepth 100000
set_option maxHeartbeats 2000000
namespace DL
open PySem PySem.Spec PyProof.Rows L2
section
variable {P : Program} {w : World} {K : PySem.W.Frag} {mg : Str → Option Value} {base : Heap}
abbrev N_need_rules : List Str := ["one", "other"]
def rel_need_rules (rs : List R) (r : R) : Prop := ∃ (R S : G.Rule), rs = [.d (eRule R), .d (eRule S)] ∧ r = .d .non ∧ (VR R) ∧ (VR S)
theorem sc_need_rules : FnScope N_need_rules ["one", "other"] (defScope (top 32)) := ⟨rfl, rfl, rfl, by decide +kernel, rfl, by decide +kernel, by decide +kernel⟩
theorem ok_need_rules (T : Txt K mg) : Con P w K mg base "need_rules" ["one", "other"] 8 rel_need_rules := by
  refine con_ofN (N := N_need_rules) T.f_need_rules sc_need_rules (fun _ _ _ _ _ _ us hl => match us, hl with | [_, _], _ => rfl) (fun rs r h => ?_) (fun f cdv A outer s H E hr => ?_)
  · obtain ⟨_, _, rfl, rfl, _, _⟩ := h; exact ⟨rfl, by simp [ArgOk]⟩
  have nd := sc_need_rules.nd
  refine ⟨_, (pss_cons (ps_expr (pe_con (ok_need_rule T) hr rfl (pa_cons (pv 0) pa_nil))) (pss_one (ps_expr (pe_con (ok_need_rule T) hr rfl (pa_cons (pv 1) pa_nil))))), ?_⟩
  rintro rs r ⟨R, S, rfl, rfl, v, v'⟩
  exact ds_endN (ds_seq (ds_drop (de_call (da_d (de_var rfl) da_nil) ⟨_, rfl, rfl, (by assumption)⟩)) (ds_drop (de_call (da_d (de_var rfl) da_nil) ⟨_, rfl, rfl, (by assumption)⟩)))
abbrev N_is_thing : List Str := ["thing"]
def rel_is_thing (rs : List R) (r : R) : Prop := ∃ (t : Int), rs = [.d (.int t)] ∧ r = .d (.bl (decide (0 ≤ t) && decide (t ≤ 99)))
theorem sc_is_thing : FnScope N_is_thing ["thing"] (defScope (top 24)) := ⟨rfl, rfl, rfl, by decide +kernel, rfl, by decide +kernel, by decide +kernel⟩
theorem ok_is_thing (T : Txt K mg) : Con P w K mg base "is_thing" ["thing"] 2 rel_is_thing := by
  refine con_of (N := N_is_thing) T.f_is_thing sc_is_thing (fun _ _ _ _ _ _ us hl => match us, hl with | [_], _ => rfl) (fun rs r h => ?_) (fun f cdv A outer s H E hr => ?_)
  · obtain ⟨_, rfl, rfl⟩ := h; exact ⟨rfl, by simp [ArgOk]⟩
  have nd := sc_is_thing.nd
  refine ⟨_, (pss_one (ps_ret (pe_con (ok_is_whole T) hr rfl (pa_cons (pv 0) (pa_cons pe_int (pa_cons (pe_const T.c_MOST_THING rfl) pa_nil)))))), ?_⟩
  rintro rs r ⟨t, rfl, rfl⟩
  exact ds_ret (de_call (da_d (de_var rfl) (da_d de_int (da_d (de_int) da_nil))) ⟨_, _, _, rfl, rfl⟩)
abbrev N_first_state : List Str := ["rule"]
def rel_first_state (rs : List R) (r : R) : Prop := ∃ (R : G.Rule), rs = [.d (eRule R)] ∧ r = .d (eSta (G.first R)) ∧ (VR R)
theorem sc_first_state : FnScope N_first_state ["rule"] (defScope (top 25)) := ⟨rfl, rfl, rfl, by decide +kernel, rfl, by decide +kernel, by decide +kernel⟩
theorem ok_first_state (T : Txt K mg) : Con P w K mg base "first_state" ["rule"] 1 rel_first_state := by
  refine con_of (N := N_first_state) T.f_first_state sc_first_state (fun _ _ _ _ _ _ us hl => match us, hl with | [_], _ => rfl) (fun rs r h => ?_) (fun f cdv A outer s H E hr => ?_)
  · obtain ⟨_, rfl, rfl, _⟩ := h; exact ⟨rfl, by simp [ArgOk]⟩
  have nd := sc_first_state.nd
  refine ⟨_, (pss_one (ps_ret (pe_tupF (pa_cons (pe_op (kx_repF K) (pe_tupF (pa_cons (pe_const T.c_BLANK rfl) pa_nil)) (pe_ix (kx_ixT K) (pv 0) pe_int (fun _ _ => rfl))) (pa_cons pe_int pa_nil))))), ?_⟩
  rintro rs r ⟨R, rfl, rfl, v⟩
  have v : G.VRule R := v
  have h1 := v.pos
  have h2 := v.le
  refine ds_ret (DE.to (r := .d (.tup [.tup (List.replicate R.places (.int (-1))), .int 0])) (de_tup (dd_cons (de_repT (k := R.places) (de_tup (dd_cons de_int dd_nil)) (de_ix (de_var rfl) de_int rfl) h1 (by omega)) (dd_cons de_int dd_nil))) ?_)
  rw [rep_map]
  rfl
abbrev N_is_row : List Str := ["thing", "places", "one"]
def rel_is_row (rs : List R) (r : R) : Prop := ∃ (row : List Int) (n : Nat), rs = [.d (eInts row), .d (.int (n : Int))] ∧ r = .d (.bl true) ∧ (G.VRow n row) ∧ (n ≤ 4) ∧ (∀ x ∈ row, x ≤ 99)
theorem sc_is_row : FnScope N_is_row ["thing", "places"] (defScope (top 26)) := ⟨rfl, rfl, rfl, by decide +kernel, rfl, by decide +kernel, by decide +kernel⟩
theorem ok_is_row (T : Txt K mg) : Con P w K mg base "is_row" ["thing", "places"] 2 rel_is_row := by
  refine con_of (N := N_is_row) T.f_is_row sc_is_row (fun _ _ _ _ _ _ us hl => match us, hl with | [_, _], _ => rfl) (fun rs r h => ?_) (fun f cdv A outer s H E hr => ?_)
  · obtain ⟨_, _, rfl, rfl, _, _, _⟩ := h; exact ⟨rfl, by simp [ArgOk]⟩
  have nd := sc_is_row.nd
  refine ⟨_, (pss_cons (ps_if (PW.pt (pw_or (pt_not (pt_val (pe_callB (kx_isi K) rfl T.n_isinstance (by rfl) (pa_cons (pv 0) (pa_cons (pe_bltn (v := .ty "tuple") (u := .type "tuple") rfl T.n_tuple (by rfl) rfl) pa_nil))))) (pw_or1 (pt_cmpR op_ne (pe_callB (kx_len K) rfl T.n_len PySem.boot_len (pa_cons (pv 0) pa_nil)) (pv 1) (nomark _))))) (pss_one (ps_ret pe_bl)) pss_nil) (pss_cons (ps_if (pt_not (pt_val (pe_callB (kx_all K rfl rfl) rfl T.n_all (by rfl) (pa_cons (pe_lc (own := [("one", 2)]) rfl nd (kpi_tup K rfl (pv 0)) (blkOk_by (N := N_is_row) (sc := defScope (top 26)) (by decide +kernel)) (fun _ _ _ _ _ => (pg_name (i := 2) nd rfl (Or.inl rfl))) (fun _ _ _ _ _ => pts_nil) (fun _ _ _ _ _ => (pe_con (ok_is_whole T) hr rfl (pa_cons (pv 2) (pa_cons (pe_const T.c_BLANK rfl) (pa_cons (pe_const T.c_MOST_THING rfl) pa_nil)))))) pa_nil)))) (pss_one (ps_ret pe_bl)) pss_nil) (pss_one (ps_ret (pe_callB (kx_all K rfl rfl) rfl T.n_all (by rfl) (pa_cons (pe_lc (own := [("one", 2)]) rfl nd (kpi_tup K rfl (pv 0)) (blkOk_by (N := N_is_row) (sc := defScope (top 26)) (by decide +kernel)) (fun _ _ _ _ _ => (pg_name (i := 2) nd rfl (Or.inl rfl))) (fun _ _ _ _ _ => pts_nil) (fun _ _ _ _ _ => (pe_or (pe_cmpR op_eq (pv 2) (pe_const T.c_BLANK rfl) (nomark _)) (pe_one (pe_cmpR op_eq (pe_bmT PySem.F.slot_tuple_count PySem.F.type_tuple_count (kx_count K) (pv 0) (pa_cons (pv 2) pa_nil)) pe_int (nomark _)))))) pa_nil)))))), ?_⟩
  rintro rs r ⟨row, n, rfl, rfl, v, hn, h9⟩
  have hl := v.len
  refine ds_seq (ds_no (DT.to (dt_or (dt_not (dt_B (de_isi (de_var rfl)))) fun _ => (dt_test (de_neI (de_len (by first | exact .inl (da_d (de_var rfl) da_nil) | exact .inr (da_d (de_var rfl) da_nil))) (de_var rfl)))) (by rw [isi_ints]; simp [hl])) ds_next) ?_
  refine ds_seq (ds_no (DT.to (dt_not (dt_B (de_allTrue (l := row) (f := D.int) (de_var rfl) (fun z hz => ?_) (by omega)))) rfl) ds_next) ?_
  · have h1 := v.ge z hz
    have h2 := h9 z hz
    exact DE.to (de_call (da_d (de_var rfl) (da_d (de_int) (da_d (de_int) da_nil))) ⟨_, _, _, rfl, rfl⟩) (by simp; omega)
  · refine ds_ret (de_allTrue (l := row) (f := D.int) (de_var rfl) (fun z hz => ?_) (by omega))
    exact DE.to (de_or (de_eqI (de_var rfl) (de_int)) fun _ => (de_eqI (de_count (de_var rfl) (de_var rfl)) de_int)) (by
      by_cases c : z = -1
      · simp [c]
      · have := count_one v hz c
        simp [c, this])
abbrev N_is_state_of : List Str := ["rule", "thing"]
def rel_is_state_of (rs : List R) (r : R) : Prop := ∃ (R : G.Rule) (s : G.Sta), rs = [.d (eRule R), .d (eSta s)] ∧ r = .d (.bl true) ∧ (Ok R s) ∧ (∀ x ∈ s.1, x ≤ 99)
theorem sc_is_state_of : FnScope N_is_state_of ["rule", "thing"] (defScope (top 27)) := ⟨rfl, rfl, rfl, by decide +kernel, rfl, by decide +kernel, by decide +kernel⟩
theorem ok_is_state_of (T : Txt K mg) : Con P w K mg base "is_state_of" ["rule", "thing"] 3 rel_is_state_of := by
  refine con_of (N := N_is_state_of) T.f_is_state_of sc_is_state_of (fun _ _ _ _ _ _ us hl => match us, hl with | [_, _], _ => rfl) (fun rs r h => ?_) (fun f cdv A outer s H E hr => ?_)
  · obtain ⟨_, _, rfl, rfl, _, _⟩ := h; exact ⟨rfl, by simp [ArgOk]⟩
  have nd := sc_is_state_of.nd
  refine ⟨_, (pss_cons (ps_if (PW.pt (pw_or (pt_not (pt_val (pe_callB (kx_isi K) rfl T.n_isinstance (by rfl) (pa_cons (pv 1) (pa_cons (pe_bltn (v := .ty "tuple") (u := .type "tuple") rfl T.n_tuple (by rfl) rfl) pa_nil))))) (pw_or1 (pt_cmpR op_ne (pe_callB (kx_len K) rfl T.n_len PySem.boot_len (pa_cons (pv 1) pa_nil)) pe_int (nomark _))))) (pss_one (ps_ret pe_bl)) pss_nil) (pss_one (ps_ret (pe_and (pe_con (ok_is_row T) hr rfl (pa_cons (pe_ix (kx_ixT K) (pv 1) pe_int (fun _ _ => rfl)) (pa_cons (pe_ix (kx_ixT K) (pv 0) pe_int (fun _ _ => rfl)) pa_nil))) (pe_one (pe_con (ok_is_whole T) hr rfl (pa_cons (pe_ix (kx_ixT K) (pv 1) pe_int (fun _ _ => rfl)) (pa_cons pe_int (pa_cons (pe_op op_sub (pe_callB (kx_len K) rfl T.n_len PySem.boot_len (pa_cons (pe_ix (kx_ixT K) (pv 0) pe_int (fun _ _ => rfl)) pa_nil)) pe_int) pa_nil))))))))), ?_⟩
  rintro rs r ⟨R, s, rfl, rfl, o, h9⟩
  have h1 := o.w.lab
  have h2 := o.v.le
  refine ds_seq (ds_no (DT.to (dt_or (dt_not (dt_B (de_isi (de_var rfl)))) fun _ => (dt_test (de_neI (de_len (by first | exact .inl (da_d (de_var rfl) da_nil) | exact .inr (da_d (de_var rfl) da_nil))) de_int))) (by rw [isi_sta]; rfl)) ds_next) ?_
  exact ds_ret (DE.to (de_and (de_call (da_d (de_ix (de_var rfl) de_int (by first | rfl | assumption | decide | omega | (simp; done) | (simp; omega))) (da_d (de_ix (de_var rfl) de_int (by first | rfl | assumption | decide | omega | (simp; done) | (simp; omega))) da_nil)) ⟨_, _, rfl, rfl, o.w.row, h2, h9⟩) fun _ => (de_call (da_d (de_ix (de_var rfl) de_int (by first | rfl | assumption | decide | omega | (simp; done) | (simp; omega))) (da_d de_int (da_d (de_I0 (de_len (by first | exact .inl (da_d (de_ix (de_var rfl) de_int (by first | rfl | assumption | decide | omega | (simp; done) | (simp; omega))) da_nil) | exact .inr (da_d (de_ix (de_var rfl) de_int (by first | rfl | assumption | decide | omega | (simp; done) | (simp; omega))) da_nil))) de_int) da_nil))) ⟨_, _, _, rfl, rfl⟩)) (by simp; omega))
abbrev N_things_of : List Str := ["row", "one"]
def rel_things_of (rs : List R) (r : R) : Prop := ∃ (row : List Int), rs = [.d (eInts row)] ∧ r = .d (eInts (thingsOf row)) ∧ (row.length ≤ 1000)
theorem sc_things_of : FnScope N_things_of ["row"] (defScope (top 28)) := ⟨rfl, rfl, rfl, by decide +kernel, rfl, by decide +kernel, by decide +kernel⟩
theorem ok_things_of (T : Txt K mg) : Con P w K mg base "things_of" ["row"] 1 rel_things_of := by
  refine con_of (N := N_things_of) T.f_things_of sc_things_of (fun _ _ _ _ _ _ us hl => match us, hl with | [_], _ => rfl) (fun rs r h => ?_) (fun f cdv A outer s H E hr => ?_)
  · obtain ⟨_, rfl, rfl, _⟩ := h; exact ⟨rfl, by simp [ArgOk]⟩
  have nd := sc_things_of.nd
  refine ⟨_, (pss_one (ps_ret (pe_callTy (kx_tup K) rfl T.n_tuple (by rfl) (pa_cons (pe_callB (kx_sortI K) rfl T.n_sorted (by rfl) (pa_cons (pe_lc (own := [("one", 1)]) rfl nd (kpi_tup K rfl (pv 0)) (blkOk_by (N := N_things_of) (sc := defScope (top 28)) (by decide +kernel)) (fun _ _ _ _ _ => (pg_name (i := 1) nd rfl (Or.inl rfl))) (fun _ _ _ _ _ => (pts_one (pt_cmpR op_ne (pv 1) (pe_const T.c_BLANK rfl) (nomark _)))) (fun _ _ _ _ _ => (pv 1))) pa_nil)) pa_nil)))), ?_⟩
  rintro rs r ⟨row, rfl, rfl, hl⟩
  exact ds_ret (de_tuple (da_l (de_sorted (ms := thingsOf row) (da_l (de_filT (l := row) (f := D.int) (fun t => !decide (t = -1)) D.int (de_var rfl) (fun z hz => (dt_test (de_neI (de_var rfl) (de_int)))) (fun z hz _ => (de_var rfl)) (by omega)) da_nil) (thingsOf_perm row) (thingsOf_sorted row)) da_nil))
abbrev N_arranged : List Str := ["row", "order", "at"]
def rel_arranged (rs : List R) (r : R) : Prop := ∃ (row : List Int) (o : List Nat), rs = [.d (eInts row), .d (eNats o)] ∧ r = .d (eInts (G.arranged row o)) ∧ (∀ i ∈ o, i < row.length) ∧ (o.length ≤ 1000)
theorem sc_arranged : FnScope N_arranged ["row", "order"] (defScope (top 29)) := ⟨rfl, rfl, rfl, by decide +kernel, rfl, by decide +kernel, by decide +kernel⟩
theorem ok_arranged (T : Txt K mg) : Con P w K mg base "arranged" ["row", "order"] 1 rel_arranged := by
  refine con_of (N := N_arranged) T.f_arranged sc_arranged (fun _ _ _ _ _ _ us hl => match us, hl with | [_, _], _ => rfl) (fun rs r h => ?_) (fun f cdv A outer s H E hr => ?_)
  · obtain ⟨_, _, rfl, rfl, _, _⟩ := h; exact ⟨rfl, by simp [ArgOk]⟩
  have nd := sc_arranged.nd
  refine ⟨_, (pss_one (ps_ret (pe_callTy (kx_tup K) rfl T.n_tuple (by rfl) (pa_cons (pe_lc (own := [("at", 2)]) rfl nd (kpi_tup K rfl (pv 1)) (blkOk_by (N := N_arranged) (sc := defScope (top 29)) (by decide +kernel)) (fun _ _ _ _ _ => (pg_name (i := 2) nd rfl (Or.inl rfl))) (fun _ _ _ _ _ => pts_nil) (fun _ _ _ _ _ => (pe_ix (kx_ixT K) (pv 0) (pv 2) (fun _ _ => rfl)))) pa_nil)))), ?_⟩
  rintro rs r ⟨row, o, rfl, rfl, h, hl⟩
  have e := map_int_toNat o row
  refine ds_ret (DE.to (de_tuple (da_l (de_mapT (l := o.map fun (n : Nat) => (n : Int)) (f := D.int) (fun z => D.int (row.getD z.toNat 0)) (de_var rfl) (fun z hz => ?_) (by rw [List.length_map]; omega)) da_nil)) (by rw [e]; rfl))
  obtain ⟨i, hi, rfl⟩ := List.mem_map.mp hz
  exact de_ix (de_var rfl) (de_var rfl) (atI_map (h i hi))
abbrev N_step : List Str := ["rule", "state", "thing", "row", "label", "hits", "out", "comes", "place", "gone", "order", "later", "filled"]
def rel_step (rs : List R) (r : R) : Prop := ∃ (R : G.Rule) (s : G.Sta) (t : Int), rs = [.d (eRule R), .d (eSta s), .d (.int t)] ∧ r = .d (stepD R s t) ∧ (Ok R s)
theorem sc_step : FnScope N_step ["rule", "state", "thing"] (defScope (top 30)) := ⟨rfl, rfl, rfl, by decide +kernel, rfl, by decide +kernel, by decide +kernel⟩
theorem ok_step (T : Txt K mg) : Con P w K mg base "step" ["rule", "state", "thing"] 2 rel_step := by
  refine con_of (N := N_step) T.f_step sc_step (fun _ _ _ _ _ _ us hl => match us, hl with | [_, _, _], _ => rfl) (fun rs r h => ?_) (fun f cdv A outer s H E hr => ?_)
  · obtain ⟨_, _, _, rfl, rfl, _⟩ := h; exact ⟨rfl, by simp [ArgOk]⟩
  have nd := sc_step.nd
  refine ⟨_, (pss_cons (ps_asg (pv 1) (kpg_tup K rfl 2 rfl (pgs_cons (pg_name (i := 3) nd rfl (Or.inl rfl)) (pgs_cons (pg_name (i := 4) nd rfl (Or.inl rfl)) pgs_nil)))) (pss_cons (ps_asg (pe_ix (kx_ixT K) (pe_ix (kx_ixT K) (pv 0) pe_int (fun _ _ => rfl)) (pv 4) (fun _ _ => rfl)) (kpg_tup K rfl 3 rfl (pgs_cons (pg_name (i := 5) nd rfl (Or.inl rfl)) (pgs_cons (pg_name (i := 6) nd rfl (Or.inl rfl)) (pgs_cons (pg_name (i := 7) nd rfl (Or.inl rfl)) pgs_nil))))) (pss_cons (ps_if (pt_cmpR (kx_in K) (pv 2) (pv 3) (by rfl)) (pss_cons (ps_asg (pe_ix (kx_ixT K) (pv 5) (pe_bmT PySem.F.slot_tuple_index PySem.F.type_tuple_index (kx_index K) (pv 3) (pa_cons (pv 2) pa_nil)) (fun _ _ => rfl)) (kpg_tup K rfl 2 rfl (pgs_cons (pg_name (i := 10) nd rfl (Or.inl rfl)) (pgs_cons (pg_name (i := 11) nd rfl (Or.inl rfl)) pgs_nil)))) (pss_one (ps_ret (pe_tupF (pa_cons pe_bl (pa_cons pe_non (pa_cons (pe_tupF (pa_cons (pe_con (ok_arranged T) hr rfl (pa_cons (pv 3) (pa_cons (pv 10) pa_nil))) (pa_cons (pv 11) pa_nil))) pa_nil))))))) pss_nil) (pss_cons (ps_set (i := 8) nd rfl (Or.inl rfl) (pe_ifExp (pt_cmpR (kx_in K) (pe_const T.c_BLANK rfl) (pv 3) (by rfl)) (pe_bmT PySem.F.slot_tuple_index PySem.F.type_tuple_index (kx_index K) (pv 3) (pa_cons (pe_const T.c_BLANK rfl) pa_nil)) (pv 6))) (pss_cons (ps_set (i := 9) nd rfl (Or.inl rfl) (pe_ifExp (pt_cmpR op_eq (pe_ix (kx_ixT K) (pv 3) (pv 8) (fun _ _ => rfl)) (pe_const T.c_BLANK rfl) (nomark _)) pe_non (pe_ix (kx_ixT K) (pv 3) (pv 8) (fun _ _ => rfl)))) (pss_cons (ps_asg (pe_ix (kx_ixT K) (pv 7) (pv 8) (fun _ _ => rfl)) (kpg_tup K rfl 2 rfl (pgs_cons (pg_name (i := 10) nd rfl (Or.inl rfl)) (pgs_cons (pg_name (i := 11) nd rfl (Or.inl rfl)) pgs_nil)))) (pss_cons (ps_set (i := 12) nd rfl (Or.inl rfl) (pe_op (kx_catF K) (pe_op (kx_catF K) (pe_slice (kx_sl K) (pv 3) po_none (po_some (pv 8))) (pe_tupF (pa_cons (pv 2) pa_nil))) (pe_slice (kx_sl K) (pv 3) (po_some (pe_op op_add (pv 8) pe_int)) po_none))) (pss_one (ps_ret (pe_tupF (pa_cons pe_bl (pa_cons (pv 9) (pa_cons (pe_tupF (pa_cons (pe_con (ok_arranged T) hr rfl (pa_cons (pv 12) (pa_cons (pv 10) pa_nil))) (pa_cons (pv 11) pa_nil))) pa_nil))))))))))))), ?_⟩
  rintro rs r ⟨R, s, t, rfl, rfl, o⟩
  have hl := o.len
  have hv := o.vlab
  have pl := o.placeLt
  refine ds_seq (ds_unp (de_var rfl) (gok_tp (gsok_cons (gsok_cons gsok_nil))) rfl) ?_
  refine ds_seq (ds_unp (x := eLab (G.labOf R s)) (de_ix (de_ix (de_var rfl) de_int rfl) (de_var rfl) o.lab) (gok_tp (gsok_cons (gsok_cons (gsok_cons gsok_nil)))) rfl) ?_
  by_cases h : t ∈ s.1
  · have e : stepD R s t = .tup [.bl true, .non, .tup [eInts (G.arranged s.1 (G.hitMove R s t).1), .int ((G.hitMove R s t).2 : Int)]] := by
      unfold stepD goneD
      rw [if_pos h, G.step_hit h, decide_eq_true h]
      rfl
    rw [e]
    refine ds_stop (ds_yes (DT.to (dt_test (de_in (de_var rfl) (de_var rfl))) (decide_eq_true h)) ?_)
    refine ds_seq (ds_unp (x := eMove (G.hitMove R s t)) (de_ix (de_var rfl) (de_index (de_var rfl) (de_var rfl) h) (o.hit h)) (gok_tp (gsok_cons (gsok_cons gsok_nil))) rfl) ?_
    exact ds_ret (de_tup (dd_cons de_bl (dd_cons de_non (dd_cons (de_tup (dd_cons (de_call (da_d (de_var rfl) (da_d (de_var rfl) da_nil)) ⟨_, _, rfl, rfl, o.hitLt h, (by have := (G.hitMove_ok o.v o.w h).perm.length_eq; rw [List.length_range] at this; have := o.v.le; omega)⟩) (dd_cons (de_var rfl) dd_nil))) dd_nil))))
  · have ec : ¬ t ∈ s.1 := h
    refine ds_seq (ds_no (DT.to (dt_test (de_in (de_var rfl) (de_var rfl))) (decide_eq_false h)) ds_next) ?_
    refine ds_seq (ds_set (x := .int ((G.placeOf R s : Nat) : Int)) (de_if (dt_test (de_in (de_int) (de_var rfl))) (fun hb => ?_) fun hb => ?_)) ?_
    · have hb := of_decide_eq_true hb
      have ep : G.placeOf R s = s.1.idxOf (-1) := by unfold G.placeOf; rw [if_pos hb]
      rw [ep]
      exact de_index (de_var rfl) de_int hb
    · have hb := of_decide_eq_false hb
      have ep : G.placeOf R s = (G.labOf R s).out := by unfold G.placeOf; rw [if_neg hb]
      rw [ep]
      exact de_var rfl
    refine ds_seq (ds_set (x := goneD R s t) (de_if (dt_test (de_eqI (de_ix (de_var rfl) (de_var rfl) (atI_map (d := 0) pl)) de_int)) (fun hb => ?_) fun hb => ?_)) ?_
    · have hb := of_decide_eq_true hb
      have eg : goneD R s t = .non := by unfold goneD; rw [if_neg h, if_pos hb]
      rw [eg]
      exact de_non
    · have hb := of_decide_eq_false hb
      have eg : goneD R s t = .int (s.1.getD (G.placeOf R s) 0) := by unfold goneD; rw [if_neg h, if_neg hb]
      rw [eg]
      exact de_ix (de_var rfl) (de_var rfl) (atI_map pl)
    refine ds_seq (ds_unp (x := eMove (G.comeMove R s)) (de_ix (de_var rfl) (de_var rfl) o.come) (gok_tp (gsok_cons (gsok_cons gsok_nil))) rfl) ?_
    refine ds_seq (ds_set (x := eInts (s.1.set (G.placeOf R s) t)) (DE.to (de_cat (de_cat (de_sl (de_var rfl) do_none (do_some (de_var rfl))) (de_tup (dd_cons (de_var rfl) dd_nil)) ?_) (de_sl (de_var rfl) (do_some (de_I0 (de_var rfl) de_int)) do_none) ?_) (by rw [cut_set pl]; rfl))) ?_
    · unfold cutD; simp [List.length_take]; omega
    · unfold cutD; simp [List.length_take]; omega
    have e : stepD R s t = .tup [.bl false, goneD R s t, .tup [eInts (G.arranged (s.1.set (G.placeOf R s) t) (G.comeMove R s).1), .int ((G.comeMove R s).2 : Int)]] := by
      unfold stepD
      rw [G.step_miss h, decide_eq_false h]
      rfl
    rw [e]
    have hc := o.comeLt (t := t)
    have hcl : (G.comeMove R s).1.length ≤ 1000 := by have := (G.comeMove_ok o.v o.w).perm.length_eq; rw [List.length_range] at this; have := o.v.le; omega
    exact ds_ret (de_tup (dd_cons de_bl (dd_cons (de_var rfl) (dd_cons (de_tup (dd_cons (de_call (da_d (de_var rfl) (da_d (de_var rfl) da_nil)) ⟨_, _, rfl, rfl, hc, hcl⟩) (dd_cons (de_var rfl) dd_nil))) dd_nil))))
end
end DL
-- part WM2
set_option linter.all false
set_option maxRecDepth 100000
set_option maxHeartbeats 2000000
/-! Plain facts that the walk needs: numbering, the greatest number. -/
namespace DL
open PySem PySem.Spec PyProof.Rows L2
def numL (acc : List Int) : List (Int × Int) := (-1, -1) :: acc.zipIdx.map fun p => (p.1, (p.2 : Int))
theorem numL_snoc (acc : List Int) (t : Int) : numL (acc ++ [t]) = numL acc ++ [(t, (acc.length : Int))] := by
  unfold numL
  rw [List.zipIdx_append, List.map_append]
  simp
theorem numL_length (acc : List Int) : (numL acc).length = acc.length + 1 := by
  unfold numL
  rw [List.length_cons, List.length_map, List.length_zipIdx]
theorem lookup_zip : ∀ (acc : List Int) (k : Nat) (t : Int), ((acc.zipIdx k).map fun p => (p.1, (p.2 : Int))).lookup t = if t ∈ acc then some (((acc.idxOf t + k : Nat) : Int)) else none
  | [], k, t => rfl
  | x :: acc, k, t => by
    rw [List.zipIdx_cons, List.map_cons, List.lookup_cons, lookup_zip acc (k + 1) t]
    by_cases c : t = x
    · subst c
      simp
    · have c' : ¬ x = t := fun z => c z.symm
      have e1 : (t == x) = false := beq_eq_false_iff_ne.mpr c
      have e2 : (x == t) = false := beq_eq_false_iff_ne.mpr c'
      simp only [e1, List.mem_cons, c, false_or]
      by_cases m : t ∈ acc
      · rw [if_pos m, if_pos m, List.idxOf_cons, e2]
        simp only [cond_false]
        congr 2
        omega
      · rw [if_neg m, if_neg m]
theorem lookup_num (acc : List Int) (t : Int) : (numL acc).lookup t = if t = -1 then some (-1) else if t ∈ acc then some ((acc.idxOf t : Nat) : Int) else none := by
  unfold numL
  rw [List.lookup_cons, lookup_zip acc 0 t]
  by_cases c : t = -1
  · subst c; rfl
  · have e1 : (t == -1) = false := beq_eq_false_iff_ne.mpr c
    rw [e1, if_neg c]
    simp
theorem seen_snoc (l : List Int) (t : Int) : G.seen (l ++ [t]) = G.seenStep (G.seen l) t := by
  unfold G.seen
  rw [List.foldl_append]
  rfl
theorem seen_le (l : List Int) : (G.seen l).length ≤ l.length := by
  have key : ∀ (l acc : List Int), (l.foldl G.seenStep acc).length ≤ acc.length + l.length := fun l => by
    induction l with
    | nil => intro acc; simp
    | cons x l ih =>
      intro acc
      rw [List.foldl_cons]
      have := ih (G.seenStep acc x)
      have h2 : (G.seenStep acc x).length ≤ acc.length + 1 := by
        unfold G.seenStep
        split
        · omega
        · simp
      rw [List.length_cons]
      omega
  have := key l []
  unfold G.seen
  simpa using this
theorem num_ok {l : List Int} {t : Int} (h : t ∈ l) : (numL (G.seen l)).lookup t = some (G.num l t) := by
  rw [lookup_num]
  unfold G.num
  by_cases c : t = -1
  · rw [if_pos c, if_pos c]
  · rw [if_neg c, if_neg c, if_pos (G.mem_seen.mpr ⟨h, c⟩)]
/-- the greatest number of a named pair -/
theorem hm_max {R S : G.Rule} {a : G.Arr} (w : G.VArr R S a) (hR : 1 ≤ R.places) (hc : G.named a = a) : ((G.hm a : Nat) : Int) - 1 ∈ G.rows a ∧ ∀ y ∈ G.rows a, y ≤ ((G.hm a : Nat) : Int) - 1 := by
  have er : G.rows a = (G.rows a).map (G.num (G.rows a)) := by
    conv => lhs; rw [← hc]
    exact G.rows_ren _ a
  have fix : ∀ t ∈ G.rows a, G.num (G.rows a) t = t := by
    have key : ∀ (l : List Int) (f : Int → Int), l = l.map f → ∀ t ∈ l, f t = t := fun l f h => by
      intro t ht
      obtain ⟨i, hi, rfl⟩ := List.mem_iff_getElem.mp ht
      have h2 : l[i]? = (l.map f)[i]? := by rw [← h]
      rw [List.getElem?_map, List.getElem?_eq_getElem hi] at h2
      exact (Option.some.inj h2).symm
    exact key _ _ er
  have lt : ∀ t ∈ G.rows a, t ≠ -1 → t < (G.hm a : Nat) := fun t ht n => by
    have e := fix t ht
    unfold G.num at e
    rw [if_neg n] at e
    have := List.idxOf_lt_length_of_mem (G.mem_seen.mpr ⟨ht, n⟩)
    unfold G.hm
    omega
  refine ⟨?_, fun y hy => ?_⟩
  · by_cases c : G.hm a = 0
    · have ne : G.rows a ≠ [] := by
        intro z
        have h1 := w.1.row.len
        have : (G.rows a).length = 0 := by rw [z]; rfl
        unfold G.rows at this
        rw [List.length_append] at this
        omega
      obtain ⟨t, r, e⟩ := List.exists_cons_of_ne_nil ne
      have ht : t ∈ G.rows a := by rw [e]; exact List.mem_cons_self
      have e1 : t = -1 := by
        by_cases q : t = -1
        · exact q
        · have q2 := List.length_pos_of_mem (G.mem_seen.mpr ⟨ht, q⟩)
          unfold G.hm at c
          omega
      rw [c, ← show t = ((0 : Nat) : Int) - 1 by omega]
      exact ht
    · have hl : G.hm a - 1 < (G.seen (G.rows a)).length := by show G.hm a - 1 < G.hm a; omega
      have mem : (G.seen (G.rows a))[G.hm a - 1] ∈ G.seen (G.rows a) := List.getElem_mem hl
      obtain ⟨m1, m2⟩ := G.mem_seen.mp mem
      have e := fix _ m1
      unfold G.num at e
      rw [if_neg m2] at e
      have e2 := G.idxOf_getD (G.seen_nodup (G.rows a)) hl
      rw [List.getD_eq_getElem?_getD, List.getElem?_eq_getElem hl] at e2
      have e2 : (G.seen (G.rows a)).idxOf (G.seen (G.rows a))[G.hm a - 1] = G.hm a - 1 := e2
      rw [e2] at e
      have : ((G.hm a : Nat) : Int) - 1 = ((G.hm a - 1 : Nat) : Int) := by omega
      rw [this, e]
      exact m1
  · by_cases q : y = -1
    · omega
    · have := lt y hy q
      omega
end DL
-- part W3
set_option linter.all false
set_option maxRecDepth 100000
set_option maxHeartbeats 2000000
namespace DL
open PySem PySem.Spec PyProof.Rows L2
section
variable {P : Program} {w : World} {K : PySem.W.Frag} {mg : Str → Option Value} {base : Heap}
abbrev N_first_pair : List Str := ["one", "other"]
def rel_first_pair (rs : List R) (r : R) : Prop := ∃ (R S : G.Rule), rs = [.d (eRule R), .d (eRule S)] ∧ r = .d (eArr (G.start R S)) ∧ (VR R) ∧ (VR S)
theorem sc_first_pair : FnScope N_first_pair ["one", "other"] (defScope (top 34)) := ⟨rfl, rfl, rfl, by decide +kernel, rfl, by decide +kernel, by decide +kernel⟩
theorem ok_first_pair (T : Txt K mg) : Con P w K mg base "first_pair" ["one", "other"] 2 rel_first_pair := by
  refine con_of (N := N_first_pair) T.f_first_pair sc_first_pair (fun _ _ _ _ _ _ us hl => match us, hl with | [_, _], _ => rfl) (fun rs r h => ?_) (fun f cdv A outer s H E hr => ?_)
  · obtain ⟨_, _, rfl, rfl, _, _⟩ := h; exact ⟨rfl, by simp [ArgOk]⟩
  have nd := sc_first_pair.nd
  refine ⟨_, (pss_one (ps_ret (pe_tupF (pa_cons (pe_con (ok_first_state T) hr rfl (pa_cons (pv 0) pa_nil)) (pa_cons (pe_con (ok_first_state T) hr rfl (pa_cons (pv 1) pa_nil)) pa_nil))))), ?_⟩
  rintro rs r ⟨R, S, rfl, rfl, v, v'⟩
  exact ds_ret (de_tup (dd_cons (de_call (da_d (de_var rfl) da_nil) ⟨_, rfl, rfl, (by assumption)⟩) (dd_cons (de_call (da_d (de_var rfl) da_nil) ⟨_, rfl, rfl, (by assumption)⟩) dd_nil)))
def retOf : Stmt → Expr
  | .Return (some e) _ => e
  | _ => .Constant .none 0 ⟨0, 0, 0, 0⟩
def argOf : Expr → Expr
  | .Call _ (e :: _) _ _ => e
  | _ => .Constant .none 0 ⟨0, 0, 0, 0⟩
def scopeOf : Expr → Scope
  | .ListComp _ _ sc _ => sc
  | _ => { kind := .function, names := [], isGenerator := false, isCoroutine := false }
abbrev N_named : List Str := ["mine", "its", "numbers", "thing", "row", "label"]
def rel_named (rs : List R) (r : R) : Prop := ∃ (a : G.Arr), rs = [.d (eSta a.1), .d (eSta a.2)] ∧ r = .d (eArr (G.named a)) ∧ (a.1.1.length ≤ 4) ∧ (a.2.1.length ≤ 4)
theorem sc_named : FnScope N_named ["mine", "its"] (defScope (top 33)) := ⟨rfl, rfl, rfl, by decide +kernel, rfl, by decide +kernel, by decide +kernel⟩
theorem ok_named (T : Txt K mg) : Con P w K mg base "named" ["mine", "its"] 1 rel_named := by
  refine con_of (N := N_named) T.f_named sc_named (fun _ _ _ _ _ _ us hl => match us, hl with | [_, _], _ => rfl) (fun rs r h => ?_) (fun f cdv A outer s H E hr => ?_)
  · obtain ⟨_, rfl, rfl, _, _⟩ := h; exact ⟨rfl, by simp [ArgOk]⟩
  have nd := sc_named.nd
  have hu := hu_of hr
  refine ⟨_, (pss_cons (ps_set (i := 2) nd rfl (Or.inr rfl) (pe_dict1K (pe_const T.c_BLANK rfl) (pe_const T.c_BLANK rfl))) (pss_cons (ps_for PassesOwn.never rfl (kpi_tup K rfl (pe_op (kx_catF K) (pe_ix (kx_ixT K) (pv 0) pe_int (fun _ _ => rfl)) (pe_ix (kx_ixT K) (pv 1) pe_int (fun _ _ => rfl)))) (pg_name (i := 3) nd rfl (Or.inl rfl)) (pss_one (ps_if (pt_cmp (pc_dnotin (hu_of hr) (pv 3) (pv 2))) (pss_one (ps_dput hu (pv 2) (pv 3) (pe_op op_sub (pe_callB call_lenD rfl T.n_len PySem.boot_len (pa_cons (pv 2) pa_nil)) pe_int) rfl)) pss_nil))) (pss_one (ps_ret (pe_callTy (kx_tup K) rfl T.n_tuple (by rfl) (pa_cons (pe_lc (own := [("row", 4), ("label", 5)]) rfl nd (kpi_tup K rfl (pe_tupF (pa_cons (pv 0) (pa_cons (pv 1) pa_nil)))) (blkOk_by (N := N_named) (sc := defScope (top 33)) (by decide +kernel)) (fun _ _ _ _ _ => kpg_tup K rfl 2 rfl (pgs_cons (pg_name (i := 4) nd rfl (Or.inl rfl)) (pgs_cons (pg_name (i := 5) nd rfl (Or.inl rfl)) pgs_nil))) (fun _ _ _ _ _ => pts_nil)
    (fun _ _ _ _ _ => (pe_tupF (pa_cons (pe_callTy (kx_tup K) rfl T.n_tuple (by rfl) (pa_cons
      (pe_lc (own := [("thing", 3)]) rfl nd (kpi_tup K rfl (pv 4)) (blkOk_by (N := N_named) (sc := relS (scopeOf (argOf (retOf ((defBody (top 33)).getD 2 (.Pass ⟨0, 0, 0, 0⟩))))) (defScope (top 33))) (by decide +kernel)) (fun _ _ _ _ _ => pg_name (i := 3) nd rfl (Or.inl rfl)) (fun _ _ _ _ _ => pts_nil) (fun _ _ _ _ _ => pe_dget hu (pv 2) (pv 3) (fun _ _ => rfl))) pa_nil)) (pa_cons (pv 5) pa_nil))))) pa_nil)))))), ?_⟩
  rintro rs r ⟨a, rfl, rfl, l1, l2⟩
  obtain ⟨⟨r1, b1⟩, ⟨r2, b2⟩⟩ := a
  have l1 : r1.length ≤ 4 := l1
  have l2 : r2.length ≤ 4 := l2
  refine ds_seq (ds_put (r := .k (kI (numL (G.seen [])))) (dv_k (de_dict1K de_int de_int))) ?_
  refine ds_seq (ds_forT (ds := (r1 ++ r2).map D.int) gok_nm (DE.to (de_cat (ds := r1.map D.int) (es := r2.map D.int) (de_ix (de_var rfl) de_int rfl) (de_ix (de_var rfl) de_int rfl) (by simp; omega)) (by rw [List.map_append]))
    (loop_all (fun k => [some (.d (eSta (r1, b1))), some (.d (eSta (r2, b2))), some (.k (kI (numL (G.seen ((r1 ++ r2).take k))))), none, none, none]) rfl (fun k d hd => ?_))) ?_
  · rw [List.getElem?_map] at hd
    obtain ⟨t, ht, rfl⟩ := Option.map_eq_some_iff.mp hd
    refine ⟨_, rfl, ?_⟩
    have e := take_succ' ht
    rw [e, seen_snoc]
    have hl : (G.seen ((r1 ++ r2).take k)).length ≤ 8 := by
      have h1 := seen_le ((r1 ++ r2).take k)
      have h2 : ((r1 ++ r2).take k).length ≤ (r1 ++ r2).length := by rw [List.length_take]; omega
      rw [List.length_append] at h2
      omega
    generalize G.seen ((r1 ++ r2).take k) = acc at hl ⊢
    have lk := lookup_num acc t
    by_cases c : t = -1 ∨ t ∈ acc
    · have e2 : G.seenStep acc t = acc := by unfold G.seenStep; rw [if_pos c]
      have e3 : ((numL acc).lookup t).isSome = true := by
        rw [lk]
        rcases c with c | c
        · rw [if_pos c]; rfl
        · by_cases q : t = -1
          · rw [if_pos q]; rfl
          · rw [if_neg q, if_pos c]; rfl
      rw [e2]
      exact ds_fg (ds_no (DT.to (dt_B (de_knotin (de_var rfl) rfl)) (by rw [e3]; rfl)) ds_next) ⟨.inr rfl, .inr rfl, .inr rfl, .inl rfl, .inl rfl, .inl rfl, trivial⟩
    · have e2 : G.seenStep acc t = acc ++ [t] := by unfold G.seenStep; rw [if_neg c]
      have c1 : ¬ t = -1 := fun z => c (.inl z)
      have c2 : ¬ t ∈ acc := fun z => c (.inr z)
      have e3 : (numL acc).lookup t = none := by rw [lk, if_neg c1, if_neg c2]
      rw [e2, numL_snoc]
      refine ds_fg (ds_yes (DT.to (dt_B (de_knotin (de_var rfl) rfl)) (by rw [e3]; rfl)) (ds_kput rfl (de_var rfl) (de_I0 (de_klen rfl) de_int (n := (acc.length : Int)) (by rw [numL_length]; show V.int _ = V.int _; congr 1; omega)) e3 (by rw [numL_length]; omega))) ⟨.inr rfl, .inr rfl, .inr rfl, .inl rfl, .inl rfl, .inl rfl, trivial⟩
  · have et : (r1 ++ r2).take ((r1 ++ r2).map D.int).length = r1 ++ r2 := by rw [List.length_map]; exact List.take_length
    rw [et]
    have one : ∀ (row : List Int) (b : Nat) (δ' : Env), (∀ t ∈ row, t ∈ r1 ++ r2) → row.length ≤ 4 → δ' = [some (.d (eSta (r1, b1))), some (.d (eSta (r2, b2))), some (.k (kI (numL (G.seen (r1 ++ r2))))), none, some (.d (eInts row)), some (.d (.int (b : Int)))] →
        DE (tTupF (tCons (tCB (rTupF K) (tCons (tLc (iTup K (tVar 4)) (gName 3) tYes (tDGet (tVar 2) (tVar 3)) [3]) tNil)) (tCons (tVar 5) tNil))) δ' (.d (eSta (row.map (G.num (r1 ++ r2)), b))) := fun row b δ' hm hl e => by
      subst e
      refine DE.to (de_tup (dd_cons (de_tuple (da_l (de_mapT (l := row) (f := D.int) (fun t => D.int (G.num (r1 ++ r2) t)) (de_var rfl) (fun t ht => de_kget rfl (de_var rfl) (num_ok (hm t ht))) (by omega)) da_nil)) (dd_cons (de_var rfl) dd_nil))) ?_
      show R.d (.tup [.tup (row.map fun t => D.int (G.num (r1 ++ r2) t)), .int (b : Int)]) = R.d (.tup [.tup ((row.map (G.num (r1 ++ r2))).map D.int), .int (b : Int)])
      rw [List.map_map]
      rfl
    refine ds_ret (de_tuple (da_l (de_lcT (ds := [eSta (r1, b1), eSta (r2, b2)]) (xs := [eSta (r1.map (G.num (r1 ++ r2)), b1), eSta (r2.map (G.num (r1 ++ r2)), b2)]) (de_tup (dd_cons (de_var rfl) (dd_cons (de_var rfl) dd_nil))) (gok_tp (gsok_cons (gsok_cons gsok_nil))) (.yes rfl tYes_ok (one r1 b1 _ (fun t ht => List.mem_append_left _ ht) l1 rfl) (.yes rfl tYes_ok (one r2 b2 _ (fun t ht => List.mem_append_right _ ht) l2 rfl) .nil))) da_nil))
end
end DL
-- part W4
set_option linter.all false
set_option maxRecDepth 100000
set_option maxHeartbeats 2000000
namespace DL
open PySem PySem.Spec PyProof.Rows L2
section
variable {P : Program} {w : World} {K : PySem.W.Frag} {mg : Str → Option Value} {base : Heap}
abbrev N_how_many : List Str := ["arrangement"]
def rel_how_many (rs : List R) (r : R) : Prop := ∃ (R S : G.Rule) (a : G.Arr), rs = [.d (eArr a)] ∧ r = .d (.int (G.hm a : Nat)) ∧ (Ok R a.1) ∧ (Ok S a.2) ∧ (G.named a = a)
theorem sc_how_many : FnScope N_how_many ["arrangement"] (defScope (top 36)) := ⟨rfl, rfl, rfl, by decide +kernel, rfl, by decide +kernel, by decide +kernel⟩
theorem ok_how_many (T : Txt K mg) : Con P w K mg base "how_many" ["arrangement"] 1 rel_how_many := by
  refine con_of (N := N_how_many) T.f_how_many sc_how_many (fun _ _ _ _ _ _ us hl => match us, hl with | [_], _ => rfl) (fun rs r h => ?_) (fun f cdv A outer s H E hr => ?_)
  · obtain ⟨_, _, _, rfl, rfl, _, _, _⟩ := h; exact ⟨rfl, by simp [ArgOk]⟩
  have nd := sc_how_many.nd
  refine ⟨_, (pss_one (ps_ret (pe_op op_add (pe_callB (kx_maxT K rfl rfl hr.units) rfl T.n_max (by rfl) (pa_cons (pe_op (kx_catF K) (pe_ix (kx_ixT K) (pe_ix (kx_ixT K) (pv 0) pe_int (fun _ _ => rfl)) pe_int (fun _ _ => rfl)) (pe_ix (kx_ixT K) (pe_ix (kx_ixT K) (pv 0) pe_int (fun _ _ => rfl)) pe_int (fun _ _ => rfl))) pa_nil)) pe_int))), ?_⟩
  rintro rs r ⟨R, S, a, rfl, rfl, o1, o2, hc⟩
  have l1 := o1.len
  have l2 := o2.len
  obtain ⟨h1, h2⟩ := hm_max ⟨o1.w, o2.w⟩ o1.v.pos hc
  have ec : DE (tOp (rCatF K) (tOp (rIxT K) (tOp (rIxT K) (tVar 0) (tC (V.int 0))) (tC (V.int 0))) (tOp (rIxT K) (tOp (rIxT K) (tVar 0) (tC (V.int 1))) (tC (V.int 0)))) (startE N_how_many [.d (eArr a)]) (.d (.tup ((G.rows a).map D.int))) :=
    DE.to (de_cat (ds := a.1.1.map D.int) (es := a.2.1.map D.int) (de_ix (de_ix (de_var rfl) de_int rfl) de_int rfl) (de_ix (de_ix (de_var rfl) de_int rfl) de_int rfl) (by simp; omega)) (by unfold G.rows; rw [List.map_append])
  exact ds_ret (de_I0 (de_maxT (da_d ec da_nil) h1 h2) de_int (n := (G.hm a : Nat)) (by show V.int _ = V.int _; congr 1; omega))
abbrev N_moved_by : List Str := ["one", "other", "arrangement", "number", "mine", "its"]
def rel_moved_by (rs : List R) (r : R) : Prop := ∃ (R S : G.Rule) (a : G.Arr) (n : Nat), rs = [.d (eRule R), .d (eRule S), .d (eArr a), .d (.int (n : Int))] ∧ r = .d (.tup [.bl (decide ((n : Int) ∈ a.1.1)), .bl (decide ((n : Int) ∈ a.2.1)), eArr (G.moved R S a n)]) ∧ (Ok R a.1) ∧ (Ok S a.2)
theorem sc_moved_by : FnScope N_moved_by ["one", "other", "arrangement", "number"] (defScope (top 37)) := ⟨rfl, rfl, rfl, by decide +kernel, rfl, by decide +kernel, by decide +kernel⟩
theorem ok_moved_by (T : Txt K mg) : Con P w K mg base "moved_by" ["one", "other", "arrangement", "number"] 3 rel_moved_by := by
  refine con_of (N := N_moved_by) T.f_moved_by sc_moved_by (fun _ _ _ _ _ _ us hl => match us, hl with | [_, _, _, _], _ => rfl) (fun rs r h => ?_) (fun f cdv A outer s H E hr => ?_)
  · obtain ⟨_, _, _, _, rfl, rfl, _, _⟩ := h; exact ⟨rfl, by simp [ArgOk]⟩
  have nd := sc_moved_by.nd
  refine ⟨_, (pss_cons (ps_par (i := 4) (j := 5) rfl nd rfl rfl (by decide) rfl rfl (pa_cons (pe_con (ok_step T) hr rfl (pa_cons (pv 0) (pa_cons (pe_ix (kx_ixT K) (pv 2) pe_int (fun _ _ => rfl)) (pa_cons (pv 3) pa_nil)))) (pa_cons (pe_con (ok_step T) hr rfl (pa_cons (pv 1) (pa_cons (pe_ix (kx_ixT K) (pv 2) pe_int (fun _ _ => rfl)) (pa_cons (pv 3) pa_nil)))) pa_nil)) (by rfl)) (pss_one (ps_ret (pe_tupF (pa_cons (pe_ix (kx_ixT K) (pv 4) pe_int (fun _ _ => rfl)) (pa_cons (pe_ix (kx_ixT K) (pv 5) pe_int (fun _ _ => rfl)) (pa_cons (pe_con (ok_named T) hr rfl (pa_cons (pe_ix (kx_ixT K) (pv 4) pe_int (fun _ _ => rfl)) (pa_cons (pe_ix (kx_ixT K) (pv 5) pe_int (fun _ _ => rfl)) pa_nil))) pa_nil))))))), ?_⟩
  rintro rs r ⟨R, S, a, n, rfl, rfl, o1, o2⟩
  have p1 := (o1.step (t := (n : Int)) (by omega)).len
  have p2 := (o2.step (t := (n : Int)) (by omega)).len
  refine ds_seq (ds_par (x := stepD R a.1 n) (y := stepD S a.2 n) (dd_cons (de_call (da_d (de_var rfl) (da_d (de_ix (de_var rfl) de_int (by first | rfl | assumption | decide | omega | (simp; done) | (simp; omega))) (da_d (de_var rfl) da_nil))) ⟨_, _, _, rfl, rfl, (by first | exact o1 | exact o2)⟩) (dd_cons (de_call (da_d (de_var rfl) (da_d (de_ix (de_var rfl) de_int (by first | rfl | assumption | decide | omega | (simp; done) | (simp; omega))) (da_d (de_var rfl) da_nil))) ⟨_, _, _, rfl, rfl, (by first | exact o1 | exact o2)⟩) dd_nil))) ?_
  exact ds_ret (de_tup (dd_cons (de_ix (de_var rfl) de_int rfl) (dd_cons (de_ix (de_var rfl) de_int rfl) (dd_cons (de_call (da_d (de_ix (de_var rfl) de_int rfl) (da_d (de_ix (de_var rfl) de_int rfl) da_nil)) ⟨(G.step R a.1 n, G.step S a.2 n), rfl, rfl, p1, p2⟩) dd_nil))))
abbrev N_end_of : List Str := ["first", "steps"]
def rel_end_of (rs : List R) (r : R) : Prop := ∃ (x : D) (xs : List D), rs = [.d x, .r xs] ∧ r = .d (match xs.getLast? with | some (.tup [_, _, _, d]) => d | _ => x) ∧ (∀ d ∈ xs, ∃ p q u v, d = .tup [p, q, u, v])
theorem sc_end_of : FnScope N_end_of ["first", "steps"] (defScope (top 11)) := ⟨rfl, rfl, rfl, by decide +kernel, rfl, by decide +kernel, by decide +kernel⟩
theorem ok_end_of (T : Txt K mg) : Con P w K mg base "end_of" ["first", "steps"] 1 rel_end_of := by
  refine con_of (N := N_end_of) T.f_end_of sc_end_of (fun _ _ _ _ _ _ us hl => match us, hl with | [_, _], _ => rfl) (fun rs r h => ?_) (fun f cdv A outer s H E hr => ?_)
  · obtain ⟨_, _, rfl, rfl, _⟩ := h; exact ⟨rfl, by simp [ArgOk]⟩
  have nd := sc_end_of.nd
  refine ⟨_, (pss_one (ps_ret (pe_ifExp (kpt_truth K rfl (pv 1)) (pe_ix (kx_ixT K) (pe_ix (kx_ixL K) (pv 1) (pe_un un_neg pe_int) (fun _ _ => rfl)) pe_int (fun _ _ => rfl)) (pv 0)))), ?_⟩
  rintro rs r ⟨x, xs, rfl, rfl, h⟩
  refine ds_ret (de_if (b := !xs.isEmpty) (dt_truL (de_varR rfl)) (fun hb => ?_) fun hb => ?_)
  · have ne : xs ≠ [] := by intro z; rw [z] at hb; cases hb
    obtain ⟨p, q, u, v, e⟩ := h _ (List.getLast_mem ne)
    have el : xs.getLast? = some (.tup [p, q, u, v]) := by rw [List.getLast?_eq_some_getLast ne, e]
    rw [el]
    have hl : 0 < xs.length := List.length_pos_iff.mpr ne
    refine de_ix (ds := [p, q, u, v]) (de_ixL (de_varR rfl) (de_neg de_int) ?_) de_int rfl
    have e0 : ixN xs.length (-1) = some (xs.length - 1) := by
      unfold ixN
      rw [if_neg (by omega), if_pos (by omega)]
      congr 1
      omega
    unfold atI
    rw [e0]
    show xs[xs.length - 1]? = _
    rw [← List.getLast?_eq_getElem?]
    exact el
  · have e : xs = [] := by cases xs with
      | nil => rfl
      | cons a l => cases hb
    subst e
    exact de_var rfl
abbrev N_need_greater : List Str := ["one", "other"]
def rel_need_greater (rs : List R) (r : R) : Prop := ∃ (R S : G.Rule), rs = [.d (eRule R), .d (eRule S)] ∧ r = .d .non ∧ (VR R) ∧ (VR S) ∧ (R.places ≤ S.places)
theorem sc_need_greater : FnScope N_need_greater ["one", "other"] (defScope (top 46)) := ⟨rfl, rfl, rfl, by decide +kernel, rfl, by decide +kernel, by decide +kernel⟩
theorem ok_need_greater (T : Txt K mg) : Con P w K mg base "need_greater" ["one", "other"] 9 rel_need_greater := by
  refine con_ofN (N := N_need_greater) T.f_need_greater sc_need_greater (fun _ _ _ _ _ _ us hl => match us, hl with | [_, _], _ => rfl) (fun rs r h => ?_) (fun f cdv A outer s H E hr => ?_)
  · obtain ⟨_, _, rfl, rfl, _, _, _⟩ := h; exact ⟨rfl, by simp [ArgOk]⟩
  have nd := sc_need_greater.nd
  refine ⟨_, (pss_cons (ps_expr (pe_con (ok_need_rules T) hr rfl (pa_cons (pv 0) (pa_cons (pv 1) pa_nil)))) (pss_one (ps_if (pt_cmpR op_lt (pe_ix (kx_ixT K) (pv 1) pe_int (fun _ _ => rfl)) (pe_ix (kx_ixT K) (pv 0) pe_int (fun _ _ => rfl)) (nomark _)) (pss_one ps_never) pss_nil))), ?_⟩
  rintro rs r ⟨R, S, rfl, rfl, v, v', h⟩
  exact ds_endN (ds_seq (ds_drop (de_call (da_d (de_var rfl) (da_d (de_var rfl) da_nil)) ⟨_, _, rfl, rfl, v, v'⟩)) (ds_no (DT.to (dt_test (de_B0 (de_ix (de_var rfl) de_int (by first | rfl | assumption | decide | omega | (simp; done) | (simp; omega))) (de_ix (de_var rfl) de_int (by first | rfl | assumption | decide | omega | (simp; done) | (simp; omega))))) (by simp; omega)) ds_next))
theorem within_all (a : G.Arr) : a.1.1.all (fun t => decide (t = -1) || decide (t ∈ a.2.1)) = decide (G.Within a) := by
  by_cases h : G.Within a
  · rw [decide_eq_true h, List.all_eq_true]
    intro t ht
    rcases h t ht with z | z
    · rw [decide_eq_true z]; rfl
    · rw [decide_eq_true z]; simp
  · rw [decide_eq_false h]
    refine Bool.eq_false_iff.mpr fun q => h fun t ht => ?_
    have := List.all_eq_true.mp q t ht
    simpa using this
abbrev N_is_within : List Str := ["arrangement", "mine", "its", "thing"]
def rel_is_within (rs : List R) (r : R) : Prop := ∃ (a : G.Arr), rs = [.d (eArr a)] ∧ r = .d (.bl (decide (G.Within a))) ∧ (a.1.1.length ≤ 4)
theorem sc_is_within : FnScope N_is_within ["arrangement"] (defScope (top 47)) := ⟨rfl, rfl, rfl, by decide +kernel, rfl, by decide +kernel, by decide +kernel⟩
theorem ok_is_within (T : Txt K mg) : Con P w K mg base "is_within" ["arrangement"] 1 rel_is_within := by
  refine con_of (N := N_is_within) T.f_is_within sc_is_within (fun _ _ _ _ _ _ us hl => match us, hl with | [_], _ => rfl) (fun rs r h => ?_) (fun f cdv A outer s H E hr => ?_)
  · obtain ⟨_, rfl, rfl, _⟩ := h; exact ⟨rfl, by simp [ArgOk]⟩
  have nd := sc_is_within.nd
  refine ⟨_, (pss_cons (ps_asg (pe_tupF (pa_cons (pe_ix (kx_ixT K) (pe_ix (kx_ixT K) (pv 0) pe_int (fun _ _ => rfl)) pe_int (fun _ _ => rfl)) (pa_cons (pe_ix (kx_ixT K) (pe_ix (kx_ixT K) (pv 0) pe_int (fun _ _ => rfl)) pe_int (fun _ _ => rfl)) pa_nil))) (kpg_tup K rfl 2 rfl (pgs_cons (pg_name (i := 1) nd rfl (Or.inl rfl)) (pgs_cons (pg_name (i := 2) nd rfl (Or.inr rfl)) pgs_nil)))) (pss_one (ps_ret (pe_callB (kx_all K rfl rfl) rfl T.n_all (by rfl) (pa_cons (pe_lc (own := [("thing", 3)]) rfl nd (kpi_tup K rfl (pv 1)) (blkOk_by (N := N_is_within) (sc := defScope (top 47)) (by decide +kernel)) (fun _ _ _ _ _ => (pg_name (i := 3) nd rfl (Or.inl rfl))) (fun _ _ _ _ _ => pts_nil) (fun _ _ _ _ _ => (pe_or (pe_cmpR op_eq (pv 3) (pe_const T.c_BLANK rfl) (nomark _)) (pe_one (pe_cmpR (kx_in K) (pv 3) (pv 2) (by rfl)))))) pa_nil))))), ?_⟩
  rintro rs r ⟨a, rfl, rfl, l1⟩
  refine ds_seq (ds_unp (x := .tup [eInts a.1.1, eInts a.2.1]) (de_tup (dd_cons (de_ix (de_ix (de_var rfl) de_int rfl) de_int rfl) (dd_cons (de_ix (de_ix (de_var rfl) de_int rfl) de_int rfl) dd_nil))) (gok_tp (gsok_cons (gsok_cons gsok_nil))) rfl) ?_
  exact ds_ret (DE.to (de_allM (l := a.1.1) (f := D.int) (fun t => decide (t = -1) || decide (t ∈ a.2.1)) (de_var rfl) (fun t ht => (de_or (de_eqI (de_var rfl) (de_int)) fun _ => (de_in (de_var rfl) (de_var rfl)))) (by omega)) (by rw [within_all]))
abbrev N_is_requests : List Str := ["thing", "one"]
def rel_is_requests (rs : List R) (r : R) : Prop := ∃ (ts : List Int), rs = [.d (eInts ts)] ∧ r = .d (.bl true) ∧ (Req ts)
theorem sc_is_requests : FnScope N_is_requests ["thing"] (defScope (top 53)) := ⟨rfl, rfl, rfl, by decide +kernel, rfl, by decide +kernel, by decide +kernel⟩
theorem ok_is_requests (T : Txt K mg) : Con P w K mg base "is_requests" ["thing"] 3 rel_is_requests := by
  refine con_of (N := N_is_requests) T.f_is_requests sc_is_requests (fun _ _ _ _ _ _ us hl => match us, hl with | [_], _ => rfl) (fun rs r h => ?_) (fun f cdv A outer s H E hr => ?_)
  · obtain ⟨_, rfl, rfl, _⟩ := h; exact ⟨rfl, by simp [ArgOk]⟩
  have nd := sc_is_requests.nd
  refine ⟨_, (pss_cons (ps_if (PW.pt (pw_or (pt_not (pt_val (pe_callB (kx_isi K) rfl T.n_isinstance (by rfl) (pa_cons (pv 0) (pa_cons (pe_bltn (v := .ty "tuple") (u := .type "tuple") rfl T.n_tuple (by rfl) rfl) pa_nil))))) (pw_or1 (pt_cmpR op_gt (pe_callB (kx_len K) rfl T.n_len PySem.boot_len (pa_cons (pv 0) pa_nil)) (pe_const T.c_MOST_REQUESTS rfl) (nomark _))))) (pss_one (ps_ret pe_bl)) pss_nil) (pss_one (ps_ret (pe_callB (kx_all K rfl rfl) rfl T.n_all (by rfl) (pa_cons (pe_lc (own := [("one", 1)]) rfl nd (kpi_tup K rfl (pv 0)) (blkOk_by (N := N_is_requests) (sc := defScope (top 53)) (by decide +kernel)) (fun _ _ _ _ _ => (pg_name (i := 1) nd rfl (Or.inl rfl))) (fun _ _ _ _ _ => pts_nil) (fun _ _ _ _ _ => (pe_con (ok_is_thing T) hr rfl (pa_cons (pv 1) pa_nil)))) pa_nil))))), ?_⟩
  rintro rs r ⟨ts, rfl, rfl, q⟩
  have hl := q.len
  refine ds_seq (ds_no (DT.to (dt_or (dt_not (dt_B (de_isi (de_var rfl)))) fun _ => (dt_test (de_B0 (de_len (by first | exact .inl (da_d (de_var rfl) da_nil) | exact .inr (da_d (de_var rfl) da_nil))) (de_int)))) (by rw [isi_ints]; simp; omega)) ds_next) ?_
  exact ds_ret (de_allTrue (l := ts) (f := D.int) (de_var rfl) (fun t ht => DE.to (de_call (da_d (de_var rfl) da_nil) ⟨_, rfl, rfl⟩) (by have := q.lo t ht; have := q.hi t ht; simp; omega)) (by omega))
abbrev N_need_requests : List Str := ["requests"]
def rel_need_requests (rs : List R) (r : R) : Prop := ∃ (ts : List Int), rs = [.d (eInts ts)] ∧ r = .d .non ∧ (Req ts)
theorem sc_need_requests : FnScope N_need_requests ["requests"] (defScope (top 54)) := ⟨rfl, rfl, rfl, by decide +kernel, rfl, by decide +kernel, by decide +kernel⟩
theorem ok_need_requests (T : Txt K mg) : Con P w K mg base "need_requests" ["requests"] 4 rel_need_requests := by
  refine con_ofN (N := N_need_requests) T.f_need_requests sc_need_requests (fun _ _ _ _ _ _ us hl => match us, hl with | [_], _ => rfl) (fun rs r h => ?_) (fun f cdv A outer s H E hr => ?_)
  · obtain ⟨_, rfl, rfl, _⟩ := h; exact ⟨rfl, by simp [ArgOk]⟩
  have nd := sc_need_requests.nd
  refine ⟨_, (pss_one (ps_if (pt_not (pt_val (pe_con (ok_is_requests T) hr rfl (pa_cons (pv 0) pa_nil)))) (pss_one ps_never) pss_nil)), ?_⟩
  rintro rs r ⟨ts, rfl, rfl, q⟩
  exact ds_endN (ds_no (DT.to (dt_not (dt_B (de_call (da_d (de_var rfl) da_nil) ⟨_, rfl, rfl, q⟩))) rfl) ds_next)
abbrev N_run_of : List Str := ["rule", "requests", "state", "found", "lost", "thing", "is_hit", "away"]
def rel_run_of (rs : List R) (r : R) : Prop := ∃ (R : G.Rule) (ts : List Int), rs = [.d (eRule R), .d (eInts ts)] ∧ r = .d (.tup [eSta (G.run R ts), .tup ((hitsOf R ts).map D.bl), .tup (lostOf R ts)]) ∧ (VR R) ∧ (Req ts)
theorem sc_run_of : FnScope N_run_of ["rule", "requests"] (defScope (top 55)) := ⟨rfl, rfl, rfl, by decide +kernel, rfl, by decide +kernel, by decide +kernel⟩
theorem ok_run_of (T : Txt K mg) : Con P w K mg base "run_of" ["rule", "requests"] 3 rel_run_of := by
  refine con_of (N := N_run_of) T.f_run_of sc_run_of (fun _ _ _ _ _ _ us hl => match us, hl with | [_, _], _ => rfl) (fun rs r h => ?_) (fun f cdv A outer s H E hr => ?_)
  · obtain ⟨_, _, rfl, rfl, _, _⟩ := h; exact ⟨rfl, by simp [ArgOk]⟩
  have nd := sc_run_of.nd
  refine ⟨_, (pss_cons (ps_par3 (i := 2) (j := 3) (l := 4) rfl nd rfl rfl rfl (by decide) (by decide) (by decide) rfl rfl rfl (pa_cons (pe_con (ok_first_state T) hr rfl (pa_cons (pv 0) pa_nil)) (pa_cons (pe_lst pa_nil) (pa_cons (pe_lst pa_nil) pa_nil))) (by rfl)) (pss_cons (ps_for PassesOwn.never rfl (kpi_tup K rfl (pv 1)) (pg_name (i := 5) nd rfl (Or.inl rfl)) (pss_cons (ps_asg (pe_con (ok_step T) hr rfl (pa_cons (pv 0) (pa_cons (pv 2) (pa_cons (pv 5) pa_nil)))) (kpg_tup K rfl 3 rfl (pgs_cons (pg_name (i := 6) nd rfl (Or.inl rfl)) (pgs_cons (pg_name (i := 7) nd rfl (Or.inl rfl)) (pgs_cons (pg_name (i := 2) nd rfl (Or.inl rfl)) pgs_nil))))) (pss_cons (ps_expr (kpe_bm K rfl PySem.F.plainAttrs_list PySem.F.slot_list_append PySem.F.type_list_append mt_append (pv 3) (pa_cons (pv 6) pa_nil))) (pss_one (ps_expr (kpe_bm K rfl PySem.F.plainAttrs_list PySem.F.slot_list_append PySem.F.type_list_append mt_append (pv 4) (pa_cons (pv 7) pa_nil))))))) (pss_one (ps_ret (pe_tupF (pa_cons (pv 2) (pa_cons (pe_callTy (kx_tup K) rfl T.n_tuple (by rfl) (pa_cons (pv 3) pa_nil)) (pa_cons (pe_callTy (kx_tup K) rfl T.n_tuple (by rfl) (pa_cons (pv 4) pa_nil)) pa_nil)))))))), ?_⟩
  rintro rs r ⟨R, ts, rfl, rfl, v, q⟩
  have v : G.VRule R := v
  have hl := q.len
  refine ds_seq (ds_par3 (r1 := .d (eSta (G.first R))) (r2 := .l []) (r3 := .l []) (dv_d (de_call (da_d (de_var rfl) da_nil) ⟨_, rfl, rfl, v⟩)) (de_lst dd_nil) (.inl rfl) (de_lst dd_nil) (.inl rfl)) ?_
  refine ds_seq (ds_forT (ds := ts.map D.int) gok_nm (de_var rfl) (loop_all (fun k => [some (.d (eRule R)), some (.d (eInts ts)), some (.d (eSta ((ts.take k).foldl (G.step R) (G.first R)))), some (.l ((hitsGo R (G.first R) (ts.take k)).map D.bl)), some (.l (lostGo R (G.first R) (ts.take k))), none, none, none]) rfl (fun k d hd => ?_))) ?_
  · rw [List.getElem?_map] at hd
    obtain ⟨t, ht, rfl⟩ := Option.map_eq_some_iff.mp hd
    refine ⟨_, rfl, ?_⟩
    have o : Ok R ((ts.take k).foldl (G.step R) (G.first R)) := okRun v fun u hu => q.lo u (List.mem_of_mem_take hu)
    have hk : (ts.take k).length ≤ 60 := by rw [List.length_take]; omega
    rw [take_succ' ht, List.foldl_append, hitsGo_snoc, lostGo_snoc, List.map_append]
    generalize ts.take k = done at o hk ⊢
    refine ds_fg (ds_seq (ds_unp (x := stepD R (done.foldl (G.step R) (G.first R)) t) (de_call (da_d (de_var rfl) (da_d (de_var rfl) (da_d (de_var rfl) da_nil))) ⟨_, _, _, rfl, rfl, o⟩) (gok_tp (gsok_cons (gsok_cons (gsok_cons gsok_nil)))) rfl) ?_) (δ1 := [some (.d (eRule R)), some (.d (eInts ts)), some (.d (eSta (G.step R (done.foldl (G.step R) (G.first R)) t))), some (.l ((hitsGo R (G.first R) done).map D.bl ++ [D.bl (decide (t ∈ (done.foldl (G.step R) (G.first R)).1))])), some (.l (lostGo R (G.first R) done ++ [goneD R (done.foldl (G.step R) (G.first R)) t])), some (.d (.int t)), some (.d (.bl (decide (t ∈ (done.foldl (G.step R) (G.first R)).1)))), some (.d (goneD R (done.foldl (G.step R) (G.first R)) t))]) ⟨.inr rfl, .inr rfl, .inr rfl, .inr rfl, .inr rfl, .inl rfl, .inl rfl, .inl rfl, trivial⟩
    refine ds_seq (ds_append rfl (de_var rfl) (by rw [List.length_map, hitsGo_length]; omega)) (ds_append rfl (de_var rfl) (by rw [lostGo_length]; omega))
  · have et : ts.take (ts.map D.int).length = ts := by rw [List.length_map]; exact List.take_length
    rw [et]
    exact ds_ret (de_tup (dd_cons (de_var rfl) (dd_cons (de_tuple (da_r (de_varL rfl) da_nil)) (dd_cons (de_tuple (da_r (de_varL rfl) da_nil)) dd_nil))))
abbrev N_checked_run : List Str := ["rule", "requests"]
def rel_checked_run (rs : List R) (r : R) : Prop := ∃ (R : G.Rule) (ts : List Int), rs = [.d (eRule R), .d (eInts ts)] ∧ r = .d (.tup [eSta (G.run R ts), .tup ((hitsOf R ts).map D.bl), .tup (lostOf R ts)]) ∧ (VR R) ∧ (Req ts)
theorem sc_checked_run : FnScope N_checked_run ["rule", "requests"] (defScope (top 56)) := ⟨rfl, rfl, rfl, by decide +kernel, rfl, by decide +kernel, by decide +kernel⟩
theorem ok_checked_run (T : Txt K mg) : Con P w K mg base "checked_run" ["rule", "requests"] 8 rel_checked_run := by
  refine con_of (N := N_checked_run) T.f_checked_run sc_checked_run (fun _ _ _ _ _ _ us hl => match us, hl with | [_, _], _ => rfl) (fun rs r h => ?_) (fun f cdv A outer s H E hr => ?_)
  · obtain ⟨_, _, rfl, rfl, _, _⟩ := h; exact ⟨rfl, by simp [ArgOk]⟩
  have nd := sc_checked_run.nd
  refine ⟨_, (pss_cons (ps_expr (pe_con (ok_need_rule T) hr rfl (pa_cons (pv 0) pa_nil))) (pss_cons (ps_expr (pe_con (ok_need_requests T) hr rfl (pa_cons (pv 1) pa_nil))) (pss_one (ps_ret (pe_con (ok_run_of T) hr rfl (pa_cons (pv 0) (pa_cons (pv 1) pa_nil))))))), ?_⟩
  rintro rs r ⟨R, ts, rfl, rfl, v, q⟩
  refine ds_seq (ds_drop (de_call (da_d (de_var rfl) da_nil) ⟨_, rfl, rfl, v⟩)) (ds_seq (ds_drop (de_call (da_d (de_var rfl) da_nil) ⟨_, rfl, rfl, q⟩)) (ds_ret (de_call (da_d (de_var rfl) (da_d (de_var rfl) da_nil)) ⟨_, _, rfl, rfl, v, q⟩)))
abbrev N_behind : List Str := ["rule", "requests"]
def rel_behind (rs : List R) (r : R) : Prop := ∃ (R : G.Rule) (ts : List Int), rs = [.d (eRule R), .d (eInts ts)] ∧ r = .d (eSta (G.run R ts)) ∧ (VR R) ∧ (Req ts)
theorem sc_behind : FnScope N_behind ["rule", "requests"] (defScope (top 57)) := ⟨rfl, rfl, rfl, by decide +kernel, rfl, by decide +kernel, by decide +kernel⟩
theorem ok_behind (T : Txt K mg) : Con P w K mg base "behind" ["rule", "requests"] 9 rel_behind := by
  refine con_of (N := N_behind) T.f_behind sc_behind (fun _ _ _ _ _ _ us hl => match us, hl with | [_, _], _ => rfl) (fun rs r h => ?_) (fun f cdv A outer s H E hr => ?_)
  · obtain ⟨_, _, rfl, rfl, _, _⟩ := h; exact ⟨rfl, by simp [ArgOk]⟩
  have nd := sc_behind.nd
  refine ⟨_, (pss_one (ps_ret (pe_ix (kx_ixT K) (pe_con (ok_checked_run T) hr rfl (pa_cons (pv 0) (pa_cons (pv 1) pa_nil))) pe_int (fun _ _ => rfl)))), ?_⟩
  rintro rs r ⟨R, ts, rfl, rfl, v, q⟩
  exact ds_ret (de_ix (de_call (da_d (de_var rfl) (da_d (de_var rfl) da_nil)) ⟨_, _, rfl, rfl, v, q⟩) de_int (by first | rfl | assumption | decide | omega | (simp; done) | (simp; omega)))
abbrev N_kept : List Str := ["rule", "requests"]
def rel_kept (rs : List R) (r : R) : Prop := ∃ (R : G.Rule) (ts : List Int), rs = [.d (eRule R), .d (eInts ts)] ∧ r = .d (eInts (thingsOf (G.run R ts).1)) ∧ (VR R) ∧ (Req ts)
theorem sc_kept : FnScope N_kept ["rule", "requests"] (defScope (top 58)) := ⟨rfl, rfl, rfl, by decide +kernel, rfl, by decide +kernel, by decide +kernel⟩
theorem ok_kept (T : Txt K mg) : Con P w K mg base "kept" ["rule", "requests"] 10 rel_kept := by
  refine con_of (N := N_kept) T.f_kept sc_kept (fun _ _ _ _ _ _ us hl => match us, hl with | [_, _], _ => rfl) (fun rs r h => ?_) (fun f cdv A outer s H E hr => ?_)
  · obtain ⟨_, _, rfl, rfl, _, _⟩ := h; exact ⟨rfl, by simp [ArgOk]⟩
  have nd := sc_kept.nd
  refine ⟨_, (pss_one (ps_ret (pe_con (ok_things_of T) hr rfl (pa_cons (pe_ix (kx_ixT K) (pe_con (ok_behind T) hr rfl (pa_cons (pv 0) (pa_cons (pv 1) pa_nil))) pe_int (fun _ _ => rfl)) pa_nil)))), ?_⟩
  rintro rs r ⟨R, ts, rfl, rfl, v, q⟩
  exact ds_ret (de_call (da_d (de_ix (de_call (da_d (de_var rfl) (da_d (de_var rfl) da_nil)) ⟨_, _, rfl, rfl, v, q⟩) de_int (by first | rfl | assumption | decide | omega | (simp; done) | (simp; omega))) da_nil) ⟨_, rfl, rfl, (by have := (okRun v q.lo).len; omega)⟩)
abbrev N_hits : List Str := ["rule", "requests"]
def rel_hits (rs : List R) (r : R) : Prop := ∃ (R : G.Rule) (ts : List Int), rs = [.d (eRule R), .d (eInts ts)] ∧ r = .d (.tup ((hitsOf R ts).map D.bl)) ∧ (VR R) ∧ (Req ts)
theorem sc_hits : FnScope N_hits ["rule", "requests"] (defScope (top 59)) := ⟨rfl, rfl, rfl, by decide +kernel, rfl, by decide +kernel, by decide +kernel⟩
theorem ok_hits (T : Txt K mg) : Con P w K mg base "hits" ["rule", "requests"] 9 rel_hits := by
  refine con_of (N := N_hits) T.f_hits sc_hits (fun _ _ _ _ _ _ us hl => match us, hl with | [_, _], _ => rfl) (fun rs r h => ?_) (fun f cdv A outer s H E hr => ?_)
  · obtain ⟨_, _, rfl, rfl, _, _⟩ := h; exact ⟨rfl, by simp [ArgOk]⟩
  have nd := sc_hits.nd
  refine ⟨_, (pss_one (ps_ret (pe_ix (kx_ixT K) (pe_con (ok_checked_run T) hr rfl (pa_cons (pv 0) (pa_cons (pv 1) pa_nil))) pe_int (fun _ _ => rfl)))), ?_⟩
  rintro rs r ⟨R, ts, rfl, rfl, v, q⟩
  exact ds_ret (de_ix (de_call (da_d (de_var rfl) (da_d (de_var rfl) da_nil)) ⟨_, _, rfl, rfl, v, q⟩) de_int (by first | rfl | assumption | decide | omega | (simp; done) | (simp; omega)))
abbrev N_misses : List Str := ["rule", "requests"]
def rel_misses (rs : List R) (r : R) : Prop := ∃ (R : G.Rule) (ts : List Int), rs = [.d (eRule R), .d (eInts ts)] ∧ r = .d (.int (((hitsOf R ts).count false : Nat) : Int)) ∧ (VR R) ∧ (Req ts)
theorem sc_misses : FnScope N_misses ["rule", "requests"] (defScope (top 60)) := ⟨rfl, rfl, rfl, by decide +kernel, rfl, by decide +kernel, by decide +kernel⟩
theorem ok_misses (T : Txt K mg) : Con P w K mg base "misses" ["rule", "requests"] 10 rel_misses := by
  refine con_of (N := N_misses) T.f_misses sc_misses (fun _ _ _ _ _ _ us hl => match us, hl with | [_, _], _ => rfl) (fun rs r h => ?_) (fun f cdv A outer s H E hr => ?_)
  · obtain ⟨_, _, rfl, rfl, _, _⟩ := h; exact ⟨rfl, by simp [ArgOk]⟩
  have nd := sc_misses.nd
  refine ⟨_, (pss_one (ps_ret (pe_bmT PySem.F.slot_tuple_count PySem.F.type_tuple_count (kx_count K) (pe_con (ok_hits T) hr rfl (pa_cons (pv 0) (pa_cons (pv 1) pa_nil))) (pa_cons pe_bl pa_nil)))), ?_⟩
  rintro rs r ⟨R, ts, rfl, rfl, v, q⟩
  exact ds_ret (de_countB (de_call (da_d (de_var rfl) (da_d (de_var rfl) da_nil)) ⟨_, _, rfl, rfl, v, q⟩) de_bl)
end
end DL
-- part DC1
set_option linter.all false
set_option maxRecDepth 100000
set_option maxHeartbeats 2000000
/-! A function made in a def and handed out: its two cells are told with it. -/
namespace DL
open PySem PySem.Spec PyProof.Rows L2 NdefX LamX
/-- the object at c is a cell that holds v -/
def cellO (c : Addr) (v : V) : HO := .ext fun h => ∃ u, RelV v u ∧ h.IsCell c (some u)
theorem cellO_ok {P : Program} {w : World} {H : Hp} {h : Heap} {c : Addr} {v : V} {u : Value} (r : RelV v u) (i : h.IsCell c (some u)) : ObjOk P w H h c (cellO c v) := by
  obtain ⟨o, ho, hd⟩ := id i
  exact ⟨⟨u, r, i⟩, ⟨o, ho⟩, fun h1 h2 ⟨u, r, o, ho, hd⟩ k => ⟨u, r, o, k _ ho, hd⟩⟩
/-- f is a function of the words st, its code object known, its two cells hold v1 and v2 -/
structure Clo (st : Stmt) (x y : Str) (H : Hp) (f : Addr) (v1 v2 : V) : Prop where
  ex : ∃ (name q : Str) (cl : List (Str × Addr)) (c c1 c2 : Addr), H f = some (FnO f (NF.of st name q cl c)) ∧ H c = some (CodeO c q) ∧ cl.lookup x = some c1 ∧ cl.lookup y = some c2 ∧ (∀ z d, cl.lookup z = some d → (z = x ∧ d = c1) ∨ (z = y ∧ d = c2)) ∧ c1 ≠ c2 ∧
    H c1 = some (cellO c1 v1) ∧ H c2 = some (cellO c2 v2)
theorem Clo.mono {st : Stmt} {x y : Str} {H H' : Hp} {f : Addr} {v1 v2 : V} (h : Clo st x y H f v1 v2) (O : Addr → Prop) (k : Keep O H H') (n : ∀ a φ, H a = some (.ext φ) → ¬ O a) : Clo st x y H' f v1 v2 := by
  obtain ⟨name, q, cl, c, c1, c2, a1, a2, a3, a4, a5, a6, a7, a8⟩ := h.ex
  exact ⟨name, q, cl, c, c1, c2, k _ _ a1 (n _ _ a1), k _ _ a2 (n _ _ a2), a3, a4, a5, a6, k _ _ a7 (n _ _ a7), k _ _ a8 (n _ _ a8)⟩
/-- the two cells not tracked -/
def cut2 (c1 c2 : Addr) (H : Hp) : Hp := fun b => if b = c1 ∨ b = c2 then none else H b
/-- .. tracked again -/
def add2 (c1 c2 : Addr) (v1 v2 : V) (H : Hp) : Hp := fun b => if b = c1 then some (cellO c1 v1) else if b = c2 then some (cellO c2 v2) else H b
theorem cut2_ne {c1 c2 b : Addr} {H : Hp} (h1 : b ≠ c1) (h2 : b ≠ c2) : cut2 c1 c2 H b = H b := if_neg fun z => z.elim h1 h2
theorem cut2_some {c1 c2 b : Addr} {H : Hp} {o : HO} (h : cut2 c1 c2 H b = some o) : H b = some o ∧ b ≠ c1 ∧ b ≠ c2 := by
  unfold cut2 at h
  by_cases z : b = c1 ∨ b = c2
  · rw [if_pos z] at h; cases h
  · rw [if_neg z] at h
    exact ⟨h, fun e => z (.inl e), fun e => z (.inr e)⟩
theorem add2_ne {c1 c2 b : Addr} {v1 v2 : V} {H : Hp} (h1 : b ≠ c1) (h2 : b ≠ c2) : add2 c1 c2 v1 v2 H b = H b := by unfold add2; rw [if_neg h1, if_neg h2]
theorem add2_1 {c1 c2 : Addr} {v1 v2 : V} {H : Hp} : add2 c1 c2 v1 v2 H c1 = some (cellO c1 v1) := if_pos rfl
theorem add2_2 {c1 c2 : Addr} {v1 v2 : V} {H : Hp} (h : c1 ≠ c2) : add2 c1 c2 v1 v2 H c2 = some (cellO c2 v2) := by unfold add2; rw [if_neg h.symm, if_pos rfl]
section
variable {P : Program} {w : World} {K : PySem.W.Frag} {mg : Str → Option Value} {base : Heap} {A : Around} {outer : List PySem.Env} {s s' : Shared} {H H' : Hp} {c1 c2 : Addr} {v1 v2 : V}
theorem hok_cut (x : HOk P w H s.heap) (e1 : H c1 = some (cellO c1 v1)) (e2 : H c2 = some (cellO c2 v2)) : HOk P w (cut2 c1 c2 H) s.heap := fun b o e => by
  obtain ⟨e0, n1, n2⟩ := cut2_some e
  refine (x b o e0).stay (fun b u _ q => q) (fun b q => ?_) fun b xs q => ?_
  · rw [cut2_ne (fun z => by rw [z, e1] at q; cases q) (fun z => by rw [z, e2] at q; cases q)]; exact q
  · rw [cut2_ne (fun z => by rw [z, e1] at q; cases q) (fun z => by rw [z, e2] at q; cases q)]; exact q
theorem env0_cut (e : Env0 P w K mg base A outer s H) (e1 : H c1 = some (cellO c1 v1)) (e2 : H c2 = some (cellO c2 v2)) : Env0 P w K mg base A outer s (cut2 c1 c2 H) :=
  ⟨e.frames, e.mod, fun b o q => ⟨(e.bs b o q).1, by unfold cut2; split; rfl; exact (e.bs b o q).2⟩, e.bsz, e.funs, fun b hb => by unfold cut2; split; rfl; exact e.frf b hb, hok_cut e.hok e1 e2, e.bare⟩
/-- a call's end with the cells untracked is one with them tracked -/
theorem ce_add (e : Env0 P w K mg base A outer s H) (e1 : H c1 = some (cellO c1 v1)) (e2 : H c2 = some (cellO c2 v2)) (hn : c1 ≠ c2) {Q : VK} {u : Value}
    (h : CE outer P w (cut2 c1 c2 H) s (fun v H' => H' c1 = none → H' c2 = none → Q v (add2 c1 c2 v1 v2 H')) u s') : CE outer P w H s Q u s' := by
  obtain ⟨v, H', os, bare, un, hok, r, q⟩ := h
  obtain ⟨⟨u1, r1, i1⟩, ⟨o1, ho1⟩, _⟩ := (show ObjOk P w H s.heap c1 (cellO c1 v1) from e.hok c1 _ e1)
  obtain ⟨⟨u2, r2, i2⟩, ⟨o2, ho2⟩, _⟩ := (show ObjOk P w H s.heap c2 (cellO c2 v2) from e.hok c2 _ e2)
  have z1 : cut2 c1 c2 H c1 = none := if_pos (.inl rfl)
  have z2 : cut2 c1 c2 H c2 = none := if_pos (.inr rfl)
  have nf : ∀ c v, H c = some (cellO c v) → c ∉ frs outer := fun c v hc hb => by rw [e.frf c hb] at hc; cases hc
  have k1 : ∀ o, s.heap.get? c1 = some o → s'.heap.get? c1 = some o := fun o ho => un.keep c1 o ho z1 (nf _ _ e1) (by simp)
  have k2 : ∀ o, s.heap.get? c2 = some o → s'.heap.get? c2 = some o := fun o ho => un.keep c2 o ho z2 (nf _ _ e2) (by simp)
  have n1 : H' c1 = none := un.free c1 o1 ho1 z1 (by simp)
  have n2 : H' c2 = none := un.free c2 o2 ho2 z2 (by simp)
  have ne : ∀ b, H b = none → b ≠ c1 ∧ b ≠ c2 := fun b hb => ⟨fun z => (by rw [z, e1] at hb; cases hb), fun z => (by rw [z, e2] at hb; cases hb)⟩
  have nx : ∀ b o, H b = some o → (∀ φ, o ≠ .ext φ) → b ≠ c1 ∧ b ≠ c2 := fun b o hb no => ⟨fun z => by rw [z, e1] at hb; exact no _ (Option.some.inj hb).symm, fun z => by rw [z, e2] at hb; exact no _ (Option.some.inj hb).symm⟩
  refine ⟨v, add2 c1 c2 v1 v2 H', os, bare, ⟨fun b o ho hb h1 h2 => ?_, fun b o ho hb h1 h2 => ?_, fun b o ho hb h1 => ?_, un.there, fun b xs hb => ?_, fun b o u hb => ?_, fun b ps hb => ?_⟩, fun b o hb => ?_, r, q n1 n2⟩
  · exact un.keep b o ho (by rw [cut2_ne (ne b hb).1 (ne b hb).2]; exact hb) h1 h2
  · exact un.slot b o ho (by rw [cut2_ne (ne b hb).1 (ne b hb).2]; exact hb) h1 h2
  · rw [add2_ne (ne b hb).1 (ne b hb).2]
    exact un.free b o ho (by rw [cut2_ne (ne b hb).1 (ne b hb).2]; exact hb) h1
  · obtain ⟨a, c⟩ := nx b _ hb (by intro φ z; cases z)
    rw [add2_ne a c]
    exact un.tups b xs (by rw [cut2_ne a c]; exact hb)
  · obtain ⟨a, c⟩ := nx b _ hb (by intro φ z; cases z)
    rw [add2_ne a c]
    exact un.frzs b o u (by rw [cut2_ne a c]; exact hb)
  · obtain ⟨a, c⟩ := nx b _ hb (by intro φ z; cases z)
    rw [add2_ne a c]
    exact un.tbls b ps (by rw [cut2_ne a c]; exact hb)
  · by_cases b1 : b = c1
    · subst b1
      rw [add2_1] at hb
      cases hb
      obtain ⟨o, ho, hd⟩ := i1
      exact cellO_ok r1 ⟨o, k1 o ho, hd⟩
    · by_cases b2 : b = c2
      · subst b2
        rw [add2_2 hn] at hb
        cases hb
        obtain ⟨o, ho, hd⟩ := i2
        exact cellO_ok r2 ⟨o, k2 o ho, hd⟩
      · rw [add2_ne b1 b2] at hb
        refine (hok b o hb).stay (fun b u _ q => q) (fun b q => ?_) fun b xs q => ?_
        · rw [add2_ne (fun z => by rw [z, n1] at q; cases q) (fun z => by rw [z, n2] at q; cases q)]; exact q
        · rw [add2_ne (fun z => by rw [z, n1] at q; cases q) (fun z => by rw [z, n2] at q; cases q)]; exact q
/-- the relations between the heaps -/
theorem same_cut (e1 : H c1 = some (cellO c1 v1)) (e2 : H c2 = some (cellO c2 v2)) (s : Same (cut2 c1 c2 H) H') : Same H (add2 c1 c2 v1 v2 H') := fun b o hb => by
  by_cases b1 : b = c1
  · subst b1; rw [add2_1]; rw [e1] at hb; exact hb
  · by_cases b2 : b = c2
    · subst b2
      unfold add2
      rw [if_neg b1, if_pos rfl]
      rw [e2] at hb
      exact hb
    · rw [add2_ne b1 b2]
      exact s b o (by rw [cut2_ne b1 b2]; exact hb)
theorem tups_cut (e1 : H c1 = some (cellO c1 v1)) (e2 : H c2 = some (cellO c2 v2)) : Tups H (cut2 c1 c2 H) := fun a xs ⟨o, e, d⟩ => ⟨o, by
  rw [cut2_ne (fun z => by rw [z, e1] at e; cases e) (fun z => by rw [z, e2] at e; cases e)]; exact e, d⟩
theorem tups_add (n1 : H' c1 = none) (n2 : H' c2 = none) : Tups H' (add2 c1 c2 v1 v2 H') := fun a xs ⟨o, e, d⟩ => ⟨o, by
  rw [add2_ne (fun z => by rw [z, n1] at e; cases e) (fun z => by rw [z, n2] at e; cases e)]; exact e, d⟩
end
end DL
-- part W5
set_option linter.all false
set_option maxRecDepth 100000
set_option maxHeartbeats 2000000
namespace DL
open PySem PySem.Spec PyProof.Rows L2
section
variable {P : Program} {w : World} {K : PySem.W.Frag} {mg : Str → Option Value} {base : Heap}
/-- what the function that steps_of hands out answers -/
def rowOf (R S : G.Rule) (a : G.Arr) (n : Nat) : D := .tup [.int (n : Int), .int (if (!decide ((n : Int) ∈ a.1.1)) = true then 1 else 0), .int (if (!decide ((n : Int) ∈ a.2.1)) = true then 1 else 0), eArr (G.moved R S a n)]
def rowsD (R S : G.Rule) (a : G.Arr) : List D := (List.range (G.hm a + 1)).map (rowOf R S a)
structure Good (R S : G.Rule) (a : G.Arr) : Prop where
  o1 : Ok R a.1
  o2 : Ok S a.2
  c : G.named a = a
theorem Good.hm {R S : G.Rule} {a : G.Arr} (g : Good R S a) : G.hm a ≤ 8 := by
  have h1 := g.o1.len
  have h2 := g.o2.len
  have h3 := seen_le (G.rows a)
  unfold G.hm
  have : (G.rows a).length = a.1.1.length + a.2.1.length := by unfold G.rows; rw [List.length_append]
  omega
theorem Good.moved {R S : G.Rule} {a : G.Arr} (g : Good R S a) (n : Nat) : Good R S (G.moved R S a n) := by
  have w := G.VArr.moved g.o1.v g.o2.v ⟨g.o1.w, g.o2.w⟩ n
  exact ⟨⟨g.o1.v, w.1⟩, ⟨g.o2.v, w.2⟩, G.moved_canon R S a n⟩
theorem Good.start {R S : G.Rule} (v : G.VRule R) (v' : G.VRule S) : Good R S (G.start R S) := ⟨Ok.first v, Ok.first v', G.named_start R S⟩
def stS : Stmt := (defBody (top 38)).getD 0 (.Pass ⟨0, 0, 0, 0⟩)
abbrev N_steps : List Str := ["arrangement", "one", "other", "found", "number", "mine", "its", "later"]
theorem sc_steps : NdefX.NScope N_steps ["arrangement"] ["one", "other"] (C8.fnScope stS) := NdefX.nscope_by (by decide +kernel)
def spSteps (ws : List (Option V)) : Sp := fun vs H Q _ => ∃ (R S : G.Rule) (a : G.Arr) (v1 v2 v : V), ws = [some v1, some v2] ∧ vs = [v] ∧ Dat H (eRule R) v1 ∧ Dat H (eRule S) v2 ∧ Dat H (eArr a) v ∧ Good R S a ∧
  ∀ v' H', Same H H' → RE H H' v' (.l (rowsD R S a)) → Q v' H'
theorem nok_steps (T : Txt K mg) (f : Addr) (name q : Str) (cl : List (Str × Addr)) (c : Addr) : NdefX.NOk P w K mg base CX0 4 f (NdefX.NF.of stS name q cl c) ["arrangement"] ["one", "other"] spSteps := by
  refine NdefX.nok_of (N := N_steps) sc_steps (fun _ _ _ us hl => match us, hl with | [_], _ => rfl) (fun ws vs H Q E h => ?_) (fun A outer s H vs ws Q E hr hf hc hw h => ?_)
  · obtain ⟨R, S, a, v1, v2, v, _, rfl, _⟩ := h
    rfl
  have nd := sc_steps.nd
  obtain ⟨R, S, a, v1, v2, v, rfl, rfl, d1, d2, d3, g, q⟩ := h
  have hm8 := g.hm
  obtain ⟨R0, no⟩ := rep_start (N := N_steps) (rs := [.d (eArr a), .d (eRule R), .d (eRule S)]) (vs := [v, v1, v2]) (H := H) ⟨v, _, rfl, d3, v1, _, rfl, d1, v2, _, rfl, d2, rfl⟩ (by simp [ArgOk])
  have key : ∀ t : TS, DS t (startE N_steps [.d (eArr a), .d (eRule R), .d (eRule S)]) (.rt (.l (rowsD R S a))) → t { nx := fun _ H' => Q .non H', rt := Q } (NdefX.startF N_steps [v] [some v1, some v2]) H := fun t h => by
    refine h _ H R0 { nx := fun _ H' => Q .non H', rt := Q } fun v' H' k' d' => q v' H' (fun b o e => k' b o e (no b)) ?_
    obtain ⟨b, us, e, n, z⟩ := d'
    exact ⟨b, us, e, n.resolve_left (no b), z⟩
  refine ⟨_, PSs.nox (pss_cons (ps_set (i := 3) nd rfl (Or.inl rfl) (pe_lst pa_nil)) (pss_cons (ps_for PassesOwn.never rfl (pi_range1 rfl T.n_range (pa_cons (pe_op op_add (pe_con (ok_how_many T) hr rfl (pa_cons (pv 0) pa_nil)) pe_int) pa_nil)) (pg_name (i := 4) nd rfl (Or.inl rfl)) (pss_cons (ps_asg (pe_con (ok_moved_by T) hr rfl (pa_cons (pv 1) (pa_cons (pv 2) (pa_cons (pv 0) (pa_cons (pv 4) pa_nil))))) (kpg_tup K rfl 3 rfl (pgs_cons (pg_name (i := 5) nd rfl (Or.inl rfl)) (pgs_cons (pg_name (i := 6) nd rfl (Or.inl rfl)) (pgs_cons (pg_name (i := 7) nd rfl (Or.inl rfl)) pgs_nil))))) (pss_one (ps_expr (kpe_bm K rfl PySem.F.plainAttrs_list PySem.F.slot_list_append PySem.F.type_list_append mt_append (pv 3) (pa_cons (pe_tupF (pa_cons (pv 4) (pa_cons (pe_callTy call_int1 rfl T.n_int (by rfl) (pa_cons (pe_not (pv 5)) pa_nil)) (pa_cons (pe_callTy call_int1 rfl T.n_int (by rfl) (pa_cons (pe_not (pv 6)) pa_nil)) (pa_cons (pv 7) pa_nil))))) pa_nil)))))) (pss_one (ps_ret (pv 3))))), ?_⟩
  refine key _ ?_
  refine ds_seq (ds_setL (xs := []) (de_lst dd_nil)) ?_
  refine ds_seq (ds_forN (n := ((G.hm a + 1 : Nat) : Int)) (m := G.hm a + 1) gok_nm (dd_cons (de_I0 (de_call (da_d (de_var rfl) da_nil) ⟨R, S, a, rfl, rfl, g.o1, g.o2, g.c⟩) de_int) dd_nil) (by omega) (by omega)
    (loop_all (fun k => [some (.d (eArr a)), some (.d (eRule R)), some (.d (eRule S)), some (.l ((List.range k).map (rowOf R S a))), none, none, none, none]) rfl (fun k d hd => ?_))) ?_
  · obtain ⟨hk, rfl⟩ := rngD_get hd
    refine ⟨_, rfl, ?_⟩
    rw [List.range_succ, List.map_append]
    refine ds_fg (ds_seq (ds_unp (de_call (da_d (de_var rfl) (da_d (de_var rfl) (da_d (de_var rfl) (da_d (de_var rfl) da_nil)))) ⟨R, S, a, k, rfl, rfl, g.o1, g.o2⟩) (gok_tp (gsok_cons (gsok_cons (gsok_cons gsok_nil)))) rfl)
      (ds_append (x := rowOf R S a k) rfl (de_tup (dd_cons (de_var rfl) (dd_cons (de_intB (dd_cons (de_not (de_var rfl)) dd_nil)) (dd_cons (de_intB (dd_cons (de_not (de_var rfl)) dd_nil)) (dd_cons (de_var rfl) dd_nil))))) (by simp; omega))) ⟨.inr rfl, .inr rfl, .inr rfl, .inr rfl, .inl rfl, .inl rfl, .inl rfl, .inl rfl, trivial⟩
  · rw [rngD_length]
    exact ds_retL rfl

end
end DL
-- part WC
set_option linter.all false
set_option maxRecDepth 100000
set_option maxHeartbeats 2000000
/-! steps_of and the function that it hands out. -/
namespace DL
open PySem PySem.Spec PyProof.Rows L2 NdefX LamX
def CloP (R S : G.Rule) : Hp → V → Prop := fun H v => ∃ f v1 v2, v = .ref f ∧ Clo stS "one" "other" H f v1 v2 ∧ Dat H (eRule R) v1 ∧ Dat H (eRule S) v2
section
variable {P : Program} {w : World} {K : PySem.W.Frag} {mg : Str → Option Value} {base : Heap}
def tClo (i : Nat) (t : TA) : TE := fun σ H Q => ∃ v R S, σ[i]? = some (some v) ∧ CloP R S H v ∧ t σ H fun vs H1 => CloP R S H1 v ∧ ∃ a u, vs = [u] ∧ Dat H1 (eArr a) u ∧ Good R S a ∧ ∀ v' H', Same H1 H' → RE H1 H' v' (.l (rowsD R S a)) → Q v' H'
theorem clo_run {X : Cx} {pins : List (Addr × Obj)} {σ : L2.St} {H : Hp} {s : Shared} {k : Nat} {u : V} {us : List Value} {R S : G.Rule} {a : G.Arr} {Q : VK} {f : Addr} (T : Txt X.K X.mg) (hr : Room k X.A) (hk : 4 ≤ k) (I : Inv X pins σ H s) (hc : CloP R S H (.ref f)) (r : Vals [u] us) (d : Dat H (eArr a) u) (g : Good R S a)
    (q : ∀ v' H', Same H H' → RE H H' v' (.l (rowsD R S a)) → Q v' H') : wpAny (model X.prog X.w) X.A (call (.ref f) us) (EP X pins σ Q) X.xe s := by
  obtain ⟨f', v1, v2, ef, ⟨name, qn, cl, c, c1, c2, hf, hcd, l1, l2, lo, hn, e1, e2⟩, d1, d2⟩ := hc
  cases ef
  have env := I.env0
  have tc := tups_cut (c1 := c1) (c2 := c2) e1 e2
  have nx : ∀ b φ, H b = some (.ext φ) → (∀ v, HO.ext φ ≠ cellO c1 v) → (∀ v, HO.ext φ ≠ cellO c2 v) → b ≠ c1 ∧ b ≠ c2 := fun b φ hb h1 h2 => ⟨fun z => h1 v1 (by rw [z, e1] at hb; exact (Option.some.inj hb).symm), fun z => h2 v2 (by rw [z, e2] at hb; exact (Option.some.inj hb).symm)⟩
  -- a function, a code object is no cell: by the heap
  obtain ⟨⟨u1, _, o1, ho1, hd1⟩, _, _⟩ := (show ObjOk X.prog X.w H s.heap c1 (cellO c1 v1) from I.hok c1 _ e1)
  obtain ⟨⟨u2, _, o2, ho2, hd2⟩, _, _⟩ := (show ObjOk X.prog X.w H s.heap c2 (cellO c2 v2) from I.hok c2 _ e2)
  obtain ⟨od, sl, doc, pm, ctv, hof⟩ := fnO_at I.hok hf
  obtain ⟨⟨oc, cvs, ct, hoc, hcd1, _⟩, _, _⟩ := (show ObjOk X.prog X.w H s.heap c (CodeO c qn) from I.hok c _ hcd)
  have nf : f ≠ c1 ∧ f ≠ c2 := ⟨fun z => (by rw [z] at hof; rw [hof] at ho1; cases ho1; cases hd1), fun z => (by rw [z] at hof; rw [hof] at ho2; cases ho2; cases hd2)⟩
  have nc : c ≠ c1 ∧ c ≠ c2 := ⟨fun z => (by rw [z] at hoc; rw [hoc] at ho1; cases ho1; rw [hcd1] at hd1; cases hd1), fun z => (by rw [z] at hoc; rw [hoc] at ho2; cases ho2; rw [hcd1] at hd2; cases hd2)⟩
  have hf' : cut2 c1 c2 H f = some (FnO f (NF.of stS name qn cl c)) := by rw [cut2_ne nf.1 nf.2]; exact hf
  have hc' : cut2 c1 c2 H c = some (CodeO c qn) := by rw [cut2_ne nc.1 nc.2]; exact hcd
  have C : CellsAt cl ["one", "other"] [some v1, some v2] s.heap (cut2 c1 c2 H) := by
    have at1 : ∃ u, L2.RelV v1 u ∧ s.heap.IsCell c1 (some u) := (show ObjOk X.prog X.w H s.heap c1 (cellO c1 v1) from I.hok c1 _ e1).1
    have at2 : ∃ u, L2.RelV v2 u ∧ s.heap.IsCell c2 (some u) := (show ObjOk X.prog X.w H s.heap c2 (cellO c2 v2) from I.hok c2 _ e2).1
    refine ⟨rfl, fun y d hd => ?_, fun y z d h1 h2 => ?_, fun i y hi => ?_⟩
    · rcases lo y d hd with ⟨_, rfl⟩ | ⟨_, rfl⟩
      · obtain ⟨u, _, i⟩ := at1
        exact ⟨if_pos (.inl rfl), _, i⟩
      · obtain ⟨u, _, i⟩ := at2
        exact ⟨if_pos (.inr rfl), _, i⟩
    · rcases lo y d h1 with ⟨a1, b1⟩ | ⟨a1, b1⟩ <;> rcases lo z d h2 with ⟨a2, b2⟩ | ⟨a2, b2⟩
      · rw [a1, a2]
      · exact absurd (b1.symm.trans b2) hn
      · exact absurd (b2.symm.trans b1) hn
      · rw [a1, a2]
    · match i, hi with
      | 0, hi =>
        have ey : "one" = y := Option.some.inj hi
        subst ey
        obtain ⟨u, r, i⟩ := at1
        exact ⟨c1, l1, fun v hv => by cases hv; exact ⟨u, r, i⟩⟩
      | 1, hi =>
        have ey : "other" = y := Option.some.inj hi
        subst ey
        obtain ⟨u, r, i⟩ := at2
        exact ⟨c2, l2, fun v hv => by cases hv; exact ⟨u, r, i⟩⟩
      | n + 2, hi => simp at hi
  have N := nok_steps (P := X.prog) (w := X.w) (K := X.K) (mg := X.mg) (base := X.base) T f name qn cl c
  refine wpAny_call (codeAny_mono (N.run X.A X.stack s (cut2 c1 c2 H) us [u] [some v1, some v2] (fun v' H' => H' c1 = none → H' c2 = none → Q v' (add2 c1 c2 v1 v2 H')) (fun _ _ _ => False) (hr.mono hk) (env0_cut env e1 e2) hf' hc' C r
    ⟨R, S, a, v1, v2, u, rfl, rfl, Dat.mono tc _ _ d1, Dat.mono tc _ _ d2, Dat.mono tc _ _ d, g, fun v' H' s' d' n1 n2 => q v' _ (same_cut e1 e2 s') ?_⟩) fun r s' hq => ?_)
  · obtain ⟨b, ys, ev, eb, hb, hy⟩ := d'
    have hb1 : b ≠ c1 ∧ b ≠ c2 := ⟨fun z => (by rw [z, n1] at hb; cases hb), fun z => (by rw [z, n2] at hb; cases hb)⟩
    refine ⟨b, ys, ev, by rw [cut2_ne hb1.1 hb1.2] at eb; exact eb, by rw [add2_ne hb1.1 hb1.2]; exact hb, hy.mono (tups_add n1 n2)⟩
  · cases r with
    | error e => exact False.elim hq
    | ok fl =>
      cases fl with
      | ret u => exact I.after (ce_add env e1 e2 hn hq)
      | next => exact False.elim hq
      | brk => exact False.elim hq
      | cont => exact False.elim hq
theorem pe_clo {X : Cx} {k i : Nat} {x : Str} {t : TA} {e : Expr} {p pos : Pos} (T : Txt X.K X.mg) (hr : Room k X.A) (hN : X.N[i]? = some x) (hv : Vis X.env.scope x) (ha : PA X [e] t) (hk : 4 ≤ k := by decide)
    (hd : (x == ("__debug__" : Str)) = false := by decide) (hcd : (x == ("__classdict__" : Str)) = false := by decide)
    (he : starEach [e] X.env = (false, eval e X.env) :: starEach [] X.env := by rfl) (hpl : (backTo pos (starEach [] X.env)).any (·.1) = false := by rfl) :
    PE X (.Call (.Name x p) [e] [] pos) (tClo i t) := by
  refine ⟨fun pins s σ H Q I h => ?_⟩
  obtain ⟨v, R, S, hs, hc, ht⟩ := h
  obtain ⟨f, v1, v2, ev, hC, _⟩ := id hc
  subst ev
  obtain ⟨name, qn, cl, c, c1, c2, hf, _⟩ := hC.ex
  refine wpAny_Call_Name_kw (thn ((pe_var (pos := p) hN hv hd hcd).run pins s σ H (fun v H1 => v = .ref f ∧ H1 = H) I ⟨.ref f, hs, rfl, rfl⟩) fun u s1 ⟨v, H1, I1, r1, q1⟩ => ?_)
  obtain ⟨ev, eH⟩ := q1
  subst ev
  rw [eH] at I1
  obtain rfl : u = Value.ref f := r1
  refine PySem.W.callWith_F (first := []) (fnAt_of I1 hf) (thn (ha.run pos pins s1 σ H _ I1 ht) fun us s2 ⟨vs, H2, I2, r, h1, a, u, ev, da, g, q⟩ => ?_) he hpl
  obtain ⟨f2, w1, w2, ef, hC2, _⟩ := id h1
  cases ef
  obtain ⟨name2, qn2, cl2, c', c1', c2', hf2, _⟩ := hC2.ex
  refine ⟨fnAt_of I2 hf2, ?_⟩
  subst ev
  exact clo_run T hr hk I2 h1 r da g q
variable {δ : Env} {te : TE}
theorem de_clo {i : Nat} {R S : G.Rule} {a : G.Arr} (hi : δ[i]? = some (some (.p (CloP R S)))) (h : DE te δ (.d (eArr a))) (g : Good R S a) : DE (tClo i (tCons te tNil)) δ (.l (rowsD R S a)) := fun σ H R0 Q q => by
  obtain ⟨v, e, z⟩ := R0.val i _ hi
  refine ⟨v, R, S, e, z H (skeep (Same.refl H)), ?_⟩
  exact h σ H R0 _ fun u H1 s1 d1 => ⟨z H1 (skeep s1), a, u, rfl, d1, g, fun v' H' s' d' => q v' H' (s1.trans s') (d'.back s1)⟩

/-! ### steps_of -/
def qS : Str := (envOfC "steps_of" (defScope (top 38)) 0 0 .none).qual ++ "steps"
def posS : Pos := match stS with
  | .FunctionDef _ _ _ _ _ _ _ _ _ p => p
  | _ => ⟨0, 0, 0, 0⟩
/-- the table at Pt tells the code object of steps -/
def Tab1 (Pt : Addr) (H : Hp) : Prop := ∃ (ps : Array Value) (c : Addr), H Pt = some (.tbl ps) ∧ TriplesOk ps.toList ∧ codeAmong posS ps.toList = some (.ref c) ∧ H c = some (CodeO c qS)
section
variable {X : Cx} {pins : List (Addr × Obj)} {σ : L2.St} {H : Hp} {s : Shared}
theorem ndef_new {c Pt : Addr} {name : Str} {params : Arguments} {body : List Stmt} {scope : Scope} {E : Value → Shared → Prop} {Q : Value → Shared → Prop} (I : Inv X pins σ H s) (TB : TabB X.base X.mg c Pt) (hcode : X.env.code = .ref c) (hq : X.env.qual ++ name = qS)
    (hP : H Pt = some (.tbl #[])) (hfree : ∀ y ∈ scope.names, y.2 = .free → ∃ c, X.env.cells.lookup y.1 = some c)
    (h : ∀ (f c' : Addr) (H1 : Hp) (s' : Shared), Inv X pins σ H1 s' → ExtN H H1 → Tab1 Pt H1 → H f = none → H1 f = some (FnO f ⟨name, X.env.qual ++ name, params, body, scope, cloFrom X.env.cells scope.names [], c'⟩) → H1 c' = some (CodeO c' (X.env.qual ++ name)) → Q (.ref f) s') :
    wpAny (model X.prog X.w) X.A (makeFunction name (X.env.qual ++ name) params (.stmts body) scope X.env [] [] [] posS posS.line) Q E s := by
  have bP : s.heap.BuiltinsAt X.mg Pt := TB.bm.keeps I.bk
  have hP' : s.heap.get? Pt = some { cls := .none, data := .fields #[] } := I.hok Pt _ hP
  refine PySem.W.makeFunction_K (mg := X.mg) (c := c) (P := Pt) (ps := #[]) (closure_ok hfree) I.ok.glob (I.mod.glob.keeps I.bk) hcode (TB.code.keeps I.bk) hP' True.intro (by rfl) TB.gP bP fun c' ctv doc h' tk hx hge hlt hrec htb => ?_
  obtain ⟨c2, oc, vs, t, e2, hoc, hd, hv⟩ := hrec
  cases e2
  have nC : H c' = none := I.hok.fresh hge
  have I1 := inv_table (t' := tk) (more := #[rawInt posS.line, rawInt posS.col, .ref c']) (h' := h') I hP (fun b o hb e => hx b o hb e) htb hge ⟨oc, vs, t, hoc, hd, hv⟩
  have nF := I1.hok.fresh (Nat.le_refl _)
  have I2 := inv_fn (F := ⟨name, X.env.qual ++ name, params, body, scope, cloFrom X.env.cells scope.names [], c'⟩) (t' := tk) (doc := doc) (pm := (X.mg "__name__").getD .none) (ctv := ctv) I1 rfl
  have hE : ExtN H (upd (upd H Pt (.tbl (#[] ++ #[rawInt posS.line, rawInt posS.col, .ref c']))) c' (CodeO c' (X.env.qual ++ name))) := fun b o e n => by
    rw [upd_ne (ne_of_none e nC), upd_ne (fun z => n #[] (Option.some.inj (e.symm.trans (by rw [z]; exact hP))))]
    exact e
  have hcF : c' ≠ h'.objs.size := Nat.ne_of_lt hlt
  refine h h'.objs.size c' _ _ I2 (fun b o e n => ?_) ?_ (I.hok.fresh (Nat.le_trans hge (Nat.le_of_lt hlt))) upd_same ?_
  · have e1 := hE b o e n
    exact (upd_ne (ne_of_none e1 nF)).trans e1
  · refine ⟨#[] ++ #[rawInt posS.line, rawInt posS.col, .ref c'], c', ?_, ?_, ?_, ?_⟩
    · have e1 : (upd (upd H Pt (.tbl (#[] ++ #[rawInt posS.line, rawInt posS.col, .ref c']))) c' (CodeO c' (X.env.qual ++ name))) Pt = some (.tbl (#[] ++ #[rawInt posS.line, rawInt posS.col, .ref c'])) := by
        rw [upd_ne (ne_of_none hP nC), upd_same]
      exact (upd_ne (ne_of_none e1 nF)).trans e1
    · exact True.intro
    · have : (#[] ++ #[rawInt posS.line, rawInt posS.col, .ref c']).toList = [rawInt posS.line, rawInt posS.col, .ref c'] := rfl
      rw [this]
      simp only [rawInt, codeAmong]
      simp
    · rw [← hq]
      exact (upd_ne hcF).trans upd_same
  · exact (upd_ne hcF).trans upd_same
theorem ndef_hit {c Pt : Addr} {name : Str} {params : Arguments} {body : List Stmt} {scope : Scope} {E : Value → Shared → Prop} {Q : Value → Shared → Prop} (I : Inv X pins σ H s) (TB : TabB X.base X.mg c Pt) (hcode : X.env.code = .ref c) (hq : X.env.qual ++ name = qS)
    (hT : Tab1 Pt H) (hfree : ∀ y ∈ scope.names, y.2 = .free → ∃ c, X.env.cells.lookup y.1 = some c)
    (h : ∀ (f c' : Addr) (s' : Shared), Inv X pins σ (upd H f (FnO f ⟨name, X.env.qual ++ name, params, body, scope, cloFrom X.env.cells scope.names [], c'⟩)) s' → H f = none → H c' = some (CodeO c' (X.env.qual ++ name)) → Q (.ref f) s') :
    wpAny (model X.prog X.w) X.A (makeFunction name (X.env.qual ++ name) params (.stmts body) scope X.env [] [] [] posS posS.line) Q E s := by
  obtain ⟨ps, c', hP, ht, hca, hco⟩ := hT
  have bP : s.heap.BuiltinsAt X.mg Pt := TB.bm.keeps I.bk
  have hP' : s.heap.get? Pt = some { cls := .none, data := .fields ps } := I.hok Pt _ hP
  refine PySem.W.makeFunction_hit (mg := X.mg) (c := c) (P := Pt) (ps := ps) (closure_ok hfree) I.ok.glob (I.mod.glob.keeps I.bk) hcode (TB.code.keeps I.bk) hP' ht hca bP fun ctv doc h' tk hx hsz => ?_
  have I1 : Inv X pins σ H { s with heap := h', toks := tk } := I.kept hx
  have nF : H h'.objs.size = none := I1.hok.fresh (Nat.le_refl _)
  have I2 := inv_fn (F := ⟨name, X.env.qual ++ name, params, body, scope, cloFrom X.env.cells scope.names [], c'⟩) (t' := tk) (doc := doc) (pm := (X.mg "__name__").getD .none) (ctv := ctv) I1 rfl
  exact h h'.objs.size c' _ I2 nF (by rw [hq]; exact hco)
end
end
end DL
-- part WD
set_option linter.all false
set_option maxRecDepth 100000
set_option maxHeartbeats 2000000
/-! steps_of: its promise, where the code table is empty and where it is filled. -/
namespace DL
open PySem PySem.Spec PyProof.Rows L2 NdefX LamX
theorem sc_steps_of : FnScope ["one", "other", "steps"] ["one", "other"] (defScope (top 38)) := ⟨rfl, rfl, rfl, by decide +kernel, rfl, by decide +kernel, by decide +kernel⟩
/-- what the top has written of steps_of: its code object and the table of the codes made in it -/
def TxtS (K : PySem.W.Frag) (mg : Str → Option Value) (c : Addr) : Prop := ∃ (f : Addr) (oc : Value) (od an : Option Addr) (osl : Array (Option Value)) (kV doc pm ct : Value),
  K.lookup f = some ⟨oc, od, .func (PySem.W.fnOf "steps_of" "steps_of" (defArgs (top 38)) (defBody (top 38)) (defScope (top 38)) .none kV doc pm an (.ref c) ct), osl⟩ ∧ PySem.W.codeIn K (.ref c) "steps_of" = true ∧ PySem.W.keepIn K (.ref f) = true ∧ mg "steps_of" = some (.ref f)
/-- the promise of steps_of -/
def spStepsOf (Pt : Addr) : Sp := fun vs H Q _ => ∃ R S, RAL H [.d (eRule R), .d (eRule S)] vs ∧
  ((H Pt = some (.tbl #[]) ∧ ∀ v H', ExtN H H' → Tab1 Pt H' → CloP R S H' v → Q v H') ∨ (Tab1 Pt H ∧ ∀ v H', Same H H' → CloP R S H' v → Q v H'))
section
variable {P : Program} {w : World} {K : PySem.W.Frag} {mg : Str → Option Value} {base : Heap}
theorem fn_steps_of {f c Pt : Addr} {oc : Value} {od an : Option Addr} {osl : Array (Option Value)} {kV doc pm ct : Value} (TB : TabB base mg c Pt)
    (lk : K.lookup f = some ⟨oc, od, .func (PySem.W.fnOf "steps_of" "steps_of" (defArgs (top 38)) (defBody (top 38)) (defScope (top 38)) .none kV doc pm an (.ref c) ct), osl⟩) (hcd : PySem.W.codeIn K (.ref c) "steps_of" = true) :
    FnOk P w K mg base CX0 1 f (PySem.W.fnOf "steps_of" "steps_of" (defArgs (top 38)) (defBody (top 38)) (defScope (top 38)) .none kV doc pm an (.ref c) ct) ["one", "other"] (spStepsOf Pt) := by
  have S := sc_steps_of
  have len : ∀ vs H Q E, spStepsOf Pt vs H Q E → vs.length = 2 := fun vs H Q E h => by obtain ⟨R, S, r, _⟩ := h; exact r.length
  refine ⟨len, fun A outer s H args us vs Q E hr e0 hb r hsp => ?_⟩
  have hl := len _ _ _ _ hsp
  have KX : K.In s.heap := e0.mod.kin.keeps fun b o e => (e0.bs b o e).1
  have lim : s.heap.NoLimit := e0.mod.nolimit.keeps fun b o e => (e0.bs b o e).1
  have hkind : ∀ y ∈ (["one", "other"] : List Str).zip us, (defScope (top 38)).names.lookup y.1 = some .local ∨ ((defScope (top 38)).names.lookup y.1 = some .cell ∧ ((cellsFrom (s.heap.objs.size + 1) (defScope (top 38)).names []).lookup y.1).isSome = true) := fun ⟨n, v⟩ hy => by
    rcases S.par n (List.of_mem_zip hy).1 with q | q
    · exact .inl q
    · exact .inr ⟨q, PySem.W.cellsFrom_some _ _ _ (.inl q)⟩
  refine codeAny_call_function hr.depth (KX _ _ lk) rfl S.co S.gen rfl (PySem.W.codeRec_of KX hcd) (hb _ _ _ _ ?_)
  refine wpAny_newFunctionEnv_cells S.kind hkind fun env he s1 x => ?_
  subst he
  refine ⟨lim.keeps x.toInCall.keep, codeAny_func ?_⟩
  have I : Inv (cxOf CX0 P w K mg base ["one", "other", "steps"] "steps_of" (defScope (top 38)) f (.ref c) A outer s H E) [] (L2.start ["one", "other", "steps"] vs) H s1 := inv_start S hr.hd e0 hl r x
  obtain ⟨Ru, Su, ral, hcase⟩ := hsp
  obtain ⟨v1, us1, e1, d1, v2, us2, e2, d2, e3⟩ := ral
  have e3 : us2 = [] := e3
  subst e3 e2 e1
  have hst : defBody (top 38) = [stS, .Return (some (.Name "steps" (match (defBody (top 38)).getD 1 (.Pass ⟨0, 0, 0, 0⟩) with | .Return (some (.Name _ p)) _ => p | _ => ⟨0, 0, 0, 0⟩))) (match (defBody (top 38)).getD 1 (.Pass ⟨0, 0, 0, 0⟩) with | .Return _ p => p | _ => ⟨0, 0, 0, 0⟩)] := by rfl
  have hsS : stS = .FunctionDef "steps" (C8.fnArgs stS) (C8.fnBody stS) [] none [] (C8.fnScope stS) none "steps" posS := by rfl
  -- the def statement: from here to the new function
  generalize hX : cxOf CX0 P w K mg base ["one", "other", "steps"] "steps_of" (defScope (top 38)) f (.ref c) A outer s H E = X at I
  have xN : X.N = (["one", "other", "steps"] : List Str) := by rw [← hX]; rfl
  have xS : X.env.scope = defScope (top 38) := by rw [← hX]; rfl
  have hfree0 : ∀ y ∈ (C8.fnScope stS).names, y.2 = .free → X.env.scope.names.lookup y.1 = some .cell ∨ X.env.scope.names.lookup y.1 = some .free := by
    rw [xS]
    exact ndef_free (fr := ["one", "other"]) (by decide +kernel)
  have hfr : ∀ y ∈ (C8.fnScope stS).names, y.2 = .free → ∃ c, X.env.cells.lookup y.1 = some c := fun y hy e => (hfree0 y hy e).elim (fun z => I.ok.has _ (.inl z)) fun z => I.ok.has _ (.inr z)
  have cp : Caps X (cloFrom X.env.cells (C8.fnScope stS).names []) ["one", "other"] [0, 1] := Caps.made I.ok hfree0 (ndef_fr (sc := defScope (top 38)) (by decide +kernel)) (by rw [xN]; rfl)
  have xl : (X.env.scope.names.lookup ("steps" : Str)) = some .local := by rw [xS]; decide +kernel
  have hq : qualnameIn X.env "steps" "steps" = X.env.qual ++ "steps" := by
    have hk : X.env.kindOf "steps" = some .local := xl
    unfold qualnameIn
    rw [hk]
    rfl
  have qeq : X.env.qual ++ "steps" = qS := by rw [← hX]; rfl
  have hcode : X.env.code = .ref c := by rw [← hX]; rfl
  have xTB : TabB X.base X.mg c Pt := by rw [← hX]; exact TB
  have xH : X.H_0 = H := by rw [← hX]; rfl
  have xs : X.s_0 = s := by rw [← hX]; rfl
  have xfs : X.fs = frs outer := by rw [← hX]; rfl
  have xex : X.ex = [] := by rw [← hX]; rfl
  have xP : X.prog = P := by rw [← hX]; rfl
  have xw : X.w = w := by rw [← hX]; rfl
  have xcells : ∀ y d, X.env.cells.lookup y = some d → s.heap.objs.size < d := fun y d hd => by
    refine x.above y d (PySem.mem_of_lookup ?_)
    rw [← hX] at hd
    exact hd
  -- what is asked behind the def statement
  have fin : ∀ (f' c' : Addr) (H1 : Hp) (s2 : Shared), Inv X [] ((L2.start ["one", "other", "steps"] [v1, v2]).set 2 (some (.ref f'))) H1 s2 → H1 f' = some (FnO f' (NF.of stS "steps" (X.env.qual ++ "steps") (cloFrom X.env.cells (C8.fnScope stS).names []) c')) → H1 c' = some (CodeO c' (X.env.qual ++ "steps")) →
      (∀ H2, (∀ b o, H1 b = some o → H2 b = some o) → CloP Ru Su H2 (.ref f') → Q (.ref f') H2) → Tups H H1 → CE outer P w H s Q (.ref f') s2 := fun f' c' H1 s2 J hf' hc' q tp => by
    have C := cells_of J cp
    obtain ⟨a1, l1, h1⟩ := C.has 0 "one" rfl
    obtain ⟨a2, l2, h2⟩ := C.has 1 "other" rfl
    obtain ⟨u1, r1, i1⟩ := h1 v1 rfl
    obtain ⟨u2, r2, i2⟩ := h2 v2 rfl
    have hn : a1 ≠ a2 := fun z => by
      have := C.inj "one" "other" a1 l1 (by rw [z]; exact l2)
      exact absurd this (by decide)
    have m1 : H1 a1 = none := (C.all _ _ l1).1
    have m2 : H1 a2 = none := (C.all _ _ l2).1
    have b1 := xcells _ _ (cp.sub _ _ l1)
    have b2 := xcells _ _ (cp.sub _ _ l2)
    have o1 : H a1 = none := e0.hok.fresh (Nat.le_of_lt b1)
    have o2 : H a2 = none := e0.hok.fresh (Nat.le_of_lt b2)
    have g1 : ∀ b o, s.heap.get? b = some o → b ≠ a1 ∧ b ≠ a2 := fun b o e => ⟨fun z => (by have := Heap.lt_size e; rw [z] at this; exact Nat.lt_irrefl _ (Nat.lt_trans b1 this)), fun z => (by have := Heap.lt_size e; rw [z] at this; exact Nat.lt_irrefl _ (Nat.lt_trans b2 this))⟩
    have g2 : ∀ b o, H b = some o → b ≠ a1 ∧ b ≠ a2 := fun b o e => ⟨fun z => (by rw [z, o1] at e; cases e), fun z => (by rw [z, o2] at e; cases e)⟩
    have g3 : ∀ b o, H1 b = some o → add2 a1 a2 v1 v2 H1 b = some o := fun b o e => by
      rw [add2_ne (fun z => by rw [z, m1] at e; cases e) (fun z => by rw [z, m2] at e; cases e)]
      exact e
    have base := J.base
    rw [xH, xs, xfs, xex] at base
    have hok := J.hok
    rw [xP, xw] at hok
    have os := J.os
    rw [xs] at os
    refine ⟨.ref f', add2 a1 a2 v1 v2 H1, os, J.bare, ⟨base.keep, base.slot, fun b o ho hb hx => ?_, base.there, fun b ys hb => g3 _ _ (base.tups b ys hb), fun b o u hb => g3 _ _ (base.frzs b o u hb), fun b ps hb => ?_⟩, fun b o hb => ?_, rfl, q _ g3 ⟨f', v1, v2, rfl, ⟨_, _, _, c', a1, a2, g3 _ _ hf', g3 _ _ hc', l1, l2, fun z d hd => ?_, hn, add2_1, add2_2 hn⟩, ?_, ?_⟩⟩
    · rw [add2_ne (g1 b o ho).1 (g1 b o ho).2]
      exact base.free b o ho hb hx
    · obtain ⟨more, h⟩ := base.tbls b ps hb
      exact ⟨more, g3 _ _ h⟩
    · by_cases b1 : b = a1
      · subst b1
        rw [add2_1] at hb
        cases hb
        exact cellO_ok r1 i1
      · by_cases b2 : b = a2
        · subst b2
          rw [add2_2 hn] at hb
          cases hb
          exact cellO_ok r2 i2
        · rw [add2_ne b1 b2] at hb
          exact (hok b o hb).stay (fun b u _ q => q) (fun b q => g3 _ _ q) fun b xs q => g3 _ _ q
    · have hz : z = "one" ∨ z = "other" := by
        have hm : (z, NameKind.free) ∈ (C8.fnScope stS).names := by
          rcases cloFrom_mem (PySem.mem_of_lookup hd) with hm | ⟨h1, _⟩
          · cases hm
          · exact h1
        have := sc_steps.free _ hm rfl
        simpa using this
      rcases hz with rfl | rfl
      · rw [l1] at hd
        exact .inl ⟨rfl, (Option.some.inj hd).symm⟩
      · rw [l2] at hd
        exact .inr ⟨rfl, (Option.some.inj hd).symm⟩
    · exact Dat.mono (fun a xs h => (tp a xs h).keep fun o e => g3 _ _ e) _ _ d1
    · exact Dat.mono (fun a xs h => (tp a xs h).keep fun o e => g3 _ _ e) _ _ d2
  -- run it
  have ret : ∀ (f' c' : Addr) (H1 : Hp) (s2 : Shared), Inv X [] ((L2.start ["one", "other", "steps"] [v1, v2]).set 2 (some (.ref f'))) H1 s2 → H1 f' = some (FnO f' (NF.of stS "steps" (X.env.qual ++ "steps") (cloFrom X.env.cells (C8.fnScope stS).names []) c')) → H1 c' = some (CodeO c' (X.env.qual ++ "steps")) →
      (∀ H2, (∀ b o, H1 b = some o → H2 b = some o) → CloP Ru Su H2 (.ref f') → Q (.ref f') H2) → Tups H H1 → ∀ p p2, wpAny (model X.prog X.w) X.A (exec (.Return (some (.Name "steps" p)) p2) X.env) (fun fl s' => match fl with | .ret u => CE outer P w H s Q u s' | _ => False) X.xe s2 := fun f' c' H1 s2 J hf' hc' q tp p p2 => by
    refine wpAny_Return_some (thn ((pe_var (X := X) (i := 2) (x := "steps") (pos := p) (by rw [xN]; rfl) (.inl xl) (by decide) (by decide)).run [] s2 _ H1 (fun v H2 => v = .ref f' ∧ H2 = H1) J ⟨.ref f', rfl, rfl, rfl⟩) fun u s3 ⟨v, H2, J2, rv, ev, eH⟩ => ?_)
    subst ev eH
    obtain rfl : u = Value.ref f' := rv
    exact fin f' c' H2 s3 J2 hf' hc' q tp
  have go : wpAny (model X.prog X.w) X.A (execs (defBody (top 38)) X.env) (fun fl s' => match fl with | .ret u => CE outer P w H s Q u s' | _ => False) X.xe s1 := by
    rw [hst]
    refine wpAny_execs_cons ?_
    rw [hsS]
    refine PySem.W.nestDef_K (by rfl) (by rfl) (by rfl) ?_
    rw [hq]
    have nxt : ∀ (f' c' : Addr) (H1 : Hp) (s2 : Shared), Inv X [] (L2.start ["one", "other", "steps"] [v1, v2]) H1 s2 → H1 f' = some (FnO f' (NF.of stS "steps" (X.env.qual ++ "steps") (cloFrom X.env.cells (C8.fnScope stS).names []) c')) → H1 c' = some (CodeO c' (X.env.qual ++ "steps")) →
        (∀ H2, (∀ b o, H1 b = some o → H2 b = some o) → CloP Ru Su H2 (.ref f') → Q (.ref f') H2) → Tups H H1 → wpAny (model X.prog X.w) X.A (storeName X.env "steps" (.ref f')) (fun _ s' => wpAny (model X.prog X.w) X.A (execs [.Return (some (.Name "steps" (match (defBody (top 38)).getD 1 (.Pass ⟨0, 0, 0, 0⟩) with | .Return (some (.Name _ p)) _ => p | _ => ⟨0, 0, 0, 0⟩))) (match (defBody (top 38)).getD 1 (.Pass ⟨0, 0, 0, 0⟩) with | .Return _ p => p | _ => ⟨0, 0, 0, 0⟩)] X.env) (fun fl s' => match fl with | .ret u => CE outer P w H s Q u s' | _ => False) X.xe s') X.xe s2 := fun f' c' H1 s2 J hf' hc' q tp => by
      refine store_ok J (by rw [xN]; decide +kernel) (i := 2) (by rw [xN]; rfl) (.inl xl) (v := .ref f') rfl (fun s3 J3 => ?_) (.inr xl)
      refine wpAny_execs_cons (thn (ret f' c' H1 s3 J3 hf' hc' q tp _ _) fun fl s4 hq4 => ?_)
      cases fl with
      | ret u => exact hq4
      | next => exact False.elim hq4
      | brk => exact False.elim hq4
      | cont => exact False.elim hq4
    rcases hcase with ⟨hP, q⟩ | ⟨hT, q⟩
    · refine ndef_new I xTB hcode qeq hP hfr fun f' c' H1 s2 J en t1 f0 hf' hc' => ?_
      refine nxt f' c' H1 s2 J hf' hc' (fun H2 k hcl => q _ H2 (fun b o e n => k b o (en b o e n)) ?_ hcl) fun a xs ⟨o, e, d⟩ => ⟨o, en _ _ e (by intro ps z; cases z), d⟩
      obtain ⟨ps, c0, z1, z2, z3, z4⟩ := t1
      exact ⟨ps, c0, k _ _ z1, z2, z3, k _ _ z4⟩
    · refine ndef_hit I xTB hcode qeq hT hfr fun f' c' s2 J f0 hc' => ?_
      have sm : Same H (upd H f' (FnO f' (NF.of stS "steps" (X.env.qual ++ "steps") (cloFrom X.env.cells (C8.fnScope stS).names []) c'))) := same_upd f0
      exact nxt f' c' _ s2 J upd_same (sm _ _ hc') (fun H2 k hcl => q _ H2 (fun b o e => k b o (sm b o e)) hcl) (.of sm)
  subst hX
  refine wpAny_mono go (fun fl s' hs => ?_) fun e s' hs => hs
  cases fl with
  | ret u => exact hs
  | next => exact False.elim hs
  | brk => exact False.elim hs
  | cont => exact False.elim hs
end
end DL
-- part WE
set_option linter.all false
set_option maxRecDepth 100000
set_option maxHeartbeats 2000000
/-! steps_of as a def over data, where its code table is filled; plain facts for the walks. -/
namespace DL
open PySem PySem.Spec PyProof.Rows L2 NdefX LamX
/-- what the closure's callers stand on -/
structure TxtX (K : PySem.W.Frag) (mg : Str → Option Value) (base : Heap) (Pt : Addr) : Prop where
  T : Txt K mg
  S : ∃ c, TxtS K mg c ∧ TabB base mg c Pt
/-- data, and the code table is filled -/
def PT (Pt : Addr) (x : D) : Hp → V → Prop := fun H v => Dat H x v ∧ Tab1 Pt H
theorem Tab1.ext {Pt : Addr} {H H' : Hp} (h : Tab1 Pt H) (s : Same H H') : Tab1 Pt H' := by
  obtain ⟨ps, c, h1, h2, h3, h4⟩ := h
  exact ⟨ps, c, s _ _ h1, h2, h3, s _ _ h4⟩
theorem CloP.ext {R S : G.Rule} {H H' : Hp} {v : V} (h : CloP R S H v) (s : Same H H') : CloP R S H' v := by
  obtain ⟨f, v1, v2, e, c, d1, d2⟩ := h
  exact ⟨f, v1, v2, e, c.mono (fun _ => False) (skeep s) (fun _ _ _ z => z), Dat.mono (.of s) _ _ d1, Dat.mono (.of s) _ _ d2⟩
theorem PT.ext {Pt : Addr} {x : D} {H H' : Hp} {v : V} (h : PT Pt x H v) (s : Same H H') : PT Pt x H' v := ⟨Dat.mono (.of s) _ _ h.1, h.2.ext s⟩
section
variable {P : Program} {w : World} {K : PySem.W.Frag} {mg : Str → Option Value} {base : Heap} {Pt : Addr} {δ : Env}
theorem de_varPd {i : Nat} {x : D} (h : δ[i]? = some (some (.p (PT Pt x)))) : DE (tVar i) δ (.d x) := fun σ H R Q q => by
  obtain ⟨v, e, s⟩ := R.val i _ h
  exact ⟨v, e, q v H (Same.refl H) (s H (skeep (Same.refl H))).1⟩
def rel_steps_of (Pt : Addr) (rs : List R) (r : R) : Prop := ∃ (R S : G.Rule), rs = [.p (PT Pt (eRule R)), .d (eRule S)] ∧ r = .p (CloP R S)
theorem ok_steps_of (TX : TxtX K mg base Pt) : Con P w K mg base "steps_of" ["one", "other"] 1 (rel_steps_of Pt) := by
  obtain ⟨c, ⟨f, oc, od, an, osl, kV, doc, pm, ct, lk, hcd, kp, hm⟩, TB⟩ := TX.S
  refine ⟨f, _, hm, kp, .all (fun us hl => match us, hl with | [_, _], _ => rfl), (fn_steps_of TB lk hcd).imp fun vs H Q E h => ?_⟩
  obtain ⟨rs, r, ral, ⟨R, S, rfl, rfl⟩, q⟩ := h
  obtain ⟨v, us, e, h1, h2⟩ := ral
  have h1 : ∀ H', Same H H' → PT Pt (eRule R) H' v := h1
  have h0 := h1 H (Same.refl H)
  refine ⟨R, S, ⟨v, us, e, h0.1, h2⟩, .inr ⟨h0.2, fun v' H' s' hc => q v' H' s' fun H'' s'' => hc.ext s''⟩⟩
end
/-! ### plain facts -/
theorem repr_small : ∀ i ∈ List.range 16, ∀ j ∈ List.range 16, decide ((Str.ofString (toString (i : Int))) = Str.ofString (toString (j : Int))) = decide ((i : Int) = (j : Int)) := by decide +kernel
/-- the rows of a walk -/
def walkRows (R S : G.Rule) : G.Arr → List Nat → List D
  | _, [] => []
  | a, n :: w => rowOf R S a n :: walkRows R S (G.moved R S a n) w
theorem walkRows_snoc (R S : G.Rule) : ∀ (w : List Nat) (a : G.Arr) (n : Nat), walkRows R S a (w ++ [n]) = walkRows R S a w ++ [rowOf R S (G.walkTo R S a w) n]
  | [], a, n => rfl
  | m :: w, a, n => by
    show rowOf R S a m :: walkRows R S (G.moved R S a m) (w ++ [n]) = _
    rw [walkRows_snoc R S w]
    rfl
theorem walkRows_length (R S : G.Rule) : ∀ (w : List Nat) (a : G.Arr), (walkRows R S a w).length = w.length
  | [], a => rfl
  | m :: w, a => congrArg (· + 1) (walkRows_length R S w _)
theorem walkTo_snoc (R S : G.Rule) (a : G.Arr) (w : List Nat) (n : Nat) : G.walkTo R S a (w ++ [n]) = G.moved R S (G.walkTo R S a w) n := by
  rw [G.walkTo_append]; rfl
theorem vw_at {R S : G.Rule} {a : G.Arr} {w : List Nat} {k n : Nat} (h : G.VW R S a w) (hk : w[k]? = some n) : n ≤ G.hm (G.walkTo R S a (w.take k)) := by
  have e := take_succ' hk
  have lt : k < w.length := (List.getElem?_eq_some_iff.mp hk).1
  have e2 : w = w.take k ++ (n :: w.drop (k + 1)) := by
    have := List.take_append_drop (k + 1) w
    rw [e, List.append_assoc] at this
    exact this.symm
  rw [e2] at h
  exact (G.VW.append.mp h).2.1
theorem good_walk {R S : G.Rule} {a : G.Arr} (g : Good R S a) : ∀ w : List Nat, Good R S (G.walkTo R S a w) := fun w => by
  induction w generalizing a with
  | nil => exact g
  | cons n w ih => exact ih (g.moved n)
theorem filter_row {a : G.Arr} {n : Nat} (h : n ≤ G.hm a) : (List.range (G.hm a + 1)).filter (fun (m : Nat) => decide ((m : Int) = (n : Int))) = [n] := by
  have key : ∀ k, n < k → (List.range k).filter (fun (m : Nat) => decide ((m : Int) = (n : Int))) = [n] := fun k => by
    induction k with
    | zero => intro z; omega
    | succ k ih =>
      intro hk
      rw [List.range_succ, List.filter_append]
      by_cases c : n < k
      · rw [ih c]
        have : ¬ ((k : Int) = (n : Int)) := by omega
        simp [this]
      · have e : n = k := by omega
        subst e
        have : (List.range n).filter (fun (m : Nat) => decide ((m : Int) = (n : Int))) = [] := by
          refine List.filter_eq_nil_iff.mpr fun m hm => ?_
          have := List.mem_range.mp hm
          simp
          omega
        rw [this]
        simp
  exact key _ (by omega)
/-- played, one thing after another -/
def playSt (R S : G.Rule) (p : G.Arr × Int) (n : Nat) : G.Arr × Int := ((G.step R p.1.1 (G.thingOf p.1 p.2 n), G.step S p.1.2 (G.thingOf p.1 p.2 n)), max p.2 (G.thingOf p.1 p.2 n + 1))
theorem playGo_snoc (R S : G.Rule) : ∀ (w : List Nat) (a : G.Arr) (u : Int) (n : Nat), G.playGo R S a u (w ++ [n]) = G.playGo R S a u w ++ [G.thingOf (w.foldl (playSt R S) (a, u)).1 (w.foldl (playSt R S) (a, u)).2 n]
  | [], a, u, n => rfl
  | m :: w, a, u, n => by
    show G.thingOf a u m :: G.playGo R S _ _ (w ++ [n]) = _
    rw [playGo_snoc R S w]
    rfl
theorem playGo_length (R S : G.Rule) : ∀ (w : List Nat) (a : G.Arr) (u : Int), (G.playGo R S a u w).length = w.length
  | [], a, u => rfl
  | m :: w, a, u => congrArg (· + 1) (playGo_length R S w _ _)
theorem thingOf_nn {R S : G.Rule} {p : G.Arr × Int} (h1 : Ok R p.1.1) (h2 : Ok S p.1.2) (h3 : 0 ≤ p.2) (n : Nat) : 0 ≤ G.thingOf p.1 p.2 n := by
  unfold G.thingOf
  split
  · rename_i h
    have m : (G.seen (G.rows p.1)).getD n 0 ∈ G.seen (G.rows p.1) := G.getD_mem h
    obtain ⟨m1, m2⟩ := G.mem_seen.mp m
    have : -1 ≤ (G.seen (G.rows p.1)).getD n 0 := by
      rcases List.mem_append.mp m1 with z | z
      · exact h1.w.row.ge _ z
      · exact h2.w.row.ge _ z
    omega
  · exact h3
theorem play_good {R S : G.Rule} : ∀ (w : List Nat) (p : G.Arr × Int), Ok R p.1.1 → Ok S p.1.2 → 0 ≤ p.2 → Ok R (w.foldl (playSt R S) p).1.1 ∧ Ok S (w.foldl (playSt R S) p).1.2 ∧ 0 ≤ (w.foldl (playSt R S) p).2
  | [], p, h1, h2, h3 => ⟨h1, h2, h3⟩
  | n :: w, p, h1, h2, h3 => by
    have t := thingOf_nn h1 h2 h3 n
    exact play_good w (playSt R S p n) (h1.step (by omega)) (h2.step (by omega)) (by show 0 ≤ max _ _; omega)
end DL
-- part W6
set_option linter.all false
set_option maxRecDepth 100000
set_option maxHeartbeats 2000000
namespace DL
open PySem PySem.Spec PyProof.Rows L2
section
variable {P : Program} {w : World} {K : PySem.W.Frag} {mg : Str → Option Value} {base : Heap}
variable {Pt : Addr}
theorem shaped_arr (a : G.Arr) : SeqAt.shaped (toPy (eArr a)) = true := by
  obtain ⟨⟨r1, b1⟩, ⟨r2, b2⟩⟩ := a
  unfold eArr eSta eInts SeqAt.shaped
  simp [toPy, toPyL, toPyL_ints, PyData.canLay0, PyData.canLayAll0, PyData.depth, PyData.depthAll, canLay_ints, depth_ints]
abbrev N_is_pair : List Str := ["one", "other", "thing"]
def rel_is_pair (rs : List R) (r : R) : Prop := ∃ (R S : G.Rule) (a : G.Arr), rs = [.d (eRule R), .d (eRule S), .d (eArr a)] ∧ r = .d (.bl true) ∧ (Good R S a) ∧ (∀ x ∈ G.rows a, x ≤ 99)
theorem sc_is_pair : FnScope N_is_pair ["one", "other", "thing"] (defScope (top 35)) := ⟨rfl, rfl, rfl, by decide +kernel, rfl, by decide +kernel, by decide +kernel⟩
theorem ok_is_pair (T : Txt K mg) : Con P w K mg base "is_pair" ["one", "other", "thing"] 4 (rel_is_pair) := by
  refine con_of (N := N_is_pair) T.f_is_pair sc_is_pair (fun _ _ _ _ _ _ us hl => match us, hl with | [_, _, _], _ => rfl) (fun rs r h => ?_) (fun f cdv A outer s H E hr => ?_)
  · obtain ⟨_, _, _, rfl, rfl, _, _⟩ := h; exact ⟨rfl, by simp [ArgOk]⟩
  have nd := sc_is_pair.nd
  refine ⟨_, (pss_cons (ps_if (PW.pt (pw_or (pt_not (pt_val (pe_callB (kx_isi K) rfl T.n_isinstance (by rfl) (pa_cons (pv 2) (pa_cons (pe_bltn (v := .ty "tuple") (u := .type "tuple") rfl T.n_tuple (by rfl) rfl) pa_nil))))) (pw_or1 (pt_cmpR op_ne (pe_callB (kx_len K) rfl T.n_len PySem.boot_len (pa_cons (pv 2) pa_nil)) pe_int (nomark _))))) (pss_one (ps_ret pe_bl)) pss_nil) (pss_cons (ps_if (PW.pt (pw_or (pt_not (pt_val (pe_con (ok_is_state_of T) hr rfl (pa_cons (pv 0) (pa_cons (pe_ix (kx_ixT K) (pv 2) pe_int (fun _ _ => rfl)) pa_nil))))) (pw_or1 (pt_not (pt_val (pe_con (ok_is_state_of T) hr rfl (pa_cons (pv 1) (pa_cons (pe_ix (kx_ixT K) (pv 2) pe_int (fun _ _ => rfl)) pa_nil)))))))) (pss_one (ps_ret pe_bl)) pss_nil) (pss_one (ps_ret (pe_cmpR (kx_eqD K rfl hr.units) (pe_con (ok_named T) hr rfl (pa_cons (pe_ix (kx_ixT K) (pv 2) pe_int (fun _ _ => rfl)) (pa_cons (pe_ix (kx_ixT K) (pv 2) pe_int (fun _ _ => rfl)) pa_nil))) (pv 2) (nomark _)))))), ?_⟩
  rintro rs r ⟨R, S, a, rfl, rfl, g, h9⟩
  have l1 := g.o1.len
  have l2 := g.o2.len
  refine ds_seq (ds_no (DT.to (dt_or (dt_not (dt_B (de_isi (de_var rfl)))) fun _ => (dt_test (de_neI (de_len (by first | exact .inl (da_d (de_var rfl) da_nil) | exact .inr (da_d (de_var rfl) da_nil))) de_int))) (by rw [isi_arr]; rfl)) ds_next) ?_
  refine ds_seq (ds_no (DT.to (dt_or (dt_not (dt_B (de_call (da_d (de_var rfl) (da_d (de_ix (de_var rfl) de_int (by first | rfl | assumption | decide | omega | (simp; done) | (simp; omega))) da_nil)) ⟨_, _, rfl, rfl, (by first | exact g.o1 | exact g.o2), (fun x hx => h9 x (by first | exact List.mem_append_left _ hx | exact List.mem_append_right _ hx))⟩))) fun _ => (dt_not (dt_B (de_call (da_d (de_var rfl) (da_d (de_ix (de_var rfl) de_int (by first | rfl | assumption | decide | omega | (simp; done) | (simp; omega))) da_nil)) ⟨_, _, rfl, rfl, (by first | exact g.o1 | exact g.o2), (fun x hx => h9 x (by first | exact List.mem_append_left _ hx | exact List.mem_append_right _ hx))⟩)))) rfl) ds_next) ?_
  have e : DE (tCall (spD rel_named) [] E0 (tCons (tOp (rIxT K) (tVar 2) (tC (V.int 0))) (tCons (tOp (rIxT K) (tVar 2) (tC (V.int 1))) tNil))) (startE N_is_pair [.d (eRule R), .d (eRule S), .d (eArr a)]) (.d (eArr a)) :=
    DE.to (de_call (da_d (de_ix (de_var rfl) de_int rfl) (da_d (de_ix (de_var rfl) de_int rfl) da_nil)) ⟨a, rfl, rfl, l1, l2⟩) (by rw [g.c])
  exact ds_ret (de_eqD e (de_var rfl) (shaped_arr a))
abbrev N_followed : List Str := ["here", "steps_of", "names", "found", "name", "rows", "row"]
def rel_followed (rs : List R) (r : R) : Prop := ∃ (R S : G.Rule) (a : G.Arr) (w : List Nat), rs = [.d (eArr a), .p (CloP R S), .d (eNats w)] ∧ r = .l (walkRows R S a w) ∧ (Good R S a) ∧ (G.VW R S a w) ∧ (w.length ≤ 1000)
theorem sc_followed : FnScope N_followed ["here", "steps_of", "names"] (defScope (top 10)) := ⟨rfl, rfl, rfl, by decide +kernel, rfl, by decide +kernel, by decide +kernel⟩
theorem ok_followed (T : Txt K mg) : Con P w K mg base "followed" ["here", "steps_of", "names"] 5 (rel_followed) := by
  refine con_of (N := N_followed) T.f_followed sc_followed (fun _ _ _ _ _ _ us hl => match us, hl with | [_, _, _], _ => rfl) (fun rs r h => ?_) (fun f cdv A outer s H E hr => ?_)
  · obtain ⟨_, _, _, _, rfl, rfl, _, _, _⟩ := h; exact ⟨rfl, by simp [ArgOk]⟩
  have nd := sc_followed.nd
  refine ⟨_, (pss_cons (ps_if (pt_not (pt_val (pe_callB (kx_isi K) rfl T.n_isinstance (by rfl) (pa_cons (pv 2) (pa_cons (pe_bltn (v := .ty "tuple") (u := .type "tuple") rfl T.n_tuple (by rfl) rfl) pa_nil))))) (pss_one (ps_ret pe_non)) pss_nil) (pss_cons (ps_set (i := 3) nd rfl (Or.inl rfl) (pe_lst pa_nil)) (pss_cons (ps_for PassesOwn.never rfl (kpi_tup K rfl (pv 2)) (pg_name (i := 4) nd rfl (Or.inr rfl)) (pss_cons (ps_setLc (own := [("row", 6)]) (i := 5) rfl nd rfl rfl (sw_true rfl rfl rfl (by decide +kernel)) (kpi_list K rfl (pe_clo (i := 1) T hr rfl (Or.inl rfl) (pa_cons (pv 0) pa_nil))) (blkOk_by (N := N_followed) (sc := defScope (top 10)) (by decide +kernel)) (fun _ _ _ _ _ => (pg_name (i := 6) nd rfl (Or.inl rfl))) (fun _ _ _ _ _ => (pts_one (pt_cmpR op_eq (pe_callB SkE.call_repr_int rfl T.n_repr (by rfl) (pa_cons (pe_ix (kx_ixT K) (pv 6) pe_int (fun _ _ => rfl)) pa_nil)) (pe_callB SkE.call_repr_int rfl T.n_repr (by rfl) (pa_cons (pv 4) pa_nil)) (nomark _)))) (fun _ _ _ _ _ => (pv 6))) (pss_cons (ps_if (pt_not (kpt_truth K rfl (pv 5))) (pss_one (ps_ret pe_non)) pss_nil) (pss_cons (ps_expr (kpe_bm K rfl PySem.F.plainAttrs_list PySem.F.slot_list_append PySem.F.type_list_append mt_append (pv 3) (pa_cons (pe_ix (kx_ixL K) (pv 5) pe_int (fun _ _ => rfl)) pa_nil))) (pss_one (ps_set (i := 0) nd rfl (Or.inl rfl) (pe_ix (kx_ixT K) (pe_ix (kx_ixL K) (pv 5) pe_int (fun _ _ => rfl)) pe_int (fun _ _ => rfl)))))))) (pss_one (ps_ret (pv 3)))))), ?_⟩
  rintro rs r ⟨R, S, a, w, rfl, rfl, g, hw, hl⟩
  refine ds_seq (ds_no (DT.to (dt_not (dt_B (de_isi (de_var rfl)))) (by rw [isi_nats]; rfl)) ds_next) ?_
  refine ds_seq (ds_setL (xs := []) (de_lst dd_nil)) ?_
  refine ds_seq (ds_forT (ds := (w.map fun (n : Nat) => (n : Int)).map D.int) gok_nm (de_var rfl)
    (loop_all (fun k => [some (.d (eArr (G.walkTo R S a (w.take k)))), some (.p (CloP R S)), some (.d (eNats w)), some (.l (walkRows R S a (w.take k))), none, none, none]) rfl (fun k d hd => ?_))) ?_
  · rw [List.getElem?_map] at hd
    obtain ⟨z, hz, rfl⟩ := Option.map_eq_some_iff.mp hd
    rw [List.getElem?_map] at hz
    obtain ⟨n, hn, rfl⟩ := Option.map_eq_some_iff.mp hz
    refine ⟨_, rfl, ?_⟩
    have lt : k < w.length := (List.getElem?_eq_some_iff.mp hn).1
    have hle := vw_at hw hn
    have gk := good_walk g (w.take k)
    have h8 := gk.hm
    rw [take_succ' hn, walkRows_snoc, walkTo_snoc]
    have hlen : (walkRows R S a (w.take k)).length ≤ 1000 := by rw [walkRows_length, List.length_take]; omega
    generalize G.walkTo R S a (w.take k) = b at hle gk h8 ⊢
    generalize walkRows R S a (w.take k) = acc at hlen ⊢
    refine ds_fg (ds_seq (ds_setL (xs := [rowOf R S b n]) (DE.to (de_filL (l := List.range (G.hm b + 1)) (f := rowOf R S b) (fun m => decide ((m : Int) = (n : Int))) (rowOf R S b) (.inr (de_clo rfl (de_var rfl) gk)) (fun m hm => ?_) (fun m hm _ => de_var rfl) (by rw [List.length_range]; omega)) (by rw [filter_row hle]; rfl))) (ds_seq (ds_no (DT.to (dt_not (dt_truL (de_varL rfl))) rfl) ds_next) (ds_seq (ds_append (x := rowOf R S b n) rfl (de_ixL (de_varL rfl) de_int rfl) (by omega)) (ds_set (x := eArr (G.moved R S b n)) (de_ix (de_ixL (de_varL rfl) de_int rfl) de_int rfl))))) ⟨.inr rfl, .inr rfl, .inr rfl, .inr rfl, .inl rfl, .inl rfl, .inl rfl, trivial⟩
    have hm2 := List.mem_range.mp hm
    have lg : ∀ i : Nat, i ≤ 8 → (i : Int).natAbs.log2 < 1920 := fun i hi => by
      have : (i : Int).natAbs = i := by omega
      rw [this]
      exact Nat.lt_of_le_of_lt (Nat.log2_le_self i) (by omega)
    exact DT.to (dt_test (de_eqS (de_repr (dd_cons (de_ix (de_var rfl) de_int rfl) dd_nil) (lg m (by omega))) (de_repr (dd_cons (de_var rfl) dd_nil) (lg n (by omega))))) (repr_small m (List.mem_range.mpr (by omega)) n (List.mem_range.mpr (by omega)))
  · have et : w.take ((w.map fun (n : Nat) => (n : Int)).map D.int).length = w := by rw [List.length_map, List.length_map]; exact List.take_length
    rw [et]
    exact ds_retL rfl
abbrev N_walk_of : List Str := ["one", "other", "walk"]
def rel_walk_of (Pt : Addr) (rs : List R) (r : R) : Prop := ∃ (R S : G.Rule) (w : List Nat), rs = [.p (PT Pt (eRule R)), .d (eRule S), .d (eNats w)] ∧ r = .l (walkRows R S (G.start R S) w) ∧ (VR R) ∧ (VR S) ∧ (G.VW R S (G.start R S) w) ∧ (w.length ≤ 1000)
theorem sc_walk_of : FnScope N_walk_of ["one", "other", "walk"] (defScope (top 39)) := ⟨rfl, rfl, rfl, by decide +kernel, rfl, by decide +kernel, by decide +kernel⟩
theorem ok_walk_of (TX : TxtX K mg base Pt) : Con P w K mg base "walk_of" ["one", "other", "walk"] 6 (rel_walk_of Pt) := by
  have T := TX.T
  refine con_of (N := N_walk_of) T.f_walk_of sc_walk_of (fun _ _ _ _ _ _ us hl => match us, hl with | [_, _, _], _ => rfl) (fun rs r h => ?_) (fun f cdv A outer s H E hr => ?_)
  · obtain ⟨_, _, _, rfl, rfl, _, _, _, _⟩ := h; exact ⟨rfl, by simp [ArgOk]⟩
  have nd := sc_walk_of.nd
  refine ⟨_, (pss_one (ps_ret (pe_con (ok_followed T) hr rfl (pa_cons (pe_con (ok_first_pair T) hr rfl (pa_cons (pv 0) (pa_cons (pv 1) pa_nil))) (pa_cons (pe_con (ok_steps_of TX) hr rfl (pa_cons (pv 0) (pa_cons (pv 1) pa_nil))) (pa_cons (pv 2) pa_nil)))))), ?_⟩
  rintro rs r ⟨R, S, w, rfl, rfl, v, v', hw, hl⟩
  exact ds_ret (de_call (da_d (de_call (da_d (de_varPd rfl) (da_d (de_var rfl) da_nil)) ⟨R, S, rfl, rfl, v, v'⟩) (da_p (de_call (da_p (de_varP rfl) (da_d (de_var rfl) da_nil)) ⟨R, S, rfl, rfl⟩) (da_d (de_var rfl) da_nil))) ⟨R, S, G.start R S, w, rfl, rfl, Good.start v v', hw, hl⟩)
abbrev N_need_walk : List Str := ["one", "other", "walk", "steps"]
def rel_need_walk (Pt : Addr) (rs : List R) (r : R) : Prop := ∃ (R S : G.Rule) (w : List Nat), rs = [.p (PT Pt (eRule R)), .d (eRule S), .d (eNats w)] ∧ r = .l (walkRows R S (G.start R S) w) ∧ (VR R) ∧ (VR S) ∧ (G.VW R S (G.start R S) w) ∧ (w.length ≤ 1000)
theorem sc_need_walk : FnScope N_need_walk ["one", "other", "walk"] (defScope (top 40)) := ⟨rfl, rfl, rfl, by decide +kernel, rfl, by decide +kernel, by decide +kernel⟩
theorem ok_need_walk (TX : TxtX K mg base Pt) : Con P w K mg base "need_walk" ["one", "other", "walk"] 9 (rel_need_walk Pt) := by
  have T := TX.T
  refine con_of (N := N_need_walk) T.f_need_walk sc_need_walk (fun _ _ _ _ _ _ us hl => match us, hl with | [_, _, _], _ => rfl) (fun rs r h => ?_) (fun f cdv A outer s H E hr => ?_)
  · obtain ⟨_, _, _, rfl, rfl, _, _, _, _⟩ := h; exact ⟨rfl, by simp [ArgOk]⟩
  have nd := sc_need_walk.nd
  refine ⟨_, (pss_cons (ps_expr (pe_con (ok_need_rules T) hr rfl (pa_cons (pv 0) (pa_cons (pv 1) pa_nil)))) (pss_cons (ps_set (i := 3) nd rfl (Or.inl rfl) (pe_con (ok_walk_of TX) hr rfl (pa_cons (pv 0) (pa_cons (pv 1) (pa_cons (pv 2) pa_nil))))) (pss_cons (ps_if (pt_cmp (pc_isN (pv 3))) (pss_one ps_never) pss_nil) (pss_one (ps_ret (pv 3)))))), ?_⟩
  rintro rs r ⟨R, S, w, rfl, rfl, v, v', hw, hl⟩
  refine ds_seq (ds_drop (de_call (da_d (de_varPd rfl) (da_d (de_var rfl) da_nil)) ⟨R, S, rfl, rfl, v, v'⟩)) ?_
  refine ds_seq (ds_setL (de_call (da_p (de_varP rfl) (da_d (de_var rfl) (da_d (de_var rfl) da_nil))) ⟨R, S, w, rfl, rfl, v, v', hw, hl⟩)) ?_
  exact ds_seq (ds_no (dt_B (de_isNL (de_varL rfl))) ds_next) (ds_retL rfl)
abbrev N_seen_in : List Str := ["mine", "its", "found", "thing"]
def rel_seen_in (rs : List R) (r : R) : Prop := ∃ (R S : G.Rule) (a : G.Arr), rs = [.d (eSta a.1), .d (eSta a.2)] ∧ r = .l ((G.seen (G.rows a)).map D.int) ∧ (Ok R a.1) ∧ (Ok S a.2)
theorem sc_seen_in : FnScope N_seen_in ["mine", "its"] (defScope (top 41)) := ⟨rfl, rfl, rfl, by decide +kernel, rfl, by decide +kernel, by decide +kernel⟩
theorem ok_seen_in (T : Txt K mg) : Con P w K mg base "seen_in" ["mine", "its"] 1 (rel_seen_in) := by
  refine con_of (N := N_seen_in) T.f_seen_in sc_seen_in (fun _ _ _ _ _ _ us hl => match us, hl with | [_, _], _ => rfl) (fun rs r h => ?_) (fun f cdv A outer s H E hr => ?_)
  · obtain ⟨_, _, _, rfl, rfl, _, _⟩ := h; exact ⟨rfl, by simp [ArgOk]⟩
  have nd := sc_seen_in.nd
  refine ⟨_, (pss_cons (ps_set (i := 2) nd rfl (Or.inl rfl) (pe_lst pa_nil)) (pss_cons (ps_for PassesOwn.never rfl (kpi_tup K rfl (pe_op (kx_catF K) (pe_ix (kx_ixT K) (pv 0) pe_int (fun _ _ => rfl)) (pe_ix (kx_ixT K) (pv 1) pe_int (fun _ _ => rfl)))) (pg_name (i := 3) nd rfl (Or.inl rfl)) (pss_one (ps_if (PW.pt (pw_and (pt_cmpR op_ne (pv 3) (pe_const T.c_BLANK rfl) (nomark _)) (pw_and1 (pt_cmpR (kx_notin K) (pv 3) (pv 2) (by rfl))))) (pss_one (ps_expr (kpe_bm K rfl PySem.F.plainAttrs_list PySem.F.slot_list_append PySem.F.type_list_append mt_append (pv 2) (pa_cons (pv 3) pa_nil)))) pss_nil))) (pss_one (ps_ret (pv 2))))), ?_⟩
  rintro rs r ⟨R, S, a, rfl, rfl, o1, o2⟩
  have l1 := o1.len
  have l2 := o2.len
  refine ds_seq (ds_setL (xs := []) (de_lst dd_nil)) ?_
  refine ds_seq (ds_forT (ds := (G.rows a).map D.int) gok_nm (DE.to (de_cat (ds := a.1.1.map D.int) (es := a.2.1.map D.int) (de_ix (de_var rfl) de_int rfl) (de_ix (de_var rfl) de_int rfl) (by simp; omega)) (by unfold G.rows; rw [List.map_append]))
    (loop_all (fun k => [some (.d (eSta a.1)), some (.d (eSta a.2)), some (.l ((G.seen ((G.rows a).take k)).map D.int)), none]) rfl (fun k d hd => ?_))) ?_
  · rw [List.getElem?_map] at hd
    obtain ⟨t, ht, rfl⟩ := Option.map_eq_some_iff.mp hd
    refine ⟨_, rfl, ?_⟩
    rw [take_succ' ht, seen_snoc]
    have hl : (G.seen ((G.rows a).take k)).length ≤ 8 := by
      have h1 := seen_le ((G.rows a).take k)
      have h2 : ((G.rows a).take k).length ≤ (G.rows a).length := by rw [List.length_take]; omega
      have h3 : (G.rows a).length = a.1.1.length + a.2.1.length := by unfold G.rows; rw [List.length_append]
      omega
    generalize G.seen ((G.rows a).take k) = acc at hl ⊢
    by_cases c : t = -1 ∨ t ∈ acc
    · have e2 : G.seenStep acc t = acc := by unfold G.seenStep; rw [if_pos c]
      rw [e2]
      exact ds_fg (ds_no (DT.to (dt_and (dt_test (de_neI (de_var rfl) (de_int))) fun _ => (dt_test (de_inL (de_var rfl) (de_varL rfl)))) (by rcases c with c | c <;> simp [c])) ds_next) ⟨.inr rfl, .inr rfl, .inr rfl, .inl rfl, trivial⟩
    · have e2 : G.seenStep acc t = acc ++ [t] := by unfold G.seenStep; rw [if_neg c]
      have c1 : ¬ t = -1 := fun z => c (.inl z)
      have c2 : ¬ t ∈ acc := fun z => c (.inr z)
      rw [e2, List.map_append]
      exact ds_fg (ds_yes (DT.to (dt_and (dt_test (de_neI (de_var rfl) (de_int))) fun _ => (dt_test (de_inL (de_var rfl) (de_varL rfl)))) (by simp [c1, c2])) (ds_append rfl (de_var rfl) (by rw [List.length_map]; omega))) ⟨.inr rfl, .inr rfl, .inr rfl, .inl rfl, trivial⟩
  · have et : (G.rows a).take ((G.rows a).map D.int).length = G.rows a := by rw [List.length_map]; exact List.take_length
    rw [et]
    exact ds_retL rfl
abbrev N_played : List Str := ["one", "other", "walk", "mine", "its", "found", "used", "number", "known", "thing"]
def rel_played (Pt : Addr) (rs : List R) (r : R) : Prop := ∃ (R S : G.Rule) (w : List Nat), rs = [.p (PT Pt (eRule R)), .d (eRule S), .d (eNats w)] ∧ r = .d (eInts (G.played R S w)) ∧ (VR R) ∧ (VR S) ∧ (G.VW R S (G.start R S) w) ∧ (w.length ≤ 1000)
theorem sc_played : FnScope N_played ["one", "other", "walk"] (defScope (top 42)) := ⟨rfl, rfl, rfl, by decide +kernel, rfl, by decide +kernel, by decide +kernel⟩
theorem ok_played (TX : TxtX K mg base Pt) : Con P w K mg base "played" ["one", "other", "walk"] 10 (rel_played Pt) := by
  have T := TX.T
  refine con_of (N := N_played) T.f_played sc_played (fun _ _ _ _ _ _ us hl => match us, hl with | [_, _, _], _ => rfl) (fun rs r h => ?_) (fun f cdv A outer s H E hr => ?_)
  · obtain ⟨_, _, _, rfl, rfl, _, _, _, _⟩ := h; exact ⟨rfl, by simp [ArgOk]⟩
  have nd := sc_played.nd
  refine ⟨_, (pss_cons (ps_expr (pe_con (ok_need_walk TX) hr rfl (pa_cons (pv 0) (pa_cons (pv 1) (pa_cons (pv 2) pa_nil))))) (pss_cons (ps_asg (pe_con (ok_first_pair T) hr rfl (pa_cons (pv 0) (pa_cons (pv 1) pa_nil))) (kpg_tup K rfl 2 rfl (pgs_cons (pg_name (i := 3) nd rfl (Or.inl rfl)) (pgs_cons (pg_name (i := 4) nd rfl (Or.inl rfl)) pgs_nil)))) (pss_cons (ps_par (i := 5) (j := 6) rfl nd rfl rfl (by decide) rfl rfl (pa_cons (pe_lst pa_nil) (pa_cons pe_int pa_nil)) (by rfl)) (pss_cons (ps_for PassesOwn.never rfl (kpi_tup K rfl (pv 2)) (pg_name (i := 7) nd rfl (Or.inl rfl)) (pss_cons (ps_set (i := 8) nd rfl (Or.inl rfl) (pe_con (ok_seen_in T) hr rfl (pa_cons (pv 3) (pa_cons (pv 4) pa_nil)))) (pss_cons (ps_set (i := 9) nd rfl (Or.inl rfl) (pe_ifExp (pt_cmpR op_lt (pv 7) (pe_callB (kx_len K) rfl T.n_len PySem.boot_len (pa_cons (pv 8) pa_nil)) (nomark _)) (pe_ix (kx_ixL K) (pv 8) (pv 7) (fun _ _ => rfl)) (pv 6))) (pss_cons (ps_set (i := 6) nd rfl (Or.inl rfl) (pe_callB (call_max2 rfl) rfl T.n_max (by rfl) (pa_cons (pv 6) (pa_cons (pe_op op_add (pv 9) pe_int) pa_nil)))) (pss_cons (ps_expr (kpe_bm K rfl PySem.F.plainAttrs_list PySem.F.slot_list_append PySem.F.type_list_append mt_append (pv 5) (pa_cons (pv 9) pa_nil))) (pss_one (ps_par (i := 3) (j := 4) rfl nd rfl rfl (by decide) rfl rfl (pa_cons (pe_ix (kx_ixT K) (pe_con (ok_step T) hr rfl (pa_cons (pv 0) (pa_cons (pv 3) (pa_cons (pv 9) pa_nil)))) pe_int (fun _ _ => rfl)) (pa_cons (pe_ix (kx_ixT K) (pe_con (ok_step T) hr rfl (pa_cons (pv 1) (pa_cons (pv 4) (pa_cons (pv 9) pa_nil)))) pe_int (fun _ _ => rfl)) pa_nil)) (by rfl)))))))) (pss_one (ps_ret (pe_callTy (kx_tup K) rfl T.n_tuple (by rfl) (pa_cons (pv 5) pa_nil)))))))), ?_⟩
  rintro rs r ⟨R, S, w, rfl, rfl, v, v', hw, hl⟩
  refine ds_seq (ds_drop (de_call (da_p (de_varP rfl) (da_d (de_var rfl) (da_d (de_var rfl) da_nil))) ⟨R, S, w, rfl, rfl, v, v', hw, hl⟩)) ?_
  refine ds_seq (ds_unp (x := eArr (G.start R S)) (de_call (da_d (de_varPd rfl) (da_d (de_var rfl) da_nil)) ⟨R, S, rfl, rfl, v, v'⟩) (gok_tp (gsok_cons (gsok_cons gsok_nil))) rfl) ?_
  refine ds_seq (ds_par2 (r1 := .l []) (r2 := .d (.int 0)) (dv_l (de_lst dd_nil)) de_int (.inr ⟨_, rfl⟩)) ?_
  have go : ∀ k, Ok R ((w.take k).foldl (playSt R S) (G.start R S, 0)).1.1 ∧ Ok S ((w.take k).foldl (playSt R S) (G.start R S, 0)).1.2 ∧ 0 ≤ ((w.take k).foldl (playSt R S) (G.start R S, 0)).2 := fun k => play_good _ _ (Ok.first v) (Ok.first v') (Int.le_refl 0)
  refine ds_seq (ds_forT (ds := (w.map fun (n : Nat) => (n : Int)).map D.int) gok_nm (de_var rfl)
    (loop_all (fun k => [some (.p (PT Pt (eRule R))), some (.d (eRule S)), some (.d (eNats w)), some (.d (eSta ((w.take k).foldl (playSt R S) (G.start R S, 0)).1.1)), some (.d (eSta ((w.take k).foldl (playSt R S) (G.start R S, 0)).1.2)), some (.l ((G.playGo R S (G.start R S) 0 (w.take k)).map D.int)), some (.d (.int ((w.take k).foldl (playSt R S) (G.start R S, 0)).2)), none, none, none]) rfl (fun k d hd => ?_))) ?_
  · rw [List.getElem?_map] at hd
    obtain ⟨z, hz, rfl⟩ := Option.map_eq_some_iff.mp hd
    rw [List.getElem?_map] at hz
    obtain ⟨n, hn, rfl⟩ := Option.map_eq_some_iff.mp hz
    refine ⟨_, rfl, ?_⟩
    have lt : k < w.length := (List.getElem?_eq_some_iff.mp hn).1
    obtain ⟨o1, o2, o3⟩ := go k
    rw [take_succ' hn, playGo_snoc, List.foldl_append, List.map_append]
    have hlen : (G.playGo R S (G.start R S) 0 (w.take k)).length ≤ 1000 := by rw [playGo_length, List.length_take]; omega
    generalize (w.take k).foldl (playSt R S) (G.start R S, 0) = p at o1 o2 o3 ⊢
    generalize G.playGo R S (G.start R S) 0 (w.take k) = acc at hlen ⊢
    obtain ⟨a, u⟩ := p
    have t0 := thingOf_nn o1 o2 o3 n
    refine ds_fg (δ1 := [some (.p (PT Pt (eRule R))), some (.d (eRule S)), some (.d (eNats w)), some (.d (eSta (G.step R a.1 (G.thingOf a u n)))), some (.d (eSta (G.step S a.2 (G.thingOf a u n)))), some (.l (acc.map D.int ++ [D.int (G.thingOf a u n)])), some (.d (.int (max u (G.thingOf a u n + 1)))), some (.d (.int (n : Int))), some (.l ((G.seen (G.rows a)).map D.int)), some (.d (.int (G.thingOf a u n)))]) ?_ ⟨.inr rfl, .inr rfl, .inr rfl, .inr rfl, .inr rfl, .inr rfl, .inr rfl, .inl rfl, .inl rfl, .inl rfl, trivial⟩
    refine ds_seq (ds_setL (de_call (da_d (de_var rfl) (da_d (de_var rfl) da_nil)) ⟨R, S, a, rfl, rfl, o1, o2⟩)) ?_
    refine ds_seq (ds_set (x := .int (G.thingOf a u n)) (de_if (b := decide (n < (G.seen (G.rows a)).length)) (DT.to (dt_test (de_B0 (de_var rfl) (de_len (.inr (da_r (de_varL rfl) da_nil))))) (by simp)) (fun hb => ?_) fun hb => ?_)) ?_
    · have hb := of_decide_eq_true hb
      have e : G.thingOf a u n = (G.seen (G.rows a)).getD n 0 := by unfold G.thingOf; rw [if_pos hb]
      rw [e]
      exact de_ixL (de_varL rfl) (de_var rfl) (atI_map hb)
    · have hb := of_decide_eq_false hb
      have e : G.thingOf a u n = u := by unfold G.thingOf; rw [if_neg hb]
      rw [e]
      exact de_var rfl
    refine ds_seq (ds_set (x := .int (max u (G.thingOf a u n + 1))) (de_max2 (dd_cons (de_var rfl) (dd_cons (de_I0 (de_var rfl) de_int) dd_nil)))) ?_
    refine ds_seq (ds_append (x := .int (G.thingOf a u n)) rfl (de_var rfl) (by rw [List.length_map]; omega)) ?_
    exact ds_par (x := eSta (G.step R a.1 (G.thingOf a u n))) (y := eSta (G.step S a.2 (G.thingOf a u n))) (dd_cons (de_ix (ds := [_, _, _]) (de_call (da_d (de_varPd rfl) (da_d (de_var rfl) (da_d (de_var rfl) da_nil))) ⟨R, a.1, _, rfl, rfl, o1⟩) de_int rfl) (dd_cons (de_ix (ds := [_, _, _]) (de_call (da_d (de_var rfl) (da_d (de_var rfl) (da_d (de_var rfl) da_nil))) ⟨S, a.2, _, rfl, rfl, o2⟩) de_int rfl) dd_nil))
  · have et : w.take ((w.map fun (n : Nat) => (n : Int)).map D.int).length = w := by rw [List.length_map, List.length_map]; exact List.take_length
    rw [et]
    exact ds_ret (de_tuple (da_r (de_varL rfl) da_nil))
end
end DL
-- part W7
set_option linter.all false
set_option maxRecDepth 100000
set_option maxHeartbeats 2000000
namespace DL
open PySem PySem.Spec PyProof.Rows L2
section
variable {P : Program} {w : World} {K : PySem.W.Frag} {mg : Str → Option Value} {base : Heap}
theorem keysOf_ints : ∀ l : List Int, keysOf (l.map D.int) = l.map NestedKey.num
  | [] => by simp [keysOf]
  | x :: l => by rw [List.map_cons, List.map_cons, keysOf, keyOf, keysOf_ints l]
theorem map_num_inj {l m : List Int} (h : l.map NestedKey.num = m.map NestedKey.num) : l = m := by
  have key : ∀ l m : List Int, l.map NestedKey.num = m.map NestedKey.num → l = m := fun l => by
    induction l with
    | nil => intro m h; cases m with
      | nil => rfl
      | cons a m => cases h
    | cons a l ih => intro m h; cases m with
      | nil => cases h
      | cons b m =>
        rw [List.map_cons, List.map_cons] at h
        injection h with h1 h2
        injection h1 with h1
        rw [h1, ih m h2]
  exact key l m h
theorem keyOf_arr (a : G.Arr) : keyOf (eArr a) = .tup [.tup [.tup (a.1.1.map NestedKey.num), .num a.1.2], .tup [.tup (a.2.1.map NestedKey.num), .num a.2.2]] := by
  unfold eArr eSta eInts
  simp [keyOf, keysOf, keysOf_ints]
theorem key_inj {a b : G.Arr} (h : keyOf (eArr a) = keyOf (eArr b)) : a = b := by
  rw [keyOf_arr, keyOf_arr] at h
  simp only [NestedKey.tup.injEq, List.cons.injEq, NestedKey.num.injEq, and_true] at h
  obtain ⟨⟨h1, h2⟩, h3, h4⟩ := h
  obtain ⟨⟨r1, b1⟩, ⟨r2, b2⟩⟩ := a
  obtain ⟨⟨s1, c1⟩, ⟨s2, c2⟩⟩ := b
  have e1 : r1 = s1 := map_num_inj h1
  have e2 : r2 = s2 := map_num_inj h3
  have e3 : b1 = c1 := by have h2 : (b1 : Int) = (c1 : Int) := h2; omega
  have e4 : b2 = c2 := by have h4 : (b2 : Int) = (c2 : Int) := h4; omega
  rw [e1, e2, e3, e4]
theorem depth_nums : ∀ l : List Int, NestedKey.depthAll (l.map NestedKey.num) = 0
  | [] => by simp [NestedKey.depthAll]
  | x :: l => by rw [List.map_cons, NestedKey.depthAll, depth_nums l]; simp [NestedKey.depth]
theorem key_depth (a : G.Arr) : (keyOf (eArr a)).depth ≤ 8 := by
  rw [keyOf_arr]
  simp [NestedKey.depth, NestedKey.depthAll, depth_nums]
theorem nd_ix {α : Type} : ∀ {l : List α} {i j : Nat} {x : α}, l.Nodup → l[i]? = some x → l[j]? = some x → i < j → False
  | [], _, _, _, _, h, _, _ => by simp at h
  | a :: l, 0, 0, _, _, _, _, h => by omega
  | a :: l, 0, j + 1, x, nd, h1, h2, _ => by
    have e : a = x := by simpa using h1
    have m : l[j]? = some x := by simpa using h2
    rw [← e] at m
    exact (List.nodup_cons.mp nd).1 (List.mem_of_getElem? m)
  | a :: l, i + 1, 0, _, _, _, _, h => by omega
  | a :: l, i + 1, j + 1, x, nd, h1, h2, h => nd_ix (List.nodup_cons.mp nd).2 (by simpa using h1) (by simpa using h2) (by omega : i < j)
/-- entries whose keys are pairs of states -/
theorem find_arr {es : List NE} {l : List G.Arr} (h : es.map (·.1) = l.map eArr) (a : G.Arr) : (findN es (eArr a)).isSome = decide (a ∈ l) := by
  unfold findN
  rw [Option.isSome_map]
  have e : (es.find? fun e => decide (keyOf e.1 = keyOf (eArr a))).isSome = es.any fun e => decide (keyOf e.1 = keyOf (eArr a)) := by
    rw [Bool.eq_iff_iff, List.find?_isSome, List.any_eq_true]
  rw [e]
  have e2 : (es.any fun e => decide (keyOf e.1 = keyOf (eArr a))) = (es.map (·.1)).any fun d => decide (keyOf d = keyOf (eArr a)) := by rw [List.any_map]; rfl
  rw [e2, h, List.any_map]
  by_cases c : a ∈ l
  · rw [decide_eq_true c, List.any_eq_true]
    exact ⟨a, c, decide_eq_true rfl⟩
  · rw [decide_eq_false c]
    refine Bool.eq_false_iff.mpr fun z => c ?_
    obtain ⟨b, hb, e⟩ := List.any_eq_true.mp z
    have := key_inj (of_decide_eq_true e)
    rw [← this]
    exact hb
theorem find_none {es : List NE} {l : List G.Arr} (h : es.map (·.1) = l.map eArr) {a : G.Arr} (n : a ∉ l) : findN es (eArr a) = none := by
  have := find_arr h a
  rw [decide_eq_false n] at this
  simpa using this
theorem find_at {es : List NE} {l : List G.Arr} (h : es.map (·.1) = l.map eArr) (nd : l.Nodup) {i : Nat} {a : G.Arr} (hi : l[i]? = some a) : ∃ e, es[i]? = some e ∧ e.1 = eArr a ∧ findN es (eArr a) = some e.2.2 := by
  have hl : es.length = l.length := by have := congrArg List.length h; simpa using this
  have lt : i < l.length := (List.getElem?_eq_some_iff.mp hi).1
  have at_ : ∀ j (hj : j < es.length), es[j].1 = eArr (l[j]'(by omega)) := fun j hj => by
    have : (es.map (·.1))[j]? = (l.map eArr)[j]? := by rw [h]
    rw [List.getElem?_map, List.getElem?_map, List.getElem?_eq_getElem hj, List.getElem?_eq_getElem (by omega : j < l.length)] at this
    exact Option.some.inj this
  have ea : l[i] = a := by rw [List.getElem?_eq_getElem lt] at hi; exact Option.some.inj hi
  refine ⟨es[i], List.getElem?_eq_getElem (by omega), by rw [at_ i (by omega), ea], ?_⟩
  unfold findN
  have : es.find? (fun e => decide (keyOf e.1 = keyOf (eArr a))) = some es[i] := by
    rw [List.find?_eq_some_iff_getElem]
    refine ⟨by rw [at_ i (by omega), ea]; exact decide_eq_true rfl, i, by omega, rfl, fun j hj => ?_⟩
    have hj2 : j < es.length := by omega
    have hj3 : j < l.length := by omega
    rw [at_ j hj2]
    have ne : l[j] ≠ a := fun z => by
      exact nd_ix nd (List.getElem?_eq_getElem hj3) (by rw [List.getElem?_eq_getElem lt, z, ea]) hj
    have : decide (keyOf (eArr l[j]) = keyOf (eArr a)) = false := decide_eq_false fun z => ne (key_inj z)
    rw [this]
    rfl
  rw [this]
  rfl
theorem NDat.other {P : Program} {w : World} {H : Hp} {a d : Addr} {es : List NE} {o : HO} (n : NDat P w H a es) (h : a ≠ d) (t : ∀ ob xs, H d ≠ some (.frz ob (.tup xs))) : NDat P w (upd H d o) a es := n.mono (upd_ne h) (Tups.upd t)

/-- what graph_of hands back -/
structure GOut (P : Program) (w : World) (R S : G.Rule) (H : Hp) (v : V) : Prop where
  ex : ∃ (t g wk : Addr) (ln : G.Ln) (GE WE : List NE), v = .ref t ∧ RdT H t [.ref g, .ref wk] ∧ NDat P w H g GE ∧ NDat P w H wk WE ∧ GE.map (·.1) = ln.map (fun p => eArr p.1) ∧ WE.map (·.1) = ln.map (fun p => eArr p.1) ∧
    (∀ (i : Nat) (p : G.Arr × List Nat) (e : NE), ln[i]? = some p → WE[i]? = some e → Dat H (eNats p.2) e.2.2) ∧ G.BInv R S ln ln.length
def spGraph (P : Program) (w : World) : Sp := fun vs H Q _ => ∃ R S v1 v2, vs = [v1, v2] ∧ Dat H (eArr (G.start R S)) v1 ∧ CloP R S H v2 ∧ G.Small R ∧ G.Small S ∧ ∀ v H', Same H H' → GOut P w R S H' v → Q v H'
/-- between two turns of the while loop -/
structure GS (P : Program) (w : World) (R S : G.Rule) (H0 : Hp) (H : Hp) (ln : G.Ln) (n : Nat) (g wk l : Addr) (GE WE : List NE) (vs : List V) : Prop where
  same : Same H0 H
  fg : H0 g = none
  fw : H0 wk = none
  fl : H0 l = none
  ne : g ≠ wk
  gn : NDat P w H g GE
  wn : NDat P w H wk WE
  hl : H l = some (.lst vs)
  hv : DatL H (ln.map fun p => eArr p.1) vs
  gk : GE.map (·.1) = (ln.take n).map fun p => eArr p.1
  wks : WE.map (·.1) = ln.map fun p => eArr p.1
  wv : ∀ (i : Nat) (p : G.Arr × List Nat) (e : NE), ln[i]? = some p → WE[i]? = some e → Dat H (eNats p.2) e.2.2
theorem ndO_ne (P : Program) (w : World) (a : Addr) (es : List NE) (ob : Obj) (xs : List V) : some (ndO P w a es) ≠ some (.frz ob (.tup xs)) := fun z => by unfold ndO at z; cases z
theorem ndO_nl (P : Program) (w : World) (a : Addr) (es : List NE) (xs : List V) : some (ndO P w a es) ≠ some (.lst xs) := fun z => by unfold ndO at z; cases z
theorem map_fst (ln : G.Ln) : (ln.map fun p => eArr p.1) = (ln.map (·.1)).map eArr := by rw [List.map_map]; rfl
section
variable {P : Program} {w : World} {R S : G.Rule} {H0 H : Hp} {ln : G.Ln} {n : Nat} {g wk l : Addr} {GE WE : List NE} {vs : List V}
theorem GS.lg (s : GS P w R S H0 H ln n g wk l GE WE vs) : l ≠ g := fun z => by have h := s.hl; rw [z, s.gn.obj] at h; exact ndO_nl _ _ _ _ _ h
theorem GS.lw (s : GS P w R S H0 H ln n g wk l GE WE vs) : l ≠ wk := fun z => by have h := s.hl; rw [z, s.wn.obj] at h; exact ndO_nl _ _ _ _ _ h
/-- more is tracked -/
theorem GS.ext {H' : Hp} (s : GS P w R S H0 H ln n g wk l GE WE vs) (e : Same H H') : GS P w R S H0 H' ln n g wk l GE WE vs :=
  ⟨s.same.trans e, s.fg, s.fw, s.fl, s.ne, s.gn.ext e, s.wn.ext e, e _ _ s.hl, s.hv.mono (.of e), s.gk, s.wks, fun i p x h1 h2 => Dat.mono (.of e) _ _ (s.wv i p x h1 h2)⟩
/-- graph[here] = rows -/
theorem GS.putG {p : G.Arr × List Nat} {b : Addr} {v : V} (s : GS P w R S H0 H ln n g wk l GE WE vs) (hp : ln[n]? = some p) (nd : (ln.map (·.1)).Nodup) (hb : Dat H (eArr p.1) (.ref b)) (hv : OkV v) (hl : GE.length < 100000) :
    findN GE (eArr p.1) = none ∧ GS P w R S H0 (upd H g (ndO P w g (GE ++ [(eArr p.1, b, v)]))) ln (n + 1) g wk l (GE ++ [(eArr p.1, b, v)]) WE vs := by
  have lt : n < ln.length := (List.getElem?_eq_some_iff.mp hp).1
  have gk := s.gk
  rw [map_fst] at gk
  have nm : p.1 ∉ (ln.take n).map (·.1) := fun hm => by
    obtain ⟨q, hq, e⟩ := List.mem_map.mp hm
    obtain ⟨i, hi, e2⟩ := List.mem_iff_getElem.mp hq
    have hi2 : i < n := by rw [List.length_take] at hi; omega
    rw [List.getElem_take] at e2
    have h1 : (ln.map (·.1))[i]? = some p.1 := by rw [List.getElem?_map, List.getElem?_eq_getElem (by omega), e2]; exact congrArg some e
    have h2 : (ln.map (·.1))[n]? = some p.1 := by rw [List.getElem?_map, hp]; rfl
    exact nd_ix nd h1 h2 hi2
  have fn := find_none gk nm
  have tt : ∀ ob xs, H g ≠ some (.frz ob (.tup xs)) := fun ob xs z => ndO_ne _ _ _ _ _ _ (s.gn.obj.symm.trans z)
  have tp : Tups H (upd H g (ndO P w g (GE ++ [(eArr p.1, b, v)]))) := Tups.upd tt
  refine ⟨fn, ⟨fun c o e => ?_, s.fg, s.fw, s.fl, s.ne, s.gn.put hb (key_depth _) hv fn hl, s.wn.other s.ne.symm tt, by rw [upd_ne s.lg]; exact s.hl, s.hv.mono tp, ?_, s.wks, fun i q x h1 h2 => Dat.mono tp _ _ (s.wv i q x h1 h2)⟩⟩
  · rw [upd_ne (ne_of_none e s.fg)]
    exact s.same c o e
  · rw [List.map_append, s.gk, take_succ' hp, List.map_append]
    rfl
/-- walks[later] = walk; line.append(later) -/
theorem GS.putW {p : G.Arr × List Nat} {b : Addr} {v : V} {H1 : Hp} (s : GS P w R S H0 H ln n g wk l GE WE vs) (hn : n ≤ ln.length) (nm : p.1 ∉ ln.map (·.1)) (hb : Dat H (eArr p.1) (.ref b)) (hv : OkV v) (hd : Dat H (eNats p.2) v) (hl : WE.length < 100000)
    (e1 : H1 = upd H wk (ndO P w wk (WE ++ [(eArr p.1, b, v)]))) :
    findN WE (eArr p.1) = none ∧ H1 l = some (.lst vs) ∧ Dat H1 (eArr p.1) (.ref b) ∧ GS P w R S H0 (upd H1 l (.lst (vs ++ [.ref b]))) (ln ++ [p]) n g wk l GE (WE ++ [(eArr p.1, b, v)]) (vs ++ [.ref b]) := by
  have ws := s.wks
  rw [map_fst] at ws
  have fn := find_none ws nm
  have tt : ∀ ob xs, H wk ≠ some (.frz ob (.tup xs)) := fun ob xs z => ndO_ne _ _ _ _ _ _ (s.wn.obj.symm.trans z)
  have tp : Tups H H1 := by rw [e1]; exact Tups.upd tt
  have h1l : H1 l = some (.lst vs) := by rw [e1, upd_ne s.lw]; exact s.hl
  have tt2 : ∀ ob xs, H1 l ≠ some (.frz ob (.tup xs)) := fun ob xs z => by rw [h1l] at z; cases z
  have tp2 : Tups H1 (upd H1 l (.lst (vs ++ [.ref b]))) := Tups.upd tt2
  have w1 : NDat P w H1 wk (WE ++ [(eArr p.1, b, v)]) := by rw [e1]; exact s.wn.put hb (key_depth _) hv fn hl
  have g1 : NDat P w H1 g GE := by rw [e1]; exact s.gn.other s.ne tt
  have tpp : Tups H (upd H1 l (.lst (vs ++ [.ref b]))) := fun a xs h => tp2 a xs (tp a xs h)
  have len : WE.length = ln.length := by have := congrArg List.length s.wks; simpa using this
  refine ⟨fn, h1l, Dat.mono tp _ _ hb, ⟨fun c o e => ?_, s.fg, s.fw, s.fl, s.ne, g1.other s.lg.symm tt2, w1.other s.lw.symm tt2, upd_same, ?_, ?_, ?_, fun i q x h1 h2 => ?_⟩⟩
  · rw [upd_ne (ne_of_none e s.fl), e1, upd_ne (ne_of_none e s.fw)]
    exact s.same c o e
  · rw [List.map_append]
    exact (s.hv.mono tpp).app (DatL.one (Dat.mono tpp _ _ hb))
  · rw [List.take_append_of_le_length hn]
    exact s.gk
  · rw [List.map_append, List.map_append, s.wks]
    rfl
  · rcases G.getElem?_snoc h1 with h | ⟨hi, e⟩
    · have lt := (List.getElem?_eq_some_iff.mp h).1
      rw [List.getElem?_append_left (by omega)] at h2
      exact Dat.mono tpp _ _ (s.wv i q x h h2)
    · subst e
      rw [List.getElem?_append_right (by omega)] at h2
      have : i - WE.length = 0 := by omega
      rw [this] at h2
      have ex : (eArr q.1, b, v) = x := Option.some.inj h2
      rw [← ex]
      exact Dat.mono tpp _ _ hd
end

end
end DL
-- part DL11
set_option linter.all false
set_option maxRecDepth 100000
set_option maxHeartbeats 2000000
/-! The rules for dicts with nested keys, program and world by name. -/
namespace DL
open PySem PySem.Spec PyProof.Rows L2
section
variable {X : Cx} (P : Program) (w : World) (e1 : X.prog = P := by rfl) (e2 : X.w = w := by rfl)
include e1 e2
theorem kx_nin (hu : X.A.units + 64 < cLine) : OpR X (compareOp .In) (rNIn P w false) := by subst e1 e2; exact op_nin hu
theorem kx_nnotin (hu : X.A.units + 64 < cLine) : OpR X (compareOp .NotIn) (rNIn P w true) := by subst e1 e2; exact op_nnotin hu
theorem kpe_nget {o i : Expr} {to ti : TE} {pos : Pos} (hu : X.A.units + 64 < cLine) (ho : PE X o to) (hi : PE X i ti) (hs : NoSl i) : PE X (.Subscript o i pos) (tOp (rNGet P w) to ti) := by subst e1 e2; exact pe_nget hu ho hi hs
theorem kpset_n (hu : X.A.units + 64 < cLine) : PSet X (tNSet P w) := by subst e1 e2; exact pset_n hu
theorem kpe_dnewN {pos : Pos} : PE X (.Dict [] [] pos) (tDNewN P w) := by subst e1 e2; exact pe_dnewN
theorem kpe_dict1N {k v : Expr} {tk tv : TE} {pos : Pos} (hu : X.A.units + 64 < cLine) (hk : PE X k tk) (hv : PE X v tv)
    (hshape : (evalEachOpt [some k] X.env).zip ((evalEach [v] X.env).map fun v => do let x ← v; standAt pos; pure x) = [(eval k X.env, do let x ← eval v X.env; standAt pos; pure x)].map fun p => (some p.1, p.2) := by rfl) :
    PE X (.Dict [some k] [v] pos) (tDict1N P w tk tv) := by subst e1 e2; exact pe_dict1N hu hk hv hshape
end
end DL
-- part W8
set_option linter.all false
set_option maxRecDepth 100000
set_option maxHeartbeats 4000000
/-! graph_of. -/
namespace DL
open PySem PySem.Spec PyProof.Rows L2
section
variable {P : Program} {w : World} {K : PySem.W.Frag} {mg : Str → Option Value} {base : Heap}
/-- the contract of a def, any promise -/
def Con0 (P : Program) (w : World) (K : PySem.W.Frag) (mg : Str → Option Value) (base : Heap) (x : Str) (ps : List Str) (k : Nat) (sp : Sp) : Prop :=
  ∃ f fd, mg x = some (.ref f) ∧ PySem.W.keepIn K (.ref f) = true ∧ Binds K fd ps [] ∧ FnOk P w K mg base CX0 k f fd ps sp
theorem pe_con0 {X : Cx} {x : Str} {ps : List Str} {j k : Nat} {sp : Sp} {t : TA} {e : Expr} {es : List Expr} {p pos : Pos} (C : Con0 X.prog X.w X.K X.mg X.base x ps j sp) (hr : Room k X.A) (hg : Gl X x) (ha : PA X (e :: es) t) (hjk : j ≤ k := by decide)
    (hdb : (x == ("__debug__" : Str)) = false := by decide) (he : starEach (e :: es) X.env = (false, eval e X.env) :: starEach es X.env := by rfl) (hpl : (backTo pos (starEach es X.env)).any (·.1) = false := by rfl) :
    PE X (.Call (.Name x p) (e :: es) [] pos) (tCall sp [] E0 t) := by
  obtain ⟨f, fd, h1, h2, h3, h4⟩ := C
  exact pe_call (h4.mono hjk) hr hg h1 h2 h3 .nil pass0 ha hdb he hpl
abbrev N_graph_of : List Str := ["first", "steps_of", "graph", "walks", "line", "at", "here", "name", "mine", "its", "later"]
theorem sc_graph_of : FnScope N_graph_of ["first", "steps_of"] (defScope (top 9)) := ⟨rfl, rfl, rfl, by decide +kernel, rfl, by decide +kernel, by decide +kernel⟩
theorem ref_of_tup {H : Hp} {ds : List D} {v : V} (h : Dat H (.tup ds) v) : ∃ b, v = .ref b := by
  obtain ⟨a, xs, e, _⟩ := dat_tup.mp h
  exact ⟨a, e⟩
theorem arr_ref {H : Hp} {a : G.Arr} {v : V} (h : Dat H (eArr a) v) : ∃ b, v = .ref b := ref_of_tup h
/-- walks are no longer than their places -/
def ShL (ln : G.Ln) : Prop := ∀ (i : Nat) (p : G.Arr × List Nat), ln[i]? = some p → p.2.length ≤ i
theorem nats_nil : eNats [] = .tup [] := rfl
theorem ok_graph_of (T : Txt K mg) : Con0 P w K mg base "graph_of" ["first", "steps_of"] 5 (spGraph P w) := by
  obtain ⟨f, fd, F, hm⟩ := T.f_graph_of
  refine ⟨f, fd, hm, F.kp, F.binds fun _ _ _ _ _ _ us hl => match us, hl with | [_, _], _ => rfl, F.ok sc_graph_of (fun vs H Q E h => ?_) (fun cdv A outer s H0 vs Q E hr h => ?_)⟩
  · obtain ⟨R, S, v1, v2, rfl, _⟩ := h
    rfl
  obtain ⟨R, S, vf, vc, rfl, df, clo, sR, sS, qq⟩ := h
  have nd := sc_graph_of.nd
  refine ⟨_, pss_cons (ps_asg (pe_tupF (pa_cons (kpe_dnewN P w) (pa_cons (kpe_dict1N P w rfl rfl hr.units (pv 0) (pe_tupF pa_nil)) (pa_cons (pe_lst (pa_cons (pv 0) pa_nil)) (pa_cons pe_int pa_nil))))) (kpg_tup K rfl 4 rfl (pgs_cons (pg_name (i := 2) nd rfl (Or.inl rfl)) (pgs_cons (pg_name (i := 3) nd rfl (Or.inl rfl)) (pgs_cons (pg_name (i := 4) nd rfl (Or.inl rfl)) (pgs_cons (pg_name (i := 5) nd rfl (Or.inl rfl)) pgs_nil))))))
    (pss_cons (ps_while PassesOwn.never (pt_cmpR op_lt (pv 5) (pe_callB (kx_len K) rfl T.n_len PySem.boot_len (pa_cons (pv 4) pa_nil)) (nomark _))
      (pss_cons (ps_set (i := 6) nd rfl (Or.inl rfl) (pe_ix (kx_ixL K) (pv 4) (pv 5) (fun _ _ => rfl)))
      (pss_cons (ps_asg (pe_clo (i := 1) T hr rfl (Or.inl rfl) (pa_cons (pv 6) pa_nil)) (pg_sub (pv 2) (pv 6) (kpset_n P w rfl rfl hr.units)))
      (pss_cons (ps_for PassesOwn.never rfl (kpi_list K rfl (kpe_nget P w rfl rfl hr.units (pv 2) (pv 6) (fun _ _ => rfl))) (kpg_tup K rfl 4 rfl (pgs_cons (pg_name (i := 7) nd rfl (Or.inl rfl)) (pgs_cons (pg_name (i := 8) nd rfl (Or.inl rfl)) (pgs_cons (pg_name (i := 9) nd rfl (Or.inl rfl)) (pgs_cons (pg_name (i := 10) nd rfl (Or.inl rfl)) pgs_nil)))))
        (pss_one (ps_if (pt_cmpR (kx_nnotin P w rfl rfl hr.units) (pv 10) (pv 3) (by rfl))
          (pss_cons (ps_if (pt_cmpR op_eq (pe_callB (kx_len K) rfl T.n_len PySem.boot_len (pa_cons (pv 4) pa_nil)) (pe_const T.c_MOST_NODES rfl) (nomark _)) (pss_one ps_never) pss_nil)
          (pss_cons (ps_asg (pe_op (kx_catF K) (kpe_nget P w rfl rfl hr.units (pv 3) (pv 6) (fun _ _ => rfl)) (pe_tupF (pa_cons (pv 7) pa_nil))) (pg_sub (pv 3) (pv 10) (kpset_n P w rfl rfl hr.units)))
          (pss_one (ps_expr (kpe_bm K rfl PySem.F.plainAttrs_list PySem.F.slot_list_append PySem.F.type_list_append mt_append (pv 4) (pa_cons (pv 10) pa_nil)))))) pss_nil)))
      (pss_one (ps_set (i := 5) nd rfl (Or.inl rfl) (pe_op op_add (pv 5) pe_int)))))))
    (pss_one (ps_ret (pe_tupF (pa_cons (pv 2) (pa_cons (pv 3) pa_nil)))))), ?_⟩
  obtain ⟨bf, rfl⟩ := arr_ref df
  -- graph, walks, line, at
  intro g hg lowg wk hw loww
  refine ⟨_, rfl, by decide, fun e0 o0 he0 ho0 => ?_⟩
  have s1 : Same H0 (upd H0 g (ndO P w g [])) := same_upd hg
  have s2 : Same (upd H0 g (ndO P w g [])) (upd (upd H0 g (ndO P w g [])) wk (ndO P w wk [])) := same_upd hw
  have s3 := same_upd (o := .frz o0 (.tup [])) he0
  have gw : g ≠ wk := fun z => by rw [← z, upd_same] at hw; cases hw
  have w0 : NDat P w (upd (upd (upd H0 g (ndO P w g [])) wk (ndO P w wk [])) e0 (.frz o0 (.tup []))) wk [] := (ndat_new loww).ext s3
  have g0 : NDat P w (upd (upd (upd H0 g (ndO P w g [])) wk (ndO P w wk [])) e0 (.frz o0 (.tup []))) g [] := ((ndat_new lowg).ext s2).ext s3
  have d0 := Dat.mono (.of ((s1.trans s2).trans s3)) _ _ df
  have de : Dat (upd (upd (upd H0 g (ndO P w g [])) wk (ndO P w wk [])) e0 (.frz o0 (.tup []))) (eNats []) (.ref e0) := dat_tup.mpr ⟨e0, [], rfl, .new ho0, datL_nil.mpr rfl⟩
  have se : Same H0 (upd (upd (upd H0 g (ndO P w g [])) wk (ndO P w wk [])) e0 (.frz o0 (.tup []))) := (s1.trans s2).trans s3
  have fw : H0 wk = none := by rw [upd_ne gw.symm] at hw; exact hw
  generalize upd (upd (upd H0 g (ndO P w g [])) wk (ndO P w wk [])) e0 (.frz o0 (.tup [])) = H1 at w0 g0 d0 de se ⊢
  refine ⟨bf, eArr (G.start R S), rfl, d0, key_depth _, True.intro, w0.obj, ?_⟩
  have tt : ∀ ob xs, H1 wk ≠ some (.frz ob (.tup xs)) := fun ob xs z => ndO_ne _ _ _ _ _ _ (w0.obj.symm.trans z)
  have w1 := w0.put (k := eArr (G.start R S)) (b := bf) (v := .ref e0) d0 (key_depth _) True.intro rfl (by decide)
  have g1 : NDat P w (upd H1 wk (ndO P w wk [(eArr (G.start R S), bf, .ref e0)])) g [] := g0.other gw tt
  have tp : Tups H1 (upd H1 wk (ndO P w wk [(eArr (G.start R S), bf, .ref e0)])) := Tups.upd tt
  have se2 : Same H0 (upd H1 wk (ndO P w wk [(eArr (G.start R S), bf, .ref e0)])) := fun b o e => by rw [upd_ne (ne_of_none e fw)]; exact se b o e
  have d1 := Dat.mono tp _ _ d0
  have de1 := Dat.mono tp _ _ de
  simp only [List.nil_append] at w1
  generalize upd H1 wk (ndO P w wk [(eArr (G.start R S), bf, .ref e0)]) = H2 at w1 g1 se2 d1 de1 ⊢
  refine ⟨_, rfl, by show 1 ≤ sizeLine; exact le_line (by decide), fun l hl => ?_⟩
  refine ⟨by show 4 ≤ sizeLine; exact le_line (by decide), fun t ot ht hot => ?_⟩
  have s4 := same_upd (o := .lst [.ref bf]) hl
  have s5 := same_upd (o := .frz ot (.tup [.ref g, .ref wk, .ref l, .int 0])) ht
  have G0 : GS P w R S H0 (upd H2 l (.lst [.ref bf])) [(G.start R S, [])] 0 g wk l [] [(eArr (G.start R S), bf, .ref e0)] [.ref bf] :=
    ⟨se2.trans s4, hg, fw, se2.free hl, gw, g1.ext s4, w1.ext s4, upd_same, DatL.one (Dat.mono (.of s4) _ _ d1), rfl, rfl, fun i p x h1 h2 => by
      cases i with
      | zero =>
        have e1 : (G.start R S, ([] : List Nat)) = p := Option.some.inj h1
        have e2 : ((eArr (G.start R S), bf, V.ref e0) : NE) = x := Option.some.inj h2
        subst e1 e2
        exact Dat.mono (.of s4) _ _ de1
      | succ i => simp at h1⟩
  have G1 := G0.ext s5
  have sh0 : ShL [(G.start R S, [])] := fun i p h => by
    cases i with
    | zero =>
      have e1 : (G.start R S, ([] : List Nat)) = p := Option.some.inj h
      subst e1
      exact Nat.le_refl _
    | succ i => simp at h
  refine ⟨t, _, rfl, RdT.sqt (.new hot), rfl, _, _, rfl, _, _, rfl, _, _, rfl, _, _, rfl, rfl, ?_⟩
  -- the loop
  refine while_by (fun σ H => ∃ (ln : G.Ln) (n : Nat) (GE WE : List NE) (vs : List V) (o6 o7 o8 o9 o10 : Option V), σ = [some (.ref bf), some vc, some (.ref g), some (.ref wk), some (.ref l), some (.int (n : Int)), o6, o7, o8, o9, o10] ∧ GS P w R S H0 H ln n g wk l GE WE vs ∧ G.BInv R S ln n ∧ ShL ln)
    (fun (σ : L2.St) (_ : Hp) => 2000 - (match σ[5]? with | some (some (V.int i)) => i.toNat | _ => 0)) ⟨_, 0, _, _, _, none, none, none, none, none, rfl, G1, G.BInv.first R S, sh0⟩ ?_ ?_
  · rintro σ H ⟨ln, n, GE, WE, vs, o6, o7, o8, o9, o10, rfl, gs, B, sh⟩
    have few := B.few sR sS
    have nle : n ≤ ln.length := B.le
    have vl : vs.length = ln.length := by rw [gs.hv.length, List.length_map]
    have wl : WE.length = ln.length := by have := congrArg List.length gs.wks; simpa using this
    have gl : GE.length = n := by have := congrArg List.length gs.gk; simp at this; omega
    refine ⟨_, rfl, _, rfl, l, vs, rfl, .inl (SqL.of gs.hl), _, _, rfl, rfl, _, rfl, ?_⟩
    by_cases lt : n < ln.length
    · have hp : ln[n]? = some ln[n] := List.getElem?_eq_getElem lt
      generalize ln[n] = p at hp
      have c1 : decide ((n : Int) < ((vs.length : Nat) : Int)) = true := decide_eq_true (by omega)
      rw [c1]
      refine iteT ?_
      -- here = line[at]
      obtain ⟨vh, hvh, dh⟩ := gs.hv.get (i := n) (d := eArr p.1) (by rw [List.getElem?_map, hp]; rfl)
      obtain ⟨bh, rfl⟩ := arr_ref dh
      refine ⟨_, rfl, _, rfl, l, vs, _, _, rfl, rfl, SqL.of gs.hl, atI_nat hvh, ?_⟩
      -- graph[here] = steps_of(here)
      obtain ⟨hw1, hw2⟩ := B.wk p (List.mem_of_getElem? hp)
      have good : Good R S p.1 := by rw [← hw2]; exact good_walk (Good.start sR.v sS.v) _
      refine ⟨vc, R, S, rfl, clo.ext gs.same, _, rfl, clo.ext gs.same, p.1, _, rfl, dh, good, fun vr H2 s6 dr => ?_⟩
      obtain ⟨rl, rs, rfl, rf, rh, rd⟩ := dr
      have gs2 := gs.ext s6
      obtain ⟨fn, gs3⟩ := gs2.putG hp B.nd (Dat.mono (.of s6) _ _ dh) (v := .ref rl) True.intro (by omega)
      refine ⟨_, rfl, _, rfl, g, bh, GE, eArr p.1, rfl, rfl, gs2.gn, Dat.mono (.of s6) _ _ dh, key_depth _, True.intro, fn, by omega, ?_⟩
      have rg : rl ≠ g := fun z => by rw [z, gs2.gn.obj] at rh; exact ndO_nl _ _ _ _ _ rh
      have rw_ : rl ≠ wk := fun z => by rw [z, gs2.wn.obj] at rh; exact ndO_nl _ _ _ _ _ rh
      have rll : rl ≠ l := fun z => by rw [z, gs.hl] at rf; cases rf
      have r0 : H0 rl = none := gs.same.free rf
      have dh2 : Dat H2 (eArr p.1) (.ref bh) := Dat.mono (.of s6) _ _ dh
      have tpg : Tups H2 (upd H2 g (ndO P w g (GE ++ [(eArr p.1, bh, .ref rl)]))) := Tups.upd fun ob xs z => ndO_ne _ _ _ _ _ _ (gs2.gn.obj.symm.trans z)
      have dh3 := Dat.mono tpg _ _ dh2
      have rh3 : (upd H2 g (ndO P w g (GE ++ [(eArr p.1, bh, .ref rl)]))) rl = some (.lst rs) := by rw [upd_ne rg]; exact rh
      have rd3 := rd.mono tpg
      have T0 := G.TInv.zero B hp
      generalize upd H2 g (ndO P w g (GE ++ [(eArr p.1, bh, .ref rl)])) = H3 at gs3 dh3 rh3 rd3 ⊢
      -- for name, mine, its, later in graph[here]
      have gks := gs3.gk
      rw [map_fst] at gks
      have ndt : ((ln.take (n + 1)).map (·.1)).Nodup := (B.nd).sublist ((List.take_sublist _ _).map _)
      obtain ⟨eg, hge, hk1, hfind⟩ := find_at gks ndt (i := n) (a := p.1) (by rw [List.getElem?_map, List.getElem?_take_of_lt (by omega), hp]; rfl)
      have hrl : eg.2.2 = .ref rl := by
        rw [List.getElem?_append_right (by omega)] at hge
        have : n - GE.length = 0 := by omega
        rw [this] at hge
        have e : ((eArr p.1, bh, V.ref rl) : NE) = eg := Option.some.inj hge
        rw [← e]
      rw [hrl] at hfind
      refine ⟨_, rfl, _, rfl, g, bh, _, eArr p.1, .ref rl, rfl, rfl, gs3.gn, dh3, key_depth _, hfind, rl, rfl, ⟨rs, SqL.of rh3⟩, ?_⟩
      have rlen : rs.length = G.hm p.1 + 1 := by rw [rd3.length]; unfold rowsD; rw [List.length_map, List.length_range]
      refine for_list (K := K) (a := rl) (xs := rs) (fun j σ H => ∃ (ln' : G.Ln) (WE' : List NE) (vs' : List V) (o7 o8 o9 o10 : Option V), σ = [some (.ref bf), some vc, some (.ref g), some (.ref wk), some (.ref l), some (.int (n : Int)), some (.ref bh), o7, o8, o9, o10] ∧
          GS P w R S H0 H ln' (n + 1) g wk l (GE ++ [(eArr p.1, bh, .ref rl)]) WE' vs' ∧ G.TInv R S ln' n p j ∧ H rl = some (.lst rs) ∧ DatL H (rowsD R S p.1) rs ∧ Dat H (eArr p.1) (.ref bh) ∧ ShL ln')
        ⟨ln, WE, vs, o7, o8, o9, o10, rfl, gs3, T0, rh3, rd3, dh3, sh⟩ (fun i σ H _ ⟨_, _, _, _, _, _, _, _, _, _, h, _⟩ => SqL.of h) ?_ ?_
      · rintro j x σ H hj ⟨ln', WE', vs', o7, o8, o9, o10, rfl, gs', T', hr', hd', dh', sh'⟩
        have few' := T'.b.few sR sS
        have vl' : vs'.length = ln'.length := by rw [gs'.hv.length, List.length_map]
        have wl' : WE'.length = ln'.length := by have := congrArg List.length gs'.wks; simpa using this
        have jl : j < rs.length := (List.getElem?_eq_some_iff.mp hj).1
        have jm : j ≤ G.hm p.1 := by omega
        obtain ⟨dx, hdx, ddx⟩ := hd'.getV hj
        have edx : dx = rowOf R S p.1 j := by
          unfold rowsD at hdx
          rw [List.getElem?_map, List.getElem?_range (by omega)] at hdx
          exact (Option.some.inj hdx).symm
        subst edx
        obtain ⟨ta, txs, rfl, tr, td⟩ := dat_tup.mp ddx
        obtain ⟨x1, r1, e1, h1, td⟩ := datL_cons.mp td
        obtain ⟨x2, r2, e2, h2, td⟩ := datL_cons.mp td
        obtain ⟨x3, r3, e3, h3, td⟩ := datL_cons.mp td
        obtain ⟨x4, r4, e4, h4, td⟩ := datL_cons.mp td
        rw [datL_nil.mp td] at e4
        subst e4 e3 e2 e1
        have ex1 := dat_int.mp h1
        subst ex1
        obtain ⟨bl, rfl⟩ := arr_ref h4
        refine ⟨ta, _, rfl, tr.sqt, rfl, _, _, rfl, _, _, rfl, _, _, rfl, _, _, rfl, rfl, ?_⟩
        -- if later not in walks
        have ws := gs'.wks
        rw [map_fst] at ws
        have fi := find_arr ws (G.moved R S p.1 j)
        refine ⟨_, rfl, _, rfl, wk, bl, WE', eArr (G.moved R S p.1 j), rfl, rfl, gs'.wn, h4, key_depth _, _, rfl, ?_⟩
        rw [if_pos rfl, fi]
        by_cases mem : G.moved R S p.1 j ∈ ln'.map (·.1)
        · rw [decide_eq_true mem]
          refine iteF ?_
          exact ⟨ln', WE', vs', _, _, _, _, rfl, gs', T'.old mem, hr', hd', dh', sh'⟩
        · rw [decide_eq_false mem]
          refine iteT ?_
          -- len(line) == MOST_NODES
          refine ⟨_, rfl, l, vs', rfl, .inl (SqL.of gs'.hl), rfl, _, rfl, ?_⟩
          rw [dec_int]
          have ne : ¬ (((vs'.length : Nat) : Int) = 2000) := by omega
          rw [decide_eq_false ne]
          refine iteF ?_
          -- walks[later] = walks[here] + (name,)
          have hpl : ln'[n]? = some p := T'.here
          obtain ⟨ew, hwe, hwk, hwf⟩ := find_at ws T'.b.nd (i := n) (a := p.1) (by rw [List.getElem?_map, hpl]; rfl)
          have dw : Dat H (eNats p.2) ew.2.2 := gs'.wv n p ew hpl hwe
          obtain ⟨aw, xw, eaw, trw, tdw⟩ := dat_tup.mp dw
          refine ⟨_, rfl, _, rfl, wk, bh, WE', eArr p.1, ew.2.2, rfl, rfl, gs'.wn, dh', key_depth _, hwf, _, rfl, by show 1 ≤ sizeLine; exact le_line (by decide), fun pt ot2 hpt hot2 => ?_⟩
          have s7 := same_upd (o := .frz ot2 (.tup [.int (j : Int)])) hpt
          have gs4 := gs'.ext s7
          have trw' := trw.mono s7
          have tdw' := tdw.mono (.of s7)
          have h4' := Dat.mono (.of s7) _ _ h4
          have dh4 := Dat.mono (.of s7) _ _ dh'
          have hr4 := s7 _ _ hr'
          have hd4 := hd'.mono (.of s7)
          have tnew : RdT (upd H pt (.frz ot2 (.tup [.int (j : Int)]))) pt [.int (j : Int)] := .new hot2
          generalize upd H pt (.frz ot2 (.tup [.int (j : Int)])) = H4 at gs4 trw' tdw' h4' dh4 hr4 hd4 tnew ⊢
          have wlen : xw.length ≤ 2000 := by
            rw [tdw'.length, List.length_map, List.length_map]
            have := sh' n p hpl
            omega
          -- whatever the concatenation gives: a walk longer by one
          have fin : ∀ (cv : V) (H5 : Hp), Same H4 H5 → Dat H5 (eNats (p.2 ++ [j])) cv → ∃ bc, cv = .ref bc ∧ True := fun cv H5 _ d => by obtain ⟨b, e⟩ := ref_of_tup d; exact ⟨b, e, True.intro⟩
          have step : ∀ (cv : V) (H5 : Hp), Same H4 H5 → Dat H5 (eNats (p.2 ++ [j])) cv → gSub (tVar 3) (tVar 10) (tNSet P w) cv [some (.ref bf), some vc, some (.ref g), some (.ref wk), some (.ref l), some (.int (n : Int)), some (.ref bh), some (.int (j : Int)), some x2, some x3, some (.ref bl)] H5
              (fun σ H => tDrop (tBM K "list" rAppend (tVar 4) (tCons (tVar 10) tNil)) { nx := (fun σ H => ∃ (ln' : G.Ln) (WE' : List NE) (vs' : List V) (o7 o8 o9 o10 : Option V), σ = [some (.ref bf), some vc, some (.ref g), some (.ref wk), some (.ref l), some (.int (n : Int)), some (.ref bh), o7, o8, o9, o10] ∧
          GS P w R S H0 H ln' (n + 1) g wk l (GE ++ [(eArr p.1, bh, .ref rl)]) WE' vs' ∧ G.TInv R S ln' n p (j + 1) ∧ H rl = some (.lst rs) ∧ DatL H (rowsD R S p.1) rs ∧ Dat H (eArr p.1) (.ref bh) ∧ ShL ln'), rt := Q } σ H) := fun cv H5 s8 dcv => by
            obtain ⟨bc, rfl⟩ := ref_of_tup dcv
            have gs5 := gs4.ext s8
            have h5 := Dat.mono (.of s8) _ _ h4'
            have dh5 := Dat.mono (.of s8) _ _ dh4
            have hr5 := s8 _ _ hr4
            have hd5 := hd4.mono (.of s8)
            have r5w : rl ≠ wk := rw_
            obtain ⟨fn5, hl5, dl5, gs6⟩ := gs5.putW (p := (G.moved R S p.1 j, p.2 ++ [j])) (v := .ref bc) (List.getElem?_eq_some_iff.mp hpl).1 mem h5 True.intro dcv (by omega) rfl
            refine ⟨_, rfl, _, rfl, wk, bl, WE', eArr (G.moved R S p.1 j), rfl, rfl, gs5.wn, h5, key_depth _, True.intro, fn5, by omega, ?_⟩
            refine ⟨_, rfl, .inl ⟨rfl, vs', SqL.of hl5⟩, _, rfl, l, vs', _, rfl, rfl, hl5, lt_line (by omega), ?_⟩
            refine ⟨_, _, _, _, _, _, _, rfl, gs6, T'.new jm mem, ?_, ?_, ?_, ?_⟩
            · rw [upd_ne rll, upd_ne r5w]; exact hr5
            · have t1 : Tups H5 (upd H5 wk (ndO P w wk (WE' ++ [(eArr (G.moved R S p.1 j), bl, .ref bc)]))) := Tups.upd fun ob xs z => ndO_ne _ _ _ _ _ _ (gs5.wn.obj.symm.trans z)
              have t2 : Tups (upd H5 wk (ndO P w wk (WE' ++ [(eArr (G.moved R S p.1 j), bl, .ref bc)]))) (upd (upd H5 wk (ndO P w wk (WE' ++ [(eArr (G.moved R S p.1 j), bl, .ref bc)]))) l (.lst (vs' ++ [.ref bl]))) := Tups.upd fun ob xs z => by rw [hl5] at z; cases z
              exact (hd5.mono t1).mono t2
            · have t1 : Tups H5 (upd H5 wk (ndO P w wk (WE' ++ [(eArr (G.moved R S p.1 j), bl, .ref bc)]))) := Tups.upd fun ob xs z => ndO_ne _ _ _ _ _ _ (gs5.wn.obj.symm.trans z)
              have t2 : Tups (upd H5 wk (ndO P w wk (WE' ++ [(eArr (G.moved R S p.1 j), bl, .ref bc)]))) (upd (upd H5 wk (ndO P w wk (WE' ++ [(eArr (G.moved R S p.1 j), bl, .ref bc)]))) l (.lst (vs' ++ [.ref bl]))) := Tups.upd fun ob xs z => by rw [hl5] at z; cases z
              exact Dat.mono t2 _ _ (Dat.mono t1 _ _ dh5)
            · intro i q hq
              rcases G.getElem?_snoc hq with h | ⟨hi, e⟩
              · exact sh' i q h
              · subst e
                have h1 := sh' n p hpl
                have h2 := (List.getElem?_eq_some_iff.mp hpl).1
                show (p.2 ++ [j]).length ≤ i
                rw [List.length_append, List.length_singleton]
                omega
          have dnew : ∀ (H5 : Hp), Same H4 H5 → DatL H5 (((p.2 ++ [j]).map fun (n : Nat) => (n : Int)).map D.int) (xw ++ [.int (j : Int)]) := fun H5 s8 => by
            rw [List.map_append, List.map_append]
            exact (tdw'.mono (.of s8)).app (DatL.one (dat_int.mpr rfl))
          refine ⟨aw, pt, xw, [.int (j : Int)], eaw, rfl, trw'.sqt, tnew.sqt, le_line (by simp; omega), fun z => ?_, fun _ z => by simp at z, fun z1 z2 pc oc hpc hoc => ?_⟩
          · subst z
            have := dnew H4 (Same.refl H4)
            exact step _ H4 (Same.refl H4) (dat_tup.mpr ⟨pt, _, rfl, tnew, by simpa using this⟩)
          · have s8 := same_upd (o := .frz oc (.tup (xw ++ [.int (j : Int)]))) hpc
            exact step _ _ s8 (dat_tup.mpr ⟨pc, _, rfl, .new hoc, dnew _ s8⟩)
      · -- at = at + 1
        rintro σ H ⟨ln', WE', vs', o7, o8, o9, o10, rfl, gs', T', hr', hd', dh', sh'⟩
        rw [rlen] at T'
        have B' := T'.next
        refine ⟨_, rfl, _, _, rfl, rfl, ⟨ln', n + 1, _, WE', vs', _, _, _, _, _, rfl, gs', B', sh'⟩, ?_⟩
        show 2000 - ((n : Int) + 1).toNat < 2000 - ((n : Nat) : Int).toNat
        have := T'.b.few sR sS
        have := B'.le
        omega
    · -- the end
      have e : n = ln.length := by omega
      have c1 : decide ((n : Int) < ((vs.length : Nat) : Int)) = false := decide_eq_false (by omega)
      rw [c1]
      refine iteF ?_
      refine ⟨_, rfl, _, rfl, by show 2 ≤ sizeLine; exact le_line (by decide), fun t2 o2 ht2 ho2 => ?_⟩
      have s6 := same_upd (o := .frz o2 (.tup [.ref g, .ref wk])) ht2
      have gs2 := gs.ext s6
      subst e
      have gk2 := gs2.gk
      rw [List.take_length] at gk2
      exact qq _ _ gs2.same ⟨t2, g, wk, ln, GE, WE, rfl, .new ho2, gs2.gn, gs2.wn, gk2, gs2.wks, gs2.wv, B⟩
  · rintro σ H Q1 Q2 hQ ⟨v, hv, x, hx, p, ys, e, sq, i, j, e1, e2, k, e3, q⟩
    exact ⟨v, hv, x, hx, p, ys, e, sq, i, j, e1, e2, k, e3, hQ _ _ q⟩
end
end DL
-- part DL12
set_option linter.all false
set_option maxRecDepth 100000
set_option maxHeartbeats 2000000
/-! for k, v in d.items(), d with nested keys; sorted(d). -/
namespace DL
open PySem PySem.Spec PyProof.Rows L2
section
variable {P : Program} {w : World} {K : PySem.W.Frag} {o : Obj} {es : List NE} {d : Addr}
/-- the entries, one after another, each in a new pair -/
def Itn (P : Program) (w : World) (d : Addr) (o : Obj) (es : List NE) : It :=
  ⟨fun i H => (H d = some (.frz o (ndO P w d es)) ∧ ∀ e ∈ es, OkV e.2.2) ∧ i < es.length, fun i H x H' => ∃ T e, es[i]? = some e ∧ x = .ref T ∧ H T = none ∧ H' = upd H T (.tup [.ref e.2.1, e.2.2]), fun i H => H d = some (.frz o (ndO P w d es)) ∧ es.length ≤ i⟩
theorem frz_raw {X : Cx} {pins : List (Addr × Obj)} {σ : L2.St} {H : Hp} {s : Shared} (I : Inv X pins σ H s) (h : H d = some (.frz o (ndO X.prog X.w d es))) :
    ∃ (es' : Array DictEntry) (ep : Nat), s.heap.get? d = some o ∧ o.ExactDict ∧ o.data = .dict es' ep ∧ es'.size = es.length ∧ ∀ (i : Nat) (hi : i < es'.size) (e : NE), es[i]? = some e → es'[i].key = .ref e.2.1 ∧ es'[i].val = toVal e.2.2 := by
  obtain ⟨g, ⟨o', es', ep, h1, h2, h3, h4⟩, _, _⟩ := (show ObjOk X.prog X.w H s.heap d (.frz o (ndO X.prog X.w d es)) from I.hok d _ h)
  rw [g] at h1
  cases h1
  have hl : es'.size = es.length := by
    have := congrArg List.length h4
    simpa using this
  refine ⟨es', ep, g, h2, h3, hl, fun i hi e he => ?_⟩
  have z : es'.toList[i]? = ((es.map raw).map (entryOfKey (nestedKind X.prog X.w)))[i]? := by rw [h4]
  rw [Array.getElem?_toList, Array.getElem?_eq_getElem hi, List.getElem?_map, List.getElem?_map, he] at z
  have z := Option.some.inj z
  rw [z]
  exact ⟨rfl, rfl⟩
theorem turn_itemsN {es' : Array DictEntry} {ep : Nat} {elts : List Expr} {kk : Nat} {tpos : Pos} (it : Addr) (hod : o.data = .dict es' ep) :
    Turn P w K (.Tuple elts kk tpos) (Itn P w d o es) [it] it (fun i h => ∃ ok ov, IsItemIter h it d i es'.size ep ok ov) where
  mem := by simp
  obj := fun i h st b hb => by
    have e : b = it := by simpa using hb
    subst e
    obtain ⟨ok, ov, e⟩ := st
    exact ⟨_, e, fun v z => nomatch z⟩
  keep := fun i h h' st k => let ⟨ok, ov, e⟩ := st; ⟨ok, ov, k it (by simp) _ e⟩
  item := by
    intro X hP hw hK hc i pins s σ H E I hf st hg
    subst hP hw hK
    obtain ⟨⟨hd, hok⟩, hi⟩ := hg
    obtain ⟨es2, ep2, hgd, hx, hdt, hsz, hent⟩ := frz_raw I hd
    obtain ⟨rfl, rfl⟩ := dict_ep hod hdt
    have hi2 : i < es2.size := by rw [hsz]; exact hi
    have he := List.getElem?_eq_getElem hi
    obtain ⟨k1, k2⟩ := hent i hi2 _ he
    obtain ⟨ok, ov, hit⟩ := st
    have hlt : it < s.heap.objs.size := Heap.lt_size hit
    refine wpAny_pyNext_items_item_raw hit ⟨o, hgd, hx, hdt⟩ hi2 fun h' ho hT hz hk => ?_
    refine ⟨_, rfl, wpAny_letOwnedTupleGo_items (s := { s with heap := h' }) ho fun h'' he' sb => ?_⟩
    have hT2 : h''.get? s.heap.objs.size = some { cls := .type "tuple", data := .seq #[es2[i].key, es2[i].val] } := (sb.2 _ (Nat.ne_of_gt hlt)).trans hT
    have new : ObjOk X.prog X.w (upd H s.heap.objs.size (.tup [.ref es[i].2.1, es[i].2.2])) h'' s.heap.objs.size (.tup [.ref es[i].2.1, es[i].2.2]) := by
      refine ⟨by show 2 ≤ sizeLine; decide, [es2[i].key, es2[i].val], .cons ?_ (.cons ?_ .nil), ⟨_, hT2, rfl, _, rfl⟩⟩
      · rw [k1]; rfl
      · rw [k2]; exact okV_to (hok _ (List.getElem_mem hi))
    have I1 : Inv X pins σ (upd H s.heap.objs.size (.tup [.ref es[i].2.1, es[i].2.2])) { s with heap := h'' } :=
      I.turnedNew (t' := s.toks) (ch := [it]) (fun b ob hb e => (sb.2 b (by simpa using hb)).trans (hk b ob (by simpa using hb) e)) hf (Nat.le_refl _) new
    refine ⟨.ref s.heap.objs.size, _, I1, rfl, ⟨_, es[i], he, rfl, I.hok.fresh (Nat.le_refl _), rfl⟩, ⟨es2[i].key, es2[i].val, he'⟩, fun b hb => ?_⟩
    have e : b = it := by simpa using hb
    rw [e, upd_ne (Nat.ne_of_lt hlt)]
    exact (hf it (by simp)).1
  done := by
    intro X hP hw hK hc i pins s σ H E I hf st hg
    subst hP hw hK
    obtain ⟨hd, hi⟩ := hg
    obtain ⟨f0, f1, f2, f3, f4, f5⟩ := hf it (by simp)
    obtain ⟨es2, ep2, hgd, hx, hdt, hsz, hent⟩ := frz_raw I hd
    obtain ⟨rfl, rfl⟩ := dict_ep hod hdt
    obtain ⟨ok, ov, he⟩ := st
    exact wpAny_pyNext_items_end_raw (I.ok.hd hc) he ⟨o, hgd, hx, hdt⟩ (by rw [hsz]; exact hi) fun h' eb => ⟨rfl, I.turned (t' := s.toks) (fun b ob hb e => eb b ob hb e) f0 f1 f3 f4 f5⟩
  self := fun A i s Q E st h => let ⟨_, _, e⟩ := st; PySem.W.kcp_self e h
def iItemsN (P : Program) (w : World) (td : TE) : TI := fun σ H R => td σ H fun x H1 => ∃ d o es, x = .ref d ∧ H1 d = some (.frz o (ndO P w d es)) ∧ (d == sysModules) = false ∧ R (Itn P w d o es) H1
theorem pi_itemsN {X : Cx} {e : Expr} {td : TE} {elts : List Expr} {kk : Nat} {tpos apos cpos : Pos} (he : PE X e td) (hbase : attributeBase e "items" X.env (eval e X.env) = eval e X.env := by rfl) (hline : (apos.endLine == cpos.line) = true := by rfl) :
    PI X (.Tuple elts kk tpos) (.Call (.Attribute e "items" apos) [] [] cpos) (iItemsN X.prog X.w td) := by
  refine ⟨fun pins s σ H R I h => ?_⟩
  refine wpAny_Call_method (T := "dict") (id := "dict.items") hbase rfl hline F.plainAttrs_dict F.slot_dict_items F.type_dict_items (thn (he.run pins s σ H _ I h) fun u s1 ⟨x, H1, I1, rx, d, o, es, ex, hd, hs, q⟩ => ?_)
  subst ex
  obtain rfl : u = Value.ref d := rx
  obtain ⟨es2, ep2, hgd, hx, hdt, hsz, hent⟩ := frz_raw I1 hd
  have rw1 : s1.heap.DictRaw d es2 ep2 := ⟨o, hgd, hx, hdt⟩
  refine ⟨rw1.typeIs, fun a z => ?_, ?_⟩
  · cases z
    exact ⟨o, hgd, hx.2.1⟩
  have I2 : Inv X pins σ H1 { s1 with heap := s1.heap.push { cls := .type "dict_items", data := .fields #[.ref d] } } := I1.kept (t' := s1.toks) fun b ob q => Heap.get?_push_of_some _ q
  have fin : wpAny (model X.prog X.w) X.A (pyIter (.ref s1.heap.objs.size)) (PIE X pins σ (.Tuple elts kk tpos) R) X.xe { s1 with heap := s1.heap.push { cls := .type "dict_items", data := .fields #[.ref d] } } := by
    refine wpAny_pyIter_items_raw (d := d) ⟨_, Heap.get?_push_size _ rfl, rfl, rfl⟩ ⟨o, Heap.get?_push_of_some _ hgd, hx, hdt⟩ (pi_one (tk := s1.toks) I2 _ (turn_itemsN _ hdt) ⟨.none, .none, ?_⟩ q)
    exact Heap.get?_push_size _ rfl
  show wpAny _ _ (callWith cpos (.builtin "dict.items") [.ref d] [] []) _ X.xe s1
  exact method_meetsIn F.slot_dict_items F.entry_dict_items rfl (PySem.evalArgs_none ⟨rfl, rw1.typeIs, F.args_dict_items_1 _, _, meets_dict_items_raw d hs, ⟨es2, ep2, rw1⟩, fin⟩)
end
end DL
-- part DL13
set_option linter.all false
set_option maxRecDepth 100000
set_option maxHeartbeats 2000000
/-! sorted(d), d with nested keys; the loop over its items. -/
namespace DL
open PySem PySem.Spec PyProof.Rows L2
section
variable {X : Cx}
def rSortN (P : Program) (w : World) : List V → Hp → VK → Prop := fun vs H Q => ∃ (a : Addr) (es : List NE), vs = [.ref a] ∧ NDat P w H a es ∧ SortOk H (fun e : NE => V.ref e.2.1) (fun e => e.1) es ∧ ∀ p, H p = none → Q (.ref p) (upd H p (.lst ((srt (fun e : NE => e.1) es).map fun e => V.ref e.2.1)))
theorem cr_sortN (P : Program) (w : World) (e1 : X.prog = P) (e2 : X.w = w) (hc : X.calm = true) (hu : X.A.units + 64 < cLine) : CallR X (.builtin "sorted") (rSortN P w) := by
  subst e1 e2
  intro pins s σ H vs us Q I r h
  obtain ⟨a, es, rfl, n, S, q⟩ := h
  rw [Vals.ref1 r]
  obtain ⟨o, es', ep, h1, h2, h3, h4, h5, h6⟩ := n.ok I
  have hl : es'.size = es.length := by have := congrArg List.length h4; simpa using this
  have hk : ∀ (i : Nat) (hi : i < es'.size), ∃ e, es[i]? = some e ∧ es'[i].key = .ref e.2.1 := fun i hi => by
    have lt : i < es.length := by omega
    refine ⟨es[i], List.getElem?_eq_getElem lt, ?_⟩
    have z : es'.toList[i]? = ((es.map raw).map (entryOfKey (nestedKind X.prog X.w)))[i]? := by rw [h4]
    rw [Array.getElem?_toList, Array.getElem?_eq_getElem hi, List.getElem?_map, List.getElem?_map, List.getElem?_eq_getElem lt] at z
    rw [Option.some.inj z]
    rfl
  have rv : Vals (es.map fun e : NE => V.ref e.2.1) (es.map fun e => Value.ref e.2.1) := by
    have : ∀ l : List NE, Vals (l.map fun e : NE => V.ref e.2.1) (l.map fun e => Value.ref e.2.1) := fun l => by
      induction l with
      | nil => exact .nil
      | cons e l ih => exact .cons rfl ih
    exact this es
  refine sorted_dat I (args_sorted1 _) hu (fun Q' hq E' => ?_) rv S q
  refine PySem.W.kdu_collect (A := X.A.in1) (PySem.KdlSrc.rawDict (ep := ep) (es := es') n.low) (I.ok.hd hc) ⟨o, h1, h2, h3⟩ (by rw [hl]; exact le_line S.len) fun h' tk acc hkk hacc => ?_
  have e : acc.toList = es.map fun e => Value.ref e.2.1 := by
    apply List.ext_getElem?
    intro i
    by_cases c : i < es.length
    · have hi : i < acc.size := by rw [hacc.1, hl]; exact c
      obtain ⟨hi2, ev⟩ := hacc.2 i acc[i] (Array.getElem?_eq_getElem hi)
      obtain ⟨e, he, hke⟩ := hk i hi2
      rw [Array.getElem?_toList, Array.getElem?_eq_getElem hi, List.getElem?_map, he, ev, hke]
      rfl
    · rw [List.getElem?_eq_none (by rw [Array.length_toList, hacc.1, hl]; omega), List.getElem?_eq_none (by rw [List.length_map]; omega)]
  rw [e]
  exact hq h' tk hkk
theorem toPy_arr_tup {ds es : List D} (h : PySem.W.alikeAll (toPyL ds) (toPyL es) = true) : PySem.W.alike (toPy (.tup ds)) (toPy (.tup es)) = true := by
  unfold toPy
  simpa [PySem.W.alike] using h
variable {P : Program} {w : World} {d : Addr} {o : Obj} {es : List NE}
theorem for_itn {g : TG} {tb : TS} {D : Ends} {σ : L2.St} {H : Hp} (Pv : Nat → L2.St → Hp → Prop) (h0 : Pv 0 σ H) (hok : ∀ e ∈ es, OkV e.2.2) (hl : ∀ i σ H, i ≤ es.length → Pv i σ H → H d = some (.frz o (ndO P w d es)))
    (hs : ∀ i e σ H T, es[i]? = some e → Pv i σ H → H T = none → g (.ref T) σ (upd H T (.tup [.ref e.2.1, e.2.2])) fun σ2 H2 => tb { D with nx := Pv (i + 1), ct := Pv (i + 1), bk := D.nx } σ2 H2) (hd : ∀ σ H, Pv es.length σ H → D.nx σ H) :
    ∃ W : Nat → Nat → L2.St → Hp → Prop, (∃ m, W 0 m σ H) ∧ ∀ i m σ H, W i m σ H →
      ((Itn P w d o es).stop i H ∧ D.nx σ H) ∨ ((Itn P w d o es).go i H ∧ ∃ N : L2.St → Hp → Prop, (∀ σ' H', N σ' H' → ∃ m', m' < m ∧ W (i + 1) m' σ' H') ∧ ∀ x H', (Itn P w d o es).yld i H x H' → g x σ H' fun σ2 H2 => tb { D with nx := N, ct := N, bk := D.nx } σ2 H2) := by
  refine ⟨fun i m σ H => m = es.length - i ∧ i ≤ es.length ∧ Pv i σ H, ⟨es.length, by simp, Nat.zero_le _, h0⟩, ?_⟩
  rintro i m σ H ⟨rfl, hi, p⟩
  have q := hl i σ H hi p
  by_cases hlt : i < es.length
  · refine .inr ⟨⟨⟨q, hok⟩, hlt⟩, Pv (i + 1), fun σ' H' p' => ⟨es.length - (i + 1), by omega, rfl, hlt, p'⟩, fun x H' y => ?_⟩
    obtain ⟨T, e, he, ex, hT, eH⟩ := y
    subst ex eH
    exact hs i e σ H T he p hT
  · have e : i = es.length := by omega
    subst e
    exact .inl ⟨⟨q, Nat.le_refl _⟩, hd σ H p⟩
end
end DL
-- part W9
set_option linter.all false
set_option maxRecDepth 100000
set_option maxHeartbeats 4000000
/-! all_steps, nested. -/
namespace DL
open PySem PySem.Spec PyProof.Rows L2 NdefX LamX
/-- what nested answers -/
def NestRes (R S : G.Rule) (d : D) : Prop :=
  (G.Nest R S ∧ ∃ l : List G.Arr, d = .tup [.str "nested", .tup (l.map eArr)] ∧ l.Nodup ∧ l.length ≤ 1144 ∧ G.start R S ∈ l ∧ ∀ a ∈ l, Good R S a ∧ G.Within a ∧ ∀ n, n ≤ G.hm a → G.moved R S a n ∈ l) ∨
  (¬ G.Nest R S ∧ ∃ u : List Nat, d = .tup [.str "apart", eNats u] ∧ G.VW R S (G.start R S) u ∧ ¬ G.Within (G.walkTo R S (G.start R S) u) ∧ u.length ≤ 60 ∧ ∀ u', G.VW R S (G.start R S) u' → ¬ G.Within (G.walkTo R S (G.start R S) u') → u.length ≤ u'.length)
section
variable {P : Program} {w : World} {K : PySem.W.Frag} {mg : Str → Option Value} {base : Heap} {Pt : Addr}
theorem ok_steps_of0 (TX : TxtX K mg base Pt) : Con0 P w K mg base "steps_of" ["one", "other"] 1 (spStepsOf Pt) := by
  obtain ⟨c, ⟨f, oc, od, an, osl, kV, doc, pm, ct, lk, hcd, kp, hm⟩, TB⟩ := TX.S
  exact ⟨f, _, hm, kp, .all (fun us hl => match us, hl with | [_, _], _ => rfl), fn_steps_of TB lk hcd⟩
def spAll (P : Program) (w : World) (Pt : Addr) : Sp := fun vs H Q _ => ∃ R S, RAL H [.d (eRule R), .d (eRule S)] vs ∧ G.Small R ∧ G.Small S ∧
  ((H Pt = some (.tbl #[]) ∧ ∀ v H', ExtN H H' → Tab1 Pt H' → GOut P w R S H' v → Q v H') ∨ (Tab1 Pt H ∧ ∀ v H', Same H H' → GOut P w R S H' v → Q v H'))
theorem tups_extN {H H' : Hp} (e : ExtN H H') : Tups H H' := fun a xs ⟨o, h, d⟩ => ⟨o, e _ _ h (by intro ps z; cases z), d⟩
theorem extN_same {H H1 H2 : Hp} (e : ExtN H H1) (s : Same H1 H2) : ExtN H H2 := fun b o h n => s b o (e b o h n)
theorem same_extN {H H1 H2 : Hp} (s : Same H H1) (e : ExtN H1 H2) : ExtN H H2 := fun b o h n => e b o (s b o h) n
theorem sc_all_steps : FnScope ["one", "other"] ["one", "other"] (defScope (top 43)) := ⟨rfl, rfl, rfl, by decide +kernel, rfl, by decide +kernel, by decide +kernel⟩
theorem ok_all_steps (TX : TxtX K mg base Pt) : Con0 P w K mg base "all_steps" ["one", "other"] 6 (spAll P w Pt) := by
  have T := TX.T
  obtain ⟨f, fd, F, hm⟩ := T.f_all_steps
  refine ⟨f, fd, hm, F.kp, F.binds fun _ _ _ _ _ _ us hl => match us, hl with | [_, _], _ => rfl, F.ok sc_all_steps (fun vs H Q E h => ?_) (fun cdv A outer s H vs Q E hr h => ?_)⟩
  · obtain ⟨R, S, r, _⟩ := h
    exact r.length
  obtain ⟨R, S, ⟨v1, us1, e1, d1, v2, us2, e2, d2, e3⟩, sR, sS, hc⟩ := h
  have e3 : us2 = [] := e3
  subst e3 e2 e1
  have nd := sc_all_steps.nd
  refine ⟨_, pss_one (ps_ret (pe_con0 (ok_graph_of T) hr rfl (pa_cons (pe_con (ok_first_pair T) hr rfl (pa_cons (pv 0) (pa_cons (pv 1) pa_nil))) (pa_cons (pe_con0 (ok_steps_of0 TX) hr rfl (pa_cons (pv 0) (pa_cons (pv 1) pa_nil))) pa_nil)))), ?_⟩
  refine ⟨v1, rfl, v2, rfl, [.d (eRule R), .d (eRule S)], .d (eArr (G.start R S)), ⟨v1, _, rfl, d1, v2, _, rfl, d2, rfl⟩, ⟨R, S, rfl, rfl, sR.v, sS.v⟩, fun a1 H1 s1 da => ?_⟩
  have da : Dat H1 (eArr (G.start R S)) a1 := da
  have d1' := Dat.mono (.of s1) _ _ (show Dat H (eRule R) v1 from d1)
  have d2' := Dat.mono (.of s1) _ _ (show Dat H (eRule S) v2 from d2)
  refine ⟨v1, rfl, v2, rfl, R, S, ⟨v1, _, rfl, d1', v2, _, rfl, d2', rfl⟩, ?_⟩
  rcases hc with ⟨hP, q⟩ | ⟨hT, q⟩
  · refine .inl ⟨s1 _ _ hP, fun c H2 e2 t2 hcl => ⟨R, S, a1, c, rfl, Dat.mono (tups_extN e2) _ _ da, hcl, sR, sS, fun v H3 s3 g => q v H3 (extN_same (same_extN s1 e2) s3) (t2.ext s3) g⟩⟩
  · refine .inr ⟨hT.ext s1, fun c H2 s2 hcl => ⟨R, S, a1, c, rfl, Dat.mono (.of s2) _ _ da, hcl, sR, sS, fun v H3 s3 g => q v H3 ((s1.trans s2).trans s3) g⟩⟩
theorem alike_arr (a b : G.Arr) : PySem.W.alike (toPy (eArr a)) (toPy (eArr b)) = true := by
  unfold eArr eSta eInts
  simp [toPy, toPyL, toPyL_ints, PySem.W.alike, PySem.W.alikeAll, PySem.W.alike_ints]
theorem sortOk_arr {H : Hp} {es : List NE} {l : List G.Arr} (hk : es.map (·.1) = l.map eArr) (hd : ∀ e ∈ es, Dat H e.1 (.ref e.2.1)) (hl : es.length ≤ 100000) : SortOk H (fun e : NE => V.ref e.2.1) (fun e => e.1) es := by
  have mem : ∀ e ∈ es, ∃ a, e.1 = eArr a := fun e he => by
    have : e.1 ∈ l.map eArr := by rw [← hk]; exact List.mem_map.mpr ⟨e, he, rfl⟩
    obtain ⟨a, _, h⟩ := List.mem_map.mp this
    exact ⟨a, h.symm⟩
  refine ⟨hd, fun x hx y hy => ?_, .inl fun x hx => ?_, fun e he => ?_, hl⟩
  · obtain ⟨e, he, rfl⟩ := List.mem_map.mp hx
    obtain ⟨e2, he2, rfl⟩ := List.mem_map.mp hy
    obtain ⟨a, ea⟩ := mem e he
    obtain ⟨b, eb⟩ := mem e2 he2
    show PySem.W.alike (toPy e.1) (toPy e2.1) = true
    rw [ea, eb]
    exact alike_arr a b
  · obtain ⟨e, he, rfl⟩ := List.mem_map.mp hx
    obtain ⟨a, ea⟩ := mem e he
    refine ⟨toPy (eSta a.1), toPyL [eSta a.2], ?_⟩
    show toPy e.1 = _
    rw [ea]
    unfold eArr
    rw [toPy, toPyL]
  · obtain ⟨a, ea⟩ := mem e he
    show (toPy e.1).depth ≤ 60
    rw [ea]
    have := SeqAt.depth_of_shaped (shaped_arr a)
    have h2 : (toPy (eArr a)).depth ≤ 60 := by
      unfold eArr eSta eInts
      simp [toPy, toPyL, toPyL_ints, PyData.depth, PyData.depthAll, depth_ints]
    exact h2
theorem perm_map_inv {α β : Type _} {f : α → β} {ys : List α} {xs : List β} (h : xs.Perm (ys.map f)) : ∃ l : List α, xs = l.map f ∧ l.Perm ys := by
  generalize e : ys.map f = zs at h
  induction h generalizing ys with
  | nil => exact ⟨[], rfl, by cases ys with | nil => exact .nil | cons => cases e⟩
  | cons x h ih => 
    cases ys with
    | nil => cases e
    | cons y ys =>
      obtain ⟨e1, e2⟩ := List.cons.inj e
      obtain ⟨l, h1, h2⟩ := ih e2
      exact ⟨y :: l, by rw [h1, ← e1]; rfl, h2.cons _⟩
  | swap x y l => 
    match ys, e with
    | a :: b :: ys, e =>
      obtain ⟨e1, e2⟩ := List.cons.inj e
      obtain ⟨e2, e3⟩ := List.cons.inj e2
      exact ⟨b :: a :: ys, by rw [← e1, ← e2, ← e3]; rfl, .swap _ _ _⟩
  | trans h1 h2 ih1 ih2 => 
    obtain ⟨l, e1, p1⟩ := ih2 e
    obtain ⟨l2, e2, p2⟩ := ih1 e1.symm
    exact ⟨l2, e2, p2.trans p1⟩
def spNested (Pt : Addr) : Sp := fun vs H Q _ => ∃ R S, RAL H [.d (eRule R), .d (eRule S)] vs ∧ G.Small R ∧ G.Small S ∧ R.places ≤ S.places ∧
  ((H Pt = some (.tbl #[]) ∧ ∀ v H' d, ExtN H H' → Tab1 Pt H' → Dat H' d v → NestRes R S d → Q v H') ∨ (Tab1 Pt H ∧ ∀ v H' d, Same H H' → Dat H' d v → NestRes R S d → Q v H'))
abbrev N_nested : List Str := ["one", "other", "graph", "walks", "arrangement", "walk"]
theorem sc_nested : FnScope N_nested ["one", "other"] (defScope (top 48)) := ⟨rfl, rfl, rfl, by decide +kernel, rfl, by decide +kernel, by decide +kernel⟩
theorem ok_nested (TX : TxtX K mg base Pt) : Con0 P w K mg base "nested" ["one", "other"] 12 (spNested Pt) := by
  have T := TX.T
  obtain ⟨f, fd, F, hm⟩ := T.f_nested
  refine ⟨f, fd, hm, F.kp, F.binds fun _ _ _ _ _ _ us hl => match us, hl with | [_, _], _ => rfl, F.ok sc_nested (fun vs H Q E h => ?_) (fun cdv A outer s H vs Q E hr h => ?_)⟩
  · obtain ⟨R, S, r, _⟩ := h
    exact r.length
  obtain ⟨R, S, ⟨v1, us1, e1, d1, v2, us2, e2, d2, e3⟩, sR, sS, hpl, hc⟩ := h
  have e3 : us2 = [] := e3
  subst e3 e2 e1
  have d1 : Dat H (eRule R) v1 := d1
  have d2 : Dat H (eRule S) v2 := d2
  have nd := sc_nested.nd
  refine ⟨_, pss_cons (ps_expr (pe_con (ok_need_greater T) hr rfl (pa_cons (pv 0) (pa_cons (pv 1) pa_nil))))
    (pss_cons (ps_asg (pe_con0 (ok_all_steps TX) hr rfl (pa_cons (pv 0) (pa_cons (pv 1) pa_nil))) (kpg_tup K rfl 2 rfl (pgs_cons (pg_name (i := 2) nd rfl (Or.inl rfl)) (pgs_cons (pg_name (i := 3) nd rfl (Or.inl rfl)) pgs_nil))))
    (pss_cons (ps_lock (ps_for PassesOwn.never rfl (pi_itemsN (pv 3)) (kpg_tup K rfl 2 rfl (pgs_cons (pg_name (i := 4) nd rfl (Or.inl rfl)) (pgs_cons (pg_name (i := 5) nd rfl (Or.inl rfl)) pgs_nil)))
      (pss_one (ps_if (pt_not (pt_val (pe_con (ok_is_within T) hr rfl (pa_cons (pv 4) pa_nil)))) (pss_one (ps_ret (pe_tupF (pa_cons pe_str (pa_cons (pv 5) pa_nil))))) pss_nil))))
    (pss_one (ps_ret (pe_tupF (pa_cons pe_str (pa_cons (pe_callTy (kx_tup K) rfl T.n_tuple (by rfl) (pa_cons (pe_callB (cr_sortN P w rfl rfl rfl hr.units) rfl T.n_sorted (by rfl) (pa_cons (pv 2) pa_nil)) pa_nil)) pa_nil))))))), ?_⟩
  -- need_greater(one, other)
  refine ⟨v1, rfl, v2, rfl, [.d (eRule R), .d (eRule S)], _, ⟨v1, _, rfl, d1, v2, _, rfl, d2, rfl⟩, ⟨R, S, rfl, rfl, sR.v, sS.v, hpl⟩, fun x1 H1 s1 _ => ?_⟩
  have d1' := Dat.mono (.of s1) _ _ d1
  have d2' := Dat.mono (.of s1) _ _ d2
  -- behind all_steps: the same from both states
  have rest : ∀ (v : V) (H2 : Hp), GOut P w R S H2 v → (∀ v' H' d, Same H2 H' → Dat H' d v' → NestRes R S d → Q v' H') →
      gTup K 2 (gCons (gName 2) (gCons (gName 3) gNil)) v [some v1, some v2, none, none, none, none] H2 (fun σ H => tSeq (tLock (tFor (iItemsN P w (tVar 3)) (gTup K 2 (gCons (gName 4) (gCons (gName 5) gNil)))
        (tIfS (tNot (L2.tB (tCall (spD rel_is_within) [] E0 (tCons (tVar 4) tNil)))) (tRet (tTupF (tCons (tC (.str "apart")) (tCons (tVar 5) tNil)))) tNext)))
        (tRet (tTupF (tCons (tC (.str "nested")) (tCons (tCB (rTupF K) (tCons (tCB (rSortN P w) (tCons (tVar 2) tNil)) tNil)) tNil)))) { nx := fun _ H' => Q .non H', rt := Q } σ H) := fun v H2 g q => by
    obtain ⟨t, gd, wk, ln, GE, WE, rfl, tr, gn, wn, gk, wks, wv, B⟩ := g.ex
    refine ⟨t, _, rfl, tr.sqt, rfl, _, _, rfl, _, _, rfl, rfl, ?_⟩
    have few := B.few sR sS
    have wl : WE.length = ln.length := by have := congrArg List.length wks; simpa using this
    have wokv : ∀ e ∈ WE, OkV e.2.2 := fun e he => (wn.key e he).2.2
    refine ⟨wk, ndO P w wk WE, wn.obj, True.intro, fun od => ?_⟩
    have tt0 : ∀ ob xs, H2 wk ≠ some (.frz ob (.tup xs)) := fun ob xs z => ndO_ne _ _ _ _ _ _ (wn.obj.symm.trans z)
    have tp0 : Tups H2 (upd H2 wk (.frz od (ndO P w wk WE))) := Tups.upd tt0
    refine ⟨_, rfl, wk, od, WE, rfl, upd_same, wn.low, ?_⟩
    -- the loop
    refine for_itn (fun i σ H => ∃ (o4 o5 : Option V), σ = [some v1, some v2, some (.ref gd), some (.ref wk), o4, o5] ∧ Same (upd H2 wk (.frz od (ndO P w wk WE))) H ∧ ∀ (j : Nat) p, j < i → ln[j]? = some p → G.Within p.1)
      ⟨none, none, rfl, Same.refl _, fun j p hj => absurd hj (Nat.not_lt_zero _)⟩ wokv (fun i σ H _ ⟨_, _, _, s, _⟩ => s _ _ upd_same) ?_ ?_
    · rintro i e σ H3 Tn he ⟨o4, o5, rfl, s3, hin⟩ hTn
      have lt : i < ln.length := by rw [← wl]; exact (List.getElem?_eq_some_iff.mp he).1
      have hp : ln[i]? = some ln[i] := List.getElem?_eq_getElem lt
      generalize ln[i] = p at hp
      have ek : e.1 = eArr p.1 := by
        have : (WE.map (·.1))[i]? = (ln.map fun p => eArr p.1)[i]? := by rw [wks]
        rw [List.getElem?_map, List.getElem?_map, he, hp] at this
        exact Option.some.inj this
      have s4 := same_upd (o := .tup [.ref e.2.1, e.2.2]) hTn
      have sw := s3.trans s4
      have tpp : Tups H2 (upd H3 Tn (.tup [.ref e.2.1, e.2.2])) := fun a xs h => Tups.of sw a xs (tp0 a xs h)
      have dk : Dat (upd H3 Tn (.tup [.ref e.2.1, e.2.2])) (eArr p.1) (.ref e.2.1) := by
        rw [← ek]
        exact Dat.mono tpp _ _ (wn.key e (List.mem_of_getElem? he)).1
      have dw : Dat (upd H3 Tn (.tup [.ref e.2.1, e.2.2])) (eNats p.2) e.2.2 := Dat.mono tpp _ _ (wv i p e hp he)
      refine ⟨Tn, _, rfl, SqT.of upd_same, rfl, _, _, rfl, _, _, rfl, rfl, ?_⟩
      obtain ⟨hw1, hw2⟩ := B.wk p (List.mem_of_getElem? hp)
      have good : Good R S p.1 := by rw [← hw2]; exact good_walk (Good.start sR.v sS.v) _
      refine ⟨_, rfl, [.d (eArr p.1)], _, ⟨_, _, rfl, dk, rfl⟩, ⟨p.1, rfl, rfl, good.o1.len⟩, fun vb H4 s5 db => ⟨decide (G.Within p.1), reB db, ?_⟩⟩
      by_cases win : G.Within p.1
      · rw [decide_eq_true win]
        refine iteF ?_
        refine ⟨_, _, rfl, sw.trans s5, fun j x hj hx => ?_⟩
        by_cases ej : j = i
        · subst ej
          rw [hp] at hx
          cases hx
          exact win
        · exact hin j x (by omega) hx
      · rw [decide_eq_false win]
        refine iteT ?_
        refine ⟨_, rfl, by show 2 ≤ sizeLine; exact le_line (by decide), fun rt ot hrt hot => ?_⟩
        have s6 := same_upd (o := .frz ot (.tup [.str "apart", e.2.2])) hrt
        have sall := (sw.trans s5).trans s6
        have hwk := sall _ _ (upd_same (H := H2) (a := wk) (o := .frz od (ndO P w wk WE)))
        refine ⟨hwk, ?_⟩
        -- unlocked again
        have sback : Same H2 (upd (upd H4 rt (.frz ot (.tup [.str "apart", e.2.2]))) wk (ndO P w wk WE)) := fun b o hb => by
          by_cases c : b = wk
          · subst c
            rw [upd_same]
            exact wn.obj.symm.trans hb
          · rw [upd_ne c]
            exact sall b o (by rw [upd_ne c]; exact hb)
        have tpb : Tups (upd H4 rt (.frz ot (.tup [.str "apart", e.2.2]))) (upd (upd H4 rt (.frz ot (.tup [.str "apart", e.2.2]))) wk (ndO P w wk WE)) := Tups.upd fun ob xs z => by rw [hwk] at z; cases z
        have dres : Dat (upd H4 rt (.frz ot (.tup [.str "apart", e.2.2]))) (.tup [.str "apart", eNats p.2]) (.ref rt) := dat_tup.mpr ⟨rt, _, rfl, .new hot, datL_cons.mpr ⟨_, _, rfl, dat_str.mpr rfl, DatL.one (Dat.mono (.of (s5.trans s6)) _ _ dw)⟩⟩
        refine q _ _ _ sback (Dat.mono tpb _ _ dres) (.inr ⟨fun nst => ?_, p.2, rfl, hw1, by rw [hw2]; exact win, ?_, ?_⟩)
        · exact win (by have := (G.nest_iff sR.v sS.v).mp nst p.2 hw1; rw [hw2] at this; exact this)
        · have nn : ¬ G.Nest R S := fun nst => win (by have := (G.nest_iff sR.v sS.v).mp nst p.2 hw1; rw [hw2] at this; exact this)
          obtain ⟨u, hu1, hu2, hu3⟩ := G.apart_short sR sS hpl nn
          have := B.shortest hp (fun j x hj hx => hin j x hj hx) hu2 hu3
          omega
        · exact fun u' h1 h2 => B.shortest hp (fun j x hj hx => hin j x hj hx) h1 h2
    · -- all within
      rintro σ H3 ⟨o4, o5, rfl, s3, hin⟩
      rw [wl] at hin
      have hwk := s3 _ _ (upd_same (H := H2) (a := wk) (o := .frz od (ndO P w wk WE)))
      refine ⟨hwk, ?_⟩
      have sback : Same H2 (upd H3 wk (ndO P w wk WE)) := fun b o hb => by
        by_cases c : b = wk
        · subst c
          rw [upd_same]
          exact wn.obj.symm.trans hb
        · rw [upd_ne c]
          exact s3 b o (by rw [upd_ne c]; exact hb)
      have g3 : NDat P w (upd H3 wk (ndO P w wk WE)) gd GE := gn.ext sback
      generalize upd H3 wk (ndO P w wk WE) = H4 at sback g3 ⊢
      have gk' := gk
      rw [map_fst] at gk'
      have gl : GE.length = ln.length := by have := congrArg List.length gk; simpa using this
      refine ⟨_, rfl, gd, GE, rfl, g3, sortOk_arr gk' (fun e he => (g3.key e he).1) (by omega), fun sl hsl => ?_⟩
      have s5 := same_upd (o := .lst ((srt (fun e : NE => e.1) GE).map fun e => V.ref e.2.1)) hsl
      refine ⟨sl, _, rfl, SqL.of upd_same, fun st ot hst hot => ?_⟩
      have s6 := same_upd (o := .frz ot (.tup ((srt (fun e : NE => e.1) GE).map fun e => V.ref e.2.1))) hst
      have pm := srt_perm (fd := fun e : NE => e.1) GE
      have key5 : ∀ e ∈ srt (fun e : NE => e.1) GE, Dat H4 e.1 (.ref e.2.1) := fun e he => (g3.key e (pm.mem_iff.mp he)).1
      have dl : DatL H4 ((srt (fun e : NE => e.1) GE).map fun e => e.1) ((srt (fun e : NE => e.1) GE).map fun e => V.ref e.2.1) := by
        generalize srt (fun e : NE => e.1) GE = l at key5
        induction l with
        | nil => exact datL_nil.mpr rfl
        | cons e l ih => exact datL_cons.mpr ⟨_, _, rfl, key5 e List.mem_cons_self, ih fun x hx => key5 x (List.mem_cons_of_mem _ hx)⟩
      have pk : ((srt (fun e : NE => e.1) GE).map fun e => e.1).Perm ((ln.map (·.1)).map eArr) := by
        rw [← gk']
        exact pm.map _
      obtain ⟨l, hl1, hl2⟩ : ∃ l : List G.Arr, (srt (fun e : NE => e.1) GE).map (fun e => e.1) = l.map eArr ∧ l.Perm (ln.map (·.1)) := perm_map_inv pk
      rw [hl1] at dl
      refine ⟨by show 2 ≤ sizeLine; exact le_line (by decide), fun rt orr hrt horr => ?_⟩
      have s7 := same_upd (o := .frz orr (.tup [.str "nested", .ref st])) hrt
      have dres : Dat (upd (upd (upd H4 sl (.lst ((srt (fun e : NE => e.1) GE).map fun e => V.ref e.2.1))) st (.frz ot (.tup ((srt (fun e : NE => e.1) GE).map fun e => V.ref e.2.1)))) rt (.frz orr (.tup [.str "nested", .ref st]))) (.tup [.str "nested", .tup (l.map eArr)]) (.ref rt) :=
        dat_tup.mpr ⟨rt, _, rfl, .new horr, datL_cons.mpr ⟨_, _, rfl, dat_str.mpr rfl, DatL.one (Dat.mono (.of s7) _ _ (dat_tup.mpr ⟨st, _, rfl, .new hot, dl.mono (.of (s5.trans s6))⟩))⟩⟩
      have nst : G.Nest R S := B.nest sR.v sS.v fun p hp => by
        obtain ⟨i, hi, e⟩ := List.mem_iff_getElem.mp hp
        exact hin i p hi (by rw [List.getElem?_eq_getElem hi, e])
      have memL : ∀ a, a ∈ l ↔ ∃ p ∈ ln, p.1 = a := fun a => by rw [hl2.mem_iff, List.mem_map]
      refine q _ _ _ (((sback.trans s5).trans s6).trans s7) dres (.inl ⟨nst, l, rfl, hl2.nodup_iff.mpr B.nd, by rw [hl2.length_eq, List.length_map]; omega, (memL _).mpr ⟨_, List.mem_of_getElem? B.hd, rfl⟩, fun a ha => ?_⟩)
      obtain ⟨p, hp, rfl⟩ := (memL a).mp ha
      obtain ⟨i, hi, e⟩ := List.mem_iff_getElem.mp hp
      have hpi : ln[i]? = some p := by rw [List.getElem?_eq_getElem hi, e]
      obtain ⟨hw1, hw2⟩ := B.wk p hp
      refine ⟨by rw [← hw2]; exact good_walk (Good.start sR.v sS.v) _, hin i p hi hpi, fun n hn => ?_⟩
      obtain ⟨x, hx, ex, _⟩ := B.edge i p hi hpi n hn
      exact (memL _).mpr ⟨x, hx, ex⟩
  refine ⟨v1, rfl, v2, rfl, R, S, ⟨v1, _, rfl, d1', v2, _, rfl, d2', rfl⟩, sR, sS, ?_⟩
  rcases hc with ⟨hP, q⟩ | ⟨hT, q⟩
  · exact .inl ⟨s1 _ _ hP, fun v H2 e2 t2 g => rest v H2 g fun v' H' d s' dd r => q v' H' d (extN_same (same_extN s1 e2) s') (t2.ext s') dd r⟩
  · exact .inr ⟨hT.ext s1, fun v H2 s2 g => rest v H2 g fun v' H' d s' dd r => q v' H' d ((s1.trans s2).trans s') dd r⟩
end
end DL
-- part SN2
set_option linter.all false
set_option maxRecDepth 100000
set_option maxHeartbeats 4000000
/-! Sets whose members are nested keys of whole numbers: what a search and an adding do. -/
namespace DL
open PySem PySem.Spec PyProof.Rows L2
mutual
/-- of whole numbers and of tuples alone -/
def numK : NestedKey → Bool
  | .num _ => true
  | .tup ks => numKs ks
  | _ => false
def numKs : List NestedKey → Bool
  | [] => true
  | k :: ks => numK k && numKs ks
end
abbrev nhash (w : World) (k : NestedKey) : Int := k.hash w
/-- the tuple at a is the key k -/
def IsN (h : Heap) (k : NestedKey) (a : Addr) : Prop := NestedIs h k (.ref a) ∧ k.depth ≤ 8 ∧ numK k = true
section
variable {P : Program} {w : World} {A : Around} {E : Value → Shared → Prop} {s : Shared}
/-- a loop whose every turn leaves all as it was -/
theorem loop_idle {α β : Type} {M : Model} {A : Around} {E : Value → Shared → Prop} {s : Shared} {f : α → β → Sem (ForInStep β)} {b : β} {Q : β → Shared → Prop} (q : Q b s) :
    ∀ l : List α, (∀ x ∈ l, ∀ Q' : ForInStep β → Shared → Prop, Q' (.yield b) s → wpAny M A (f x b) Q' E s) → wpAny M A (forIn l b f) Q E s
  | [], _ => by
    rw [List.forIn_nil]
    exact wpAny_pure q
  | x :: l, h => by
    rw [List.forIn_cons]
    exact wpAny_bind (h x (List.mem_cons_self ..) _ (loop_idle q l fun y hy => h y (List.mem_cons_of_mem _ hy)))
/-- the question g, asked of v with n levels to go, is answered b and changes nothing -/
def Says (g : Nat → Value → Sem Bool) (P : Program) (w : World) (b : Bool) (n : Nat) (s : Shared) (v : Value) : Prop := ∀ (A : Around) (E : Value → Shared → Prop) (Q : Bool → Shared → Prop), Q b s → wpAny (model P w) A (g n v) Q E s
section
variable {g : Nat → Value → Sem Bool} {b : Bool}
mutual
theorem says_key (hi : ∀ n i t, g n (.int i t) = pure b) (hb : ∀ n x, g n (.bool x) = pure b)
    (ht : ∀ (n : Nat) (c : Addr) (o : Obj) (vs : Array Value) (m : Nat), s.heap.get? c = some o → o.cls = .type "tuple" → o.data = .seq vs m → (∀ v ∈ vs.toList, Says g P w b n s v) → Says g P w b (n + 1) s (.ref c)) :
    ∀ (k : NestedKey) (v : Value) (n : Nat), NestedIs s.heap k v → k.depth ≤ n → numK k = true → Says g P w b n s v
  | .num _, _, n, x, _, _ => by
    intro A E Q q
    cases x with
    | _ => first | (rw [hi]; exact wpAny_pure q) | (rw [hb]; exact wpAny_pure q)
  | .tup ks, _, n, x, d, y => by
    cases x with
    | tup x1 x2 x3 x4 =>
      have d : 1 + NestedKey.depthAll ks ≤ n := by rw [NestedKey.depth] at d; omega
      obtain ⟨n, rfl⟩ : ∃ i, n = i + 1 := ⟨n - 1, by omega⟩
      exact ht n _ _ _ _ x1 x2 x3 (says_keys hi hb ht ks _ n x4 (by omega) y)
  | .none, _, _, _, _, y => nomatch y
  | .text _, _, _, _, _, y => nomatch y
theorem says_keys (hi : ∀ n i t, g n (.int i t) = pure b) (hb : ∀ n x, g n (.bool x) = pure b)
    (ht : ∀ (n : Nat) (c : Addr) (o : Obj) (vs : Array Value) (m : Nat), s.heap.get? c = some o → o.cls = .type "tuple" → o.data = .seq vs m → (∀ v ∈ vs.toList, Says g P w b n s v) → Says g P w b (n + 1) s (.ref c)) :
    ∀ (ks : List NestedKey) (vs : List Value) (n : Nat), NestedAll s.heap ks vs → NestedKey.depthAll ks ≤ n → numKs ks = true → ∀ v ∈ vs, Says g P w b n s v
  | [], _, _, .nil, _, _ => fun v hv => nomatch hv
  | k :: ks, _, n, .cons x1 x2, d, y => by
    have d : max k.depth (NestedKey.depthAll ks) ≤ n := by rw [NestedKey.depthAll] at d; omega
    have y : (numK k && numKs ks) = true := y
    have y := Bool.and_eq_true_iff.mp y
    intro v hv
    cases hv with
    | head => exact says_key hi hb ht k _ n x1 (by omega) y.1
    | tail _ hv => exact says_keys hi hb ht ks _ n x2 (by omega) y.2 v hv
end
end
theorem kind_says {k : NestedKey} {c : Addr} (hk : IsN s.heap k c) : Says ofAClassStatement P w false 8 s (.ref c) := by
  refine says_key (fun n i t => by cases n <;> rfl) (fun n x => by cases n <;> rfl) (fun n c o vs m ho hc hd hq A E Q q => ?_) k _ 8 hk.1 hk.2.1 hk.2.2
  have hT : s.TypeIs (.ref c) "tuple" := ⟨o, ho, hc⟩
  unfold ofAClassStatement
  refine wpAny_bind (wpAny_typeOf hT ?_)
  dsimp only
  rw [if_pos (show (("tuple" : String) == "tuple") = true from rfl)]
  try refine wpAny_bind (wpAny_pure ?_)
  try simp only [Bool.not_true, Bool.false_eq_true, if_false]
  refine wpAny_bind (wpAny_seqItems ho hd ?_)
  dsimp only
  refine wpAny_bind ?_
  rw [← Array.forIn_toList]
  refine loop_idle ?_ vs.toList fun v hv Q' q' => ?_
  · exact wpAny_pure q
  · refine wpAny_bind (hq v hv _ _ _ ?_)
    rw [if_neg Bool.false_ne_true]
    exact wpAny_pure q'
theorem worth_says {k : NestedKey} {c : Addr} (hk : IsN s.heap k c) : Says hashByValue P w true 8 s (.ref c) := by
  refine says_key (fun n i t => by cases n <;> rfl) (fun n x => by cases n <;> rfl) (fun n c o vs m ho hc hd hq A E Q q => ?_) k _ 8 hk.1 hk.2.1 hk.2.2
  have hT : s.TypeIs (.ref c) "tuple" := ⟨o, ho, hc⟩
  unfold hashByValue
  refine wpAny_bind (wpAny_specialOf hT F.slot_tuple_hash.lookup ?_)
  refine wpAny_bind (wpAny_seqItems ho hd ?_)
  dsimp only
  refine wpAny_bind ?_
  rw [← Array.forIn_toList]
  refine loop_idle ?_ vs.toList fun v hv Q' q' => ?_
  · exact wpAny_pure q
  · refine wpAny_bind (hq v hv _ _ _ ?_)
    rw [if_neg (by decide)]
    exact wpAny_pure q'
/-! ### the search -/
/-- no member of such keys lets a search be seen -/
theorem unseen {k : NestedKey} {c : Addr} (hk : IsN s.heap k c) {ys : List Value} (hy : ∀ y ∈ ys, ∃ k' c', y = Value.ref c' ∧ IsN s.heap k' c') {Q : Bool → Shared → Prop} (q : Q false s) : wpAny (model P w) A (searchCouldBeSeen (.ref c) ys) Q E s := by
  unfold searchCouldBeSeen
  refine wpAny_bind (loop_idle ?_ ys fun y m Q' q' => ?_)
  · exact wpAny_pure q
  obtain ⟨k', c', rfl, hk'⟩ := hy y m
  have calm : ∀ {k : NestedKey} {c : Addr}, IsN s.heap k c → ∀ {Q : Bool → Shared → Prop}, Q true s → wpAny (model P w) A (eqIsQuiet 8 (.ref c)) Q E s := fun h _ q => quiet_key _ _ 8 s h.1 h.2.1 A E _ q
  dsimp only
  cases e : (c == c' || (carriedByValue (.ref c) && carriedByValue (.ref c'))) with
  | true => exact wp_if_pos rfl (wpAny_pure q')
  | false =>
    refine wp_if_neg Bool.false_ne_true (wpAny_bind (calm hk ?_))
    refine wp_if_neg (by decide) (wpAny_bind (calm hk' ?_))
    refine wp_if_neg (by decide) (wpAny_bind (kind_says hk _ _ _ ?_))
    refine wp_if_neg (by decide) (wpAny_bind (kind_says hk' _ _ _ ?_))
    exact wp_if_neg (by decide) (wpAny_pure q')
/-- the entries of a set's rows -/
def entryN (w : World) (p : Addr × NestedKey) : Int × Value := (nhash w p.2, Value.ref p.1)
/-- the set at a holds the keys of L -/
structure SetB (w : World) (h : Heap) (a : Addr) (L : List (Addr × NestedKey)) (es : Array (Int × Value)) (ep : Nat) (t : SetTable) : Prop where
  ob : ∃ o, h.get? a = some o ∧ o.ExactSet ∧ o.data = .set es ep t
  rows : es.toList = L.map (entryN w)
  tab : TabN t (L.map fun p => nhash w p.2)
  nd : (L.map (·.2)).Nodup
  tup : ∀ p ∈ L, IsN h p.2 p.1
  plain : t.plain = true
  led : w.params.followText "set-order" = true ∨ t.led = true
/-- and its table has room -/
structure SetN (w : World) (h : Heap) (a : Addr) (L : List (Addr × NestedKey)) (es : Array (Int × Value)) (ep : Nat) (t : SetTable) : Prop extends SetB w h a L es ep t where
  room : L.length * 5 < t.mask * 3
  mks : t.mask ∈ [7, 31, 127, 511, 2047]
variable {a : Addr} {L : List (Addr × NestedKey)} {es : Array (Int × Value)} {ep : Nat} {t : SetTable}
theorem SetB.size (R : SetB w s.heap a L es ep t) : es.size = L.length := by
  have := congrArg List.length R.rows
  simpa using this
theorem SetB.slots (R : SetB w s.heap a L es ep t) : t.place.size = L.length := by
  have := R.tab.sz
  simpa using this
/-- a table without dummies fits so many entries as it has slots taken -/
theorem fits_of {t : SetTable} {n : Nat} (d : t.dummies = #[]) (e : t.place.size = n) (l : n ≤ t.mask) : t.fits n = true := by
  simp [SetTable.fits, SetTable.fill, d, e, l]
theorem SetB.fits (R : SetB w s.heap a L es ep t) (l : L.length ≤ t.mask) : t.fits es.size = true := fits_of R.tab.dm (R.slots.trans R.size.symm) (R.size ▸ l)
theorem SetN.fill (R : SetN w s.heap a L es ep t) : L.length ≤ t.mask := by have := R.room; omega
theorem SetB.entry (R : SetB w s.heap a L es ep t) (i : Nat) : es[i]? = (L[i]?).map (entryN w) := by
  rw [← Array.getElem?_toList, R.rows, List.getElem?_map]
/-- the c-th probe of the hash h -/
def pr (m : Nat) (h : Int) (c : Nat) : SetTable.Probe := nth m (runAt m (SetTable.bits h % (m + 1)) (SetTable.bits h)) c
theorem pr_add (m : Nat) (h : Int) (c q : Nat) : nth m (pr m h c) q = pr m h (c + q) := (nth_add m c _ q).symm
theorem pr_dummy (m : Nat) (h : Int) (c : Nat) : (pr m h c).dummy = none := by
  unfold pr
  induction c with
  | zero => rfl
  | succ c ih =>
    rw [nth_succ]
    unfold adv
    split <;> exact ih
/-- from the c-th probe on: the member that is k, or the first free slot -/
theorem SetN.look (R : SetN w s.heap a L es ep t) {x : Addr} {k : NestedKey} (hx : IsN s.heap k x) (hu : A.units + 8 < cLine) {K : Nat} (kb : K < 10 * SetTable.turns t.mask)
    (out : way t.mask (nhash w k) K ∉ t.place.toList) (ins : ∀ i < K, way t.mask (nhash w k) i ∈ t.place.toList) {Q : SetFound → Shared → Prop}
    (yes : k ∈ L.map (·.2) → Q (.there none) s) (no : k ∉ L.map (·.2) → Q (.free (way t.mask (nhash w k) K) false) s) (f : Nat) :
    ∀ (c : Nat) (st : Option SetTable.Probe), st.getD (t.probeStart (nhash w k)) = pr t.mask (nhash w k) c → c ≤ K → K < f + c →
      (∀ (i : Nat) p, L[i]? = some p → p.2 = k → ∃ c', c ≤ c' ∧ c' < K ∧ t.place.toList[i]? = some (way t.mask (nhash w k) c')) →
      wpAny (model P w) A (setSearchFrom a (.ref x) (nhash w k) true f st) Q E s := by
  obtain ⟨o, ho, hex, hd⟩ := R.ob
  have odd : ¬ t.gaveWay = true := by
    unfold SetTable.gaveWay
    rw [msk_odd R.tab.mok]
    decide
  induction f with
  | zero => intro c _ _ ck fuel; omega
  | succ f ih =>
    intro c st hst ck fuel ahead
    rw [setSearchFrom_succ]
    refine wpAny_bind (wpAny_setState_of ho hd (R.fits R.fill) ?_)
    dsimp only
    refine wp_if_neg odd ?_
    try refine wpAny_bind (wpAny_pure ?_)
    -- what the table answers
    have ans := go_spec t R.tab.ris R.tab.dm (fun i => (es[i]?.map (·.1)).getD 0) (nhash w k) (10 * SetTable.turns t.mask) (K - c) (pr t.mask (nhash w k) c) (pr_dummy ..) (by omega)
      (fun q hq => by rw [pr_add]; exact ins (c + q) (by omega)) (by rw [pr_add, show c + (K - c) = K by omega]; exact out)
    simp only [pr_add] at ans
    have probe : t.probe (fun i => (es[i]?.map (·.1)).getD 0) (nhash w k) (st.getD (t.probeStart (nhash w k))) = SetTable.probe.go t (fun i => (es[i]?.map (·.1)).getD 0) (nhash w k) (10 * SetTable.turns t.mask) (pr t.mask (nhash w k) c) := by rw [hst]; rfl
    -- a member that is k is none of those passed over
    have mine : ∀ {i : Nat} {p : Addr × NestedKey}, L[i]? = some p → p.2 = k → (es[i]?.map (·.1)).getD 0 = nhash w k := fun {i p} h e => by rw [R.entry i, h, ← e]; rfl
    rw [probe]
    rcases ans with ⟨q, i, hq, hi, hh, passed, eq⟩ | ⟨passed, eq⟩
    · rw [eq]
      dsimp only
      obtain ⟨p, hp⟩ : ∃ p, L[i]? = some p := by
        have lt : i < t.place.toList.length := (List.getElem?_eq_some_iff.mp hi).1
        have e := R.slots
        rw [← Array.length_toList] at e
        exact ⟨_, List.getElem?_eq_getElem (e ▸ lt)⟩
      have pm : p ∈ L := List.mem_of_getElem? hp
      have ep : es[i]? = some (entryN w p) := by rw [R.entry i, hp]; rfl
      have cmp : wpAny (model P w) A (searchRest a (.ref x) (nhash w k) true f es t (pr t.mask (nhash w k) (c + q)).j i (pr t.mask (nhash w k) (c + (q + 1)))) Q E s := by
        unfold searchRest
        rw [ep]
        dsimp only [entryN]
        refine wpAny_bind (wpAny_holding ((nestedKind P w).eqBool hu (show (nestedKind P w).is s.heap p.2 p.1 from ⟨(R.tup p pm).1, (R.tup p pm).2.1⟩) (show (nestedKind P w).is s.heap k x from ⟨hx.1, hx.2.1⟩) ?_))
        refine wpAny_bind (wpAny_setState_of ho hd (R.fits R.fill) ?_)
        dsimp only
        rcases Decidable.em (p.2 = k) with e | e
        · rw [decide_eq_true e]
          exact wp_if_pos rfl (wpAny_pure (yes (List.mem_map.mpr ⟨p, pm, e⟩)))
        rw [decide_eq_false e]
        refine wp_if_neg (by decide) ?_
        try refine wpAny_bind (wpAny_pure ?_)
        rw [sameMem]
        have live := slot_live R.tab.ris hi
        simp only [if_true, live, ep, entryN]
        refine wpAny_bind (wpAny_isSame_ref_self (wpAny_bind (wpAny_pure ?_)))
        simp only [if_true]
        refine wp_if_neg (by decide) (ih (c + (q + 1)) _ rfl (by omega) (by omega) fun i0 p0 h0 e0 => ?_)
        obtain ⟨c', l1, l2, l3⟩ := ahead i0 p0 h0 e0
        refine ⟨c', ?_, l2, l3⟩
        have far : c + q ≤ c' := Nat.le_of_not_lt fun z => passed (c' - c) i0 (by omega) (by rw [show c + (c' - c) = c' by omega]; exact l3) (mine h0 e0)
        have ne : c' ≠ c + q := fun z => by
          rw [z] at l3
          have same := (slot_live R.tab.ris l3).symm.trans live
          injection same with same
          rw [same, hp] at h0
          exact e (Option.some.inj h0 ▸ e0)
        omega
      cases ld : t.led with
      | true =>
        refine wp_if_neg (by decide) ?_
        try refine wpAny_bind (wpAny_pure ?_)
        exact cmp
      | false =>
        refine wp_if_pos rfl (wpAny_bind (unseen hx (fun y hy => ?_) ?_))
        · obtain ⟨e, he, rfl⟩ := List.mem_map.mp hy
          have he : e ∈ es.toList := by
            have : e ∈ es ∧ e.1 = nhash w k := by simpa using he
            exact Array.mem_toList_iff.mpr this.1
          rw [R.rows] at he
          obtain ⟨p2, m2, rfl⟩ := List.mem_map.mp he
          exact ⟨p2.2, p2.1, rfl, R.tup p2 m2⟩
        · refine wp_if_neg (by decide) ?_
          try refine wpAny_bind (wpAny_pure ?_)
          exact cmp
    · rw [eq, show c + (K - c) = K by omega]
      dsimp only
      refine wpAny_pure (no fun z => ?_)
      obtain ⟨p0, m0, e0⟩ := List.mem_map.mp z
      obtain ⟨i0, h0⟩ := List.mem_iff_getElem?.mp m0
      obtain ⟨c', l1, l2, l3⟩ := ahead i0 p0 h0 e0
      exact passed (c' - c) i0 (by omega) (by rw [show c + (c' - c) = c' by omega]; exact l3) (mine h0 e0)
/-- the whole search -/
theorem SetN.search (R : SetN w s.heap a L es ep t) {x : Addr} {k : NestedKey} (hx : IsN s.heap k x) (hu : A.units + 8 < cLine) {Q : SetFound → Shared → Prop} (yes : k ∈ L.map (·.2) → Q (.there none) s)
    (no : ∀ K, k ∉ L.map (·.2) → way t.mask (nhash w k) K ∉ t.place.toList → (∀ i < K, way t.mask (nhash w k) i ∈ t.place.toList) → Q (.free (way t.mask (nhash w k) K) false) s) : wpAny (model P w) A (setSearch a (.ref x) (nhash w k) true) Q E s := by
  obtain ⟨K, kb, out, ins⟩ := R.tab.gap (by rw [List.length_map]; exact R.fill) (nhash w k)
  have few : 10 * SetTable.turns t.mask < 100000 := by
    have : ∀ m ∈ [7, 31, 127, 511, 2047], 10 * SetTable.turns m < 100000 := by decide
    exact this _ R.mks
  unfold setSearch
  refine R.look hx hu kb out ins yes (fun n => no K n out ins) 100000 0 none rfl (Nat.zero_le _) (by omega) fun i p hp e => ?_
  have lt : i < t.place.toList.length := by
    rw [Array.length_toList, R.slots]
    exact (List.getElem?_eq_some_iff.mp hp).1
  obtain ⟨c, cK, e2⟩ := R.tab.early out (h := nhash w k) (by rw [List.getElem?_map, hp, ← e]; rfl) (List.getElem?_eq_getElem lt)
  exact ⟨c, Nat.zero_le _, cK, by rw [List.getElem?_eq_getElem lt, e2]⟩
/-! ### adding -/
theorem IsN.at {h h' : Heap} {k : NestedKey} {c : Addr} (x : IsN h k c) (f : ∀ (b : Addr) o vs n, h.get? b = some o → o.data = .seq vs n → h'.get? b = some o) : IsN h' k c := ⟨NestedIs.at f k _ x.1, x.2⟩
theorem IsN.keep {h h' : Heap} {k : NestedKey} {c : Addr} (x : IsN h k c) (f : ∀ b o, h.get? b = some o → h'.get? b = some o) : IsN h' k c := x.at fun b o _ _ e _ => f b o e
/-- a set changes: keys stay -/
theorem IsN.but {h h' : Heap} {k : NestedKey} {c : Addr} {o : Obj} (x : IsN h k c) (ho : h.get? a = some o) (hd : o.data = .set es ep t) (hs : Heap.SameBut a h h') : IsN h' k c := x.at fun b o' vs n e d => by
  refine Eq.trans (hs.2 b fun z => ?_) e
  rw [z, ho] at e
  rw [← Option.some.inj e, hd] at d
  cases d
theorem filterMap_one {α β : Type} {f : α → Option β} {g : α → β} : ∀ {l : List α}, (∀ x ∈ l, f x = some (g x)) → l.filterMap f = l.map g
  | [], _ => rfl
  | x :: l, h => by rw [List.filterMap_cons_some (h x (List.mem_cons_self ..)), filterMap_one fun y hy => h y (List.mem_cons_of_mem _ hy), List.map_cons]
theorem ordered (hr : es.toList = L.map (entryN w)) {order : Array Nat} (hp : order.toList.Perm (List.range L.length)) :
    ∃ L2 : List (Addr × NestedKey), (order.filterMap (es[·]?)).toList = L2.map (entryN w) ∧ L2.Perm L ∧ (L2.map fun p => nhash w p.2) = order.toList.map fun i => (es.map (·.1)).getD i 0 := by
  have ent : ∀ i, es[i]? = (L[i]?).map (entryN w) := fun i => by rw [← Array.getElem?_toList, hr, List.getElem?_map]
  have all : (List.range L.length).filterMap (fun i => L[i]?) = L := by
    have e : (List.range L.length).map (fun i => L[i]?) = L.map some := List.ext_getElem (by simp) fun i h1 h2 => by simp
    have e2 := congrArg (List.filterMap id) e
    rw [List.filterMap_map, List.filterMap_map] at e2
    exact e2.trans (List.filterMap_some ..)
  refine ⟨order.toList.filterMap (fun i => L[i]?), ?_, (hp.filterMap _).trans (.of_eq all), ?_⟩
  · rw [Array.toList_filterMap, List.map_filterMap]
    exact congrArg (fun f => order.toList.filterMap f) (funext ent)
  · rw [List.map_filterMap]
    refine filterMap_one fun i hi => ?_
    have lt := List.getElem?_eq_getElem (List.mem_range.mp (hp.mem_iff.mp hi))
    have e : (es.map (·.1))[i]? = some (nhash w (L[i]'(List.mem_range.mp (hp.mem_iff.mp hi))).2) := by rw [Array.getElem?_map, ent i, lt]; rfl
    simp [Array.getD_eq_getD_getElem?, e, lt, entryN]
/-- the table is made anew -/
theorem SetB.relay (R : SetB w s.heap a L es ep t) (fill : L.length ≤ t.mask) {wanted M : Nat} (hw : SetTable.sizeAbove wanted = M + 1) (hM : Msk M) (mk : M ∈ [7, 31, 127, 511, 2047]) (hn : L.length * 5 < M * 3) {Q : Unit → Shared → Prop}
    (q : ∀ h' L' es' ep' t', Heap.SameBut a s.heap h' → SetN w h' a L' es' ep' t' → L'.Perm L → Q () { s with heap := h' }) : wpAny (model P w) A (setRelay a wanted) Q E s := by
  obtain ⟨o, ho, hex, hd⟩ := R.ob
  have low : M + 1 ≤ 2048 := by
    have : ∀ m ∈ [7, 31, 127, 511, 2047], m + 1 ≤ 2048 := by decide
    exact this M mk
  have sz : (es.map (·.1)).size = L.length := by rw [Array.size_map, R.size]
  obtain ⟨t', order, e, hp, T, em, el, epl, -⟩ := relaid_fine t (hs := es.map (·.1)) (wanted := wanted) (by rw [hw]; rfl) hM (by rw [sz]; omega)
  rw [sz] at hp
  obtain ⟨L2, r1, r2, r3⟩ := ordered R.rows hp
  rw [← r3] at T
  have all : (order.filterMap (es[·]?)).size = es.size := by
    have := congrArg List.length r1
    rw [Array.length_toList, List.length_map, r2.length_eq] at this
    rw [this, R.size]
  have line : M + 1 ≤ sizeLine := Nat.le_trans low (by decide)
  rw [setRelay_eq]
  refine wpAny_bind (wpAny_setState_of ho hd (R.fits fill) ?_)
  dsimp only
  refine wp_if_neg (by rw [hw]; omega) ?_
  try refine wpAny_bind (wpAny_pure ?_)
  rw [e]
  dsimp only
  refine wpAny_bind (wp_if_neg (by rw [all]; simp) ?_)
  try refine wpAny_bind (wpAny_pure ?_)
  refine wpAny_pure ?_
  dsimp only
  refine wpAny_storeSet_of ho hd ?_ (by rw [all, R.size]; omega)
  have but : Heap.SameBut a s.heap (s.heap.update a (Obj.putSet (order.filterMap (es[·]?)) t')) := Heap.SameBut.update ..
  exact q _ L2 _ (ep + 1) t' but { ob := ⟨_, store_at ho hd, hex, rfl⟩, rows := r1, tab := T, nd := (r2.map (·.2)).nodup_iff.mpr R.nd, tup := fun p m => (R.tup p (r2.mem_iff.mp m)).but ho hd but, plain := epl.trans R.plain, led := el ▸ R.led, room := by rw [r2.length_eq, em]; exact hn, mks := em ▸ mk } r2
/-- where a table grows, and to which mask -/
theorem grows {m n : Nat} (hm : m ∈ [7, 31, 127, 511, 2047]) (lo : n * 5 < m * 3) (hi : (n + 1) * 5 ≥ m * 3) (few : n + 1 < 1200) : ∃ M, SetTable.sizeAbove (SetTable.grown (n + 1)) = M + 1 ∧ Msk M ∧ M ∈ [7, 31, 127, 511, 2047] ∧ (n + 1) * 5 < M * 3 := by
  simp only [List.mem_cons, List.not_mem_nil, or_false] at hm
  rcases hm with rfl | rfl | rfl | rfl | rfl
  · obtain rfl : n = 4 := by omega
    exact ⟨31, by decide +kernel, ⟨5, rfl, by decide⟩, by decide, by decide⟩
  · obtain rfl : n = 18 := by omega
    exact ⟨127, by decide +kernel, ⟨7, rfl, by decide⟩, by decide, by decide⟩
  · obtain rfl : n = 76 := by omega
    exact ⟨511, by decide +kernel, ⟨9, rfl, by decide⟩, by decide, by decide⟩
  · obtain rfl : n = 306 := by omega
    exact ⟨2047, by decide +kernel, ⟨11, rfl, by decide⟩, by decide, by decide⟩
  · omega
theorem put_facts (t : SetTable) (j : Nat) : (t.put j).2 = SetTable.below t.place j ∧ (t.put j).1.mask = t.mask ∧ (t.put j).1.led = t.led ∧ (t.put j).1.plain = t.plain := ⟨rfl, rfl, rfl, rfl⟩
theorem splice_perm {α : Type} (l : List α) (p : Nat) (x : α) : (l.take p ++ x :: l.drop p).Perm (x :: l) := by
  have := List.perm_middle (a := x) (l₁ := l.take p) (l₂ := l.drop p)
  rwa [List.take_append_drop] at this
theorem SetN.add (R : SetN w s.heap a L es ep t) {x : Addr} {k : NestedKey} (hx : IsN s.heap k x) (hu : A.units + 8 < cLine) (few : L.length + 1 < 1200) {Q : Bool → Shared → Prop}
    (q : ∀ b h' L' es' ep' t', Heap.SameBut a s.heap h' → SetN w h' a L' es' ep' t' → (k ∈ L.map (·.2) ∧ L' = L ∨ k ∉ L.map (·.2) ∧ L'.Perm ((x, k) :: L)) → Q b { s with heap := h' }) : wpAny (model P w) A (setAddHashed a (.ref x) (nhash w k)) Q E s := by
  obtain ⟨o, ho, hex, hd⟩ := R.ob
  unfold setAddHashed
  refine wpAny_holding ?_
  rw [show (100000 : Nat) = 99999 + 1 from rfl, setAddHashedIn_succ]
  refine wpAny_bind (wpAny_setState_of ho hd (R.fits R.fill) ?_)
  dsimp only
  refine wp_if_neg (by simp [byScan, Value.scannable]) ?_
  try refine wpAny_bind (wpAny_pure ?_)
  refine wpAny_bind (R.search hx hu (fun yes => ?_) fun K no out ins => ?_) <;> dsimp only
  · exact wpAny_pure (q false s.heap L es ep t (.refl a s.heap) R (.inl ⟨yes, rfl⟩))
  refine wpAny_bind (wpAny_setState_of ho hd (R.fits R.fill) ?_)
  dsimp only
  obtain ⟨-, T⟩ := R.tab.add out ins
  obtain ⟨f1, f2, f3, f4⟩ := put_facts t (way t.mask (nhash w k) K)
  generalize way t.mask (nhash w k) K = j at T f1 f2 f3 f4 ⊢
  generalize t.put j = pt at T f1 f2 f3 f4 ⊢
  obtain ⟨t1, p⟩ := pt
  have f1 : p = SetTable.below t.place j := f1
  have f2 : t1.mask = t.mask := f2
  have f3 : t1.led = t.led := f3
  have f4 : t1.plain = t.plain := f4
  have T : TabN t1 _ := T
  rw [← f1] at T
  dsimp only
  first
    | (refine wpAny_bind (wp_if_pos (f4.trans R.plain) ?_); refine worth_says hx _ _ _ ?_)
    | refine wp_if_pos (f4.trans R.plain) (wpAny_bind (worth_says hx _ _ _ ?_))
  simp only [if_true]
  -- the rows with the new one in their place
  have rows : (SetTable.insertAt es p (nhash w k, Value.ref x)).toList = (L.take p ++ (x, k) :: L.drop p).map (entryN w) := by
    rw [SetTable.toList_insertAt, R.rows]
    simp [entryN]
  have pm := splice_perm L p (x, k)
  have T : TabN t1 ((L.take p ++ (x, k) :: L.drop p).map fun p => nhash w p.2) := by
    simpa using T
  generalize SetTable.insertAt es p (nhash w k, Value.ref x) = es1 at rows ⊢
  generalize L.take p ++ (x, k) :: L.drop p = L1 at rows pm T
  have len : L1.length = L.length + 1 := pm.length_eq
  have es1s : es1.size = L.length + 1 := by
    have := congrArg List.length rows
    rw [Array.length_toList, List.length_map, len] at this
    exact this
  have line : L.length + 1 ≤ sizeLine := Nat.le_trans (Nat.le_of_lt few) (by decide)
  refine wpAny_bind (wpAny_storeSet_of ho hd ?_ (by rw [es1s]; omega))
  have but : Heap.SameBut a s.heap (s.heap.update a (Obj.putSet es1 t1)) := Heap.SameBut.update ..
  have ho1 := store_at (es' := es1) (t' := t1) ho hd
  generalize s.heap.update a (Obj.putSet es1 t1) = h1 at but ho1 ⊢
  have nd1 : (L1.map (·.2)).Nodup := (pm.map (·.2)).nodup_iff.mpr (List.nodup_cons.mpr ⟨no, R.nd⟩)
  have tup1 : ∀ p ∈ L1, IsN h1 p.2 p.1 := fun p m => by
    rcases List.mem_cons.mp (pm.mem_iff.mp m) with e | m
    · exact e ▸ hx.but ho hd but
    · exact (R.tup p m).but ho hd but
  have B : SetB w h1 a L1 es1 (ep + 1) t1 := ⟨⟨_, ho1, hex, rfl⟩, rows, T, nd1, tup1, f4.trans R.plain, f3 ▸ R.led⟩
  have full : t1.tooFull = decide ((L.length + 1) * 5 ≥ t.mask * 3) := by
    unfold SetTable.tooFull SetTable.fill
    rw [T.dm, f2, show t1.place.size = L.length + 1 from (SetB.slots (s := { s with heap := h1 }) B).trans len]
    rfl
  by_cases c : (L.length + 1) * 5 ≥ t.mask * 3
  · rw [decide_eq_true c] at full
    obtain ⟨M, g1, g2, g3, g4⟩ := grows R.mks R.room c few
    first
      | (refine wpAny_bind ?_; refine wp_if_pos (by simp [full]) ?_)
      | (refine wp_if_pos (by simp [full]) ?_; refine wpAny_bind ?_)
    rw [show es.size + 1 = L.length + 1 by rw [R.size]]
    refine SetB.relay (s := { s with heap := h1 }) B (by rw [len, f2]; have := R.room; omega) g1 g2 g3 (by rw [len]; exact g4) fun h2 L2 es2 ep2 t2 but2 R2 pm2 => ?_
    exact wpAny_pure (q true h2 L2 es2 ep2 t2 (but.trans but2) R2 (.inr ⟨no, pm2.trans pm⟩))
  · rw [decide_eq_false c] at full
    first
      | refine wp_if_neg (by simp [full]) ?_
      | (refine wpAny_bind ?_; refine wp_if_neg (by simp [full]) ?_; refine wpAny_pure ?_)
    exact wpAny_pure (q true h1 L1 es1 (ep + 1) t1 but { B with room := by rw [len, f2]; omega, mks := f2 ▸ R.mks } (.inr ⟨no, pm⟩))
end
end DL
-- part SN3
set_option linter.all false
set_option maxRecDepth 100000
set_option maxHeartbeats 4000000
/-! set(xs): xs a tuple of different keys. -/
namespace DL
open PySem PySem.Spec PyProof.Rows L2
/-- the set object as it is made -/
abbrev bareSet (w : World) : Obj := { cls := .type "set", dict := none, data := .set #[] 0 (.fresh 0 0 (!w.params.followText "set-order")) }
/-- all that stood in the first stands in the second -/
def Stands (h h' : Heap) : Prop := ∀ b o, h.get? b = some o → h'.get? b = some o
section
variable {P : Program} {w : World} {A : Around} {E : Value → Shared → Prop} {s : Shared}
theorem SetN.stay {h h' : Heap} {a : Addr} {L : List (Addr × NestedKey)} {es : Array (Int × Value)} {ep : Nat} {t : SetTable} (R : SetN w h a L es ep t) (ha : ∀ o, h.get? a = some o → h'.get? a = some o) (ht : ∀ p ∈ L, IsN h' p.2 p.1) : SetN w h' a L es ep t :=
  { R with ob := R.ob.imp fun o q => ⟨ha o q.1, q.2⟩, tup := ht }
theorem bare_is {h : Heap} {a : Addr} (ho : h.get? a = some (bareSet w)) : SetN w h a [] #[] 0 (.fresh 0 0 (!w.params.followText "set-order")) where
  ob := ⟨_, ho, ⟨rfl, rfl, rfl⟩, rfl⟩
  rows := rfl
  tab := ⟨⟨3, rfl, by decide⟩, List.Pairwise.nil, rfl, rfl, fun _ z => (nomatch z), fun _ z => (nomatch z)⟩
  nd := List.nodup_nil
  tup := fun _ z => nomatch z
  plain := rfl
  led := by cases e : w.params.followText "set-order" <;> simp [SetTable.fresh]
  room := show 0 * 5 < 7 * 3 by decide
  mks := List.mem_cons_self
/-- the loop of an update, from the i-th key on: those ahead of it are in -/
theorem update_all {I S : Addr} {fp wr : List Addr} {G : Array GenState → Array GenState → Prop} {Pv : Nat → Value → Prop} {St : Nat → Shared → Prop} {R : Result → Shared → Prop} {ks : List (Addr × NestedKey)} {h0 : Heap}
    (W : WalksS P w A.in1 I fp wr G ks.length Pv St) (notS : S ∉ fp) (nd : (ks.map (·.2)).Nodup) (few : ks.length < 1200) (val : ∀ i v, Pv i v → ∃ p, ks[i]? = some p ∧ v = .ref p.1)
    (hk : ∀ p ∈ ks, IsN h0 p.2 p.1) (newS : h0.get? S = none) (newW : ∀ b ∈ wr, h0.get? b = none) (hu : A.in1.units + 8 < cLine) (d : Nat) :
    ∀ (i : Nat) (s : Shared), i + d = ks.length → St i s → Stands h0 s.heap → (∃ L es ep t, SetN w s.heap S L es ep t ∧ L.Perm (ks.take i)) →
      (∀ s' L es ep t, Moved (S :: wr) G s s' → SetN w s'.heap S L es ep t → L.Perm ks → Stands h0 s'.heap → R (.ok (.ret .none)) s') →
      codeAny (model P w) A (.builtin "set.update.loop" ⟨[.ref S, .ref I], []⟩) R s := by
  -- a turn's walk leaves the set and the keys as they are
  have turn : ∀ {s s' : Shared}, Moved wr G s s' → Stands h0 s.heap → Stands h0 s'.heap := fun m st b o e => m.heap b o (fun z => by rw [newW b z] at e; cases e) (st b o e)
  have same : ∀ {s s' : Shared} {i : Nat} {L : List (Addr × NestedKey)} {es : Array (Int × Value)} {ep : Nat} {t : SetTable}, Moved wr G s s' → Stands h0 s.heap → L.Perm (ks.take i) → SetN w s.heap S L es ep t → SetN w s'.heap S L es ep t := fun m st pm R =>
    R.stay (fun o e => m.heap S o (fun z => notS (W.sub S z)) e) fun p hp => (hk p (List.mem_of_mem_take (pm.mem_iff.mp hp))).keep (turn m st)
  have wide : ∀ b ∈ wr, b ∈ S :: wr := fun b hb => .tail S hb
  induction d with
  | zero =>
    intro i s hi st stands ⟨L, es, ep, t, R0, pm⟩ fin
    obtain rfl : i = ks.length := hi
    refine codeAny_builtin F.entry_set_update_loop ?_
    rw [Around.under_plainId F.plain_set_update_loop _]
    refine wpAny_bind (W.done s _ _ st fun s' m => ?_)
    refine wpAny_pure (fin s' L es ep t (m.mono wide) (same m stands pm R0) ?_ (turn m stands))
    rwa [List.take_length] at pm
  | succ d ih =>
    intro i s hi st stands ⟨L, es, ep, t, R0, pm⟩ fin
    refine codeAny_builtin F.entry_set_update_loop ?_
    rw [Around.under_plainId F.plain_set_update_loop _]
    refine wpAny_bind (W.item i s _ _ (by omega) st fun v s1 pv st1 m => ?_)
    obtain ⟨⟨c, k⟩, hp, rfl⟩ := val i v pv
    have stands1 := turn m stands
    have hx : IsN s1.heap k c := (hk _ (List.mem_of_getElem? hp)).keep stands1
    have tk : ks.take (i + 1) = ks.take i ++ [(c, k)] := by rw [List.take_add_one, hp]; rfl
    refine wpAny_bind (wpAny_holding ?_)
    unfold setAdd
    refine wpAny_holding (wpAny_bind (pyHash_key k _ _ _ _ hx.1 (by have := hx.2.1; omega) ?_))
    refine SetN.add (s := { s1 with toks := s1.toks + k.draws }) (show SetN w s1.heap S L es ep t from same m stands pm R0) hx hu (by rw [pm.length_eq, List.length_take]; omega) fun b h2 L2 es2 ep2 t2 but R2 got => ?_
    -- it is a new one
    have fresh : k ∉ L.map (·.2) := fun z => by
      have u : ((ks.take (i + 1)).map (·.2)).Nodup := by
        have := nd.sublist ((List.take_sublist (i + 1) ks).map (·.2))
        exact this
      rw [tk, List.map_append] at u
      exact (List.nodup_append.mp u).2.2 k ((pm.map (·.2)).mem_iff.mp z) k (List.mem_singleton.mpr rfl) rfl
    have pm2 : L2.Perm (ks.take (i + 1)) := by
      rcases got with ⟨z, _⟩ | ⟨_, z⟩
      · exact absurd z fresh
      · rw [tk]
        exact (z.trans (pm.cons (c, k))).trans (List.perm_append_comm (l₁ := [(c, k)]))
    have stands2 : Stands h0 h2 := fun b o e => (but.2 b fun z => by rw [z, newS] at e; cases e).trans (stands1 b o e)
    refine wpAny_pure ⟨plainId_quiet F.plain_set_update_loop _, ih (i + 1) _ (by omega) (W.frame _ s1 _ _ st1 (Nat.le_add_right _ _) fun b hb o e => ?_) stands2 ⟨L2, es2, ep2, t2, R2, pm2⟩ fun s3 L3 es3 ep3 t3 m3 R3 pm3 st3 => ?_⟩
    · exact (but.2 b fun z => notS (z ▸ hb)).trans e
    · refine fin s3 L3 es3 ep3 t3 (.trans W.gtrans ((m.mono wide).then_heap (Nat.le_add_right _ _) fun b o nb e => ?_) m3) R3 pm3 st3
      exact (but.2 b fun z => nb (z ▸ List.mem_cons_self)).trans e
/-- what set(xs) leaves: a set of just these keys where the heap ended, all else as it stood -/
def Made (w : World) (s : Shared) (ks : List (Addr × NestedKey)) (s' : Shared) : Prop := ∃ h' tk L es ep t, s' = { s with heap := h', toks := tk } ∧ SetN w h' s.heap.objs.size L es ep t ∧ L.Perm ks ∧ Stands s.heap h'
theorem free_above {h : Heap} {b : Addr} (hb : h.objs.size ≤ b) : h.get? b = none := by
  cases e : h.get? b with
  | none => rfl
  | some o => exact absurd (Heap.lt_size e) (Nat.not_lt.mpr hb)
theorem call_set_keys {l : Addr} {items : Array Value} {ks : List (Addr × NestedKey)} {Q : Value → Shared → Prop} (calm : A.handled = none) (hl : s.heap.IsTuple l items) (hit : items.toList = ks.map fun p => Value.ref p.1)
    (hk : ∀ p ∈ ks, IsN s.heap p.2 p.1) (nd : (ks.map (·.2)).Nodup) (few : ks.length < 1200) (hu : A.units + 12 < cLine) (q : ∀ s', Made w s ks s' → Q (.ref s.heap.objs.size) s') : wpAny (model P w) A (call (.type "set") [.ref l]) Q E s := by
  have here : (s.heap.push (bareSet w)).get? s.heap.objs.size = some (bareSet w) := Heap.get?_push_size _ rfl
  have lt : l < s.heap.objs.size := by
    obtain ⟨o, e, _⟩ := hl
    exact Heap.lt_size e
  have many : items.size = ks.length := by
    have := congrArg List.length hit
    simpa using this
  have val : ∀ (i : Nat) (v : Value), items[i]? = some v → ∃ p, ks[i]? = some p ∧ v = .ref p.1 := fun i v e => by
    rw [← Array.getElem?_toList, hit, List.getElem?_map] at e
    obtain ⟨p, e1, e2⟩ := Option.map_eq_some_iff.mp e
    exact ⟨p, e1, e2.symm⟩
  -- the way to the making and to the filling
  obtain ⟨_, _, hmro⟩ := F.called_set.mro
  have hmade := F.called_set.made
  have hsub := F.called_set.sub
  have ht := F.called_set.notType
  have hc := F.called_set.canCreate
  have hone := F.typeCall_set_1 (.ref l)
  refine wpAny_call (codeAny_of_tree ?_)
  show wpAny _ _ (callAny (.type "set") _) _ _ _
  refine wpAny_pure ⟨Code.quiet_builtin _ (by decide +kernel), codeAny_builtin F.entry_type_call ?_⟩
  rw [Around.under_plain (weight_type_call_type "set" [.ref l] []) rfl]
  repeat (any_goals (first | assumption | wp_step))
  refine codeAny_mono (code_set_led1 (.ref l) (E := E) (Q₁ := fun v s1 => v = .ref s.heap.objs.size ∧ s1 = { s with heap := s.heap.push (bareSet w) }) ⟨rfl, rfl⟩) fun r s1 hr => ?_
  match r, hr with
  | .ok (.ret v), hr =>
    obtain ⟨rfl, rfl⟩ := hr
    have ty : Shared.TypeIs { s with heap := s.heap.push (bareSet w) } (.ref s.heap.objs.size) "set" := ⟨_, here, rfl⟩
    have hli := F.called_set.init.lookup
    have hbi := F.called_set.init.bind (.ref s.heap.objs.size)
    repeat (any_goals (first | assumption | wp_step))
    refine codeAny_mono (codeAny_call_builtin (R := wants (fun r s2 => r = .none ∧ Made w s ks s2) E) F.called_set.init.plain F.entry_set_init (check_set_init_1 ty ?_)) fun r2 s2 h2 => ?_
    · -- the filling
      have tl : (s.heap.push (bareSet w)).IsTuple l items := hl.push _
      generalize hh : s.heap.push (bareSet w) = hp at here ty tl
      have up : Stands s.heap hp := fun b o e => hh ▸ Heap.get?_push_of_some _ e
      have size : hp.objs.size = s.heap.objs.size + 1 := by rw [← hh, Heap.size_push]
      obtain ⟨⟨cl, dd, da, sl⟩, tg, tc, n, td⟩ := id tl
      obtain rfl : cl = .type "tuple" := tc
      obtain rfl : da = .seq items n := td
      have sub1 := F.sub_tuple_set
      have sub2 := F.sub_tuple_frozenset
      have nodict : (Value.type "tuple" == Value.type "dict") = false := by decide
      unfold Builtin.«set.__init__» noKeywords Builtin.Frozenset.updateFrom
      generalize keep : pyIter = it
      wp_walk
      subst keep
      refine wpAny_pyIter_tuple tl (wpAny_bind (wpAny_runValue ?_))
      have noH : A.in1.in1.in1.handled = none := by simp [calm]
      have apart : s.heap.objs.size ∉ [hp.objs.size, l] := by
        rw [size]
        intro z
        rcases List.mem_cons.mp z with z | z
        · exact absurd z (Nat.ne_of_lt (Nat.lt_succ_self _))
        · exact absurd (List.mem_singleton.mp z) (Nat.ne_of_gt lt)
      refine update_all (h0 := s.heap) (ks := ks) (many ▸ (Walks.tuple noH _ l (Nat.ne_of_lt (Nat.lt_of_lt_of_eq (Nat.lt_succ_of_lt lt) size.symm)) items).toS) apart nd few val hk (free_above (Nat.le_refl _)) (fun b hb => free_above ?_) (show A.units + 3 + 8 < cLine by omega) ks.length 0 _ (Nat.zero_add _) ⟨⟨_, Heap.get?_push_size _ rfl, rfl, rfl⟩, tl.push _⟩ (fun b o e => Heap.get?_push_of_some _ (up b o e)) ⟨[], #[], 0, _, bare_is (Heap.get?_push_of_some _ here), .nil⟩ fun s3 L es ep t m R pm st => ?_
      · rw [List.mem_singleton.mp hb, size]
        omega
      · obtain ⟨h3, g3, d3, k3, o3⟩ := s3
        obtain rfl : g3 = s.gens := m.gens
        obtain rfl : d3 = s.drawn := m.drawn
        obtain rfl : o3 = s.os := m.os
        exact wpAny_pure (wpAny_pure ⟨rfl, h3, k3, L, es, ep, t, rfl, R, pm, st⟩)
    · match r2, h2 with
      | .error e, h2 => exact h2
      | .ok (.ret r), h2 =>
        obtain ⟨rfl, made⟩ := h2
        repeat (any_goals (first | assumption | wp_step))
        exact q _ made
      | .ok .next, h2 => exact h2.elim
      | .ok .brk, h2 => exact h2.elim
      | .ok .cont, h2 => exact h2.elim
  | .error e, hr => exact hr
  | .ok .next, hr => exact hr.elim
  | .ok .brk, hr => exact hr.elim
  | .ok .cont, hr => exact hr.elim
end
end DL
-- part SN4
set_option linter.all false
set_option maxRecDepth 100000
set_option maxHeartbeats 4000000
/-! len(set(xs)), xs a tuple of different arrangements. -/
namespace DL
open PySem PySem.Spec PyProof.Rows L2
theorem num_arr (a : G.Arr) : numK (keyOf (eArr a)) = true := by
  rw [keyOf_arr]
  have h : ∀ l : List Int, numKs (l.map NestedKey.num) = true := fun l => by
    induction l with
    | nil => rfl
    | cons x l ih => rw [List.map_cons, numKs, ih]; rfl
  simp [numK, numKs, h]
section
variable {X : Cx} {pins : List (Addr × Obj)} {σ : L2.St} {H : Hp} {s : Shared}
theorem arr_refs (I : Inv X pins σ H s) : ∀ (l : List G.Arr) (xs : List V) (us : List Value), DatL H (l.map eArr) xs → Vals xs us →
    ∃ ks : List (Addr × NestedKey), us = ks.map (fun p => Value.ref p.1) ∧ ks.map (·.2) = l.map (fun a => keyOf (eArr a)) ∧ ∀ p ∈ ks, IsN s.heap p.2 p.1
  | [], _, _, h, r => by
    rw [datL_nil.mp h] at r
    cases r
    exact ⟨[], rfl, rfl, fun p hp => by cases hp⟩
  | a :: l, _, _, h, r => by
    obtain ⟨v, vs, e, h1, h2⟩ := datL_cons.mp h
    rw [e] at r
    cases r with
    | cons r1 r2 =>
      obtain ⟨b, rfl⟩ := arr_ref h1
      obtain rfl : _ = Value.ref b := r1
      obtain ⟨ks, e1, e2, e3⟩ := arr_refs I l vs _ h2 r2
      refine ⟨(b, keyOf (eArr a)) :: ks, by rw [e1]; rfl, by rw [List.map_cons, e2]; rfl, fun p hp => ?_⟩
      rcases List.mem_cons.mp hp with e | hp
      · rw [e]
        exact ⟨nested_of I _ _ _ h1 rfl, key_depth a, num_arr a⟩
      · exact e3 p hp
/-- len(set(xs)) -/
def tLenSetN (ta : TE) : TE := fun σ H Q => ta σ H fun x H1 => ∃ l : List G.Arr, Dat H1 (.tup (l.map eArr)) x ∧ l.Nodup ∧ l.length < 1200 ∧ Q (.int l.length) H1
theorem pe_lenSetN {a : Expr} {ta : TE} {p p2 q pos : Pos} (hc : X.calm = true) (hu : X.A.units + 64 < cLine) (hg : Gl X "len") (hm : X.mg "len" = none) (hg2 : Gl X "set") (hm2 : X.mg "set" = none) (ha : PE X a ta)
    (na : starEach [a] X.env = (false, eval a X.env) :: starEach [] X.env := by rfl) : PE X (.Call (.Name "len" p) [.Call (.Name "set" p2) [a] [] q] [] pos) (tLenSetN ta) := by
  refine ⟨fun pins s σ H Q I h => Call_ (ld_blt I hg hm PySem.boot_len (PyProof.Rows.callWith_builtin1 (PyProof.Rows.args_cons (Call_ (ld_blt I hg2 hm2 PyProof.Rows.boot_set (PyProof.Rows.callWith_type1 (PyProof.Rows.args_cons
    (thn (ha.run pins s σ H _ I h) fun v s1 hv => PyProof.Rows.args_nil ?_) na) na rfl))) rfl) rfl rfl))⟩
  obtain ⟨x, H1, I1, r1, l, dl, hnd, few, q1⟩ := hv
  obtain ⟨b, xs, rfl, ⟨o, e2, _⟩, dd⟩ := dat_tup.mp dl
  obtain rfl : v = Value.ref b := r1
  obtain ⟨_, _, its, rv, o', ho, hcl, n, hd⟩ := (show ObjOk X.prog X.w H1 s1.heap b (.frz o (.tup xs)) from I1.hok b _ e2)
  obtain ⟨ks, k1, k2, k3⟩ := arr_refs I1 l xs its dd rv
  have kl : ks.length = l.length := by have := congrArg List.length k2; simpa using this
  have knd : (ks.map (·.2)).Nodup := k2 ▸ List.pairwise_map.mpr (hnd.imp fun ne e => ne (key_inj e))
  refine call_set_keys (I1.ok.hd hc) (⟨o', ho, hcl, n, hd⟩ : s1.heap.IsTuple b its.toArray) (by rw [List.toList_toArray]; exact k1) k3 knd (by omega) (by omega) fun s2 made => ?_
  obtain ⟨h', tk, L, es, ep, t, rfl, R, pm, st⟩ := made
  have R : SetN X.w (Shared.heap { s1 with heap := h', toks := tk }) s1.heap.objs.size L es ep t := R
  have many : es.size = l.length := by rw [R.size, pm.length_eq, kl]
  obtain ⟨ob, hob, hex, hdd⟩ := R.ob
  exact PyProof.Rows.args_nil (call_len_set hob hex hdd (R.fits R.fill) (by rw [many]; omega) ⟨.int l.length, H1, (I1.kept st).tok _, ⟨_, by rw [many]⟩, q1⟩)
end
end DL
-- part DT5
set_option linter.all false
set_option maxRecDepth 100000
set_option maxHeartbeats 4000000
/-! x in xs, xs a tuple of arrangements; how these are read. -/
namespace DL
open PySem PySem.Spec PyProof.Rows L2
/-- the arrangement is among them -/
def rArrIn : R2 := fun x y H Q => ∃ (a : G.Arr) (l : List G.Arr), Dat H (eArr a) x ∧ Dat H (.tup (l.map eArr)) y ∧ a ∈ l ∧ Q (.bl true) H
theorem toPyL_arrs (l : List G.Arr) : toPyL (l.map eArr) = l.map fun a => toPy (eArr a) := by
  induction l with
  | nil => simp [toPyL]
  | cons a l ih => rw [List.map_cons, List.map_cons, toPyL, ih]
theorem plain_arr (a : G.Arr) : (toPy (eArr a)).plain = true := PyData.plain_of_canLay0 _ (SeqAt.canLay_of_shaped (shaped_arr a))
theorem op_inArr {X : Cx} (hu : X.A.units + 64 < cLine) : OpR X (compareOp .In) rArrIn := by
  intro pins s σ H x y v u Q I rx ry h
  obtain ⟨a, l, hx, hy, hm, q⟩ := h
  obtain ⟨as, ra⟩ := Dp.reads I _ _ v (dp_of _ _ hx) rx
  obtain ⟨bs, rb⟩ := Dp.reads I _ _ u (dp_of _ _ hy) ry
  rw [toPy] at rb
  have hp : PyData.plainAll (toPyL (l.map eArr)) = true := by
    rw [toPyL_arrs]
    have : ∀ l : List G.Arr, PyData.plainAll (l.map fun a => toPy (eArr a)) = true := fun l => by
      induction l with
      | nil => rfl
      | cons b l ih => rw [List.map_cons, PyData.plainAll, plain_arr, ih]; rfl
    exact this l
  have hd := SeqAt.depth_of_shaped (shaped_arr a)
  have h8 : (toPy (eArr a)).depth ≤ 60 := by
    unfold eArr eSta eInts
    simp [toPy, toPyL, toPyL_ints, PyData.depth, PyData.depthAll, depth_ints]
  have h9 := Nat.min_le_right (PyData.depthAll (toPyL (l.map eArr))) (toPy (eArr a)).depth
  refine SeqAt.in_tuple_data rb ra hp (plain_arr a) (by omega) ?_
  have e : ((toPyL (l.map eArr)).any fun z => PyData.eqv z (toPy (eArr a))) = true := by
    rw [List.any_eq_true]
    refine ⟨toPy (eArr a), ?_, SeqAt.eqv_refl _ (SeqAt.canLay_of_shaped (shaped_arr a))⟩
    rw [toPyL_arrs]
    exact List.mem_map.mpr ⟨a, hm, rfl⟩
  rw [e]
  exact ⟨.bl true, H, I, rfl, q⟩
theorem de_inArr {ta tb : TE} {δ : List (Option R)} {a : G.Arr} {l : List G.Arr} (ha : DE ta δ (.d (eArr a))) (hb : DE tb δ (.d (.tup (l.map eArr)))) (hm : a ∈ l) : DE (tOp rArrIn ta tb) δ (.d (.bl true)) :=
  de_op2 ha hb fun v w H h1 h2 Q q => ⟨a, l, h1, h2, hm, q _ H (Same.refl H) re_bl⟩
theorem de_lenSetN {ta : TE} {δ : List (Option R)} {l : List G.Arr} (ha : DE ta δ (.d (.tup (l.map eArr)))) (hn : l.Nodup) (hl : l.length < 1200) : DE (tLenSetN ta) δ (.d (.int l.length)) := fun σ H R0 Q q =>
  ha σ H R0 _ fun v H1 s1 d1 => ⟨l, d1, hn, hl, q _ H1 s1 re_int⟩
end DL
-- part W10
set_option linter.all false
set_option maxRecDepth 100000
set_option maxHeartbeats 2000000
namespace DL
open PySem PySem.Spec PyProof.Rows L2
section
variable {P : Program} {w : World} {K : PySem.W.Frag} {mg : Str → Option Value} {base : Heap}
variable {Pt : Addr}
abbrev N_are_pairs : List Str := ["one", "other", "thing", "pair"]
def rel_are_pairs (rs : List R) (r : R) : Prop := ∃ (R S : G.Rule) (l : List G.Arr), rs = [.d (eRule R), .d (eRule S), .d (.tup (l.map eArr))] ∧ r = .d (.bl true) ∧ (VR R) ∧ (VR S) ∧ (l.Nodup) ∧ (l.length < 1200) ∧ (G.start R S ∈ l) ∧ (∀ a ∈ l, Good R S a ∧ ∀ x ∈ G.rows a, x ≤ 99)
theorem sc_are_pairs : FnScope N_are_pairs ["one", "other", "thing"] (defScope (top 44)) := ⟨rfl, rfl, rfl, by decide +kernel, rfl, by decide +kernel, by decide +kernel⟩
theorem ok_are_pairs (T : Txt K mg) : Con P w K mg base "are_pairs" ["one", "other", "thing"] 5 (rel_are_pairs) := by
  refine con_of (N := N_are_pairs) T.f_are_pairs sc_are_pairs (fun _ _ _ _ _ _ us hl => match us, hl with | [_, _, _], _ => rfl) (fun rs r h => ?_) (fun f cdv A outer s H E hr => ?_)
  · obtain ⟨_, _, _, rfl, rfl, _, _, _, _, _, _⟩ := h; exact ⟨rfl, by simp [ArgOk]⟩
  have nd := sc_are_pairs.nd
  refine ⟨_, (pss_cons (ps_if (PW.pt (pw_or (pt_not (pt_val (pe_callB (kx_isi K) rfl T.n_isinstance (by rfl) (pa_cons (pv 2) (pa_cons (pe_bltn (v := .ty "tuple") (u := .type "tuple") rfl T.n_tuple (by rfl) rfl) pa_nil))))) (pw_or1 (pt_not (pt_val (pe_callB (kx_all K rfl rfl) rfl T.n_all (by rfl) (pa_cons (pe_lc (own := [("pair", 3)]) rfl nd (kpi_tup K rfl (pv 2)) (blkOk_by (N := N_are_pairs) (sc := defScope (top 44)) (by decide +kernel)) (fun _ _ _ _ _ => (pg_name (i := 3) nd rfl (Or.inl rfl))) (fun _ _ _ _ _ => pts_nil) (fun _ _ _ _ _ => (pe_con (ok_is_pair T) hr rfl (pa_cons (pv 0) (pa_cons (pv 1) (pa_cons (pv 3) pa_nil)))))) pa_nil))))))) (pss_one (ps_ret pe_bl)) pss_nil) (pss_one (ps_ret (pe_and (pe_cmpR op_eq (pe_lenSetN rfl hr.units rfl T.n_len rfl T.n_set (pv 2)) (pe_callB (kx_len K) rfl T.n_len PySem.boot_len (pa_cons (pv 2) pa_nil)) (nomark _)) (pe_one (pe_cmpR (op_inArr hr.units) (pe_con (ok_first_pair T) hr rfl (pa_cons (pv 0) (pa_cons (pv 1) pa_nil))) (pv 2) (by rfl))))))), ?_⟩
  rintro rs r ⟨R, S, l, rfl, rfl, v1, v2, nd1, hl, hs, hg⟩
  have isi : isiB (.tup (l.map eArr)) "tuple" = true := sum_isi_tup _
  refine ds_seq (ds_no (DT.to (dt_or (dt_not (dt_B (de_isi (de_var rfl)))) fun _ => dt_not (dt_B (de_allTrue (l := l) (f := eArr) (de_var rfl) (fun a ha => (de_call (da_d (de_var rfl) (da_d (de_var rfl) (da_d (de_var rfl) da_nil))) ⟨R, S, a, rfl, rfl, (hg a ha).1, (hg a ha).2⟩)) (by omega)))) (by rw [isi]; rfl)) ds_next) ?_
  exact ds_ret (DE.to (de_and (de_eqI (de_lenSetN (de_var rfl) nd1 hl) (de_len (by first | exact .inl (da_d (de_var rfl) da_nil) | exact .inr (da_d (de_var rfl) da_nil)))) fun _ => (de_inArr (de_call (da_d (de_var rfl) (da_d (de_var rfl) da_nil)) ⟨R, S, rfl, rfl, v1, v2⟩) (de_var rfl) hs)) (by simp))
end
end DL
-- part DN
set_option linter.all false
set_option maxRecDepth 100000
set_option maxHeartbeats 4000000
/-! {k: True for k in xs}, xs a tuple of different arrangements. -/
namespace DL
open PySem PySem.Spec PyProof.Rows L2
section
variable {X : Cx}
/-- a new arrangement stored in such a dict -/
theorem n_dictSet {pins : List (Addr × Obj)} {σ : L2.St} {H : Hp} {s : Shared} {E : Value → Shared → Prop} {a b : Addr} {es : List NE} {k : D} {v : V} {u r : Value} {Q : Unit → Shared → Prop} (hu : X.A.units + 64 < cLine) (I : Inv X pins σ H s) (n : NDat X.prog X.w H a es) (hk : Dat H k (.ref b)) (hd : (keyOf k).depth ≤ 8) (hv : OkV v) (hn : findN es k = none) (hl : es.length < 100000)
    (ry : RelV (.ref b) u) (rv : RelV v r) (h : ∀ s', Inv X pins σ (upd H a (ndO X.prog X.w a (es ++ [(k, b, v)]))) s' → Q () s') : wpAny (model X.prog X.w) X.A (dictSet a u r) Q E s := by
  obtain rfl : u = Value.ref b := ry
  obtain rfl := okV_rel hv rv
  refine wpAny_dictSet_heap (hsz := by rw [List.length_map]; exact le_line (by omega)) (room_ok0 hu) (key_ok I hk hd) (n.ok I) fun h' dd hs => h _ ?_
  rw [raw_new hn] at dd
  obtain ⟨q, _, _, hq, _⟩ := id dd
  exact d_write I (nd_mut n.obj) hs ⟨q, hq⟩ (nd_obj dd)
/-- the parts of such a comprehension, read within its block -/
structure DcBlk (X : Cx) (kx vx tg : Expr) (scope : Scope) (i : Nat) : Prop where
  tg : ∀ (s : Shared) (H : Hp) (C : Addr) (cl : List (Str × Addr)) (fp : List Addr), PG (X.blk s H scope (compEnvC scope cl C X.env) fp) tg (gName i)
  key : ∀ (s : Shared) (H : Hp) (C : Addr) (cl : List (Str × Addr)) (fp : List Addr), PE (X.blk s H scope (compEnvC scope cl C X.env) fp) kx (tVar i)
  val : ∀ (s : Shared) (H : Hp) (C : Addr) (cl : List (Str × Addr)) (fp : List Addr), PE (X.blk s H scope (compEnvC scope cl C X.env) fp) vx (tC (.bl true))
def tDcA (P : Program) (w : World) (j : Nat) : TE := fun σ H Q => ∃ (v : V) (l : List G.Arr), σ[j]? = some (some v) ∧ Dat H (.tup (l.map eArr)) v ∧ l.Nodup ∧ l.length < 100000 ∧
  ∀ (D : Addr) (es : List NE), H D = none → NDat P w (upd H D (ndO P w D es)) D es → es.map (·.1) = l.map eArr → Q (.ref D) (upd H D (ndO P w D es))
/-- the keys so far -/
def Keyed (P : Program) (w : World) (H : Hp) (D : Addr) (l : List G.Arr) (H' : Hp) : Prop := ∃ es, H' = upd H D (ndO P w D es) ∧ NDat P w H' D es ∧ es.map (·.1) = l.map eArr
theorem Keyed.next {P : Program} {w : World} {H H' : Hp} {D : Addr} {l : List G.Arr} {k : Nat} {x : V} {a : G.Arr} (c : Keyed P w H D (l.take k) H') (free : H D = none) (nd : l.Nodup) (few : l.length < 100000) (ha : l[k]? = some a) (dx : Dat H (eArr a) x) :
    ∃ (es : List NE) (b : Addr), x = .ref b ∧ NDat P w H' D es ∧ Dat H' (eArr a) x ∧ findN es (eArr a) = none ∧ es.length < 100000 ∧ Keyed P w H D (l.take (k + 1)) (upd H' D (ndO P w D (es ++ [(eArr a, b, .bl true)]))) := by
  obtain ⟨es, rfl, n, ek⟩ := c
  obtain ⟨b, rfl⟩ := arr_ref dx
  have lt : k < l.length := (List.getElem?_eq_some_iff.mp ha).1
  have ln : es.length = k := by
    have := congrArg List.length ek
    rw [List.length_map, List.length_map, List.length_take] at this
    omega
  have tk : l.take (k + 1) = l.take k ++ [a] := by rw [List.take_add_one, ha]; rfl
  have no : findN es (eArr a) = none := find_none ek fun z => by
    have u : (l.take (k + 1)).Nodup := nd.sublist (List.take_sublist ..)
    rw [tk] at u
    exact (List.nodup_append.mp u).2.2 a z a (List.mem_singleton.mpr rfl) rfl
  have dx' := Dat.mono (.of (same_upd (o := ndO P w D es) free)) _ _ dx
  refine ⟨es, b, rfl, n, dx', no, by omega, es ++ [(eArr a, b, .bl true)], upd_upd, n.put (v := .bl true) dx' (key_depth _) True.intro no (by omega), ?_⟩
  rw [List.map_append, ek, tk, List.map_append]
  rfl
/-- the block of such a comprehension, its new dict at D, the iterator's objects fp -/
theorem dc_block {pins : List (Addr × Obj)} {σ : L2.St} {H H3 : Hp} {s3 : Shared} {Q : VK} {kx vx tg iter : Expr} {scope : Scope} {pos : Pos} {x : Str} {i : Nat} {D a it : Addr} {l : List G.Arr} {xs : List V} {fp : List Addr} {tn : Nat → Heap → Prop}
    (hc : X.calm = true) (hu : X.A.units + 64 < cLine) (hN : X.N.Nodup) (ok : BlkOk X.N X.env.scope scope [(x, i)]) (B : DcBlk X kx vx tg scope i) (ix : i < σ.length) (nd : l.Nodup) (few : l.length < 100000) (free : H D = none) (rd : RdT H a xs) (dd : DatL H (l.map eArr) xs)
    (T : Turn X.prog X.w X.K tg (Itt X.K a) fp it tn) (t3 : tn 0 s3.heap) (apart : ∀ b ∈ fp, b ≠ D) (none_ : ∀ b ∈ fp, H b = none) (I3 : Inv X pins σ H3 s3) (k0 : Keyed X.prog X.w H D (l.take 0) H3) (o3 : ∀ b ∈ fp, FpOk X pins H3 b ∧ b < s3.heap.objs.size)
    (q : ∀ H', Keyed X.prog X.w H D l H' → Q (.ref D) H') :
    codeAny (model X.prog X.w) X.A (.compStart (.DictComp kx vx [⟨tg, iter, [], 0⟩] scope pos) 0 (.ref it) (.ref D) (compEnvC scope (cellsFrom (s3.heap.objs.size + 1) scope.names (cloFrom X.env.cells scope.names [])) s3.heap.objs.size X.env))
      (compPost (model X.prog X.w) X.A X.xe none (EP X pins σ Q) (.ref D) s3.heap.objs.size) { s3 with heap := pushCells (s3.heap.push { cls := .type "dict", data := .dict #[] }) scope.names } := by
  have xl : xs.length = l.length := by rw [dd.length, List.length_map]
  have seq : ∀ {k : Nat} {H' : Hp}, Keyed X.prog X.w H D (l.take k) H' → SqT X.K H' a xs := fun ⟨_, e, _⟩ => e ▸ (rd.mono (same_upd free)).sqt
  have off : ∀ {k : Nat} {H' : Hp}, Keyed X.prog X.w H D (l.take k) H' → ∀ b ∈ fp, H' b = none := fun ⟨_, e, _⟩ b hb => by
    rw [e, upd_ne (apart b hb)]
    exact none_ b hb
  have I4 := block_start I3 ok hN o3
  have Bt := B.tg s3 H3 s3.heap.objs.size (cellsFrom (s3.heap.objs.size + 1) scope.names (cloFrom X.env.cells scope.names [])) fp
  have Bk := B.key s3 H3 s3.heap.objs.size (cellsFrom (s3.heap.objs.size + 1) scope.names (cloFrom X.env.cells scope.names [])) fp
  have Bv := B.val s3 H3 s3.heap.objs.size (cellsFrom (s3.heap.objs.size + 1) scope.names (cloFrom X.env.cells scope.names [])) fp
  have t4 : tn 0 (pushCells (s3.heap.push { cls := .type "dict", data := .dict #[] }) scope.names) := T.keep _ _ _ t3 fun b _ o e => pushCells_keeps _ _ _ _ (Heap.get?_push_of_some _ e)
  have loc : (compEnvC scope (cellsFrom (s3.heap.objs.size + 1) scope.names (cloFrom X.env.cells scope.names [])) s3.heap.objs.size X.env).locals = s3.heap.objs.size := rfl
  generalize compEnvC scope (cellsFrom (s3.heap.objs.size + 1) scope.names (cloFrom X.env.cells scope.names [])) s3.heap.objs.size X.env = ce at I4 Bt Bk Bv loc ⊢
  have calm : ∀ {σ' : L2.St} {H' : Hp} {s' : Shared} {k : Nat}, Inv (X.blk s3 H3 scope ce fp) [] σ' H' s' → Keyed X.prog X.w H D (l.take k) H' → ∀ b ∈ fp, FpOk (X.blk s3 H3 scope ce fp) [] H' b := fun J c b hb =>
    have e := J.ok.exf b hb
    ⟨off c b hb, e.1, J.ok.exfs b hb, Or.inl hb, fun y c h => e.2 y c h, fun p hp => False.elim (List.not_mem_nil (show p ∈ ([] : List (Addr × Obj)) from hp))⟩
  refine (fun loop => codeAny_compStart_dict loop (T.self X.A 0 _ _ _ t4 loop)) ?_
  refine compLoop_anyD (fun n s' => ∃ k H', n = l.length - k ∧ k ≤ l.length ∧ Inv (X.blk s3 H3 scope ce fp) [] (wipe σ [i]) H' s' ∧ Keyed X.prog X.w H D (l.take k) H' ∧ tn k s'.heap) ?_ l.length ⟨0, H3, rfl, Nat.zero_le _, I4, k0, t4⟩
  rintro _ s5 ⟨k, H5, rfl, kl, I5, k5, t5⟩
  rcases Nat.lt_or_ge k l.length with lt | ge
  · -- one more key
    have hx : xs[k]? = some xs[k] := List.getElem?_eq_getElem (xl ▸ lt)
    obtain ⟨w, hw, dx⟩ := dd.get (i := k) (d := eArr l[k]) (by rw [List.getElem?_map, List.getElem?_eq_getElem lt]; rfl)
    refine thnF (T.item (X.blk s3 H3 scope ce fp) rfl rfl rfl hc k [] s5 _ H5 (fun _ _ => False) I5 (calm I5 k5) t5 ⟨xs, xs[k], seq k5, hx⟩) fun _ s6 ⟨u, e, z⟩ => ?_
    subst e
    refine thnF z fun _ s7 ⟨y, H7, I7, r7, ⟨eH, ey⟩, t7, _⟩ => ?_
    subst eH
    obtain rfl : y = w := Option.some.inj ((ey xs (seq k5)).symm.trans hw)
    obtain ⟨es, b, rfl, n5, dk, no, few5, nx⟩ := k5.next free nd few (List.getElem?_eq_getElem lt) dx
    have J := I7.pinned (calm I7 k5) (T.obj _ _ t7)
    have ix' : i < (wipe σ [i]).length := by rw [wipe_length]; exact ix
    refine thnF (Bt.run _ s7 _ H7 (.ref b) u (fun σ' H' => σ' = (wipe σ [i]).set i (some (.ref b)) ∧ H' = H7) J r7 ⟨rfl, rfl⟩) fun _ s8 ⟨σ8, H8, I8, e8, f8⟩ => ?_
    subst e8 f8
    refine thnF ((pts_nil (X := X.blk s3 H3 scope ce fp)).run _ s8 _ H8 (fun c H' => c = true ∧ H' = H8) I8 ⟨rfl, rfl⟩) fun c s9 ⟨H9, I9, e9, f9⟩ => ?_
    subst e9 f9
    rw [if_pos rfl]
    refine thnF (Bk.run _ s9 _ H9 (fun v H' => v = .ref b ∧ H' = H9) I9 ⟨.ref b, List.getElem?_set_self ix', rfl, rfl⟩) fun kv s10 ⟨yk, HA, IA, rk, ek, fk⟩ => ?_
    subst ek fk
    refine thnF (Bv.run _ s10 _ HA (fun v H' => v = .bl true ∧ H' = HA) IA ⟨rfl, rfl⟩) fun vv s11 ⟨yv, HB, IB, rv, ev, fv⟩ => ?_
    subst ev fv
    refine n_dictSet (X := X.blk s3 H3 scope ce fp) hu IB n5 dk (key_depth _) (show OkV (V.bl true) from True.intro) no few5 rk rv fun s12 IC => ?_
    refine ⟨l.length - (k + 1), by omega, k + 1, _, rfl, lt, (IC.unpinned (pins := [])).weak (by rw [List.length_set]) (fun j v e => ?_), nx, T.keep _ _ _ t7 fun c hc o e => ?_⟩
    · rw [List.getElem?_set_ne fun z => (wipe_some e).2 (List.mem_singleton.mpr z.symm)]
      exact e
    · exact (IC.pin (c, o) (List.mem_append_right _ (List.mem_append_right _ (mem_pinsAt hc e)))).1
  · -- the end
    obtain rfl : k = l.length := Nat.le_antisymm kl ge
    refine thnF (T.done (X.blk s3 H3 scope ce fp) rfl rfl rfl hc _ [] s5 _ H5 (fun _ _ => False) I5 (calm I5 k5) t5 ⟨xs, seq k5, Nat.le_of_eq xl⟩) fun _ s6 ⟨e, I6⟩ => ?_
    subst e
    have J : Inv X pins σ H5 s6 := I3.call' (ch := fp) I6.os I6.base I6.hok I6.bare fun b hb => have f := (o3 b hb).1.2; ⟨f.2.2.1, f.1, f.2.2.2.1, f.2.2.2.2⟩
    obtain ⟨m, hn, _⟩ := I6.loc
    have gone : H5 s3.heap.objs.size = none := loc ▸ (show H5 ce.locals = none from I6.free)
    obtain ⟨f0, f1, _, f3, f4, f5⟩ := I3.fpOk (Nat.le_refl _) gone
    rw [List.take_length] at k5
    exact ⟨m, loc ▸ (show s6.heap.Ns ce.locals m from hn), fun h' but => ⟨.ref D, H5, J.turned (t' := s6.toks) (fun b o ne e => (but.2 b ne).trans e) f0 f1 f3 f4 f5, rfl, q H5 k5⟩⟩
theorem pe_dcA {kx vx tg iter : Expr} {scope : Scope} {pos : Pos} {x : Str} {i j : Nat} (hc : X.calm = true) (hu : X.A.units + 64 < cLine) (hN : X.N.Nodup) (hi : PI X tg iter (iTup X.K (tVar j))) (ok : BlkOk X.N X.env.scope scope [(x, i)]) (B : DcBlk X kx vx tg scope i)
    (hs : ∀ x, foldedSetIterable iter X.env x = pure x := by intro _; rfl) : PE X (.DictComp kx vx [⟨tg, iter, [], 0⟩] scope pos) (tDcA X.prog X.w j) := by
  refine ⟨fun pins s σ H Q I h => ?_⟩
  obtain ⟨_, l, hv, dv, nd, few, q⟩ := h
  obtain ⟨a, xs, rfl, rd, dd⟩ := dat_tup.mp dv
  have xl : xs.length = l.length := by rw [dd.length, List.length_map]
  have ix : i < σ.length := by
    rw [I.len]
    exact (List.getElem?_eq_some_iff.mp (ok.ix (x, i) (List.mem_singleton.mpr rfl))).1
  rw [arm_eval_DictComp]
  refine wpAny_comprehension_free (use := none) rfl hs (closure_ok fun y hy e => (ok.free y hy e).elim (fun z => I.ok.has _ (.inl z)) fun z => I.ok.has _ (.inr z)) ok.kind (fun y hy e => (ok.uniq y hy).trans (congrArg some e))
    (thn (hi.run pins s σ H (fun J H1 => J = Itt X.K a ∧ H = H1) I ⟨.ref a, hv, a, rfl, ⟨xs, rd.sqt⟩, rfl, rfl⟩) fun _ _ z => thn z fun _ s2 z => ?_)
  obtain ⟨it, fp, tn, J, H2, rfl, I2, T, t2, o2, eJ, eH⟩ := z
  subst eJ eH
  refine wpAny_newObj_type (newEnv_comp ?_)
  -- the new dict, the block
  have free : H s2.heap.objs.size = none := I2.hok.fresh (Nat.le_refl _)
  have low : (s2.heap.objs.size == sysModules) = false := big_ne I2
  have I3 : Inv X pins σ (upd H s2.heap.objs.size (ndO X.prog X.w s2.heap.objs.size [])) { s2 with heap := s2.heap.push { cls := .type "dict", data := .dict #[] } } := I2.laid (t' := s2.toks) (fun b o e => Heap.get?_push_of_some _ e) (Nat.le_refl _) (nd_obj (Heap.DictOfH.new s2.heap))
  have k0 : Keyed X.prog X.w H s2.heap.objs.size (l.take 0) (upd H s2.heap.objs.size (ndO X.prog X.w s2.heap.objs.size [])) := ⟨[], rfl, ndat_new low, rfl⟩
  have o3 : ∀ b ∈ fp, FpOk X pins (upd H s2.heap.objs.size (ndO X.prog X.w s2.heap.objs.size [])) b ∧ b < (s2.heap.push { cls := .type "dict", data := .dict #[] }).objs.size := fun b hb => by
    obtain ⟨o, e, _⟩ := T.obj _ _ t2 b hb
    have lt := Heap.lt_size e
    refine ⟨⟨?_, (o2 b hb).2⟩, by rw [Heap.size_push]; exact Nat.lt_succ_of_lt lt⟩
    rw [upd_ne (Nat.ne_of_lt lt)]
    exact (o2 b hb).1
  refine dc_block (H := H) (l := l) (xs := xs) (s3 := { s2 with heap := s2.heap.push { cls := .type "dict", data := .dict #[] } }) hc hu hN ok B ix nd few free rd dd T (T.keep _ _ _ t2 fun b _ o e => Heap.get?_push_of_some _ e) (fun b hb => ?_) (fun b hb => (o2 b hb).1) I3 k0 o3 fun H' ⟨es, e, n, ek⟩ => ?_
  · obtain ⟨o, e, _⟩ := T.obj _ _ t2 b hb
    exact Nat.ne_of_lt (Heap.lt_size e)
  · subst e
    exact q _ es free n ek
theorem kpe_dcA (P : Program) (w : World) {K : PySem.W.Frag} {kx vx tg iter : Expr} {scope : Scope} {pos : Pos} {x : Str} {i j : Nat} (eP : X.prog = P) (ew : X.w = w) (eK : X.K = K) (hc : X.calm = true) (hu : X.A.units + 64 < cLine) (hN : X.N.Nodup) (hi : PI X tg iter (iTup K (tVar j))) (ok : BlkOk X.N X.env.scope scope [(x, i)]) (B : DcBlk X kx vx tg scope i)
    (hs : ∀ x, foldedSetIterable iter X.env x = pure x := by intro _; rfl) : PE X (.DictComp kx vx [⟨tg, iter, [], 0⟩] scope pos) (tDcA P w j) := by
  subst eP ew eK
  exact pe_dcA hc hu hN hi ok B hs
end
end DL
-- part DT7
set_option linter.all false
set_option maxRecDepth 100000
set_option maxHeartbeats 4000000
/-! readings for are_closed: a call through a parameter, two lasting values stored at once, a key asked of such a dict. -/
namespace DL
open PySem PySem.Spec PyProof.Rows L2
def tCallV (i : Nat) (f : Addr) (sp : Sp) (t : TA) : TE := fun σ H Q => σ[i]? = some (some (.ref f)) ∧ tCall sp [] E0 t σ H Q
section
variable {X : Cx} {k i : Nat} {f : Addr} {fd : FuncData} {ps : List Str} {sp : Sp} {t : TA} {e : Expr} {es : List Expr} {x : Str} {p pos : Pos}
theorem pe_callV (F : FnOk X.prog X.w X.K X.mg X.base CX0 k f fd ps sp) (hr : Room k X.A) (hk : PySem.W.keepIn X.K (.ref f) = true) (hb : Binds X.K fd ps []) (hN : X.N[i]? = some x) (hv : Vis X.env.scope x) (ha : PA X (e :: es) t)
    (hd : (x == ("__debug__" : Str)) = false := by decide) (hcd : (x == ("__classdict__" : Str)) = false := by decide)
    (he : starEach (e :: es) X.env = (false, eval e X.env) :: starEach es X.env := by rfl) (hpl : (backTo pos (starEach es X.env)).any (·.1) = false := by rfl) :
    PE X (.Call (.Name x p) (e :: es) [] pos) (tCallV i f sp t) := by
  refine ⟨fun pins s σ H Q I h => ?_⟩
  obtain ⟨hs, ht⟩ := h
  refine wpAny_Call_Name_kw (thn ((pe_var (pos := p) hN hv hd hcd).run pins s σ H (fun v H1 => v = .ref f ∧ H1 = H) I ⟨.ref f, hs, rfl, rfl⟩) fun u s1 ⟨v, H1, I1, r1, q1⟩ => ?_)
  obtain ⟨ev, eH⟩ := q1
  subst ev
  rw [eH] at I1
  obtain rfl : u = Value.ref f := r1
  refine PySem.W.callWith_K (h₀ := X.base) I1.ok.mod.kin hk (thn (ha.run pos pins s1 σ H _ I1 ht) fun us s2 ⟨vs, H2, I2, r, q⟩ => ⟨I2.kIn, ?_⟩) he hpl
  exact run_fn F hr hb .nil pass0 I2 r q
end
section
variable {δ : Env} {ta t1 t2 : TE} {i n m : Nat}
theorem de_callV {rel : List R → R → Prop} {t : TA} {rs : List R} {r : R} {f : Addr} {φ : Hp → V → Prop} (hi : δ[i]? = some (some (.p φ))) (hφ : ∀ H v, φ H v → v = .ref f) (h : DA t δ rs) (hr : rel rs r) : DE (tCallV i f (spD rel) t) δ r := fun σ H R0 Q q => by
  obtain ⟨v, e, z⟩ := R0.val i _ hi
  exact ⟨by rw [e, hφ H v (z H (skeep (Same.refl H)))], de_call h hr σ H R0 Q q⟩
/-- no slot holds what may change -/
def noOwn (δ : Env) : Bool := δ.all fun x => match x with
  | some r => !r.own
  | none => true
theorem keep_same {σ : L2.St} {H H' : Hp} (h : noOwn δ = true) (k : Keep (Own σ δ) H H') : Same H H' := fun b o e => k b o e fun ⟨j, x, h1, h2, _⟩ => by
  have : (!x.own) = true := List.all_eq_true.mp h _ (List.mem_of_getElem? h1)
  rw [h2] at this
  cases this
theorem ds_parP {K : PySem.W.Frag} {φ ψ : Hp → V → Prop} (n1 : noOwn δ = true) (h1 : DE t1 δ (.p φ)) (h2 : DE t2 δ (.p ψ)) (n2 : noOwn (δ.set n (some (.p φ))) = true := by rfl) :
    DS (tAsg (tTupF (tCons t1 (tCons t2 tNil))) (gTup K 2 (gCons (gName n) (gCons (gName m) gNil)))) δ (.nx ((δ.set n (some (.p φ))).set m (some (.p ψ)))) := fun σ H R0 E q =>
  h1 σ H R0 _ fun v H1 s1 d1 => h2 σ H1 (R0.ext s1) _ fun w H2 s2 d2 => ⟨by show 2 ≤ sizeLine; exact le_line (by decide), fun p o hp ho => by
    have s3 := same_upd (o := .frz o (.tup [v, w])) hp
    have d1 : ∀ H', Same H1 H' → φ H' v := d1
    have d2 : ∀ H', Same H2 H' → ψ H' w := d2
    obtain ⟨R1, l1⟩ := R0.put (r := .p φ) ((s1.trans s2).trans s3) n (fun H' k => d1 H' ((s2.trans s3).trans (keep_same n1 k)))
    obtain ⟨R2, l2⟩ := R1.put (r := .p ψ) (Same.refl _) m (fun H' k => d2 H' (s3.trans (keep_same n2 k)))
    exact ⟨p, [v, w], rfl, (RdT.new ho).sqt, rfl, v, [w], rfl, w, [], rfl, rfl, q _ _ R2 (l1.trans l2)⟩⟩
/-- such a dict stands -/
def ThereP (P : Program) (w : World) (l : List G.Arr) : Hp → V → Prop := fun H v => ∃ a es, v = .ref a ∧ NDat P w H a es ∧ es.map (·.1) = l.map eArr
theorem de_nin {P : Program} {w : World} {a : G.Arr} {l : List G.Arr} (h : DE ta δ (.d (eArr a))) (hi : δ[i]? = some (some (.p (ThereP P w l)))) (hm : a ∈ l) : DE (tOp (rNIn P w false) ta (tVar i)) δ (.d (.bl true)) := fun σ H R0 Q q =>
  h σ H R0 _ fun v H1 s1 d1 => by
    obtain ⟨u, e, z⟩ := (R0.ext s1).val i _ hi
    obtain ⟨a0, es, eu, n, ek⟩ := z H1 (skeep (Same.refl H1))
    obtain ⟨b, rfl⟩ := arr_ref d1
    refine ⟨u, e, a0, b, es, eArr a, rfl, eu, n, d1, key_depth a, ?_⟩
    have ef : (findN es (eArr a)).isSome = true := by rw [find_arr ek, decide_eq_true hm]
    show Q (.bl (findN es (eArr a)).isSome) H1
    rw [ef]
    exact q _ H1 s1 re_bl
theorem de_dcA {P : Program} {w : World} {l : List G.Arr} {j : Nat} (hj : δ[j]? = some (some (.d (.tup (l.map eArr))))) (nd : l.Nodup) (hl : l.length < 100000) : DE (tDcA P w j) δ (.p (ThereP P w l)) := fun σ H R0 Q q => by
  obtain ⟨v, e, d⟩ := R0.val j _ hj
  exact ⟨v, l, e, d, nd, hl, fun D0 es h0 n ek => q _ _ (same_upd h0) fun H' s' => ⟨D0, es, rfl, n.ext s', ek⟩⟩
end
end DL
-- part W11
set_option linter.all false
set_option maxRecDepth 100000
set_option maxHeartbeats 2000000
namespace DL
open PySem PySem.Spec PyProof.Rows L2
section
variable {P : Program} {w : World} {K : PySem.W.Frag} {mg : Str → Option Value} {base : Heap}
variable {Pt : Addr}
abbrev N_are_closed : List Str := ["one", "other", "some", "is_right", "there", "steps", "arrangement", "row"]
def rel_are_closed (Pt : Addr) (mg : Str → Option Value) (rs : List R) (r : R) : Prop := ∃ (R S : G.Rule) (l : List G.Arr), rs = [.p (PT Pt (eRule R)), .d (eRule S), .d (.tup (l.map eArr)), .p (fun _ v => ∃ f, mg "is_within" = some (.ref f) ∧ v = .ref f)] ∧ r = .d (.bl true) ∧ (VR R) ∧ (VR S) ∧ (l.Nodup) ∧ (l.length < 1200) ∧ (G.start R S ∈ l) ∧ (∀ a ∈ l, (Good R S a ∧ ∀ x ∈ G.rows a, x ≤ 99) ∧ G.Within a ∧ ∀ n, n ≤ G.hm a → G.moved R S a n ∈ l)
theorem sc_are_closed : FnScope N_are_closed ["one", "other", "some", "is_right"] (defScope (top 49)) := ⟨rfl, rfl, rfl, by decide +kernel, rfl, by decide +kernel, by decide +kernel⟩
theorem ok_are_closed (TX : TxtX K mg base Pt) : Con P w K mg base "are_closed" ["one", "other", "some", "is_right"] 6 (rel_are_closed Pt mg) := by
  have T := TX.T
  refine con_of (N := N_are_closed) T.f_are_closed sc_are_closed (fun _ _ _ _ _ _ us hl => match us, hl with | [_, _, _, _], _ => rfl) (fun rs r h => ?_) (fun f cdv A outer s H E hr => ?_)
  · obtain ⟨_, _, _, rfl, rfl, _, _, _, _, _, _⟩ := h; exact ⟨rfl, by simp [ArgOk]⟩
  have nd := sc_are_closed.nd
  obtain ⟨fw, fdw, w1, w2, w3, w4⟩ := (ok_is_within T : Con P w K mg base _ _ _ _)
  refine ⟨_, (pss_cons (ps_if (pt_not (pt_val (pe_con (ok_are_pairs T) hr rfl (pa_cons (pv 0) (pa_cons (pv 1) (pa_cons (pv 2) pa_nil)))))) (pss_one (ps_ret pe_bl)) pss_nil) (pss_cons (ps_asg (pe_tupF (pa_cons (kpe_dcA P w rfl rfl rfl rfl hr.units nd (x := "arrangement") (i := 6) (kpi_tup K rfl (pv 2)) (blkOk_by (N := N_are_closed) (sc := defScope (top 49)) (by decide +kernel)) ⟨fun _ _ _ _ _ => (pg_name (i := 6) nd rfl (Or.inl rfl)), fun _ _ _ _ _ => pv 6, fun _ _ _ _ _ => pe_bl⟩) (pa_cons (pe_con (ok_steps_of TX) hr rfl (pa_cons (pv 0) (pa_cons (pv 1) pa_nil))) pa_nil))) (kpg_tup K rfl 2 rfl (pgs_cons (pg_name (i := 4) nd rfl (Or.inr rfl)) (pgs_cons (pg_name (i := 5) nd rfl (Or.inl rfl)) pgs_nil)))) (pss_cons (ps_for PassesOwn.never rfl (kpi_tup K rfl (pv 2)) (pg_name (i := 6) nd rfl (Or.inl rfl)) (pss_cons (ps_if (pt_not (pt_val (pe_callV (w4.mono (by decide)) hr w2 w3 (i := 3) rfl (Or.inl rfl) (pa_cons (pv 6) pa_nil)))) (pss_one (ps_ret pe_bl)) pss_nil) (pss_one (ps_if (pt_not (pt_val (pe_callB (kx_all K rfl rfl) rfl T.n_all (by rfl) (pa_cons (pe_lc (own := [("row", 7)]) rfl nd (kpi_list K rfl (pe_clo (i := 5) T hr rfl (Or.inl rfl) (pa_cons (pv 6) pa_nil))) (blkOk_by (N := N_are_closed) (sc := defScope (top 49)) (by decide +kernel)) (fun _ _ _ _ _ => (pg_name (i := 7) nd rfl (Or.inl rfl))) (fun _ _ _ _ _ => pts_nil) (fun _ _ _ _ _ => (pe_cmpR (kx_nin P w rfl rfl hr.units) (pe_ix (kx_ixT K) (pv 7) pe_int (fun _ _ => rfl)) (pv 4) (by rfl)))) pa_nil)))) (pss_one (ps_ret pe_bl)) pss_nil)))) (pss_one (ps_ret pe_bl))))), ?_⟩
  rintro rs r ⟨R, S, l, rfl, rfl, v1, v2, nd1, hl, hs, hg⟩
  have hw : ∀ (H : Hp) (v : V), (∃ f, mg "is_within" = some (.ref f) ∧ v = .ref f) → v = .ref fw := fun H v ⟨f, h1, h2⟩ => by
    rw [w1] at h1
    cases h1
    exact h2
  refine ds_seq (ds_no (DT.to (dt_not (dt_B (de_call (da_d (de_varPd rfl) (da_d (de_var rfl) (da_d (de_var rfl) da_nil))) ⟨R, S, l, rfl, rfl, v1, v2, nd1, hl, hs, fun a ha => (hg a ha).1⟩))) rfl) ds_next) ?_
  refine ds_seq (ds_parP (φ := ThereP P w l) (ψ := CloP R S) rfl (de_dcA rfl nd1 (by omega)) (de_call (da_p (de_varP rfl) (da_d (de_var rfl) da_nil)) ⟨R, S, rfl, rfl⟩)) ?_
  refine ds_seq (ds_forT (ds := l.map eArr) gok_nm (de_var rfl) (loop_all (fun k => [some (.p (PT Pt (eRule R))), some (.d (eRule S)), some (.d (.tup (l.map eArr))), some (.p (fun _ v => ∃ f, mg "is_within" = some (.ref f) ∧ v = .ref f)), some (.p (ThereP P w l)), some (.p (CloP R S)), none, none]) rfl (fun k d hd => ?_))) ?_
  · rw [List.getElem?_map] at hd
    obtain ⟨a, ha, rfl⟩ := Option.map_eq_some_iff.mp hd
    obtain ⟨⟨ga, _⟩, wa, ca⟩ := hg a (List.mem_of_getElem? ha)
    refine ⟨_, rfl, ?_⟩
    refine ds_fg (δ1 := [some (.p (PT Pt (eRule R))), some (.d (eRule S)), some (.d (.tup (l.map eArr))), some (.p (fun _ v => ∃ f, mg "is_within" = some (.ref f) ∧ v = .ref f)), some (.p (ThereP P w l)), some (.p (CloP R S)), some (.d (eArr a)), none]) ?_ ⟨.inr rfl, .inr rfl, .inr rfl, .inr rfl, .inr rfl, .inr rfl, .inl rfl, .inl rfl, trivial⟩
    refine ds_seq (ds_no (DT.to (dt_not (dt_B (de_callV (i := 3) rfl hw (da_d (de_var rfl) da_nil) ⟨a, rfl, rfl, ga.o1.len⟩))) (by rw [decide_eq_true wa]; rfl)) ds_next) ?_
    refine ds_no (DT.to (dt_not (dt_B (de_all (bs := (List.range (G.hm a + 1)).map fun _ => true) (da_l (DE.to (de_mapL (l := List.range (G.hm a + 1)) (f := rowOf R S a) (fun _ => D.bl true) (.inr (de_clo rfl (de_var rfl) ga)) (fun n hn => de_nin (a := G.moved R S a n) (de_ix (de_var rfl) de_int rfl) rfl (ca n (Nat.le_of_lt_succ (List.mem_range.mp hn)))) (by have := ga.hm; rw [List.length_range]; omega)) (by rw [List.map_map]; rfl)) da_nil)))) (by simp)) ds_next
  · exact ds_ret de_bl
end
end DL
-- part W12
set_option linter.all false
set_option maxRecDepth 100000
set_option maxHeartbeats 2000000
namespace DL
open PySem PySem.Spec PyProof.Rows L2
section
variable {P : Program} {w : World} {K : PySem.W.Frag} {mg : Str → Option Value} {base : Heap}
variable {Pt : Addr}
theorem good99 {R S : G.Rule} {a : G.Arr} (g : Good R S a) : ∀ x ∈ G.rows a, x ≤ 99 := by
  have e : G.rows (G.named a) = (G.rows a).map (G.num (G.rows a)) := G.rows_ren _ _
  rw [g.c] at e
  intro x hx
  rw [e] at hx
  obtain ⟨y, _, rfl⟩ := List.mem_map.mp hx
  have h8 := g.hm
  unfold G.hm at h8
  have := List.idxOf_le_length (a := y) (l := G.seen (G.rows a))
  unfold G.num
  split <;> omega
theorem walk_last {R S : G.Rule} {a : G.Arr} (u : List Nat) : (match (walkRows R S a u).getLast? with | some (.tup [_, _, _, d]) => d | _ => eArr a) = eArr (G.walkTo R S a u) := by
  rcases List.eq_nil_or_concat u with rfl | ⟨w, n, rfl⟩
  · rfl
  · rw [List.concat_eq_append, walkRows_snoc, walkTo_snoc, List.getLast?_concat]
    rfl
theorem walk_four {R S : G.Rule} : ∀ (u : List Nat) (a : G.Arr), ∀ d ∈ walkRows R S a u, ∃ p q x v, d = D.tup [p, q, x, v]
  | [], a, d, h => by cases h
  | n :: u, a, d, h => by
    rcases List.mem_cons.mp h with e | h
    · exact ⟨_, _, _, _, e⟩
    · exact walk_four u _ d h
theorem de_cp {δ : Env} {v : V} {φ : Hp → V → Prop} (h : ∀ H, φ H v) : DE (tC v) δ (.p φ) := fun _ H _ Q q => q v H (Same.refl H) fun H' _ => h H'

abbrev N_shows_nested : List Str := ["one", "other", "thing", "word", "some", "steps"]
def rel_shows_nested (Pt : Addr) (mg : Str → Option Value) (rs : List R) (r : R) : Prop := ∃ (R S : G.Rule) (d : D), rs = [.p (PT Pt (eRule R)), .d (eRule S), .d d] ∧ r = .d (.bl true) ∧ (G.Small R) ∧ (G.Small S) ∧ (R.places ≤ S.places) ∧ (NestRes R S d)
theorem sc_shows_nested : FnScope N_shows_nested ["one", "other", "thing"] (defScope (top 50)) := ⟨rfl, rfl, rfl, by decide +kernel, rfl, by decide +kernel, by decide +kernel⟩
theorem ok_shows_nested (TX : TxtX K mg base Pt) : Con P w K mg base "shows_nested" ["one", "other", "thing"] 10 (rel_shows_nested Pt mg) := by
  have T := TX.T
  refine con_of (N := N_shows_nested) T.f_shows_nested sc_shows_nested (fun _ _ _ _ _ _ us hl => match us, hl with | [_, _, _], _ => rfl) (fun rs r h => ?_) (fun f cdv A outer s H E hr => ?_)
  · obtain ⟨_, _, _, rfl, rfl, _, _, _, _⟩ := h; exact ⟨rfl, by simp [ArgOk]⟩
  have nd := sc_shows_nested.nd
  obtain ⟨fw, fdw, w1, w2, w3, w4⟩ := (ok_is_within T : Con P w K mg base _ _ _ _)
  refine ⟨_, (pss_cons (ps_expr (pe_con (ok_need_greater T) hr rfl (pa_cons (pv 0) (pa_cons (pv 1) pa_nil)))) (pss_cons (ps_if (PW.pt (pw_or (pt_not (pt_val (pe_callB (kx_isi K) rfl T.n_isinstance (by rfl) (pa_cons (pv 2) (pa_cons (pe_bltn (v := .ty "tuple") (u := .type "tuple") rfl T.n_tuple (by rfl) rfl) pa_nil))))) (pw_or1 (pt_cmpR op_ne (pe_callB (kx_len K) rfl T.n_len PySem.boot_len (pa_cons (pv 2) pa_nil)) pe_int (nomark _))))) (pss_one (ps_ret pe_bl)) pss_nil) (pss_cons (ps_asg (pv 2) (kpg_tup K rfl 2 rfl (pgs_cons (pg_name (i := 3) nd rfl (Or.inl rfl)) (pgs_cons (pg_name (i := 4) nd rfl (Or.inl rfl)) pgs_nil)))) (pss_cons (ps_if (pt_cmpR op_eq (pv 3) pe_str (nomark _)) (pss_one (ps_ret (pe_con (ok_are_closed TX) hr rfl (pa_cons (pv 0) (pa_cons (pv 1) (pa_cons (pv 4) (pa_cons (pe_glob rfl w1 (show RelV (.ref fw) (.ref fw) from rfl)) pa_nil))))))) pss_nil) (pss_cons (ps_if (pt_cmpR op_ne (pv 3) pe_str (nomark _)) (pss_one (ps_ret pe_bl)) pss_nil) (pss_cons (ps_set (i := 5) nd rfl (Or.inl rfl) (pe_con (ok_walk_of TX) hr rfl (pa_cons (pv 0) (pa_cons (pv 1) (pa_cons (pv 4) pa_nil))))) (pss_one (ps_ret (pe_and (pe_cmp (pc_notN (pv 5))) (pe_one (pe_not (pe_con (ok_is_within T) hr rfl (pa_cons (pe_con (ok_end_of T) hr rfl (pa_cons (pe_con (ok_first_pair T) hr rfl (pa_cons (pv 0) (pa_cons (pv 1) pa_nil))) (pa_cons (pv 5) pa_nil))) pa_nil))))))))))))), ?_⟩
  rintro rs r ⟨R, S, d, rfl, rfl, sR, sS, hpl, hn⟩
  refine ds_seq (ds_drop (de_call (da_d (de_varPd rfl) (da_d (de_var rfl) da_nil)) ⟨R, S, rfl, rfl, sR.v, sS.v, hpl⟩)) ?_
  rcases hn with ⟨nst, l, rfl, nd1, hl, hs, hg⟩ | ⟨nn, u, rfl, hu, hw, hul, hsh⟩
  · have isi : isiB (.tup [.str "nested", .tup (l.map eArr)]) "tuple" = true := sum_isi_tup _
    refine ds_seq (ds_no (DT.to (dt_or (dt_not (dt_B (de_isi (de_var rfl)))) fun _ => (dt_test (de_neI (de_len (by first | exact .inl (da_d (de_var rfl) da_nil) | exact .inr (da_d (de_var rfl) da_nil))) de_int))) (by rw [isi]; rfl)) ds_next) ?_
    refine ds_seq (ds_unp (de_var rfl) (gok_tp (gsok_cons (gsok_cons gsok_nil))) rfl) ?_
    exact ds_stop (ds_yes (DT.to (dt_test (de_eqS (de_var rfl) de_str)) rfl) (ds_ret (de_call (da_p (de_varP rfl) (da_d (de_var rfl) (da_d (de_var rfl) (da_p (de_cp fun _ => ⟨fw, w1, rfl⟩) da_nil)))) ⟨R, S, l, rfl, rfl, sR.v, sS.v, nd1, by omega, hs, fun a ha => ⟨⟨(hg a ha).1, good99 (hg a ha).1⟩, (hg a ha).2⟩⟩)))
  · have isi : isiB (.tup [.str "apart", eNats u]) "tuple" = true := sum_isi_tup _
    refine ds_seq (ds_no (DT.to (dt_or (dt_not (dt_B (de_isi (de_var rfl)))) fun _ => (dt_test (de_neI (de_len (by first | exact .inl (da_d (de_var rfl) da_nil) | exact .inr (da_d (de_var rfl) da_nil))) de_int))) (by rw [isi]; rfl)) ds_next) ?_
    refine ds_seq (ds_unp (de_var rfl) (gok_tp (gsok_cons (gsok_cons gsok_nil))) rfl) ?_
    refine ds_seq (ds_no (DT.to (dt_test (de_eqS (de_var rfl) de_str)) (by decide)) ds_next) ?_
    refine ds_seq (ds_no (DT.to (dt_test (de_neS (de_var rfl) de_str)) (by decide)) ds_next) ?_
    refine ds_seq (ds_setL (de_call (da_p (de_varP rfl) (da_d (de_var rfl) (da_d (de_var rfl) da_nil))) ⟨R, S, u, rfl, rfl, sR.v, sS.v, hu, by omega⟩)) ?_
    have gw := good_walk (Good.start sR.v sS.v) u
    refine ds_ret (DE.to (de_and (b := true) (de_notNL (de_varL rfl)) fun _ => de_not (de_call (da_d (DE.to (de_call (da_d (de_call (da_d (de_varPd rfl) (da_d (de_var rfl) da_nil)) ⟨R, S, rfl, rfl, sR.v, sS.v⟩) (da_r (de_varL rfl) da_nil)) ⟨_, _, rfl, rfl, walk_four u _⟩) (congrArg DL.R.d (walk_last u))) da_nil) ⟨_, rfl, rfl, gw.o1.len⟩)) (by rw [decide_eq_false hw]; rfl))
end
end DL
-- part GM6
set_option linter.all false
/-! the rules that the law builds, without the drawing. -/
namespace G
def front (p n : Nat) : List Nat := p :: (List.range n).filter fun x => !decide ((x : Int) = (p : Int))
def oneL (n : Nat) (hs : List (List Nat)) (out : Nat) (cs : List (List Nat)) : Rule := ⟨n, [⟨hs.map fun o => (o, 0), out, cs.map fun o => (o, 0)⟩]⟩
def fwd (n : Nat) : List (List Nat) := (List.range n).map fun p => front p n
def queueR (n : Nat) : Rule := oneL n (List.replicate n (List.range n)) (n - 1) (fwd n)
def recentR (n : Nat) : Rule := oneL n (fwd n) (n - 1) (fwd n)
def newestR (n : Nat) : Rule := oneL n (fwd n) 0 (fwd n)
theorem oneL_v {n out : Nat} {hs cs : List (List Nat)} (h0 : 1 ≤ n) (h1 : n ≤ 4) (hh : hs.length = n) (hc : cs.length = n) (ho : out < n) (ph : ∀ o ∈ hs, o.Perm (List.range n)) (pc : ∀ o ∈ cs, o.Perm (List.range n)) : VRule (oneL n hs out cs) := by
  refine ⟨h0, h1, Nat.le_refl 1, (show 1 ≤ 16 by decide), fun L hL => ?_⟩
  rw [List.mem_singleton.mp hL]
  refine ⟨by simpa [oneL] using hh, by simpa [oneL] using hc, ho, fun m hm => ?_, fun m hm => ?_⟩
  · obtain ⟨o, h, rfl⟩ := List.mem_map.mp hm
    exact ⟨ph o h, by show 0 < 1; decide⟩
  · obtain ⟨o, h, rfl⟩ := List.mem_map.mp hm
    exact ⟨pc o h, by show 0 < 1; decide⟩
theorem fwd_perm : ∀ n, n ≤ 3 → ∀ o ∈ fwd n, o.Perm (List.range n) := by
  intro n hn
  have : n = 0 ∨ n = 1 ∨ n = 2 ∨ n = 3 := by omega
  rcases this with e | e | e | e <;> subst e <;> decide
theorem queue_small {n : Nat} (h0 : 1 ≤ n) (h1 : n ≤ 3) : Small (queueR n) :=
  ⟨oneL_v h0 (by omega) (by simp) (by simp [fwd]) (by omega) (fun o h => by rw [(List.mem_replicate.mp h).2]) (fwd_perm n h1), h1, by show 1 ≤ 2; decide⟩
theorem recent_small {n : Nat} (h0 : 1 ≤ n) (h1 : n ≤ 3) : Small (recentR n) :=
  ⟨oneL_v h0 (by omega) (by simp [fwd]) (by simp [fwd]) (by omega) (fwd_perm n h1) (fwd_perm n h1), h1, by show 1 ≤ 2; decide⟩
theorem newest_small {n : Nat} (h0 : 1 ≤ n) (h1 : n ≤ 3) : Small (newestR n) :=
  ⟨oneL_v h0 (by omega) (by simp [fwd]) (by simp [fwd]) (by omega) (fwd_perm n h1) (fwd_perm n h1), h1, by show 1 ≤ 2; decide⟩
end G
-- part W13
set_option linter.all false
set_option maxRecDepth 100000
set_option maxHeartbeats 2000000
namespace DL
open PySem PySem.Spec PyProof.Rows L2
section
variable {P : Program} {w : World} {K : PySem.W.Frag} {mg : Str → Option Value} {base : Heap}
abbrev N_law_front : List Str := ["_law_place", "_law_places", "_law_one"]
def rel_law_front (rs : List R) (r : R) : Prop := ∃ (p n : Nat), rs = [.d (.int (p : Int)), .d (.int (n : Int))] ∧ r = .d (eNats (G.front p n)) ∧ (n ≤ 1000)
theorem sc_law_front : FnScope N_law_front ["_law_place", "_law_places"] (defScope (top 66)) := ⟨rfl, rfl, rfl, by decide +kernel, rfl, by decide +kernel, by decide +kernel⟩
theorem ok_law_front (T : Txt K mg) : Con P w K mg base "_law_front" ["_law_place", "_law_places"] 1 (rel_law_front) := by
  refine con_of (N := N_law_front) T.f_law_front sc_law_front (fun _ _ _ _ _ _ us hl => match us, hl with | [_, _], _ => rfl) (fun rs r h => ?_) (fun f cdv A outer s H E hr => ?_)
  · obtain ⟨_, _, rfl, rfl, _⟩ := h; exact ⟨rfl, by simp [ArgOk]⟩
  have nd := sc_law_front.nd
  refine ⟨_, (pss_one (ps_ret (pe_op (kx_catF K) (pe_tupF (pa_cons (pv 0) pa_nil)) (pe_callTy (kx_tup K) rfl T.n_tuple (by rfl) (pa_cons (pe_lc (own := [("_law_one", 2)]) rfl nd (pi_range1 rfl T.n_range (pa_cons (pv 1) pa_nil)) (blkOk_by (N := N_law_front) (sc := defScope (top 66)) (by decide +kernel)) (fun _ _ _ _ _ => (pg_name (i := 2) nd rfl (Or.inl rfl))) (fun _ _ _ _ _ => (pts_one (pt_cmpR op_ne (pv 2) (pv 0) (nomark _)))) (fun _ _ _ _ _ => (pv 2))) pa_nil))))), ?_⟩
  rintro rs r ⟨p, n, rfl, rfl, hn⟩
  have hl : ((List.range n).filter fun x : Nat => !decide ((x : Int) = (p : Int))).length ≤ n := Nat.le_trans (List.length_filter_le _ _) (by rw [List.length_range]; exact Nat.le_refl n)
  refine ds_ret (DE.to (de_cat (de_tup (dd_cons (de_var rfl) dd_nil)) (de_tuple (da_l (de_filN (m := n) (fun x => !decide ((x : Int) = (p : Int))) (fun x => .int (x : Int)) (dd_cons (de_var rfl) dd_nil) rfl (by omega) (fun a _ => dt_test (de_neI (de_var rfl) (de_var rfl))) (fun a _ _ => de_var rfl)) da_nil)) (by rw [List.length_map]; show 1 + _ ≤ _; omega)) ?_)
  unfold eNats G.front
  rw [List.map_map]
  rfl
abbrev N_law_one_label : List Str := ["_law_places", "_law_hit_orders", "_law_out", "_law_come_orders", "_law_at_hits", "_law_at_comes", "_law_one"]
def rel_law_one_label (rs : List R) (r : R) : Prop := ∃ (n out : Nat) (hs cs : List (List Nat)), rs = [.d (.int (n : Int)), .r (hs.map eNats), .d (.int (out : Int)), .r (cs.map eNats)] ∧ r = .d (eRule (G.oneL n hs out cs)) ∧ (hs.length ≤ 1000) ∧ (cs.length ≤ 1000)
theorem sc_law_one_label : FnScope N_law_one_label ["_law_places", "_law_hit_orders", "_law_out", "_law_come_orders"] (defScope (top 67)) := ⟨rfl, rfl, rfl, by decide +kernel, rfl, by decide +kernel, by decide +kernel⟩
theorem ok_law_one_label (T : Txt K mg) : Con P w K mg base "_law_one_label" ["_law_places", "_law_hit_orders", "_law_out", "_law_come_orders"] 1 (rel_law_one_label) := by
  refine con_of (N := N_law_one_label) T.f_law_one_label sc_law_one_label (fun _ _ _ _ _ _ us hl => match us, hl with | [_, _, _, _], _ => rfl) (fun rs r h => ?_) (fun f cdv A outer s H E hr => ?_)
  · obtain ⟨_, _, _, _, rfl, rfl, _, _⟩ := h; exact ⟨rfl, by simp [ArgOk]⟩
  have nd := sc_law_one_label.nd
  refine ⟨_, (pss_cons (ps_par (i := 4) (j := 5) rfl nd rfl rfl (by decide) rfl rfl (pa_cons (pe_lc (own := [("_law_one", 6)]) rfl nd (kpi_list K rfl (pv 1)) (blkOk_by (N := N_law_one_label) (sc := defScope (top 67)) (by decide +kernel)) (fun _ _ _ _ _ => (pg_name (i := 6) nd rfl (Or.inl rfl))) (fun _ _ _ _ _ => pts_nil) (fun _ _ _ _ _ => (pe_tupF (pa_cons (pv 6) (pa_cons pe_int pa_nil))))) (pa_cons (pe_lc (own := [("_law_one", 6)]) rfl nd (kpi_list K rfl (pv 3)) (blkOk_by (N := N_law_one_label) (sc := defScope (top 67)) (by decide +kernel)) (fun _ _ _ _ _ => (pg_name (i := 6) nd rfl (Or.inl rfl))) (fun _ _ _ _ _ => pts_nil) (fun _ _ _ _ _ => (pe_tupF (pa_cons (pv 6) (pa_cons pe_int pa_nil))))) pa_nil)) (by rfl)) (pss_one (ps_ret (pe_tupF (pa_cons (pv 0) (pa_cons (pe_tupF (pa_cons (pe_tupF (pa_cons (pe_callTy (kx_tup K) rfl T.n_tuple (by rfl) (pa_cons (pv 4) pa_nil)) (pa_cons (pv 2) (pa_cons (pe_callTy (kx_tup K) rfl T.n_tuple (by rfl) (pa_cons (pv 5) pa_nil)) pa_nil)))) pa_nil)) pa_nil)))))), ?_⟩
  rintro rs r ⟨n, out, hs, cs, rfl, rfl, h1, h2⟩
  refine ds_seq (ds_par2 (r1 := .l (hs.map fun o => D.tup [eNats o, .int 0])) (r2 := .l (cs.map fun o => D.tup [eNats o, .int 0])) (dv_l (de_mapL (f := eNats) (fun o => D.tup [eNats o, .int 0]) (.inl (de_varR rfl)) (fun o ho => de_tup (dd_cons (de_var rfl) (dd_cons de_int dd_nil))) (by omega))) (de_mapL (f := eNats) (fun o => D.tup [eNats o, .int 0]) (.inl (de_varR rfl)) (fun o ho => de_tup (dd_cons (de_var rfl) (dd_cons de_int dd_nil))) (by omega)) (.inl rfl)) ?_
  refine ds_ret (DE.to (de_tup (dd_cons (de_var rfl) (dd_cons (de_tup (dd_cons (de_tup (dd_cons (de_tuple (da_r (de_varL rfl) da_nil)) (dd_cons (de_var rfl) (dd_cons (de_tuple (da_r (de_varL rfl) da_nil)) dd_nil)))) dd_nil)) dd_nil))) ?_)
  unfold eRule G.oneL
  simp only [List.map_cons, List.map_nil, eLab, List.map_map]
  rfl
abbrev N_law_queue : List Str := ["_law_places", "_law_forward", "_law_place"]
def rel_law_queue (rs : List R) (r : R) : Prop := ∃ (n : Nat), rs = [.d (.int (n : Int))] ∧ r = .d (eRule (G.queueR n)) ∧ (1 ≤ n) ∧ (n ≤ 100)
theorem sc_law_queue : FnScope N_law_queue ["_law_places"] (defScope (top 68)) := ⟨rfl, rfl, rfl, by decide +kernel, rfl, by decide +kernel, by decide +kernel⟩
theorem ok_law_queue (T : Txt K mg) : Con P w K mg base "_law_queue" ["_law_places"] 2 (rel_law_queue) := by
  refine con_of (N := N_law_queue) T.f_law_queue sc_law_queue (fun _ _ _ _ _ _ us hl => match us, hl with | [_], _ => rfl) (fun rs r h => ?_) (fun f cdv A outer s H E hr => ?_)
  · obtain ⟨_, rfl, rfl, _, _⟩ := h; exact ⟨rfl, by simp [ArgOk]⟩
  have nd := sc_law_queue.nd
  refine ⟨_, (pss_cons (ps_setLc (own := [("_law_place", 2)]) (i := 1) rfl nd rfl rfl (sw_true rfl rfl rfl (by decide +kernel)) (pi_range1 rfl T.n_range (pa_cons (pv 0) pa_nil)) (blkOk_by (N := N_law_queue) (sc := defScope (top 68)) (by decide +kernel)) (fun _ _ _ _ _ => (pg_name (i := 2) nd rfl (Or.inl rfl))) (fun _ _ _ _ _ => pts_nil) (fun _ _ _ _ _ => (pe_con (ok_law_front T) hr rfl (pa_cons (pv 2) (pa_cons (pv 0) pa_nil))))) (pss_one (ps_ret (pe_con (ok_law_one_label T) hr rfl (pa_cons (pv 0) (pa_cons (pe_op op_rep (pe_lst (pa_cons (pe_tupRgF rfl rfl T.n_tuple (prg_1 rfl T.n_range (pv 0))) pa_nil)) (pv 0)) (pa_cons (pe_op op_sub (pv 0) pe_int) (pa_cons (pv 1) pa_nil)))))))), ?_⟩
  rintro rs r ⟨n, rfl, rfl, h1, h2⟩
  refine ds_seq (ds_setL (xs := (G.fwd n).map eNats) (DE.to (de_mapN (m := n) (fun p => eNats (G.front p n)) (dd_cons (de_var rfl) dd_nil) rfl (by omega) (fun p hp => de_call (da_d (de_var rfl) (da_d (de_var rfl) da_nil)) ⟨p, n, rfl, rfl, by omega⟩)) (by unfold G.fwd; rw [List.map_map]; rfl))) ?_
  have fl : (G.fwd n).length = n := by simp [G.fwd]
  have e : (List.replicate n [D.tup ((ran n).map D.int)]).flatten = (List.replicate n (List.range n)).map eNats := by
    rw [List.map_replicate, List.flatten_replicate_singleton]
    rfl
  refine ds_ret (DE.to (de_call (da_d (de_var rfl) (da_r (de_r (DE.to (de_repL (k := n) (de_r (de_lst (dd_cons (de_tupRg (de_var rfl) (by omega)) dd_nil))) (de_var rfl) (by omega) (by simp; omega)) (congrArg DL.R.l e))) (da_d (DE.to (de_I0 (de_var rfl) de_int) (congrArg (fun x => DL.R.d (.int x)) (show (n : Int) - 1 = ((n - 1 : Nat) : Int) by omega))) (da_r (de_varL rfl) da_nil)))) ⟨n, n - 1, List.replicate n (List.range n), G.fwd n, rfl, rfl, by simp; omega, by omega⟩) rfl)
abbrev N_law_recent : List Str := ["_law_places", "_law_forward", "_law_place"]
def rel_law_recent (rs : List R) (r : R) : Prop := ∃ (n : Nat), rs = [.d (.int (n : Int))] ∧ r = .d (eRule (G.recentR n)) ∧ (1 ≤ n) ∧ (n ≤ 100)
theorem sc_law_recent : FnScope N_law_recent ["_law_places"] (defScope (top 69)) := ⟨rfl, rfl, rfl, by decide +kernel, rfl, by decide +kernel, by decide +kernel⟩
theorem ok_law_recent (T : Txt K mg) : Con P w K mg base "_law_recent" ["_law_places"] 2 (rel_law_recent) := by
  refine con_of (N := N_law_recent) T.f_law_recent sc_law_recent (fun _ _ _ _ _ _ us hl => match us, hl with | [_], _ => rfl) (fun rs r h => ?_) (fun f cdv A outer s H E hr => ?_)
  · obtain ⟨_, rfl, rfl, _, _⟩ := h; exact ⟨rfl, by simp [ArgOk]⟩
  have nd := sc_law_recent.nd
  refine ⟨_, (pss_cons (ps_setLc (own := [("_law_place", 2)]) (i := 1) rfl nd rfl rfl (sw_true rfl rfl rfl (by decide +kernel)) (pi_range1 rfl T.n_range (pa_cons (pv 0) pa_nil)) (blkOk_by (N := N_law_recent) (sc := defScope (top 69)) (by decide +kernel)) (fun _ _ _ _ _ => (pg_name (i := 2) nd rfl (Or.inl rfl))) (fun _ _ _ _ _ => pts_nil) (fun _ _ _ _ _ => (pe_con (ok_law_front T) hr rfl (pa_cons (pv 2) (pa_cons (pv 0) pa_nil))))) (pss_one (ps_ret (pe_con (ok_law_one_label T) hr rfl (pa_cons (pv 0) (pa_cons (pv 1) (pa_cons (pe_op op_sub (pv 0) pe_int) (pa_cons (pv 1) pa_nil)))))))), ?_⟩
  rintro rs r ⟨n, rfl, rfl, h1, h2⟩
  refine ds_seq (ds_setL (xs := (G.fwd n).map eNats) (DE.to (de_mapN (m := n) (fun p => eNats (G.front p n)) (dd_cons (de_var rfl) dd_nil) rfl (by omega) (fun p hp => de_call (da_d (de_var rfl) (da_d (de_var rfl) da_nil)) ⟨p, n, rfl, rfl, by omega⟩)) (by unfold G.fwd; rw [List.map_map]; rfl))) ?_
  have fl : (G.fwd n).length = n := by simp [G.fwd]
  refine ds_ret (DE.to (de_call (da_d (de_var rfl) (da_r (de_varL rfl) (da_d (DE.to (de_I0 (de_var rfl) de_int) (congrArg (fun x => DL.R.d (.int x)) (show (n : Int) - 1 = ((n - 1 : Nat) : Int) by omega))) (da_r (de_varL rfl) da_nil)))) ⟨n, n - 1, G.fwd n, G.fwd n, rfl, rfl, by omega, by omega⟩) rfl)
abbrev N_law_newest : List Str := ["_law_places", "_law_forward", "_law_place"]
def rel_law_newest (rs : List R) (r : R) : Prop := ∃ (n : Nat), rs = [.d (.int (n : Int))] ∧ r = .d (eRule (G.newestR n)) ∧ (1 ≤ n) ∧ (n ≤ 100)
theorem sc_law_newest : FnScope N_law_newest ["_law_places"] (defScope (top 70)) := ⟨rfl, rfl, rfl, by decide +kernel, rfl, by decide +kernel, by decide +kernel⟩
theorem ok_law_newest (T : Txt K mg) : Con P w K mg base "_law_newest" ["_law_places"] 2 (rel_law_newest) := by
  refine con_of (N := N_law_newest) T.f_law_newest sc_law_newest (fun _ _ _ _ _ _ us hl => match us, hl with | [_], _ => rfl) (fun rs r h => ?_) (fun f cdv A outer s H E hr => ?_)
  · obtain ⟨_, rfl, rfl, _, _⟩ := h; exact ⟨rfl, by simp [ArgOk]⟩
  have nd := sc_law_newest.nd
  refine ⟨_, (pss_cons (ps_setLc (own := [("_law_place", 2)]) (i := 1) rfl nd rfl rfl (sw_true rfl rfl rfl (by decide +kernel)) (pi_range1 rfl T.n_range (pa_cons (pv 0) pa_nil)) (blkOk_by (N := N_law_newest) (sc := defScope (top 70)) (by decide +kernel)) (fun _ _ _ _ _ => (pg_name (i := 2) nd rfl (Or.inl rfl))) (fun _ _ _ _ _ => pts_nil) (fun _ _ _ _ _ => (pe_con (ok_law_front T) hr rfl (pa_cons (pv 2) (pa_cons (pv 0) pa_nil))))) (pss_one (ps_ret (pe_con (ok_law_one_label T) hr rfl (pa_cons (pv 0) (pa_cons (pv 1) (pa_cons pe_int (pa_cons (pv 1) pa_nil)))))))), ?_⟩
  rintro rs r ⟨n, rfl, rfl, h1, h2⟩
  refine ds_seq (ds_setL (xs := (G.fwd n).map eNats) (DE.to (de_mapN (m := n) (fun p => eNats (G.front p n)) (dd_cons (de_var rfl) dd_nil) rfl (by omega) (fun p hp => de_call (da_d (de_var rfl) (da_d (de_var rfl) da_nil)) ⟨p, n, rfl, rfl, by omega⟩)) (by unfold G.fwd; rw [List.map_map]; rfl))) ?_
  have fl : (G.fwd n).length = n := by simp [G.fwd]
  refine ds_ret (DE.to (de_call (da_d (de_var rfl) (da_r (de_varL rfl) (da_d de_int (da_r (de_varL rfl) da_nil)))) ⟨n, 0, G.fwd n, G.fwd n, rfl, rfl, by omega, by omega⟩) rfl)
end
end DL
-- part W14
set_option linter.all false
set_option maxRecDepth 100000
set_option maxHeartbeats 2000000
namespace DL
open PySem PySem.Spec PyProof.Rows L2
section
variable {P : Program} {w : World} {K : PySem.W.Frag} {mg : Str → Option Value} {base : Heap}
theorem eqv_nil (l : List Int) : PyData.eqv (.list (toPyL (l.map D.int))) (.list (toPyL [])) = decide (l = []) := by
  rw [toPyL_ints]
  cases l with
  | nil => simp [toPyL, PyData.eqv, PyData.eqvAll]
  | cons x l => simp [toPyL, PyData.eqv, PyData.eqvAll]
theorem lacks_iff (a b : List Int) : (!decide ((thingsOf a).filter (fun t => !decide (t ∈ thingsOf b)) = [])) = decide (¬ G.Within ((a, 0), (b, 0))) := by
  have h : (thingsOf a).filter (fun t => !decide (t ∈ thingsOf b)) = [] ↔ G.Within ((a, 0), (b, 0)) := by
    rw [List.filter_eq_nil_iff]
    constructor
    · intro h t ht
      rcases Classical.em (t = -1) with e | e
      · exact .inl e
      · have := h t (mem_thingsOf.mpr ⟨ht, e⟩)
        simp only [Bool.not_eq_true', decide_eq_false_iff_not, Classical.not_not] at this
        exact .inr (mem_thingsOf.mp this).1
    · intro h t ht
      obtain ⟨h1, h2⟩ := mem_thingsOf.mp ht
      rcases h t h1 with e | e
      · exact absurd e h2
      · simp only [Bool.not_eq_true', decide_eq_false_iff_not, Classical.not_not]
        exact mem_thingsOf.mpr ⟨e, h2⟩
  by_cases c : G.Within ((a, 0), (b, 0))
  · rw [decide_eq_true (h.mpr c), decide_eq_false (fun z => z c)]; rfl
  · rw [decide_eq_false (fun z => c (h.mp z)), decide_eq_true c]; rfl
theorem things_len (R : G.Rule) (v : VR R) {ts : List Int} (q : Req ts) : (thingsOf (G.run R ts).1).length ≤ 4 := by
  rw [(thingsOf_perm _).length_eq]
  exact Nat.le_trans (List.length_filter_le _ _) (okRun v q.lo).len

abbrev N_law_lacks : List Str := ["_law_one", "_law_other", "_law_wishes", "_law_there", "_law_thing"]
def rel_law_lacks (rs : List R) (r : R) : Prop := ∃ (R S : G.Rule) (ts : List Int), rs = [.d (eRule R), .d (eRule S), .d (eInts ts)] ∧ r = .d (.bl (decide (¬ G.Within (G.run R ts, G.run S ts)))) ∧ (VR R) ∧ (VR S) ∧ (Req ts)
theorem sc_law_lacks : FnScope N_law_lacks ["_law_one", "_law_other", "_law_wishes"] (defScope (top 76)) := ⟨rfl, rfl, rfl, by decide +kernel, rfl, by decide +kernel, by decide +kernel⟩
theorem ok_law_lacks (T : Txt K mg) : Con P w K mg base "_law_lacks" ["_law_one", "_law_other", "_law_wishes"] 11 (rel_law_lacks) := by
  refine con_of (N := N_law_lacks) T.f_law_lacks sc_law_lacks (fun _ _ _ _ _ _ us hl => match us, hl with | [_, _, _], _ => rfl) (fun rs r h => ?_) (fun f cdv A outer s H E hr => ?_)
  · obtain ⟨_, _, _, rfl, rfl, _, _, _⟩ := h; exact ⟨rfl, by simp [ArgOk]⟩
  have nd := sc_law_lacks.nd
  refine ⟨_, (pss_cons (ps_set (i := 3) nd rfl (Or.inr rfl) (pe_con (ok_kept T) hr rfl (pa_cons (pv 1) (pa_cons (pv 2) pa_nil)))) (pss_one (ps_ret (pe_cmpR (kx_neD K rfl hr.units) (pe_lc (own := [("_law_thing", 4)]) rfl nd (kpi_tup K rfl (pe_con (ok_kept T) hr rfl (pa_cons (pv 0) (pa_cons (pv 2) pa_nil)))) (blkOk_by (N := N_law_lacks) (sc := defScope (top 76)) (by decide +kernel)) (fun _ _ _ _ _ => (pg_name (i := 4) nd rfl (Or.inl rfl))) (fun _ _ _ _ _ => (pts_one (pt_cmpR (kx_notin K) (pv 4) (pv 3) (by rfl)))) (fun _ _ _ _ _ => (pv 4))) (pe_lst pa_nil) (nomark _))))), ?_⟩
  rintro rs r ⟨R, S, ts, rfl, rfl, v1, v2, q⟩
  refine ds_seq (ds_set (x := eInts (thingsOf (G.run S ts).1)) (de_call (da_d (de_var rfl) (da_d (de_var rfl) da_nil)) ⟨S, ts, rfl, rfl, v2, q⟩)) ?_
  refine ds_ret (DE.to (de_neLL (xs := ((thingsOf (G.run R ts).1).filter (fun t => !decide (t ∈ thingsOf (G.run S ts).1))).map D.int) (ys := []) (de_r (de_filT (l := thingsOf (G.run R ts).1) (f := D.int) (fun t => !decide (t ∈ thingsOf (G.run S ts).1)) D.int (de_call (da_d (de_var rfl) (da_d (de_var rfl) da_nil)) ⟨R, ts, rfl, rfl, v1, q⟩) (fun a ha => dt_test (de_notin (de_var rfl) (de_var rfl))) (fun a ha _ => de_var rfl) (by have := things_len R v1 q; omega))) (de_r (de_lst dd_nil)) (shaped_ints _) (by rfl) (eqv_nil _)) (congrArg (fun x => DL.R.d (.bl x)) (lacks_iff _ _)))
end
end DL
-- part DT8
set_option linter.all false
set_option maxRecDepth 100000
set_option maxHeartbeats 4000000
/-! a list of our own, from now on only read. -/
namespace DL
open PySem PySem.Spec PyProof.Rows L2
theorem ds_share {t : TS} {δ : Env} {o : Out} {n : Nat} {xs : List D} (hn : δ[n]? = some (some (.l xs))) (h : DS t (δ.set n (some (.r xs))) o) : DS t δ o := fun σ H R0 E q => by
  have nl : n < δ.length := (List.getElem?_eq_some_iff.mp hn).1
  have old : ∀ i r, i ≠ n → (δ.set n (some (.r xs)))[i]? = some (some r) → δ[i]? = some (some r) := fun i r hi e => by
    rw [List.getElem?_set_ne (Ne.symm hi)] at e
    exact e
  have at_n : (δ.set n (some (R.r xs)))[n]? = some (some (.r xs)) := by rw [List.getElem?_set_self nl]
  have sub : ∀ a, Own σ (δ.set n (some (.r xs))) a → Own σ δ a := fun a ⟨i, x, h1, h2, h3⟩ => by
    by_cases e : i = n
    · subst e
      rw [at_n] at h1
      cases h1
      cases h2
    · exact ⟨i, x, old i x e h1, h2, h3⟩
  have R1 : Rep σ H (δ.set n (some (.r xs))) := by
    refine ⟨by rw [List.length_set]; exact R0.len, fun i r hr => ?_, fun i j x y a ij h1 h2 h3 h4 => ?_⟩
    · by_cases e : i = n
      · subst e
        rw [at_n] at hr
        cases hr
        obtain ⟨v, hv, a, vs, ev, e2, d⟩ := R0.val i _ hn
        subst ev
        refine ⟨_, hv, a, vs, rfl, fun ⟨j, x, h1, h2, h3⟩ => ?_, e2, d⟩
        by_cases ej : j = i
        · subst ej
          rw [at_n] at h1
          cases h1
          cases h2
        · exact R0.dist i j (.l xs) x a (Ne.symm ej) hn rfl (old j x ej h1) h2 hv h3
      · obtain ⟨v, hv, z⟩ := R0.val i r (old i r e hr)
        refine ⟨v, hv, ?_⟩
        cases r with
        | d x => exact z
        | l x => exact z
        | k x => exact z
        | r x =>
          obtain ⟨a, vs, e1, no, e2, d⟩ := z
          exact ⟨a, vs, e1, fun w => no (sub a w), e2, d⟩
        | p φ => exact fun H' k => z H' (k.mono sub)
    · by_cases e1 : i = n
      · subst e1
        rw [at_n] at h1
        cases h1
        cases h2
      · by_cases e2 : j = n
        · subst e2
          rw [at_n] at h3
          cases h3
          cases h4
        · exact R0.dist i j x y a ij (old i x e1 h1) h2 (old j y e2 h3) h4
  exact h σ H R1 E (q.later ⟨fun b o e _ => e, fun a z => .inl (sub a z)⟩)
end DL
-- part GM7
set_option linter.all false
set_option maxRecDepth 100000
/-! all requests of up to five. -/
namespace G
def mxR (row : List Int) : Int := (row ++ [-1]).foldl max (-1)
def nextRow (row : List Int) : List (List Int) := (List.range (mxR row + 2).toNat).map fun t : Nat => row ++ [(t : Int)]
def layerK : Nat → List (List Int)
  | 0 => [[]]
  | k + 1 => (layerK k).flatMap nextRow
def foundK : Nat → List (List Int)
  | 0 => [[]]
  | k + 1 => foundK k ++ layerK (k + 1)
def rowFine (row : List Int) : Bool := decide (row.length ≤ 5) && row.all (fun t => decide (0 ≤ t) && decide (t ≤ 4)) && decide (mxR row ≤ 4) && decide (-1 ≤ mxR row) && decide (mxR row ∈ row ++ [-1]) && (row ++ [-1]).all fun y => decide (y ≤ mxR row)
theorem layers_fine : ∀ k ∈ List.range 6, (layerK k).length ≤ 60 ∧ (foundK k).length ≤ 90 ∧ ∀ row ∈ layerK k, rowFine row = true := by decide +kernel
theorem found_fine : ∀ row ∈ foundK 5, rowFine row = true := by decide +kernel
end G
-- part W15
set_option linter.all false
set_option maxRecDepth 100000
set_option maxHeartbeats 2000000
namespace DL
open PySem PySem.Spec PyProof.Rows L2
section
variable {P : Program} {w : World} {K : PySem.W.Frag} {mg : Str → Option Value} {base : Heap}
abbrev N_law_rows_up_to : List Str := ["_law_most", "_law_found", "_law_layer", "_law_turn", "_law_longer", "_law_row", "_law_thing"]
def rel_law_rows_up_to (rs : List R) (r : R) : Prop := ∃ (u : Unit), rs = [.d (.int 5)] ∧ r = .l ((G.foundK 5).map eInts) ∧ (u = u)
theorem sc_law_rows_up_to : FnScope N_law_rows_up_to ["_law_most"] (defScope (top 62)) := ⟨rfl, rfl, rfl, by decide +kernel, rfl, by decide +kernel, by decide +kernel⟩
theorem ok_law_rows_up_to (T : Txt K mg) : Con P w K mg base "_law_rows_up_to" ["_law_most"] 1 (rel_law_rows_up_to) := by
  refine con_of (N := N_law_rows_up_to) T.f_law_rows_up_to sc_law_rows_up_to (fun _ _ _ _ _ _ us hl => match us, hl with | [_], _ => rfl) (fun rs r h => ?_) (fun f cdv A outer s H E hr => ?_)
  · obtain ⟨_, rfl, rfl, _⟩ := h; exact ⟨rfl, by simp [ArgOk]⟩
  have nd := sc_law_rows_up_to.nd
  refine ⟨_, (pss_cons (ps_par (i := 1) (j := 2) rfl nd rfl rfl (by decide) rfl rfl (pa_cons (pe_lst (pa_cons (pe_tupF pa_nil) pa_nil)) (pa_cons (pe_lst (pa_cons (pe_tupF pa_nil) pa_nil)) pa_nil)) (by rfl)) (pss_cons (ps_for PassesOwn.never rfl (pi_range1 rfl T.n_range (pa_cons (pv 0) pa_nil)) (pg_name (i := 3) nd rfl (Or.inl rfl)) (pss_cons (ps_set (i := 4) nd rfl (Or.inl rfl) (pe_lst pa_nil)) (pss_cons (ps_for PassesOwn.never rfl (kpi_list K rfl (pv 2)) (pg_name (i := 5) nd rfl (Or.inr rfl)) (pss_one (ps_expr (kpe_bm K rfl PySem.F.plainAttrs_list PySem.F.slot_list_extend PySem.F.type_list_extend mt_extend (pv 4) (pa_cons (pe_lc (own := [("_law_thing", 6)]) rfl nd (pi_range1 rfl T.n_range (pa_cons (pe_op op_add (pe_callB (kx_maxT K rfl rfl hr.units) rfl T.n_max (by rfl) (pa_cons (pe_op (kx_catF K) (pv 5) (pe_tupF (pa_cons (pe_un un_neg pe_int) pa_nil))) pa_nil)) pe_int) pa_nil)) (blkOk_by (N := N_law_rows_up_to) (sc := defScope (top 62)) (by decide +kernel)) (fun _ _ _ _ _ => (pg_name (i := 6) nd rfl (Or.inl rfl))) (fun _ _ _ _ _ => pts_nil) (fun _ _ _ _ _ => (pe_op (kx_catF K) (pv 5) (pe_tupF (pa_cons (pv 6) pa_nil))))) pa_nil))))) (pss_one (ps_par (i := 1) (j := 2) rfl nd rfl rfl (by decide) rfl rfl (pa_cons (pe_op op_cat (pv 1) (pv 4)) (pa_cons (pv 4) pa_nil)) (by rfl)))))) (pss_one (ps_ret (pv 1))))), ?_⟩
  rintro rs r ⟨_, rfl, rfl, _⟩
  refine ds_seq (ds_par2 (r1 := .l [eInts []]) (r2 := .l [eInts []]) (dv_l (de_lst (dd_cons (de_tup dd_nil) dd_nil))) (de_lst (dd_cons (de_tup dd_nil) dd_nil)) (.inl rfl)) ?_
  refine ds_share (n := 2) (xs := [eInts []]) rfl ?_
  refine ds_seq (ds_forN (m := 5) gok_nm (dd_cons (de_var rfl) dd_nil) (by decide) rfl (loop_all (fun k => [some (.d (.int 5)), some (.l ((G.foundK k).map eInts)), some (.r ((G.layerK k).map eInts)), none, none, none, none]) rfl (fun k d hd => ?_))) (ds_retL rfl)
  have hk : k < 5 := by
    have := (List.getElem?_eq_some_iff.mp hd).1
    simpa [rngD] using this
  obtain ⟨f1, f2, f3⟩ := G.layers_fine k (List.mem_range.mpr (by omega))
  obtain ⟨g1, g2, _⟩ := G.layers_fine (k + 1) (List.mem_range.mpr (by omega))
  refine ⟨_, rfl, ?_⟩
  refine ds_fg (δ1 := [some (.d (.int 5)), some (.l ((G.foundK (k + 1)).map eInts)), some (.r ((G.layerK (k + 1)).map eInts)), some (.d d), some (.r ((G.layerK (k + 1)).map eInts)), none, none]) ?_ ⟨.inr rfl, .inr rfl, .inr rfl, .inl rfl, .inl rfl, .inl rfl, .inl rfl, trivial⟩
  refine ds_seq (ds_setL (xs := []) (de_lst dd_nil)) ?_
  refine ds_seq (ds_forR (n := 2) (ds := (G.layerK k).map eInts) gok_nm rfl (loop_all (fun j => [some (.d (.int 5)), some (.l ((G.foundK k).map eInts)), some (.r ((G.layerK k).map eInts)), some (.d d), some (.l ((((G.layerK k).take j).flatMap G.nextRow).map eInts)), none, none]) rfl (fun j e he => ?_))) ?_
  · rw [List.getElem?_map] at he
    obtain ⟨row, hr, rfl⟩ := Option.map_eq_some_iff.mp he
    have rf := f3 row (List.mem_of_getElem? hr)
    simp only [G.rowFine, Bool.and_eq_true, decide_eq_true_eq, List.all_eq_true] at rf
    obtain ⟨⟨⟨⟨⟨r1, r2⟩, r3⟩, r4⟩, r5⟩, r6⟩ := rf
    refine ⟨_, rfl, ?_⟩
    refine ds_fg (δ1 := [some (.d (.int 5)), some (.l ((G.foundK k).map eInts)), some (.r ((G.layerK k).map eInts)), some (.d d), some (.l ((((G.layerK k).take (j + 1)).flatMap G.nextRow).map eInts)), some (.d (eInts row)), none]) ?_ ⟨.inr rfl, .inr rfl, .inr rfl, .inr rfl, .inr rfl, .inl rfl, .inl rfl, trivial⟩
    have ex : ((((G.layerK k).take (j + 1)).flatMap G.nextRow).map eInts) = ((((G.layerK k).take j).flatMap G.nextRow).map eInts) ++ (List.range (G.mxR row + 2).toNat).map fun t : Nat => eInts (row ++ [(t : Int)]) := by
      rw [List.take_succ, hr, List.flatMap_append, List.map_append]
      simp [G.nextRow, List.map_map]
    rw [ex]
    refine ds_extend (ys := (List.range (G.mxR row + 2).toNat).map fun t : Nat => eInts (row ++ [(t : Int)])) rfl (de_mapN (m := (G.mxR row + 2).toNat) (fun t : Nat => eInts (row ++ [(t : Int)])) (dd_cons (DE.to (de_I0 (de_maxT (ns := row ++ [-1]) (m := G.mxR row) (da_d (DE.to (de_cat (de_var rfl) (de_tup (dd_cons (de_neg de_int) dd_nil)) (by rw [List.length_map]; show _ + 1 ≤ _; omega)) (by rw [List.map_append]; rfl)) da_nil) r5 r6) de_int) rfl) dd_nil) (by omega) (by omega) (fun t ht => DE.to (de_cat (de_var rfl) (de_tup (dd_cons (de_var rfl) dd_nil)) (by rw [List.length_map]; show _ + 1 ≤ _; omega)) (by unfold eInts; rw [List.map_append]; rfl))) ?_
    have e1 := congrArg List.length ex
    rw [List.length_append, List.length_map] at e1
    have e2 : (((G.layerK k).take (j + 1)).flatMap G.nextRow).length ≤ (G.layerK (k + 1)).length := by
      show _ ≤ ((G.layerK k).flatMap G.nextRow).length
      conv => rhs; rw [← List.take_append_drop (j + 1) (G.layerK k), List.flatMap_append, List.length_append]
      omega
    omega
  · have et : (G.layerK k).take ((G.layerK k).map eInts).length = G.layerK k := by rw [List.length_map]; exact List.take_length
    rw [et]
    refine ds_share (n := 4) rfl ?_
    exact ds_par2r (n := 1) (m := 2) (k := 4) (r1 := .l ((G.foundK (k + 1)).map eInts)) (dv_l (DE.to (de_catL (de_varL rfl) (de_varR rfl) (by rw [List.length_map, List.length_map]; show _ + (G.layerK (k + 1)).length ≤ _; omega)) (by rw [← List.map_append]; rfl))) rfl
end
end DL
-- part W16
set_option linter.all false
set_option maxRecDepth 100000
set_option maxHeartbeats 4000000
/-! the pen: a list of three ints that the draws write. -/
namespace DL
open PySem PySem.Spec PyProof.Rows L2
/-- a pen that has stirred at most N times -/
def PenAt (N : Nat) (H : Hp) (p : Addr) : Prop := ∃ a b c : Int, H p = some (.lst [.int a, .int b, .int c]) ∧ 0 ≤ b ∧ b < 2147483648 ∧ 0 ≤ c ∧ c ≤ N
def SOff (p : Addr) (H H' : Hp) : Prop := ∀ b o, b ≠ p → H b = some o → H' b = some o
def spDraw : Sp := fun vs H Q _ => ∃ (p : Addr) (m : Int) (N : Nat), vs = [.ref p, .int m] ∧ PenAt N H p ∧ N ≤ 1000000 ∧ 1 ≤ m ∧ m ≤ 1000 ∧ ∀ (r : Int) H', SOff p H H' → PenAt (N + 1) H' p → 0 ≤ r → r < m → Q (.int r) H'
theorem pen_ix {K : PySem.W.Frag} {σ : L2.St} {H : Hp} {Q : VK} {p : Addr} {a b c : Int} (hs : σ[0]? = some (some (.ref p))) (hp : H p = some (.lst [.int a, .int b, .int c])) (k : Nat) (x : Int) (hx : [a, b, c][k]? = some x) (q : Q (.int x) H) : tOp (rIxL K) (tVar 0) (tC (.int (k : Int))) σ H Q := by
  have hx2 : atI [V.int a, .int b, .int c] (k : Int) = some (.int x) := by
    match k, hx with
    | 0, h => cases h; rfl
    | 1, h => cases h; rfl
    | 2, h => cases h; rfl
  exact ⟨.ref p, hs, p, _, (k : Int), .int x, rfl, rfl, SqL.of hp, hx2, q⟩
theorem soff_upd {p : Addr} {H : Hp} {o : HO} : SOff p H (upd H p o) := fun b u hb e => by rw [upd_ne hb]; exact e
section
variable {P : Program} {w : World} {K : PySem.W.Frag} {mg : Str → Option Value} {base : Heap}
abbrev N_law_draw : List Str := ["_law_pen_here", "_law_many", "_law_digit", "_law_stir"]
theorem sc_law_draw : FnScope N_law_draw ["_law_pen_here", "_law_many"] (defScope (top 65)) := ⟨rfl, rfl, rfl, by decide +kernel, rfl, by decide +kernel, by decide +kernel⟩
theorem ok_law_draw (T : Txt K mg) : Con0 P w K mg base "_law_draw" ["_law_pen_here", "_law_many"] 1 spDraw := by
  obtain ⟨f, fd, F, hm⟩ := T.f_law_draw
  refine ⟨f, fd, hm, F.kp, F.binds fun _ _ _ _ _ _ us hl => match us, hl with | [_, _], _ => rfl, F.ok sc_law_draw (fun vs H Q E h => ?_) (fun cdv A outer s H vs Q E hr h => ?_)⟩
  · obtain ⟨p, m, N, rfl, _⟩ := h
    rfl
  obtain ⟨p, m, N, rfl, ⟨a, b, c, hp, b0, b1, c0, c1⟩, hN, m1, m2, q⟩ := h
  have nd := sc_law_draw.nd
  refine ⟨_, pss_cons (ps_if (pt_cmpR op_gt (pe_ix (kx_ixL K) (pv 0) pe_int (fun _ _ => rfl)) pe_int (nomark _)) (pss_cons (ps_set (i := 2) nd rfl (Or.inl rfl) (pe_op op_mod (pe_ix (kx_ixL K) (pv 0) pe_int (fun _ _ => rfl)) (pv 1))) (pss_cons (ps_asg (pe_op op_fdivW (pe_ix (kx_ixL K) (pv 0) pe_int (fun _ _ => rfl)) (pv 1)) (pg_sub (pv 0) pe_int set_list)) (pss_one (ps_ret (pv 2))))) pss_nil)
    (pss_cons (ps_asg (pe_op op_add (pe_ix (kx_ixL K) (pv 0) pe_int (fun _ _ => rfl)) pe_int) (pg_sub (pv 0) pe_int set_list))
    (pss_cons (ps_set (i := 3) nd rfl (Or.inl rfl) (pe_op op_mod (pe_op op_mulW (pe_op op_add (pe_ix (kx_ixL K) (pv 0) pe_int (fun _ _ => rfl)) (pe_op op_mulW pe_int (pe_ix (kx_ixL K) (pv 0) pe_int (fun _ _ => rfl)))) (pe_op op_add pe_int (pe_op op_mulW pe_int (pe_ix (kx_ixL K) (pv 0) pe_int (fun _ _ => rfl))))) pe_int))
    (pss_cons (ps_set (i := 3) nd rfl (Or.inl rfl) (pe_op op_mod (pe_op op_add (pe_op op_add (pe_op op_mulW (pv 3) (pv 3)) (pe_op op_mulW pe_int (pe_ix (kx_ixL K) (pv 0) pe_int (fun _ _ => rfl)))) pe_int) pe_int))
    (pss_one (ps_ret (pe_op op_mod (pe_op op_fdivW (pe_op op_mod (pe_op op_mulW (pv 3) pe_int) pe_int) pe_int) (pv 1))))))), ?_⟩
  refine pen_ix rfl hp 0 a rfl ?_
  refine ⟨a, 0, rfl, rfl, ?_⟩
  refine ⟨_, rfl, ?_⟩
  by_cases ha : a > 0
  · rw [show (decide (a > 0)) = true from decide_eq_true ha]
    refine iteT ?_
    refine pen_ix rfl hp 0 a rfl ?_
    refine ⟨.int m, rfl, a, m, rfl, rfl, by omega, ?_⟩
    refine pen_ix rfl hp 0 a rfl ?_
    refine ⟨.int m, rfl, a, m, rfl, rfl, wide_div (b := 10) (by omega) (by omega) (by decide) (by decide), ?_⟩
    refine ⟨.ref p, rfl, p, _, 0, 0, rfl, rfl, hp, rfl, ?_⟩
    refine ⟨.int (a % m), rfl, ?_⟩
    refine q (a % m) _ soff_upd ⟨a / m, b, c, upd_same, b0, b1, c0, by omega⟩ (Int.emod_nonneg _ (by omega)) (Int.emod_lt_of_pos _ (by omega))
  · rw [show (decide (a > 0)) = false from decide_eq_false ha]
    refine iteF ?_
    refine pen_ix rfl hp 2 c rfl ?_
    refine ⟨c, 1, rfl, rfl, ?_⟩
    refine ⟨.ref p, rfl, p, _, 2, 2, rfl, rfl, hp, rfl, ?_⟩
    have hp2 : upd H p (.lst [V.int a, .int b, .int (c + 1)]) p = some (.lst [V.int a, .int b, .int (c + 1)]) := upd_same
    have hs2 : SOff p H (upd H p (.lst [V.int a, .int b, .int (c + 1)])) := soff_upd
    refine pen_ix rfl hp2 1 b rfl ?_
    refine pen_ix rfl hp2 2 (c + 1) rfl ?_
    refine ⟨17, c + 1, rfl, rfl, wide_mul (a := 6) (b := 40) (by decide) (by omega) (by decide) (by decide) (by decide), ?_⟩
    refine ⟨b, 17 * (c + 1), rfl, rfl, ?_⟩
    refine pen_ix rfl hp2 2 (c + 1) rfl ?_
    refine ⟨2, c + 1, rfl, rfl, wide_mul (a := 6) (b := 40) (by decide) (by omega) (by decide) (by decide) (by decide), ?_⟩
    refine ⟨69621, 2 * (c + 1), rfl, rfl, ?_⟩
    refine ⟨b + 17 * (c + 1), 69621 + 2 * (c + 1), rfl, rfl, wide_mul (a := 40) (b := 40) (by omega) (by omega) (by decide) (by decide) (by decide), ?_⟩
    refine ⟨_, 2147483647, rfl, rfl, (show (0 : Int) < 2147483647 by decide), ?_⟩
    have z0 := Int.emod_nonneg ((b + 17 * (c + 1)) * (69621 + 2 * (c + 1))) (show (2147483647 : Int) ≠ 0 by decide)
    have z1 := Int.emod_lt_of_pos ((b + 17 * (c + 1)) * (69621 + 2 * (c + 1))) (show (0 : Int) < 2147483647 by decide)
    generalize (b + 17 * (c + 1)) * (69621 + 2 * (c + 1)) = z at z0 z1 ⊢
    refine ⟨.int (z % 2147483647), rfl, .int (z % 2147483647), rfl, z % 2147483647, z % 2147483647, rfl, rfl, wide_mul (a := 31) (b := 31) (by omega) (by omega) (by decide) (by decide) (by decide), ?_⟩
    refine pen_ix rfl hp2 2 (c + 1) rfl ?_
    refine ⟨40503, c + 1, rfl, rfl, wide_mul (a := 16) (b := 40) (by decide) (by omega) (by decide) (by decide) (by decide), ?_⟩
    refine ⟨z % 2147483647 * (z % 2147483647), 40503 * (c + 1), rfl, rfl, ?_⟩
    refine ⟨_, 5, rfl, rfl, ?_⟩
    refine ⟨_, 2147483629, rfl, rfl, (show (0 : Int) < 2147483629 by decide), ?_⟩
    have y0 := Int.emod_nonneg (z % 2147483647 * (z % 2147483647) + 40503 * (c + 1) + 5) (show (2147483629 : Int) ≠ 0 by decide)
    have y1 := Int.emod_lt_of_pos (z % 2147483647 * (z % 2147483647) + 40503 * (c + 1) + 5) (show (0 : Int) < 2147483629 by decide)
    generalize z % 2147483647 * (z % 2147483647) + 40503 * (c + 1) + 5 = y at y0 y1 ⊢
    refine ⟨.int (y % 2147483629), rfl, y % 2147483629, 48271, rfl, rfl, wide_mul (a := 31) (b := 31) (by omega) (by decide) (by decide) (by decide) (by decide), ?_⟩
    refine ⟨_, 2147483647, rfl, rfl, (show (0 : Int) < 2147483647 by decide), ?_⟩
    refine ⟨_, 32, rfl, rfl, wide_div (b := 10) (by decide) (by decide) (by decide) (by decide), ?_⟩
    refine ⟨.int m, rfl, _, m, rfl, rfl, by omega, ?_⟩
    exact q _ _ hs2 ⟨a, b, c + 1, hp2, b0, b1, by omega, by omega⟩ (Int.emod_nonneg _ (by omega)) (Int.emod_lt_of_pos _ (by omega))
end
end DL
-- part W17
set_option linter.all false
set_option maxRecDepth 100000
set_option maxHeartbeats 2000000
namespace DL
open PySem PySem.Spec PyProof.Rows L2
section
variable {P : Program} {w : World} {K : PySem.W.Frag} {mg : Str → Option Value} {base : Heap}
theorem de_opI {δ : Env} {ta tb : TE} {C : Int → Int → Prop} {g : Int → Int → V} {x y z : Int} (ha : DE ta δ (.d (.int x))) (hb : DE tb δ (.d (.int y))) (hc : C x y) (hg : g x y = .int z) : DE (tOp (rI C g) ta tb) δ (.d (.int z)) :=
  de_op2 ha hb fun v w H h1 h2 Q q => ⟨x, y, dat_int.mp h1, dat_int.mp h2, hc, q _ H (Same.refl H) (by rw [hg]; exact re_int)⟩
abbrev N_law_pen : List Str := ["_law_cell"]
def rel_law_pen (rs : List R) (r : R) : Prop := ∃ (x : Int), rs = [.d (.int x)] ∧ r = .l [.int (max 0 (x - 1000000000000000000)), .int (x % 1000000007), .int 0] ∧ (x = x)
theorem sc_law_pen : FnScope N_law_pen ["_law_cell"] (defScope (top 63)) := ⟨rfl, rfl, rfl, by decide +kernel, rfl, by decide +kernel, by decide +kernel⟩
theorem ok_law_pen (T : Txt K mg) : Con P w K mg base "_law_pen" ["_law_cell"] 1 (rel_law_pen) := by
  refine con_of (N := N_law_pen) T.f_law_pen sc_law_pen (fun _ _ _ _ _ _ us hl => match us, hl with | [_], _ => rfl) (fun rs r h => ?_) (fun f cdv A outer s H E hr => ?_)
  · obtain ⟨_, rfl, rfl, _⟩ := h; exact ⟨rfl, by simp [ArgOk]⟩
  have nd := sc_law_pen.nd
  refine ⟨_, (pss_one (ps_ret (pe_lst (pa_cons (pe_callB (call_max2 rfl) rfl T.n_max (by rfl) (pa_cons pe_int (pa_cons (pe_op op_sub (pv 0) (pe_op op_pow pe_int pe_int)) pa_nil))) (pa_cons (pe_op op_mod (pv 0) pe_int) (pa_cons pe_int pa_nil)))))), ?_⟩
  rintro rs r ⟨x, rfl, rfl, _⟩
  exact ds_ret (DE.to (de_lst (dd_cons (de_max2 (dd_cons de_int (dd_cons (de_I0 (de_var rfl) (de_opI (z := 1000000000000000000) de_int de_int (by unfold CPow; decide) (by rfl))) dd_nil))) (dd_cons (de_opI (de_var rfl) de_int (by decide) rfl) (dd_cons de_int dd_nil)))) rfl)
end
end DL
-- part W18
set_option linter.all false
set_option maxRecDepth 100000
set_option maxHeartbeats 4000000
/-! the same things in a drawn order. -/
namespace DL
open PySem PySem.Spec PyProof.Rows L2
theorem map_eraseIdx' {α β : Type} {f : α → β} : ∀ (l : List α) (i : Nat), (l.map f).eraseIdx i = (l.eraseIdx i).map f
  | [], _ => rfl
  | _ :: _, 0 => rfl
  | x :: l, i + 1 => by
    show f x :: (l.map f).eraseIdx i = f x :: (l.eraseIdx i).map f
    rw [map_eraseIdx' l i]
theorem erase_perm {α : Type} : ∀ (l : List α) (i : Nat) (h : i < l.length), (l[i] :: l.eraseIdx i).Perm l
  | [], _, h => absurd h (Nat.not_lt_zero _)
  | x :: l, 0, _ => .refl _
  | x :: l, i + 1, h => (List.Perm.swap x (l[i]'(Nat.lt_of_succ_lt_succ h)) (l.eraseIdx i)).trans ((erase_perm l i (Nat.lt_of_succ_lt_succ h)).cons x)
def spMixed : Sp := fun vs H Q _ => ∃ (p t : Addr) (N : Nat) (xs : List Int), vs = [.ref p, .ref t] ∧ p ≠ t ∧ PenAt N H p ∧ N + xs.length ≤ 1000000 ∧ xs.length ≤ 100 ∧ H t = some (.lst (xs.map V.int)) ∧
  ∀ (l : Addr) H' (ys : List Int), ys.Perm xs → SOff p H H' → PenAt (N + xs.length) H' p → H l = none → l ≠ p → H' l = some (.lst (ys.map V.int)) → Q (.ref l) H'
section
variable {P : Program} {w : World} {K : PySem.W.Frag} {mg : Str → Option Value} {base : Heap}
abbrev N_law_mixed : List Str := ["_law_pen_here", "_law_things", "_law_rest", "_law_found", "_law_turn"]
theorem sc_law_mixed : FnScope N_law_mixed ["_law_pen_here", "_law_things"] (defScope (top 71)) := ⟨rfl, rfl, rfl, by decide +kernel, rfl, by decide +kernel, by decide +kernel⟩
theorem ok_law_mixed (T : Txt K mg) : Con0 P w K mg base "_law_mixed" ["_law_pen_here", "_law_things"] 2 spMixed := by
  obtain ⟨f, fd, F, hm⟩ := T.f_law_mixed
  refine ⟨f, fd, hm, F.kp, F.binds fun _ _ _ _ _ _ us hl => match us, hl with | [_, _], _ => rfl, F.ok sc_law_mixed (fun vs H Q E h => ?_) (fun cdv A outer s H vs Q E hr h => ?_)⟩
  · obtain ⟨p, t, N, xs, rfl, _⟩ := h
    rfl
  obtain ⟨p, t, N, xs, rfl, pt, hp, hN, hx, ht, q⟩ := h
  have nd := sc_law_mixed.nd
  refine ⟨_, pss_cons (ps_par (i := 2) (j := 3) rfl nd rfl rfl (by decide) rfl rfl (pa_cons (pe_callTy (kx_list K) rfl T.n_list (by rfl) (pa_cons (pv 1) pa_nil)) (pa_cons (pe_lst pa_nil) pa_nil)) (by rfl)) (pss_cons (ps_for PassesOwn.never rfl (pi_range1 rfl T.n_range (pa_cons (pe_callB (kx_len K) rfl T.n_len PySem.boot_len (pa_cons (pv 1) pa_nil)) pa_nil)) (pg_name (i := 4) nd rfl (Or.inl rfl)) (pss_one (ps_expr (kpe_bm K rfl PySem.F.plainAttrs_list PySem.F.slot_list_append PySem.F.type_list_append mt_append (pv 3) (pa_cons (kpe_bm K rfl PySem.F.plainAttrs_list PySem.F.slot_list_pop PySem.F.type_list_pop mt_popAt (pv 2) (pa_cons (pe_con0 (ok_law_draw T) hr rfl (pa_cons (pv 0) (pa_cons (pe_callB (kx_len K) rfl T.n_len PySem.boot_len (pa_cons (pv 2) pa_nil)) pa_nil))) pa_nil)) pa_nil))))) (pss_one (ps_ret (pv 3)))), ?_⟩
  refine ⟨.ref t, rfl, t, _, rfl, .inl (SqL.of ht), fun r hr => ?_⟩
  refine ⟨by show 0 ≤ sizeLine; exact Nat.zero_le _, fun l hl => ?_⟩
  refine ⟨.ref r, .ref l, rfl, ?_⟩
  have ht2 : H t ≠ none := by rw [ht]; exact fun z => nomatch z
  obtain ⟨a0, b0, c0, hp0, hp1⟩ := hp
  have hpn : H p ≠ none := by rw [hp0]; exact fun z => nomatch z
  have lr : l ≠ r := fun z => by subst z; rw [upd_same] at hl; cases hl
  rw [upd_ne lr] at hl
  have rt : t ≠ r := fun z => ht2 (z ▸ hr)
  have rp : p ≠ r := fun z => hpn (z ▸ hr)
  have lt : t ≠ l := fun z => ht2 (z ▸ hl)
  have lp : p ≠ l := fun z => hpn (z ▸ hl)
  have g0 : upd (upd H r (.lst (xs.map V.int))) l (.lst []) t = some (.lst (xs.map V.int)) := by rw [upd_ne lt, upd_ne rt]; exact ht
  refine ⟨.ref t, rfl, t, _, rfl, .inl (SqL.of g0), ((xs.map V.int).length : Int), rfl, by omega, by rw [List.length_map]; omega, ?_⟩
  rw [List.length_map]
  refine for_range (fun i σ H' => ∃ (o4 : Option V) (rest fnd : List Int), σ = [some (.ref p), some (.ref t), some (.ref r), some (.ref l), o4] ∧ H' r = some (.lst (rest.map V.int)) ∧ H' l = some (.lst (fnd.map V.int)) ∧ (fnd ++ rest).Perm xs ∧ fnd.length = i ∧ PenAt (N + i) H' p ∧ SOff p H H') ?_ ?_ ?_
  · refine ⟨none, xs, [], rfl, by rw [upd_ne (Ne.symm lr)]; exact upd_same, upd_same, .refl _, rfl, ⟨a0, b0, c0, by rw [upd_ne lp, upd_ne rp]; exact hp0, hp1⟩, fun b o hb e => ?_⟩
    rw [upd_ne (fun z => by rw [z, hl] at e; cases e), upd_ne (fun z => by rw [z, hr] at e; cases e)]
    exact e
  · rintro i σ H1 hi ⟨o4, rest, fnd, rfl, h1, h2, pm, fl, pa, so⟩
    have rl : rest.length = xs.length - i := by
      have := pm.length_eq
      rw [List.length_append] at this
      omega
    refine ⟨.ref l, rfl, .inl ⟨rfl, _, SqL.of h2⟩, .ref r, rfl, .inl ⟨rfl, _, SqL.of h1⟩, .ref p, rfl, .ref r, rfl, r, _, rfl, .inl (SqL.of h1), p, _, N + i, rfl, pa, by omega, by rw [List.length_map]; omega, by rw [List.length_map]; omega, fun d H2 so2 pa2 d0 d1 => ?_⟩
    rw [List.length_map] at d1
    have dl : d.toNat < rest.length := by omega
    have h1' := so2 r _ (Ne.symm rp) h1
    have h2' := so2 l _ (Ne.symm lp) h2
    refine ⟨r, _, d, d.toNat, .int rest[d.toNat], rfl, rfl, h1', by omega, by omega, ?_, by rw [List.getElem?_map, List.getElem?_eq_getElem dl]; rfl, ?_⟩
    · exact seqIndex_of d0 (by rw [List.length_map]; omega)
    refine ⟨l, _, _, rfl, rfl, by rw [upd_ne lr]; exact h2', ?_, ?_⟩
    · rw [List.length_map]
      exact lt_line (by omega)
    refine ⟨_, rest.eraseIdx d.toNat, fnd ++ [rest[d.toNat]], rfl, ?_, ?_, ?_, by rw [List.length_append]; show _ + 1 = _; omega, ?_, ?_⟩
    · rw [upd_ne (Ne.symm lr), upd_same, map_eraseIdx']
    · rw [upd_same, List.map_append]
      rfl
    · have e1 : (fnd ++ [rest[d.toNat]]) ++ rest.eraseIdx d.toNat = fnd ++ (rest[d.toNat] :: rest.eraseIdx d.toNat) := by rw [List.append_assoc]; rfl
      rw [e1]
      exact ((erase_perm rest d.toNat dl).append_left fnd).trans pm
    · obtain ⟨a2, b2, c2, hp2, hr2⟩ := pa2
      exact ⟨a2, b2, c2, by rw [upd_ne lp, upd_ne rp]; exact hp2, hr2⟩
    · intro b o hb e
      rw [upd_ne (fun z => by rw [z, hl] at e; cases e), upd_ne (fun z => by rw [z, hr] at e; cases e)]
      exact so2 b o hb (so b o hb e)
  · rintro σ H1 ⟨o4, rest, fnd, rfl, h1, h2, pm, fl, pa, so⟩
    have rl : rest = [] := by
      have := pm.length_eq
      rw [List.length_append] at this
      exact List.eq_nil_of_length_eq_zero (by omega)
    subst rl
    rw [List.append_nil] at pm
    refine ⟨.ref l, rfl, ?_⟩
    exact q l H1 fnd pm so pa hl (Ne.symm lp) h2
end
end DL
-- part GM8
set_option linter.all false
/-! what the law asks, in plain words. -/
namespace G
section
variable {R S T : Rule}
theorem Nest.refl (R : Rule) : Nest R R := fun ts _ t h => .inr h
theorem Nest.trans (a : Nest R S) (b : Nest S T) : Nest R T := fun ts h t ht => by
  rcases a ts h t ht with e | e
  · exact .inl e
  · exact b ts h t e
theorem far_row (v : VRule R) (v' : VRule S) {u : List Nat} (h : ∀ u', VW R S (start R S) u' → ¬ Within (walkTo R S (start R S) u') → u.length ≤ u'.length) {ts : List Int} (ht : ∀ t ∈ ts, 0 ≤ t) (n : ¬ Within (run R ts, run S ts)) : u.length ≤ ts.length := by
  obtain ⟨w, h1, h2, h3⟩ := walk_of_things v v' ts (start R S) (VArr.start v v') ht
  rw [named_start] at h2 h3
  have := h w h2 (by rw [h3, within_named]; exact n)
  omega
theorem played_far (v : VRule R) (v' : VRule S) {u : List Nat} (h : VW R S (start R S) u) (n : ¬ Within (walkTo R S (start R S) u)) : ¬ Within (run R (played R S u), run S (played R S u)) := by
  obtain ⟨_, _, c⟩ := played_ok v v' h
  rw [← c, within_named] at n
  exact n
theorem run_snoc (R : Rule) (ts : List Int) (t : Int) : run R (ts ++ [t]) = step R (run R ts) t := by
  unfold run
  rw [List.foldl_append]
  rfl
theorem row_fine {row : List Int} (h : row ∈ foundK 5) : (∀ t ∈ row, 0 ≤ t) ∧ (∀ t ∈ row, t ≤ 99) ∧ row.length ≤ 5 := by
  have r := found_fine row h
  simp only [rowFine, Bool.and_eq_true, decide_eq_true_eq, List.all_eq_true] at r
  obtain ⟨⟨⟨⟨⟨r1, r2⟩, _⟩, _⟩, _⟩, _⟩ := r
  exact ⟨fun t ht => (r2 t ht).1, fun t ht => by have := (r2 t ht).2; omega, r1⟩
end
/-- the rules that a drawing makes -/
theorem drawn_small {n : Nat} {labs : List Lab} (h1 : 1 ≤ n) (h3 : n ≤ 3) (l1 : 1 ≤ labs.length) (l2 : labs.length ≤ 2) (h : ∀ L ∈ labs, L.hits.length = n ∧ L.comes.length = n ∧ L.out < n ∧ (∀ m ∈ L.hits, m.1.Perm (List.range n) ∧ m.2 < labs.length) ∧ ∀ m ∈ L.comes, m.1.Perm (List.range n) ∧ m.2 < labs.length) : Small ⟨n, labs⟩ :=
  ⟨⟨h1, by show n ≤ 4; omega, l1, by show labs.length ≤ 16; omega, fun L hL => by
    obtain ⟨a, b, c, d, e⟩ := h L hL
    exact ⟨a, b, c, fun m hm => ⟨(d m hm).1, (d m hm).2⟩, fun m hm => ⟨(e m hm).1, (e m hm).2⟩⟩⟩, h3, l2⟩
end G
-- part W19
set_option linter.all false
set_option maxRecDepth 100000
set_option maxHeartbeats 4000000
/-! drawn moves, drawn rules, a drawn one of some. -/
namespace DL
open PySem PySem.Spec PyProof.Rows L2
theorem PenAt.mono {N M : Nat} {H : Hp} {p : Addr} (h : PenAt N H p) (le : N ≤ M) : PenAt M H p := by
  obtain ⟨a, b, c, h1, h2, h3, h4, h5⟩ := h
  exact ⟨a, b, c, h1, h2, h3, h4, by omega⟩
theorem PenAt.there {N : Nat} {H : Hp} {p : Addr} (h : PenAt N H p) : ∃ xs, H p = some (.lst xs) := by
  obtain ⟨a, b, c, h1, _⟩ := h
  exact ⟨_, h1⟩
theorem PenAt.same {N : Nat} {H H' : Hp} {p : Addr} (h : PenAt N H p) (s : Same H H') : PenAt N H' p := by
  obtain ⟨a, b, c, h1, h2⟩ := h
  exact ⟨a, b, c, s _ _ h1, h2⟩
theorem PenAt.ne_free {N : Nat} {H : Hp} {p a : Addr} (h : PenAt N H p) (ha : H a = none) : p ≠ a := by
  obtain ⟨xs, h1⟩ := h.there
  exact ne_of_none h1 ha
theorem PenAt.off {N : Nat} {H : Hp} {p a : Addr} {o : HO} (h : PenAt N H p) (n : p ≠ a) : PenAt N (upd H a o) p := by
  obtain ⟨x, b, c, h1, h2⟩ := h
  exact ⟨x, b, c, by rw [upd_ne n]; exact h1, h2⟩
theorem SOff.refl {p : Addr} {H : Hp} : SOff p H H := fun _ _ _ e => e
theorem SOff.trans {p : Addr} {H H1 H2 : Hp} (a : SOff p H H1) (b : SOff p H1 H2) : SOff p H H2 := fun c o n e => b c o n (a c o n e)
theorem SOff.of {p : Addr} {H H1 : Hp} (s : Same H H1) : SOff p H H1 := fun c o _ e => s c o e
theorem SOff.grow {p l : Addr} {H H1 : Hp} {o : HO} (s : SOff p H H1) (hl : H l = none) : SOff p H (upd H1 l o) := fun b u hb e => by
  rw [upd_ne (ne_of_none e hl)]
  exact s b u hb e
theorem SOff.tups {p : Addr} {N : Nat} {H H1 : Hp} (s : SOff p H H1) (h : PenAt N H p) : Tups H H1 := fun a xs ⟨o, e, d⟩ => by
  obtain ⟨ys, h1⟩ := h.there
  exact ⟨o, s a _ (fun z => by rw [z, h1] at e; cases e) e, d⟩
theorem SOff.free {p a : Addr} {N : Nat} {H H1 : Hp} (s : SOff p H H1) (h : PenAt N H1 p) (ha : H1 a = none) : H a = none := by
  cases e : H a with
  | none => rfl
  | some o => rw [s a o (Ne.symm (h.ne_free ha)) e] at ha; cases ha
theorem SOff.new {p l : Addr} {H H1 : Hp} {o : HO} (s : SOff p H H1) (hl : H1 l = none) : SOff p H (upd H1 l o) := fun b u hb e => by
  rw [upd_ne (ne_of_none (s b u hb e) hl)]
  exact s b u hb e
def okM (n k : Nat) (m : G.Move) : Prop := m.1.Perm (List.range n) ∧ m.2 < k
def spMoves : Sp := fun vs H Q _ => ∃ (p : Addr) (n k N : Nat), vs = [.ref p, .int (n : Int), .int (k : Int)] ∧ PenAt N H p ∧ N + 100 ≤ 1000000 ∧ n ≤ 3 ∧ 1 ≤ k ∧ k ≤ 2 ∧
  ∀ (v : V) H' (ms : List G.Move), SOff p H H' → PenAt (N + 20) H' p → Dat H' (.tup (ms.map eMove)) v → ms.length = n → (∀ m ∈ ms, okM n k m) → Q v H'
section
variable {P : Program} {w : World} {K : PySem.W.Frag} {mg : Str → Option Value} {base : Heap}
abbrev N_law_moves : List Str := ["_law_pen_here", "_law_places", "_law_labels", "_law_found", "_law_place", "_law_order"]
theorem sc_law_moves : FnScope N_law_moves ["_law_pen_here", "_law_places", "_law_labels"] (defScope (top 72)) := ⟨rfl, rfl, rfl, by decide +kernel, rfl, by decide +kernel, by decide +kernel⟩
theorem ok_law_moves (T : Txt K mg) : Con0 P w K mg base "_law_moves" ["_law_pen_here", "_law_places", "_law_labels"] 3 spMoves := by
  obtain ⟨f, fd, F, hm⟩ := T.f_law_moves
  refine ⟨f, fd, hm, F.kp, F.binds fun _ _ _ _ _ _ us hl => match us, hl with | [_, _, _], _ => rfl, F.ok sc_law_moves (fun vs H Q E h => ?_) (fun cdv A outer s H vs Q E hr h => ?_)⟩
  · obtain ⟨p, n, k, N, rfl, _⟩ := h
    rfl
  obtain ⟨p, n, k, N, rfl, hp, hN, hn, k1, k2, q⟩ := h
  have nd := sc_law_moves.nd
  refine ⟨_, pss_cons (ps_set (i := 3) nd rfl (Or.inl rfl) (pe_lst pa_nil)) (pss_cons (ps_for PassesOwn.never rfl (pi_range1 rfl T.n_range (pa_cons (pv 1) pa_nil)) (pg_name (i := 4) nd rfl (Or.inl rfl))
    (pss_cons (ps_set (i := 5) nd rfl (Or.inl rfl) (pe_ifExp (pt_cmpR op_eq (pe_con0 (ok_law_draw T) hr rfl (pa_cons (pv 0) (pa_cons pe_int pa_nil))) pe_int (nomark _)) (pe_tupRgF rfl rfl T.n_tuple (prg_1 rfl T.n_range (pv 1))) (pe_callTy (kx_tup K) rfl T.n_tuple (by rfl) (pa_cons (pe_con0 (ok_law_mixed T) hr rfl (pa_cons (pv 0) (pa_cons (pe_listRg rfl rfl T.n_list (prg_1 rfl T.n_range (pv 1))) pa_nil))) pa_nil))))
    (pss_one (ps_expr (kpe_bm K rfl PySem.F.plainAttrs_list PySem.F.slot_list_append PySem.F.type_list_append mt_append (pv 3) (pa_cons (pe_tupF (pa_cons (pv 5) (pa_cons (pe_con0 (ok_law_draw T) hr rfl (pa_cons (pv 0) (pa_cons (pv 2) pa_nil))) pa_nil))) pa_nil))))))
    (pss_one (ps_ret (pe_callTy (kx_tup K) rfl T.n_tuple (by rfl) (pa_cons (pv 3) pa_nil))))), ?_⟩
  refine ⟨by show 0 ≤ sizeLine; exact Nat.zero_le _, fun l hl => ?_⟩
  have lp : p ≠ l := hp.ne_free hl
  refine ⟨.int (n : Int), rfl, (n : Int), rfl, by omega, by omega, ?_⟩
  refine for_range (fun i σ H' => ∃ (o4 o5 : Option V) (vs : List V) (ms : List G.Move), σ = [some (.ref p), some (.int (n : Int)), some (.int (k : Int)), some (.ref l), o4, o5] ∧ H' l = some (.lst vs) ∧ DatL H' (ms.map eMove) vs ∧ ms.length = i ∧ (∀ m ∈ ms, okM n k m) ∧ PenAt (N + 5 * i) H' p ∧ SOff p H H') ?_ ?_ ?_
  · exact ⟨none, none, [], [], rfl, upd_same, datL_nil.mpr rfl, rfl, fun m hm => (nomatch hm), hp.off lp, .grow .refl hl⟩
  · rintro i σ H1 hi ⟨o4, o5, vs, ms, rfl, hl1, dm, ml, mo, pa, so⟩
    have ex : ∀ Q : VK, (∀ v H2 (o : List Nat), SOff p H1 H2 → PenAt (N + 5 * i + 4) H2 p → Dat H2 (eNats o) v → o.Perm (List.range n) → Q v H2) →
        (tIf (tTest (tOp rEq (tCall spDraw [] E0 (tCons (tVar 0) (tCons (tC (.int 3)) tNil))) (tC (.int 0)))) (tTupRgF (tRg1 (tVar 1))) (tCB (rTupF K) (tCons (tCall spMixed [] E0 (tCons (tVar 0) (tCons (tLstRg (tRg1 (tVar 1))) tNil))) tNil))) [some (.ref p), some (.int (n : Int)), some (.int (k : Int)), some (.ref l), some (.int (0 + (i : Int))), o5] H1 Q := fun Q q => by
      refine ⟨.ref p, rfl, p, 3, N + 5 * i, rfl, pa, by omega, by decide, by decide, fun d H2 so2 pa2 d0 d1 => ?_⟩
      refine ⟨rfl, _, rfl, ?_⟩
      generalize decide (V.int d = V.int 0) = b
      cases b with
      | true =>
        refine iteT ?_
        refine ⟨.int (n : Int), rfl, (n : Int), rfl, RgOk.of_le (by omega) (by omega) (by omega) (by omega), fun a o ha ho => ?_⟩
        rw [rgV_nat rfl]
        exact q _ _ (List.range n) (so2.new ha) ((pa2.off (pa2.ne_free ha)).mono (by omega)) (dat_tup.mpr ⟨a, _, rfl, .new ho, datL_ints.mpr rfl⟩) (.refl _)
      | false =>
        refine iteF ?_
        refine ⟨.ref p, rfl, .int (n : Int), rfl, (n : Int), rfl, RgOk.of_le (by omega) (by omega) (by omega) (by omega), fun a ha => ?_⟩
        rw [rgV_nat rfl]
        have hln : (ran n).length = n := by simp [ran]
        refine ⟨p, a, N + 5 * i + 1, ran n, rfl, pa2.ne_free ha, pa2.off (pa2.ne_free ha), by omega, by omega, upd_same, fun c H3 ys pm so3 pa3 hc cp hc3 => ?_⟩
        obtain ⟨o, eo, po⟩ := perm_map_inv (f := fun (x : Nat) => (x : Int)) (ys := List.range n) pm
        refine ⟨c, _, rfl, SqL.of hc3, fun z oz hz hoz => ?_⟩
        rw [hln] at pa3
        exact q _ _ o (((so2.new ha).trans so3).new hz) ((pa3.off (pa3.ne_free hz)).mono (by omega)) (dat_tup.mpr ⟨z, _, rfl, .new hoz, datL_ints.mpr (by rw [eo])⟩) po
    refine ex _ fun v H2 o so2 pa2 dv po => ?_
    have hl2 := so2 l _ (Ne.symm lp) hl1
    refine ⟨.ref l, rfl, .inl ⟨rfl, _, SqL.of hl2⟩, v, rfl, .ref p, rfl, .int (k : Int), rfl, p, (k : Int), N + 5 * i + 4, rfl, pa2, by omega, by omega, by omega, fun d H3 so3 pa3 d0 d1 => ?_⟩
    refine ⟨by show 2 ≤ sizeLine; exact le_line (by decide), fun a oa ha hoa => ?_⟩
    have hl3 := so3 l _ (Ne.symm lp) hl2
    have la : l ≠ a := ne_of_none hl3 ha
    have vl : vs.length = i := by rw [dm.length, List.length_map, ml]
    refine ⟨l, _, _, rfl, rfl, by rw [upd_ne la]; exact hl3, ?_, ?_⟩
    · exact lt_line (by omega)
    have nt : ∀ (ob : Obj) xs, (upd H3 a (.frz oa (.tup [v, .int d]))) l ≠ some (.frz ob (.tup xs)) := fun ob xs z => by
      rw [upd_ne la, hl3] at z
      cases z
    have tp : Tups H1 (upd (upd H3 a (.frz oa (.tup [v, .int d]))) l (.lst (vs ++ [.ref a]))) := fun b ys h => Tups.upd nt b ys (Tups.of (same_upd ha) b ys (so3.tups pa2 b ys (so2.tups pa b ys h)))
    have tp2 : Tups H2 (upd (upd H3 a (.frz oa (.tup [v, .int d]))) l (.lst (vs ++ [.ref a]))) := fun b ys h => Tups.upd nt b ys (Tups.of (same_upd ha) b ys (so3.tups pa2 b ys h))
    refine ⟨_, _, vs ++ [.ref a], ms ++ [(o, d.toNat)], rfl, upd_same, ?_, by rw [List.length_append, ml]; rfl, fun m hm => ?_, ?_, ?_⟩
    · rw [List.map_append]
      refine (dm.mono tp).app (DatL.one (dat_tup.mpr ⟨a, [v, .int d], rfl, ?_, datL_cons.mpr ⟨v, _, rfl, Dat.mono tp2 _ _ dv, DatL.one (dat_int.mpr ?_)⟩⟩))
      · exact ⟨oa, by rw [upd_ne (Ne.symm la)]; exact upd_same, hoa⟩
      · show V.int d = V.int ((d.toNat : Nat) : Int)
        rw [Int.toNat_of_nonneg d0]
    · rcases List.mem_append.mp hm with h | h
      · exact mo m h
      · rw [List.mem_singleton.mp h]
        exact ⟨po, by show d.toNat < k; omega⟩
    · exact ((pa3.off (pa3.ne_free ha)).off lp).mono (by omega)
    · exact (((so.trans so2).trans so3).new ha).grow hl
  · rintro σ H1 ⟨o4, o5, vs, ms, rfl, hl1, dm, ml, mo, pa, so⟩
    refine ⟨.ref l, rfl, l, vs, rfl, SqL.of hl1, fun a oa ha hoa => ?_⟩
    exact q _ _ ms (so.new ha) ((pa.off (pa.ne_free ha)).mono (by omega)) (dat_tup.mpr ⟨a, vs, rfl, .new hoa, dm.mono (.of (same_upd ha))⟩) ml mo
end
end DL
-- part W20
set_option linter.all false
set_option maxRecDepth 100000
set_option maxHeartbeats 4000000
/-! a drawn rule, a drawn one of some things. -/
namespace DL
open PySem PySem.Spec PyProof.Rows L2
def okL (n k : Nat) (L : G.Lab) : Prop := L.hits.length = n ∧ L.comes.length = n ∧ L.out < n ∧ (∀ m ∈ L.hits, okM n k m) ∧ ∀ m ∈ L.comes, okM n k m
def spDrawn : Sp := fun vs H Q _ => ∃ (p : Addr) (n k N : Nat), vs = [.ref p, .int (n : Int), .int (k : Int)] ∧ PenAt N H p ∧ N + 200 ≤ 1000000 ∧ 1 ≤ n ∧ n ≤ 3 ∧ 1 ≤ k ∧ k ≤ 2 ∧
  ∀ (v : V) H' (R : G.Rule), SOff p H H' → PenAt (N + 100) H' p → Dat H' (eRule R) v → G.Small R → R.places = n → Q v H'
def spPick : Sp := fun vs H Q _ => ∃ (p t : Addr) (N : Nat) (ds : List D) (xs : List V), vs = [.ref p, .ref t] ∧ PenAt N H p ∧ N + 10 ≤ 1000000 ∧ p ≠ t ∧ H t = some (.lst xs) ∧ DatL H ds xs ∧ 1 ≤ ds.length ∧ ds.length ≤ 100 ∧
  ∀ (v : V) H' (d : D), SOff p H H' → PenAt (N + 1) H' p → Dat H' d v → d ∈ ds → Q v H'
section
variable {P : Program} {w : World} {K : PySem.W.Frag} {mg : Str → Option Value} {base : Heap}
abbrev N_law_drawn : List Str := ["_law_pen_here", "_law_places", "_law_labels", "_law_rows", "_law_turn", "_law_at_hits", "_law_out"]
theorem sc_law_drawn : FnScope N_law_drawn ["_law_pen_here", "_law_places", "_law_labels"] (defScope (top 73)) := ⟨rfl, rfl, rfl, by decide +kernel, rfl, by decide +kernel, by decide +kernel⟩
theorem ok_law_drawn (T : Txt K mg) : Con0 P w K mg base "_law_drawn" ["_law_pen_here", "_law_places", "_law_labels"] 4 spDrawn := by
  obtain ⟨f, fd, F, hm⟩ := T.f_law_drawn
  refine ⟨f, fd, hm, F.kp, F.binds fun _ _ _ _ _ _ us hl => match us, hl with | [_, _, _], _ => rfl, F.ok sc_law_drawn (fun vs H Q E h => ?_) (fun cdv A outer s H vs Q E hr h => ?_)⟩
  · obtain ⟨p, n, k, N, rfl, _⟩ := h
    rfl
  obtain ⟨p, n, k, N, rfl, hp, hN, n1, hn, k1, k2, q⟩ := h
  have nd := sc_law_drawn.nd
  refine ⟨_, pss_cons (ps_set (i := 3) nd rfl (Or.inl rfl) (pe_lst pa_nil)) (pss_cons (ps_for PassesOwn.never rfl (pi_range1 rfl T.n_range (pa_cons (pv 2) pa_nil)) (pg_name (i := 4) nd rfl (Or.inl rfl))
    (pss_cons (ps_par (i := 5) (j := 6) rfl nd rfl rfl (by decide) rfl rfl (pa_cons (pe_con0 (ok_law_moves T) hr rfl (pa_cons (pv 0) (pa_cons (pv 1) (pa_cons (pv 2) pa_nil)))) (pa_cons (pe_con0 (ok_law_draw T) hr rfl (pa_cons (pv 0) (pa_cons (pv 1) pa_nil))) pa_nil)) (by rfl))
    (pss_one (ps_expr (kpe_bm K rfl PySem.F.plainAttrs_list PySem.F.slot_list_append PySem.F.type_list_append mt_append (pv 3) (pa_cons (pe_tupF (pa_cons (pv 5) (pa_cons (pv 6) (pa_cons (pe_con0 (ok_law_moves T) hr rfl (pa_cons (pv 0) (pa_cons (pv 1) (pa_cons (pv 2) pa_nil)))) pa_nil)))) pa_nil))))))
    (pss_one (ps_ret (pe_tupF (pa_cons (pv 1) (pa_cons (pe_callTy (kx_tup K) rfl T.n_tuple (by rfl) (pa_cons (pv 3) pa_nil)) pa_nil)))))), ?_⟩
  refine ⟨by show 0 ≤ sizeLine; exact Nat.zero_le _, fun l hl => ?_⟩
  have lp : p ≠ l := hp.ne_free hl
  refine ⟨.int (k : Int), rfl, (k : Int), rfl, by omega, by omega, ?_⟩
  refine for_range (fun i σ H' => ∃ (o4 o5 o6 : Option V) (vs : List V) (ls : List G.Lab), σ = [some (.ref p), some (.int (n : Int)), some (.int (k : Int)), some (.ref l), o4, o5, o6] ∧ H' l = some (.lst vs) ∧ DatL H' (ls.map eLab) vs ∧ ls.length = i ∧ (∀ L ∈ ls, okL n k L) ∧ PenAt (N + 45 * i) H' p ∧ SOff p H H') ?_ ?_ ?_
  · exact ⟨none, none, none, [], [], rfl, upd_same, datL_nil.mpr rfl, rfl, fun m hm => (nomatch hm), hp.off lp, .grow .refl hl⟩
  · rintro i σ H1 hi ⟨o4, o5, o6, vs, ls, rfl, hl1, dm, ll, lo, pa, so⟩
    refine ⟨.ref p, rfl, .int (n : Int), rfl, .int (k : Int), rfl, p, n, k, N + 45 * i, rfl, pa, by omega, hn, k1, k2, fun v H2 ms so2 pa2 dv ml mo => ?_⟩
    refine ⟨.ref p, rfl, .int (n : Int), rfl, p, (n : Int), N + 45 * i + 20, rfl, pa2, by omega, by omega, by omega, fun d H3 so3 pa3 d0 d1 => ?_⟩
    refine ⟨v, .int d, rfl, ?_⟩
    have hl3 := so3 l _ (Ne.symm lp) (so2 l _ (Ne.symm lp) hl1)
    refine ⟨.ref l, rfl, .inl ⟨rfl, _, SqL.of hl3⟩, v, rfl, .int d, rfl, .ref p, rfl, .int (n : Int), rfl, .int (k : Int), rfl, p, n, k, N + 45 * i + 21, rfl, pa3, by omega, hn, k1, k2, fun u H4 cs so4 pa4 du cl co => ?_⟩
    refine ⟨by show 3 ≤ sizeLine; exact le_line (by decide), fun a oa ha hoa => ?_⟩
    have hl4 := so4 l _ (Ne.symm lp) hl3
    have la : l ≠ a := ne_of_none hl4 ha
    have vl : vs.length = i := by rw [dm.length, List.length_map, ll]
    refine ⟨l, _, _, rfl, rfl, by rw [upd_ne la]; exact hl4, ?_, ?_⟩
    · exact lt_line (by omega)
    have nt : ∀ (ob : Obj) xs, (upd H4 a (.frz oa (.tup [v, .int d, u]))) l ≠ some (.frz ob (.tup xs)) := fun ob xs z => by
      rw [upd_ne la, hl4] at z
      cases z
    have t4 : Tups H4 (upd (upd H4 a (.frz oa (.tup [v, .int d, u]))) l (.lst (vs ++ [.ref a]))) := fun b ys h => Tups.upd nt b ys (Tups.of (same_upd ha) b ys h)
    have t2 : Tups H2 (upd (upd H4 a (.frz oa (.tup [v, .int d, u]))) l (.lst (vs ++ [.ref a]))) := fun b ys h => t4 b ys (so4.tups pa3 b ys (so3.tups pa2 b ys h))
    have t1 : Tups H1 (upd (upd H4 a (.frz oa (.tup [v, .int d, u]))) l (.lst (vs ++ [.ref a]))) := fun b ys h => t2 b ys (so2.tups pa b ys h)
    refine ⟨_, _, _, vs ++ [.ref a], ls ++ [⟨ms, d.toNat, cs⟩], rfl, upd_same, ?_, by rw [List.length_append, ll]; rfl, fun L hL => ?_, ?_, ?_⟩
    · rw [List.map_append]
      refine (dm.mono t1).app (DatL.one (dat_tup.mpr ⟨a, [v, .int d, u], rfl, ?_, datL_cons.mpr ⟨v, _, rfl, Dat.mono t2 _ _ dv, datL_cons.mpr ⟨.int d, _, rfl, dat_int.mpr ?_, DatL.one (Dat.mono t4 _ _ du)⟩⟩⟩))
      · exact ⟨oa, by rw [upd_ne (Ne.symm la)]; exact upd_same, hoa⟩
      · show V.int d = V.int ((d.toNat : Nat) : Int)
        rw [Int.toNat_of_nonneg d0]
    · rcases List.mem_append.mp hL with h | h
      · exact lo L h
      · rw [List.mem_singleton.mp h]
        exact ⟨ml, cl, by show d.toNat < n; omega, mo, co⟩
    · exact ((pa4.off (pa4.ne_free ha)).off lp).mono (by omega)
    · exact ((((so.trans so2).trans so3).trans so4).new ha).grow hl
  · rintro σ H1 ⟨o4, o5, o6, vs, ls, rfl, hl1, dm, ll, lo, pa, so⟩
    refine ⟨.int (n : Int), rfl, .ref l, rfl, l, vs, rfl, SqL.of hl1, fun a oa ha hoa => ?_⟩
    refine ⟨by show 2 ≤ sizeLine; exact le_line (by decide), fun b ob hb hob => ?_⟩
    have dt : Dat (upd H1 a (.frz oa (.tup vs))) (.tup (ls.map eLab)) (.ref a) := dat_tup.mpr ⟨a, vs, rfl, .new hoa, dm.mono (.of (same_upd ha))⟩
    have pa1 := pa.off (o := .frz oa (.tup vs)) (pa.ne_free ha)
    refine q _ _ ⟨n, ls⟩ ((so.new ha).new hb) ((pa1.off (pa1.ne_free hb)).mono (by omega)) (dat_tup.mpr ⟨b, _, rfl, .new hob, datL_cons.mpr ⟨.int (n : Int), _, rfl, dat_int.mpr rfl, DatL.one (Dat.mono (.of (same_upd hb)) _ _ dt)⟩⟩) (G.drawn_small n1 hn (by omega) (by omega) fun L hL => ?_) rfl
    rw [ll]
    exact lo L hL
abbrev N_law_pick : List Str := ["_law_pen_here", "_law_things"]
theorem sc_law_pick : FnScope N_law_pick ["_law_pen_here", "_law_things"] (defScope (top 74)) := ⟨rfl, rfl, rfl, by decide +kernel, rfl, by decide +kernel, by decide +kernel⟩
theorem ok_law_pick (T : Txt K mg) : Con0 P w K mg base "_law_pick" ["_law_pen_here", "_law_things"] 2 spPick := by
  obtain ⟨f, fd, F, hm⟩ := T.f_law_pick
  refine ⟨f, fd, hm, F.kp, F.binds fun _ _ _ _ _ _ us hl => match us, hl with | [_, _], _ => rfl, F.ok sc_law_pick (fun vs H Q E h => ?_) (fun cdv A outer s H vs Q E hr h => ?_)⟩
  · obtain ⟨p, t, N, ds, xs, rfl, _⟩ := h
    rfl
  obtain ⟨p, t, N, ds, xs, rfl, hp, hN, pt, ht, dx, h1, h2, q⟩ := h
  have nd := sc_law_pick.nd
  have xl : xs.length = ds.length := dx.length
  refine ⟨_, pss_one (ps_ret (pe_ix (kx_ixL K) (pv 1) (pe_con0 (ok_law_draw T) hr rfl (pa_cons (pv 0) (pa_cons (pe_callB (kx_len K) rfl T.n_len PySem.boot_len (pa_cons (pv 1) pa_nil)) pa_nil))) (fun _ _ => rfl))), ?_⟩
  refine ⟨.ref t, rfl, .ref p, rfl, .ref t, rfl, t, _, rfl, .inl (SqL.of ht), p, _, N, rfl, hp, by omega, by omega, by omega, fun d H2 so2 pa2 d0 d1 => ?_⟩
  have dl : d.toNat < xs.length := by omega
  obtain ⟨e, he, hd⟩ := dx.getV (List.getElem?_eq_getElem dl)
  refine ⟨t, xs, d, xs[d.toNat], rfl, rfl, SqL.of (so2 t _ (Ne.symm pt) ht), ?_, q _ _ e so2 pa2 (Dat.mono (so2.tups hp) _ _ hd) (List.mem_of_getElem? he)⟩
  have ea := atI_nat (xs := xs) (List.getElem?_eq_getElem dl)
  rw [Int.toNat_of_nonneg d0] at ea
  exact ea
end
end DL
-- part W21
set_option linter.all false
set_option maxRecDepth 100000
set_option maxHeartbeats 4000000
/-! two rules, the second one with as many places or more; a cell of the script. -/
namespace DL
open PySem PySem.Spec PyProof.Rows L2
theorem ral_int (H : Hp) (i : Int) : RAL H [.d (.int i)] [.int i] := ⟨_, _, rfl, (dat_int (H := H)).mpr rfl, rfl⟩
def spRising : Sp := fun vs H Q _ => ∃ (p : Addr) (N : Nat), vs = [.ref p, .int 3] ∧ PenAt N H p ∧ N + 500 ≤ 1000000 ∧
  ∀ (v : V) H' (R S : G.Rule), SOff p H H' → PenAt (N + 300) H' p → Dat H' (.tup [eRule R, eRule S]) v → G.Small R → G.Small S → R.places ≤ S.places → Q v H'
section
variable {P : Program} {w : World} {K : PySem.W.Frag} {mg : Str → Option Value} {base : Heap}
abbrev N_law_rising_two : List Str := ["_law_pen_here", "_law_most", "_law_places", "_law_way", "_law_more", "_law_one"]
theorem sc_law_rising_two : FnScope N_law_rising_two ["_law_pen_here", "_law_most"] (defScope (top 75)) := ⟨rfl, rfl, rfl, by decide +kernel, rfl, by decide +kernel, by decide +kernel⟩
theorem ok_law_rising_two (T : Txt K mg) : Con0 P w K mg base "_law_rising_two" ["_law_pen_here", "_law_most"] 5 spRising := by
  obtain ⟨f, fd, F, hm⟩ := T.f_law_rising_two
  refine ⟨f, fd, hm, F.kp, F.binds fun _ _ _ _ _ _ us hl => match us, hl with | [_, _], _ => rfl, F.ok sc_law_rising_two (fun vs H Q E h => ?_) (fun cdv A outer s H vs Q E hr h => ?_)⟩
  · obtain ⟨p, N, rfl, _⟩ := h
    rfl
  obtain ⟨p, N, rfl, hp, hN, q⟩ := h
  have nd := sc_law_rising_two.nd
  refine ⟨_, pss_cons (ps_par (i := 2) (j := 3) rfl nd rfl rfl (by decide) rfl rfl (pa_cons (pe_op op_add pe_int (pe_con0 (ok_law_draw T) hr rfl (pa_cons (pv 0) (pa_cons (pv 1) pa_nil)))) (pa_cons (pe_con0 (ok_law_draw T) hr rfl (pa_cons (pv 0) (pa_cons pe_int pa_nil))) pa_nil)) (by rfl))
    (pss_cons (ps_set (i := 4) nd rfl (Or.inl rfl) (pe_op op_add (pv 2) (pe_con0 (ok_law_draw T) hr rfl (pa_cons (pv 0) (pa_cons (pe_op op_sub (pe_op op_add (pv 1) pe_int) (pv 2)) pa_nil)))))
    (pss_cons (ps_if (pt_cmpR op_eq (pv 3) pe_int (nomark _)) (pss_one (ps_ret (pe_tupF (pa_cons (pe_con (ok_law_queue T) hr rfl (pa_cons (pv 2) pa_nil)) (pa_cons (pe_con (ok_law_queue T) hr rfl (pa_cons (pv 4) pa_nil)) pa_nil))))) pss_nil)
    (pss_cons (ps_if (pt_cmpR op_eq (pv 3) pe_int (nomark _)) (pss_one (ps_ret (pe_tupF (pa_cons (pe_con (ok_law_recent T) hr rfl (pa_cons (pv 2) pa_nil)) (pa_cons (pe_con (ok_law_recent T) hr rfl (pa_cons (pv 4) pa_nil)) pa_nil))))) pss_nil)
    (pss_cons (ps_if (pt_cmpR op_eq (pv 3) pe_int (nomark _)) (pss_one (ps_ret (pe_tupF (pa_cons (pe_con (ok_law_newest T) hr rfl (pa_cons (pv 2) pa_nil)) (pa_cons (pe_con (ok_law_newest T) hr rfl (pa_cons (pv 4) pa_nil)) pa_nil))))) pss_nil)
    (pss_cons (ps_set (i := 5) nd rfl (Or.inl rfl) (pe_con0 (ok_law_drawn T) hr rfl (pa_cons (pv 0) (pa_cons (pv 2) (pa_cons (pe_op op_add pe_int (pe_con0 (ok_law_draw T) hr rfl (pa_cons (pv 0) (pa_cons pe_int pa_nil)))) pa_nil)))))
    (pss_one (ps_ret (pe_tupF (pa_cons (pv 5) (pa_cons (pe_con0 (ok_law_pick T) hr rfl (pa_cons (pv 0) (pa_cons (pe_lst (pa_cons (pe_con0 (ok_law_drawn T) hr rfl (pa_cons (pv 0) (pa_cons (pv 4) (pa_cons (pe_op op_add pe_int (pe_con0 (ok_law_draw T) hr rfl (pa_cons (pv 0) (pa_cons pe_int pa_nil)))) pa_nil)))) (pa_cons (pe_con (ok_law_recent T) hr rfl (pa_cons (pv 4) pa_nil)) (pa_cons (pe_con (ok_law_queue T) hr rfl (pa_cons (pv 4) pa_nil)) pa_nil)))) pa_nil))) pa_nil)))))))))), ?_⟩
  refine ⟨.ref p, rfl, .int 3, rfl, p, 3, N, rfl, hp, by omega, by decide, by decide, fun d1 H1 so1 pa1 d10 d11 => ?_⟩
  obtain ⟨n, hn⟩ : ∃ n : Nat, (1 : Int) + d1 = (n : Int) := ⟨(1 + d1).toNat, by omega⟩
  refine ⟨1, d1, rfl, rfl, ?_⟩
  dsimp only
  rw [hn]
  have n1 : 1 ≤ n := by omega
  have n3 : n ≤ 3 := by omega
  refine ⟨.ref p, rfl, p, 6, N + 1, rfl, pa1, by omega, by decide, by decide, fun wy H2 so2 pa2 w0 w1 => ?_⟩
  refine ⟨.int (n : Int), .int wy, rfl, ?_⟩
  refine ⟨.int (n : Int), rfl, .ref p, rfl, .int 3, rfl, 3, 1, rfl, rfl, .int (n : Int), rfl, 4, (n : Int), rfl, rfl, p, 4 - (n : Int), N + 2, rfl, pa2, by omega, by omega, by omega, fun d3 H3 so3 pa3 d30 d31 => ?_⟩
  obtain ⟨m, hm2⟩ : ∃ m : Nat, (n : Int) + d3 = (m : Int) := ⟨((n : Int) + d3).toNat, by omega⟩
  refine ⟨(n : Int), d3, rfl, rfl, ?_⟩
  dsimp only
  rw [hm2]
  have m1 : n ≤ m := by omega
  have m3 : m ≤ 3 := by omega
  have so13 : SOff p H H3 := (so1.trans so2).trans so3
  -- a pair of plain rules
  have fin : ∀ (f : Nat → G.Rule), (∀ k, 1 ≤ k → k ≤ 3 → G.Small (f k)) → (∀ k, (f k).places = k) → ∀ (v : V) H4, Same H3 H4 → Dat H4 (eRule (f n)) v → ∀ (u : V) H5, Same H4 H5 → Dat H5 (eRule (f m)) u → tTupF (fun σ H Q => Q [v, u] H) [] H5 Q := fun f hs hpl v H4 s4 dv u H5 s5 du => by
    refine ⟨by show 2 ≤ sizeLine; exact le_line (by decide), fun a oa ha hoa => ?_⟩
    have s35 := (s4.trans s5).trans (same_upd (o := .frz oa (.tup [v, u])) ha)
    refine q _ _ (f n) (f m) (so13.trans (.of s35)) ((pa3.same s35).mono (by omega)) ?_ (hs n n1 n3) (hs m (by omega) m3) (by rw [hpl, hpl]; exact m1)
    exact dat_tup.mpr ⟨a, _, rfl, .new hoa, datL_cons.mpr ⟨v, _, rfl, Dat.mono (.of (s5.trans (same_upd ha))) _ _ dv, DatL.one (Dat.mono (.of (same_upd ha)) _ _ du)⟩⟩
  refine ⟨.int wy, rfl, rfl, _, rfl, ?_⟩
  generalize decide (V.int wy = V.int 0) = b0
  cases b0 with
  | true =>
    refine iteT ?_
    refine ⟨.int (n : Int), rfl, [.d (.int (n : Int))], _, ral_int _ _, ⟨n, rfl, rfl, n1, by omega⟩, fun v H4 s4 dv => ?_⟩
    refine ⟨.int (m : Int), rfl, [.d (.int (m : Int))], _, ral_int _ _, ⟨m, rfl, rfl, by omega, by omega⟩, fun u H5 s5 du => ?_⟩
    exact fin G.queueR (fun k a b => G.queue_small a b) (fun _ => rfl) v H4 s4 dv u H5 s5 du
  | false =>
  refine iteF ?_
  refine ⟨.int wy, rfl, rfl, _, rfl, ?_⟩
  generalize decide (V.int wy = V.int 1) = b1
  cases b1 with
  | true =>
    refine iteT ?_
    refine ⟨.int (n : Int), rfl, [.d (.int (n : Int))], _, ral_int _ _, ⟨n, rfl, rfl, n1, by omega⟩, fun v H4 s4 dv => ?_⟩
    refine ⟨.int (m : Int), rfl, [.d (.int (m : Int))], _, ral_int _ _, ⟨m, rfl, rfl, by omega, by omega⟩, fun u H5 s5 du => ?_⟩
    exact fin G.recentR (fun k a b => G.recent_small a b) (fun _ => rfl) v H4 s4 dv u H5 s5 du
  | false =>
  refine iteF ?_
  refine ⟨.int wy, rfl, rfl, _, rfl, ?_⟩
  generalize decide (V.int wy = V.int 2) = b2
  cases b2 with
  | true =>
    refine iteT ?_
    refine ⟨.int (n : Int), rfl, [.d (.int (n : Int))], _, ral_int _ _, ⟨n, rfl, rfl, n1, by omega⟩, fun v H4 s4 dv => ?_⟩
    refine ⟨.int (m : Int), rfl, [.d (.int (m : Int))], _, ral_int _ _, ⟨m, rfl, rfl, by omega, by omega⟩, fun u H5 s5 du => ?_⟩
    exact fin G.newestR (fun k a b => G.newest_small a b) (fun _ => rfl) v H4 s4 dv u H5 s5 du
  | false =>
  refine iteF ?_
  -- drawn ones
  refine ⟨.ref p, rfl, .int (n : Int), rfl, .ref p, rfl, p, 2, N + 3, rfl, pa3, by omega, by decide, by decide, fun d4 H4 so4 pa4 d40 d41 => ?_⟩
  obtain ⟨k, hk⟩ : ∃ k : Nat, (1 : Int) + d4 = (k : Int) := ⟨(1 + d4).toNat, by omega⟩
  refine ⟨1, d4, rfl, rfl, ?_⟩
  dsimp only
  rw [hk]
  refine ⟨p, n, k, N + 4, rfl, pa4, by omega, n1, n3, by omega, by omega, fun v H5 R so5 pa5 dv sR pR => ?_⟩
  refine ⟨v, rfl, .ref p, rfl, .ref p, rfl, .int (m : Int), rfl, .ref p, rfl, p, 2, N + 104, rfl, pa5, by omega, by decide, by decide, fun d6 H6 so6 pa6 d60 d61 => ?_⟩
  obtain ⟨k', hk'⟩ : ∃ k : Nat, (1 : Int) + d6 = (k : Int) := ⟨(1 + d6).toNat, by omega⟩
  refine ⟨1, d6, rfl, rfl, ?_⟩
  dsimp only
  rw [hk']
  refine ⟨p, m, k', N + 105, rfl, pa6, by omega, by omega, m3, by omega, by omega, fun u H7 S so7 pa7 du sS pS => ?_⟩
  refine ⟨.int (m : Int), rfl, [.d (.int (m : Int))], _, ral_int _ _, ⟨m, rfl, rfl, by omega, by omega⟩, fun x H8 s8 dx => ?_⟩
  refine ⟨.int (m : Int), rfl, [.d (.int (m : Int))], _, ral_int _ _, ⟨m, rfl, rfl, by omega, by omega⟩, fun y H9 s9 dy => ?_⟩
  refine ⟨by show 3 ≤ sizeLine; exact le_line (by decide), fun t ht => ?_⟩
  have st := same_upd (o := .lst [u, x, y]) ht
  have s79 := (s8.trans s9).trans st
  have dl : DatL (upd H9 t (.lst [u, x, y])) [eRule S, eRule (G.recentR m), eRule (G.queueR m)] [u, x, y] :=
    datL_cons.mpr ⟨u, _, rfl, Dat.mono (.of s79) _ _ du, datL_cons.mpr ⟨x, _, rfl, Dat.mono (.of (s9.trans st)) _ _ dx, DatL.one (Dat.mono (.of st) _ _ dy)⟩⟩
  refine ⟨p, t, N + 205, _, _, rfl, (pa7.same s79).mono (by omega), by omega, (pa7.same (s8.trans s9)).ne_free ht, upd_same, dl, by show 1 ≤ 3; decide, by show 3 ≤ 100; decide, fun z HA d soA paA dz hd => ?_⟩
  refine ⟨by show 2 ≤ sizeLine; exact le_line (by decide), fun a oa ha hoa => ?_⟩
  have so5A : SOff p H5 HA := ((so6.trans so7).trans (.of s79)).trans soA
  have dv2 := Dat.mono (so5A.tups pa5) _ _ dv
  obtain ⟨S2, rfl, sS2, pS2⟩ : ∃ S2, d = eRule S2 ∧ G.Small S2 ∧ S2.places = m := by
    rcases List.mem_cons.mp hd with e | hd
    · exact ⟨S, e, sS, pS⟩
    rcases List.mem_cons.mp hd with e | hd
    · exact ⟨_, e, G.recent_small (by omega) m3, rfl⟩
    · exact ⟨_, List.mem_singleton.mp hd, G.queue_small (by omega) m3, rfl⟩
  refine q _ _ R S2 ((((so13.trans so4).trans so5).trans so5A).new ha) ((paA.off (paA.ne_free ha)).mono (by omega)) ?_ sR sS2 (by omega)
  exact dat_tup.mpr ⟨a, _, rfl, .new hoa, datL_cons.mpr ⟨v, _, rfl, Dat.mono (.of (same_upd ha)) _ _ dv2, DatL.one (Dat.mono (.of (same_upd ha)) _ _ dz)⟩⟩
def spCell (K : PySem.W.Frag) : Sp := fun vs H Q _ => ∃ (a : Addr) (ns : List Int) (k : Nat), vs = [.ref a, .int (k : Int)] ∧ SqL K H a (ns.map V.int) ∧ ∀ x : Int, Q (.int x) H
abbrev N_law_cell_at : List Str := ["_law_script", "_law_k"]
theorem sc_law_cell_at : FnScope N_law_cell_at ["_law_script", "_law_k"] (defScope (top 64)) := ⟨rfl, rfl, rfl, by decide +kernel, rfl, by decide +kernel, by decide +kernel⟩
theorem ok_law_cell_at (T : Txt K mg) : Con0 P w K mg base "_law_cell_at" ["_law_script", "_law_k"] 1 (spCell K) := by
  obtain ⟨f, fd, F, hm⟩ := T.f_law_cell_at
  refine ⟨f, fd, hm, F.kp, F.binds fun _ _ _ _ _ _ us hl => match us, hl with | [_, _], _ => rfl, F.ok sc_law_cell_at (fun vs H Q E h => ?_) (fun cdv A outer s H vs Q E hr h => ?_)⟩
  · obtain ⟨a, ns, k, rfl, _⟩ := h
    rfl
  obtain ⟨a, ns, k, rfl, hS, q⟩ := h
  have nd := sc_law_cell_at.nd
  refine ⟨_, (pss_cons (ps_if (pt_cmpR op_lt (pv 1) (pe_callB (kx_len K) rfl T.n_len PySem.boot_len (pa_cons (pv 0) pa_nil)) (nomark _)) (pss_one (ps_ret (pe_ix (kx_ixL K) (pv 0) (pv 1) (fun _ _ => rfl)))) pss_nil) (pss_one (ps_ret pe_int))), ?_⟩
  refine ⟨.int (k : Int), rfl, .ref a, rfl, a, _, rfl, .inl hS, (k : Int), ((ns.map V.int).length : Int), rfl, rfl, _, rfl, ?_⟩
  rw [List.length_map]
  by_cases c : (k : Int) < (ns.length : Int)
  · rw [decide_eq_true c]
    refine iteT ?_
    have kl : k < ns.length := by omega
    refine ⟨.ref a, rfl, .int (k : Int), rfl, a, _, (k : Int), .int ns[k], rfl, rfl, hS, atI_nat (by rw [List.getElem?_map, List.getElem?_eq_getElem kl]; rfl), q _⟩
  · rw [decide_eq_false c]
    refine iteF ?_
    exact q 0
end
end DL
-- part W22
set_option linter.all false
set_option maxRecDepth 100000
set_option maxHeartbeats 4000000
/-! _law_right. -/
namespace DL
open PySem PySem.Spec PyProof.Rows L2 NdefX LamX
theorem row_req {row : List Int} (h : row ∈ G.foundK 5) : Req row := by
  obtain ⟨a, b, c⟩ := G.row_fine h
  exact ⟨a, b, by omega⟩
theorem played_req {R S : G.Rule} (v : VR R) (v' : VR S) {u : List Nat} (h : G.VW R S (G.start R S) u) (hl : u.length ≤ 60) : Req (G.played R S u) := by
  obtain ⟨a, b, _⟩ := G.played_ok v v' h
  exact ⟨fun t ht => (b t ht).1, fun t ht => by have := (b t ht).2; omega, by omega⟩
theorem within_mem {a b : G.Sta} (h : G.Within (a, b)) {t : Int} (ht : 0 ≤ t) (m : t ∈ a.1) : t ∈ b.1 := by
  rcases h t m with e | e
  · omega
  · exact e
theorem hits_le {R S : G.Rule} (n : G.Nest R S) : ∀ (ts us : List Int), (∀ t ∈ us ++ ts, 0 ≤ t) → (hitsGo S (G.run S us) ts).count false ≤ (hitsGo R (G.run R us) ts).count false
  | [], us, _ => Nat.le_refl _
  | t :: ts, us, h => by
    have t0 : 0 ≤ t := h t (List.mem_append_right _ List.mem_cons_self)
    have e : us ++ t :: ts = (us ++ [t]) ++ ts := by simp
    have ih := hits_le n ts (us ++ [t]) (by rw [← e]; exact h)
    rw [G.run_snoc, G.run_snoc] at ih
    have w := n us fun x hx => h x (List.mem_append_left _ hx)
    have hm : t ∈ (G.run R us).1 → t ∈ (G.run S us).1 := fun m => within_mem w t0 m
    show (decide (t ∈ (G.run S us).1) :: hitsGo S (G.step S (G.run S us) t) ts).count false ≤ (decide (t ∈ (G.run R us).1) :: hitsGo R (G.step R (G.run R us) t) ts).count false
    rw [List.count_cons, List.count_cons]
    by_cases c : t ∈ (G.run R us).1
    · rw [decide_eq_true c, decide_eq_true (hm c)]
      simpa using ih
    · rw [decide_eq_false c]
      by_cases c2 : t ∈ (G.run S us).1
      · rw [decide_eq_true c2]
        simp
        omega
      · rw [decide_eq_false c2]
        simpa using ih
theorem misses_le {R S : G.Rule} (n : G.Nest R S) {ts : List Int} (h : ∀ t ∈ ts, 0 ≤ t) : ((hitsOf S ts).count false : Nat) ≤ (hitsOf R ts).count false := hits_le n ts [] h
def TabOk (Pt : Addr) (H : Hp) : Prop := H Pt = some (.tbl #[]) ∨ Tab1 Pt H
def spRight (Pt : Addr) : Sp := fun vs H Q _ => ∃ R S, RAL H [.d (eRule R), .d (eRule S), .r ((G.foundK 5).map eInts)] vs ∧ G.Small R ∧ G.Small S ∧ R.places ≤ S.places ∧ TabOk Pt H ∧
  ∀ H', ExtN H H' → Tab1 Pt H' → Q (.bl true) H'
theorem nested_both {Pt : Addr} {H : Hp} {F : V → Hp → Prop} {R S : G.Rule} (hT : TabOk Pt H) (rest : ∀ v H' d, ExtN H H' → Tab1 Pt H' → Dat H' d v → NestRes R S d → F v H') :
    (H Pt = some (.tbl #[]) ∧ ∀ v H' d, ExtN H H' → Tab1 Pt H' → Dat H' d v → NestRes R S d → F v H') ∨ (Tab1 Pt H ∧ ∀ v H' d, Same H H' → Dat H' d v → NestRes R S d → F v H') := by
  rcases hT with h | h
  · exact .inl ⟨h, rest⟩
  · exact .inr ⟨h, fun v H' d s => rest v H' d (fun b o e _ => s b o e) (h.ext s)⟩
section
variable {P : Program} {w : World} {K : PySem.W.Frag} {mg : Str → Option Value} {base : Heap} {Pt : Addr}
abbrev N_law_right : List Str := ["_law_one", "_law_other", "_law_every", "_law_word", "_law_found", "_law_wishes"]
theorem sc_law_right : FnScope N_law_right ["_law_one", "_law_other", "_law_every"] (defScope (top 77)) := ⟨rfl, rfl, rfl, by decide +kernel, rfl, by decide +kernel, by decide +kernel⟩
theorem ok_law_right (TX : TxtX K mg base Pt) : Con0 P w K mg base "_law_right" ["_law_one", "_law_other", "_law_every"] 13 (spRight Pt) := by
  have T := TX.T
  obtain ⟨f, fd, F, hm⟩ := T.f_law_right
  refine ⟨f, fd, hm, F.kp, F.binds fun _ _ _ _ _ _ us hl => match us, hl with | [_, _, _], _ => rfl, F.ok sc_law_right (fun vs H Q E h => ?_) (fun cdv A outer s H vs Q E hr h => ?_)⟩
  · obtain ⟨R, S, r, _⟩ := h
    exact r.length
  obtain ⟨R, S, ⟨v1, us1, e1, d1, v2, us2, e2, d2, ve, us3, e3, d3, e4⟩, sR, sS, hpl, hT, q⟩ := h
  have e4 : us3 = [] := e4
  subst e4 e3 e2 e1
  have d1 : Dat H (eRule R) v1 := d1
  have d2 : Dat H (eRule S) v2 := d2
  obtain ⟨ae, ves, eve, he, dve⟩ := d3
  have nd := sc_law_right.nd
  refine ⟨_, (pss_cons (ps_asg (pe_con0 (ok_nested TX) hr rfl (pa_cons (pv 0) (pa_cons (pv 1) pa_nil))) (kpg_tup K rfl 2 rfl (pgs_cons (pg_name (i := 3) nd rfl (Or.inl rfl)) (pgs_cons (pg_name (i := 4) nd rfl (Or.inr rfl)) pgs_nil)))) (pss_cons (ps_if (pt_cmpR op_isnot_bl (pe_con (ok_shows_nested TX) hr rfl (pa_cons (pv 0) (pa_cons (pv 1) (pa_cons (pe_tupF (pa_cons (pv 3) (pa_cons (pv 4) pa_nil))) pa_nil)))) pe_bl (nomark _)) (pss_one (ps_ret pe_bl)) pss_nil) (pss_cons (ps_if (pt_cmpR op_eq (pv 3) pe_str (nomark _)) (pss_cons (ps_for PassesOwn.never rfl (kpi_list K rfl (pv 2)) (pg_name (i := 5) nd rfl (Or.inl rfl)) (pss_one (ps_if (PW.pt (pw_or (pt_val (pe_con (ok_law_lacks T) hr rfl (pa_cons (pv 0) (pa_cons (pv 1) (pa_cons (pv 5) pa_nil))))) (pw_or1 (pt_cmpR op_gt (pe_con (ok_misses T) hr rfl (pa_cons (pv 1) (pa_cons (pv 5) pa_nil))) (pe_con (ok_misses T) hr rfl (pa_cons (pv 0) (pa_cons (pv 5) pa_nil))) (nomark _))))) (pss_one (ps_ret pe_bl)) pss_nil))) (pss_one (ps_ret pe_bl))) pss_nil) (pss_cons (ps_if (pt_not (pt_val (pe_con (ok_law_lacks T) hr rfl (pa_cons (pv 0) (pa_cons (pv 1) (pa_cons (pe_con (ok_played TX) hr rfl (pa_cons (pv 0) (pa_cons (pv 1) (pa_cons (pv 4) pa_nil)))) pa_nil)))))) (pss_one (ps_ret pe_bl)) pss_nil) (pss_one (ps_ret (pe_cmpR (kx_eqD K rfl hr.units) (pe_lc (own := [("_law_wishes", 5)]) rfl nd (kpi_list K rfl (pv 2)) (blkOk_by (N := N_law_right) (sc := defScope (top 77)) (by decide +kernel)) (fun _ _ _ _ _ => (pg_name (i := 5) nd rfl (Or.inl rfl))) (fun _ _ _ _ _ => (pts_one (PW.pt (pw_and (pt_cmpR op_lt (pe_callB (kx_len K) rfl T.n_len PySem.boot_len (pa_cons (pv 5) pa_nil)) (pe_callB (kx_len K) rfl T.n_len PySem.boot_len (pa_cons (pv 4) pa_nil)) (nomark _)) (pw_and1 (pt_val (pe_con (ok_law_lacks T) hr rfl (pa_cons (pv 0) (pa_cons (pv 1) (pa_cons (pv 5) pa_nil)))))))))) (fun _ _ _ _ _ => (pv 5))) (pe_lst pa_nil) (nomark _)))))))), ?_⟩
  refine ⟨v1, rfl, v2, rfl, R, S, ⟨v1, _, rfl, d1, v2, _, rfl, d2, rfl⟩, sR, sS, hpl, ?_⟩
  refine nested_both hT fun v H2 d en t2 dd res => ?_
  have tp : Tups H H2 := tups_extN en
  have he2 : H2 ae = some (.lst ves) := en _ _ he (by intro ps z; cases z)
  have ral : ∀ (vw vf : V) (word : Str) (x : D), Dat H2 (.str word) vw → Dat H2 x vf → RAL H2 [.p (PT Pt (eRule R)), .d (eRule S), .r ((G.foundK 5).map eInts), .d (.str word), .d x] [v1, v2, ve, vw, vf] := fun vw vf word x h1 h2 =>
    ⟨v1, _, rfl, fun H' s' => PT.ext ⟨Dat.mono tp _ _ d1, t2⟩ s', v2, _, rfl, Dat.mono tp _ _ d2, ve, _, rfl, ⟨ae, ves, eve, he2, dve.mono tp⟩, vw, _, rfl, h1, vf, _, rfl, h2, rfl⟩
  rcases id res with ⟨nst, l, rfl, _⟩ | ⟨nn, u, rfl, hu, hw, hul, hsh⟩
  · obtain ⟨a, xs, rfl, rd, dl⟩ := dat_tup.mp dd
    obtain ⟨vw, r1, rfl, hw1, dl⟩ := datL_cons.mp dl
    obtain ⟨vf, r2, rfl, hf1, dl⟩ := datL_cons.mp dl
    obtain rfl := datL_nil.mp dl
    refine ⟨a, _, rfl, rd.sqt, rfl, vw, _, rfl, vf, _, rfl, rfl, ?_⟩
    obtain ⟨R0, no⟩ := rep_start (N := N_law_right) (ral vw vf _ _ hw1 hf1) (by simp [ArgOk])
    dsimp only
    refine (show DS _ (startE N_law_right [.p (PT Pt (eRule R)), .d (eRule S), .r ((G.foundK 5).map eInts), .d (.str "nested"), .d (.tup (l.map eArr))]) (.rt (.d (.bl true))) from ?_) _ H2 R0 _ fun v' H3 k3 r3 => ?_
    · refine ds_seq (ds_no (DT.to (dt_test (de_isnot_bl (de_call (da_p (de_varP rfl) (da_d (de_var rfl) (da_d (de_tup (dd_cons (de_var rfl) (dd_cons (de_var rfl) dd_nil))) da_nil))) ⟨R, S, _, rfl, rfl, sR, sS, hpl, res⟩) de_bl)) rfl) ds_next) ?_
      refine ds_stop (ds_yes (DT.to (dt_test (de_eqS (de_var rfl) de_str)) rfl) (ds_seq (ds_forR (n := 2) (ds := (G.foundK 5).map eInts) gok_nm rfl (loop_all (fun _ => [some (.p (PT Pt (eRule R))), some (.d (eRule S)), some (.r ((G.foundK 5).map eInts)), some (.d (.str "nested")), some (.d (.tup (l.map eArr))), none]) rfl (fun k e he => ?_))) (ds_ret de_bl)))
      rw [List.getElem?_map] at he
      obtain ⟨row, hr, rfl⟩ := Option.map_eq_some_iff.mp he
      have rq := row_req (List.mem_of_getElem? hr)
      refine ⟨_, rfl, ?_⟩
      refine ds_fg (δ1 := [some (.p (PT Pt (eRule R))), some (.d (eRule S)), some (.r ((G.foundK 5).map eInts)), some (.d (.str "nested")), some (.d (.tup (l.map eArr))), some (.d (eInts row))]) ?_ ⟨.inr rfl, .inr rfl, .inr rfl, .inr rfl, .inr rfl, .inl rfl, trivial⟩
      have ml := misses_le nst rq.lo
      refine ds_no (DT.to (dt_or (dt_B (de_call (da_d (de_varPd rfl) (da_d (de_var rfl) (da_d (de_var rfl) da_nil))) ⟨R, S, row, rfl, rfl, sR.v, sS.v, rq⟩)) fun _ => (dt_test (de_B0 (b := decide ((((hitsOf S row).count false : Nat) : Int) > (((hitsOf R row).count false : Nat) : Int))) (de_call (da_d (de_var rfl) (da_d (de_var rfl) da_nil)) ⟨S, row, rfl, rfl, sS.v, rq⟩) (de_call (da_d (de_varPd rfl) (da_d (de_var rfl) da_nil)) ⟨R, row, rfl, rfl, sR.v, rq⟩)))) ?_) ds_next
      rw [decide_eq_false (fun z => z (nst row rq.lo)), decide_eq_false (by omega)]
      rfl
    · have r3 : Dat H3 (.bl true) v' := r3
      obtain rfl := dat_bl.mp r3
      have s3 : Same H2 H3 := fun b o e => k3 b o e (no b)
      exact q H3 (extN_same en s3) (t2.ext s3)
  · obtain ⟨a, xs, rfl, rd, dl⟩ := dat_tup.mp dd
    obtain ⟨vw, r1, rfl, hw1, dl⟩ := datL_cons.mp dl
    obtain ⟨vf, r2, rfl, hf1, dl⟩ := datL_cons.mp dl
    obtain rfl := datL_nil.mp dl
    refine ⟨a, _, rfl, rd.sqt, rfl, vw, _, rfl, vf, _, rfl, rfl, ?_⟩
    obtain ⟨R0, no⟩ := rep_start (N := N_law_right) (ral vw vf _ _ hw1 hf1) (by simp [ArgOk])
    dsimp only
    refine (show DS _ (startE N_law_right [.p (PT Pt (eRule R)), .d (eRule S), .r ((G.foundK 5).map eInts), .d (.str "apart"), .d (eNats u)]) (.rt (.d (.bl true))) from ?_) _ H2 R0 _ fun v' H3 k3 r3 => ?_
    · refine ds_seq (ds_no (DT.to (dt_test (de_isnot_bl (de_call (da_p (de_varP rfl) (da_d (de_var rfl) (da_d (de_tup (dd_cons (de_var rfl) (dd_cons (de_var rfl) dd_nil))) da_nil))) ⟨R, S, _, rfl, rfl, sR, sS, hpl, res⟩) de_bl)) rfl) ds_next) ?_
      refine ds_seq (ds_no (DT.to (dt_test (de_eqS (de_var rfl) de_str)) (by decide)) ds_next) ?_
      have pq := played_req (R := R) (S := S) sR.v sS.v hu hul
      have pf := G.played_far sR.v sS.v hu hw
      refine ds_seq (ds_no (DT.to (dt_not (dt_B (de_call (da_d (de_varPd rfl) (da_d (de_var rfl) (da_d (de_call (da_p (de_varP rfl) (da_d (de_var rfl) (da_d (de_var rfl) da_nil))) ⟨R, S, u, rfl, rfl, sR.v, sS.v, hu, by omega⟩) da_nil))) ⟨R, S, G.played R S u, rfl, rfl, sR.v, sS.v, pq⟩))) (by rw [decide_eq_true pf]; rfl)) ds_next) ?_
      have none_ : (G.foundK 5).filter (fun row => decide (((row.map D.int).length : Int) < (((u.map fun (n : Nat) => (n : Int)).map D.int).length : Int)) && decide (¬ G.Within (G.run R row, G.run S row))) = [] := by
        refine List.filter_eq_nil_iff.mpr fun row hr => ?_
        simp only [Bool.and_eq_true, decide_eq_true_eq, List.length_map]
        rintro ⟨h1, h2⟩
        have := G.far_row sR.v sS.v hsh (row_req hr).lo h2
        omega
      refine ds_ret (de_eqLL (xs := []) (ys := []) (de_r (DE.to (de_filL (l := G.foundK 5) (f := eInts) (fun row => decide (((row.map D.int).length : Int) < (((u.map fun (n : Nat) => (n : Int)).map D.int).length : Int)) && decide (¬ G.Within (G.run R row, G.run S row))) eInts (.inl (de_varR rfl))
        (fun row hr => dt_and (dt_test (de_B0 (de_len (.inl (da_d (de_var rfl) da_nil))) (de_len (.inl (da_d (de_var rfl) da_nil))))) fun _ => dt_B (de_call (da_d (de_varPd rfl) (da_d (de_var rfl) (da_d (de_var rfl) da_nil))) ⟨R, S, row, rfl, rfl, sR.v, sS.v, row_req hr⟩)) (fun row hr _ => de_var rfl) (by have := (G.layers_fine 5 (by decide)).2.1; omega)) (by rw [none_]; rfl))) (de_r (de_lst dd_nil)) rfl rfl rfl)
    · have r3 : Dat H3 (.bl true) v' := r3
      obtain rfl := dat_bl.mp r3
      have s3 : Same H2 H3 := fun b o e => k3 b o e (no b)
      exact q H3 (extN_same en s3) (t2.ext s3)
end
end DL
-- part W23
set_option linter.all false
set_option maxRecDepth 100000
set_option maxHeartbeats 4000000
/-! the law itself. -/
namespace DL
open PySem PySem.Spec PyProof.Rows L2 NdefX LamX
/-- the script stays, however it stands -/
theorem scr {K : PySem.W.Frag} {H0 : Hp} {a : Addr} {xs : List V} (h : SqL K H0 a xs) : ∃ (SA : Hp → Prop) (NA : Addr → Prop), SA H0 ∧ (∀ H, SA H → SqL K H a xs) ∧ (∀ H p, SA H → H p = none → NA p) ∧ (∀ H H' p, NA p → SA H → SOff p H H' → SA H') ∧ (∀ H H', ExtN H H' → SA H → SA H') := by
  rcases h with h | h
  · refine ⟨fun H => Rd H a (.lst xs), fun p => a ≠ p, h, fun H h => .inl h, fun H p h n z => ?_, fun H H' p n h s => ?_, fun H H' e h => ?_⟩
    · subst z
      rcases h with h | ⟨o, h⟩ <;> (rw [n] at h; cases h)
    · rcases h with h | ⟨o, h⟩
      · exact .inl (s _ _ n h)
      · exact .inr ⟨o, s _ _ n h⟩
    · rcases h with h | ⟨o, h⟩
      · exact .inl (e _ _ h (by intro ps z; cases z))
      · exact .inr ⟨o, e _ _ h (by intro ps z; cases z)⟩
  · exact ⟨fun _ => True, fun _ => True, trivial, fun _ _ => .inr h, fun _ _ _ _ => trivial, fun _ _ _ _ _ _ => trivial, fun _ _ _ _ => trivial⟩
theorem extN_of {H H' : Hp} (s : Same H H') : ExtN H H' := fun b o e _ => s b o e
theorem TabOk.same {Pt : Addr} {H H' : Hp} (h : TabOk Pt H) (s : Same H H') : TabOk Pt H' := by
  rcases h with h | h
  · exact .inl (s _ _ h)
  · exact .inr (h.ext s)
theorem Tab1.off {Pt p : Addr} {N : Nat} {H H' : Hp} (h : Tab1 Pt H) (s : SOff p H H') (hp : PenAt N H p) : Tab1 Pt H' := by
  obtain ⟨ys, e⟩ := hp.there
  obtain ⟨ps, c, h1, h2, h3, h4⟩ := h
  exact ⟨ps, c, s _ _ (fun z => by rw [z, e] at h1; cases h1) h1, h2, h3, s _ _ (fun z => by rw [z, e] at h4; cases h4) h4⟩
theorem TabOk.off {Pt p : Addr} {N : Nat} {H H' : Hp} (h : TabOk Pt H) (s : SOff p H H') (hp : PenAt N H p) : TabOk Pt H' := by
  rcases h with h | h
  · obtain ⟨ys, e⟩ := hp.there
    exact .inl (s _ _ (fun z => by rw [z, e] at h; cases h) h)
  · exact .inr (h.off s hp)
theorem PenAt.ext {N : Nat} {H H' : Hp} {p : Addr} (h : PenAt N H p) (s : ExtN H H') : PenAt N H' p := by
  obtain ⟨a, b, c, h1, h2⟩ := h
  exact ⟨a, b, c, s _ _ h1 (by intro ps z; cases z), h2⟩
/-- what stays through the law's turns -/
structure LI (Pt : Addr) (SA : Hp → Prop) (e : Addr) (H : Hp) : Prop where
  sa : SA H
  ev : ∃ vs, H e = some (.lst vs) ∧ DatL H ((G.foundK 5).map eInts) vs
  tb : TabOk Pt H
theorem LI.ext {Pt e : Addr} {SA : Hp → Prop} {H H' : Hp} (h : LI Pt SA e H) (hx : ∀ H H', ExtN H H' → SA H → SA H') (s : ExtN H H') (t : TabOk Pt H') : LI Pt SA e H' := by
  obtain ⟨vs, h1, h2⟩ := h.ev
  exact ⟨hx _ _ s h.sa, ⟨vs, s _ _ h1 (by intro ps z; cases z), h2.mono (tups_extN s)⟩, t⟩
theorem LI.same {Pt e : Addr} {SA : Hp → Prop} {H H' : Hp} (h : LI Pt SA e H) (hx : ∀ H H', ExtN H H' → SA H → SA H') (s : Same H H') : LI Pt SA e H' := h.ext hx (extN_of s) (h.tb.same s)
theorem LI.off {Pt e p : Addr} {N : Nat} {SA : Hp → Prop} {NA : Addr → Prop} {H H' : Hp} (h : LI Pt SA e H) (ho : ∀ H H' p, NA p → SA H → SOff p H H' → SA H') (s : SOff p H H') (hp : PenAt N H p) (n1 : NA p) (n2 : e ≠ p) : LI Pt SA e H' := by
  obtain ⟨vs, h1, h2⟩ := h.ev
  exact ⟨ho _ _ _ n1 h.sa s, ⟨vs, s _ _ n2 h1, h2.mono (s.tups hp)⟩, h.tb.off s hp⟩
/-- the word of an answer -/
def wd : Bool → Str
  | true => "nested"
  | false => "apart"
def spLaw (K : PySem.W.Frag) (Pt : Addr) : Sp := fun vs H Q _ => ∃ (a : Addr) (ns : List Int), vs = [.ref a] ∧ SqL K H a (ns.map V.int) ∧ ns.length ≤ 63 ∧ H Pt = some (.tbl #[]) ∧ ∀ H', Q (.bl true) H'
section
variable {P : Program} {w : World} {K : PySem.W.Frag} {mg : Str → Option Value} {base : Heap} {Pt : Addr}
theorem nest_word {σ : L2.St} {H : Hp} {i j : Nat} {v1 v2 : V} {R S : G.Rule} {Q : VK} (hi : σ[i]? = some (some v1)) (hj : σ[j]? = some (some v2)) (d1 : Dat H (eRule R) v1) (d2 : Dat H (eRule S) v2) (sR : G.Small R) (sS : G.Small S) (hpl : R.places ≤ S.places) (t : Tab1 Pt H)
    (q : ∀ (b : Bool) H', Same H H' → (b = true ↔ G.Nest R S) → Q (.str (wd b)) H') : tOp (rIxT K) (tCall (spNested Pt) [] E0 (tCons (tVar i) (tCons (tVar j) tNil))) (tC (.int 0)) σ H Q := by
  refine ⟨v1, hi, v2, hj, R, S, ⟨v1, _, rfl, d1, v2, _, rfl, d2, rfl⟩, sR, sS, hpl, .inr ⟨t, fun v H' d s dd res => ?_⟩⟩
  rcases res with ⟨n, l, rfl, _⟩ | ⟨n, u, rfl, _⟩
  · obtain ⟨a, xs, rfl, rd, dl⟩ := dat_tup.mp dd
    obtain ⟨vw, r1, rfl, hw1, dl⟩ := datL_cons.mp dl
    obtain rfl := dat_str.mp hw1
    exact ⟨a, _, 0, _, rfl, rfl, rd.sqt, atI_nat (j := 0) rfl, q true H' s ⟨fun _ => n, fun _ => rfl⟩⟩
  · obtain ⟨a, xs, rfl, rd, dl⟩ := dat_tup.mp dd
    obtain ⟨vw, r1, rfl, hw1, dl⟩ := datL_cons.mp dl
    obtain rfl := dat_str.mp hw1
    exact ⟨a, _, 0, _, rfl, rfl, rd.sqt, atI_nat (j := 0) rfl, q false H' s ⟨fun z => (nomatch z), fun z => absurd z n⟩⟩
theorem de_slL {δ : Env} {ta : TE} {ds : List D} {lo hi : Option Int} {tl th : TO} (ha : DE ta δ (.r ds)) (h1 : DO tl δ lo) (h2 : DO th δ hi) : DE (tSl (rSlL K) ta tl th) δ (.l (cutD ds lo hi)) := fun σ H R0 Q q =>
  ha σ H R0 _ fun v H1 s1 d1 => h1 σ H1 (R0.ext s1) _ fun H2 s2 => h2 σ H2 ((R0.ext s1).ext s2) _ fun H3 s3 => by
    obtain ⟨a, xs, e, e2, q2⟩ := d1
    have q3 := q2.mono (.of (s2.trans s3))
    refine ⟨a, xs, e, SqL.of ((s2.trans s3) _ _ e2), fun p hp => q _ _ (((s1.trans s2).trans s3).trans (same_upd hp)) ⟨p, _, rfl, ((s1.trans s2).trans s3).free hp, upd_same, (datL_cut q3 lo hi).mono (.of (same_upd hp))⟩⟩
theorem rep_L8 {o0 o1 o2 o3 o4 o5 o6 o7 : Option V} {H : Hp} {a : Addr} {vs : List V} {ds : List D} (h : H a = some (.lst vs)) (d : DatL H ds vs) : Rep [o0, o1, o2, o3, o4, o5, o6, o7, some (.ref a)] H [none, none, none, none, none, none, none, none, some (.l ds)] := by
  have only : ∀ (i : Nat) (r : R), ([none, none, none, none, none, none, none, none, some (.l ds)] : Env)[i]? = some (some r) → i = 8 ∧ r = .l ds := fun i r e => by
    match i, e with
    | 0, e => cases e
    | 1, e => cases e
    | 2, e => cases e
    | 3, e => cases e
    | 4, e => cases e
    | 5, e => cases e
    | 6, e => cases e
    | 7, e => cases e
    | 8, e => cases e; exact ⟨rfl, rfl⟩
    | n + 9, e => simp at e
  refine ⟨rfl, fun i r e => ?_, fun i j x y b n e1 _ e2 _ => ?_⟩
  · obtain ⟨rfl, rfl⟩ := only i r e
    exact ⟨_, rfl, a, vs, rfl, h, d⟩
  · exact absurd ((only i _ e1).1.trans (only j _ e2).1.symm) n
end
end DL
-- part W24
set_option linter.all false
set_option maxRecDepth 100000
set_option maxHeartbeats 4000000
/-! the law itself, walked. -/
namespace DL
open PySem PySem.Spec PyProof.Rows L2 NdefX LamX
section
variable {P : Program} {w : World} {K : PySem.W.Frag} {mg : Str → Option Value} {base : Heap} {Pt : Addr}
theorem wd_ok (b : Bool) : PyData.strOk (wd b) = true := by cases b <;> decide +kernel
theorem shaped_two {x y : Str} (hx : PyData.strOk x = true) (hy : PyData.strOk y = true) : SeqAt.shaped (toPy (.tup [.str x, .str y])) = true := by
  unfold SeqAt.shaped
  simp [toPy, toPyL, PyData.canLay0, PyData.canLayAll0, PyData.depth, PyData.depthAll, hx, hy]
abbrev N_law : List Str := ["_law_script", "_law_every", "_law_k", "_law_pen_here", "_law_turn", "_law_one", "_law_other", "_law_third", "_law_words"]
theorem sc_law : FnScope N_law ["_law_script"] (defScope (top 78)) := ⟨rfl, rfl, rfl, by decide +kernel, rfl, by decide +kernel, by decide +kernel⟩
theorem fn_law (TX : TxtX K mg base Pt) {f : Addr} {fd : FuncData} (F : Fun K "law" "law" (top 78) f fd) : FnOk P w K mg base CX0 15 f fd ["_law_script"] (spLaw K Pt) := by
  have T := TX.T
  refine F.ok sc_law (fun vs H Q E h => ?_) (fun cdv A outer s H vs Q E hr h => ?_)
  · obtain ⟨a, ns, rfl, _⟩ := h
    rfl
  obtain ⟨a, ns, rfl, hS, hns, hP, q⟩ := h
  have nd := sc_law.nd
  refine ⟨_, pss_one (ps_try_thru0 (
    pss_cons (ps_set (i := 1) nd rfl (Or.inl rfl) (pe_con (ok_law_rows_up_to T) hr rfl (pa_cons pe_int pa_nil)))
    (pss_cons (ps_for PassesOwn.never rfl (pi_range1 rfl T.n_range (pa_cons (pe_callB (call_max2 rfl) rfl T.n_max (by rfl) (pa_cons pe_int (pa_cons (pe_callB (call_min2 rfl) rfl T.n_min (by rfl) (pa_cons (pe_callB (kx_len K) rfl T.n_len PySem.boot_len (pa_cons (pv 0) pa_nil)) (pa_cons pe_int pa_nil))) pa_nil))) pa_nil)) (pg_name (i := 2) nd rfl (Or.inl rfl))
      (pss_cons (ps_set (i := 3) nd rfl (Or.inl rfl) (pe_con (ok_law_pen T) hr rfl (pa_cons (pe_con0 (ok_law_cell_at T) hr rfl (pa_cons (pv 0) (pa_cons (pv 2) pa_nil))) pa_nil)))
      (pss_one (ps_for PassesOwn.never rfl (pi_range1 rfl T.n_range (pa_cons pe_int pa_nil)) (pg_name (i := 4) nd rfl (Or.inl rfl))
        (pss_cons (ps_asg (pe_con0 (ok_law_rising_two T) hr rfl (pa_cons (pv 3) (pa_cons pe_int pa_nil))) (kpg_tup K rfl 2 rfl (pgs_cons (pg_name (i := 5) nd rfl (Or.inl rfl)) (pgs_cons (pg_name (i := 6) nd rfl (Or.inl rfl)) pgs_nil))))
        (pss_cons (ps_if (pt_not (pt_val (pe_con0 (ok_law_right TX) hr rfl (pa_cons (pv 5) (pa_cons (pv 6) (pa_cons (pv 1) pa_nil)))))) (pss_one (ps_ret pe_bl)) pss_nil)
        (pss_cons (ps_set (i := 7) nd rfl (Or.inl rfl) (pe_con0 (ok_law_pick T) hr rfl (pa_cons (pv 3) (pa_cons (pe_lst (pa_cons (pe_con (ok_law_recent T) hr rfl (pa_cons pe_int pa_nil)) (pa_cons (pe_con (ok_law_queue T) hr rfl (pa_cons pe_int pa_nil)) (pa_cons (pe_con (ok_law_newest T) hr rfl (pa_cons pe_int pa_nil)) (pa_cons (pe_con0 (ok_law_drawn T) hr rfl (pa_cons (pv 3) (pa_cons pe_int (pa_cons pe_int pa_nil)))) pa_nil))))) pa_nil))))
        (pss_cons (ps_set (i := 8) nd rfl (Or.inl rfl) (pe_lst (pa_cons (pe_ix (kx_ixT K) (pe_con0 (ok_nested TX) hr rfl (pa_cons (pv 5) (pa_cons (pv 6) pa_nil))) pe_int (fun _ _ => rfl)) (pa_cons (pe_ix (kx_ixT K) (pe_con0 (ok_nested TX) hr rfl (pa_cons (pv 6) (pa_cons (pv 7) pa_nil))) pe_int (fun _ _ => rfl)) (pa_cons (pe_ix (kx_ixT K) (pe_con0 (ok_nested TX) hr rfl (pa_cons (pv 5) (pa_cons (pv 7) pa_nil))) pe_int (fun _ _ => rfl)) pa_nil)))))
        (pss_one (ps_if (PW.pt (pw_and (pt_cmpR (kx_eqD K rfl hr.units) (pe_slice (r := rSlL K) sl_list (pv 8) po_none (po_some pe_int)) (pe_lst (pa_cons pe_str (pa_cons pe_str pa_nil))) (nomark _)) (pw_and1 (pt_cmpR op_ne (pe_ix (kx_ixL K) (pv 8) pe_int (fun _ _ => rfl)) pe_str (nomark _))))) (pss_one (ps_ret pe_bl)) pss_nil))))))))))
    (pss_one (ps_ret (pe_cmpR op_eq (pe_ix (kx_ixT K) (pe_con0 (ok_nested TX) hr rfl (pa_cons (pv 5) (pa_cons (pv 5) pa_nil))) pe_int (fun _ _ => rfl)) pe_str (nomark _))))))), ?_⟩
  obtain ⟨SA, NA, sa0, sq, na, so, sx⟩ := scr hS
  -- every
  refine ⟨[.d (.int 5)], _, ral_int _ _, ⟨(), rfl, rfl, rfl⟩, fun ve H1 s1 de => ?_⟩
  obtain ⟨e, evs, rfl, he0, he1, dev⟩ := de
  have L1 : LI Pt SA e H1 := ⟨sx _ _ (extN_of s1) sa0, ⟨evs, he1, dev⟩, .inl (s1 _ _ hP)⟩
  -- range(max(1, min(len(script), 2)))
  refine ⟨.ref a, rfl, a, _, rfl, .inl (sq _ L1.sa), _, _, rfl, _, _, rfl, _, rfl, by rw [List.length_map]; split <;> split <;> omega, by rw [List.length_map]; split <;> split <;> omega, ?_⟩
  generalize hm : (Int.toNat _) = m
  have m1 : 1 ≤ m := by
    rw [← hm, List.length_map]
    split <;> split <;> omega
  refine for_range (fun i σ H' => ∃ (o2 o3 o4 o5 o6 o7 o8 : Option V), σ = [some (.ref a), some (.ref e), o2, o3, o4, o5, o6, o7, o8] ∧ LI Pt SA e H' ∧ (i = 0 ∨ ∃ v R, o5 = some v ∧ Dat H' (eRule R) v ∧ G.Small R ∧ Tab1 Pt H')) ?_ ?_ ?_
  · exact ⟨none, none, none, none, none, none, none, rfl, L1, .inl rfl⟩
  · rintro i σ H2 hi ⟨o2, o3, o4, o5, o6, o7, o8, rfl, L2, _⟩
    refine ⟨.ref a, rfl, .int (0 + (i : Int)), rfl, a, ns, i, by simp, sq _ L2.sa, fun x => ?_⟩
    refine ⟨[.d (.int x)], _, ral_int _ _, ⟨x, rfl, rfl, rfl⟩, fun vp H3 s3 dp => ?_⟩
    obtain ⟨p, pvs, rfl, hp0, hp3, dpv⟩ := dp
    have pa3 : PenAt 0 H3 p := by
      have := datL_ints (ns := [max 0 (x - 1000000000000000000), x % 1000000007, 0]).mp dpv
      rw [this] at hp3
      exact ⟨_, _, _, hp3, Int.emod_nonneg _ (by decide), Int.lt_trans (Int.emod_lt_of_pos _ (by decide)) (by decide), Int.le_refl _, Int.le_refl _⟩
    have L3 : LI Pt SA e H3 := L2.same sx s3
    have np : NA p := na H2 p L2.sa hp0
    have ep : e ≠ p := by
      obtain ⟨vs, h1, _⟩ := L2.ev
      exact ne_of_none h1 hp0
    refine ⟨3, rfl, by decide, by decide, ?_⟩
    refine for_range (fun j σ H' => ∃ (o4 o5 o6 o7 o8 : Option V), σ = [some (.ref a), some (.ref e), some (.int (0 + (i : Int))), some (.ref p), o4, o5, o6, o7, o8] ∧ LI Pt SA e H' ∧ PenAt (1000 * j) H' p ∧ (j = 0 ∨ ∃ v R, o5 = some v ∧ Dat H' (eRule R) v ∧ G.Small R ∧ Tab1 Pt H')) ?_ ?_ ?_
    · exact ⟨o4, o5, o6, o7, o8, rfl, L3, pa3, .inl rfl⟩
    · rintro j σ H4 hj ⟨o4, o5, o6, o7, o8, rfl, L4, pa4, _⟩
      have hj : j < 3 := hj
      refine ⟨.ref p, rfl, p, 1000 * j, rfl, pa4, by omega, fun v H5 R S so5 pa5 dv sR sS hpl => ?_⟩
      have L5 : LI Pt SA e H5 := L4.off so so5 pa4 np ep
      obtain ⟨b, xs, rfl, rd, dl⟩ := dat_tup.mp dv
      obtain ⟨v1, r1, rfl, d1, dl⟩ := datL_cons.mp dl
      obtain ⟨v2, r2, rfl, d2, dl⟩ := datL_cons.mp dl
      obtain rfl := datL_nil.mp dl
      refine ⟨b, _, rfl, rd.sqt, rfl, v1, _, rfl, v2, _, rfl, rfl, ?_⟩
      -- right
      obtain ⟨evs5, he5, de5⟩ := L5.ev
      refine ⟨v1, rfl, v2, rfl, .ref e, rfl, R, S, ⟨v1, _, rfl, d1, v2, _, rfl, d2, .ref e, _, rfl, ⟨e, evs5, rfl, he5, de5⟩, rfl⟩, sR, sS, hpl, L5.tb, fun H6 e6 t6 => ⟨true, rfl, ?_⟩⟩
      refine iteF ?_
      have L6 : LI Pt SA e H6 := L5.ext sx e6 (.inr t6)
      have pa6 := pa5.ext e6
      have d16 := Dat.mono (tups_extN e6) _ _ d1
      have d26 := Dat.mono (tups_extN e6) _ _ d2
      -- the third
      refine ⟨.ref p, rfl, [.d (.int 3)], _, ral_int _ _, ⟨3, rfl, rfl, by decide, by decide⟩, fun x1 H7 s7 dx1 => ?_⟩
      refine ⟨[.d (.int 3)], _, ral_int _ _, ⟨3, rfl, rfl, by decide, by decide⟩, fun x2 H8 s8 dx2 => ?_⟩
      refine ⟨[.d (.int 3)], _, ral_int _ _, ⟨3, rfl, rfl, by decide, by decide⟩, fun x3 H9 s9 dx3 => ?_⟩
      have s69 := (s7.trans s8).trans s9
      have pa9 := pa6.same s69
      refine ⟨.ref p, rfl, p, 3, 1, 1000 * j + 300, rfl, pa9, by omega, by decide, by decide, by decide, by decide, fun x4 H10 T4 so10 pa10 dx4 sT4 pT4 => ?_⟩
      refine ⟨by show 4 ≤ sizeLine; exact le_line (by decide), fun t ht => ?_⟩
      have st := same_upd (o := .lst [x1, x2, x3, x4]) ht
      have tp9 := so10.tups pa9
      have dl : DatL (upd H10 t (.lst [x1, x2, x3, x4])) [eRule (G.recentR 3), eRule (G.queueR 3), eRule (G.newestR 3), eRule T4] [x1, x2, x3, x4] :=
        datL_cons.mpr ⟨x1, _, rfl, Dat.mono (.of st) _ _ (Dat.mono tp9 _ _ (Dat.mono (.of (s8.trans s9)) _ _ dx1)), datL_cons.mpr ⟨x2, _, rfl, Dat.mono (.of st) _ _ (Dat.mono tp9 _ _ (Dat.mono (.of s9) _ _ dx2)), datL_cons.mpr ⟨x3, _, rfl, Dat.mono (.of st) _ _ (Dat.mono tp9 _ _ dx3), DatL.one (Dat.mono (.of st) _ _ dx4)⟩⟩⟩
      refine ⟨p, t, 1000 * j + 400, _, _, rfl, (pa10.same st).mono (by omega), by omega, pa10.ne_free ht, upd_same, dl, by show 1 ≤ 4; decide, by show 4 ≤ 100; decide, fun v3 H11 d so11 pa11 d3 hd => ?_⟩
      obtain ⟨U, rfl, sU, pU⟩ : ∃ U, d = eRule U ∧ G.Small U ∧ U.places = 3 := by
        rcases List.mem_cons.mp hd with e | hd
        · exact ⟨_, e, G.recent_small (by decide) (by decide), rfl⟩
        rcases List.mem_cons.mp hd with e | hd
        · exact ⟨_, e, G.queue_small (by decide) (by decide), rfl⟩
        rcases List.mem_cons.mp hd with e | hd
        · exact ⟨_, e, G.newest_small (by decide) (by decide), rfl⟩
        · exact ⟨T4, List.mem_singleton.mp hd, sT4, pT4⟩
      have so6 : SOff p H6 H11 := ((SOff.of s69).trans so10).trans ((SOff.of st).trans so11)
      have L11 : LI Pt SA e H11 := L6.off so so6 pa6 np ep
      have t11 : Tab1 Pt H11 := t6.off so6 pa6
      have d111 := Dat.mono (so6.tups pa6) _ _ d16
      have d211 := Dat.mono (so6.tups pa6) _ _ d26
      have lR : R.places ≤ U.places := by rw [pU]; exact sR.p3
      have lS : S.places ≤ U.places := by rw [pU]; exact sS.p3
      -- the words
      refine nest_word rfl rfl d111 d211 sR sS hpl t11 fun b1 H12 s12 hb1 => ?_
      refine nest_word rfl rfl (Dat.mono (.of s12) _ _ d211) (Dat.mono (.of s12) _ _ d3) sS sU lS (t11.ext s12) fun b2 H13 s13 hb2 => ?_
      have s113 := s12.trans s13
      refine nest_word rfl rfl (Dat.mono (.of s113) _ _ d111) (Dat.mono (.of s113) _ _ d3) sR sU lR (t11.ext s113) fun b3 H14 s14 hb3 => ?_
      have s114 := s113.trans s14
      have hb : b1 = true → b2 = true → b3 = true := fun h1 h2 => hb3.mpr ((hb1.mp h1).trans (hb2.mp h2))
      refine ⟨by show 3 ≤ sizeLine; exact le_line (by decide), fun wl hwl => ?_⟩
      have sw := same_upd (o := .lst [.str (wd b1), .str (wd b2), .str (wd b3)]) hwl
      have s115 := s114.trans sw
      have dw : DatL (upd H14 wl (.lst [.str (wd b1), .str (wd b2), .str (wd b3)])) [.str (wd b1), .str (wd b2), .str (wd b3)] [.str (wd b1), .str (wd b2), .str (wd b3)] :=
        datL_cons.mpr ⟨_, _, rfl, dat_str.mpr rfl, datL_cons.mpr ⟨_, _, rfl, dat_str.mpr rfl, DatL.one (dat_str.mpr rfl)⟩⟩
      have L15 := L11.same sx s115
      have pa15 := (pa11.same s115).mono (show 1000 * j + 400 + 1 ≤ 1000 * (j + 1) by omega)
      have d115 := Dat.mono (.of s115) _ _ d111
      have t15 := t11.ext s115
      have R0 := rep_L8 (o0 := some (.ref a)) (o1 := some (.ref e)) (o2 := some (.int (0 + (i : Int)))) (o3 := some (.ref p)) (o4 := some (.int (0 + (j : Int)))) (o5 := some v1) (o6 := some v2) (o7 := some v3) (upd_same (H := H14) (a := wl) (o := .lst [.str (wd b1), .str (wd b2), .str (wd b3)])) dw
      generalize upd H14 wl (.lst [.str (wd b1), .str (wd b2), .str (wd b3)]) = H15 at sw s115 dw L15 pa15 d115 t15 R0 ⊢
      dsimp only [tSeq, tIfS, gName, List.set]
      refine (show DT (tAnd (tTest (tOp (rEqD K) (tSl (rSlL K) (tVar 8) tNoPart (tPart (tC (.int 2)))) (tLst (tCons (tC (.str "nested")) (tCons (tC (.str "nested")) tNil))))) (tTest (tOp rNe (tOp (rIxL K) (tVar 8) (tC (.int 2))) (tC (.str "nested"))))) [none, none, none, none, none, none, none, none, some (.l [.str (wd b1), .str (wd b2), .str (wd b3)])] false from ?_) _ H15 R0 _ fun H16 s16 => ?_
      · have ix : atI [D.str (wd b1), .str (wd b2), .str (wd b3)] 2 = some (.str (wd b3)) := atI_nat (j := 2) rfl
        refine DT.to (dt_and (dt_test (de_eqLL (xs := [.str (wd b1), .str (wd b2)]) (ys := [.str "nested", .str "nested"]) (z := (b1 && b2)) (de_r (DE.to (de_slL (de_varL rfl) do_none (do_some de_int)) (congrArg DL.R.l rfl))) (de_r (de_lst (dd_cons de_str (dd_cons de_str dd_nil)))) (shaped_two (wd_ok _) (wd_ok _)) (shaped_two (wd_ok true) (wd_ok true)) (by cases b1 <;> cases b2 <;> rfl))) fun _ => dt_test (de_neS (de_ixL (de_varL rfl) de_int ix) de_str)) ?_
        revert hb
        cases b1 <;> cases b2 <;> cases b3 <;> decide
      · refine iteF ?_
        exact ⟨_, _, _, _, _, rfl, L15.same sx s16, pa15.same s16, .inr ⟨v1, R, rfl, Dat.mono (.of s16) _ _ d115, sR, t15.ext s16⟩⟩
    · rintro σ H4 ⟨o4, o5, o6, o7, o8, rfl, L4, pa4, h⟩
      exact ⟨_, _, _, _, _, _, _, rfl, L4, .inr (h.resolve_left (by decide))⟩
  · rintro σ H2 ⟨o2, o3, o4, o5, o6, o7, o8, rfl, L2, h⟩
    obtain ⟨v, R, rfl, dv, sR, t1⟩ := h.resolve_left (by omega)
    refine nest_word rfl rfl dv dv sR sR (Nat.le_refl _) t1 fun b H3 s3 hb => ?_
    obtain rfl : b = true := hb.mpr (G.Nest.refl R)
    refine ⟨rfl, ?_⟩
    exact q _
end
end DL
-- part W25
set_option linter.all false
set_option maxRecDepth 100000
set_option maxHeartbeats 4000000
/-! the end: what the top has written, the law's row. -/
namespace DL
open PySem PySem.Spec PyProof.Rows L2 NdefX LamX
section
variable {K : PySem.W.Frag} {h : Heap} {mg : Str → Option Value}
theorem txt1_mk {x : Str} {st : Stmt} {f : Addr} {oc : Value} {od an : Option Addr} {osl : Array (Option Value)} {kV doc pm cdv ct : Value} (X : K.In h) (G : h.Ns mainGlobals mg) (a : PySem.W.nsIn K mainGlobals x = some (some (.ref f)))
    (l : K.lookup f = some ⟨oc, od, .func (PySem.W.fnOf x x (defArgs st) (defBody st) (defScope st) .none kV doc pm an cdv ct), osl⟩) (c : PySem.W.codeIn K cdv x = true) (k : PySem.W.keepIn K (.ref f) = true) : Txt1 K mg x st :=
  ⟨f, _, fun_mk l c k, PySem.W.mg_of X G a⟩
theorem txtS_mk {f c : Addr} {oc : Value} {od an : Option Addr} {osl : Array (Option Value)} {kV doc pm ct : Value} (X : K.In h) (G : h.Ns mainGlobals mg) (a : PySem.W.nsIn K mainGlobals "steps_of" = some (some (.ref f)))
    (l : K.lookup f = some ⟨oc, od, .func (PySem.W.fnOf "steps_of" "steps_of" (defArgs (top 38)) (defBody (top 38)) (defScope (top 38)) .none kV doc pm an (.ref c) ct), osl⟩) (cd : PySem.W.codeIn K (.ref c) "steps_of" = true) (k : PySem.W.keepIn K (.ref f) = true) : TxtS K mg c :=
  ⟨f, oc, od, an, osl, kV, doc, pm, ct, l, cd, k, PySem.W.mg_of X G a⟩
theorem con_mk {x : Str} {i : Int} {t : Tok} (X : K.In h) (G : h.Ns mainGlobals mg) (a : PySem.W.nsIn K mainGlobals x = some (some (.int i t))) : ∃ t, mg x = some (.int i t) := ⟨t, PySem.W.mg_of X G a⟩
theorem law_at {l : PySem.W.OpenLaw} {w : World} {fa c Pt : Addr} (T : Txt K mg) (S : TxtS K mg c) (hT : h.get? Pt = some { cls := .none, data := .fields #[] }) (nT : K.lookup Pt = none) (C : PySem.W.CodeHd h c Pt) (hfa : mg "law" = some (.ref fa)) : LawAtS l w K CX0 15 63 "_law_script" mg fa h := by
  obtain ⟨f, fd, F, hm⟩ := T.f_law
  have e := hfa.symm.trans hm
  cases e
  refine ⟨fd, [(c, Pt)], spLaw K Pt, fun p hp => ?_, fun p hp => ?_, fun p hp => ?_, fun s u => ?_, fun H a ns hl _ hP hS => ⟨a, ns, rfl, hS, hl, hP (c, Pt) (List.mem_singleton_self _), fun _ => rfl⟩, fun base KX G tb => fn_law ⟨T, c, S, tb (c, Pt) (List.mem_singleton_self _)⟩ F⟩
  · rw [List.mem_singleton.mp hp]; exact hT
  · rw [List.mem_singleton.mp hp]; exact nT
  · rw [List.mem_singleton.mp hp]; exact C
  · obtain ⟨oc, od, kV, doc, pm, an, cdv, ct, osl, rfl, lk, hcd⟩ := F.ex
    exact .of_eq rfl
theorem walk {l : PySem.W.OpenLaw} {q : Program} {loose : List Str} {XP : (Str → Option Value) → Heap → Prop} {YP : World → Heap → Prop} {d : DefRec} {K : Params → PySem.W.Frag} (hn : l.most = some 63) (hdf : d.params.defaults = [])
    (hY : ∀ (w : World) (h : Heap), YP w h → (K w.params).In h)
    (F : ∀ (w : World) (mg : Str → Option Value) (fa : Addr) (h : Heap), YP w h → (K w.params).In h → h.Ns mainGlobals mg → mg d.name = some (.ref fa) → LawAtS l w (K w.params) CX0 15 63 "_law_script" mg fa h) :
    PySem.W.WalkO q loose XP YP l.row.toRowW d [] (fun f vs => PySem.call f vs) :=
  LamX.walk_ofTs (n := 63) (k := 15) (CX := fun _ => CX0) (x := "_law_script") hn (by decide) hdf ⟨rfl, by decide, by decide⟩ hY F fun _ _ _ _ _ z => z
end
end DL
-- part FIN
set_option maxRecDepth 100000
open PySem PySem.W PyProof.Rows
set_option maxRecDepth 100000 in
set_option maxHeartbeats 0 in
theorem PySem.Challenge.cw_goesout_k32_whole_nested_by_all_requests_holds : PySem.Challenge.rw_goesout_k32_whole_nested_by_all_requests.Holds := by
  w_on; o_law; k_head; (case hw => w_witness2)
  k_fill
  refine DL.walk (l := PySem.Challenge.rw_goesout_k32_whole_nested_by_all_requests) rfl rfl (fun w h Y => PySem.W.km_in_of Y) ?F
  case F =>
    intro w mg fa h Y KX G hmg
    refine' DL.law_at (Pt := 243) ?T ?S (PySem.W.km_tabs_of Y 243 (List.mem_singleton_self _)) ?nT ?C hmg
    case T =>
      constructor
      case f_graph_of => (refine' DL.txt1_mk KX G ?a ?l ?c ?k; (case a => k_is); (case l => k_is); (case c => k_is); (case k => k_is))
      case f_followed => (refine' DL.txt1_mk KX G ?a ?l ?c ?k; (case a => k_is); (case l => k_is); (case c => k_is); (case k => k_is))
      case f_end_of => (refine' DL.txt1_mk KX G ?a ?l ?c ?k; (case a => k_is); (case l => k_is); (case c => k_is); (case k => k_is))
      case f_is_whole => (refine' DL.txt1_mk KX G ?a ?l ?c ?k; (case a => k_is); (case l => k_is); (case c => k_is); (case k => k_is))
      case f_is_order => (refine' DL.txt1_mk KX G ?a ?l ?c ?k; (case a => k_is); (case l => k_is); (case c => k_is); (case k => k_is))
      case f_is_move => (refine' DL.txt1_mk KX G ?a ?l ?c ?k; (case a => k_is); (case l => k_is); (case c => k_is); (case k => k_is))
      case f_are_moves => (refine' DL.txt1_mk KX G ?a ?l ?c ?k; (case a => k_is); (case l => k_is); (case c => k_is); (case k => k_is))
      case f_is_label_row => (refine' DL.txt1_mk KX G ?a ?l ?c ?k; (case a => k_is); (case l => k_is); (case c => k_is); (case k => k_is))
      case f_is_rule => (refine' DL.txt1_mk KX G ?a ?l ?c ?k; (case a => k_is); (case l => k_is); (case c => k_is); (case k => k_is))
      case f_need_rule => (refine' DL.txt1_mk KX G ?a ?l ?c ?k; (case a => k_is); (case l => k_is); (case c => k_is); (case k => k_is))
      case f_is_thing => (refine' DL.txt1_mk KX G ?a ?l ?c ?k; (case a => k_is); (case l => k_is); (case c => k_is); (case k => k_is))
      case f_first_state => (refine' DL.txt1_mk KX G ?a ?l ?c ?k; (case a => k_is); (case l => k_is); (case c => k_is); (case k => k_is))
      case f_is_row => (refine' DL.txt1_mk KX G ?a ?l ?c ?k; (case a => k_is); (case l => k_is); (case c => k_is); (case k => k_is))
      case f_is_state_of => (refine' DL.txt1_mk KX G ?a ?l ?c ?k; (case a => k_is); (case l => k_is); (case c => k_is); (case k => k_is))
      case f_things_of => (refine' DL.txt1_mk KX G ?a ?l ?c ?k; (case a => k_is); (case l => k_is); (case c => k_is); (case k => k_is))
      case f_arranged => (refine' DL.txt1_mk KX G ?a ?l ?c ?k; (case a => k_is); (case l => k_is); (case c => k_is); (case k => k_is))
      case f_step => (refine' DL.txt1_mk KX G ?a ?l ?c ?k; (case a => k_is); (case l => k_is); (case c => k_is); (case k => k_is))
      case f_need_rules => (refine' DL.txt1_mk KX G ?a ?l ?c ?k; (case a => k_is); (case l => k_is); (case c => k_is); (case k => k_is))
      case f_named => (refine' DL.txt1_mk KX G ?a ?l ?c ?k; (case a => k_is); (case l => k_is); (case c => k_is); (case k => k_is))
      case f_first_pair => (refine' DL.txt1_mk KX G ?a ?l ?c ?k; (case a => k_is); (case l => k_is); (case c => k_is); (case k => k_is))
      case f_is_pair => (refine' DL.txt1_mk KX G ?a ?l ?c ?k; (case a => k_is); (case l => k_is); (case c => k_is); (case k => k_is))
      case f_how_many => (refine' DL.txt1_mk KX G ?a ?l ?c ?k; (case a => k_is); (case l => k_is); (case c => k_is); (case k => k_is))
      case f_moved_by => (refine' DL.txt1_mk KX G ?a ?l ?c ?k; (case a => k_is); (case l => k_is); (case c => k_is); (case k => k_is))
      case f_steps_of => (refine' DL.txt1_mk KX G ?a ?l ?c ?k; (case a => k_is); (case l => k_is); (case c => k_is); (case k => k_is))
      case f_walk_of => (refine' DL.txt1_mk KX G ?a ?l ?c ?k; (case a => k_is); (case l => k_is); (case c => k_is); (case k => k_is))
      case f_need_walk => (refine' DL.txt1_mk KX G ?a ?l ?c ?k; (case a => k_is); (case l => k_is); (case c => k_is); (case k => k_is))
      case f_seen_in => (refine' DL.txt1_mk KX G ?a ?l ?c ?k; (case a => k_is); (case l => k_is); (case c => k_is); (case k => k_is))
      case f_played => (refine' DL.txt1_mk KX G ?a ?l ?c ?k; (case a => k_is); (case l => k_is); (case c => k_is); (case k => k_is))
      case f_all_steps => (refine' DL.txt1_mk KX G ?a ?l ?c ?k; (case a => k_is); (case l => k_is); (case c => k_is); (case k => k_is))
      case f_are_pairs => (refine' DL.txt1_mk KX G ?a ?l ?c ?k; (case a => k_is); (case l => k_is); (case c => k_is); (case k => k_is))
      case f_need_greater => (refine' DL.txt1_mk KX G ?a ?l ?c ?k; (case a => k_is); (case l => k_is); (case c => k_is); (case k => k_is))
      case f_is_within => (refine' DL.txt1_mk KX G ?a ?l ?c ?k; (case a => k_is); (case l => k_is); (case c => k_is); (case k => k_is))
      case f_nested => (refine' DL.txt1_mk KX G ?a ?l ?c ?k; (case a => k_is); (case l => k_is); (case c => k_is); (case k => k_is))
      case f_are_closed => (refine' DL.txt1_mk KX G ?a ?l ?c ?k; (case a => k_is); (case l => k_is); (case c => k_is); (case k => k_is))
      case f_shows_nested => (refine' DL.txt1_mk KX G ?a ?l ?c ?k; (case a => k_is); (case l => k_is); (case c => k_is); (case k => k_is))
      case f_is_requests => (refine' DL.txt1_mk KX G ?a ?l ?c ?k; (case a => k_is); (case l => k_is); (case c => k_is); (case k => k_is))
      case f_need_requests => (refine' DL.txt1_mk KX G ?a ?l ?c ?k; (case a => k_is); (case l => k_is); (case c => k_is); (case k => k_is))
      case f_run_of => (refine' DL.txt1_mk KX G ?a ?l ?c ?k; (case a => k_is); (case l => k_is); (case c => k_is); (case k => k_is))
      case f_checked_run => (refine' DL.txt1_mk KX G ?a ?l ?c ?k; (case a => k_is); (case l => k_is); (case c => k_is); (case k => k_is))
      case f_behind => (refine' DL.txt1_mk KX G ?a ?l ?c ?k; (case a => k_is); (case l => k_is); (case c => k_is); (case k => k_is))
      case f_kept => (refine' DL.txt1_mk KX G ?a ?l ?c ?k; (case a => k_is); (case l => k_is); (case c => k_is); (case k => k_is))
      case f_hits => (refine' DL.txt1_mk KX G ?a ?l ?c ?k; (case a => k_is); (case l => k_is); (case c => k_is); (case k => k_is))
      case f_misses => (refine' DL.txt1_mk KX G ?a ?l ?c ?k; (case a => k_is); (case l => k_is); (case c => k_is); (case k => k_is))
      case f_law_rows_up_to => (refine' DL.txt1_mk KX G ?a ?l ?c ?k; (case a => k_is); (case l => k_is); (case c => k_is); (case k => k_is))
      case f_law_pen => (refine' DL.txt1_mk KX G ?a ?l ?c ?k; (case a => k_is); (case l => k_is); (case c => k_is); (case k => k_is))
      case f_law_cell_at => (refine' DL.txt1_mk KX G ?a ?l ?c ?k; (case a => k_is); (case l => k_is); (case c => k_is); (case k => k_is))
      case f_law_draw => (refine' DL.txt1_mk KX G ?a ?l ?c ?k; (case a => k_is); (case l => k_is); (case c => k_is); (case k => k_is))
      case f_law_front => (refine' DL.txt1_mk KX G ?a ?l ?c ?k; (case a => k_is); (case l => k_is); (case c => k_is); (case k => k_is))
      case f_law_one_label => (refine' DL.txt1_mk KX G ?a ?l ?c ?k; (case a => k_is); (case l => k_is); (case c => k_is); (case k => k_is))
      case f_law_queue => (refine' DL.txt1_mk KX G ?a ?l ?c ?k; (case a => k_is); (case l => k_is); (case c => k_is); (case k => k_is))
      case f_law_recent => (refine' DL.txt1_mk KX G ?a ?l ?c ?k; (case a => k_is); (case l => k_is); (case c => k_is); (case k => k_is))
      case f_law_newest => (refine' DL.txt1_mk KX G ?a ?l ?c ?k; (case a => k_is); (case l => k_is); (case c => k_is); (case k => k_is))
      case f_law_mixed => (refine' DL.txt1_mk KX G ?a ?l ?c ?k; (case a => k_is); (case l => k_is); (case c => k_is); (case k => k_is))
      case f_law_moves => (refine' DL.txt1_mk KX G ?a ?l ?c ?k; (case a => k_is); (case l => k_is); (case c => k_is); (case k => k_is))
      case f_law_drawn => (refine' DL.txt1_mk KX G ?a ?l ?c ?k; (case a => k_is); (case l => k_is); (case c => k_is); (case k => k_is))
      case f_law_pick => (refine' DL.txt1_mk KX G ?a ?l ?c ?k; (case a => k_is); (case l => k_is); (case c => k_is); (case k => k_is))
      case f_law_rising_two => (refine' DL.txt1_mk KX G ?a ?l ?c ?k; (case a => k_is); (case l => k_is); (case c => k_is); (case k => k_is))
      case f_law_lacks => (refine' DL.txt1_mk KX G ?a ?l ?c ?k; (case a => k_is); (case l => k_is); (case c => k_is); (case k => k_is))
      case f_law_right => (refine' DL.txt1_mk KX G ?a ?l ?c ?k; (case a => k_is); (case l => k_is); (case c => k_is); (case k => k_is))
      case f_law => (refine' DL.txt1_mk KX G ?a ?l ?c ?k; (case a => k_is); (case l => k_is); (case c => k_is); (case k => k_is))
      case n_all => (refine PySem.W.mg_none_of KX G ?a; (case a => k_is))
      case n_bool => (refine PySem.W.mg_none_of KX G ?a; (case a => k_is))
      case n_int => (refine PySem.W.mg_none_of KX G ?a; (case a => k_is))
      case n_isinstance => (refine PySem.W.mg_none_of KX G ?a; (case a => k_is))
      case n_len => (refine PySem.W.mg_none_of KX G ?a; (case a => k_is))
      case n_list => (refine PySem.W.mg_none_of KX G ?a; (case a => k_is))
      case n_max => (refine PySem.W.mg_none_of KX G ?a; (case a => k_is))
      case n_min => (refine PySem.W.mg_none_of KX G ?a; (case a => k_is))
      case n_range => (refine PySem.W.mg_none_of KX G ?a; (case a => k_is))
      case n_repr => (refine PySem.W.mg_none_of KX G ?a; (case a => k_is))
      case n_set => (refine PySem.W.mg_none_of KX G ?a; (case a => k_is))
      case n_sorted => (refine PySem.W.mg_none_of KX G ?a; (case a => k_is))
      case n_tuple => (refine PySem.W.mg_none_of KX G ?a; (case a => k_is))
      case c_MOST_NODES => (refine' DL.con_mk KX G ?a; (case a => k_is))
      case c_MOST_PLACES => (refine' DL.con_mk KX G ?a; (case a => k_is))
      case c_MOST_LABELS => (refine' DL.con_mk KX G ?a; (case a => k_is))
      case c_MOST_THING => (refine' DL.con_mk KX G ?a; (case a => k_is))
      case c_BLANK => (refine' DL.con_mk KX G ?a; (case a => k_is))
      case c_MOST_REQUESTS => (refine' DL.con_mk KX G ?a; (case a => k_is))
    case S => (refine' DL.txtS_mk KX G ?a ?l ?c ?k; (case a => k_is); (case l => k_is); (case c => k_is); (case k => k_is))
    case nT => kernel_rfl
    case C => exact PySem.W.codeHd_of_K KX (by kernel_rfl)
