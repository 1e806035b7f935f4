import PyProof.Rows.All
import Wide.All
import OpenK.AllK
import Wide.FinOn
import HandS.TupSets
import KE.KDictKeyed
import HandS.ForMost
import HandS.TupAny
import HandS.IsInst
import HandS.Deep
import HandS.Conv
import HandS.Flow
import HandS.Wide
import HandS.WideBits
import HandS.Text
import HandS.SetKeys
import KE.SortData
import HandS.SortRule
import HandS.Replace
import PyProof.LongRange
import PyProof.Rows.NestShow
import KE.KExcSuper
import KE.KSuper
import HandS.ExcInit
import HandS.ExcOwn
import HandS.WordsExc
import HandS.DictComp
import HandS.More
import HandS.Set
import KE.KeyNested
import PySem.Challenge.RW_inputways_k01_faults_of_programs
set_option Elab.async false
set_option linter.all false
-- T3Tab
section
set_option maxRecDepth 100000
set_option maxHeartbeats 2000000
/-! T3Tab: the slots of a set's table, up to a mask of 511 (sets of fewer than 300 items). -/
namespace T3
open PySem L2
/-- which slots the round has met, as bits -/
def cov (m : Nat) : Nat → Nat × Nat
  | 0 => (0, 0)
  | k + 1 => (((cov m k).1 * 5 + 1) % (m + 1), (cov m k).2 ||| 1 <<< (cov m k).1)
theorem cov_fst (m : Nat) : ∀ k, (cov m k).1 = lcgN m k
  | 0 => rfl
  | k + 1 => by simp only [cov, lcgN, cov_fst m k]
theorem cov_bit (m : Nat) {j : Nat} : ∀ k, (cov m k).2.testBit j = true → ∃ b, b < k ∧ lcgN m b = j
  | 0, h => by simp [cov] at h
  | k + 1, h => by
    simp only [cov, Nat.testBit_or, Bool.or_eq_true] at h
    rcases h with h | h
    · obtain ⟨b, hb, e⟩ := cov_bit m k h
      exact ⟨b, by omega, e⟩
    · rw [Nat.one_shiftLeft, Nat.testBit_two_pow, decide_eq_true_eq, cov_fst] at h
      exact ⟨k, by omega, h⟩
def Msk (m : Nat) : Prop := m = 7 ∨ m = 31 ∨ m = 127 ∨ m = 511
theorem Msk.le {m : Nat} (h : Msk m) : 7 ≤ m ∧ m ≤ 511 := by rcases h with h | h | h | h <;> omega
theorem Msk.odd {m : Nat} (h : Msk m) : m % 2 = 1 := by rcases h with h | h | h | h <;> subst h <;> rfl
theorem cov_full : (cov 7 8).2 = 2 ^ 8 - 1 ∧ (cov 31 32).2 = 2 ^ 32 - 1 ∧ (cov 127 128).2 = 2 ^ 128 - 1 ∧ (cov 511 512).2 = 2 ^ 512 - 1 := by decide +kernel
theorem round_all {m : Nat} (h : Msk m) {j : Nat} (hj : j ≤ m) : ∃ b, b ≤ m ∧ lcgN m b = j := by
  have key : (cov m (m + 1)).2 = 2 ^ (m + 1) - 1 := by
    obtain ⟨a, b, c, d⟩ := cov_full
    rcases h with h | h | h | h <;> subst h <;> assumption
  obtain ⟨b, hb, e⟩ := cov_bit m (m + 1) (j := j) (by rw [key, Nat.testBit_two_pow_sub_one, decide_eq_true_eq]; omega)
  exact ⟨b, by omega, e⟩
theorem round_end {m : Nat} (h : Msk m) : lcgN m (m + 1) = 0 := by
  have key : (cov 7 8).1 = 0 ∧ (cov 31 32).1 = 0 ∧ (cov 127 128).1 = 0 ∧ (cov 511 512).1 = 0 := by decide +kernel
  rw [← cov_fst]
  obtain ⟨a, b, c, d⟩ := key
  rcases h with h | h | h | h <;> subst h <;> assumption
theorem round_again {m : Nat} (h : Msk m) : ∀ k, lcgN m (m + 1 + k) = lcgN m k
  | 0 => round_end h
  | k + 1 => congrArg (fun x => (x * 5 + 1) % (m + 1)) (round_again h k)
theorem met_from {m i j : Nat} (h : Msk m) (hi : i ≤ m) (hj : j ≤ m) : ∃ k, k ≤ m ∧ lcgI m i k = j := by
  obtain ⟨a, a1, a2⟩ := round_all h hi
  obtain ⟨b, b1, b2⟩ := round_all h hj
  subst a2
  by_cases c : a ≤ b
  · exact ⟨b - a, by omega, by rw [lcgN_add, show a + (b - a) = b by omega, b2]⟩
  · exact ⟨m + 1 + b - a, by omega, by rw [lcgN_add, show a + (m + 1 + b - a) = m + 1 + b by omega, round_again h, b2]⟩
theorem met_run {m : Nat} (h : Msk m) (z : Int) {j : Nat} (hj : j ≤ m) : ∃ n, n ≤ m + 12 ∧ runI m (SetTable.bits z) n = j := by
  obtain ⟨k, k1, k2⟩ := met_from h (runI_le m (SetTable.bits z) 12) hj
  exact ⟨12 + k, by omega, (runI_tail (bits_lt z) k).trans k2⟩
theorem met_way {m : Nat} (h : Msk m) (z : Int) {j : Nat} (hj : j ≤ m) : ∃ k, k < 10 * SetTable.turns m ∧ way m z k = j := by
  obtain ⟨n, n1, n2⟩ := met_run h z hj
  obtain ⟨k, k1, k2⟩ := run_nth m (SetTable.bits z) n
  exact ⟨k, by unfold SetTable.turns; omega, (congrArg SetTable.Probe.j k2).trans n2⟩
theorem way_in (m : Nat) (z : Int) (k : Nat) : way m z k ≤ m := by
  have h0 : SetTable.bits z % (m + 1) ≤ m := Nat.le_of_lt_succ (Nat.mod_lt _ (Nat.succ_pos _))
  have h1 := runEnd_bd h0
  have h2 : (runAt m (SetTable.bits z % (m + 1)) (SetTable.bits z)).j + (runAt m (SetTable.bits z % (m + 1)) (SetTable.bits z)).more ≤ m := by
    simp only [runAt]; omega
  have := nth_in k _ h2
  unfold way
  omega
/-- the table of these hashes, each found again -/
structure Tb (t : SetTable) (hs : List Int) : Prop where
  up : Ris t.place.toList
  nod : t.dummies = #[]
  sz : t.place.size = hs.length
  msk : Msk t.mask
  in_ : ∀ x ∈ t.place.toList, x ≤ t.mask
  rea : ∀ (i : Nat) (z : Int) (j : Nat), hs[i]? = some z → t.place.toList[i]? = some j → ∃ k, way t.mask z k = j ∧ ∀ c, c < k → way t.mask z c ∈ t.place.toList
section
variable {t : SetTable} {hs : List Int}
theorem Tb.free (T : Tb t hs) (few : hs.length ≤ t.mask) (z : Int) : ∃ K, K < 10 * SetTable.turns t.mask ∧ way t.mask z K ∉ t.place.toList ∧ ∀ c, c < K → way t.mask z c ∈ t.place.toList := by
  obtain ⟨j, j1, j2⟩ := st_missing t.place.toList (t.mask + 1) (by have := T.sz; simp only [Array.length_toList]; omega)
  obtain ⟨k, k1, k2⟩ := met_way T.msk z (Nat.le_of_lt_succ j1)
  obtain ⟨K, a, b, c⟩ := st_least (p := fun n => way t.mask z n ∉ t.place.toList) k (by simp only [k2]; exact j2)
  exact ⟨K, by omega, b, fun n hn => Decidable.byContradiction (c n hn)⟩
theorem Tb.ahead (T : Tb t hs) {z : Int} {K i j : Nat} (free : way t.mask z K ∉ t.place.toList) (hi : hs[i]? = some z) (hj : t.place.toList[i]? = some j) : ∃ k, k < K ∧ way t.mask z k = j := by
  obtain ⟨k, k1, k2⟩ := T.rea i z j hi hj
  refine ⟨k, Nat.lt_of_not_le fun c => ?_, k1⟩
  rcases Nat.lt_or_eq_of_le c with c | c
  · exact free (k2 K c)
  · exact free (by rw [c, k1]; exact List.mem_of_getElem? hj)
/-- an item is put at the first free slot of its way -/
theorem Tb.put (T : Tb t hs) {z : Int} {K : Nat} (free : way t.mask z K ∉ t.place.toList) (full : ∀ c, c < K → way t.mask z c ∈ t.place.toList) :
    ∃ p t', t.put (way t.mask z K) = (t', p) ∧ p = SetTable.below t.place (way t.mask z K) ∧ p ≤ hs.length ∧ Tb t' (hs.take p ++ z :: hs.drop p) ∧ t'.mask = t.mask ∧ t'.led = t.led ∧ t'.plain = t.plain ∧ t'.fill = hs.length + 1 := by
  have hle := way_in t.mask z K
  generalize hw : way t.mask z K = j at free hle
  have cut := (below_cut T.up j).1
  have lenP : t.place.toList.length = hs.length := by rw [Array.length_toList]; exact T.sz
  have hp : SetTable.below t.place j ≤ t.place.toList.length := by rw [Array.length_toList]; exact cut
  have pp := put_place t j
  have grows : ∀ {x : Nat}, x ∈ t.place.toList → x ∈ (t.put j).1.place.toList := fun h => by rw [pp]; exact mem_ins.mpr (.inr h)
  have size : (t.put j).1.place.size = hs.length + 1 := by rw [← Array.length_toList, pp, len_ins _ hp, lenP]
  have nodm := put_dm T.nod j
  refine ⟨SetTable.below t.place j, (t.put j).1, rfl, rfl, by rw [← lenP]; exact hp, ?_, rfl, rfl, rfl, ?_⟩
  · constructor
    · exact ris_insert T.up fun e => free (List.mem_of_getElem? ((Array.getElem?_toList ..).trans e))
    · exact nodm
    · exact size.trans (len_ins hs (by rw [← lenP]; exact hp) z).symm
    · exact T.msk
    · intro x hx
      rw [pp, mem_ins] at hx
      exact hx.elim (fun e => e ▸ hle) (T.in_ x)
    · intro i z' j' h1 h2
      rw [tins_get hs (by rw [← lenP]; exact hp)] at h1
      rw [pp, tins_get _ hp] at h2
      have old : ∀ i', hs[i']? = some z' → t.place.toList[i']? = some j' → ∃ k, way t.mask z' k = j' ∧ ∀ c, c < k → way t.mask z' c ∈ (t.put j).1.place.toList := fun i' g1 g2 => by
        obtain ⟨k, k1, k2⟩ := T.rea i' z' j' g1 g2
        exact ⟨k, k1, fun c hc => grows (k2 c hc)⟩
      change ∃ k, way t.mask z' k = j' ∧ ∀ c, c < k → way t.mask z' c ∈ (t.put j).1.place.toList
      split at h1
      · rename_i c
        rw [if_pos c] at h2
        exact old i h1 h2
      · rename_i c
        rw [if_neg c] at h2
        split at h1
        · rename_i d
          rw [if_pos d] at h2
          cases h1
          cases h2
          exact ⟨K, hw, fun c hc => grows (full c hc)⟩
        · rename_i d
          rw [if_neg d] at h2
          exact old _ h1 h2
  · change (t.put j).1.place.size + (t.put j).1.dummies.size = _
    rw [size, nodm]
    rfl
end
/-! laying a greater table -/
theorem lay_one {m : Nat} (h : Msk m) {done : List Int} {owner : Array (Option Nat)} (W : Own m done owner) (few : done.length ≤ m) (z : Int) :
    ∃ j, SetTable.layClean.free m owner (SetTable.turns m) (SetTable.bits z % (m + 1)) (SetTable.bits z) = some j ∧ Own m (done ++ [z]) (owner.setIfInBounds j (some done.length)) := by
  obtain ⟨ps, pl, pin⟩ := W.ps
  obtain ⟨j0, g1, g2⟩ := st_missing ps (m + 1) (by omega)
  have open0 : oAt owner j0 = none := Decidable.byContradiction fun c => g2 (pin j0 (Nat.le_of_lt_succ g1) c)
  obtain ⟨n, n1, n2⟩ := met_run h z (Nat.le_of_lt_succ g1)
  have at0 : way m z (off m (SetTable.bits z % (m + 1)) (SetTable.bits z) n) = j0 := by
    have := congrArg SetTable.Probe.j (nth_off m n (SetTable.bits z % (m + 1)) (SetTable.bits z))
    rw [itL_run] at this
    exact this.trans n2
  obtain ⟨K, a, b, c⟩ := st_least (p := fun k => oAt owner (way m z k) = none) (off m (SetTable.bits z % (m + 1)) (SetTable.bits z) n) (at0 ▸ open0)
  have hin : way m z K < owner.size := by have := way_in m z K; rw [W.sz]; omega
  have new := oAt_set_self (owner := owner) (some done.length) hin
  have keeps : ∀ {i : Nat}, oAt owner i ≠ none → oAt (owner.setIfInBounds (way m z K) (some done.length)) i ≠ none := fun {i} hi => by
    by_cases e : i = way m z K
    · rw [e, new]; exact fun z => nomatch z
    · rwa [oAt_set_ne _ e]
  refine ⟨way m z K, free_spec m owner _ n _ _ K (by unfold SetTable.turns; omega) a (fun k hk => ?_) (by rw [b]; rfl), ?_⟩
  · have := c k hk
    cases e : oAt owner (way m z k) with
    | none => exact absurd e this
    | some _ => rfl
  · constructor
    · rw [Array.size_setIfInBounds]; exact W.sz
    · intro j k hj e
      by_cases q : j = way m z K
      · subst q
        rw [new] at e
        cases e
        exact ⟨z, K, by simp, rfl, fun c' hc' => keeps (c c' hc')⟩
      · rw [oAt_set_ne _ q] at e
        obtain ⟨z', K', e1, e2, e3⟩ := W.at_ j k hj e
        exact ⟨z', K', by rw [List.getElem?_append_left (List.getElem?_eq_some_iff.mp e1).1]; exact e1, e2, fun c' hc' => keeps (e3 c' hc')⟩
    · intro k hk
      simp at hk
      by_cases q : k = done.length
      · subst q; exact ⟨_, way_in m z K, new⟩
      · obtain ⟨j, hj, e⟩ := W.all k (by omega)
        refine ⟨j, hj, ?_⟩
        rw [oAt_set_ne _ (by rintro rfl; rw [b] at e; cases e)]
        exact e
    · refine ⟨way m z K :: ps, by simp [pl], fun j hj e => ?_⟩
      by_cases q : j = way m z K
      · rw [q]; exact List.mem_cons_self
      · rw [oAt_set_ne _ q] at e
        exact List.mem_cons_of_mem _ (pin j hj e)
theorem lay_many {m : Nat} (h : Msk m) : ∀ (rest done : List Int) (owner : Array (Option Nat)), Own m done owner → done.length + rest.length ≤ m →
    ∃ owner', rest.foldl (stepF m) (some (owner, done.length)) = some (owner', done.length + rest.length) ∧ Own m (done ++ rest) owner'
  | [], done, owner, W, _ => ⟨owner, rfl, by simpa using W⟩
  | z :: rest, done, owner, W, few => by
    simp only [List.length_cons] at few
    obtain ⟨j, e, W1⟩ := lay_one h W (by omega) z
    obtain ⟨owner', f, W2⟩ := lay_many h rest (done ++ [z]) _ W1 (by simp; omega)
    refine ⟨owner', ?_, by simpa using W2⟩
    rw [List.foldl_cons, stepF_some e]
    simp only [List.length_append, List.length_cons, List.length_nil, Nat.zero_add] at f ⊢
    rw [f, show done.length + 1 + rest.length = done.length + (rest.length + 1) by omega]
theorem relaid_tb (t : SetTable) {hs : Array Int} {wanted M : Nat} (size : SetTable.sizeAbove wanted - 1 = M) (h : Msk M) (few : hs.size ≤ M) :
    ∃ t' order, t.relaid hs wanted = some (t', order) ∧ order.toList.Perm (List.range hs.size) ∧ Tb t' (order.toList.map fun i => hs.getD i 0) ∧ t'.mask = M ∧ t'.led = t.led ∧ t'.plain = t.plain := by
  obtain ⟨owner, f, W⟩ := lay_many h hs.toList [] _ (Own.init M) (by simpa using few)
  rw [List.nil_append] at W
  have laid : SetTable.layClean M hs = some owner := by
    rw [layClean_eq, show (0 : Nat) = ([] : List Int).length from rfl, f]
    rfl
  have live := ris_live (fun j => owner.getD j none) (List.range (M + 1)) (by unfold Ris; exact List.pairwise_lt_range)
  have l1 : Ris ((liveOf M owner).map (·.1)) := live.1
  have l2 : ∀ x ∈ (liveOf M owner).map (·.1), x ≤ M := fun x hx => Nat.le_of_lt_succ (List.mem_range.mp (live.2 x hx))
  have count : (liveOf M owner).length = hs.size := by
    obtain ⟨ps, p1, p2⟩ := W.ps
    have c1 := nat_nodup_len _ ps (List.Pairwise.imp (fun h => Nat.ne_of_lt h) l1) fun x hx => by
      obtain ⟨⟨j, k⟩, hq, rfl⟩ := List.mem_map.mp hx
      have := (mem_live W.sz).mp hq
      exact p2 j this.1 (by rw [this.2]; exact fun z => nomatch z)
    have c2 := nat_nodup_len (List.range hs.size) ((liveOf M owner).map (·.2)) List.nodup_range fun k hk => by
      obtain ⟨j, j1, j2⟩ := W.all k (by simpa using hk)
      exact List.mem_map.mpr ⟨(j, k), (mem_live W.sz).mpr ⟨j1, j2⟩, rfl⟩
    simp only [List.length_map, List.length_range, Array.length_toList] at c1 c2 p1
    omega
  refine ⟨tabOf t M owner, ((liveOf M owner).map (·.2)).toArray, by rw [relaid_eq, size, laid]; rfl, ?_, ?_, rfl, rfl, rfl⟩
  · refine perm_range _ _ (by simpa using count) fun k hk => ?_
    obtain ⟨j, j1, j2⟩ := W.all k (by simpa using hk)
    exact List.mem_map.mpr ⟨(j, k), (mem_live W.sz).mpr ⟨j1, j2⟩, rfl⟩
  · refine ⟨l1, rfl, by simp [tabOf], h, l2, fun i z j h1 h2 => ?_⟩
    simp only [tabOf, List.getElem?_map] at h1 h2
    cases e : (liveOf M owner)[i]? with
    | none => rw [e] at h2; cases h2
    | some q =>
      rw [e] at h1 h2
      obtain ⟨y, k⟩ := q
      simp only [Option.map_some, Option.some.injEq] at h1 h2
      subst h1; subst h2
      obtain ⟨b1, b2⟩ := (mem_live W.sz).mp (List.mem_of_getElem? e)
      obtain ⟨z0, K, a1, a2, a3⟩ := W.at_ y k b1 b2
      have ez : hs.getD k 0 = z0 := by
        rw [Array.getElem?_toList] at a1
        simp [Array.getD_eq_getD_getElem?, a1]
      rw [ez]
      refine ⟨K, a2, fun c hc => ?_⟩
      cases q : oAt owner (way M z0 c) with
      | none => exact absurd q (a3 c hc)
      | some k2 => exact List.mem_map.mpr ⟨(way M z0 c, k2), (mem_live W.sz).mpr ⟨way_in M z0 c, q⟩, rfl⟩
/-- when a table is full, how great the next one is -/
theorem next_mask : SetTable.sizeAbove (SetTable.grown 5) = 32 ∧ SetTable.sizeAbove (SetTable.grown 19) = 128 ∧ SetTable.sizeAbove (SetTable.grown 77) = 512 := by decide +kernel
end T3
end
-- T3Set
section
set_option maxRecDepth 100000
set_option maxHeartbeats 4000000
/-! T3Set: sets of keys that stand on the heap (tuples), at the model. -/
namespace T3
open PySem PySem.Spec PyProof.Rows L2
section
variable {P : Program} {w : World} {κ : Type} [DecidableEq κ]
/-- a kind of keys of which a search shows nothing -/
structure Shy (knd : HeapKind P w κ) : Prop where
  st : knd.Stays
  noCls : ∀ {A : Around} {E : Value → Shared → Prop} {s : Shared} {k : κ} {a : Addr} {Q : Bool → Shared → Prop}, knd.is s.heap k a → Q false s → wpAny (model P w) A (ofAClassStatement 8 (.ref a)) Q E s
  byVal : ∀ {A : Around} {E : Value → Shared → Prop} {s : Shared} {k : κ} {a : Addr} {Q : Bool → Shared → Prop}, knd.is s.heap k a → (∀ b, Q b s) → wpAny (model P w) A (hashByValue 8 (.ref a)) Q E s
  roomy : ∀ A : Around, A.units + 64 < cLine → knd.room A
variable {knd : HeapKind P w κ}
abbrev rowK (knd : HeapKind P w κ) (p : Addr × κ) : Int × Value := (knd.hash p.2, Value.ref p.1)
/-- the set at a: its keys L, in its table's order -/
structure SetK (knd : HeapKind P w κ) (h : Heap) (a : Addr) (L : List (Addr × κ)) (es : Array (Int × Value)) (ep : Nat) (t : SetTable) : Prop where
  ob : ∃ o, h.get? a = some o ∧ o.ExactSet ∧ o.data = .set es ep t
  rows : es.toList = L.map (rowK knd)
  tab : Tb t (L.map fun p => knd.hash p.2)
  nd : (L.map (·.2)).Nodup
  keys : ∀ p ∈ L, knd.is h p.2 p.1
  led : w.params.followText "set-order" = true ∨ t.led = true
  roomy : L.length * 5 < t.mask * 3
  few : L.length < 300
section
variable {A : Around} {E : Value → Shared → Prop} {s : Shared} {a : Addr} {L : List (Addr × κ)} {es : Array (Int × Value)} {ep : Nat} {t : SetTable}
theorem rows_size (h : es.toList = L.map (rowK knd)) : es.size = L.length := by
  have := congrArg List.length h
  simpa using this
theorem rows_get (h : es.toList = L.map (rowK knd)) {i : Nat} {p : Addr × κ} (hp : L[i]? = some p) : es[i]? = some (rowK knd p) := by
  rw [← Array.getElem?_toList, h, List.getElem?_map, hp]
  rfl
theorem fits_of {n : Nat} (nod : t.dummies = #[]) (sz : t.place.size = n) (le : n ≤ t.mask) : t.fits n = true := by
  simp [SetTable.fits, SetTable.fill, nod, sz, le]
theorem SetK.fits (R : SetK knd s.heap a L es ep t) : t.fits es.size = true := by
  have h1 := rows_size R.rows
  have h2 := R.tab.sz
  have h3 := R.roomy
  simp only [List.length_map] at h2
  exact fits_of R.tab.nod (by omega) (by omega)
/-- nothing is seen of a search among them -/
theorem unseen (S : Shy knd) {k : κ} {x : Addr} {Q : Bool → Shared → Prop} (hx : knd.is s.heap k x) {ys : List Value} (hy : ∀ y ∈ ys, ∃ c k', y = Value.ref c ∧ knd.is s.heap k' c) (q : Q false s) :
    wpAny (model P w) A (searchCouldBeSeen (.ref x) ys) Q E s := by
  unfold searchCouldBeSeen
  refine wpAny_bind (wpAny_forIn_list _ (fun left st s' => st.1 = none ∧ s' = s ∧ ∀ y ∈ left, ∃ c k', y = Value.ref c ∧ knd.is s.heap k' c) _ ?_ ?_ _ _ ⟨rfl, rfl, hy⟩)
  · rintro v left st s' ⟨e1, e2, all⟩
    subst e2
    obtain ⟨c, k', e3, hc⟩ := all v List.mem_cons_self
    subst e3
    have more : ∀ y ∈ left, ∃ c k', y = Value.ref c ∧ knd.is s'.heap k' c := fun y h => all y (List.mem_cons_of_mem _ h)
    dsimp only
    by_cases same : (x == c || (carriedByValue (.ref x) && carriedByValue (.ref c))) = true
    · exact wp_if_pos same (wpAny_pure ⟨rfl, rfl, more⟩)
    · refine wp_if_neg same (wpAny_bind (knd.quiet hx ?_))
      simp only [Bool.not_true, Bool.false_eq_true, if_false]
      refine wpAny_bind (knd.quiet hc ?_)
      simp only [Bool.not_true, Bool.false_eq_true, if_false]
      refine wpAny_bind (S.noCls hx ?_)
      simp only [Bool.false_eq_true, if_false]
      refine wpAny_bind (S.noCls hc ?_)
      simp only [Bool.false_eq_true, if_false]
      exact wpAny_pure ⟨rfl, rfl, more⟩
  · rintro ⟨r1, r2⟩ s' ⟨e1, e2, _⟩
    subst e2
    simp only at e1
    subst e1
    exact wpAny_pure q
abbrev stepAt (t : SetTable) (z : Int) (c : Nat) : SetTable.Probe := nth t.mask (runAt t.mask (SetTable.bits z % (t.mask + 1)) (SetTable.bits z)) c
theorem stepAt_clean (t : SetTable) (z : Int) (c : Nat) : (stepAt t z c).dummy = none := by
  have keep : ∀ (n : Nat) (p : SetTable.Probe), p.dummy = none → (nth t.mask p n).dummy = none := by
    intro n
    induction n with
    | zero => exact fun _ h => h
    | succ n ih => exact fun p h => ih _ (by unfold adv; split <;> exact h)
  exact keep c _ rfl
/-- the search for k, from the c-th step of its way -/
theorem seek (S : Shy knd) (R : SetK knd s.heap a L es ep t) {x : Addr} {k : κ} (hx : knd.is s.heap k x) (room : knd.room A) {K : Nat} (Kf : K < 10 * SetTable.turns t.mask)
    (free : way t.mask (knd.hash k) K ∉ t.place.toList) (full : ∀ c, c < K → way t.mask (knd.hash k) c ∈ t.place.toList) {Q : SetFound → Shared → Prop}
    (yes : k ∈ L.map (·.2) → Q (.there none) s) (no : k ∉ L.map (·.2) → Q (.free (way t.mask (knd.hash k) K) false) s) :
    ∀ (f c : Nat) (stand : Option SetTable.Probe), stand.getD (t.probeStart (knd.hash k)) = stepAt t (knd.hash k) c → c ≤ K → K < f + c →
      (∀ (i : Nat) p, L[i]? = some p → p.2 = k → ∃ c', c ≤ c' ∧ c' < K ∧ t.place.toList[i]? = some (way t.mask (knd.hash k) c')) →
      wpAny (model P w) A (setSearchFrom a (.ref x) (knd.hash k) true f stand) Q E s := by
  intro f
  induction f with
  | zero => intro c stand _ h1 h2; omega
  | succ f ih =>
    intro c stand hst hc hf ahead
    obtain ⟨o, ho, hex, hd⟩ := R.ob
    have gw : ¬ t.gaveWay = true := by unfold SetTable.gaveWay; rw [R.tab.msk.odd]; decide
    rw [setSearchFrom_succ]
    refine wpAny_bind (wpAny_setState_of ho hd R.fits ?_)
    dsimp only
    refine wp_if_neg gw ?_
    try refine wpAny_bind (wpAny_pure ?_)
    have on : ∀ q, nth t.mask (stepAt t (knd.hash k) c) q = stepAt t (knd.hash k) (c + q) := fun q => (nth_add t.mask c _ q).symm
    have onj : ∀ q, (nth t.mask (stepAt t (knd.hash k) c) q).j = way t.mask (knd.hash k) (c + q) := fun q => congrArg SetTable.Probe.j (on q)
    have hashed : ∀ (i : Nat) p, L[i]? = some p → (fun i => (es[i]?.map (·.1)).getD 0) i = knd.hash p.2 := fun i p hp => by simp only [rows_get R.rows hp]; rfl
    rcases go_spec t R.tab.up R.tab.nod (fun i => (es[i]?.map (·.1)).getD 0) (knd.hash k) (10 * SetTable.turns t.mask) (K - c) _ (stepAt_clean t _ c) (by omega)
      (fun q hq => by rw [onj]; exact full _ (by omega)) (by rw [onj, show c + (K - c) = K by omega]; exact free) with ⟨q, i, q1, q2, q3, q4, q5⟩ | ⟨q4, q5⟩
    · -- a slot of the same hash
      have met : t.probe (fun i => (es[i]?.map (·.1)).getD 0) (knd.hash k) (stand.getD (t.probeStart (knd.hash k))) = some (.candidate (way t.mask (knd.hash k) (c + q)) i (stepAt t (knd.hash k) (c + (q + 1)))) := by
        rw [hst, ← onj, ← on]
        exact q5
      rw [met]
      dsimp only
      rw [onj] at q2
      have il : i < L.length := by
        have h1 := (List.getElem?_eq_some_iff.mp q2).1
        have h2 := R.tab.sz
        simp only [List.length_map, Array.length_toList] at h1 h2
        omega
      obtain ⟨p, hp⟩ : ∃ p, L[i]? = some p := ⟨_, List.getElem?_eq_getElem il⟩
      have pm := List.mem_of_getElem? hp
      have tail : wpAny (model P w) A (searchRest a (.ref x) (knd.hash k) true f es t (way t.mask (knd.hash k) (c + q)) i (stepAt t (knd.hash k) (c + (q + 1)))) Q E s := by
        unfold searchRest
        rw [rows_get R.rows hp]
        dsimp only
        refine wpAny_bind (wpAny_holding (knd.eqBool room (R.keys p pm) hx ?_))
        refine wpAny_bind (wpAny_setState_of ho hd R.fits ?_)
        dsimp only
        by_cases same : p.2 = k
        · exact wp_if_pos (by simp [same]) (wpAny_pure (yes (List.mem_map.mpr ⟨p, pm, same⟩)))
        · refine wp_if_neg (by simp [same]) ?_
          try refine wpAny_bind (wpAny_pure ?_)
          rw [sameMem]
          dsimp only
          have live := slot_live R.tab.up q2
          simp only [if_true, live, rows_get R.rows hp]
          refine wpAny_bind (wpAny_isSame_ref_self (wpAny_bind (wpAny_pure ?_)))
          simp only [if_true]
          refine wp_if_neg (by simp [same]) (ih (c + (q + 1)) _ rfl (by omega) (by omega) fun i0 p0 h0 k0 => ?_)
          obtain ⟨c', a1, a2, a3⟩ := ahead i0 p0 h0 k0
          refine ⟨c', Nat.lt_of_not_le fun le => ?_, a2, a3⟩
          have le : c' ≤ c + q := le
          rcases Nat.lt_or_eq_of_le le with lt | eq
          · exact q4 (c' - c) i0 (by omega) (by rw [onj, show c + (c' - c) = c' by omega]; exact a3) ((hashed i0 p0 h0).trans (congrArg knd.hash k0))
          · subst eq
            have e2 := slot_live R.tab.up a3
            rw [live] at e2
            cases e2
            rw [hp] at h0
            cases h0
            exact same k0
      by_cases led : t.led = true
      · refine wp_if_neg (by simp [led]) ?_
        try refine wpAny_bind (wpAny_pure ?_)
        exact tail
      · refine wp_if_pos (by simp [led]) (wpAny_bind (unseen S hx (fun y hy => ?_) ?_))
        · obtain ⟨e, he, rfl⟩ := List.mem_map.mp hy
          have he : e ∈ es.toList := by simp at he; simpa using he.1
          rw [R.rows] at he
          obtain ⟨p', hp', rfl⟩ := List.mem_map.mp he
          exact ⟨_, _, rfl, R.keys p' hp'⟩
        · refine wp_if_neg (by decide) ?_
          try refine wpAny_bind (wpAny_pure ?_)
          exact tail
    · -- the free slot
      have met : t.probe (fun i => (es[i]?.map (·.1)).getD 0) (knd.hash k) (stand.getD (t.probeStart (knd.hash k))) = some (.empty (way t.mask (knd.hash k) K) none) := by
        have := onj (K - c)
        rw [show c + (K - c) = K by omega] at this
        rw [hst, ← this]
        exact q5
      rw [met]
      dsimp only
      refine wpAny_pure (no fun hm => ?_)
      obtain ⟨p0, h0, k0⟩ := List.mem_map.mp hm
      obtain ⟨i0, h1⟩ := List.mem_iff_getElem?.mp h0
      obtain ⟨c', a1, a2, a3⟩ := ahead i0 p0 h1 k0
      exact q4 (c' - c) i0 (by omega) (by rw [onj, show c + (c' - c) = c' by omega]; exact a3) ((hashed i0 p0 h1).trans (congrArg knd.hash k0))
theorem seek_all (S : Shy knd) (R : SetK knd s.heap a L es ep t) {x : Addr} {k : κ} (hx : knd.is s.heap k x) (room : knd.room A) {Q : SetFound → Shared → Prop}
    (yes : k ∈ L.map (·.2) → Q (.there none) s)
    (no : ∀ K, k ∉ L.map (·.2) → way t.mask (knd.hash k) K ∉ t.place.toList → (∀ c, c < K → way t.mask (knd.hash k) c ∈ t.place.toList) → Q (.free (way t.mask (knd.hash k) K) false) s) :
    wpAny (model P w) A (setSearch a (.ref x) (knd.hash k) true) Q E s := by
  have h1 := R.roomy
  obtain ⟨K, Kf, free, full⟩ := R.tab.free (by rw [List.length_map]; omega) (knd.hash k)
  have h2 := R.tab.msk.le
  unfold setSearch
  refine seek S R hx room Kf free full yes (fun h => no K h free full) 100000 0 none rfl (Nat.zero_le _) (by unfold SetTable.turns at Kf; omega) fun i p hp hk => ?_
  have hz : (L.map fun p => knd.hash p.2)[i]? = some (knd.hash k) := by rw [List.getElem?_map, hp, ← hk]; rfl
  have il : i < t.place.toList.length := by
    have h3 := (List.getElem?_eq_some_iff.mp hp).1
    have h4 := R.tab.sz
    simp only [List.length_map, Array.length_toList] at h4 ⊢
    omega
  have hj := List.getElem?_eq_getElem il
  obtain ⟨c, c1, c2⟩ := R.tab.ahead free hz hj
  exact ⟨c, Nat.zero_le _, c1, by rw [hj, c2]⟩
/-! laying anew -/
theorem range_get {α : Type} : ∀ (L : List α), (List.range L.length).filterMap (fun i => L[i]?) = L
  | [] => rfl
  | x :: L => by
    rw [List.length_cons, List.range_succ_eq_map, List.filterMap_cons_some (b := x) (by rfl), List.filterMap_map]
    exact congrArg (x :: ·) (range_get L)
theorem rows_order {α : Type} (f : α → Int × Value) (L : List α) (es : Array (Int × Value)) (order : Array Nat) (hr : es.toList = L.map f) (hp : order.toList.Perm (List.range L.length)) :
    ∃ M : List α, (order.filterMap (es[·]?)).toList = M.map f ∧ M.Perm L ∧ (M.map fun p => (f p).1) = order.toList.map fun i => (es.map (·.1)).getD i 0 := by
  have get : ∀ i, es[i]? = (L[i]?).map f := fun i => by rw [← Array.getElem?_toList, hr, List.getElem?_map]
  refine ⟨order.toList.filterMap fun i => L[i]?, ?_, ?_, ?_⟩
  · rw [Array.toList_filterMap, List.map_filterMap]
    exact congrArg (fun g => List.filterMap g order.toList) (funext get)
  · have := hp.filterMap fun i => L[i]?
    rwa [range_get] at this
  · have key : ∀ l : List Nat, (∀ i ∈ l, i < L.length) → ((l.filterMap fun i => L[i]?).map fun p => (f p).1) = l.map fun i => (es.map (·.1)).getD i 0 := by
      intro l
      induction l with
      | nil => exact fun _ => rfl
      | cons i l ih =>
        intro h
        have hi := h i List.mem_cons_self
        have e := get i
        rw [List.getElem?_eq_getElem hi] at e
        rw [List.filterMap_cons_some (List.getElem?_eq_getElem hi), List.map_cons, List.map_cons, ih fun j hj => h j (List.mem_cons_of_mem _ hj)]
        congr 1
        simp [Array.getD_eq_getD_getElem?, e]
    exact key _ fun i hi => List.mem_range.mp (hp.mem_iff.mp hi)
/-- keys stay while a set is written -/
theorem Shy.same (S : Shy knd) {h h' : Heap} {k : κ} {x : Addr} {o : Obj} (hx : knd.is h k x) (ho : h.get? a = some o) (hd : o.data = .set es ep t) (sb : Heap.SameBut a h h') : knd.is h' k x :=
  S.st.stays (fun b u vs n hb du => (sb.2 b (by
    rintro rfl
    rw [ho] at hb
    cases hb
    rw [hd] at du
    cases du)).trans hb) hx
theorem relay (S : Shy knd) {o : Obj} (ho : s.heap.get? a = some o) (hex : o.ExactSet) (hd : o.data = .set es ep t) (hrows : es.toList = L.map (rowK knd)) (sz : t.place.size = es.size) (nod : t.dummies = #[]) (le : es.size ≤ t.mask)
    (nd : (L.map (·.2)).Nodup) (keys : ∀ p ∈ L, knd.is s.heap p.2 p.1) (led : w.params.followText "set-order" = true ∨ t.led = true) (few : L.length < 300) {wanted M : Nat}
    (size : SetTable.sizeAbove wanted = M + 1) (msk : Msk M) (room : L.length * 5 < M * 3) {Q : Unit → Shared → Prop}
    (q : ∀ h' L' es' ep' t', Heap.SameBut a s.heap h' → SetK knd h' a L' es' ep' t' → L'.Perm L → Q () { s with heap := h' }) : wpAny (model P w) A (setRelay a wanted) Q E s := by
  have cnt := rows_size hrows
  obtain ⟨t', order, e, perm, T, em, el, ep'⟩ := relaid_tb t (hs := es.map (·.1)) (wanted := wanted) (by rw [size]; rfl) msk (by rw [Array.size_map]; omega)
  rw [Array.size_map, cnt] at perm
  obtain ⟨L2, r1, r2, r3⟩ := rows_order (rowK knd) L es order hrows perm
  rw [← r3] at T
  have cnt2 : (order.filterMap (es[·]?)).size = es.size := by rw [rows_size r1, r2.length_eq, cnt]
  have mle := msk.le
  rw [setRelay_eq]
  refine wpAny_bind (wpAny_setState_of ho hd (fits_of nod sz le) ?_)
  dsimp only
  refine wp_if_neg (by rw [size, sizeLine_eq]; omega) ?_
  try refine wpAny_bind (wpAny_pure ?_)
  rw [e]
  dsimp only
  refine wpAny_bind (wp_if_neg (by rw [cnt2]; simp) ?_)
  try refine wpAny_bind (wpAny_pure ?_)
  refine wpAny_pure ?_
  dsimp only
  refine wpAny_storeSet_of ho hd ?_ (by rw [cnt2, cnt, sizeLine_eq]; omega)
  have sb : Heap.SameBut a s.heap (s.heap.update a (Obj.putSet (order.filterMap (es[·]?)) t')) := Heap.SameBut.update ..
  refine q _ L2 (order.filterMap (es[·]?)) (ep + 1) t' sb
    { ob := ⟨_, store_at ho hd, ⟨hex.1, hex.2.1, hex.2.2⟩, rfl⟩, rows := r1, tab := T, nd := (r2.map (·.2)).nodup_iff.mpr nd,
      keys := fun p hp => S.same (keys p (r2.mem_iff.mp hp)) ho hd sb, led := by rw [el]; exact led, roomy := by rw [r2.length_eq, em]; exact room, few := by rw [r2.length_eq]; exact few } r2
/-- an item added -/
theorem add_key (S : Shy knd) (R : SetK knd s.heap a L es ep t) {x : Addr} {k : κ} (hx : knd.is s.heap k x) (room : knd.room A) (few : L.length + 1 < 300) {Q : Bool → Shared → Prop}
    (q : ∀ b h' L' es' ep' t', Heap.SameBut a s.heap h' → SetK knd h' a L' es' ep' t' → (k ∈ L.map (·.2) → L' = L) → (k ∉ L.map (·.2) → L'.Perm ((x, k) :: L)) → Q b { s with heap := h' }) :
    wpAny (model P w) A (setAddHashed a (.ref x) (knd.hash k)) Q E s := by
  obtain ⟨o, ho, hex, hd⟩ := R.ob
  have cnt := rows_size R.rows
  have roomy := R.roomy
  unfold setAddHashed
  refine wpAny_holding ?_
  rw [show (100000 : Nat) = 99999 + 1 from rfl, setAddHashedIn_succ]
  refine wpAny_bind (wpAny_setState_of ho hd R.fits ?_)
  dsimp only
  refine wp_if_neg (by simp [byScan, Value.scannable]) ?_
  try refine wpAny_bind (wpAny_pure ?_)
  refine wpAny_bind (seek_all S R hx room (fun hm => ?_) fun K hm free full => ?_)
  · exact wpAny_pure (q false s.heap L es ep t (Heap.SameBut.refl a s.heap) R (fun _ => rfl) fun z => absurd hm z)
  · dsimp only
    refine wpAny_bind (wpAny_setState_of ho hd R.fits ?_)
    dsimp only
    obtain ⟨p, t1, e1, e2, e3, T, em, el, epl, fill⟩ := R.tab.put free full
    rw [e1]
    dsimp only
    -- whether the hash is by value or not, the table is the same but for a mark
    suffices fin : ∀ t2 : SetTable, Tb t2 ((L.map fun p => knd.hash p.2).take p ++ knd.hash k :: (L.map fun p => knd.hash p.2).drop p) → t2.mask = t.mask → t2.led = t.led → t2.fill = (L.map fun p => knd.hash p.2).length + 1 →
        wpAny (model P w) A (storeSet a (SetTable.insertAt es p (knd.hash k, Value.ref x)) t2) (fun _ s' => wpAny (model P w) A (if (!false && t2.tooFull) = true then (do setRelay a (SetTable.grown (es.size + 1)); pure true) else pure true) Q E s') E s by
      by_cases pl : t1.plain = true
      · have go : ∀ b : Bool, wpAny (model P w) A (storeSet a (SetTable.insertAt es p (knd.hash k, Value.ref x)) (if b = true then t1 else { t1 with plain := false })) (fun _ s' => wpAny (model P w) A (if (!false && (if b = true then t1 else { t1 with plain := false }).tooFull) = true then (do setRelay a (SetTable.grown (es.size + 1)); pure true) else pure true) Q E s') E s := fun b => by
          cases b
          · exact fin { t1 with plain := false } ⟨T.up, T.nod, T.sz, T.msk, T.in_, T.rea⟩ em el fill
          · exact fin t1 T em el fill
        exact wp_if_pos pl (wpAny_bind (S.byVal hx fun b => wpAny_bind (go b)))
      · exact wp_if_neg pl (wpAny_bind (wpAny_pure (wpAny_bind (fin t1 T em el fill))))
    clear T em el fill
    intro t1 T em el fill
    have led1 : w.params.followText "set-order" = true ∨ t1.led = true := by rw [el]; exact R.led
    have perm := put_perm L p (x, k)
    have rows1 : (SetTable.insertAt es p (knd.hash k, Value.ref x)).toList = (L.take p ++ (x, k) :: L.drop p).map (rowK knd) := by
      rw [SetTable.toList_insertAt, R.rows]
      simp [List.map_take, List.map_drop]
    have hs1 : (L.take p ++ (x, k) :: L.drop p).map (fun p => knd.hash p.2) = (L.map fun p => knd.hash p.2).take p ++ knd.hash k :: (L.map fun p => knd.hash p.2).drop p := by
      simp [List.map_take, List.map_drop]
    rw [← hs1] at T
    rw [List.length_map] at fill
    have nd1 : ((L.take p ++ (x, k) :: L.drop p).map (·.2)).Nodup := (perm.map (·.2)).nodup_iff.mpr (List.nodup_cons.mpr ⟨hm, R.nd⟩)
    have cnt1 := rows_size rows1
    have len1 := perm.length_eq
    generalize SetTable.insertAt es p (knd.hash k, Value.ref x) = es1 at rows1 cnt1 ⊢
    generalize L.take p ++ (x, k) :: L.drop p = L1 at perm T nd1 rows1 cnt1 len1
    simp only [List.length_cons] at len1
    refine wpAny_storeSet_of ho hd ?_ (by rw [cnt1, sizeLine_eq]; omega)
    have sb : Heap.SameBut a s.heap (s.heap.update a (Obj.putSet es1 t1)) := Heap.SameBut.update ..
    have ho1 := store_at (es' := es1) (t' := t1) ho hd
    generalize s.heap.update a (Obj.putSet es1 t1) = h1 at sb ho1 ⊢
    have keys1 : ∀ p ∈ L1, knd.is h1 p.2 p.1 := fun p hp => by
      rcases List.mem_cons.mp (perm.mem_iff.mp hp) with e | hp
      · rw [e]; exact S.same hx ho hd sb
      · exact S.same (R.keys p hp) ho hd sb
    by_cases hf : t1.tooFull = true
    · first
        | (refine wpAny_bind ?_; refine wp_if_pos (by simp [hf]) ?_)
        | (refine wp_if_pos (by simp [hf]) ?_; refine wpAny_bind ?_)
      have full1 : (L.length + 1) * 5 ≥ t.mask * 3 := by
        have h := hf
        unfold SetTable.tooFull at h
        rw [decide_eq_true_eq, fill, em] at h
        exact h
      have sz1 : t1.place.size = es1.size := by
        have h := T.sz
        rw [List.length_map] at h
        omega
      rw [cnt]
      obtain ⟨M, size, msk, rm⟩ : ∃ M, SetTable.sizeAbove (SetTable.grown (L.length + 1)) = M + 1 ∧ Msk M ∧ L1.length * 5 < M * 3 := by
        obtain ⟨n1, n2, n3⟩ := next_mask
        rcases R.tab.msk with e | e | e | e
        · exact ⟨31, by rw [show L.length + 1 = 5 by omega, n1], .inr (.inl rfl), by omega⟩
        · exact ⟨127, by rw [show L.length + 1 = 19 by omega, n2], .inr (.inr (.inl rfl)), by omega⟩
        · exact ⟨511, by rw [show L.length + 1 = 77 by omega, n3], .inr (.inr (.inr rfl)), by omega⟩
        · omega
      refine relay (s := { s with heap := h1 }) S ho1 ⟨hex.1, hex.2.1, hex.2.2⟩ rfl rows1 sz1 T.nod (by rw [cnt1, em]; omega) nd1 keys1 led1 (by omega) size msk rm fun h2 L2 es2 ep2 t2 sb2 R2 perm2 => ?_
      exact wpAny_pure (q true h2 L2 es2 ep2 t2 (sb.trans sb2) R2 (fun z => absurd z hm) fun _ => perm2.trans perm)
    · first
        | refine wp_if_neg (by simp [hf]) ?_
        | (refine wpAny_bind ?_; refine wp_if_neg (by simp [hf]) ?_; refine wpAny_pure ?_)
      refine wpAny_pure (q true h1 L1 es1 (ep + 1) t1 sb
        { ob := ⟨_, ho1, ⟨hex.1, hex.2.1, hex.2.2⟩, rfl⟩, rows := rows1, tab := T, nd := nd1, keys := keys1, led := led1, few := by omega, roomy := ?_ } (fun z => absurd z hm) fun _ => perm)
      have h := hf
      unfold SetTable.tooFull at h
      rw [decide_eq_true_eq, fill] at h
      omega
end
end
end T3
end
-- T3SetOf
section
set_option maxRecDepth 100000
set_option maxHeartbeats 4000000
/-! T3SetOf: set(xs), xs a list of tuples; what sorted collects of it. -/
namespace T3
open PySem PySem.Spec PyProof.Rows L2
section
variable {P : Program} {w : World} {κ : Type} [DecidableEq κ] {knd : HeapKind P w κ}
/-- the first i of ks are in -/
structure Taken (ks : List (Addr × κ)) (i : Nat) (L : List (Addr × κ)) : Prop where
  sub : ∀ p ∈ L, p ∈ ks.take i
  all : ∀ p ∈ ks.take i, p.2 ∈ L.map (·.2)
/-- fewer than 299 different keys -/
def Few (ks : List (Addr × κ)) : Prop := ∀ D : List κ, D.Nodup → (∀ k ∈ D, k ∈ ks.map (·.2)) → D.length < 299
abbrev emptySet (w : World) : Obj := { cls := .type "set", dict := none, data := .set #[] 0 (.fresh 0 0 (!w.params.followText "set-order")) }
theorem take_one {α : Type} {l : List α} {i : Nat} {x : α} (h : l[i]? = some x) : l.take (i + 1) = l.take i ++ [x] := by
  rw [List.take_succ, h]
  rfl
theorem Taken.old {ks L : List (Addr × κ)} {i : Nat} {x : Addr × κ} (g : Taken ks i L) (h : ks[i]? = some x) (hm : x.2 ∈ L.map (·.2)) : Taken ks (i + 1) L := by
  constructor <;> intro p hp
  · rw [take_one h]; exact List.mem_append_left _ (g.sub p hp)
  · rw [take_one h] at hp
    rcases List.mem_append.mp hp with z | z
    · exact g.all p z
    · rw [List.mem_singleton.mp z]; exact hm
theorem Taken.new {ks L L' : List (Addr × κ)} {i : Nat} {x : Addr × κ} (g : Taken ks i L) (h : ks[i]? = some x) (pm : L'.Perm (x :: L)) : Taken ks (i + 1) L' := by
  constructor <;> intro p hp
  · rw [take_one h]
    rcases List.mem_cons.mp (pm.mem_iff.mp hp) with e | z
    · rw [e]; simp
    · exact List.mem_append_left _ (g.sub p z)
  · rw [(pm.map (·.2)).mem_iff, List.map_cons]
    rw [take_one h] at hp
    rcases List.mem_append.mp hp with z | z
    · exact List.mem_cons_of_mem _ (g.all p z)
    · rw [List.mem_singleton.mp z]; exact List.mem_cons_self
theorem Taken.few {ks L : List (Addr × κ)} {i : Nat} (g : Taken ks i L) (nd : (L.map (·.2)).Nodup) (f : Few ks) : L.length < 299 := by
  have := f _ nd fun k hk => by
    obtain ⟨p, hp, e⟩ := List.mem_map.mp hk
    exact List.mem_map.mpr ⟨p, List.mem_of_mem_take (g.sub p hp), e⟩
  simpa using this
section
variable {A : Around} {E : Value → Shared → Prop} {s : Shared}
theorem SetK.keep {h h' : Heap} {a : Addr} {L : List (Addr × κ)} {es : Array (Int × Value)} {ep : Nat} {t : SetTable} (R : SetK knd h a L es ep t) (ha : ∀ o, h.get? a = some o → h'.get? a = some o) (hk : ∀ p ∈ L, knd.is h' p.2 p.1) : SetK knd h' a L es ep t :=
  let ⟨o, ho, r⟩ := R.ob
  { R with ob := ⟨o, ha o ho, r⟩, keys := hk }
theorem Shy.keep (S : Shy knd) {h h' : Heap} {k : κ} {b : Addr} (x : knd.is h k b) (hk : ∀ c o, h.get? c = some o → h'.get? c = some o) : knd.is h' k b := S.st.stays (fun c o _ _ hc _ => hk c o hc) x
theorem setK_empty {h : Heap} {a : Addr} (ho : h.get? a = some (emptySet w)) : SetK knd h a [] #[] 0 (.fresh 0 0 (!w.params.followText "set-order")) where
  ob := ⟨_, ho, ⟨rfl, rfl, rfl⟩, rfl⟩
  rows := rfl
  tab := { up := List.Pairwise.nil, nod := rfl, sz := rfl, msk := .inl rfl, in_ := fun x hx => (by cases hx), rea := fun i z j hi => (by simp at hi) }
  nd := List.nodup_nil
  keys := fun p hp => (by cases hp)
  led := by
    show _ ∨ (!w.params.followText "set-order") = true
    cases w.params.followText "set-order" <;> simp
  roomy := show 0 * 5 < 7 * 3 by decide
  few := show 0 < 300 by decide
/-- the loop of set.update -/
theorem update_keys (S : Shy knd) {I : Addr} {fp wr : List Addr} {Gn : Array GenState → Array GenState → Prop} {n : Nat} {Pv : Nat → Value → Prop} {St : Nat → Shared → Prop} {R : Result → Shared → Prop}
    (W : WalksS P w A.in1 I fp wr Gn n Pv St) (T : Addr) (apart : T ∉ fp) (ks : List (Addr × κ)) (cnt : n = ks.length) (few : Few ks) (item : ∀ i v, Pv i v → ∃ p, ks[i]? = some p ∧ v = .ref p.1)
    (h0 : Heap) (keys : ∀ p ∈ ks, knd.is h0 p.2 p.1) (newT : h0.get? T = none) (newW : ∀ b ∈ wr, h0.get? b = none) (room : knd.room A.in1) :
    ∀ (left i : Nat) (s : Shared), n = i + left → St i s → (∀ b o, h0.get? b = some o → s.heap.get? b = some o) → (∃ L es ep t, SetK knd s.heap T L es ep t ∧ Taken ks i L) →
      (∀ s' L es ep t, Moved (T :: wr) Gn s s' → SetK knd s'.heap T L es ep t → Taken ks n L → (∀ b o, h0.get? b = some o → s'.heap.get? b = some o) → R (.ok (.ret .none)) s') →
      codeAny (model P w) A (.builtin "set.update.loop" ⟨[.ref T, .ref I], []⟩) R s := by
  have aw : T ∉ wr := fun h => apart (W.sub _ h)
  have wider : ∀ b ∈ wr, b ∈ T :: wr := fun b hb => List.mem_cons_of_mem _ hb
  have stay : ∀ {s s' : Shared}, Moved wr Gn s s' → (∀ b o, h0.get? b = some o → s.heap.get? b = some o) → ∀ b o, h0.get? b = some o → s'.heap.get? b = some o := fun m k b o e =>
    m.heap b o (fun hb => by rw [newW b hb] at e; cases e) (k b o e)
  intro left
  induction left with
  | zero =>
    rintro i s rfl st old ⟨L, es, ep, t, hT, g⟩ fin
    refine codeAny_builtin F.entry_set_update_loop ?_
    rw [Around.under_plainId F.plain_set_update_loop _]
    show wpAny _ A.in1 (pyNext (.ref I) >>= _) _ _ s
    refine wpAny_bind (W.done s _ _ st fun s' m => ?_)
    have old' := stay m old
    exact wpAny_pure (fin s' L es ep t (m.mono wider) (hT.keep (fun o e => m.heap T o aw e) fun p hp => S.keep (keys p (List.mem_of_mem_take (g.sub p hp))) old') g old')
  | succ left ih =>
    rintro i s en st old ⟨L, es, ep, t, hT, g⟩ fin
    refine codeAny_builtin F.entry_set_update_loop ?_
    rw [Around.under_plainId F.plain_set_update_loop _]
    show wpAny _ A.in1 (pyNext (.ref I) >>= _) _ _ s
    refine wpAny_bind (W.item i s _ _ (by omega) st fun v s' hv st' m => ?_)
    obtain ⟨p, hp, ev⟩ := item i v hv
    subst ev
    have old' := stay m old
    have hT' : SetK knd s'.heap T L es ep t := hT.keep (fun o e => m.heap T o aw e) fun q hq => S.keep (keys q (List.mem_of_mem_take (g.sub q hq))) old'
    have hx : knd.is s'.heap p.2 p.1 := S.keep (keys p (List.mem_of_getElem? hp)) old'
    have lt := g.few hT'.nd few
    show wpAny _ A.in1 (holding [Value.ref p.1] (setAdd T (.ref p.1)) >>= _) _ _ s'
    refine wpAny_bind (wpAny_holding ?_)
    unfold setAdd
    refine wpAny_holding (wpAny_bind (knd.pyHash room hx ?_))
    refine add_key (s := { s' with toks := s'.toks + knd.draws p.2 }) S hT' hx room (by omega) fun b h' L' es' ep' t' sb hT2 c1 c2 => ?_
    have g' : Taken ks (i + 1) L' := by
      by_cases c : p.2 ∈ L.map (·.2)
      · rw [c1 c]; exact g.old hp c
      · exact g.new hp (c2 c)
    have old2 : ∀ b o, h0.get? b = some o → h'.get? b = some o := fun b o e => (sb.2 b (by rintro rfl; rw [newT] at e; cases e)).trans (old' b o e)
    refine wpAny_pure ⟨plainId_quiet F.plain_set_update_loop _, ih (i + 1) _ (by omega) (W.frame _ s' _ _ st' (Nat.le_add_right _ _) fun b hb o e => ?_) old2 ⟨L', es', ep', t', hT2, g'⟩ fun s2 L2 es2 ep2 t2 m2 R2 g2 o2 => ?_⟩
    · exact (sb.2 b (by rintro rfl; exact apart hb)).trans e
    · refine fin s2 L2 es2 ep2 t2 (Moved.trans W.gtrans ((m.mono wider).then_heap (Nat.le_add_right _ _) fun b o hb e => ?_) m2) R2 g2 o2
      exact (sb.2 b (by rintro rfl; exact hb List.mem_cons_self)).trans e
set_option maxHeartbeats 8000000 in
/-- set(xs) -/
theorem set_call (S : Shy knd) {l : Addr} {items : Array Value} (ks : List (Addr × κ)) {Q : Value → Shared → Prop} (hh : A.handled = none) (hl : s.heap.IsList l items) (hit : items.toList = ks.map fun p => Value.ref p.1)
    (keys : ∀ p ∈ ks, knd.is s.heap p.2 p.1) (few : Few ks) (room : knd.room A.in1.in1.in1)
    (q : ∀ (h' : Heap) (tk : Nat) L es ep t, SetK knd h' s.heap.objs.size L es ep t → Taken ks ks.length L → (∀ b o, s.heap.get? b = some o → h'.get? b = some o) → Q (.ref s.heap.objs.size) { s with heap := h', toks := tk }) :
    wpAny (model P w) A (call (.type "set") [.ref l]) Q E s := by
  have cnt : items.size = ks.length := by simpa using congrArg List.length hit
  obtain ⟨c, tl, hmro⟩ := F.called_set.mro
  have m1 := F.called_set.made
  have m2 := F.called_set.sub
  refine wpAny_call (codeAny_of_tree ?_)
  show wpAny _ _ (callAny (.type "set") _) _ _ _
  refine wpAny_pure ⟨Code.quiet_builtin _ (by decide +kernel), codeAny_builtin F.entry_type_call ?_⟩
  rw [Around.under_plain (weight_type_call_type "set" [.ref l] []) rfl]
  have m3 := F.called_set.notType
  have m4 := F.called_set.canCreate
  have m5 := F.typeCall_set_1 (.ref l)
  (repeat (any_goals (first | assumption | wp_step))); have new : (s.heap.push (emptySet w)).get? s.heap.objs.size = some (emptySet w) := Heap.get?_push_size _ rfl
  refine codeAny_mono (code_set_led1 (.ref l) (E := E) (Q₁ := fun obj s₁ => obj = .ref s.heap.objs.size ∧ s₁ = { s with heap := s.heap.push (emptySet w) }) ⟨rfl, rfl⟩) fun r s₁ hr => ?_
  match r, hr with
  | .error e, hr => exact hr
  | .ok .next, hr => exact hr.elim
  | .ok .brk, hr => exact hr.elim
  | .ok .cont, hr => exact hr.elim
  | .ok (.ret obj), hr =>
    obtain ⟨e1, e2⟩ := hr
    subst e1; subst e2
    have hT : Shared.TypeIs { s with heap := s.heap.push (emptySet w) } (.ref s.heap.objs.size) "set" := ⟨_, new, rfl⟩
    have i1 := F.called_set.init.lookup
    have i2 := F.called_set.init.bind (.ref s.heap.objs.size)
    (repeat (any_goals (first | assumption | wp_step))); refine codeAny_mono (codeAny_call_builtin (R := wants (fun r s₂ => r = .none ∧ ∃ h' tk L es ep t, s₂ = { s with heap := h', toks := tk } ∧ SetK knd h' s.heap.objs.size L es ep t ∧ Taken ks ks.length L ∧
        (∀ b o, s.heap.get? b = some o → h'.get? b = some o)) E) F.called_set.init.plain F.entry_set_init (check_set_init_1 hT ?_)) fun r₂ s₂ hr₂ => ?_
    · obtain ⟨⟨ocls, odict, odata, oslots⟩, hol, hcl, nl, hdl⟩ := hl
      simp only at hcl hdl
      subst hcl; subst hdl
      have hol' : (s.heap.push (emptySet w)).get? l = some { cls := .type "list", dict := odict, data := .seq items nl, slots := oslots } := Heap.get?_push_of_some _ hol
      have n1 := F.sub_list_set
      have n2 := F.sub_list_frozenset
      have n3 : (Value.type "list" == Value.type "dict") = false := by decide
      have hl1 : (s.heap.push (emptySet w)).IsList l items := ⟨_, hol', rfl, nl, rfl⟩
      unfold Builtin.«set.__init__» noKeywords Builtin.Frozenset.updateFrom
      generalize hPI : pyIter = PI
      wp_walk
      subst hPI
      refine wpAny_pyIter_list hl1 (wpAny_bind (wpAny_runValue ?_))
      have hlS : l < s.heap.objs.size := Heap.lt_size hol
      have sz1 : (s.heap.push (emptySet w)).objs.size = s.heap.objs.size + 1 := Heap.size_push ..
      have nothing : ∀ b, s.heap.objs.size ≤ b → s.heap.get? b = none := fun b hb => by
        cases e : s.heap.get? b with
        | none => rfl
        | some o => exact absurd (Nat.lt_of_lt_of_le (Heap.lt_size e) hb) (Nat.lt_irrefl _)
      have apart : l ≠ (s.heap.push (emptySet w)).objs.size := by rw [sz1]; exact Nat.ne_of_lt (Nat.lt_succ_of_lt hlS)
      have keep0 : ∀ u b o, s.heap.get? b = some o → ((s.heap.push (emptySet w)).push u).get? b = some o := fun u b o e => Heap.get?_push_of_some _ (Heap.get?_push_of_some _ e)
      have item : ∀ (i : Nat) (v : Value), items[i]? = some v → ∃ p, ks[i]? = some p ∧ v = .ref p.1 := fun i v hv => by
        have e : items.toList[i]? = some v := by rw [Array.getElem?_toList]; exact hv
        rw [hit, List.getElem?_map] at e
        cases hq : ks[i]? with
        | none => rw [hq] at e; cases e
        | some p => rw [hq] at e; exact ⟨p, rfl, (Option.some.inj e).symm⟩
      have off : s.heap.objs.size ∉ [(s.heap.push (emptySet w)).objs.size, l] := by
        rw [sz1]
        simp only [List.mem_cons, List.not_mem_nil, or_false, not_or]
        exact ⟨Nat.ne_of_lt (Nat.lt_succ_self _), Nat.ne_of_gt hlS⟩
      have wr0 : ∀ b ∈ [(s.heap.push (emptySet w)).objs.size], s.heap.get? b = none := fun b hb => by
        rw [List.mem_singleton.mp hb, sz1]
        exact nothing _ (Nat.le_succ _)
      refine @update_keys P w κ _ knd A.in1.in1 S _ _ _ _ _ _ _ _ (Walks.list (by simp [hh]) _ l apart items).toS s.heap.objs.size off ks cnt few item s.heap keys (nothing _ (Nat.le_refl _)) wr0 room items.size 0 _ (by omega)
        ⟨⟨_, Heap.get?_push_size _ rfl, rfl, rfl⟩, (hl1.push _)⟩ (keep0 _) ?_ ?_
      · exact ⟨[], #[], 0, _, setK_empty (Heap.get?_push_of_some _ new), ⟨fun p h => (by cases h), fun p h => (by simp at h)⟩⟩
      · intro s' L es ep t m R g old
        obtain ⟨h', g2, d', tk', os'⟩ := s'
        have e1 : g2 = s.gens := m.gens
        have e2 : d' = s.drawn := m.drawn
        have e3 : os' = s.os := m.os
        subst e1; subst e2; subst e3
        rw [cnt] at g
        exact wpAny_pure (wpAny_pure ⟨rfl, h', tk', L, es, ep, t, rfl, R, g, old⟩)
    · match r₂, hr₂ with
      | .error e, hr₂ => exact hr₂
      | .ok .next, hr₂ => exact hr₂.elim
      | .ok .brk, hr₂ => exact hr₂.elim
      | .ok .cont, hr₂ => exact hr₂.elim
      | .ok (.ret r), hr₂ =>
        obtain ⟨e1, h', tk, L, es, ep, t, e2, R, g, old⟩ := hr₂
        subst e1; subst e2
        (repeat (any_goals (first | assumption | wp_step))); exact q _ _ _ _ _ _ R g old
end
end
end T3
end
-- T3Core
section
set_option maxRecDepth 100000
/-! T3Core: values with tuples by value, a heap of lists, dicts, instances; readings W. -/
namespace T3
open PySem L2

inductive D where
  | non | bl (b : Bool) | int (i : Int) | str (x : Str) | tup (l : List D) | ref (a : Addr)

/-- what stands at an address -/
inductive O where
  | lst (l : List D)
  | dK (kvs : List (Key × D)) | dT (kvs : List (List Key × D))
  /-- an instance of the class at C, its attributes' names in order, their values -/
  | ins (C : Addr) (N : List Str) (vs : List D)
  /-- any other thing, by what is true of it -/
  | any (R : Hp → Addr → Prop)

abbrev H3 := Addr → Option O
def up (h : H3) (a : Addr) (o : O) : H3 := fun b => if b = a then some o else h b
@[simp] theorem up_same {h : H3} {a : Addr} {o : O} : up h a o a = some o := by unfold up; rw [if_pos rfl]
theorem up_ne {h : H3} {a b : Addr} {o : O} (e : b ≠ a) : up h a o b = h b := by unfold up; rw [if_neg e]
@[simp] theorem up_up {h : H3} {a : Addr} {o u : O} : up (up h a o) a u = up h a u := by
  funext b; unfold up; split <;> rfl
/-- h is part of h' -/
def Sub (h h' : H3) : Prop := ∀ a o, h a = some o → h' a = some o
theorem Sub.refl (h : H3) : Sub h h := fun _ _ e => e
theorem Sub.trans {h h1 h2 : H3} (a : Sub h h1) (b : Sub h1 h2) : Sub h h2 := fun c o e => b c o (a c o e)
theorem Sub.up {h h' : H3} {a : Addr} {o : O} (s : Sub h h') (n : h a = none) : Sub h (up h' a o) := fun b u e => by
  by_cases hb : b = a
  · subst hb; rw [n] at e; cases e
  · rw [up_ne hb]; exact s b u e
theorem Sub.up_up {h h' : H3} {a : Addr} {o : O} (s : Sub h h') : Sub (T3.up h a o) (T3.up h' a o) := fun b u e => by
  by_cases hb : b = a
  · subst hb; rw [up_same] at e ⊢; exact e
  · rw [up_ne hb] at e ⊢; exact s b u e

abbrev Ev := List (Option D)
abbrev K1 := D → H3 → Prop
abbrev KB := Bool → H3 → Prop
abbrev KL := List D → H3 → Prop
abbrev WE := Ev → H3 → K1 → Prop
abbrev WT := Ev → H3 → KB → Prop
abbrev WA := Ev → H3 → KL → Prop
structure En where
  nx : Ev → H3 → Prop
  rt : K1
  bk : Ev → H3 → Prop := fun _ _ => False
  ct : Ev → H3 → Prop := fun _ _ => False
abbrev WS := En → Ev → H3 → Prop
abbrev WG := D → Ev → H3 → (Ev → H3 → Prop) → Prop
/-- a def's promise -/
abbrev Sp3 := List D → H3 → K1 → Prop

/-! ### the relation to HandS's heap -/
mutual
inductive DV (H : Hp) : D → V → Prop
  | non : DV H .non .non
  | bl (b : Bool) : DV H (.bl b) (.bl b)
  | int (i : Int) : DV H (.int i) (.int i)
  | str (x : Str) : DV H (.str x) (.str x)
  | ref (a : Addr) : DV H (.ref a) (.ref a)
  | tup {a : Addr} {l : List D} {vs : List V} : H a = some (.tup vs) → DVs H l vs → DV H (.tup l) (.ref a)
inductive DVs (H : Hp) : List D → List V → Prop
  | nil : DVs H [] []
  | cons {d : D} {v : V} {l : List D} {vs : List V} : DV H d v → DVs H l vs → DVs H (d :: l) (v :: vs)
end
def KVs {κ : Type} (H : Hp) : List (κ × D) → List (κ × V) → Prop := Paired fun p q => p.1 = q.1 ∧ DV H p.2 q.2
/-- a list that is never written -/
def Ro (K : PySem.W.Frag) (H : Hp) (a : Addr) (vs : List V) : Prop :=
  (∃ o, H a = some (.frz o (.lst vs))) ∨
    ∃ (o : Obj) (its : Array Value) (n : Nat), K.lookup a = some o ∧ o.cls = .type "list" ∧ o.dict = none ∧ o.data = .seq its n ∧ its.size ≤ sizeLine ∧ Vals vs its.toList
/-- the law's script: where it stands, what it holds -/
structure Sc where
  K : PySem.W.Frag
  a : Addr
  ns : List Int
/-- what never goes away -/
structure Per (H H' : Hp) : Prop where
  tups : ∀ b xs, H b = some (.tup xs) → H' b = some (.tup xs)
  frzs : ∀ b o u, H b = some (.frz o u) → H' b = some (.frz o u)
def OV (H : Hp) (a : Addr) : O → Prop
  | .lst l => ∃ vs, H a = some (.lst vs) ∧ DVs H l vs
  | .dK kvs => ∃ kv', H a = some (.dK kv') ∧ KVs H kvs kv'
  | .dT kvs => ∃ kv', H a = some (.dT kv') ∧ KVs H kvs kv'
  | .ins C N vs => ∃ dx fs, H a = some (.ins C dx fs) ∧ fs.map (·.1) = N.take vs.length ∧ vs.length ≤ N.length ∧ DVs H vs (fs.map (·.2))
  | .any R => R H a ∧ (∃ u, H a = some u ∧ Mut (some u)) ∧ ∀ H' : Hp, Per H H' → H' a = H a → R H' a
structure Rel (G : Sc) (h : H3) (H : Hp) : Prop where
  at_ : ∀ a o, h a = some o → OV H a o
  sc : Ro G.K H G.a (G.ns.map V.int)
theorem Per.refl (H : Hp) : Per H H := ⟨fun _ _ e => e, fun _ _ _ e => e⟩
theorem Per.trans {H H1 H2 : Hp} (a : Per H H1) (b : Per H1 H2) : Per H H2 := ⟨fun _ _ e => b.tups _ _ (a.tups _ _ e), fun _ _ _ e => b.frzs _ _ _ (a.frzs _ _ _ e)⟩
theorem Per.new {H : Hp} {p : Addr} {o : HO} (n : H p = none) : Per H (upd H p o) :=
  ⟨fun _ _ e => by rw [upd_ne (ne_of_none e n)]; exact e, fun _ _ _ e => by rw [upd_ne (ne_of_none e n)]; exact e⟩
theorem Per.mut {H : Hp} {p : Addr} {o : HO} (n : Mut (H p)) : Per H (upd H p o) :=
  ⟨fun b _ e => by
    have hb : b ≠ p := fun z => by subst z; rw [e] at n; exact n
    rw [upd_ne hb]; exact e, fun b _ _ e => by
    have hb : b ≠ p := fun z => by subst z; rw [e] at n; exact n
    rw [upd_ne hb]; exact e⟩
mutual
theorem DV.per {H H' : Hp} (p : Per H H') : ∀ {d : D} {v : V}, DV H d v → DV H' d v
  | .non, _, h => by cases h; exact .non
  | .bl b, _, h => by cases h; exact .bl b
  | .int i, _, h => by cases h; exact .int i
  | .str x, _, h => by cases h; exact .str x
  | .ref a, _, h => by cases h; exact .ref a
  | .tup l, _, h => by
    cases h with
    | tup e r => exact .tup (p.tups _ _ e) (DVs.per p r)
theorem DVs.per {H H' : Hp} (p : Per H H') : ∀ {l : List D} {vs : List V}, DVs H l vs → DVs H' l vs
  | [], _, h => by cases h; exact .nil
  | d :: l, _, h => by
    cases h with
    | cons r t => exact .cons (DV.per p r) (DVs.per p t)
end
section
variable {κ : Type} {G : Sc} {K : PySem.W.Frag} {H H' : Hp} {h h' : H3} {a p : Addr} {o : O}
theorem KVs.per (x : Per H H') {l : List (κ × D)} {vs : List (κ × V)} (r : KVs H l vs) : KVs H' l vs := Paired.mapP r fun _ _ z => ⟨z.1, z.2.per x⟩
theorem Ro.per (x : Per H H') {vs : List V} (r : Ro K H a vs) : Ro K H' a vs := by
  rcases r with ⟨o, e⟩ | r
  · exact .inl ⟨o, x.frzs _ _ _ e⟩
  · exact .inr r
theorem DVs.length : ∀ {l : List D} {vs : List V}, DVs H l vs → l.length = vs.length
  | [], _, h => by cases h; rfl
  | d :: l, _, h => by
    cases h with
    | cons r t => simp [DVs.length t]
theorem DVs.get : ∀ {l : List D} {vs : List V} {i : Nat} {d : D}, DVs H l vs → l[i]? = some d → ∃ v, vs[i]? = some v ∧ DV H d v
  | [], _, _, _, h, e => by simp at e
  | d :: l, _, i, x, h, e => by
    cases h with
    | cons r t =>
      cases i with
      | zero => simp at e; subst e; exact ⟨_, rfl, r⟩
      | succ i =>
        obtain ⟨v, h1, h2⟩ := DVs.get t (by simpa using e)
        exact ⟨v, by simpa using h1, h2⟩
theorem DVs.append : ∀ {l m : List D} {vs ws : List V}, DVs H l vs → DVs H m ws → DVs H (l ++ m) (vs ++ ws)
  | [], _, _, _, h, s => by cases h; exact s
  | d :: l, _, _, _, h, s => by
    cases h with
    | cons r t => exact .cons r (DVs.append t s)
theorem DVs.set {d : D} {v : V} (r : DV H d v) : ∀ {l : List D} {vs : List V} (i : Nat), DVs H l vs → DVs H (l.set i d) (vs.set i v)
  | [], _, _, h => by cases h; exact .nil
  | _ :: _, _, 0, h => by
    cases h with
    | cons q t => exact .cons r t
  | _ :: _, _, i + 1, h => by
    cases h with
    | cons q t => exact .cons q (DVs.set r i t)
theorem DVs.take : ∀ {l : List D} {vs : List V} (n : Nat), DVs H l vs → DVs H (l.take n) (vs.take n)
  | _, _, 0, _ => by rw [List.take_zero, List.take_zero]; exact .nil
  | [], _, _ + 1, h => by cases h; exact .nil
  | _ :: _, _, n + 1, h => by
    cases h with
    | cons r t => exact .cons r (DVs.take n t)
theorem DVs.drop : ∀ {l : List D} {vs : List V} (n : Nat), DVs H l vs → DVs H (l.drop n) (vs.drop n)
  | _, _, 0, r => r
  | [], _, _ + 1, h => by cases h; exact .nil
  | _ :: _, _, n + 1, h => by
    cases h with
    | cons r t => exact DVs.drop n t
theorem DVs.eraseIdx : ∀ {l : List D} {vs : List V} (i : Nat), DVs H l vs → DVs H (l.eraseIdx i) (vs.eraseIdx i)
  | [], _, _, h => by cases h; exact .nil
  | _ :: _, _, 0, h => by
    cases h with
    | cons _ t => exact t
  | _ :: _, _, i + 1, h => by
    cases h with
    | cons r t => exact .cons r (DVs.eraseIdx i t)
theorem DVs.reverse : ∀ {l : List D} {vs : List V}, DVs H l vs → DVs H l.reverse vs.reverse
  | [], _, h => by cases h; exact .nil
  | _ :: _, _, h => by
    cases h with
    | cons r t => rw [List.reverse_cons, List.reverse_cons]; exact (DVs.reverse t).append (.cons r .nil)
theorem DVs.rep {l : List D} {vs : List V} (r : DVs H l vs) : ∀ k : Nat, DVs H (List.replicate k l).flatten (List.replicate k vs).flatten
  | 0 => .nil
  | k + 1 => by rw [List.replicate_succ, List.replicate_succ, List.flatten_cons, List.flatten_cons]; exact r.append (DVs.rep r k)
theorem DVs.nil_iff {l : List D} {vs : List V} (r : DVs H l vs) : vs = [] ↔ l = [] := by
  have e := r.length
  constructor
  · rintro rfl; exact List.length_eq_zero_iff.mp e
  · rintro rfl; exact List.length_eq_zero_iff.mp e.symm
theorem OV.per (x : Per H H') (n : H' a = H a) (r : OV H a o) : OV H' a o := by
  cases o with
  | lst l => obtain ⟨vs, e, q⟩ := r; exact ⟨vs, n.trans e, q.per x⟩
  | dK l => obtain ⟨vs, e, q⟩ := r; exact ⟨vs, n.trans e, q.per x⟩
  | dT l => obtain ⟨vs, e, q⟩ := r; exact ⟨vs, n.trans e, q.per x⟩
  | ins C N l => obtain ⟨dx, fs, e, k, z, q⟩ := r; exact ⟨dx, fs, n.trans e, k, z, q.per x⟩
  | any R => obtain ⟨q, ⟨u, e, m⟩, st⟩ := r; exact ⟨st _ x n, ⟨u, n.trans e, m⟩, fun H'' y z => st H'' (x.trans y) (z.trans n)⟩
theorem OV.some (r : OV H a o) : ∃ u, H a = some u ∧ Mut (some u) := by
  cases o with
  | lst l => obtain ⟨vs, e, q⟩ := r; exact ⟨_, e, trivial⟩
  | dK l => obtain ⟨vs, e, q⟩ := r; exact ⟨_, e, trivial⟩
  | dT l => obtain ⟨vs, e, q⟩ := r; exact ⟨_, e, trivial⟩
  | ins C N l => obtain ⟨dx, fs, e, k, z, q⟩ := r; exact ⟨_, e, trivial⟩
  | any R => exact r.2.1
theorem Rel.sub (s : Sub h h') (r : Rel G h' H) : Rel G h H := ⟨fun a o e => r.at_ a o (s a o e), r.sc⟩
theorem Rel.none (r : Rel G h H) (n : H p = none) : h p = none := by
  cases e : h p with
  | none => rfl
  | some o =>
    obtain ⟨u, q, _⟩ := (r.at_ p o e).some
    rw [n] at q; cases q
theorem Rel.mut (r : Rel G h H) (e : h a = some o) : Mut (H a) := by
  obtain ⟨u, q, m⟩ := (r.at_ a o e).some
  rw [q]; exact m
/-- a new object -/
theorem Rel.new {u : HO} (r : Rel G h H) (n : H p = Option.none) (q : OV (upd H p u) p o) : Rel G (up h p o) (upd H p u) := by
  refine ⟨fun b x e => ?_, r.sc.per (Per.new n)⟩
  by_cases hb : b = p
  · subst hb; rw [up_same] at e; cases e; exact q
  · rw [up_ne hb] at e; exact (r.at_ b x e).per (Per.new n) (upd_ne hb)
/-- an object of ours that is not told of -/
theorem Rel.new0 {u : HO} (r : Rel G h H) (n : H p = Option.none) : Rel G h (upd H p u) := by
  refine ⟨fun b x e => ?_, r.sc.per (Per.new n)⟩
  obtain ⟨w, q, _⟩ := (r.at_ b x e).some
  exact (r.at_ b x e).per (Per.new n) (upd_ne (ne_of_none q n))
/-- an object changed -/
theorem Rel.write {u : HO} {o' : O} (r : Rel G h H) (n : h p = some o') (q : OV (upd H p u) p o) : Rel G (up h p o) (upd H p u) := by
  have m := r.mut n
  refine ⟨fun b x e => ?_, r.sc.per (Per.mut m)⟩
  by_cases hb : b = p
  · subst hb; rw [up_same] at e; cases e; exact q
  · rw [up_ne hb] at e; exact (r.at_ b x e).per (Per.mut m) (upd_ne hb)
theorem Rel.lst {l : List D} (r : Rel G h H) (e : h a = some (.lst l)) : ∃ vs, H a = some (.lst vs) ∧ DVs H l vs := r.at_ _ _ e
theorem Rel.setLst {l l' : List D} {vs' : List V} (r : Rel G h H) (e : h a = some (.lst l)) (d : DVs H l' vs') : Rel G (up h a (.lst l')) (upd H a (.lst vs')) :=
  r.write e ⟨vs', upd_same, d.per (Per.mut (r.mut e))⟩
theorem Rel.newLst {l' : List D} {vs' : List V} (r : Rel G h H) (n : H p = Option.none) (d : DVs H l' vs') : Rel G (up h p (.lst l')) (upd H p (.lst vs')) :=
  r.new n ⟨vs', upd_same, d.per (Per.new n)⟩
end
end T3
end
-- T3Sound
section
set_option maxRecDepth 100000
set_option maxHeartbeats 4000000
/-! T3Sound: the readings W mean what HandS's readings mean. -/
namespace T3
open PySem PySem.Spec PyProof.Rows L2

def EvR (H : Hp) (ρ : Ev) (σ : L2.St) : Prop := ρ.length = σ.length ∧ ∀ (i : Nat) (d : D), ρ[i]? = some (some d) → ∃ v, σ[i]? = some (some v) ∧ DV H d v
theorem EvR.per {H H' : Hp} {ρ : Ev} {σ : L2.St} (p : Per H H') (e : EvR H ρ σ) : EvR H' ρ σ := ⟨e.1, fun i d q => let ⟨v, a, b⟩ := e.2 i d q; ⟨v, a, b.per p⟩⟩
theorem EvR.set {H : Hp} {ρ : Ev} {σ : L2.St} {d : D} {v : V} (e : EvR H ρ σ) (r : DV H d v) (i : Nat) : EvR H (ρ.set i (some d)) (σ.set i (some v)) := by
  refine ⟨by rw [List.length_set, List.length_set]; exact e.1, fun j x q => ?_⟩
  by_cases hj : i = j
  · subst hj
    by_cases hl : i < ρ.length
    · rw [List.getElem?_set_self hl] at q
      cases q
      exact ⟨v, List.getElem?_set_self (e.1 ▸ hl), r⟩
    · rw [List.getElem?_eq_none (by rw [List.length_set]; omega)] at q
      cases q
  · rw [List.getElem?_set_ne hj] at q ⊢
    exact e.2 j x q

section
variable (G : Sc)
def Post (H : Hp) (k : K1) (Q : VK) : Prop := ∀ d h' v H', k d h' → Rel G h' H' → Per H H' → DV H' d v → Q v H'
def PostB (H : Hp) (k : KB) (Q : Bool → Hp → Prop) : Prop := ∀ b h' H', k b h' → Rel G h' H' → Per H H' → Q b H'
def PostL (H : Hp) (k : KL) (Q : List V → Hp → Prop) : Prop := ∀ l h' vs H', k l h' → Rel G h' H' → Per H H' → DVs H' l vs → Q vs H'
def PostN (H : Hp) (k : Ev → H3 → Prop) (Q : L2.St → Hp → Prop) : Prop := ∀ ρ h' σ H', k ρ h' → Rel G h' H' → Per H H' → EvR H' ρ σ → Q σ H'
def tI (f : WE) : TE := fun σ H Q => ∃ ρ h k, Rel G h H ∧ EvR H ρ σ ∧ f ρ h k ∧ Post G H k Q
def tIT (f : WT) : TT := fun σ H Q => ∃ ρ h k, Rel G h H ∧ EvR H ρ σ ∧ f ρ h k ∧ PostB G H k Q
def tIA (f : WA) : TA := fun σ H Q => ∃ ρ h k, Rel G h H ∧ EvR H ρ σ ∧ f ρ h k ∧ PostL G H k Q
structure PostS (H : Hp) (E : En) (D : Ends) : Prop where
  nx : PostN G H E.nx D.nx
  rt : Post G H E.rt D.rt
  bk : PostN G H E.bk D.bk
  ct : PostN G H E.ct D.ct
def tIS (f : WS) : TS := fun D σ H => ∃ ρ h E, Rel G h H ∧ EvR H ρ σ ∧ f E ρ h ∧ PostS G H E D
def tIG (g : WG) : TG := fun v σ H Q => ∃ d ρ h k, Rel G h H ∧ EvR H ρ σ ∧ DV H d v ∧ g d ρ h k ∧ PostN G H k Q
end
section
variable {G : Sc} {H H' : Hp} {k : K1} {Q : VK}
theorem Post.per (q : Post G H k Q) (p : Per H H') : Post G H' k Q := fun d h' v H2 a b c e => q d h' v H2 a b (p.trans c) e
theorem PostB.per {k : KB} {Q : Bool → Hp → Prop} (q : PostB G H k Q) (p : Per H H') : PostB G H' k Q := fun d h' H2 a b c => q d h' H2 a b (p.trans c)
theorem PostL.per {k : KL} {Q : List V → Hp → Prop} (q : PostL G H k Q) (p : Per H H') : PostL G H' k Q := fun d h' v H2 a b c e => q d h' v H2 a b (p.trans c) e
theorem PostN.per {k : Ev → H3 → Prop} {Q : L2.St → Hp → Prop} (q : PostN G H k Q) (p : Per H H') : PostN G H' k Q := fun d h' v H2 a b c e => q d h' v H2 a b (p.trans c) e
theorem PostS.per {E : En} {D : Ends} (q : PostS G H E D) (p : Per H H') : PostS G H' E D := ⟨q.nx.per p, q.rt.per p, q.bk.per p, q.ct.per p⟩
theorem PostS.with {E : En} {D : Ends} (q : PostS G H E D) {nx : Ev → H3 → Prop} {nx' : L2.St → Hp → Prop} (p : PostN G H nx nx') : PostS G H { E with nx := nx } { D with nx := nx' } := ⟨p, q.rt, q.bk, q.ct⟩
end

/-! ### weakening -/
section
variable {X : Cx} {e : Expr} {es : List Expr} {st : Stmt} {sts : List Stmt}
theorem _root_.L2.PE.weak {t t' : TE} (h : PE X e t) (w : ∀ σ H Q, t' σ H Q → t σ H Q) : PE X e t' := ⟨fun pins s σ H Q I q => h.run pins s σ H Q I (w σ H Q q)⟩
theorem _root_.L2.PT.weak {t t' : TT} (h : PT X e t) (w : ∀ σ H Q, t' σ H Q → t σ H Q) : PT X e t' := ⟨fun pins s σ H Q I q => h.run pins s σ H Q I (w σ H Q q)⟩
theorem _root_.L2.PW.weak {t t' : TT} (h : PW X e t) (w : ∀ σ H Q, t' σ H Q → t σ H Q) : PW X e t' := ⟨fun wh pins s σ H Q I q => h.run wh pins s σ H Q I (w σ H Q q)⟩
theorem _root_.L2.PA.weak {t t' : TA} (h : PA X es t) (w : ∀ σ H Q, t' σ H Q → t σ H Q) : PA X es t' := ⟨fun p pins s σ H Q I q => h.run p pins s σ H Q I (w σ H Q q)⟩
theorem _root_.L2.PS.weak {t t' : TS} (h : PS X st t) (w : ∀ D σ H, t' D σ H → t D σ H) : PS X st t' := ⟨fun pins s σ H D I q => h.run pins s σ H D I (w D σ H q)⟩
theorem _root_.L2.PSs.weak {t t' : TS} (h : PSs X sts t) (w : ∀ D σ H, t' D σ H → t D σ H) : PSs X sts t' := ⟨fun pins s σ H D I q => h.run pins s σ H D I (w D σ H q)⟩
theorem _root_.L2.PG.weak {t t' : TG} (h : PG X e t) (w : ∀ v σ H Q, t' v σ H Q → t v σ H Q) : PG X e t' := ⟨fun pins s σ H v u Q I r q => h.run pins s σ H v u Q I r (w v σ H Q q)⟩
end

/-! ### readings: expressions -/
def wVar (i : Nat) : WE := fun ρ h k => ∃ d, ρ[i]? = some (some d) ∧ k d h
def wC (d : D) : WE := fun _ h k => k d h
def w1 (r : D → H3 → K1 → Prop) (a : WE) : WE := fun ρ h k => a ρ h fun d h1 => r d h1 k
def w2 (r : D → D → H3 → K1 → Prop) (a b : WE) : WE := fun ρ h k => a ρ h fun d h1 => b ρ h1 fun e h2 => r d e h2 k
def wNil : WA := fun _ h k => k [] h
def wCons (a : WE) (t : WA) : WA := fun ρ h k => a ρ h fun d h1 => t ρ h1 fun l h2 => k (d :: l) h2
def wL (r : List D → H3 → K1 → Prop) (t : WA) : WE := fun ρ h k => t ρ h fun l h1 => r l h1 k
def wML (r : D → List D → H3 → K1 → Prop) (a : WE) (t : WA) : WE := fun ρ h k => a ρ h fun d h1 => t ρ h1 fun l h2 => r d l h2 k
def wIf (t : WT) (a b : WE) : WE := fun ρ h k => t ρ h fun c h1 => if c = true then a ρ h1 k else b ρ h1 k
/-- tests -/
def wB (a : WE) : WT := fun ρ h k => a ρ h fun d h1 => ∃ c, d = .bl c ∧ k c h1
def wAnd (a b : WT) : WT := fun ρ h k => a ρ h fun c h1 => if c = true then b ρ h1 k else k false h1
def wOr (a b : WT) : WT := fun ρ h k => a ρ h fun c h1 => if c = true then k true h1 else b ρ h1 k
def wNot (a : WT) : WT := fun ρ h k => a ρ h fun c h1 => k (!c) h1
/-- a test as a value -/
def wV (a : WT) : WE := fun ρ h k => a ρ h fun c h1 => k (.bl c) h1

section
variable {X : Cx} {G : Sc} {a b c e : Expr} {es : List Expr} {f g : WE} {t u : WT} {l : WA} {pos : Pos}
abbrev PE3 (X : Cx) (G : Sc) (e : Expr) (f : WE) : Prop := PE X e (tI G f)
abbrev PT3 (X : Cx) (G : Sc) (e : Expr) (f : WT) : Prop := PT X e (tIT G f)
abbrev PW3 (X : Cx) (G : Sc) (e : Expr) (f : WT) : Prop := PW X e (tIT G f)
abbrev PA3 (X : Cx) (G : Sc) (es : List Expr) (f : WA) : Prop := PA X es (tIA G f)
abbrev PS3 (X : Cx) (G : Sc) (st : Stmt) (f : WS) : Prop := PS X st (tIS G f)
abbrev PSs3 (X : Cx) (G : Sc) (st : List Stmt) (f : WS) : Prop := PSs X st (tIS G f)
abbrev PG3 (X : Cx) (G : Sc) (e : Expr) (f : WG) : Prop := PG X e (tIG G f)

theorem i_var (i : Nat) {x : Str} {pos : Pos} (hN : X.N[i]? = some x := by rfl) (hv : Vis X.env.scope x := by first | exact .inl rfl | exact .inr (.inl rfl) | exact .inr (.inr rfl)) (hd : (x == ("__debug__" : Str)) = false := by decide) (hcd : (x == ("__classdict__" : Str)) = false := by decide) :
    PE3 X G (.Name x pos) (wVar i) := by
  refine (pe_var (i := i) hN hv hd hcd).weak fun σ H Q ⟨ρ, h, k, rel, ev, ⟨d, e, q⟩, post⟩ => ?_
  obtain ⟨v, e', r⟩ := ev.2 i d e
  exact ⟨v, e', post d h v H q rel (Per.refl H) r⟩
theorem i_c {d : D} {v : V} (h : PE X e (tC v)) (r : ∀ H, DV H d v) : PE3 X G e (wC d) := h.weak fun σ H Q ⟨ρ, h, k, rel, ev, q, post⟩ => post d h v H q rel (Per.refl H) (r H)
theorem i_int {i j pos} : PE3 X G (.Constant (.int i) j pos) (wC (.int i)) := i_c pe_int fun H => .int i
theorem i_bl {b j pos} : PE3 X G (.Constant (.bool b) j pos) (wC (.bl b)) := i_c pe_bl fun H => .bl b
theorem i_non {j pos} : PE3 X G (.Constant .none j pos) (wC .non) := i_c pe_non fun H => .non
theorem i_str {x j pos} : PE3 X G (.Constant (.str x) j pos) (wC (.str x)) := i_c pe_str fun H => .str x

/-- r is refined by R -/
def Rf1 (G : Sc) (R : V → Hp → VK → Prop) (r : D → H3 → K1 → Prop) : Prop := ∀ d x h H k Q, Rel G h H → DV H d x → r d h k → Post G H k Q → R x H Q
def Rf2 (G : Sc) (R : V → V → Hp → VK → Prop) (r : D → D → H3 → K1 → Prop) : Prop := ∀ d e x y h H k Q, Rel G h H → DV H d x → DV H e y → r d e h k → Post G H k Q → R x y H Q
def RfL (G : Sc) (R : List V → Hp → VK → Prop) (r : List D → H3 → K1 → Prop) : Prop := ∀ l vs h H k Q, Rel G h H → DVs H l vs → r l h k → Post G H k Q → R vs H Q
def RfM (G : Sc) (R : V → List V → Hp → VK → Prop) (r : D → List D → H3 → K1 → Prop) : Prop := ∀ d l x vs h H k Q, Rel G h H → DV H d x → DVs H l vs → r d l h k → Post G H k Q → R x vs H Q

theorem lift1 {R : V → Hp → VK → Prop} {r : D → H3 → K1 → Prop} (rf : Rf1 G R r) {σ : L2.St} {H : Hp} {Q : VK} (q : tI G (w1 r f) σ H Q) : tI G f σ H fun x H1 => R x H1 Q := by
  obtain ⟨ρ, h, k, rel, ev, q, post⟩ := q
  exact ⟨ρ, h, _, rel, ev, q, fun d h1 v H1 q1 rel1 per1 dv1 => rf d v h1 H1 k Q rel1 dv1 q1 (post.per per1)⟩
theorem lift2 {R : V → V → Hp → VK → Prop} {r : D → D → H3 → K1 → Prop} (rf : Rf2 G R r) {σ : L2.St} {H : Hp} {Q : VK} (q : tI G (w2 r f g) σ H Q) : tI G f σ H fun x H1 => tI G g σ H1 fun y H2 => R x y H2 Q := by
  obtain ⟨ρ, h, k, rel, ev, q, post⟩ := q
  refine ⟨ρ, h, _, rel, ev, q, fun d h1 v H1 q1 rel1 per1 dv1 => ⟨ρ, h1, _, rel1, ev.per per1, q1, fun e h2 v2 H2 q2 rel2 per2 dv2 => ?_⟩⟩
  exact rf d e v v2 h2 H2 k Q rel2 (dv1.per per2) dv2 q2 (post.per (per1.trans per2))
theorem liftL {R : List V → Hp → VK → Prop} {r : List D → H3 → K1 → Prop} (rf : RfL G R r) {σ : L2.St} {H : Hp} {Q : VK} (q : tI G (wL r l) σ H Q) : tIA G l σ H fun x H1 => R x H1 Q := by
  obtain ⟨ρ, h, k, rel, ev, q, post⟩ := q
  exact ⟨ρ, h, _, rel, ev, q, fun d h1 v H1 q1 rel1 per1 dv1 => rf d v h1 H1 k Q rel1 dv1 q1 (post.per per1)⟩
theorem liftM {R : V → List V → Hp → VK → Prop} {r : D → List D → H3 → K1 → Prop} (rf : RfM G R r) {σ : L2.St} {H : Hp} {Q : VK} (q : tI G (wML r f l) σ H Q) : tI G f σ H fun x H1 => tIA G l σ H1 fun vs H2 => R x vs H2 Q := by
  obtain ⟨ρ, h, k, rel, ev, q, post⟩ := q
  refine ⟨ρ, h, _, rel, ev, q, fun d h1 v H1 q1 rel1 per1 dv1 => ⟨ρ, h1, _, rel1, ev.per per1, q1, fun e h2 v2 H2 q2 rel2 per2 dv2 => ?_⟩⟩
  exact rf d e v v2 h2 H2 k Q rel2 (dv1.per per2) dv2 q2 (post.per (per1.trans per2))

/-- any rule that serves -/
def U2 (X : Cx) (F : Value → Value → Sem Value) : R2 := fun x y H Q => ∃ r, OpR X F r ∧ r x y H Q
theorem U2.ok {F : Value → Value → Sem Value} : OpR X F (U2 X F) := fun pins s σ H x y v u Q I rx ry ⟨r, hr, q⟩ => hr pins s σ H x y v u Q I rx ry q
def U1 (X : Cx) (F : Value → Sem Value) : V → Hp → VK → Prop := fun x H Q => ∃ r, UnR X F r ∧ r x H Q
theorem U1.ok {F : Value → Sem Value} : UnR X F (U1 X F) := fun pins s σ H x v Q I rx ⟨r, hr, q⟩ => hr pins s σ H x v Q I rx q
def UC (X : Cx) (F : Value) : List V → Hp → VK → Prop := fun xs H Q => ∃ r, CallR X F r ∧ r xs H Q
theorem UC.ok {F : Value} : CallR X F (UC X F) := fun pins s σ H x v Q I rx ⟨r, hr, q⟩ => hr pins s σ H x v Q I rx q
def UX (X : Cx) : R2 := fun x y H Q => ∃ r, IxR X r ∧ r x y H Q
theorem UX.ok : IxR X (UX X) := fun value slice pins s σ H x y v u Q I rx ry ⟨r, hr, q⟩ hs => hr value slice pins s σ H x y v u Q I rx ry q hs
def UM (X : Cx) (id : String) : V → List V → Hp → VK → Prop := fun x xs H Q => ∃ r, MtR X id r ∧ r x xs H Q
theorem UM.ok {id : String} : MtR X id (UM X id) := fun pins s σ H x xs v us Q I rx rs ⟨r, hr, q⟩ => hr pins s σ H x xs v us Q I rx rs q
def US (X : Cx) : V → Option Int → Option Int → Hp → VK → Prop := fun x lo hi H Q => ∃ r, SlR X r ∧ r x lo hi H Q
theorem US.ok : SlR X (US X) := fun pins s σ H x v vl vu lo hi sl Q I rx hs pl pu ⟨r, hr, q⟩ => hr pins s σ H x v vl vu lo hi sl Q I rx hs pl pu q
def UP (X : Cx) : TSet := fun o i v H Q => ∃ r, PSet X r ∧ r o i v H Q
theorem UP.ok : PSet X (UP X) := fun pins s σ H o i v ov iv u Q I ro ri rv ⟨r, hr, q⟩ => hr pins s σ H o i v ov iv u Q I ro ri rv q

theorem i_bin {op : Operator} {r : D → D → H3 → K1 → Prop} (rf : Rf2 G (U2 X (binaryOp op)) r) (ha : PE3 X G a f) (hb : PE3 X G b g) : PE3 X G (.BinOp a op b pos) (w2 r f g) := (pe_op U2.ok ha hb).weak fun σ H Q q => lift2 rf q
theorem i_un {op : UnaryOp} {r : D → H3 → K1 → Prop} (rf : Rf1 G (U1 X (unaryOp op)) r) (ha : PE3 X G a f) : PE3 X G (.UnaryOp op a pos) (w1 r f) := (pe_un U1.ok ha).weak fun σ H Q q => lift1 rf q
theorem i_cmp {op : CmpOp} {r : D → D → H3 → K1 → Prop} (rf : Rf2 G (U2 X (compareOp op)) r) (ha : PE3 X G a f) (hb : PE3 X G b g) (hm : behindInMarks op b = false := by first | exact nomark _ | rfl) : PE3 X G (.Compare a [op] [b] pos) (w2 r f g) := (pe_cmpR U2.ok ha hb hm).weak fun σ H Q q => lift2 rf q
theorem tTest_of {σ : L2.St} {H : Hp} {Q : Bool → Hp → Prop} (q : tIT G (wB f) σ H Q) : tI G f σ H fun x H' => ∃ k, x = .bl k ∧ Q k H' := by
  obtain ⟨ρ, h, k, rel, ev, q, post⟩ := q
  refine ⟨ρ, h, _, rel, ev, q, fun d h1 v H1 q1 rel1 per1 dv1 => ?_⟩
  obtain ⟨c, rfl, q1⟩ := q1
  cases dv1
  exact ⟨c, rfl, post c h1 H1 q1 rel1 per1⟩
theorem it_cmp {op : CmpOp} {r : D → D → H3 → K1 → Prop} (rf : Rf2 G (U2 X (compareOp op)) r) (ha : PE3 X G a f) (hb : PE3 X G b g) (hm : behindInMarks op b = false := by first | exact nomark _ | rfl) : PT3 X G (.Compare a [op] [b] pos) (wB (w2 r f g)) := by
  refine (pt_cmpR U2.ok ha hb hm).weak fun σ H Q q => ?_
  exact lift2 (f := f) (g := g) (R := U2 X (compareOp op)) (Q := fun x H' => ∃ k, x = .bl k ∧ Q k H') rf (tTest_of q)
/-- an expression that gives True or False, as a test -/
theorem it_val (h : PE3 X G e f) (he : ∀ whole, isTrue e X.env whole = (do let v ← whole; standAt e.pos; holding [v] (truthy v)) := by intro _; rfl) : PT3 X G e (wB f) := (pt_val h he).weak fun σ H Q q => tTest_of q
theorem it_not (h : PT3 X G a t) : PT3 X G (.UnaryOp .Not a pos) (wNot t) := by
  refine (pt_not h).weak fun σ H Q ⟨ρ, h, k, rel, ev, q, post⟩ => ?_
  exact ⟨ρ, h, _, rel, ev, q, fun c h1 H1 q1 rel1 per1 => post (!c) h1 H1 q1 rel1 per1⟩
variable {rest : List Expr}
theorem iw_and1 (h : PT3 X G a t) : PW3 X G (.BoolOp .And [a] pos) t := pw_and1 h
theorem iw_or1 (h : PT3 X G a t) : PW3 X G (.BoolOp .Or [a] pos) t := pw_or1 h
theorem iw_and (ha : PT3 X G a t) (hb : PW3 X G (.BoolOp .And (b :: rest) pos) u) : PW3 X G (.BoolOp .And (a :: b :: rest) pos) (wAnd t u) := by
  refine (pw_and ha hb).weak fun σ H Q ⟨ρ, h, k, rel, ev, q, post⟩ => ?_
  refine ⟨ρ, h, _, rel, ev, q, fun c h1 H1 q1 rel1 per1 => ?_⟩
  cases c with
  | true => exact ⟨ρ, h1, k, rel1, ev.per per1, q1, post.per per1⟩
  | false => exact post false h1 H1 q1 rel1 per1
theorem iw_or (ha : PT3 X G a t) (hb : PW3 X G (.BoolOp .Or (b :: rest) pos) u) : PW3 X G (.BoolOp .Or (a :: b :: rest) pos) (wOr t u) := by
  refine (pw_or ha hb).weak fun σ H Q ⟨ρ, h, k, rel, ev, q, post⟩ => ?_
  refine ⟨ρ, h, _, rel, ev, q, fun c h1 H1 q1 rel1 per1 => ?_⟩
  cases c with
  | true => exact post true h1 H1 q1 rel1 per1
  | false => exact ⟨ρ, h1, k, rel1, ev.per per1, q1, post.per per1⟩
theorem it_w (h : PW3 X G a t) : PT3 X G a t := h.pt
theorem i_if (ht : PT3 X G c t) (ha : PE3 X G a f) (hb : PE3 X G b g) : PE3 X G (.IfExp c a b pos) (wIf t f g) := by
  refine (pe_ifExp ht ha hb).weak fun σ H Q ⟨ρ, h, k, rel, ev, q, post⟩ => ?_
  refine ⟨ρ, h, _, rel, ev, q, fun c h1 H1 q1 rel1 per1 => ?_⟩
  cases c with
  | true => exact ⟨ρ, h1, k, rel1, ev.per per1, q1, post.per per1⟩
  | false => exact ⟨ρ, h1, k, rel1, ev.per per1, q1, post.per per1⟩
theorem ia_nil : PA3 X G [] wNil := pa_nil.weak fun σ H Q ⟨ρ, h, k, rel, ev, q, post⟩ => post [] h [] H q rel (Per.refl H) .nil
theorem ia_cons (ha : PE3 X G a f) (hr : PA3 X G es l) (hs : starEach (a :: es) X.env = (false, eval a X.env) :: starEach es X.env := by rfl) : PA3 X G (a :: es) (wCons f l) := by
  refine (pa_cons ha hr hs).weak fun σ H Q ⟨ρ, h, k, rel, ev, q, post⟩ => ?_
  refine ⟨ρ, h, _, rel, ev, q, fun d h1 v H1 q1 rel1 per1 dv1 => ⟨ρ, h1, _, rel1, ev.per per1, q1, fun e h2 v2 H2 q2 rel2 per2 dv2 => ?_⟩⟩
  exact post _ h2 _ H2 q2 rel2 (per1.trans per2) (.cons (dv1.per per2) dv2)

/-! displays -/
def rTup : List D → H3 → K1 → Prop := fun l h k => l.length ≤ 16777216 ∧ k (.tup l) h
def rLst : List D → H3 → K1 → Prop := fun l h k => l.length ≤ 16777216 ∧ ∀ p, h p = none → k (.ref p) (up h p (.lst l))
theorem Rel.newTup {h : H3} {H : Hp} {p : Addr} {l : List D} {vs : List V} (rel : Rel G h H) (n : H p = Option.none) (d : DVs H l vs) : Rel G h (upd H p (.tup vs)) ∧ Per H (upd H p (.tup vs)) ∧ DV (upd H p (.tup vs)) (.tup l) (.ref p) :=
  ⟨rel.new0 n, Per.new n, .tup upd_same (d.per (Per.new n))⟩
theorem i_tup {x1} (h : PA3 X G es l) : PE3 X G (.Tuple es x1 pos) (wL rTup l) := by
  refine (pe_tup (x1 := x1) h).weak fun σ H Q q => liftL (R := fun xs H1 Q => xs.length ≤ sizeLine ∧ ∀ p, H1 p = none → Q (.ref p) (upd H1 p (.tup xs))) (fun l vs h H k Q rel dv q post => ?_) q
  refine ⟨by rw [← dv.length]; exact q.1, fun p np => ?_⟩
  obtain ⟨r1, p1, d1⟩ := rel.newTup np dv
  exact post _ h _ _ q.2 r1 p1 d1
theorem i_lst (h : PA3 X G es l) : PE3 X G (.List es pos) (wL rLst l) := by
  refine (pe_lst h).weak fun σ H Q q => liftL (R := fun xs H1 Q => xs.length ≤ sizeLine ∧ ∀ p, H1 p = none → Q (.ref p) (upd H1 p (.lst xs))) (fun l vs h H k Q rel dv q post => ?_) q
  exact ⟨by rw [← dv.length]; exact q.1, fun p np => post _ _ _ _ (q.2 p (rel.none np)) (rel.newLst np dv) (Per.new np) (.ref p)⟩
end

/-! ### readings: statements -/
def wNext : WS := fun E ρ h => E.nx ρ h
def wSeq (t u : WS) : WS := fun E ρ h => t { E with nx := u E } ρ h
def wBreak : WS := fun E ρ h => E.bk ρ h
def wCont : WS := fun E ρ h => E.ct ρ h
def wDrop (a : WE) : WS := fun E ρ h => a ρ h fun _ h1 => E.nx ρ h1
def wRet (a : WE) : WS := fun E ρ h => a ρ h E.rt
def wRetN : WS := fun E _ h => E.rt .non h
def wIfS (t : WT) (a b : WS) : WS := fun E ρ h => t ρ h fun c h1 => if c = true then a E ρ h1 else b E ρ h1
def wNever : WS := fun _ _ _ => False
/-- targets -/
def gN (i : Nat) : WG := fun d ρ h k => k (ρ.set i (some d)) h
def gT : List WG → WG := fun gs d ρ h k => ∃ l, d = .tup l ∧ l.length = gs.length ∧ go gs l ρ h k
where go : List WG → List D → Ev → H3 → (Ev → H3 → Prop) → Prop
  | [], _, ρ, h, k => k ρ h
  | g :: gs, l, ρ, h, k => ∃ d r, l = d :: r ∧ g d ρ h fun ρ1 h1 => go gs r ρ1 h1 k
def wAsg (a : WE) (g : WG) : WS := fun E ρ h => a ρ h fun d h1 => g d ρ h1 E.nx
section
variable {X : Cx} {G : Sc} {st : Stmt} {sts : List Stmt} {e c tg : Expr} {f : WE} {t : WT} {s u : WS} {g : WG} {pos : Pos}
theorem is_nil : PSs3 X G [] wNext := pss_nil.weak fun D σ H ⟨ρ, h, E, rel, ev, q, post⟩ => post.nx ρ h σ H q rel (Per.refl H) ev
theorem is_cons (h1 : PS3 X G st s) (h2 : PSs3 X G sts u) : PSs3 X G (st :: sts) (wSeq s u) := by
  refine (pss_cons h1 h2).weak fun D σ H ⟨ρ, h, E, rel, ev, q, post⟩ => ?_
  refine ⟨ρ, h, _, rel, ev, q, post.with fun ρ' h' σ' H' q' rel' per' ev' => ?_⟩
  exact ⟨ρ', h', E, rel', ev', q', post.per per'⟩
theorem is_one (h1 : PS3 X G st s) : PSs3 X G [st] s := pss_one h1
theorem is_pass : PS3 X G (.Pass pos) wNext := ps_pass.weak fun D σ H ⟨ρ, h, E, rel, ev, q, post⟩ => post.nx ρ h σ H q rel (Per.refl H) ev
theorem is_break : PS3 X G (.Break pos) wBreak := ps_break.weak fun D σ H ⟨ρ, h, E, rel, ev, q, post⟩ => post.bk ρ h σ H q rel (Per.refl H) ev
theorem is_cont : PS3 X G (.Continue pos) wCont := ps_continue.weak fun D σ H ⟨ρ, h, E, rel, ev, q, post⟩ => post.ct ρ h σ H q rel (Per.refl H) ev
theorem is_doc {x j pos pos'} : PS3 X G (.Expr (.Constant (.str x) j pos) pos') wNext := ps_doc.weak fun D σ H ⟨ρ, h, E, rel, ev, q, post⟩ => post.nx ρ h σ H q rel (Per.refl H) ev
theorem is_expr (he : PE3 X G e f) (hs : swapsWith e none pos.line X.env = pure false := by rfl) : PS3 X G (.Expr e pos) (wDrop f) := by
  refine (ps_expr he hs).weak fun D σ H ⟨ρ, h, E, rel, ev, q, post⟩ => ?_
  exact ⟨ρ, h, _, rel, ev, q, fun d h1 v H1 q1 rel1 per1 dv1 => post.nx ρ h1 σ H1 q1 rel1 per1 (ev.per per1)⟩
theorem is_ret (he : PE3 X G e f) : PS3 X G (.Return (some e) pos) (wRet f) := by
  refine (ps_ret he).weak fun D σ H ⟨ρ, h, E, rel, ev, q, post⟩ => ?_
  exact ⟨ρ, h, _, rel, ev, q, post.rt⟩
theorem is_retN : PS3 X G (.Return none pos) wRetN := ps_retN.weak fun D σ H ⟨ρ, h, E, rel, ev, q, post⟩ => post.rt .non h .non H q rel (Per.refl H) .non
theorem is_if {a b : List Stmt} (ht : PT3 X G c t) (ha : PSs3 X G a s) (hb : PSs3 X G b u) : PS3 X G (.If c a b pos) (wIfS t s u) := by
  refine (ps_if ht ha hb).weak fun D σ H ⟨ρ, h, E, rel, ev, q, post⟩ => ?_
  refine ⟨ρ, h, _, rel, ev, q, fun c h1 H1 q1 rel1 per1 => ?_⟩
  cases c with
  | true => exact ⟨ρ, h1, E, rel1, ev.per per1, q1, post.per per1⟩
  | false => exact ⟨ρ, h1, E, rel1, ev.per per1, q1, post.per per1⟩
theorem ig_name (i : Nat) {x : Str} (hN : X.N.Nodup) (hi : X.N[i]? = some x := by rfl) (hx : Loc X.env.scope x := by first | exact .inl rfl | exact .inr rfl) (hf : X.fn x = true ∨ X.env.scope.names.lookup x = some .local := by first | exact .inl rfl | exact .inr rfl | assumption) : PG3 X G (.Name x pos) (gN i) := by
  refine (pg_name (i := i) hN hi hx hf).weak fun v σ H Q ⟨d, ρ, h, k, rel, ev, dv, q, post⟩ => ?_
  exact post _ _ _ _ q rel (Per.refl H) (ev.set dv i)
/-- several targets -/
structure PGs3 (X : Cx) (G : Sc) (es : List Expr) (gs : List WG) : Prop where
  ok : PGs X es fun vs σ H Q => ∃ l ρ h k, Rel G h H ∧ EvR H ρ σ ∧ DVs H l vs ∧ l.length = gs.length ∧ gT.go gs l ρ h k ∧ PostN G H k Q
  len : es.length = gs.length
theorem _root_.L2.PGs.weak {es : List Expr} {t t' : TGs} (h : PGs X es t) (w : ∀ vs σ H Q, t' vs σ H Q → t vs σ H Q) : PGs X es t' := ⟨fun pins s σ H v u Q I r q => h.run pins s σ H v u Q I r (w v σ H Q q)⟩
theorem igs_nil : PGs3 X G [] [] := ⟨pgs_nil.weak fun vs σ H Q ⟨l, ρ, h, k, rel, ev, dv, hl, q, post⟩ => by
  have e : l = [] := List.length_eq_zero_iff.mp hl
  subst e
  exact ⟨by cases dv; rfl, post ρ h σ H q rel (Per.refl H) ev⟩, rfl⟩
theorem igs_cons {es : List Expr} {gs : List WG} (h1 : PG3 X G e g) (h2 : PGs3 X G es gs) (hs : (assignEach (e :: es) X.env).map (·.2) = assign e X.env :: (assignEach es X.env).map (·.2) := by rfl) : PGs3 X G (e :: es) (g :: gs) := by
  refine ⟨(pgs_cons h1 h2.ok hs).weak fun vs σ H Q ⟨l, ρ, h, k, rel, ev, dv, hl, ⟨d, r, el, q⟩, post⟩ => ?_, by simp [h2.len]⟩
  subst el
  cases dv with
  | cons dv dvs =>
    refine ⟨_, _, rfl, d, ρ, h, _, rel, ev, dv, q, fun ρ1 h1 σ1 H1 q1 rel1 per1 ev1 => ?_⟩
    exact ⟨r, ρ1, h1, k, rel1, ev1, dvs.per per1, by simpa using hl, q1, post.per per1⟩
theorem ig_tup {es : List Expr} {k : Nat} {gs : List WG} (hc : X.calm = true) (h : PGs3 X G es gs) (hn : (assignEach es X.env).length = gs.length := by rfl) (hst : (assignEach es X.env).findIdx? (·.1) = none := by rfl) : PG3 X G (.Tuple es k pos) (gT gs) := by
  refine (pg_tup hc h.ok hn hst).weak fun v σ H Q ⟨d, ρ, hh, kk, rel, ev, dv, ⟨l, el, hl, q⟩, post⟩ => ?_
  subst el
  cases dv with
  | tup e r => exact ⟨_, _, rfl, .of e, by rw [← r.length]; exact hl, l, ρ, hh, kk, rel, ev, r, hl, q, post⟩
theorem is_asg (he : PE3 X G e f) (hg : PG3 X G tg g) (hs : swapsWithSole [tg] e pos.line X.env = pure false := by rfl) (hw : swappedStores [tg] e X.env = pure none := by rfl)
    (h1 : (assignEach [tg] X.env).map (·.2) = [assign tg X.env] := by rfl) : PS3 X G (.Assign [tg] e pos) (wAsg f g) := by
  refine (ps_asg he hg hs hw h1).weak fun D σ H ⟨ρ, h, E, rel, ev, q, post⟩ => ?_
  refine ⟨ρ, h, _, rel, ev, q, fun d h1 v H1 q1 rel1 per1 dv1 => ?_⟩
  exact ⟨d, ρ, h1, _, rel1, ev.per per1, dv1, q1, post.nx.per per1⟩
end
end T3
end
-- T3Ops
section
set_option maxRecDepth 100000
set_option maxHeartbeats 4000000
/-! T3Ops: operators by what stands there. -/
namespace T3
open PySem PySem.Spec PyProof.Rows L2

/-! ### data read -/
mutual
/-- d stands, in h, for the plain datum p -/
inductive Rs (h : H3) : D → PyData → Prop
  | non : Rs h .non .none
  | bl (b : Bool) : Rs h (.bl b) (.bool b)
  | int (i : Int) : Rs h (.int i) (.int i)
  | str (x : Str) : PyData.strOk x = true → Rs h (.str x) (.str x)
  | tup {l : List D} {ps : List PyData} : RsL h l ps → Rs h (.tup l) (.tuple ps)
  | lst {a : Addr} {l : List D} {ps : List PyData} : h a = some (.lst l) → RsL h l ps → Rs h (.ref a) (.list ps)
inductive RsL (h : H3) : List D → List PyData → Prop
  | nil : RsL h [] []
  | cons {d : D} {l : List D} {p : PyData} {ps : List PyData} : Rs h d p → RsL h l ps → RsL h (d :: l) (p :: ps)
end
section
variable {h : H3} {p : PyData} {ps : List PyData} {l : List D}
@[simp] theorem rs_non : Rs h .non p ↔ p = .none := ⟨fun e => by cases e; rfl, fun e => e ▸ .non⟩
@[simp] theorem rs_bl {b : Bool} : Rs h (.bl b) p ↔ p = .bool b := ⟨fun e => by cases e; rfl, fun e => e ▸ .bl b⟩
@[simp] theorem rs_int {b : Int} : Rs h (.int b) p ↔ p = .int b := ⟨fun e => by cases e; rfl, fun e => e ▸ .int b⟩
@[simp] theorem rs_str {b : Str} : Rs h (.str b) p ↔ PyData.strOk b = true ∧ p = .str b := ⟨fun e => by cases e with | str _ z => exact ⟨z, rfl⟩, fun ⟨z, e⟩ => e ▸ .str b z⟩
@[simp] theorem rs_tup : Rs h (.tup l) p ↔ ∃ ps, RsL h l ps ∧ p = .tuple ps := ⟨fun e => by cases e with | tup r => exact ⟨_, r, rfl⟩, fun ⟨_, r, e⟩ => e ▸ .tup r⟩
theorem rs_ref {a : Addr} : Rs h (.ref a) p ↔ ∃ l ps, h a = some (.lst l) ∧ RsL h l ps ∧ p = .list ps := ⟨fun e => by cases e with | lst z r => exact ⟨_, _, z, r, rfl⟩, fun ⟨_, _, z, r, e⟩ => e ▸ .lst z r⟩
@[simp] theorem rsl_nil : RsL h [] ps ↔ ps = [] := ⟨fun e => by cases e; rfl, fun e => e ▸ .nil⟩
@[simp] theorem rsl_cons {d : D} : RsL h (d :: l) ps ↔ ∃ p qs, Rs h d p ∧ RsL h l qs ∧ ps = p :: qs := ⟨fun e => by cases e with | cons r t => exact ⟨_, _, r, t, rfl⟩, fun ⟨_, _, r, t, e⟩ => e ▸ .cons r t⟩
end
mutual
theorem Rs.lay {h : H3} : ∀ {d : D} {p : PyData}, Rs h d p → p.canLay0 = true
  | _, _, .non => rfl
  | _, _, .bl _ => rfl
  | _, _, .int _ => rfl
  | _, _, .str _ z => by simpa [PyData.canLay0] using z
  | _, _, .tup r => by simpa [PyData.canLay0] using RsL.lay r
  | _, _, .lst _ r => by simpa [PyData.canLay0] using RsL.lay r
theorem RsL.lay {h : H3} : ∀ {l : List D} {ps : List PyData}, RsL h l ps → PyData.canLayAll0 ps = true
  | _, _, .nil => rfl
  | _, _, .cons r t => by simp [PyData.canLayAll0, Rs.lay r, RsL.lay t]
end
mutual
theorem Rs.dp {G : Sc} {K : PySem.W.Frag} {h : H3} {H : Hp} (rel : Rel G h H) : ∀ {d : D} {p : PyData} {v : V}, Rs h d p → DV H d v → Dp K H v p
  | _, _, _, .non, r => by cases r; exact .non
  | _, _, _, .bl _, r => by cases r; exact .bl _
  | _, _, _, .int _, r => by cases r; exact .int _
  | _, _, _, .str _ _, r => by cases r; exact .str _
  | _, _, _, .tup q, r => by
    cases r with
    | tup e z => exact .tup (SqT.of e) (RsL.dp rel q z)
  | _, _, _, .lst z q, r => by
    cases r
    obtain ⟨vs, e, dv⟩ := rel.lst z
    exact .lst (SqL.of e) (RsL.dp rel q dv)
theorem RsL.dp {G : Sc} {K : PySem.W.Frag} {h : H3} {H : Hp} (rel : Rel G h H) : ∀ {l : List D} {ps : List PyData} {vs : List V}, RsL h l ps → DVs H l vs → DpAll K H vs ps
  | _, _, _, .nil, r => by cases r; exact .nil
  | _, _, _, .cons q t, r => by
    cases r with
    | cons z w => exact .cons (Rs.dp rel q z) (RsL.dp rel t w)
end

/-! ### the operators' readings -/
def rAdd : D → D → H3 → K1 → Prop := fun x y h k => match x, y with
  | .int i, .int j => k (.int (i + j)) h
  | .str a, .str b => a.length + b.length ≤ 16777216 ∧ k (.str (a ++ b)) h
  | .tup l, .tup m => l.length + m.length ≤ 16777216 ∧ k (.tup (l ++ m)) h
  | .ref a, .ref b => ∃ l m, h a = some (.lst l) ∧ h b = some (.lst m) ∧ l.length + m.length ≤ 16777216 ∧ ∀ p, h p = none → k (.ref p) (up h p (.lst (l ++ m)))
  | _, _ => False
def rInt (c : Int → Int → Prop) (g : Int → Int → Int) : D → D → H3 → K1 → Prop := fun x y h k => match x, y with
  | .int i, .int j => c i j ∧ k (.int (g i j)) h
  | _, _ => False
abbrev rSub := rInt (fun _ _ => True) fun i j => i - j
abbrev rMulI := rInt (fun i j => (-18446744073709551616 < i ∧ i < 18446744073709551616) ∨ (-18446744073709551616 < j ∧ j < 18446744073709551616)) fun i j => i * j
abbrev rDiv := rInt (fun _ j => 0 < j ∧ (j < 1073741824 ∨ j.natAbs.log2 < 9000)) fun i j => i / j
abbrev rMod := rInt (fun _ j => 0 < j) fun i j => i % j
abbrev rAndI := rInt (fun _ _ => True) Builtin.bitAnd
abbrev rOrI := rInt (fun _ _ => True) Builtin.bitOr
abbrev rXorI := rInt (fun _ _ => True) Builtin.bitXor
abbrev rShl := rInt (fun i j => 0 ≤ j ∧ ((j ≤ 1000000 ∧ -18446744073709551616 < i ∧ i < 18446744073709551616) ∨ CShl i j)) fun i j => i * 2 ^ j.toNat
abbrev rShr := rInt (fun _ j => 0 ≤ j) fun i j => i / 2 ^ j.toNat
/-- a list, a tuple times an int -/
def rMul : D → D → H3 → K1 → Prop := fun x y h k => match x, y with
  | .ref a, .int n => ∃ l, h a = some (.lst l) ∧ -(2 ^ 63) ≤ n ∧ n < 2 ^ 63 ∧ l.length * n.toNat ≤ 16777216 ∧ ∀ p, h p = none → k (.ref p) (up h p (.lst (List.replicate n.toNat l).flatten))
  | .str z, .int n => PySem.MulOk z n ∧ k (.str (PySem.Txt.mul z n)) h
  | x, y => rMulI x y h k
def rCmpI (g : Int → Int → Bool) : D → D → H3 → K1 → Prop := fun x y h k => match x, y with
  | .int i, .int j => k (.bl (g i j)) h
  | _, _ => False
def rLt : D → D → H3 → K1 → Prop := fun x y h k => match x, y with
  | .int i, .int j => k (.bl (decide (i < j))) h
  | .str i, .str j => k (.bl (decide (i.cps.toList < j.cps.toList))) h
  | _, _ => False
abbrev rLe := rCmpI fun i j => decide (i ≤ j)
abbrev rGt := rCmpI fun i j => decide (j < i)
abbrev rGe := rCmpI fun i j => decide (j ≤ i)
def rEqN (neg : Bool) : D → D → H3 → K1 → Prop := fun x y h k => match x, y with
  | .int i, .int j => k (.bl (decide (i = j) != neg)) h
  | .str i, .str j => k (.bl (decide (i = j) != neg)) h
  | x, y => ∃ p q, Rs h x p ∧ Rs h y q ∧ min p.depth q.depth ≤ 64 ∧ k (.bl (PyData.eqv p q != neg)) h
abbrev rEq := rEqN false
abbrev rNe := rEqN true
def D.isN : D → Bool
  | .non => true
  | _ => false
def rIsN (neg : Bool) : D → H3 → K1 → Prop := fun x h k => k (.bl (x.isN != neg)) h
def rIn (neg : Bool) : D → D → H3 → K1 → Prop := fun x y h k => match y with
  | .str z => ∃ c, x = .str ⟨#[c]⟩ ∧ k (.bl (decide (c ∈ z.cps.toList) != neg)) h
  | .tup l => ∃ p ps, Rs h x p ∧ RsL h l ps ∧ min (PyData.depthAll ps) p.depth ≤ 64 ∧ k (.bl (ps.any (fun z => PyData.eqv z p) != neg)) h
  | .ref a => ∃ l p ps, h a = some (.lst l) ∧ Rs h x p ∧ RsL h l ps ∧ min (PyData.depthAll ps) p.depth ≤ 64 ∧ k (.bl (ps.any (fun z => PyData.eqv z p) != neg)) h
  | _ => False

section
variable {X : Cx} {G : Sc}
theorem post_int {H : Hp} {h : H3} {k : K1} {Q : VK} {i : Int} (post : Post G H k Q) (rel : Rel G h H) (q : k (.int i) h) : Q (.int i) H := post _ _ _ _ q rel (Per.refl H) (.int i)
theorem post_bl {H : Hp} {h : H3} {k : K1} {Q : VK} {i : Bool} (post : Post G H k Q) (rel : Rel G h H) (q : k (.bl i) h) : Q (.bl i) H := post _ _ _ _ q rel (Per.refl H) (.bl i)
theorem post_str {H : Hp} {h : H3} {k : K1} {Q : VK} {i : Str} (post : Post G H k Q) (rel : Rel G h H) (q : k (.str i) h) : Q (.str i) H := post _ _ _ _ q rel (Per.refl H) (.str i)
theorem post_lst {H : Hp} {h : H3} {k : K1} {Q : VK} {l : List D} {vs : List V} {p : Addr} (post : Post G H k Q) (rel : Rel G h H) (dv : DVs H l vs) (q : ∀ p, h p = none → k (.ref p) (up h p (.lst l))) (np : H p = none) : Q (.ref p) (upd H p (.lst vs)) :=
  post _ _ _ _ (q p (rel.none np)) (rel.newLst np dv) (Per.new np) (.ref p)
theorem post_tup {H : Hp} {h : H3} {k : K1} {Q : VK} {l : List D} {vs : List V} {p : Addr} (post : Post G H k Q) (rel : Rel G h H) (dv : DVs H l vs) (q : k (.tup l) h) (np : H p = none) : Q (.ref p) (upd H p (.tup vs)) := by
  obtain ⟨r1, p1, d1⟩ := rel.newTup np dv
  exact post _ _ _ _ q r1 p1 d1
theorem rf_int {op : Operator} {C C' : Int → Int → Prop} {g : Int → Int → Int} (o : OpR X (binaryOp op) (rI C' fun i j => .int (g i j))) (hc : ∀ i j, C i j → C' i j) : Rf2 G (U2 X (binaryOp op)) (rInt C g) := by
  intro d e x y h H k Q rel dx dy q post
  unfold rInt at q
  split at q
  · rename_i i j
    cases dx; cases dy
    exact ⟨_, o, i, j, rfl, rfl, hc _ _ q.1, post_int post rel q.2⟩
  · exact q.elim
theorem rf_int0 {op : Operator} {g : Int → Int → Int} (o : OpR X (binaryOp op) (rI0 fun i j => .int (g i j))) : Rf2 G (U2 X (binaryOp op)) (rInt (fun _ _ => True) g) := by
  intro d e x y h H k Q rel dx dy q post
  unfold rInt at q
  split at q
  · rename_i i j
    cases dx; cases dy
    exact ⟨_, o, i, j, rfl, rfl, post_int post rel q.2⟩
  · exact q.elim
theorem rf_sub : Rf2 G (U2 X (binaryOp .Sub)) rSub := rf_int0 op_sub
theorem rf_mod : Rf2 G (U2 X (binaryOp .Mod)) rMod := rf_int op_mod fun _ _ h => h
theorem rf_and : Rf2 G (U2 X (binaryOp .BitAnd)) rAndI := rf_int0 op_and
theorem rf_or : Rf2 G (U2 X (binaryOp .BitOr)) rOrI := rf_int0 op_or
theorem rf_xor : Rf2 G (U2 X (binaryOp .BitXor)) rXorI := rf_int0 op_xor
theorem rf_shr : Rf2 G (U2 X (binaryOp .RShift)) rShr := rf_int op_shr fun _ _ h => h
theorem rI_or {F : Value → Value → Sem Value} {C1 C2 : Int → Int → Prop} {g : Int → Int → V} (a : OpR X F (rI C1 g)) (b : OpR X F (rI C2 g)) : OpR X F (rI (fun i j => C1 i j ∨ C2 i j) g) := by
  intro pins s σ H x y v u Q I rx ry ⟨i, j, e1, e2, c, q⟩
  rcases c with c | c
  · exact a pins s σ H x y v u Q I rx ry ⟨i, j, e1, e2, c, q⟩
  · exact b pins s σ H x y v u Q I rx ry ⟨i, j, e1, e2, c, q⟩
theorem rf_div : Rf2 G (U2 X (binaryOp .FloorDiv)) rDiv := rf_int (rI_or op_fdiv op_fdivW) fun _ _ h => h.2.elim (fun z => .inl ⟨h.1, z⟩) fun z => .inr ⟨h.1, z⟩
theorem natAbs64 {i : Int} (h : -18446744073709551616 < i ∧ i < 18446744073709551616) : i.natAbs < 2 ^ 64 := by
  have e : (2 ^ 64 : Nat) = 18446744073709551616 := rfl
  omega
theorem rf_shl : Rf2 G (U2 X (binaryOp .LShift)) rShl := rf_int (rI_or op_shl op_shlW) fun _ _ h => h.2.elim (fun z => .inl ⟨h.1, z.1, natAbs64 z.2⟩) fun z => .inr z
theorem rf_mulI : Rf2 G (U2 X (binaryOp .Mult)) rMulI := rf_int op_mul fun _ _ h => h
theorem op_mulS : OpR X (binaryOp .Mult) (fun x y H Q => ∃ z n, x = .str z ∧ y = .int n ∧ PySem.MulOk z n ∧ Q (.str (PySem.Txt.mul z n)) H) := by
  intro pins s σ H x y v u Q I rx ry h
  obtain ⟨z, n, rfl, rfl, hok, q⟩ := h
  obtain ⟨t, rfl⟩ := rx
  obtain ⟨t', rfl⟩ := ry
  exact PySem.SB.mul hok fun t' tk => ⟨.str (PySem.Txt.mul z n), H, I.tok _, ⟨_, rfl⟩, q⟩
theorem rf_mul : Rf2 G (U2 X (binaryOp .Mult)) rMul := by
  intro d e x y h H k Q rel dx dy q post
  unfold rMul at q
  split at q
  · rename_i a n
    cases dx; cases dy
    obtain ⟨l, ha, h1, h2, hz, q⟩ := q
    obtain ⟨vs, e, dv⟩ := rel.lst ha
    exact ⟨_, op_rep, a, n, vs, rfl, rfl, e, h1, h2, by rw [← dv.length]; exact hz, fun p np => post_lst post rel (dv.rep _) q np⟩
  · rename_i z n
    cases dx; cases dy
    exact ⟨_, op_mulS, z, n, rfl, rfl, q.1, post_str post rel q.2⟩
  · exact rf_mulI d e x y h H k Q rel dx dy q post
theorem rf_add : Rf2 G (U2 X (binaryOp .Add)) rAdd := by
  intro d e x y h H k Q rel dx dy q post
  unfold rAdd at q
  split at q
  · rename_i i j
    cases dx; cases dy
    exact ⟨_, op_add, i, j, rfl, rfl, post_int post rel q⟩
  · rename_i i j
    cases dx; cases dy
    exact ⟨_, op_add_str, i, j, rfl, rfl, q.1, post_str post rel q.2⟩
  · rename_i l m
    cases dx with
    | tup e1 r1 =>
      cases dy with
      | tup e2 r2 =>
        refine ⟨_, op_catA, _, _, _, _, rfl, rfl, .of e1, .of e2, by rw [← r1.length, ← r2.length]; exact q.1, fun z => ?_, fun _ z => ?_, fun _ _ p np => post_tup post rel (r1.append r2) q.2 np⟩
        · have z' := r1.nil_iff.mp z
          subst z'
          exact post _ _ _ _ q.2 rel (Per.refl H) (.tup e2 r2)
        · have z' := r2.nil_iff.mp z
          subst z'
          have q2 := q.2
          rw [List.append_nil] at q2
          exact post _ _ _ _ q2 rel (Per.refl H) (.tup e1 r1)
  · rename_i a b
    cases dx; cases dy
    obtain ⟨l, m, ha, hb, hz, q⟩ := q
    obtain ⟨vs, e1, d1⟩ := rel.lst ha
    obtain ⟨ws, e2, d2⟩ := rel.lst hb
    exact ⟨_, op_cat, a, b, vs, ws, rfl, rfl, e1, e2, by rw [← d1.length, ← d2.length]; exact hz, fun p np => post_lst post rel (d1.append d2) q np⟩
  · exact q.elim
theorem rf_neg : Rf1 G (U1 X (unaryOp .USub)) (fun x h k => match x with | .int i => k (.int (-i)) h | _ => False) := by
  intro d x h H k Q rel dx q post
  split at q
  · cases dx
    exact ⟨_, un_neg, _, rfl, post_int post rel q⟩
  · exact q.elim
theorem rf_cmpI {op : CmpOp} {g : Int → Int → Bool} (o : OpR X (compareOp op) (rI0 fun i j => .bl (g i j))) : Rf2 G (U2 X (compareOp op)) (rCmpI g) := by
  intro d e x y h H k Q rel dx dy q post
  unfold rCmpI at q
  split at q
  · rename_i i j
    cases dx; cases dy
    exact ⟨_, o, i, j, rfl, rfl, post_bl post rel q⟩
  · exact q.elim
theorem rf_le : Rf2 G (U2 X (compareOp .LtE)) rLe := rf_cmpI op_le
theorem rf_gt : Rf2 G (U2 X (compareOp .Gt)) rGt := rf_cmpI op_gt
theorem rf_ge : Rf2 G (U2 X (compareOp .GtE)) rGe := rf_cmpI op_ge
theorem rf_lt : Rf2 G (U2 X (compareOp .Lt)) rLt := by
  intro d e x y h H k Q rel dx dy q post
  unfold rLt at q
  split at q
  · cases dx; cases dy
    exact ⟨_, op_lt, _, _, rfl, rfl, post_bl post rel q⟩
  · cases dx; cases dy
    exact ⟨_, op_lt_str, _, _, rfl, rfl, post_bl post rel q⟩
  · exact q.elim
/-- == of read data -/
def rEqM (K : PySem.W.Frag) (neg : Bool) : R2 := fun x y H Q => ∃ d e, Dp K H x d ∧ Dp K H y e ∧ d.canLay0 = true ∧ e.canLay0 = true ∧ min d.depth e.depth ≤ 64 ∧ Q (.bl (PyData.eqv d e != neg)) H
theorem op_eqM (hu : X.A.units + 64 < cLine) : OpR X (compareOp .Eq) (rEqM X.K false) := by
  intro pins s σ H x y v u Q I rx ry ⟨d, e, hd, he, sd, se, hm, q⟩
  obtain ⟨as, r1⟩ := Dp.reads I d x v hd rx
  obtain ⟨bs, r2⟩ := Dp.reads I e y u he ry
  exact SeqAt.compareEq_reads r1 r2 sd se (by omega) ⟨.bl _, H, I, rfl, by simpa using q⟩
theorem op_neM (hu : X.A.units + 64 < cLine) : OpR X (compareOp .NotEq) (rEqM X.K true) := by
  intro pins s σ H x y v u Q I rx ry ⟨d, e, hd, he, sd, se, hm, q⟩
  obtain ⟨as, r1⟩ := Dp.reads I d x v hd rx
  obtain ⟨bs, r2⟩ := Dp.reads I e y u he ry
  exact SeqAt.compareNe_reads r1 r2 sd se (by omega) ⟨.bl _, H, I, rfl, by simpa using q⟩
theorem rf_eqN {op : CmpOp} {neg : Bool} (o : OpR X (compareOp op) (rEqM X.K neg)) (o2 : OpR X (compareOp op) (fun x y H Q => scal x y = true ∧ Q (.bl (decide (x = y) != neg)) H)) : Rf2 G (U2 X (compareOp op)) (rEqN neg) := by
  intro d e x y h H k Q rel dx dy q0 post
  unfold rEqN at q0
  split at q0
  · cases dx; cases dy
    exact ⟨_, o2, rfl, post_bl post rel (by simpa using q0)⟩
  · cases dx; cases dy
    exact ⟨_, o2, rfl, post_bl post rel (by simpa using q0)⟩
  obtain ⟨p, q, rp, rq, hm, kq⟩ := q0
  exact ⟨_, o, p, q, rp.dp rel dx, rq.dp rel dy, rp.lay, rq.lay, hm, post_bl post rel kq⟩
theorem rf_eq (hu : X.A.units + 64 < cLine) : Rf2 G (U2 X (compareOp .Eq)) rEq := rf_eqN (op_eqM hu) (by rw [show (fun (x y : V) (H : Hp) (Q : VK) => scal x y = true ∧ Q (.bl (decide (x = y) != false)) H) = L2.rEq from by funext x y H Q; simp [L2.rEq]]; exact op_eq)
theorem rf_ne (hu : X.A.units + 64 < cLine) : Rf2 G (U2 X (compareOp .NotEq)) rNe := rf_eqN (op_neM hu) (by rw [show (fun (x y : V) (H : Hp) (Q : VK) => scal x y = true ∧ Q (.bl (decide (x = y) != true)) H) = L2.rNe from by funext x y H Q; simp [L2.rNe]]; exact op_ne)
/-- in, over read data -/
def rInM (K : PySem.W.Frag) (neg : Bool) : R2 := fun x y H Q => ∃ d ds, Dp K H x d ∧ (Dp K H y (.list ds) ∨ Dp K H y (.tuple ds)) ∧ d.canLay0 = true ∧ PyData.canLayAll0 ds = true ∧ min (PyData.depthAll ds) d.depth ≤ 64 ∧ Q (.bl (ds.any (fun z => PyData.eqv z d) != neg)) H
theorem op_inM (hu : X.A.units + 65 < cLine) : OpR X (compareOp .In) (rInM X.K false) := by
  intro pins s σ H x y v u Q I rx ry ⟨d, ds, hd, he, sd, se, hm, q⟩
  obtain ⟨as, r1⟩ := Dp.reads I d x v hd rx
  rcases he with he | he
  · obtain ⟨bs, r2⟩ := Dp.reads I (.list ds) y u he ry
    exact SeqAt.in_list_reads r2 r1 (by simpa [PyData.canLay0] using se) sd (by omega) ⟨.bl _, H, I, rfl, by simpa using q⟩
  · obtain ⟨bs, r2⟩ := Dp.reads I (.tuple ds) y u he ry
    exact SeqAt.in_tuple_reads r2 r1 (by simpa [PyData.canLay0] using se) sd (by omega) ⟨.bl _, H, I, rfl, by simpa using q⟩
theorem op_notInM (hu : X.A.units + 65 < cLine) : OpR X (compareOp .NotIn) (rInM X.K true) := by
  intro pins s σ H x y v u Q I rx ry ⟨d, ds, hd, he, sd, se, hm, q⟩
  obtain ⟨as, r1⟩ := Dp.reads I d x v hd rx
  rcases he with he | he
  · obtain ⟨bs, r2⟩ := Dp.reads I (.list ds) y u he ry
    exact SeqAt.notIn_list_reads r2 r1 (by simpa [PyData.canLay0] using se) sd (by omega) ⟨.bl _, H, I, rfl, by simpa using q⟩
  · obtain ⟨bs, r2⟩ := Dp.reads I (.tuple ds) y u he ry
    exact SeqAt.notIn_tuple_reads r2 r1 (by simpa [PyData.canLay0] using se) sd (by omega) ⟨.bl _, H, I, rfl, by simpa using q⟩
theorem rf_inN {op : CmpOp} {neg : Bool} (o : OpR X (compareOp op) (rInM X.K neg)) (o2 : OpR X (compareOp op) (fun x y H Q => ∃ (c : Nat) (z : Str), x = .str ⟨#[c]⟩ ∧ y = .str z ∧ Q (.bl (decide (c ∈ z.cps.toList) != neg)) H)) : Rf2 G (U2 X (compareOp op)) (rIn neg) := by
  intro d e x y h H k Q rel dx dy q post
  unfold rIn at q
  split at q
  · obtain ⟨c, rfl, q⟩ := q
    cases dx; cases dy
    exact ⟨_, o2, c, _, rfl, rfl, post_bl post rel q⟩
  · obtain ⟨p, ps, rp, rq, hm, kq⟩ := q
    exact ⟨_, o, p, ps, rp.dp rel dx, .inr ((Rs.tup rq).dp rel dy), rp.lay, rq.lay, hm, post_bl post rel kq⟩
  · obtain ⟨l, p, ps, ha, rp, rq, hm, kq⟩ := q
    exact ⟨_, o, p, ps, rp.dp rel dx, .inl ((Rs.lst ha rq).dp rel dy), rp.lay, rq.lay, hm, post_bl post rel kq⟩
  · exact q.elim
theorem rf_in (hu : X.A.units + 65 < cLine) : Rf2 G (U2 X (compareOp .In)) (rIn false) := rf_inN (op_inM hu) (by simpa using op_in_sign)
theorem rf_notIn (hu : X.A.units + 65 < cLine) : Rf2 G (U2 X (compareOp .NotIn)) (rIn true) := rf_inN (op_notInM hu) (by simpa using op_notIn_sign)
theorem isN_of {H : Hp} {d : D} {v : V} (r : DV H d v) : decide (v = .non) = d.isN := by
  cases r <;> rfl
variable {a b c e : Expr} {f g : WE} {pos : Pos}
theorem i_isN {j p2} (ha : PE3 X G a f) : PE3 X G (.Compare a [.Is] [.Constant .none j p2] pos) (w1 (rIsN false) f) := by
  refine (pe_cmp (pc_isN ha) rfl).weak fun σ H Q q => lift1 (f := f) (R := fun x H1 Q => Q (.bl (decide (x = .non))) H1) (fun d x h H k Q rel dx q post => ?_) q
  unfold rIsN at q
  exact post_bl post rel (by rw [isN_of dx]; simpa using q)
theorem i_notN {j p2} (ha : PE3 X G a f) : PE3 X G (.Compare a [.IsNot] [.Constant .none j p2] pos) (w1 (rIsN true) f) := by
  refine (pe_cmp (pc_notN ha) rfl).weak fun σ H Q q => lift1 (f := f) (R := fun x H1 Q => Q (.bl (!decide (x = .non))) H1) (fun d x h H k Q rel dx q post => ?_) q
  unfold rIsN at q
  exact post_bl post rel (by rw [isN_of dx]; simpa using q)
end
end T3
end
-- T3Seq
section
set_option maxRecDepth 100000
set_option maxHeartbeats 4000000
/-! T3Seq: subscripts, slices, built-in calls, methods of lists, loops, comprehensions. -/
namespace T3
open PySem PySem.Spec PyProof.Rows L2

/-! ### subscripts -/
def rIx : D → D → H3 → K1 → Prop := fun x y h k => match x, y with
  | .tup l, .int i => ∃ d, atI l i = some d ∧ k d h
  | .ref a, .int i => ∃ l d, h a = some (.lst l) ∧ atI l i = some d ∧ k d h
  | .str z, .int i => z.length ≤ 16777216 ∧ ∃ c, atI z.cps.toList i = some c ∧ k (.str ⟨#[c]⟩) h
  | _, _ => False
def cutD (xs : List D) (lo hi : Option Int) : List D := (xs.drop (HT.sIx xs.length 0 lo)).take (HT.sIx xs.length xs.length hi - HT.sIx xs.length 0 lo)
def rSl (x : D) (lo hi : Option Int) (h : H3) (k : K1) : Prop := match x with
  | .tup l => k (.tup (cutD l lo hi)) h
  | .ref a => ∃ l, h a = some (.lst l) ∧ ∀ p, h p = none → k (.ref p) (up h p (.lst (cutD l lo hi)))
  | .str z => z.length ≤ 16777216 ∧ k (.str (cutS z lo hi)) h
  | _ => False
theorem DVs.atI {H : Hp} {l : List D} {vs : List V} {i : Int} {d : D} (r : DVs H l vs) (e : atI l i = some d) : ∃ v, L2.atI vs i = some v ∧ DV H d v := by
  unfold L2.atI at e ⊢
  rw [← r.length]
  cases q : ixN l.length i with
  | none => rw [q] at e; cases e
  | some j =>
    rw [q] at e
    exact r.get (by simpa using e)
theorem DVs.cut {H : Hp} {l : List D} {vs : List V} (r : DVs H l vs) (lo hi : Option Int) : DVs H (cutD l lo hi) (cutV vs lo hi) := by
  unfold cutD cutV
  rw [← r.length]
  exact (r.drop _).take _
theorem cutD_whole {l : List D} {lo hi : Option Int} (w : HT.sIx l.length 0 lo = 0 ∧ HT.sIx l.length l.length hi = l.length) : cutD l lo hi = l := by
  unfold cutD
  rw [w.1, w.2, List.drop_zero, Nat.sub_zero, List.take_length]
abbrev WO := Ev → H3 → (Option Int → H3 → Prop) → Prop
def oNone : WO := fun _ h k => k none h
def oSome (a : WE) : WO := fun ρ h k => a ρ h fun d h1 => ∃ i, d = .int i ∧ k (some i) h1
def wSl (a : WE) (lo hi : WO) : WE := fun ρ h k => a ρ h fun d h1 => lo ρ h1 fun l h2 => hi ρ h2 fun u h3 => rSl d l u h3 k
section
variable {X : Cx} {G : Sc} {a b e : Expr} {es : List Expr} {f g : WE} {t : WA} {pos p2 : Pos}
theorem rf_ix : Rf2 G (UX X) rIx := by
  intro d e x y h H k Q rel dx dy q post
  unfold rIx at q
  split at q
  · obtain ⟨d', e', q⟩ := q
    cases dy
    cases dx with
    | tup e1 r1 =>
      obtain ⟨v, e2, dv⟩ := r1.atI e'
      exact ⟨_, ix_tup, _, _, _, _, rfl, rfl, .of e1, e2, post _ _ _ _ q rel (Per.refl H) dv⟩
  · obtain ⟨l, d', ha, e', q⟩ := q
    cases dx; cases dy
    obtain ⟨vs, e1, r1⟩ := rel.lst ha
    obtain ⟨v, e2, dv⟩ := r1.atI e'
    exact ⟨_, ix_list, _, _, _, _, rfl, rfl, .of e1, e2, post _ _ _ _ q rel (Per.refl H) dv⟩
  · obtain ⟨hz, c, e', q⟩ := q
    cases dx; cases dy
    exact ⟨_, ix_str, _, _, _, rfl, rfl, hz, e', post_str post rel q⟩
  · exact q.elim
theorem i_ix (ha : PE3 X G a f) (hb : PE3 X G b g) (hs : PlainIx b := by exact fun _ _ => rfl) : PE3 X G (.Subscript a b pos) (w2 rIx f g) := (pe_ix UX.ok ha hb hs).weak fun σ H Q q => lift2 rf_ix q
def tIO (G : Sc) (f : WO) : TO := fun σ H Q => ∃ ρ h k, Rel G h H ∧ EvR H ρ σ ∧ f ρ h k ∧ ∀ o h' H', k o h' → Rel G h' H' → Per H H' → Q o H'
theorem PO.weak {e : Option Expr} {t t' : TO} (h : PO X e t) (w : ∀ σ H Q, t' σ H Q → t σ H Q) : PO X e t' := ⟨fun pins s σ H Q I q => h.run pins s σ H Q I (w σ H Q q)⟩
theorem io_none : PO X none (tIO G oNone) := PO.weak po_none fun σ H Q ⟨ρ, h, k, rel, ev, q, post⟩ => post none h H q rel (Per.refl H)
theorem io_some (h : PE3 X G e f) : PO X (some e) (tIO G (oSome f)) := by
  refine PO.weak (po_some h) fun σ H Q ⟨ρ, h, k, rel, ev, q, post⟩ => ?_
  refine ⟨ρ, h, _, rel, ev, q, fun d h1 v H1 q1 rel1 per1 dv1 => ?_⟩
  obtain ⟨i, rfl, q1⟩ := q1
  cases dv1
  exact ⟨i, rfl, post (some i) h1 H1 q1 rel1 per1⟩
theorem i_sl {lo hi : Option Expr} {ol oh : WO} (ha : PE3 X G a f) (hl : PO X lo (tIO G ol)) (hh : PO X hi (tIO G oh)) : PE3 X G (.Subscript a (.Slice lo hi none p2) pos) (wSl f ol oh) := by
  refine (pe_slice US.ok ha hl hh).weak fun σ H Q ⟨ρ, h, k, rel, ev, q, post⟩ => ?_
  refine ⟨ρ, h, _, rel, ev, q, fun d h1 v H1 q1 rel1 per1 dv1 => ⟨ρ, h1, _, rel1, ev.per per1, q1, fun l h2 H2 q2 rel2 per2 => ⟨ρ, h2, _, rel2, ev.per (per1.trans per2), q2, fun u h3 H3 q3 rel3 per3 => ?_⟩⟩⟩
  have dv3 := dv1.per (per2.trans per3)
  have post3 := post.per (per1.trans (per2.trans per3))
  unfold rSl at q3
  split at q3
  · cases dv3 with
    | tup e1 r1 =>
      refine ⟨_, sl_tupA, _, _, rfl, .of e1, fun w => ?_, fun _ p np => post_tup post3 rel3 (r1.cut l u) q3 np⟩
      rw [← r1.length] at w
      have e : cutD _ l u = _ := cutD_whole w
      rw [e] at q3
      exact post3 _ _ _ _ q3 rel3 (Per.refl H3) (.tup e1 r1)
  · cases dv3
    obtain ⟨l0, ha, q3⟩ := q3
    obtain ⟨vs, e1, r1⟩ := rel3.lst ha
    exact ⟨_, sl_list, _, _, rfl, .of e1, fun p np => post_lst post3 rel3 (r1.cut l u) q3 np⟩
  · cases dv3
    exact ⟨_, sl_str, _, rfl, q3.1, post_str post3 rel3 q3.2⟩
  · exact q3.elim

/-! ### built-in calls -/
theorem i_callB {id : String} {r : List D → H3 → K1 → Prop} {x : Str} {p : Pos} (rf : RfL G (UC X (.builtin id)) r) (hg : Gl X x) (hm : X.mg x = none) (hv : bootBuiltins x = some (.builtin id)) (ha : PA3 X G (e :: es) t) (hn : x ≠ "__name__" := by decide) (hdb : (x == ("__debug__" : Str)) = false := by decide)
    (he : starEach (e :: es) X.env = (false, eval e X.env) :: starEach es X.env := by rfl) (hpl : (backTo pos (starEach es X.env)).any (·.1) = false := by rfl) : PE3 X G (.Call (.Name x p) (e :: es) [] pos) (wL r t) :=
  (pe_callB UC.ok hg hm hv ha hn hdb he hpl).weak fun σ H Q q => liftL rf q
theorem i_callT {T : String} {r : List D → H3 → K1 → Prop} {x : Str} {p : Pos} (rf : RfL G (UC X (.type T)) r) (hg : Gl X x) (hm : X.mg x = none) (hv : bootBuiltins x = some (.type T)) (ha : PA3 X G (e :: es) t) (hn : x ≠ "__name__" := by decide) (hdb : (x == ("__debug__" : Str)) = false := by decide)
    (he : starEach (e :: es) X.env = (false, eval e X.env) :: starEach es X.env := by rfl) (hpl : (backTo pos (starEach es X.env)).any (·.1) = false := by rfl) : PE3 X G (.Call (.Name x p) (e :: es) [] pos) (wL r t) :=
  (pe_callTy UC.ok hg hm hv ha hn hdb he hpl).weak fun σ H Q q => liftL rf q
def rLen : List D → H3 → K1 → Prop := fun l h k => ∃ d, l = [d] ∧ match d with
  | .str z => z.length ≤ 16777216 ∧ k (.int z.length) h
  | .tup l => k (.int l.length) h
  | .ref a => ∃ l, h a = some (.lst l) ∧ k (.int l.length) h
  | _ => False
theorem rf_len : RfL G (UC X (.builtin "len")) rLen := by
  intro l vs h H k Q rel dv ⟨d, el, q⟩ post
  subst el
  cases dv with
  | cons d1 t1 =>
    cases t1
    split at q
    · cases d1
      exact ⟨_, call_len_str, _, rfl, q.1, post_int post rel q.2⟩
    · cases d1 with
      | tup e1 r1 => exact ⟨_, call_len_seq, _, _, rfl, .inr (.of e1), by rw [← r1.length]; exact post_int post rel q⟩
    · cases d1
      obtain ⟨l, ha, q⟩ := q
      obtain ⟨vs, e1, r1⟩ := rel.lst ha
      exact ⟨_, call_len_seq, _, _, rfl, .inl (.of e1), by rw [← r1.length]; exact post_int post rel q⟩
    · exact q.elim
def rI1 (g : Int → Int) : List D → H3 → K1 → Prop := fun l h k => ∃ i, l = [.int i] ∧ k (.int (g i)) h
def rI2 (g : Int → Int → Int) : List D → H3 → K1 → Prop := fun l h k => ∃ i j, l = [.int i, .int j] ∧ k (.int (g i j)) h
abbrev rAbs := rI1 fun i => if i < 0 then -i else i
abbrev rMax2 := rI2 fun i j => if j > i then j else i
abbrev rMin2 := rI2 fun i j => if j < i then j else i
theorem rf_abs : RfL G (UC X (.builtin "abs")) rAbs := by
  intro l vs h H k Q rel dv ⟨i, el, q⟩ post
  subst el
  cases dv with
  | cons d1 t1 =>
    cases t1; cases d1
    exact ⟨_, call_abs, i, rfl, post_int post rel q⟩
theorem rf_max2 (hc : X.calm = true) : RfL G (UC X (.builtin "max")) rMax2 := by
  intro l vs h H k Q rel dv ⟨i, j, el, q⟩ post
  subst el
  cases dv with
  | cons d1 t1 =>
    cases t1 with
    | cons d2 t2 =>
      cases t2; cases d1; cases d2
      exact ⟨_, call_max2 hc, i, j, rfl, post_int post rel q⟩
theorem rf_min2 (hc : X.calm = true) : RfL G (UC X (.builtin "min")) rMin2 := by
  intro l vs h H k Q rel dv ⟨i, j, el, q⟩ post
  subst el
  cases dv with
  | cons d1 t1 =>
    cases t1 with
    | cons d2 t2 =>
      cases t2; cases d1; cases d2
      exact ⟨_, call_min2 hc, i, j, rfl, post_int post rel q⟩
def rToInt : List D → H3 → K1 → Prop := fun l h k => ∃ d, l = [d] ∧ match d with
  | .int i => k (.int i) h
  | .bl b => k (.int (if b then 1 else 0)) h
  | _ => False
theorem rf_int1 : RfL G (UC X (.type "int")) rToInt := by
  intro l vs h H k Q rel dv ⟨d, el, q⟩ post
  subst el
  cases dv with
  | cons d1 t1 =>
    cases t1
    split at q
    · cases d1
      exact ⟨_, call_int1, .inl ⟨_, rfl, post_int post rel q⟩⟩
    · cases d1
      exact ⟨_, call_int1, .inr ⟨_, rfl, post_int post rel q⟩⟩
    · exact q.elim
def rTupleOf : List D → H3 → K1 → Prop := fun l h k => ∃ d, l = [d] ∧ match d with
  | .tup l => k (.tup l) h
  | .ref a => ∃ l, h a = some (.lst l) ∧ k (.tup l) h
  | _ => False
theorem rf_tupleOf : RfL G (UC X (.type "tuple")) rTupleOf := by
  intro l vs h H k Q rel dv ⟨d, el, q⟩ post
  subst el
  cases dv with
  | cons d1 t1 =>
    cases t1
    split at q
    · cases d1 with
      | tup e1 r1 => exact ⟨_, call_tuple_of, _, _, rfl, .inr ⟨.of e1, post _ _ _ _ q rel (Per.refl H) (.tup e1 r1)⟩⟩
    · cases d1
      obtain ⟨l, ha, q⟩ := q
      obtain ⟨vs, e1, r1⟩ := rel.lst ha
      exact ⟨_, call_tuple_of, _, _, rfl, .inl ⟨.of e1, fun p np => post_tup post rel r1 q np⟩⟩
    · exact q.elim
def rListOf : List D → H3 → K1 → Prop := fun l h k => ∃ d, l = [d] ∧ match d with
  | .tup l => ∀ p, h p = none → k (.ref p) (up h p (.lst l))
  | .ref a => ∃ l, h a = some (.lst l) ∧ ∀ p, h p = none → k (.ref p) (up h p (.lst l))
  | _ => False
theorem rf_listOf : RfL G (UC X (.type "list")) rListOf := by
  intro l vs h H k Q rel dv ⟨d, el, q⟩ post
  subst el
  cases dv with
  | cons d1 t1 =>
    cases t1
    split at q
    · cases d1 with
      | tup e1 r1 => exact ⟨_, call_list_of, _, _, rfl, .inr (.of e1), fun p np => post_lst post rel r1 q np⟩
    · cases d1
      obtain ⟨l, ha, q⟩ := q
      obtain ⟨vs, e1, r1⟩ := rel.lst ha
      exact ⟨_, call_list_of, _, _, rfl, .inl (.of e1), fun p np => post_lst post rel r1 q np⟩
    · exact q.elim
/-- all, any of a list of truths -/
def rAllB : List D → H3 → K1 → Prop := fun l h k => ∃ (a : Addr) (bs : List Bool), l = [.ref a] ∧ h a = some (.lst (bs.map D.bl)) ∧ k (.bl (bs.all id)) h
def rAnyB : List D → H3 → K1 → Prop := fun l h k => ∃ (a : Addr) (bs : List Bool), l = [.ref a] ∧ h a = some (.lst (bs.map D.bl)) ∧ k (.bl (bs.any id)) h
theorem DVs.bls {H : Hp} : ∀ {bs : List Bool} {vs : List V}, DVs H (bs.map D.bl) vs → vs = bs.map V.bl
  | [], _, h => by cases h; rfl
  | b :: bs, _, h => by
    cases h with
    | cons r t => cases r; rw [DVs.bls t]; rfl
theorem DVs.ints {H : Hp} : ∀ {bs : List Int} {vs : List V}, DVs H (bs.map D.int) vs → vs = bs.map V.int
  | [], _, h => by cases h; rfl
  | b :: bs, _, h => by
    cases h with
    | cons r t => cases r; rw [DVs.ints t]; rfl
theorem DVs.strs {H : Hp} : ∀ {bs : List Str} {vs : List V}, DVs H (bs.map D.str) vs → vs = bs.map V.str
  | [], _, h => by cases h; rfl
  | b :: bs, _, h => by
    cases h with
    | cons r t => cases r; rw [DVs.strs t]; rfl
theorem rf_all (hc : X.calm = true) : RfL G (UC X (.builtin "all")) rAllB := by
  intro l vs h H k Q rel dv ⟨a, bs, el, ha, q⟩ post
  subst el
  cases dv with
  | cons d1 t1 =>
    cases t1; cases d1
    obtain ⟨vs, e1, r1⟩ := rel.lst ha
    rw [r1.bls] at e1
    exact ⟨_, cr_all hc, a, bs, rfl, .of e1, post_bl post rel q⟩
theorem rf_any (hc : X.calm = true) : RfL G (UC X (.builtin "any")) rAnyB := by
  intro l vs h H k Q rel dv ⟨a, bs, el, ha, q⟩ post
  subst el
  cases dv with
  | cons d1 t1 =>
    cases t1; cases d1
    obtain ⟨vs, e1, r1⟩ := rel.lst ha
    rw [r1.bls] at e1
    exact ⟨_, cr_any hc, a, bs, rfl, .of e1, post_bl post rel q⟩

/-! ### methods of lists -/
def rAppend3 : D → List D → H3 → K1 → Prop := fun x l h k => ∃ a xs d, x = .ref a ∧ l = [d] ∧ h a = some (.lst xs) ∧ xs.length < 16777216 ∧ k .non (up h a (.lst (xs ++ [d])))
theorem i_append {apos cpos : Pos} (ho : PE3 X G a f) (ha : PA3 X G (e :: es) t) (hbase : attributeBase a "append" X.env (eval a X.env) = eval a X.env := by rfl)
    (hfew : ((backTo cpos (starEach (e :: es) X.env)).all (fun x => !x.1) && (backToKw cpos (keywordEach [] X.env)).all (fun x => x.1.isSome)
      && decide ((e :: es).length + ([] : List Keyword).length + (if ([] : List Keyword).isEmpty then 0 else 1) < 30)) = true := by rfl)
    (hline : (apos.endLine == cpos.line) = true := by rfl) (hs : starEach (e :: es) X.env = (false, eval e X.env) :: starEach es X.env := by rfl) (hplain : (backTo cpos (starEach es X.env)).any (·.1) = false := by rfl) :
    PE3 X G (.Call (.Attribute a "append" apos) (e :: es) [] cpos) (fun ρ h k => f ρ h fun x h1 => ∃ p xs, x = .ref p ∧ h1 p = some (.lst xs) ∧ t ρ h1 fun l h2 => rAppend3 x l h2 k) := by
  refine (pe_bm PySem.F.plainAttrs_list PySem.F.slot_list_append PySem.F.type_list_append mt_append ho ha hbase hfew hline hs hplain).weak fun σ H Q ⟨ρ, h, k, rel, ev, q, post⟩ => ?_
  refine ⟨ρ, h, _, rel, ev, q, fun d h1 v H1 q1 rel1 per1 dv1 => ?_⟩
  obtain ⟨p, xs, rfl, hp, q1⟩ := q1
  cases dv1
  obtain ⟨vs, e1, r1⟩ := rel1.lst hp
  refine ⟨.inl ⟨rfl, _, .of e1⟩, ρ, h1, _, rel1, ev.per per1, q1, fun l h2 ws H2 q2 rel2 per2 dv2 => ?_⟩
  obtain ⟨a', xs', d', e', rfl, ha', hz, q2⟩ := q2
  cases e'
  cases dv2 with
  | cons d1 t1 =>
    cases t1
    obtain ⟨vs', e2, r2⟩ := rel2.lst ha'
    refine ⟨_, _, _, rfl, rfl, e2, by rw [← r2.length]; exact hz, ?_⟩
    exact post _ _ _ _ q2 (rel2.setLst ha' (r2.append (.cons d1 .nil))) ((per1.trans per2).trans (Per.mut (rel2.mut ha'))) .non
end
/-- o[i] = v -/
def rSetIx : D → D → D → H3 → (H3 → Prop) → Prop := fun o i d h k => ∃ a n l j, o = .ref a ∧ i = .int n ∧ h a = some (.lst l) ∧ ixN l.length n = some j ∧ k (up h a (.lst (l.set j d)))
def gIx (o i : WE) : WG := fun d ρ h k => o ρ h fun x h1 => i ρ h1 fun y h2 => rSetIx x y d h2 fun h3 => k ρ h3
section
variable {X : Cx} {G : Sc} {o i : Expr} {f g : WE} {pos : Pos}
theorem ig_ix (ho : PE3 X G o f) (hi : PE3 X G i g) (ha : ∀ v, assign (.Subscript o i pos) X.env v = (do
      let ov ← holding [v] (eval o X.env)
      let iv ← holding [v, ov] (eval i X.env)
      standAt pos
      holding [v, ov, iv] (setItem ov iv v)
      release [v, ov, iv] []) := by intro _; rfl) : PG3 X G (.Subscript o i pos) (gIx f g) := by
  refine (pg_sub ho hi set_list ha).weak fun v σ H Q ⟨d, ρ, h, k, rel, ev, dv, q, post⟩ => ?_
  refine ⟨ρ, h, _, rel, ev, q, fun x h1 xv H1 q1 rel1 per1 dv1 => ⟨ρ, h1, _, rel1, ev.per per1, q1, fun y h2 yv H2 q2 rel2 per2 dv2 => ?_⟩⟩
  obtain ⟨a, n, l, j, rfl, rfl, ha, hj, q2⟩ := q2
  have dv1' := dv1.per per2
  cases dv1'; cases dv2
  obtain ⟨vs, e1, r1⟩ := rel2.lst ha
  refine ⟨_, _, _, j, rfl, rfl, e1, by rw [← r1.length]; exact hj, ?_⟩
  have p3 := (per1.trans per2).trans (Per.mut (o := .lst (vs.set j v)) (rel2.mut ha))
  exact post _ _ _ _ q2 (rel2.setLst ha (DVs.set (dv.per (per1.trans per2)) j r1)) p3 (ev.per p3)
end

/-! ### what is walked -/
inductive Src where
  | fix (l : List D) | lst (a : Addr)
abbrev WI := Ev → H3 → (Src → H3 → Prop) → Prop
def Src.at_ : Src → H3 → Nat → D → Prop
  | .fix l, _, i, d => l[i]? = some d
  | .lst a, h, i, d => ∃ l, h a = some (.lst l) ∧ l[i]? = some d
def Src.done : Src → H3 → Nat → Prop
  | .fix l, _, i => l.length ≤ i
  | .lst a, h, i => ∃ l, h a = some (.lst l) ∧ l.length ≤ i
structure ItOk (G : Sc) (J : It) (H1 : Hp) (s : Src) : Prop where
  go : ∀ i H h d, Per H1 H → Rel G h H → s.at_ h i d → J.go i H
  yld : ∀ i H h d x H', Per H1 H → Rel G h H → s.at_ h i d → J.yld i H x H' → Rel G h H' ∧ Per H H' ∧ DV H' d x
  stop : ∀ i H h, Per H1 H → Rel G h H → s.done h i → J.stop i H
def tII (G : Sc) (f : WI) : TI := fun σ H R => ∃ ρ h k, Rel G h H ∧ EvR H ρ σ ∧ f ρ h k ∧ ∀ s J h' H', k s h' → Rel G h' H' → Per H H' → ItOk G J H' s → R J H'
abbrev PI3 (X : Cx) (G : Sc) (tg e : Expr) (f : WI) : Prop := PI X tg e (tII G f)
theorem _root_.L2.PI.weak {X : Cx} {tg e : Expr} {t t' : TI} (h : PI X tg e t) (w : ∀ σ H Q, t' σ H Q → t σ H Q) : PI X tg e t' := ⟨fun pins s σ H Q I q => h.run pins s σ H Q I (w σ H Q q)⟩
/-- a list, a tuple -/
def wIter (a : WE) : WI := fun ρ h k => a ρ h fun d h1 => match d with
  | .tup l => k (.fix l) h1
  | .ref a => (∃ l, h1 a = some (.lst l)) ∧ k (.lst a) h1
  | .str z => k (.fix (z.cps.toList.map fun c => .str ⟨#[c]⟩)) h1
  | _ => False
def rgD (lo : Int) (n : Nat) : List D := (List.range n).map fun (i : Nat) => D.int (lo + i)
def wRg1 (t : WA) : WI := fun ρ h k => t ρ h fun l h1 => ∃ j : Int, l = [.int j] ∧ -4611686018427387904 ≤ j ∧ j < 4611686018427387904 ∧ k (.fix (rgD 0 j.toNat)) h1
def wRg2 (t : WA) : WI := fun ρ h k => t ρ h fun l h1 => ∃ i j : Int, l = [.int i, .int j] ∧ (-4611686018427387904 ≤ i ∧ i < 4611686018427387904 ∧ -4611686018427387904 ≤ j ∧ j < 4611686018427387904) ∧ k (.fix (rgD i (j - i).toNat)) h1
theorem it_tup {G : Sc} {K : PySem.W.Frag} {H1 : Hp} {a : Addr} {l : List D} {vs : List V} (e : H1 a = some (.tup vs)) (r : DVs H1 l vs) : ItOk G (Itt K a) H1 (.fix l) := by
  refine ⟨fun i H h d per rel q => ?_, fun i H h d x H' per rel q y => ?_, fun i H h per rel q => ?_⟩
  · obtain ⟨v, ev, dv⟩ := r.get q
    exact ⟨vs, v, .of (per.tups _ _ e), ev⟩
  · obtain ⟨v, ev, dv⟩ := r.get q
    obtain ⟨rfl, y⟩ := y
    have e2 := y vs (.of (per.tups _ _ e))
    rw [ev] at e2
    cases e2
    exact ⟨rel, Per.refl _, dv.per per⟩
  · exact ⟨vs, .of (per.tups _ _ e), by rw [← r.length]; exact q⟩
theorem it_lst {G : Sc} {K : PySem.W.Frag} {H1 : Hp} {a : Addr} : ItOk G (Itl K a) H1 (.lst a) := by
  refine ⟨fun i H h d per rel ⟨l, ha, q⟩ => ?_, fun i H h d x H' per rel ⟨l, ha, q⟩ y => ?_, fun i H h per rel ⟨l, ha, q⟩ => ?_⟩
  · obtain ⟨vs, e, r⟩ := rel.lst ha
    obtain ⟨v, ev, dv⟩ := r.get q
    exact ⟨vs, v, .of e, ev⟩
  · obtain ⟨vs, e, r⟩ := rel.lst ha
    obtain ⟨v, ev, dv⟩ := r.get q
    obtain ⟨rfl, y⟩ := y
    have e2 := y vs (.of e)
    rw [ev] at e2
    cases e2
    exact ⟨rel, Per.refl _, dv⟩
  · obtain ⟨vs, e, r⟩ := rel.lst ha
    exact ⟨vs, .of e, by rw [← r.length]; exact q⟩
theorem it_str {G : Sc} {H1 : Hp} {z : Str} : ItOk G (Its z) H1 (.fix (z.cps.toList.map fun c => .str ⟨#[c]⟩)) := by
  refine ⟨fun i H h d per rel q => ?_, fun i H h d x H' per rel q y => ?_, fun i H h per rel q => ?_⟩
  · have q' : (z.cps.toList.map fun c => D.str ⟨#[c]⟩)[i]? = some d := q
    have := (List.getElem?_eq_some_iff.mp q').1
    show i < z.cps.size
    simpa using this
  · have q' : (z.cps.toList.map fun c => D.str ⟨#[c]⟩)[i]? = some d := q
    obtain ⟨rfl, c, ec, rfl⟩ := y
    rw [List.getElem?_map, Array.getElem?_toList, ec] at q'
    cases q'
    exact ⟨rel, Per.refl _, .str _⟩
  · have q' : (z.cps.toList.map fun c => D.str ⟨#[c]⟩).length ≤ i := q
    have : z.cps.size ≤ i := by simpa using q'
    exact this
theorem it_rng {G : Sc} {H1 : Hp} {lo : Int} {n : Nat} : ItOk G (Itr lo n) H1 (.fix (rgD lo n)) := by
  refine ⟨fun i H h d per rel q => ?_, fun i H h d x H' per rel q y => ?_, fun i H h per rel q => ?_⟩
  · have q' : (rgD lo n)[i]? = some d := q
    have := (List.getElem?_eq_some_iff.mp q').1
    show i < n
    simpa [rgD] using this
  · have q' : (rgD lo n)[i]? = some d := q
    obtain ⟨rfl, rfl⟩ := y
    have hi := (List.getElem?_eq_some_iff.mp q').1
    have hn : i < n := by simpa [rgD] using hi
    unfold rgD at q'
    rw [List.getElem?_map, List.getElem?_range hn] at q'
    cases q'
    exact ⟨rel, Per.refl _, .int _⟩
  · have q' : (rgD lo n).length ≤ i := q
    have : n ≤ i := by simpa [rgD] using q'
    exact this
section
variable {X : Cx} {G : Sc} {a b tg e : Expr} {es : List Expr} {f g : WE} {t : WA} {pos p : Pos}
/-- a list, a tuple, a text: whichever stands there -/
theorem ii_any (ha : PE3 X G e f) : PI3 X G tg e (wIter f) := by
  refine ⟨fun pins s σ H R I ⟨ρ, h, k, rel, ev, q, post⟩ => ?_⟩
  -- the three walks share the value
  refine thn (ha.run pins s σ H (fun v H1 => ∃ d h1, DV H1 d v ∧ Rel G h1 H1 ∧ Per H H1 ∧ (match d with
    | .tup l => k (.fix l) h1
    | .ref a => (∃ l, h1 a = some (.lst l)) ∧ k (.lst a) h1
    | .str z => k (.fix (z.cps.toList.map fun c => .str ⟨#[c]⟩)) h1
    | _ => False)) I ⟨ρ, h, _, rel, ev, q, fun d h1 v H1 q1 rel1 per1 dv1 => ⟨d, h1, dv1, rel1, per1, q1⟩⟩) fun u s1 ⟨x, H1, I1, r1, d, h1, dv1, rel1, per1, q1⟩ => ?_
  split at q1
  · cases dv1 with
    | tup e1 dr =>
      cases r1
      obtain ⟨its, rv, ⟨o, ho, hc, n, hd⟩, hz⟩ := I1.tuple (.of e1)
      refine wpAny_pyIter_tuple ⟨o, ho, hc, n, hd⟩ ?_
      exact ⟨s1.heap.objs.size, [s1.heap.objs.size], _, _, H1, rfl, I1.kept (t' := s1.toks) fun b o e => Heap.get?_push_of_some _ e, turn_tuple _ _, ⟨_, Heap.get?_push_size _ rfl, rfl, rfl⟩, fun b hb => by
        have e : b = s1.heap.objs.size := by simpa using hb
        subst e
        exact I1.fpOk (Nat.le_refl _) (I1.hok.fresh (Nat.le_refl _)), post _ _ _ _ q1 rel1 per1 (it_tup (K := X.K) e1 dr)⟩
  · cases dv1
    cases r1
    obtain ⟨⟨l, hl⟩, q1⟩ := q1
    obtain ⟨vs, e1, dr⟩ := rel1.lst hl
    obtain ⟨its, rv, p, hz⟩ := I1.list (.of e1)
    refine wpAny_pyIter_list p.isList ?_
    exact ⟨s1.heap.objs.size, [s1.heap.objs.size], _, _, H1, rfl, I1.kept (t' := s1.toks) fun b o e => Heap.get?_push_of_some _ e, turn_list _ _, ⟨_, Heap.get?_push_size _ rfl, rfl, rfl⟩, fun b hb => by
      have e : b = s1.heap.objs.size := by simpa using hb
      subst e
      exact I1.fpOk (Nat.le_refl _) (I1.hok.fresh (Nat.le_refl _)), post _ _ _ _ q1 rel1 per1 (it_lst (K := X.K))⟩
  · rename_i x
    cases dv1
    obtain ⟨t, rfl⟩ := r1
    cases ha : x.cps.all (· < 128)
    · exact wpAny_pyIter_wide ha (pi_one (tk := s1.toks) I1 _ (turn_str _ x t "str_iterator" (.inr rfl)) ⟨_, Heap.get?_push_size _ rfl, rfl, rfl⟩ (post _ _ _ _ q1 rel1 per1 it_str))
    · exact wpAny_pyIter_ascii ha (pi_one (tk := s1.toks) I1 _ (turn_str _ x t "str_ascii_iterator" (.inl rfl)) ⟨_, Heap.get?_push_size _ rfl, rfl, rfl⟩ (post _ _ _ _ q1 rel1 per1 it_str))
  · exact q1.elim
theorem ii_rg1 (hg : Gl X "range") (hm : X.mg "range" = none) (ha : PA3 X G [a] t) (hs : starEach [a] X.env = [(false, eval a X.env)] := by rfl) : PI3 X G tg (.Call (.Name "range" p) [a] [] pos) (wRg1 t) := by
  refine (pi_range1 hg hm ha hs).weak fun σ H R ⟨ρ, h, k, rel, ev, q, post⟩ => ?_
  refine ⟨ρ, h, _, rel, ev, q, fun l h1 vs H1 q1 rel1 per1 dv1 => ?_⟩
  obtain ⟨j, rfl, h1', h2', q1⟩ := q1
  cases dv1 with
  | cons d1 t1 =>
    cases t1; cases d1
    exact ⟨j, rfl, h1', h2', post _ _ _ _ q1 rel1 per1 it_rng⟩
theorem ii_rg2 (hg : Gl X "range") (hm : X.mg "range" = none) (ha : PA3 X G [a, b] t) (hs : starEach [a, b] X.env = [(false, eval a X.env), (false, eval b X.env)] := by rfl) (hs2 : starEach [b] X.env = [(false, eval b X.env)] := by rfl) : PI3 X G tg (.Call (.Name "range" p) [a, b] [] pos) (wRg2 t) := by
  refine (pi_range2 hg hm ha hs hs2).weak fun σ H R ⟨ρ, h, k, rel, ev, q, post⟩ => ?_
  refine ⟨ρ, h, _, rel, ev, q, fun l h1 vs H1 q1 rel1 per1 dv1 => ?_⟩
  obtain ⟨i, j, rfl, hb, q1⟩ := q1
  cases dv1 with
  | cons d1 t1 =>
    cases t1 with
    | cons d2 t2 =>
      cases t2; cases d1; cases d2
      exact ⟨i, j, rfl, hb, post _ _ _ _ q1 rel1 per1 it_rng⟩
end

/-! ### for -/
def forW (chk : H3 → Prop) (g : WG) (body : WS) (E : En) : List D → Ev → H3 → Prop
  | [], ρ, h => chk h ∧ E.nx ρ h
  | x :: r, ρ, h => chk h ∧ g x ρ h fun ρ1 h1 => body { nx := fun ρ2 h2 => ∃ h3, Sub h3 h2 ∧ forW chk g body E r ρ2 h3, ct := fun ρ2 h2 => ∃ h3, Sub h3 h2 ∧ forW chk g body E r ρ2 h3, bk := E.nx, rt := E.rt } ρ1 h1
def wFor (it : WI) (g : WG) (body : WS) : WS := fun E ρ h => it ρ h fun s h1 => match s with
  | .fix l => forW (fun _ => True) g body E l ρ h1
  | .lst a => ∃ l, h1 a = some (.lst l) ∧ forW (fun h => h a = some (.lst l)) g body E l ρ h1
theorem for_ok {G : Sc} {J : It} {H1 : Hp} {s : Src} {g : WG} {body : WS} {E : En} {D : Ends} {l : List T3.D} {chk : H3 → Prop} {ρ : Ev} {h : H3} {σ : L2.St} {H0 : Hp}
    (ok : ItOk G J H1 s) (p0 : Per H0 H1) (at_ : ∀ i h d, chk h → l[i]? = some d → s.at_ h i d) (done : ∀ i h, chk h → l.length ≤ i → s.done h i)
    (rel : Rel G h H1) (ev : EvR H1 ρ σ) (q : forW chk g body E l ρ h) (post : PostS G H0 E D) :
    ∃ W : Nat → Nat → L2.St → Hp → Prop, (∃ m, W 0 m σ H1) ∧ ∀ i m σ H, W i m σ H →
  (J.stop i H ∧ D.nx σ H) ∨ (J.go i H ∧ ∃ N : L2.St → Hp → Prop, (∀ σ' H', N σ' H' → ∃ m', m' < m ∧ W (i + 1) m' σ' H') ∧ ∀ x H', J.yld i H x H' → tIG G g x σ H' fun σ2 H2 => tIS G body { D with nx := N, ct := N, bk := D.nx } σ2 H2) := by
  refine ⟨fun i m σ H => ∃ ρ h, i + m = l.length ∧ Rel G h H ∧ EvR H ρ σ ∧ Per H1 H ∧ forW chk g body E (l.drop i) ρ h, ⟨l.length, ρ, h, by omega, rel, ev, Per.refl _, by simpa using q⟩, ?_⟩
  rintro i m σ H ⟨ρ, h, em, rel, ev, per, q⟩
  by_cases hi : i < l.length
  · have e : l[i]? = some l[i] := List.getElem?_eq_getElem hi
    rw [List.drop_eq_getElem_cons hi] at q
    obtain ⟨hc, q⟩ := q
    have sat := at_ i h _ hc e
    refine .inr ⟨ok.go i H h _ per rel sat, fun σ' H' => ∃ ρ h, Rel G h H' ∧ EvR H' ρ σ' ∧ Per H1 H' ∧ forW chk g body E (l.drop (i + 1)) ρ h, fun σ' H' ⟨ρ', h', a, b, c, d⟩ => ⟨m - 1, by omega, ρ', h', by omega, a, b, c, d⟩, fun x H' y => ?_⟩
    obtain ⟨rel', per', dv⟩ := ok.yld i H h _ x H' per rel sat y
    refine ⟨_, ρ, h, _, rel', ev.per per', dv, q, fun ρ1 h1 σ1 H2 q1 rel1 per1 ev1 => ?_⟩
    refine ⟨ρ1, h1, _, rel1, ev1, q1, ?_⟩
    have pp : Per H0 H2 := p0.trans (per.trans (per'.trans per1))
    have stp : PostN G H2 (fun ρ2 h2 => ∃ h3, Sub h3 h2 ∧ forW chk g body E (l.drop (i + 1)) ρ2 h3) fun σ' H' => ∃ ρ h, Rel G h H' ∧ EvR H' ρ σ' ∧ Per H1 H' ∧ forW chk g body E (l.drop (i + 1)) ρ h :=
      fun ρ2 h2 σ2 H3 ⟨h3, sub, q3⟩ rel2 per2 ev2 => ⟨ρ2, h3, rel2.sub sub, ev2, per.trans (per'.trans (per1.trans per2)), q3⟩
    exact ⟨stp, post.rt.per pp, post.nx.per pp, stp⟩
  · have e : l.drop i = [] := List.drop_eq_nil_iff.mpr (by omega)
    rw [e] at q
    obtain ⟨hc, q⟩ := q
    exact .inl ⟨ok.stop i H h per rel (done i h hc (by omega)), post.nx ρ h σ H q rel (p0.trans per) ev⟩
section
variable {X : Cx} {G : Sc} {tg iter : Expr} {body : List Stmt} {it : WI} {g : WG} {b : WS} {pos : Pos}
theorem is_for (hp : PassesOwn (model X.prog X.w) X.A X.env X.xe) (hc : X.calm = true) (hi : PI3 X G tg iter it) (hg : PG3 X G tg g) (hb : PSs3 X G body b)
    (hs : ∀ x, foldedSetIterable iter X.env x = pure x := by intro _; rfl) : PS3 X G (.For tg iter body [] pos) (wFor it g b) := by
  refine (ps_for hp hc hi hg hb hs).weak fun D σ H ⟨ρ, h, E, rel, ev, q, post⟩ => ?_
  refine ⟨ρ, h, _, rel, ev, q, fun s J h1 H1 q1 rel1 per1 ok => ?_⟩
  split at q1
  · exact for_ok ok per1 (fun i h d _ e => e) (fun i h _ e => e) rel1 (ev.per per1) q1 post
  · obtain ⟨l, hl, q1⟩ := q1
    exact for_ok ok per1 (fun i h d c e => ⟨l, c, e⟩) (fun i h c e => ⟨l, c, e⟩) rel1 (ev.per per1) q1 post
end

/-! ### while -/
def whileW (t : WT) (body : WS) (E : En) : Nat → Ev → H3 → Prop
  | 0, _, _ => False
  | n + 1, ρ, h => t ρ h fun c h1 => if c = true then body { nx := fun ρ2 h2 => ∃ h3, Sub h3 h2 ∧ whileW t body E n ρ2 h3, ct := fun ρ2 h2 => ∃ h3, Sub h3 h2 ∧ whileW t body E n ρ2 h3, bk := E.nx, rt := E.rt } ρ h1 else E.nx ρ h1
def wWhile (t : WT) (body : WS) : WS := fun E ρ h => ∃ n, whileW t body E n ρ h
section
variable {X : Cx} {G : Sc} {c : Expr} {body : List Stmt} {t : WT} {b : WS} {pos : Pos}
theorem is_while (hp : PassesOwn (model X.prog X.w) X.A X.env X.xe) (hc : PT3 X G c t) (hb : PSs3 X G body b) : PS3 X G (.While c body [] pos) (wWhile t b) := by
  refine (ps_while hp hc hb).weak fun D σ H ⟨ρ, h, E, rel, ev, ⟨n, q⟩, post⟩ => ?_
  refine ⟨fun m σ' H' => ∃ ρ h, Rel G h H' ∧ EvR H' ρ σ' ∧ Per H H' ∧ whileW t b E m ρ h, ⟨n, ρ, h, rel, ev, Per.refl _, q⟩, ?_⟩
  rintro m σ' H' ⟨ρ, h, rel, ev, per, q⟩
  cases m with
  | zero => exact q.elim
  | succ m =>
    refine ⟨ρ, h, _, rel, ev, q, fun c h1 H1 q1 rel1 per1 => ?_⟩
    cases c with
    | true =>
      refine ⟨fun σ'' H'' => ∃ ρ h, Rel G h H'' ∧ EvR H'' ρ σ'' ∧ Per H H'' ∧ whileW t b E m ρ h, fun σ'' H'' w => ⟨m, by omega, w⟩, ρ, h1, _, rel1, ev.per per1, q1, ?_⟩
      have pp : Per H H1 := per.trans per1
      have stp : PostN G H1 (fun ρ2 h2 => ∃ h3, Sub h3 h2 ∧ whileW t b E m ρ2 h3) fun σ'' H'' => ∃ ρ h, Rel G h H'' ∧ EvR H'' ρ σ'' ∧ Per H H'' ∧ whileW t b E m ρ h :=
        fun ρ2 h2 σ2 H3 ⟨h3, sub, q3⟩ rel2 per2 ev2 => ⟨ρ2, h3, rel2.sub sub, ev2, pp.trans per2, q3⟩
      exact ⟨stp, post.rt.per pp, post.nx.per pp, stp⟩
    | false => exact post.nx ρ h1 σ' H1 q1 rel1 (per.trans per1) (ev.per per1)
end

/-! ### list comprehensions with one target -/
def lcW (chk : H3 → Prop) (i : Nat) (t : WT) (e : WE) (p : Addr) (ρ : Ev) (k : K1) : List D → H3 → Prop
  | [], h => chk h ∧ k (.ref p) h
  | x :: r, h => chk h ∧ t (ρ.set i (some x)) h fun b h1 => if b = true then e (ρ.set i (some x)) h1 fun d h2 => ∃ acc, h2 p = some (.lst acc) ∧ acc.length < 16777216 ∧ ∃ h3, Sub h3 (up h2 p (.lst (acc ++ [d]))) ∧ lcW chk i t e p ρ k r h3
      else ∃ h3, Sub h3 h1 ∧ lcW chk i t e p ρ k r h3
def wLc (it : WI) (i : Nat) (t : WT) (e : WE) : WE := fun ρ h k => it ρ h fun s h1 => ∀ p, h1 p = none → match s with
  | .fix l => lcW (fun _ => True) i t e p ρ k l (up h1 p (.lst []))
  | .lst a => ∃ l, h1 a = some (.lst l) ∧ lcW (fun h => h a = some (.lst l)) i t e p ρ k l (up h1 p (.lst []))
def wYes : WT := fun _ h k => k true h
theorem wipe_set {σ : L2.St} {i : Nat} {v : Option V} : wipe ((wipe σ [i]).set i v) [i] = wipe σ [i] := by
  show (((σ.set i none).set i v).set i none) = σ.set i none
  rw [List.set_set, List.set_set]
theorem EvR.wip {H : Hp} {ρ : Ev} {σ : L2.St} {d : D} {v : V} (e : EvR H ρ σ) (r : DV H d v) (i : Nat) : EvR H (ρ.set i (some d)) ((wipe σ [i]).set i (some v)) := by
  show EvR H (ρ.set i (some d)) ((σ.set i none).set i (some v))
  rw [List.set_set]
  exact e.set r i
theorem lc_ok {G : Sc} {J : It} {H1 : Hp} {s : Src} {i : Nat} {t : WT} {e : WE} {Q : VK} {k : K1} {l : List T3.D} {chk : H3 → Prop} {ρ : Ev} {h : H3} {σ : L2.St} {H0 : Hp} {p : Addr}
    (ok : ItOk G J H1 s) (p0 : Per H0 H1) (at_ : ∀ i h d, chk h → l[i]? = some d → s.at_ h i d) (done : ∀ i h, chk h → l.length ≤ i → s.done h i)
    (rel : Rel G h H1) (ev : EvR H1 ρ σ) (np : H1 p = none) (q : lcW chk i t e p ρ k l (up h p (.lst []))) (post : Post G H0 k Q) :
    ∃ W : Nat → Nat → Hp → Prop, (∃ m, W 0 m (upd H1 p (.lst []))) ∧ ∀ j m H, W j m H →
  (J.stop j H ∧ Q (.ref p) H) ∨ (J.go j H ∧ ∃ Nx : Hp → Prop, (∀ H', Nx H' → ∃ m', m' < m ∧ W (j + 1) m' H') ∧ ∀ x H', J.yld j H x H' → gName i x (wipe σ [i]) H' fun σ2 H2 => wipe σ2 [i] = wipe σ [i] ∧ tIT G t σ2 H2 fun b H3 =>
    if b = true then tI G e σ2 H3 fun y H4 => ∃ acc, H4 p = some (.lst acc) ∧ acc.length < sizeLine ∧ Nx (upd H4 p (.lst (acc ++ [y]))) else Nx H3) := by
  refine ⟨fun j m H => ∃ h, j + m = l.length ∧ Rel G h H ∧ Per H1 H ∧ lcW chk i t e p ρ k (l.drop j) h, ⟨l.length, _, by omega, rel.newLst np .nil, Per.new np, by simpa using q⟩, ?_⟩
  rintro j m H ⟨h, em, rel, per, q⟩
  by_cases hj : j < l.length
  · have e : l[j]? = some l[j] := List.getElem?_eq_getElem hj
    rw [List.drop_eq_getElem_cons hj] at q
    obtain ⟨hc, q⟩ := q
    have sat := at_ j h _ hc e
    refine .inr ⟨ok.go j H h _ per rel sat, fun H' => ∃ h, Rel G h H' ∧ Per H1 H' ∧ lcW chk i t _ p ρ k (l.drop (j + 1)) h, fun H' ⟨h', a, b, c⟩ => ⟨m - 1, by omega, h', by omega, a, b, c⟩, fun x H' y => ?_⟩
    obtain ⟨rel', per', dv⟩ := ok.yld j H h _ x H' per rel sat y
    refine ⟨wipe_set, ρ.set i (some l[j]), h, _, rel', (ev.per (per.trans per')).wip dv i, q, fun b h1 H2 q1 rel1 per1 => ?_⟩
    cases b with
    | true =>
      rw [if_pos rfl] at q1
      rw [if_pos rfl]
      refine ⟨ρ.set i (some l[j]), h1, _, rel1, (ev.per ((per.trans per').trans per1)).wip (dv.per per1) i, q1, fun d h2 v H3 q2 rel2 per2 dv2 => ?_⟩
      obtain ⟨acc, hacc, hz, h3, sub, q3⟩ := q2
      obtain ⟨vs, e1, r1⟩ := rel2.lst hacc
      refine ⟨vs, e1, by rw [← r1.length]; exact hz, h3, (rel2.setLst hacc (r1.append (.cons dv2 .nil))).sub sub, ?_, q3⟩
      exact ((per.trans per').trans per1).trans (per2.trans (Per.mut (rel2.mut hacc)))
    | false =>
      obtain ⟨h3, sub, q3⟩ := q1
      rw [if_neg Bool.false_ne_true]
      exact ⟨h3, rel1.sub sub, (per.trans per').trans per1, q3⟩
  · have e : l.drop j = [] := List.drop_eq_nil_iff.mpr (by omega)
    rw [e] at q
    obtain ⟨hc, q⟩ := q
    exact .inl ⟨ok.stop j H h per rel (done j h hc (by omega)), post _ h _ H q rel (p0.trans per) (.ref p)⟩
theorem lc_lift {G : Sc} {it : WI} {i : Nat} {t : WT} {e : WE} {σ : L2.St} {H : Hp} {Q : VK} (q : tI G (wLc it i t e) σ H Q) : tLc (tII G it) (gName i) (tIT G t) (tI G e) [i] σ H Q := by
  obtain ⟨ρ, h, k, rel, ev, q, post⟩ := q
  refine ⟨ρ, h, _, rel, ev, q, fun s J h1 H1 q1 rel1 per1 ok p np => ?_⟩
  have q1 := q1 p (rel1.none np)
  split at q1
  · exact lc_ok ok per1 (fun i h d _ e => e) (fun i h _ e => e) rel1 (ev.per per1) np q1 post
  · obtain ⟨l, hl, q1⟩ := q1
    exact lc_ok ok per1 (fun i h d c e => ⟨l, c, e⟩) (fun i h c e => ⟨l, c, e⟩) rel1 (ev.per per1) np q1 post
section
variable {X : Cx} {G : Sc} {elt iter c : Expr} {ifs : List Expr} {scope : Scope} {pos pos' : Pos} {it : WI} {t : WT} {e : WE} {x : Str}
theorem PTs.weak {ifs : List Expr} {t t' : TT} (h : PTs X ifs t) (w : ∀ σ H Q, t' σ H Q → t σ H Q) : PTs X ifs t' := ⟨fun pins s σ H Q I q => h.run pins s σ H Q I (w σ H Q q)⟩
theorem its_nil : PTs X [] (tIT G wYes) := PTs.weak pts_nil fun σ H Q ⟨ρ, h, k, rel, ev, q, post⟩ => post true h H q rel (Per.refl H)
theorem its_one (h : PT3 X G c t) : PTs X [c] (tIT G t) := pts_one h
theorem i_lc (i : Nat) (hc : X.calm = true) (hN : X.N.Nodup) (ok : BlkOk X.N X.env.scope scope [(x, i)]) (hi : PI3 X G (.Name x pos') iter it)
    (hg : ∀ (s : Shared) (H : Hp) (C : Addr) (cl : List (Str × Addr)) (fp : List Addr), PG (X.blk s H scope (compEnvC scope cl C X.env) fp) (.Name x pos') (gName i)) (ht : ∀ (s : Shared) (H : Hp) (C : Addr) (cl : List (Str × Addr)) (fp : List Addr), PTs (X.blk s H scope (compEnvC scope cl C X.env) fp) ifs (tIT G t))
    (he : ∀ (s : Shared) (H : Hp) (C : Addr) (cl : List (Str × Addr)) (fp : List Addr), PE (X.blk s H scope (compEnvC scope cl C X.env) fp) elt (tI G e)) (hs : ∀ x, foldedSetIterable iter X.env x = pure x := by intro _; rfl) :
    PE3 X G (.ListComp elt [⟨.Name x pos', iter, ifs, 0⟩] scope pos) (wLc it i t e) :=
  (pe_lc (own := [(x, i)]) hc hN hi ok hg ht he hs).weak fun σ H Q q => lc_lift q
theorem is_setLc (j : Nat) {y : Str} {py spos : Pos} (i : Nat) (hc : X.calm = true) (hN : X.N.Nodup) (hsw : swapsWith (.ListComp elt [⟨.Name x pos', iter, ifs, 0⟩] scope pos) (some (.Name y py)) spos.line X.env = pure true) (ok : BlkOk X.N X.env.scope scope [(x, i)]) (hi : PI3 X G (.Name x pos') iter it)
    (hg : ∀ (s : Shared) (H : Hp) (C : Addr) (cl : List (Str × Addr)) (fp : List Addr), PG (X.blk s H scope (compEnvC scope cl C X.env) fp) (.Name x pos') (gName i)) (ht : ∀ (s : Shared) (H : Hp) (C : Addr) (cl : List (Str × Addr)) (fp : List Addr), PTs (X.blk s H scope (compEnvC scope cl C X.env) fp) ifs (tIT G t))
    (he : ∀ (s : Shared) (H : Hp) (C : Addr) (cl : List (Str × Addr)) (fp : List Addr), PE (X.blk s H scope (compEnvC scope cl C X.env) fp) elt (tI G e)) (hs : ∀ x, foldedSetIterable iter X.env x = pure x := by intro _; rfl)
    (hy : X.N[j]? = some y := by rfl) (hyl : X.env.scope.names.lookup y = some .local := by rfl) :
    PS3 X G (.Assign [.Name y py] (.ListComp elt [⟨.Name x pos', iter, ifs, 0⟩] scope pos) spos) (wAsg (wLc it i t e) (gN j)) := by
  refine (ps_setLc (i := j) (own := [(x, i)]) hc hN hy hyl hsw hi ok hg ht he hs).weak fun D σ H ⟨ρ, h, E, rel, ev, q, post⟩ => ?_
  refine lc_lift ⟨ρ, h, _, rel, ev, q, fun d h1 v H1 q1 rel1 per1 dv1 => ?_⟩
  exact post.nx _ _ _ _ q1 rel1 per1 ((ev.per per1).set dv1 j)
end
end T3
end
-- T3Call
section
set_option maxRecDepth 100000
set_option maxHeartbeats 4000000
/-! T3Call: dicts, isinstance, chains, fields, calls of defs, the rule for a def. -/
namespace T3
open PySem PySem.Spec PyProof.Rows L2

/-! ### dicts -/
section
variable {κ : Type} [DecidableEq κ]
def valD (kvs : List (κ × D)) (k : κ) : Option D := (kvs.find? fun kv => decide (kv.1 = k)).map (·.2)
def putD (kvs : List (κ × D)) (k : κ) (v : D) : List (κ × D) :=
  if (kvs.any fun kv => decide (kv.1 = k)) = true then kvs.map (fun kv => if kv.1 = k then (kv.1, v) else kv) else kvs ++ [(k, v)]
def dropD (kvs : List (κ × D)) (k : κ) : List (κ × D) := kvs.filter fun kv => decide (kv.1 ≠ k)
theorem valD_nil {k : κ} : valD ([] : List (κ × D)) k = none := rfl
theorem valD_cons {a : κ} {v : D} {r : List (κ × D)} {k : κ} : valD ((a, v) :: r) k = if a = k then some v else valD r k := by
  unfold valD
  by_cases h : a = k
  · simp [h]
  · simp [h]
theorem valD_any (k : κ) : ∀ kvs : List (κ × D), (kvs.any fun kv => decide (kv.1 = k)) = (valD kvs k).isSome
  | [] => rfl
  | (a, v) :: r => by
    rw [valD_cons, List.any_cons, valD_any k r]
    by_cases h : a = k <;> simp [h]
theorem valD_put (k j : κ) (v : D) : ∀ kvs : List (κ × D), valD (putD kvs k v) j = if j = k then some v else valD kvs j := by
  have m : ∀ kvs : List (κ × D), valD (kvs.map fun kv => if kv.1 = k then (kv.1, v) else kv) j = if j = k then (valD kvs k).map (fun _ => v) else valD kvs j := by
    intro kvs
    induction kvs with
    | nil => simp [valD_nil]
    | cons p r ih =>
      obtain ⟨a, w⟩ := p
      rw [List.map_cons]
      by_cases h : a = k
      · subst h
        rw [if_pos rfl, valD_cons, valD_cons, valD_cons, ih]
        by_cases hj : j = a
        · subst hj; simp
        · simp [hj, Ne.symm hj]
      · rw [if_neg h, valD_cons, valD_cons, valD_cons, ih]
        by_cases hj : j = k
        · subst hj; simp [h]
        · simp [hj]
  have s : ∀ kvs : List (κ × D), valD kvs k = none → valD (kvs ++ [(k, v)]) j = if j = k then some v else valD kvs j := by
    intro kvs
    induction kvs with
    | nil =>
      intro _
      rw [List.nil_append, valD_cons, valD_nil]
      by_cases hj : j = k
      · subst hj; simp
      · simp [hj, Ne.symm hj]
    | cons p r ih =>
      obtain ⟨a, w⟩ := p
      intro h
      rw [valD_cons] at h
      by_cases ha : a = k
      · rw [if_pos ha] at h; cases h
      · rw [if_neg ha] at h
        rw [List.cons_append, valD_cons, valD_cons, ih h]
        by_cases hj : j = k
        · subst hj; simp [ha]
        · simp [hj]
  intro kvs
  unfold putD
  rw [valD_any]
  by_cases h : (valD kvs k).isSome = true
  · rw [if_pos h, m]
    obtain ⟨x, e⟩ := Option.isSome_iff_exists.mp h
    rw [e]; rfl
  · rw [if_neg h]
    exact s kvs (by simpa using h)
theorem valD_drop (k j : κ) : ∀ kvs : List (κ × D), valD (dropD kvs k) j = if j = k then none else valD kvs j
  | [] => by simp [dropD, valD_nil]
  | (a, v) :: r => by
    have ih := valD_drop k j r
    unfold dropD at ih ⊢
    rw [List.filter_cons]
    by_cases h : a = k
    · subst h
      rw [if_neg (by simp), ih, valD_cons]
      by_cases hj : j = a
      · simp [hj]
      · simp [hj, Ne.symm hj]
    · rw [if_pos (by simpa using h), valD_cons, valD_cons, ih]
      by_cases hj : j = k
      · subst hj; simp [h]
      · simp [hj]
theorem KVs.val {H : Hp} (k : κ) : ∀ {kvs : List (κ × D)} {vs : List (κ × V)}, KVs H kvs vs → (valD kvs k = none ∧ valV vs k = none) ∨ ∃ d v, valD kvs k = some d ∧ valV vs k = some v ∧ DV H d v
  | [], _, h => by cases h; exact .inl ⟨rfl, rfl⟩
  | (a, d) :: r, _, h => by
    cases h with
    | cons z t =>
      obtain ⟨e, dv⟩ := z
      rename_i p ps
      obtain ⟨b, v⟩ := p
      have e' : a = b := e
      subst e'
      rw [valD_cons]
      by_cases h : a = k
      · exact .inr ⟨d, v, by rw [if_pos h], by rw [valV_pos (p := (a, v)) h], dv⟩
      · rw [if_neg h, valV_neg (p := (a, v)) h]
        exact KVs.val k t
theorem KVs.any {H : Hp} (k : κ) {kvs : List (κ × D)} {vs : List (κ × V)} (r : KVs H kvs vs) : (kvs.any fun kv => decide (kv.1 = k)) = vs.any fun kv => decide (kv.1 = k) := by
  rw [valD_any, valV_any]
  rcases r.val k with ⟨a, b⟩ | ⟨d, v, a, b, _⟩ <;> rw [a, b] <;> rfl
theorem KVs.length {H : Hp} {kvs : List (κ × D)} {vs : List (κ × V)} (r : KVs H kvs vs) : kvs.length = vs.length := Paired.length r
theorem KVs.app {H : Hp} : ∀ {l m : List (κ × D)} {vs ws : List (κ × V)}, KVs H l vs → KVs H m ws → KVs H (l ++ m) (vs ++ ws)
  | [], _, _, _, h, s => by cases h; exact s
  | _ :: _, _, _, _, h, s => by
    cases h with
    | cons r t => exact .cons r (KVs.app t s)
theorem KVs.repl {H : Hp} (k : κ) {d : D} {v : V} (dv : DV H d v) : ∀ {kvs : List (κ × D)} {vs : List (κ × V)}, KVs H kvs vs → KVs H (kvs.map fun kv => if kv.1 = k then (kv.1, d) else kv) (vs.map fun kv => if kv.1 = k then (kv.1, v) else kv)
  | [], _, h => by cases h; exact .nil
  | (a, x) :: r, _, h => by
    cases h with
    | cons z t =>
      obtain ⟨e, dz⟩ := z
      rename_i p ps
      obtain ⟨b, y⟩ := p
      have e' : a = b := e
      subst e'
      rw [List.map_cons, List.map_cons]
      by_cases h : a = k
      · rw [if_pos h, if_pos h]; exact .cons ⟨rfl, dv⟩ (KVs.repl k dv t)
      · rw [if_neg h, if_neg h]; exact .cons ⟨rfl, dz⟩ (KVs.repl k dv t)
theorem KVs.put {H : Hp} (k : κ) {d : D} {v : V} (dv : DV H d v) {kvs : List (κ × D)} {vs : List (κ × V)} (r : KVs H kvs vs) : KVs H (putD kvs k d) (putK vs k v) := by
  unfold putD putK
  rw [r.any k]
  split
  · exact r.repl k dv
  · exact r.app (.cons ⟨rfl, dv⟩ .nil)
theorem KVs.drop {H : Hp} (k : κ) : ∀ {kvs : List (κ × D)} {vs : List (κ × V)}, KVs H kvs vs → KVs H (dropD kvs k) (dropK vs k)
  | [], _, h => by cases h; exact .nil
  | (a, x) :: r, _, h => by
    cases h with
    | cons z t =>
      obtain ⟨e, dz⟩ := z
      rename_i p ps
      obtain ⟨b, y⟩ := p
      have e' : a = b := e
      subst e'
      have ih := KVs.drop k t
      unfold dropD dropK at ih ⊢
      rw [List.filter_cons, List.filter_cons]
      by_cases h : a = k
      · rw [if_neg (by simp [h]), if_neg (by simp [h])]; exact ih
      · rw [if_pos (by simpa using h), if_pos (by simpa using h)]; exact .cons ⟨rfl, dz⟩ ih
end
def kD : Key → D
  | .inl i => .int i
  | .inr x => .str x
def keyOf : D → Option Key
  | .int i => some (.inl i)
  | .str x => some (.inr x)
  | _ => none
@[simp] theorem keyOf_int {i : Int} : keyOf (.int i) = some (.inl i) := rfl
@[simp] theorem keyOf_str {i : Str} : keyOf (.str i) = some (.inr i) := rfl
def keysL : List D → Option (List Key)
  | [] => some []
  | d :: l => match keyOf d, keysL l with
    | some k, some ks => some (k :: ks)
    | _, _ => none
def keysOf : D → Option (List Key)
  | .tup l => keysL l
  | _ => none
theorem key_v {H : Hp} {d : D} {v : V} {k : Key} (r : DV H d v) (e : keyOf d = some k) : v = kV k := by
  cases r <;> first | (cases e; done) | (cases e; rfl)
theorem keys_v {H : Hp} : ∀ {l : List D} {vs : List V} {ks : List Key}, DVs H l vs → keysL l = some ks → vs = ks.map kV
  | [], _, _, h, e => by cases h; cases e; rfl
  | d :: l, _, ks, h, e => by
    cases h with
    | cons r t =>
      unfold keysL at e
      cases q1 : keyOf d with
      | none => rw [q1] at e; cases e
      | some k =>
        rw [q1] at e
        cases q2 : keysL l with
        | none => rw [q2] at e; cases e
        | some ks' =>
          rw [q2] at e
          cases e
          rw [key_v r q1, keys_v t q2]; rfl
/-- what the dict at a holds at y -/
def DG (h : H3) (a : Addr) (y : D) (o : Option D) : Prop :=
  (∃ kvs k, h a = some (.dK kvs) ∧ keyOf y = some k ∧ o = valD kvs k) ∨ ∃ kvs k, h a = some (.dT kvs) ∧ keysOf y = some k ∧ o = valD kvs k
/-- .. behind a store -/
def DPt (h : H3) (a : Addr) (y v : D) (h' : H3) : Prop :=
  (∃ kvs k, h a = some (.dK kvs) ∧ keyOf y = some k ∧ kvs.length < 16777216 ∧ h' = up h a (.dK (putD kvs k v))) ∨
  ∃ kvs k, h a = some (.dT kvs) ∧ keysOf y = some k ∧ kvs.length < 16777216 ∧ h' = up h a (.dT (putD kvs k v))
theorem Rel.dK {G : Sc} {h : H3} {H : Hp} {a : Addr} {kvs : List (Key × D)} (r : Rel G h H) (e : h a = some (.dK kvs)) : ∃ vs, H a = some (.dK vs) ∧ KVs H kvs vs := r.at_ _ _ e
theorem Rel.dT {G : Sc} {h : H3} {H : Hp} {a : Addr} {kvs : List (List Key × D)} (r : Rel G h H) (e : h a = some (.dT kvs)) : ∃ vs, H a = some (.dT vs) ∧ KVs H kvs vs := r.at_ _ _ e
theorem keysOf_v {H : Hp} {y : D} {v : V} {k : List Key} (r : DV H y v) (e : keysOf y = some k) : ∃ b, v = .ref b ∧ H b = some (.tup (k.map kV)) := by
  cases r with
  | tup q t => exact ⟨_, rfl, by rw [q, keys_v t e]⟩
  | _ => cases e
theorem DG.to {G : Sc} {h : H3} {H : Hp} {a : Addr} {y : D} {v : V} {o : Option D} (rel : Rel G h H) (r : DV H y v) (g : DG h a y o) :
    ∃ o', DGet H a v o' ∧ ((o = none ∧ o' = none) ∨ ∃ d w, o = some d ∧ o' = some w ∧ DV H d w) := by
  rcases g with ⟨kvs, k, ha, ek, rfl⟩ | ⟨kvs, k, ha, ek, rfl⟩
  · obtain ⟨vs, e, kv⟩ := rel.dK ha
    exact ⟨valV vs k, .inl ⟨vs, k, .inl e, key_v r ek, rfl⟩, kv.val k⟩
  · obtain ⟨vs, e, kv⟩ := rel.dT ha
    obtain ⟨b, rfl, hb⟩ := keysOf_v r ek
    exact ⟨valV vs k, .inr ⟨vs, k, b, .inl e, rfl, hb, rfl⟩, kv.val k⟩
theorem DPt.to {G : Sc} {h h' : H3} {H : Hp} {a : Addr} {y d : D} {v w : V} (rel : Rel G h H) (ry : DV H y v) (rd : DV H d w) (g : DPt h a y d h') :
    ∃ H', DPut H a v w H' ∧ Rel G h' H' ∧ Per H H' := by
  rcases g with ⟨kvs, k, ha, ek, hz, rfl⟩ | ⟨kvs, k, ha, ek, hz, rfl⟩
  · obtain ⟨vs, e, kv⟩ := rel.dK ha
    refine ⟨_, .inl ⟨vs, k, e, key_v ry ek, by rw [← kv.length]; exact hz, rfl⟩, rel.write ha ⟨_, upd_same, ?_⟩, Per.mut (rel.mut ha)⟩
    exact (kv.put k rd).per (Per.mut (rel.mut ha))
  · obtain ⟨vs, e, kv⟩ := rel.dT ha
    obtain ⟨b, rfl, hb⟩ := keysOf_v ry ek
    refine ⟨_, .inr ⟨vs, k, b, e, rfl, hb, by rw [← kv.length]; exact hz, rfl⟩, rel.write ha ⟨_, upd_same, ?_⟩, Per.mut (rel.mut ha)⟩
    exact (kv.put k rd).per (Per.mut (rel.mut ha))
def rDGet : D → D → H3 → K1 → Prop := fun x y h k => ∃ a v, x = .ref a ∧ DG h a y (some v) ∧ k v h
def rDIn (neg : Bool) : D → D → H3 → K1 → Prop := fun y x h k => ∃ a o, x = .ref a ∧ DG h a y o ∧ k (.bl (o.isSome != neg)) h
section
variable {X : Cx} {G : Sc} {a b c e : Expr} {f g t3 : WE} {pos apos cpos : Pos}
theorem i_dget (hu : X.A.units + 1 < cLine) (ho : PE3 X G a f) (hi : PE3 X G b g) (hs : NoSl b := by exact fun _ _ => rfl) : PE3 X G (.Subscript a b pos) (w2 rDGet f g) := by
  refine (pe_dget hu ho hi hs).weak fun σ H Q q => lift2 (R := fun x y H2 Q => ∃ a v, x = .ref a ∧ DGet H2 a y (some v) ∧ Q v H2) (fun d e x y h H k Q rel dx dy ⟨a, v, ed, g, q⟩ post => ?_) q
  subst ed
  cases dx
  obtain ⟨o', g', r⟩ := g.to rel dy
  rcases r with ⟨z, _⟩ | ⟨d, w, e1, rfl, dv⟩
  · cases z
  · cases e1
    exact ⟨a, w, rfl, g', post _ _ _ _ q rel (Per.refl H) dv⟩
theorem i_din (hu : X.A.units + 1 < cLine) (hi : PE3 X G a f) (ho : PE3 X G b g) (h1 : behindInMarks .In b = false := by rfl) : PE3 X G (.Compare a [.In] [b] pos) (w2 (rDIn false) f g) := by
  refine (pe_cmp (pc_din hu hi ho) h1).weak fun σ H Q q => lift2 (f := f) (g := g) (R := fun y x H2 Q => ∃ a o, x = .ref a ∧ DGet H2 a y o ∧ Q (.bl o.isSome) H2) (fun d e x y h H k Q rel dx dy ⟨a, o, ed, g, q⟩ post => ?_) q
  subst ed
  cases dy
  obtain ⟨o', g', r⟩ := g.to rel dx
  refine ⟨a, o', rfl, g', post_bl post rel ?_⟩
  rcases r with ⟨rfl, rfl⟩ | ⟨d, w, rfl, rfl, dv⟩ <;> simpa using q
theorem i_dnotin (hu : X.A.units + 1 < cLine) (hi : PE3 X G a f) (ho : PE3 X G b g) (h1 : behindInMarks .NotIn b = false := by rfl) : PE3 X G (.Compare a [.NotIn] [b] pos) (w2 (rDIn true) f g) := by
  refine (pe_cmp (pc_dnotin hu hi ho) h1).weak fun σ H Q q => lift2 (f := f) (g := g) (R := fun y x H2 Q => ∃ a o, x = .ref a ∧ DGet H2 a y o ∧ Q (.bl (!o.isSome)) H2) (fun d e x y h H k Q rel dx dy ⟨a, o, ed, g, q⟩ post => ?_) q
  subst ed
  cases dy
  obtain ⟨o', g', r⟩ := g.to rel dx
  refine ⟨a, o', rfl, g', post_bl post rel ?_⟩
  rcases r with ⟨rfl, rfl⟩ | ⟨d, w, rfl, rfl, dv⟩ <;> simpa using q
def wDPut (v o i : WE) : WS := fun E ρ h => v ρ h fun d h1 => o ρ h1 fun x h2 => i ρ h2 fun y h3 => ∃ a h4, x = .ref a ∧ DPt h3 a y d h4 ∧ E.nx ρ h4
theorem is_dput {pos' : Pos} (hu : X.A.units + 1 < cLine) (hv : PE3 X G c t3) (ho : PE3 X G a f) (hi : PE3 X G b g) (hs : swapsWith c (some (.Subscript a b pos')) pos.line X.env = pure false := by rfl) : PS3 X G (.Assign [.Subscript a b pos'] c pos) (wDPut t3 f g) := by
  refine (ps_dput hu ho hi hv hs).weak fun D σ H ⟨ρ, h, E, rel, ev, q, post⟩ => ?_
  refine ⟨ρ, h, _, rel, ev, q, fun d h1 v H1 q1 rel1 per1 dv1 => ⟨ρ, h1, _, rel1, ev.per per1, q1, fun x h2 xv H2 q2 rel2 per2 dv2 => ⟨ρ, h2, _, rel2, ev.per (per1.trans per2), q2, fun y h3 yv H3 q3 rel3 per3 dv3 => ?_⟩⟩⟩
  obtain ⟨a, h4, rfl, g, q3⟩ := q3
  cases dv2
  obtain ⟨H4, p, rel4, per4⟩ := g.to rel3 dv3 (dv1.per (per2.trans per3))
  have pp := per1.trans (per2.trans (per3.trans per4))
  exact ⟨a, H4, rfl, p, post.nx _ _ _ _ q3 rel4 pp (ev.per pp)⟩
/-- {} -/
def wDNewK : WE := fun _ h k => ∀ p, h p = none → k (.ref p) (up h p (.dK []))
def wDNewT : WE := fun _ h k => ∀ p, h p = none → k (.ref p) (up h p (.dT []))
theorem i_dnewK : PE3 X G (.Dict [] [] pos) wDNewK := pe_dnewK.weak fun σ H Q ⟨ρ, h, k, rel, ev, q, post⟩ p np =>
  post _ _ _ _ (q p (rel.none np)) (rel.new np ⟨[], upd_same, .nil⟩) (Per.new np) (.ref p)
theorem i_dnewT : PE3 X G (.Dict [] [] pos) wDNewT := pe_dnewT.weak fun σ H Q ⟨ρ, h, k, rel, ev, q, post⟩ p np =>
  post _ _ _ _ (q p (rel.none np)) (rel.new np ⟨[], upd_same, .nil⟩) (Per.new np) (.ref p)
/-- d.get(y), d.get(y, z): the dict, the arguments -/
def IsD3 (h : H3) (a : Addr) : Prop := (∃ kvs, h a = some (.dK kvs)) ∨ ∃ kvs, h a = some (.dT kvs)
theorem IsD3.to {h : H3} {H : Hp} {a : Addr} (d : IsD3 h a) (rel : Rel G h H) : IsD H a := by
  rcases d with ⟨kvs, e⟩ | ⟨kvs, e⟩
  · obtain ⟨vs, e, _⟩ := rel.dK e; exact .inl ⟨vs, .inl e⟩
  · obtain ⟨vs, e, _⟩ := rel.dT e; exact .inr ⟨vs, .inl e⟩
def wDGet1 (o i : WE) : WE := fun ρ h k => o ρ h fun x h1 => ∃ a, x = .ref a ∧ IsD3 h1 a ∧ i ρ h1 fun y h2 => ∃ o, DG h2 a y o ∧ k (o.getD .non) h2
def wDGet2 (o i z : WE) : WE := fun ρ h k => o ρ h fun x h1 => ∃ a, x = .ref a ∧ IsD3 h1 a ∧ i ρ h1 fun y h2 => z ρ h2 fun d h3 => ∃ o, DG h3 a y o ∧ k (o.getD d) h3
def wDPop (o i : WE) : WE := fun ρ h k => o ρ h fun x h1 => ∃ a, x = .ref a ∧ IsD3 h1 a ∧ i ρ h1 fun y h2 => ∃ kvs q v, h2 a = some (.dK kvs) ∧ keyOf y = some q ∧ valD kvs q = some v ∧ k v (up h2 a (.dK (dropD kvs q)))
def wDSetd (o i z : WE) : WE := fun ρ h k => o ρ h fun x h1 => ∃ a, x = .ref a ∧ IsD3 h1 a ∧ i ρ h1 fun y h2 => z ρ h2 fun d h3 => ∃ kvs q, h3 a = some (.dK kvs) ∧ keyOf y = some q ∧ kvs.length < 16777216 ∧
  (∀ v, valD kvs q = some v → k v h3) ∧ (valD kvs q = none → k d (up h3 a (.dK (putD kvs q d))))
theorem i_dget1 (hu : X.A.units + 1 < cLine) (ho : PE3 X G a f) (hi : PE3 X G b g) (m : M1 X a "get" apos b cpos := by exact ⟨rfl, rfl, rfl, rfl⟩) : PE3 X G (.Call (.Attribute a "get" apos) [b] [] cpos) (wDGet1 f g) := by
  refine (pe_dget1 hu ho hi m).weak fun σ H Q ⟨ρ, h, k, rel, ev, q, post⟩ => ?_
  refine ⟨ρ, h, _, rel, ev, q, fun x h1 v H1 q1 rel1 per1 dv1 => ?_⟩
  obtain ⟨a, rfl, isd, q1⟩ := q1
  cases dv1
  refine ⟨a, rfl, isd.to rel1, ρ, h1, _, rel1, ev.per per1, q1, fun y h2 yv H2 q2 rel2 per2 dv2 => ?_⟩
  obtain ⟨o, g, q2⟩ := q2
  obtain ⟨o', g', r⟩ := g.to rel2 dv2
  refine ⟨o', g', post _ _ _ _ q2 rel2 (per1.trans per2) ?_⟩
  rcases r with ⟨rfl, rfl⟩ | ⟨d, w, rfl, rfl, dv⟩
  · exact .non
  · exact dv
theorem i_dget2 (hu : X.A.units + 1 < cLine) (ho : PE3 X G a f) (hi : PE3 X G b g) (hz : PE3 X G c t3) (m : M2 X a "get" apos b c cpos := by exact ⟨rfl, rfl, rfl, rfl⟩) : PE3 X G (.Call (.Attribute a "get" apos) [b, c] [] cpos) (wDGet2 f g t3) := by
  refine (pe_dget2 hu ho hi hz m).weak fun σ H Q ⟨ρ, h, k, rel, ev, q, post⟩ => ?_
  refine ⟨ρ, h, _, rel, ev, q, fun x h1 v H1 q1 rel1 per1 dv1 => ?_⟩
  obtain ⟨a, rfl, isd, q1⟩ := q1
  cases dv1
  refine ⟨a, rfl, isd.to rel1, ρ, h1, _, rel1, ev.per per1, q1, fun y h2 yv H2 q2 rel2 per2 dv2 => ⟨ρ, h2, _, rel2, ev.per (per1.trans per2), q2, fun z h3 zv H3 q3 rel3 per3 dv3 => ?_⟩⟩
  obtain ⟨o, g, q3⟩ := q3
  obtain ⟨o', g', r⟩ := g.to rel3 (dv2.per per3)
  refine ⟨o', g', post _ _ _ _ q3 rel3 (per1.trans (per2.trans per3)) ?_⟩
  rcases r with ⟨rfl, rfl⟩ | ⟨d, w, rfl, rfl, dv⟩
  · exact dv3
  · exact dv
theorem i_dpop (ho : PE3 X G a f) (hi : PE3 X G b g) (m : M1 X a "pop" apos b cpos := by exact ⟨rfl, rfl, rfl, rfl⟩) : PE3 X G (.Call (.Attribute a "pop" apos) [b] [] cpos) (wDPop f g) := by
  refine (pe_dpop1 ho hi m).weak fun σ H Q ⟨ρ, h, k, rel, ev, q, post⟩ => ?_
  refine ⟨ρ, h, _, rel, ev, q, fun x h1 v H1 q1 rel1 per1 dv1 => ?_⟩
  obtain ⟨a, rfl, isd, q1⟩ := q1
  cases dv1
  refine ⟨a, rfl, isd.to rel1, ρ, h1, _, rel1, ev.per per1, q1, fun y h2 yv H2 q2 rel2 per2 dv2 => ?_⟩
  obtain ⟨kvs, q, v, ha, ek, ev', q2⟩ := q2
  obtain ⟨vs, e, kv⟩ := rel2.dK ha
  rcases kv.val q with ⟨z, _⟩ | ⟨d, w, e1, e2, dv⟩
  · rw [ev'] at z; cases z
  · rw [ev'] at e1; cases e1
    have pm := Per.mut (o := .dK (dropK vs q)) (rel2.mut ha)
    exact ⟨vs, q, w, e, key_v dv2 ek, e2, post _ _ _ _ q2 (rel2.write ha ⟨_, upd_same, (kv.drop q).per pm⟩) ((per1.trans per2).trans pm) (dv.per pm)⟩
theorem i_dsetd (ho : PE3 X G a f) (hi : PE3 X G b g) (hz : PE3 X G c t3) (m : M2 X a "setdefault" apos b c cpos := by exact ⟨rfl, rfl, rfl, rfl⟩) : PE3 X G (.Call (.Attribute a "setdefault" apos) [b, c] [] cpos) (wDSetd f g t3) := by
  refine (pe_dsetd ho hi hz m).weak fun σ H Q ⟨ρ, h, k, rel, ev, q, post⟩ => ?_
  refine ⟨ρ, h, _, rel, ev, q, fun x h1 v H1 q1 rel1 per1 dv1 => ?_⟩
  obtain ⟨a, rfl, isd, q1⟩ := q1
  cases dv1
  refine ⟨a, rfl, isd.to rel1, ρ, h1, _, rel1, ev.per per1, q1, fun y h2 yv H2 q2 rel2 per2 dv2 => ⟨ρ, h2, _, rel2, ev.per (per1.trans per2), q2, fun z h3 zv H3 q3 rel3 per3 dv3 => ?_⟩⟩
  obtain ⟨kvs, q, ha, ek, hl, q3, q4⟩ := q3
  obtain ⟨vs, e, kv⟩ := rel3.dK ha
  refine ⟨vs, q, e, key_v (dv2.per per3) ek, by rw [← kv.length]; exact hl, fun w hw => ?_, fun hn => ?_⟩
  · rcases kv.val q with ⟨_, z⟩ | ⟨d, w', e1, e2, dv⟩
    · rw [hw] at z; cases z
    · rw [hw] at e2; cases e2
      exact post _ _ _ _ (q3 d e1) rel3 (per1.trans (per2.trans per3)) dv
  · rcases kv.val q with ⟨z, _⟩ | ⟨d, w', e1, e2, dv⟩
    · have pm := Per.mut (o := .dK (putK vs q zv)) (rel3.mut ha)
      exact post _ _ _ _ (q4 z) (rel3.write ha ⟨_, upd_same, (kv.put q dv3).per pm⟩) ((per1.trans (per2.trans per3)).trans pm) (dv3.per pm)
    · rw [hn] at e2; cases e2

/-! ### isinstance of one written class -/
inductive Ty where
  | int | bool | str | tuple | list
def Ty.name : Ty → String
  | .int => "int" | .bool => "bool" | .str => "str" | .tuple => "tuple" | .list => "list"
def D.isTy : D → Ty → Bool
  | .int _, .int => true
  | .bl _, .int => true
  | .bl _, .bool => true
  | .str _, .str => true
  | .tup _, .tuple => true
  | _, _ => false
def rIsi (T : Ty) : D → H3 → K1 → Prop := fun x h k => match x with
  | .ref a => ((∃ l, h a = some (.lst l)) ∧ k (.bl (match T with | .list => true | _ => false)) h) ∨ (IsD3 h a ∧ k (.bl false) h)
  | x => k (.bl (x.isTy T)) h
theorem isi_kit {K : PySem.W.Frag} {H : Hp} {d : D} {v : V} (T : Ty) (r : DV H d v) (h : ∀ a, d ≠ .ref a) : ∃ t, TyX K H v t ∧ PySem.W.kitOne K t (.type T.name) = some (d.isTy T) := by
  cases r with
  | non => cases T <;> exact ⟨_, .base .non, kit_ty (by first | (show kitB _ _ = some true; decide +kernel) | (show kitB _ _ = some false; decide +kernel))⟩
  | bl b => cases T <;> exact ⟨_, .base (.bl b), kit_ty (by first | (show kitB _ _ = some true; decide +kernel) | (show kitB _ _ = some false; decide +kernel))⟩
  | int b => cases T <;> exact ⟨_, .base (.int b), kit_ty (by first | (show kitB _ _ = some true; decide +kernel) | (show kitB _ _ = some false; decide +kernel))⟩
  | str b => cases T <;> exact ⟨_, .base (.str b), kit_ty (by first | (show kitB _ _ = some true; decide +kernel) | (show kitB _ _ = some false; decide +kernel))⟩
  | tup e _ => cases T <;> exact ⟨_, .base (.tup e), kit_ty (by first | (show kitB _ _ = some true; decide +kernel) | (show kitB _ _ = some false; decide +kernel))⟩
  | ref a => exact absurd rfl (h a)
theorem i_isi (T : Ty) {x y : Str} {p p2 : Pos} (hg : Gl X x) (hm : X.mg x = none) (hv : bootBuiltins x = some (.builtin "isinstance")) (hgy : Gl X y) (hmy : X.mg y = none) (hvy : bootBuiltins y = some (.type T.name)) (ha : PE3 X G a f)
    (hn : x ≠ "__name__" := by decide) (hdb : (x == ("__debug__" : Str)) = false := by decide) (hny : y ≠ "__name__" := by decide) (hdy : (y == ("__debug__" : Str)) = false := by decide)
    (hs1 : starEach [a, .Name y p2] X.env = (false, eval a X.env) :: starEach [.Name y p2] X.env := by rfl) (hs2 : starEach [.Name y p2] X.env = (false, eval (.Name y p2) X.env) :: starEach [] X.env := by rfl)
    (hpl : (backTo pos (starEach [.Name y p2] X.env)).any (·.1) = false := by rfl) : PE3 X G (.Call (.Name x p) [a, .Name y p2] [] pos) (w1 (rIsi T) f) := by
  have hy : PE X (.Name y p2) (tC (.ty T.name)) := pe_bltn hgy hmy hvy rfl hny hdy
  refine (pe_callB call_isi hg hm hv (pa_cons ha (pa_cons hy pa_nil hs2) hs1) hn hdb hs1 hpl).weak fun σ H Q q => ?_
  refine lift1 (f := f) (R := fun v H1 Q => L2.rIsi X.K [v, .ty T.name] H1 Q) (fun d x h H k Q rel dx q post => ?_) q
  unfold rIsi at q
  split at q
  · cases dx
    rcases q with ⟨⟨l, hl⟩, q⟩ | ⟨d, q⟩
    · obtain ⟨vs, e, _⟩ := rel.lst hl
      refine ⟨_, _, _, .type T.name, _, rfl, .ty _, .base (.lst e), ?_, post_bl post rel q⟩
      cases T <;> exact kit_ty (by decide +kernel)
    · rcases d with ⟨kvs, e⟩ | ⟨kvs, e⟩
      · obtain ⟨vs, e, _⟩ := rel.dK e
        refine ⟨_, _, _, .type T.name, _, rfl, .ty _, .base (.dK e), ?_, post_bl post rel q⟩
        cases T <;> exact kit_ty (by decide +kernel)
      · obtain ⟨vs, e, _⟩ := rel.dT e
        refine ⟨_, _, _, .type T.name, _, rfl, .ty _, .base (.dT e), ?_, post_bl post rel q⟩
        cases T <;> exact kit_ty (by decide +kernel)
  · rename_i hno
    obtain ⟨t, ty, e⟩ := isi_kit (K := X.K) T dx (fun a z => hno a z)
    exact ⟨_, _, t, .type T.name, _, rfl, .ty _, ty, e, post_bl post rel q⟩
end
end T3
end
-- T3Def
section
set_option maxRecDepth 100000
set_option maxHeartbeats 4000000
/-! T3Def: chains, fields, augmented stores, calls of defs and methods, the rule for a def. -/
namespace T3
open PySem PySem.Spec PyProof.Rows L2

/-! ### a op b op c -/
def wChain (r r' : D → D → H3 → K1 → Prop) (a b c : WE) : WE := fun ρ h k => a ρ h fun x h1 => b ρ h1 fun y h2 => r x y h2 fun z h3 => ∃ q, z = .bl q ∧
  (if q = true then c ρ h3 fun w h4 => r' y w h4 k else k (.bl false) h3)
section
variable {X : Cx} {G : Sc} {a b c e o value : Expr} {es : List Expr} {f g t3 : WE} {l : WA} {pos pos' tpos apos cpos : Pos}
theorem chain_lift {op op' : CmpOp} {r r' : D → D → H3 → K1 → Prop} (rf : Rf2 G (U2 X (compareOp op)) r) (rf' : Rf2 G (U2 X (compareOp op')) r') {σ : L2.St} {H : Hp} {Q : VK} (q : tI G (wChain r r' f g t3) σ H Q) :
    tChain (U2 X (compareOp op)) (U2 X (compareOp op')) (tI G f) (tI G g) (tI G t3) σ H Q := by
  obtain ⟨ρ, h, k, rel, ev, q, post⟩ := q
  refine ⟨ρ, h, _, rel, ev, q, fun x h1 xv H1 q1 rel1 per1 dv1 => ⟨ρ, h1, _, rel1, ev.per per1, q1, fun y h2 yv H2 q2 rel2 per2 dv2 => ?_⟩⟩
  refine rf x y xv yv h2 H2 _ _ rel2 (dv1.per per2) dv2 q2 fun z h3 zv H3 q3 rel3 per3 dv3 => ?_
  obtain ⟨qq, rfl, q3⟩ := q3
  cases dv3
  refine ⟨qq, rfl, ?_⟩
  cases qq with
  | true =>
    rw [if_pos rfl] at q3 ⊢
    refine ⟨ρ, h3, _, rel3, ev.per (per1.trans (per2.trans per3)), q3, fun w h4 wv H4 q4 rel4 per4 dv4 => ?_⟩
    exact rf' y w yv wv h4 H4 _ _ rel4 (dv2.per (per3.trans per4)) dv4 q4 (post.per (per1.trans (per2.trans (per3.trans per4))))
  | false =>
    rw [if_neg Bool.false_ne_true] at q3 ⊢
    exact post _ _ _ _ q3 rel3 (per1.trans (per2.trans per3)) (.bl false)
theorem i_chain {op op' : CmpOp} {r r' : D → D → H3 → K1 → Prop} (rf : Rf2 G (U2 X (compareOp op)) r) (rf' : Rf2 G (U2 X (compareOp op')) r') (ha : PE3 X G a f) (hb : PE3 X G b g) (hc : PE3 X G c t3)
    (hm : lastMarks [op, op'] [b, c] = false := by with_unfolding_all rfl) : PE3 X G (.Compare a [op, op'] [b, c] pos) (wChain r r' f g t3) :=
  (pe_chain U2.ok U2.ok ha hb hc hm).weak fun σ H Q q => chain_lift rf rf' q
theorem it_chain {op op' : CmpOp} {r r' : D → D → H3 → K1 → Prop} (rf : Rf2 G (U2 X (compareOp op)) r) (rf' : Rf2 G (U2 X (compareOp op')) r') (ha : PE3 X G a f) (hb : PE3 X G b g) (hc : PE3 X G c t3)
    (hm : lastMarks [op, op'] [b, c] = false := by with_unfolding_all rfl) : PT3 X G (.Compare a [op, op'] [b, c] pos) (wB (wChain r r' f g t3)) :=
  (pt_chain U2.ok U2.ok ha hb hc hm).weak fun σ H Q q => chain_lift (Q := fun x H' => ∃ k, x = .bl k ∧ Q k H') rf rf' (tTest_of q)

/-! ### fields -/
structure Cl3 (K : PySem.W.Frag) (C : Addr) (N : List Str) : Prop where
  cl : Cls K C
  no : ∀ f ∈ N, NoAttr K C f
  nd : N.Nodup
  few : N.length < 1000
def putAtD (vs : List D) (j : Nat) (d : D) : List D := if j < vs.length then vs.set j d else vs ++ [d]
theorem lookup_at {N : List Str} : ∀ {fs : List (Str × V)} {j : Nat} {f : Str}, fs.map (·.1) = N → N.Nodup → N[j]? = some f → ∃ v, fs.lookup f = some v ∧ (fs.map (·.2))[j]? = some v := by
  induction N with
  | nil => intro fs j f _ _ e; simp at e
  | cons n r ih =>
    intro fs j f h nd e
    cases fs with
    | nil => simp at h
    | cons p q =>
      obtain ⟨a, w⟩ := p
      simp only [List.map_cons, List.cons.injEq] at h
      obtain ⟨h1, h2⟩ := h
      have h1 : a = n := h1
      subst h1
      rw [List.nodup_cons] at nd
      cases j with
      | zero =>
        simp at e
        subst e
        exact ⟨w, by simp [List.lookup], rfl⟩
      | succ j =>
        have e' : r[j]? = some f := by simpa using e
        obtain ⟨v, l1, l2⟩ := ih h2 nd.2 e'
        have hne : ¬ f = a := fun z => by
          subst z
          exact nd.1 (List.mem_of_getElem? e')
        refine ⟨v, ?_, by simpa using l2⟩
        rw [List.lookup_cons, beq_eq_false_iff_ne.mpr hne]
        exact l1
theorem putF_at {N : List Str} : ∀ {fs : List (Str × V)} {j : Nat} {f : Str} {v : V}, fs.map (·.1) = N → N.Nodup → N[j]? = some f → (putF f v fs).map (·.1) = N ∧ (putF f v fs).map (·.2) = (fs.map (·.2)).set j v := by
  induction N with
  | nil => intro fs j f _ _ _ e; simp at e
  | cons n r ih =>
    intro fs j f v h nd e
    cases fs with
    | nil => simp at h
    | cons p q =>
      obtain ⟨a, w⟩ := p
      simp only [List.map_cons, List.cons.injEq] at h
      obtain ⟨h1, h2⟩ := h
      have h1 : a = n := h1
      subst h1
      rw [List.nodup_cons] at nd
      cases j with
      | zero =>
        simp at e
        subst e
        have e0 : putF a v ((a, w) :: q) = (a, v) :: q := by unfold putF; rw [if_pos rfl]
        rw [e0]
        exact ⟨by simp [h2], rfl⟩
      | succ j =>
        have e' : r[j]? = some f := by simpa using e
        have hne : ¬ a = f := fun z => by
          subst z
          exact nd.1 (List.mem_of_getElem? e')
        obtain ⟨l1, l2⟩ := ih (v := v) h2 nd.2 e'
        unfold putF
        rw [if_neg hne]
        exact ⟨by simp [l1], by simp [l2]⟩
theorem putF_new {f : Str} {v : V} : ∀ {fs : List (Str × V)}, f ∉ fs.map (·.1) → putF f v fs = fs ++ [(f, v)]
  | [], _ => rfl
  | (a, w) :: r, h => by
    simp only [List.map_cons, List.mem_cons, not_or] at h
    unfold putF
    rw [if_neg (Ne.symm h.1), putF_new h.2]; rfl
def wFld (C : Addr) (N : List Str) (j : Nat) (o : WE) : WE := fun ρ h k => o ρ h fun x h1 => ∃ a vs d, x = .ref a ∧ h1 a = some (.ins C N vs) ∧ vs[j]? = some d ∧ k d h1
def wSetF (C : Addr) (N : List Str) (j : Nat) (o e : WE) : WS := fun E ρ h => e ρ h fun d h1 => o ρ h1 fun x h2 => ∃ a vs, x = .ref a ∧ h2 a = some (.ins C N vs) ∧ j ≤ vs.length ∧ E.nx ρ (up h2 a (.ins C N (putAtD vs j d)))
def wAugF (C : Addr) (N : List Str) (j : Nat) (r : D → D → H3 → K1 → Prop) (o e : WE) : WS := fun E ρ h => o ρ h fun x h1 => ∃ a vs v, x = .ref a ∧ h1 a = some (.ins C N vs) ∧ vs[j]? = some v ∧
  e ρ h1 fun y h2 => r v y h2 fun z h3 => ∃ vs', h3 a = some (.ins C N vs') ∧ j < vs'.length ∧ E.nx ρ (up h3 a (.ins C N (vs'.set j z)))
theorem Rel.ins {h : H3} {H : Hp} {a C : Addr} {N : List Str} {vs : List D} (r : Rel G h H) (e : h a = some (.ins C N vs)) : ∃ dx fs, H a = some (.ins C dx fs) ∧ fs.map (·.1) = N.take vs.length ∧ vs.length ≤ N.length ∧ DVs H vs (fs.map (·.2)) := r.at_ _ _ e
theorem take_get {N : List Str} {j n : Nat} {f : Str} (h : N[j]? = some f) (hj : j < n) : (N.take n)[j]? = some f := by rw [List.getElem?_take, if_pos hj]; exact h
theorem nd_take {N : List Str} {n : Nat} (h : N.Nodup) : (N.take n).Nodup := (List.take_sublist n N).nodup h
theorem i_fld (C : Addr) (N : List Str) (j : Nat) {nm : Str} (T : Cl3 X.K C N) (ha : PE3 X G e f) (hj : N[j]? = some nm := by rfl) (hb : attributeBase e nm X.env (eval e X.env) = eval e X.env := by rfl) : PE3 X G (.Attribute e nm pos) (wFld C N j f) := by
  refine (pe_fld ha hb).weak fun σ H Q ⟨ρ, h, k, rel, ev, q, post⟩ => ?_
  refine ⟨ρ, h, _, rel, ev, q, fun x h1 v H1 q1 rel1 per1 dv1 => ?_⟩
  obtain ⟨a, vs, d, rfl, ha, hd, q1⟩ := q1
  cases dv1
  obtain ⟨dx, fs, e1, e2, e3, r⟩ := rel1.ins ha
  have hl : j < vs.length := (List.getElem?_eq_some_iff.mp hd).1
  obtain ⟨v, l1, l2⟩ := lookup_at e2 (nd_take T.nd) (take_get hj hl)
  obtain ⟨v', l3, dv⟩ := r.get hd
  rw [l2] at l3
  cases l3
  exact ⟨a, C, dx, fs, v, rfl, e1, T.cl, T.no _ (List.mem_of_getElem? hj), l1, post _ _ _ _ q1 rel1 per1 dv⟩
theorem ins_put {C : Addr} {N : List Str} {vs : List D} {j : Nat} {nm : Str} {h : H3} {H : Hp} {a dx : Addr} {fs : List (Str × V)} {d : D} {v : V} (T : Cl3 X.K C N) (rel : Rel G h H) (ha : h a = some (.ins C N vs)) (hj : N[j]? = some nm) (hl : j ≤ vs.length)
    (e1 : H a = some (.ins C dx fs)) (e2 : fs.map (·.1) = N.take vs.length) (e3 : vs.length ≤ N.length) (r : DVs H vs (fs.map (·.2))) (dv : DV H d v) :
    Rel G (up h a (.ins C N (putAtD vs j d))) (upd H a (.ins C dx (putF nm v fs))) := by
  have pm := Per.mut (o := .ins C dx (putF nm v fs)) (rel.mut ha)
  have hjN : j < N.length := (List.getElem?_eq_some_iff.mp hj).1
  refine rel.write ha ⟨dx, putF nm v fs, upd_same, ?_⟩
  unfold putAtD
  by_cases h1 : j < vs.length
  · rw [if_pos h1]
    obtain ⟨p1, p2⟩ := putF_at (v := v) e2 (nd_take T.nd) (take_get hj h1)
    rw [List.length_set, p1, p2]
    exact ⟨rfl, e3, (DVs.set dv j r).per pm⟩
  · rw [if_neg h1]
    have ej : j = vs.length := by omega
    subst ej
    have hn : nm ∉ fs.map (·.1) := fun z => by
      rw [e2] at z
      obtain ⟨i, hi⟩ := List.getElem?_of_mem z
      have hi' : i < vs.length := by
        have q := (List.getElem?_eq_some_iff.mp hi).1
        rw [List.length_take] at q
        omega
      rw [List.getElem?_take, if_pos hi'] at hi
      have := L2.nodup_ix T.nd hi hj
      omega
    have r2 := (r.append (.cons dv .nil)).per pm
    refine ⟨?_, by simp; omega, ?_⟩
    · rw [putF_new hn, List.map_append, List.length_append, e2]
      show _ ++ [nm] = N.take (vs.length + 1)
      rw [List.take_add_one, hj]; rfl
    · have e0 : (putF nm v fs).map (·.2) = fs.map (·.2) ++ [v] := by rw [putF_new hn, List.map_append]; rfl
      rw [e0]
      exact r2
theorem is_setF (C : Addr) (N : List Str) (j : Nat) {nm : Str} (T : Cl3 X.K C N) (ha : PE3 X G o f) (hv : PE3 X G value g) (hj : N[j]? = some nm := by rfl) (hs : swapsWith value (some (.Attribute o nm pos')) pos.line X.env = pure false := by rfl) : PS3 X G (.Assign [.Attribute o nm pos'] value pos) (wSetF C N j f g) := by
  refine (ps_fld ha hv hs).weak fun D σ H ⟨ρ, h, E, rel, ev, q, post⟩ => ?_
  refine ⟨ρ, h, _, rel, ev, q, fun d h1 v H1 q1 rel1 per1 dv1 => ⟨ρ, h1, _, rel1, ev.per per1, q1, fun x h2 xv H2 q2 rel2 per2 dv2 => ?_⟩⟩
  obtain ⟨a, vs, rfl, ha, hl, q2⟩ := q2
  cases dv2
  obtain ⟨dx, fs, e1, e2, e3, r⟩ := rel2.ins ha
  have len : fs.length = vs.length := by
    have := r.length
    simpa using this.symm
  have pp := (per1.trans per2).trans (Per.mut (o := .ins C dx (putF nm v fs)) (rel2.mut ha))
  exact ⟨a, C, dx, fs, rfl, e1, T.cl, T.no _ (List.mem_of_getElem? hj), by have := T.few; omega, post.nx _ _ _ _ q2 (ins_put T rel2 ha hj hl e1 e2 e3 r (dv1.per per2)) pp (ev.per pp)⟩
theorem is_augF (C : Addr) (N : List Str) (j : Nat) {nm : Str} {op : Operator} {r : D → D → H3 → K1 → Prop} {rd : V → V → Hp → VK → Prop} (hop : InOp X op rd) (rf : Rf2 G rd r) (T : Cl3 X.K C N) (ha : PE3 X G o f) (hv : PE3 X G value g) (hj : N[j]? = some nm := by rfl) :
    PS3 X G (.AugAssign (.Attribute o nm tpos) op value pos) (wAugF C N j r f g) := by
  refine (ps_fldaug ha hv hop).weak fun D σ H ⟨ρ, h, E, rel, ev, q, post⟩ => ?_
  refine ⟨ρ, h, _, rel, ev, q, fun x h1 xv H1 q1 rel1 per1 dv1 => ?_⟩
  obtain ⟨a, vs, w, rfl, ha, hw, q1⟩ := q1
  cases dv1
  obtain ⟨dx, fs, e1, e2, e3, r⟩ := rel1.ins ha
  have hl : j < vs.length := (List.getElem?_eq_some_iff.mp hw).1
  obtain ⟨v, l1, l2⟩ := lookup_at e2 (nd_take T.nd) (take_get hj hl)
  obtain ⟨v', l3, dv⟩ := r.get hw
  rw [l2] at l3
  cases l3
  refine ⟨a, C, dx, fs, v, rfl, e1, T.cl, T.no _ (List.mem_of_getElem? hj), l1, ρ, h1, _, rel1, ev.per per1, q1, fun y h2 yv H2 q2 rel2 per2 dv2 => ?_⟩
  refine rf _ _ _ _ _ _ _ _ rel2 (dv.per per2) dv2 q2 fun z h3 zv H3 q3 rel3 per3 dv3 => ?_
  obtain ⟨vs', ha', hl', q3⟩ := q3
  obtain ⟨dx', fs', e1', e2', e3', r'⟩ := rel3.ins ha'
  have len : fs'.length = vs'.length := by
    have := r'.length
    simpa using this.symm
  have pp := (per1.trans (per2.trans per3)).trans (Per.mut (o := .ins C dx' (putF nm zv fs')) (rel3.mut ha'))
  refine ⟨dx', fs', e1', by have := T.few; omega, post.nx _ _ _ _ ?_ (ins_put (d := z) T rel3 ha' hj (Nat.le_of_lt hl') e1' e2' e3' r' dv3) pp (ev.per pp)⟩
  unfold putAtD
  rw [if_pos hl']
  exact q3
abbrev rAddI := rInt (fun _ _ => True) fun i j => i + j
theorem rf_inAdd : Rf2 G L2.rAdd rAddI := by
  intro d e x y h H k Q rel dx dy q post
  unfold rAddI rInt at q
  split at q
  · cases dx; cases dy
    exact ⟨_, _, rfl, rfl, post_int post rel q.2⟩
  · exact q.elim
theorem rf_ipI {g : Int → Int → Int} : Rf2 G (ipI g) (rInt (fun _ _ => True) g) := by
  intro d e x y h H k Q rel dx dy q post
  unfold rInt at q
  split at q
  · cases dx; cases dy
    exact ⟨_, _, rfl, rfl, post_int post rel q.2⟩
  · exact q.elim
/-- name op= e -/
def wAug (i : Nat) (r : D → D → H3 → K1 → Prop) (e : WE) : WS := fun E ρ h => ∃ x, ρ[i]? = some (some x) ∧ e ρ h fun y h1 => r x y h1 fun z h2 => E.nx (ρ.set i (some z)) h2
theorem is_aug (i : Nat) {x : Str} {op : Operator} {ti : TIp} {r : D → D → H3 → K1 → Prop} (ho : PIp X op ti) (rf : Rf2 G ti r) (hN : X.N.Nodup) (he : PE3 X G e f) (hi : X.N[i]? = some x := by rfl) (hx : Loc X.env.scope x := by first | exact .inl rfl | exact .inr rfl)
    (hf : X.fn x = true ∨ X.env.scope.names.lookup x = some .local := by first | exact .inl rfl | exact .inr rfl | assumption) : PS3 X G (.AugAssign (.Name x pos') op e pos) (wAug i r f) := by
  refine (ps_aug (i := i) hN hi hx he ho hf).weak fun D σ H ⟨ρ, h, E, rel, ev, ⟨d, ed, q⟩, post⟩ => ?_
  obtain ⟨v, e1, dv⟩ := ev.2 i d ed
  refine ⟨v, e1, ρ, h, _, rel, ev, q, fun y h1 yv H1 q1 rel1 per1 dv1 => ?_⟩
  refine rf _ _ _ _ _ _ _ _ rel1 (dv.per per1) dv1 q1 fun z h2 zv H2 q2 rel2 per2 dv2 => ?_
  exact post.nx _ _ _ _ q2 rel2 (per1.trans per2) ((ev.per (per1.trans per2)).set dv2 i)
/-- d[k] += e -/
def wDAug (r : D → D → H3 → K1 → Prop) (o i v : WE) : WS := fun E ρ h => o ρ h fun x h1 => i ρ h1 fun y h2 => ∃ a w, x = .ref a ∧ DG h2 a y (some w) ∧ v ρ h2 fun d h3 => r w d h3 fun z h4 => ∃ h5, DPt h4 a y z h5 ∧ E.nx ρ h5
theorem is_daug {op : Operator} {r : D → D → H3 → K1 → Prop} {rd : V → V → Hp → VK → Prop} (hop : InOp X op rd) (rf : Rf2 G rd r) (hu : X.A.units + 1 < cLine) (ho : PE3 X G o f) (hi : PE3 X G e g) (hv : PE3 X G value t3)
    (ha : ∀ ov iv new, augStore e ov iv new = (do holding [new, ov, iv] (setItem ov iv new); release [new, ov, iv] []; pure .next) := by intro _ _ _; rfl) : PS3 X G (.AugAssign (.Subscript o e tpos) op value pos) (wDAug r f g t3) := by
  refine (ps_daug hu ho hi hv hop ha).weak fun D σ H ⟨ρ, h, E, rel, ev, q, post⟩ => ?_
  refine ⟨ρ, h, _, rel, ev, q, fun x h1 xv H1 q1 rel1 per1 dv1 => ⟨ρ, h1, _, rel1, ev.per per1, q1, fun y h2 yv H2 q2 rel2 per2 dv2 => ?_⟩⟩
  obtain ⟨a, w, rfl, g, q2⟩ := q2
  cases dv1
  obtain ⟨o', g', rr⟩ := g.to rel2 dv2
  rcases rr with ⟨z, _⟩ | ⟨d, w', e1, rfl, dv⟩
  · cases z
  · cases e1
    refine ⟨a, w', rfl, g', ρ, h2, _, rel2, ev.per (per1.trans per2), q2, fun v h3 vv H3 q3 rel3 per3 dv3 => ?_⟩
    refine rf _ _ _ _ _ _ _ _ rel3 (dv.per per3) dv3 q3 fun z h4 zv H4 q4 rel4 per4 dv4 => ?_
    obtain ⟨h5, g5, q5⟩ := q4
    obtain ⟨H5, p, rel5, per5⟩ := g5.to rel4 (dv2.per (per3.trans per4)) dv4
    have pp := per1.trans (per2.trans (per3.trans (per4.trans per5)))
    exact ⟨H5, p, post.nx _ _ _ _ q5 rel5 pp (ev.per pp)⟩
end

/-! ### calls -/
/-- a promise over T3, as HandS's -/
def spI (G : Sc) (sp : Sp3) : Sp := fun vs H Q _ => ∃ l h k, Rel G h H ∧ DVs H l vs ∧ sp l h k ∧ Post G H k Q
/-- the def at the module's name x keeps sp -/
def Fd (P : Program) (w : World) (K : PySem.W.Frag) (mg : Str → Option Value) (base : Heap) (G : Sc) (x : Str) (k : Nat) (sp : Sp3) : Prop :=
  ∃ f fd ps, (∃ (sp0 : Sp3) (dds : List D) (dvs : List V) (ds : List Value), FnOk P w K mg base CX0 k f fd ps (spI G sp0) ∧ Binds K fd ps ds ∧ Vals dvs ds ∧ (∀ H, DVs H dds dvs) ∧ ∀ l h k, sp l h k → sp0 (l ++ dds) h k) ∧ mg x = some (.ref f) ∧ PySem.W.keepIn K (.ref f) = true
/-- the method m of the class at C -/
def Md (P : Program) (w : World) (K : PySem.W.Frag) (mg : Str → Option Value) (base : Heap) (G : Sc) (C : Addr) (m : Str) (k : Nat) (sp : Sp3) : Prop :=
  ∃ f fd ps, FnOk P w K mg base CX0 k f fd ps (spI G sp) ∧ Meth K C m f ∧ Cls K C ∧ Binds K fd ps []
/-- the class at the module's name x, its __init__ -/
def Kd (P : Program) (w : World) (K : PySem.W.Frag) (mg : Str → Option Value) (base : Heap) (G : Sc) (x : Str) (C : Addr) (k : Nat) (sp : Sp3) : Prop :=
  ∃ f fd ps, FnOk P w K mg base CX0 k f fd ps (spI G sp) ∧ Mk K C f ∧ mg x = some (.ref C) ∧ Binds K fd ps []
theorem Fd.mono {P : Program} {w : World} {K : PySem.W.Frag} {mg : Str → Option Value} {base : Heap} {G : Sc} {x : Str} {j k : Nat} {sp : Sp3} (F : Fd P w K mg base G x j sp) (h : j ≤ k) : Fd P w K mg base G x k sp :=
  let ⟨f, fd, ps, ⟨s0, a1, a2, a3, a, c⟩, b⟩ := F
  ⟨f, fd, ps, ⟨s0, a1, a2, a3, a.mono h, c⟩, b⟩
theorem Fd.of {P : Program} {w : World} {K : PySem.W.Frag} {mg : Str → Option Value} {base : Heap} {G : Sc} {x : Str} {k : Nat} {sp : Sp3} {f : Addr} {fd : FuncData} {ps : List Str} (F : FnOk P w K mg base CX0 k f fd ps (spI G sp)) (hm : mg x = some (.ref f)) (hk : PySem.W.keepIn K (.ref f) = true) (hb : Binds K fd ps []) : Fd P w K mg base G x k sp :=
  ⟨f, fd, ps, ⟨sp, [], [], [], F, hb, .nil, fun _ => .nil, fun l h k q => by rw [List.append_nil]; exact q⟩, hm, hk⟩
section
variable {X : Cx} {G : Sc} {e o : Expr} {es : List Expr} {f : WE} {l : WA} {p pos apos : Pos} {x m : Str} {C : Addr} {k : Nat} {sp : Sp3}
/-- a promise is used: no exceptions -/
theorem spI_of {t : TA} {σ : L2.St} {H : Hp} {Q : VK} {sp : Sp3} (q : tI G (wL sp l) σ H Q) : tIA G l σ H fun vs H1 => spI G sp (vs ++ []) H1 Q E0 := by
  refine liftL (R := fun vs H1 Q => spI G sp (vs ++ []) H1 Q E0) (fun l vs h H k Q rel dv q post => ?_) q
  show spI G sp (vs ++ []) H Q E0
  rw [List.append_nil]
  exact ⟨l, h, k, rel, dv, q, post⟩
theorem i_call (F : Fd X.prog X.w X.K X.mg X.base G x k sp) (hr : Room k X.A) (ha : PA3 X G (e :: es) l) (hg : Gl X x := by rfl)
    (hdb : (x == ("__debug__" : Str)) = false := by decide) (he : starEach (e :: es) X.env = (false, eval e X.env) :: starEach es X.env := by rfl) (hpl : (backTo pos (starEach es X.env)).any (·.1) = false := by rfl) : PE3 X G (.Call (.Name x p) (e :: es) [] pos) (wL sp l) := by
  obtain ⟨f, fd, ps, ⟨sp0, dds, dvs, ds, F, hb, hv, hd, hs⟩, hm, hk⟩ := F
  refine (pe_call F hr hg hm hk hb hv pass0 ha hdb he hpl).weak fun σ H Q q => ?_
  exact liftL (R := fun vs H1 Q => spI G sp0 (vs ++ dvs) H1 Q E0) (fun l vs h H k Q rel dv q post => ⟨l ++ dds, h, k, rel, dv.append (hd _), hs _ _ _ q, post⟩) q
theorem i_call0 (F : Fd X.prog X.w X.K X.mg X.base G x k sp) (hr : Room k X.A) (hg : Gl X x := by rfl) (hdb : (x == ("__debug__" : Str)) = false := by decide) : PE3 X G (.Call (.Name x p) [] [] pos) (wL sp wNil) := by
  obtain ⟨f, fd, ps, ⟨sp0, dds, dvs, ds, F, hb, hv, hd, hs⟩, hm, hk⟩ := F
  refine (pe_call0 F hr hg hm hk hb hv pass0 hdb).weak fun σ H Q ⟨ρ, h, k, rel, ev, q, post⟩ => ?_
  exact ⟨[] ++ dds, h, k, rel, hd _, hs _ _ _ q, post⟩
/-- o.m(..): the receiver first -/
def wMeth (sp : Sp3) (o : WE) (l : WA) : WE := fun ρ h k => o ρ h fun x h1 => ∃ a C N vs, x = .ref a ∧ h1 a = some (.ins C N vs) ∧ l ρ h1 fun ds h2 => sp (x :: ds) h2 k
def wMethC (C : Addr) (N : List Str) (sp : Sp3) (o : WE) (l : WA) : WE := fun ρ h k => o ρ h fun x h1 => ∃ a vs, x = .ref a ∧ h1 a = some (.ins C N vs) ∧ l ρ h1 fun ds h2 => sp (x :: ds) h2 k
theorem no_look {N : List Str} {m : Str} (hm : m ∉ N) {fs : List (Str × V)} {n : Nat} (e : fs.map (·.1) = N.take n) : fs.lookup m = none := by
  have hn : m ∉ fs.map (·.1) := fun z => by rw [e] at z; exact hm (List.mem_of_mem_take z)
  clear e
  induction fs with
  | nil => rfl
  | cons q r ih =>
    obtain ⟨a, v⟩ := q
    simp only [List.map_cons, List.mem_cons, not_or] at hn
    rw [List.lookup_cons, beq_eq_false_iff_ne.mpr hn.1]
    exact ih hn.2
theorem i_meth (N : List Str) {pl : Sem Bool} (F : Md X.prog X.w X.K X.mg X.base G C m k sp) (hr : Room k X.A) (ho : PE3 X G o f) (ha : PA3 X G (e :: es) l) (hm : m ∉ N := by decide)
    (hst : starEach (e :: es) X.env = (false, eval e X.env) :: starEach es X.env := by rfl) (hpl : (backTo pos (starEach es X.env)).any (·.1) = false := by rfl)
    (ht : eval (.Call (.Attribute o m apos) (e :: es) [] pos) X.env = (do
      let ov ← eval o X.env
      standAt apos.atName
      let (f, first) ← holding [ov] (getMethod ov m pl)
      callWith pos f first (backTo pos (starEach (e :: es) X.env)) (backToKw pos (keywordEach [] X.env))) := by rfl) : PE3 X G (.Call (.Attribute o m apos) (e :: es) [] pos) (wMethC C N sp f l) := by
  obtain ⟨fa, fd, ps, F, M, c, hb⟩ := F
  refine (pe_meth ho c M F hr hb .nil pass0 ha hst hpl ht).weak fun σ H Q ⟨ρ, h, k, rel, ev, q, post⟩ => ?_
  refine ⟨ρ, h, _, rel, ev, q, fun d h1 v H1 q1 rel1 per1 dv1 => ?_⟩
  obtain ⟨a, vs, rfl, hi, q1⟩ := q1
  cases dv1
  obtain ⟨dx, fs, e1, e2, _, _⟩ := rel1.ins hi
  refine ⟨a, dx, fs, rfl, e1, no_look hm e2, ρ, h1, _, rel1, ev.per per1, q1, fun ds h2 ws H2 q2 rel2 per2 dv2 => ?_⟩
  show spI G sp (V.ref a :: (ws ++ [])) H2 Q E0
  rw [List.append_nil]
  exact ⟨_, h2, k, rel2, .cons (.ref a) dv2, q2, post.per (per1.trans per2)⟩
theorem i_meth0 (N : List Str) {pl : Sem Bool} (F : Md X.prog X.w X.K X.mg X.base G C m k sp) (hr : Room k X.A) (ho : PE3 X G o f) (hm : m ∉ N := by decide)
    (ht : eval (.Call (.Attribute o m apos) [] [] pos) X.env = (do
      let ov ← eval o X.env
      standAt apos.atName
      let (f, first) ← holding [ov] (getMethod ov m pl)
      callWith pos f first (backTo pos (starEach [] X.env)) (backToKw pos (keywordEach [] X.env))) := by rfl) : PE3 X G (.Call (.Attribute o m apos) [] [] pos) (wMethC C N sp f wNil) := by
  obtain ⟨fa, fd, ps, F, M, c, hb⟩ := F
  refine (pe_meth0 ho c M F hr hb .nil pass0 ht).weak fun σ H Q ⟨ρ, h, k, rel, ev, q, post⟩ => ?_
  refine ⟨ρ, h, _, rel, ev, q, fun d h1 v H1 q1 rel1 per1 dv1 => ?_⟩
  obtain ⟨a, vs, rfl, hi, q1⟩ := q1
  cases dv1
  obtain ⟨dx, fs, e1, e2, _, _⟩ := rel1.ins hi
  refine ⟨a, dx, fs, rfl, e1, no_look hm e2, ?_⟩
  exact ⟨_, h1, k, rel1, .cons (.ref a) .nil, q1, post.per per1⟩
/-- C(..) -/
def wMake (C : Addr) (N : List Str) (sp : Sp3) (l : WA) : WE := fun ρ h k => l ρ h fun ds h1 => ∀ x, h1 x = none → sp (.ref x :: ds) (up h1 x (.ins C N [])) fun d h2 => d = .non ∧ k (.ref x) h2
theorem i_make (N : List Str) (F : Kd X.prog X.w X.K X.mg X.base G x C k sp) (hr : Room (k + 1) X.A) (ha : PA3 X G (e :: es) l) (hg : Gl X x := by rfl)
    (hdb : (x == ("__debug__" : Str)) = false := by decide) (he : starEach (e :: es) X.env = (false, eval e X.env) :: starEach es X.env := by rfl) (hpl : (backTo pos (starEach es X.env)).any (·.1) = false := by rfl) : PE3 X G (.Call (.Name x p) (e :: es) [] pos) (wMake C N sp l) := by
  obtain ⟨f, fd, ps, F, M, hm, hb⟩ := F
  refine (pe_make M F hr hg hm hb .nil pass0 ha hdb he hpl).weak fun σ H Q ⟨ρ, h, k, rel, ev, q, post⟩ => ?_
  refine ⟨ρ, h, _, rel, ev, q, fun ds h1 ws H1 q1 rel1 per1 dv1 x dx nx ndx ne => ?_⟩
  rw [List.append_nil]
  have p1 : Per H1 (upd H1 dx (.own x)) := Per.new ndx
  have nx' : (upd H1 dx (.own x)) x = none := by rw [upd_ne (Ne.symm ne)]; exact nx
  have p2 := Per.new (o := .ins C dx []) nx'
  have rel2 : Rel G (up h1 x (.ins C N [])) (upd (upd H1 dx (.own x)) x (.ins C dx [])) := (rel1.new0 ndx).new nx' ⟨dx, [], upd_same, rfl, Nat.zero_le _, .nil⟩
  refine ⟨_, _, _, rel2, .cons (.ref x) (dv1.per (p1.trans p2)), q1 x (rel1.none nx), fun d h2 v H2 q2 rel3 per3 dv3 => ?_⟩
  obtain ⟨rfl, q2⟩ := q2
  cases dv3
  exact ⟨rfl, post _ _ _ _ q2 rel3 (per1.trans ((p1.trans p2).trans per3)) (.ref x)⟩
end

/-! ### the rule for a def -/
/-- the context of a def's body -/
abbrev CXF (P : Program) (w : World) (K : PySem.W.Frag) (mg : Str → Option Value) (base : Heap) (N : List Str) (qual : Str) (st : Stmt) (f : Addr) (cdv : Value) (A : Around) (outer : List Env) (s : Shared) (H : Hp) (E : XK) : Cx :=
  (cxOf CX0 P w K mg base N qual (defScope st) f cdv A outer s H E).nox
/-- what a body is to reach, so that k: what it made may be forgotten -/
def en (k : K1) : En := { nx := fun _ h' => ∃ h'', Sub h'' h' ∧ k .non h'', rt := fun d h' => ∃ h'', Sub h'' h' ∧ k d h'' }
def ev0 (N : List Str) (l : List D) : Ev := l.map some ++ List.replicate (N.length - l.length) none
theorem evr0 {H : Hp} {N : List Str} {l : List D} {vs : List V} (r : DVs H l vs) : EvR H (ev0 N l) (L2.start N vs) := by
  unfold ev0 L2.start
  refine ⟨by simp [r.length], fun i d e => ?_⟩
  rw [← r.length]
  by_cases hi : i < l.length
  · rw [List.getElem?_append_left (by simpa using hi)] at e
    rw [List.getElem?_map] at e
    cases q : l[i]? with
    | none => rw [q] at e; cases e
    | some x =>
      rw [q] at e
      cases e
      obtain ⟨v, ev, dv⟩ := r.get q
      refine ⟨v, ?_, dv⟩
      rw [List.getElem?_append_left (by rw [List.length_map, ← r.length]; exact hi), List.getElem?_map, ev]; rfl
  · rw [List.getElem?_append_right (by simpa using hi)] at e
    have e' := List.mem_of_getElem? e
    rw [List.mem_replicate] at e'
    cases e'.2
section
variable {P : Program} {w : World} {K : PySem.W.Frag} {mg : Str → Option Value} {base : Heap} {G : Sc}
theorem fn3 {x qual : Str} {st : Stmt} {f : Addr} {fd : FuncData} {N ps : List Str} {k : Nat} {sp : Sp3} {W : WS} (F : Fun K x qual st f fd) (S : FnScope N ps (defScope st))
    (walk : ∀ (cdv : Value) (A : Around) (outer : List Env) (s : Shared) (H : Hp) (E : XK), Room k (A.deeper (envOfC qual (defScope st) s.heap.objs.size f cdv)) → PSs3 (CXF P w K mg base N qual st f cdv A outer s H E) G (defBody st) W)
    (len : ∀ l h k, sp l h k → l.length = ps.length) (ok : ∀ l h k, sp l h k → W (en k) (ev0 N l) h) : FnOk P w K mg base CX0 (k + 1) f fd ps (spI G sp) := by
  refine F.ok S (fun vs H Q E ⟨l, h, k, rel, dv, q, post⟩ => by rw [← dv.length]; exact len l h k q) (fun cdv A outer s H vs Q E hr ⟨l, h, k, rel, dv, q, post⟩ => ?_)
  refine ⟨_, walk cdv A outer s H E hr, ev0 N l, h, en k, rel, evr0 dv, ok l h k q, ?_⟩
  refine ⟨fun ρ h' σ H' ⟨h'', sub, q'⟩ rel' per' _ => post _ _ _ _ q' (rel'.sub sub) per' .non, fun d h' v H' ⟨h'', sub, q'⟩ rel' per' dv' => post _ _ _ _ q' (rel'.sub sub) per' dv', fun _ _ _ _ q' => q'.elim, fun _ _ _ _ q' => q'.elim⟩
/-- as fn3, for a def with defaults -/
theorem fn3D {x qual : Str} {st : Stmt} {f : Addr} {oc dV kV doc pm cdv ct : Value} {od an : Option Addr} {osl : Array (Option Value)} {N ps : List Str} {k : Nat} {sp : Sp3} {W : WS} (lk : K.lookup f = some ⟨oc, od, .func (PySem.W.fnOf x qual (defArgs st) (defBody st) (defScope st) dV kV doc pm an cdv ct), osl⟩) (hcd : PySem.W.codeIn K cdv qual = true) (S : FnScope N ps (defScope st))
    (walk : ∀ (cdv : Value) (A : Around) (outer : List Env) (s : Shared) (H : Hp) (E : XK), Room k (A.deeper (envOfC qual (defScope st) s.heap.objs.size f cdv)) → PSs3 (CXF P w K mg base N qual st f cdv A outer s H E) G (defBody st) W)
    (len : ∀ l h k, sp l h k → l.length = ps.length) (ok : ∀ l h k, sp l h k → W (en k) (ev0 N l) h) : FnOk P w K mg base CX0 (k + 1) f (PySem.W.fnOf x qual (defArgs st) (defBody st) (defScope st) dV kV doc pm an cdv ct) ps (spI G sp) := by
  refine fn_of lk hcd S (fun vs H Q E ⟨l, h, k, rel, dv, q, post⟩ => by rw [← dv.length]; exact len l h k q) (fun A outer s H vs Q E hr ⟨l, h, k, rel, dv, q, post⟩ => ?_)
  refine ⟨_, (walk cdv A outer s H E hr).nox, ev0 N l, h, en k, rel, evr0 dv, ok l h k q, ?_⟩
  refine ⟨fun ρ h' σ H' ⟨h'', sub, q'⟩ rel' per' _ => post _ _ _ _ q' (rel'.sub sub) per' .non, fun d h' v H' ⟨h'', sub, q'⟩ rel' per' dv' => post _ _ _ _ q' (rel'.sub sub) per' dv', fun _ _ _ _ q' => q'.elim, fun _ _ _ _ q' => q'.elim⟩
end
end T3
end
-- T3More
section
set_option maxRecDepth 100000
set_option maxHeartbeats 4000000
/-! T3More: dict displays, truths as values, the script, pop. -/
namespace T3
open PySem PySem.Spec PyProof.Rows L2

theorem room65 {k : Nat} {A : Around} (r : Room k A) : A.units + 65 < cLine := by have := r.un; omega
theorem b_len : bootBuiltins "len" = some (.builtin "len") := PySem.boot_len
theorem b_abs : bootBuiltins "abs" = some (.builtin "abs") := by decide +kernel
theorem b_all : bootBuiltins "all" = some (.builtin "all") := by decide +kernel
theorem b_any : bootBuiltins "any" = some (.builtin "any") := by decide +kernel
theorem b_min : bootBuiltins "min" = some (.builtin "min") := by decide +kernel
theorem b_max : bootBuiltins "max" = some (.builtin "max") := by decide +kernel
theorem b_repr : bootBuiltins "repr" = some (.builtin "repr") := by decide +kernel
theorem b_sorted : bootBuiltins "sorted" = some (.builtin "sorted") := by decide +kernel
theorem b_isinstance : bootBuiltins "isinstance" = some (.builtin "isinstance") := by decide +kernel
theorem b_int : bootBuiltins "int" = some (.type "int") := by decide +kernel
theorem b_bool : bootBuiltins "bool" = some (.type "bool") := by decide +kernel
theorem b_str : bootBuiltins "str" = some (.type "str") := by decide +kernel
theorem b_tuple : bootBuiltins "tuple" = some (.type "tuple") := by decide +kernel
theorem b_list : bootBuiltins "list" = some (.type "list") := by decide +kernel
theorem b_set : bootBuiltins "set" = some (.type "set") := by decide +kernel

def rNeg : D → H3 → K1 → Prop := fun x h k => match x with | .int i => k (.int (-i)) h | _ => False
def wNotV (a : WE) : WE := fun ρ h k => a ρ h fun d h1 => ∃ c, d = .bl c ∧ k (.bl (!c)) h1
def wAndV (a b : WE) : WE := fun ρ h k => a ρ h fun d h1 => ∃ c, d = .bl c ∧ if c = true then b ρ h1 k else k (.bl false) h1
def wOrV (a b : WE) : WE := fun ρ h k => a ρ h fun d h1 => ∃ c, d = .bl c ∧ if c = true then k (.bl true) h1 else b ρ h1 k
def wAppend (a : WE) (t : WA) : WE := fun ρ h k => a ρ h fun x h1 => ∃ p xs, x = .ref p ∧ h1 p = some (.lst xs) ∧ t ρ h1 fun l h2 => rAppend3 x l h2 k
def wPop (a : WE) : WE := fun ρ h k => a ρ h fun x h1 => ∃ p xs d, x = .ref p ∧ h1 p = some (.lst xs) ∧ xs[xs.length - 1]? = some d ∧ k d (up h1 p (.lst xs.dropLast))
theorem DVs.dropLast {H : Hp} {l : List D} {vs : List V} (r : DVs H l vs) : DVs H l.dropLast vs.dropLast := by
  rw [List.dropLast_eq_take, List.dropLast_eq_take, ← r.length]
  exact r.take _
section
variable {X : Cx} {G : Sc} {a b e o : Expr} {es : List Expr} {f g : WE} {t : WA} {pos apos cpos : Pos} {rest : List Expr}
theorem rf_neg' : Rf1 G (U1 X (unaryOp .USub)) rNeg := by
  intro d x h H k Q rel dx q post
  unfold rNeg at q
  split at q
  · cases dx
    exact ⟨_, un_neg, _, rfl, post_int post rel q⟩
  · exact q.elim
theorem i_one {op} (h : PE3 X G a f) : PE3 X G (.BoolOp op [a] pos) f := pe_one h
theorem i_and (ha : PE3 X G a f) (hb : PE3 X G (.BoolOp .And (b :: rest) pos) g) : PE3 X G (.BoolOp .And (a :: b :: rest) pos) (wAndV f g) := by
  refine (pe_and ha hb).weak fun σ H Q ⟨ρ, h, k, rel, ev, q, post⟩ => ?_
  refine ⟨ρ, h, _, rel, ev, q, fun d h1 v H1 q1 rel1 per1 dv1 => ?_⟩
  obtain ⟨c, rfl, q1⟩ := q1
  cases dv1
  refine ⟨c, rfl, ?_⟩
  cases c with
  | true => exact ⟨ρ, h1, k, rel1, ev.per per1, q1, post.per per1⟩
  | false => exact post _ _ _ _ q1 rel1 per1 (.bl false)
theorem i_or (ha : PE3 X G a f) (hb : PE3 X G (.BoolOp .Or (b :: rest) pos) g) : PE3 X G (.BoolOp .Or (a :: b :: rest) pos) (wOrV f g) := by
  refine (pe_or ha hb).weak fun σ H Q ⟨ρ, h, k, rel, ev, q, post⟩ => ?_
  refine ⟨ρ, h, _, rel, ev, q, fun d h1 v H1 q1 rel1 per1 dv1 => ?_⟩
  obtain ⟨c, rfl, q1⟩ := q1
  cases dv1
  refine ⟨c, rfl, ?_⟩
  cases c with
  | true => exact post _ _ _ _ q1 rel1 per1 (.bl true)
  | false => exact ⟨ρ, h1, k, rel1, ev.per per1, q1, post.per per1⟩
theorem i_not (ha : PE3 X G a f) : PE3 X G (.UnaryOp .Not a pos) (wNotV f) := by
  refine (pe_not ha).weak fun σ H Q ⟨ρ, h, k, rel, ev, q, post⟩ => ?_
  refine ⟨ρ, h, _, rel, ev, q, fun d h1 v H1 q1 rel1 per1 dv1 => ?_⟩
  obtain ⟨c, rfl, q1⟩ := q1
  cases dv1
  exact ⟨c, rfl, post _ _ _ _ q1 rel1 per1 (.bl _)⟩
theorem i_pop (ho : PE3 X G a f) (hbase : attributeBase a "pop" X.env (eval a X.env) = eval a X.env := by rfl) (hline : (apos.endLine == cpos.line) = true := by rfl) : PE3 X G (.Call (.Attribute a "pop" apos) [] [] cpos) (wPop f) := by
  refine (pe_bm0 PySem.F.plainAttrs_list PySem.F.slot_list_pop PySem.F.type_list_pop mt_pop ho hbase hline).weak fun σ H Q ⟨ρ, h, k, rel, ev, q, post⟩ => ?_
  refine ⟨ρ, h, _, rel, ev, q, fun x h1 v H1 q1 rel1 per1 dv1 => ?_⟩
  obtain ⟨p, xs, d, rfl, hp, hd, q1⟩ := q1
  cases dv1
  obtain ⟨vs, e1, r1⟩ := rel1.lst hp
  obtain ⟨w, ew, dw⟩ := r1.get hd
  have pm := Per.mut (o := .lst vs.dropLast) (rel1.mut hp)
  exact ⟨.inl ⟨rfl, _, .of e1⟩, _, vs, w, rfl, rfl, e1, by rw [← r1.length]; exact ew, post _ _ _ _ q1 (rel1.setLst hp r1.dropLast) (per1.trans pm) (dw.per pm)⟩
/-! a display of a dict -/
def wPairs : List (WE × WE) → Ev → H3 → (List (D × D) → H3 → Prop) → Prop
  | [], _, h, k => k [] h
  | (f, g) :: r, ρ, h, k => f ρ h fun x h1 => g ρ h1 fun y h2 => wPairs r ρ h2 fun ps h3 => k ((x, y) :: ps) h3
def keyed : List (D × D) → Option (List (Key × D))
  | [] => some []
  | (x, y) :: r => match keyOf x, keyed r with
    | some k, some l => some ((k, y) :: l)
    | _, _ => none
def mergeD (kvs more : List (Key × D)) : List (Key × D) := more.foldl (fun acc kv => putD acc kv.1 kv.2) kvs
def wDisp (l : List (WE × WE)) : WE := fun ρ h k => ∀ p, h p = none → wPairs l ρ (up h p (.dK [])) fun ps h2 => h2 p = some (.dK []) ∧ ∃ kvs, keyed ps = some kvs ∧ kvs.length ≤ 15 ∧ k (.ref p) (up h2 p (.dK (mergeD [] kvs)))
abbrev ppsNil : List (WE × WE) := []
abbrev ppsCons (f g : WE) (l : List (WE × WE)) : List (WE × WE) := (f, g) :: l
abbrev PP3 (X : Cx) (G : Sc) (pos : Pos) (keys : List (Option Expr)) (values : List Expr) (l : List (WE × WE)) : Prop := PPs X pos keys values (l.map fun p => (tI G p.1, tI G p.2))
theorem ipps_nil : PP3 X G pos [] [] ppsNil := pps_nil
theorem ipps_cons {k v : Expr} {ks : List (Option Expr)} {vs : List Expr} {l : List (WE × WE)} (hk : PE3 X G k f) (hv : PE3 X G v g) (hr : PP3 X G pos ks vs l) : PP3 X G pos (some k :: ks) (v :: vs) (ppsCons f g l) := pps_cons hk hv hr
theorem pairs_lift {ρ : Ev} {σ : L2.St} : ∀ {l : List (WE × WE)} {h : H3} {H : Hp} {k : List (D × D) → H3 → Prop} {Q : List (V × V) → Hp → Prop}, Rel G h H → EvR H ρ σ → wPairs l ρ h k →
    (∀ ps h' vs H', k ps h' → Rel G h' H' → Per H H' → Paired (fun (p : D × D) (q : V × V) => DV H' p.1 q.1 ∧ DV H' p.2 q.2) ps vs → Q vs H') → tPairs (l.map fun p => (tI G p.1, tI G p.2)) σ H Q
  | [], h, H, k, Q, rel, ev, q, post => post [] h [] H q rel (Per.refl H) .nil
  | (f, g) :: r, h, H, k, Q, rel, ev, q, post => by
    refine ⟨ρ, h, _, rel, ev, q, fun x h1 xv H1 q1 rel1 per1 dv1 => ⟨ρ, h1, _, rel1, ev.per per1, q1, fun y h2 yv H2 q2 rel2 per2 dv2 => ?_⟩⟩
    refine pairs_lift rel2 (ev.per (per1.trans per2)) q2 fun ps h3 vs H3 q3 rel3 per3 pv => ?_
    exact post _ h3 _ H3 q3 rel3 (per1.trans (per2.trans per3)) (.cons ⟨dv1.per (per2.trans per3), dv2.per per3⟩ pv)
theorem keyed_v {H : Hp} : ∀ {ps : List (D × D)} {vs : List (V × V)} {kvs : List (Key × D)}, Paired (fun (p : D × D) (q : V × V) => DV H p.1 q.1 ∧ DV H p.2 q.2) ps vs → keyed ps = some kvs → ∃ kv' : List (Key × V), vs = kv'.map (fun kv => (kV kv.1, kv.2)) ∧ KVs H kvs kv'
  | [], _, _, h, e => by cases h; cases e; exact ⟨[], rfl, .nil⟩
  | (x, y) :: r, _, _, h, e => by
    cases h with
    | cons z t =>
      rename_i p ps
      obtain ⟨a, b⟩ := p
      unfold keyed at e
      cases q1 : keyOf x with
      | none => rw [q1] at e; cases e
      | some k =>
        rw [q1] at e
        cases q2 : keyed r with
        | none => rw [q2] at e; cases e
        | some l =>
          rw [q2] at e
          cases e
          obtain ⟨kv', e1, e2⟩ := keyed_v t q2
          refine ⟨(k, b) :: kv', ?_, .cons ⟨rfl, z.2⟩ e2⟩
          have e3 : a = kV k := key_v z.1 q1
          rw [e3, e1]; rfl
theorem merge_kv {H : Hp} : ∀ {more : List (Key × D)} {ms : List (Key × V)} {kvs : List (Key × D)} {vs : List (Key × V)}, KVs H more ms → KVs H kvs vs → KVs H (mergeD kvs more) (mergeK vs ms)
  | [], _, _, _, h, s => by cases h; exact s
  | (k, d) :: r, _, _, _, h, s => by
    cases h with
    | cons z t =>
      rename_i p ps
      obtain ⟨k', v⟩ := p
      have e : k = k' := z.1
      subst e
      have q := merge_kv (more := r) (ms := ps) t (s.put k z.2)
      exact q
theorem i_disp {keys : List (Option Expr)} {values : List Expr} {l : List (WE × WE)} (h : PP3 X G pos keys values l) (hall : keys.all (·.isSome) = true := by rfl) (hl : keys.length = values.length := by rfl) (h0 : keys ≠ [] := by exact fun z => nomatch z) (h15 : keys.length ≤ 15 := by decide) : PE3 X G (.Dict keys values pos) (wDisp l) := by
  refine (pe_disp h hall hl h0 h15).weak fun σ H Q ⟨ρ, h, k, rel, ev, q, post⟩ p np => ?_
  have rel0 := rel.new (o := .dK []) np ⟨[], upd_same, .nil⟩
  refine pairs_lift rel0 (ev.per (Per.new np)) (q p (rel.none np)) fun ps h2 vs H2 q2 rel2 per2 pv => ?_
  obtain ⟨hp, kvs, ek, hz, q2⟩ := q2
  obtain ⟨kv', e1, e2⟩ := keyed_v pv ek
  obtain ⟨v0, e0, kv0⟩ := rel2.dK hp
  have ev0 : v0 = [] := by cases kv0; rfl
  subst ev0
  have pm := Per.mut (o := .dK (mergeK [] kv')) (rel2.mut hp)
  exact ⟨e0, kv', e1, by rw [← e2.length]; exact hz, post _ _ _ _ q2 (rel2.write hp ⟨_, upd_same, (merge_kv e2 .nil).per pm⟩) (((Per.new np).trans per2).trans pm) (.ref p)⟩
/-! the script -/
def wScript (G : Sc) (i : Nat) : WI := fun ρ h k => ρ[i]? = some (some (.ref G.a)) ∧ k (.fix (G.ns.map .int)) h
theorem scr_sq {H1 : Hp} (hK : G.K = X.K) (sc : Ro G.K H1 G.a (G.ns.map V.int)) : SqL X.K H1 G.a (G.ns.map V.int) := by
  rw [← hK]
  rcases sc with ⟨o, e⟩ | r
  · exact .inl (.inr ⟨o, e⟩)
  · exact .inr r
theorem it_scr {H1 : Hp} (hK : G.K = X.K) : ItOk G (Itl X.K G.a) H1 (.fix (G.ns.map .int)) := by
  refine ⟨fun i H h d per rel q => ?_, fun i H h d x H' per rel q y => ?_, fun i H h per rel q => ?_⟩
  · have q' : (G.ns.map D.int)[i]? = some d := q
    have hi : i < G.ns.length := by simpa using (List.getElem?_eq_some_iff.mp q').1
    exact ⟨_, .int G.ns[i], scr_sq hK rel.sc, by simp [hi]⟩
  · have q' : (G.ns.map D.int)[i]? = some d := q
    have hi : i < G.ns.length := by simpa using (List.getElem?_eq_some_iff.mp q').1
    obtain ⟨rfl, y⟩ := y
    have e := y _ (scr_sq hK rel.sc)
    rw [List.getElem?_map, List.getElem?_eq_getElem hi] at e q'
    cases e; cases q'
    exact ⟨rel, Per.refl _, .int _⟩
  · have q' : (G.ns.map D.int).length ≤ i := q
    exact ⟨_, scr_sq hK rel.sc, by simpa using q'⟩
theorem ii_script {tg : Expr} (i : Nat) {x : Str} {p : Pos} (hK : G.K = X.K) (hN : X.N[i]? = some x := by rfl) (hv : Vis X.env.scope x := by first | exact .inl rfl | exact .inr (.inl rfl) | exact .inr (.inr rfl)) (hd : (x == ("__debug__" : Str)) = false := by decide) (hcd : (x == ("__classdict__" : Str)) = false := by decide) :
    PI3 X G tg (.Name x p) (wScript G i) := by
  refine (pi_list (pe_var (i := i) hN hv hd hcd)).weak fun σ H R ⟨ρ, h, k, rel, ev, ⟨e, q⟩, post⟩ => ?_
  obtain ⟨v, e1, dv⟩ := ev.2 i _ e
  cases dv
  exact ⟨_, e1, G.a, rfl, ⟨_, scr_sq hK rel.sc⟩, post _ _ _ _ q rel (Per.refl H) (it_scr hK)⟩
/-! tests by is, in -/
variable {c : Expr}
theorem tB_of {σ : L2.St} {H : Hp} {Q : Bool → Hp → Prop} (q : tIT G (wB f) σ H Q) : tI G f σ H fun x H' => ∃ k, x = .bl k ∧ Q k H' := tTest_of q
theorem it_isN {j p2} (ha : PE3 X G a f) : PT3 X G (.Compare a [.Is] [.Constant .none j p2] pos) (wB (w1 (rIsN false) f)) := by
  refine (pt_cmp (pc_isN ha) rfl).weak fun σ H Q q => lift1 (f := f) (R := fun x H1 Q => Q (.bl (decide (x = .non))) H1) (Q := fun x H1 => ∃ c, x = .bl c ∧ Q c H1) (fun d x h H k Q rel dx q post => ?_) (tTest_of q)
  unfold rIsN at q
  exact post_bl post rel (by rw [isN_of dx]; simpa using q)
theorem it_notN {j p2} (ha : PE3 X G a f) : PT3 X G (.Compare a [.IsNot] [.Constant .none j p2] pos) (wB (w1 (rIsN true) f)) := by
  refine (pt_cmp (pc_notN ha) rfl).weak fun σ H Q q => lift1 (f := f) (R := fun x H1 Q => Q (.bl (!decide (x = .non))) H1) (Q := fun x H1 => ∃ c, x = .bl c ∧ Q c H1) (fun d x h H k Q rel dx q post => ?_) (tTest_of q)
  unfold rIsN at q
  exact post_bl post rel (by rw [isN_of dx]; simpa using q)
theorem it_din (hu : X.A.units + 1 < cLine) (hi : PE3 X G a f) (ho : PE3 X G b g) (h1 : behindInMarks .In b = false := by rfl) : PT3 X G (.Compare a [.In] [b] pos) (wB (w2 (rDIn false) f g)) := by
  refine (pt_cmp (pc_din hu hi ho) h1).weak fun σ H Q q => lift2 (f := f) (g := g) (R := fun y x H2 Q => ∃ a o, x = .ref a ∧ DGet H2 a y o ∧ Q (.bl o.isSome) H2) (Q := fun x H1 => ∃ c, x = .bl c ∧ Q c H1) (fun d e x y h H k Q rel dx dy ⟨a, o, ed, g, q⟩ post => ?_) (tTest_of q)
  subst ed
  cases dy
  obtain ⟨o', g', r⟩ := g.to rel dx
  refine ⟨a, o', rfl, g', post_bl post rel ?_⟩
  rcases r with ⟨rfl, rfl⟩ | ⟨d, w, rfl, rfl, dv⟩ <;> simpa using q
theorem it_dnotin (hu : X.A.units + 1 < cLine) (hi : PE3 X G a f) (ho : PE3 X G b g) (h1 : behindInMarks .NotIn b = false := by rfl) : PT3 X G (.Compare a [.NotIn] [b] pos) (wB (w2 (rDIn true) f g)) := by
  refine (pt_cmp (pc_dnotin hu hi ho) h1).weak fun σ H Q q => lift2 (f := f) (g := g) (R := fun y x H2 Q => ∃ a o, x = .ref a ∧ DGet H2 a y o ∧ Q (.bl (!o.isSome)) H2) (Q := fun x H1 => ∃ c, x = .bl c ∧ Q c H1) (fun d e x y h H k Q rel dx dy ⟨a, o, ed, g, q⟩ post => ?_) (tTest_of q)
  subst ed
  cases dy
  obtain ⟨o', g', r⟩ := g.to rel dx
  refine ⟨a, o', rfl, g', post_bl post rel ?_⟩
  rcases r with ⟨rfl, rfl⟩ | ⟨d, w, rfl, rfl, dv⟩ <;> simpa using q
/-! in a module's tuple of texts -/
/-- the module's name x is a tuple of these texts -/
def KTup (K : PySem.W.Frag) (mg : Str → Option Value) (x : Str) (l : List Str) : Prop := ∃ a, mg x = some (.ref a) ∧ ∀ H, SqT K H a (l.map V.str)
def rInK (neg : Bool) (l : List Str) : D → H3 → K1 → Prop := fun d h k => ∃ z, d = .str z ∧ k (.bl (decide (z ∈ l) != neg)) h
theorem inV_strs {z : Str} : ∀ {l : List Str}, inV (.str z) (l.map V.str) = decide (z ∈ l)
  | [] => rfl
  | x :: l => by
    show (eqV (.str x) (.str z) || inV (.str z) (l.map V.str)) = _
    rw [inV_strs]
    show ((x == z) || _) = _
    by_cases h : x = z
    · subst h; simp
    · have h' : ¬ z = x := fun e => h e.symm
      simp [h, h']
theorem flat_strs : ∀ {l : List Str}, (l.map V.str).all flatV = true
  | [] => rfl
  | x :: l => by rw [List.map_cons, List.all_cons, flat_strs]; rfl
theorem inK_lift {op : CmpOp} {neg : Bool} {l : List Str} {tp : Addr} (hT : ∀ H, SqT X.K H tp (l.map V.str)) (o : OpR X (compareOp op) (L2.rIn X.K neg)) {σ : L2.St} {H : Hp} {Q : VK} (q : tI G (w1 (rInK neg l) f) σ H Q) :
    tOp (L2.rIn X.K neg) (tI G f) (tC (.ref tp)) σ H Q := by
  refine lift1 (f := f) (R := fun x H1 Q => L2.rIn X.K neg x (.ref tp) H1 Q) (fun d x h H k Q rel dx q post => ?_) q
  obtain ⟨z, rfl, q⟩ := q
  cases dx
  refine ⟨tp, _, rfl, .inr (hT H), rfl, flat_strs, post_bl post rel ?_⟩
  rw [inV_strs]
  cases neg <;> simpa using q
theorem it_inK {x : Str} {p : Pos} {l : List Str} (hT : KTup X.K X.mg x l) (ha : PE3 X G a f) (hg : Gl X x := by rfl) (hd : (x == ("__debug__" : Str)) = false := by decide) (hm : behindInMarks .In (.Name x p) = false := by rfl) : PT3 X G (.Compare a [.In] [.Name x p] pos) (wB (w1 (rInK false l) f)) := by
  obtain ⟨tp, hmg, hT⟩ := hT
  exact (pt_cmpR op_in_seq ha (pe_glob (v := .ref tp) hg hmg rfl hd) hm).weak fun σ H Q q => inK_lift hT op_in_seq (tTest_of q)
theorem it_notinK {x : Str} {p : Pos} {l : List Str} (hT : KTup X.K X.mg x l) (ha : PE3 X G a f) (hg : Gl X x := by rfl) (hd : (x == ("__debug__" : Str)) = false := by decide) (hm : behindInMarks .NotIn (.Name x p) = false := by rfl) : PT3 X G (.Compare a [.NotIn] [.Name x p] pos) (wB (w1 (rInK true l) f)) := by
  obtain ⟨tp, hmg, hT⟩ := hT
  exact (pt_cmpR op_notIn_seq ha (pe_glob (v := .ref tp) hg hmg rfl hd) hm).weak fun σ H Q q => inK_lift hT op_notIn_seq (tTest_of q)
theorem i_inK {x : Str} {p : Pos} {l : List Str} (hT : KTup X.K X.mg x l) (ha : PE3 X G a f) (hg : Gl X x := by rfl) (hd : (x == ("__debug__" : Str)) = false := by decide) (hm : behindInMarks .In (.Name x p) = false := by rfl) : PE3 X G (.Compare a [.In] [.Name x p] pos) (w1 (rInK false l) f) := by
  obtain ⟨tp, hmg, hT⟩ := hT
  exact (pe_cmpR op_in_seq ha (pe_glob (v := .ref tp) hg hmg rfl hd) hm).weak fun σ H Q q => inK_lift hT op_in_seq q
end
end T3
end
-- T3Simp
section
set_option maxRecDepth 100000
set_option maxHeartbeats 4000000
/-! T3Simp: the readings at known values, for simp. -/
namespace T3
open PySem PySem.Spec PyProof.Rows L2
def asB (d : D) (f : Bool → Prop) : Prop := match d with | .bl c => f c | _ => False
@[simp] theorem asB_bl {c : Bool} {f : Bool → Prop} : asB (.bl c) f ↔ f c := Iff.rfl
theorem asB_iff {d : D} {f : Bool → Prop} : (∃ c, d = .bl c ∧ f c) ↔ asB d f := by
  constructor
  · rintro ⟨c, rfl, q⟩; exact q
  · intro q
    unfold asB at q
    split at q
    · exact ⟨_, rfl, q⟩
    · exact q.elim
section
variable {ρ : Ev} {h : H3} {k : K1} {kb : KB} {kl : KL} {E : En} {a b c : WE} {t u : WT} {l : WA} {s s' : WS} {g : WG} {d e : D}
@[simp] theorem s_var {i : Nat} : wVar i ρ h k ↔ ∃ d, ρ[i]? = some (some d) ∧ k d h := Iff.rfl
@[simp] theorem s_c : wC d ρ h k ↔ k d h := Iff.rfl
@[simp] theorem s_w1 {r : D → H3 → K1 → Prop} : w1 r a ρ h k ↔ a ρ h fun d h1 => r d h1 k := Iff.rfl
@[simp] theorem s_w2 {r : D → D → H3 → K1 → Prop} : w2 r a b ρ h k ↔ a ρ h fun d h1 => b ρ h1 fun e h2 => r d e h2 k := Iff.rfl
@[simp] theorem s_nil : wNil ρ h kl ↔ kl [] h := Iff.rfl
@[simp] theorem s_cons : wCons a l ρ h kl ↔ a ρ h fun d h1 => l ρ h1 fun x h2 => kl (d :: x) h2 := Iff.rfl
@[simp] theorem s_L {r : List D → H3 → K1 → Prop} : wL r l ρ h k ↔ l ρ h fun x h1 => r x h1 k := Iff.rfl
@[simp] theorem s_if : wIf t a b ρ h k ↔ t ρ h fun c h1 => if c = true then a ρ h1 k else b ρ h1 k := Iff.rfl
@[simp] theorem s_B : wB a ρ h kb ↔ a ρ h fun d h1 => asB d fun c => kb c h1 := by simp only [wB, asB_iff]
@[simp] theorem s_and : wAnd t u ρ h kb ↔ t ρ h fun c h1 => if c = true then u ρ h1 kb else kb false h1 := Iff.rfl
@[simp] theorem s_or : wOr t u ρ h kb ↔ t ρ h fun c h1 => if c = true then kb true h1 else u ρ h1 kb := Iff.rfl
@[simp] theorem s_not : wNot t ρ h kb ↔ t ρ h fun c h1 => kb (!c) h1 := Iff.rfl
@[simp] theorem s_andV : wAndV a b ρ h k ↔ a ρ h fun d h1 => asB d fun c => if c = true then b ρ h1 k else k (.bl false) h1 := by simp only [wAndV, asB_iff]
@[simp] theorem s_orV : wOrV a b ρ h k ↔ a ρ h fun d h1 => asB d fun c => if c = true then k (.bl true) h1 else b ρ h1 k := by simp only [wOrV, asB_iff]
@[simp] theorem s_notV : wNotV a ρ h k ↔ a ρ h fun d h1 => asB d fun c => k (.bl (!c)) h1 := by simp only [wNotV, asB_iff]
@[simp] theorem s_tup {x : List D} : rTup x h k ↔ x.length ≤ 16777216 ∧ k (.tup x) h := Iff.rfl
@[simp] theorem s_lst {x : List D} : rLst x h k ↔ x.length ≤ 16777216 ∧ ∀ p, h p = none → k (.ref p) (up h p (.lst x)) := Iff.rfl
@[simp] theorem s_next : wNext E ρ h ↔ E.nx ρ h := Iff.rfl
@[simp] theorem s_seq : wSeq s s' E ρ h ↔ s { E with nx := s' E } ρ h := Iff.rfl
@[simp] theorem s_break : wBreak E ρ h ↔ E.bk ρ h := Iff.rfl
@[simp] theorem s_cont : wCont E ρ h ↔ E.ct ρ h := Iff.rfl
@[simp] theorem s_drop : wDrop a E ρ h ↔ a ρ h fun _ h1 => E.nx ρ h1 := Iff.rfl
@[simp] theorem s_ret : wRet a E ρ h ↔ a ρ h E.rt := Iff.rfl
@[simp] theorem s_retN : wRetN E ρ h ↔ E.rt .non h := Iff.rfl
@[simp] theorem s_ifS : wIfS t s s' E ρ h ↔ t ρ h fun c h1 => if c = true then s E ρ h1 else s' E ρ h1 := Iff.rfl
@[simp] theorem s_asg : wAsg a g E ρ h ↔ a ρ h fun d h1 => g d ρ h1 E.nx := Iff.rfl
@[simp] theorem s_gN {i : Nat} {kn : Ev → H3 → Prop} : gN i d ρ h kn ↔ kn (ρ.set i (some d)) h := Iff.rfl
@[simp] theorem s_gIx {kn : Ev → H3 → Prop} : gIx a b d ρ h kn ↔ a ρ h fun x h1 => b ρ h1 fun y h2 => rSetIx x y d h2 fun h3 => kn ρ h3 := Iff.rfl
@[simp] theorem s_gT {gs : List WG} {kn : Ev → H3 → Prop} {m : List D} : gT gs (.tup m) ρ h kn ↔ m.length = gs.length ∧ gT.go gs m ρ h kn := by
  constructor
  · rintro ⟨l, e, q⟩; cases e; exact q
  · intro q; exact ⟨m, rfl, q⟩
@[simp] theorem s_go_nil {m : List D} {kn : Ev → H3 → Prop} : gT.go [] m ρ h kn ↔ kn ρ h := Iff.rfl
@[simp] theorem s_go_cons {gs : List WG} {m : List D} {kn : Ev → H3 → Prop} : gT.go (g :: gs) (d :: m) ρ h kn ↔ g d ρ h fun ρ1 h1 => gT.go gs m ρ1 h1 kn := by
  constructor
  · rintro ⟨x, r, e, q⟩; cases e; exact q
  · intro q; exact ⟨d, m, rfl, q⟩
@[simp] theorem s_setIx {p : Addr} {n : Int} {kh : H3 → Prop} : rSetIx (.ref p) (.int n) d h kh ↔ ∃ l j, h p = some (.lst l) ∧ ixN l.length n = some j ∧ kh (up h p (.lst (l.set j d))) := by
  constructor
  · rintro ⟨_, _, l, j, e1, e2, q⟩; cases e1; cases e2; exact ⟨l, j, q⟩
  · rintro ⟨l, j, q⟩; exact ⟨p, n, l, j, rfl, rfl, q⟩
@[simp] theorem s_add_ii {i j : Int} : rAdd (.int i) (.int j) h k ↔ k (.int (i + j)) h := Iff.rfl
@[simp] theorem s_add_ss {i j : Str} : rAdd (.str i) (.str j) h k ↔ i.length + j.length ≤ 16777216 ∧ k (.str (i ++ j)) h := Iff.rfl
@[simp] theorem s_add_tt {i j : List D} : rAdd (.tup i) (.tup j) h k ↔ i.length + j.length ≤ 16777216 ∧ k (.tup (i ++ j)) h := Iff.rfl
@[simp] theorem s_add_ll {i j : Addr} : rAdd (.ref i) (.ref j) h k ↔ ∃ l m, h i = some (.lst l) ∧ h j = some (.lst m) ∧ l.length + m.length ≤ 16777216 ∧ ∀ p, h p = none → k (.ref p) (up h p (.lst (l ++ m))) := Iff.rfl
@[simp] theorem s_int {i j : Int} {C : Int → Int → Prop} {f : Int → Int → Int} : rInt C f (.int i) (.int j) h k ↔ C i j ∧ k (.int (f i j)) h := Iff.rfl
@[simp] theorem s_mul {i j : Int} : rMul (.int i) (.int j) h k ↔ ((-18446744073709551616 < i ∧ i < 18446744073709551616) ∨ (-18446744073709551616 < j ∧ j < 18446744073709551616)) ∧ k (.int (i * j)) h := Iff.rfl
@[simp] theorem s_mul_l {p : Addr} {n : Int} : rMul (.ref p) (.int n) h k ↔ ∃ l, h p = some (.lst l) ∧ -(2 ^ 63) ≤ n ∧ n < 2 ^ 63 ∧ l.length * n.toNat ≤ 16777216 ∧ ∀ p, h p = none → k (.ref p) (up h p (.lst (List.replicate n.toNat l).flatten)) := Iff.rfl
@[simp] theorem s_mul_s {z : Str} {n : Int} : rMul (.str z) (.int n) h k ↔ PySem.MulOk z n ∧ k (.str (PySem.Txt.mul z n)) h := Iff.rfl
@[simp] theorem s_neg {i : Int} : rNeg (.int i) h k ↔ k (.int (-i)) h := Iff.rfl
@[simp] theorem s_cmpI {i j : Int} {f : Int → Int → Bool} : rCmpI f (.int i) (.int j) h k ↔ k (.bl (f i j)) h := Iff.rfl
@[simp] theorem s_lt_ii {i j : Int} : rLt (.int i) (.int j) h k ↔ k (.bl (decide (i < j))) h := Iff.rfl
@[simp] theorem s_lt_ss {i j : Str} : rLt (.str i) (.str j) h k ↔ k (.bl (decide (i.cps.toList < j.cps.toList))) h := Iff.rfl
@[simp] theorem s_eq_ii {i j : Int} {n : Bool} : rEqN n (.int i) (.int j) h k ↔ k (.bl (decide (i = j) != n)) h := Iff.rfl
@[simp] theorem s_eq_ss {i j : Str} {n : Bool} : rEqN n (.str i) (.str j) h k ↔ k (.bl (decide (i = j) != n)) h := Iff.rfl
@[simp] theorem s_isN {n : Bool} : rIsN n d h k ↔ k (.bl (d.isN != n)) h := Iff.rfl
@[simp] theorem isN_non : D.isN .non = true := rfl
@[simp] theorem isN_bl {x : Bool} : D.isN (.bl x) = false := rfl
@[simp] theorem isN_int {x : Int} : D.isN (.int x) = false := rfl
@[simp] theorem isN_str {x : Str} : D.isN (.str x) = false := rfl
@[simp] theorem isN_tup {x : List D} : D.isN (.tup x) = false := rfl
@[simp] theorem isN_ref {x : Addr} : D.isN (.ref x) = false := rfl
@[simp] theorem s_ix_t {m : List D} {i : Int} : rIx (.tup m) (.int i) h k ↔ ∃ d, atI m i = some d ∧ k d h := Iff.rfl
@[simp] theorem s_ix_l {p : Addr} {i : Int} : rIx (.ref p) (.int i) h k ↔ ∃ l d, h p = some (.lst l) ∧ atI l i = some d ∧ k d h := Iff.rfl
@[simp] theorem s_ix_s {z : Str} {i : Int} : rIx (.str z) (.int i) h k ↔ z.length ≤ 16777216 ∧ ∃ c, atI z.cps.toList i = some c ∧ k (.str ⟨#[c]⟩) h := Iff.rfl
@[simp] theorem s_len_s {z : Str} : rLen [.str z] h k ↔ z.length ≤ 16777216 ∧ k (.int z.length) h := by
  constructor
  · rintro ⟨x, e, q⟩; cases e; exact q
  · intro q; exact ⟨_, rfl, q⟩
@[simp] theorem s_len_t {m : List D} : rLen [.tup m] h k ↔ k (.int m.length) h := by
  constructor
  · rintro ⟨x, e, q⟩; cases e; exact q
  · intro q; exact ⟨_, rfl, q⟩
@[simp] theorem s_len_l {p : Addr} : rLen [.ref p] h k ↔ ∃ l, h p = some (.lst l) ∧ k (.int l.length) h := by
  constructor
  · rintro ⟨x, e, q⟩; cases e; exact q
  · intro q; exact ⟨_, rfl, q⟩
theorem dg_dK {p : Addr} {kvs : List (Key × D)} {y : D} {o : Option D} (e : h p = some (.dK kvs)) : DG h p y o ↔ ∃ k, keyOf y = some k ∧ o = valD kvs k := by
  constructor
  · rintro (⟨kv, k, e', ek, q⟩ | ⟨kv, k, e', _⟩)
    · rw [e] at e'; cases e'; exact ⟨k, ek, q⟩
    · rw [e] at e'; cases e'
  · rintro ⟨k, ek, q⟩; exact .inl ⟨kvs, k, e, ek, q⟩
@[simp] theorem s_I1 {f : Int → Int} {i : Int} : rI1 f [.int i] h k ↔ k (.int (f i)) h := by
  constructor
  · rintro ⟨x, e, q⟩; cases e; exact q
  · intro q; exact ⟨i, rfl, q⟩
@[simp] theorem s_I2 {f : Int → Int → Int} {i j : Int} : rI2 f [.int i, .int j] h k ↔ k (.int (f i j)) h := by
  constructor
  · rintro ⟨x, y, e, q⟩; cases e; exact q
  · intro q; exact ⟨i, j, rfl, q⟩
@[simp] theorem s_toInt_i {i : Int} : rToInt [.int i] h k ↔ k (.int i) h := by
  constructor
  · rintro ⟨x, e, q⟩; cases e; exact q
  · intro q; exact ⟨_, rfl, q⟩
@[simp] theorem s_toInt_b {i : Bool} : rToInt [.bl i] h k ↔ k (.int (if i then 1 else 0)) h := by
  constructor
  · rintro ⟨x, e, q⟩; cases e; exact q
  · intro q; exact ⟨_, rfl, q⟩
@[simp] theorem s_tupOf_t {m : List D} : rTupleOf [.tup m] h k ↔ k (.tup m) h := by
  constructor
  · rintro ⟨x, e, q⟩; cases e; exact q
  · intro q; exact ⟨_, rfl, q⟩
@[simp] theorem s_tupOf_l {p : Addr} : rTupleOf [.ref p] h k ↔ ∃ l, h p = some (.lst l) ∧ k (.tup l) h := by
  constructor
  · rintro ⟨x, e, q⟩; cases e; exact q
  · intro q; exact ⟨_, rfl, q⟩
@[simp] theorem s_lstOf_t {m : List D} : rListOf [.tup m] h k ↔ ∀ p, h p = none → k (.ref p) (up h p (.lst m)) := by
  constructor
  · rintro ⟨x, e, q⟩; cases e; exact q
  · intro q; exact ⟨_, rfl, q⟩
@[simp] theorem s_lstOf_l {p : Addr} : rListOf [.ref p] h k ↔ ∃ l, h p = some (.lst l) ∧ ∀ p, h p = none → k (.ref p) (up h p (.lst l)) := by
  constructor
  · rintro ⟨x, e, q⟩; cases e; exact q
  · intro q; exact ⟨_, rfl, q⟩
@[simp] theorem s_dget {p : Addr} {y : D} : rDGet (.ref p) y h k ↔ ∃ v, DG h p y (some v) ∧ k v h := by
  constructor
  · rintro ⟨a, v, e, q⟩; cases e; exact ⟨v, q⟩
  · rintro ⟨v, q⟩; exact ⟨p, v, rfl, q⟩
@[simp] theorem s_fld {C : Addr} {N : List Str} {j : Nat} : wFld C N j a ρ h k ↔ a ρ h fun x h1 => ∃ p vs d, x = .ref p ∧ h1 p = some (.ins C N vs) ∧ vs[j]? = some d ∧ k d h1 := Iff.rfl
@[simp] theorem s_sl {lo hi : WO} : wSl a lo hi ρ h k ↔ a ρ h fun d h1 => lo ρ h1 fun x h2 => hi ρ h2 fun y h3 => rSl d x y h3 k := Iff.rfl
@[simp] theorem s_oNone {ko : Option Int → H3 → Prop} : oNone ρ h ko ↔ ko none h := Iff.rfl
@[simp] theorem s_oSome {ko : Option Int → H3 → Prop} : oSome a ρ h ko ↔ a ρ h fun d h1 => ∃ i, d = .int i ∧ ko (some i) h1 := Iff.rfl
@[simp] theorem s_sl_t {m : List D} {lo hi : Option Int} : rSl (.tup m) lo hi h k ↔ k (.tup (cutD m lo hi)) h := Iff.rfl
@[simp] theorem s_sl_l {p : Addr} {lo hi : Option Int} : rSl (.ref p) lo hi h k ↔ ∃ l, h p = some (.lst l) ∧ ∀ p, h p = none → k (.ref p) (up h p (.lst (cutD l lo hi))) := Iff.rfl
end
@[simp] theorem atI_lit {α : Type} {l : List α} {n : Nat} : atI l (no_index (OfNat.ofNat n : Int)) = l[n]? := by
  have e : (OfNat.ofNat n : Int) = (n : Int) := rfl
  rw [e]
  cases q : l[n]? with
  | some v => exact atI_nat q
  | none =>
    unfold atI ixN
    have hn : l.length ≤ n := List.getElem?_eq_none_iff.mp q
    rw [if_pos (by omega), if_neg (by omega)]; rfl
@[simp] theorem ixN_lit {m n : Nat} : ixN m (no_index (OfNat.ofNat n : Int)) = if n < m then some n else none := by
  have e : (OfNat.ofNat n : Int) = (n : Int) := rfl
  rw [e]
  unfold ixN
  rw [if_pos (by omega)]
  by_cases h : n < m
  · rw [if_pos (by omega), if_pos h]; rfl
  · rw [if_neg (by omega), if_neg h]
@[simp] theorem ev0_nil {N : List Str} : ev0 N [] = List.replicate N.length none := by simp [ev0]
theorem ofString_inj {a b : String} (h : Str.ofString a = Str.ofString b) : a = b := by
  have e1 := PyProof.Rows.signs_ofString a
  have e2 := PyProof.Rows.signs_ofString b
  rw [h] at e1
  have e : a.toList.map Char.toNat = b.toList.map Char.toNat := e1.symm.trans e2
  have inj : ∀ {l m : List Char}, l.map Char.toNat = m.map Char.toNat → l = m := by
    intro l
    induction l with
    | nil => intro m h; cases m with | nil => rfl | cons _ _ => simp at h
    | cons x l ih =>
      intro m h
      cases m with
      | nil => simp at h
      | cons y m =>
        simp only [List.map_cons, List.cons.injEq] at h
        have hx : x = y := Char.ext (UInt32.toNat_inj.mp h.1)
        rw [hx, ih h.2]
  exact String.ext_iff.mpr (inj e)
@[simp] theorem ofString_iff {a b : String} : Str.ofString a = Str.ofString b ↔ a = b := ⟨ofString_inj, fun e => by rw [e]⟩
/-! plain data -/
mutual
def D.py : D → PyData
  | .non => .none
  | .bl b => .bool b
  | .int i => .int i
  | .str x => .str x
  | .tup l => .tuple (D.pyL l)
  | .ref _ => .none
def D.pyL : List D → List PyData
  | [] => []
  | d :: l => d.py :: D.pyL l
end
mutual
/-- no list, no dict; its texts are texts -/
def D.ok : D → Bool
  | .str x => PyData.strOk x
  | .tup l => D.okL l
  | .ref _ => false
  | _ => true
def D.okL : List D → Bool
  | [] => true
  | d :: l => d.ok && D.okL l
end
mutual
theorem rs_py {h : H3} : ∀ {d : D}, d.ok = true → Rs h d d.py
  | .non, _ => .non
  | .bl b, _ => .bl b
  | .int i, _ => .int i
  | .str x, z => .str x z
  | .tup l, z => .tup (rsl_py (by simpa [D.ok] using z))
  | .ref _, z => by simp [D.ok] at z
theorem rsl_py {h : H3} : ∀ {l : List D}, D.okL l = true → RsL h l (D.pyL l)
  | [], _ => .nil
  | d :: l, z => by
    simp only [D.okL, Bool.and_eq_true] at z
    exact .cons (rs_py z.1) (rsl_py z.2)
end
theorem okL_iff : ∀ {l : List D}, D.okL l = true ↔ ∀ d ∈ l, d.ok = true
  | [] => by simp [D.okL]
  | d :: l => by simp [D.okL, okL_iff (l := l)]
theorem rEq_of {x y : D} {h : H3} {k : K1} {p q : PyData} {n : Bool} (hx : Rs h x p) (hy : Rs h y q) (hm : min p.depth q.depth ≤ 64) (qq : k (.bl (PyData.eqv p q != n)) h) : rEqN n x y h k := by
  unfold rEqN
  split
  · cases hx; cases hy
    simpa [PyData.eqv, Bool.beq_eq_decide_eq] using qq
  · cases hx; cases hy
    simpa [PyData.eqv, Bool.beq_eq_decide_eq] using qq
  · exact ⟨p, q, hx, hy, hm, qq⟩
theorem rEq_py {x y : D} {h : H3} {k : K1} {n : Bool} (hx : x.ok = true) (hy : y.ok = true) (hm : min x.py.depth y.py.depth ≤ 64) (qq : k (.bl (PyData.eqv x.py y.py != n)) h) : rEqN n x y h k := rEq_of (rs_py hx) (rs_py hy) hm qq
theorem rEq_nil {l : List D} {h : H3} {k : K1} {n : Bool} (hl : D.okL l = true) (qq : k (.bl (l.isEmpty != n)) h) : rEqN n (.tup l) (.tup []) h k := by
  refine rEq_of (.tup (rsl_py hl)) (.tup .nil) (Nat.le_trans (Nat.min_le_right _ _) (by decide)) ?_
  cases l with
  | nil => simpa [D.pyL, PyData.eqv, PyData.eqvAll] using qq
  | cons d l => simpa [D.pyL, PyData.eqv, PyData.eqvAll] using qq
theorem rEq_nilL {a b : Addr} {l : List D} {h : H3} {k : K1} {n : Bool} (ha : h a = some (.lst l)) (hb : h b = some (.lst [])) (hl : D.okL l = true) (qq : k (.bl (l.isEmpty != n)) h) : rEqN n (.ref a) (.ref b) h k := by
  refine rEq_of (.lst ha (rsl_py hl)) (.lst hb .nil) (Nat.le_trans (Nat.min_le_right _ _) (by decide)) ?_
  cases l <;> exact qq
end T3
end
-- T3Sort
section
set_option maxRecDepth 100000
set_option maxHeartbeats 4000000
/-! T3Sort: sorted. -/
namespace T3
open PySem PySem.Spec PySem.Calls PyProof.Rows PySem.W L2
/-- two rows of data that < can compare: alike up to the first place where they differ -/
def tOk : List PyData → List PyData → Prop
  | x :: xs, y :: ys => alike x y = true ∧ x ≠ .none ∧ (PyData.eqv x y = true → tOk xs ys)
  | _, _ => True
section
variable {prog : Program} {w : World} {A : Around} {s : Shared}
theorem depthAll_cons {x : PyData} {xs : List PyData} : x.depth ≤ PyData.depthAll (x :: xs) ∧ PyData.depthAll xs ≤ PyData.depthAll (x :: xs) := by
  simp only [PyData.depthAll]; omega
theorem katLex_tok {b fin : Bool} {Q : Bool → Shared → Prop} (hu : A.units + 64 < cLine) : ∀ (xs ys : List PyData) (i : Nat) (vs ws : List Value) (as bs : List Addr), ReadsAll s.heap vs xs as → ReadsAll s.heap ws ys bs → tOk xs ys →
    PyData.depthAll xs ≤ 64 → (b = true → i = 0 → ∀ x r t, xs = x :: r → x ≠ .tuple t) → fin = decide (xs.length < ys.length) → Q (PyProof.Rows.lexLt itemOrd (keyToksAll xs) (keyToksAll ys)) s → KatLex prog w A b fin Q (vs.zip ws) i s
  | [], [], i, _, _, _, _, ra, rb, _, _, _, hf, hq => by
    cases ra
    cases rb
    have e : fin = false := by rw [hf]; rfl
    subst e
    rw [lex_irrefl] at hq
    exact kat_nil hq
  | [], y :: ys, i, _, _, _, _, ra, rb, _, _, _, hf, hq => by
    cases ra
    have e : fin = true := by rw [hf]; exact decide_eq_true (Nat.succ_pos _)
    subst e
    rw [toks_all_cons] at hq
    simp only [keyToksAll] at hq
    rw [lex_diff (O := itemOrd) (by simp)] at hq
    rw [List.zip_nil_left]
    exact kat_nil (by simpa [itemLt] using hq)
  | x :: xs, [], i, _, _, _, _, ra, rb, _, _, _, hf, hq => by
    cases rb
    have e : fin = false := by rw [hf]; exact decide_eq_false (Nat.not_lt_zero _)
    subst e
    rw [toks_all_cons] at hq
    simp only [keyToksAll] at hq
    rw [lex_diff (O := itemOrd) (by simp)] at hq
    rw [List.zip_nil_right]
    exact kat_nil (by simpa [itemLt] using hq)
  | x :: xs, y :: ys, i, _, _, _, _, ra, rb, h, hd, hb, hf, hq => by
    obtain ⟨h1, hn, h2⟩ := h
    have hf' : fin = decide (xs.length < ys.length) := by
      rw [hf]
      simp only [List.length_cons, Nat.add_lt_add_iff_right]
    have hdx := depthAll_cons (x := x) (xs := xs)
    have hroom : A.units + min x.depth y.depth < cLine := by have := Nat.min_le_left x.depth y.depth; omega
    cases ra with
    | cons r rs =>
      cases rb with
      | cons r' rs' =>
        rw [List.zip_cons_cons]
        refine kat_cons (eqAt_alike x y A s _ _ _ _ r r' h1 hroom prog w _ _ ?_)
        cases hx : PyData.eqv x y with
        | true =>
          rw [dataLt_all_yes h1 hx] at hq
          exact kat_yes (katLex_tok hu xs ys (i + 1) _ _ _ _ rs rs' (h2 hx) (by omega) (fun _ hi => absurd hi (Nat.succ_ne_zero i)) hf' hq)
        | false =>
          rw [dataLt_all_no h1 hx] at hq
          refine kat_no (oneLt_alike (fun hbi t => ?_) r r' h1 hn hroom hq)
          rw [Bool.and_eq_true] at hbi
          exact hb hbi.1 (by simpa using hbi.2) x xs t rfl
/-- rows that sorted takes: tuples whose first items are of one type, or no tuples at all -/
def Srtb (ps : List PyData) : Prop :=
  (∃ T : Value, (T == T) = true ∧ (∀ p ∈ ps, ∃ x r, p = .tuple (x :: r) ∧ dataType x = T) ∧ ∀ xs ys, .tuple xs ∈ ps → .tuple ys ∈ ps → tOk xs ys) ∨
  (AllAlike ps ∧ ∀ p ∈ ps, p ≠ .none ∧ ∀ xs, p ≠ .tuple xs)
theorem swo_data {α : Type} (f : α → PyData) : SrtO.Swo fun x y => dataLt (f x) (f y) := by
  refine ⟨fun x y h => ?_, fun x y z h1 h2 => ?_⟩
  · cases e : dataLt (f y) (f x) with
    | false => rfl
    | true =>
      have := lex_trans (O := itemOrd) _ _ _ h e
      rw [lex_irrefl] at this; cases this
  · cases e : dataLt (f z) (f x) with
    | false => rfl
    | true =>
      rcases lex_negTrans (O := itemOrd) (keyToks (f z)) (keyToks (f y)) (keyToks (f x)) e with q | q
      · exact absurd (q.symm.trans h2) (by decide)
      · exact absurd (q.symm.trans h1) (by decide)
theorem sortable_data {h0 : Heap} {a : Addr} {vs : List Value} {f : Value → PyData} (h2 : 2 ≤ vs.length) (keep : ∀ b o, h0.get? b = some o → b ≠ a ∧ s.heap.get? b = some o)
    (hr : ∀ v ∈ vs, ∃ as, Reads h0 v (f v) as) (hd : ∀ v ∈ vs, (f v).depth ≤ 64) (hs : Srtb (vs.map f)) (hu : A.units + 64 < cLine) : SrtO.SortableO prog w A s a vs fun v u => dataLt (f v) (f u) := by
  intro h' kp
  have hr' : ∀ v ∈ vs, ∃ as, Reads h' v (f v) as := fun v hv => by
    obtain ⟨as, r⟩ := hr v hv
    exact ⟨as, PyProof.Rows.Reads.keeps (fun b o e => kp b o (keep b o e).1 (keep b o e).2) r⟩
  rcases hs with ⟨T, hT, ht, hok⟩ | ⟨hal, hn⟩
  · refine ⟨tuples' (T != Value.type "tuple"), fun Q E hq => ?_, ?_⟩
    · have e : EachIs (fun v d => ∃ as, Reads h' v d as) vs (vs.map f) := by
        clear hok ht hd hr h2
        induction vs with
        | nil => exact .nil
        | cons v vs ih => exact .cons (hr' v List.mem_cons_self) (ih fun u hu => hr' u (List.mem_cons_of_mem _ hu))
      obtain ⟨fs, t1, t2, t3⟩ := each_katTups e fun d hd => by
        obtain ⟨x, r, e, _⟩ := ht d hd
        exact ⟨x, r, e⟩
      refine kat_kind (T := T) t1 (by omega) (fun g hg => ?_) hT hq
      obtain ⟨x, r, as, m1, m2⟩ := t3 g hg
      obtain ⟨x', r', e', eT⟩ := ht _ m1
      cases e'
      rw [← eT]
      exact looks_reads m2
    · intro p q hp hq
      have hp' : f p.1 ∈ vs.map f := List.mem_map_of_mem hp
      have hq' : f q.1 ∈ vs.map f := List.mem_map_of_mem hq
      obtain ⟨as, ra⟩ := hr' _ hp
      obtain ⟨bs, rb⟩ := hr' _ hq
      have hdp := hd _ hp
      show wpAny (model prog w) A (keyLt' _ p.1 q.1) (fun r s' => s' = _ ∧ r = dataLt (f p.1) (f q.1)) _ _
      generalize f p.1 = dp at *
      generalize f q.1 = dq at *
      obtain ⟨x1, r1, rfl, e1⟩ := ht _ hp'
      obtain ⟨x2, r2, rfl, e2⟩ := ht _ hq'
      rw [dataLt_tuple]
      generalize p.1 = u at *
      generalize q.1 = v at *
      cases ra with
      | @tuple l o xs n _ _ k1 k2 k3 k4 =>
        cases rb with
        | @tuple l' o' xs' n' _ _ j1 j2 j3 j4 =>
          have n1 : xs.size = (x1 :: r1).length := by simpa using SeqAt.ReadsAll.length _ _ _ k4
          have n2 : xs'.size = (x2 :: r2).length := by simpa using SeqAt.ReadsAll.length _ _ _ j4
          refine kat_lt k1 k3 j1 j3 (katLex_tok hu (x1 :: r1) (x2 :: r2) 0 _ _ _ _ k4 j4 (hok _ _ hp' hq') ?_ (fun hb _ x r t ex => ?_) (by rw [n1, n2]) ⟨rfl, rfl⟩)
          · have : (PyData.tuple (x1 :: r1)).depth = PyData.depthAll (x1 :: r1) + 1 := by simp [PyData.depth]
            omega
          · obtain ⟨rfl, rfl⟩ := List.cons.inj ex
            rw [← e1] at hb
            exact dataType_tuple hb t
  · obtain ⟨v0, vr, rfl⟩ : ∃ v0 vr, vs = v0 :: vr := by
      cases vs with
      | nil => simp at h2
      | cons v0 vr => exact ⟨_, _, rfl⟩
    have m0 : f v0 ∈ (v0 :: vr).map f := List.mem_map_of_mem List.mem_cons_self
    refine ⟨oneType', fun Q E hq => ?_, ?_⟩
    · refine kas_kind (T := dataType (f v0)) h2 (fun v hv => ?_) (dataType_other (hn _ m0).2) (beq_self_eq_true _) hq
      obtain ⟨as, r⟩ := hr' v hv
      rw [← dataType_alike (hal _ (List.mem_map_of_mem hv) _ m0)]
      exact looks_reads r
    · intro p q hp hq
      obtain ⟨as, ra⟩ := hr' _ hp
      obtain ⟨bs, rb⟩ := hr' _ hq
      have hdp := hd _ hp
      show wpAny (model prog w) A (keyLt' _ p.1 q.1) (fun r s' => s' = _ ∧ r = dataLt (f p.1) (f q.1)) _ _
      rw [keyLt'_oneType]
      exact oneLt_alike (fun _ => (hn _ (List.mem_map_of_mem hp)).2) ra rb (hal _ (List.mem_map_of_mem hp) _ (List.mem_map_of_mem hq)) (hn _ (List.mem_map_of_mem hp)).1 (by have := Nat.min_le_left (f p.1).depth (f q.1).depth; omega) ⟨rfl, rfl⟩
end
/-- a value back to a V -/
def bk3 : Value → V
  | .ref a => .ref a
  | .int i _ => .int i
  | .str x _ => .str x
  | .bool b => .bl b
  | .bytes b _ => .byt b
  | .float b _ => .flt b
  | .type n => .ty n
  | _ => .non
theorem bk3_of {x : V} {u : Value} (r : RelV x u) : bk3 u = x := by
  cases x with
  | non => cases (show u = Value.none from r); rfl
  | bl b => cases (show u = Value.bool b from r); rfl
  | int i => obtain ⟨t, rfl⟩ := (show ∃ t, u = Value.int i t from r); rfl
  | str i => obtain ⟨t, rfl⟩ := (show ∃ t, u = Value.str i t from r); rfl
  | byt i => obtain ⟨t, rfl⟩ := (show ∃ t, u = Value.bytes i t from r); rfl
  | flt i => obtain ⟨t, rfl⟩ := (show ∃ t, u = Value.float i t from r); rfl
  | ref a => cases (show u = Value.ref a from r); rfl
  | ty n => cases (show u = Value.type n from r); rfl
theorem bk3_all : ∀ {xs : List V} {us : List Value}, Vals xs us → us.map bk3 = xs ∧ ∀ u ∈ us, RelV (bk3 u) u
  | _, _, .nil => ⟨rfl, fun u h => nomatch h⟩
  | _, _, .cons r t => by
    obtain ⟨h1, h2⟩ := bk3_all t
    refine ⟨by rw [List.map_cons, h1, bk3_of r], fun u hu => ?_⟩
    rcases List.mem_cons.mp hu with rfl | hu
    · rw [bk3_of r]; exact r
    · exact h2 u hu
theorem bk3_vals : ∀ {us : List Value}, (∀ u ∈ us, RelV (bk3 u) u) → Vals (us.map bk3) us
  | [], _ => .nil
  | u :: us, h => .cons (h u List.mem_cons_self) (bk3_vals fun v hv => h v (List.mem_cons_of_mem _ hv))
def rSortedV (K : PySem.W.Frag) : List V → Hp → VK → Prop := fun vs H Q => ∃ (a : Addr) (xs : List V) (f : V → PyData), vs = [V.ref a] ∧ SqL K H a xs ∧ (∀ x ∈ xs, Dp K H x (f x) ∧ (f x).depth ≤ 64) ∧ Srtb (xs.map f) ∧
  ∀ ys p, SrtO.Srtd (fun x y => dataLt (f x) (f y)) ys → ys.Perm xs → H p = none → Q (.ref p) (upd H p (.lst ys))
section
variable {X : Cx}
theorem cr_sortedV (hu : X.A.units + 70 < cLine) : CallR X (.builtin "sorted") (rSortedV X.K) := by
  intro pins s σ H vs us Q I r h
  obtain ⟨a, xs, f, rfl, hs, hx, hsb, q⟩ := h
  obtain ⟨its, rv, hl, hz⟩ := I.list hs
  obtain ⟨u, rfl, ru⟩ := vals1 r
  obtain rfl : u = Value.ref a := ru
  obtain ⟨e1, e2⟩ := bk3_all rv
  have hm : ∀ v ∈ its, bk3 v ∈ xs := fun v hv => by rw [← e1]; exact List.mem_map_of_mem hv
  refine SrtO.sorted_ord (ltv := fun v u => dataLt (f (bk3 v)) (f (bk3 u))) (swo_data _) hl.isList (by rw [← rv.length]; exact hz) (fun h2 h₁ a' ha' kp => ?_) fun out h1 h2 => ?_
  · refine sortable_data (h0 := s.heap) (f := fun v => f (bk3 v)) h2 kp (fun v hv => ?_) (fun v hv => (hx _ (hm v hv)).2) ?_ (by show X.A.units + 1 + 1 + 64 < cLine; omega)
    · exact Dp.reads I _ _ _ (hx _ (hm v hv)).1 (e2 v hv)
    · rw [show its.map (fun v => f (bk3 v)) = xs.map f by rw [← e1, List.map_map]; rfl]
      exact hsb
  · obtain ⟨c, hc⟩ := sortedAll_at s.heap its out.toArray
    have hd : s.heap.objs.size ≤ s.heap.objs.size + 1 := Nat.le_succ _
    have h3 : ∀ u ∈ out, RelV (bk3 u) u := fun u hu => e2 u (h2.perm.mem_iff.mp hu)
    have hb : (out.map bk3).Perm xs := by rw [← e1]; exact h2.perm.map _
    refine ⟨.ref (s.heap.objs.size + 1), upd H (s.heap.objs.size + 1) (.lst (out.map bk3)), I.laid (t' := s.toks) (fun _ _ => sortedAll_old) hd ⟨?_, out, c, bk3_vals h3, hc⟩, rfl, q _ _ (SrtO.srtd_map h1) hb (I.hok.fresh hd)⟩
    rw [hb.length_eq]
    exact hz
end
mutual
theorem DV.det {H : Hp} : ∀ {d e : D} {v : V}, d.ok = true → e.ok = true → DV H d v → DV H e v → d = e
  | .non, e, _, _, he, h1, h2 => by cases h1; cases h2; rfl
  | .bl b, e, _, _, he, h1, h2 => by cases h1; cases h2; rfl
  | .int b, e, _, _, he, h1, h2 => by cases h1; cases h2; rfl
  | .str b, e, _, _, he, h1, h2 => by cases h1; cases h2; rfl
  | .ref a, e, _, hd, he, h1, h2 => by simp [D.ok] at hd
  | .tup l, e, _, hd, he, h1, h2 => by
    cases h1 with
    | tup a1 r1 =>
      cases h2 with
      | ref => simp [D.ok] at he
      | tup a2 r2 =>
        rw [a1] at a2; cases a2
        rw [DVs.det (by simpa [D.ok] using hd) (by simpa [D.ok] using he) r1 r2]
theorem DVs.det {H : Hp} : ∀ {d e : List D} {v : List V}, D.okL d = true → D.okL e = true → DVs H d v → DVs H e v → d = e
  | [], _, _, _, _, h1, h2 => by cases h1; cases h2; rfl
  | d :: l, _, _, hd, he, h1, h2 => by
    cases h1 with
    | cons a1 r1 =>
      cases h2 with
      | cons a2 r2 =>
        simp only [D.okL, Bool.and_eq_true] at hd he
        rw [DV.det hd.1 he.1 a1 a2, DVs.det hd.2 he.2 r1 r2]
end
def ltD (x y : D) : Bool := dataLt x.py y.py
def rSorted : List D → H3 → K1 → Prop := fun as h k => ∃ a l, as = [.ref a] ∧ h a = some (.lst l) ∧ (∀ d ∈ l, d.ok = true ∧ d.py.depth ≤ 64) ∧ Srtb (l.map D.py) ∧
  ∀ ys p, ys.Perm l → ys.Pairwise (fun x y => ltD y x = false) → h p = none → k (.ref p) (up h p (.lst ys))
section
variable {X : Cx} {G : Sc}
open Classical in
noncomputable def unD (H : Hp) (v : V) : D := if q : ∃ d : D, d.ok = true ∧ DV H d v then q.choose else .non
theorem unD_of {H : Hp} {d : D} {v : V} (h : d.ok = true) (r : DV H d v) : unD H v = d := by
  have q : ∃ d : D, d.ok = true ∧ DV H d v := ⟨d, h, r⟩
  unfold unD
  rw [dif_pos q]
  exact DV.det q.choose_spec.1 h q.choose_spec.2 r
theorem unD_all {H : Hp} : ∀ {l : List D} {vs : List V}, (∀ d ∈ l, d.ok = true) → DVs H l vs → vs.map (unD H) = l ∧ ∀ v ∈ vs, DV H (unD H v) v ∧ unD H v ∈ l
  | _, _, _, .nil => ⟨rfl, fun v h => nomatch h⟩
  | d :: l, v :: vs, h, .cons r t => by
    obtain ⟨h1, h2⟩ := unD_all (fun e he => h e (List.mem_cons_of_mem _ he)) t
    have e := unD_of (h d List.mem_cons_self) r
    refine ⟨by rw [List.map_cons, h1, e], fun u hu => ?_⟩
    rcases List.mem_cons.mp hu with rfl | hu
    · rw [e]; exact ⟨r, List.mem_cons_self⟩
    · exact ⟨(h2 u hu).1, List.mem_cons_of_mem _ (h2 u hu).2⟩
theorem unD_back {H : Hp} : ∀ {vs : List V}, (∀ v ∈ vs, DV H (unD H v) v) → DVs H (vs.map (unD H)) vs
  | [], _ => .nil
  | v :: vs, h => .cons (h v List.mem_cons_self) (unD_back fun u hu => h u (List.mem_cons_of_mem _ hu))
theorem rf_sorted (hu : X.A.units + 70 < cLine) : RfL G (UC X (.builtin "sorted")) rSorted := by
  intro l vs h H k Q rel dv ⟨a, m, el, ha, hok, hs, q⟩ post
  subst el
  cases dv with
  | cons d1 t1 =>
    cases t1
    cases d1
    obtain ⟨ws, e1, r1⟩ := rel.lst ha
    obtain ⟨u1, u2⟩ := unD_all (fun d hd => (hok d hd).1) r1
    refine ⟨_, cr_sortedV hu, a, ws, fun v => (unD H v).py, rfl, .of e1, fun x hx => ?_, ?_, fun ys p hsrt hp np => ?_⟩
    · obtain ⟨z1, z2⟩ := u2 x hx
      exact ⟨(rs_py (hok _ z2).1).dp rel z1, (hok _ z2).2⟩
    · rw [show ws.map (fun v => (unD H v).py) = m.map D.py by rw [← u1, List.map_map]; rfl]
      exact hs
    · have dvs : DVs H (ys.map (unD H)) ys := unD_back fun v hv => (u2 v (hp.mem_iff.mp hv)).1
      refine post_lst post rel dvs (fun p np => q _ p ?_ ?_ np) np
      · rw [← u1]; exact hp.map _
      · exact List.pairwise_map.mpr hsrt
end
theorem room70 {k : Nat} {A : Around} (r : Room k A) : A.units + 70 < cLine := by have := r.un; omega
end T3
end
-- T3Mix
section
set_option maxRecDepth 100000
set_option maxHeartbeats 4000000
/-! T3Mix: sorted(set(xs)), xs a list of tuples of ints and texts. -/
namespace T3
open PySem PySem.Spec PySem.Calls PyProof.Rows PySem.W L2
section
variable {P : Program} {w : World} {A : Around} {E : Value → Shared → Prop} {s : Shared}
abbrev mixT (P : Program) (w : World) : HeapKind P w (List Key) := tupleKind (mixKind P w)
theorem mix_items {k : List Key} {vs : List Value} (h : ItemsAre (mixKind P w) k vs) : ∀ v ∈ vs, (∃ i t, v = Value.int i t) ∨ ∃ x t, v = Value.str x t := by
  induction h with
  | nil => exact fun v hv => (nomatch hv)
  | @cons k0 v0 ks vs h1 _ ih =>
    intro v hv
    rcases List.mem_cons.mp hv with e | hv
    · subst e
      rcases keyIs_shape h1 with ⟨i, t, _, e⟩ | ⟨x, t, _, e⟩
      · exact .inl ⟨i, t, e⟩
      · exact .inr ⟨x, t, e⟩
    · exact ih v hv
theorem cls_int (n : Nat) (i : Int) (t : Tok) : ofAClassStatement n (.int i t) = pure false := by cases n <;> rfl
theorem cls_str (n : Nat) (x : Str) (t : Tok) : ofAClassStatement n (.str x t) = pure false := by cases n <;> rfl
theorem byv_int (n : Nat) (i : Int) (t : Tok) : hashByValue n (.int i t) = pure true := by cases n <;> rfl
theorem byv_str (n : Nat) (x : Str) (t : Tok) : hashByValue n (.str x t) = pure false := by cases n <;> rfl
theorem mix_noCls {k : List Key} {b : Addr} {Q : Bool → Shared → Prop} (hk : (mixT P w).is s.heap k b) (q : Q false s) : wpAny (model P w) A (ofAClassStatement 8 (.ref b)) Q E s := by
  have hT := IsTupleKey.typeIs hk
  obtain ⟨o, items, n, ho, _, hd, hi⟩ := hk
  unfold ofAClassStatement
  refine wpAny_bind (wpAny_typeOf hT ?_)
  have e : (("tuple" : String) == "tuple") = true := by decide
  simp only [e, if_true]
  try refine wpAny_bind (wpAny_pure ?_)
  simp only [Bool.not_true, Bool.false_eq_true, if_false]
  show wpAny _ _ (seqItems? (.ref b) >>= _) _ _ s
  refine wpAny_bind (wpAny_seqItems ho hd (wpAny_bind ?_))
  show wpAny _ _ (forIn items _ _) _ _ s
  rw [← Array.forIn_toList]
  refine wpAny_forIn_list _ (fun left st s' => st.1 = none ∧ s' = s ∧ ∀ v ∈ left, (∃ i t, v = Value.int i t) ∨ ∃ x t, v = Value.str x t) _ ?_ ?_ _ _ ⟨rfl, rfl, mix_items hi⟩
  · rintro v left st s' ⟨_, e2, all⟩
    have go : wpAny (model P w) A (ofAClassStatement 7 v) (fun r s2 => r = false ∧ s2 = s') E s' := by
      rcases all v List.mem_cons_self with ⟨i, t, ev⟩ | ⟨x, t, ev⟩ <;> subst ev
      · rw [cls_int]; exact wpAny_pure ⟨rfl, rfl⟩
      · rw [cls_str]; exact wpAny_pure ⟨rfl, rfl⟩
    refine wpAny_bind (wpAny_mono go (fun r s2 ⟨e3, e4⟩ => ?_) fun _ _ h => h)
    subst e3; subst e4
    simp only [Bool.false_eq_true, if_false]
    exact wpAny_pure ⟨rfl, e2, fun u hu => all u (List.mem_cons_of_mem _ hu)⟩
  · rintro ⟨r1, r2⟩ s' ⟨e1, e2, _⟩
    simp only at e1
    subst e1; subst e2
    exact wpAny_pure q
theorem mix_byVal {k : List Key} {b : Addr} {Q : Bool → Shared → Prop} (hk : (mixT P w).is s.heap k b) (q : ∀ c, Q c s) : wpAny (model P w) A (hashByValue 8 (.ref b)) Q E s := by
  have hT := IsTupleKey.typeIs hk
  obtain ⟨o, items, n, ho, _, hd, hi⟩ := hk
  unfold hashByValue
  refine wpAny_bind (wpAny_specialOf hT F.slot_tuple_hash.lookup ?_)
  show wpAny _ _ (seqItems? (.ref b) >>= _) _ _ s
  refine wpAny_bind (wpAny_seqItems ho hd (wpAny_bind ?_))
  show wpAny _ _ (forIn items _ _) _ _ s
  rw [← Array.forIn_toList]
  refine wpAny_forIn_list _ (fun left st s' => st.1 = none ∧ s' = s ∧ ∀ v ∈ left, (∃ i t, v = Value.int i t) ∨ ∃ x t, v = Value.str x t) _ ?_ ?_ _ _ ⟨rfl, rfl, mix_items hi⟩
  · rintro v left st s' ⟨_, e2, all⟩
    rcases all v List.mem_cons_self with ⟨i, t, ev⟩ | ⟨x, t, ev⟩ <;> subst ev
    · rw [byv_int]
      refine wpAny_bind (wpAny_pure ?_)
      simp only [Bool.not_true, Bool.false_eq_true, if_false]
      exact wpAny_pure ⟨rfl, e2, fun u hu => all u (List.mem_cons_of_mem _ hu)⟩
    · rw [byv_str]
      refine wpAny_bind (wpAny_pure ?_)
      simp only [Bool.not_false, if_true]
      refine wpAny_pure ?_
      subst e2
      exact wpAny_pure (q false)
  · rintro ⟨r1, r2⟩ s' ⟨e1, e2, _⟩
    simp only at e1
    subst e1; subst e2
    exact wpAny_pure (q true)
theorem shy_mix : Shy (mixT P w) where
  st := tupleKind_stays
  noCls := mix_noCls
  byVal := mix_byVal
  roomy := fun A h => show A.units < cLine by omega
/-! sorted, of a set -/
theorem Srtb.sub {ps qs : List PyData} (h : Srtb ps) (s : ∀ x ∈ qs, x ∈ ps) : Srtb qs := by
  rcases h with ⟨T, h1, h2, h3⟩ | ⟨h1, h2⟩
  · exact .inl ⟨T, h1, fun p hp => h2 p (s p hp), fun xs ys hx hy => h3 xs ys (s _ hx) (s _ hy)⟩
  · exact .inr ⟨fun p hp q hq => h1 p (s p hp) q (s q hq), fun p hp => h2 p (s p hp)⟩
variable {κ : Type} [DecidableEq κ] {knd : HeapKind P w κ}
theorem sorted_set {a : Addr} {L : List (Addr × κ)} {es : Array (Int × Value)} {ep : Nat} {t : SetTable} {f : Value → PyData} {Q : Value → Shared → Prop} (R : SetK knd s.heap a L es ep t) (hh : A.handled = none) (hu : A.units + 70 < cLine)
    (reads : ∀ p ∈ L, ∃ as, Reads s.heap (.ref p.1) (f (.ref p.1)) as) (deep : ∀ p ∈ L, (f (.ref p.1)).depth ≤ 64) (srt : Srtb (L.map fun p => f (.ref p.1)))
    (q : ∀ s' p (out : List Value) (c : Nat), (∀ b o, s.heap.get? b = some o → s'.heap.get? b = some o) → s'.gens = s.gens → s'.os = s.os → s.heap.objs.size ≤ p → s'.heap.get? p = some (seqObj "list" out.toArray c) →
      out.Perm (L.map fun p => Value.ref p.1) → SrtO.Srtd (fun v u => dataLt (f v) (f u)) out → Q (.ref p) s') :
    wpAny (model P w) A (call (.builtin "sorted") [.ref a]) Q E s := by
  obtain ⟨o, ho, hex, hd⟩ := R.ob
  have cnt := rows_size R.rows
  have few := R.few
  refine Calls.call_function_entry kind_sorted plain_sorted entry_sorted (args_sorted1 _) ?_
  unfold Builtin.«sorted»
  refine wpAny_bind (m := checkCount "sorted" 1 1 _) (wpAny_pure (wpAny_bind ?_))
  refine collect_set (A := A.in1) hh ⟨o, ho, hex.1, hd⟩ R.fits (by unfold scanBound; omega) R.tab.up R.led fun s1 vs k1 z g1 o1 perm => ?_
  have vals : es.toList.map (·.2) = L.map fun p => Value.ref p.1 := by rw [R.rows, List.map_map]; rfl
  rw [vals] at perm
  have vlen : vs.length = L.length := by rw [perm.length_eq, List.length_map]
  have from_ : ∀ v ∈ vs, ∃ p ∈ L, v = Value.ref p.1 := fun v hv => by
    obtain ⟨p, hp, e⟩ := List.mem_map.mp (perm.mem_iff.mp hv)
    exact ⟨p, hp, e.symm⟩
  refine wpAny_bind (wpAny_newList ?_ (by rw [sizeLine_eq]; omega))
  have hoL : (s1.heap.push (seqObj "list" vs.toArray 0)).get? s1.heap.objs.size = some (seqObj "list" vs.toArray 0) := Heap.get?_push_size _ rfl
  have keep : ∀ b u, s.heap.get? b = some u → b ≠ s1.heap.objs.size ∧ (s1.heap.push (seqObj "list" vs.toArray 0)).get? b = some u := fun b u e =>
    ⟨Nat.ne_of_lt (Nat.lt_of_lt_of_le (Heap.lt_size e) z), Heap.get?_push_of_some _ (k1 b u e)⟩
  refine wpAny_bind (wpAny_holding (wpAny_call_entry slot_list_sort ⟨_, hoL, rfl⟩ entry_list_sort (SrtO.list_sort_ord (s := { s1 with heap := s1.heap.push (seqObj "list" vs.toArray 0) }) (ltv := fun v u => dataLt (f v) (f u)) (swo_data f) hoL (by rw [sizeLine_eq]; omega) (fun h2 => ?_) fun out hs hb => ⟨_, rfl, ?_⟩) (args_list_sort _)))
  · refine sortable_data (h0 := s.heap) (f := f) h2 keep (fun v hv => ?_) (fun v hv => ?_) (srt.sub fun x hx => ?_) (by show A.units + 1 + 1 + 64 < cLine; omega)
    · obtain ⟨p, hp, e⟩ := from_ v hv
      rw [e]; exact reads p hp
    · obtain ⟨p, hp, e⟩ := from_ v hv
      rw [e]; exact deep p hp
    · obtain ⟨v, hv, e⟩ := List.mem_map.mp hx
      obtain ⟨p, hp, e2⟩ := from_ v hv
      exact List.mem_map.mpr ⟨p, hp, by rw [← e, e2]⟩
  · obtain ⟨c, hc⟩ := sortedHeap_at (vs := vs) (out := out.toArray) hoL
    refine wpAny_pure ⟨_, rfl, q _ s1.heap.objs.size out c (fun b u e => ?_) g1 o1 z hc (hb.perm.trans perm) hs⟩
    obtain ⟨k2, k3⟩ := keep b u e
    exact (sortedHeap_old k2 (by rw [size_push']; exact Nat.lt_succ_of_lt (Heap.lt_size (k1 b u e)))).trans k3
end
/-! at the abstract heap -/
/-- the set at a, without its keys' own tuples -/
structure SetZ (P : Program) (w : World) (h : Heap) (a : Addr) (L : List (Addr × List Key)) : Prop where
  ex : ∃ (es : Array (Int × Value)) (ep : Nat) (t : SetTable), (∃ o, h.get? a = some o ∧ o.ExactSet ∧ o.data = .set es ep t) ∧ es.toList = L.map (rowK (mixT P w)) ∧ Tb t (L.map fun p => (mixT P w).hash p.2) ∧ (L.map (·.2)).Nodup ∧
    (w.params.followText "set-order" = true ∨ t.led = true) ∧ L.length * 5 < t.mask * 3 ∧ L.length < 300
def SetE (P : Program) (w : World) (a : Addr) (L : List (Addr × List Key)) : HO := .ext fun h => SetZ P w h a L
theorem SetK.z {P : Program} {w : World} {h : Heap} {a : Addr} {L : List (Addr × List Key)} {es : Array (Int × Value)} {ep : Nat} {t : SetTable} (R : SetK (mixT P w) h a L es ep t) : SetZ P w h a L :=
  ⟨es, ep, t, R.ob, R.rows, R.tab, R.nd, R.led, R.roomy, R.few⟩
theorem setE_ok {P : Program} {w : World} {H : Hp} {h : Heap} {a : Addr} {L : List (Addr × List Key)} (R : SetZ P w h a L) : ObjOk P w H h a (SetE P w a L) := by
  refine ⟨R, let ⟨_, _, _, ⟨o, ho, _⟩, _⟩ := R.ex; ⟨o, ho⟩, fun h1 h2 p k => ?_⟩
  have ⟨es, ep, t, ⟨o, ho, r⟩, q⟩ := SetZ.ex p
  exact ⟨es, ep, t, ⟨o, k o ho, r⟩, q⟩
section
variable {X : Cx}
theorem Inv.mixT {pins : List (Addr × Obj)} {σ : L2.St} {H : Hp} {s : Shared} {b : Addr} {k : List Key} (I : Inv X pins σ H s) (h : SqT X.K H b (k.map kV)) : (T3.mixT X.prog X.w).is s.heap k b := by
  obtain ⟨its, r, ⟨o, ho, hc, n, hd⟩, _⟩ := I.tuple h
  refine ⟨o, its.toArray, n, ho, hc, hd, ?_⟩
  have gen : ∀ {k : List Key} {us : List Value}, Vals (k.map kV) us → ItemsAre (mixKind X.prog X.w) k us := by
    intro k
    induction k with
    | nil => intro us r; cases r; exact .nil
    | cons x k ih =>
      intro us r
      cases r with
      | cons r t => exact .cons (kV_is r) (ih t)
  simpa using gen r
def rSetM (K : PySem.W.Frag) (P : Program) (w : World) : List V → Hp → VK → Prop := fun xs H Q => ∃ (l : Addr) (ks : List (Addr × List Key)), xs = [V.ref l] ∧ SqL K H l (ks.map fun p => V.ref p.1) ∧ (∀ p ∈ ks, SqT K H p.1 (p.2.map kV)) ∧ Few ks ∧
  ∀ a L, H a = none → (∀ p ∈ L, p ∈ ks) → (∀ p ∈ ks, p.2 ∈ L.map (·.2)) → (L.map (·.2)).Nodup → Q (.ref a) (upd H a (SetE P w a L))
theorem cr_setM (hc : X.calm = true) (hu : X.A.units + 70 < cLine) : CallR X (.type "set") (rSetM X.K X.prog X.w) := by
  intro pins s σ H xs us Q I r h
  obtain ⟨l, ks, rfl, hl, hk, hf, q⟩ := h
  rw [Vals.ref1 r]
  obtain ⟨its, rv, pl, hz⟩ := I.list hl
  have refs : ∀ {ks : List (Addr × List Key)} {us : List Value}, Vals (ks.map fun p => V.ref p.1) us → us = ks.map fun p => Value.ref p.1 := by
    intro ks
    induction ks with
    | nil => intro us r; cases r; rfl
    | cons p ks ih =>
      intro us r
      cases r with
      | cons r t => cases r; rw [ih t]; rfl
  refine set_call (P := X.prog) (w := X.w) shy_mix ks (I.ok.hd hc) pl.isList (by simpa using refs rv) (fun p hp => Inv.mixT I (hk p hp)) hf (show X.A.units + 1 + 1 + 1 < cLine by omega) fun h' tk L es ep t R g k => ?_
  refine ⟨.ref s.heap.objs.size, upd H s.heap.objs.size (SetE X.prog X.w s.heap.objs.size L), I.laid (t' := tk) k (Nat.le_refl _) (setE_ok R.z), rfl, q _ L (I.hok.fresh (Nat.le_refl _)) (fun p hp => List.mem_of_mem_take (g.sub p hp)) (fun p hp => g.all p (by rw [List.take_length]; exact hp)) R.nd⟩
def rSortM (K : PySem.W.Frag) (P : Program) (w : World) : List V → Hp → VK → Prop := fun vs H Q => ∃ (a : Addr) (L : List (Addr × List Key)) (f : V → PyData), vs = [V.ref a] ∧ H a = some (SetE P w a L) ∧ (∀ p ∈ L, SqT K H p.1 (p.2.map kV)) ∧
  (∀ p ∈ L, Dp K H (.ref p.1) (f (.ref p.1)) ∧ (f (.ref p.1)).depth ≤ 64) ∧ Srtb (L.map fun p => f (.ref p.1)) ∧
  ∀ ys p, SrtO.Srtd (fun x y => dataLt (f x) (f y)) ys → ys.Perm (L.map fun p => V.ref p.1) → H p = none → Q (.ref p) (upd H p (.lst ys))
theorem cr_sortM (hc : X.calm = true) (hu : X.A.units + 70 < cLine) : CallR X (.builtin "sorted") (rSortM X.K X.prog X.w) := by
  intro pins s σ H vs us Q I r h
  obtain ⟨a, L, f, rfl, ha, hk, hf, hs, q⟩ := h
  have R0 : SetZ X.prog X.w s.heap a L := (I.hok a _ ha).1
  obtain ⟨es, ep, t, z1, z2, z3, z4, z5, z6, z7⟩ := R0.ex
  have R : SetK (mixT X.prog X.w) s.heap a L es ep t := { ob := z1, rows := z2, tab := z3, nd := z4, keys := fun p hp => Inv.mixT I (hk p hp), led := z5, roomy := z6, few := z7 }
  rw [Vals.ref1 r]
  refine sorted_set (f := fun v => f (bk3 v)) R (I.ok.hd hc) hu (fun p hp => Dp.reads I _ _ _ (hf p hp).1 rfl) (fun p hp => (hf p hp).2) hs fun s' p out c k g o hp hg perm srt => ?_
  have back : ∀ v ∈ out, RelV (bk3 v) v := fun v hv => by
    obtain ⟨q, _, e⟩ := List.mem_map.mp (perm.mem_iff.mp hv)
    subst e; rfl
  have vs := bk3_vals back
  have perm2 : (out.map bk3).Perm (L.map fun p => V.ref p.1) := by
    have := perm.map bk3
    rwa [List.map_map] at this
  have few := R.few
  have hlen : (out.map bk3).length ≤ sizeLine := by rw [perm2.length_eq, List.length_map, sizeLine_eq]; omega
  have hn : H p = none := I.hok.fresh hp
  have J : Inv X pins σ (upd H p (.lst (out.map bk3))) { s with heap := s'.heap, gens := s'.gens, drawn := s'.drawn, toks := s'.toks } :=
    I.call (ch := []) (Un.laid k hp hn) (I.hok.laid k hp ⟨hlen, out, c, vs, hg⟩) (by rw [g]; exact I.bare) (fun _ z => nomatch z)
  have e : s' = { s with heap := s'.heap, gens := s'.gens, drawn := s'.drawn, toks := s'.toks } := by
    cases s'; cases s; cases o; rfl
  rw [e]
  exact ⟨.ref p, _, J, rfl, q _ p (SrtO.srtd_map srt) perm2 hn⟩
end
end T3
end
-- T3Misc
section
set_option maxRecDepth 100000
set_option maxHeartbeats 4000000
/-! T3Misc: range(n) of any n; extend, index, join, repr. -/
namespace T3
open PySem PySem.Spec PySem.Calls PyProof.Rows L2
theorem turn_long {P : Program} {w : World} {K : PySem.W.Frag} {tg : Expr} (it : Addr) (lo : Int) (n : Nat) : Turn P w K tg (Itr lo n) [it] it (fun i h => IsLongIter h it (lo + (i : Nat) * 1) ((n : Int) - (i : Nat)) 1) where
  mem := by simp
  obj := fun i h st b hb => by
    have e : b = it := by simpa using hb
    subst e
    exact ⟨_, st, fun v z => by
      have z' : Data.fields _ = Data.cell v := z
      cases z'⟩
  keep := fun i h h' st k => k it (by simp) _ st
  item := by
    intro X hP hw hK hc i pins s σ H E I hf st hg
    subst hP hw hK
    obtain ⟨f0, f1, f2, f3, f4, f5⟩ := hf it (by simp)
    have W := Walks.longrange (prog := X.prog) (w := X.w) (I.ok.hd hc) it lo 1 n
    refine W.item i s _ _ hg st fun v h' tk hv st' kk => ?_
    obtain ⟨t, rfl⟩ := hv
    have I1 : Inv X pins σ H { s with heap := h', toks := tk } := I.turned (fun b o hb e => kk b o (by simpa using hb) e) f0 f1 f3 f4 f5
    refine ⟨_, rfl, go_of (s := { s with heap := h', toks := tk }) (n := "longrange_iterator") st' rfl rfl (by decide) ⟨.int (lo + i), H, I1, ⟨t, ?_⟩, ⟨rfl, rfl⟩, st', fun b hb => (hf b hb).1⟩⟩
    rw [Int.mul_one]
  done := by
    intro X hP hw hK hc i pins s σ H E I hf st hg
    subst hP hw hK
    obtain ⟨f0, f1, f2, f3, f4, f5⟩ := hf it (by simp)
    exact wpAny_pyNext_long_end (I.ok.hd hc) st (by have : n ≤ i := hg; omega) fun h' eb => ⟨rfl, I.turned (t' := s.toks) (fun b o hb e => eb b o hb e) f0 f1 f3 f4 f5⟩
  self := fun _ _ _ _ _ st h => wpAny_pyIter_longiter st h
section
variable {X : Cx} {tg : Expr}
theorem range_any {pins : List (Addr × Obj)} {σ : L2.St} {H : Hp} {s : Shared} {R : It → Hp → Prop} {E : Value → Shared → Prop} {hi : Int} {t u v : Tok} {tk : Nat} (I : Inv X pins σ H s)
    (q : R (Itr 0 hi.toNat) H) : wpAny (model X.prog X.w) X.A (pyIter (.ref s.heap.objs.size)) (PIE X pins σ tg R) E { s with heap := s.heap.push { cls := .type "range", data := .fields #[.int 0 t, .int hi u, .int 1 v] }, toks := tk } := by
  have e2 : Builtin.Range.rangeSize 0 hi 1 = ((hi.toNat : Nat) : Int) - ((0 : Nat) : Int) := by rw [rangeSize_one]; split <;> omega
  cases hs : Builtin.Range.small 0 hi 1 with
  | true =>
    refine wpAny_pyIter_range (IsRange.new ..) hs ?_
    have I1 : Inv X pins σ H { s with heap := s.heap.push { cls := .type "range", data := .fields #[.int 0 t, .int hi u, .int 1 v] }, toks := tk } := I.kept fun b o e => Heap.get?_push_of_some _ e
    refine ⟨(s.heap.push { cls := .type "range", data := .fields #[.int 0 t, .int hi u, .int 1 v] }).objs.size, [(s.heap.push { cls := .type "range", data := .fields #[.int 0 t, .int hi u, .int 1 v] }).objs.size], _, _, H, rfl,
      I1.kept (t' := tk) fun b o e => Heap.get?_push_of_some _ e, turn_range _ 0 hi.toNat, ?_, fun b hb => ?_, q⟩
    · have e1 : (0 : Int) + ((0 : Nat) : Int) * 1 = 0 := by simp
      show IsRangeIter _ _ ((0 : Int) + ((0 : Nat) : Int) * 1) (((hi.toNat : Nat) : Int) - ((0 : Nat) : Int)) 1
      rw [e1, ← e2]
      exact Heap.get?_push_size _ rfl
    · have e : b = (s.heap.push { cls := .type "range", data := .fields #[.int 0 t, .int hi u, .int 1 v] }).objs.size := by simpa using hb
      subst e
      exact I1.fpOk (Nat.le_refl _) (I1.hok.fresh (Nat.le_refl _))
  | false =>
    refine wpAny_pyIter_longrange (IsRange.new ..) hs ?_
    have I1 : Inv X pins σ H { s with heap := s.heap.push { cls := .type "range", data := .fields #[.int 0 t, .int hi u, .int 1 v] }, toks := tk } := I.kept fun b o e => Heap.get?_push_of_some _ e
    refine ⟨(s.heap.push { cls := .type "range", data := .fields #[.int 0 t, .int hi u, .int 1 v] }).objs.size, [(s.heap.push { cls := .type "range", data := .fields #[.int 0 t, .int hi u, .int 1 v] }).objs.size], _, _, H, rfl,
      I1.kept (t' := tk) fun b o e => Heap.get?_push_of_some _ e, turn_long _ 0 hi.toNat, ?_, fun b hb => ?_, q⟩
    · have e1 : (0 : Int) + ((0 : Nat) : Int) * 1 = 0 := by simp
      show IsLongIter _ _ ((0 : Int) + ((0 : Nat) : Int) * 1) (((hi.toNat : Nat) : Int) - ((0 : Nat) : Int)) 1
      rw [e1, ← e2]
      exact Heap.get?_push_size _ rfl
    · have e : b = (s.heap.push { cls := .type "range", data := .fields #[.int 0 t, .int hi u, .int 1 v] }).objs.size := by simpa using hb
      subst e
      exact I1.fpOk (Nat.le_refl _) (I1.hok.fresh (Nat.le_refl _))
def iRngA (ta : TA) : TI := fun σ H R => ta σ H fun vs H1 => ∃ j : Int, vs = [.int j] ∧ R (Itr 0 j.toNat) H1
theorem pi_rangeA {a : Expr} {ta : TA} {p pos : Pos} (hg : Gl X "range") (hm : X.mg "range" = none) (ha : PA X [a] ta) (hs : starEach [a] X.env = [(false, eval a X.env)] := by rfl) : PI X tg (.Call (.Name "range" p) [a] [] pos) (iRngA ta) := by
  refine ⟨fun pins s σ H R I h => ?_⟩
  refine Call_ (ld_blt I hg hm boot_range (PyProof.Rows.callWith_type1 (thn (ha.run pos pins s σ H _ I h) fun us s1 ⟨vs, H1, I1, r1, q1⟩ => ?_) hs rfl))
  obtain ⟨j, e, q⟩ := q1
  subst e
  cases r1 with
  | cons r rr =>
    cases rr
    obtain ⟨t, rfl⟩ := r
    exact call_range_1 (range_any I1 q)
end
section
variable {X : Cx} {G : Sc} {tg a : Expr} {t : WA} {p pos : Pos}
/-- range(n), whatever n -/
def wRgA (t : WA) : WI := fun ρ h k => t ρ h fun l h1 => ∃ j : Int, l = [.int j] ∧ k (.fix (rgD 0 j.toNat)) h1
theorem ii_rgA (hg : Gl X "range") (hm : X.mg "range" = none) (ha : PA3 X G [a] t) (hs : starEach [a] X.env = [(false, eval a X.env)] := by rfl) : PI3 X G tg (.Call (.Name "range" p) [a] [] pos) (wRgA t) := by
  refine (pi_rangeA hg hm ha hs).weak fun σ H R ⟨ρ, h, k, rel, ev, q, post⟩ => ?_
  refine ⟨ρ, h, _, rel, ev, q, fun l h1 vs H1 q1 rel1 per1 dv1 => ?_⟩
  obtain ⟨j, rfl, q1⟩ := q1
  cases dv1 with
  | cons d1 t1 =>
    cases t1; cases d1
    exact ⟨j, rfl, post _ _ _ _ q1 rel1 per1 it_rng⟩
theorem fors_rgA {t : WA} {g : WG} {body : WS} {E : En} {ρ : Ev} {h : H3} : wFor (wRgA t) g body E ρ h ↔ t ρ h fun l h1 => ∃ j : Int, l = [.int j] ∧ forW (fun _ => True) g body E (rgD 0 j.toNat) ρ h1 := Iff.rfl
end
section
variable {X : Cx} {G : Sc}
/-- repr of a tuple of data -/
def rReprV (K : PySem.W.Frag) : List V → Hp → VK → Prop := fun vs H Q => ∃ (x : Addr) (d : PyData), vs = [V.ref x] ∧ Dp K H (.ref x) d ∧ d.canLay0 = true ∧ d.showable = true ∧ d.depth ≤ 64 ∧ d.shown.length ≤ sizeLine ∧ Q (.str d.shown) H
theorem cr_reprV (hu : X.A.units + 70 < cLine) (hgd : X.A.guards = some []) : CallR X (.builtin "repr") (rReprV X.K) := by
  intro pins s σ H vs us Q I r h
  obtain ⟨x, d, rfl, hd, hc, hs, hdp, hz, q⟩ := h
  obtain ⟨u, rfl, ru⟩ := vals1 r
  obtain rfl : u = Value.ref x := ru
  obtain ⟨as, ra⟩ := Dp.reads I d _ _ hd rfl
  refine repr_of_reads' ra hs (fun h => by rw [PyData.hasDict_of_canLay d hc] at h; cases h) hgd (by omega) (fun _ _ e => e) (fun h' u tk hk => ?_) hz
  exact ⟨.str _, H, I.kept hk, ⟨_, rfl⟩, q⟩
def rRepr : List D → H3 → K1 → Prop := fun as h k => ∃ (l : List D) (p : PyData), as = [.tup l] ∧ Rs h (.tup l) p ∧ p.showable = true ∧ p.depth ≤ 64 ∧ p.shown.length ≤ 16777216 ∧ k (.str p.shown) h
theorem rf_repr (hu : X.A.units + 70 < cLine) (hgd : X.A.guards = some []) : RfL G (UC X (.builtin "repr")) rRepr := by
  intro l vs h H k Q rel dv ⟨m, p, el, hr, hs, hdp, hz, q⟩ post
  subst el
  cases dv with
  | cons d1 t1 =>
    cases t1
    cases d1 with
    | tup e1 r1 => exact ⟨_, cr_reprV hu hgd, _, p, rfl, hr.dp rel (.tup e1 r1), hr.lay, hs, hdp, hz, post _ _ _ _ q rel (Per.refl H) (.str _)⟩
variable {e o : Expr} {es : List Expr} {f : WE} {t : WA} {apos cpos : Pos}
/-- xs.extend(a list) -/
def wExtend (o : WE) (t : WA) : WE := fun ρ h k => o ρ h fun x h1 => ∃ p xs, x = .ref p ∧ h1 p = some (.lst xs) ∧ t ρ h1 fun l h2 => ∃ b ys zs, l = [.ref b] ∧ h2 p = some (.lst ys) ∧ h2 b = some (.lst zs) ∧ ys.length + zs.length ≤ 16777216 ∧ k .non (up h2 p (.lst (ys ++ zs)))
theorem i_extend (ho : PE3 X G o f) (ha : PA3 X G (e :: es) t) (hbase : attributeBase o "extend" X.env (eval o X.env) = eval o X.env := by rfl)
    (hfew : ((backTo cpos (starEach (e :: es) X.env)).all (fun x => !x.1) && (backToKw cpos (keywordEach [] X.env)).all (fun x => x.1.isSome)
      && decide ((e :: es).length + ([] : List Keyword).length + (if ([] : List Keyword).isEmpty then 0 else 1) < 30)) = true := by rfl)
    (hline : (apos.endLine == cpos.line) = true := by rfl) (hs : starEach (e :: es) X.env = (false, eval e X.env) :: starEach es X.env := by rfl) (hplain : (backTo cpos (starEach es X.env)).any (·.1) = false := by rfl) :
    PE3 X G (.Call (.Attribute o "extend" apos) (e :: es) [] cpos) (wExtend f t) := by
  refine (pe_bm PySem.F.plainAttrs_list PySem.F.slot_list_extend PySem.F.type_list_extend mt_extend ho ha hbase hfew hline hs hplain).weak fun σ H Q ⟨ρ, h, k, rel, ev, q, post⟩ => ?_
  refine ⟨ρ, h, _, rel, ev, q, fun d h1 v H1 q1 rel1 per1 dv1 => ?_⟩
  obtain ⟨p, xs, rfl, hp, q1⟩ := q1
  cases dv1
  obtain ⟨vs, e1, r1⟩ := rel1.lst hp
  refine ⟨.inl ⟨rfl, _, .of e1⟩, ρ, h1, _, rel1, ev.per per1, q1, fun l h2 ws H2 q2 rel2 per2 dv2 => ?_⟩
  obtain ⟨b, ys, zs, rfl, hy, hzs, hz, q2⟩ := q2
  cases dv2 with
  | cons d1 t1 =>
    cases t1
    cases d1
    obtain ⟨vs', e2, r2⟩ := rel2.lst hy
    obtain ⟨vz, e3, r3⟩ := rel2.lst hzs
    refine ⟨p, b, _, _, rfl, rfl, e2, e3, by rw [← r2.length, ← r3.length]; exact hz, ?_⟩
    exact post _ _ _ _ q2 (rel2.setLst hy (r2.append r3)) ((per1.trans per2).trans (Per.mut (rel2.mut hy))) .non
/-- text.index(sign), where it stands -/
def wSIndex (o : WE) (t : WA) : WE := fun ρ h k => o ρ h fun x h1 => ∃ a, x = .str a ∧ t ρ h1 fun l h2 => ∃ b i rest, l = [.str b] ∧ Builtin.Str.occurrences a b 0 a.length 1 = i :: rest ∧ k (.int (i : Nat)) h2
theorem i_sindex (ho : PE3 X G o f) (ha : PA3 X G (e :: es) t) (hbase : attributeBase o "index" X.env (eval o X.env) = eval o X.env := by rfl)
    (hfew : ((backTo cpos (starEach (e :: es) X.env)).all (fun x => !x.1) && (backToKw cpos (keywordEach [] X.env)).all (fun x => x.1.isSome)
      && decide ((e :: es).length + ([] : List Keyword).length + (if ([] : List Keyword).isEmpty then 0 else 1) < 30)) = true := by rfl)
    (hline : (apos.endLine == cpos.line) = true := by rfl) (hs : starEach (e :: es) X.env = (false, eval e X.env) :: starEach es X.env := by rfl) (hplain : (backTo cpos (starEach es X.env)).any (·.1) = false := by rfl) :
    PE3 X G (.Call (.Attribute o "index" apos) (e :: es) [] cpos) (wSIndex f t) := by
  refine (pe_bm PySem.F.plainAttrs_str PySem.F.slot_str_index PySem.F.type_str_index mt_sindex ho ha hbase hfew hline hs hplain).weak fun σ H Q ⟨ρ, h, k, rel, ev, q, post⟩ => ?_
  refine ⟨ρ, h, _, rel, ev, q, fun d h1 v H1 q1 rel1 per1 dv1 => ?_⟩
  obtain ⟨a, rfl, q1⟩ := q1
  cases dv1
  refine ⟨rfl, ρ, h1, _, rel1, ev.per per1, q1, fun l h2 ws H2 q2 rel2 per2 dv2 => ?_⟩
  obtain ⟨b, i, rest, rfl, hoc, q2⟩ := q2
  cases dv2 with
  | cons d1 t1 =>
    cases t1
    cases d1
    exact ⟨a, b, i, rest, rfl, rfl, hoc, post _ _ _ _ q2 rel2 (per1.trans per2) (.int _)⟩
/-- xs.index(x), xs and x of none, truths, ints -/
def wLIndex (o : WE) (t : WA) : WE := fun ρ h k => o ρ h fun x h1 => ∃ p xs, x = .ref p ∧ h1 p = some (.lst xs) ∧ t ρ h1 fun l h2 => ∃ d ys j, l = [d] ∧ h2 p = some (.lst ys) ∧ d.ok = true ∧ D.okL ys = true ∧ SeqAt.shaped (.list (D.pyL ys)) = true ∧ SeqAt.shaped d.py = true ∧
  (∃ z, (D.pyL ys)[j]? = some z ∧ PyData.eqv z d.py = true) ∧ (∀ (m : Nat) (z' : PyData), m < j → (D.pyL ys)[m]? = some z' → PyData.eqv z' d.py = false) ∧ k (.int (j : Nat)) h2
theorem i_lindex (hu : X.A.units + 65 < cLine) (ho : PE3 X G o f) (ha : PA3 X G (e :: es) t) (hbase : attributeBase o "index" X.env (eval o X.env) = eval o X.env := by rfl)
    (hfew : ((backTo cpos (starEach (e :: es) X.env)).all (fun x => !x.1) && (backToKw cpos (keywordEach [] X.env)).all (fun x => x.1.isSome)
      && decide ((e :: es).length + ([] : List Keyword).length + (if ([] : List Keyword).isEmpty then 0 else 1) < 30)) = true := by rfl)
    (hline : (apos.endLine == cpos.line) = true := by rfl) (hs : starEach (e :: es) X.env = (false, eval e X.env) :: starEach es X.env := by rfl) (hplain : (backTo cpos (starEach es X.env)).any (·.1) = false := by rfl) :
    PE3 X G (.Call (.Attribute o "index" apos) (e :: es) [] cpos) (wLIndex f t) := by
  refine (pe_bm PySem.F.plainAttrs_list PySem.F.slot_list_index PySem.F.type_list_index (mt_indexD hu) ho ha hbase hfew hline hs hplain).weak fun σ H Q ⟨ρ, h, k, rel, ev, q, post⟩ => ?_
  refine ⟨ρ, h, _, rel, ev, q, fun d h1 v H1 q1 rel1 per1 dv1 => ?_⟩
  obtain ⟨p, xs, rfl, hp, q1⟩ := q1
  cases dv1
  obtain ⟨vs, e1, r1⟩ := rel1.lst hp
  refine ⟨.inl ⟨rfl, _, .of e1⟩, ρ, h1, _, rel1, ev.per per1, q1, fun l h2 ws H2 q2 rel2 per2 dv2 => ?_⟩
  obtain ⟨d, ys, j, rfl, hy, hd, hys, s1, s2, ⟨z, hz, hze⟩, hno, q2⟩ := q2
  cases dv2 with
  | cons d1 t1 =>
    cases t1
    obtain ⟨vs', e2, r2⟩ := rel2.lst hy
    exact ⟨p, _, d.py, D.pyL ys, j, z, rfl, rfl, (Rs.lst hy (rsl_py hys)).dp rel2 (.ref p), (rs_py hd).dp rel2 d1, s1, s2, hz, hze, hno, post _ _ _ _ q2 rel2 (per1.trans per2) (.int _)⟩
/-- sep.join(a list of texts) -/
def wJoin (o a : WE) : WE := fun ρ h k => o ρ h fun x h1 => ∃ s, x = .str s ∧ a ρ h1 fun y h2 => ∃ p ys, y = .ref p ∧ h2 p = some (.lst (ys.map D.str)) ∧ (ys.map (·.length)).sum + ys.length * s.length ≤ 16777216 ∧ k (.str (Txt.join s ys)) h2
theorem i_join {g : WE} (ho : PE3 X G o f) (he : PE3 X G e g) (hs : starEach [e] X.env = [(false, eval e X.env)] := by rfl) (hbase : attributeBase o "join" X.env (eval o X.env) = eval o X.env := by rfl) (hline : (apos.endLine == cpos.line) = true := by rfl) :
    PE3 X G (.Call (.Attribute o "join" apos) [e] [] cpos) (wJoin f g) := by
  refine (pe_join ho he hs hbase hline).weak fun σ H Q ⟨ρ, h, k, rel, ev, q, post⟩ => ?_
  refine ⟨ρ, h, _, rel, ev, q, fun d h1 v H1 q1 rel1 per1 dv1 => ?_⟩
  obtain ⟨s, rfl, q1⟩ := q1
  cases dv1
  refine ⟨⟨_, rfl⟩, ρ, h1, _, rel1, ev.per per1, q1, fun y h2 w H2 q2 rel2 per2 dv2 => ?_⟩
  obtain ⟨p, ys, rfl, hy, hz, q2⟩ := q2
  cases dv2
  obtain ⟨vs', e2, r2⟩ := rel2.lst hy
  rw [DVs.strs r2] at e2
  exact ⟨s, p, ys, rfl, rfl, .inl (.of e2), hz, post _ _ _ _ q2 rel2 (per1.trans per2) (.str _)⟩
end
/-! x is True, x is False -/
section
variable {X : Cx} {G : Sc} {a : Expr} {f : WE} {pos : Pos}
def rIsBv (b : Bool) : R2 := fun x y H Q => y = .bl b ∧ Q (.bl (decide (x = .bl b))) H
theorem op_isBv (b : Bool) : OpR X (compareOp .Is) (rIsBv b) := by
  intro pins s σ H x y v u Q I rx ry ⟨ey, q⟩
  subst ey
  cases (show u = Value.bool b from ry)
  have other : ∀ w : Value, plainIs w (.bool b) = true → w ≠ .bool b → x ≠ .bl b → v = w → wpAny (model X.prog X.w) X.A (compareOp .Is v (.bool b)) (EP X pins σ Q) X.xe s := fun w hp hw hx e => by
    subst e
    exact wpAny_is_other hp hw ⟨.bl false, H, I, rfl, by simpa [hx] using q⟩
  cases x with
  | non => exact other .none rfl (fun z => by cases z) (fun z => by cases z) rx
  | bl c =>
    cases (show v = Value.bool c from rx)
    by_cases e : c = b
    · subst e
      exact wpAny_is_self rfl ⟨.bl true, H, I, rfl, by simpa using q⟩
    · exact wpAny_is_other rfl (fun z => e (Value.bool.inj z)) ⟨.bl false, H, I, rfl, by simpa [e] using q⟩
  | int i => obtain ⟨t, e⟩ := (show ∃ t, v = Value.int i t from rx); exact other _ rfl (fun z => by cases z) (fun z => by cases z) e
  | str i => obtain ⟨t, e⟩ := (show ∃ t, v = Value.str i t from rx); exact other _ rfl (fun z => by cases z) (fun z => by cases z) e
  | byt i => obtain ⟨t, e⟩ := (show ∃ t, v = Value.bytes i t from rx); exact other _ rfl (fun z => by cases z) (fun z => by cases z) e
  | flt i => obtain ⟨t, e⟩ := (show ∃ t, v = Value.float i t from rx); exact other _ rfl (fun z => by cases z) (fun z => by cases z) e
  | ref i => exact other _ rfl (fun z => by cases z) (fun z => by cases z) rx
  | ty i => exact other _ rfl (fun z => by cases z) (fun z => by cases z) rx
def _root_.T3.D.isB (b : Bool) : D → Bool
  | .bl c => c == b
  | _ => false
theorem isB_of {H : Hp} {b : Bool} {d : D} {v : V} (r : DV H d v) : d.isB b = decide (v = .bl b) := by
  cases r with
  | bl c => simp only [D.isB]; cases c <;> cases b <;> decide
  | _ => simp [D.isB]
def rIsB (b : Bool) : D → H3 → K1 → Prop := fun x h k => k (.bl (x.isB b)) h
def rIsY : D → D → H3 → K1 → Prop := fun x y h k => match y with
  | .bl c => rIsB c x h k
  | _ => False
theorem rf_isY : Rf2 G (U2 X (compareOp .Is)) rIsY := by
  intro d e x y h H k Q rel dx dy q post
  unfold rIsY at q
  split at q
  · rename_i c
    cases dy
    exact ⟨_, op_isBv c, rfl, post_bl post rel (by rw [← isB_of dx]; exact q)⟩
  · exact q.elim
theorem i_isB {b : Bool} {j p2} (ha : PE3 X G a f) : PE3 X G (.Compare a [.Is] [.Constant (.bool b) j p2] pos) (w1 (rIsB b) f) := i_cmp rf_isY ha i_bl rfl
theorem it_isB {b : Bool} {j p2} (ha : PE3 X G a f) : PT3 X G (.Compare a [.Is] [.Constant (.bool b) j p2] pos) (wB (w1 (rIsB b) f)) := it_cmp rf_isY ha i_bl rfl
end
end T3
end
-- T3SortSet
section
set_option maxRecDepth 100000
set_option maxHeartbeats 4000000
/-! T3SortSet: sorted(set(xs)) as a reading. -/
namespace T3
open PySem PySem.Spec PySem.Calls PyProof.Rows PySem.W L2
/-- fewer than 299 different ones -/
def FewD (l : List D) : Prop := ∀ m : List D, m.Nodup → (∀ x ∈ m, x ∈ l) → m.length < 299
/-- sorted(set(xs)): what stands in xs, each once, in order -/
def rSortSet : D → H3 → K1 → Prop := fun d h k => ∃ a l, d = .ref a ∧ h a = some (.lst l) ∧ (∀ x ∈ l, (x.ok = true ∧ x.py.depth ≤ 64) ∧ ∃ ks, keysOf x = some ks) ∧ FewD l ∧ Srtb (l.map D.py) ∧
  ∀ ys p, ys.Nodup → (∀ x, x ∈ ys ↔ x ∈ l) → ys.Pairwise (fun x y => ltD y x = false) → h p = none → k (.ref p) (up h p (.lst ys))
def dOf (k : List Key) : D := .tup (k.map kD)
theorem keysL_back : ∀ {l : List D} {k : List Key}, keysL l = some k → l = k.map kD
  | [], k, h => by simp only [keysL, Option.some.injEq] at h; subst h; rfl
  | d :: l, k, h => by
    simp only [keysL] at h
    split at h
    · rename_i x ks hx hl
      simp only [Option.some.injEq] at h
      subst h
      rw [List.map_cons, ← keysL_back hl]
      congr 1
      cases d <;> simp [keyOf] at hx
      · subst hx; rfl
      · subst hx; rfl
    · cases h
theorem keysOf_back {x : D} {k : List Key} (h : keysOf x = some k) : x = dOf k := by
  cases x <;> simp [keysOf] at h
  unfold dOf
  rw [keysL_back h]
theorem dOf_inj {k j : List Key} (h : dOf k = dOf j) : k = j := by
  have e : k.map kD = j.map kD := by simpa [dOf] using h
  have inj : ∀ {a b : Key}, kD a = kD b → a = b := by
    intro a b h
    cases a <;> cases b <;> simp [kD] at h <;> rw [h]
  have gen : ∀ {k j : List Key}, k.map kD = j.map kD → k = j := by
    intro k
    induction k with
    | nil => intro j h; cases j <;> simp at h ⊢
    | cons a k ih =>
      intro j h
      cases j with
      | nil => simp at h
      | cons b j =>
        simp only [List.map_cons, List.cons.injEq] at h
        rw [inj h.1, ih h.2]
  exact gen e
theorem key_rows {H : Hp} : ∀ {l : List D} {vs : List V}, DVs H l vs → (∀ x ∈ l, ∃ k, keysOf x = some k) → ∃ ks : List (Addr × List Key), vs = ks.map (fun p => V.ref p.1) ∧ l = ks.map (fun p => dOf p.2) ∧ ∀ p ∈ ks, H p.1 = some (.tup (p.2.map kV)) ∧ DV H (dOf p.2) (.ref p.1)
  | _, _, .nil, _ => ⟨[], rfl, rfl, fun p h => (nomatch h)⟩
  | d :: l, v :: vs, .cons r t, h => by
    obtain ⟨k, hk⟩ := h d List.mem_cons_self
    obtain ⟨ks, e1, e2, e3⟩ := key_rows t fun x hx => h x (List.mem_cons_of_mem _ hx)
    obtain ⟨b, eb, hb⟩ := keysOf_v r hk
    subst eb
    refine ⟨(b, k) :: ks, by rw [e1]; rfl, by rw [e2, keysOf_back hk]; rfl, fun p hp => ?_⟩
    rcases List.mem_cons.mp hp with e | hp
    · subst e; exact ⟨hb, by rw [← keysOf_back hk]; exact r⟩
    · exact e3 p hp
section
variable {X : Cx} {G : Sc} {e : Expr} {f : WE} {p p2 pos pos2 : Pos}
theorem i_sortSet (hc : X.calm = true) (hu : X.A.units + 70 < cLine) (hg : Gl X "sorted") (hm : X.mg "sorted" = none) (hg2 : Gl X "set") (hm2 : X.mg "set" = none) (he : PE3 X G e f)
    (h1 : starEach [.Call (.Name "set" p2) [e] [] pos2] X.env = (false, eval (.Call (.Name "set" p2) [e] [] pos2) X.env) :: starEach [] X.env := by rfl) (h2 : starEach [e] X.env = (false, eval e X.env) :: starEach [] X.env := by rfl) :
    PE3 X G (.Call (.Name "sorted" p) [.Call (.Name "set" p2) [e] [] pos2] [] pos) (w1 rSortSet f) := by
  refine (pe_callB (cr_sortM hc hu) hg hm b_sorted (pa_cons (pe_callTy (cr_setM hc hu) hg2 hm2 b_set (pa_cons he pa_nil h2) (he := h2)) pa_nil h1) (he := h1)).weak fun σ H Q ⟨ρ, h, k, rel, ev, q, post⟩ => ?_
  refine ⟨ρ, h, _, rel, ev, q, fun d h1 v H1 q1 rel1 per1 dv1 => ?_⟩
  obtain ⟨a, l, rfl, ha, hx, few, srt, q2⟩ := q1
  cases dv1
  obtain ⟨vs, e1, r1⟩ := rel1.lst ha
  obtain ⟨ks, k1, k2, k3⟩ := key_rows r1 fun x hx' => (hx x hx').2
  subst k1
  have few' : Few ks := fun Ds nd sub => by
    have := few (Ds.map dOf) (List.pairwise_map.mpr (nd.imp fun hne e => hne (dOf_inj e))) fun x hx' => by
      obtain ⟨d, hd, rfl⟩ := List.mem_map.mp hx'
      obtain ⟨p, hp, e⟩ := List.mem_map.mp (sub d hd)
      rw [k2, ← e]
      exact List.mem_map_of_mem (f := fun p : Addr × List Key => dOf p.2) hp
    simpa using this
  refine ⟨a, ks, rfl, .of e1, fun p hp => .of (k3 p hp).1, few', fun b L nb sub all nd => ?_⟩
  have rel2 : Rel G h1 (upd H1 b (SetE X.prog X.w b L)) := rel1.new0 nb
  have per2 : Per H1 (upd H1 b (SetE X.prog X.w b L)) := Per.new nb
  have inl : ∀ p ∈ L, dOf p.2 ∈ l := fun p hp => by rw [k2]; exact List.mem_map_of_mem (f := fun p : Addr × List Key => dOf p.2) (sub p hp)
  have un : ∀ p ∈ L, unD (upd H1 b (SetE X.prog X.w b L)) (.ref p.1) = dOf p.2 := fun p hp => unD_of (hx _ (inl p hp)).1.1 ((k3 p (sub p hp)).2.per per2)
  refine ⟨b, L, fun v => (unD (upd H1 b (SetE X.prog X.w b L)) v).py, rfl, upd_same, fun p hp => .of (per2.tups _ _ (k3 p (sub p hp)).1), fun p hp => ?_, ?_, fun ys c hs perm nc => ?_⟩
  · show Dp _ _ _ ((unD _ (V.ref p.1)).py) ∧ ((unD _ (V.ref p.1)).py).depth ≤ 64
    rw [un p hp]
    exact ⟨(rs_py (hx _ (inl p hp)).1.1).dp rel2 ((k3 p (sub p hp)).2.per per2), (hx _ (inl p hp)).1.2⟩
  · refine srt.sub fun x hx' => ?_
    obtain ⟨p, hp, rfl⟩ := List.mem_map.mp hx'
    show (unD _ (V.ref p.1)).py ∈ _
    rw [un p hp]
    exact List.mem_map_of_mem (inl p hp)
  · have uny : ∀ v ∈ ys, ∃ p ∈ L, v = V.ref p.1 ∧ unD (upd H1 b (SetE X.prog X.w b L)) v = dOf p.2 := fun v hv => by
      obtain ⟨p, hp, rfl⟩ := List.mem_map.mp (perm.mem_iff.mp hv)
      exact ⟨p, hp, rfl, un p hp⟩
    have dvs : DVs (upd H1 b (SetE X.prog X.w b L)) (ys.map (unD (upd H1 b (SetE X.prog X.w b L)))) ys := unD_back fun v hv => by
      obtain ⟨p, hp, rfl, e⟩ := uny v hv
      rw [e]
      exact (k3 p (sub p hp)).2.per per2
    have perm2 : (ys.map (unD (upd H1 b (SetE X.prog X.w b L)))).Perm (L.map fun p => dOf p.2) := by
      have := perm.map (unD (upd H1 b (SetE X.prog X.w b L)))
      rw [List.map_map] at this
      refine this.trans (.of_eq (List.map_congr_left fun p hp => un p hp))
    refine post_lst (post.per (per1.trans per2)) rel2 dvs (fun c nc => q2 _ c ?_ (fun x => ?_) (List.pairwise_map.mpr hs) nc) nc
    · refine perm2.nodup_iff.mpr ?_
      have := List.pairwise_map.mp nd
      exact List.pairwise_map.mpr (this.imp fun hne e => hne (dOf_inj e))
    · rw [perm2.mem_iff]
      constructor
      · intro hx'
        obtain ⟨p, hp, rfl⟩ := List.mem_map.mp hx'
        exact inl p hp
      · intro hx'
        rw [k2] at hx'
        obtain ⟨p, hp, rfl⟩ := List.mem_map.mp hx'
        obtain ⟨p', hp', e⟩ := List.mem_map.mp (all p hp)
        exact List.mem_map.mpr ⟨p', hp', by rw [e]⟩
end
end T3
end
-- T3End
section
set_option maxRecDepth 100000
set_option maxHeartbeats 4000000
/-! T3End: the law's own call, at the place where the claim makes it (so that what is under repr is known). -/
namespace T3
open PySem PySem.Spec PySem.W PyProof.Rows L2
section
variable {P : Program} {w : World} {K : Frag} {mg mb : Str → Option Value} {base : Heap} {k : Nat} {f : Addr} {fd : FuncData} {x qual : Str} {st : Stmt} {N ps : List Str} {G : Sc}
/-- the call of a def at A, from its body's reading at A -/
theorem call_at {A : Around} {outer : List Env} {s : Shared} {H : Hp} {args : Args} {us : List Value} {vs : List V} {Q : VK} {W : WS} {l : List D} {h : H3} {kk : K1}
    (F : Fun K x qual st f fd) (S : FnScope N ps (defScope st)) (room : Room (k + 1) A) (e0 : Env0 P w K mg base A outer s H) (bnd : BindsTo s fd args (ps.zip us)) (vals : Vals vs us) (lenV : vs.length = ps.length)
    (walk : ∀ (cdv : Value) (E : XK), Room k (A.deeper (envOfC qual (defScope st) s.heap.objs.size f cdv)) → PSs3 (CXF P w K mg base N qual st f cdv A outer s H E) G (defBody st) W)
    (rel : Rel G h H) (dv : DVs H l vs) (ok : W (en kk) (ev0 N l) h) (post : Post G H kk Q) :
    codeAny (model P w) A (.call (.ref f) args) (CR CX0 outer P w H s Q E0) s := by
  obtain ⟨oc, od, kV, doc, pm, an, cdv, ct, osl, rfl, lk, hcd⟩ := F.ex
  have kept : ∀ (b : Addr) (o : Obj), base.get? b = some o → s.heap.get? b = some o := fun b o q => (e0.bs b o q).1
  have Kin := e0.mod.kin.keeps kept
  have loc : ∀ y ∈ ps.zip us, (defScope st).names.lookup y.1 = some .local ∨ ((defScope st).names.lookup y.1 = some .cell ∧ ((cellsFrom (s.heap.objs.size + 1) (defScope st).names []).lookup y.1).isSome = true) := by
    rintro ⟨n, v⟩ hy
    refine (S.par n (List.of_mem_zip hy).1).imp id fun q => ⟨q, cellsFrom_some _ _ _ (.inl q)⟩
  refine codeAny_call_function room.depth (Kin _ _ lk) rfl S.co S.gen rfl (codeRec_of Kin hcd) (bnd _ _ _ _ (wpAny_newFunctionEnv_cells S.kind loc ?_))
  rintro env rfl s1 inC
  refine ⟨(e0.mod.nolimit.keeps kept).keeps inC.toInCall.keep, codeAny_func ?_⟩
  have I0 : Inv (cxOf CX0 P w K mg base N qual (defScope st) f cdv A outer s H E0) [] (L2.start N vs) H s1 := inv_start S room.hd e0 lenV vals inC
  have go := ((walk cdv E0 (room.deeper _)).nox).run [] s1 (L2.start N vs) H ⟨fun _ H' => Q .non H', Q, fun _ _ => False, fun _ _ => False⟩ I0 ⟨ev0 N l, h, en kk, rel, evr0 dv, ok, ?_⟩
  · refine wpAny_mono go (fun fl s' q => ?_) fun e s' q => q
    match fl, q with
    | .ret u, ⟨v, σ', H', J, rv, q⟩ => exact ⟨v, H', J.os, J.bare, J.base, J.hok, rv, q⟩
    | .next, ⟨σ', H', J, q⟩ => exact ⟨V.non, H', J.os, J.bare, J.base, J.hok, rfl, q⟩
    | .brk, ⟨_, _, _, q⟩ => exact q.elim
    | .cont, ⟨_, _, _, q⟩ => exact q.elim
  · exact ⟨fun ρ h' σ H' ⟨_, sub, q⟩ r p _ => post _ _ _ _ q (r.sub sub) p .non, fun d h' v H' ⟨_, sub, q⟩ r p dv => post _ _ _ _ q (r.sub sub) p dv, fun _ _ _ _ q => q.elim, fun _ _ _ _ q => q.elim⟩
theorem ns_hid {h : Heap} {H : Hp} (noDict : ∀ b o es ep, h.get? b = some o → o.data = .dict es ep → H b = none) {b : Addr} {m : Str → Option Value} (q : h.Ns b m) : (hidT h H).Ns b m := by
  obtain ⟨o, es, ep, e, d, r⟩ := q
  exact ⟨o, es, ep, hidT_get e (noDict _ _ _ _ e d), d, r⟩
/-- the claim's call of the law -/
theorem law_at {fa a : Addr} {s₁ : Shared} {vs : List Value} {ns : List Int} (inK : K.In s₁.heap) (gl : s₁.heap.Ns mainGlobals mg) (bl : s₁.heap.Ns builtinsNs mb) (bz : ∀ y : Str, y ≠ "__name__" → mb y = bootBuiltins y) (nolim : s₁.heap.NoLimit) (gens : s₁.gens = #[])
    (script : s₁.heap.get? a = some { cls := .type "list", data := .seq vs.toArray }) (isI : IntsAre vs ns) (few : ns.length ≤ sizeLine)
    (go : ∀ (base : Heap) (H : Hp), K.In base → base.Ns mainGlobals mg → Ro K H a (ns.map V.int) → Env0 P w K mg base callerA [] s₁ H →
      codeAny (model P w) callerA (.call (.ref fa) ⟨[.ref a], []⟩) (CR CX0 [] P w H s₁ (fun v _ => v = .bl true) E0) s₁) :
    codeAny (model P w) callerA (.call (.ref fa) ⟨[.ref a], []⟩) (fun r s' => r = .ok (.ret (.bool true)) ∧ OldK s₁.heap s'.heap ∧ s'.os = s₁.os ∧ AllBare s'.gens) s₁ := by
  -- what is told of the script: the module's own object, or an object that nobody writes
  obtain ⟨H, hro, hok, at_, old, alien⟩ : ∃ H : Hp, Ro K H a (ns.map V.int) ∧ HOk P w H s₁.heap ∧ (∀ b, H b ≠ none → b = a) ∧ (∀ b, H b = none ∨ ∃ o xs, H b = some (.frz o (.lst xs))) ∧ (H a ≠ none → K.lookup a = none) := by
    have rv := vals_ints isI
    cases hk : K.lookup a with
    | some o =>
      have e : some o = some _ := (inK a o hk).symm.trans script
      cases e
      exact ⟨fun _ => none, .inr ⟨_, vs.toArray, _, hk, rfl, rfl, rfl, by simpa [isI.length] using few, by simpa using rv⟩, fun b u z => (nomatch z), fun b z => absurd rfl z, fun _ => .inl rfl, fun z => absurd rfl z⟩
    | none =>
      let ob : Obj := { cls := .type "list", data := .seq vs.toArray }
      let H : Hp := fun b => if b = a then some (.frz ob (.lst (ns.map V.int))) else none
      have Ha : H a = some (.frz ob (.lst (ns.map V.int))) := if_pos rfl
      have Hb : ∀ b, b ≠ a → H b = none := fun b z => if_neg z
      refine ⟨H, .inl ⟨ob, Ha⟩, fun b u z => ?_, fun b z => Decidable.byContradiction fun y => z (Hb b y), fun b => ?_, fun _ => rfl⟩
      · by_cases y : b = a
        · subst y
          rw [Ha] at z
          cases z
          exact ⟨script, by rw [List.length_map]; exact few, vs, _, rv, script⟩
        · rw [Hb b y] at z; cases z
      · by_cases y : b = a
        · subst y; exact .inr ⟨_, _, Ha⟩
        · exact .inl (Hb b y)
  have noDict : ∀ b o es ep, s₁.heap.get? b = some o → o.data = .dict es ep → H b = none := fun b o es ep e d => by
    refine Decidable.byContradiction fun z => ?_
    rw [at_ b z, script] at e
    cases e
    cases (show Data.seq vs.toArray _ = Data.dict es ep from d)
  have inB : K.In (hidT s₁.heap H) := fun b o e => hidT_get (inK b o e) (Decidable.byContradiction fun z => by
    have y := at_ b z
    subst y
    rw [alien z] at e
    cases e)
  obtain ⟨mc, l1, l2⟩ := nolim
  have envs : Env0 P w K mg (hidT s₁.heap H) callerA [] s₁ H :=
    { frames := rfl, mod := ⟨inB, ns_hid noDict gl, ⟨mb, ns_hid noDict bl, bz⟩, ⟨mc, ns_hid noDict l1, l2⟩⟩, bs := fun b o => of_hidT, bsz := Nat.le_of_eq (hidT_size _ _), funs := trivial, frf := fun b z => (nomatch z), hok := hok, bare := .of_eq gens }
  refine codeAny_mono (go _ H inB (ns_hid noDict gl) hro envs) fun r s' q => ?_
  match r, q with
  | .error e, q => exact (show False from q).elim
  | .ok (.ret u), ⟨v, H', os, bare, un, hok', rv, (e : v = .bl true)⟩ =>
    subst e
    have e2 : u = Value.bool true := rv
    subst e2
    refine ⟨rfl, .of_keep fun b o e => ?_, os, bare⟩
    rcases old b with z | ⟨ob, xs, z⟩
    · exact un.keep b o e z (by simp [frs]) (by simp)
    · have y1 := (hok b _ z).1
      have y2 := (hok' b _ (un.frzs b ob _ z)).1
      rw [e] at y1
      cases y1
      exact y2
  | .ok .next, q => exact (show False from q).elim
  | .ok .brk, q => exact (show False from q).elim
  | .ok .cont, q => exact (show False from q).elim
end
end T3
end
-- T3Super
section
set_option maxRecDepth 100000
set_option maxHeartbeats 4000000
/-! T3Super: an own error below ValueError whose __init__ says super().__init__(at) and self.at = at. -/
namespace T3
open PySem PySem.Spec PySem.Calls PyProof.Rows PySem.W L2
section
variable {P : Program} {w : World} {K : PySem.W.Frag} {mg : Str → Option Value} {base : Heap}
/-- what the class at C, its __init__ at f, and the module show -/
structure SupC (P : Program) (K : PySem.W.Frag) (f C cc cda : Addr) (fd : FuncData) (scope : Scope) (a1 : Arg) : Prop where
  hp : (fd.params.posonlyargs ++ fd.params.args).head? = some a1
  hc : ∃ vs file tf ccl cdd ccs, K.lookup cda = some ⟨ccl, cdd, .fields vs, ccs⟩ ∧ vs[2]? = some (.str file tf) ∧ ((P.main.file : Str) == file) = true
  hcell : ∃ cl cld csl, K.lookup cc = some ⟨cl, cld, .cell (some (.ref C)), csl⟩
  hsub : PySem.W.mroIn K C (.ref C) = some true
  hks : scope.names.lookup ("super" : Str) = some .globalImplicit
  hkc : scope.names.lookup ("__class__" : Str) = some .free
  hka : scope.names.lookup a1.arg = some .local
  hk : scope.kind = .function
  htop : (P.main.scope.names.lookup ("super" : Str)).isSome = false
/-- how super().__init__(an) is evaluated -/
def SupEv (q : Str) (scope : Scope) (L f cc cda : Addr) (an : Str) (p0 p1 p2 ap pos : Pos) : Prop := ∃ pl : Sem Bool,
  eval (.Call (.Attribute (.Call (.Name "super" p0) [] [] p1) "__init__" p2) [.Name an ap] [] pos) (ksEnv q scope L f (.ref cda) cc) = (do
      let ov ← attributeBase (.Call (.Name "super" p0) [] [] p1) "__init__" (ksEnv q scope L f (.ref cda) cc) (eval (.Call (.Name "super" p0) [] [] p1) (ksEnv q scope L f (.ref cda) cc))
      standAt p2.atName
      let (f', first) ← holding [ov] (getMethod ov "__init__" pl)
      callWith pos f' first (backTo pos (starEach [.Name an ap] (ksEnv q scope L f (.ref cda) cc))) [])
/-- super().__init__(e), at the heap -/
theorem super_init {A : Around} {E : Value → Shared → Prop} {s : Shared} {body : List Stmt} {q : Str} {scope : Scope} {L f C cc cda x t1 : Addr} {fd : FuncData} {a1 : Arg} {oc : Value} {od : Option Addr} {osl : Array (Option Value)}
    {p0 p1 p2 pos : Pos} {an : Str} {ap : Pos} {u : Value} {m : Str → Option Value} {Q : Value → Shared → Prop}
    (hev : SupEv q scope L f cc cda an p0 p1 p2 ap pos) (T : SupC P K f C cc cda fd scope a1) (O : OexC K C) (KX : K.In s.heap) (hf : K.lookup f = some ⟨oc, od, .func fd, osl⟩) (hns : s.heap.Ns L m) (hv : m a1.arg = some (.ref x)) (hu : m an = some u) (hlu : scope.names.lookup an = some .local) (hda : (an == ("__debug__" : Str)) = false)
    (gl : s.heap.Ns mainGlobals mg) (gn : mg "super" = none) (bl : ∃ mb, s.heap.Ns builtinsNs mb ∧ ∀ x : Str, x ≠ "__name__" → mb x = bootBuiltins x)
    (ho : nsIn K cStatics "thirdparty.any" = some none) (hB : subIn K (.ref C) (.type "ValueError") = some true) (hm : ks_superIn K C C "__init__" = some (some (.builtin "ValueError.__init__")))
    (hx : s.heap.get? x = some ({ cls := .ref C, dict := none, data := .fields #[.ref t1, .none, .none, .none, .bool false, .none] } : Obj))
    (h : ∀ h' tk t2, (∀ b o, b ≠ x → s.heap.get? b = some o → h'.get? b = some o) → h'.get? x = some ({ cls := .ref C, dict := none, data := .fields #[.ref t2, .none, .none, .none, .bool false, .none] } : Obj) → Q .none { s with heap := h', toks := tk }) :
    _root_.PySem.wpAt (model P w) A (.func body (ksEnv q scope L f (.ref cda) cc)) (eval (.Call (.Attribute (.Call (.Name "super" p0) [] [] p1) "__init__" p2) [.Name an ap] [] pos) (ksEnv q scope L f (.ref cda) cc)) Q E s := by
  obtain ⟨vs, file, tf, ccl, cdd, ccs, hcode, hvs, hfile⟩ := T.hc
  obtain ⟨cl, cld, csl, hcell⟩ := T.hcell
  obtain ⟨nm, qn, N, bs, bm, sn, sub, ab, col, dd, k0, k1, k2, k3, k5, hC, hbm⟩ := O.cls
  have hcl : PySem.W.clsIn K C = some { name := nm, bases := bs, mro := .ref C :: bm, ns := N, qualname := qn, hasDict := true, slotNames := sn, subclasses := sub, abstract := ab, collection := col, hasDel := false } := by unfold PySem.W.clsIn; rw [hC] <;> rfl
  obtain ⟨pl, hev⟩ := hev
  refine ks_wpAt_MethodCall (pl := pl) ?_ hev
  obtain ⟨hh, g, d, t, os⟩ := s
  have oC := KX _ _ hC
  refine ks_wpAt_super_base (env := ksEnv q scope L f (.ref cda) cc) T.hks T.hkc (by decide) rfl (KX _ _ hf) rfl T.hp rfl (KX _ _ hcode) rfl hvs hfile T.htop ?_
  obtain ⟨mb, b1, b2⟩ := bl
  refine ks_loadName_global T.hk T.hks (loadGlobal_builtin (env := ksEnv q scope L f (.ref cda) cc) gl gn b1 ((b2 "super" (by decide)).trans (by decide +kernel)) ⟨rfl, ?_⟩)
  refine wpAny_loadName_free T.hk T.hkc rfl ⟨_, KX _ _ hcell, rfl⟩ ?_
  refine wpAny_loadName_local T.hk T.hka hns hv ?_
  refine ks_wpAny_isType_cls oC rfl ⟨rfl, ?_⟩
  refine ks_wpAny_call_super oC rfl hx rfl (fun c e => by cases e) (looks_mroIn KX T.hsub) (fun h1 e1 k1 => ?_)
  have KX1 : K.In h1 := KX.keeps k1
  have hI : Looks (model P w) h1 (isInstance (.ref x) (.type "ValueError")) true := (InstAt.type (C := C) (od := none) ⟨k1 _ _ hx, rfl, rfl, trivial⟩).andThen (looks_subIn KX1 hB)
  unfold ks_superIn at hm
  rw [hcl] at hm
  have hxC : x ≠ C := fun z => by
    have y := k1 _ _ hx
    rw [z] at y
    have y2 := KX1 _ _ hC
    rw [y2] at y
    cases y
  refine kxs_getMethod kxs_ValueError e1 (looks_opaque KX1 ho) (l₀ := .ref C :: bm) ?_ rfl KX1 hm hI hxC (by decide) ?_
  · exact fun A Q E s k q => wpAny_bind ((looks_clsIn KX1 hcl) A _ E s k (wpAny_pure q))
  have hw1 : (h1.push (kxs_mw "ValueError.__init__" x)).get? h1.objs.size = some (kxs_mw "ValueError.__init__" x) := Heap.get?_push_at rfl rfl
  have k2 : ∀ b o, hh.get? b = some o → (h1.push (kxs_mw "ValueError.__init__" x)).get? b = some o := fun b o e => Heap.get?_push_of_some _ (k1 b o e)
  have KX2 : K.In (h1.push (kxs_mw "ValueError.__init__" x)) := KX.keeps k2
  have hst : starEach [.Name an ap] (ksEnv q scope L f (.ref cda) cc) = (false, eval (.Name an ap) (ksEnv q scope L f (.ref cda) cc)) :: starEach [] (ksEnv q scope L f (.ref cda) cc) := by rfl
  have step : wpAny (model P w) A (spliced (backTo pos (starEach [.Name an ap] (ksEnv q scope L f (.ref cda) cc)))) (fun vs s₁ => KxsAt "ValueError.__init__" h1.objs.size x s₁.heap ∧ wpAny (model P w) A (call (.ref h1.objs.size) ([] ++ vs)) Q E s₁) E ⟨h1.push (kxs_mw "ValueError.__init__" x), g, d, t + 1, os⟩ := by
    refine spliced_more ?_ hst
    refine wpAny_Name (wpAny_loadName_local T.hk hlu (hns.keeps k2) hu ?_) hda
    refine spliced_none ⟨hw1, ?_⟩
    show wpAny _ _ (call (.ref h1.objs.size) [u]) _ _ _
    refine wpAny_call (codeAny_of_tree ?_)
    show wpAny _ A.in1 (callAny (.ref h1.objs.size) ⟨[u], []⟩) _ _ _
    simp only [callAny]
    refine wpAny_bind (wpAny_load hw1 ?_)
    simp only [kxs_mw, show (Value.type "method-wrapper" == Value.type "method" || Value.type "method-wrapper" == Value.type "builtin_function_or_method" || Value.type "method-wrapper" == Value.type "method-wrapper") = true by decide, if_true]
    refine KFB.if_so (by decide) ?_
    refine wpAny_bind (check_bound_init F.excBase_ValueError.toExcCallFacts (KX2 _ _ hC) (k2 _ _ hx) rfl ?_)
    refine wpAny_bind (wpAny_pure (wpAny_pure ?_))
    refine ⟨plainId_quiet F.excBase_ValueError.init.plain _, codeAny_builtin F.excBase_ValueError.initEntry ?_⟩
    refine exc_init_tree (cls := .ref C) (t0 := t1) (dv := none) (c2 := .none) (c3 := .none) (b4 := .bool false) (k2 _ _ hx) (by simp [sizeLine]) fun h3 e3 x3 _ => ?_
    exact h h3 _ _ (fun b o hb e => e3 b o hb (k2 b o e)) x3
  show wpAny _ _ (callWith pos (.ref h1.objs.size) [] (backTo pos (starEach [.Name an ap] (ksEnv q scope L f (.ref cda) cc))) []) _ _ _
  rw [hst] at step ⊢
  exact kxs_callWith (i := "ValueError.__init__") (x := x) rfl (evalArgs_plain step)
/-- the promise of that __init__ -/
def spSup (C : Addr) (fld : Str) : Sp := fun vs H Q _ => ∃ (a : Addr) (y : V), vs = [.ref a, y] ∧ H a = some (exo a C none) ∧ ∀ dx, H dx = none → dx ≠ a → Q .non (upd (upd H dx (exd dx [(fld, y)])) a (exo a C (some dx)))
theorem fn_sup {CX : CXT} {k : Nat} {f C cc cda : Addr} {name qual : Str} {params : Arguments} {scope : Scope} {dV kV doc pm ct oc : Value} {anD od : Option Addr} {osl : Array (Option Value)} {a1 : Arg} {an fld : Str}
    {p0 p1 p2 pos ap sp ep tp vp xp : Pos}
    (lk : K.lookup f = some ⟨oc, od, .func (ksFn name qual params [.Expr (.Call (.Attribute (.Call (.Name "super" p0) [] [] p1) "__init__" p2) [.Name an ap] [] pos) ep, .Assign [.Attribute (.Name a1.arg tp) fld vp] (.Name an xp) sp] scope dV kV doc pm anD (.ref cda) ct cc), osl⟩)
    (hcd : PySem.W.codeIn K (.ref cda) qual = true)
    (hev : ∀ L, SupEv qual scope L f cc cda an p0 p1 p2 ap pos) (T : SupC P K f C cc cda (ksFn name qual params [.Expr (.Call (.Attribute (.Call (.Name "super" p0) [] [] p1) "__init__" p2) [.Name an ap] [] pos) ep, .Assign [.Attribute (.Name a1.arg tp) fld vp] (.Name an xp) sp] scope dV kV doc pm anD (.ref cda) ct cc) scope a1) (O : OexC K C)
    (hne : a1.arg ≠ an) (hlu : scope.names.lookup an = some .local) (hda : (an == ("__debug__" : Str)) = false) (hda1 : (a1.arg == ("__debug__" : Str)) = false) (hcda : (an == ("__classdict__" : Str)) = false) (hcda1 : (a1.arg == ("__classdict__" : Str)) = false)
    (hkinds : ∀ x ∈ scope.names, x.2 ≠ .cell ∧ (x.2 = .free → x.1 = "__class__"))
    (gn : mg "super" = none) (ho : nsIn K cStatics "thirdparty.any" = some none) (hB : subIn K (.ref C) (.type "ValueError") = some true) (hm : ks_superIn K C C "__init__" = some (some (.builtin "ValueError.__init__")))
    (hfl : PySem.W.findIn K (.ref C) fld = some none)
    (hin : ∀ L, interactive (ksEnv qual scope L f (.ref cda) cc) = false) (hsw : ∀ L, swapsWith (.Call (.Attribute (.Call (.Name "super" p0) [] [] p1) "__init__" p2) [.Name an ap] [] pos) none ep.line (ksEnv qual scope L f (.ref cda) cc) = pure false)
    (hsw2 : ∀ L, swapsWith (.Name an xp) (some (.Attribute (.Name a1.arg tp) fld vp)) sp.line (ksEnv qual scope L f (.ref cda) cc) = pure false)
    (hco : scope.isCoroutine = false) (hgen : scope.isGenerator = false) :
    FnOk P w K mg base CX (k + 1) f (ksFn name qual params [.Expr (.Call (.Attribute (.Call (.Name "super" p0) [] [] p1) "__init__" p2) [.Name an ap] [] pos) ep, .Assign [.Attribute (.Name a1.arg tp) fld vp] (.Name an xp) sp] scope dV kV doc pm anD (.ref cda) ct cc) [a1.arg, an] (spSup C fld) := by
  refine ⟨fun vs H Q E ⟨a, y, e, _⟩ => by rw [e]; rfl, fun A outer s H args us vs Q E hr e0 hb r hsp => ?_⟩
  obtain ⟨a, y, rfl, ha, q⟩ := hsp
  obtain ⟨u0, u1, rfl, r0, r1⟩ := vals2 r
  obtain rfl : u0 = Value.ref a := r0
  have KX : K.In s.heap := e0.mod.kin.keeps fun b o e => (e0.bs b o e).1
  have lim : s.heap.NoLimit := e0.mod.nolimit.keeps fun b o e => (e0.bs b o e).1
  refine ks_codeAny_call_defAt (binds := [(a1.arg, .ref a), (an, u1)]) hr.depth (KX _ _ lk) rfl lim (codeRec_of KX hcd) rfl hb (fun x hx => (hkinds x hx).1) (fun x hx => ?_) (fun h₁ hns hk₁ => ?_) hco hgen T.hk
  · simp only [List.mem_cons, List.not_mem_nil, or_false] at hx
    rcases hx with rfl | rfl
    · exact T.hka
    · exact hlu
  generalize hL : s.heap.objs.size = L at hns
  have m1 : (fun x => List.lookup x [(a1.arg, Value.ref a), (an, u1)].reverse) a1.arg = some (.ref a) := by
    show List.lookup a1.arg [(an, u1), (a1.arg, Value.ref a)] = _
    have e : (a1.arg == an) = false := beq_eq_false_iff_ne.mpr hne
    simp [List.lookup, e]
  have m2 : (fun x => List.lookup x [(a1.arg, Value.ref a), (an, u1)].reverse) an = some u1 := by
    show List.lookup an [(an, u1), (a1.arg, Value.ref a)] = _
    simp [List.lookup]
  obtain ⟨t1, hx0⟩ := exo_at e0.hok ha
  obtain ⟨cl, cld, csl, hcell⟩ := T.hcell
  let X : Cx := Cx.mk P w K mg base (A.deeper (ksEnv qual scope L f (.ref cda) cc)) [a1.arg, an] s H (ksEnv qual scope L f (.ref cda) cc) outer (ksEnv qual scope L f (.ref cda) cc :: outer) [] (fun _ => false) true []
    (fun e s' => wpAny (model P w) (A.deeper (ksEnv qual scope L f (.ref cda) cc)) (leaving (ksEnv qual scope L f (.ref cda) cc) e) (fun _ s'' => CX outer H s E e s'') (fun e' s'' => CX outer H s E e' s'') s')
  have hcc : ∀ {x : Str} {c : Addr}, (ksEnv qual scope L f (.ref cda) cc).cells.lookup x = some c → x = "__class__" ∧ c = cc := fun {x c} h => by
    have h : List.lookup x [("__class__", cc)] = some c := h
    simp only [List.lookup] at h
    split at h
    · rename_i e
      exact ⟨by simpa using e, by cases h; rfl⟩
    · cases h
  have Hcc : H cc = none := (e0.bs cc _ (e0.mod.kin _ _ hcell)).2
  have mem_of : ∀ {x : Str} {kd : NameKind}, scope.names.lookup x = some kd → (x, kd) ∈ scope.names := fun h => PySem.mem_of_lookup h
  have I : Inv X [] [some (.ref a), some y] H { s with heap := h₁, toks := s.toks + 2 } := by
    refine ⟨⟨e0.mod, T.hk, rfl, rfl, Nat.le_of_eq hL, fun x z c h1 h2 => (hcc h1).1.trans (hcc h2).1.symm, fun x hx => ?_, fun x c h _ => (by cases h), fun _ => hr.hd, Around.frames_deeper e0.frames, .inr ⟨rfl, rfl⟩, fun b z => (by cases z), e0.bs, e0.bsz, fun b _ _ z => (by cases z), fun b z => (by cases z), e0.funs, e0.frf⟩,
      rfl, e0.bare, Un.kept hk₁, ⟨_, hns, fun i x v h1 h2 h3 => ?_⟩, fun x c h => ?_, e0.hok.fresh (Nat.le_of_eq hL), fun x c h => ?_, fun p hp => (by cases hp), e0.hok.kept hk₁, rfl⟩
    · rcases hx with hx | hx
      · exact absurd rfl (hkinds _ (mem_of hx)).1
      · have := (hkinds _ (mem_of hx)).2 rfl
        have e : x = "__class__" := this
        subst e
        exact ⟨cc, by show List.lookup (Str.ofString "__class__") [(Str.ofString "__class__", cc)] = some cc; simp [List.lookup]⟩
    · match i, h1, h2 with
      | 0, h1, h2 =>
        obtain rfl : a1.arg = x := Option.some.inj h1
        obtain rfl : V.ref a = v := Option.some.inj (Option.some.inj h2)
        exact ⟨.ref a, rfl, .inl ⟨T.hka, m1⟩⟩
      | 1, h1, h2 =>
        obtain rfl : an = x := Option.some.inj h1
        obtain rfl : y = v := Option.some.inj (Option.some.inj h2)
        exact ⟨u1, r1, .inl ⟨hlu, m2⟩⟩
      | i + 2, h1, h2 => cases h1
    · rw [(hcc h).2]
      exact ⟨_, _, hk₁ _ _ (KX _ _ hcell), rfl⟩
    · rw [(hcc h).2]; exact Hcc
  have fin : ∀ {σ' : L2.St} {H' : Hp} {v : V} {u : Value} {s' : Shared}, Inv X [] σ' H' s' → RelV v u → Q v H' → CE outer P w H s Q u s' :=
    fun {σ' H' v u s'} J rv q => ⟨v, H', J.os, J.bare, J.base, J.hok, rv, q⟩
  refine ks_wpAt_execs_cons (ks_wpAt_Expr_any ?_ (hin L) (hsw L))
  have bl := e0.mod.blt
  refine super_init (mg := mg) (hev L) T O (KX.keeps hk₁) lk hns m1 m2 hlu hda (e0.mod.glob.keeps fun b o e => hk₁ b o (e0.bs b o e).1) gn (by
    obtain ⟨mb, b1, b2⟩ := bl
    exact ⟨mb, b1.keeps fun b o e => hk₁ b o (e0.bs b o e).1, b2⟩) ho hB hm (hk₁ _ _ hx0) (fun h' tk t2 k3 x3 => ?_)
  refine wpAt_of_wpAny ?_
  have J : Inv X [] [some (.ref a), some y] H { s with heap := h', toks := tk } := by
    have J := I.write (t' := tk) (x := a) (e := a) (o := exo a C none) (h' := h') (by rw [ha]; exact True.intro) (.inl rfl) k3 ⟨_, x3⟩ (exo_ok x3)
    have eu : upd H a (exo a C none) = H := by
      funext b
      by_cases hb : b = a
      · rw [hb, upd_same, ha]
      · rw [upd_ne hb]
    rw [eu] at J
    exact J
  have hps : PSs X [.Assign [.Attribute (.Name a1.arg tp) fld vp] (.Name an xp) sp] (tOst K fld (tVar 0) (tVar 1)) :=
    pss_one (ps_ost (X := X) (pe_var (i := 0) rfl (.inl T.hka) hda1 hcda1) (pe_var (i := 1) rfl (.inl hlu) hda hcda) (hsw2 L))
  refine wpAny_mono (hps.run [] _ _ H { nx := fun _ H' => Q .non H', rt := Q } J ⟨y, rfl, .ref a, rfl, a, C, rfl, O, hfl, .inl ⟨ha, fun dx n ne => q dx n ne⟩⟩) (fun fl s' hs => ?_) fun e s' hs => hs
  cases fl with
  | ret u =>
    obtain ⟨v, σ', H', J, rv, q⟩ := hs
    exact fin J rv q
  | next =>
    obtain ⟨σ', H', J, q⟩ := hs
    exact fin (v := V.non) (u := Value.none) J rfl q
  | brk =>
    obtain ⟨_, _, _, q⟩ := hs
    exact False.elim q
  | cont =>
    obtain ⟨_, _, _, q⟩ := hs
    exact False.elim q
end
end T3
end
-- T3Exc
section
set_option maxRecDepth 100000
set_option maxHeartbeats 4000000
/-! T3Exc: an own error with one field, raised through defs. -/
namespace T3
open PySem PySem.Spec PyProof.Rows L2
theorem inv_per {X : Cx} {pins : List (Addr × Obj)} {σ : L2.St} {H : Hp} {s : Shared} (I : Inv X pins σ H s) : Per X.H_0 H := ⟨I.base.tups, I.base.frzs⟩
/-- ex is what is wanted of the error's field and the heap behind it -/
def PostX (G : Sc) (C : Addr) (fld : Str) (H0 : Hp) (ex : D → H3 → Prop) (E : XK) : Prop := ∀ v h' x H' d, ex v h' → Rel G h' H' → Per H0 H' → DV H' v x → H' d = some (.xd [(fld, x)]) → E (.ref C) (some d) H'
theorem PostX.per {G : Sc} {C : Addr} {fld : Str} {H H' : Hp} {ex : D → H3 → Prop} {E : XK} (q : PostX G C fld H ex E) (p : Per H H') : PostX G C fld H' ex E := fun v h' x H2 d a b c e f => q v h' x H2 d a b (p.trans c) e f
/-- the context's wish, that may know the names -/
def XF (X : Cx) (G : Sc) (C : Addr) (fld : Str) (ex : Ev → D → H3 → Prop) : Prop := ∃ W : WX, Takes X W ∧ ∀ ρ v h' x H' d σ, ex ρ v h' → Rel G h' H' → Per X.H_0 H' → EvR H' ρ σ → DV H' v x → H' d = some (.xd [(fld, x)]) → W (.ref C) (some d) σ H'
/-- a def's wish -/
def XF0 (X : Cx) (G : Sc) (C : Addr) (fld : Str) (ex : D → H3 → Prop) : Prop := ∃ W : WX, Takes X W ∧ ∀ v h' x H' d σ, ex v h' → Rel G h' H' → Per X.H_0 H' → DV H' v x → H' d = some (.xd [(fld, x)]) → W (.ref C) (some d) σ H'
theorem XF0.xf {X : Cx} {G : Sc} {C : Addr} {fld : Str} {ex : D → H3 → Prop} (h : XF0 X G C fld ex) : XF X G C fld fun _ => ex :=
  let ⟨W, tk, q⟩ := h
  ⟨W, tk, fun _ v h' x H' d σ a b c _ e f => q v h' x H' d σ a b c e f⟩
abbrev XS3 := (D → H3 → Prop) → Sp3
def spX (G : Sc) (C : Addr) (fld : Str) (sp : XS3) : Sp := fun vs H Q E => ∃ l h k ex, Rel G h H ∧ DVs H l vs ∧ sp ex l h k ∧ Post G H k Q ∧ PostX G C fld H ex E
def FdX (P : Program) (w : World) (K : PySem.W.Frag) (mg : Str → Option Value) (base : Heap) (G : Sc) (C : Addr) (fld : Str) (x : Str) (k : Nat) (sp : XS3) : Prop :=
  ∃ f fd ps, FnOk P w K mg base (L2.CX P w) k f fd ps (spX G C fld sp) ∧ mg x = some (.ref f) ∧ PySem.W.keepIn K (.ref f) = true ∧ Binds K fd ps []
def MdX (P : Program) (w : World) (K : PySem.W.Frag) (mg : Str → Option Value) (base : Heap) (G : Sc) (C : Addr) (fld : Str) (C2 : Addr) (m : Str) (k : Nat) (sp : XS3) : Prop :=
  ∃ f fd ps, FnOk P w K mg base (L2.CX P w) k f fd ps (spX G C fld sp) ∧ Meth K C2 m f ∧ Cls K C2 ∧ Binds K fd ps []
/-- the error's class -/
def KdX (P : Program) (w : World) (K : PySem.W.Frag) (mg : Str → Option Value) (base : Heap) (C : Addr) (fld : Str) (x : Str) (k : Nat) : Prop :=
  ∃ f fd ps, FnOk P w K mg base CX0 k f fd ps (spSup C fld) ∧ OexC K C ∧ PySem.W.findIn K (.ref C) "__init__" = some (some (.ref f)) ∧ PySem.W.typeIn K (.ref f) = some (.type "function") ∧ mg x = some (.ref C) ∧ Binds K fd ps []
section
variable {X : Cx} {G : Sc} {C C2 : Addr} {fld x m : Str} {k : Nat} {sp : XS3} {ex : Ev → D → H3 → Prop} {ex0 : D → H3 → Prop} {e o : Expr} {es : List Expr} {f : WE} {l : WA} {p pos pos' apos : Pos}
theorem perw {t t' : TE} (h : PE X e t) (w : ∀ σ H Q, Per X.H_0 H → t' σ H Q → t σ H Q) : PE X e t' := ⟨fun pins s σ H Q I q => h.run pins s σ H Q I (w σ H Q (inv_per I) q)⟩
theorem perwS {st : Stmt} {t t' : TS} (h : PS X st t) (w : ∀ D σ H, Per X.H_0 H → t' D σ H → t D σ H) : PS X st t' := ⟨fun pins s σ H D I q => h.run pins s σ H D I (w D σ H (inv_per I) q)⟩
def wLX (sp : XS3) (ex : Ev → D → H3 → Prop) (l : WA) : WE := fun ρ h k => l ρ h fun ds h1 => sp (ex ρ) ds h1 k
theorem i_callX (hx : XF X G C fld ex) (F : FdX X.prog X.w X.K X.mg X.base G C fld x k sp) (hr : Room k X.A) (ha : PA3 X G (e :: es) l) (hg : Gl X x := by rfl)
    (hdb : (x == ("__debug__" : Str)) = false := by decide) (he : starEach (e :: es) X.env = (false, eval e X.env) :: starEach es X.env := by rfl) (hpl : (backTo pos (starEach es X.env)).any (·.1) = false := by rfl) : PE3 X G (.Call (.Name x p) (e :: es) [] pos) (wLX sp ex l) := by
  obtain ⟨fa, fd, ps, F, hm, hk, hb⟩ := F
  obtain ⟨W, tk, hW⟩ := hx
  refine perw (pe_callS (E := L2.WE W) F hr hg hm hk hb (fun σ => passAt tk σ) ha hdb he hpl) fun σ H Q hp ⟨ρ, h, k, rel, ev, q, post⟩ => ?_
  refine ⟨ρ, h, _, rel, ev, q, fun ds h1 vs H1 q1 rel1 per1 dvs => ⟨ds, h1, k, ex ρ, rel1, dvs, q1, post.per per1, fun v h' x H' d e1 r1 p1 d1 hd => ?_⟩⟩
  exact hW ρ v h' x H' d σ e1 r1 ((hp.trans per1).trans p1) (ev.per (per1.trans p1)) d1 hd
def wMethX (C : Addr) (N : List Str) (sp : XS3) (ex : D → H3 → Prop) (o : WE) (l : WA) : WE := fun ρ h k => o ρ h fun x h1 => ∃ a vs, x = .ref a ∧ h1 a = some (.ins C N vs) ∧ l ρ h1 fun ds h2 => sp ex (x :: ds) h2 k
theorem i_methX (N : List Str) {pl : Sem Bool} (hx : XF0 X G C fld ex0) (F : MdX X.prog X.w X.K X.mg X.base G C fld C2 m k sp) (hr : Room k X.A) (ho : PE3 X G o f) (ha : PA3 X G (e :: es) l) (hm : m ∉ N := by decide)
    (hst : starEach (e :: es) X.env = (false, eval e X.env) :: starEach es X.env := by rfl) (hpl : (backTo pos (starEach es X.env)).any (·.1) = false := by rfl)
    (ht : eval (.Call (.Attribute o m apos) (e :: es) [] pos) X.env = (do
      let ov ← eval o X.env
      standAt apos.atName
      let (f, first) ← holding [ov] (getMethod ov m pl)
      callWith pos f first (backTo pos (starEach (e :: es) X.env)) (backToKw pos (keywordEach [] X.env))) := by rfl) : PE3 X G (.Call (.Attribute o m apos) (e :: es) [] pos) (wMethX C2 N sp ex0 f l) := by
  obtain ⟨fa, fd, ps, F, M, c, hb⟩ := F
  obtain ⟨W, tk, hW⟩ := hx
  refine perw (pe_meth (E := fun cls d H => ∀ σ, W cls d σ H) ho c M F hr hb .nil (passes_call tk fun cls d σ H h => h σ) ha hst hpl ht) fun σ H Q hp ⟨ρ, h, k, rel, ev, q, post⟩ => ?_
  refine ⟨ρ, h, _, rel, ev, q, fun d h1 v H1 q1 rel1 per1 dv1 => ?_⟩
  obtain ⟨a, vs, rfl, hi, q1⟩ := q1
  cases dv1
  obtain ⟨dx, fs, e1, e2, _, _⟩ := rel1.ins hi
  refine ⟨a, dx, fs, rfl, e1, no_look hm e2, ρ, h1, _, rel1, ev.per per1, q1, fun ds h2 ws H2 q2 rel2 per2 dv2 => ?_⟩
  show spX G C fld sp (V.ref a :: (ws ++ [])) H2 Q _
  rw [List.append_nil]
  exact ⟨_, h2, k, ex0, rel2, .cons (.ref a) dv2, q2, post.per (per1.trans per2), fun v h' x H' d e1 r1 p1 d1 hd σ => hW v h' x H' d σ e1 r1 (((hp.trans per1).trans per2).trans p1) d1 hd⟩
theorem i_methX0 (N : List Str) {pl : Sem Bool} (hx : XF0 X G C fld ex0) (F : MdX X.prog X.w X.K X.mg X.base G C fld C2 m k sp) (hr : Room k X.A) (ho : PE3 X G o f) (hm : m ∉ N := by decide)
    (ht : eval (.Call (.Attribute o m apos) [] [] pos) X.env = (do
      let ov ← eval o X.env
      standAt apos.atName
      let (f, first) ← holding [ov] (getMethod ov m pl)
      callWith pos f first (backTo pos (starEach [] X.env)) (backToKw pos (keywordEach [] X.env))) := by rfl) : PE3 X G (.Call (.Attribute o m apos) [] [] pos) (wMethX C2 N sp ex0 f wNil) := by
  obtain ⟨fa, fd, ps, F, M, c, hb⟩ := F
  obtain ⟨W, tk, hW⟩ := hx
  refine perw (pe_meth0 (E := fun cls d H => ∀ σ, W cls d σ H) ho c M F hr hb .nil (passes_call tk fun cls d σ H h => h σ) ht) fun σ H Q hp ⟨ρ, h, k, rel, ev, q, post⟩ => ?_
  refine ⟨ρ, h, _, rel, ev, q, fun d h1 v H1 q1 rel1 per1 dv1 => ?_⟩
  obtain ⟨a, vs, rfl, hi, q1⟩ := q1
  cases dv1
  obtain ⟨dx, fs, e1, e2, _, _⟩ := rel1.ins hi
  exact ⟨a, dx, fs, rfl, e1, no_look hm e2, _, h1, k, ex0, rel1, .cons (.ref a) .nil, q1, post.per per1, fun v h' x H' d e1 r1 p1 d1 hd σ => hW v h' x H' d σ e1 r1 ((hp.trans per1).trans p1) d1 hd⟩
/-- raise C(e) -/
def wRaise (ex : Ev → D → H3 → Prop) (a : WE) : WS := fun _ ρ h => a ρ h fun v h1 => ex ρ v h1
theorem is_raise (hx : XF X G C fld ex) (F : KdX X.prog X.w X.K X.mg X.base C fld x k) (hc : X.calm = true) (hr : Room (k + 1) X.A) (he : PE3 X G e f) (hg : Gl X x := by rfl)
    (hdb : (x == ("__debug__" : Str)) = false := by decide) (hst : starEach [e] X.env = (false, eval e X.env) :: starEach [] X.env := by rfl) (hpl : (backTo pos (starEach [] X.env)).any (·.1) = false := by rfl) :
    PS3 X G (.Raise (some (.Call (.Name x p) [e] [] pos)) none pos') (wRaise ex f) := by
  obtain ⟨fa, fd, ps, F, T, iC, tI, hm, hb⟩ := F
  obtain ⟨W, tk, hW⟩ := hx
  refine perwS (ps_raise hc tk (pmk_oex T iC tI F hr hb .nil pass0 hg hm (ia_cons he ia_nil hst) hdb hst hpl)) fun D σ H hp ⟨ρ, h, E, rel, ev, q, post⟩ => ?_
  refine ⟨ρ, h, fun l h1 => match l with | [v] => ex ρ v h1 | _ => False, rel, ev, q, fun l h1 vs H1 q1 rel1 per1 dvs => ?_⟩
  match l, q1, dvs with
  | [v], q1, dvs =>
    cases dvs with
    | cons d1 t1 =>
      cases t1
      rename_i y
      refine ⟨by simp, fun a na => ⟨a, y, rfl, upd_same, fun dx nd nda => ⟨rfl, dx, [(fld, y)], upd_same, ?_, ?_, ?_⟩⟩⟩
      · rw [upd_ne nda, upd_same]
      · rw [upd_ne nda] at nd; exact nd
      · rw [upd_ne nda] at nd
        have e1 : upd (del (upd (upd (upd H1 a (exo a C none)) dx (exd dx [(fld, y)])) a (exo a C (some dx))) a) dx (.xd [(fld, y)]) = upd H1 dx (.xd [(fld, y)]) := by
          funext b
          by_cases hb : b = dx
          · rw [hb, upd_same, upd_same]
          · rw [upd_ne hb, upd_ne hb]
            by_cases hba : b = a
            · rw [hba, del_same, na]
            · rw [del_ne hba, upd_ne hba, upd_ne hb, upd_ne hba]
        rw [e1]
        exact hW ρ v h1 y _ dx σ q1 (rel1.new0 nd) ((hp.trans per1).trans (Per.new nd)) (ev.per (per1.trans (Per.new nd))) (d1.per (Per.new nd)) upd_same
end
section
variable {P : Program} {w : World} {K : PySem.W.Frag} {mg : Str → Option Value} {base : Heap} {G : Sc} {C : Addr} {fld : Str}
/-- a raising def's context -/
abbrev CXX (P : Program) (w : World) (K : PySem.W.Frag) (mg : Str → Option Value) (base : Heap) (N : List Str) (qual : Str) (st : Stmt) (f : Addr) (cdv : Value) (A : Around) (outer : List Env) (s : Shared) (H : Hp) (E : XK) : Cx :=
  cxOf (L2.CX P w) P w K mg base N qual (defScope st) f cdv A outer s H E
theorem xf_of {N : List Str} {qual : Str} {st : Stmt} {f : Addr} {cdv : Value} {A : Around} {outer : List Env} {s : Shared} {H : Hp} {E : XK} {ex : D → H3 → Prop} (q : PostX G C fld H ex E) : XF0 (CXX P w K mg base N qual st f cdv A outer s H E) G C fld ex :=
  ⟨_, takes_of rfl rfl rfl rfl, fun v h' x H' d σ a b c e f => q v h' x H' d a b c e f⟩
theorem fnX {x qual : Str} {st : Stmt} {f : Addr} {fd : FuncData} {N ps : List Str} {k : Nat} {sp : XS3} {W : (D → H3 → Prop) → WS} (F : Fun K x qual st f fd) (S : FnScope N ps (defScope st))
    (walk : ∀ (ex : D → H3 → Prop) (cdv : Value) (A : Around) (outer : List Env) (s : Shared) (H : Hp) (E : XK), Room k (A.deeper (envOfC qual (defScope st) s.heap.objs.size f cdv)) → XF0 (CXX P w K mg base N qual st f cdv A outer s H E) G C fld ex → PSs3 (CXX P w K mg base N qual st f cdv A outer s H E) G (defBody st) (W ex))
    (len : ∀ ex l h k, sp ex l h k → l.length = ps.length) (ok : ∀ ex l h k, sp ex l h k → W ex (en k) (ev0 N l) h) : FnOk P w K mg base (L2.CX P w) (k + 1) f fd ps (spX G C fld sp) := by
  refine F.okX S (fun vs H Q E ⟨l, h, k, ex, rel, dv, q, post, _⟩ => by rw [← dv.length]; exact len ex l h k q) (fun cdv A outer s H vs Q E hr ⟨l, h, k, ex, rel, dv, q, post, px⟩ => ?_)
  refine ⟨_, walk ex cdv A outer s H E hr (xf_of px), ev0 N l, h, en k, rel, evr0 dv, ok ex l h k q, ?_⟩
  refine ⟨fun ρ h' σ H' ⟨h'', sub, q'⟩ rel' per' _ => post _ _ _ _ q' (rel'.sub sub) per' .non, fun d h' v H' ⟨h'', sub, q'⟩ rel' per' dv' => post _ _ _ _ q' (rel'.sub sub) per' dv', fun _ _ _ _ q' => q'.elim, fun _ _ _ _ q' => q'.elim⟩
end
end T3
end
-- T3Join
section
set_option maxRecDepth 100000
set_option maxHeartbeats 4000000
/-! T3Join: from what the module's top has left to the promises of its defs. -/
namespace T3
open PySem PySem.Spec PySem.W PyProof.Rows L2
/-- the def at the module's name x -/
def At (K : Frag) (mg : Str → Option Value) (x : Str) (st : Stmt) : Prop := ∃ f fd, mg x = some (.ref f) ∧ Fun K x x st f fd
/-- the method m of the class at C -/
def AtM (K : Frag) (C : Addr) (m qual : Str) (st : Stmt) : Prop := ∃ f fd, Meth K C m f ∧ Fun K m qual st f fd
section
variable {P : Program} {w : World} {K : Frag} {mg : Str → Option Value} {base h : Heap} {G : Sc} {x m qual : Str} {st : Stmt} {f C C2 : Addr} {N ps : List Str} {j k : Nat} {fld : Str}
theorem at_mk {oc : Value} {od an : Option Addr} {osl : Array (Option Value)} {kV doc pm cdv ct : Value} (inK : K.In h) (gl : h.Ns mainGlobals mg) (a : nsIn K mainGlobals x = some (some (.ref f)))
    (l : K.lookup f = some ⟨oc, od, .func (fnOf x x (defArgs st) (defBody st) (defScope st) .none kV doc pm an cdv ct), osl⟩) (c : codeIn K cdv x = true) (kp : keepIn K (.ref f) = true) : At K mg x st := ⟨f, _, mg_of inK gl a, fun_mk l c kp⟩
theorem atm_mk {oc : Value} {od an : Option Addr} {osl : Array (Option Value)} {kV doc pm cdv ct : Value} (a : findIn K (.ref C) m = some (some (.ref f))) (i : isFn K (.ref f) = true)
    (l : K.lookup f = some ⟨oc, od, .func (fnOf m qual (defArgs st) (defBody st) (defScope st) .none kV doc pm an cdv ct), osl⟩) (c : codeIn K cdv qual = true) (kp : keepIn K (.ref f) = true) : AtM K C m qual st := ⟨f, _, ⟨a, i, kp⟩, fun_mk l c kp⟩
theorem cls_mk (pg : plainGet K C Str.empty = true) (hd : hasDictIn K C = true) (po : plainOver K C = true) (sa : findIn K (.ref C) "__setattr__" = some (some (.builtin "object.__setattr__"))) : Cls K C := ⟨pg, hd, po, sa⟩
/-- how its arguments bind -/
abbrev Bnd (K : Frag) (x qual : Str) (st : Stmt) (ps : List Str) : Prop := ∀ (f : Addr) (fd : FuncData), Fun K x qual st f fd → Binds K fd ps []
theorem mkFd {sp : Sp3} {W : WS} (D : At K mg x st) (S : FnScope N ps (defScope st)) (b : Bnd K x x st ps)
    (walk : ∀ (f : Addr) (cdv : Value) (A : Around) (outer : List Env) (s : Shared) (H : Hp) (E : XK), Room k (A.deeper (envOfC x (defScope st) s.heap.objs.size f cdv)) → PSs3 (CXF P w K mg base N x st f cdv A outer s H E) G (defBody st) W)
    (len : ∀ l h k, sp l h k → l.length = ps.length) (ok : ∀ l h k, sp l h k → W (en k) (ev0 N l) h) : Fd P w K mg base G x (k + 1) sp := by
  obtain ⟨f, fd, hm, F⟩ := D
  exact .of (fn3 F S (walk f) len ok) hm F.kp (b f fd F)
theorem mkMd {sp : Sp3} {W : WS} (D : AtM K C m qual st) (c : Cls K C) (S : FnScope N ps (defScope st)) (b : Bnd K m qual st ps)
    (walk : ∀ (f : Addr) (cdv : Value) (A : Around) (outer : List Env) (s : Shared) (H : Hp) (E : XK), Room k (A.deeper (envOfC qual (defScope st) s.heap.objs.size f cdv)) → PSs3 (CXF P w K mg base N qual st f cdv A outer s H E) G (defBody st) W)
    (len : ∀ l h k, sp l h k → l.length = ps.length) (ok : ∀ l h k, sp l h k → W (en k) (ev0 N l) h) : Md P w K mg base G C m (k + 1) sp := by
  obtain ⟨f, fd, hm, F⟩ := D
  exact ⟨f, fd, ps, fn3 F S (walk f) len ok, hm, c, b f fd F⟩
theorem mkKd {sp : Sp3} {W : WS} (D : AtM K C "__init__" qual st) (mk : makesIn K C = true) (kc : keepIn K (.ref C) = true) (hx : mg x = some (.ref C)) (S : FnScope N ps (defScope st)) (b : Bnd K "__init__" qual st ps)
    (walk : ∀ (f : Addr) (cdv : Value) (A : Around) (outer : List Env) (s : Shared) (H : Hp) (E : XK), Room k (A.deeper (envOfC qual (defScope st) s.heap.objs.size f cdv)) → PSs3 (CXF P w K mg base N qual st f cdv A outer s H E) G (defBody st) W)
    (len : ∀ l h k, sp l h k → l.length = ps.length) (ok : ∀ l h k, sp l h k → W (en k) (ev0 N l) h) : Kd P w K mg base G x C (k + 1) sp := by
  obtain ⟨f, fd, hm, F⟩ := D
  exact ⟨f, fd, ps, fn3 F S (walk f) len ok, ⟨mk, hm.at_, hm.fn, kc⟩, hx, b f fd F⟩
/-- a wish for an error, whatever was made since -/
def exS (ex : D → H3 → Prop) : D → H3 → Prop := fun v h' => ∃ h'', Sub h'' h' ∧ ex v h''
theorem PostX.exS {H0 : Hp} {ex : D → H3 → Prop} {E : XK} (q : PostX G C fld H0 ex E) : PostX G C fld H0 (T3.exS ex) E := fun v h' x H' d ⟨h'', sub, e⟩ r p dv hd => q v h'' x H' d e (r.sub sub) p dv hd
theorem fnXS {fd : FuncData} {sp : XS3} {W : (D → H3 → Prop) → WS} (F : Fun K x qual st f fd) (S : FnScope N ps (defScope st))
    (walk : ∀ (ex : D → H3 → Prop) (cdv : Value) (A : Around) (outer : List Env) (s : Shared) (H : Hp) (E : XK), Room k (A.deeper (envOfC qual (defScope st) s.heap.objs.size f cdv)) → XF0 (CXX P w K mg base N qual st f cdv A outer s H E) G C fld ex → PSs3 (CXX P w K mg base N qual st f cdv A outer s H E) G (defBody st) (W ex))
    (len : ∀ ex l h k, sp ex l h k → l.length = ps.length) (ok : ∀ ex l h k, sp ex l h k → W (exS ex) (en k) (ev0 N l) h) : FnOk P w K mg base (L2.CX P w) (k + 1) f fd ps (spX G C fld sp) := by
  refine F.okX S (fun vs H Q E ⟨l, h, k, ex, rel, dv, q, post, _⟩ => by rw [← dv.length]; exact len ex l h k q) (fun cdv A outer s H vs Q E hr ⟨l, h, k, ex, rel, dv, q, post, px⟩ => ?_)
  refine ⟨_, walk (exS ex) cdv A outer s H E hr (xf_of px.exS), ev0 N l, h, en k, rel, evr0 dv, ok ex l h k q, ?_⟩
  exact ⟨fun ρ h' σ H' ⟨_, sub, q'⟩ r p _ => post _ _ _ _ q' (r.sub sub) p .non, fun d h' v H' ⟨_, sub, q'⟩ r p dv' => post _ _ _ _ q' (r.sub sub) p dv', fun _ _ _ _ q' => q'.elim, fun _ _ _ _ q' => q'.elim⟩
theorem mkFdX {sp : XS3} {W : (D → H3 → Prop) → WS} (D : At K mg x st) (S : FnScope N ps (defScope st)) (b : Bnd K x x st ps)
    (walk : ∀ (f : Addr) (ex : T3.D → H3 → Prop) (cdv : Value) (A : Around) (outer : List Env) (s : Shared) (H : Hp) (E : XK), Room k (A.deeper (envOfC x (defScope st) s.heap.objs.size f cdv)) → XF0 (CXX P w K mg base N x st f cdv A outer s H E) G C fld ex → PSs3 (CXX P w K mg base N x st f cdv A outer s H E) G (defBody st) (W ex))
    (len : ∀ ex l h k, sp ex l h k → l.length = ps.length) (ok : ∀ ex l h k, sp ex l h k → W (exS ex) (en k) (ev0 N l) h) : FdX P w K mg base G C fld x (k + 1) sp := by
  obtain ⟨f, fd, hm, F⟩ := D
  exact ⟨f, fd, ps, fnXS F S (walk f) len ok, hm, F.kp, b f fd F⟩
theorem mkMdX {sp : XS3} {W : (D → H3 → Prop) → WS} (D : AtM K C2 m qual st) (c : Cls K C2) (S : FnScope N ps (defScope st)) (b : Bnd K m qual st ps)
    (walk : ∀ (f : Addr) (ex : T3.D → H3 → Prop) (cdv : Value) (A : Around) (outer : List Env) (s : Shared) (H : Hp) (E : XK), Room k (A.deeper (envOfC qual (defScope st) s.heap.objs.size f cdv)) → XF0 (CXX P w K mg base N qual st f cdv A outer s H E) G C fld ex → PSs3 (CXX P w K mg base N qual st f cdv A outer s H E) G (defBody st) (W ex))
    (len : ∀ ex l h k, sp ex l h k → l.length = ps.length) (ok : ∀ ex l h k, sp ex l h k → W (exS ex) (en k) (ev0 N l) h) : MdX P w K mg base G C fld C2 m (k + 1) sp := by
  obtain ⟨f, fd, hm, F⟩ := D
  exact ⟨f, fd, ps, fnXS F S (walk f) len ok, hm, c, b f fd F⟩
theorem Fd.no {sp : Sp3} (D : At K mg x st) (b : Bnd K x x st ps) (no : ∀ l h k, ¬ sp l h k) : Fd P w K mg base G x k sp := by
  obtain ⟨f, fd, hm, F⟩ := D
  exact .of ⟨fun vs H Q E ⟨l, h, k, _, _, q, _⟩ => (no _ _ _ q).elim, fun A outer s H args us vs Q E _ _ _ _ ⟨l, h, k, _, _, q, _⟩ => (no _ _ _ q).elim⟩ hm F.kp (b f fd F)
theorem FdX.no {sp : XS3} (D : At K mg x st) (b : Bnd K x x st ps) (no : ∀ ex l h k, ¬ sp ex l h k) : FdX P w K mg base G C fld x k sp := by
  obtain ⟨f, fd, hm, F⟩ := D
  exact ⟨f, fd, ps, ⟨fun vs H Q E ⟨l, h, k, ex, _, _, q, _⟩ => (no _ _ _ _ q).elim, fun A outer s H args us vs Q E _ _ _ _ ⟨l, h, k, ex, _, _, q, _⟩ => (no _ _ _ _ q).elim⟩, hm, F.kp, b f fd F⟩
theorem MdX.no {sp : XS3} (D : AtM K C2 m qual st) (c : Cls K C2) (b : Bnd K m qual st ps) (no : ∀ ex l h k, ¬ sp ex l h k) : MdX P w K mg base G C fld C2 m k sp := by
  obtain ⟨f, fd, hm, F⟩ := D
  exact ⟨f, fd, ps, ⟨fun vs H Q E ⟨l, h, k, ex, _, _, q, _⟩ => (no _ _ _ _ q).elim, fun A outer s H args us vs Q E _ _ _ _ ⟨l, h, k, ex, _, _, q, _⟩ => (no _ _ _ _ q).elim⟩, hm, c, b f fd F⟩
theorem Md.mono {sp : Sp3} (F : Md P w K mg base G C m j sp) (h : j ≤ k) : Md P w K mg base G C m k sp := let ⟨f, fd, ps, a, b⟩ := F; ⟨f, fd, ps, a.mono h, b⟩
theorem Kd.mono {sp : Sp3} (F : Kd P w K mg base G x C j sp) (h : j ≤ k) : Kd P w K mg base G x C k sp := let ⟨f, fd, ps, a, b⟩ := F; ⟨f, fd, ps, a.mono h, b⟩
theorem FdX.mono {sp : XS3} (F : FdX P w K mg base G C fld x j sp) (h : j ≤ k) : FdX P w K mg base G C fld x k sp := let ⟨f, fd, ps, a, b⟩ := F; ⟨f, fd, ps, a.mono h, b⟩
theorem MdX.mono {sp : XS3} (F : MdX P w K mg base G C fld C2 m j sp) (h : j ≤ k) : MdX P w K mg base G C fld C2 m k sp := let ⟨f, fd, ps, a, b⟩ := F; ⟨f, fd, ps, a.mono h, b⟩
theorem KdX.mono (F : KdX P w K mg base C fld x j) (h : j ≤ k) : KdX P w K mg base C fld x k := let ⟨f, fd, ps, a, b⟩ := F; ⟨f, fd, ps, a.mono h, b⟩
end
/-! ### a def whose last argument has a default, a whole number -/
structure AtD (K : Frag) (mg : Str → Option Value) (x : Str) (st : Stmt) (i : Int) : Prop where
  ex : ∃ (f : Addr) (oc : Value) (od : Option Addr) (kV doc pm : Value) (an : Option Addr) (cdv ct : Value) (osl : Array (Option Value)) (T : Addr) (tod : Option Addr) (n : Nat) (tosl : Array (Option Value)) (tk : Tok),
    mg x = some (.ref f) ∧ K.lookup f = some ⟨oc, od, .func (fnOf x x (defArgs st) (defBody st) (defScope st) (.ref T) kV doc pm an cdv ct), osl⟩ ∧ codeIn K cdv x = true ∧ keepIn K (.ref f) = true ∧ K.lookup T = some ⟨.type "tuple", tod, .seq #[.int i tk] n, tosl⟩
theorem atd_mk {K : Frag} {mg : Str → Option Value} {h : Heap} {x : Str} {st : Stmt} {i : Int} {f : Addr} {oc : Value} {od an : Option Addr} {osl : Array (Option Value)} {kV doc pm cdv ct : Value} {T : Addr} {tod : Option Addr} {n : Nat} {tosl : Array (Option Value)} {tk : Tok} (inK : K.In h) (gl : h.Ns mainGlobals mg) (a : nsIn K mainGlobals x = some (some (.ref f)))
    (l : K.lookup f = some ⟨oc, od, .func (fnOf x x (defArgs st) (defBody st) (defScope st) (.ref T) kV doc pm an cdv ct), osl⟩) (c : codeIn K cdv x = true) (kp : keepIn K (.ref f) = true) (lt : K.lookup T = some ⟨.type "tuple", tod, .seq #[.int i tk] n, tosl⟩) : AtD K mg x st i :=
  ⟨f, oc, od, kV, doc, pm, an, cdv, ct, osl, T, tod, n, tosl, tk, mg_of inK gl a, l, c, kp, lt⟩
/-- how its arguments bind: all given; the last one left out -/
abbrev BndD (x : Str) (st : Stmt) (ps : List Str) (i : Int) : Prop := ∀ (T : Addr) (kV doc pm : Value) (an : Option Addr) (cdv ct : Value) (tk : Tok) (us : List Value), us.length = ps.length → ∃ k0, bindArgs (fnOf x x (defArgs st) (defBody st) (defScope st) (.ref T) kV doc pm an cdv ct) ⟨us, []⟩ = seqItems? (.ref T) >>= k0 ∧ k0 (some #[.int i tk]) = pure (ps.zip us)
abbrev BndS (x : Str) (st : Stmt) (ps : List Str) (i : Int) : Prop := ∀ (T : Addr) (kV doc pm : Value) (an : Option Addr) (cdv ct : Value) (tk : Tok) (us : List Value), us.length + 1 = ps.length → ∃ k0, bindArgs (fnOf x x (defArgs st) (defBody st) (defScope st) (.ref T) kV doc pm an cdv ct) ⟨us, []⟩ = seqItems? (.ref T) >>= k0 ∧ k0 (some #[.int i tk]) = pure (ps.zip (us ++ [.int i tk]))
section
variable {P : Program} {w : World} {K : Frag} {mg : Str → Option Value} {base h : Heap} {G : Sc} {x : Str} {st : Stmt} {N ps : List Str} {k : Nat} {i : Int}
theorem mkFdD {sp : Sp3} {W : WS} (D : AtD K mg x st i) (S : FnScope N ps (defScope st)) (b : BndD x st ps i)
    (walk : ∀ (f : Addr) (cdv : Value) (A : Around) (outer : List Env) (s : Shared) (H : Hp) (E : XK), Room k (A.deeper (envOfC x (defScope st) s.heap.objs.size f cdv)) → PSs3 (CXF P w K mg base N x st f cdv A outer s H E) G (defBody st) W)
    (len : ∀ l h k, sp l h k → l.length = ps.length) (ok : ∀ l h k, sp l h k → W (en k) (ev0 N l) h) : Fd P w K mg base G x (k + 1) sp := by
  obtain ⟨f, oc, od, kV, doc, pm, an, cdv, ct, osl, T, tod, n, tosl, tk, hm, lk, hcd, kp, lt⟩ := D.ex
  refine .of (fn3D lk hcd S (walk f) len ok) hm kp fun s us X hl => ?_
  rw [List.append_nil] at hl ⊢
  obtain ⟨k0, e1, e2⟩ := b T kV doc pm an cdv ct tk us hl
  exact BindsTo.of_defaults rfl (X _ _ lt) rfl e1 e2
theorem mkFdS {sp sp' : Sp3} {W : WS} (D : AtD K mg x st i) (S : FnScope N ps (defScope st)) (b : BndS x st ps i)
    (walk : ∀ (f : Addr) (cdv : Value) (A : Around) (outer : List Env) (s : Shared) (H : Hp) (E : XK), Room k (A.deeper (envOfC x (defScope st) s.heap.objs.size f cdv)) → PSs3 (CXF P w K mg base N x st f cdv A outer s H E) G (defBody st) W)
    (len : ∀ l h k, sp l h k → l.length = ps.length) (ok : ∀ l h k, sp l h k → W (en k) (ev0 N l) h) (short : ∀ l h k, sp' l h k → sp (l ++ [.int i]) h k) : Fd P w K mg base G x (k + 1) sp' := by
  obtain ⟨f, oc, od, kV, doc, pm, an, cdv, ct, osl, T, tod, n, tosl, tk, hm, lk, hcd, kp, lt⟩ := D.ex
  refine ⟨f, _, ps, ⟨sp, [.int i], [.int i], [.int i tk], fn3D lk hcd S (walk f) len ok, fun s us X hl => ?_, .cons ⟨tk, rfl⟩ .nil, fun H => .cons (.int i) .nil, short⟩, hm, kp⟩
  obtain ⟨k0, e1, e2⟩ := b T kV doc pm an cdv ct tk us (by simpa using hl)
  exact BindsTo.of_defaults rfl (X _ _ lt) rfl e1 e2
theorem Fd.noD {sp : Sp3} (D : AtD K mg x st i) (b : BndD x st ps i) (no : ∀ l h k, ¬ sp l h k) : Fd P w K mg base G x k sp := by
  obtain ⟨f, oc, od, kV, doc, pm, an, cdv, ct, osl, T, tod, n, tosl, tk, hm, lk, hcd, kp, lt⟩ := D.ex
  refine .of (fd := fnOf x x (defArgs st) (defBody st) (defScope st) (.ref T) kV doc pm an cdv ct) (ps := ps) ⟨fun vs H Q E ⟨l, h, k, _, _, q, _⟩ => (no _ _ _ q).elim, fun A outer s H args us vs Q E _ _ _ _ ⟨l, h, k, _, _, q, _⟩ => (no _ _ _ q).elim⟩ hm kp fun s us X hl => ?_
  rw [List.append_nil] at hl ⊢
  obtain ⟨k0, e1, e2⟩ := b T kV doc pm an cdv ct tk us hl
  exact BindsTo.of_defaults rfl (X _ _ lt) rfl e1 e2
end
end T3
end
-- T3Kw
section
set_option maxRecDepth 100000
set_option maxHeartbeats 4000000
/-! T3Kw: calls with keywords, list(dict), a dict comprehension with two names. -/
namespace T3
open PySem PySem.Spec PySem.W PyProof.Rows L2

/-! ### list(d): a dict's keys -/
def keysD (kvs : List (List Key × D)) : List D := kvs.map fun kv => .tup (kv.1.map kD)
def rListD : List D → H3 → K1 → Prop := fun l h k => ∃ a kvs, l = [.ref a] ∧ h a = some (.dT kvs) ∧ ∀ p, h p = none → k (.ref p) (up h p (.lst (keysD kvs)))
theorem dv_key (H : Hp) : ∀ k : Key, DV H (kD k) (kV k)
  | .inl i => .int i
  | .inr x => .str x
theorem dvs_key (H : Hp) : ∀ ks : List Key, DVs H (ks.map kD) (ks.map kV)
  | [] => .nil
  | k :: r => .cons (dv_key H k) (dvs_key H r)
theorem dvs_keys {H : Hp} : ∀ {kvs : List (List Key × D)} {vs : List (List Key × V)} {bs : List Addr}, KVs H kvs vs → IsKeys H vs bs → DVs H (keysD kvs) (bs.map V.ref)
  | [], _, _, h, b => by
    cases h
    cases b
    exact .nil
  | (k, d) :: r, _, _, h, b => by
    cases h with
    | cons z t =>
      cases b with
      | cons y u =>
        obtain ⟨e, _⟩ := z
        refine .cons (.tup y ?_) (dvs_keys t u)
        rw [← e]
        exact dvs_key H k
theorem rf_listD {X : Cx} {G : Sc} (hc : X.calm = true) : RfL G (UC X (.type "list")) rListD := by
  intro l vs h H k Q rel dv ⟨a, kvs, el, ha, q⟩ post
  subst el
  cases dv with
  | cons d1 t1 =>
    cases t1
    cases d1
    obtain ⟨ws, e1, r1⟩ := rel.dT ha
    exact ⟨_, call_list_dT hc, a, ws, rfl, .of e1, fun p bs np ik => post_lst post rel (dvs_keys r1 ik) q np⟩

/-! ### calls with keywords -/
/-- the arguments by place, and just one by its keyword -/
def one1 {α : Type} (us ws : List α) : List α := if ws.length = 1 then us ++ ws else []
/-- the def at the module's name x, called with its last argument by the keyword ks -/
def FdK (P : Program) (w : World) (K : Frag) (mg : Str → Option Value) (base : Heap) (G : Sc) (x : Str) (ks : List Str) (k : Nat) (sp : Sp3) : Prop :=
  ∃ f fd ps, FnOk P w K mg base CX0 k f fd ps (spI G sp) ∧ mg x = some (.ref f) ∧ keepIn K (.ref f) = true ∧ KBinds K fd ps ks one1 one1
theorem FdK.mono {P : Program} {w : World} {K : Frag} {mg : Str → Option Value} {base : Heap} {G : Sc} {x : Str} {ks : List Str} {j k : Nat} {sp : Sp3} (F : FdK P w K mg base G x ks j sp) (h : j ≤ k) : FdK P w K mg base G x ks k sp :=
  let ⟨f, fd, ps, a, b⟩ := F
  ⟨f, fd, ps, a.mono h, b⟩
/-- the keywords' values, from the left -/
abbrev PK3 (X : Cx) (G : Sc) (kws : List Keyword) (t : WA) : Prop := PK X kws (tIA G t)
def wKw (sp : Sp3) (l m : WA) : WE := fun ρ h k => l ρ h fun ds h1 => m ρ h1 fun es h2 => es.length = 1 ∧ sp (ds ++ es) h2 k
section
variable {X : Cx} {G : Sc} {e : Expr} {es : List Expr} {kws : List Keyword} {f : WE} {l m : WA} {p pos kpos : Pos} {x : Str} {ks : List Str} {k : Nat} {sp : Sp3} {nm : Option Str}
theorem _root_.L2.PK.weak {kws : List Keyword} {t t' : TA} (h : PK X kws t) (w : ∀ σ H Q, t' σ H Q → t σ H Q) : PK X kws t' := ⟨fun pos pins s σ H Q I q => h.run pos pins s σ H Q I (w σ H Q q)⟩
theorem ik_nil : PK3 X G [] wNil := PK.weak pk_nil fun σ H Q ⟨ρ, h, k, rel, ev, q, post⟩ => post [] h [] H q rel (Per.refl H) .nil
theorem ik_cons (ha : PE3 X G e f) (hr : PK3 X G kws l) : PK3 X G (⟨nm, e, kpos⟩ :: kws) (wCons f l) := by
  refine PK.weak (pk_cons ha hr) fun σ H Q ⟨ρ, h, k, rel, ev, q, post⟩ => ?_
  refine ⟨ρ, h, _, rel, ev, q, fun d h1 v H1 q1 rel1 per1 dv1 => ?_⟩
  exact ⟨ρ, h1, _, rel1, ev.per per1, q1, fun ds h2 vs H2 q2 rel2 per2 dv2 => post _ _ _ _ q2 rel2 (per1.trans per2) (.cons (dv1.per per2) dv2)⟩
theorem i_callK (F : FdK X.prog X.w X.K X.mg X.base G x ks k sp) (hr : Room k X.A) (ha : PA3 X G (e :: es) l) (hk : PK3 X G kws m) (hg : Gl X x := by rfl)
    (hall : (backToKw pos (keywordEach kws X.env)).all (·.1.isSome) = true := by rfl) (hks : (backToKw pos (keywordEach kws X.env)).filterMap (·.1) = ks := by rfl)
    (hdb : (x == ("__debug__" : Str)) = false := by decide) (he : starEach (e :: es) X.env = (false, eval e X.env) :: starEach es X.env := by rfl)
    (hpl : ((backTo pos (starEach (e :: es) X.env)).any (·.1) || (backToKw pos (keywordEach kws X.env)).any (·.1.isNone)) = false := by rfl) : PE3 X G (.Call (.Name x p) (e :: es) kws pos) (wKw sp l m) := by
  obtain ⟨f, fd, ps, F, hm, hkp, hb⟩ := F
  refine (pe_callK F hr hg hm hkp hb pass0 ha hk hall hks hdb he hpl).weak fun σ H Q ⟨ρ, h, k, rel, ev, q, post⟩ => ?_
  refine ⟨ρ, h, _, rel, ev, q, fun ds h1 vs H1 q1 rel1 per1 dv1 => ⟨ρ, h1, _, rel1, ev.per per1, q1, fun es' h2 ws H2 q2 rel2 per2 dv2 => ?_⟩⟩
  show spI G sp (one1 vs ws) H2 Q E0
  have e1 : one1 vs ws = vs ++ ws := if_pos (by rw [← dv2.length]; exact q2.1)
  rw [e1]
  exact ⟨_, h2, k, rel2, (dv1.per per2).append dv2, q2.2, post.per (per1.trans per2)⟩
end
section
variable {P : Program} {w : World} {K : Frag} {mg : Str → Option Value} {base : Heap} {G : Sc} {x : Str} {st : Stmt} {N ps ks : List Str} {k : Nat}
theorem vals_app : ∀ {vs : List V} {us : List Value} {zs : List V} {ws : List Value}, Vals vs us → Vals zs ws → Vals (vs ++ zs) (us ++ ws)
  | _, _, _, _, .nil, h => h
  | _, _, _, _, .cons r t, h => .cons r (vals_app t h)
/-- the last argument by the keyword k -/
theorem Fun.kbinds {qual : Str} {f : Addr} {fd : FuncData} {kw : Str} (F : Fun K x qual st f fd) (hps : ps ≠ [])
    (h : ∀ (kV doc pm : Value) (an : Option Addr) (cdv ct : Value) (us : List Value) (w : Value), us.length + 1 = ps.length → bindArgs (fnOf x qual (defArgs st) (defBody st) (defScope st) .none kV doc pm an cdv ct) ⟨us, [(kw, w)]⟩ = pure (ps.zip (us ++ [w]))) :
    KBinds K fd ps [kw] one1 one1 := by
  obtain ⟨oc, od, kV, doc, pm, an, cdv, ct, osl, rfl, lk, hcd⟩ := F.ex
  refine ⟨fun s us ws _ hl => ?_, fun {vs us zs ws} a b => ?_⟩
  · unfold one1 at hl ⊢
    split at hl
    · rename_i c
      obtain ⟨w, rfl⟩ := List.length_eq_one_iff.mp c
      exact .of_eq (h kV doc pm an cdv ct us w (by simpa using hl))
    · exact absurd (List.length_eq_zero_iff.mp hl.symm) hps
  · have hl : zs.length = ws.length := b.length
    unfold one1
    rw [hl]
    split
    · exact vals_app a b
    · exact .nil
/-- its promise -/
theorem mkFdK {sp : Sp3} {W : WS} {kw : Str} (D : At K mg x st) (S : FnScope N ps (defScope st)) (b : ∀ (f : Addr) (fd : FuncData), Fun K x x st f fd → KBinds K fd ps [kw] one1 one1)
    (walk : ∀ (f : Addr) (cdv : Value) (A : Around) (outer : List Env) (s : Shared) (H : Hp) (E : XK), Room k (A.deeper (envOfC x (defScope st) s.heap.objs.size f cdv)) → PSs3 (CXF P w K mg base N x st f cdv A outer s H E) G (defBody st) W)
    (len : ∀ l h k, sp l h k → l.length = ps.length) (ok : ∀ l h k, sp l h k → W (en k) (ev0 N l) h) : FdK P w K mg base G x [kw] (k + 1) sp := by
  obtain ⟨f, fd, hm, F⟩ := D
  exact ⟨f, fd, ps, fn3 F S (walk f) len ok, hm, F.kp, b f fd F⟩
end

/-! ### {k: v for a, b in ..} -/
def dcW (chk : H3 → Prop) (i j : Nat) (t : WT) (ke ve : WE) (p : Addr) (ρ : Ev) (k : K1) : List D → H3 → Prop
  | [], h => chk h ∧ k (.ref p) h
  | x :: r, h => chk h ∧ ∃ a b, x = .tup [a, b] ∧ t ((ρ.set i (some a)).set j (some b)) h fun c h1 => if c = true then ke ((ρ.set i (some a)).set j (some b)) h1 fun y h2 => ve ((ρ.set i (some a)).set j (some b)) h2 fun d h3 =>
      ∃ kvs q, h3 p = some (.dK kvs) ∧ keyOf y = some q ∧ kvs.length < 16777216 ∧ ∃ h4, Sub h4 (up h3 p (.dK (putD kvs q d))) ∧ dcW chk i j t ke ve p ρ k r h4
      else ∃ h3, Sub h3 h1 ∧ dcW chk i j t ke ve p ρ k r h3
def wDc (it : WI) (i j : Nat) (t : WT) (ke ve : WE) : WE := fun ρ h k => it ρ h fun s h1 => ∀ p, h1 p = none → match s with
  | .fix l => dcW (fun _ => True) i j t ke ve p ρ k l (up h1 p (.dK []))
  | .lst a => ∃ l, h1 a = some (.lst l) ∧ dcW (fun h => h a = some (.lst l)) i j t ke ve p ρ k l (up h1 p (.dK []))
abbrev gTwo (K : Frag) (i j : Nat) : TG := gTup K 2 (gCons (gName i) (gCons (gName j) gNil))
theorem wipe_set2 {σ : L2.St} {i j : Nat} {v u : Option V} : wipe (((wipe σ [i, j]).set i v).set j u) [i, j] = wipe σ [i, j] := by
  show ((((((σ.set j none).set i none).set i v).set j u).set j none).set i none) = (σ.set j none).set i none
  by_cases h : i = j
  · subst h; simp [List.set_set]
  · rw [List.set_set, List.set_set, List.set_comm _ _ h, List.set_set, List.set_set]
theorem EvR.wip2 {H : Hp} {ρ : Ev} {σ : L2.St} {a b : D} {v u : V} (e : EvR H ρ σ) (r : DV H a v) (s : DV H b u) {i j : Nat} (h : i ≠ j) : EvR H ((ρ.set i (some a)).set j (some b)) (((wipe σ [i, j]).set i (some v)).set j (some u)) := by
  show EvR H ((ρ.set i (some a)).set j (some b)) ((((σ.set j none).set i none).set i (some v)).set j (some u))
  rw [List.set_set, List.set_comm none (some v) (Ne.symm h), List.set_set]
  exact (e.set r i).set s j
theorem dc_ok {G : Sc} {KK : Frag} {J : It} {H1 : Hp} {s : Src} {i j : Nat} {t : WT} {ke ve : WE} {Q : VK} {k : K1} {l : List T3.D} {chk : H3 → Prop} {ρ : Ev} {h : H3} {σ : L2.St} {H0 : Hp} {p : Addr} (hij : i ≠ j)
    (ok : ItOk G J H1 s) (p0 : Per H0 H1) (at_ : ∀ i h d, chk h → l[i]? = some d → s.at_ h i d) (done : ∀ i h, chk h → l.length ≤ i → s.done h i)
    (rel : Rel G h H1) (ev : EvR H1 ρ σ) (np : H1 p = none) (q : dcW chk i j t ke ve p ρ k l (up h p (.dK []))) (post : Post G H0 k Q) :
    ∃ W : Nat → Nat → Hp → Prop, (∃ m, W 0 m (upd H1 p (.dK []))) ∧ ∀ n m H, W n m H →
  (J.stop n H ∧ Q (.ref p) H) ∨ (J.go n H ∧ ∃ Nx : Hp → Prop, (∀ H', Nx H' → ∃ m', m' < m ∧ W (n + 1) m' H') ∧ ∀ x H', J.yld n H x H' → gTwo KK i j x (wipe σ [i, j]) H' fun σ2 H2 => wipe σ2 [i, j] = wipe σ [i, j] ∧ tIT G t σ2 H2 fun b H3 =>
    if b = true then tI G ke σ2 H3 fun y H4 => tI G ve σ2 H4 fun z H5 => ∃ kvs k, y = kV k ∧ H5 p = some (.dK kvs) ∧ kvs.length < sizeLine ∧ Nx (upd H5 p (.dK (putK kvs k z))) else Nx H3) := by
  refine ⟨fun n m H => ∃ h, n + m = l.length ∧ Rel G h H ∧ Per H1 H ∧ dcW chk i j t ke ve p ρ k (l.drop n) h, ⟨l.length, _, by omega, rel.new (o := .dK []) np ⟨[], upd_same, .nil⟩, Per.new np, by simpa using q⟩, ?_⟩
  rintro n m H ⟨h, em, rel, per, q⟩
  by_cases hj : n < l.length
  · have e : l[n]? = some l[n] := List.getElem?_eq_getElem hj
    rw [List.drop_eq_getElem_cons hj] at q
    obtain ⟨hc, a, b, ex, q⟩ := q
    have sat := at_ n h _ hc e
    refine .inr ⟨ok.go n H h _ per rel sat, fun H' => ∃ h, Rel G h H' ∧ Per H1 H' ∧ dcW chk i j t ke ve p ρ k (l.drop (n + 1)) h, fun H' ⟨h', a, b, c⟩ => ⟨m - 1, by omega, h', by omega, a, b, c⟩, fun x H' y => ?_⟩
    obtain ⟨rel', per', dv⟩ := ok.yld n H h _ x H' per rel sat y
    rw [ex] at dv
    cases dv with
    | tup et rt =>
      cases rt with
      | cons da rt =>
        cases rt with
        | cons db rt =>
          cases rt
          refine ⟨_, _, rfl, .of et, rfl, _, _, rfl, _, _, rfl, rfl, wipe_set2, (ρ.set i (some a)).set j (some b), h, _, rel', (ev.per (per.trans per')).wip2 da db hij, q, fun c h1 H2 q1 rel1 per1 => ?_⟩
          cases c with
          | true =>
            rw [if_pos rfl] at q1
            rw [if_pos rfl]
            refine ⟨(ρ.set i (some a)).set j (some b), h1, _, rel1, (ev.per ((per.trans per').trans per1)).wip2 (da.per per1) (db.per per1) hij, q1, fun y h2 v H3 q2 rel2 per2 dv2 => ?_⟩
            refine ⟨(ρ.set i (some a)).set j (some b), h2, _, rel2, (ev.per (((per.trans per').trans per1).trans per2)).wip2 (da.per (per1.trans per2)) (db.per (per1.trans per2)) hij, q2, fun d h3 u H4 q3 rel3 per3 dv3 => ?_⟩
            obtain ⟨kvs, kk, ha, ek, hz, h4, sub, q4⟩ := q3
            obtain ⟨vs, e1, kv⟩ := rel3.dK ha
            have pm := Per.mut (o := .dK (putK vs kk u)) (rel3.mut ha)
            refine ⟨vs, kk, key_v (dv2.per per3) ek, e1, by rw [← kv.length]; exact hz, h4, (rel3.write (o := .dK (putD kvs kk d)) ha ⟨_, upd_same, (kv.put kk dv3).per pm⟩).sub sub, ?_, q4⟩
            exact ((per.trans per').trans per1).trans ((per2.trans per3).trans pm)
          | false =>
            obtain ⟨h3, sub, q3⟩ := q1
            rw [if_neg Bool.false_ne_true]
            exact ⟨h3, rel1.sub sub, (per.trans per').trans per1, q3⟩
  · have e : l.drop n = [] := List.drop_eq_nil_iff.mpr (by omega)
    rw [e] at q
    obtain ⟨hc, q⟩ := q
    exact .inl ⟨ok.stop n H h per rel (done n h hc (by omega)), post _ h _ H q rel (p0.trans per) (.ref p)⟩
section
variable {X : Cx} {G : Sc} {kx vx iter c : Expr} {ifs : List Expr} {scope : Scope} {pos p1 p2 p3 : Pos} {it : WI} {t : WT} {ke ve : WE} {x y : Str} {kd : Nat}
theorem i_dc (i j : Nat) (hc : X.calm = true) (hN : X.N.Nodup) (hij : i ≠ j) (ok : BlkOk X.N X.env.scope scope [(x, i), (y, j)]) (hi : PI3 X G (.Tuple [.Name x p1, .Name y p2] kd p3) iter it)
    (hg : ∀ (s : Shared) (H : Hp) (C : Addr) (cl : List (Str × Addr)) (fp : List Addr), PG (X.blk s H scope (compEnvC scope cl C X.env) fp) (.Tuple [.Name x p1, .Name y p2] kd p3) (gTwo X.K i j))
    (ht : ∀ (s : Shared) (H : Hp) (C : Addr) (cl : List (Str × Addr)) (fp : List Addr), PTs (X.blk s H scope (compEnvC scope cl C X.env) fp) ifs (tIT G t))
    (hk : ∀ (s : Shared) (H : Hp) (C : Addr) (cl : List (Str × Addr)) (fp : List Addr), PE (X.blk s H scope (compEnvC scope cl C X.env) fp) kx (tI G ke))
    (he : ∀ (s : Shared) (H : Hp) (C : Addr) (cl : List (Str × Addr)) (fp : List Addr), PE (X.blk s H scope (compEnvC scope cl C X.env) fp) vx (tI G ve)) (hs : ∀ x, foldedSetIterable iter X.env x = pure x := by intro _; rfl) :
    PE3 X G (.DictComp kx vx [⟨.Tuple [.Name x p1, .Name y p2] kd p3, iter, ifs, 0⟩] scope pos) (wDc it i j t ke ve) := by
  refine (pe_dc (own := [(x, i), (y, j)]) hc hN hi ok hg ht hk he hs).weak fun σ H Q ⟨ρ, h, k, rel, ev, q, post⟩ => ?_
  refine ⟨ρ, h, _, rel, ev, q, fun s J h1 H1 q1 rel1 per1 ok p np => ?_⟩
  have q1 := q1 p (rel1.none np)
  split at q1
  · exact dc_ok hij ok per1 (fun i h d _ e => e) (fun i h _ e => e) rel1 (ev.per per1) np q1 post
  · obtain ⟨l, hl, q1⟩ := q1
    exact dc_ok hij ok per1 (fun i h d c e => ⟨l, c, e⟩) (fun i h c e => ⟨l, c, e⟩) rel1 (ev.per per1) np q1 post
end
end T3
end
-- T3Dc1
section
set_option maxRecDepth 100000
set_option maxHeartbeats 4000000
/-! T3Dc1: a dict comprehension with one name; sorted(dict of texts). -/
namespace T3
open PySem PySem.Spec PySem.W PyProof.Rows L2
/-! ### {k: v for a in ..} -/
def dcW1 (chk : H3 → Prop) (i : Nat) (t : WT) (ke ve : WE) (p : Addr) (ρ : Ev) (k : K1) : List D → H3 → Prop
  | [], h => chk h ∧ k (.ref p) h
  | x :: r, h => chk h ∧ t (ρ.set i (some x)) h fun c h1 => if c = true then ke (ρ.set i (some x)) h1 fun y h2 => ve (ρ.set i (some x)) h2 fun d h3 =>
      ∃ kvs q, h3 p = some (.dK kvs) ∧ keyOf y = some q ∧ kvs.length < 16777216 ∧ ∃ h4, Sub h4 (up h3 p (.dK (putD kvs q d))) ∧ dcW1 chk i t ke ve p ρ k r h4
      else ∃ h3, Sub h3 h1 ∧ dcW1 chk i t ke ve p ρ k r h3
def wDc1 (it : WI) (i : Nat) (t : WT) (ke ve : WE) : WE := fun ρ h k => it ρ h fun s h1 => ∀ p, h1 p = none → match s with
  | .fix l => dcW1 (fun _ => True) i t ke ve p ρ k l (up h1 p (.dK []))
  | .lst a => ∃ l, h1 a = some (.lst l) ∧ dcW1 (fun h => h a = some (.lst l)) i t ke ve p ρ k l (up h1 p (.dK []))
theorem dc_ok1 {G : Sc} {J : It} {H1 : Hp} {s : Src} {i : Nat} {t : WT} {ke ve : WE} {Q : VK} {k : K1} {l : List T3.D} {chk : H3 → Prop} {ρ : Ev} {h : H3} {σ : L2.St} {H0 : Hp} {p : Addr}
    (ok : ItOk G J H1 s) (p0 : Per H0 H1) (at_ : ∀ i h d, chk h → l[i]? = some d → s.at_ h i d) (done : ∀ i h, chk h → l.length ≤ i → s.done h i)
    (rel : Rel G h H1) (ev : EvR H1 ρ σ) (np : H1 p = none) (q : dcW1 chk i t ke ve p ρ k l (up h p (.dK []))) (post : Post G H0 k Q) :
    ∃ W : Nat → Nat → Hp → Prop, (∃ m, W 0 m (upd H1 p (.dK []))) ∧ ∀ n m H, W n m H →
  (J.stop n H ∧ Q (.ref p) H) ∨ (J.go n H ∧ ∃ Nx : Hp → Prop, (∀ H', Nx H' → ∃ m', m' < m ∧ W (n + 1) m' H') ∧ ∀ x H', J.yld n H x H' → gName i x (wipe σ [i]) H' fun σ2 H2 => wipe σ2 [i] = wipe σ [i] ∧ tIT G t σ2 H2 fun b H3 =>
    if b = true then tI G ke σ2 H3 fun y H4 => tI G ve σ2 H4 fun z H5 => ∃ kvs k, y = kV k ∧ H5 p = some (.dK kvs) ∧ kvs.length < sizeLine ∧ Nx (upd H5 p (.dK (putK kvs k z))) else Nx H3) := by
  refine ⟨fun n m H => ∃ h, n + m = l.length ∧ Rel G h H ∧ Per H1 H ∧ dcW1 chk i t ke ve p ρ k (l.drop n) h, ⟨l.length, _, by omega, rel.new (o := .dK []) np ⟨[], upd_same, .nil⟩, Per.new np, by simpa using q⟩, ?_⟩
  rintro n m H ⟨h, em, rel, per, q⟩
  by_cases hj : n < l.length
  · have e : l[n]? = some l[n] := List.getElem?_eq_getElem hj
    rw [List.drop_eq_getElem_cons hj] at q
    obtain ⟨hc, q⟩ := q
    have sat := at_ n h _ hc e
    refine .inr ⟨ok.go n H h _ per rel sat, fun H' => ∃ h, Rel G h H' ∧ Per H1 H' ∧ dcW1 chk i t ke ve p ρ k (l.drop (n + 1)) h, fun H' ⟨h', a, b, c⟩ => ⟨m - 1, by omega, h', by omega, a, b, c⟩, fun x H' y => ?_⟩
    obtain ⟨rel', per', dv⟩ := ok.yld n H h _ x H' per rel sat y
    refine ⟨wipe_set, (ρ.set i (some l[n])), h, _, rel', (ev.per (per.trans per')).wip dv i, q, fun c h1 H2 q1 rel1 per1 => ?_⟩
    cases c with
    | true =>
      rw [if_pos rfl] at q1
      rw [if_pos rfl]
      refine ⟨ρ.set i (some l[n]), h1, _, rel1, (ev.per ((per.trans per').trans per1)).wip (dv.per per1) i, q1, fun y h2 v H3 q2 rel2 per2 dv2 => ?_⟩
      refine ⟨ρ.set i (some l[n]), h2, _, rel2, (ev.per (((per.trans per').trans per1).trans per2)).wip (dv.per (per1.trans per2)) i, q2, fun d h3 u H4 q3 rel3 per3 dv3 => ?_⟩
      obtain ⟨kvs, kk, ha, ek, hz, h4, sub, q4⟩ := q3
      obtain ⟨vs, e1, kv⟩ := rel3.dK ha
      have pm := Per.mut (o := .dK (putK vs kk u)) (rel3.mut ha)
      refine ⟨vs, kk, key_v (dv2.per per3) ek, e1, by rw [← kv.length]; exact hz, h4, (rel3.write (o := .dK (putD kvs kk d)) ha ⟨_, upd_same, (kv.put kk dv3).per pm⟩).sub sub, ?_, q4⟩
      exact ((per.trans per').trans per1).trans ((per2.trans per3).trans pm)
    | false =>
      obtain ⟨h3, sub, q3⟩ := q1
      rw [if_neg Bool.false_ne_true]
      exact ⟨h3, rel1.sub sub, (per.trans per').trans per1, q3⟩
  · have e : l.drop n = [] := List.drop_eq_nil_iff.mpr (by omega)
    rw [e] at q
    obtain ⟨hc, q⟩ := q
    exact .inl ⟨ok.stop n H h per rel (done n h hc (by omega)), post _ h _ H q rel (p0.trans per) (.ref p)⟩
section
variable {X : Cx} {G : Sc} {kx vx iter c : Expr} {ifs : List Expr} {scope : Scope} {pos p1 p2 p3 : Pos} {it : WI} {t : WT} {ke ve : WE} {x : Str}
theorem i_dc1 (i : Nat) (hc : X.calm = true) (hN : X.N.Nodup) (ok : BlkOk X.N X.env.scope scope [(x, i)]) (hi : PI3 X G (.Name x p1) iter it)
    (hg : ∀ (s : Shared) (H : Hp) (C : Addr) (cl : List (Str × Addr)) (fp : List Addr), PG (X.blk s H scope (compEnvC scope cl C X.env) fp) (.Name x p1) (gName i))
    (ht : ∀ (s : Shared) (H : Hp) (C : Addr) (cl : List (Str × Addr)) (fp : List Addr), PTs (X.blk s H scope (compEnvC scope cl C X.env) fp) ifs (tIT G t))
    (hk : ∀ (s : Shared) (H : Hp) (C : Addr) (cl : List (Str × Addr)) (fp : List Addr), PE (X.blk s H scope (compEnvC scope cl C X.env) fp) kx (tI G ke))
    (he : ∀ (s : Shared) (H : Hp) (C : Addr) (cl : List (Str × Addr)) (fp : List Addr), PE (X.blk s H scope (compEnvC scope cl C X.env) fp) vx (tI G ve)) (hs : ∀ x, foldedSetIterable iter X.env x = pure x := by intro _; rfl) :
    PE3 X G (.DictComp kx vx [⟨.Name x p1, iter, ifs, 0⟩] scope pos) (wDc1 it i t ke ve) := by
  refine (pe_dc (own := [(x, i)]) hc hN hi ok hg ht hk he hs).weak fun σ H Q ⟨ρ, h, k, rel, ev, q, post⟩ => ?_
  refine ⟨ρ, h, _, rel, ev, q, fun s J h1 H1 q1 rel1 per1 ok p np => ?_⟩
  have q1 := q1 p (rel1.none np)
  split at q1
  · exact dc_ok1 ok per1 (fun i h d _ e => e) (fun i h _ e => e) rel1 (ev.per per1) np q1 post
  · obtain ⟨l, hl, q1⟩ := q1
    exact dc_ok1 ok per1 (fun i h d c e => ⟨l, c, e⟩) (fun i h c e => ⟨l, c, e⟩) rel1 (ev.per per1) np q1 post
end
section
variable {X : Cx} {G : Sc}
/-- sorted(d): d's keys are texts -/
def rSortedD : List D → H3 → K1 → Prop := fun l h k => ∃ (a : Addr) (kvs : List (Key × D)) (ks : List Str), l = [.ref a] ∧ h a = some (.dK kvs) ∧ kvs.map (·.1) = ks.map Sum.inr ∧ ks.length < 64 ∧
  ∀ (ys : List Str) p, ys.Perm ks → sortedS ys = true → h p = none → k (.ref p) (up h p (.lst (ys.map D.str)))
theorem dvs_strs' {H : Hp} : ∀ l : List Str, DVs H (l.map D.str) (l.map V.str)
  | [] => .nil
  | x :: l => .cons (.str x) (dvs_strs' l)
theorem kvs_keys {κ : Type} {H : Hp} : ∀ {l : List (κ × D)} {m : List (κ × V)}, KVs H l m → m.map (·.1) = l.map (·.1)
  | _, _, .nil => rfl
  | _, _, .cons r t => by rw [List.map_cons, List.map_cons, kvs_keys t, r.1]
theorem rf_sortedD (hc : X.calm = true) : RfL G (UC X (.builtin "sorted")) rSortedD := by
  intro l vs h H k Q rel dv ⟨a, kvs, ks, el, ha, hk, hl, q⟩ post
  subst el
  cases dv with
  | cons d1 t1 =>
    cases t1
    cases d1
    obtain ⟨ws, e1, r1⟩ := rel.dK ha
    exact ⟨_, call_sortedD hc, a, ws, ks, rfl, .of e1, (kvs_keys r1).trans hk, hl, fun ys p pm srt np => post_lst post rel (dvs_strs' ys) (fun p np => q ys p pm srt np) np⟩
end
end T3
end
-- T3StrSet
section
set_option maxRecDepth 100000
set_option maxHeartbeats 4000000
/-! T3StrSet: sorted(set(xs)) where xs holds texts. -/
namespace T3
open PySem PySem.Spec PySem.Calls PyProof.Rows PySem.W L2
def keyS (e : Int × Value) : Str := match e.2 with | .str x _ => x | _ => Str.empty
def GoodS (w : World) (e : Int × Value) : Prop := ∃ k tk, e.2 = Value.str k tk ∧ e.1 = hashStr w k
/-- the set of texts at a: its members, in its table's order -/
structure SetS (w : World) (h : Heap) (a : Addr) (L : List Str) : Prop where
  ex : ∃ o es ep t, h.get? a = some o ∧ o.ExactSet ∧ o.data = .set es ep t ∧ (∀ e ∈ es.toList, GoodS w e) ∧ L = es.toList.map keyS ∧ es.size < scanBound ∧ t.fits es.size = true ∧ Ris t.place.toList ∧ (w.params.followText "set-order" = true ∨ t.led = true)
  nd : L.Nodup
section
variable {P : Program} {w : World} {h h' : Heap} {a : Addr} {L : List Str}
theorem SetS.at (R : SetS w h a L) (k : ∀ o, h.get? a = some o → h'.get? a = some o) : SetS w h' a L := by
  obtain ⟨⟨o, es, ep, t, ho, r⟩, nd⟩ := R
  exact ⟨⟨o, es, ep, t, k o ho, r⟩, nd⟩
theorem str_is (k : Str) (u : Tok) : (strKind P w).is k (.str k u) = true := by
  show (k == k) = true
  simp
theorem goodS_elems {l : List (Int × Value)} (g : ∀ e ∈ l, GoodS w e) : ElemsOf (strKind P w) l := fun e he => by
  obtain ⟨k, tk, h1, h2⟩ := g e he
  exact ⟨⟨k, by rw [h1]; exact str_is k tk, h2⟩, by rw [h1] <;> rfl⟩
theorem goodS_is {e : Int × Value} (g : GoodS w e) (k : Str) : (strKind P w).is k e.2 = true ↔ keyS e = k := by
  obtain ⟨k0, tk, h1, _⟩ := g
  unfold keyS
  rw [h1]
  show ((k0 == k) = true) ↔ k0 = k
  exact beq_iff_eq
theorem goodS_mem {l : List (Int × Value)} (g : ∀ e ∈ l, GoodS w e) (k : Str) : k ∈ l.map keyS ↔ ∃ e ∈ l, (strKind P w).is k e.2 = true := by
  rw [List.mem_map]
  constructor
  · rintro ⟨e, he, q⟩
    exact ⟨e, he, (goodS_is (g e he) k).2 q⟩
  · rintro ⟨e, he, q⟩
    exact ⟨e, he, (goodS_is (g e he) k).1 q⟩
end
section
variable {P : Program} {w : World} {A : Around} {E : Value → Shared → Prop} {s : Shared} {a : Addr} {L : List Str}
theorem setS_add_tail {g : Bool → Sem Unit} (hg : ∀ (b : Bool) (s₁ : Shared) (Q' : Unit → Shared → Prop), Q' () s₁ → wpAny (model P w) A (g b) Q' E s₁)
    {o : Obj} {es : Array (Int × Value)} {ep : Nat} {t : SetTable} (ho : s.heap.get? a = some o) (hex : o.ExactSet) (hd : o.data = .set es ep t)
    {es1 : Array (Int × Value)} {t2 : SetTable} (g1 : ∀ e ∈ es1.toList, GoodS w e) (nd1 : (es1.toList.map keyS).Nodup)
    (hb1 : es1.size < scanBound) (hf2 : t2.fits es1.size = true) (hr : Ris t2.place.toList) (hl : w.params.followText "set-order" = true ∨ t2.led = true) {wasDummy : Bool} {R : Option Bool → Shared → Prop}
    (hR : ∀ h' L', Heap.SameBut a s.heap h' → SetS w h' a L' → L'.Perm (es1.toList.map keyS) → R (some true) { s with heap := h' }) :
    wpAny (model P w) A (do
        storeSet a es1 t2
        if (!wasDummy && t2.tooFull) = true then do
            g (relayAll t2 es1 (SetTable.grown es1.size)).2.2
            storeSet a (relayAll t2 es1 (SetTable.grown es1.size)).1 (relayAll t2 es1 (SetTable.grown es1.size)).2.1
            pure (some true)
          else pure (some true)) R E s := by
  refine wpAny_bind (wpAny_storeSet_of ho hd ?_ (fits_of_scanBound hb1))
  have ho1 := store_at (es' := es1) (t' := t2) ho hd
  have sb1 := Heap.SameBut.update s.heap a (Obj.putSet es1 t2)
  split
  · have pm := relayAll_perm t2 es1 (SetTable.grown es1.size)
    have hf3 := relayAll_fits t2 es1 (SetTable.grown es1.size)
    have hr3 := relayAll_ris t2 es1 (SetTable.grown es1.size)
    have hl3 := relayAll_led t2 es1 (SetTable.grown es1.size)
    generalize relayAll t2 es1 (SetTable.grown es1.size) = Z at pm hf3 hr3 hl3 ⊢
    obtain ⟨es2, t3, gave⟩ := Z
    dsimp only at pm hf3 hr3 hl3 ⊢
    have hsz : es2.size = es1.size := by rw [← Array.length_toList, pm.length_eq, Array.length_toList]
    have hb2 : es2.size < scanBound := by rw [hsz]; exact hb1
    refine wpAny_bind (hg _ _ _ ?_)
    refine wpAny_bind (wpAny_storeSet_of ho1 rfl ?_ (fits_of_scanBound hb2))
    have ho2 := store_at (es' := es2) (t' := t3) ho1 rfl
    refine wpAny_pure (hR _ (es2.toList.map keyS) (sb1.trans (Heap.SameBut.update _ a _)) ⟨?_, (pm.map keyS).nodup_iff.mpr nd1⟩ (pm.map keyS))
    exact ⟨_, es2, _, t3, ho2, hex, rfl, fun e he => g1 e (pm.mem_iff.mp he), rfl, hb2, hf3, hr3, hl.imp id fun z => by rw [hl3]; exact z⟩
  · exact wpAny_pure (hR _ (es1.toList.map keyS) sb1 ⟨⟨_, es1, _, t2, ho1, hex, rfl, g1, rfl, hb1, hf2, hr, hl⟩, nd1⟩ (List.Perm.refl _))
theorem setS_add_hashed {k : Str} {tk : Tok} {Q : Bool → Shared → Prop} (R : SetS w s.heap a L) (room : L.length + 1 < scanBound)
    (hQ : ∀ b h' L', Heap.SameBut a s.heap h' → SetS w h' a L' → (k ∈ L → L' = L) → (k ∉ L → L'.Perm (k :: L)) → Q b { s with heap := h' }) :
    wpAny (model P w) A (setAddHashed a (.str k tk) ((strKind P w).hash k)) Q E s := by
  obtain ⟨⟨o, es, ep, t, ho, hex, hd, g, hL, hb, hf, hr, hl⟩, nd⟩ := id R
  have hn : es.size = L.length := by rw [hL]; simp
  have hkey : (strKind P w).is k (.str k tk) = true := str_is k tk
  have hsc : (Value.str k tk).scannable = true := rfl
  have hel : ElemsOf (strKind P w) es.toList := goodS_elems g
  unfold setAddHashed setAddHashedIn
  refine wpAny_holding (wpAny_bind (wpAny_setState_of ho hd hf ?_))
  dsimp only
  rw [byScan_of hsc hb hel]
  simp only [↓reduceIte]
  unfold setAddByScan
  refine wpAny_bind ?_
  refine wpAny_bind (wpAny_rule ?_)
  refine wpAny_bind (wpAny_setScan_of hkey ho hd hf hel ?_)
  cases hfi : List.findIdx? (fun e => (strKind P w).is k e.2) es.toList with
  | some j =>
    dsimp only
    obtain ⟨hj, pj, _⟩ := List.findIdx?_eq_some_iff_getElem.mp hfi
    have hSk : k ∈ L := by rw [hL]; exact (goodS_mem (P := P) (w := w) g k).2 ⟨es.toList[j], List.getElem_mem hj, pj⟩
    refine wpAny_pure (wpAny_pure ?_)
    exact hQ _ s.heap L (Heap.SameBut.refl a s.heap) R (fun _ => rfl) fun z => absurd hSk z
  | none =>
    dsimp only
    have hnk : k ∉ L := fun z => by
      rw [hL] at z
      obtain ⟨e, he, q⟩ := (goodS_mem (P := P) (w := w) g k).1 z
      have c := List.findIdx?_eq_none_iff.mp hfi e he
      rw [q] at c
      cases c
    have hgw : ∀ (b : Bool) {s₁ : Shared} {Q' : Unit → Shared → Prop}, Q' () s₁ → wpAny (model P w) A (match b with | true => rule "set.scan.the-table-gave-way" | false => pure ()) Q' E s₁ :=
      fun b s₁ Q' q => by cases b <;> first | exact wpAny_pure q | exact wpAny_rule q
    have pm := layNew_perm t es ((strKind P w).hash k) (.str k tk)
    have hf1 := layNew_fits t es ((strKind P w).hash k) (.str k tk)
    have hr1 := layNew_ris t es ((strKind P w).hash k) (.str k tk) hr
    have hl1 := layNew_led t es ((strKind P w).hash k) (.str k tk)
    generalize layNew t es ((strKind P w).hash k) (.str k tk) = Z at pm hf1 hr1 hl1 ⊢
    obtain ⟨es1, t1, wasDummy, gave⟩ := Z
    dsimp only at pm hf1 hr1 hl1 ⊢
    rw [Array.toList_push] at pm
    have pc : es1.toList.Perm (((strKind P w).hash k, Value.str k tk) :: es.toList) := pm.trans (List.perm_append_singleton _ _)
    have pk : (es1.toList.map keyS).Perm (k :: L) := by rw [hL]; exact pc.map keyS
    have g1 : ∀ e ∈ es1.toList, GoodS w e := fun e he => by
      rcases List.mem_cons.mp (pc.mem_iff.mp he) with z | z
      · rw [z]; exact ⟨k, tk, rfl, rfl⟩
      · exact g e z
    have nd1 : (es1.toList.map keyS).Nodup := pk.nodup_iff.mpr (List.nodup_cons.mpr ⟨hnk, nd⟩)
    have hsz : es1.size = L.length + 1 := by rw [← Array.length_toList, pc.length_eq, List.length_cons, Array.length_toList, hn]
    have hb1 : es1.size < scanBound := by rw [hsz]; exact room
    have hled : w.params.followText "set-order" = true ∨ t1.led = true := hl.imp id fun z => by rw [hl1]; exact z
    have fin : ∀ h' L', Heap.SameBut a s.heap h' → SetS w h' a L' → L'.Perm (es1.toList.map keyS) → Q true { s with heap := h' } := fun h' L' sb r p =>
      hQ true h' L' sb r (fun z => absurd z hnk) fun _ => p.trans pk
    refine wpAny_bind (hgw _ ?_)
    split
    · refine wpAny_bind ?_
      rw [hashByValue_scannable 8 hsc]
      refine wpAny_pure ?_
      refine setS_add_tail ?_ ho hex hd g1 nd1 hb1 ?_ ?_ ?_ ?_
      · intro b s₁ Q' q; cases b <;> first | exact wpAny_pure q | exact wpAny_rule q
      · first | (split <;> first | exact hf1 | exact SetTable.fits_plain_off hf1) | exact hf1
      · first | (split <;> exact hr1) | exact hr1
      · first | (split <;> exact hled) | exact hled
      · intro h' L' sb r p; dsimp only; exact wpAny_pure (fin h' L' sb r p)
    · refine wpAny_bind (wpAny_pure ?_)
      simp only [↓reduceIte]
      refine setS_add_tail ?_ ho hex hd g1 nd1 hb1 hf1 hr1 hled ?_
      · intro b s₁ Q' q; cases b <;> first | exact wpAny_pure q | exact wpAny_rule q
      · intro h' L' sb r p; dsimp only; exact wpAny_pure (fin h' L' sb r p)
/-- the first i of ks are in -/
structure TakenS (ks : List Str) (i : Nat) (L : List Str) : Prop where
  sub : ∀ k ∈ L, k ∈ ks.take i
  all : ∀ k ∈ ks.take i, k ∈ L
theorem TakenS.old {ks L : List Str} {i : Nat} {x : Str} (g : TakenS ks i L) (h : ks[i]? = some x) (hm : x ∈ L) : TakenS ks (i + 1) L := by
  constructor <;> intro p hp
  · rw [take_one h]; exact List.mem_append_left _ (g.sub p hp)
  · rw [take_one h] at hp
    rcases List.mem_append.mp hp with z | z
    · exact g.all p z
    · rw [List.mem_singleton.mp z]; exact hm
theorem TakenS.new {ks L L' : List Str} {i : Nat} {x : Str} (g : TakenS ks i L) (h : ks[i]? = some x) (pm : L'.Perm (x :: L)) : TakenS ks (i + 1) L' := by
  constructor <;> intro p hp
  · rw [take_one h]
    rcases List.mem_cons.mp (pm.mem_iff.mp hp) with e | z
    · rw [e]; simp
    · exact List.mem_append_left _ (g.sub p z)
  · rw [pm.mem_iff]
    rw [take_one h] at hp
    rcases List.mem_append.mp hp with z | z
    · exact List.mem_cons_of_mem _ (g.all p z)
    · rw [List.mem_singleton.mp z]; exact List.mem_cons_self
theorem nodup_sub {α : Type} : ∀ {m l : List α}, m.Nodup → (∀ x ∈ m, x ∈ l) → m.length ≤ l.length
  | [], _, _, _ => by simp
  | x :: m, l, n, h => by
    obtain ⟨a, b, rfl⟩ := List.append_of_mem (h x List.mem_cons_self)
    rw [List.nodup_cons] at n
    have := nodup_sub (l := a ++ b) n.2 fun y hy => by
      have := h y (List.mem_cons_of_mem _ hy)
      simp only [List.mem_append, List.mem_cons] at this ⊢
      rcases this with z | z | z
      · exact .inl z
      · subst z; exact absurd hy n.1
      · exact .inr z
    simp at this ⊢; omega
theorem setS_empty {h : Heap} {a : Addr} (ho : h.get? a = some (emptySet w)) : SetS w h a [] := by
  refine ⟨⟨_, #[], 0, .fresh 0 0 (!w.params.followText "set-order"), ho, ⟨rfl, rfl, rfl⟩, rfl, fun e he => (by cases he), rfl, by decide, rfl, List.Pairwise.nil, ?_⟩, List.nodup_nil⟩
  show _ ∨ (!w.params.followText "set-order") = true
  cases w.params.followText "set-order" <;> simp
theorem update_strs {I : Addr} {fp wr : List Addr} {Gn : Array GenState → Array GenState → Prop} {n : Nat} {Pv : Nat → Value → Prop} {St : Nat → Shared → Prop} {R : Result → Shared → Prop}
    (W : WalksS P w A.in1 I fp wr Gn n Pv St) (T : Addr) (apart : T ∉ fp) (ks : List Str) (cnt : n = ks.length) (few : ks.length < 299) (item : ∀ i v, Pv i v → ∃ k t, ks[i]? = some k ∧ v = .str k t)
    (h0 : Heap) (newT : h0.get? T = none) (newW : ∀ b ∈ wr, h0.get? b = none) :
    ∀ (left i : Nat) (s : Shared), n = i + left → St i s → (∀ b o, h0.get? b = some o → s.heap.get? b = some o) → (∃ L, SetS w s.heap T L ∧ TakenS ks i L) →
      (∀ s' L, Moved (T :: wr) Gn s s' → SetS w s'.heap T L → TakenS ks n L → (∀ b o, h0.get? b = some o → s'.heap.get? b = some o) → R (.ok (.ret .none)) s') →
      codeAny (model P w) A (.builtin "set.update.loop" ⟨[.ref T, .ref I], []⟩) R s := by
  have aw : T ∉ wr := fun h => apart (W.sub _ h)
  have wider : ∀ b ∈ wr, b ∈ T :: wr := fun b hb => List.mem_cons_of_mem _ hb
  have stay : ∀ {s s' : Shared}, Moved wr Gn s s' → (∀ b o, h0.get? b = some o → s.heap.get? b = some o) → ∀ b o, h0.get? b = some o → s'.heap.get? b = some o := fun m k b o e =>
    m.heap b o (fun hb => by rw [newW b hb] at e; cases e) (k b o e)
  intro left
  induction left with
  | zero =>
    rintro i s rfl st old ⟨L, hT, g⟩ fin
    refine codeAny_builtin F.entry_set_update_loop ?_
    rw [Around.under_plainId F.plain_set_update_loop _]
    show wpAny _ A.in1 (pyNext (.ref I) >>= _) _ _ s
    refine wpAny_bind (W.done s _ _ st fun s' m => ?_)
    have old' := stay m old
    exact wpAny_pure (fin s' L (m.mono wider) (hT.at fun o e => m.heap T o aw e) g old')
  | succ left ih =>
    rintro i s en st old ⟨L, hT, g⟩ fin
    refine codeAny_builtin F.entry_set_update_loop ?_
    rw [Around.under_plainId F.plain_set_update_loop _]
    show wpAny _ A.in1 (pyNext (.ref I) >>= _) _ _ s
    refine wpAny_bind (W.item i s _ _ (by omega) st fun v s' hv st' m => ?_)
    obtain ⟨k, t, hp, ev⟩ := item i v hv
    subst ev
    have old' := stay m old
    have hT' : SetS w s'.heap T L := hT.at fun o e => m.heap T o aw e
    have lt : L.length ≤ ks.length := nodup_sub hT'.nd fun x hx => List.mem_of_mem_take (g.sub x hx)
    show wpAny _ A.in1 (holding [Value.str k t] (setAdd T (.str k t)) >>= _) _ _ s'
    refine wpAny_bind (wpAny_holding ?_)
    unfold setAdd
    refine wpAny_holding (wpAny_bind ((strKind P w).pyHash (str_is k t) ?_))
    refine setS_add_hashed (s := { s' with toks := s'.toks + 1 }) hT' (by unfold scanBound; omega) fun b h' L' sb hT2 c1 c2 => ?_
    have g' : TakenS ks (i + 1) L' := by
      by_cases c : k ∈ L
      · rw [c1 c]; exact g.old hp c
      · exact g.new hp (c2 c)
    have old2 : ∀ b o, h0.get? b = some o → h'.get? b = some o := fun b o e => (sb.2 b (by rintro rfl; rw [newT] at e; cases e)).trans (old' b o e)
    refine wpAny_pure ⟨plainId_quiet F.plain_set_update_loop _, ih (i + 1) _ (by omega) (W.frame _ s' _ _ st' (Nat.le_add_right _ _) fun b hb o e => ?_) old2 ⟨L', hT2, g'⟩ fun s2 L2 m2 R2 g2 o2 => ?_⟩
    · exact (sb.2 b (by rintro rfl; exact apart hb)).trans e
    · refine fin s2 L2 (Moved.trans W.gtrans ((m.mono wider).then_heap (Nat.le_add_right _ _) fun b o hb e => ?_) m2) R2 g2 o2
      exact (sb.2 b (by rintro rfl; exact hb List.mem_cons_self)).trans e
set_option maxHeartbeats 8000000 in
/-- set(xs) -/
theorem set_callS {l : Addr} {items : Array Value} (ks : List Str) {Q : Value → Shared → Prop} (hh : A.handled = none) (hl : s.heap.IsList l items) (hit : ∀ (i : Nat) v, items[i]? = some v → ∃ k t, ks[i]? = some k ∧ v = .str k t) (cnt : items.size = ks.length) (few : ks.length < 299)
    (q : ∀ (h' : Heap) (tk : Nat) L, SetS w h' s.heap.objs.size L → TakenS ks ks.length L → (∀ b o, s.heap.get? b = some o → h'.get? b = some o) → Q (.ref s.heap.objs.size) { s with heap := h', toks := tk }) :
    wpAny (model P w) A (call (.type "set") [.ref l]) Q E s := by
  obtain ⟨c, tl, hmro⟩ := F.called_set.mro
  have m1 := F.called_set.made
  have m2 := F.called_set.sub
  refine wpAny_call (codeAny_of_tree ?_)
  show wpAny _ _ (callAny (.type "set") _) _ _ _
  refine wpAny_pure ⟨Code.quiet_builtin _ (by decide +kernel), codeAny_builtin F.entry_type_call ?_⟩
  rw [Around.under_plain (weight_type_call_type "set" [.ref l] []) rfl]
  have m3 := F.called_set.notType
  have m4 := F.called_set.canCreate
  have m5 := F.typeCall_set_1 (.ref l)
  (repeat (any_goals (first | assumption | wp_step))); have new : (s.heap.push (emptySet w)).get? s.heap.objs.size = some (emptySet w) := Heap.get?_push_size _ rfl
  refine codeAny_mono (code_set_led1 (.ref l) (E := E) (Q₁ := fun obj s₁ => obj = .ref s.heap.objs.size ∧ s₁ = { s with heap := s.heap.push (emptySet w) }) ⟨rfl, rfl⟩) fun r s₁ hr => ?_
  match r, hr with
  | .error e, hr => exact hr
  | .ok .next, hr => exact hr.elim
  | .ok .brk, hr => exact hr.elim
  | .ok .cont, hr => exact hr.elim
  | .ok (.ret obj), hr =>
    obtain ⟨e1, e2⟩ := hr
    subst e1; subst e2
    have hT : Shared.TypeIs { s with heap := s.heap.push (emptySet w) } (.ref s.heap.objs.size) "set" := ⟨_, new, rfl⟩
    have i1 := F.called_set.init.lookup
    have i2 := F.called_set.init.bind (.ref s.heap.objs.size)
    (repeat (any_goals (first | assumption | wp_step))); refine codeAny_mono (codeAny_call_builtin (R := wants (fun r s₂ => r = .none ∧ ∃ h' tk L, s₂ = { s with heap := h', toks := tk } ∧ SetS w h' s.heap.objs.size L ∧ TakenS ks ks.length L ∧
        (∀ b o, s.heap.get? b = some o → h'.get? b = some o)) E) F.called_set.init.plain F.entry_set_init (check_set_init_1 hT ?_)) fun r₂ s₂ hr₂ => ?_
    · obtain ⟨⟨ocls, odict, odata, oslots⟩, hol, hcl, nl, hdl⟩ := hl
      simp only at hcl hdl
      subst hcl; subst hdl
      have hol' : (s.heap.push (emptySet w)).get? l = some { cls := .type "list", dict := odict, data := .seq items nl, slots := oslots } := Heap.get?_push_of_some _ hol
      have n1 := F.sub_list_set
      have n2 := F.sub_list_frozenset
      have n3 : (Value.type "list" == Value.type "dict") = false := by decide
      have hl1 : (s.heap.push (emptySet w)).IsList l items := ⟨_, hol', rfl, nl, rfl⟩
      unfold Builtin.«set.__init__» noKeywords Builtin.Frozenset.updateFrom
      generalize hPI : pyIter = PI
      wp_walk
      subst hPI
      refine wpAny_pyIter_list hl1 (wpAny_bind (wpAny_runValue ?_))
      have hlS : l < s.heap.objs.size := Heap.lt_size hol
      have sz1 : (s.heap.push (emptySet w)).objs.size = s.heap.objs.size + 1 := Heap.size_push ..
      have nothing : ∀ b, s.heap.objs.size ≤ b → s.heap.get? b = none := fun b hb => by
        cases e : s.heap.get? b with
        | none => rfl
        | some o => exact absurd (Nat.lt_of_lt_of_le (Heap.lt_size e) hb) (Nat.lt_irrefl _)
      have apart : l ≠ (s.heap.push (emptySet w)).objs.size := by rw [sz1]; exact Nat.ne_of_lt (Nat.lt_succ_of_lt hlS)
      have keep0 : ∀ u b o, s.heap.get? b = some o → ((s.heap.push (emptySet w)).push u).get? b = some o := fun u b o e => Heap.get?_push_of_some _ (Heap.get?_push_of_some _ e)
      have off : s.heap.objs.size ∉ [(s.heap.push (emptySet w)).objs.size, l] := by
        rw [sz1]
        simp only [List.mem_cons, List.not_mem_nil, or_false, not_or]
        exact ⟨Nat.ne_of_lt (Nat.lt_succ_self _), Nat.ne_of_gt hlS⟩
      have wr0 : ∀ b ∈ [(s.heap.push (emptySet w)).objs.size], s.heap.get? b = none := fun b hb => by
        rw [List.mem_singleton.mp hb, sz1]
        exact nothing _ (Nat.le_succ _)
      refine @update_strs P w A.in1.in1 _ _ _ _ _ _ _ _ (Walks.list (by simp [hh]) _ l apart items).toS s.heap.objs.size off ks cnt few hit s.heap (nothing _ (Nat.le_refl _)) wr0 items.size 0 _ (by omega)
        ⟨⟨_, Heap.get?_push_size _ rfl, rfl, rfl⟩, (hl1.push _)⟩ (keep0 _) ?_ ?_
      · exact ⟨[], setS_empty (Heap.get?_push_of_some _ new), ⟨fun p h => (by cases h), fun p h => (by simp at h)⟩⟩
      · intro s' L m R g old
        obtain ⟨h', g2, d', tk', os'⟩ := s'
        have e1 : g2 = s.gens := m.gens
        have e2 : d' = s.drawn := m.drawn
        have e3 : os' = s.os := m.os
        subst e1; subst e2; subst e3
        rw [cnt] at g
        exact wpAny_pure (wpAny_pure ⟨rfl, h', tk', L, rfl, R, g, old⟩)
    · match r₂, hr₂ with
      | .error e, hr₂ => exact hr₂
      | .ok .next, hr₂ => exact hr₂.elim
      | .ok .brk, hr₂ => exact hr₂.elim
      | .ok .cont, hr₂ => exact hr₂.elim
      | .ok (.ret r), hr₂ =>
        obtain ⟨e1, h', tk, L, e2, R, g, old⟩ := hr₂
        subst e1; subst e2
        (repeat (any_goals (first | assumption | wp_step))); exact q _ _ _ R g old

end
end T3
end
-- T3Nst
section
set_option maxRecDepth 100000
set_option maxHeartbeats 4000000
/-! T3Nst: dicts whose keys are tuples of any depth (to 8). -/
namespace T3
open PySem PySem.Spec PySem.W PyProof.Rows L2
mutual
/-- a key, as the model's kind has it -/
def nkOf : D → Option NestedKey
  | .non => some .none
  | .int i => some (.num i)
  | .str x => some (.text x)
  | .tup l => (nkL l).map NestedKey.tup
  | .bl _ => none
  | .ref _ => none
def nkL : List D → Option (List NestedKey)
  | [] => some []
  | d :: l => match nkOf d, nkL l with
    | some k, some ks => some (k :: ks)
    | _, _ => none
end
mutual
theorem nkOf_inj : ∀ {d e : D} {k : NestedKey}, nkOf d = some k → nkOf e = some k → d = e
  | .non, e, k, h, g => by
    simp only [nkOf, Option.some.injEq] at h; subst h
    cases e <;> simp [nkOf] at g ⊢
  | .int i, e, k, h, g => by
    simp only [nkOf, Option.some.injEq] at h; subst h
    cases e <;> simp [nkOf] at g ⊢
    exact g.symm
  | .str i, e, k, h, g => by
    simp only [nkOf, Option.some.injEq] at h; subst h
    cases e <;> simp [nkOf] at g ⊢
    exact g.symm
  | .tup l, e, k, h, g => by
    simp only [nkOf, Option.map_eq_some_iff] at h
    obtain ⟨ks, h, rfl⟩ := h
    cases e <;> simp [nkOf] at g ⊢
    exact nkL_inj h g
  | .bl b, e, k, h, g => by simp [nkOf] at h
  | .ref b, e, k, h, g => by simp [nkOf] at h
theorem nkL_inj : ∀ {l m : List D} {ks : List NestedKey}, nkL l = some ks → nkL m = some ks → l = m
  | [], m, ks, h, g => by
    simp only [nkL, Option.some.injEq] at h; subst h
    cases m with
    | nil => rfl
    | cons e m =>
      simp only [nkL] at g
      split at g <;> simp at g
  | d :: l, m, ks, h, g => by
    simp only [nkL] at h
    split at h
    · rename_i k1 ks1 h1 h2
      simp only [Option.some.injEq] at h; subst h
      cases m with
      | nil => simp [nkL] at g
      | cons e m =>
        simp only [nkL] at g
        split at g
        · rename_i k2 ks2 g1 g2
          simp only [Option.some.injEq, List.cons.injEq] at g
          rw [g.1] at g1; rw [g.2] at g2
          rw [nkOf_inj h1 g1, nkL_inj h2 g2]
        · simp at g
    · simp at h
end
section
variable {X : Cx} {pins : List (Addr × Obj)} {σ : L2.St} {H : Hp} {s : Shared}
mutual
theorem nested_is (I : Inv X pins σ H s) : ∀ {d : D} {v : V} {u : Value} {k : NestedKey}, DV H d v → RelV v u → nkOf d = some k → NestedIs s.heap k u
  | .non, _, _, _, h, r, e => by cases h; cases r; simp only [nkOf, Option.some.injEq] at e; subst e; exact .none
  | .int i, _, _, _, h, r, e => by cases h; obtain ⟨t, rfl⟩ := r; simp only [nkOf, Option.some.injEq] at e; subst e; exact .int i t
  | .str i, _, _, _, h, r, e => by cases h; obtain ⟨t, rfl⟩ := r; simp only [nkOf, Option.some.injEq] at e; subst e; exact .text i t
  | .tup l, _, _, _, h, r, e => by
    simp only [nkOf, Option.map_eq_some_iff] at e
    obtain ⟨ks, e, rfl⟩ := e
    cases h with
    | tup ha dv =>
      cases r
      obtain ⟨its, rv, ⟨o, ho, hc, n, hd⟩, _⟩ := I.tuple (SqT.of ha)
      exact .tup ho hc hd (by simpa using nested_all I dv rv e)
  | .bl _, _, _, _, h, r, e => by simp [nkOf] at e
  | .ref _, _, _, _, h, r, e => by simp [nkOf] at e
theorem nested_all (I : Inv X pins σ H s) : ∀ {l : List D} {vs : List V} {us : List Value} {ks : List NestedKey}, DVs H l vs → Vals vs us → nkL l = some ks → NestedAll s.heap ks us
  | [], _, _, _, h, r, e => by cases h; cases r; simp only [nkL, Option.some.injEq] at e; subst e; exact .nil
  | d :: l, _, _, _, h, r, e => by
    cases h with
    | cons a t =>
      cases r with
      | cons b u =>
        simp only [nkL] at e
        split at e
        · rename_i h1 h2
          simp only [Option.some.injEq] at e; subst e
          exact .cons (nested_is I a b h1) (nested_all I t u h2)
        · simp at e
end
end
/-- the dict at a -/
structure DictN (P : Program) (w : World) (h : Heap) (a : Addr) (xs : List (NestedKey × Addr × Value)) : Prop where
  ex : ∃ o es ep, h.get? a = some o ∧ o.ExactDict ∧ o.data = .dict es ep ∧ es.toList = xs.map (entryOfKey (nestedKind P w))
  nd : (xs.map (·.1)).Nodup
def DictE (P : Program) (w : World) (a : Addr) (xs : List (NestedKey × Addr × Value)) : HO := .ext fun h => DictN P w h a xs
theorem dictE_ok {P : Program} {w : World} {H : Hp} {h : Heap} {a : Addr} {xs : List (NestedKey × Addr × Value)} (R : DictN P w h a xs) : ObjOk P w H h a (DictE P w a xs) := by
  refine ⟨R, let ⟨o, _, _, ho, _⟩ := R.ex; ⟨o, ho⟩, fun h1 h2 p k => ?_⟩
  have p : DictN P w h1 a xs := p
  obtain ⟨o, es, ep, ho, r⟩ := p.ex
  exact ⟨⟨o, es, ep, k o ho, r⟩, p.nd⟩
abbrev RowN (H : Hp) (p : D × D) (q : NestedKey × Addr × Value) : Prop := nkOf p.1 = some q.1 ∧ q.1.depth ≤ 8 ∧ DV H p.1 (.ref q.2.1) ∧ ∃ v, DV H p.2 v ∧ RelV v q.2.2
structure NstR (P : Program) (w : World) (kvs : List (D × D)) (H : Hp) (a : Addr) : Prop where
  sz : kvs.length ≤ sizeLine
  ns : (a == sysModules) = false
  ex : ∃ xs : List (NestedKey × Addr × Value), Paired (RowN H) kvs xs ∧ H a = some (DictE P w a xs)
abbrev nst (P : Program) (w : World) (kvs : List (D × D)) : O := .any (NstR P w kvs)
theorem RowN.per {H H' : Hp} (x : Per H H') {p : D × D} {q : NestedKey × Addr × Value} (r : RowN H p q) : RowN H' p q := let ⟨a, b, c, v, d, e⟩ := r; ⟨a, b, c.per x, v, d.per x, e⟩
theorem ov_nst {P : Program} {w : World} {kvs : List (D × D)} {H : Hp} {a : Addr} (r : NstR P w kvs H a) : OV H a (nst P w kvs) := by
  obtain ⟨xs, pr, ha⟩ := r.ex
  exact ⟨r, ⟨_, ha, trivial⟩, fun H' x e => ⟨r.sz, r.ns, xs, Paired.mapP pr fun p q z => z.per x, e.trans ha⟩⟩
def putN (kvs : List (D × D)) (k d : D) : List (D × D) := if (kvs.any fun p => decide (nkOf p.1 = nkOf k)) = true then kvs.map fun p => if nkOf p.1 = nkOf k then (p.1, d) else p else kvs ++ [(k, d)]
theorem putN_len (kvs : List (D × D)) (k d : D) : (putN kvs k d).length ≤ kvs.length + 1 := by
  unfold putN
  split <;> simp
theorem paired_map {α β : Type} {F : α → β → Prop} {f : α → α} {g : β → β} : ∀ {l : List α} {m : List β}, Paired F l m → (∀ a b, F a b → F (f a) (g b)) → Paired F (l.map f) (m.map g)
  | _, _, .nil, _ => .nil
  | _, _, .cons r t, h => .cons (h _ _ r) (paired_map t h)
theorem paired_app {α β : Type} {F : α → β → Prop} : ∀ {l l2 : List α} {m m2 : List β}, Paired F l m → Paired F l2 m2 → Paired F (l ++ l2) (m ++ m2)
  | _, _, _, _, .nil, h => h
  | _, _, _, _, .cons r t, h => .cons r (paired_app t h)
theorem rows_put {H : Hp} {kvs : List (D × D)} {xs : List (NestedKey × Addr × Value)} (pr : Paired (RowN H) kvs xs) {k d : D} {nk : NestedKey} {b : Addr} {v : V} {r : Value} (hk : nkOf k = some nk) (h8 : nk.depth ≤ 8) (dk : DV H k (.ref b)) (dd : DV H d v) (rv : RelV v r) :
    Paired (RowN H) (putN kvs k d) (storedH xs nk b r) := by
  have e : (kvs.any fun p => decide (nkOf p.1 = nkOf k)) = (atKey xs nk).isSome := by
    clear dk dd rv
    unfold atKey
    induction pr with
    | nil => rfl
    | cons z t ih =>
      rename_i p q l m
      simp only [List.any_cons, List.find?_cons, z.1, hk, Option.some.injEq]
      by_cases c : q.1 = nk
      · simp [c]
      · simp only [c, decide_false, Bool.false_or]
        rw [hk] at ih
        exact ih
  unfold putN storedH
  rw [e]
  split
  · refine paired_map pr fun p q z => ?_
    unfold putAt
    by_cases c : q.1 = nk
    · rw [if_pos (by rw [z.1, hk, c]), if_pos c]
      exact ⟨z.1, z.2.1, z.2.2.1, v, dd, rv⟩
    · rw [if_neg (by rw [z.1, hk]; exact fun e => c (Option.some.inj e)), if_neg c]
      exact z
  · exact paired_app pr (.cons ⟨hk, h8, dk, v, dd, rv⟩ .nil)
section
variable {X : Cx} {G : Sc} {a b c e : Expr} {f g t3 : WE} {pos apos cpos : Pos}
/-- {} for such keys -/
def wNNew (P : Program) (w : World) : WE := fun _ h k => ∀ p, h p = none → k (.ref p) (up h p (nst P w []))
theorem i_nnew : PE3 X G (.Dict [] [] pos) (wNNew X.prog X.w) := by
  have base : PE X (.Dict [] [] pos) fun σ H Q => ∀ p, H p = none → (p == sysModules) = false → Q (.ref p) (upd H p (DictE X.prog X.w p [])) := ⟨fun pins s σ H Q I h => by
    have hb : (s.heap.objs.size == sysModules) = false := by
      have := I.big
      have hs : s.heap.objs.size ≠ sysModules := fun z => by
        obtain ⟨_, hd, _⟩ := (show ObjOk X.prog X.w (upd H s.heap.objs.size (.dT [])) (s.heap.push { cls := .type "dict", data := .dict #[] }) s.heap.objs.size (.dT []) from dt_empty s.heap I.big)
        rw [z] at hd; simp at hd
      simpa using hs
    refine wpAny_Dict_empty ⟨.ref s.heap.objs.size, _, I.laid (a := s.heap.objs.size) (o := DictE X.prog X.w s.heap.objs.size []) (t' := s.toks) (fun _ _ q => Heap.get?_push_of_some _ q) (Nat.le_refl _) (dictE_ok ?_), rfl, h _ (I.hok.fresh (Nat.le_refl _)) hb⟩
    obtain ⟨o, es, ep, h1, h2, h3, h4, _⟩ := Heap.DictOfH.new (knd := nestedKind X.prog X.w) s.heap
    exact ⟨⟨o, es, ep, h1, h2, h3, h4⟩, List.nodup_nil⟩⟩
  refine base.weak fun σ H Q ⟨ρ, h, k, rel, ev, q, post⟩ p np hp => ?_
  exact post _ _ _ _ (q p (rel.none np)) (rel.new np (ov_nst ⟨Nat.zero_le _, hp, [], .nil, upd_same⟩)) (Per.new np) (.ref p)
/-- found[key] = .. -/
def wNPut (P : Program) (w : World) (v o i : WE) : WS := fun E ρ h => v ρ h fun d h1 => o ρ h1 fun x h2 => i ρ h2 fun y h3 => ∃ a kvs l k, x = .ref a ∧ y = .tup l ∧ h3 a = some (nst P w kvs) ∧ nkOf y = some k ∧ k.depth ≤ 8 ∧ kvs.length < 16777216 ∧ E.nx ρ (up h3 a (nst P w (putN kvs y d)))
theorem is_nput {pos' : Pos} (hu : X.A.units + 70 < cLine) (hv : PE3 X G c t3) (ho : PE3 X G a f) (hi : PE3 X G b g) (hs : swapsWith c (some (.Subscript a b pos')) pos.line X.env = pure false := by rfl) : PS3 X G (.Assign [.Subscript a b pos'] c pos) (wNPut X.prog X.w t3 f g) := by
  have base : ∀ {td ty tv : TE}, PE X a td → PE X b ty → PE X c tv → PS X (.Assign [.Subscript a b pos'] c pos) fun D σ H => tv σ H fun v H1 => td σ H1 fun x H2 => ty σ H2 fun y H3 => ∃ p q d nk xs, x = .ref p ∧ y = .ref q ∧ DV H3 d (.ref q) ∧ nkOf d = some nk ∧ nk.depth ≤ 8 ∧ (p == sysModules) = false ∧ H3 p = some (DictE X.prog X.w p xs) ∧
      (∀ r ∈ xs, ∃ e, DV H3 e (.ref r.2.1) ∧ nkOf e = some r.1 ∧ r.1.depth ≤ 8) ∧ xs.length ≤ sizeLine ∧ ∀ r, RelV v r → D.nx σ (upd H3 p (DictE X.prog X.w p (storedH xs nk q r))) := by
    intro td ty tv ho hi hv
    refine ⟨fun pins s σ H D I h => ?_⟩
    refine wpAny_Assign_Subscript (thn (hv.run pins s σ H _ I h) fun r s1 ⟨v, H1, I1, rv, q1⟩ => thn (ho.run pins s1 σ H1 _ I1 q1) fun u s2 ⟨x, H2, I2, rx, q2⟩ => thn (hi.run pins s2 σ H2 _ I2 q2) fun iv s3 ⟨y, H3, I3, ry, p, q, d, nk, xs, ex, ey, dd, hk, h8, hns, hp, hx, hz, q3⟩ => ?_) hs
    subst ex; subst ey
    obtain rfl : u = Value.ref p := rx
    obtain rfl : iv = Value.ref q := ry
    have R : DictN X.prog X.w s3.heap p xs := (I3.hok p _ hp).1
    obtain ⟨o, es, ep, h1, h2, h3, h4⟩ := R.ex
    have key : (nestedKind X.prog X.w).is s3.heap nk q := ⟨nested_is I3 dd rfl hk, h8⟩
    have dh : s3.heap.DictOfH (nestedKind X.prog X.w) p xs := ⟨o, es, ep, h1, h2, h3, h4, fun x hx' => by
      obtain ⟨e, e1, e2, e3⟩ := hx x hx'
      exact ⟨nested_is I3 e1 rfl e2, e3⟩, R.nd⟩
    refine wpAny_setItem_heap (hsz := hz) (show X.A.units + 1 + 8 < cLine by omega) key dh fun h' dd' hs' => ?_
    obtain ⟨o', es', ep', g1, g2, g3, g4, _, g5⟩ := dd'
    exact ⟨σ, _, d_write I3 (by rw [hp]; exact True.intro) hs' ⟨o', g1⟩ (dictE_ok ⟨⟨o', es', ep', g1, g2, g3, g4⟩, g5⟩), q3 r rv⟩
  refine (base ho hi hv).weak fun D σ H ⟨ρ, h, E, rel, ev, q, post⟩ => ?_
  refine ⟨ρ, h, _, rel, ev, q, fun d h1 v H1 q1 rel1 per1 dv1 => ⟨ρ, h1, _, rel1, ev.per per1, q1, fun x h2 xv H2 q2 rel2 per2 dv2 => ⟨ρ, h2, _, rel2, ev.per (per1.trans per2), q2, fun y h3 yv H3 q3 rel3 per3 dv3 => ?_⟩⟩⟩
  obtain ⟨a, kvs, l, k, rfl, rfl, ha, hk, h8, hz, q3⟩ := q3
  cases dv2
  obtain ⟨R, m1, m2⟩ := rel3.at_ _ _ ha
  obtain ⟨xs, pr, hE⟩ := R.ex
  obtain ⟨q, rfl⟩ : ∃ q, yv = .ref q := by cases dv3; exact ⟨_, rfl⟩
  have each : ∀ r ∈ xs, ∃ e, DV H3 e (.ref r.2.1) ∧ nkOf e = some r.1 ∧ r.1.depth ≤ 8 := by
    clear hE q3 hz ha R m1 m2
    induction pr with
    | nil => exact fun r hr => nomatch hr
    | cons z t ih =>
      intro r hr
      rcases List.mem_cons.mp hr with rfl | hr
      · exact ⟨_, z.2.2.1, z.1, z.2.1⟩
      · exact ih r hr
  have hl := Paired.length pr
  have hsz : (putN kvs (.tup l) d).length ≤ sizeLine := by have := putN_len kvs (.tup l) d; rw [sizeLine_eq]; omega
  refine ⟨a, q, .tup l, k, xs, rfl, rfl, dv3, hk, h8, R.ns, hE, each, by rw [← hl]; exact R.sz, fun r rv => ?_⟩
  have mu : Mut (H3 a) := by rw [hE]; exact True.intro
  have p3 := Per.mut (o := DictE X.prog X.w a (storedH xs k q r)) mu
  have pr' := rows_put pr hk h8 dv3 (dv1.per (per2.trans per3)) rv
  have pp := per1.trans (per2.trans (per3.trans p3))
  refine post.nx _ _ _ _ q3 (rel3.write ha (ov_nst ⟨hsz, R.ns, _, Paired.mapP pr' fun p q z => z.per p3, upd_same⟩)) pp (ev.per pp)
end
section
variable {X : Cx} {G : Sc}
/-- list(found) -/
def rListN (P : Program) (w : World) : List D → H3 → K1 → Prop := fun l h k => ∃ a kvs, l = [.ref a] ∧ h a = some (nst P w kvs) ∧ ∀ p, h p = none → k (.ref p) (up h p (.lst (kvs.map (·.1))))
theorem call_list_nst (hc : X.calm = true) : CallR X (.type "list") (fun xs H Q => ∃ d ks, xs = [V.ref d] ∧ H d = some (DictE X.prog X.w d ks) ∧ (d == sysModules) = false ∧ ks.length ≤ sizeLine ∧ ∀ p, H p = none → Q (.ref p) (upd H p (.lst (ks.map fun x => V.ref x.2.1)))) := by
  intro pins s σ H xs us Q I r h
  obtain ⟨d, ks, rfl, hd, hs, hzz, q⟩ := h
  obtain ⟨u, rfl, rx⟩ := r.one
  cases rx
  have R : DictN X.prog X.w s.heap d ks := (I.hok d _ hd).1
  obtain ⟨o, es, ep, ho, hx, hdt, he⟩ := R.ex
  have l1 : es.size = ks.length := size_of_entries he
  refine PySem.W.kdl_call (kdl_raw hs hx hdt) (I.ok.hd hc) ho (by omega) fun h' tk acc' c' kp e it => ?_
  have ea : acc'.toList = ks.map fun x => Value.ref x.2.1 := by
    have hl : acc'.toList.length = ks.length := by rw [Array.length_toList, it.1]; exact l1
    apply List.ext_getElem?
    intro j
    rw [List.getElem?_map]
    cases hj : acc'.toList[j]? with
    | none =>
      have h1 := List.getElem?_eq_none_iff.mp hj
      rw [List.getElem?_eq_none (by omega)]
      all_goals rfl
    | some v =>
      obtain ⟨en, hen, hv⟩ := it.2 j v (by rw [← Array.getElem?_toList]; exact hj)
      have qe := entry_at he j
      rw [hen] at qe
      cases hb : ks[j]? with
      | none =>
        rw [hb] at qe
        exact nomatch (show some en = none from qe)
      | some b =>
        rw [hb] at qe
        have e2 : en = entryOfKey (nestedKind X.prog X.w) b := Option.some.inj qe
        rw [hv, e2]
        all_goals rfl
  have eb : acc'.toList = (ks.map fun x => x.2.1).map Value.ref := by rw [ea, List.map_map]; all_goals rfl
  have rv : Vals ((ks.map fun x => x.2.1).map V.ref) acc'.toList := by rw [eb]; exact vals_refs _
  have hz : ((ks.map fun x => x.2.1).map V.ref).length ≤ sizeLine := by rw [List.length_map, List.length_map]; exact hzz
  have q' := q s.heap.objs.size (I.hok.fresh (Nat.le_refl _))
  rw [show (ks.map fun x => V.ref x.2.1) = (ks.map fun x => x.2.1).map V.ref by rw [List.map_map]; rfl] at q'
  refine ⟨.ref s.heap.objs.size, _, I.laid (t' := tk) (o := .lst ((ks.map fun x => x.2.1).map V.ref)) kp (Nat.le_refl _) ?_, rfl, q'⟩
  exact ⟨hz, acc'.toList, c', rv, by rw [Array.toArray_toList]; exact e⟩
theorem rf_listN (hc : X.calm = true) : RfL G (UC X (.type "list")) (rListN X.prog X.w) := by
  intro l vs h H k Q rel dv ⟨a, kvs, el, ha, q⟩ post
  subst el
  cases dv with
  | cons d1 t1 =>
    cases t1
    cases d1
    obtain ⟨R, m1, m2⟩ := rel.at_ _ _ ha
    obtain ⟨xs, pr, hE⟩ := R.ex
    have dvs : DVs H (kvs.map (·.1)) (xs.map fun x => V.ref x.2.1) := by
      clear hE q ha R m1 m2
      induction pr with
      | nil => exact .nil
      | cons z t ih => exact .cons z.2.2.1 ih
    refine ⟨_, call_list_nst hc, a, xs, rfl, hE, R.ns, by rw [← Paired.length pr]; exact R.sz, fun p np => post_lst post rel dvs q np⟩
end
end T3
end
-- T3NstSet
section
set_option maxRecDepth 100000
set_option maxHeartbeats 4000000
/-! T3NstSet: sorted(set(xs)) where xs holds tuples of any depth (to 8). -/
namespace T3
open PySem PySem.Spec PySem.Calls PyProof.Rows PySem.W L2
section
variable {P : Program} {w : World} {A : Around} {E : Value → Shared → Prop} {s : Shared}
theorem nested_each {h : Heap} : ∀ {ks : List NestedKey} {vs : List Value}, NestedAll h ks vs → ∀ v ∈ vs, ∃ k ∈ ks, NestedIs h k v
  | _, _, .nil, _, hv => nomatch hv
  | _, _, .cons a t, v, hv => by
    rcases List.mem_cons.mp hv with rfl | hv
    · exact ⟨_, List.mem_cons_self, a⟩
    · obtain ⟨k, hk, q⟩ := nested_each t v hv
      exact ⟨k, List.mem_cons_of_mem _ hk, q⟩
theorem depth_of {k : NestedKey} : ∀ {ks : List NestedKey}, k ∈ ks → k.depth ≤ NestedKey.depthAll ks
  | [], h => nomatch h
  | a :: ks, h => by
    simp only [NestedKey.depthAll]
    rcases List.mem_cons.mp h with rfl | h
    · exact Nat.le_max_left _ _
    · exact Nat.le_trans (depth_of h) (Nat.le_max_right _ _)
theorem nst_cls : ∀ (n : Nat) {k : NestedKey} {v : Value} {s : Shared}, NestedIs s.heap k v → k.depth ≤ n → wpAny (model P w) A (ofAClassStatement n v) (fun r s2 => r = false ∧ s2 = s) E s := by
  intro n
  induction n with
  | zero =>
    intro k v s h hd
    cases h with
    | none => exact wpAny_pure ⟨rfl, rfl⟩
    | bool => exact wpAny_pure ⟨rfl, rfl⟩
    | int i t => rw [cls_int]; exact wpAny_pure ⟨rfl, rfl⟩
    | text i t => rw [cls_str]; exact wpAny_pure ⟨rfl, rfl⟩
    | tup => simp [NestedKey.depth] at hd
  | succ m ih =>
    intro k v s h hd
    cases h with
    | none => exact wpAny_pure ⟨rfl, rfl⟩
    | bool => exact wpAny_pure ⟨rfl, rfl⟩
    | int i t => rw [cls_int]; exact wpAny_pure ⟨rfl, rfl⟩
    | text i t => rw [cls_str]; exact wpAny_pure ⟨rfl, rfl⟩
    | @tup b o vs n ks ho hc hdt hi =>
      have hT : s.TypeIs (.ref b) "tuple" := ⟨o, ho, hc⟩
      simp only [NestedKey.depth] at hd
      unfold ofAClassStatement
      refine wpAny_bind (wpAny_typeOf hT ?_)
      have e : (("tuple" : String) == "tuple") = true := by decide
      simp only [e, if_true]
      try refine wpAny_bind (wpAny_pure ?_)
      simp only [Bool.not_true, Bool.false_eq_true, if_false]
      show wpAny _ _ (seqItems? (.ref b) >>= _) _ _ s
      refine wpAny_bind (wpAny_seqItems ho hdt (wpAny_bind ?_))
      show wpAny _ _ (forIn vs _ _) _ _ s
      rw [← Array.forIn_toList]
      refine wpAny_forIn_list _ (fun left st s' => st.1 = none ∧ s' = s ∧ ∀ v ∈ left, ∃ k ∈ ks, NestedIs s.heap k v) _ ?_ ?_ _ _ ⟨rfl, rfl, nested_each hi⟩
      · rintro v left st s' ⟨_, e2, all⟩
        subst e2
        obtain ⟨k, hk, q⟩ := all v List.mem_cons_self
        have := depth_of hk
        refine wpAny_bind (wpAny_mono (ih q (by omega)) (fun r s2 ⟨e3, e4⟩ => ?_) fun _ _ h => h)
        subst e3; subst e4
        simp only [Bool.false_eq_true, if_false]
        exact wpAny_pure ⟨rfl, rfl, fun u hu => all u (List.mem_cons_of_mem _ hu)⟩
      · rintro ⟨r1, r2⟩ s' ⟨e1, e2, _⟩
        simp only at e1
        subst e1; subst e2
        exact wpAny_pure ⟨rfl, rfl⟩
theorem nst_byv : ∀ (n : Nat) {k : NestedKey} {v : Value} {s : Shared}, NestedIs s.heap k v → wpAny (model P w) A (hashByValue n v) (fun _ s2 => s2 = s) E s := by
  intro n
  induction n with
  | zero =>
    intro k v s h
    cases h with
    | none => exact wpAny_pure rfl
    | bool => exact wpAny_pure rfl
    | int i t => rw [byv_int]; exact wpAny_pure rfl
    | text i t => rw [byv_str]; exact wpAny_pure rfl
    | tup => exact wpAny_pure rfl
  | succ m ih =>
    intro k v s h
    cases h with
    | none => exact wpAny_pure rfl
    | bool => exact wpAny_pure rfl
    | int i t => rw [byv_int]; exact wpAny_pure rfl
    | text i t => rw [byv_str]; exact wpAny_pure rfl
    | @tup b o vs n ks ho hc hdt hi =>
      have hT : s.TypeIs (.ref b) "tuple" := ⟨o, ho, hc⟩
      unfold hashByValue
      refine wpAny_bind (wpAny_specialOf hT F.slot_tuple_hash.lookup ?_)
      show wpAny _ _ (seqItems? (.ref b) >>= _) _ _ s
      refine wpAny_bind (wpAny_seqItems ho hdt (wpAny_bind ?_))
      show wpAny _ _ (forIn vs _ _) _ _ s
      rw [← Array.forIn_toList]
      refine wpAny_forIn_list _ (fun left st s' => st.1 = none ∧ s' = s ∧ ∀ v ∈ left, ∃ k ∈ ks, NestedIs s.heap k v) _ ?_ ?_ _ _ ⟨rfl, rfl, nested_each hi⟩
      · rintro v left st s' ⟨_, e2, all⟩
        subst e2
        obtain ⟨k, hk, q⟩ := all v List.mem_cons_self
        refine wpAny_bind (wpAny_mono (ih q) (fun r s2 e4 => ?_) fun _ _ h => h)
        subst e4
        cases r
        · simp only [Bool.not_false, if_true]
          exact wpAny_pure (wpAny_pure rfl)
        · simp only [Bool.not_true, Bool.false_eq_true, if_false]
          exact wpAny_pure ⟨rfl, rfl, fun u hu => all u (List.mem_cons_of_mem _ hu)⟩
      · rintro ⟨r1, r2⟩ s' ⟨e1, e2, _⟩
        simp only at e1
        subst e1; subst e2
        exact wpAny_pure rfl
theorem shy_nested : Shy (nestedKind P w) where
  st := nestedKind_stays
  noCls := fun hk q => wpAny_mono (nst_cls 8 hk.1 hk.2) (fun r s2 ⟨a, b⟩ => by subst a; subst b; exact q) fun _ _ h => h
  byVal := fun hk q => wpAny_mono (nst_byv 8 hk.1) (fun r s2 b => by subst b; exact q r) fun _ _ h => h
  roomy := fun A h => show A.units + 8 < cLine by omega
end
structure SetZN (P : Program) (w : World) (h : Heap) (a : Addr) (L : List (Addr × NestedKey)) : Prop where
  ex : ∃ (es : Array (Int × Value)) (ep : Nat) (t : SetTable), (∃ o, h.get? a = some o ∧ o.ExactSet ∧ o.data = .set es ep t) ∧ es.toList = L.map (rowK (nestedKind P w)) ∧ Tb t (L.map fun p => (nestedKind P w).hash p.2) ∧ (L.map (·.2)).Nodup ∧
    (w.params.followText "set-order" = true ∨ t.led = true) ∧ L.length * 5 < t.mask * 3 ∧ L.length < 300
def SetEN (P : Program) (w : World) (a : Addr) (L : List (Addr × NestedKey)) : HO := .ext fun h => SetZN P w h a L
theorem SetK.zn {P : Program} {w : World} {h : Heap} {a : Addr} {L : List (Addr × NestedKey)} {es : Array (Int × Value)} {ep : Nat} {t : SetTable} (R : SetK (nestedKind P w) h a L es ep t) : SetZN P w h a L :=
  ⟨es, ep, t, R.ob, R.rows, R.tab, R.nd, R.led, R.roomy, R.few⟩
theorem setEN_ok {P : Program} {w : World} {H : Hp} {h : Heap} {a : Addr} {L : List (Addr × NestedKey)} (R : SetZN P w h a L) : ObjOk P w H h a (SetEN P w a L) := by
  refine ⟨R, let ⟨_, _, _, ⟨o, ho, _⟩, _⟩ := R.ex; ⟨o, ho⟩, fun h1 h2 p k => ?_⟩
  have ⟨es, ep, t, ⟨o, ho, r⟩, q⟩ := SetZN.ex p
  exact ⟨es, ep, t, ⟨o, k o ho, r⟩, q⟩
abbrev NK (H : Hp) (p : Addr × NestedKey) : Prop := ∃ d, DV H d (.ref p.1) ∧ nkOf d = some p.2 ∧ p.2.depth ≤ 8
section
variable {X : Cx}
theorem nk_is {pins : List (Addr × Obj)} {σ : L2.St} {H : Hp} {s : Shared} {p : Addr × NestedKey} (I : Inv X pins σ H s) (h : NK H p) : (nestedKind X.prog X.w).is s.heap p.2 p.1 :=
  let ⟨_, a, b, c⟩ := h
  ⟨nested_is I a rfl b, c⟩
def rSetN (K : PySem.W.Frag) (P : Program) (w : World) : List V → Hp → VK → Prop := fun xs H Q => ∃ (l : Addr) (ks : List (Addr × NestedKey)), xs = [V.ref l] ∧ SqL K H l (ks.map fun p => V.ref p.1) ∧ (∀ p ∈ ks, NK H p) ∧ Few ks ∧
  ∀ a L, H a = none → (∀ p ∈ L, p ∈ ks) → (∀ p ∈ ks, p.2 ∈ L.map (·.2)) → (L.map (·.2)).Nodup → Q (.ref a) (upd H a (SetEN P w a L))
theorem cr_setN (hc : X.calm = true) (hu : X.A.units + 70 < cLine) : CallR X (.type "set") (rSetN X.K X.prog X.w) := by
  intro pins s σ H xs us Q I r h
  obtain ⟨l, ks, rfl, hl, hk, hf, q⟩ := h
  rw [Vals.ref1 r]
  obtain ⟨its, rv, pl, hz⟩ := I.list hl
  have refs : ∀ {ks : List (Addr × NestedKey)} {us : List Value}, Vals (ks.map fun p => V.ref p.1) us → us = ks.map fun p => Value.ref p.1 := by
    intro ks
    induction ks with
    | nil => intro us r; cases r; rfl
    | cons p ks ih =>
      intro us r
      cases r with
      | cons r t => cases r; rw [ih t]; rfl
  refine set_call (P := X.prog) (w := X.w) shy_nested ks (I.ok.hd hc) pl.isList (by simpa using refs rv) (fun p hp => nk_is I (hk p hp)) hf (show X.A.units + 1 + 1 + 1 + 8 < cLine by omega) fun h' tk L es ep t R g k => ?_
  refine ⟨.ref s.heap.objs.size, upd H s.heap.objs.size (SetEN X.prog X.w s.heap.objs.size L), I.laid (t' := tk) k (Nat.le_refl _) (setEN_ok R.zn), rfl, q _ L (I.hok.fresh (Nat.le_refl _)) (fun p hp => List.mem_of_mem_take (g.sub p hp)) (fun p hp => g.all p (by rw [List.take_length]; exact hp)) R.nd⟩
def rSortN (K : PySem.W.Frag) (P : Program) (w : World) : List V → Hp → VK → Prop := fun vs H Q => ∃ (a : Addr) (L : List (Addr × NestedKey)) (f : V → PyData), vs = [V.ref a] ∧ H a = some (SetEN P w a L) ∧ (∀ p ∈ L, NK H p) ∧
  (∀ p ∈ L, Dp K H (.ref p.1) (f (.ref p.1)) ∧ (f (.ref p.1)).depth ≤ 64) ∧ Srtb (L.map fun p => f (.ref p.1)) ∧
  ∀ ys p, SrtO.Srtd (fun x y => dataLt (f x) (f y)) ys → ys.Perm (L.map fun p => V.ref p.1) → H p = none → Q (.ref p) (upd H p (.lst ys))
theorem cr_sortN (hc : X.calm = true) (hu : X.A.units + 70 < cLine) : CallR X (.builtin "sorted") (rSortN X.K X.prog X.w) := by
  intro pins s σ H vs us Q I r h
  obtain ⟨a, L, f, rfl, ha, hk, hf, hs, q⟩ := h
  have R0 : SetZN X.prog X.w s.heap a L := (I.hok a _ ha).1
  obtain ⟨es, ep, t, z1, z2, z3, z4, z5, z6, z7⟩ := R0.ex
  have R : SetK (nestedKind X.prog X.w) s.heap a L es ep t := { ob := z1, rows := z2, tab := z3, nd := z4, keys := fun p hp => nk_is I (hk p hp), led := z5, roomy := z6, few := z7 }
  rw [Vals.ref1 r]
  refine sorted_set (f := fun v => f (bk3 v)) R (I.ok.hd hc) hu (fun p hp => Dp.reads I _ _ _ (hf p hp).1 rfl) (fun p hp => (hf p hp).2) hs fun s' p out c k g o hp hg perm srt => ?_
  have back : ∀ v ∈ out, RelV (bk3 v) v := fun v hv => by
    obtain ⟨q, _, e⟩ := List.mem_map.mp (perm.mem_iff.mp hv)
    subst e; rfl
  have vs := bk3_vals back
  have perm2 : (out.map bk3).Perm (L.map fun p => V.ref p.1) := by
    have := perm.map bk3
    rwa [List.map_map] at this
  have few := R.few
  have hlen : (out.map bk3).length ≤ sizeLine := by rw [perm2.length_eq, List.length_map, sizeLine_eq]; omega
  have hn : H p = none := I.hok.fresh hp
  have J : Inv X pins σ (upd H p (.lst (out.map bk3))) { s with heap := s'.heap, gens := s'.gens, drawn := s'.drawn, toks := s'.toks } :=
    I.call (ch := []) (Un.laid k hp hn) (I.hok.laid k hp ⟨hlen, out, c, vs, hg⟩) (by rw [g]; exact I.bare) (fun _ z => nomatch z)
  have e : s' = { s with heap := s'.heap, gens := s'.gens, drawn := s'.drawn, toks := s'.toks } := by
    cases s'; cases s; cases o; rfl
  rw [e]
  exact ⟨.ref p, _, J, rfl, q _ p (SrtO.srtd_map srt) perm2 hn⟩
end
/-- sorted(set(xs)): what stands in xs, each once, in order -/
def rSortSetN : D → H3 → K1 → Prop := fun d h k => ∃ a l, d = .ref a ∧ h a = some (.lst l) ∧ (∀ x ∈ l, (x.ok = true ∧ x.py.depth ≤ 64) ∧ (∃ m, x = .tup m) ∧ ∃ ks, nkOf x = some ks ∧ ks.depth ≤ 8) ∧ FewD l ∧ Srtb (l.map D.py) ∧
  ∀ ys p, ys.Nodup → (∀ x, x ∈ ys ↔ x ∈ l) → ys.Pairwise (fun x y => ltD y x = false) → h p = none → k (.ref p) (up h p (.lst ys))
theorem dv_tup {H : Hp} {m : List D} {v : V} (r : DV H (.tup m) v) : ∃ b, v = .ref b := by cases r; exact ⟨_, rfl⟩
theorem nk_rows {H : Hp} : ∀ {l : List D} {vs : List V}, DVs H l vs → (∀ x ∈ l, (∃ m, x = .tup m) ∧ ∃ k, nkOf x = some k ∧ k.depth ≤ 8) → ∃ ks : List (D × Addr × NestedKey), vs = ks.map (fun p => V.ref p.2.1) ∧ l = ks.map (fun p => p.1) ∧ ∀ p ∈ ks, DV H p.1 (.ref p.2.1) ∧ nkOf p.1 = some p.2.2 ∧ p.2.2.depth ≤ 8
  | [], _, h, _ => by cases h; exact ⟨[], rfl, rfl, fun p hp => nomatch hp⟩
  | x :: l, _, h, hx => by
    cases h with
    | cons r t =>
      obtain ⟨ks, e1, e2, e3⟩ := nk_rows t fun y hy => hx y (List.mem_cons_of_mem _ hy)
      obtain ⟨⟨m, rfl⟩, k, hk, h8⟩ := hx x List.mem_cons_self
      obtain ⟨b, eb⟩ := dv_tup r
      subst eb
      refine ⟨(.tup m, b, k) :: ks, by rw [e1]; rfl, by rw [e2]; rfl, fun p hp => ?_⟩
      rcases List.mem_cons.mp hp with rfl | hp
      · exact ⟨r, hk, h8⟩
      · exact e3 p hp
section
variable {X : Cx} {G : Sc} {e : Expr} {f : WE} {p p2 pos pos2 : Pos}
theorem i_sortSetN (hc : X.calm = true) (hu : X.A.units + 70 < cLine) (hg : Gl X "sorted") (hm : X.mg "sorted" = none) (hg2 : Gl X "set") (hm2 : X.mg "set" = none) (he : PE3 X G e f)
    (h1 : starEach [.Call (.Name "set" p2) [e] [] pos2] X.env = (false, eval (.Call (.Name "set" p2) [e] [] pos2) X.env) :: starEach [] X.env := by rfl) (h2 : starEach [e] X.env = (false, eval e X.env) :: starEach [] X.env := by rfl) :
    PE3 X G (.Call (.Name "sorted" p) [.Call (.Name "set" p2) [e] [] pos2] [] pos) (w1 rSortSetN f) := by
  refine (pe_callB (cr_sortN hc hu) hg hm b_sorted (pa_cons (pe_callTy (cr_setN hc hu) hg2 hm2 b_set (pa_cons he pa_nil h2) (he := h2)) pa_nil h1) (he := h1)).weak fun σ H Q ⟨ρ, h, k, rel, ev, q, post⟩ => ?_
  refine ⟨ρ, h, _, rel, ev, q, fun d h1 v H1 q1 rel1 per1 dv1 => ?_⟩
  obtain ⟨a, l, rfl, ha, hx, few, srt, q2⟩ := q1
  cases dv1
  obtain ⟨vs, e1, r1⟩ := rel1.lst ha
  obtain ⟨ks, k1, k2, k3⟩ := nk_rows r1 fun x hx' => (hx x hx').2
  subst k1
  have few' : Few (ks.map fun p => p.2) := fun Ds nd sub => by
    have back : ∀ d ∈ Ds, ∃ p ∈ ks, p.2.2 = d := fun d hd => by
      obtain ⟨q, hq, e⟩ := List.mem_map.mp (sub d hd)
      obtain ⟨p, hp, e'⟩ := List.mem_map.mp hq
      exact ⟨p, hp, by rw [← e, ← e']⟩
    have mk : ∀ Ds : List NestedKey, (∀ d ∈ Ds, ∃ p ∈ ks, p.2.2 = d) → Ds.Nodup → ∃ xs : List D, xs.length = Ds.length ∧ xs.Nodup ∧ (∀ x ∈ xs, x ∈ l ∧ ∃ d ∈ Ds, nkOf x = some d) := by
      intro Ds
      induction Ds with
      | nil => exact fun _ _ => ⟨[], rfl, List.nodup_nil, fun _ h => nomatch h⟩
      | cons d Ds ih =>
        intro hb nd
        rw [List.nodup_cons] at nd
        obtain ⟨xs, h1, h2, h3⟩ := ih (fun e he => hb e (List.mem_cons_of_mem _ he)) nd.2
        obtain ⟨p, hp, e⟩ := hb d List.mem_cons_self
        refine ⟨p.1 :: xs, by simp [h1], List.nodup_cons.mpr ⟨fun hm => ?_, h2⟩, fun x hx' => ?_⟩
        · obtain ⟨_, d', hd', e'⟩ := h3 _ hm
          rw [(k3 p hp).2.1] at e'
          rw [e] at e'
          cases e'
          exact nd.1 hd'
        · rcases List.mem_cons.mp hx' with rfl | hx'
          · exact ⟨by rw [k2]; exact List.mem_map_of_mem hp, d, List.mem_cons_self, by rw [(k3 p hp).2.1, e]⟩
          · obtain ⟨a, d', hd', e'⟩ := h3 x hx'
            exact ⟨a, d', List.mem_cons_of_mem _ hd', e'⟩
    obtain ⟨xs, h1, h2, h3⟩ := mk Ds back nd
    rw [← h1]
    exact few xs h2 fun x hx' => (h3 x hx').1
  have es : (ks.map fun p => V.ref p.2.1) = (ks.map fun p => p.2).map fun p => V.ref p.1 := by rw [List.map_map]; rfl
  rw [es] at e1
  refine ⟨a, ks.map (fun p => p.2), rfl, .of e1, fun p hp => ?_, few', fun b L nb sub all nd => ?_⟩
  · obtain ⟨q, hq, rfl⟩ := List.mem_map.mp hp
    exact ⟨q.1, k3 q hq⟩
  have rel2 : Rel G h1 (upd H1 b (SetEN X.prog X.w b L)) := rel1.new0 nb
  have per2 : Per H1 (upd H1 b (SetEN X.prog X.w b L)) := Per.new nb
  have inl : ∀ p ∈ L, ∃ d ∈ l, DV H1 d (.ref p.1) ∧ nkOf d = some p.2 ∧ p.2.depth ≤ 8 := fun p hp => by
    obtain ⟨q, hq, rfl⟩ := List.mem_map.mp (sub p hp)
    exact ⟨q.1, by rw [k2]; exact List.mem_map_of_mem hq, k3 q hq⟩
  have un : ∀ p ∈ L, ∃ d ∈ l, unD (upd H1 b (SetEN X.prog X.w b L)) (.ref p.1) = d ∧ DV H1 d (.ref p.1) ∧ nkOf d = some p.2 ∧ p.2.depth ≤ 8 := fun p hp => by
    obtain ⟨d, hd, q⟩ := inl p hp
    exact ⟨d, hd, unD_of (hx _ hd).1.1 (q.1.per per2), q⟩
  refine ⟨b, L, fun v => (unD (upd H1 b (SetEN X.prog X.w b L)) v).py, rfl, upd_same, fun p hp => ?_, fun p hp => ?_, ?_, fun ys c hs perm nc => ?_⟩
  · obtain ⟨d, hd, q1, q2, q3⟩ := inl p hp
    exact ⟨d, q1.per per2, q2, q3⟩
  · obtain ⟨d, hd, e, q1, _⟩ := un p hp
    show Dp _ _ _ ((unD _ (V.ref p.1)).py) ∧ ((unD _ (V.ref p.1)).py).depth ≤ 64
    rw [e]
    exact ⟨(rs_py (hx _ hd).1.1).dp rel2 (q1.per per2), (hx _ hd).1.2⟩
  · refine srt.sub fun x hx' => ?_
    obtain ⟨p, hp, rfl⟩ := List.mem_map.mp hx'
    obtain ⟨d, hd, e, _⟩ := un p hp
    show (unD _ (V.ref p.1)).py ∈ _
    rw [e]
    exact List.mem_map_of_mem hd
  · have uny : ∀ v ∈ ys, ∃ p ∈ L, v = V.ref p.1 := fun v hv => by
      obtain ⟨p, hp, rfl⟩ := List.mem_map.mp (perm.mem_iff.mp hv)
      exact ⟨p, hp, rfl⟩
    have dvs : DVs (upd H1 b (SetEN X.prog X.w b L)) (ys.map (unD (upd H1 b (SetEN X.prog X.w b L)))) ys := unD_back fun v hv => by
      obtain ⟨p, hp, rfl⟩ := uny v hv
      obtain ⟨d, hd, e, q1, _⟩ := un p hp
      rw [e]
      exact q1.per per2
    have perm2 : (ys.map (unD (upd H1 b (SetEN X.prog X.w b L)))).Perm (L.map fun p => unD (upd H1 b (SetEN X.prog X.w b L)) (.ref p.1)) := by
      have := perm.map (unD (upd H1 b (SetEN X.prog X.w b L)))
      rw [List.map_map] at this
      exact this
    refine post_lst (post.per (per1.trans per2)) rel2 dvs (fun c nc => q2 _ c ?_ (fun x => ?_) (List.pairwise_map.mpr hs) nc) nc
    · refine perm2.nodup_iff.mpr ?_
      have := List.pairwise_map.mp nd
      refine List.pairwise_map.mpr (this.imp_of_mem fun {p q} hp hq hne e => hne ?_)
      obtain ⟨d, _, e1, _, n1, _⟩ := un p hp
      obtain ⟨d', _, e2, _, n2, _⟩ := un q hq
      rw [e1, e2] at e
      rw [e, n2] at n1
      exact (Option.some.inj n1).symm
    · rw [perm2.mem_iff]
      constructor
      · intro hx'
        obtain ⟨p, hp, rfl⟩ := List.mem_map.mp hx'
        obtain ⟨d, hd, e, _⟩ := un p hp
        rw [e]; exact hd
      · intro hx'
        have hx2 := hx'
        rw [k2] at hx2
        obtain ⟨q, hq, rfl⟩ := List.mem_map.mp hx2
        obtain ⟨p', hp', e⟩ := List.mem_map.mp (all q.2 (List.mem_map_of_mem hq))
        obtain ⟨d, _, e1, _, n1, _⟩ := un p' hp'
        refine List.mem_map.mpr ⟨p', hp', ?_⟩
        rw [e1]
        rw [e] at n1
        exact nkOf_inj n1 (k3 q hq).2.1
end
end T3
end
-- T3StrSort
section
set_option maxRecDepth 100000
set_option maxHeartbeats 4000000
/-! T3StrSort: sorted(set(xs)) of texts, as a reading. -/
namespace T3
open PySem PySem.Spec PySem.Calls PyProof.Rows PySem.W L2
def pyS : Value → PyData
  | .str x _ => .str x
  | _ => .none
section
variable {P : Program} {w : World} {A : Around} {E : Value → Shared → Prop} {s : Shared}
theorem goodS_vals {es : Array (Int × Value)} (g : ∀ e ∈ es.toList, GoodS w e) : ∀ v ∈ es.toList.map (·.2), ∃ k t, v = Value.str k t ∧ k ∈ es.toList.map keyS := by
  intro v hv
  obtain ⟨e, he, rfl⟩ := List.mem_map.mp hv
  obtain ⟨k, t, e1, _⟩ := g e he
  refine ⟨k, t, e1, List.mem_map.mpr ⟨e, he, ?_⟩⟩
  unfold keyS; rw [e1]
theorem str_alike (l : List Str) : Srtb (l.map PyData.str) := by
  refine .inr ⟨fun p hp q hq => ?_, fun p hp => ?_⟩
  · obtain ⟨x, _, rfl⟩ := List.mem_map.mp hp
    obtain ⟨y, _, rfl⟩ := List.mem_map.mp hq
    rfl
  · obtain ⟨x, _, rfl⟩ := List.mem_map.mp hp
    exact ⟨by simp, fun xs => by simp⟩
theorem sorted_setS {a : Addr} {L : List Str} {Q : Value → Shared → Prop} (R : SetS w s.heap a L) (hl : L.length < 300) (hh : A.handled = none) (hu : A.units + 70 < cLine)
    (q : ∀ s' p (out : List Value) (c : Nat), (∀ b o, s.heap.get? b = some o → s'.heap.get? b = some o) → s'.gens = s.gens → s'.os = s.os → s.heap.objs.size ≤ p → s'.heap.get? p = some (seqObj "list" out.toArray c) →
      (∀ v ∈ out, ∃ k t, v = Value.str k t) → (out.map pyS).Perm (L.map PyData.str) → SrtO.Srtd (fun v u => dataLt (pyS v) (pyS u)) out → Q (.ref p) s') :
    wpAny (model P w) A (call (.builtin "sorted") [.ref a]) Q E s := by
  obtain ⟨⟨o, es, ep, t, ho, hex, hd, g, hL, hb, hf, hr, hled⟩, nd⟩ := R
  have cnt : es.size = L.length := by rw [hL]; simp
  have vals := goodS_vals g
  have mapS : (es.toList.map (·.2)).map pyS = L.map PyData.str := by
    rw [hL, List.map_map, List.map_map]
    refine List.map_congr_left fun e he => ?_
    obtain ⟨k, t, e1, _⟩ := g e he
    simp only [Function.comp, keyS, e1, pyS]
  refine Calls.call_function_entry kind_sorted plain_sorted entry_sorted (args_sorted1 _) ?_
  unfold Builtin.«sorted»
  refine wpAny_bind (m := checkCount "sorted" 1 1 _) (wpAny_pure (wpAny_bind ?_))
  refine collect_set (A := A.in1) hh ⟨o, ho, hex.1, hd⟩ hf hb hr hled fun s1 vs k1 z g1 o1 perm => ?_
  have vlen : vs.length = L.length := by rw [perm.length_eq, List.length_map, Array.length_toList, cnt]
  have from_ : ∀ v ∈ vs, ∃ k t, v = Value.str k t := fun v hv => by
    obtain ⟨k, t, e, _⟩ := vals v (perm.mem_iff.mp hv)
    exact ⟨k, t, e⟩
  refine wpAny_bind (wpAny_newList ?_ (by rw [sizeLine_eq]; omega))
  have hoL : (s1.heap.push (seqObj "list" vs.toArray 0)).get? s1.heap.objs.size = some (seqObj "list" vs.toArray 0) := Heap.get?_push_size _ rfl
  have keep : ∀ b u, s.heap.get? b = some u → b ≠ s1.heap.objs.size ∧ (s1.heap.push (seqObj "list" vs.toArray 0)).get? b = some u := fun b u e =>
    ⟨Nat.ne_of_lt (Nat.lt_of_lt_of_le (Heap.lt_size e) z), Heap.get?_push_of_some _ (k1 b u e)⟩
  refine wpAny_bind (wpAny_holding (wpAny_call_entry slot_list_sort ⟨_, hoL, rfl⟩ entry_list_sort (SrtO.list_sort_ord (s := { s1 with heap := s1.heap.push (seqObj "list" vs.toArray 0) }) (ltv := fun v u => dataLt (pyS v) (pyS u)) (swo_data pyS) hoL (by rw [sizeLine_eq]; omega) (fun h2 => ?_) fun out hs hb => ⟨_, rfl, ?_⟩) (args_list_sort _)))
  · refine sortable_data (h0 := s.heap) (f := pyS) h2 keep (fun v hv => ?_) (fun v hv => ?_) ((str_alike L).sub fun x hx => ?_) (by show A.units + 1 + 1 + 64 < cLine; omega)
    · obtain ⟨k, t, rfl⟩ := from_ v hv
      exact ⟨[], .str k t⟩
    · obtain ⟨k, t, rfl⟩ := from_ v hv
      simp [pyS, PyData.depth]
    · rw [← mapS]
      exact ((perm.map pyS).mem_iff).mp hx
  · obtain ⟨c, hc⟩ := sortedHeap_at (vs := vs) (out := out.toArray) hoL
    refine wpAny_pure ⟨_, rfl, q _ s1.heap.objs.size out c (fun b u e => ?_) g1 o1 z hc (fun v hv => from_ v (hb.perm.mem_iff.mp hv)) ?_ hs⟩
    · obtain ⟨k2, k3⟩ := keep b u e
      exact (sortedHeap_old k2 (by rw [size_push']; exact Nat.lt_succ_of_lt (Heap.lt_size (k1 b u e)))).trans k3
    · rw [← mapS]
      exact (hb.perm.trans perm).map pyS
end
def SetES (w : World) (a : Addr) (L : List Str) : HO := .ext fun h => SetS w h a L
theorem setES_ok {P : Program} {w : World} {H : Hp} {h : Heap} {a : Addr} {L : List Str} (R : SetS w h a L) : ObjOk P w H h a (SetES w a L) :=
  ⟨R, let ⟨o, _, _, _, ho, _⟩ := R.ex; ⟨o, ho⟩, fun h1 h2 (p : SetS w h1 a L) k => p.at k⟩
section
variable {X : Cx}
def rSetS (K : PySem.W.Frag) (w : World) : List V → Hp → VK → Prop := fun xs H Q => ∃ (l : Addr) (ks : List Str), xs = [V.ref l] ∧ SqL K H l (ks.map V.str) ∧ ks.length < 299 ∧
  ∀ a L, H a = none → (∀ k ∈ L, k ∈ ks) → (∀ k ∈ ks, k ∈ L) → L.Nodup → Q (.ref a) (upd H a (SetES w a L))
theorem cr_setS (hc : X.calm = true) (hu : X.A.units + 70 < cLine) : CallR X (.type "set") (rSetS X.K X.w) := by
  intro pins s σ H xs us Q I r h
  obtain ⟨l, ks, rfl, hl, hf, q⟩ := h
  rw [Vals.ref1 r]
  obtain ⟨its, rv, pl, hz⟩ := I.list hl
  have hit : ∀ (i : Nat) v, its[i]? = some v → ∃ k t, ks[i]? = some k ∧ v = Value.str k t := by
    intro i v hv
    cases hk : ks[i]? with
    | none =>
      have h1 := rv.none_of (i := i) (by rw [List.getElem?_map, hk]; rfl)
      rw [h1] at hv; cases hv
    | some k =>
      obtain ⟨u, h1, h2⟩ := rv.get (i := i) (x := V.str k) (by rw [List.getElem?_map, hk]; rfl)
      rw [h1] at hv; cases hv
      obtain ⟨t, rfl⟩ := h2
      exact ⟨k, t, rfl, rfl⟩
  have hlen : its.length = ks.length := by have := rv.length; simpa using this.symm
  refine set_callS (P := X.prog) (w := X.w) ks (I.ok.hd hc) pl.isList (fun i v hv => hit i v (by simpa using hv)) (by simpa using hlen) hf fun h' tk L R g k => ?_
  refine ⟨.ref s.heap.objs.size, upd H s.heap.objs.size (SetES X.w s.heap.objs.size L), I.laid (t' := tk) k (Nat.le_refl _) (setES_ok R), rfl, q _ L (I.hok.fresh (Nat.le_refl _)) (fun p hp => List.mem_of_mem_take (g.sub p hp)) (fun p hp => g.all p (by rw [List.take_length]; exact hp)) R.nd⟩
def rSortS (w : World) : List V → Hp → VK → Prop := fun vs H Q => ∃ (a : Addr) (L : List Str), vs = [V.ref a] ∧ H a = some (SetES w a L) ∧ L.length < 300 ∧
  ∀ (ys : List Str) p, ys.Perm L → ys.Pairwise (fun x y => dataLt (.str y) (.str x) = false) → H p = none → Q (.ref p) (upd H p (.lst (ys.map V.str)))
theorem strs_of_out : ∀ {out : List Value}, (∀ v ∈ out, ∃ k t, v = Value.str k t) → ∃ ys : List Str, Vals (ys.map V.str) out ∧ out.map pyS = ys.map PyData.str
  | [], _ => ⟨[], .nil, rfl⟩
  | v :: out, h => by
    obtain ⟨ys, h1, h2⟩ := strs_of_out fun u hu => h u (List.mem_cons_of_mem _ hu)
    obtain ⟨k, t, rfl⟩ := h v List.mem_cons_self
    exact ⟨k :: ys, .cons ⟨t, rfl⟩ h1, by simp [pyS, h2]⟩
theorem str_inj_perm {ys L : List Str} (h : (ys.map PyData.str).Perm (L.map PyData.str)) : ys.Perm L := by
  have := h.map fun d => match d with | .str x => x | _ => Str.empty
  rw [List.map_map, List.map_map] at this
  simpa [Function.comp_def] using this
theorem cr_sortS (hc : X.calm = true) (hu : X.A.units + 70 < cLine) : CallR X (.builtin "sorted") (rSortS X.w) := by
  intro pins s σ H vs us Q I r h
  obtain ⟨a, L, rfl, ha, hl, q⟩ := h
  have R : SetS X.w s.heap a L := (I.hok a _ ha).1
  rw [Vals.ref1 r]
  refine sorted_setS R hl (I.ok.hd hc) hu fun s' p out c k g o hp hg hv perm srt => ?_
  obtain ⟨ys, vs, e1⟩ := strs_of_out hv
  rw [e1] at perm
  have pm := str_inj_perm perm
  have hn : H p = none := I.hok.fresh hp
  have hlen : (ys.map V.str).length ≤ sizeLine := by rw [List.length_map, pm.length_eq, sizeLine_eq]; omega
  have J : Inv X pins σ (upd H p (.lst (ys.map V.str))) { s with heap := s'.heap, gens := s'.gens, drawn := s'.drawn, toks := s'.toks } :=
    I.call (ch := []) (Un.laid k hp hn) (I.hok.laid k hp ⟨hlen, out, c, vs, hg⟩) (by rw [g]; exact I.bare) (fun _ z => nomatch z)
  have e : s' = { s with heap := s'.heap, gens := s'.gens, drawn := s'.drawn, toks := s'.toks } := by
    cases s'; cases s; cases o; rfl
  rw [e]
  refine ⟨.ref p, _, J, rfl, q ys p pm ?_ hn⟩
  have s2 : (out.map pyS).Pairwise fun x y => dataLt y x = false := List.pairwise_map.mpr srt
  rw [e1] at s2
  exact List.pairwise_map.mp s2
end
/-- sorted(set(xs)) of texts -/
def rSortSetS : D → H3 → K1 → Prop := fun d h k => ∃ (a : Addr) (l : List Str), d = .ref a ∧ h a = some (.lst (l.map D.str)) ∧ l.length < 299 ∧
  ∀ (ys : List Str) p, ys.Nodup → (∀ x, x ∈ ys ↔ x ∈ l) → ys.Pairwise (fun x y => ¬ y.cps.toList < x.cps.toList) → h p = none → k (.ref p) (up h p (.lst (ys.map D.str)))
theorem dvs_strs {H : Hp} : ∀ {l : List Str} {vs : List V}, DVs H (l.map D.str) vs → vs = l.map V.str
  | [], _, h => by cases h; rfl
  | x :: l, _, h => by
    cases h with
    | cons a t => cases a; rw [dvs_strs t]; rfl
theorem strs_dvs {H : Hp} : ∀ l : List Str, DVs H (l.map D.str) (l.map V.str)
  | [] => .nil
  | x :: l => .cons (.str x) (strs_dvs l)
section
variable {X : Cx} {G : Sc} {e : Expr} {f : WE} {p p2 pos pos2 : Pos}
theorem i_sortSetS (hc : X.calm = true) (hu : X.A.units + 70 < cLine) (hg : Gl X "sorted") (hm : X.mg "sorted" = none) (hg2 : Gl X "set") (hm2 : X.mg "set" = none) (he : PE3 X G e f)
    (h1 : starEach [.Call (.Name "set" p2) [e] [] pos2] X.env = (false, eval (.Call (.Name "set" p2) [e] [] pos2) X.env) :: starEach [] X.env := by rfl) (h2 : starEach [e] X.env = (false, eval e X.env) :: starEach [] X.env := by rfl) :
    PE3 X G (.Call (.Name "sorted" p) [.Call (.Name "set" p2) [e] [] pos2] [] pos) (w1 rSortSetS f) := by
  refine (pe_callB (cr_sortS hc hu) hg hm b_sorted (pa_cons (pe_callTy (cr_setS hc hu) hg2 hm2 b_set (pa_cons he pa_nil h2) (he := h2)) pa_nil h1) (he := h1)).weak fun σ H Q ⟨ρ, h, k, rel, ev, q, post⟩ => ?_
  refine ⟨ρ, h, _, rel, ev, q, fun d h1 v H1 q1 rel1 per1 dv1 => ?_⟩
  obtain ⟨a, l, rfl, ha, few, q2⟩ := q1
  cases dv1
  obtain ⟨vs, e1, r1⟩ := rel1.lst ha
  rw [dvs_strs r1] at e1
  refine ⟨a, l, rfl, .of e1, few, fun b L nb sub all nd => ?_⟩
  have rel2 : Rel G h1 (upd H1 b (SetES X.w b L)) := rel1.new0 nb
  have per2 : Per H1 (upd H1 b (SetES X.w b L)) := Per.new nb
  have hl := nodup_sub nd sub
  refine ⟨b, L, rfl, upd_same, by omega, fun ys c pm srt nc => ?_⟩
  refine post_lst (post.per (per1.trans per2)) rel2 (strs_dvs ys) (fun c nc => q2 ys c (pm.nodup_iff.mpr nd) (fun x => (pm.mem_iff).trans ⟨sub x, all x⟩) (srt.imp fun {x y} h z => ?_) nc) nc
  rw [dataLt_str] at h
  exact absurd z (of_decide_eq_false h)
end
end T3
end
-- T3Ast
section
set_option maxRecDepth 100000
set_option maxHeartbeats 4000000
/-! T3Ast: the small programs as data of my own. -/
namespace T3
open PySem L2
inductive Ex where
  | int (n : Int) | var (v : Int) | cell (a : Str) (e : Ex) | one (o : Str) (e : Ex) | two (o : Str) (e f : Ex)
inductive Sm where
  | set (v : Int) (e : Ex) | take (v : Int) | put (e : Ex) | store (a : Str) (e f : Ex) | assert (k : Int) (e : Ex) | call (v : Int) (p : Str) (es : List Ex)
inductive Nd where
  | go (l : Int) | iff (e : Ex) (l m : Int) | ret (e : Ex)
structure Bk where
  label : Int
  body : List Sm
  nd : Nd
structure Pr where
  name : Str
  params : Int
  blocks : List Bk
structure Pg where
  w : Int
  arrays : List (Str × Int)
  procs : List Pr
def Ex.toD : Ex → D
  | .int n => .tup [.str "int", .int n]
  | .var v => .tup [.str "var", .int v]
  | .cell a e => .tup [.str "cell", .str a, e.toD]
  | .one o e => .tup [.str o, e.toD]
  | .two o e f => .tup [.str o, e.toD, f.toD]
def Sm.toD : Sm → D
  | .set v e => .tup [.str "set", .int v, e.toD]
  | .take v => .tup [.str "take", .int v]
  | .put e => .tup [.str "put", e.toD]
  | .store a e f => .tup [.str "store", .str a, e.toD, f.toD]
  | .assert k e => .tup [.str "assert", .int k, e.toD]
  | .call v p es => .tup [.str "call", .int v, .str p, .tup (es.map Ex.toD)]
def Nd.toD : Nd → D
  | .go l => .tup [.str "go", .int l]
  | .iff e l m => .tup [.str "if", e.toD, .int l, .int m]
  | .ret e => .tup [.str "return", e.toD]
def Bk.toD (b : Bk) : D := .tup [.int b.label, .tup (b.body.map Sm.toD), b.nd.toD]
def Pr.toD (p : Pr) : D := .tup [.str p.name, .int p.params, .tup (p.blocks.map Bk.toD)]
def arD (a : Str × Int) : D := .tup [.str a.1, .int a.2]
def Pg.toD (p : Pg) : D := .tup [.int p.w, .tup (p.arrays.map arD), .tup (p.procs.map Pr.toD)]
def pairOps : List Str := ["add", "sub", "mul", "and", "or", "xor", "shl", "shr", "less", "equal"]
def singleOps : List Str := ["not", "neg"]
/-- an expression, nested at most n deep, of words below top, over arrays -/
def Ex.Wf (top : Int) (ars : List (Str × Int)) : Nat → Ex → Prop
  | 0, _ => False
  | _ + 1, .int n => 0 ≤ n ∧ n < top
  | _ + 1, .var v => 0 ≤ v ∧ v ≤ 39
  | n + 1, .cell a e => (∃ z, (a, z) ∈ ars) ∧ e.Wf top ars n
  | n + 1, .one o e => o ∈ singleOps ∧ e.Wf top ars n
  | n + 1, .two o e f => o ∈ pairOps ∧ e.Wf top ars n ∧ f.Wf top ars n
theorem Ex.Wf.mono {top : Int} {ars : List (Str × Int)} : ∀ {n m : Nat} {e : Ex}, e.Wf top ars n → n ≤ m → e.Wf top ars m
  | 0, _, _, h, _ => h.elim
  | n + 1, m, e, h, hm => by
    obtain ⟨m, rfl⟩ : ∃ k, m = k + 1 := ⟨m - 1, by omega⟩
    have hm : n ≤ m := by omega
    cases e with
    | int => exact h
    | var => exact h
    | cell a e => exact ⟨h.1, h.2.mono hm⟩
    | one o e => exact ⟨h.1, h.2.mono hm⟩
    | two o e f => exact ⟨h.1, h.2.1.mono hm, h.2.2.mono hm⟩
def Sm.Wf (top : Int) (ars : List (Str × Int)) (others : List (Str × Int)) : Sm → Prop
  | .set v e => (0 ≤ v ∧ v ≤ 39) ∧ e.Wf top ars 5
  | .take v => 0 ≤ v ∧ v ≤ 39
  | .put e => e.Wf top ars 5
  | .store a e f => (∃ z, (a, z) ∈ ars) ∧ e.Wf top ars 5 ∧ f.Wf top ars 5
  | .assert k e => (0 ≤ k ∧ k ≤ 99) ∧ e.Wf top ars 5
  | .call v p es => (0 ≤ v ∧ v ≤ 39) ∧ (p, (es.length : Int)) ∈ others ∧ ∀ e ∈ es, e.Wf top ars 5
def Nd.Wf (top : Int) (ars : List (Str × Int)) (labels : List Int) : Nd → Prop
  | .go l => l ∈ labels
  | .iff e l m => e.Wf top ars 5 ∧ l ∈ labels ∧ m ∈ labels
  | .ret e => e.Wf top ars 5
end T3
end
-- T3Gen
section
set_option maxRecDepth 100000
set_option maxHeartbeats 4000000
/-! T3Gen: the promises of the laws' drawing defs. -/
namespace T3
open PySem PySem.Spec L2
theorem en_rt {k : K1} {d : D} {h : H3} (q : k d h) : (en k).rt d h := ⟨h, Sub.refl h, q⟩
theorem en_rt' {k : K1} {d : D} {h h' : H3} (q : k d h) (s : Sub h h') : (en k).rt d h' := ⟨h, s, q⟩
theorem atI_pos {α : Type} {l : List α} {i : Int} (h0 : 0 ≤ i) (h1 : i < l.length) : atI l i = some (l[i.toNat]'(by omega)) := by
  obtain ⟨n, rfl⟩ := Int.eq_ofNat_of_zero_le h0
  have hn : n < l.length := by omega
  exact atI_nat (List.getElem?_eq_getElem hn)
theorem atI_in {α : Type} {l : List α} {i : Int} (h0 : 0 ≤ i) (h1 : i < l.length) : ∃ x ∈ l, atI l i = some x := ⟨_, List.getElem_mem _, atI_pos h0 h1⟩
/-- the draw at dr -/
def Drw (h : H3) (dr : Addr) : Prop := ∃ (c : Addr) (ns : List Int) (i q s : Int), h dr = some (.lst [.ref c, .int i, .int q, .int s]) ∧ h c = some (.lst (ns.map .int)) ∧ -1 ≤ i ∧ 0 ≤ q ∧ 0 ≤ s ∧ ∀ n ∈ ns, 0 ≤ n
theorem Drw.ne {h : H3} {dr c : Addr} {ns : List Int} {i q s : Int} (hd : h dr = some (.lst [.ref c, .int i, .int q, .int s])) (hc : h c = some (.lst (ns.map .int))) : c ≠ dr := fun z => by
  subst z; rw [hd] at hc
  have := congrArg (fun o => match o with | some (O.lst (D.ref _ :: _)) => true | _ => false) hc
  cases ns <;> simp at this
theorem Drw.mk' {h : H3} {dr c : Addr} {ns : List Int} {i' q' s' : Int} (hcd : c ≠ dr) (hc : h c = some (.lst (ns.map .int))) (hi : -1 ≤ i') (hq : 0 ≤ q') (hs : 0 ≤ s') (hn : ∀ n ∈ ns, 0 ≤ n) : Drw (up h dr (.lst [.ref c, .int i', .int q', .int s'])) dr :=
  ⟨c, ns, i', q', s', up_same, by rw [up_ne hcd]; exact hc, hi, hq, hs, hn⟩
theorem Drw.some {h : H3} {dr : Addr} (d : Drw h dr) : h dr ≠ none := by
  obtain ⟨c, ns, i, q, s, e, _⟩ := d
  rw [e]; exact fun z => nomatch z
/-- h' is h but for the draw, and what was made since -/
structure Grow (dr : Addr) (h h' : H3) : Prop where
  keep : ∀ a o, a ≠ dr → h a = some o → h' a = some o
  drw : Drw h' dr
  same : ∀ c r, h dr = some (.lst (.ref c :: r)) → ∃ r', h' dr = some (.lst (.ref c :: r'))
theorem Grow.upd {dr c : Addr} {h : H3} {r r' : List D} (e : h dr = some (.lst (.ref c :: r))) (d : Drw (up h dr (.lst (.ref c :: r'))) dr) : Grow dr h (T3.up h dr (.lst (.ref c :: r'))) :=
  ⟨fun a u n e => by rw [up_ne n]; exact e, d, fun c' r0 e' => by rw [e] at e'; cases e'; exact ⟨r', up_same⟩⟩
theorem Grow.refl {dr : Addr} {h : H3} (d : Drw h dr) : Grow dr h h := ⟨fun _ _ _ e => e, d, fun _ r e => ⟨r, e⟩⟩
theorem Grow.trans {dr : Addr} {h h1 h2 : H3} (a : Grow dr h h1) (b : Grow dr h1 h2) : Grow dr h h2 := ⟨fun c o n e => b.keep c o n (a.keep c o n e), b.drw, fun c r e => let ⟨_, e'⟩ := a.same c r e; b.same c _ e'⟩
theorem Drw.new {h : H3} {dr p : Addr} {o : O} (d : Drw h dr) (n : h p = none) : Drw (T3.up h p o) dr := by
  obtain ⟨c, ns, i, q, s, e, e2, r⟩ := d
  have h1 : dr ≠ p := fun z => by subst z; rw [n] at e; cases e
  have h2 : c ≠ p := fun z => by subst z; rw [n] at e2; cases e2
  exact ⟨c, ns, i, q, s, by rw [up_ne h1]; exact e, by rw [up_ne h2]; exact e2, r⟩
/-- something new -/
theorem Grow.new {dr p : Addr} {h h' : H3} {o : O} (g : Grow dr h h') (n : h' p = none) : Grow dr h (T3.up h' p o) :=
  ⟨fun a u ha e => by
    have e' := g.keep a u ha e
    have hp : a ≠ p := fun z => by subst z; rw [n] at e'; cases e'
    rw [up_ne hp]; exact e', g.drw.new n, fun c r e => by
    obtain ⟨r', e'⟩ := g.same c r e
    have hp : dr ≠ p := fun z => by subst z; rw [n] at e'; cases e'
    exact ⟨r', by rw [up_ne hp]; exact e'⟩⟩
/-- a thing of ours, newer than h, is written -/
theorem Grow.write {dr p : Addr} {h h' : H3} {o : O} (g : Grow dr h h') (d : Drw h dr) (n : h p = none) : Grow dr h (T3.up h' p o) := by
  obtain ⟨c, ns, i, q, s, e, e2, r⟩ := d
  have hdp : dr ≠ p := fun z => by subst z; rw [n] at e; cases e
  have hcp : c ≠ p := fun z => by subst z; rw [n] at e2; cases e2
  have hcd := Drw.ne e e2
  refine ⟨fun a u ha e => ?_, ?_, fun c' r' e' => ?_⟩
  · have hp : a ≠ p := fun z => by subst z; rw [n] at e; cases e
    rw [up_ne hp]; exact g.keep a u ha e
  · obtain ⟨c', ns', i', q', s', e', e2', r'⟩ := g.drw
    obtain ⟨r0, e0⟩ := g.same c _ e
    rw [e0] at e'
    cases e'
    exact ⟨c, ns', i', q', s', by rw [up_ne hdp]; exact e0, by rw [up_ne hcp]; exact e2', r'⟩
  · obtain ⟨r0, e0⟩ := g.same c' r' e'
    exact ⟨r0, by rw [up_ne hdp]; exact e0⟩
theorem Drw.fresh {h : H3} {dr p : Addr} (d : Drw h dr) (n : h p = none) : p ≠ dr := fun z => by subst z; exact d.some n
theorem Grow.born {dr p : Addr} {h h' : H3} {o : O} (d : Drw h dr) (n : h p = none) (g : Grow dr (T3.up h p o) h') : Grow dr h h' ∧ h' p = some o :=
  ⟨((Grow.refl d).new n).trans g, g.keep p _ (d.fresh n) up_same⟩
def p2 (n : Int) : Int := 2 ^ n.toNat
theorem p2_pos {n : Int} : 0 < p2 n := Int.pow_pos (by decide)
theorem p2_le {n m : Int} (h : n ≤ m) : p2 n ≤ p2 m := by
  unfold p2
  have : (2 : Nat) ^ n.toNat ≤ 2 ^ m.toNat := Nat.pow_le_pow_right (by decide) (by omega)
  have e : ∀ k : Nat, (2 : Int) ^ k = ((2 ^ k : Nat) : Int) := fun k => by simp
  rw [e, e]; omega
theorem p2_16 {n : Int} (h : n ≤ 16) : p2 n ≤ 65536 := p2_le (m := 16) h
/-! promises -/
def sp_take : Sp3 := fun l h k => ∃ (dr : Addr) (many : Int), l = [.ref dr, .int many] ∧ Drw h dr ∧ 0 < many ∧ (many < 1073741824 ∨ many.natAbs.log2 < 9000) ∧ ∀ r h', 0 ≤ r → r < many → Grow dr h h' → k (.int r) h'
def sp_top : Sp3 := fun l h k => ∃ w : Int, l = [.int w] ∧ 0 ≤ w ∧ w ≤ 1000 ∧ k (.int (p2 w - 1)) h
def sp_ops : Sp3 := fun l h k => l = [] ∧ ∀ p, h p = none → k (.ref p) (up h p (.lst (pairOps.map .str)))
def sp_variable : Sp3 := fun l h k => ∃ dr : Addr, l = [.ref dr] ∧ Drw h dr ∧ ∀ r h', 0 ≤ r → r ≤ 39 → Grow dr h h' → k (.int r) h'
def sp_word : Sp3 := fun l h k => ∃ (dr : Addr) (w : Int), l = [.ref dr, .int w] ∧ Drw h dr ∧ 1 ≤ w ∧ w ≤ 16 ∧ ∀ r h', 0 ≤ r → r < p2 w → Grow dr h h' → k (.int r) h'
/-- what is drawn for -/
structure PAt (h : H3) (p dr : Addr) (w : Int) (ars : List (Str × Int)) : Prop where
  at_ : h p = some (.dK [(.inr "draw", .ref dr), (.inr "width", .int w), (.inr "arrays", .tup (ars.map arD))])
  w1 : 1 ≤ w
  w2 : w ≤ 16
  few : ars.length ≤ 3
  sz : ∀ a ∈ ars, 1 ≤ a.2 ∧ a.2 ≤ 8
  okn : ∀ a ∈ ars, PyData.strOk a.1 = true
theorem PAt.grow {h h' : H3} {p dr : Addr} {w : Int} {ars : List (Str × Int)} (x : PAt h p dr w ars) (g : Grow dr h h') (d : Drw h dr) : PAt h' p dr w ars :=
  ⟨g.keep _ _ (fun z => by
    obtain ⟨c, ns, i, q, s, e, _⟩ := d
    have := x.at_
    rw [z, e] at this; cases this) x.at_, x.w1, x.w2, x.few, x.sz, x.okn⟩
theorem PAt.okL {h : H3} {p dr : Addr} {w : Int} {ars : List (Str × Int)} (x : PAt h p dr w ars) : D.okL (ars.map arD) = true := by
  rw [okL_iff]
  intro d hd
  obtain ⟨a, ha, rfl⟩ := List.mem_map.mp hd
  simp [arD, D.ok, D.okL, x.okn a ha]
def sp_expression (n : Nat) : Sp3 := fun l h k => ∃ (p dr : Addr) (w : Int) (ars : List (Str × Int)) (depth : Int), l = [.ref p, .int depth] ∧ (0 ≤ depth ∧ depth < n) ∧ Drw h dr ∧ PAt h p dr w ars ∧
  ∀ (e : Ex) h', e.Wf (p2 w) ars (n + 2) → Grow dr h h' → k e.toD h'
def sp_index (n : Nat) : Sp3 := fun l h k => ∃ (p dr : Addr) (w : Int) (ars : List (Str × Int)) (size depth : Int), l = [.ref p, .int size, .int depth] ∧ 1 ≤ size ∧ size ≤ 8 ∧ (0 ≤ depth ∧ depth < n) ∧ Drw h dr ∧ PAt h p dr w ars ∧
  ∀ (e : Ex) h', e.Wf (p2 w) ars (n + 2) → Grow dr h h' → k e.toD h'
def othD (a : Str × Int) : D := .tup [.str a.1, .int a.2]
def sp_row : Sp3 := fun l h k => ∃ (p dr oa : Addr) (w : Int) (ars others : List (Str × Int)), l = [.ref p, .ref oa] ∧ Drw h dr ∧ PAt h p dr w ars ∧ h oa = some (.lst (others.map othD)) ∧ others.length ≤ 2 ∧ (∀ o ∈ others, (0 ≤ o.2 ∧ o.2 ≤ 3) ∧ PyData.strOk o.1 = true) ∧
  ∀ (e : Sm) h', e.Wf (p2 w) ars others → Grow dr h h' → k e.toD h'
/-- a comprehension that draws -/
theorem lc_grow {dr p : Addr} {i : Nat} {e : WE} {ρ : Ev} {k : K1} {h0 : H3} {P : D → Prop} (hd : Drw h0 dr) (np : h0 p = none) {l : List D} (hl : l.length ≤ 1000)
    (step : ∀ h x, x ∈ l → Grow dr h0 h → ∀ K : K1, (∀ d h2, P d → Grow dr h h2 → K d h2) → e (ρ.set i (some x)) h K)
    (done : ∀ m h', m.length = l.length → (∀ d ∈ m, P d) → Grow dr h0 h' → h' p = some (.lst m) → k (.ref p) h') :
    lcW (fun _ => True) i wYes e p ρ k l (up h0 p (.lst [])) := by
  have gen : ∀ (r : List D) (acc : List D) (h : H3), (∀ x ∈ r, x ∈ l) → acc.length + r.length = l.length → (∀ d ∈ acc, P d) → Grow dr h0 h → h p = some (.lst acc) → lcW (fun _ => True) i wYes e p ρ k r h := by
    intro r
    induction r with
    | nil =>
      intro acc h _ hlen ha g e0
      exact ⟨trivial, done acc h (by simpa using hlen) ha g e0⟩
    | cons x r ih =>
      intro acc h hx hlen ha g e0
      refine ⟨trivial, ?_⟩
      simp only [wYes, if_true]
      refine step h x (hx x List.mem_cons_self) g _ fun d h2 pd g2 => ?_
      have hpd : p ≠ dr := hd.fresh np
      have e2 := g2.keep p _ hpd e0
      simp only [List.length_cons] at hlen
      refine ⟨acc, e2, by omega, _, Sub.refl _, ?_⟩
      refine ih (acc ++ [d]) _ (fun y hy => hx y (List.mem_cons_of_mem _ hy)) (by simp; omega) (fun y hy => ?_) ((g.trans g2).write hd np) up_same
      rcases List.mem_append.mp hy with hy | hy
      · exact ha y hy
      · rw [List.mem_singleton.mp hy]; exact pd
  exact gen l [] _ (fun x hx => hx) (by simp) (fun _ h => nomatch h) ((Grow.refl hd).new np) up_same
@[simp] theorem lcs_rg1 {t : WA} {i : Nat} {tt : WT} {e : WE} {ρ : Ev} {h : H3} {k : K1} : wLc (wRg1 t) i tt e ρ h k ↔ t ρ h fun l h1 => ∃ j : Int, l = [.int j] ∧ -4611686018427387904 ≤ j ∧ j < 4611686018427387904 ∧ ∀ p, h1 p = none → lcW (fun _ => True) i tt e p ρ k (rgD 0 j.toNat) (up h1 p (.lst [])) := Iff.rfl
def lcD (i : Nat) (tt : WT) (e : WE) (ρ : Ev) (k : K1) : D → H3 → Prop
  | .tup l, h1 => ∀ p, h1 p = none → lcW (fun _ => True) i tt e p ρ k l (up h1 p (.lst []))
  | .ref a, h1 => (∃ l, h1 a = some (.lst l)) ∧ ∀ p, h1 p = none → ∃ l, h1 a = some (.lst l) ∧ lcW (fun h => h a = some (.lst l)) i tt e p ρ k l (up h1 p (.lst []))
  | .str z, h1 => ∀ p, h1 p = none → lcW (fun _ => True) i tt e p ρ k (z.cps.toList.map fun c => .str ⟨#[c]⟩) (up h1 p (.lst []))
  | _, _ => False
@[simp] theorem lcs_it {a : WE} {i : Nat} {tt : WT} {e : WE} {ρ : Ev} {h : H3} {k : K1} : wLc (wIter a) i tt e ρ h k ↔ a ρ h (lcD i tt e ρ k) := by
  refine Iff.of_eq (congrArg (a ρ h) ?_)
  funext d h1
  cases d <;> rfl
@[simp] theorem lcD_tup {i : Nat} {tt : WT} {e : WE} {ρ : Ev} {k : K1} {l : List D} {h1 : H3} : lcD i tt e ρ k (.tup l) h1 ↔ ∀ p, h1 p = none → lcW (fun _ => True) i tt e p ρ k l (up h1 p (.lst [])) := Iff.rfl
@[simp] theorem lcD_ref {i : Nat} {tt : WT} {e : WE} {ρ : Ev} {k : K1} {a : Addr} {h1 : H3} : lcD i tt e ρ k (.ref a) h1 ↔ (∃ l, h1 a = some (.lst l)) ∧ ∀ p, h1 p = none → ∃ l, h1 a = some (.lst l) ∧ lcW (fun h => h a = some (.lst l)) i tt e p ρ k l (up h1 p (.lst [])) := Iff.rfl
/-- a comprehension of no effect, over a list that stays -/
theorem lc_pure {chk : H3 → Prop} {p : Addr} {i : Nat} {tt : WT} {e : WE} {ρ : Ev} {k : K1} {h0 : H3} {l : List D} (t : D → Bool) (f : D → D) (hl : l.length < 16777216)
    (hc : ∀ o h, Sub (up h0 p o) h → chk h)
    (tst : ∀ x ∈ l, ∀ o h, Sub (up h0 p o) h → ∀ K : Bool → H3 → Prop, (∀ h2, Sub h h2 → K (t x) h2) → tt (ρ.set i (some x)) h K)
    (step : ∀ x ∈ l, t x = true → ∀ o h, Sub (up h0 p o) h → ∀ K : K1, (∀ h2, Sub h h2 → K (f x) h2) → e (ρ.set i (some x)) h K)
    (done : k (.ref p) (up h0 p (.lst ((l.filter t).map f)))) : lcW chk i tt e p ρ k l (up h0 p (.lst [])) := by
  have gen : ∀ (r a : List D), a ++ r = l → lcW chk i tt e p ρ k r (up h0 p (.lst ((a.filter t).map f))) := by
    intro r
    induction r with
    | nil =>
      intro a e0
      simp only [List.append_nil] at e0
      subst e0
      exact ⟨hc _ _ (Sub.refl _), done⟩
    | cons x r ih =>
      intro a e0
      have hx : x ∈ l := by rw [← e0]; exact List.mem_append_right _ List.mem_cons_self
      have ih' := ih (a ++ [x]) (by simpa using e0)
      have hlen := congrArg List.length e0
      simp only [List.length_append, List.length_cons] at hlen
      refine ⟨hc _ _ (Sub.refl _), tst x hx _ _ (Sub.refl _) _ fun h1 s1 => ?_⟩
      have hfl : ((a.filter t).map f).length ≤ a.length := by rw [List.length_map]; exact List.length_filter_le _ _
      cases hb : t x with
      | true =>
        simp only [if_true]
        refine step x hx hb _ _ s1 _ fun h2 s2 => ?_
        refine ⟨_, s2 _ _ (s1 _ _ up_same), by omega, _, ?_, ih'⟩
        have e1 : ((a ++ [x]).filter t).map f = (a.filter t).map f ++ [f x] := by simp [List.filter_append, hb]
        rw [e1]
        intro b u eb
        by_cases hbp : b = p
        · subst hbp; rw [up_same] at eb ⊢; exact eb
        · rw [up_ne hbp] at eb ⊢; exact s2 _ _ (s1 _ _ (by rw [up_ne hbp]; exact eb))
      | false =>
        refine ⟨_, s1, ?_⟩
        have e1 : ((a ++ [x]).filter t).map f = (a.filter t).map f := by simp [List.filter_append, hb]
        rw [e1] at ih'
        exact ih'
  exact gen l [] rfl
theorem lc_map {chk : H3 → Prop} {p : Addr} {i : Nat} {e : WE} {ρ : Ev} {k : K1} {h0 : H3} {l : List D} (f : D → D) (hl : l.length < 16777216)
    (hc : ∀ o h, Sub (up h0 p o) h → chk h)
    (step : ∀ x ∈ l, ∀ o h, Sub (up h0 p o) h → ∀ K : K1, (∀ h2, Sub h h2 → K (f x) h2) → e (ρ.set i (some x)) h K)
    (done : k (.ref p) (up h0 p (.lst (l.map f)))) : lcW chk i wYes e p ρ k l (up h0 p (.lst [])) := by
  refine lc_pure (fun _ => true) f hl hc (fun _ _ _ _ _ _ q => q _ (Sub.refl _)) (fun x hx _ => step x hx) ?_
  rw [List.filter_eq_self.mpr (fun _ _ => rfl)]; exact done
/-- over range(n) -/
theorem lc_rg {chk : H3 → Prop} {p : Addr} {i : Nat} {e : WE} {ρ : Ev} {k : K1} {h0 : H3} {n : Nat} (f : Nat → D) (hl : n < 16777216)
    (hc : ∀ o h, Sub (up h0 p o) h → chk h)
    (step : ∀ x, x < n → ∀ o h, Sub (up h0 p o) h → ∀ K : K1, (∀ h2, Sub h h2 → K (f x) h2) → e (ρ.set i (some (.int x))) h K)
    (done : k (.ref p) (up h0 p (.lst ((List.range n).map f)))) : lcW chk i wYes e p ρ k (rgD 0 n) (up h0 p (.lst [])) := by
  refine lc_map (fun d => match d with | .int j => f j.toNat | _ => .non) (by simpa [rgD] using hl) hc (fun x hx => ?_) ?_
  · simp [rgD] at hx
    obtain ⟨j, hj, rfl⟩ := hx
    exact step j hj
  · rw [show (rgD 0 n).map _ = (List.range n).map f by simp [rgD]]; exact done
@[simp] theorem fors_rg1 {t : WA} {g : WG} {body : WS} {E : En} {ρ : Ev} {h : H3} : wFor (wRg1 t) g body E ρ h ↔ t ρ h fun l h1 => ∃ j : Int, l = [.int j] ∧ -4611686018427387904 ≤ j ∧ j < 4611686018427387904 ∧ forW (fun _ => True) g body E (rgD 0 j.toNat) ρ h1 := Iff.rfl
def forD (g : WG) (body : WS) (E : En) (ρ : Ev) : D → H3 → Prop
  | .tup l, h1 => forW (fun _ => True) g body E l ρ h1
  | .ref a, h1 => (∃ l, h1 a = some (.lst l)) ∧ ∃ l, h1 a = some (.lst l) ∧ forW (fun h => h a = some (.lst l)) g body E l ρ h1
  | .str z, h1 => forW (fun _ => True) g body E (z.cps.toList.map fun c => .str ⟨#[c]⟩) ρ h1
  | _, _ => False
@[simp] theorem fors_it {a : WE} {g : WG} {body : WS} {E : En} {ρ : Ev} {h : H3} : wFor (wIter a) g body E ρ h ↔ a ρ h (forD g body E ρ) := by
  refine Iff.of_eq (congrArg (a ρ h) ?_)
  funext d h1
  cases d <;> rfl
@[simp] theorem forD_tup {g : WG} {body : WS} {E : En} {ρ : Ev} {l : List D} {h1 : H3} : forD g body E ρ (.tup l) h1 ↔ forW (fun _ => True) g body E l ρ h1 := Iff.rfl
@[simp] theorem forD_ref {g : WG} {body : WS} {E : En} {ρ : Ev} {a : Addr} {h1 : H3} : forD g body E ρ (.ref a) h1 ↔ (∃ l, h1 a = some (.lst l)) ∧ ∃ l, h1 a = some (.lst l) ∧ forW (fun h => h a = some (.lst l)) g body E l ρ h1 := Iff.rfl
@[simp] theorem forD_str {g : WG} {body : WS} {E : En} {ρ : Ev} {z : Str} {h1 : H3} : forD g body E ρ (.str z) h1 ↔ forW (fun _ => True) g body E (z.cps.toList.map fun c => .str ⟨#[c]⟩) ρ h1 := Iff.rfl
/-- a for with an invariant -/
theorem for_inv {chk : H3 → Prop} {g : WG} {body : WS} {E : En} {l : List D} {ρ : Ev} {h : H3} (I : Nat → Ev → H3 → Prop)
    (hc : ∀ j ρ h, j ≤ l.length → I j ρ h → chk h) (h0 : I 0 ρ h)
    (step : ∀ j x ρ h, l[j]? = some x → I j ρ h → ∀ N : Ev → H3 → Prop, (∀ ρ2 h2, I (j + 1) ρ2 h2 → N ρ2 h2) → g x ρ h fun ρ1 h1 => body { nx := N, ct := N, bk := E.nx, rt := E.rt } ρ1 h1)
    (done : ∀ ρ h, I l.length ρ h → E.nx ρ h) : forW chk g body E l ρ h := by
  have gen : ∀ (r : List D) (j : Nat), j ≤ l.length → l.drop j = r → ∀ ρ h, I j ρ h → forW chk g body E r ρ h := by
    intro r
    induction r with
    | nil =>
      intro j hj ej ρ h q
      have : j = l.length := by have := congrArg List.length ej; simp at this; omega
      subst this
      exact ⟨hc _ _ _ hj q, done _ _ q⟩
    | cons x r ih =>
      intro j hj ej ρ h q
      have hx : l[j]? = some x := by have z := List.getElem?_drop (xs := l) (i := j) (j := 0); rw [ej] at z; simpa using z.symm
      have hlt : j < l.length := by
        rcases Nat.lt_or_ge j l.length with z | z
        · exact z
        · rw [List.getElem?_eq_none z] at hx; cases hx
      refine ⟨hc _ _ _ hj q, step j x ρ h hx q _ fun ρ2 h2 q2 => ⟨h2, Sub.refl _, ih (j + 1) (by omega) ?_ _ _ q2⟩⟩
      rw [← List.drop_drop, ej]; rfl
  exact gen l 0 (by omega) rfl ρ h h0
def lbl (gap : Int) (k : Nat) : Int := (5 + gap * k) % 17
def Bk.Wf (top : Int) (ars others : List (Str × Int)) (labels : List Int) (b : Bk) : Prop := b.label ∈ labels ∧ (b.body.length ≤ 4 ∧ ∀ s ∈ b.body, s.Wf top ars others) ∧ b.nd.Wf top ars labels.tail
structure BksWf (top : Int) (ars others : List (Str × Int)) (bs : List Bk) : Prop where
  lab : ∃ (gap : Int) (n : Nat), 1 ≤ gap ∧ gap ≤ 3 ∧ 1 ≤ n ∧ n ≤ 6 ∧ bs.map Bk.label = (List.range n).map (lbl gap)
  each : ∀ b ∈ bs, b.Wf top ars others (bs.map Bk.label)
def sp_blocks : Sp3 := fun l h k => ∃ (p dr oa : Addr) (w : Int) (ars others : List (Str × Int)) (blocks rows : Int), l = [.ref p, .ref oa, .int blocks, .int rows] ∧ 1 ≤ blocks ∧ blocks ≤ 6 ∧ 1 ≤ rows ∧ rows ≤ 4 ∧ Drw h dr ∧ PAt h p dr w ars ∧ h oa = some (.lst (others.map othD)) ∧ others.length ≤ 2 ∧ (∀ o ∈ others, (0 ≤ o.2 ∧ o.2 ≤ 3) ∧ PyData.strOk o.1 = true) ∧
  ∀ (bs : List Bk) h', BksWf (p2 w) ars others bs → Grow dr h h' → k (.tup (bs.map Bk.toD)) h'
end T3
end
-- T3Wf
section
set_option maxRecDepth 100000
set_option maxHeartbeats 4000000
/-! T3Wf: programs as data: readable, shallow, sorted. -/
namespace T3
open PySem PySem.Spec PySem.W L2
theorem py_tup {l : List D} : (D.tup l).py = .tuple (D.pyL l) := by simp [D.py]
theorem pyL_map {α : Type} {f : α → D} : ∀ {l : List α}, D.pyL (l.map f) = l.map fun x => (f x).py
  | [] => by simp [D.pyL]
  | x :: l => by simp [D.pyL, pyL_map (l := l)]
theorem depthAll_le {n : Nat} : ∀ {l : List PyData}, (∀ x ∈ l, x.depth ≤ n) → PyData.depthAll l ≤ n
  | [], _ => by simp [PyData.depthAll]
  | x :: l, h => by
    have h1 := h x List.mem_cons_self
    have h2 := depthAll_le (l := l) fun y hy => h y (List.mem_cons_of_mem _ hy)
    simp only [PyData.depthAll]; omega
theorem Ex.Wf.dep {top : Int} {ars : List (Str × Int)} : ∀ {n : Nat} {e : Ex}, e.Wf top ars n → e.toD.py.depth ≤ n
  | 0, _, h => h.elim
  | n + 1, .int _, _ => by simp [Ex.toD, D.py, D.pyL, PyData.depth, PyData.depthAll]
  | n + 1, .var _, _ => by simp [Ex.toD, D.py, D.pyL, PyData.depth, PyData.depthAll]
  | n + 1, .cell a e, h => by
    have := Ex.Wf.dep h.2
    simp [Ex.toD, D.py, D.pyL, PyData.depth, PyData.depthAll]; omega
  | n + 1, .one a e, h => by
    have := Ex.Wf.dep h.2
    simp [Ex.toD, D.py, D.pyL, PyData.depth, PyData.depthAll]; omega
  | n + 1, .two a e f, h => by
    have := Ex.Wf.dep h.2.1
    have := Ex.Wf.dep h.2.2
    simp [Ex.toD, D.py, D.pyL, PyData.depth, PyData.depthAll]; omega
theorem Ex.Wf.ok {top : Int} {ars : List (Str × Int)} (ho : ∀ a ∈ ars, PyData.strOk a.1 = true) : ∀ {n : Nat} {e : Ex}, e.Wf top ars n → e.toD.ok = true
  | 0, _, h => h.elim
  | n + 1, .int _, _ => by simp [Ex.toD, D.ok, D.okL]; decide +kernel
  | n + 1, .var _, _ => by simp [Ex.toD, D.ok, D.okL]; decide +kernel
  | n + 1, .cell a e, h => by
    obtain ⟨⟨z, hz⟩, h2⟩ := h
    have h1 : PyData.strOk "cell" = true := by decide +kernel
    simp [Ex.toD, D.ok, D.okL, Ex.Wf.ok ho h2, ho _ hz, h1]
  | n + 1, .one a e, h => by
    have h1 : PyData.strOk a = true := by
      have := h.1
      simp only [singleOps, List.mem_cons, List.not_mem_nil, or_false] at this
      rcases this with rfl | rfl <;> decide +kernel
    simp [Ex.toD, D.ok, D.okL, Ex.Wf.ok ho h.2, h1]
  | n + 1, .two a e f, h => by
    have h1 : PyData.strOk a = true := by
      have := h.1
      simp only [pairOps, List.mem_cons, List.not_mem_nil, or_false] at this
      rcases this with rfl | rfl | rfl | rfl | rfl | rfl | rfl | rfl | rfl | rfl <;> decide +kernel
    simp [Ex.toD, D.ok, D.okL, Ex.Wf.ok ho h.2.1, Ex.Wf.ok ho h.2.2, h1]
section
variable {top : Int} {ars others : List (Str × Int)}
theorem Sm.Wf.dep {s : Sm} (h : s.Wf top ars others) : s.toD.py.depth ≤ 8 := by
  cases s with
  | set v e => have := h.2.dep; simp [Sm.toD, D.py, D.pyL, PyData.depth, PyData.depthAll]; omega
  | take v => simp [Sm.toD, D.py, D.pyL, PyData.depth, PyData.depthAll]
  | put e => have := Ex.Wf.dep h; simp [Sm.toD, D.py, D.pyL, PyData.depth, PyData.depthAll]; omega
  | store a e f => have := h.2.1.dep; have := h.2.2.dep; simp [Sm.toD, D.py, D.pyL, PyData.depth, PyData.depthAll]; omega
  | assert k e => have := h.2.dep; simp [Sm.toD, D.py, D.pyL, PyData.depth, PyData.depthAll]; omega
  | call v p es =>
    have : PyData.depthAll (D.pyL (es.map Ex.toD)) ≤ 5 := by
      rw [pyL_map]
      exact depthAll_le fun x hx => by
        obtain ⟨e, he, rfl⟩ := List.mem_map.mp hx
        exact (h.2.2 e he).dep
    simp [Sm.toD, D.py, D.pyL, PyData.depth, PyData.depthAll]; omega
theorem Sm.Wf.ok (ho : ∀ a ∈ ars, PyData.strOk a.1 = true) (hq : ∀ a ∈ others, PyData.strOk a.1 = true) {s : Sm} (h : s.Wf top ars others) : s.toD.ok = true := by
  have c1 : PyData.strOk "set" = true := by decide +kernel
  have c2 : PyData.strOk "take" = true := by decide +kernel
  have c3 : PyData.strOk "put" = true := by decide +kernel
  have c4 : PyData.strOk "store" = true := by decide +kernel
  have c5 : PyData.strOk "assert" = true := by decide +kernel
  have c6 : PyData.strOk "call" = true := by decide +kernel
  cases s with
  | set v e => simp [Sm.toD, D.ok, D.okL, h.2.ok ho, c1]
  | take v => simp [Sm.toD, D.ok, D.okL, c2]
  | put e => simp [Sm.toD, D.ok, D.okL, Ex.Wf.ok ho h, c3]
  | store a e f =>
    obtain ⟨⟨z, hz⟩, h1, h2⟩ := h
    simp [Sm.toD, D.ok, D.okL, h1.ok ho, h2.ok ho, ho _ hz, c4]
  | assert k e => simp [Sm.toD, D.ok, D.okL, h.2.ok ho, c5]
  | call v p es =>
    have : D.okL (es.map Ex.toD) = true := by
      rw [okL_iff]
      intro d hd
      obtain ⟨e, he, rfl⟩ := List.mem_map.mp hd
      exact (h.2.2 e he).ok ho
    have hp := hq _ h.2.1
    simp [Sm.toD, D.ok, D.okL, c6, this]
    exact hp
theorem Nd.Wf.dep {L : List Int} {n : Nd} (h : n.Wf top ars L) : n.toD.py.depth ≤ 8 := by
  cases n with
  | go l => simp [Nd.toD, D.py, D.pyL, PyData.depth, PyData.depthAll]
  | iff e l m => have := h.1.dep; simp [Nd.toD, D.py, D.pyL, PyData.depth, PyData.depthAll]; omega
  | ret e => have := Ex.Wf.dep h; simp [Nd.toD, D.py, D.pyL, PyData.depth, PyData.depthAll]; omega
theorem Nd.Wf.ok (ho : ∀ a ∈ ars, PyData.strOk a.1 = true) {L : List Int} {n : Nd} (h : n.Wf top ars L) : n.toD.ok = true := by
  have c1 : PyData.strOk "go" = true := by decide +kernel
  have c2 : PyData.strOk "if" = true := by decide +kernel
  have c3 : PyData.strOk "return" = true := by decide +kernel
  cases n with
  | go l => simp [Nd.toD, D.ok, D.okL, c1]
  | iff e l m => simp [Nd.toD, D.ok, D.okL, h.1.ok ho, c2]
  | ret e => simp [Nd.toD, D.ok, D.okL, Ex.Wf.ok ho h, c3]
end
/-- a procedure's blocks: at most eight rows each -/
structure BlWf (top : Int) (ars others : List (Str × Int)) (bs : List Bk) : Prop where
  lab : ∃ (gap : Int) (n : Nat), 1 ≤ gap ∧ gap ≤ 3 ∧ 1 ≤ n ∧ n ≤ 6 ∧ bs.map Bk.label = (List.range n).map (lbl gap)
  few : ∀ b ∈ bs, b.body.length ≤ 6
  sms : ∀ b ∈ bs, ∀ s ∈ b.body, s.Wf top ars others
  nds : ∀ b ∈ bs, b.nd.Wf top ars (bs.map Bk.label).tail
theorem BksWf.bl {top : Int} {ars others : List (Str × Int)} {bs : List Bk} (h : BksWf top ars others bs) : BlWf top ars others bs :=
  ⟨h.lab, fun b hb => Nat.le_trans (h.each b hb).2.1.1 (by decide), fun b hb => (h.each b hb).2.1.2, fun b hb => (h.each b hb).2.2⟩
theorem BlWf.pos {top : Int} {ars others : List (Str × Int)} {bs : List Bk} (h : BlWf top ars others bs) : 0 < bs.length ∧ bs.length ≤ 6 := by
  obtain ⟨_, n, _, _, h1, h6, e⟩ := h.lab
  have := congrArg List.length e
  simp at this; omega
theorem Bk.dep {top : Int} {ars others : List (Str × Int)} {bs : List Bk} (h : BlWf top ars others bs) {b : Bk} (hb : b ∈ bs) : b.toD.py.depth ≤ 10 := by
  have h1 := (h.nds b hb).dep
  have h2 : PyData.depthAll (D.pyL (b.body.map Sm.toD)) ≤ 8 := by
    rw [pyL_map]
    exact depthAll_le fun x hx => by
      obtain ⟨e, he, rfl⟩ := List.mem_map.mp hx
      exact (h.sms b hb e he).dep
  simp [Bk.toD, D.py, D.pyL, PyData.depth, PyData.depthAll]; omega
theorem Bk.ok {top : Int} {ars others : List (Str × Int)} (ho : ∀ a ∈ ars, PyData.strOk a.1 = true) (hq : ∀ a ∈ others, PyData.strOk a.1 = true) {bs : List Bk} (h : BlWf top ars others bs) {b : Bk} (hb : b ∈ bs) : b.toD.ok = true := by
  have h2 : D.okL (b.body.map Sm.toD) = true := by
    rw [okL_iff]
    intro d hd
    obtain ⟨e, he, rfl⟩ := List.mem_map.mp hd
    exact (h.sms b hb e he).ok ho hq
  simp [Bk.toD, D.ok, D.okL, (h.nds b hb).ok ho, h2]
theorem Pr.dep {top : Int} {ars others : List (Str × Int)} {p : Pr} (h : BlWf top ars others p.blocks) : p.toD.py.depth ≤ 12 := by
  have h2 : PyData.depthAll (D.pyL (p.blocks.map Bk.toD)) ≤ 10 := by
    rw [pyL_map]
    exact depthAll_le fun x hx => by
      obtain ⟨e, he, rfl⟩ := List.mem_map.mp hx
      exact Bk.dep h he
  simp [Pr.toD, D.py, D.pyL, PyData.depth, PyData.depthAll]; omega
theorem Pr.ok {top : Int} {ars others : List (Str × Int)} (ho : ∀ a ∈ ars, PyData.strOk a.1 = true) (hq : ∀ a ∈ others, PyData.strOk a.1 = true) {p : Pr} (hn : PyData.strOk p.name = true) (h : BlWf top ars others p.blocks) : p.toD.ok = true := by
  have h2 : D.okL (p.blocks.map Bk.toD) = true := by
    rw [okL_iff]
    intro d hd
    obtain ⟨e, he, rfl⟩ := List.mem_map.mp hd
    exact Bk.ok ho hq h he
  simp [Pr.toD, D.ok, D.okL, hn, h2]
/-! sorting -/
theorem sorted_uniq {α : Type} {r : α → α → Prop} : ∀ {l m : List α}, m.Perm l → m.Pairwise r → l.Pairwise r → (∀ x ∈ l, ∀ y ∈ l, r x y → r y x → x = y) → m = l
  | [], m, p, _, _, _ => p.eq_nil
  | x :: l, [], p, _, _, _ => absurd p.length_eq (by simp)
  | x :: l, y :: m, p, hm, hl, ha => by
    have hy : y ∈ x :: l := p.mem_iff.mp List.mem_cons_self
    have hx : x ∈ y :: m := p.mem_iff.mpr List.mem_cons_self
    have e : y = x := by
      rcases List.mem_cons.mp hx with e | hx'
      · exact e.symm
      · rcases List.mem_cons.mp hy with e | hy'
        · exact e
        · exact ha y hy x List.mem_cons_self ((List.pairwise_cons.mp hm).1 x hx') ((List.pairwise_cons.mp hl).1 y hy')
    subst e
    rw [sorted_uniq (p.cons_inv) (List.pairwise_cons.mp hm).2 (List.pairwise_cons.mp hl).2 fun a ha' b hb => ha a (List.mem_cons_of_mem _ ha') b (List.mem_cons_of_mem _ hb)]
mutual
theorem alike_py : ∀ {d : D}, d.ok = true → alike d.py d.py = true
  | .non, _ => rfl
  | .bl _, _ => rfl
  | .int _, _ => rfl
  | .str _, _ => rfl
  | .ref _, h => by simp [D.ok] at h
  | .tup l, h => by simp only [D.py, alike]; exact alikeL_py (by simpa [D.ok] using h)
theorem alikeL_py : ∀ {l : List D}, D.okL l = true → alikeAll (D.pyL l) (D.pyL l) = true
  | [], _ => by simp [D.pyL, alikeAll]
  | d :: l, h => by
    simp only [D.okL, Bool.and_eq_true] at h
    simp [D.pyL, alikeAll, alike_py h.1, alikeL_py h.2]
end
theorem tOk_self : ∀ {l : List D}, D.okL l = true → (∀ d ∈ l, d.py ≠ .none) → tOk (D.pyL l) (D.pyL l)
  | [], _, _ => by simp [D.pyL, tOk]
  | d :: l, h, hn => by
    simp only [D.okL, Bool.and_eq_true] at h
    simp only [D.pyL, tOk]
    exact ⟨alike_py h.1, hn d List.mem_cons_self, fun _ => tOk_self h.2 fun e he => hn e (List.mem_cons_of_mem _ he)⟩
theorem eqv_str {x y : Str} : PyData.eqv (.str x) (.str y) = decide (x = y) := by simp [PyData.eqv, Bool.beq_eq_decide_eq]
theorem ltD_pr {p q : Pr} (h : p.name ≠ q.name) : ltD p.toD q.toD = decide (p.name.cps.toList < q.name.cps.toList) := by
  unfold ltD
  simp only [Pr.toD, D.py, D.pyL, dataLt_tuple]
  rw [dataLt_all_no rfl (by rw [eqv_str]; exact decide_eq_false h), dataLt_str]
abbrev ent (x : Str) (n : Int) : Str × Int := (x, n)
def ArsOk (l : List (Str × Int)) : Prop := l = [] ∨ (∃ n : Int, 1 ≤ n ∧ n ≤ 5 ∧ l = [ent "mem" n]) ∨ (∃ n : Int, 1 ≤ n ∧ n ≤ 3 ∧ l = [ent "a" 2, ent "mem" n]) ∨ ∃ n : Int, 1 ≤ n ∧ n ≤ 8 ∧ l = [ent "a" 8, ent "b_2" 3, ent "mem" n]
def OthOk (l : List (Str × Int)) : Prop := l = [] ∨ l = [ent "aid" 1] ∨ l = [ent "aid" 2, ent "zig" 0] ∨ l = [ent "aid" 3, ent "zig" 1]
def withMain : List (Str × Int) → List (Str × Int)
  | [] => [ent "main" 0]
  | a :: r => a :: ent "main" 0 :: r
structure PgWf (w : Int) (others : List (Str × Int)) (pg : Pg) : Prop where
  wd : pg.w = w
  ars : ArsOk pg.arrays
  oth : OthOk others
  prs : pg.procs.map (fun p => ent p.name p.params) = withMain others
  bls : ∀ p ∈ pg.procs, BlWf (p2 w) pg.arrays others p.blocks
theorem ArsOk.ok {l : List (Str × Int)} (h : ArsOk l) : ∀ a ∈ l, PyData.strOk a.1 = true := by
  have c1 : PyData.strOk "mem" = true := by decide +kernel
  have c2 : PyData.strOk "a" = true := by decide +kernel
  have c3 : PyData.strOk "b_2" = true := by decide +kernel
  rcases h with rfl | ⟨n, _, _, rfl⟩ | ⟨n, _, _, rfl⟩ | ⟨n, _, _, rfl⟩ <;> intro a ha <;> simp at ha
  · rw [ha]; exact c1
  · rcases ha with rfl | rfl
    · exact c2
    · exact c1
  · rcases ha with rfl | rfl | rfl
    · exact c2
    · exact c3
    · exact c1
theorem ArsOk.sz {l : List (Str × Int)} (h : ArsOk l) : l.length ≤ 3 ∧ ∀ a ∈ l, 1 ≤ a.2 ∧ a.2 ≤ 8 := by
  rcases h with rfl | ⟨n, h1, h2, rfl⟩ | ⟨n, h1, h2, rfl⟩ | ⟨n, h1, h2, rfl⟩ <;> refine ⟨by simp, fun a ha => ?_⟩ <;> simp at ha
  · rw [ha]; exact ⟨h1, by show n ≤ 8; omega⟩
  · rcases ha with rfl | rfl
    · exact ⟨by decide, by decide⟩
    · exact ⟨h1, by show n ≤ 8; omega⟩
  · rcases ha with rfl | rfl | rfl
    · exact ⟨by decide, by decide⟩
    · exact ⟨by decide, by decide⟩
    · exact ⟨h1, by show n ≤ 8; omega⟩
theorem OthOk.ok {l : List (Str × Int)} (h : OthOk l) : l.length ≤ 2 ∧ ∀ a ∈ l, (0 ≤ a.2 ∧ a.2 ≤ 3) ∧ PyData.strOk a.1 = true := by
  have c1 : PyData.strOk "aid" = true := by decide +kernel
  have c2 : PyData.strOk "zig" = true := by decide +kernel
  rcases h with rfl | rfl | rfl | rfl <;> refine ⟨by simp, fun a ha => ?_⟩ <;> simp at ha
  · rw [ha]; exact ⟨⟨by decide, by decide⟩, c1⟩
  · rcases ha with rfl | rfl
    · exact ⟨⟨by decide, by decide⟩, c1⟩
    · exact ⟨⟨by decide, by decide⟩, c2⟩
  · rcases ha with rfl | rfl
    · exact ⟨⟨by decide, by decide⟩, c1⟩
    · exact ⟨⟨by decide, by decide⟩, c2⟩
def sp_program : Sp3 := fun l h k => ∃ (dr : Addr) (w blocks rows : Int), l = [.ref dr, .int w, .int blocks, .int rows] ∧ 1 ≤ w ∧ w ≤ 16 ∧ 1 ≤ blocks ∧ blocks ≤ 6 ∧ 1 ≤ rows ∧ rows ≤ 4 ∧ Drw h dr ∧
  ∀ (pg : Pg) (others : List (Str × Int)) h', PgWf w others pg → Grow dr h h' → k pg.toD h'
theorem lt_ne {a b : Str} (h : a.cps.toList < b.cps.toList) : a ≠ b := fun e => by subst e; exact absurd h (List.lt_irrefl _)
theorem tri_by {t : List Pr} (hs : t.Pairwise fun p q => p.name.cps.toList < q.name.cps.toList) : ∀ p ∈ t, ∀ q ∈ t, p = q ∨ p.name.cps.toList < q.name.cps.toList ∨ q.name.cps.toList < p.name.cps.toList := by
  induction t with
  | nil => intro p hp; cases hp
  | cons a t ih =>
    obtain ⟨ha, ht⟩ := List.pairwise_cons.mp hs
    intro p hp q hq
    rcases List.mem_cons.mp hp with e | hp
    · rcases List.mem_cons.mp hq with e' | hq
      · exact .inl (e.trans e'.symm)
      · rw [e]; exact .inr (.inl (ha q hq))
    · rcases List.mem_cons.mp hq with e' | hq
      · rw [e']; exact .inr (.inr (ha p hp))
      · exact ih ht p hp q hq
theorem srt_by {l t : List Pr} (hp : t.Perm l) (hs : t.Pairwise fun p q => p.name.cps.toList < q.name.cps.toList) {ys : List D} (h1 : ys.Perm (l.map Pr.toD)) (h2 : ys.Pairwise fun x y => ltD y x = false) : ys = t.map Pr.toD := by
  have tri := tri_by hs
  refine sorted_uniq (h1.trans (hp.map _).symm) h2 (List.pairwise_map.mpr (hs.imp fun {p q} h => ?_)) ?_
  · rw [ltD_pr (lt_ne h).symm]
    exact decide_eq_false (List.lt_asymm h)
  · intro x hx y hy e1 e2
    obtain ⟨p, hp, rfl⟩ := List.mem_map.mp hx
    obtain ⟨q, hq, rfl⟩ := List.mem_map.mp hy
    rcases tri p hp q hq with rfl | h | h
    · rfl
    · rw [ltD_pr (lt_ne h), decide_eq_true h] at e2; cases e2
    · rw [ltD_pr (lt_ne h), decide_eq_true h] at e1; cases e1
theorem srt_ex {others : List (Str × Int)} (ho : OthOk others) {l : List Pr} (hl : l.map (fun p => ent p.name p.params) = ent "main" 0 :: others) :
    ∃ t : List Pr, t.Perm l ∧ (t.Pairwise fun p q => p.name.cps.toList < q.name.cps.toList) ∧ t.map (fun p => ent p.name p.params) = withMain others := by
  have c1 : ("aid" : Str).cps.toList < ("main" : Str).cps.toList := by decide +kernel
  have c2 : ("aid" : Str).cps.toList < ("zig" : Str).cps.toList := by decide +kernel
  have c3 : ("main" : Str).cps.toList < ("zig" : Str).cps.toList := by decide +kernel
  have hlen := congrArg List.length hl
  rcases ho with rfl | rfl | rfl | rfl <;> simp only [List.length_map, List.length_cons, List.length_nil] at hlen
  · exact ⟨l, .refl _, by
      obtain ⟨m, rfl⟩ : ∃ m, l = [m] := by
        match l, hlen with
        | [m], _ => exact ⟨m, rfl⟩
      simp, hl⟩
  · obtain ⟨m, a, rfl⟩ : ∃ m a, l = [m, a] := by
      match l, hlen with
      | [m, a], _ => exact ⟨m, a, rfl⟩
    simp only [List.map_cons, List.map_nil, List.cons.injEq, and_true] at hl
    obtain ⟨e1, e2⟩ := hl
    refine ⟨[a, m], List.Perm.swap _ _ _, ?_, by simp only [List.map_cons, List.map_nil, e1, e2, withMain]⟩
    simp only [List.pairwise_cons, List.mem_cons, List.not_mem_nil, or_false, forall_eq, false_implies, implies_true, and_true, List.Pairwise.nil, (Prod.mk.inj e1).1, (Prod.mk.inj e2).1]
    exact c1
  all_goals
    obtain ⟨m, a, z, rfl⟩ : ∃ m a z, l = [m, a, z] := by
      match l, hlen with
      | [m, a, z], _ => exact ⟨m, a, z, rfl⟩
    simp only [List.map_cons, List.map_nil, List.cons.injEq, and_true] at hl
    obtain ⟨e1, e2, e3⟩ := hl
    refine ⟨[a, m, z], List.Perm.swap _ _ _, ?_, by simp only [List.map_cons, List.map_nil, e1, e2, e3, withMain]⟩
    simp only [List.pairwise_cons, List.mem_cons, List.not_mem_nil, or_false, forall_eq_or_imp, forall_eq, false_implies, implies_true, and_true, List.Pairwise.nil, (Prod.mk.inj e1).1, (Prod.mk.inj e2).1, (Prod.mk.inj e3).1]
    exact ⟨⟨c1, c2⟩, c3⟩
/-- sorted, of procedures in the order main, told -/
theorem sort_prs {top : Int} {ars others : List (Str × Int)} (hr : ArsOk ars) (ho : OthOk others) {l : List Pr} (hl : l.map (fun p => ent p.name p.params) = ent "main" 0 :: others) (hb : ∀ p ∈ l, BlWf top ars others p.blocks) :
    (∀ d ∈ l.map Pr.toD, d.ok = true ∧ d.py.depth ≤ 64) ∧ Srtb ((l.map Pr.toD).map D.py) ∧
    ∀ ys : List D, ys.Perm (l.map Pr.toD) → ys.Pairwise (fun x y => ltD y x = false) → ∃ m : List Pr, ys = m.map Pr.toD ∧ m.map (fun p => ent p.name p.params) = withMain others ∧ ∀ p ∈ m, BlWf top ars others p.blocks := by
  have cm : PyData.strOk "main" = true := by decide +kernel
  have hnames : ∀ p ∈ l, PyData.strOk p.name = true := by
    intro p hp
    have : ent p.name p.params ∈ ent "main" 0 :: others := by rw [← hl]; exact List.mem_map_of_mem (f := fun p : Pr => ent p.name p.params) hp
    rcases List.mem_cons.mp this with e | e
    · rw [(Prod.mk.inj e).1]; exact cm
    · exact (ho.ok.2 _ e).2
  have hok : ∀ p ∈ l, p.toD.ok = true := fun p hp => Pr.ok hr.ok (fun a ha => (ho.ok.2 a ha).2) (hnames p hp) (hb p hp)
  obtain ⟨t, ht1, ht2, ht3⟩ := srt_ex ho hl
  refine ⟨fun d hd => ?_, ?_, ?_⟩
  · obtain ⟨p, hp, rfl⟩ := List.mem_map.mp hd
    exact ⟨hok p hp, by have := Pr.dep (hb p hp); omega⟩
  · refine .inl ⟨.type "str", by decide, fun d hd => ?_, fun xs ys hx hy => ?_⟩
    · rw [List.map_map] at hd
      obtain ⟨p, hp, rfl⟩ := List.mem_map.mp hd
      exact ⟨.str p.name, [.int p.params, (D.tup (p.blocks.map Bk.toD)).py], by simp only [Function.comp, Pr.toD, D.py, D.pyL], rfl⟩
    · rw [List.map_map] at hx hy
      obtain ⟨p, hp, ep⟩ := List.mem_map.mp hx
      obtain ⟨q, hq, eq⟩ := List.mem_map.mp hy
      simp only [Function.comp, Pr.toD, py_tup] at ep eq
      injection ep with ep; injection eq with eq
      have dist : p = q ∨ p.name ≠ q.name := by
        rcases tri_by ht2 p (ht1.mem_iff.mpr hp) q (ht1.mem_iff.mpr hq) with h | h | h
        · exact .inl h
        · exact .inr (lt_ne h)
        · exact .inr (lt_ne h).symm
      rcases dist with rfl | hne
      · rw [← ep, ← eq]
        refine tOk_self (by simpa [Pr.toD, D.ok] using hok p hp) fun d hd => ?_
        simp at hd
        rcases hd with rfl | rfl | rfl <;> simp [D.py]
      · rw [← ep, ← eq]
        simp only [D.pyL, D.py, tOk]
        refine ⟨rfl, by simp, fun e => ?_⟩
        rw [eqv_str] at e
        exact absurd (of_decide_eq_true e) hne
  · intro ys h1 h2
    exact ⟨t, srt_by ht1 ht2 h1 h2, ht3, fun p hp => hb p (ht1.mem_iff.mp hp)⟩
end T3
end
-- P01
section
set_option maxRecDepth 100000
set_option maxHeartbeats 4000000
/-! P01: plain values as both checkers of k01 see them. -/
namespace T3
open PySem PySem.Spec PyProof.Rows L2
mutual
theorem Rs.mono {h h' : H3} (s : Sub h h') : ∀ {d : D} {p : PyData}, Rs h d p → Rs h' d p
  | _, _, .non => .non
  | _, _, .bl _ => .bl _
  | _, _, .int _ => .int _
  | _, _, .str _ z => .str _ z
  | _, _, .tup r => .tup (RsL.mono s r)
  | _, _, .lst e r => .lst (s _ _ e) (RsL.mono s r)
theorem RsL.mono {h h' : H3} (s : Sub h h') : ∀ {l : List D} {ps : List PyData}, RsL h l ps → RsL h' l ps
  | _, _, .nil => .nil
  | _, _, .cons r t => .cons (Rs.mono s r) (RsL.mono s t)
end
theorem RsL.get {h : H3} : ∀ {l : List D} {ps : List PyData}, RsL h l ps → ∀ x ∈ l, ∃ p ∈ ps, Rs h x p
  | _, _, .nil, _, hx => nomatch hx
  | _, _, .cons r t, x, hx => by
    rcases List.mem_cons.mp hx with rfl | hx
    · exact ⟨_, List.mem_cons_self, r⟩
    · obtain ⟨p, hp, q⟩ := RsL.get t x hx
      exact ⟨p, List.mem_cons_of_mem _ hp, q⟩
theorem RsL.of {h : H3} : ∀ {l : List D}, (∀ x ∈ l, ∃ p, Rs h x p) → ∃ ps, RsL h l ps ∧ ps.length = l.length
  | [], _ => ⟨[], .nil, rfl⟩
  | x :: l, hx => by
    obtain ⟨ps, r, e⟩ := RsL.of (l := l) fun y hy => hx y (List.mem_cons_of_mem _ hy)
    obtain ⟨p, q⟩ := hx x List.mem_cons_self
    exact ⟨p :: ps, .cons q r, by simp [e]⟩
mutual
def smD : D → Bool
  | .tup l => decide (l.length ≤ 60) && smL l
  | .str x => decide (x.length ≤ 1000)
  | _ => true
def smL : List D → Bool
  | [] => true
  | d :: l => smD d && smL l
end
theorem smL_iff : ∀ {l : List D}, smL l = true ↔ ∀ d ∈ l, smD d = true
  | [] => by simp [smL]
  | d :: l => by simp [smL, smL_iff (l := l)]
/-- a value that can be looked at -/
structure VOk (h : H3) (d : D) : Prop where
  sm : smD d = true
  rs : ∃ p, Rs h d p
theorem VOk.mono {h h' : H3} {d : D} (v : VOk h d) (s : Sub h h') : VOk h' d := ⟨v.sm, let ⟨p, q⟩ := v.rs; ⟨p, q.mono s⟩⟩
theorem VOk.tup {h : H3} {l : List D} (v : VOk h (.tup l)) : l.length ≤ 60 ∧ ∀ x ∈ l, VOk h x := by
  have hs := v.sm
  simp only [smD, Bool.and_eq_true, decide_eq_true_eq] at hs
  obtain ⟨p, r⟩ := v.rs
  cases r with
  | tup r =>
    refine ⟨hs.1, fun x hx => ⟨smL_iff.mp hs.2 x hx, ?_⟩⟩
    obtain ⟨p, _, q⟩ := RsL.get r x hx
    exact ⟨p, q⟩
theorem VOk.mk_tup {h : H3} {l : List D} (hl : l.length ≤ 60) (hx : ∀ x ∈ l, VOk h x) : VOk h (.tup l) := by
  obtain ⟨ps, r, _⟩ := RsL.of fun x hx' => (hx x hx').rs
  exact ⟨by simp only [smD, Bool.and_eq_true, decide_eq_true_eq]; exact ⟨hl, smL_iff.mpr fun d hd => (hx d hd).sm⟩, _, .tup r⟩
theorem VOk.str {h : H3} {x : Str} (v : VOk h (.str x)) : PyData.strOk x = true := by
  obtain ⟨p, r⟩ := v.rs
  cases r with
  | str _ z => exact z
theorem VOk.len {h : H3} {x : Str} (v : VOk h (.str x)) : x.length ≤ 1000 := by simpa [smD] using v.sm
theorem VOk.mk_str {h : H3} {x : Str} (z : PyData.strOk x = true) (hl : x.length ≤ 1000) : VOk h (.str x) := ⟨by simpa [smD] using hl, _, .str x z⟩
theorem VOk.mk_int {h : H3} {i : Int} : VOk h (.int i) := ⟨rfl, _, .int i⟩
theorem VOk.mk_bl {h : H3} {i : Bool} : VOk h (.bl i) := ⟨rfl, _, .bl i⟩
theorem VOk.mk_non {h : H3} : VOk h .non := ⟨rfl, _, .non⟩
theorem VOk.mk_lst {h : H3} {a : Addr} {l : List D} (ha : h a = some (.lst l)) (hx : ∀ x ∈ l, VOk h x) : VOk h (.ref a) := by
  obtain ⟨ps, r, _⟩ := RsL.of fun x hx' => (hx x hx').rs
  exact ⟨rfl, _, .lst ha r⟩
theorem VOk.ref {h : H3} {a : Addr} (v : VOk h (.ref a)) : ∃ l, h a = some (.lst l) := by
  obtain ⟨p, r⟩ := v.rs
  cases r with
  | lst e _ => exact ⟨_, e⟩
theorem isi_ok {h : H3} {d : D} {k : K1} {T : Ty} (v : VOk h d) (hT : T ≠ .list) (q : k (.bl (d.isTy T)) h) : rIsi T d h k := by
  cases d with
  | ref a =>
    refine .inl ⟨v.ref, ?_⟩
    cases T <;> first | exact absurd rfl hT | exact q
  | _ => exact q
/-- equal to a text -/
def eqS (d : D) (x : Str) : Bool := match d with
  | .str y => decide (y = x)
  | _ => false
theorem eqv_nostr {h : H3} {d : D} {p : PyData} {x : Str} (r : Rs h d p) (hn : ∀ y, d ≠ .str y) : PyData.eqv p (.str x) = false ∧ PyData.eqv (.str x) p = false := by
  cases r with
  | str y => exact absurd rfl (hn y)
  | non => simp [PyData.eqv]
  | bl b => simp [PyData.eqv]
  | int b => simp [PyData.eqv]
  | tup b => simp [PyData.eqv]
  | lst _ _ => simp [PyData.eqv]
theorem eq_strL {n : Bool} {h : H3} {d : D} {x : Str} {k : K1} (v : VOk h d) (hx : PyData.strOk x = true) (q : k (.bl (eqS d x != n)) h) : rEqN n d (.str x) h k := by
  obtain ⟨p, r⟩ := v.rs
  cases d with
  | str y => simpa [eqS] using q
  | _ =>
    refine rEq_of r (.str x hx) (Nat.le_trans (Nat.min_le_right _ _) (by simp [PyData.depth])) ?_
    rw [(eqv_nostr r (fun y e => nomatch e)).1]
    exact q
theorem eq_strR {n : Bool} {h : H3} {d : D} {x : Str} {k : K1} (v : VOk h d) (hx : PyData.strOk x = true) (q : k (.bl (eqS d x != n)) h) : rEqN n (.str x) d h k := by
  obtain ⟨p, r⟩ := v.rs
  cases d with
  | str y => simpa [eqS, eq_comm] using q
  | _ =>
    refine rEq_of (.str x hx) r (Nat.le_trans (Nat.min_le_left _ _) (by simp [PyData.depth])) ?_
    rw [(eqv_nostr r (fun y e => nomatch e)).2]
    exact q
theorem rEq_tup0 {n : Bool} {h : H3} {l : List D} {k : K1} (v : VOk h (.tup l)) (q : k (.bl (l.isEmpty != n)) h) : rEqN n (.tup l) (.tup []) h k := by
  obtain ⟨p, r⟩ := v.rs
  cases r with
  | tup r =>
    refine rEq_of (.tup r) (.tup .nil) (Nat.le_trans (Nat.min_le_right _ _) (by decide)) ?_
    cases r with
    | nil => simpa [PyData.eqv, PyData.eqvAll] using q
    | cons _ _ => simpa [PyData.eqv, PyData.eqvAll] using q
theorem rEq_nilV {n : Bool} {h : H3} {a b : Addr} {l : List D} {k : K1} (ha : h a = some (.lst l)) (hb : h b = some (.lst [])) (hx : ∀ x ∈ l, VOk h x) (q : k (.bl (l.isEmpty != n)) h) : rEqN n (.ref a) (.ref b) h k := by
  obtain ⟨ps, r, _⟩ := RsL.of fun x hx' => (hx x hx').rs
  refine rEq_of (.lst ha r) (.lst hb .nil) (Nat.le_trans (Nat.min_le_right _ _) (by decide)) ?_
  cases r with
  | nil => simpa [PyData.eqv, PyData.eqvAll] using q
  | cons _ _ => simpa [PyData.eqv, PyData.eqvAll] using q
theorem rIn_names {neg : Bool} {h : H3} {d : D} {l : List Str} {a : Addr} {k : K1} (ha : h a = some (.lst (l.map .str))) (v : VOk h d) (hl : ∀ x ∈ l, PyData.strOk x = true) (q : k (.bl (l.any (eqS d) != neg)) h) : rIn neg d (.ref a) h k := by
  obtain ⟨p, r⟩ := v.rs
  have rl : ∀ {l : List Str}, (∀ x ∈ l, PyData.strOk x = true) → RsL h (l.map D.str) (l.map PyData.str) := by
    intro l
    induction l with
    | nil => exact fun _ => .nil
    | cons x l ih => exact fun hx => .cons (.str x (hx x List.mem_cons_self)) (ih fun y hy => hx y (List.mem_cons_of_mem _ hy))
  have hd : PyData.depthAll (l.map PyData.str) = 0 := by
    clear rl ha hl q
    induction l with
    | nil => simp [PyData.depthAll]
    | cons x l ih => simp [PyData.depthAll, PyData.depth, ih]
  refine ⟨_, p, _, ha, r, rl hl, by omega, ?_⟩
  have e : (l.map PyData.str).any (fun z => PyData.eqv z p) = l.any (eqS d) := by
    rw [List.any_map]
    congr 1
    funext x
    cases d with
    | str y =>
      cases r
      simp only [Function.comp, eqS]
      rw [eqv_str]
      exact decide_eq_decide.mpr eq_comm
    | _ => simp only [Function.comp, eqS]; exact (eqv_nostr r (fun y e => nomatch e)).2
  rw [e]
  exact q
@[simp] theorem lcD_str {i : Nat} {tt : WT} {e : WE} {ρ : Ev} {k : K1} {z : Str} {h1 : H3} : lcD i tt e ρ k (.str z) h1 ↔ ∀ p, h1 p = none → lcW (fun _ => True) i tt e p ρ k (z.cps.toList.map fun c => .str ⟨#[c]⟩) (up h1 p (.lst [])) := Iff.rfl
@[simp] theorem s_sl_s {z : Str} {lo hi : Option Int} {h : H3} {k : K1} : rSl (.str z) lo hi h k ↔ z.length ≤ 16777216 ∧ k (.str (cutS z lo hi)) h := Iff.rfl
/-! comprehensions of no effect -/
section
variable {chk : H3 → Prop} {h : H3} {k : K1} {ρ : Ev} {i : Nat} {l : List D} {T : WT} {e : WE} {t g : D → Bool} {f : D → D}
theorem lc_all (hl : l.length ≤ 1000) (hc : ∀ h', Sub h h' → chk h') (step : ∀ x ∈ l, ∀ h', Sub h h' → ∀ K : K1, (∀ h2, Sub h' h2 → K (.bl (g x)) h2) → e (ρ.set i (some x)) h' K)
    (q : ∀ h', Sub h h' → k (.bl (l.all g)) h') : ∀ p, h p = none → lcW chk i wYes e p ρ (fun d h1 => rAllB [d] h1 k) l (up h p (.lst [])) := by
  intro p np
  have s0 : ∀ o, Sub h (up h p o) := fun o => (Sub.refl h).up np
  refine lc_map (fun x => .bl (g x)) (by omega) (fun o h' s => hc _ ((s0 o).trans s)) (fun x hx o h' s K hK => step x hx h' ((s0 o).trans s) K hK) ?_
  refine ⟨p, l.map g, rfl, by rw [up_same, List.map_map]; rfl, ?_⟩
  have := q _ (s0 (.lst (l.map fun x => .bl (g x))))
  simpa [List.all_map, Function.comp_def] using this
theorem lc_any (hl : l.length ≤ 1000) (hc : ∀ h', Sub h h' → chk h') (step : ∀ x ∈ l, ∀ h', Sub h h' → ∀ K : K1, (∀ h2, Sub h' h2 → K (.bl (g x)) h2) → e (ρ.set i (some x)) h' K)
    (q : ∀ h', Sub h h' → k (.bl (l.any g)) h') : ∀ p, h p = none → lcW chk i wYes e p ρ (fun d h1 => rAnyB [d] h1 k) l (up h p (.lst [])) := by
  intro p np
  have s0 : ∀ o, Sub h (up h p o) := fun o => (Sub.refl h).up np
  refine lc_map (fun x => .bl (g x)) (by omega) (fun o h' s => hc _ ((s0 o).trans s)) (fun x hx o h' s K hK => step x hx h' ((s0 o).trans s) K hK) ?_
  refine ⟨p, l.map g, rfl, by rw [up_same, List.map_map]; rfl, ?_⟩
  have := q _ (s0 (.lst (l.map fun x => .bl (g x))))
  simpa [List.any_map, Function.comp_def] using this
/-- [.. for x in l if ..] beside [] -/
theorem lc_emp {n : Bool} (hl : l.length ≤ 1000) (hc : ∀ h', Sub h h' → chk h') (hv : ∀ x ∈ l, t x = true → VOk h (f x)) (tst : ∀ x ∈ l, ∀ h', Sub h h' → ∀ K : Bool → H3 → Prop, (∀ h2, Sub h' h2 → K (t x) h2) → T (ρ.set i (some x)) h' K)
    (step : ∀ x ∈ l, ∀ h', Sub h h' → ∀ K : K1, (∀ h2, Sub h' h2 → K (f x) h2) → e (ρ.set i (some x)) h' K)
    (q : ∀ h', Sub h h' → k (.bl ((l.filter t).isEmpty != n)) h') : ∀ p, h p = none → lcW chk i T e p ρ (fun d h1 => ∀ q, h1 q = none → rEqN n d (.ref q) (up h1 q (.lst [])) k) l (up h p (.lst [])) := by
  intro p np
  have s0 : ∀ o, Sub h (up h p o) := fun o => (Sub.refl h).up np
  refine lc_pure t f (by omega) (fun o h' s => hc _ ((s0 o).trans s)) (fun x hx o h' s K hK => tst x hx h' ((s0 o).trans s) K hK) (fun x hx _ o h' s K hK => step x hx h' ((s0 o).trans s) K hK) ?_
  intro b nb
  have npb : p ≠ b := fun z => by subst z; rw [up_same] at nb; cases nb
  have s1 := (s0 (.lst ((l.filter t).map f))).trans ((Sub.refl _).up (o := .lst []) nb)
  refine rEq_nilV (by rw [up_ne npb]; exact up_same) up_same (fun x hx => ?_) ?_
  · obtain ⟨y, hy, rfl⟩ := List.mem_map.mp hx
    rw [List.mem_filter] at hy
    exact (hv y hy.1 hy.2).mono s1
  · have := q _ s1
    simpa using this
/-- [f x for x in l] -/
theorem lc_lst (hl : l.length ≤ 1000) (hc : ∀ h', Sub h h' → chk h') (step : ∀ x ∈ l, ∀ h', Sub h h' → ∀ K : K1, (∀ h2, Sub h' h2 → K (f x) h2) → e (ρ.set i (some x)) h' K)
    (q : ∀ p, h p = none → k (.ref p) (up h p (.lst (l.map f)))) : ∀ p, h p = none → lcW chk i wYes e p ρ k l (up h p (.lst [])) := by
  intro p np
  have s0 : ∀ o, Sub h (up h p o) := fun o => (Sub.refl h).up np
  exact lc_map f (by omega) (fun o h' s => hc _ ((s0 o).trans s)) (fun x hx o h' s K hK => step x hx h' ((s0 o).trans s) K hK) (q p np)
end
/-! ### what is asked of names, expressions, statements -/
def isNum : D → Bool
  | .int _ => true
  | _ => false
def btw (d : D) (lo hi : Int) : Bool := match d with
  | .int i => decide (lo ≤ i) && decide (i ≤ hi)
  | _ => false
def lettersS : Str := "abcdefghijklmnopqrstuvwxyz"
def digitsS : Str := "0123456789"
def signsS : Str := "abcdefghijklmnopqrstuvwxyz0123456789_"
def reservedS : List Str := ["add", "sub", "mul", "and", "or", "xor", "shl", "shr", "less", "equal", "not", "neg", "width", "array", "procedure", "block", "put", "take", "assert", "go", "if", "return"]
def varText (x : Str) : Bool := decide (1 < x.length) && (decide (x.cps.toList[0]? = some 118) && (x.cps.toList.drop 1).all fun c => decide (c ∈ digitsS.cps.toList))
def nameS (x : Str) : Bool := decide (1 ≤ x.length ∧ x.length ≤ 20) && (!decide (x ∈ reservedS) && (x.cps.toList.all (fun c => decide (c ∈ signsS.cps.toList)) && ((match x.cps.toList[0]? with | some c => decide (c ∈ lettersS.cps.toList) | none => false) && !varText x)))
def nmB (d : D) : Bool := match d with
  | .str x => nameS x
  | _ => false
end T3
end
-- P02
section
set_option maxRecDepth 100000
set_option maxHeartbeats 4000000
/-! P02: programs as plain values, and what is wrong with them. -/
namespace T3
open PySem PySem.Spec PySem.W PyProof.Rows L2
structure Bl where
  lab : D
  body : List D
  nd : D
structure Pc where
  name : Str
  par : Int
  bls : List Bl
structure Pv where
  w : Int
  ars : List (Str × Int)
  prs : List Pc
def Bl.toD (b : Bl) : D := .tup [b.lab, .tup b.body, b.nd]
def Pc.toD (p : Pc) : D := .tup [.str p.name, .int p.par, .tup (p.bls.map Bl.toD)]
def Pv.toD (v : Pv) : D := .tup [.int v.w, .tup (v.ars.map arD), .tup (v.prs.map Pc.toD)]
def Pv.nms (v : Pv) : List Str := v.ars.map (·.1)
def Pc.labs (p : Pc) : List D := p.bls.map Bl.lab
def asc (l : List Str) : Bool := decide (l.Pairwise fun x y => x.cps.toList < y.cps.toList)
structure Pv.Wf (v : Pv) : Prop where
  w : 1 ≤ v.w ∧ v.w ≤ 16
  ars : ∀ a ∈ v.ars, nameS a.1 = true ∧ 1 ≤ a.2 ∧ a.2 ≤ 8
  asc : asc v.nms = true
  prs : ∀ p ∈ v.prs, (0 ≤ p.par ∧ p.par ≤ 6) ∧ p.bls ≠ []
def arB (d : D) : Bool := match d with
  | .tup [a, b] => nmB a && btw b 1 8
  | _ => false
def arF (d : D) : Bool := match d with
  | .tup [_, _] => true
  | _ => false
def blB (d : D) : Bool := match d with
  | .tup [_, .tup _, _] => true
  | _ => false
def prF (d : D) : Bool := match d with
  | .tup [_, _, .tup bs] => !bs.isEmpty && bs.all blB
  | _ => false
def isS (d : D) : Bool := match d with
  | .str _ => true
  | _ => false
def prN (d : D) : Bool := match d with
  | .tup (a :: b :: _) => isS a && btw b 0 6
  | _ => false
def hdD (d : D) : D := match d with
  | .tup (a :: _) => a
  | _ => .non
def hdS (d : D) : Str := match d with
  | .tup (.str x :: _) => x
  | _ => ""
def formB (d : D) : Bool := match d with
  | .tup [w, .tup as, .tup ps] => btw w 1 16 && (as.all arB && (asc (as.map hdS) && (ps.all prF && ps.all prN)))
  | _ => false
theorem Bl.inj : ∀ {b c : Bl}, b.toD = c.toD → b = c
  | ⟨_, _, _⟩, ⟨_, _, _⟩, h => by simp [Bl.toD] at h; simp [h]
theorem map_inj {α β : Type} {f : α → β} (hf : ∀ {x y}, f x = f y → x = y) : ∀ {l m : List α}, l.map f = m.map f → l = m
  | [], [], _ => rfl
  | [], _ :: _, h => by simp at h
  | _ :: _, [], h => by simp at h
  | a :: l, b :: m, h => by
    simp only [List.map_cons, List.cons.injEq] at h
    rw [hf h.1, map_inj hf h.2]
theorem Pc.inj : ∀ {b c : Pc}, b.toD = c.toD → b = c
  | ⟨_, _, _⟩, ⟨_, _, _⟩, h => by
    simp only [Pc.toD, D.tup.injEq, List.cons.injEq, D.str.injEq, D.int.injEq, and_true] at h
    rw [h.1, h.2.1, map_inj Bl.inj h.2.2]
theorem arD_inj : ∀ {b c : Str × Int}, arD b = arD c → b = c
  | ⟨_, _⟩, ⟨_, _⟩, h => by simp [arD] at h; simp [h]
theorem Pv.inj : ∀ {b c : Pv}, b.toD = c.toD → b = c
  | ⟨_, _, _⟩, ⟨_, _, _⟩, h => by
    simp only [Pv.toD, D.tup.injEq, List.cons.injEq, D.str.injEq, D.int.injEq, and_true] at h
    rw [h.1, map_inj arD_inj h.2.1, map_inj Pc.inj h.2.2]
theorem btw_iff {d : D} {a b : Int} : btw d a b = true ↔ ∃ i, d = .int i ∧ a ≤ i ∧ i ≤ b := by
  cases d <;> simp [btw]
theorem nmB_iff {d : D} : nmB d = true ↔ ∃ x, d = .str x ∧ nameS x = true := by
  cases d <;> simp [nmB]
theorem isS_iff {d : D} : isS d = true ↔ ∃ x, d = .str x := by
  cases d <;> simp [isS]
theorem arB_iff {d : D} : arB d = true ↔ ∃ a : Str × Int, d = arD a ∧ nameS a.1 = true ∧ 1 ≤ a.2 ∧ a.2 ≤ 8 := by
  unfold arB
  split
  · rename_i a b
    rw [Bool.and_eq_true, nmB_iff, btw_iff]
    constructor
    · rintro ⟨⟨x, rfl, hx⟩, i, rfl, h1, h2⟩
      exact ⟨(x, i), rfl, hx, h1, h2⟩
    · rintro ⟨⟨x, i⟩, e, hx, h1, h2⟩
      simp [arD] at e
      exact ⟨⟨x, e.1, hx⟩, i, e.2, h1, h2⟩
  · rename_i hn
    constructor
    · intro h; cases h
    · rintro ⟨⟨x, i⟩, rfl, _⟩
      exact absurd rfl (hn _ _)
theorem blB_iff {d : D} : blB d = true ↔ ∃ b : Bl, d = b.toD := by
  unfold blB
  split
  · rename_i a b c
    exact ⟨fun _ => ⟨⟨a, b, c⟩, rfl⟩, fun _ => rfl⟩
  · rename_i hn
    constructor
    · intro h; cases h
    · rintro ⟨⟨a, b, c⟩, rfl⟩
      exact absurd rfl (hn _ _ _)
theorem all_ex {α : Type} {P : D → Prop} {f : α → D} (hP : ∀ d, P d → ∃ a, d = f a) : ∀ {l : List D}, (∀ d ∈ l, P d) → ∃ m : List α, l = m.map f
  | [], _ => ⟨[], rfl⟩
  | d :: l, h => by
    obtain ⟨a, rfl⟩ := hP d (h d List.mem_cons_self)
    obtain ⟨m, rfl⟩ := all_ex hP fun e he => h e (List.mem_cons_of_mem _ he)
    exact ⟨a :: m, rfl⟩
theorem pr_iff {d : D} : (prF d = true ∧ prN d = true) ↔ ∃ p : Pc, d = p.toD ∧ (0 ≤ p.par ∧ p.par ≤ 6) ∧ p.bls ≠ [] := by
  constructor
  · rintro ⟨h1, h2⟩
    unfold prF at h1
    split at h1
    · rename_i a b bs
      simp only [prN, Bool.and_eq_true, isS_iff, btw_iff] at h2
      obtain ⟨⟨x, rfl⟩, i, rfl, h3, h4⟩ := h2
      rw [Bool.and_eq_true, List.all_eq_true] at h1
      obtain ⟨m, rfl⟩ := all_ex (f := Bl.toD) (P := fun d => blB d = true) (fun d h => blB_iff.mp h) h1.2
      exact ⟨⟨x, i, m⟩, rfl, ⟨h3, h4⟩, fun e => by
        have e : m = [] := e
        subst e; simp at h1⟩
    · cases h1
  · rintro ⟨⟨x, i, m⟩, rfl, ⟨h1, h2⟩, h3⟩
    simp only [Pc.toD, prF, prN, isS, btw, Bool.true_and]
    constructor
    · rw [Bool.and_eq_true, List.all_eq_true]
      refine ⟨by cases m <;> simp at h3 ⊢, fun d hd => ?_⟩
      obtain ⟨b, _, rfl⟩ := List.mem_map.mp hd
      exact blB_iff.mpr ⟨b, rfl⟩
    · have h1 : 0 ≤ i := h1
      have h2 : i ≤ 6 := h2
      simp [h1, h2]
theorem hdS_ar {l : List (Str × Int)} : (l.map arD).map hdS = l.map (·.1) := by rw [List.map_map]; rfl
theorem form_iff {d : D} : formB d = true ↔ ∃ v : Pv, d = v.toD ∧ v.Wf := by
  constructor
  · intro h
    unfold formB at h
    split at h
    · rename_i w as ps
      simp only [Bool.and_eq_true, List.all_eq_true, btw_iff] at h
      obtain ⟨⟨i, rfl, h1, h2⟩, h3, h4, h5, h6⟩ := h
      obtain ⟨m, rfl⟩ := all_ex (f := arD) (P := fun d => arB d = true) (fun d h => let ⟨a, e, _⟩ := arB_iff.mp h; ⟨a, e⟩) h3
      obtain ⟨n, rfl⟩ := all_ex (f := Pc.toD) (P := fun d => prF d = true ∧ prN d = true) (fun d h => let ⟨a, e, _⟩ := pr_iff.mp h; ⟨a, e⟩) (fun d hd => ⟨h5 d hd, h6 d hd⟩)
      refine ⟨⟨i, m, n⟩, rfl, ⟨h1, h2⟩, fun a ha => ?_, ?_, fun p hp => ?_⟩
      · obtain ⟨b, e, q⟩ := arB_iff.mp (h3 _ (List.mem_map_of_mem ha))
        rw [arD_inj e]; exact q
      · rw [hdS_ar] at h4; exact h4
      · obtain ⟨b, e, q⟩ := pr_iff.mp ⟨h5 _ (List.mem_map_of_mem hp), h6 _ (List.mem_map_of_mem hp)⟩
        rw [Pc.inj e]; exact q
    · cases h
  · rintro ⟨⟨i, m, n⟩, rfl, hw, ha, hs, hp⟩
    simp only [Pv.toD, formB, Bool.and_eq_true, List.all_eq_true, btw_iff]
    refine ⟨⟨i, rfl, hw⟩, fun d hd => ?_, by rw [hdS_ar]; exact hs, fun d hd => ?_, fun d hd => ?_⟩
    · obtain ⟨a, h, rfl⟩ := List.mem_map.mp hd
      exact arB_iff.mpr ⟨a, rfl, ha a h⟩
    · obtain ⟨a, h, rfl⟩ := List.mem_map.mp hd
      exact (pr_iff.mpr ⟨a, rfl, hp a h⟩).1
    · obtain ⟨a, h, rfl⟩ := List.mem_map.mp hd
      exact (pr_iff.mpr ⟨a, rfl, hp a h⟩).2
open Classical in
noncomputable def pvOf (d : D) : Option Pv := if h : ∃ v : Pv, d = v.toD ∧ v.Wf then some h.choose else none
theorem pv_some {v : Pv} (h : v.Wf) : pvOf v.toD = some v := by
  have hx : ∃ u : Pv, v.toD = u.toD ∧ u.Wf := ⟨v, rfl, h⟩
  unfold pvOf
  rw [dif_pos hx]
  exact congrArg some (Pv.inj hx.choose_spec.1).symm
theorem pv_none {d : D} (h : formB d = false) : pvOf d = none := by
  unfold pvOf
  rw [dif_neg fun hx => by rw [form_iff.mpr hx] at h; cases h]
/-! ### expressions, statements, ends -/
def exB (w : Int) (ns : List Str) : Nat → D → Bool
  | 0, _ => false
  | n + 1, d => match d with
    | .tup (.str x :: a :: r) =>
      if x = "int" then r.isEmpty && btw a 0 (p2 w - 1)
      else if x = "var" then r.isEmpty && btw a 0 39
      else if x = "cell" then (match r with
        | [b] => ns.any (eqS a) && exB w ns n b
        | _ => false)
      else if x ∈ singleOps then r.isEmpty && exB w ns n a
      else if x ∈ pairOps then (match r with
        | [b] => exB w ns n a && exB w ns n b
        | _ => false)
      else false
    | _ => false
def Pv.ex (v : Pv) (d : D) : Bool := exB v.w v.nms 20 d
def Pv.cal (v : Pv) (b : D) (n : Nat) : Bool := v.prs.any fun p => eqS b p.name && (!decide (p.name = "main") && decide (p.par = (n : Int)))
def Pv.cll (v : Pv) (r : List D) : Bool := match r with
  | [a, b, .tup es] => btw a 0 39 && (es.all v.ex && v.cal b es.length)
  | _ => false
def stB (v : Pv) (d : D) : Bool := match d with
  | .tup (.str x :: r) =>
    if x = "set" then (match r with | [a, b] => btw a 0 39 && v.ex b | _ => false)
    else if x = "take" then (match r with | [a] => btw a 0 39 | _ => false)
    else if x = "put" then (match r with | [a] => v.ex a | _ => false)
    else if x = "assert" then (match r with | [a, b] => btw a 0 99 && v.ex b | _ => false)
    else if x = "store" then (match r with | [a, b, c] => v.nms.any (eqS a) && (v.ex b && v.ex c) | _ => false)
    else if x = "call" then v.cll r
    else false
  | _ => false
def ndB (v : Pv) (d : D) : Bool := match d with
  | .tup (.str x :: a :: r) =>
    if x = "go" then r.isEmpty && btw a 0 999
    else if x = "if" then (match r with | [b, c] => v.ex a && (btw b 0 999 && btw c 0 999) | _ => false)
    else if x = "return" then r.isEmpty && v.ex a
    else false
  | _ => false
def aimsD (d : D) : List D := match d with
  | .tup [.str x, a] => if x = "go" then [a] else []
  | .tup [_, _, b, c] => [b, c]
  | _ => []
theorem ndB_cases {v : Pv} {d : D} (h : ndB v d = true) : (∃ i : Int, d = .tup [.str "go", .int i]) ∨ (∃ a, ∃ i j : Int, d = .tup [.str "if", a, .int i, .int j]) ∨ ∃ a, d = .tup [.str "return", a] := by
  unfold ndB at h
  split at h
  · rename_i x a r
    split at h
    · rename_i e; subst e
      cases r with
      | nil =>
        simp [btw_iff] at h
        obtain ⟨i, rfl, _⟩ := h
        exact .inl ⟨i, rfl⟩
      | cons _ _ => simp at h
    · split at h
      · rename_i e; subst e
        split at h
        · rename_i b c
          simp only [Bool.and_eq_true, btw_iff] at h
          obtain ⟨_, ⟨i, rfl, _⟩, j, rfl, _⟩ := h
          exact .inr (.inl ⟨a, i, j, rfl⟩)
        · cases h
      · split at h
        · rename_i e; subst e
          cases r with
          | nil => exact .inr (.inr ⟨a, rfl⟩)
          | cons _ _ => simp at h
        · cases h
  · cases h
/-! ### labels -/
def Atm : D → Prop
  | .tup _ => False
  | .ref _ => False
  | _ => True
theorem Atm.rs {h : H3} {d : D} (a : Atm d) (v : VOk h d) : Rs h d d.py ∧ d.py.depth = 0 := by
  obtain ⟨p, r⟩ := v.rs
  cases d with
  | tup => exact a.elim
  | ref => exact a.elim
  | non => exact ⟨.non, by simp [D.py, PyData.depth]⟩
  | bl b => exact ⟨.bl b, by simp [D.py, PyData.depth]⟩
  | int i => exact ⟨.int i, by simp [D.py, PyData.depth]⟩
  | str x => exact ⟨.str x v.str, by simp [D.py, PyData.depth]⟩
def inL (l : List D) (d : D) : Bool := l.any fun z => PyData.eqv z.py d.py
theorem rsl_atm {h : H3} : ∀ {l : List D}, (∀ x ∈ l, Atm x ∧ VOk h x) → RsL h l (l.map D.py) ∧ PyData.depthAll (l.map D.py) = 0
  | [], _ => ⟨.nil, by simp [PyData.depthAll]⟩
  | x :: l, hx => by
    obtain ⟨r, e⟩ := rsl_atm fun y hy => hx y (List.mem_cons_of_mem _ hy)
    obtain ⟨a, b⟩ := hx x List.mem_cons_self
    refine ⟨.cons (a.rs b).1 r, ?_⟩
    simp [PyData.depthAll, e, (a.rs b).2]
theorem rIn_atm {neg : Bool} {h : H3} {d : D} {l : List D} {a : Addr} {k : K1} (ha : h a = some (.lst l)) (hd : Atm d ∧ VOk h d) (hl : ∀ x ∈ l, Atm x ∧ VOk h x) (q : k (.bl (inL l d != neg)) h) : rIn neg d (.ref a) h k := by
  obtain ⟨r, e⟩ := rsl_atm hl
  refine ⟨_, _, _, ha, (hd.1.rs hd.2).1, r, by omega, ?_⟩
  rw [List.any_map]
  exact q
theorem rIn_atm_t {neg : Bool} {h : H3} {d : D} {l : List D} {k : K1} (hd : Atm d ∧ VOk h d) (hl : ∀ x ∈ l, Atm x ∧ VOk h x) (q : k (.bl (inL l d != neg)) h) : rIn neg d (.tup l) h k := by
  obtain ⟨r, e⟩ := rsl_atm hl
  refine ⟨_, _, (hd.1.rs hd.2).1, r, by omega, ?_⟩
  rw [List.any_map]
  exact q
/-! ### what is wrong -/
def cds (v : Pv) (labs : List D) (B : Bl) : List Str :=
  (if btw B.lab 0 999 then [] else [("label" : Str)]) ++ ((if B.body.all (stB v) then [] else [("statement" : Str)]) ++ (if ndB v B.nd then (if (aimsD B.nd).all (inL labs) then [] else [("target" : Str)]) ++ (if inL (aimsD B.nd) (labs.headD .non) then [("entry" : Str)] else []) else [("end" : Str)]))
def itD (ks : List Int) (c : Str) : D := .tup [.tup (ks.map .int), .str c]
def nmsB (v : Pv) : Bool := v.prs.all (fun p => nameS p.name) && (asc (v.prs.map Pc.name) && v.prs.any fun p => decide (p.name = "main") && decide (p.par = 0))
/-- up to the block b of the procedure p -/
def UpTo (v : Pv) (p0 b0 : Nat) (x : D) : Prop := (x = itD [] "name" ∧ nmsB v = false) ∨ ∃ p b P B, v.prs[p]? = some P ∧ P.bls[b]? = some B ∧ (p < p0 ∨ (p = p0 ∧ b < b0)) ∧ ((x = itD [p, b] "twice" ∧ inL (P.labs.take b) B.lab = true) ∨ ∃ c ∈ cds v P.labs B, x = itD [p, b] c)
def InF (v : Pv) (x : D) : Prop := UpTo v v.prs.length 0 x
structure Srt (v : Pv) (ys : List D) : Prop where
  nd : ys.Nodup
  mem : ∀ x, x ∈ ys ↔ InF v x
  srt : ys.Pairwise fun x y => ltD y x = false
  len : ys.length ≤ 1000
def Ans (d : D) (ys : List D) : Prop := match pvOf d with
  | some v => Srt v ys
  | none => ys = [itD [] "form"]
structure Pv.Sm (v : Pv) : Prop where
  np : v.prs.length ≤ 3
  nb : ∀ p ∈ v.prs, p.bls.length ≤ 6
  lab : ∀ p ∈ v.prs, ∀ b ∈ p.bls, Atm b.lab
def Sml (d : D) : Prop := ∀ v : Pv, d = v.toD → v.Sm
def IsIt (x : D) : Prop := ∃ (ks : List Int) (c : Str), x = itD ks c ∧ PyData.strOk c = true ∧ ks.length ≤ 2
theorem itD_inj {ks js : List Int} {c e : Str} (h : itD ks c = itD js e) : ks = js ∧ c = e := by
  simp only [itD, D.tup.injEq, List.cons.injEq, D.str.injEq, and_true] at h
  exact ⟨map_inj (fun {x y} h => D.int.inj h) h.1, h.2⟩
theorem UpTo.it {v : Pv} {p b : Nat} {x : D} (h : UpTo v p b x) : IsIt x := by
  rcases h with ⟨rfl, _⟩ | ⟨p, b, P, B, _, _, _, ⟨rfl, _⟩ | ⟨c, hc, rfl⟩⟩
  · exact ⟨[], "name", rfl, by decide +kernel, by simp⟩
  · exact ⟨[p, b], "twice", rfl, by decide +kernel, by simp⟩
  · refine ⟨[p, b], c, rfl, ?_, by simp⟩
    have hm : c ∈ (["label", "statement", "target", "entry", "end"] : List Str) := by
      unfold cds at hc
      simp only [List.mem_append] at hc
      rcases hc with hc | hc | hc
      · split at hc <;> simp at hc ⊢; exact .inl hc
      · split at hc <;> simp at hc ⊢; exact .inr (.inl hc)
      · split at hc
        · simp only [List.mem_append] at hc
          rcases hc with hc | hc
          · split at hc <;> simp at hc ⊢; exact .inr (.inr (.inl hc))
          · split at hc <;> simp at hc ⊢; exact .inr (.inr (.inr (.inl hc)))
        · simp at hc ⊢; exact .inr (.inr (.inr (.inr hc)))
    simp only [List.mem_cons, List.not_mem_nil, or_false] at hm
    rcases hm with rfl | rfl | rfl | rfl | rfl <;> decide +kernel
theorem it_ok {x : D} (h : IsIt x) : x.ok = true := by
  obtain ⟨ks, c, rfl, hc, _⟩ := h
  have : D.okL (ks.map D.int) = true := by rw [okL_iff]; intro d hd; obtain ⟨i, _, rfl⟩ := List.mem_map.mp hd; rfl
  simp [itD, D.ok, D.okL, hc, this]
theorem it_dep {x : D} (h : IsIt x) : x.py.depth ≤ 64 := by
  obtain ⟨ks, c, rfl, hc, _⟩ := h
  have : PyData.depthAll (D.pyL (ks.map D.int)) ≤ 1 := by
    rw [pyL_map]
    exact depthAll_le fun x hx => by
      obtain ⟨e, he, rfl⟩ := List.mem_map.mp hx
      simp [D.py, PyData.depth]
  simp [itD, D.py, D.pyL, PyData.depth, PyData.depthAll]; omega
theorem ints_pre : ∀ {ks js : List Int} {t s : List (Int ⊕ List Nat)}, keyToksAll (D.pyL (ks.map D.int)) ++ t = keyToksAll (D.pyL (js.map D.int)) ++ s → ks = js ∧ t = s
  | [], [], t, s, h => by simpa [D.pyL, keyToksAll] using h
  | [], b :: _, _, _, h => by simp [D.pyL, keyToksAll] at h
  | a :: _, [], _, _, h => by simp [D.pyL, keyToksAll] at h
  | a :: k, b :: j, t, s, h => by
    simp [D.pyL, keyToksAll, D.py, keyToks] at h
    obtain ⟨e1, e2⟩ := ints_pre h.2
    exact ⟨by rw [h.1, e1], e2⟩
theorem it_toks {ks js : List Int} {c e : Str} (h : keyToksAll (D.pyL [.tup (ks.map .int), .str c]) = keyToksAll (D.pyL [.tup (js.map .int), .str e])) : itD ks c = itD js e := by
  simp only [D.pyL, D.py, keyToksAll, keyToks, List.cons.injEq, true_and] at h
  obtain ⟨e1, e2⟩ := ints_pre h
  simp at e2
  have : c = e := str_of_cps (by rw [e2])
  rw [e1, this]
theorem it_tot {x y : D} (hx : IsIt x) (hy : IsIt y) (h : ltD x y = false) (g : ltD y x = false) : x = y := by
  obtain ⟨ks, c, rfl, _⟩ := hx
  obtain ⟨js, e, rfl, _⟩ := hy
  unfold ltD at h g
  simp only [itD, D.py, dataLt_tuple] at h g
  exact it_toks (lex_total (O := itemOrd) _ _ h g)
theorem alike_ints : ∀ {ks js : List Int}, alikeAll (D.pyL (ks.map D.int)) (D.pyL (js.map D.int)) = true
  | [], _ => by simp [D.pyL, alikeAll]
  | _ :: _, [] => by simp [D.pyL, alikeAll]
  | a :: k, b :: j => by simp [D.pyL, alikeAll, D.py, alike, alike_ints]
theorem it_srtb {l : List D} (h : ∀ x ∈ l, IsIt x) : Srtb (l.map D.py) := by
  refine .inl ⟨.type "tuple", by decide, fun p hp => ?_, fun xs ys hx hy => ?_⟩
  · obtain ⟨x, hx, rfl⟩ := List.mem_map.mp hp
    obtain ⟨ks, c, rfl, _⟩ := h x hx
    exact ⟨.tuple (D.pyL (ks.map .int)), [.str c], by simp [itD, D.py, D.pyL], rfl⟩
  · obtain ⟨x, hx, ex⟩ := List.mem_map.mp hx
    obtain ⟨y, hy, ey⟩ := List.mem_map.mp hy
    obtain ⟨ks, c, rfl, _⟩ := h x hx
    obtain ⟨js, e, rfl, _⟩ := h y hy
    simp only [itD, D.py, D.pyL, PyData.tuple.injEq] at ex ey
    subst ex ey
    simp [tOk, alike, alike_ints]
theorem it_nk {x : D} (h : IsIt x) : (∃ m, x = .tup m) ∧ ∃ k, nkOf x = some k ∧ k.depth ≤ 8 := by
  obtain ⟨ks, c, rfl, _, _⟩ := h
  have e : ∀ ks : List Int, nkL (ks.map D.int) = some (ks.map NestedKey.num) ∧ NestedKey.depthAll (ks.map NestedKey.num) ≤ 1 := by
    intro ks
    induction ks with
    | nil => exact ⟨rfl, by simp [NestedKey.depthAll]⟩
    | cons a r ih =>
      refine ⟨by simp [nkL, nkOf, ih.1], ?_⟩
      have := ih.2
      simp [NestedKey.depthAll, NestedKey.depth]; omega
  refine ⟨⟨_, rfl⟩, .tup [.tup (ks.map NestedKey.num), .text c], ?_, ?_⟩
  · simp [itD, nkOf, nkL, (e ks).1]
  · have := (e ks).2
    simp [NestedKey.depth, NestedKey.depthAll]; omega
theorem Srt.uniq {v : Pv} {l m : List D} (hl : Srt v l) (hm : Srt v m) : l = m := by
  have pm : l.Perm m := (List.perm_ext_iff_of_nodup hl.nd hm.nd).mpr fun x => by rw [hl.mem, hm.mem]
  refine sorted_uniq pm hl.srt hm.srt fun x hx y hy h g => it_tot ((hm.mem x).mp hx).it ((hm.mem y).mp hy).it g h
theorem Ans.uniq {d : D} {l m : List D} (hl : Ans d l) (hm : Ans d m) : l = m := by
  unfold Ans at hl hm
  split at hl
  · rename_i v e
    rw [e] at hm
    exact hl.uniq hm
  · rename_i e
    rw [e] at hm
    rw [hl, hm]
end T3
end
-- T3BoolIx
section
set_option maxRecDepth 100000
set_option maxHeartbeats 4000000
/-! T3BoolIx: a list at a truth. -/
namespace T3
open PySem PySem.Spec PySem.Calls PyProof.Rows L2
section
variable {prog : Program} {w : World} {M : Model} {A : Around} {E : Value → Shared → Prop} {s : Shared}
theorem bool_index : typeLookup (.type "bool") "__index__" = typeLookup (.type "int") "__index__" := by
  rw [typeLookup_type, typeLookup_type, builtinLookup_eq_fast]; kernel_rfl
theorem subscript_bool {b : Bool} {Q : Option Int → Shared → Prop} (h : Q (some (if b = true then 1 else 0)) s) : wpAny M A (Builtin.List.listSubscript? (.bool b)) Q E s := by
  unfold Builtin.List.listSubscript?
  refine wpAny_bind (wpAny_specialOf (T := "bool") rfl (bool_index.trans int_index) ?_)
  show wpAny M A (asIndex (.bool b) >>= _) Q E s
  refine wpAny_bind (wpAny_of_eq (a := if b = true then 1 else 0) (by cases b <;> rfl) ?_)
  cases b
  · exact wpAny_pure h
  · exact wpAny_pure h
theorem getItem_bool {l : Addr} {items : Array Value} {b : Bool} {x : Value} {Q : Value → Shared → Prop} (hl : s.heap.IsList l items)
    (hx : items[if b = true then 1 else 0]? = some x) (h : Q x s) : wpAny (model prog w) A (getItem (.ref l) (.bool b)) Q E s := by
  obtain ⟨o, ho, hc, ne, hd⟩ := id hl
  unfold getItem
  try with_reducible refine wpAny_holding ?_
  first | refine wpAny_bind (wpAny_pure ?_) | skip
  refine wpAny_bind (wpAny_sequenceKey hl.typeIs (by decide) ?_)
  refine wpAny_bind (wpAny_callSpecial?_slot (name := Str.ofString "__getitem__") hl.typeIs slot_list_getitem
    (wpAny_call_entry slot_list_getitem hl.typeIs entry_list_getitem ?_ (args_list_getitem _ _)))
  show wpAny _ _ (Builtin.List.listSubscript? (.bool b) >>= _) _ _ s
  refine wpAny_bind (subscript_bool ?_)
  cases b
  · show wpAny _ _ ((seqItemAt l 0 >>= fun r => pure (r.map (0, ·))) >>= _) _ _ s
    refine wpAny_bind (wpAny_bind (wpAny_seqItemAt ho hd (wpAny_pure ?_)))
    have hx' : items[0]? = some x := hx
    rw [hx']
    first
      | exact wpAny_bind (wpAny_pure (wpAny_pure ⟨x, rfl, wpAny_pure h⟩))
      | exact wpAny_pure ⟨x, rfl, wpAny_pure h⟩
  · show wpAny _ _ ((seqItemAt l 1 >>= fun r => pure (r.map (1, ·))) >>= _) _ _ s
    refine wpAny_bind (wpAny_bind (wpAny_seqItemAt ho hd (wpAny_pure ?_)))
    have hx' : items[1]? = some x := hx
    rw [hx']
    first
      | exact wpAny_bind (wpAny_pure (wpAny_pure ⟨x, rfl, wpAny_pure h⟩))
      | exact wpAny_pure ⟨x, rfl, wpAny_pure h⟩
end
section
variable {X : Cx} {G : Sc} {a b : Expr} {f g : WE} {pos : Pos}
def rIxBV (K : PySem.W.Frag) : R2 := fun x y H Q => ∃ p xs c v, x = .ref p ∧ y = .bl c ∧ SqL K H p xs ∧ xs[if c = true then 1 else 0]? = some v ∧ Q v H
theorem ix_boolV : IxR X (rIxBV X.K) := by
  intro value slice pins s σ H x y v u Q I rx ry h hs
  obtain ⟨p, xs, c, z, rfl, rfl, hq, he, q⟩ := h
  cases rx
  cases (show u = Value.bool c from ry)
  obtain ⟨its, r, pl, hz⟩ := I.list hq
  obtain ⟨w, ew, rw'⟩ := r.get he
  exact subscriptTail_builtinR (x := w) pl.isList.typeIs slot_list_getitem.lookup
    (getItem_bool (Q := fun r s' => r = w ∧ EP X pins σ Q r s') pl.isList (by simpa using ew) ⟨rfl, z, H, I, rw', q⟩) hs
/-- a list at a truth -/
def rIxB : D → D → H3 → K1 → Prop := fun x y h k => match x, y with
  | .ref a, .bl c => ∃ l d, h a = some (.lst l) ∧ l[if c = true then 1 else 0]? = some d ∧ k d h
  | _, _ => False
theorem rf_ixB : Rf2 G (UX X) rIxB := by
  intro d e x y h H k Q rel dx dy q post
  unfold rIxB at q
  split at q
  · rename_i p c
    cases dx; cases dy
    obtain ⟨l, d, ha, hd, q⟩ := q
    obtain ⟨vs, e1, r1⟩ := rel.lst ha
    obtain ⟨v, ev, dv⟩ := r1.get hd
    exact ⟨_, ix_boolV, p, vs, c, v, rfl, rfl, .of e1, ev, post _ _ _ _ q rel (Per.refl H) dv⟩
  · exact q.elim
theorem i_ixB (ha : PE3 X G a f) (hb : PE3 X G b g) (hs : PlainIx b := by exact fun _ _ => rfl) : PE3 X G (.Subscript a b pos) (w2 rIxB f g) := (pe_ix UX.ok ha hb hs).weak fun σ H Q q => lift2 rf_ixB q
end
end T3
end
-- Lk01
section
set_option maxRecDepth 100000
set_option maxHeartbeats 4000000
namespace Lk01
open PySem PySem.Spec PyProof.Rows L2 T3
def top (i : Nat) : Stmt := PySem.Challenge.pw_inputways_k01_faults_of_programs.main.body.getD i (.Pass ⟨0, 0, 0, 0⟩)
/-- the module's names: what is still built in; the constants -/
structure Mg (mg : Str → Option Value) : Prop where
  isinstance : mg "isinstance" = none
  bool : mg "bool" = none
  int : mg "int" = none
  len : mg "len" = none
  str : mg "str" = none
  all : mg "all" = none
  tuple : mg "tuple" = none
  range : mg "range" = none
  sorted : mg "sorted" = none
  any : mg "any" = none
  list : mg "list" = none
  abs : mg "abs" = none
  min : mg "min" = none
  max : mg "max" = none
  set : mg "set" = none
def k_RESERVED : List Str := ["add", "sub", "mul", "and", "or", "xor", "shl", "shr", "less", "equal", "not", "neg", "width", "array", "procedure", "block", "put", "take", "assert", "go", "if", "return"]
def k_SINGLES : List Str := ["not", "neg"]
def k_PAIRS : List Str := ["add", "sub", "mul", "and", "or", "xor", "shl", "shr", "less", "equal"]
structure Mt (K : PySem.W.Frag) (mg : Str → Option Value) : Prop where
  t_RESERVED : KTup K mg "RESERVED" k_RESERVED
  t_SINGLES : KTup K mg "SINGLES" k_SINGLES
  t_PAIRS : KTup K mg "PAIRS" k_PAIRS
section
variable {P : Program} {w : World} {K : PySem.W.Frag} {mg : Str → Option Value} {base : Heap} {G : Sc}
/-! ### top -/
abbrev s_top : Stmt := top 3
abbrev N_top : List Str := ["w"]
theorem sc_top : FnScope N_top ["w"] (defScope s_top) := ⟨rfl, rfl, rfl, by decide +kernel, rfl, by decide +kernel, by decide +kernel⟩
theorem nd_top : N_top.Nodup := sc_top.nd
def W_top   : WS := wRet (w2 rSub (w2 rShl (wC (.int 1)) (wVar 0)) (wC (.int 1)))
theorem walk_top {C_s : Unit}   {k : Nat} (T : Mg mg)  {f : Addr} (cdv : Value) (A : Around) (outer : List Env) (s : Shared) (H : Hp) (E : XK) (hr : Room (k + 1) (A.deeper (envOfC "top" (defScope s_top) s.heap.objs.size f cdv)))  :
    PSs3 (CXF P w K mg base N_top "top" s_top f cdv A outer s H E) G (defBody s_top) (W_top ) := by
  unfold W_top
  exact is_one (is_ret (i_bin rf_sub (i_bin rf_shl (i_int) (i_var 0)) (i_int)))
/-! ### is_number -/
abbrev s_is_number : Stmt := top 4
abbrev N_is_number : List Str := ["value"]
theorem sc_is_number : FnScope N_is_number ["value"] (defScope s_is_number) := ⟨rfl, rfl, rfl, by decide +kernel, rfl, by decide +kernel, by decide +kernel⟩
theorem nd_is_number : N_is_number.Nodup := sc_is_number.nd
def W_is_number   : WS := wRet (wAndV (w1 (rIsi .int) (wVar 0)) (wNotV (w1 (rIsi .bool) (wVar 0))))
theorem walk_is_number {C_s : Unit}   {k : Nat} (T : Mg mg)  {f : Addr} (cdv : Value) (A : Around) (outer : List Env) (s : Shared) (H : Hp) (E : XK) (hr : Room (k + 1) (A.deeper (envOfC "is_number" (defScope s_is_number) s.heap.objs.size f cdv)))  :
    PSs3 (CXF P w K mg base N_is_number "is_number" s_is_number f cdv A outer s H E) G (defBody s_is_number) (W_is_number ) := by
  unfold W_is_number
  exact is_one (is_ret (i_and (i_isi .int rfl T.isinstance b_isinstance rfl T.int b_int (i_var 0)) (i_one (i_not (i_isi .bool rfl T.isinstance b_isinstance rfl T.bool b_bool (i_var 0))))))
/-! ### is_between -/
abbrev s_is_between : Stmt := top 5
abbrev N_is_between : List Str := ["value", "least", "most"]
theorem sc_is_between : FnScope N_is_between ["value", "least", "most"] (defScope s_is_between) := ⟨rfl, rfl, rfl, by decide +kernel, rfl, by decide +kernel, by decide +kernel⟩
theorem nd_is_between : N_is_between.Nodup := sc_is_between.nd
def W_is_between  (p_is_number : Sp3) : WS := wRet (wAndV (wL p_is_number (wCons (wVar 0) (wNil))) (wChain rLe rLe (wVar 1) (wVar 0) (wVar 2)))
theorem walk_is_between {C_s : Unit}  {p_is_number : Sp3} {k : Nat} (T : Mg mg)  {f : Addr} (cdv : Value) (A : Around) (outer : List Env) (s : Shared) (H : Hp) (E : XK) (hr : Room (k + 1) (A.deeper (envOfC "is_between" (defScope s_is_between) s.heap.objs.size f cdv))) (F_is_number : Fd P w K mg base G "is_number" (k + 1) p_is_number) :
    PSs3 (CXF P w K mg base N_is_between "is_between" s_is_between f cdv A outer s H E) G (defBody s_is_between) (W_is_between p_is_number) := by
  unfold W_is_between
  exact is_one (is_ret (i_and (i_call F_is_number hr (ia_cons (i_var 0) (ia_nil))) (i_one (i_chain rf_le rf_le (i_var 1) (i_var 0) (i_var 2)))))
/-! ### is_name -/
abbrev s_is_name : Stmt := top 9
abbrev N_is_name : List Str := ["value", "signs", "sign"]
theorem sc_is_name : FnScope N_is_name ["value"] (defScope s_is_name) := ⟨rfl, rfl, rfl, by decide +kernel, rfl, by decide +kernel, by decide +kernel⟩
theorem nd_is_name : N_is_name.Nodup := sc_is_name.nd
def W_is_name  (p_is_variable_text : Sp3) : WS := wSeq (wIfS (wOr (wNot (wB (w1 (rIsi .str) (wVar 0)))) (wOr (wNot (wB (wChain rLe rLe (wC (.int 1)) (wL rLen (wCons (wVar 0) (wNil))) (wC (.int 20))))) (wB (w1 (rInK false k_RESERVED) (wVar 0))))) (wRet (wC (.bl false))) (wNext)) (wSeq (wAsg (wC (.str "abcdefghijklmnopqrstuvwxyz0123456789_")) (gN 1)) (wRet (wAndV (wL rAllB (wCons (wLc (wIter (wVar 0)) 2 (wYes) (w2 (rIn false) (wVar 2) (wVar 1))) (wNil))) (wAndV (w2 (rIn false) (w2 rIx (wVar 0) (wC (.int 0))) (wSl (wVar 1) (oNone) (oSome (wC (.int 26))))) (wNotV (wL p_is_variable_text (wCons (wVar 0) (wNil))))))))
theorem walk_is_name {C_s : Unit}  {p_is_variable_text : Sp3} {k : Nat} (T : Mg mg)  {f : Addr} (cdv : Value) (A : Around) (outer : List Env) (s : Shared) (H : Hp) (E : XK) (hr : Room (k + 1) (A.deeper (envOfC "is_name" (defScope s_is_name) s.heap.objs.size f cdv))) (TT : Mt K mg) (F_is_variable_text : Fd P w K mg base G "is_variable_text" (k + 1) p_is_variable_text) :
    PSs3 (CXF P w K mg base N_is_name "is_name" s_is_name f cdv A outer s H E) G (defBody s_is_name) (W_is_name p_is_variable_text) := by
  unfold W_is_name
  exact is_cons (is_if (it_w (iw_or (it_not (it_val (i_isi .str rfl T.isinstance b_isinstance rfl T.str b_str (i_var 0)))) (iw_or (it_not (it_chain rf_le rf_le (i_int) (i_callB rf_len rfl T.len b_len (ia_cons (i_var 0) (ia_nil))) (i_int))) (iw_or1 (it_inK TT.t_RESERVED (i_var 0)))))) (is_one (is_ret (i_bl))) (is_nil)) (is_cons (is_asg (i_str) (ig_name 1 nd_is_name)) (is_one (is_ret (i_and (i_callB (rf_all rfl) rfl T.all b_all (ia_cons (i_lc 2 rfl nd_is_name (blkOk_by (N := N_is_name) (sc := defScope s_is_name) (by decide +kernel)) (ii_any (i_var 0)) (fun _ _ _ _ _ => pg_name (i := 2) nd_is_name rfl (Or.inl rfl)) (fun _ _ _ _ _ => its_nil) (fun _ _ _ _ _ => i_cmp (rf_in (room65 hr)) (i_var 2) (i_var 1))) (ia_nil))) (i_and (i_cmp (rf_in (room65 hr)) (i_ix (i_var 0) (i_int)) (i_sl (i_var 1) (io_none) (io_some (i_int)))) (i_one (i_not (i_call F_is_variable_text hr (ia_cons (i_var 0) (ia_nil))))))))))
/-! ### is_variable_text -/
abbrev s_is_variable_text : Stmt := top 10
abbrev N_is_variable_text : List Str := ["text", "sign"]
theorem sc_is_variable_text : FnScope N_is_variable_text ["text"] (defScope s_is_variable_text) := ⟨rfl, rfl, rfl, by decide +kernel, rfl, by decide +kernel, by decide +kernel⟩
theorem nd_is_variable_text : N_is_variable_text.Nodup := sc_is_variable_text.nd
def W_is_variable_text   : WS := wRet (wAndV (w2 rGt (wL rLen (wCons (wVar 0) (wNil))) (wC (.int 1))) (wAndV (w2 rEq (w2 rIx (wVar 0) (wC (.int 0))) (wC (.str "v"))) (wL rAllB (wCons (wLc (wIter (wSl (wVar 0) (oSome (wC (.int 1))) (oNone))) 1 (wYes) (w2 (rIn false) (wVar 1) (wC (.str "0123456789")))) (wNil)))))
theorem walk_is_variable_text {C_s : Unit}   {k : Nat} (T : Mg mg)  {f : Addr} (cdv : Value) (A : Around) (outer : List Env) (s : Shared) (H : Hp) (E : XK) (hr : Room (k + 1) (A.deeper (envOfC "is_variable_text" (defScope s_is_variable_text) s.heap.objs.size f cdv)))  :
    PSs3 (CXF P w K mg base N_is_variable_text "is_variable_text" s_is_variable_text f cdv A outer s H E) G (defBody s_is_variable_text) (W_is_variable_text ) := by
  unfold W_is_variable_text
  exact is_one (is_ret (i_and (i_cmp rf_gt (i_callB rf_len rfl T.len b_len (ia_cons (i_var 0) (ia_nil))) (i_int)) (i_and (i_cmp (rf_eq hr.units) (i_ix (i_var 0) (i_int)) (i_str)) (i_one (i_callB (rf_all rfl) rfl T.all b_all (ia_cons (i_lc 1 rfl nd_is_variable_text (blkOk_by (N := N_is_variable_text) (sc := defScope s_is_variable_text) (by decide +kernel)) (ii_any (i_sl (i_var 0) (io_some (i_int)) (io_none))) (fun _ _ _ _ _ => pg_name (i := 1) nd_is_variable_text rfl (Or.inl rfl)) (fun _ _ _ _ _ => its_nil) (fun _ _ _ _ _ => i_cmp (rf_in (room65 hr)) (i_var 1) (i_str))) (ia_nil)))))))
/-! ### is_expression -/
abbrev s_is_expression : Stmt := top 11
abbrev N_is_expression : List Str := ["program", "value", "depth", "word"]
theorem sc_is_expression : FnScope N_is_expression ["program", "value", "depth"] (defScope s_is_expression) := ⟨rfl, rfl, rfl, by decide +kernel, rfl, by decide +kernel, by decide +kernel⟩
theorem nd_is_expression : N_is_expression.Nodup := sc_is_expression.nd
def W_is_expression  (p_is_between : Sp3) (p_top : Sp3) (p_size_of : Sp3) (p_is_expression : Sp3) : WS := wSeq (wIfS (wOr (wNot (wB (w1 (rIsi .tuple) (wVar 1)))) (wOr (wB (w2 rLt (wL rLen (wCons (wVar 1) (wNil))) (wC (.int 2)))) (wOr (wB (w2 rLt (wVar 2) (wC (.int 1)))) (wNot (wB (w1 (rIsi .str) (w2 rIx (wVar 1) (wC (.int 0))))))))) (wRet (wC (.bl false))) (wNext)) (wSeq (wAsg (w2 rIx (wVar 1) (wC (.int 0))) (gN 3)) (wSeq (wIfS (wB (w2 rEq (wVar 3) (wC (.str "int")))) (wRet (wAndV (w2 rEq (wL rLen (wCons (wVar 1) (wNil))) (wC (.int 2))) (wL p_is_between (wCons (w2 rIx (wVar 1) (wC (.int 1))) (wCons (wC (.int 0)) (wCons (wL p_top (wCons (w2 rIx (wVar 0) (wC (.int 0))) (wNil))) (wNil))))))) (wNext)) (wSeq (wIfS (wB (w2 rEq (wVar 3) (wC (.str "var")))) (wRet (wAndV (w2 rEq (wL rLen (wCons (wVar 1) (wNil))) (wC (.int 2))) (wL p_is_between (wCons (w2 rIx (wVar 1) (wC (.int 1))) (wCons (wC (.int 0)) (wCons (wC (.int 39)) (wNil))))))) (wNext)) (wSeq (wIfS (wB (w2 rEq (wVar 3) (wC (.str "cell")))) (wSeq (wIfS (wOr (wB (w2 rNe (wL rLen (wCons (wVar 1) (wNil))) (wC (.int 3)))) (wB (w1 (rIsN false) (wL p_size_of (wCons (wVar 0) (wCons (w2 rIx (wVar 1) (wC (.int 1))) (wNil))))))) (wRet (wC (.bl false))) (wNext)) (wRet (wL p_is_expression (wCons (wVar 0) (wCons (w2 rIx (wVar 1) (wC (.int 2))) (wCons (w2 rSub (wVar 2) (wC (.int 1))) (wNil))))))) (wNext)) (wSeq (wIfS (wB (w1 (rInK false k_SINGLES) (wVar 3))) (wRet (wAndV (w2 rEq (wL rLen (wCons (wVar 1) (wNil))) (wC (.int 2))) (wL p_is_expression (wCons (wVar 0) (wCons (w2 rIx (wVar 1) (wC (.int 1))) (wCons (w2 rSub (wVar 2) (wC (.int 1))) (wNil))))))) (wNext)) (wSeq (wIfS (wOr (wB (w1 (rInK true k_PAIRS) (wVar 3))) (wB (w2 rNe (wL rLen (wCons (wVar 1) (wNil))) (wC (.int 3))))) (wRet (wC (.bl false))) (wNext)) (wRet (wAndV (wL p_is_expression (wCons (wVar 0) (wCons (w2 rIx (wVar 1) (wC (.int 1))) (wCons (w2 rSub (wVar 2) (wC (.int 1))) (wNil))))) (wL p_is_expression (wCons (wVar 0) (wCons (w2 rIx (wVar 1) (wC (.int 2))) (wCons (w2 rSub (wVar 2) (wC (.int 1))) (wNil)))))))))))))
theorem walk_is_expression {C_s : Unit}  {p_is_between : Sp3} {p_top : Sp3} {p_size_of : Sp3} {p_is_expression : Sp3} {k : Nat} (T : Mg mg)  {f : Addr} (cdv : Value) (A : Around) (outer : List Env) (s : Shared) (H : Hp) (E : XK) (hr : Room (k + 1) (A.deeper (envOfC "is_expression" (defScope s_is_expression) s.heap.objs.size f cdv))) (TT : Mt K mg) (F_is_between : Fd P w K mg base G "is_between" (k + 1) p_is_between) (F_top : Fd P w K mg base G "top" (k + 1) p_top) (F_size_of : Fd P w K mg base G "size_of" (k + 1) p_size_of) (F_is_expression : Fd P w K mg base G "is_expression" (k + 1) p_is_expression) :
    PSs3 (CXF P w K mg base N_is_expression "is_expression" s_is_expression f cdv A outer s H E) G (defBody s_is_expression) (W_is_expression p_is_between p_top p_size_of p_is_expression) := by
  unfold W_is_expression
  exact is_cons (is_if (it_w (iw_or (it_not (it_val (i_isi .tuple rfl T.isinstance b_isinstance rfl T.tuple b_tuple (i_var 1)))) (iw_or (it_cmp rf_lt (i_callB rf_len rfl T.len b_len (ia_cons (i_var 1) (ia_nil))) (i_int)) (iw_or (it_cmp rf_lt (i_var 2) (i_int)) (iw_or1 (it_not (it_val (i_isi .str rfl T.isinstance b_isinstance rfl T.str b_str (i_ix (i_var 1) (i_int)))))))))) (is_one (is_ret (i_bl))) (is_nil)) (is_cons (is_asg (i_ix (i_var 1) (i_int)) (ig_name 3 nd_is_expression)) (is_cons (is_if (it_cmp (rf_eq hr.units) (i_var 3) (i_str)) (is_one (is_ret (i_and (i_cmp (rf_eq hr.units) (i_callB rf_len rfl T.len b_len (ia_cons (i_var 1) (ia_nil))) (i_int)) (i_one (i_call F_is_between hr (ia_cons (i_ix (i_var 1) (i_int)) (ia_cons (i_int) (ia_cons (i_call F_top hr (ia_cons (i_ix (i_var 0) (i_int)) (ia_nil))) (ia_nil))))))))) (is_nil)) (is_cons (is_if (it_cmp (rf_eq hr.units) (i_var 3) (i_str)) (is_one (is_ret (i_and (i_cmp (rf_eq hr.units) (i_callB rf_len rfl T.len b_len (ia_cons (i_var 1) (ia_nil))) (i_int)) (i_one (i_call F_is_between hr (ia_cons (i_ix (i_var 1) (i_int)) (ia_cons (i_int) (ia_cons (i_int) (ia_nil))))))))) (is_nil)) (is_cons (is_if (it_cmp (rf_eq hr.units) (i_var 3) (i_str)) (is_cons (is_if (it_w (iw_or (it_cmp (rf_ne hr.units) (i_callB rf_len rfl T.len b_len (ia_cons (i_var 1) (ia_nil))) (i_int)) (iw_or1 (it_isN (i_call F_size_of hr (ia_cons (i_var 0) (ia_cons (i_ix (i_var 1) (i_int)) (ia_nil)))))))) (is_one (is_ret (i_bl))) (is_nil)) (is_one (is_ret (i_call F_is_expression hr (ia_cons (i_var 0) (ia_cons (i_ix (i_var 1) (i_int)) (ia_cons (i_bin rf_sub (i_var 2) (i_int)) (ia_nil)))))))) (is_nil)) (is_cons (is_if (it_inK TT.t_SINGLES (i_var 3)) (is_one (is_ret (i_and (i_cmp (rf_eq hr.units) (i_callB rf_len rfl T.len b_len (ia_cons (i_var 1) (ia_nil))) (i_int)) (i_one (i_call F_is_expression hr (ia_cons (i_var 0) (ia_cons (i_ix (i_var 1) (i_int)) (ia_cons (i_bin rf_sub (i_var 2) (i_int)) (ia_nil))))))))) (is_nil)) (is_cons (is_if (it_w (iw_or (it_notinK TT.t_PAIRS (i_var 3)) (iw_or1 (it_cmp (rf_ne hr.units) (i_callB rf_len rfl T.len b_len (ia_cons (i_var 1) (ia_nil))) (i_int))))) (is_one (is_ret (i_bl))) (is_nil)) (is_one (is_ret (i_and (i_call F_is_expression hr (ia_cons (i_var 0) (ia_cons (i_ix (i_var 1) (i_int)) (ia_cons (i_bin rf_sub (i_var 2) (i_int)) (ia_nil))))) (i_one (i_call F_is_expression hr (ia_cons (i_var 0) (ia_cons (i_ix (i_var 1) (i_int)) (ia_cons (i_bin rf_sub (i_var 2) (i_int)) (ia_nil)))))))))))))))
/-! ### size_of -/
abbrev s_size_of : Stmt := top 12
abbrev N_size_of : List Str := ["program", "name", "row"]
theorem sc_size_of : FnScope N_size_of ["program", "name"] (defScope s_size_of) := ⟨rfl, rfl, rfl, by decide +kernel, rfl, by decide +kernel, by decide +kernel⟩
theorem nd_size_of : N_size_of.Nodup := sc_size_of.nd
def W_size_of   : WS := wSeq (wFor (wIter (w2 rIx (wVar 0) (wC (.int 1)))) (gN 2) (wIfS (wB (w2 rEq (w2 rIx (wVar 2) (wC (.int 0))) (wVar 1))) (wRet (w2 rIx (wVar 2) (wC (.int 1)))) (wNext))) (wRet (wC .non))
theorem walk_size_of {C_s : Unit}   {k : Nat} (T : Mg mg)  {f : Addr} (cdv : Value) (A : Around) (outer : List Env) (s : Shared) (H : Hp) (E : XK) (hr : Room (k + 1) (A.deeper (envOfC "size_of" (defScope s_size_of) s.heap.objs.size f cdv)))  :
    PSs3 (CXF P w K mg base N_size_of "size_of" s_size_of f cdv A outer s H E) G (defBody s_size_of) (W_size_of ) := by
  unfold W_size_of
  exact is_cons (is_for PassesOwn.never rfl (ii_any (i_ix (i_var 0) (i_int))) (ig_name 2 nd_size_of) (is_one (is_if (it_cmp (rf_eq hr.units) (i_ix (i_var 2) (i_int)) (i_var 1)) (is_one (is_ret (i_ix (i_var 2) (i_int)))) (is_nil)))) (is_one (is_ret (i_non)))
/-! ### targets -/
abbrev s_targets : Stmt := top 13
abbrev N_targets : List Str := ["end"]
theorem sc_targets : FnScope N_targets ["end"] (defScope s_targets) := ⟨rfl, rfl, rfl, by decide +kernel, rfl, by decide +kernel, by decide +kernel⟩
theorem nd_targets : N_targets.Nodup := sc_targets.nd
def W_targets   : WS := wSeq (wIfS (wB (w2 rEq (w2 rIx (wVar 0) (wC (.int 0))) (wC (.str "go")))) (wRet (wL rTup (wCons (w2 rIx (wVar 0) (wC (.int 1))) (wNil)))) (wNext)) (wSeq (wIfS (wB (w2 rEq (w2 rIx (wVar 0) (wC (.int 0))) (wC (.str "if")))) (wRet (wL rTup (wCons (w2 rIx (wVar 0) (wC (.int 2))) (wCons (w2 rIx (wVar 0) (wC (.int 3))) (wNil))))) (wNext)) (wRet (wL rTup (wNil))))
theorem walk_targets {C_s : Unit}   {k : Nat} (T : Mg mg)  {f : Addr} (cdv : Value) (A : Around) (outer : List Env) (s : Shared) (H : Hp) (E : XK) (hr : Room (k + 1) (A.deeper (envOfC "targets" (defScope s_targets) s.heap.objs.size f cdv)))  :
    PSs3 (CXF P w K mg base N_targets "targets" s_targets f cdv A outer s H E) G (defBody s_targets) (W_targets ) := by
  unfold W_targets
  exact is_cons (is_if (it_cmp (rf_eq hr.units) (i_ix (i_var 0) (i_int)) (i_str)) (is_one (is_ret (i_tup (ia_cons (i_ix (i_var 0) (i_int)) (ia_nil))))) (is_nil)) (is_cons (is_if (it_cmp (rf_eq hr.units) (i_ix (i_var 0) (i_int)) (i_str)) (is_one (is_ret (i_tup (ia_cons (i_ix (i_var 0) (i_int)) (ia_cons (i_ix (i_var 0) (i_int)) (ia_nil)))))) (is_nil)) (is_one (is_ret (i_tup (ia_nil)))))
/-! ### is_label -/
abbrev s_is_label : Stmt := top 14
abbrev N_is_label : List Str := ["value"]
theorem sc_is_label : FnScope N_is_label ["value"] (defScope s_is_label) := ⟨rfl, rfl, rfl, by decide +kernel, rfl, by decide +kernel, by decide +kernel⟩
theorem nd_is_label : N_is_label.Nodup := sc_is_label.nd
def W_is_label  (p_is_between : Sp3) : WS := wRet (wL p_is_between (wCons (wVar 0) (wCons (wC (.int 0)) (wCons (wC (.int 999)) (wNil)))))
theorem walk_is_label {C_s : Unit}  {p_is_between : Sp3} {k : Nat} (T : Mg mg)  {f : Addr} (cdv : Value) (A : Around) (outer : List Env) (s : Shared) (H : Hp) (E : XK) (hr : Room (k + 1) (A.deeper (envOfC "is_label" (defScope s_is_label) s.heap.objs.size f cdv))) (F_is_between : Fd P w K mg base G "is_between" (k + 1) p_is_between) :
    PSs3 (CXF P w K mg base N_is_label "is_label" s_is_label f cdv A outer s H E) G (defBody s_is_label) (W_is_label p_is_between) := by
  unfold W_is_label
  exact is_one (is_ret (i_call F_is_between hr (ia_cons (i_var 0) (ia_cons (i_int) (ia_cons (i_int) (ia_nil))))))
/-! ### is_call -/
abbrev s_is_call : Stmt := top 15
abbrev N_is_call : List Str := ["program", "value", "row", "part"]
theorem sc_is_call : FnScope N_is_call ["program", "value"] (defScope s_is_call) := ⟨rfl, rfl, rfl, by decide +kernel, rfl, by decide +kernel, by decide +kernel⟩
theorem nd_is_call : N_is_call.Nodup := sc_is_call.nd
def W_is_call  (p_is_between : Sp3) (p_is_expression : Sp3) : WS := wSeq (wIfS (wOr (wB (w2 rNe (wL rLen (wCons (wVar 1) (wNil))) (wC (.int 4)))) (wOr (wNot (wB (wL p_is_between (wCons (w2 rIx (wVar 1) (wC (.int 1))) (wCons (wC (.int 0)) (wCons (wC (.int 39)) (wNil))))))) (wNot (wB (w1 (rIsi .tuple) (w2 rIx (wVar 1) (wC (.int 3)))))))) (wRet (wC (.bl false))) (wNext)) (wSeq (wFor (wIter (w2 rIx (wVar 0) (wC (.int 2)))) (gN 2) (wIfS (wAnd (wB (w2 rEq (w2 rIx (wVar 2) (wC (.int 0))) (w2 rIx (wVar 1) (wC (.int 2))))) (wAnd (wB (w2 rEq (w2 rIx (wVar 2) (wC (.int 1))) (wL rLen (wCons (w2 rIx (wVar 1) (wC (.int 3))) (wNil))))) (wB (w2 rNe (w2 rIx (wVar 2) (wC (.int 0))) (wC (.str "main")))))) (wRet (wL rAllB (wCons (wLc (wIter (w2 rIx (wVar 1) (wC (.int 3)))) 3 (wYes) (wL p_is_expression (wCons (wVar 0) (wCons (wVar 3) (wNil))))) (wNil)))) (wNext))) (wRet (wC (.bl false))))
theorem walk_is_call {C_s : Unit}  {p_is_between : Sp3} {p_is_expression : Sp3} {k : Nat} (T : Mg mg)  {f : Addr} (cdv : Value) (A : Around) (outer : List Env) (s : Shared) (H : Hp) (E : XK) (hr : Room (k + 1) (A.deeper (envOfC "is_call" (defScope s_is_call) s.heap.objs.size f cdv))) (F_is_between : Fd P w K mg base G "is_between" (k + 1) p_is_between) (F_is_expression : Fd P w K mg base G "is_expression" (k + 1) p_is_expression) :
    PSs3 (CXF P w K mg base N_is_call "is_call" s_is_call f cdv A outer s H E) G (defBody s_is_call) (W_is_call p_is_between p_is_expression) := by
  unfold W_is_call
  exact is_cons (is_if (it_w (iw_or (it_cmp (rf_ne hr.units) (i_callB rf_len rfl T.len b_len (ia_cons (i_var 1) (ia_nil))) (i_int)) (iw_or (it_not (it_val (i_call F_is_between hr (ia_cons (i_ix (i_var 1) (i_int)) (ia_cons (i_int) (ia_cons (i_int) (ia_nil))))))) (iw_or1 (it_not (it_val (i_isi .tuple rfl T.isinstance b_isinstance rfl T.tuple b_tuple (i_ix (i_var 1) (i_int))))))))) (is_one (is_ret (i_bl))) (is_nil)) (is_cons (is_for PassesOwn.never rfl (ii_any (i_ix (i_var 0) (i_int))) (ig_name 2 nd_is_call) (is_one (is_if (it_w (iw_and (it_cmp (rf_eq hr.units) (i_ix (i_var 2) (i_int)) (i_ix (i_var 1) (i_int))) (iw_and (it_cmp (rf_eq hr.units) (i_ix (i_var 2) (i_int)) (i_callB rf_len rfl T.len b_len (ia_cons (i_ix (i_var 1) (i_int)) (ia_nil)))) (iw_and1 (it_cmp (rf_ne hr.units) (i_ix (i_var 2) (i_int)) (i_str)))))) (is_one (is_ret (i_callB (rf_all rfl) rfl T.all b_all (ia_cons (i_lc 3 rfl nd_is_call (blkOk_by (N := N_is_call) (sc := defScope s_is_call) (by decide +kernel)) (ii_any (i_ix (i_var 1) (i_int))) (fun _ _ _ _ _ => pg_name (i := 3) nd_is_call rfl (Or.inl rfl)) (fun _ _ _ _ _ => its_nil) (fun _ _ _ _ _ => i_call F_is_expression hr (ia_cons (i_var 0) (ia_cons (i_var 3) (ia_nil))))) (ia_nil))))) (is_nil)))) (is_one (is_ret (i_bl))))
/-! ### is_statement -/
abbrev s_is_statement : Stmt := top 16
abbrev N_is_statement : List Str := ["program", "value", "word"]
theorem sc_is_statement : FnScope N_is_statement ["program", "value"] (defScope s_is_statement) := ⟨rfl, rfl, rfl, by decide +kernel, rfl, by decide +kernel, by decide +kernel⟩
theorem nd_is_statement : N_is_statement.Nodup := sc_is_statement.nd
def W_is_statement  (p_is_expression : Sp3) (p_is_between : Sp3) (p_size_of : Sp3) (p_is_call : Sp3) : WS := wSeq (wIfS (wOr (wNot (wB (w1 (rIsi .tuple) (wVar 1)))) (wOr (wB (w2 rEq (wL rLen (wCons (wVar 1) (wNil))) (wC (.int 0)))) (wNot (wB (w1 (rIsi .str) (w2 rIx (wVar 1) (wC (.int 0)))))))) (wRet (wC (.bl false))) (wNext)) (wSeq (wAsg (w2 rIx (wVar 1) (wC (.int 0))) (gN 2)) (wSeq (wIfS (wB (w2 rEq (wVar 2) (wC (.str "set")))) (wRet (wAndV (w2 rEq (wL rLen (wCons (wVar 1) (wNil))) (wC (.int 3))) (wAndV (wL p_is_between (wCons (w2 rIx (wVar 1) (wC (.int 1))) (wCons (wC (.int 0)) (wCons (wC (.int 39)) (wNil))))) (wL p_is_expression (wCons (wVar 0) (wCons (w2 rIx (wVar 1) (wC (.int 2))) (wNil))))))) (wNext)) (wSeq (wIfS (wB (w2 rEq (wVar 2) (wC (.str "take")))) (wRet (wAndV (w2 rEq (wL rLen (wCons (wVar 1) (wNil))) (wC (.int 2))) (wL p_is_between (wCons (w2 rIx (wVar 1) (wC (.int 1))) (wCons (wC (.int 0)) (wCons (wC (.int 39)) (wNil))))))) (wNext)) (wSeq (wIfS (wB (w2 rEq (wVar 2) (wC (.str "put")))) (wRet (wAndV (w2 rEq (wL rLen (wCons (wVar 1) (wNil))) (wC (.int 2))) (wL p_is_expression (wCons (wVar 0) (wCons (w2 rIx (wVar 1) (wC (.int 1))) (wNil)))))) (wNext)) (wSeq (wIfS (wB (w2 rEq (wVar 2) (wC (.str "assert")))) (wRet (wAndV (w2 rEq (wL rLen (wCons (wVar 1) (wNil))) (wC (.int 3))) (wAndV (wL p_is_between (wCons (w2 rIx (wVar 1) (wC (.int 1))) (wCons (wC (.int 0)) (wCons (wC (.int 99)) (wNil))))) (wL p_is_expression (wCons (wVar 0) (wCons (w2 rIx (wVar 1) (wC (.int 2))) (wNil))))))) (wNext)) (wSeq (wIfS (wB (w2 rEq (wVar 2) (wC (.str "store")))) (wSeq (wIfS (wOr (wB (w2 rNe (wL rLen (wCons (wVar 1) (wNil))) (wC (.int 4)))) (wB (w1 (rIsN false) (wL p_size_of (wCons (wVar 0) (wCons (w2 rIx (wVar 1) (wC (.int 1))) (wNil))))))) (wRet (wC (.bl false))) (wNext)) (wRet (wAndV (wL p_is_expression (wCons (wVar 0) (wCons (w2 rIx (wVar 1) (wC (.int 2))) (wNil)))) (wL p_is_expression (wCons (wVar 0) (wCons (w2 rIx (wVar 1) (wC (.int 3))) (wNil))))))) (wNext)) (wRet (wAndV (w2 rEq (wVar 2) (wC (.str "call"))) (wL p_is_call (wCons (wVar 0) (wCons (wVar 1) (wNil))))))))))))
theorem walk_is_statement {C_s : Unit}  {p_is_expression : Sp3} {p_is_between : Sp3} {p_size_of : Sp3} {p_is_call : Sp3} {k : Nat} (T : Mg mg)  {f : Addr} (cdv : Value) (A : Around) (outer : List Env) (s : Shared) (H : Hp) (E : XK) (hr : Room (k + 1) (A.deeper (envOfC "is_statement" (defScope s_is_statement) s.heap.objs.size f cdv))) (F_is_expression : Fd P w K mg base G "is_expression" (k + 1) p_is_expression) (F_is_between : Fd P w K mg base G "is_between" (k + 1) p_is_between) (F_size_of : Fd P w K mg base G "size_of" (k + 1) p_size_of) (F_is_call : Fd P w K mg base G "is_call" (k + 1) p_is_call) :
    PSs3 (CXF P w K mg base N_is_statement "is_statement" s_is_statement f cdv A outer s H E) G (defBody s_is_statement) (W_is_statement p_is_expression p_is_between p_size_of p_is_call) := by
  unfold W_is_statement
  exact is_cons (is_if (it_w (iw_or (it_not (it_val (i_isi .tuple rfl T.isinstance b_isinstance rfl T.tuple b_tuple (i_var 1)))) (iw_or (it_cmp (rf_eq hr.units) (i_callB rf_len rfl T.len b_len (ia_cons (i_var 1) (ia_nil))) (i_int)) (iw_or1 (it_not (it_val (i_isi .str rfl T.isinstance b_isinstance rfl T.str b_str (i_ix (i_var 1) (i_int))))))))) (is_one (is_ret (i_bl))) (is_nil)) (is_cons (is_asg (i_ix (i_var 1) (i_int)) (ig_name 2 nd_is_statement)) (is_cons (is_if (it_cmp (rf_eq hr.units) (i_var 2) (i_str)) (is_one (is_ret (i_and (i_cmp (rf_eq hr.units) (i_callB rf_len rfl T.len b_len (ia_cons (i_var 1) (ia_nil))) (i_int)) (i_and (i_call F_is_between hr (ia_cons (i_ix (i_var 1) (i_int)) (ia_cons (i_int) (ia_cons (i_int) (ia_nil))))) (i_one (i_call F_is_expression hr (ia_cons (i_var 0) (ia_cons (i_ix (i_var 1) (i_int)) (ia_nil))))))))) (is_nil)) (is_cons (is_if (it_cmp (rf_eq hr.units) (i_var 2) (i_str)) (is_one (is_ret (i_and (i_cmp (rf_eq hr.units) (i_callB rf_len rfl T.len b_len (ia_cons (i_var 1) (ia_nil))) (i_int)) (i_one (i_call F_is_between hr (ia_cons (i_ix (i_var 1) (i_int)) (ia_cons (i_int) (ia_cons (i_int) (ia_nil))))))))) (is_nil)) (is_cons (is_if (it_cmp (rf_eq hr.units) (i_var 2) (i_str)) (is_one (is_ret (i_and (i_cmp (rf_eq hr.units) (i_callB rf_len rfl T.len b_len (ia_cons (i_var 1) (ia_nil))) (i_int)) (i_one (i_call F_is_expression hr (ia_cons (i_var 0) (ia_cons (i_ix (i_var 1) (i_int)) (ia_nil)))))))) (is_nil)) (is_cons (is_if (it_cmp (rf_eq hr.units) (i_var 2) (i_str)) (is_one (is_ret (i_and (i_cmp (rf_eq hr.units) (i_callB rf_len rfl T.len b_len (ia_cons (i_var 1) (ia_nil))) (i_int)) (i_and (i_call F_is_between hr (ia_cons (i_ix (i_var 1) (i_int)) (ia_cons (i_int) (ia_cons (i_int) (ia_nil))))) (i_one (i_call F_is_expression hr (ia_cons (i_var 0) (ia_cons (i_ix (i_var 1) (i_int)) (ia_nil))))))))) (is_nil)) (is_cons (is_if (it_cmp (rf_eq hr.units) (i_var 2) (i_str)) (is_cons (is_if (it_w (iw_or (it_cmp (rf_ne hr.units) (i_callB rf_len rfl T.len b_len (ia_cons (i_var 1) (ia_nil))) (i_int)) (iw_or1 (it_isN (i_call F_size_of hr (ia_cons (i_var 0) (ia_cons (i_ix (i_var 1) (i_int)) (ia_nil)))))))) (is_one (is_ret (i_bl))) (is_nil)) (is_one (is_ret (i_and (i_call F_is_expression hr (ia_cons (i_var 0) (ia_cons (i_ix (i_var 1) (i_int)) (ia_nil)))) (i_one (i_call F_is_expression hr (ia_cons (i_var 0) (ia_cons (i_ix (i_var 1) (i_int)) (ia_nil))))))))) (is_nil)) (is_one (is_ret (i_and (i_cmp (rf_eq hr.units) (i_var 2) (i_str)) (i_one (i_call F_is_call hr (ia_cons (i_var 0) (ia_cons (i_var 1) (ia_nil))))))))))))))
/-! ### is_end -/
abbrev s_is_end : Stmt := top 17
abbrev N_is_end : List Str := ["program", "value"]
theorem sc_is_end : FnScope N_is_end ["program", "value"] (defScope s_is_end) := ⟨rfl, rfl, rfl, by decide +kernel, rfl, by decide +kernel, by decide +kernel⟩
theorem nd_is_end : N_is_end.Nodup := sc_is_end.nd
def W_is_end  (p_is_label : Sp3) (p_is_expression : Sp3) : WS := wSeq (wIfS (wOr (wNot (wB (w1 (rIsi .tuple) (wVar 1)))) (wOr (wB (w2 rLt (wL rLen (wCons (wVar 1) (wNil))) (wC (.int 2)))) (wNot (wB (w1 (rIsi .str) (w2 rIx (wVar 1) (wC (.int 0)))))))) (wRet (wC (.bl false))) (wNext)) (wSeq (wIfS (wB (w2 rEq (w2 rIx (wVar 1) (wC (.int 0))) (wC (.str "go")))) (wRet (wAndV (w2 rEq (wL rLen (wCons (wVar 1) (wNil))) (wC (.int 2))) (wL p_is_label (wCons (w2 rIx (wVar 1) (wC (.int 1))) (wNil))))) (wNext)) (wSeq (wIfS (wB (w2 rEq (w2 rIx (wVar 1) (wC (.int 0))) (wC (.str "if")))) (wRet (wAndV (w2 rEq (wL rLen (wCons (wVar 1) (wNil))) (wC (.int 4))) (wAndV (wL p_is_expression (wCons (wVar 0) (wCons (w2 rIx (wVar 1) (wC (.int 1))) (wNil)))) (wAndV (wL p_is_label (wCons (w2 rIx (wVar 1) (wC (.int 2))) (wNil))) (wL p_is_label (wCons (w2 rIx (wVar 1) (wC (.int 3))) (wNil))))))) (wNext)) (wRet (wAndV (w2 rEq (w2 rIx (wVar 1) (wC (.int 0))) (wC (.str "return"))) (wAndV (w2 rEq (wL rLen (wCons (wVar 1) (wNil))) (wC (.int 2))) (wL p_is_expression (wCons (wVar 0) (wCons (w2 rIx (wVar 1) (wC (.int 1))) (wNil)))))))))
theorem walk_is_end {C_s : Unit}  {p_is_label : Sp3} {p_is_expression : Sp3} {k : Nat} (T : Mg mg)  {f : Addr} (cdv : Value) (A : Around) (outer : List Env) (s : Shared) (H : Hp) (E : XK) (hr : Room (k + 1) (A.deeper (envOfC "is_end" (defScope s_is_end) s.heap.objs.size f cdv))) (F_is_label : Fd P w K mg base G "is_label" (k + 1) p_is_label) (F_is_expression : Fd P w K mg base G "is_expression" (k + 1) p_is_expression) :
    PSs3 (CXF P w K mg base N_is_end "is_end" s_is_end f cdv A outer s H E) G (defBody s_is_end) (W_is_end p_is_label p_is_expression) := by
  unfold W_is_end
  exact is_cons (is_if (it_w (iw_or (it_not (it_val (i_isi .tuple rfl T.isinstance b_isinstance rfl T.tuple b_tuple (i_var 1)))) (iw_or (it_cmp rf_lt (i_callB rf_len rfl T.len b_len (ia_cons (i_var 1) (ia_nil))) (i_int)) (iw_or1 (it_not (it_val (i_isi .str rfl T.isinstance b_isinstance rfl T.str b_str (i_ix (i_var 1) (i_int))))))))) (is_one (is_ret (i_bl))) (is_nil)) (is_cons (is_if (it_cmp (rf_eq hr.units) (i_ix (i_var 1) (i_int)) (i_str)) (is_one (is_ret (i_and (i_cmp (rf_eq hr.units) (i_callB rf_len rfl T.len b_len (ia_cons (i_var 1) (ia_nil))) (i_int)) (i_one (i_call F_is_label hr (ia_cons (i_ix (i_var 1) (i_int)) (ia_nil))))))) (is_nil)) (is_cons (is_if (it_cmp (rf_eq hr.units) (i_ix (i_var 1) (i_int)) (i_str)) (is_one (is_ret (i_and (i_cmp (rf_eq hr.units) (i_callB rf_len rfl T.len b_len (ia_cons (i_var 1) (ia_nil))) (i_int)) (i_and (i_call F_is_expression hr (ia_cons (i_var 0) (ia_cons (i_ix (i_var 1) (i_int)) (ia_nil)))) (i_and (i_call F_is_label hr (ia_cons (i_ix (i_var 1) (i_int)) (ia_nil))) (i_one (i_call F_is_label hr (ia_cons (i_ix (i_var 1) (i_int)) (ia_nil))))))))) (is_nil)) (is_one (is_ret (i_and (i_cmp (rf_eq hr.units) (i_ix (i_var 1) (i_int)) (i_str)) (i_and (i_cmp (rf_eq hr.units) (i_callB rf_len rfl T.len b_len (ia_cons (i_var 1) (ia_nil))) (i_int)) (i_one (i_call F_is_expression hr (ia_cons (i_var 0) (ia_cons (i_ix (i_var 1) (i_int)) (ia_nil)))))))))))
/-! ### are_arrays -/
abbrev s_are_arrays : Stmt := top 18
abbrev N_are_arrays : List Str := ["value", "row", "k"]
theorem sc_are_arrays : FnScope N_are_arrays ["value"] (defScope s_are_arrays) := ⟨rfl, rfl, rfl, by decide +kernel, rfl, by decide +kernel, by decide +kernel⟩
theorem nd_are_arrays : N_are_arrays.Nodup := sc_are_arrays.nd
def W_are_arrays  (p_is_between : Sp3) (p_is_name : Sp3) : WS := wSeq (wIfS (wOr (wNot (wB (w1 (rIsi .tuple) (wVar 0)))) (wNot (wB (wL rAllB (wCons (wLc (wIter (wVar 0)) 1 (wYes) (wAndV (w1 (rIsi .tuple) (wVar 1)) (w2 rEq (wL rLen (wCons (wVar 1) (wNil))) (wC (.int 2))))) (wNil)))))) (wRet (wC (.bl false))) (wNext)) (wSeq (wIfS (wNot (wB (wL rAllB (wCons (wLc (wIter (wVar 0)) 1 (wYes) (wAndV (wL p_is_name (wCons (w2 rIx (wVar 1) (wC (.int 0))) (wNil))) (wL p_is_between (wCons (w2 rIx (wVar 1) (wC (.int 1))) (wCons (wC (.int 1)) (wCons (wC (.int 8)) (wNil))))))) (wNil))))) (wRet (wC (.bl false))) (wNext)) (wRet (wL rAllB (wCons (wLc (wRg2 (wCons (wC (.int 1)) (wCons (wL rLen (wCons (wVar 0) (wNil))) (wNil)))) 2 (wYes) (w2 rLt (w2 rIx (w2 rIx (wVar 0) (w2 rSub (wVar 2) (wC (.int 1)))) (wC (.int 0))) (w2 rIx (w2 rIx (wVar 0) (wVar 2)) (wC (.int 0))))) (wNil)))))
theorem walk_are_arrays {C_s : Unit}  {p_is_between : Sp3} {p_is_name : Sp3} {k : Nat} (T : Mg mg)  {f : Addr} (cdv : Value) (A : Around) (outer : List Env) (s : Shared) (H : Hp) (E : XK) (hr : Room (k + 1) (A.deeper (envOfC "are_arrays" (defScope s_are_arrays) s.heap.objs.size f cdv))) (F_is_between : Fd P w K mg base G "is_between" (k + 1) p_is_between) (F_is_name : Fd P w K mg base G "is_name" (k + 1) p_is_name) :
    PSs3 (CXF P w K mg base N_are_arrays "are_arrays" s_are_arrays f cdv A outer s H E) G (defBody s_are_arrays) (W_are_arrays p_is_between p_is_name) := by
  unfold W_are_arrays
  exact is_cons (is_if (it_w (iw_or (it_not (it_val (i_isi .tuple rfl T.isinstance b_isinstance rfl T.tuple b_tuple (i_var 0)))) (iw_or1 (it_not (it_val (i_callB (rf_all rfl) rfl T.all b_all (ia_cons (i_lc 1 rfl nd_are_arrays (blkOk_by (N := N_are_arrays) (sc := defScope s_are_arrays) (by decide +kernel)) (ii_any (i_var 0)) (fun _ _ _ _ _ => pg_name (i := 1) nd_are_arrays rfl (Or.inl rfl)) (fun _ _ _ _ _ => its_nil) (fun _ _ _ _ _ => i_and (i_isi .tuple rfl T.isinstance b_isinstance rfl T.tuple b_tuple (i_var 1)) (i_one (i_cmp (rf_eq hr.units) (i_callB rf_len rfl T.len b_len (ia_cons (i_var 1) (ia_nil))) (i_int))))) (ia_nil)))))))) (is_one (is_ret (i_bl))) (is_nil)) (is_cons (is_if (it_not (it_val (i_callB (rf_all rfl) rfl T.all b_all (ia_cons (i_lc 1 rfl nd_are_arrays (blkOk_by (N := N_are_arrays) (sc := defScope s_are_arrays) (by decide +kernel)) (ii_any (i_var 0)) (fun _ _ _ _ _ => pg_name (i := 1) nd_are_arrays rfl (Or.inl rfl)) (fun _ _ _ _ _ => its_nil) (fun _ _ _ _ _ => i_and (i_call F_is_name hr (ia_cons (i_ix (i_var 1) (i_int)) (ia_nil))) (i_one (i_call F_is_between hr (ia_cons (i_ix (i_var 1) (i_int)) (ia_cons (i_int) (ia_cons (i_int) (ia_nil)))))))) (ia_nil))))) (is_one (is_ret (i_bl))) (is_nil)) (is_one (is_ret (i_callB (rf_all rfl) rfl T.all b_all (ia_cons (i_lc 2 rfl nd_are_arrays (blkOk_by (N := N_are_arrays) (sc := defScope s_are_arrays) (by decide +kernel)) (ii_rg2 rfl T.range (ia_cons (i_int) (ia_cons (i_callB rf_len rfl T.len b_len (ia_cons (i_var 0) (ia_nil))) (ia_nil)))) (fun _ _ _ _ _ => pg_name (i := 2) nd_are_arrays rfl (Or.inl rfl)) (fun _ _ _ _ _ => its_nil) (fun _ _ _ _ _ => i_cmp rf_lt (i_ix (i_ix (i_var 0) (i_bin rf_sub (i_var 2) (i_int))) (i_int)) (i_ix (i_ix (i_var 0) (i_var 2)) (i_int)))) (ia_nil))))))
/-! ### is_procedure_form -/
abbrev s_is_procedure_form : Stmt := top 19
abbrev N_is_procedure_form : List Str := ["value", "block"]
theorem sc_is_procedure_form : FnScope N_is_procedure_form ["value"] (defScope s_is_procedure_form) := ⟨rfl, rfl, rfl, by decide +kernel, rfl, by decide +kernel, by decide +kernel⟩
theorem nd_is_procedure_form : N_is_procedure_form.Nodup := sc_is_procedure_form.nd
def W_is_procedure_form   : WS := wSeq (wIfS (wOr (wNot (wB (w1 (rIsi .tuple) (wVar 0)))) (wOr (wB (w2 rNe (wL rLen (wCons (wVar 0) (wNil))) (wC (.int 3)))) (wOr (wNot (wB (w1 (rIsi .tuple) (w2 rIx (wVar 0) (wC (.int 2)))))) (wB (w2 rEq (wL rLen (wCons (w2 rIx (wVar 0) (wC (.int 2))) (wNil))) (wC (.int 0))))))) (wRet (wC (.bl false))) (wNext)) (wRet (wL rAllB (wCons (wLc (wIter (w2 rIx (wVar 0) (wC (.int 2)))) 1 (wYes) (wAndV (w1 (rIsi .tuple) (wVar 1)) (wAndV (w2 rEq (wL rLen (wCons (wVar 1) (wNil))) (wC (.int 3))) (w1 (rIsi .tuple) (w2 rIx (wVar 1) (wC (.int 1))))))) (wNil))))
theorem walk_is_procedure_form {C_s : Unit}   {k : Nat} (T : Mg mg)  {f : Addr} (cdv : Value) (A : Around) (outer : List Env) (s : Shared) (H : Hp) (E : XK) (hr : Room (k + 1) (A.deeper (envOfC "is_procedure_form" (defScope s_is_procedure_form) s.heap.objs.size f cdv)))  :
    PSs3 (CXF P w K mg base N_is_procedure_form "is_procedure_form" s_is_procedure_form f cdv A outer s H E) G (defBody s_is_procedure_form) (W_is_procedure_form ) := by
  unfold W_is_procedure_form
  exact is_cons (is_if (it_w (iw_or (it_not (it_val (i_isi .tuple rfl T.isinstance b_isinstance rfl T.tuple b_tuple (i_var 0)))) (iw_or (it_cmp (rf_ne hr.units) (i_callB rf_len rfl T.len b_len (ia_cons (i_var 0) (ia_nil))) (i_int)) (iw_or (it_not (it_val (i_isi .tuple rfl T.isinstance b_isinstance rfl T.tuple b_tuple (i_ix (i_var 0) (i_int))))) (iw_or1 (it_cmp (rf_eq hr.units) (i_callB rf_len rfl T.len b_len (ia_cons (i_ix (i_var 0) (i_int)) (ia_nil))) (i_int))))))) (is_one (is_ret (i_bl))) (is_nil)) (is_one (is_ret (i_callB (rf_all rfl) rfl T.all b_all (ia_cons (i_lc 1 rfl nd_is_procedure_form (blkOk_by (N := N_is_procedure_form) (sc := defScope s_is_procedure_form) (by decide +kernel)) (ii_any (i_ix (i_var 0) (i_int))) (fun _ _ _ _ _ => pg_name (i := 1) nd_is_procedure_form rfl (Or.inl rfl)) (fun _ _ _ _ _ => its_nil) (fun _ _ _ _ _ => i_and (i_isi .tuple rfl T.isinstance b_isinstance rfl T.tuple b_tuple (i_var 1)) (i_and (i_cmp (rf_eq hr.units) (i_callB rf_len rfl T.len b_len (ia_cons (i_var 1) (ia_nil))) (i_int)) (i_one (i_isi .tuple rfl T.isinstance b_isinstance rfl T.tuple b_tuple (i_ix (i_var 1) (i_int))))))) (ia_nil)))))
/-! ### are_names -/
abbrev s_are_names : Stmt := top 20
abbrev N_are_names : List Str := ["procedures", "names", "row", "name"]
theorem sc_are_names : FnScope N_are_names ["procedures"] (defScope s_are_names) := ⟨rfl, rfl, rfl, by decide +kernel, rfl, by decide +kernel, by decide +kernel⟩
theorem nd_are_names : N_are_names.Nodup := sc_are_names.nd
def W_are_names  (p_is_name : Sp3) (p_is_number : Sp3) : WS := wSeq (wAsg (wLc (wIter (wVar 0)) 2 (wYes) (w2 rIx (wVar 2) (wC (.int 0)))) (gN 1)) (wSeq (wIfS (wOr (wNot (wB (wL rAllB (wCons (wLc (wIter (wVar 1)) 3 (wYes) (wL p_is_name (wCons (wVar 3) (wNil)))) (wNil))))) (wB (w2 rNe (wVar 1) (wL rSortedD (wCons (wDc1 (wIter (wVar 1)) 3 (wYes) (wVar 3) (wC (.bl true))) (wNil)))))) (wRet (wC (.bl false))) (wNext)) (wRet (wL rAnyB (wCons (wLc (wIter (wVar 0)) 2 (wYes) (wAndV (w2 rEq (w2 rIx (wVar 2) (wC (.int 0))) (wC (.str "main"))) (wAndV (w2 rEq (w2 rIx (wVar 2) (wC (.int 1))) (wC (.int 0))) (wL p_is_number (wCons (w2 rIx (wVar 2) (wC (.int 1))) (wNil)))))) (wNil)))))
theorem walk_are_names {C_s : Unit}  {p_is_name : Sp3} {p_is_number : Sp3} {k : Nat} (T : Mg mg)  {f : Addr} (cdv : Value) (A : Around) (outer : List Env) (s : Shared) (H : Hp) (E : XK) (hr : Room (k + 1) (A.deeper (envOfC "are_names" (defScope s_are_names) s.heap.objs.size f cdv))) (F_is_name : Fd P w K mg base G "is_name" (k + 1) p_is_name) (F_is_number : Fd P w K mg base G "is_number" (k + 1) p_is_number) :
    PSs3 (CXF P w K mg base N_are_names "are_names" s_are_names f cdv A outer s H E) G (defBody s_are_names) (W_are_names p_is_name p_is_number) := by
  unfold W_are_names
  exact is_cons (is_setLc 1 2 rfl nd_are_names (sw_true rfl rfl rfl (by decide +kernel)) (blkOk_by (N := N_are_names) (sc := defScope s_are_names) (by decide +kernel)) (ii_any (i_var 0)) (fun _ _ _ _ _ => pg_name (i := 2) nd_are_names rfl (Or.inl rfl)) (fun _ _ _ _ _ => its_nil) (fun _ _ _ _ _ => i_ix (i_var 2) (i_int))) (is_cons (is_if (it_w (iw_or (it_not (it_val (i_callB (rf_all rfl) rfl T.all b_all (ia_cons (i_lc 3 rfl nd_are_names (blkOk_by (N := N_are_names) (sc := defScope s_are_names) (by decide +kernel)) (ii_any (i_var 1)) (fun _ _ _ _ _ => pg_name (i := 3) nd_are_names rfl (Or.inl rfl)) (fun _ _ _ _ _ => its_nil) (fun _ _ _ _ _ => i_call F_is_name hr (ia_cons (i_var 3) (ia_nil)))) (ia_nil))))) (iw_or1 (it_cmp (rf_ne hr.units) (i_var 1) (i_callB (rf_sortedD rfl) rfl T.sorted b_sorted (ia_cons (i_dc1 3 rfl nd_are_names (blkOk_by (N := N_are_names) (sc := defScope s_are_names) (by decide +kernel)) (ii_any (i_var 1)) (fun _ _ _ _ _ => pg_name (i := 3) nd_are_names rfl (Or.inl rfl)) (fun _ _ _ _ _ => its_nil) (fun _ _ _ _ _ => i_var 3) (fun _ _ _ _ _ => i_bl)) (ia_nil))))))) (is_one (is_ret (i_bl))) (is_nil)) (is_one (is_ret (i_callB (rf_any rfl) rfl T.any b_any (ia_cons (i_lc 2 rfl nd_are_names (blkOk_by (N := N_are_names) (sc := defScope s_are_names) (by decide +kernel)) (ii_any (i_var 0)) (fun _ _ _ _ _ => pg_name (i := 2) nd_are_names rfl (Or.inl rfl)) (fun _ _ _ _ _ => its_nil) (fun _ _ _ _ _ => i_and (i_cmp (rf_eq hr.units) (i_ix (i_var 2) (i_int)) (i_str)) (i_and (i_cmp (rf_eq hr.units) (i_ix (i_var 2) (i_int)) (i_int)) (i_one (i_call F_is_number hr (ia_cons (i_ix (i_var 2) (i_int)) (ia_nil))))))) (ia_nil))))))
/-! ### block_codes -/
abbrev s_block_codes : Stmt := top 21
abbrev N_block_codes : List Str := ["program", "procedure", "block", "codes", "labels", "row", "other", "label"]
theorem sc_block_codes : FnScope N_block_codes ["program", "procedure", "block"] (defScope s_block_codes) := ⟨rfl, rfl, rfl, by decide +kernel, rfl, by decide +kernel, by decide +kernel⟩
theorem nd_block_codes : N_block_codes.Nodup := sc_block_codes.nd
def W_block_codes  (p_is_label : Sp3) (p_is_statement : Sp3) (p_is_end : Sp3) (p_targets : Sp3) : WS := wSeq (wAsg (wL rLst (wNil)) (gN 3)) (wSeq (wIfS (wNot (wB (wL p_is_label (wCons (w2 rIx (wVar 2) (wC (.int 0))) (wNil))))) (wDrop (wAppend (wVar 3) (wCons (wC (.str "label")) (wNil)))) (wNext)) (wSeq (wIfS (wNot (wB (wL rAllB (wCons (wLc (wIter (w2 rIx (wVar 2) (wC (.int 1)))) 5 (wYes) (wL p_is_statement (wCons (wVar 0) (wCons (wVar 5) (wNil))))) (wNil))))) (wDrop (wAppend (wVar 3) (wCons (wC (.str "statement")) (wNil)))) (wNext)) (wSeq (wIfS (wNot (wB (wL p_is_end (wCons (wVar 0) (wCons (w2 rIx (wVar 2) (wC (.int 2))) (wNil)))))) (wSeq (wDrop (wAppend (wVar 3) (wCons (wC (.str "end")) (wNil)))) (wRet (wVar 3))) (wNext)) (wSeq (wAsg (wLc (wIter (w2 rIx (wVar 1) (wC (.int 2)))) 6 (wYes) (w2 rIx (wVar 6) (wC (.int 0)))) (gN 4)) (wSeq (wIfS (wNot (wB (wL rAllB (wCons (wLc (wIter (wL p_targets (wCons (w2 rIx (wVar 2) (wC (.int 2))) (wNil)))) 7 (wYes) (w2 (rIn false) (wVar 7) (wVar 4))) (wNil))))) (wDrop (wAppend (wVar 3) (wCons (wC (.str "target")) (wNil)))) (wNext)) (wSeq (wIfS (wB (w2 (rIn false) (w2 rIx (wVar 4) (wC (.int 0))) (wL p_targets (wCons (w2 rIx (wVar 2) (wC (.int 2))) (wNil))))) (wDrop (wAppend (wVar 3) (wCons (wC (.str "entry")) (wNil)))) (wNext)) (wRet (wVar 3))))))))
theorem walk_block_codes {C_s : Unit}  {p_is_label : Sp3} {p_is_statement : Sp3} {p_is_end : Sp3} {p_targets : Sp3} {k : Nat} (T : Mg mg)  {f : Addr} (cdv : Value) (A : Around) (outer : List Env) (s : Shared) (H : Hp) (E : XK) (hr : Room (k + 1) (A.deeper (envOfC "block_codes" (defScope s_block_codes) s.heap.objs.size f cdv))) (F_is_label : Fd P w K mg base G "is_label" (k + 1) p_is_label) (F_is_statement : Fd P w K mg base G "is_statement" (k + 1) p_is_statement) (F_is_end : Fd P w K mg base G "is_end" (k + 1) p_is_end) (F_targets : Fd P w K mg base G "targets" (k + 1) p_targets) :
    PSs3 (CXF P w K mg base N_block_codes "block_codes" s_block_codes f cdv A outer s H E) G (defBody s_block_codes) (W_block_codes p_is_label p_is_statement p_is_end p_targets) := by
  unfold W_block_codes
  exact is_cons (is_asg (i_lst (ia_nil)) (ig_name 3 nd_block_codes)) (is_cons (is_if (it_not (it_val (i_call F_is_label hr (ia_cons (i_ix (i_var 2) (i_int)) (ia_nil))))) (is_one (is_expr (i_append (i_var 3) (ia_cons (i_str) (ia_nil))))) (is_nil)) (is_cons (is_if (it_not (it_val (i_callB (rf_all rfl) rfl T.all b_all (ia_cons (i_lc 5 rfl nd_block_codes (blkOk_by (N := N_block_codes) (sc := defScope s_block_codes) (by decide +kernel)) (ii_any (i_ix (i_var 2) (i_int))) (fun _ _ _ _ _ => pg_name (i := 5) nd_block_codes rfl (Or.inl rfl)) (fun _ _ _ _ _ => its_nil) (fun _ _ _ _ _ => i_call F_is_statement hr (ia_cons (i_var 0) (ia_cons (i_var 5) (ia_nil))))) (ia_nil))))) (is_one (is_expr (i_append (i_var 3) (ia_cons (i_str) (ia_nil))))) (is_nil)) (is_cons (is_if (it_not (it_val (i_call F_is_end hr (ia_cons (i_var 0) (ia_cons (i_ix (i_var 2) (i_int)) (ia_nil)))))) (is_cons (is_expr (i_append (i_var 3) (ia_cons (i_str) (ia_nil)))) (is_one (is_ret (i_var 3)))) (is_nil)) (is_cons (is_asg (i_lc 6 rfl nd_block_codes (blkOk_by (N := N_block_codes) (sc := defScope s_block_codes) (by decide +kernel)) (ii_any (i_ix (i_var 1) (i_int))) (fun _ _ _ _ _ => pg_name (i := 6) nd_block_codes rfl (Or.inl rfl)) (fun _ _ _ _ _ => its_nil) (fun _ _ _ _ _ => i_ix (i_var 6) (i_int))) (ig_name 4 nd_block_codes)) (is_cons (is_if (it_not (it_val (i_callB (rf_all rfl) rfl T.all b_all (ia_cons (i_lc 7 rfl nd_block_codes (blkOk_by (N := N_block_codes) (sc := defScope s_block_codes) (by decide +kernel)) (ii_any (i_call F_targets hr (ia_cons (i_ix (i_var 2) (i_int)) (ia_nil)))) (fun _ _ _ _ _ => pg_name (i := 7) nd_block_codes rfl (Or.inl rfl)) (fun _ _ _ _ _ => its_nil) (fun _ _ _ _ _ => i_cmp (rf_in (room65 hr)) (i_var 7) (i_var 4))) (ia_nil))))) (is_one (is_expr (i_append (i_var 3) (ia_cons (i_str) (ia_nil))))) (is_nil)) (is_cons (is_if (it_cmp (rf_in (room65 hr)) (i_ix (i_var 4) (i_int)) (i_call F_targets hr (ia_cons (i_ix (i_var 2) (i_int)) (ia_nil)))) (is_one (is_expr (i_append (i_var 3) (ia_cons (i_str) (ia_nil))))) (is_nil)) (is_one (is_ret (i_var 3)))))))))
/-! ### program_faults -/
abbrev s_program_faults : Stmt := top 22
abbrev N_program_faults : List Str := ["value", "found", "p", "procedure", "labels", "b", "code", "row", "block"]
theorem sc_program_faults : FnScope N_program_faults ["value"] (defScope s_program_faults) := ⟨rfl, rfl, rfl, by decide +kernel, rfl, by decide +kernel, by decide +kernel⟩
theorem nd_program_faults : N_program_faults.Nodup := sc_program_faults.nd
def W_program_faults (P : Program) (w : World)  (p_are_arrays : Sp3) (p_is_between : Sp3) (p_is_procedure_form : Sp3) (p_are_names : Sp3) (p_block_codes : Sp3) : WS := wSeq (wIfS (wOr (wNot (wB (w1 (rIsi .tuple) (wVar 0)))) (wOr (wB (w2 rNe (wL rLen (wCons (wVar 0) (wNil))) (wC (.int 3)))) (wNot (wB (w1 (rIsi .tuple) (w2 rIx (wVar 0) (wC (.int 2)))))))) (wRet (wL rLst (wCons (wL rTup (wCons (wL rTup (wNil)) (wCons (wC (.str "form")) (wNil)))) (wNil)))) (wNext)) (wSeq (wIfS (wOr (wNot (wB (wL p_is_between (wCons (w2 rIx (wVar 0) (wC (.int 0))) (wCons (wC (.int 1)) (wCons (wC (.int 16)) (wNil))))))) (wNot (wB (wL p_are_arrays (wCons (w2 rIx (wVar 0) (wC (.int 1))) (wNil)))))) (wRet (wL rLst (wCons (wL rTup (wCons (wL rTup (wNil)) (wCons (wC (.str "form")) (wNil)))) (wNil)))) (wNext)) (wSeq (wIfS (wNot (wB (wL rAllB (wCons (wLc (wIter (w2 rIx (wVar 0) (wC (.int 2)))) 7 (wYes) (wL p_is_procedure_form (wCons (wVar 7) (wNil)))) (wNil))))) (wRet (wL rLst (wCons (wL rTup (wCons (wL rTup (wNil)) (wCons (wC (.str "form")) (wNil)))) (wNil)))) (wNext)) (wSeq (wIfS (wNot (wB (wL rAllB (wCons (wLc (wIter (w2 rIx (wVar 0) (wC (.int 2)))) 7 (wYes) (wAndV (w1 (rIsi .str) (w2 rIx (wVar 7) (wC (.int 0)))) (wL p_is_between (wCons (w2 rIx (wVar 7) (wC (.int 1))) (wCons (wC (.int 0)) (wCons (wC (.int 6)) (wNil))))))) (wNil))))) (wRet (wL rLst (wCons (wL rTup (wCons (wL rTup (wNil)) (wCons (wC (.str "form")) (wNil)))) (wNil)))) (wNext)) (wSeq (wAsg (wNNew P w) (gN 1)) (wSeq (wIfS (wNot (wB (wL p_are_names (wCons (w2 rIx (wVar 0) (wC (.int 2))) (wNil))))) (wNPut P w (wC (.bl true)) (wVar 1) (wL rTup (wCons (wL rTup (wNil)) (wCons (wC (.str "name")) (wNil))))) (wNext)) (wSeq (wFor (wRg1 (wCons (wL rLen (wCons (w2 rIx (wVar 0) (wC (.int 2))) (wNil))) (wNil))) (gN 2) (wSeq (wAsg (w2 rIx (w2 rIx (wVar 0) (wC (.int 2))) (wVar 2)) (gN 3)) (wSeq (wAsg (wLc (wIter (w2 rIx (wVar 3) (wC (.int 2)))) 8 (wYes) (w2 rIx (wVar 8) (wC (.int 0)))) (gN 4)) (wFor (wRg1 (wCons (wL rLen (wCons (wVar 4) (wNil))) (wNil))) (gN 5) (wSeq (wIfS (wB (w2 (rIn false) (w2 rIx (wVar 4) (wVar 5)) (wSl (wVar 4) (oNone) (oSome (wVar 5))))) (wNPut P w (wC (.bl true)) (wVar 1) (wL rTup (wCons (wL rTup (wCons (wVar 2) (wCons (wVar 5) (wNil)))) (wCons (wC (.str "twice")) (wNil))))) (wNext)) (wFor (wIter (wL p_block_codes (wCons (wVar 0) (wCons (wVar 3) (wCons (w2 rIx (w2 rIx (wVar 3) (wC (.int 2))) (wVar 5)) (wNil)))))) (gN 6) (wNPut P w (wC (.bl true)) (wVar 1) (wL rTup (wCons (wL rTup (wCons (wVar 2) (wCons (wVar 5) (wNil)))) (wCons (wVar 6) (wNil))))))))))) (wRet (wL rSorted (wCons (wL (rListN P w) (wCons (wVar 1) (wNil))) (wNil))))))))))
theorem walk_program_faults {C_s : Unit}  {p_are_arrays : Sp3} {p_is_between : Sp3} {p_is_procedure_form : Sp3} {p_are_names : Sp3} {p_block_codes : Sp3} {k : Nat} (T : Mg mg)  {f : Addr} (cdv : Value) (A : Around) (outer : List Env) (s : Shared) (H : Hp) (E : XK) (hr : Room (k + 1) (A.deeper (envOfC "program_faults" (defScope s_program_faults) s.heap.objs.size f cdv))) (F_are_arrays : Fd P w K mg base G "are_arrays" (k + 1) p_are_arrays) (F_is_between : Fd P w K mg base G "is_between" (k + 1) p_is_between) (F_is_procedure_form : Fd P w K mg base G "is_procedure_form" (k + 1) p_is_procedure_form) (F_are_names : Fd P w K mg base G "are_names" (k + 1) p_are_names) (F_block_codes : Fd P w K mg base G "block_codes" (k + 1) p_block_codes) :
    PSs3 (CXF P w K mg base N_program_faults "program_faults" s_program_faults f cdv A outer s H E) G (defBody s_program_faults) (W_program_faults P w p_are_arrays p_is_between p_is_procedure_form p_are_names p_block_codes) := by
  unfold W_program_faults
  exact is_cons (is_if (it_w (iw_or (it_not (it_val (i_isi .tuple rfl T.isinstance b_isinstance rfl T.tuple b_tuple (i_var 0)))) (iw_or (it_cmp (rf_ne hr.units) (i_callB rf_len rfl T.len b_len (ia_cons (i_var 0) (ia_nil))) (i_int)) (iw_or1 (it_not (it_val (i_isi .tuple rfl T.isinstance b_isinstance rfl T.tuple b_tuple (i_ix (i_var 0) (i_int))))))))) (is_one (is_ret (i_lst (ia_cons (i_tup (ia_cons (i_tup (ia_nil)) (ia_cons (i_str) (ia_nil)))) (ia_nil))))) (is_nil)) (is_cons (is_if (it_w (iw_or (it_not (it_val (i_call F_is_between hr (ia_cons (i_ix (i_var 0) (i_int)) (ia_cons (i_int) (ia_cons (i_int) (ia_nil))))))) (iw_or1 (it_not (it_val (i_call F_are_arrays hr (ia_cons (i_ix (i_var 0) (i_int)) (ia_nil)))))))) (is_one (is_ret (i_lst (ia_cons (i_tup (ia_cons (i_tup (ia_nil)) (ia_cons (i_str) (ia_nil)))) (ia_nil))))) (is_nil)) (is_cons (is_if (it_not (it_val (i_callB (rf_all rfl) rfl T.all b_all (ia_cons (i_lc 7 rfl nd_program_faults (blkOk_by (N := N_program_faults) (sc := defScope s_program_faults) (by decide +kernel)) (ii_any (i_ix (i_var 0) (i_int))) (fun _ _ _ _ _ => pg_name (i := 7) nd_program_faults rfl (Or.inl rfl)) (fun _ _ _ _ _ => its_nil) (fun _ _ _ _ _ => i_call F_is_procedure_form hr (ia_cons (i_var 7) (ia_nil)))) (ia_nil))))) (is_one (is_ret (i_lst (ia_cons (i_tup (ia_cons (i_tup (ia_nil)) (ia_cons (i_str) (ia_nil)))) (ia_nil))))) (is_nil)) (is_cons (is_if (it_not (it_val (i_callB (rf_all rfl) rfl T.all b_all (ia_cons (i_lc 7 rfl nd_program_faults (blkOk_by (N := N_program_faults) (sc := defScope s_program_faults) (by decide +kernel)) (ii_any (i_ix (i_var 0) (i_int))) (fun _ _ _ _ _ => pg_name (i := 7) nd_program_faults rfl (Or.inl rfl)) (fun _ _ _ _ _ => its_nil) (fun _ _ _ _ _ => i_and (i_isi .str rfl T.isinstance b_isinstance rfl T.str b_str (i_ix (i_var 7) (i_int))) (i_one (i_call F_is_between hr (ia_cons (i_ix (i_var 7) (i_int)) (ia_cons (i_int) (ia_cons (i_int) (ia_nil)))))))) (ia_nil))))) (is_one (is_ret (i_lst (ia_cons (i_tup (ia_cons (i_tup (ia_nil)) (ia_cons (i_str) (ia_nil)))) (ia_nil))))) (is_nil)) (is_cons (is_asg (i_nnew) (ig_name 1 nd_program_faults)) (is_cons (is_if (it_not (it_val (i_call F_are_names hr (ia_cons (i_ix (i_var 0) (i_int)) (ia_nil))))) (is_one (is_nput (room70 hr) (i_bl) (i_var 1) (i_tup (ia_cons (i_tup (ia_nil)) (ia_cons (i_str) (ia_nil)))))) (is_nil)) (is_cons (is_for PassesOwn.never rfl (ii_rg1 rfl T.range (ia_cons (i_callB rf_len rfl T.len b_len (ia_cons (i_ix (i_var 0) (i_int)) (ia_nil))) (ia_nil))) (ig_name 2 nd_program_faults) (is_cons (is_asg (i_ix (i_ix (i_var 0) (i_int)) (i_var 2)) (ig_name 3 nd_program_faults)) (is_cons (is_setLc 4 8 rfl nd_program_faults (sw_true rfl rfl rfl (by decide +kernel)) (blkOk_by (N := N_program_faults) (sc := defScope s_program_faults) (by decide +kernel)) (ii_any (i_ix (i_var 3) (i_int))) (fun _ _ _ _ _ => pg_name (i := 8) nd_program_faults rfl (Or.inl rfl)) (fun _ _ _ _ _ => its_nil) (fun _ _ _ _ _ => i_ix (i_var 8) (i_int))) (is_one (is_for PassesOwn.never rfl (ii_rg1 rfl T.range (ia_cons (i_callB rf_len rfl T.len b_len (ia_cons (i_var 4) (ia_nil))) (ia_nil))) (ig_name 5 nd_program_faults) (is_cons (is_if (it_cmp (rf_in (room65 hr)) (i_ix (i_var 4) (i_var 5)) (i_sl (i_var 4) (io_none) (io_some (i_var 5)))) (is_one (is_nput (room70 hr) (i_bl) (i_var 1) (i_tup (ia_cons (i_tup (ia_cons (i_var 2) (ia_cons (i_var 5) (ia_nil)))) (ia_cons (i_str) (ia_nil)))))) (is_nil)) (is_one (is_for PassesOwn.never rfl (ii_any (i_call F_block_codes hr (ia_cons (i_var 0) (ia_cons (i_var 3) (ia_cons (i_ix (i_ix (i_var 3) (i_int)) (i_var 5)) (ia_nil)))))) (ig_name 6 nd_program_faults) (is_one (is_nput (room70 hr) (i_bl) (i_var 1) (i_tup (ia_cons (i_tup (ia_cons (i_var 2) (ia_cons (i_var 5) (ia_nil)))) (ia_cons (i_var 6) (ia_nil)))))))))))))) (is_one (is_ret (i_callB (rf_sorted (room70 hr)) rfl T.sorted b_sorted (ia_cons (i_callT (rf_listN rfl) rfl T.list b_list (ia_cons (i_var 1) (ia_nil))) (ia_nil)))))))))))
/-! ### _law_draw -/
abbrev s_l_draw : Stmt := top 24
abbrev N_l_draw : List Str := ["script", "seed", "cell"]
theorem sc_l_draw : FnScope N_l_draw ["script"] (defScope s_l_draw) := ⟨rfl, rfl, rfl, by decide +kernel, rfl, by decide +kernel, by decide +kernel⟩
theorem nd_l_draw : N_l_draw.Nodup := sc_l_draw.nd
def W_l_draw (G : Sc)   : WS := wSeq (wAsg (wC (.int 7)) (gN 1)) (wSeq (wFor (wScript G 0) (gN 2) (wAsg (w2 rMod (wL rToInt (wCons (w2 rAdd (w2 rAdd (w2 rMul (wVar 1) (wC (.int 48271))) (w2 rMod (wL rAbs (wCons (wL rToInt (wCons (wVar 2) (wNil))) (wNil))) (wC (.int 65521)))) (wC (.int 1))) (wNil))) (wC (.int 2147483647))) (gN 1))) (wRet (wL rLst (wCons (wLc (wScript G 0) 2 (wYes) (wL rAbs (wCons (wL rToInt (wCons (wVar 2) (wNil))) (wNil)))) (wCons (w1 rNeg (wC (.int 1))) (wCons (wC (.int 0)) (wCons (wVar 1) (wNil))))))))
theorem walk_l_draw {C_s : Unit}   {k : Nat} (T : Mg mg)  {f : Addr} (cdv : Value) (A : Around) (outer : List Env) (s : Shared) (H : Hp) (E : XK) (hr : Room (k + 1) (A.deeper (envOfC "_law_draw" (defScope s_l_draw) s.heap.objs.size f cdv))) (hGK : G.K = K) :
    PSs3 (CXF P w K mg base N_l_draw "_law_draw" s_l_draw f cdv A outer s H E) G (defBody s_l_draw) (W_l_draw G) := by
  unfold W_l_draw
  exact is_cons (is_asg (i_int) (ig_name 1 nd_l_draw)) (is_cons (is_for PassesOwn.never rfl (ii_script 0 hGK) (ig_name 2 nd_l_draw) (is_one (is_asg (i_bin rf_mod (i_callT rf_int1 rfl T.int b_int (ia_cons (i_bin rf_add (i_bin rf_add (i_bin rf_mul (i_var 1) (i_int)) (i_bin rf_mod (i_callB rf_abs rfl T.abs b_abs (ia_cons (i_callT rf_int1 rfl T.int b_int (ia_cons (i_var 2) (ia_nil))) (ia_nil))) (i_int))) (i_int)) (ia_nil))) (i_int)) (ig_name 1 nd_l_draw)))) (is_one (is_ret (i_lst (ia_cons (i_lc 2 rfl nd_l_draw (blkOk_by (N := N_l_draw) (sc := defScope s_l_draw) (by decide +kernel)) (ii_script 0 hGK) (fun _ _ _ _ _ => pg_name (i := 2) nd_l_draw rfl (Or.inl rfl)) (fun _ _ _ _ _ => its_nil) (fun _ _ _ _ _ => i_callB rf_abs rfl T.abs b_abs (ia_cons (i_callT rf_int1 rfl T.int b_int (ia_cons (i_var 2) (ia_nil))) (ia_nil)))) (ia_cons (i_un rf_neg' (i_int)) (ia_cons (i_int) (ia_cons (i_var 1) (ia_nil)))))))))
/-! ### _law_take -/
abbrev s_l_take : Stmt := top 25
abbrev N_l_take : List Str := ["draw", "many", "found"]
theorem sc_l_take : FnScope N_l_take ["draw", "many"] (defScope s_l_take) := ⟨rfl, rfl, rfl, by decide +kernel, rfl, by decide +kernel, by decide +kernel⟩
theorem nd_l_take : N_l_take.Nodup := sc_l_take.nd
def W_l_take   : WS := wSeq (wIfS (wB (w2 rEq (w2 rIx (wVar 0) (wC (.int 2))) (wC (.int 0)))) (wSeq (wAsg (w2 rAdd (w2 rIx (wVar 0) (wC (.int 1))) (wC (.int 1))) (gIx (wVar 0) (wC (.int 1)))) (wSeq (wIfS (wB (w2 rLt (w2 rIx (wVar 0) (wC (.int 1))) (wL rLen (wCons (w2 rIx (wVar 0) (wC (.int 0))) (wNil))))) (wAsg (w2 rIx (w2 rIx (wVar 0) (wC (.int 0))) (w2 rIx (wVar 0) (wC (.int 1)))) (gIx (wVar 0) (wC (.int 2)))) (wNext)) (wIfS (wB (w2 rEq (w2 rIx (wVar 0) (wC (.int 2))) (wC (.int 0)))) (wSeq (wAsg (w2 rMod (wL rToInt (wCons (w2 rAdd (w2 rMul (w2 rIx (wVar 0) (wC (.int 3))) (wC (.int 48271))) (wC (.int 11))) (wNil))) (wC (.int 2147483647))) (gIx (wVar 0) (wC (.int 3)))) (wAsg (w2 rIx (wVar 0) (wC (.int 3))) (gIx (wVar 0) (wC (.int 2))))) (wNext)))) (wNext)) (wSeq (wAsg (w2 rMod (wL rToInt (wCons (w2 rIx (wVar 0) (wC (.int 2))) (wNil))) (wVar 1)) (gN 2)) (wSeq (wAsg (w2 rDiv (w2 rIx (wVar 0) (wC (.int 2))) (wVar 1)) (gIx (wVar 0) (wC (.int 2)))) (wRet (wVar 2))))
theorem walk_l_take {C_s : Unit}   {k : Nat} (T : Mg mg)  {f : Addr} (cdv : Value) (A : Around) (outer : List Env) (s : Shared) (H : Hp) (E : XK) (hr : Room (k + 1) (A.deeper (envOfC "_law_take" (defScope s_l_take) s.heap.objs.size f cdv)))  :
    PSs3 (CXF P w K mg base N_l_take "_law_take" s_l_take f cdv A outer s H E) G (defBody s_l_take) (W_l_take ) := by
  unfold W_l_take
  exact is_cons (is_if (it_cmp (rf_eq hr.units) (i_ix (i_var 0) (i_int)) (i_int)) (is_cons (is_asg (i_bin rf_add (i_ix (i_var 0) (i_int)) (i_int)) (ig_ix (i_var 0) (i_int))) (is_cons (is_if (it_cmp rf_lt (i_ix (i_var 0) (i_int)) (i_callB rf_len rfl T.len b_len (ia_cons (i_ix (i_var 0) (i_int)) (ia_nil)))) (is_one (is_asg (i_ix (i_ix (i_var 0) (i_int)) (i_ix (i_var 0) (i_int))) (ig_ix (i_var 0) (i_int)))) (is_nil)) (is_one (is_if (it_cmp (rf_eq hr.units) (i_ix (i_var 0) (i_int)) (i_int)) (is_cons (is_asg (i_bin rf_mod (i_callT rf_int1 rfl T.int b_int (ia_cons (i_bin rf_add (i_bin rf_mul (i_ix (i_var 0) (i_int)) (i_int)) (i_int)) (ia_nil))) (i_int)) (ig_ix (i_var 0) (i_int))) (is_one (is_asg (i_ix (i_var 0) (i_int)) (ig_ix (i_var 0) (i_int))))) (is_nil))))) (is_nil)) (is_cons (is_asg (i_bin rf_mod (i_callT rf_int1 rfl T.int b_int (ia_cons (i_ix (i_var 0) (i_int)) (ia_nil))) (i_var 1)) (ig_name 2 nd_l_take)) (is_cons (is_asg (i_bin rf_div (i_ix (i_var 0) (i_int)) (i_var 1)) (ig_ix (i_var 0) (i_int))) (is_one (is_ret (i_var 2)))))
/-! ### _law_top -/
abbrev s_l_top : Stmt := top 26
abbrev N_l_top : List Str := ["w"]
theorem sc_l_top : FnScope N_l_top ["w"] (defScope s_l_top) := ⟨rfl, rfl, rfl, by decide +kernel, rfl, by decide +kernel, by decide +kernel⟩
theorem nd_l_top : N_l_top.Nodup := sc_l_top.nd
def W_l_top   : WS := wRet (w2 rSub (w2 rShl (wC (.int 1)) (wVar 0)) (wC (.int 1)))
theorem walk_l_top {C_s : Unit}   {k : Nat} (T : Mg mg)  {f : Addr} (cdv : Value) (A : Around) (outer : List Env) (s : Shared) (H : Hp) (E : XK) (hr : Room (k + 1) (A.deeper (envOfC "_law_top" (defScope s_l_top) s.heap.objs.size f cdv)))  :
    PSs3 (CXF P w K mg base N_l_top "_law_top" s_l_top f cdv A outer s H E) G (defBody s_l_top) (W_l_top ) := by
  unfold W_l_top
  exact is_one (is_ret (i_bin rf_sub (i_bin rf_shl (i_int) (i_var 0)) (i_int)))
/-! ### _law_compute -/
abbrev s_l_compute : Stmt := top 27
abbrev N_l_compute : List Str := ["op", "w", "x", "y"]
theorem sc_l_compute : FnScope N_l_compute ["op", "w", "x", "y"] (defScope s_l_compute) := ⟨rfl, rfl, rfl, by decide +kernel, rfl, by decide +kernel, by decide +kernel⟩
theorem nd_l_compute : N_l_compute.Nodup := sc_l_compute.nd
def W_l_compute  (p_l_top : Sp3) : WS := wSeq (wIfS (wB (w2 rEq (wVar 0) (wC (.str "add")))) (wRet (w2 rAndI (w2 rAdd (wVar 2) (wVar 3)) (wL p_l_top (wCons (wVar 1) (wNil))))) (wNext)) (wSeq (wIfS (wB (w2 rEq (wVar 0) (wC (.str "sub")))) (wRet (w2 rAndI (w2 rSub (wVar 2) (wVar 3)) (wL p_l_top (wCons (wVar 1) (wNil))))) (wNext)) (wSeq (wIfS (wB (w2 rEq (wVar 0) (wC (.str "mul")))) (wRet (w2 rAndI (w2 rMul (wVar 2) (wVar 3)) (wL p_l_top (wCons (wVar 1) (wNil))))) (wNext)) (wSeq (wIfS (wB (w2 rEq (wVar 0) (wC (.str "and")))) (wRet (w2 rAndI (wVar 2) (wVar 3))) (wNext)) (wSeq (wIfS (wB (w2 rEq (wVar 0) (wC (.str "or")))) (wRet (w2 rOrI (wVar 2) (wVar 3))) (wNext)) (wSeq (wIfS (wB (w2 rEq (wVar 0) (wC (.str "xor")))) (wRet (w2 rXorI (wVar 2) (wVar 3))) (wNext)) (wSeq (wIfS (wB (w2 rEq (wVar 0) (wC (.str "shl")))) (wRet (wIf (wB (w2 rLt (wVar 3) (wVar 1))) (w2 rAndI (w2 rShl (wVar 2) (wL rMin2 (wCons (wVar 3) (wCons (wC (.int 20)) (wNil))))) (wL p_l_top (wCons (wVar 1) (wNil)))) (wC (.int 0)))) (wNext)) (wSeq (wIfS (wB (w2 rEq (wVar 0) (wC (.str "shr")))) (wRet (wIf (wB (w2 rLt (wVar 3) (wVar 1))) (w2 rShr (wVar 2) (wVar 3)) (wC (.int 0)))) (wNext)) (wSeq (wIfS (wB (w2 rEq (wVar 0) (wC (.str "less")))) (wRet (wL rToInt (wCons (w2 rLt (wVar 2) (wVar 3)) (wNil)))) (wNext)) (wSeq (wIfS (wB (w2 rEq (wVar 0) (wC (.str "equal")))) (wRet (wL rToInt (wCons (w2 rEq (wVar 2) (wVar 3)) (wNil)))) (wNext)) (wSeq (wIfS (wB (w2 rEq (wVar 0) (wC (.str "not")))) (wRet (w2 rSub (wL p_l_top (wCons (wVar 1) (wNil))) (wVar 2))) (wNext)) (wRet (w2 rAndI (w2 rSub (wC (.int 0)) (wVar 2)) (wL p_l_top (wCons (wVar 1) (wNil)))))))))))))))
theorem walk_l_compute {C_s : Unit}  {p_l_top : Sp3} {k : Nat} (T : Mg mg)  {f : Addr} (cdv : Value) (A : Around) (outer : List Env) (s : Shared) (H : Hp) (E : XK) (hr : Room (k + 1) (A.deeper (envOfC "_law_compute" (defScope s_l_compute) s.heap.objs.size f cdv))) (F_l_top : Fd P w K mg base G "_law_top" (k + 1) p_l_top) :
    PSs3 (CXF P w K mg base N_l_compute "_law_compute" s_l_compute f cdv A outer s H E) G (defBody s_l_compute) (W_l_compute p_l_top) := by
  unfold W_l_compute
  exact is_cons (is_if (it_cmp (rf_eq hr.units) (i_var 0) (i_str)) (is_one (is_ret (i_bin rf_and (i_bin rf_add (i_var 2) (i_var 3)) (i_call F_l_top hr (ia_cons (i_var 1) (ia_nil)))))) (is_nil)) (is_cons (is_if (it_cmp (rf_eq hr.units) (i_var 0) (i_str)) (is_one (is_ret (i_bin rf_and (i_bin rf_sub (i_var 2) (i_var 3)) (i_call F_l_top hr (ia_cons (i_var 1) (ia_nil)))))) (is_nil)) (is_cons (is_if (it_cmp (rf_eq hr.units) (i_var 0) (i_str)) (is_one (is_ret (i_bin rf_and (i_bin rf_mul (i_var 2) (i_var 3)) (i_call F_l_top hr (ia_cons (i_var 1) (ia_nil)))))) (is_nil)) (is_cons (is_if (it_cmp (rf_eq hr.units) (i_var 0) (i_str)) (is_one (is_ret (i_bin rf_and (i_var 2) (i_var 3)))) (is_nil)) (is_cons (is_if (it_cmp (rf_eq hr.units) (i_var 0) (i_str)) (is_one (is_ret (i_bin rf_or (i_var 2) (i_var 3)))) (is_nil)) (is_cons (is_if (it_cmp (rf_eq hr.units) (i_var 0) (i_str)) (is_one (is_ret (i_bin rf_xor (i_var 2) (i_var 3)))) (is_nil)) (is_cons (is_if (it_cmp (rf_eq hr.units) (i_var 0) (i_str)) (is_one (is_ret (i_if (it_cmp rf_lt (i_var 3) (i_var 1)) (i_bin rf_and (i_bin rf_shl (i_var 2) (i_callB (rf_min2 rfl) rfl T.min b_min (ia_cons (i_var 3) (ia_cons (i_int) (ia_nil))))) (i_call F_l_top hr (ia_cons (i_var 1) (ia_nil)))) (i_int)))) (is_nil)) (is_cons (is_if (it_cmp (rf_eq hr.units) (i_var 0) (i_str)) (is_one (is_ret (i_if (it_cmp rf_lt (i_var 3) (i_var 1)) (i_bin rf_shr (i_var 2) (i_var 3)) (i_int)))) (is_nil)) (is_cons (is_if (it_cmp (rf_eq hr.units) (i_var 0) (i_str)) (is_one (is_ret (i_callT rf_int1 rfl T.int b_int (ia_cons (i_cmp rf_lt (i_var 2) (i_var 3)) (ia_nil))))) (is_nil)) (is_cons (is_if (it_cmp (rf_eq hr.units) (i_var 0) (i_str)) (is_one (is_ret (i_callT rf_int1 rfl T.int b_int (ia_cons (i_cmp (rf_eq hr.units) (i_var 2) (i_var 3)) (ia_nil))))) (is_nil)) (is_cons (is_if (it_cmp (rf_eq hr.units) (i_var 0) (i_str)) (is_one (is_ret (i_bin rf_sub (i_call F_l_top hr (ia_cons (i_var 1) (ia_nil))) (i_var 2)))) (is_nil)) (is_one (is_ret (i_bin rf_and (i_bin rf_sub (i_int) (i_var 2)) (i_call F_l_top hr (ia_cons (i_var 1) (ia_nil))))))))))))))))
/-! ### _law_word -/
abbrev s_l_word : Stmt := top 28
abbrev N_l_word : List Str := ["draw", "w"]
theorem sc_l_word : FnScope N_l_word ["draw", "w"] (defScope s_l_word) := ⟨rfl, rfl, rfl, by decide +kernel, rfl, by decide +kernel, by decide +kernel⟩
theorem nd_l_word : N_l_word.Nodup := sc_l_word.nd
def W_l_word  (p_l_take : Sp3) (p_l_top : Sp3) : WS := wRet (w2 rAndI (w2 rIx (wL rLst (wCons (wC (.int 0)) (wCons (wC (.int 1)) (wCons (wC (.int 2)) (wCons (wL p_l_top (wCons (wVar 1) (wNil))) (wCons (wL p_l_take (wCons (wVar 0) (wCons (w2 rShl (wC (.int 1)) (wVar 1)) (wNil)))) (wNil))))))) (wL p_l_take (wCons (wVar 0) (wCons (wC (.int 5)) (wNil))))) (wL p_l_top (wCons (wVar 1) (wNil))))
theorem walk_l_word {C_s : Unit}  {p_l_take : Sp3} {p_l_top : Sp3} {k : Nat} (T : Mg mg)  {f : Addr} (cdv : Value) (A : Around) (outer : List Env) (s : Shared) (H : Hp) (E : XK) (hr : Room (k + 1) (A.deeper (envOfC "_law_word" (defScope s_l_word) s.heap.objs.size f cdv))) (F_l_take : Fd P w K mg base G "_law_take" (k + 1) p_l_take) (F_l_top : Fd P w K mg base G "_law_top" (k + 1) p_l_top) :
    PSs3 (CXF P w K mg base N_l_word "_law_word" s_l_word f cdv A outer s H E) G (defBody s_l_word) (W_l_word p_l_take p_l_top) := by
  unfold W_l_word
  exact is_one (is_ret (i_bin rf_and (i_ix (i_lst (ia_cons (i_int) (ia_cons (i_int) (ia_cons (i_int) (ia_cons (i_call F_l_top hr (ia_cons (i_var 1) (ia_nil))) (ia_cons (i_call F_l_take hr (ia_cons (i_var 0) (ia_cons (i_bin rf_shl (i_int) (i_var 1)) (ia_nil)))) (ia_nil))))))) (i_call F_l_take hr (ia_cons (i_var 0) (ia_cons (i_int) (ia_nil))))) (i_call F_l_top hr (ia_cons (i_var 1) (ia_nil)))))
/-! ### _law_ops -/
abbrev s_l_ops : Stmt := top 29
abbrev N_l_ops : List Str := []
theorem sc_l_ops : FnScope N_l_ops [] (defScope s_l_ops) := ⟨rfl, rfl, rfl, by decide +kernel, rfl, by decide +kernel, by decide +kernel⟩
theorem nd_l_ops : N_l_ops.Nodup := sc_l_ops.nd
def W_l_ops   : WS := wRet (wL rLst (wCons (wC (.str "add")) (wCons (wC (.str "sub")) (wCons (wC (.str "mul")) (wCons (wC (.str "and")) (wCons (wC (.str "or")) (wCons (wC (.str "xor")) (wCons (wC (.str "shl")) (wCons (wC (.str "shr")) (wCons (wC (.str "less")) (wCons (wC (.str "equal")) (wNil))))))))))))
theorem walk_l_ops {C_s : Unit}   {k : Nat} (T : Mg mg)  {f : Addr} (cdv : Value) (A : Around) (outer : List Env) (s : Shared) (H : Hp) (E : XK) (hr : Room (k + 1) (A.deeper (envOfC "_law_ops" (defScope s_l_ops) s.heap.objs.size f cdv)))  :
    PSs3 (CXF P w K mg base N_l_ops "_law_ops" s_l_ops f cdv A outer s H E) G (defBody s_l_ops) (W_l_ops ) := by
  unfold W_l_ops
  exact is_one (is_ret (i_lst (ia_cons (i_str) (ia_cons (i_str) (ia_cons (i_str) (ia_cons (i_str) (ia_cons (i_str) (ia_cons (i_str) (ia_cons (i_str) (ia_cons (i_str) (ia_cons (i_str) (ia_cons (i_str) (ia_nil)))))))))))))
/-! ### _law_variable -/
abbrev s_l_variable : Stmt := top 30
abbrev N_l_variable : List Str := ["draw"]
theorem sc_l_variable : FnScope N_l_variable ["draw"] (defScope s_l_variable) := ⟨rfl, rfl, rfl, by decide +kernel, rfl, by decide +kernel, by decide +kernel⟩
theorem nd_l_variable : N_l_variable.Nodup := sc_l_variable.nd
def W_l_variable  (p_l_take : Sp3) : WS := wRet (w2 rIx (wL rLst (wCons (wC (.int 0)) (wCons (wC (.int 1)) (wCons (wC (.int 2)) (wCons (wC (.int 3)) (wCons (wC (.int 0)) (wCons (wC (.int 1)) (wCons (wC (.int 2)) (wCons (wC (.int 39)) (wNil)))))))))) (wL p_l_take (wCons (wVar 0) (wCons (wC (.int 8)) (wNil)))))
theorem walk_l_variable {C_s : Unit}  {p_l_take : Sp3} {k : Nat} (T : Mg mg)  {f : Addr} (cdv : Value) (A : Around) (outer : List Env) (s : Shared) (H : Hp) (E : XK) (hr : Room (k + 1) (A.deeper (envOfC "_law_variable" (defScope s_l_variable) s.heap.objs.size f cdv))) (F_l_take : Fd P w K mg base G "_law_take" (k + 1) p_l_take) :
    PSs3 (CXF P w K mg base N_l_variable "_law_variable" s_l_variable f cdv A outer s H E) G (defBody s_l_variable) (W_l_variable p_l_take) := by
  unfold W_l_variable
  exact is_one (is_ret (i_ix (i_lst (ia_cons (i_int) (ia_cons (i_int) (ia_cons (i_int) (ia_cons (i_int) (ia_cons (i_int) (ia_cons (i_int) (ia_cons (i_int) (ia_cons (i_int) (ia_nil)))))))))) (i_call F_l_take hr (ia_cons (i_var 0) (ia_cons (i_int) (ia_nil))))))
/-! ### _law_expression -/
abbrev s_l_expression : Stmt := top 31
abbrev N_l_expression : List Str := ["p", "depth", "draw", "k", "name", "size"]
theorem sc_l_expression : FnScope N_l_expression ["p", "depth"] (defScope s_l_expression) := ⟨rfl, rfl, rfl, by decide +kernel, rfl, by decide +kernel, by decide +kernel⟩
theorem nd_l_expression : N_l_expression.Nodup := sc_l_expression.nd
def W_l_expression  (p_l_take : Sp3) (p_l_word : Sp3) (p_l_variable : Sp3) (p_l_index : Sp3) (p_l_expression : Sp3) (p_l_ops : Sp3) : WS := wSeq (wAsg (w2 rDGet (wVar 0) (wC (.str "draw"))) (gN 2)) (wSeq (wAsg (wL p_l_take (wCons (wVar 2) (wCons (wC (.int 9)) (wNil)))) (gN 3)) (wSeq (wIfS (wOr (wB (w2 rLt (wVar 3) (wC (.int 2)))) (wAnd (wB (w2 rLt (wVar 1) (wC (.int 1)))) (wB (w2 rGt (wVar 3) (wC (.int 5)))))) (wRet (wL rTup (wCons (wC (.str "int")) (wCons (wL p_l_word (wCons (wVar 2) (wCons (w2 rDGet (wVar 0) (wC (.str "width"))) (wNil)))) (wNil))))) (wNext)) (wSeq (wIfS (wOr (wB (w2 rLt (wVar 3) (wC (.int 4)))) (wB (w2 rLt (wVar 1) (wC (.int 1))))) (wRet (wL rTup (wCons (wC (.str "var")) (wCons (wL p_l_variable (wCons (wVar 2) (wNil))) (wNil))))) (wNext)) (wSeq (wIfS (wAnd (wB (w2 rEq (wVar 3) (wC (.int 4)))) (wB (w2 rNe (w2 rDGet (wVar 0) (wC (.str "arrays"))) (wL rTup (wNil))))) (wSeq (wAsg (w2 rIx (w2 rDGet (wVar 0) (wC (.str "arrays"))) (wL p_l_take (wCons (wVar 2) (wCons (wL rLen (wCons (w2 rDGet (wVar 0) (wC (.str "arrays"))) (wNil))) (wNil))))) (gT [gN 4, gN 5])) (wRet (wL rTup (wCons (wC (.str "cell")) (wCons (wVar 4) (wCons (wL p_l_index (wCons (wVar 0) (wCons (wVar 5) (wCons (w2 rSub (wVar 1) (wC (.int 1))) (wNil))))) (wNil))))))) (wNext)) (wSeq (wIfS (wB (w2 rEq (wVar 3) (wC (.int 5)))) (wRet (wL rTup (wCons (w2 rIx (wL rLst (wCons (wC (.str "not")) (wCons (wC (.str "neg")) (wNil)))) (wL p_l_take (wCons (wVar 2) (wCons (wC (.int 2)) (wNil))))) (wCons (wL p_l_expression (wCons (wVar 0) (wCons (w2 rSub (wVar 1) (wC (.int 1))) (wNil)))) (wNil))))) (wNext)) (wRet (wL rTup (wCons (w2 rIx (wL p_l_ops wNil) (wL p_l_take (wCons (wVar 2) (wCons (wC (.int 10)) (wNil))))) (wCons (wL p_l_expression (wCons (wVar 0) (wCons (w2 rSub (wVar 1) (wC (.int 1))) (wNil)))) (wCons (wL p_l_expression (wCons (wVar 0) (wCons (w2 rSub (wVar 1) (wC (.int 1))) (wNil)))) (wNil)))))))))))
theorem walk_l_expression {C_s : Unit}  {p_l_take : Sp3} {p_l_word : Sp3} {p_l_variable : Sp3} {p_l_index : Sp3} {p_l_expression : Sp3} {p_l_ops : Sp3} {k : Nat} (T : Mg mg)  {f : Addr} (cdv : Value) (A : Around) (outer : List Env) (s : Shared) (H : Hp) (E : XK) (hr : Room (k + 1) (A.deeper (envOfC "_law_expression" (defScope s_l_expression) s.heap.objs.size f cdv))) (F_l_take : Fd P w K mg base G "_law_take" (k + 1) p_l_take) (F_l_word : Fd P w K mg base G "_law_word" (k + 1) p_l_word) (F_l_variable : Fd P w K mg base G "_law_variable" (k + 1) p_l_variable) (F_l_index : Fd P w K mg base G "_law_index" (k + 1) p_l_index) (F_l_expression : Fd P w K mg base G "_law_expression" (k + 1) p_l_expression) (F_l_ops : Fd P w K mg base G "_law_ops" (k + 1) p_l_ops) :
    PSs3 (CXF P w K mg base N_l_expression "_law_expression" s_l_expression f cdv A outer s H E) G (defBody s_l_expression) (W_l_expression p_l_take p_l_word p_l_variable p_l_index p_l_expression p_l_ops) := by
  unfold W_l_expression
  exact is_cons (is_asg (i_dget (hu_of hr) (i_var 0) (i_str)) (ig_name 2 nd_l_expression)) (is_cons (is_asg (i_call F_l_take hr (ia_cons (i_var 2) (ia_cons (i_int) (ia_nil)))) (ig_name 3 nd_l_expression)) (is_cons (is_if (it_w (iw_or (it_cmp rf_lt (i_var 3) (i_int)) (iw_or1 (it_w (iw_and (it_cmp rf_lt (i_var 1) (i_int)) (iw_and1 (it_cmp rf_gt (i_var 3) (i_int)))))))) (is_one (is_ret (i_tup (ia_cons (i_str) (ia_cons (i_call F_l_word hr (ia_cons (i_var 2) (ia_cons (i_dget (hu_of hr) (i_var 0) (i_str)) (ia_nil)))) (ia_nil)))))) (is_nil)) (is_cons (is_if (it_w (iw_or (it_cmp rf_lt (i_var 3) (i_int)) (iw_or1 (it_cmp rf_lt (i_var 1) (i_int))))) (is_one (is_ret (i_tup (ia_cons (i_str) (ia_cons (i_call F_l_variable hr (ia_cons (i_var 2) (ia_nil))) (ia_nil)))))) (is_nil)) (is_cons (is_if (it_w (iw_and (it_cmp (rf_eq hr.units) (i_var 3) (i_int)) (iw_and1 (it_cmp (rf_ne hr.units) (i_dget (hu_of hr) (i_var 0) (i_str)) (i_tup (ia_nil)))))) (is_cons (is_asg (i_ix (i_dget (hu_of hr) (i_var 0) (i_str)) (i_call F_l_take hr (ia_cons (i_var 2) (ia_cons (i_callB rf_len rfl T.len b_len (ia_cons (i_dget (hu_of hr) (i_var 0) (i_str)) (ia_nil))) (ia_nil))))) (ig_tup rfl (igs_cons (ig_name 4 nd_l_expression) (igs_cons (ig_name 5 nd_l_expression) (igs_nil))))) (is_one (is_ret (i_tup (ia_cons (i_str) (ia_cons (i_var 4) (ia_cons (i_call F_l_index hr (ia_cons (i_var 0) (ia_cons (i_var 5) (ia_cons (i_bin rf_sub (i_var 1) (i_int)) (ia_nil))))) (ia_nil)))))))) (is_nil)) (is_cons (is_if (it_cmp (rf_eq hr.units) (i_var 3) (i_int)) (is_one (is_ret (i_tup (ia_cons (i_ix (i_lst (ia_cons (i_str) (ia_cons (i_str) (ia_nil)))) (i_call F_l_take hr (ia_cons (i_var 2) (ia_cons (i_int) (ia_nil))))) (ia_cons (i_call F_l_expression hr (ia_cons (i_var 0) (ia_cons (i_bin rf_sub (i_var 1) (i_int)) (ia_nil)))) (ia_nil)))))) (is_nil)) (is_one (is_ret (i_tup (ia_cons (i_ix (i_call0 F_l_ops hr) (i_call F_l_take hr (ia_cons (i_var 2) (ia_cons (i_int) (ia_nil))))) (ia_cons (i_call F_l_expression hr (ia_cons (i_var 0) (ia_cons (i_bin rf_sub (i_var 1) (i_int)) (ia_nil)))) (ia_cons (i_call F_l_expression hr (ia_cons (i_var 0) (ia_cons (i_bin rf_sub (i_var 1) (i_int)) (ia_nil)))) (ia_nil))))))))))))
/-! ### _law_index -/
abbrev s_l_index : Stmt := top 32
abbrev N_l_index : List Str := ["p", "size", "depth", "most"]
theorem sc_l_index : FnScope N_l_index ["p", "size", "depth"] (defScope s_l_index) := ⟨rfl, rfl, rfl, by decide +kernel, rfl, by decide +kernel, by decide +kernel⟩
theorem nd_l_index : N_l_index.Nodup := sc_l_index.nd
def W_l_index  (p_l_take : Sp3) (p_l_expression : Sp3) (p_l_top : Sp3) (p_l_variable : Sp3) : WS := wSeq (wIfS (wB (w2 rEq (wL p_l_take (wCons (w2 rDGet (wVar 0) (wC (.str "draw"))) (wCons (wC (.int 3)) (wNil)))) (wC (.int 0)))) (wRet (wL p_l_expression (wCons (wVar 0) (wCons (wVar 2) (wNil))))) (wNext)) (wSeq (wAsg (wL rMin2 (wCons (w2 rSub (wVar 1) (wC (.int 1))) (wCons (wL p_l_top (wCons (w2 rDGet (wVar 0) (wC (.str "width"))) (wNil))) (wNil)))) (gN 3)) (wSeq (wIfS (wB (w2 rEq (wL p_l_take (wCons (w2 rDGet (wVar 0) (wC (.str "draw"))) (wCons (wC (.int 2)) (wNil)))) (wC (.int 0)))) (wRet (wL rTup (wCons (wC (.str "int")) (wCons (wL p_l_take (wCons (w2 rDGet (wVar 0) (wC (.str "draw"))) (wCons (w2 rAdd (wVar 3) (wC (.int 1))) (wNil)))) (wNil))))) (wNext)) (wRet (wL rTup (wCons (wC (.str "and")) (wCons (wL rTup (wCons (wC (.str "var")) (wCons (wL p_l_variable (wCons (w2 rDGet (wVar 0) (wC (.str "draw"))) (wNil))) (wNil)))) (wCons (wL rTup (wCons (wC (.str "int")) (wCons (w2 rIx (wL rLst (wCons (wC (.int 0)) (wCons (wC (.int 1)) (wCons (wC (.int 1)) (wCons (wC (.int 3)) (wCons (wC (.int 3)) (wCons (wC (.int 3)) (wCons (wC (.int 3)) (wCons (wC (.int 7)) (wNil)))))))))) (wL rMin2 (wCons (wVar 3) (wCons (wC (.int 7)) (wNil))))) (wNil)))) (wNil))))))))
theorem walk_l_index {C_s : Unit}  {p_l_take : Sp3} {p_l_expression : Sp3} {p_l_top : Sp3} {p_l_variable : Sp3} {k : Nat} (T : Mg mg)  {f : Addr} (cdv : Value) (A : Around) (outer : List Env) (s : Shared) (H : Hp) (E : XK) (hr : Room (k + 1) (A.deeper (envOfC "_law_index" (defScope s_l_index) s.heap.objs.size f cdv))) (F_l_take : Fd P w K mg base G "_law_take" (k + 1) p_l_take) (F_l_expression : Fd P w K mg base G "_law_expression" (k + 1) p_l_expression) (F_l_top : Fd P w K mg base G "_law_top" (k + 1) p_l_top) (F_l_variable : Fd P w K mg base G "_law_variable" (k + 1) p_l_variable) :
    PSs3 (CXF P w K mg base N_l_index "_law_index" s_l_index f cdv A outer s H E) G (defBody s_l_index) (W_l_index p_l_take p_l_expression p_l_top p_l_variable) := by
  unfold W_l_index
  exact is_cons (is_if (it_cmp (rf_eq hr.units) (i_call F_l_take hr (ia_cons (i_dget (hu_of hr) (i_var 0) (i_str)) (ia_cons (i_int) (ia_nil)))) (i_int)) (is_one (is_ret (i_call F_l_expression hr (ia_cons (i_var 0) (ia_cons (i_var 2) (ia_nil)))))) (is_nil)) (is_cons (is_asg (i_callB (rf_min2 rfl) rfl T.min b_min (ia_cons (i_bin rf_sub (i_var 1) (i_int)) (ia_cons (i_call F_l_top hr (ia_cons (i_dget (hu_of hr) (i_var 0) (i_str)) (ia_nil))) (ia_nil)))) (ig_name 3 nd_l_index)) (is_cons (is_if (it_cmp (rf_eq hr.units) (i_call F_l_take hr (ia_cons (i_dget (hu_of hr) (i_var 0) (i_str)) (ia_cons (i_int) (ia_nil)))) (i_int)) (is_one (is_ret (i_tup (ia_cons (i_str) (ia_cons (i_call F_l_take hr (ia_cons (i_dget (hu_of hr) (i_var 0) (i_str)) (ia_cons (i_bin rf_add (i_var 3) (i_int)) (ia_nil)))) (ia_nil)))))) (is_nil)) (is_one (is_ret (i_tup (ia_cons (i_str) (ia_cons (i_tup (ia_cons (i_str) (ia_cons (i_call F_l_variable hr (ia_cons (i_dget (hu_of hr) (i_var 0) (i_str)) (ia_nil))) (ia_nil)))) (ia_cons (i_tup (ia_cons (i_str) (ia_cons (i_ix (i_lst (ia_cons (i_int) (ia_cons (i_int) (ia_cons (i_int) (ia_cons (i_int) (ia_cons (i_int) (ia_cons (i_int) (ia_cons (i_int) (ia_cons (i_int) (ia_nil)))))))))) (i_callB (rf_min2 rfl) rfl T.min b_min (ia_cons (i_var 3) (ia_cons (i_int) (ia_nil))))) (ia_nil)))) (ia_nil)))))))))
/-! ### _law_row -/
abbrev s_l_row : Stmt := top 33
abbrev N_l_row : List Str := ["p", "others", "draw", "k", "name", "size", "params", "j"]
theorem sc_l_row : FnScope N_l_row ["p", "others"] (defScope s_l_row) := ⟨rfl, rfl, rfl, by decide +kernel, rfl, by decide +kernel, by decide +kernel⟩
theorem nd_l_row : N_l_row.Nodup := sc_l_row.nd
def W_l_row  (p_l_take : Sp3) (p_l_expression : Sp3) (p_l_variable : Sp3) (p_l_index : Sp3) : WS := wSeq (wAsg (w2 rDGet (wVar 0) (wC (.str "draw"))) (gN 2)) (wSeq (wAsg (wL p_l_take (wCons (wVar 2) (wCons (wC (.int 12)) (wNil)))) (gN 3)) (wSeq (wIfS (wB (w2 rLt (wVar 3) (wC (.int 4)))) (wRet (wL rTup (wCons (wC (.str "set")) (wCons (wL p_l_variable (wCons (wVar 2) (wNil))) (wCons (wL p_l_expression (wCons (wVar 0) (wCons (wC (.int 2)) (wNil)))) (wNil)))))) (wNext)) (wSeq (wIfS (wB (w2 rLt (wVar 3) (wC (.int 7)))) (wRet (wL rTup (wCons (wC (.str "take")) (wCons (wL p_l_variable (wCons (wVar 2) (wNil))) (wNil))))) (wNext)) (wSeq (wIfS (wB (w2 rLt (wVar 3) (wC (.int 9)))) (wRet (wL rTup (wCons (wC (.str "put")) (wCons (wL p_l_expression (wCons (wVar 0) (wCons (wC (.int 1)) (wNil)))) (wNil))))) (wNext)) (wSeq (wIfS (wAnd (wB (w2 rEq (wVar 3) (wC (.int 9)))) (wB (w2 rNe (w2 rDGet (wVar 0) (wC (.str "arrays"))) (wL rTup (wNil))))) (wSeq (wAsg (w2 rIx (w2 rDGet (wVar 0) (wC (.str "arrays"))) (wL p_l_take (wCons (wVar 2) (wCons (wL rLen (wCons (w2 rDGet (wVar 0) (wC (.str "arrays"))) (wNil))) (wNil))))) (gT [gN 4, gN 5])) (wRet (wL rTup (wCons (wC (.str "store")) (wCons (wVar 4) (wCons (wL p_l_index (wCons (wVar 0) (wCons (wVar 5) (wCons (wC (.int 1)) (wNil))))) (wCons (wL p_l_expression (wCons (wVar 0) (wCons (wC (.int 1)) (wNil)))) (wNil)))))))) (wNext)) (wSeq (wIfS (wAnd (wB (w2 rEq (wVar 3) (wC (.int 10)))) (wB (w2 rNe (wVar 1) (wL rLst (wNil))))) (wSeq (wAsg (w2 rIx (wVar 1) (wL p_l_take (wCons (wVar 2) (wCons (wL rLen (wCons (wVar 1) (wNil))) (wNil))))) (gT [gN 4, gN 6])) (wRet (wL rTup (wCons (wC (.str "call")) (wCons (wL p_l_variable (wCons (wVar 2) (wNil))) (wCons (wVar 4) (wCons (wL rTupleOf (wCons (wLc (wRg1 (wCons (wVar 6) (wNil))) 7 (wYes) (wL p_l_expression (wCons (wVar 0) (wCons (wC (.int 1)) (wNil))))) (wNil))) (wNil)))))))) (wNext)) (wSeq (wIfS (wB (w2 rEq (wVar 3) (wC (.int 11)))) (wRet (wL rTup (wCons (wC (.str "assert")) (wCons (wL p_l_take (wCons (wVar 2) (wCons (wC (.int 4)) (wNil)))) (wCons (wL p_l_expression (wCons (wVar 0) (wCons (wC (.int 2)) (wNil)))) (wNil)))))) (wNext)) (wRet (wL rTup (wCons (wC (.str "set")) (wCons (wL p_l_variable (wCons (wVar 2) (wNil))) (wCons (wL p_l_expression (wCons (wVar 0) (wCons (wC (.int 1)) (wNil)))) (wNil)))))))))))))
theorem walk_l_row {C_s : Unit}  {p_l_take : Sp3} {p_l_expression : Sp3} {p_l_variable : Sp3} {p_l_index : Sp3} {k : Nat} (T : Mg mg)  {f : Addr} (cdv : Value) (A : Around) (outer : List Env) (s : Shared) (H : Hp) (E : XK) (hr : Room (k + 1) (A.deeper (envOfC "_law_row" (defScope s_l_row) s.heap.objs.size f cdv))) (F_l_take : Fd P w K mg base G "_law_take" (k + 1) p_l_take) (F_l_expression : Fd P w K mg base G "_law_expression" (k + 1) p_l_expression) (F_l_variable : Fd P w K mg base G "_law_variable" (k + 1) p_l_variable) (F_l_index : Fd P w K mg base G "_law_index" (k + 1) p_l_index) :
    PSs3 (CXF P w K mg base N_l_row "_law_row" s_l_row f cdv A outer s H E) G (defBody s_l_row) (W_l_row p_l_take p_l_expression p_l_variable p_l_index) := by
  unfold W_l_row
  exact is_cons (is_asg (i_dget (hu_of hr) (i_var 0) (i_str)) (ig_name 2 nd_l_row)) (is_cons (is_asg (i_call F_l_take hr (ia_cons (i_var 2) (ia_cons (i_int) (ia_nil)))) (ig_name 3 nd_l_row)) (is_cons (is_if (it_cmp rf_lt (i_var 3) (i_int)) (is_one (is_ret (i_tup (ia_cons (i_str) (ia_cons (i_call F_l_variable hr (ia_cons (i_var 2) (ia_nil))) (ia_cons (i_call F_l_expression hr (ia_cons (i_var 0) (ia_cons (i_int) (ia_nil)))) (ia_nil))))))) (is_nil)) (is_cons (is_if (it_cmp rf_lt (i_var 3) (i_int)) (is_one (is_ret (i_tup (ia_cons (i_str) (ia_cons (i_call F_l_variable hr (ia_cons (i_var 2) (ia_nil))) (ia_nil)))))) (is_nil)) (is_cons (is_if (it_cmp rf_lt (i_var 3) (i_int)) (is_one (is_ret (i_tup (ia_cons (i_str) (ia_cons (i_call F_l_expression hr (ia_cons (i_var 0) (ia_cons (i_int) (ia_nil)))) (ia_nil)))))) (is_nil)) (is_cons (is_if (it_w (iw_and (it_cmp (rf_eq hr.units) (i_var 3) (i_int)) (iw_and1 (it_cmp (rf_ne hr.units) (i_dget (hu_of hr) (i_var 0) (i_str)) (i_tup (ia_nil)))))) (is_cons (is_asg (i_ix (i_dget (hu_of hr) (i_var 0) (i_str)) (i_call F_l_take hr (ia_cons (i_var 2) (ia_cons (i_callB rf_len rfl T.len b_len (ia_cons (i_dget (hu_of hr) (i_var 0) (i_str)) (ia_nil))) (ia_nil))))) (ig_tup rfl (igs_cons (ig_name 4 nd_l_row) (igs_cons (ig_name 5 nd_l_row) (igs_nil))))) (is_one (is_ret (i_tup (ia_cons (i_str) (ia_cons (i_var 4) (ia_cons (i_call F_l_index hr (ia_cons (i_var 0) (ia_cons (i_var 5) (ia_cons (i_int) (ia_nil))))) (ia_cons (i_call F_l_expression hr (ia_cons (i_var 0) (ia_cons (i_int) (ia_nil)))) (ia_nil))))))))) (is_nil)) (is_cons (is_if (it_w (iw_and (it_cmp (rf_eq hr.units) (i_var 3) (i_int)) (iw_and1 (it_cmp (rf_ne hr.units) (i_var 1) (i_lst (ia_nil)))))) (is_cons (is_asg (i_ix (i_var 1) (i_call F_l_take hr (ia_cons (i_var 2) (ia_cons (i_callB rf_len rfl T.len b_len (ia_cons (i_var 1) (ia_nil))) (ia_nil))))) (ig_tup rfl (igs_cons (ig_name 4 nd_l_row) (igs_cons (ig_name 6 nd_l_row) (igs_nil))))) (is_one (is_ret (i_tup (ia_cons (i_str) (ia_cons (i_call F_l_variable hr (ia_cons (i_var 2) (ia_nil))) (ia_cons (i_var 4) (ia_cons (i_callT rf_tupleOf rfl T.tuple b_tuple (ia_cons (i_lc 7 rfl nd_l_row (blkOk_by (N := N_l_row) (sc := defScope s_l_row) (by decide +kernel)) (ii_rg1 rfl T.range (ia_cons (i_var 6) (ia_nil))) (fun _ _ _ _ _ => pg_name (i := 7) nd_l_row rfl (Or.inl rfl)) (fun _ _ _ _ _ => its_nil) (fun _ _ _ _ _ => i_call F_l_expression hr (ia_cons (i_var 0) (ia_cons (i_int) (ia_nil))))) (ia_nil))) (ia_nil))))))))) (is_nil)) (is_cons (is_if (it_cmp (rf_eq hr.units) (i_var 3) (i_int)) (is_one (is_ret (i_tup (ia_cons (i_str) (ia_cons (i_call F_l_take hr (ia_cons (i_var 2) (ia_cons (i_int) (ia_nil)))) (ia_cons (i_call F_l_expression hr (ia_cons (i_var 0) (ia_cons (i_int) (ia_nil)))) (ia_nil))))))) (is_nil)) (is_one (is_ret (i_tup (ia_cons (i_str) (ia_cons (i_call F_l_variable hr (ia_cons (i_var 2) (ia_nil))) (ia_cons (i_call F_l_expression hr (ia_cons (i_var 0) (ia_cons (i_int) (ia_nil)))) (ia_nil))))))))))))))
/-! ### _law_blocks -/
abbrev s_l_blocks : Stmt := top 34
abbrev N_l_blocks : List Str := ["p", "others", "blocks", "rows", "draw", "gap", "labels", "found", "k", "body", "rest", "kind", "end", "onward", "first", "second", "j"]
theorem sc_l_blocks : FnScope N_l_blocks ["p", "others", "blocks", "rows"] (defScope s_l_blocks) := ⟨rfl, rfl, rfl, by decide +kernel, rfl, by decide +kernel, by decide +kernel⟩
theorem nd_l_blocks : N_l_blocks.Nodup := sc_l_blocks.nd
def W_l_blocks  (p_l_take : Sp3) (p_l_row : Sp3) (p_l_expression : Sp3) : WS := wSeq (wAsg (w2 rDGet (wVar 0) (wC (.str "draw"))) (gN 4)) (wSeq (wAsg (w2 rAdd (wC (.int 1)) (wL p_l_take (wCons (wVar 4) (wCons (wC (.int 3)) (wNil))))) (gN 5)) (wSeq (wAsg (wLc (wRg1 (wCons (w2 rAdd (wC (.int 1)) (wL p_l_take (wCons (wVar 4) (wCons (wVar 2) (wNil))))) (wNil))) 8 (wYes) (w2 rMod (wL rToInt (wCons (w2 rAdd (wC (.int 5)) (w2 rMul (wVar 5) (wVar 8))) (wNil))) (wC (.int 17)))) (gN 6)) (wSeq (wAsg (wL rLst (wNil)) (gN 7)) (wSeq (wFor (wRg1 (wCons (wL rLen (wCons (wVar 6) (wNil))) (wNil))) (gN 8) (wSeq (wAsg (wL rTupleOf (wCons (wLc (wRg1 (wCons (wL p_l_take (wCons (wVar 4) (wCons (w2 rAdd (wVar 3) (wC (.int 1))) (wNil)))) (wNil))) 16 (wYes) (wL p_l_row (wCons (wVar 0) (wCons (wVar 1) (wNil))))) (wNil))) (gN 9)) (wSeq (wAsg (wSl (wVar 6) (oSome (wC (.int 1))) (oNone)) (gN 10)) (wSeq (wAsg (wL p_l_take (wCons (wVar 4) (wCons (wC (.int 5)) (wNil)))) (gN 11)) (wSeq (wIfS (wOr (wB (w2 rEq (wVar 10) (wL rLst (wNil)))) (wB (w2 rEq (wVar 11) (wC (.int 0))))) (wAsg (wL rTup (wCons (wC (.str "return")) (wCons (wL p_l_expression (wCons (wVar 0) (wCons (wC (.int 1)) (wNil)))) (wNil)))) (gN 12)) (wSeq (wAsg (wIf (wB (w2 rNe (wSl (wVar 6) (oSome (w2 rAdd (wVar 8) (wC (.int 1)))) (oNone)) (wL rLst (wNil)))) (wSl (wVar 6) (oSome (w2 rAdd (wVar 8) (wC (.int 1)))) (oNone)) (wVar 10)) (gN 13)) (wSeq (wAsg (w2 rIx (wVar 13) (wL p_l_take (wCons (wVar 4) (wCons (wL rLen (wCons (wVar 13) (wNil))) (wNil))))) (gN 14)) (wSeq (wAsg (w2 rIx (wVar 10) (wL p_l_take (wCons (wVar 4) (wCons (wL rLen (wCons (wVar 10) (wNil))) (wNil))))) (gN 15)) (wAsg (wIf (wB (w2 rEq (wVar 11) (wC (.int 1)))) (wL rTup (wCons (wC (.str "go")) (wCons (wVar 14) (wNil)))) (wL rTup (wCons (wC (.str "if")) (wCons (wL p_l_expression (wCons (wVar 0) (wCons (wC (.int 2)) (wNil)))) (wCons (wVar 14) (wCons (wVar 15) (wNil))))))) (gN 12)))))) (wDrop (wAppend (wVar 7) (wCons (wL rTup (wCons (w2 rIx (wVar 6) (wVar 8)) (wCons (wVar 9) (wCons (wVar 12) (wNil))))) (wNil))))))))) (wRet (wL rTupleOf (wCons (wVar 7) (wNil))))))))
theorem walk_l_blocks {C_s : Unit}  {p_l_take : Sp3} {p_l_row : Sp3} {p_l_expression : Sp3} {k : Nat} (T : Mg mg)  {f : Addr} (cdv : Value) (A : Around) (outer : List Env) (s : Shared) (H : Hp) (E : XK) (hr : Room (k + 1) (A.deeper (envOfC "_law_blocks" (defScope s_l_blocks) s.heap.objs.size f cdv))) (F_l_take : Fd P w K mg base G "_law_take" (k + 1) p_l_take) (F_l_row : Fd P w K mg base G "_law_row" (k + 1) p_l_row) (F_l_expression : Fd P w K mg base G "_law_expression" (k + 1) p_l_expression) :
    PSs3 (CXF P w K mg base N_l_blocks "_law_blocks" s_l_blocks f cdv A outer s H E) G (defBody s_l_blocks) (W_l_blocks p_l_take p_l_row p_l_expression) := by
  unfold W_l_blocks
  exact is_cons (is_asg (i_dget (hu_of hr) (i_var 0) (i_str)) (ig_name 4 nd_l_blocks)) (is_cons (is_asg (i_bin rf_add (i_int) (i_call F_l_take hr (ia_cons (i_var 4) (ia_cons (i_int) (ia_nil))))) (ig_name 5 nd_l_blocks)) (is_cons (is_setLc 6 8 rfl nd_l_blocks (sw_true rfl rfl rfl (by decide +kernel)) (blkOk_by (N := N_l_blocks) (sc := defScope s_l_blocks) (by decide +kernel)) (ii_rg1 rfl T.range (ia_cons (i_bin rf_add (i_int) (i_call F_l_take hr (ia_cons (i_var 4) (ia_cons (i_var 2) (ia_nil))))) (ia_nil))) (fun _ _ _ _ _ => pg_name (i := 8) nd_l_blocks rfl (Or.inl rfl)) (fun _ _ _ _ _ => its_nil) (fun _ _ _ _ _ => i_bin rf_mod (i_callT rf_int1 rfl T.int b_int (ia_cons (i_bin rf_add (i_int) (i_bin rf_mul (i_var 5) (i_var 8))) (ia_nil))) (i_int))) (is_cons (is_asg (i_lst (ia_nil)) (ig_name 7 nd_l_blocks)) (is_cons (is_for PassesOwn.never rfl (ii_rg1 rfl T.range (ia_cons (i_callB rf_len rfl T.len b_len (ia_cons (i_var 6) (ia_nil))) (ia_nil))) (ig_name 8 nd_l_blocks) (is_cons (is_asg (i_callT rf_tupleOf rfl T.tuple b_tuple (ia_cons (i_lc 16 rfl nd_l_blocks (blkOk_by (N := N_l_blocks) (sc := defScope s_l_blocks) (by decide +kernel)) (ii_rg1 rfl T.range (ia_cons (i_call F_l_take hr (ia_cons (i_var 4) (ia_cons (i_bin rf_add (i_var 3) (i_int)) (ia_nil)))) (ia_nil))) (fun _ _ _ _ _ => pg_name (i := 16) nd_l_blocks rfl (Or.inl rfl)) (fun _ _ _ _ _ => its_nil) (fun _ _ _ _ _ => i_call F_l_row hr (ia_cons (i_var 0) (ia_cons (i_var 1) (ia_nil))))) (ia_nil))) (ig_name 9 nd_l_blocks)) (is_cons (is_asg (i_sl (i_var 6) (io_some (i_int)) (io_none)) (ig_name 10 nd_l_blocks)) (is_cons (is_asg (i_call F_l_take hr (ia_cons (i_var 4) (ia_cons (i_int) (ia_nil)))) (ig_name 11 nd_l_blocks)) (is_cons (is_if (it_w (iw_or (it_cmp (rf_eq hr.units) (i_var 10) (i_lst (ia_nil))) (iw_or1 (it_cmp (rf_eq hr.units) (i_var 11) (i_int))))) (is_one (is_asg (i_tup (ia_cons (i_str) (ia_cons (i_call F_l_expression hr (ia_cons (i_var 0) (ia_cons (i_int) (ia_nil)))) (ia_nil)))) (ig_name 12 nd_l_blocks))) (is_cons (is_asg (i_if (it_cmp (rf_ne hr.units) (i_sl (i_var 6) (io_some (i_bin rf_add (i_var 8) (i_int))) (io_none)) (i_lst (ia_nil))) (i_sl (i_var 6) (io_some (i_bin rf_add (i_var 8) (i_int))) (io_none)) (i_var 10)) (ig_name 13 nd_l_blocks)) (is_cons (is_asg (i_ix (i_var 13) (i_call F_l_take hr (ia_cons (i_var 4) (ia_cons (i_callB rf_len rfl T.len b_len (ia_cons (i_var 13) (ia_nil))) (ia_nil))))) (ig_name 14 nd_l_blocks)) (is_cons (is_asg (i_ix (i_var 10) (i_call F_l_take hr (ia_cons (i_var 4) (ia_cons (i_callB rf_len rfl T.len b_len (ia_cons (i_var 10) (ia_nil))) (ia_nil))))) (ig_name 15 nd_l_blocks)) (is_one (is_asg (i_if (it_cmp (rf_eq hr.units) (i_var 11) (i_int)) (i_tup (ia_cons (i_str) (ia_cons (i_var 14) (ia_nil)))) (i_tup (ia_cons (i_str) (ia_cons (i_call F_l_expression hr (ia_cons (i_var 0) (ia_cons (i_int) (ia_nil)))) (ia_cons (i_var 14) (ia_cons (i_var 15) (ia_nil))))))) (ig_name 12 nd_l_blocks))))))) (is_one (is_expr (i_append (i_var 7) (ia_cons (i_tup (ia_cons (i_ix (i_var 6) (i_var 8)) (ia_cons (i_var 9) (ia_cons (i_var 12) (ia_nil))))) (ia_nil)))))))))) (is_one (is_ret (i_callT rf_tupleOf rfl T.tuple b_tuple (ia_cons (i_var 7) (ia_nil)))))))))
/-! ### _law_program -/
abbrev s_l_program : Stmt := top 35
abbrev N_l_program : List Str := ["draw", "w", "blocks", "rows", "arrays", "p", "told", "made", "first", "procedures", "name", "params"]
theorem sc_l_program : FnScope N_l_program ["draw", "w", "blocks", "rows"] (defScope s_l_program) := ⟨rfl, rfl, rfl, by decide +kernel, rfl, by decide +kernel, by decide +kernel⟩
theorem nd_l_program : N_l_program.Nodup := sc_l_program.nd
def W_l_program  (p_l_take : Sp3) (p_l_blocks : Sp3) (p_l_variable : Sp3) : WS := wSeq (wAsg (w2 rIx (wL rLst (wCons (wL rTup (wNil)) (wCons (wL rTup (wNil)) (wCons (wL rTup (wCons (wL rTup (wCons (wC (.str "mem")) (wCons (w2 rAdd (wC (.int 1)) (wL p_l_take (wCons (wVar 0) (wCons (wC (.int 5)) (wNil))))) (wNil)))) (wNil))) (wCons (wL rTup (wCons (wL rTup (wCons (wC (.str "a")) (wCons (wC (.int 2)) (wNil)))) (wCons (wL rTup (wCons (wC (.str "mem")) (wCons (w2 rAdd (wC (.int 1)) (wL p_l_take (wCons (wVar 0) (wCons (wC (.int 3)) (wNil))))) (wNil)))) (wNil)))) (wCons (wL rTup (wCons (wL rTup (wCons (wC (.str "a")) (wCons (wC (.int 8)) (wNil)))) (wCons (wL rTup (wCons (wC (.str "b_2")) (wCons (wC (.int 3)) (wNil)))) (wCons (wL rTup (wCons (wC (.str "mem")) (wCons (w2 rAdd (wC (.int 1)) (wL p_l_take (wCons (wVar 0) (wCons (wC (.int 8)) (wNil))))) (wNil)))) (wNil))))) (wNil))))))) (wL p_l_take (wCons (wVar 0) (wCons (wC (.int 5)) (wNil))))) (gN 4)) (wSeq (wAsg (wDisp (ppsCons (wC (.str "draw")) (wVar 0) (ppsCons (wC (.str "width")) (wVar 1) (ppsCons (wC (.str "arrays")) (wVar 4) (ppsNil))))) (gN 5)) (wSeq (wAsg (w2 rIx (wL rLst (wCons (wL rLst (wNil)) (wCons (wL rLst (wNil)) (wCons (wL rLst (wCons (wL rTup (wCons (wC (.str "aid")) (wCons (wC (.int 1)) (wNil)))) (wNil))) (wCons (wL rLst (wCons (wL rTup (wCons (wC (.str "aid")) (wCons (wC (.int 2)) (wNil)))) (wCons (wL rTup (wCons (wC (.str "zig")) (wCons (wC (.int 0)) (wNil)))) (wNil)))) (wCons (wL rLst (wCons (wL rTup (wCons (wC (.str "aid")) (wCons (wC (.int 3)) (wNil)))) (wCons (wL rTup (wCons (wC (.str "zig")) (wCons (wC (.int 1)) (wNil)))) (wNil)))) (wNil))))))) (wL p_l_take (wCons (wVar 0) (wCons (wC (.int 5)) (wNil))))) (gN 6)) (wSeq (wAsg (wL p_l_blocks (wCons (wVar 5) (wCons (wVar 6) (wCons (wVar 2) (wCons (wVar 3) (wNil)))))) (gN 7)) (wSeq (wIfS (wB (w2 rGt (wL p_l_take (wCons (wVar 0) (wCons (wC (.int 3)) (wNil)))) (wC (.int 0)))) (wSeq (wAsg (wL rTup (wCons (w2 rIx (w2 rIx (wVar 7) (wC (.int 0))) (wC (.int 0))) (wCons (w2 rAdd (wL rTup (wCons (wL rTup (wCons (wC (.str "take")) (wCons (wC (.int 0)) (wNil)))) (wCons (wL rTup (wCons (wC (.str "take")) (wCons (wL p_l_variable (wCons (wVar 0) (wNil))) (wNil)))) (wNil)))) (w2 rIx (w2 rIx (wVar 7) (wC (.int 0))) (wC (.int 1)))) (wCons (w2 rIx (w2 rIx (wVar 7) (wC (.int 0))) (wC (.int 2))) (wNil))))) (gN 8)) (wAsg (w2 rAdd (wL rTup (wCons (wVar 8) (wNil))) (wSl (wVar 7) (oSome (wC (.int 1))) (oNone))) (gN 7))) (wNext)) (wSeq (wAsg (wL rLst (wCons (wL rTup (wCons (wC (.str "main")) (wCons (wC (.int 0)) (wCons (wVar 7) (wNil))))) (wNil))) (gN 9)) (wSeq (wFor (wIter (wVar 6)) (gT [gN 10, gN 11]) (wDrop (wAppend (wVar 9) (wCons (wL rTup (wCons (wVar 10) (wCons (wVar 11) (wCons (wL p_l_blocks (wCons (wVar 5) (wCons (wVar 6) (wCons (wL rMax2 (wCons (wC (.int 1)) (wCons (w2 rSub (wVar 2) (wC (.int 2))) (wNil)))) (wCons (wL rMax2 (wCons (wC (.int 1)) (wCons (w2 rSub (wVar 3) (wC (.int 1))) (wNil)))) (wNil)))))) (wNil))))) (wNil))))) (wRet (wL rTup (wCons (wVar 1) (wCons (wVar 4) (wCons (wL rTupleOf (wCons (wL rSorted (wCons (wVar 9) (wNil))) (wNil))) (wNil))))))))))))
theorem walk_l_program {C_s : Unit}  {p_l_take : Sp3} {p_l_blocks : Sp3} {p_l_variable : Sp3} {k : Nat} (T : Mg mg)  {f : Addr} (cdv : Value) (A : Around) (outer : List Env) (s : Shared) (H : Hp) (E : XK) (hr : Room (k + 1) (A.deeper (envOfC "_law_program" (defScope s_l_program) s.heap.objs.size f cdv))) (F_l_take : Fd P w K mg base G "_law_take" (k + 1) p_l_take) (F_l_blocks : Fd P w K mg base G "_law_blocks" (k + 1) p_l_blocks) (F_l_variable : Fd P w K mg base G "_law_variable" (k + 1) p_l_variable) :
    PSs3 (CXF P w K mg base N_l_program "_law_program" s_l_program f cdv A outer s H E) G (defBody s_l_program) (W_l_program p_l_take p_l_blocks p_l_variable) := by
  unfold W_l_program
  exact is_cons (is_asg (i_ix (i_lst (ia_cons (i_tup (ia_nil)) (ia_cons (i_tup (ia_nil)) (ia_cons (i_tup (ia_cons (i_tup (ia_cons (i_str) (ia_cons (i_bin rf_add (i_int) (i_call F_l_take hr (ia_cons (i_var 0) (ia_cons (i_int) (ia_nil))))) (ia_nil)))) (ia_nil))) (ia_cons (i_tup (ia_cons (i_tup (ia_cons (i_str) (ia_cons (i_int) (ia_nil)))) (ia_cons (i_tup (ia_cons (i_str) (ia_cons (i_bin rf_add (i_int) (i_call F_l_take hr (ia_cons (i_var 0) (ia_cons (i_int) (ia_nil))))) (ia_nil)))) (ia_nil)))) (ia_cons (i_tup (ia_cons (i_tup (ia_cons (i_str) (ia_cons (i_int) (ia_nil)))) (ia_cons (i_tup (ia_cons (i_str) (ia_cons (i_int) (ia_nil)))) (ia_cons (i_tup (ia_cons (i_str) (ia_cons (i_bin rf_add (i_int) (i_call F_l_take hr (ia_cons (i_var 0) (ia_cons (i_int) (ia_nil))))) (ia_nil)))) (ia_nil))))) (ia_nil))))))) (i_call F_l_take hr (ia_cons (i_var 0) (ia_cons (i_int) (ia_nil))))) (ig_name 4 nd_l_program)) (is_cons (is_asg (i_disp (ipps_cons (i_str) (i_var 0) (ipps_cons (i_str) (i_var 1) (ipps_cons (i_str) (i_var 4) (ipps_nil))))) (ig_name 5 nd_l_program)) (is_cons (is_asg (i_ix (i_lst (ia_cons (i_lst (ia_nil)) (ia_cons (i_lst (ia_nil)) (ia_cons (i_lst (ia_cons (i_tup (ia_cons (i_str) (ia_cons (i_int) (ia_nil)))) (ia_nil))) (ia_cons (i_lst (ia_cons (i_tup (ia_cons (i_str) (ia_cons (i_int) (ia_nil)))) (ia_cons (i_tup (ia_cons (i_str) (ia_cons (i_int) (ia_nil)))) (ia_nil)))) (ia_cons (i_lst (ia_cons (i_tup (ia_cons (i_str) (ia_cons (i_int) (ia_nil)))) (ia_cons (i_tup (ia_cons (i_str) (ia_cons (i_int) (ia_nil)))) (ia_nil)))) (ia_nil))))))) (i_call F_l_take hr (ia_cons (i_var 0) (ia_cons (i_int) (ia_nil))))) (ig_name 6 nd_l_program)) (is_cons (is_asg (i_call F_l_blocks hr (ia_cons (i_var 5) (ia_cons (i_var 6) (ia_cons (i_var 2) (ia_cons (i_var 3) (ia_nil)))))) (ig_name 7 nd_l_program)) (is_cons (is_if (it_cmp rf_gt (i_call F_l_take hr (ia_cons (i_var 0) (ia_cons (i_int) (ia_nil)))) (i_int)) (is_cons (is_asg (i_tup (ia_cons (i_ix (i_ix (i_var 7) (i_int)) (i_int)) (ia_cons (i_bin rf_add (i_tup (ia_cons (i_tup (ia_cons (i_str) (ia_cons (i_int) (ia_nil)))) (ia_cons (i_tup (ia_cons (i_str) (ia_cons (i_call F_l_variable hr (ia_cons (i_var 0) (ia_nil))) (ia_nil)))) (ia_nil)))) (i_ix (i_ix (i_var 7) (i_int)) (i_int))) (ia_cons (i_ix (i_ix (i_var 7) (i_int)) (i_int)) (ia_nil))))) (ig_name 8 nd_l_program)) (is_one (is_asg (i_bin rf_add (i_tup (ia_cons (i_var 8) (ia_nil))) (i_sl (i_var 7) (io_some (i_int)) (io_none))) (ig_name 7 nd_l_program)))) (is_nil)) (is_cons (is_asg (i_lst (ia_cons (i_tup (ia_cons (i_str) (ia_cons (i_int) (ia_cons (i_var 7) (ia_nil))))) (ia_nil))) (ig_name 9 nd_l_program)) (is_cons (is_for PassesOwn.never rfl (ii_any (i_var 6)) (ig_tup rfl (igs_cons (ig_name 10 nd_l_program) (igs_cons (ig_name 11 nd_l_program) (igs_nil)))) (is_one (is_expr (i_append (i_var 9) (ia_cons (i_tup (ia_cons (i_var 10) (ia_cons (i_var 11) (ia_cons (i_call F_l_blocks hr (ia_cons (i_var 5) (ia_cons (i_var 6) (ia_cons (i_callB (rf_max2 rfl) rfl T.max b_max (ia_cons (i_int) (ia_cons (i_bin rf_sub (i_var 2) (i_int)) (ia_nil)))) (ia_cons (i_callB (rf_max2 rfl) rfl T.max b_max (ia_cons (i_int) (ia_cons (i_bin rf_sub (i_var 3) (i_int)) (ia_nil)))) (ia_nil)))))) (ia_nil))))) (ia_nil)))))) (is_one (is_ret (i_tup (ia_cons (i_var 1) (ia_cons (i_var 4) (ia_cons (i_callT rf_tupleOf rfl T.tuple b_tuple (ia_cons (i_callB (rf_sorted (room70 hr)) rfl T.sorted b_sorted (ia_cons (i_var 9) (ia_nil))) (ia_nil))) (ia_nil)))))))))))))
/-! ### _law_shape -/
abbrev s_l_shape : Stmt := top 36
abbrev N_l_shape : List Str := ["draw", "most", "w"]
theorem sc_l_shape : FnScope N_l_shape ["draw", "most"] (defScope s_l_shape) := ⟨rfl, rfl, rfl, by decide +kernel, rfl, by decide +kernel, by decide +kernel⟩
theorem nd_l_shape : N_l_shape.Nodup := sc_l_shape.nd
def W_l_shape  (p_l_take : Sp3) : WS := wSeq (wAsg (w2 rIx (wL rLst (wCons (wC (.int 1)) (wCons (wC (.int 2)) (wCons (wC (.int 2)) (wCons (wC (.int 3)) (wCons (wC (.int 3)) (wCons (wC (.int 4)) (wNil)))))))) (wL p_l_take (wCons (wVar 0) (wCons (wC (.int 6)) (wNil))))) (gN 2)) (wRet (wL rTup (wCons (wVar 2) (wCons (wL p_l_take (wCons (wVar 0) (wCons (w2 rAdd (wL rMin2 (wCons (wC (.int 3)) (wCons (w2 rDiv (wVar 1) (wVar 2)) (wNil)))) (wC (.int 1))) (wNil)))) (wNil)))))
theorem walk_l_shape {C_s : Unit}  {p_l_take : Sp3} {k : Nat} (T : Mg mg)  {f : Addr} (cdv : Value) (A : Around) (outer : List Env) (s : Shared) (H : Hp) (E : XK) (hr : Room (k + 1) (A.deeper (envOfC "_law_shape" (defScope s_l_shape) s.heap.objs.size f cdv))) (F_l_take : Fd P w K mg base G "_law_take" (k + 1) p_l_take) :
    PSs3 (CXF P w K mg base N_l_shape "_law_shape" s_l_shape f cdv A outer s H E) G (defBody s_l_shape) (W_l_shape p_l_take) := by
  unfold W_l_shape
  exact is_cons (is_asg (i_ix (i_lst (ia_cons (i_int) (ia_cons (i_int) (ia_cons (i_int) (ia_cons (i_int) (ia_cons (i_int) (ia_cons (i_int) (ia_nil)))))))) (i_call F_l_take hr (ia_cons (i_var 0) (ia_cons (i_int) (ia_nil))))) (ig_name 2 nd_l_shape)) (is_one (is_ret (i_tup (ia_cons (i_var 2) (ia_cons (i_call F_l_take hr (ia_cons (i_var 0) (ia_cons (i_bin rf_add (i_callB (rf_min2 rfl) rfl T.min b_min (ia_cons (i_int) (ia_cons (i_bin rf_div (i_var 1) (i_var 2)) (ia_nil)))) (i_int)) (ia_nil)))) (ia_nil))))))
/-! ### _law_all -/
abbrev s_l_all : Stmt := top 37
abbrev N_l_all : List Str := ["w", "n", "rows", "k", "longer", "row", "x"]
theorem sc_l_all : FnScope N_l_all ["w", "n"] (defScope s_l_all) := ⟨rfl, rfl, rfl, by decide +kernel, rfl, by decide +kernel, by decide +kernel⟩
theorem nd_l_all : N_l_all.Nodup := sc_l_all.nd
def W_l_all   : WS := wSeq (wAsg (wL rLst (wCons (wL rTup (wNil)) (wNil))) (gN 2)) (wSeq (wFor (wRg1 (wCons (wVar 1) (wNil))) (gN 3) (wSeq (wAsg (wL rLst (wNil)) (gN 4)) (wSeq (wFor (wIter (wVar 2)) (gN 5) (wAsg (w2 rAdd (wVar 4) (wLc (wRg1 (wCons (w2 rShl (wC (.int 1)) (wVar 0)) (wNil))) 6 (wYes) (w2 rAdd (wVar 5) (wL rTup (wCons (wVar 6) (wNil)))))) (gN 4))) (wAsg (wVar 4) (gN 2))))) (wRet (wVar 2)))
theorem walk_l_all {C_s : Unit}   {k : Nat} (T : Mg mg)  {f : Addr} (cdv : Value) (A : Around) (outer : List Env) (s : Shared) (H : Hp) (E : XK) (hr : Room (k + 1) (A.deeper (envOfC "_law_all" (defScope s_l_all) s.heap.objs.size f cdv)))  :
    PSs3 (CXF P w K mg base N_l_all "_law_all" s_l_all f cdv A outer s H E) G (defBody s_l_all) (W_l_all ) := by
  unfold W_l_all
  exact is_cons (is_asg (i_lst (ia_cons (i_tup (ia_nil)) (ia_nil))) (ig_name 2 nd_l_all)) (is_cons (is_for PassesOwn.never rfl (ii_rg1 rfl T.range (ia_cons (i_var 1) (ia_nil))) (ig_name 3 nd_l_all) (is_cons (is_asg (i_lst (ia_nil)) (ig_name 4 nd_l_all)) (is_cons (is_for PassesOwn.never rfl (ii_any (i_var 2)) (ig_name 5 nd_l_all) (is_one (is_asg (i_bin rf_add (i_var 4) (i_lc 6 rfl nd_l_all (blkOk_by (N := N_l_all) (sc := defScope s_l_all) (by decide +kernel)) (ii_rg1 rfl T.range (ia_cons (i_bin rf_shl (i_int) (i_var 0)) (ia_nil))) (fun _ _ _ _ _ => pg_name (i := 6) nd_l_all rfl (Or.inl rfl)) (fun _ _ _ _ _ => its_nil) (fun _ _ _ _ _ => i_bin rf_add (i_var 5) (i_tup (ia_cons (i_var 6) (ia_nil)))))) (ig_name 4 nd_l_all)))) (is_one (is_asg (i_var 4) (ig_name 2 nd_l_all)))))) (is_one (is_ret (i_var 2))))
/-! ### _law_is_in -/
abbrev s_l_is_in : Stmt := top 38
abbrev N_l_is_in : List Str := ["value", "least", "most"]
theorem sc_l_is_in : FnScope N_l_is_in ["value", "least", "most"] (defScope s_l_is_in) := ⟨rfl, rfl, rfl, by decide +kernel, rfl, by decide +kernel, by decide +kernel⟩
theorem nd_l_is_in : N_l_is_in.Nodup := sc_l_is_in.nd
def W_l_is_in   : WS := wRet (wAndV (w1 (rIsi .int) (wVar 0)) (wAndV (wNotV (w1 (rIsi .bool) (wVar 0))) (wChain rLe rLe (wVar 1) (wVar 0) (wVar 2))))
theorem walk_l_is_in {C_s : Unit}   {k : Nat} (T : Mg mg)  {f : Addr} (cdv : Value) (A : Around) (outer : List Env) (s : Shared) (H : Hp) (E : XK) (hr : Room (k + 1) (A.deeper (envOfC "_law_is_in" (defScope s_l_is_in) s.heap.objs.size f cdv)))  :
    PSs3 (CXF P w K mg base N_l_is_in "_law_is_in" s_l_is_in f cdv A outer s H E) G (defBody s_l_is_in) (W_l_is_in ) := by
  unfold W_l_is_in
  exact is_one (is_ret (i_and (i_isi .int rfl T.isinstance b_isinstance rfl T.int b_int (i_var 0)) (i_and (i_not (i_isi .bool rfl T.isinstance b_isinstance rfl T.bool b_bool (i_var 0))) (i_one (i_chain rf_le rf_le (i_var 1) (i_var 0) (i_var 2))))))
/-! ### _law_is_name -/
abbrev s_l_is_name : Stmt := top 39
abbrev N_l_is_name : List Str := ["value", "letters", "sign"]
theorem sc_l_is_name : FnScope N_l_is_name ["value"] (defScope s_l_is_name) := ⟨rfl, rfl, rfl, by decide +kernel, rfl, by decide +kernel, by decide +kernel⟩
theorem nd_l_is_name : N_l_is_name.Nodup := sc_l_is_name.nd
def W_l_is_name  (p_l_ops : Sp3) : WS := wSeq (wIfS (wOr (wNot (wB (w1 (rIsi .str) (wVar 0)))) (wNot (wB (wChain rLe rLe (wC (.int 1)) (wL rLen (wCons (wVar 0) (wNil))) (wC (.int 20)))))) (wRet (wC (.bl false))) (wNext)) (wSeq (wIfS (wB (w2 (rIn false) (wVar 0) (w2 rAdd (wL p_l_ops wNil) (wL rLst (wCons (wC (.str "not")) (wCons (wC (.str "neg")) (wCons (wC (.str "width")) (wCons (wC (.str "array")) (wCons (wC (.str "procedure")) (wCons (wC (.str "block")) (wCons (wC (.str "put")) (wCons (wC (.str "take")) (wCons (wC (.str "assert")) (wCons (wC (.str "go")) (wCons (wC (.str "if")) (wCons (wC (.str "return")) (wNil))))))))))))))))) (wRet (wC (.bl false))) (wNext)) (wSeq (wAsg (wC (.str "abcdefghijklmnopqrstuvwxyz")) (gN 1)) (wSeq (wIfS (wOr (wB (w2 (rIn true) (w2 rIx (wVar 0) (wC (.int 0))) (wVar 1))) (wB (w2 rNe (wLc (wIter (wVar 0)) 2 (wB (w2 (rIn true) (wVar 2) (w2 rAdd (wVar 1) (wC (.str "0123456789_"))))) (wVar 2)) (wL rLst (wNil))))) (wRet (wC (.bl false))) (wNext)) (wRet (wNotV (wAndV (w2 rEq (w2 rIx (wVar 0) (wC (.int 0))) (wC (.str "v"))) (wAndV (w2 rGt (wL rLen (wCons (wVar 0) (wNil))) (wC (.int 1))) (w2 rEq (wLc (wIter (wSl (wVar 0) (oSome (wC (.int 1))) (oNone))) 2 (wB (w2 (rIn true) (wVar 2) (wC (.str "0123456789")))) (wVar 2)) (wL rLst (wNil))))))))))
theorem walk_l_is_name {C_s : Unit}  {p_l_ops : Sp3} {k : Nat} (T : Mg mg)  {f : Addr} (cdv : Value) (A : Around) (outer : List Env) (s : Shared) (H : Hp) (E : XK) (hr : Room (k + 1) (A.deeper (envOfC "_law_is_name" (defScope s_l_is_name) s.heap.objs.size f cdv))) (F_l_ops : Fd P w K mg base G "_law_ops" (k + 1) p_l_ops) :
    PSs3 (CXF P w K mg base N_l_is_name "_law_is_name" s_l_is_name f cdv A outer s H E) G (defBody s_l_is_name) (W_l_is_name p_l_ops) := by
  unfold W_l_is_name
  exact is_cons (is_if (it_w (iw_or (it_not (it_val (i_isi .str rfl T.isinstance b_isinstance rfl T.str b_str (i_var 0)))) (iw_or1 (it_not (it_chain rf_le rf_le (i_int) (i_callB rf_len rfl T.len b_len (ia_cons (i_var 0) (ia_nil))) (i_int)))))) (is_one (is_ret (i_bl))) (is_nil)) (is_cons (is_if (it_cmp (rf_in (room65 hr)) (i_var 0) (i_bin rf_add (i_call0 F_l_ops hr) (i_lst (ia_cons (i_str) (ia_cons (i_str) (ia_cons (i_str) (ia_cons (i_str) (ia_cons (i_str) (ia_cons (i_str) (ia_cons (i_str) (ia_cons (i_str) (ia_cons (i_str) (ia_cons (i_str) (ia_cons (i_str) (ia_cons (i_str) (ia_nil)))))))))))))))) (is_one (is_ret (i_bl))) (is_nil)) (is_cons (is_asg (i_str) (ig_name 1 nd_l_is_name)) (is_cons (is_if (it_w (iw_or (it_cmp (rf_notIn (room65 hr)) (i_ix (i_var 0) (i_int)) (i_var 1)) (iw_or1 (it_cmp (rf_ne hr.units) (i_lc 2 rfl nd_l_is_name (blkOk_by (N := N_l_is_name) (sc := defScope s_l_is_name) (by decide +kernel)) (ii_any (i_var 0)) (fun _ _ _ _ _ => pg_name (i := 2) nd_l_is_name rfl (Or.inl rfl)) (fun _ _ _ _ _ => its_one (it_cmp (rf_notIn (room65 hr)) (i_var 2) (i_bin rf_add (i_var 1) (i_str)))) (fun _ _ _ _ _ => i_var 2)) (i_lst (ia_nil)))))) (is_one (is_ret (i_bl))) (is_nil)) (is_one (is_ret (i_not (i_and (i_cmp (rf_eq hr.units) (i_ix (i_var 0) (i_int)) (i_str)) (i_and (i_cmp rf_gt (i_callB rf_len rfl T.len b_len (ia_cons (i_var 0) (ia_nil))) (i_int)) (i_one (i_cmp (rf_eq hr.units) (i_lc 2 rfl nd_l_is_name (blkOk_by (N := N_l_is_name) (sc := defScope s_l_is_name) (by decide +kernel)) (ii_any (i_sl (i_var 0) (io_some (i_int)) (io_none))) (fun _ _ _ _ _ => pg_name (i := 2) nd_l_is_name rfl (Or.inl rfl)) (fun _ _ _ _ _ => its_one (it_cmp (rf_notIn (room65 hr)) (i_var 2) (i_str))) (fun _ _ _ _ _ => i_var 2)) (i_lst (ia_nil))))))))))))
/-! ### _law_fits -/
abbrev s_l_fits : Stmt := top 40
abbrev N_l_fits : List Str := ["program", "e", "depth", "many", "row", "part"]
theorem sc_l_fits : FnScope N_l_fits ["program", "e", "depth"] (defScope s_l_fits) := ⟨rfl, rfl, rfl, by decide +kernel, rfl, by decide +kernel, by decide +kernel⟩
theorem nd_l_fits : N_l_fits.Nodup := sc_l_fits.nd
def W_l_fits  (p_l_is_in : Sp3) (p_l_top : Sp3) (p_l_fits : Sp3) (p_l_ops : Sp3) : WS := wSeq (wIfS (wOr (wNot (wB (w1 (rIsi .tuple) (wVar 1)))) (wOr (wB (w2 rLt (wL rLen (wCons (wVar 1) (wNil))) (wC (.int 2)))) (wOr (wB (w2 rLt (wVar 2) (wC (.int 1)))) (wNot (wB (w1 (rIsi .str) (w2 rIx (wVar 1) (wC (.int 0))))))))) (wRet (wC (.bl false))) (wNext)) (wSeq (wIfS (wB (w2 rEq (w2 rIx (wVar 1) (wC (.int 0))) (wC (.str "int")))) (wRet (wAndV (w2 rEq (wL rLen (wCons (wVar 1) (wNil))) (wC (.int 2))) (wL p_l_is_in (wCons (w2 rIx (wVar 1) (wC (.int 1))) (wCons (wC (.int 0)) (wCons (wL p_l_top (wCons (w2 rIx (wVar 0) (wC (.int 0))) (wNil))) (wNil))))))) (wNext)) (wSeq (wIfS (wB (w2 rEq (w2 rIx (wVar 1) (wC (.int 0))) (wC (.str "var")))) (wRet (wAndV (w2 rEq (wL rLen (wCons (wVar 1) (wNil))) (wC (.int 2))) (wL p_l_is_in (wCons (w2 rIx (wVar 1) (wC (.int 1))) (wCons (wC (.int 0)) (wCons (wC (.int 39)) (wNil))))))) (wNext)) (wSeq (wIfS (wB (w2 rEq (w2 rIx (wVar 1) (wC (.int 0))) (wC (.str "cell")))) (wRet (wAndV (w2 rEq (wL rLen (wCons (wVar 1) (wNil))) (wC (.int 3))) (wAndV (w2 (rIn false) (w2 rIx (wVar 1) (wC (.int 1))) (wLc (wIter (w2 rIx (wVar 0) (wC (.int 1)))) 4 (wYes) (w2 rIx (wVar 4) (wC (.int 0))))) (wL p_l_fits (wCons (wVar 0) (wCons (w2 rIx (wVar 1) (wC (.int 2))) (wCons (w2 rSub (wVar 2) (wC (.int 1))) (wNil)))))))) (wNext)) (wSeq (wAsg (wIf (wB (w2 (rIn false) (w2 rIx (wVar 1) (wC (.int 0))) (wL rTup (wCons (wC (.str "not")) (wCons (wC (.str "neg")) (wNil)))))) (wC (.int 2)) (wIf (wB (w2 (rIn false) (w2 rIx (wVar 1) (wC (.int 0))) (wL p_l_ops wNil))) (wC (.int 3)) (wC (.int 0)))) (gN 3)) (wRet (wAndV (w2 rEq (wL rLen (wCons (wVar 1) (wNil))) (wVar 3)) (w2 rEq (wLc (wIter (wSl (wVar 1) (oSome (wC (.int 1))) (oNone))) 5 (wNot (wB (wL p_l_fits (wCons (wVar 0) (wCons (wVar 5) (wCons (w2 rSub (wVar 2) (wC (.int 1))) (wNil))))))) (wVar 5)) (wL rLst (wNil)))))))))
theorem walk_l_fits {C_s : Unit}  {p_l_is_in : Sp3} {p_l_top : Sp3} {p_l_fits : Sp3} {p_l_ops : Sp3} {k : Nat} (T : Mg mg)  {f : Addr} (cdv : Value) (A : Around) (outer : List Env) (s : Shared) (H : Hp) (E : XK) (hr : Room (k + 1) (A.deeper (envOfC "_law_fits" (defScope s_l_fits) s.heap.objs.size f cdv))) (F_l_is_in : Fd P w K mg base G "_law_is_in" (k + 1) p_l_is_in) (F_l_top : Fd P w K mg base G "_law_top" (k + 1) p_l_top) (F_l_fits : Fd P w K mg base G "_law_fits" (k + 1) p_l_fits) (F_l_ops : Fd P w K mg base G "_law_ops" (k + 1) p_l_ops) :
    PSs3 (CXF P w K mg base N_l_fits "_law_fits" s_l_fits f cdv A outer s H E) G (defBody s_l_fits) (W_l_fits p_l_is_in p_l_top p_l_fits p_l_ops) := by
  unfold W_l_fits
  exact is_cons (is_if (it_w (iw_or (it_not (it_val (i_isi .tuple rfl T.isinstance b_isinstance rfl T.tuple b_tuple (i_var 1)))) (iw_or (it_cmp rf_lt (i_callB rf_len rfl T.len b_len (ia_cons (i_var 1) (ia_nil))) (i_int)) (iw_or (it_cmp rf_lt (i_var 2) (i_int)) (iw_or1 (it_not (it_val (i_isi .str rfl T.isinstance b_isinstance rfl T.str b_str (i_ix (i_var 1) (i_int)))))))))) (is_one (is_ret (i_bl))) (is_nil)) (is_cons (is_if (it_cmp (rf_eq hr.units) (i_ix (i_var 1) (i_int)) (i_str)) (is_one (is_ret (i_and (i_cmp (rf_eq hr.units) (i_callB rf_len rfl T.len b_len (ia_cons (i_var 1) (ia_nil))) (i_int)) (i_one (i_call F_l_is_in hr (ia_cons (i_ix (i_var 1) (i_int)) (ia_cons (i_int) (ia_cons (i_call F_l_top hr (ia_cons (i_ix (i_var 0) (i_int)) (ia_nil))) (ia_nil))))))))) (is_nil)) (is_cons (is_if (it_cmp (rf_eq hr.units) (i_ix (i_var 1) (i_int)) (i_str)) (is_one (is_ret (i_and (i_cmp (rf_eq hr.units) (i_callB rf_len rfl T.len b_len (ia_cons (i_var 1) (ia_nil))) (i_int)) (i_one (i_call F_l_is_in hr (ia_cons (i_ix (i_var 1) (i_int)) (ia_cons (i_int) (ia_cons (i_int) (ia_nil))))))))) (is_nil)) (is_cons (is_if (it_cmp (rf_eq hr.units) (i_ix (i_var 1) (i_int)) (i_str)) (is_one (is_ret (i_and (i_cmp (rf_eq hr.units) (i_callB rf_len rfl T.len b_len (ia_cons (i_var 1) (ia_nil))) (i_int)) (i_and (i_cmp (rf_in (room65 hr)) (i_ix (i_var 1) (i_int)) (i_lc 4 rfl nd_l_fits (blkOk_by (N := N_l_fits) (sc := defScope s_l_fits) (by decide +kernel)) (ii_any (i_ix (i_var 0) (i_int))) (fun _ _ _ _ _ => pg_name (i := 4) nd_l_fits rfl (Or.inl rfl)) (fun _ _ _ _ _ => its_nil) (fun _ _ _ _ _ => i_ix (i_var 4) (i_int)))) (i_one (i_call F_l_fits hr (ia_cons (i_var 0) (ia_cons (i_ix (i_var 1) (i_int)) (ia_cons (i_bin rf_sub (i_var 2) (i_int)) (ia_nil)))))))))) (is_nil)) (is_cons (is_asg (i_if (it_cmp (rf_in (room65 hr)) (i_ix (i_var 1) (i_int)) (i_tup (ia_cons (i_str) (ia_cons (i_str) (ia_nil))))) (i_int) (i_if (it_cmp (rf_in (room65 hr)) (i_ix (i_var 1) (i_int)) (i_call0 F_l_ops hr)) (i_int) (i_int))) (ig_name 3 nd_l_fits)) (is_one (is_ret (i_and (i_cmp (rf_eq hr.units) (i_callB rf_len rfl T.len b_len (ia_cons (i_var 1) (ia_nil))) (i_var 3)) (i_one (i_cmp (rf_eq hr.units) (i_lc 5 rfl nd_l_fits (blkOk_by (N := N_l_fits) (sc := defScope s_l_fits) (by decide +kernel)) (ii_any (i_sl (i_var 1) (io_some (i_int)) (io_none))) (fun _ _ _ _ _ => pg_name (i := 5) nd_l_fits rfl (Or.inl rfl)) (fun _ _ _ _ _ => its_one (it_not (it_val (i_call F_l_fits hr (ia_cons (i_var 0) (ia_cons (i_var 5) (ia_cons (i_bin rf_sub (i_var 2) (i_int)) (ia_nil)))))))) (fun _ _ _ _ _ => i_var 5)) (i_lst (ia_nil)))))))))))
/-! ### _law_row_fits -/
abbrev s_l_row_fits : Stmt := top 41
abbrev N_l_row_fits : List Str := ["program", "row", "shapes", "shape", "k", "part", "right", "other", "e"]
theorem sc_l_row_fits : FnScope N_l_row_fits ["program", "row"] (defScope s_l_row_fits) := ⟨rfl, rfl, rfl, by decide +kernel, rfl, by decide +kernel, by decide +kernel⟩
theorem nd_l_row_fits : N_l_row_fits.Nodup := sc_l_row_fits.nd
def W_l_row_fits  (p_l_is_in : Sp3) (p_l_fits : Sp3) : WS := wSeq (wIfS (wOr (wNot (wB (w1 (rIsi .tuple) (wVar 1)))) (wOr (wB (w2 rEq (wVar 1) (wL rTup (wNil)))) (wNot (wB (w1 (rIsi .str) (w2 rIx (wVar 1) (wC (.int 0)))))))) (wRet (wC (.bl false))) (wNext)) (wSeq (wAsg (wDisp (ppsCons (wC (.str "set")) (wC (.str "ve")) (ppsCons (wC (.str "take")) (wC (.str "v")) (ppsCons (wC (.str "put")) (wC (.str "e")) (ppsCons (wC (.str "store")) (wC (.str "aee")) (ppsCons (wC (.str "assert")) (wC (.str "ke")) (ppsCons (wC (.str "call")) (wC (.str "vpx")) (ppsNil)))))))) (gN 2)) (wSeq (wAsg (wDGet2 (wVar 2) (w2 rIx (wVar 1) (wC (.int 0))) (wC (.str "?"))) (gN 3)) (wSeq (wIfS (wOr (wB (w2 rEq (wVar 3) (wC (.str "?")))) (wB (w2 rNe (wL rLen (wCons (wVar 1) (wNil))) (w2 rAdd (wC (.int 1)) (wL rLen (wCons (wVar 3) (wNil))))))) (wRet (wC (.bl false))) (wNext)) (wSeq (wFor (wRg1 (wCons (wL rLen (wCons (wVar 3) (wNil))) (wNil))) (gN 4) (wSeq (wAsg (w2 rIx (wVar 1) (w2 rAdd (wC (.int 1)) (wVar 4))) (gN 5)) (wSeq (wAsg (wDGet2 (wDisp (ppsCons (wC (.str "v")) (wL p_l_is_in (wCons (wVar 5) (wCons (wC (.int 0)) (wCons (wC (.int 39)) (wNil))))) (ppsCons (wC (.str "k")) (wL p_l_is_in (wCons (wVar 5) (wCons (wC (.int 0)) (wCons (wC (.int 99)) (wNil))))) (ppsNil)))) (w2 rIx (wVar 3) (wVar 4)) (wC (.bl true))) (gN 6)) (wSeq (wIfS (wB (w2 rEq (w2 rIx (wVar 3) (wVar 4)) (wC (.str "e")))) (wAsg (wL p_l_fits (wCons (wVar 0) (wCons (wVar 5) (wCons (wC (.int 20)) (wNil))))) (gN 6)) (wNext)) (wSeq (wIfS (wB (w2 rEq (w2 rIx (wVar 3) (wVar 4)) (wC (.str "a")))) (wAsg (w2 (rIn false) (wVar 5) (wLc (wIter (w2 rIx (wVar 0) (wC (.int 1)))) 7 (wYes) (w2 rIx (wVar 7) (wC (.int 0))))) (gN 6)) (wNext)) (wSeq (wIfS (wB (w2 rEq (w2 rIx (wVar 3) (wVar 4)) (wC (.str "x")))) (wSeq (wAsg (wAndV (w1 (rIsi .tuple) (wVar 5)) (w2 rEq (wLc (wIter (wVar 5)) 8 (wNot (wB (wL p_l_fits (wCons (wVar 0) (wCons (wVar 8) (wCons (wC (.int 20)) (wNil))))))) (wVar 8)) (wL rLst (wNil)))) (gN 6)) (wAsg (wAndV (wVar 6) (w2 rNe (wLc (wIter (w2 rIx (wVar 0) (wC (.int 2)))) 7 (wAnd (wB (w2 rEq (w2 rIx (wVar 7) (wC (.int 0))) (w2 rIx (wVar 1) (wC (.int 2))))) (wAnd (wB (w2 rNe (w2 rIx (wVar 7) (wC (.int 0))) (wC (.str "main")))) (wB (w2 rEq (w2 rIx (wVar 7) (wC (.int 1))) (wL rLen (wCons (wVar 5) (wNil))))))) (wC (.int 1))) (wL rLst (wNil)))) (gN 6))) (wNext)) (wIfS (wNot (wB (wVar 6))) (wRet (wC (.bl false))) (wNext)))))))) (wRet (wC (.bl true)))))))
theorem walk_l_row_fits {C_s : Unit}  {p_l_is_in : Sp3} {p_l_fits : Sp3} {k : Nat} (T : Mg mg)  {f : Addr} (cdv : Value) (A : Around) (outer : List Env) (s : Shared) (H : Hp) (E : XK) (hr : Room (k + 1) (A.deeper (envOfC "_law_row_fits" (defScope s_l_row_fits) s.heap.objs.size f cdv))) (F_l_is_in : Fd P w K mg base G "_law_is_in" (k + 1) p_l_is_in) (F_l_fits : Fd P w K mg base G "_law_fits" (k + 1) p_l_fits) :
    PSs3 (CXF P w K mg base N_l_row_fits "_law_row_fits" s_l_row_fits f cdv A outer s H E) G (defBody s_l_row_fits) (W_l_row_fits p_l_is_in p_l_fits) := by
  unfold W_l_row_fits
  exact is_cons (is_if (it_w (iw_or (it_not (it_val (i_isi .tuple rfl T.isinstance b_isinstance rfl T.tuple b_tuple (i_var 1)))) (iw_or (it_cmp (rf_eq hr.units) (i_var 1) (i_tup (ia_nil))) (iw_or1 (it_not (it_val (i_isi .str rfl T.isinstance b_isinstance rfl T.str b_str (i_ix (i_var 1) (i_int))))))))) (is_one (is_ret (i_bl))) (is_nil)) (is_cons (is_asg (i_disp (ipps_cons (i_str) (i_str) (ipps_cons (i_str) (i_str) (ipps_cons (i_str) (i_str) (ipps_cons (i_str) (i_str) (ipps_cons (i_str) (i_str) (ipps_cons (i_str) (i_str) (ipps_nil)))))))) (ig_name 2 nd_l_row_fits)) (is_cons (is_asg (i_dget2 (hu_of hr) (i_var 2) (i_ix (i_var 1) (i_int)) (i_str)) (ig_name 3 nd_l_row_fits)) (is_cons (is_if (it_w (iw_or (it_cmp (rf_eq hr.units) (i_var 3) (i_str)) (iw_or1 (it_cmp (rf_ne hr.units) (i_callB rf_len rfl T.len b_len (ia_cons (i_var 1) (ia_nil))) (i_bin rf_add (i_int) (i_callB rf_len rfl T.len b_len (ia_cons (i_var 3) (ia_nil)))))))) (is_one (is_ret (i_bl))) (is_nil)) (is_cons (is_for PassesOwn.never rfl (ii_rg1 rfl T.range (ia_cons (i_callB rf_len rfl T.len b_len (ia_cons (i_var 3) (ia_nil))) (ia_nil))) (ig_name 4 nd_l_row_fits) (is_cons (is_asg (i_ix (i_var 1) (i_bin rf_add (i_int) (i_var 4))) (ig_name 5 nd_l_row_fits)) (is_cons (is_asg (i_dget2 (hu_of hr) (i_disp (ipps_cons (i_str) (i_call F_l_is_in hr (ia_cons (i_var 5) (ia_cons (i_int) (ia_cons (i_int) (ia_nil))))) (ipps_cons (i_str) (i_call F_l_is_in hr (ia_cons (i_var 5) (ia_cons (i_int) (ia_cons (i_int) (ia_nil))))) (ipps_nil)))) (i_ix (i_var 3) (i_var 4)) (i_bl)) (ig_name 6 nd_l_row_fits)) (is_cons (is_if (it_cmp (rf_eq hr.units) (i_ix (i_var 3) (i_var 4)) (i_str)) (is_one (is_asg (i_call F_l_fits hr (ia_cons (i_var 0) (ia_cons (i_var 5) (ia_cons (i_int) (ia_nil))))) (ig_name 6 nd_l_row_fits))) (is_nil)) (is_cons (is_if (it_cmp (rf_eq hr.units) (i_ix (i_var 3) (i_var 4)) (i_str)) (is_one (is_asg (i_cmp (rf_in (room65 hr)) (i_var 5) (i_lc 7 rfl nd_l_row_fits (blkOk_by (N := N_l_row_fits) (sc := defScope s_l_row_fits) (by decide +kernel)) (ii_any (i_ix (i_var 0) (i_int))) (fun _ _ _ _ _ => pg_name (i := 7) nd_l_row_fits rfl (Or.inl rfl)) (fun _ _ _ _ _ => its_nil) (fun _ _ _ _ _ => i_ix (i_var 7) (i_int)))) (ig_name 6 nd_l_row_fits))) (is_nil)) (is_cons (is_if (it_cmp (rf_eq hr.units) (i_ix (i_var 3) (i_var 4)) (i_str)) (is_cons (is_asg (i_and (i_isi .tuple rfl T.isinstance b_isinstance rfl T.tuple b_tuple (i_var 5)) (i_one (i_cmp (rf_eq hr.units) (i_lc 8 rfl nd_l_row_fits (blkOk_by (N := N_l_row_fits) (sc := defScope s_l_row_fits) (by decide +kernel)) (ii_any (i_var 5)) (fun _ _ _ _ _ => pg_name (i := 8) nd_l_row_fits rfl (Or.inl rfl)) (fun _ _ _ _ _ => its_one (it_not (it_val (i_call F_l_fits hr (ia_cons (i_var 0) (ia_cons (i_var 8) (ia_cons (i_int) (ia_nil)))))))) (fun _ _ _ _ _ => i_var 8)) (i_lst (ia_nil))))) (ig_name 6 nd_l_row_fits)) (is_one (is_asg (i_and (i_var 6) (i_one (i_cmp (rf_ne hr.units) (i_lc 7 rfl nd_l_row_fits (blkOk_by (N := N_l_row_fits) (sc := defScope s_l_row_fits) (by decide +kernel)) (ii_any (i_ix (i_var 0) (i_int))) (fun _ _ _ _ _ => pg_name (i := 7) nd_l_row_fits rfl (Or.inl rfl)) (fun _ _ _ _ _ => its_one (it_w (iw_and (it_cmp (rf_eq hr.units) (i_ix (i_var 7) (i_int)) (i_ix (i_var 1) (i_int))) (iw_and (it_cmp (rf_ne hr.units) (i_ix (i_var 7) (i_int)) (i_str)) (iw_and1 (it_cmp (rf_eq hr.units) (i_ix (i_var 7) (i_int)) (i_callB rf_len rfl T.len b_len (ia_cons (i_var 5) (ia_nil))))))))) (fun _ _ _ _ _ => i_int)) (i_lst (ia_nil))))) (ig_name 6 nd_l_row_fits)))) (is_nil)) (is_one (is_if (it_not (it_val (i_var 6))) (is_one (is_ret (i_bl))) (is_nil))))))))) (is_one (is_ret (i_bl)))))))
/-! ### _law_end_fits -/
abbrev s_l_end_fits : Stmt := top 42
abbrev N_l_end_fits : List Str := ["program", "end"]
theorem sc_l_end_fits : FnScope N_l_end_fits ["program", "end"] (defScope s_l_end_fits) := ⟨rfl, rfl, rfl, by decide +kernel, rfl, by decide +kernel, by decide +kernel⟩
theorem nd_l_end_fits : N_l_end_fits.Nodup := sc_l_end_fits.nd
def W_l_end_fits  (p_l_is_in : Sp3) (p_l_fits : Sp3) : WS := wSeq (wIfS (wOr (wNot (wB (w1 (rIsi .tuple) (wVar 1)))) (wOr (wB (w2 rLt (wL rLen (wCons (wVar 1) (wNil))) (wC (.int 2)))) (wNot (wB (w1 (rIsi .str) (w2 rIx (wVar 1) (wC (.int 0)))))))) (wRet (wC (.bl false))) (wNext)) (wSeq (wIfS (wB (w2 rEq (w2 rIx (wVar 1) (wC (.int 0))) (wC (.str "go")))) (wRet (wAndV (w2 rEq (wL rLen (wCons (wVar 1) (wNil))) (wC (.int 2))) (wL p_l_is_in (wCons (w2 rIx (wVar 1) (wC (.int 1))) (wCons (wC (.int 0)) (wCons (wC (.int 999)) (wNil))))))) (wNext)) (wSeq (wIfS (wB (w2 rEq (w2 rIx (wVar 1) (wC (.int 0))) (wC (.str "if")))) (wRet (wAndV (w2 rEq (wL rLen (wCons (wVar 1) (wNil))) (wC (.int 4))) (wAndV (wL p_l_fits (wCons (wVar 0) (wCons (w2 rIx (wVar 1) (wC (.int 1))) (wCons (wC (.int 20)) (wNil))))) (wAndV (wL p_l_is_in (wCons (w2 rIx (wVar 1) (wC (.int 2))) (wCons (wC (.int 0)) (wCons (wC (.int 999)) (wNil))))) (wL p_l_is_in (wCons (w2 rIx (wVar 1) (wC (.int 3))) (wCons (wC (.int 0)) (wCons (wC (.int 999)) (wNil))))))))) (wNext)) (wRet (wAndV (w2 rEq (w2 rIx (wVar 1) (wC (.int 0))) (wC (.str "return"))) (wAndV (w2 rEq (wL rLen (wCons (wVar 1) (wNil))) (wC (.int 2))) (wL p_l_fits (wCons (wVar 0) (wCons (w2 rIx (wVar 1) (wC (.int 1))) (wCons (wC (.int 20)) (wNil))))))))))
theorem walk_l_end_fits {C_s : Unit}  {p_l_is_in : Sp3} {p_l_fits : Sp3} {k : Nat} (T : Mg mg)  {f : Addr} (cdv : Value) (A : Around) (outer : List Env) (s : Shared) (H : Hp) (E : XK) (hr : Room (k + 1) (A.deeper (envOfC "_law_end_fits" (defScope s_l_end_fits) s.heap.objs.size f cdv))) (F_l_is_in : Fd P w K mg base G "_law_is_in" (k + 1) p_l_is_in) (F_l_fits : Fd P w K mg base G "_law_fits" (k + 1) p_l_fits) :
    PSs3 (CXF P w K mg base N_l_end_fits "_law_end_fits" s_l_end_fits f cdv A outer s H E) G (defBody s_l_end_fits) (W_l_end_fits p_l_is_in p_l_fits) := by
  unfold W_l_end_fits
  exact is_cons (is_if (it_w (iw_or (it_not (it_val (i_isi .tuple rfl T.isinstance b_isinstance rfl T.tuple b_tuple (i_var 1)))) (iw_or (it_cmp rf_lt (i_callB rf_len rfl T.len b_len (ia_cons (i_var 1) (ia_nil))) (i_int)) (iw_or1 (it_not (it_val (i_isi .str rfl T.isinstance b_isinstance rfl T.str b_str (i_ix (i_var 1) (i_int))))))))) (is_one (is_ret (i_bl))) (is_nil)) (is_cons (is_if (it_cmp (rf_eq hr.units) (i_ix (i_var 1) (i_int)) (i_str)) (is_one (is_ret (i_and (i_cmp (rf_eq hr.units) (i_callB rf_len rfl T.len b_len (ia_cons (i_var 1) (ia_nil))) (i_int)) (i_one (i_call F_l_is_in hr (ia_cons (i_ix (i_var 1) (i_int)) (ia_cons (i_int) (ia_cons (i_int) (ia_nil))))))))) (is_nil)) (is_cons (is_if (it_cmp (rf_eq hr.units) (i_ix (i_var 1) (i_int)) (i_str)) (is_one (is_ret (i_and (i_cmp (rf_eq hr.units) (i_callB rf_len rfl T.len b_len (ia_cons (i_var 1) (ia_nil))) (i_int)) (i_and (i_call F_l_fits hr (ia_cons (i_var 0) (ia_cons (i_ix (i_var 1) (i_int)) (ia_cons (i_int) (ia_nil))))) (i_and (i_call F_l_is_in hr (ia_cons (i_ix (i_var 1) (i_int)) (ia_cons (i_int) (ia_cons (i_int) (ia_nil))))) (i_one (i_call F_l_is_in hr (ia_cons (i_ix (i_var 1) (i_int)) (ia_cons (i_int) (ia_cons (i_int) (ia_nil))))))))))) (is_nil)) (is_one (is_ret (i_and (i_cmp (rf_eq hr.units) (i_ix (i_var 1) (i_int)) (i_str)) (i_and (i_cmp (rf_eq hr.units) (i_callB rf_len rfl T.len b_len (ia_cons (i_var 1) (ia_nil))) (i_int)) (i_one (i_call F_l_fits hr (ia_cons (i_var 0) (ia_cons (i_ix (i_var 1) (i_int)) (ia_cons (i_int) (ia_nil))))))))))))
/-! ### _law_formed -/
abbrev s_l_formed : Stmt := top 43
abbrev N_l_formed : List Str := ["value", "row", "block"]
theorem sc_l_formed : FnScope N_l_formed ["value"] (defScope s_l_formed) := ⟨rfl, rfl, rfl, by decide +kernel, rfl, by decide +kernel, by decide +kernel⟩
theorem nd_l_formed : N_l_formed.Nodup := sc_l_formed.nd
def W_l_formed  (p_l_is_in : Sp3) (p_l_is_name : Sp3) : WS := wSeq (wIfS (wOr (wNot (wB (w1 (rIsi .tuple) (wVar 0)))) (wOr (wB (w2 rNe (wL rLen (wCons (wVar 0) (wNil))) (wC (.int 3)))) (wNot (wB (wL p_l_is_in (wCons (w2 rIx (wVar 0) (wC (.int 0))) (wCons (wC (.int 1)) (wCons (wC (.int 16)) (wNil))))))))) (wRet (wC (.bl false))) (wNext)) (wSeq (wIfS (wOr (wNot (wB (w1 (rIsi .tuple) (w2 rIx (wVar 0) (wC (.int 1)))))) (wNot (wB (w1 (rIsi .tuple) (w2 rIx (wVar 0) (wC (.int 2))))))) (wRet (wC (.bl false))) (wNext)) (wSeq (wFor (wIter (w2 rIx (wVar 0) (wC (.int 1)))) (gN 1) (wIfS (wOr (wNot (wB (w1 (rIsi .tuple) (wVar 1)))) (wOr (wB (w2 rNe (wL rLen (wCons (wVar 1) (wNil))) (wC (.int 2)))) (wOr (wNot (wB (wL p_l_is_name (wCons (w2 rIx (wVar 1) (wC (.int 0))) (wNil))))) (wNot (wB (wL p_l_is_in (wCons (w2 rIx (wVar 1) (wC (.int 1))) (wCons (wC (.int 1)) (wCons (wC (.int 8)) (wNil)))))))))) (wRet (wC (.bl false))) (wNext))) (wSeq (wIfS (wB (w2 rNe (wLc (wIter (w2 rIx (wVar 0) (wC (.int 1)))) 1 (wYes) (w2 rIx (wVar 1) (wC (.int 0)))) (w1 rSortSetS (wLc (wIter (w2 rIx (wVar 0) (wC (.int 1)))) 1 (wYes) (w2 rIx (wVar 1) (wC (.int 0))))))) (wRet (wC (.bl false))) (wNext)) (wSeq (wFor (wIter (w2 rIx (wVar 0) (wC (.int 2)))) (gN 1) (wSeq (wIfS (wOr (wNot (wB (w1 (rIsi .tuple) (wVar 1)))) (wOr (wB (w2 rNe (wL rLen (wCons (wVar 1) (wNil))) (wC (.int 3)))) (wOr (wNot (wB (w1 (rIsi .str) (w2 rIx (wVar 1) (wC (.int 0)))))) (wNot (wB (wL p_l_is_in (wCons (w2 rIx (wVar 1) (wC (.int 1))) (wCons (wC (.int 0)) (wCons (wC (.int 6)) (wNil)))))))))) (wRet (wC (.bl false))) (wNext)) (wSeq (wIfS (wOr (wNot (wB (w1 (rIsi .tuple) (w2 rIx (wVar 1) (wC (.int 2)))))) (wB (w2 rEq (w2 rIx (wVar 1) (wC (.int 2))) (wL rTup (wNil))))) (wRet (wC (.bl false))) (wNext)) (wFor (wIter (w2 rIx (wVar 1) (wC (.int 2)))) (gN 2) (wIfS (wOr (wNot (wB (w1 (rIsi .tuple) (wVar 2)))) (wOr (wB (w2 rNe (wL rLen (wCons (wVar 2) (wNil))) (wC (.int 3)))) (wNot (wB (w1 (rIsi .tuple) (w2 rIx (wVar 2) (wC (.int 1)))))))) (wRet (wC (.bl false))) (wNext)))))) (wRet (wC (.bl true)))))))
theorem walk_l_formed {C_s : Unit}  {p_l_is_in : Sp3} {p_l_is_name : Sp3} {k : Nat} (T : Mg mg)  {f : Addr} (cdv : Value) (A : Around) (outer : List Env) (s : Shared) (H : Hp) (E : XK) (hr : Room (k + 1) (A.deeper (envOfC "_law_formed" (defScope s_l_formed) s.heap.objs.size f cdv))) (F_l_is_in : Fd P w K mg base G "_law_is_in" (k + 1) p_l_is_in) (F_l_is_name : Fd P w K mg base G "_law_is_name" (k + 1) p_l_is_name) :
    PSs3 (CXF P w K mg base N_l_formed "_law_formed" s_l_formed f cdv A outer s H E) G (defBody s_l_formed) (W_l_formed p_l_is_in p_l_is_name) := by
  unfold W_l_formed
  exact is_cons (is_if (it_w (iw_or (it_not (it_val (i_isi .tuple rfl T.isinstance b_isinstance rfl T.tuple b_tuple (i_var 0)))) (iw_or (it_cmp (rf_ne hr.units) (i_callB rf_len rfl T.len b_len (ia_cons (i_var 0) (ia_nil))) (i_int)) (iw_or1 (it_not (it_val (i_call F_l_is_in hr (ia_cons (i_ix (i_var 0) (i_int)) (ia_cons (i_int) (ia_cons (i_int) (ia_nil))))))))))) (is_one (is_ret (i_bl))) (is_nil)) (is_cons (is_if (it_w (iw_or (it_not (it_val (i_isi .tuple rfl T.isinstance b_isinstance rfl T.tuple b_tuple (i_ix (i_var 0) (i_int))))) (iw_or1 (it_not (it_val (i_isi .tuple rfl T.isinstance b_isinstance rfl T.tuple b_tuple (i_ix (i_var 0) (i_int)))))))) (is_one (is_ret (i_bl))) (is_nil)) (is_cons (is_for PassesOwn.never rfl (ii_any (i_ix (i_var 0) (i_int))) (ig_name 1 nd_l_formed) (is_one (is_if (it_w (iw_or (it_not (it_val (i_isi .tuple rfl T.isinstance b_isinstance rfl T.tuple b_tuple (i_var 1)))) (iw_or (it_cmp (rf_ne hr.units) (i_callB rf_len rfl T.len b_len (ia_cons (i_var 1) (ia_nil))) (i_int)) (iw_or (it_not (it_val (i_call F_l_is_name hr (ia_cons (i_ix (i_var 1) (i_int)) (ia_nil))))) (iw_or1 (it_not (it_val (i_call F_l_is_in hr (ia_cons (i_ix (i_var 1) (i_int)) (ia_cons (i_int) (ia_cons (i_int) (ia_nil)))))))))))) (is_one (is_ret (i_bl))) (is_nil)))) (is_cons (is_if (it_cmp (rf_ne hr.units) (i_lc 1 rfl nd_l_formed (blkOk_by (N := N_l_formed) (sc := defScope s_l_formed) (by decide +kernel)) (ii_any (i_ix (i_var 0) (i_int))) (fun _ _ _ _ _ => pg_name (i := 1) nd_l_formed rfl (Or.inl rfl)) (fun _ _ _ _ _ => its_nil) (fun _ _ _ _ _ => i_ix (i_var 1) (i_int))) (i_sortSetS rfl (room70 hr) rfl T.sorted rfl T.set (i_lc 1 rfl nd_l_formed (blkOk_by (N := N_l_formed) (sc := defScope s_l_formed) (by decide +kernel)) (ii_any (i_ix (i_var 0) (i_int))) (fun _ _ _ _ _ => pg_name (i := 1) nd_l_formed rfl (Or.inl rfl)) (fun _ _ _ _ _ => its_nil) (fun _ _ _ _ _ => i_ix (i_var 1) (i_int))))) (is_one (is_ret (i_bl))) (is_nil)) (is_cons (is_for PassesOwn.never rfl (ii_any (i_ix (i_var 0) (i_int))) (ig_name 1 nd_l_formed) (is_cons (is_if (it_w (iw_or (it_not (it_val (i_isi .tuple rfl T.isinstance b_isinstance rfl T.tuple b_tuple (i_var 1)))) (iw_or (it_cmp (rf_ne hr.units) (i_callB rf_len rfl T.len b_len (ia_cons (i_var 1) (ia_nil))) (i_int)) (iw_or (it_not (it_val (i_isi .str rfl T.isinstance b_isinstance rfl T.str b_str (i_ix (i_var 1) (i_int))))) (iw_or1 (it_not (it_val (i_call F_l_is_in hr (ia_cons (i_ix (i_var 1) (i_int)) (ia_cons (i_int) (ia_cons (i_int) (ia_nil)))))))))))) (is_one (is_ret (i_bl))) (is_nil)) (is_cons (is_if (it_w (iw_or (it_not (it_val (i_isi .tuple rfl T.isinstance b_isinstance rfl T.tuple b_tuple (i_ix (i_var 1) (i_int))))) (iw_or1 (it_cmp (rf_eq hr.units) (i_ix (i_var 1) (i_int)) (i_tup (ia_nil)))))) (is_one (is_ret (i_bl))) (is_nil)) (is_one (is_for PassesOwn.never rfl (ii_any (i_ix (i_var 1) (i_int))) (ig_name 2 nd_l_formed) (is_one (is_if (it_w (iw_or (it_not (it_val (i_isi .tuple rfl T.isinstance b_isinstance rfl T.tuple b_tuple (i_var 2)))) (iw_or (it_cmp (rf_ne hr.units) (i_callB rf_len rfl T.len b_len (ia_cons (i_var 2) (ia_nil))) (i_int)) (iw_or1 (it_not (it_val (i_isi .tuple rfl T.isinstance b_isinstance rfl T.tuple b_tuple (i_ix (i_var 2) (i_int))))))))) (is_one (is_ret (i_bl))) (is_nil)))))))) (is_one (is_ret (i_bl)))))))
/-! ### _law_due -/
abbrev s_l_due : Stmt := top 44
abbrev N_l_due : List Str := ["value", "found", "names", "mains", "p", "blocks", "labels", "b", "label", "body", "end", "aims", "row", "name", "block", "aim"]
theorem sc_l_due : FnScope N_l_due ["value"] (defScope s_l_due) := ⟨rfl, rfl, rfl, by decide +kernel, rfl, by decide +kernel, by decide +kernel⟩
theorem nd_l_due : N_l_due.Nodup := sc_l_due.nd
def W_l_due  (p_l_formed : Sp3) (p_l_is_name : Sp3) (p_l_is_in : Sp3) (p_l_row_fits : Sp3) (p_l_end_fits : Sp3) : WS := wSeq (wIfS (wNot (wB (wL p_l_formed (wCons (wVar 0) (wNil))))) (wRet (wL rLst (wCons (wL rTup (wCons (wL rTup (wNil)) (wCons (wC (.str "form")) (wNil)))) (wNil)))) (wNext)) (wSeq (wAsg (wL rLst (wNil)) (gN 1)) (wSeq (wAsg (wLc (wIter (w2 rIx (wVar 0) (wC (.int 2)))) 12 (wYes) (w2 rIx (wVar 12) (wC (.int 0)))) (gN 2)) (wSeq (wAsg (wLc (wIter (w2 rIx (wVar 0) (wC (.int 2)))) 12 (wAnd (wB (w2 rEq (w2 rIx (wVar 12) (wC (.int 0))) (wC (.str "main")))) (wB (w2 rEq (w2 rIx (wVar 12) (wC (.int 1))) (wC (.int 0))))) (wVar 12)) (gN 3)) (wSeq (wIfS (wOr (wB (w2 rNe (wLc (wIter (wVar 2)) 13 (wNot (wB (wL p_l_is_name (wCons (wVar 13) (wNil))))) (wVar 13)) (wL rLst (wNil)))) (wOr (wB (w2 rNe (wVar 2) (w1 rSortSetS (wVar 2)))) (wB (w2 rEq (wVar 3) (wL rLst (wNil)))))) (wDrop (wAppend (wVar 1) (wCons (wL rTup (wCons (wL rTup (wNil)) (wCons (wC (.str "name")) (wNil)))) (wNil)))) (wNext)) (wSeq (wFor (wRg1 (wCons (wL rLen (wCons (w2 rIx (wVar 0) (wC (.int 2))) (wNil))) (wNil))) (gN 4) (wSeq (wAsg (w2 rIx (w2 rIx (w2 rIx (wVar 0) (wC (.int 2))) (wVar 4)) (wC (.int 2))) (gN 5)) (wSeq (wAsg (wLc (wIter (wVar 5)) 14 (wYes) (w2 rIx (wVar 14) (wC (.int 0)))) (gN 6)) (wFor (wRg1 (wCons (wL rLen (wCons (wVar 5) (wNil))) (wNil))) (gN 7) (wSeq (wAsg (w2 rIx (wVar 5) (wVar 7)) (gT [gN 8, gN 9, gN 10])) (wSeq (wIfS (wNot (wB (wL p_l_is_in (wCons (wVar 8) (wCons (wC (.int 0)) (wCons (wC (.int 999)) (wNil))))))) (wDrop (wAppend (wVar 1) (wCons (wL rTup (wCons (wL rTup (wCons (wVar 4) (wCons (wVar 7) (wNil)))) (wCons (wC (.str "label")) (wNil)))) (wNil)))) (wNext)) (wSeq (wIfS (wB (w2 (rIn false) (wVar 8) (wSl (wVar 6) (oNone) (oSome (wVar 7))))) (wDrop (wAppend (wVar 1) (wCons (wL rTup (wCons (wL rTup (wCons (wVar 4) (wCons (wVar 7) (wNil)))) (wCons (wC (.str "twice")) (wNil)))) (wNil)))) (wNext)) (wSeq (wIfS (wB (w2 rNe (wLc (wIter (wVar 9)) 12 (wNot (wB (wL p_l_row_fits (wCons (wVar 0) (wCons (wVar 12) (wNil)))))) (wVar 12)) (wL rLst (wNil)))) (wDrop (wAppend (wVar 1) (wCons (wL rTup (wCons (wL rTup (wCons (wVar 4) (wCons (wVar 7) (wNil)))) (wCons (wC (.str "statement")) (wNil)))) (wNil)))) (wNext)) (wSeq (wIfS (wNot (wB (wL p_l_end_fits (wCons (wVar 0) (wCons (wVar 10) (wNil)))))) (wSeq (wDrop (wAppend (wVar 1) (wCons (wL rTup (wCons (wL rTup (wCons (wVar 4) (wCons (wVar 7) (wNil)))) (wCons (wC (.str "end")) (wNil)))) (wNil)))) (wCont)) (wNext)) (wSeq (wAsg (w2 rDGet (wDisp (ppsCons (wC (.str "go")) (wL rLst (wCons (w2 rIx (wVar 10) (wC (.int 1))) (wNil))) (ppsCons (wC (.str "if")) (wL rListOf (wCons (wSl (wVar 10) (oSome (wC (.int 2))) (oNone)) (wNil))) (ppsCons (wC (.str "return")) (wL rLst (wNil)) (ppsNil))))) (w2 rIx (wVar 10) (wC (.int 0)))) (gN 11)) (wSeq (wIfS (wB (w2 rNe (wLc (wIter (wVar 11)) 15 (wB (w2 (rIn true) (wVar 15) (wVar 6))) (wVar 15)) (wL rLst (wNil)))) (wDrop (wAppend (wVar 1) (wCons (wL rTup (wCons (wL rTup (wCons (wVar 4) (wCons (wVar 7) (wNil)))) (wCons (wC (.str "target")) (wNil)))) (wNil)))) (wNext)) (wIfS (wB (w2 (rIn false) (w2 rIx (wVar 6) (wC (.int 0))) (wVar 11))) (wDrop (wAppend (wVar 1) (wCons (wL rTup (wCons (wL rTup (wCons (wVar 4) (wCons (wVar 7) (wNil)))) (wCons (wC (.str "entry")) (wNil)))) (wNil)))) (wNext))))))))))))) (wRet (w1 rSortSetN (wVar 1))))))))
theorem walk_l_due {C_s : Unit}  {p_l_formed : Sp3} {p_l_is_name : Sp3} {p_l_is_in : Sp3} {p_l_row_fits : Sp3} {p_l_end_fits : Sp3} {k : Nat} (T : Mg mg)  {f : Addr} (cdv : Value) (A : Around) (outer : List Env) (s : Shared) (H : Hp) (E : XK) (hr : Room (k + 1) (A.deeper (envOfC "_law_due" (defScope s_l_due) s.heap.objs.size f cdv))) (F_l_formed : Fd P w K mg base G "_law_formed" (k + 1) p_l_formed) (F_l_is_name : Fd P w K mg base G "_law_is_name" (k + 1) p_l_is_name) (F_l_is_in : Fd P w K mg base G "_law_is_in" (k + 1) p_l_is_in) (F_l_row_fits : Fd P w K mg base G "_law_row_fits" (k + 1) p_l_row_fits) (F_l_end_fits : Fd P w K mg base G "_law_end_fits" (k + 1) p_l_end_fits) :
    PSs3 (CXF P w K mg base N_l_due "_law_due" s_l_due f cdv A outer s H E) G (defBody s_l_due) (W_l_due p_l_formed p_l_is_name p_l_is_in p_l_row_fits p_l_end_fits) := by
  unfold W_l_due
  exact is_cons (is_if (it_not (it_val (i_call F_l_formed hr (ia_cons (i_var 0) (ia_nil))))) (is_one (is_ret (i_lst (ia_cons (i_tup (ia_cons (i_tup (ia_nil)) (ia_cons (i_str) (ia_nil)))) (ia_nil))))) (is_nil)) (is_cons (is_asg (i_lst (ia_nil)) (ig_name 1 nd_l_due)) (is_cons (is_setLc 2 12 rfl nd_l_due (sw_true rfl rfl rfl (by decide +kernel)) (blkOk_by (N := N_l_due) (sc := defScope s_l_due) (by decide +kernel)) (ii_any (i_ix (i_var 0) (i_int))) (fun _ _ _ _ _ => pg_name (i := 12) nd_l_due rfl (Or.inl rfl)) (fun _ _ _ _ _ => its_nil) (fun _ _ _ _ _ => i_ix (i_var 12) (i_int))) (is_cons (is_setLc 3 12 rfl nd_l_due (sw_true rfl rfl rfl (by decide +kernel)) (blkOk_by (N := N_l_due) (sc := defScope s_l_due) (by decide +kernel)) (ii_any (i_ix (i_var 0) (i_int))) (fun _ _ _ _ _ => pg_name (i := 12) nd_l_due rfl (Or.inl rfl)) (fun _ _ _ _ _ => its_one (it_w (iw_and (it_cmp (rf_eq hr.units) (i_ix (i_var 12) (i_int)) (i_str)) (iw_and1 (it_cmp (rf_eq hr.units) (i_ix (i_var 12) (i_int)) (i_int)))))) (fun _ _ _ _ _ => i_var 12)) (is_cons (is_if (it_w (iw_or (it_cmp (rf_ne hr.units) (i_lc 13 rfl nd_l_due (blkOk_by (N := N_l_due) (sc := defScope s_l_due) (by decide +kernel)) (ii_any (i_var 2)) (fun _ _ _ _ _ => pg_name (i := 13) nd_l_due rfl (Or.inl rfl)) (fun _ _ _ _ _ => its_one (it_not (it_val (i_call F_l_is_name hr (ia_cons (i_var 13) (ia_nil)))))) (fun _ _ _ _ _ => i_var 13)) (i_lst (ia_nil))) (iw_or (it_cmp (rf_ne hr.units) (i_var 2) (i_sortSetS rfl (room70 hr) rfl T.sorted rfl T.set (i_var 2))) (iw_or1 (it_cmp (rf_eq hr.units) (i_var 3) (i_lst (ia_nil))))))) (is_one (is_expr (i_append (i_var 1) (ia_cons (i_tup (ia_cons (i_tup (ia_nil)) (ia_cons (i_str) (ia_nil)))) (ia_nil))))) (is_nil)) (is_cons (is_for PassesOwn.never rfl (ii_rg1 rfl T.range (ia_cons (i_callB rf_len rfl T.len b_len (ia_cons (i_ix (i_var 0) (i_int)) (ia_nil))) (ia_nil))) (ig_name 4 nd_l_due) (is_cons (is_asg (i_ix (i_ix (i_ix (i_var 0) (i_int)) (i_var 4)) (i_int)) (ig_name 5 nd_l_due)) (is_cons (is_asg (i_lc 14 rfl nd_l_due (blkOk_by (N := N_l_due) (sc := defScope s_l_due) (by decide +kernel)) (ii_any (i_var 5)) (fun _ _ _ _ _ => pg_name (i := 14) nd_l_due rfl (Or.inl rfl)) (fun _ _ _ _ _ => its_nil) (fun _ _ _ _ _ => i_ix (i_var 14) (i_int))) (ig_name 6 nd_l_due)) (is_one (is_for PassesOwn.never rfl (ii_rg1 rfl T.range (ia_cons (i_callB rf_len rfl T.len b_len (ia_cons (i_var 5) (ia_nil))) (ia_nil))) (ig_name 7 nd_l_due) (is_cons (is_asg (i_ix (i_var 5) (i_var 7)) (ig_tup rfl (igs_cons (ig_name 8 nd_l_due) (igs_cons (ig_name 9 nd_l_due) (igs_cons (ig_name 10 nd_l_due) (igs_nil)))))) (is_cons (is_if (it_not (it_val (i_call F_l_is_in hr (ia_cons (i_var 8) (ia_cons (i_int) (ia_cons (i_int) (ia_nil))))))) (is_one (is_expr (i_append (i_var 1) (ia_cons (i_tup (ia_cons (i_tup (ia_cons (i_var 4) (ia_cons (i_var 7) (ia_nil)))) (ia_cons (i_str) (ia_nil)))) (ia_nil))))) (is_nil)) (is_cons (is_if (it_cmp (rf_in (room65 hr)) (i_var 8) (i_sl (i_var 6) (io_none) (io_some (i_var 7)))) (is_one (is_expr (i_append (i_var 1) (ia_cons (i_tup (ia_cons (i_tup (ia_cons (i_var 4) (ia_cons (i_var 7) (ia_nil)))) (ia_cons (i_str) (ia_nil)))) (ia_nil))))) (is_nil)) (is_cons (is_if (it_cmp (rf_ne hr.units) (i_lc 12 rfl nd_l_due (blkOk_by (N := N_l_due) (sc := defScope s_l_due) (by decide +kernel)) (ii_any (i_var 9)) (fun _ _ _ _ _ => pg_name (i := 12) nd_l_due rfl (Or.inl rfl)) (fun _ _ _ _ _ => its_one (it_not (it_val (i_call F_l_row_fits hr (ia_cons (i_var 0) (ia_cons (i_var 12) (ia_nil))))))) (fun _ _ _ _ _ => i_var 12)) (i_lst (ia_nil))) (is_one (is_expr (i_append (i_var 1) (ia_cons (i_tup (ia_cons (i_tup (ia_cons (i_var 4) (ia_cons (i_var 7) (ia_nil)))) (ia_cons (i_str) (ia_nil)))) (ia_nil))))) (is_nil)) (is_cons (is_if (it_not (it_val (i_call F_l_end_fits hr (ia_cons (i_var 0) (ia_cons (i_var 10) (ia_nil)))))) (is_cons (is_expr (i_append (i_var 1) (ia_cons (i_tup (ia_cons (i_tup (ia_cons (i_var 4) (ia_cons (i_var 7) (ia_nil)))) (ia_cons (i_str) (ia_nil)))) (ia_nil)))) (is_one (is_cont))) (is_nil)) (is_cons (is_asg (i_dget (hu_of hr) (i_disp (ipps_cons (i_str) (i_lst (ia_cons (i_ix (i_var 10) (i_int)) (ia_nil))) (ipps_cons (i_str) (i_callT rf_listOf rfl T.list b_list (ia_cons (i_sl (i_var 10) (io_some (i_int)) (io_none)) (ia_nil))) (ipps_cons (i_str) (i_lst (ia_nil)) (ipps_nil))))) (i_ix (i_var 10) (i_int))) (ig_name 11 nd_l_due)) (is_cons (is_if (it_cmp (rf_ne hr.units) (i_lc 15 rfl nd_l_due (blkOk_by (N := N_l_due) (sc := defScope s_l_due) (by decide +kernel)) (ii_any (i_var 11)) (fun _ _ _ _ _ => pg_name (i := 15) nd_l_due rfl (Or.inl rfl)) (fun _ _ _ _ _ => its_one (it_cmp (rf_notIn (room65 hr)) (i_var 15) (i_var 6))) (fun _ _ _ _ _ => i_var 15)) (i_lst (ia_nil))) (is_one (is_expr (i_append (i_var 1) (ia_cons (i_tup (ia_cons (i_tup (ia_cons (i_var 4) (ia_cons (i_var 7) (ia_nil)))) (ia_cons (i_str) (ia_nil)))) (ia_nil))))) (is_nil)) (is_one (is_if (it_cmp (rf_in (room65 hr)) (i_ix (i_var 6) (i_int)) (i_var 11)) (is_one (is_expr (i_append (i_var 1) (ia_cons (i_tup (ia_cons (i_tup (ia_cons (i_var 4) (ia_cons (i_var 7) (ia_nil)))) (ia_cons (i_str) (ia_nil)))) (ia_nil))))) (is_nil))))))))))))))) (is_one (is_ret (i_sortSetN rfl (room70 hr) rfl T.sorted rfl T.set (i_var 1)))))))))
/-! ### _law_deep -/
abbrev s_l_deep : Stmt := top 45
abbrev N_l_deep : List Str := ["e", "many", "k"]
theorem sc_l_deep : FnScope N_l_deep ["e", "many"] (defScope s_l_deep) := ⟨rfl, rfl, rfl, by decide +kernel, rfl, by decide +kernel, by decide +kernel⟩
theorem nd_l_deep : N_l_deep.Nodup := sc_l_deep.nd
def W_l_deep   : WS := wSeq (wFor (wRg1 (wCons (wVar 1) (wNil))) (gN 2) (wAsg (wL rTup (wCons (wC (.str "not")) (wCons (wVar 0) (wNil)))) (gN 0))) (wRet (wVar 0))
theorem walk_l_deep {C_s : Unit}   {k : Nat} (T : Mg mg)  {f : Addr} (cdv : Value) (A : Around) (outer : List Env) (s : Shared) (H : Hp) (E : XK) (hr : Room (k + 1) (A.deeper (envOfC "_law_deep" (defScope s_l_deep) s.heap.objs.size f cdv)))  :
    PSs3 (CXF P w K mg base N_l_deep "_law_deep" s_l_deep f cdv A outer s H E) G (defBody s_l_deep) (W_l_deep ) := by
  unfold W_l_deep
  exact is_cons (is_for PassesOwn.never rfl (ii_rg1 rfl T.range (ia_cons (i_var 1) (ia_nil))) (ig_name 2 nd_l_deep) (is_one (is_asg (i_tup (ia_cons (i_str) (ia_cons (i_var 0) (ia_nil)))) (ig_name 0 nd_l_deep)))) (is_one (is_ret (i_var 0)))
/-! ### _law_bent_row -/
abbrev s_l_bent_row : Stmt := top 46
abbrev N_l_bent_row : List Str := ["draw", "program", "rows", "calls", "name", "size", "every"]
theorem sc_l_bent_row : FnScope N_l_bent_row ["draw", "program"] (defScope s_l_bent_row) := ⟨rfl, rfl, rfl, by decide +kernel, rfl, by decide +kernel, by decide +kernel⟩
theorem nd_l_bent_row : N_l_bent_row.Nodup := sc_l_bent_row.nd
def W_l_bent_row  (p_l_deep : Sp3) (p_l_take : Sp3) : WS := wSeq (wAsg (wL rLst (wCons (wL rTup (wCons (wC (.str "set")) (wCons (wC (.int 39)) (wCons (wL rTup (wCons (wC (.str "int")) (wCons (wC (.int 0)) (wNil)))) (wNil))))) (wCons (wL rTup (wCons (wC (.str "set")) (wCons (wC (.int 40)) (wCons (wL rTup (wCons (wC (.str "int")) (wCons (wC (.int 0)) (wNil)))) (wNil))))) (wCons (wL rTup (wCons (wC (.str "set")) (wCons (wC (.bl true)) (wCons (wL rTup (wCons (wC (.str "int")) (wCons (wC (.int 0)) (wNil)))) (wNil))))) (wCons (wL rTup (wCons (wC (.str "set")) (wCons (wC (.int 0)) (wCons (wL p_l_deep (wCons (wL rTup (wCons (wC (.str "var")) (wCons (wC (.int 39)) (wNil)))) (wCons (wC (.int 19)) (wNil)))) (wNil))))) (wCons (wL rTup (wCons (wC (.str "set")) (wCons (wC (.int 0)) (wCons (wL p_l_deep (wCons (wL rTup (wCons (wC (.str "var")) (wCons (wC (.int 39)) (wNil)))) (wCons (wC (.int 20)) (wNil)))) (wNil))))) (wCons (wL rTup (wCons (wC (.str "set")) (wCons (wC (.int 0)) (wCons (wL rTup (wCons (wC (.str "var")) (wCons (wC (.int 40)) (wNil)))) (wNil))))) (wCons (wL rTup (wCons (wC (.str "set")) (wCons (wC (.int 0)) (wCons (wL rTup (wCons (wC (.str "int")) (wCons (w2 rShl (wC (.int 1)) (w2 rIx (wVar 1) (wC (.int 0)))) (wNil)))) (wNil))))) (wCons (wL rTup (wCons (wC (.str "set")) (wCons (wC (.int 0)) (wNil)))) (wCons (wL rTup (wCons (wC (.str "set")) (wCons (wC (.int 0)) (wCons (wL rTup (wCons (wC (.str "int")) (wCons (w1 rNeg (wC (.int 1))) (wNil)))) (wNil))))) (wCons (wL rTup (wCons (wC (.str "take")) (wCons (wC (.int 3)) (wNil)))) (wCons (wL rTup (wCons (wC (.str "take")) (wCons (w1 rNeg (wC (.int 1))) (wNil)))) (wCons (wL rTup (wCons (wC (.str "take")) (wCons (wC (.int 3)) (wCons (wC (.int 4)) (wNil))))) (wCons (wL rTup (wCons (wC (.str "put")) (wCons (wL rTup (wCons (wC (.str "int")) (wCons (wC (.int 1)) (wNil)))) (wNil)))) (wCons (wL rTup (wCons (wC (.str "put")) (wCons (wC (.int 1)) (wNil)))) (wCons (wL rTup (wCons (wC (.str "put")) (wCons (wL rTup (wCons (wC (.str "cell")) (wCons (wC (.str "no")) (wCons (wL rTup (wCons (wC (.str "int")) (wCons (wC (.int 0)) (wNil)))) (wNil))))) (wNil)))) (wCons (wL rTup (wCons (wC (.str "store")) (wCons (wC (.str "no")) (wCons (wL rTup (wCons (wC (.str "int")) (wCons (wC (.int 0)) (wNil)))) (wCons (wL rTup (wCons (wC (.str "int")) (wCons (wC (.int 0)) (wNil)))) (wNil)))))) (wCons (wL rTup (wCons (wC (.str "assert")) (wCons (wC (.int 99)) (wCons (wL rTup (wCons (wC (.str "var")) (wCons (wC (.int 1)) (wNil)))) (wNil))))) (wCons (wL rTup (wCons (wC (.str "assert")) (wCons (wC (.int 100)) (wCons (wL rTup (wCons (wC (.str "var")) (wCons (wC (.int 1)) (wNil)))) (wNil))))) (wCons (wL rTup (wCons (wC (.str "assert")) (wCons (wC (.int 1)) (wNil)))) (wCons (wL rTup (wNil)) (wCons (wC .non) (wCons (wL rTup (wCons (wC (.str "jump")) (wCons (wC (.int 1)) (wNil)))) (wCons (wL rTup (wCons (wC (.str "put")) (wCons (wL rTup (wCons (wC (.str "pow")) (wCons (wL rTup (wCons (wC (.str "int")) (wCons (wC (.int 1)) (wNil)))) (wCons (wL rTup (wCons (wC (.str "int")) (wCons (wC (.int 1)) (wNil)))) (wNil))))) (wNil)))) (wCons (wL rTup (wCons (wC (.str "put")) (wCons (wL rTup (wCons (wC (.str "add")) (wCons (wL rTup (wCons (wC (.str "int")) (wCons (wC (.int 1)) (wNil)))) (wNil)))) (wNil)))) (wCons (wL rTup (wCons (wC (.str "put")) (wCons (wL rTup (wCons (wC (.str "neg")) (wCons (wL rTup (wCons (wC (.str "int")) (wCons (wC (.int 1)) (wNil)))) (wCons (wL rTup (wCons (wC (.str "int")) (wCons (wC (.int 1)) (wNil)))) (wNil))))) (wNil)))) (wCons (wL rTup (wCons (wC (.str "put")) (wCons (wL rLst (wCons (wC (.str "int")) (wCons (wC (.int 1)) (wNil)))) (wNil)))) (wNil)))))))))))))))))))))))))))) (gN 2)) (wSeq (wAsg (wL rLst (wCons (wL rTup (wCons (wC (.str "call")) (wCons (wC (.int 0)) (wCons (wC (.str "main")) (wCons (wL rTup (wNil)) (wNil)))))) (wCons (wL rTup (wCons (wC (.str "call")) (wCons (wC (.int 0)) (wCons (wC (.str "aid")) (wCons (wL rTup (wCons (wL rTup (wCons (wC (.str "int")) (wCons (wC (.int 1)) (wNil)))) (wCons (wL rTup (wCons (wC (.str "int")) (wCons (wC (.int 0)) (wNil)))) (wNil)))) (wNil)))))) (wCons (wL rTup (wCons (wC (.str "call")) (wCons (wC (.int 0)) (wCons (wC (.str "aid")) (wCons (wL rTup (wCons (wL rTup (wCons (wC (.str "int")) (wCons (wC (.int 1)) (wNil)))) (wNil))) (wNil)))))) (wCons (wL rTup (wCons (wC (.str "call")) (wCons (wC (.int 0)) (wCons (wC (.str "nobody")) (wCons (wL rTup (wNil)) (wNil)))))) (wCons (wL rTup (wCons (wC (.str "call")) (wCons (wC (.int 0)) (wCons (wC (.str "zig")) (wCons (wL rTup (wNil)) (wNil)))))) (wCons (wL rTup (wCons (wC (.str "call")) (wCons (wC (.int 40)) (wCons (wC (.str "zig")) (wCons (wL rTup (wNil)) (wNil)))))) (wCons (wL rTup (wCons (wC (.str "call")) (wCons (wC (.int 0)) (wCons (wC (.str "zig")) (wCons (wL rLst (wNil)) (wNil)))))) (wCons (wL rTup (wCons (wC (.str "call")) (wCons (wC (.int 0)) (wCons (wC (.str "aid")) (wCons (wL rTup (wCons (wL rTup (wCons (wC (.str "int")) (wCons (w1 rNeg (wC (.int 1))) (wNil)))) (wNil))) (wNil)))))) (wNil)))))))))) (gN 3)) (wSeq (wFor (wIter (w2 rIx (wVar 1) (wC (.int 1)))) (gT [gN 4, gN 5]) (wAsg (w2 rAdd (wVar 2) (wL rLst (wCons (wL rTup (wCons (wC (.str "store")) (wCons (wVar 4) (wCons (wL rTup (wCons (wC (.str "int")) (wCons (wC (.int 1)) (wNil)))) (wCons (wL rTup (wCons (wC (.str "var")) (wCons (wC (.int 2)) (wNil)))) (wNil)))))) (wCons (wL rTup (wCons (wC (.str "put")) (wCons (wL rTup (wCons (wC (.str "cell")) (wCons (wVar 4) (wCons (wL rTup (wCons (wC (.str "cell")) (wCons (wVar 4) (wCons (wL rTup (wCons (wC (.str "int")) (wCons (wC (.int 0)) (wNil)))) (wNil))))) (wNil))))) (wNil)))) (wCons (wL rTup (wCons (wC (.str "store")) (wCons (wVar 4) (wCons (wL rTup (wCons (wC (.str "int")) (wCons (wC (.int 1)) (wNil)))) (wNil))))) (wNil)))))) (gN 2))) (wSeq (wAsg (w2 rAdd (wVar 2) (wVar 3)) (gN 6)) (wRet (w2 rIx (wVar 6) (wL p_l_take (wCons (wVar 0) (wCons (wL rLen (wCons (wVar 6) (wNil))) (wNil)))))))))
theorem walk_l_bent_row {C_s : Unit}  {p_l_deep : Sp3} {p_l_take : Sp3} {k : Nat} (T : Mg mg)  {f : Addr} (cdv : Value) (A : Around) (outer : List Env) (s : Shared) (H : Hp) (E : XK) (hr : Room (k + 1) (A.deeper (envOfC "_law_bent_row" (defScope s_l_bent_row) s.heap.objs.size f cdv))) (F_l_deep : Fd P w K mg base G "_law_deep" (k + 1) p_l_deep) (F_l_take : Fd P w K mg base G "_law_take" (k + 1) p_l_take) :
    PSs3 (CXF P w K mg base N_l_bent_row "_law_bent_row" s_l_bent_row f cdv A outer s H E) G (defBody s_l_bent_row) (W_l_bent_row p_l_deep p_l_take) := by
  unfold W_l_bent_row
  exact is_cons (is_asg (i_lst (ia_cons (i_tup (ia_cons (i_str) (ia_cons (i_int) (ia_cons (i_tup (ia_cons (i_str) (ia_cons (i_int) (ia_nil)))) (ia_nil))))) (ia_cons (i_tup (ia_cons (i_str) (ia_cons (i_int) (ia_cons (i_tup (ia_cons (i_str) (ia_cons (i_int) (ia_nil)))) (ia_nil))))) (ia_cons (i_tup (ia_cons (i_str) (ia_cons (i_bl) (ia_cons (i_tup (ia_cons (i_str) (ia_cons (i_int) (ia_nil)))) (ia_nil))))) (ia_cons (i_tup (ia_cons (i_str) (ia_cons (i_int) (ia_cons (i_call F_l_deep hr (ia_cons (i_tup (ia_cons (i_str) (ia_cons (i_int) (ia_nil)))) (ia_cons (i_int) (ia_nil)))) (ia_nil))))) (ia_cons (i_tup (ia_cons (i_str) (ia_cons (i_int) (ia_cons (i_call F_l_deep hr (ia_cons (i_tup (ia_cons (i_str) (ia_cons (i_int) (ia_nil)))) (ia_cons (i_int) (ia_nil)))) (ia_nil))))) (ia_cons (i_tup (ia_cons (i_str) (ia_cons (i_int) (ia_cons (i_tup (ia_cons (i_str) (ia_cons (i_int) (ia_nil)))) (ia_nil))))) (ia_cons (i_tup (ia_cons (i_str) (ia_cons (i_int) (ia_cons (i_tup (ia_cons (i_str) (ia_cons (i_bin rf_shl (i_int) (i_ix (i_var 1) (i_int))) (ia_nil)))) (ia_nil))))) (ia_cons (i_tup (ia_cons (i_str) (ia_cons (i_int) (ia_nil)))) (ia_cons (i_tup (ia_cons (i_str) (ia_cons (i_int) (ia_cons (i_tup (ia_cons (i_str) (ia_cons (i_un rf_neg' (i_int)) (ia_nil)))) (ia_nil))))) (ia_cons (i_tup (ia_cons (i_str) (ia_cons (i_int) (ia_nil)))) (ia_cons (i_tup (ia_cons (i_str) (ia_cons (i_un rf_neg' (i_int)) (ia_nil)))) (ia_cons (i_tup (ia_cons (i_str) (ia_cons (i_int) (ia_cons (i_int) (ia_nil))))) (ia_cons (i_tup (ia_cons (i_str) (ia_cons (i_tup (ia_cons (i_str) (ia_cons (i_int) (ia_nil)))) (ia_nil)))) (ia_cons (i_tup (ia_cons (i_str) (ia_cons (i_int) (ia_nil)))) (ia_cons (i_tup (ia_cons (i_str) (ia_cons (i_tup (ia_cons (i_str) (ia_cons (i_str) (ia_cons (i_tup (ia_cons (i_str) (ia_cons (i_int) (ia_nil)))) (ia_nil))))) (ia_nil)))) (ia_cons (i_tup (ia_cons (i_str) (ia_cons (i_str) (ia_cons (i_tup (ia_cons (i_str) (ia_cons (i_int) (ia_nil)))) (ia_cons (i_tup (ia_cons (i_str) (ia_cons (i_int) (ia_nil)))) (ia_nil)))))) (ia_cons (i_tup (ia_cons (i_str) (ia_cons (i_int) (ia_cons (i_tup (ia_cons (i_str) (ia_cons (i_int) (ia_nil)))) (ia_nil))))) (ia_cons (i_tup (ia_cons (i_str) (ia_cons (i_int) (ia_cons (i_tup (ia_cons (i_str) (ia_cons (i_int) (ia_nil)))) (ia_nil))))) (ia_cons (i_tup (ia_cons (i_str) (ia_cons (i_int) (ia_nil)))) (ia_cons (i_tup (ia_nil)) (ia_cons (i_non) (ia_cons (i_tup (ia_cons (i_str) (ia_cons (i_int) (ia_nil)))) (ia_cons (i_tup (ia_cons (i_str) (ia_cons (i_tup (ia_cons (i_str) (ia_cons (i_tup (ia_cons (i_str) (ia_cons (i_int) (ia_nil)))) (ia_cons (i_tup (ia_cons (i_str) (ia_cons (i_int) (ia_nil)))) (ia_nil))))) (ia_nil)))) (ia_cons (i_tup (ia_cons (i_str) (ia_cons (i_tup (ia_cons (i_str) (ia_cons (i_tup (ia_cons (i_str) (ia_cons (i_int) (ia_nil)))) (ia_nil)))) (ia_nil)))) (ia_cons (i_tup (ia_cons (i_str) (ia_cons (i_tup (ia_cons (i_str) (ia_cons (i_tup (ia_cons (i_str) (ia_cons (i_int) (ia_nil)))) (ia_cons (i_tup (ia_cons (i_str) (ia_cons (i_int) (ia_nil)))) (ia_nil))))) (ia_nil)))) (ia_cons (i_tup (ia_cons (i_str) (ia_cons (i_lst (ia_cons (i_str) (ia_cons (i_int) (ia_nil)))) (ia_nil)))) (ia_nil)))))))))))))))))))))))))))) (ig_name 2 nd_l_bent_row)) (is_cons (is_asg (i_lst (ia_cons (i_tup (ia_cons (i_str) (ia_cons (i_int) (ia_cons (i_str) (ia_cons (i_tup (ia_nil)) (ia_nil)))))) (ia_cons (i_tup (ia_cons (i_str) (ia_cons (i_int) (ia_cons (i_str) (ia_cons (i_tup (ia_cons (i_tup (ia_cons (i_str) (ia_cons (i_int) (ia_nil)))) (ia_cons (i_tup (ia_cons (i_str) (ia_cons (i_int) (ia_nil)))) (ia_nil)))) (ia_nil)))))) (ia_cons (i_tup (ia_cons (i_str) (ia_cons (i_int) (ia_cons (i_str) (ia_cons (i_tup (ia_cons (i_tup (ia_cons (i_str) (ia_cons (i_int) (ia_nil)))) (ia_nil))) (ia_nil)))))) (ia_cons (i_tup (ia_cons (i_str) (ia_cons (i_int) (ia_cons (i_str) (ia_cons (i_tup (ia_nil)) (ia_nil)))))) (ia_cons (i_tup (ia_cons (i_str) (ia_cons (i_int) (ia_cons (i_str) (ia_cons (i_tup (ia_nil)) (ia_nil)))))) (ia_cons (i_tup (ia_cons (i_str) (ia_cons (i_int) (ia_cons (i_str) (ia_cons (i_tup (ia_nil)) (ia_nil)))))) (ia_cons (i_tup (ia_cons (i_str) (ia_cons (i_int) (ia_cons (i_str) (ia_cons (i_lst (ia_nil)) (ia_nil)))))) (ia_cons (i_tup (ia_cons (i_str) (ia_cons (i_int) (ia_cons (i_str) (ia_cons (i_tup (ia_cons (i_tup (ia_cons (i_str) (ia_cons (i_un rf_neg' (i_int)) (ia_nil)))) (ia_nil))) (ia_nil)))))) (ia_nil)))))))))) (ig_name 3 nd_l_bent_row)) (is_cons (is_for PassesOwn.never rfl (ii_any (i_ix (i_var 1) (i_int))) (ig_tup rfl (igs_cons (ig_name 4 nd_l_bent_row) (igs_cons (ig_name 5 nd_l_bent_row) (igs_nil)))) (is_one (is_asg (i_bin rf_add (i_var 2) (i_lst (ia_cons (i_tup (ia_cons (i_str) (ia_cons (i_var 4) (ia_cons (i_tup (ia_cons (i_str) (ia_cons (i_int) (ia_nil)))) (ia_cons (i_tup (ia_cons (i_str) (ia_cons (i_int) (ia_nil)))) (ia_nil)))))) (ia_cons (i_tup (ia_cons (i_str) (ia_cons (i_tup (ia_cons (i_str) (ia_cons (i_var 4) (ia_cons (i_tup (ia_cons (i_str) (ia_cons (i_var 4) (ia_cons (i_tup (ia_cons (i_str) (ia_cons (i_int) (ia_nil)))) (ia_nil))))) (ia_nil))))) (ia_nil)))) (ia_cons (i_tup (ia_cons (i_str) (ia_cons (i_var 4) (ia_cons (i_tup (ia_cons (i_str) (ia_cons (i_int) (ia_nil)))) (ia_nil))))) (ia_nil)))))) (ig_name 2 nd_l_bent_row)))) (is_cons (is_asg (i_bin rf_add (i_var 2) (i_var 3)) (ig_name 6 nd_l_bent_row)) (is_one (is_ret (i_ix (i_var 6) (i_call F_l_take hr (ia_cons (i_var 0) (ia_cons (i_callB rf_len rfl T.len b_len (ia_cons (i_var 6) (ia_nil))) (ia_nil))))))))))
/-! ### _law_put -/
abbrev s_l_put : Stmt := top 47
abbrev N_l_put : List Str := ["program", "p", "row"]
theorem sc_l_put : FnScope N_l_put ["program", "p", "row"] (defScope s_l_put) := ⟨rfl, rfl, rfl, by decide +kernel, rfl, by decide +kernel, by decide +kernel⟩
theorem nd_l_put : N_l_put.Nodup := sc_l_put.nd
def W_l_put   : WS := wRet (wL rTup (wCons (w2 rIx (wVar 0) (wC (.int 0))) (wCons (w2 rIx (wVar 0) (wC (.int 1))) (wCons (w2 rAdd (w2 rAdd (wSl (w2 rIx (wVar 0) (wC (.int 2))) (oNone) (oSome (wVar 1))) (wL rTup (wCons (wVar 2) (wNil)))) (wSl (w2 rIx (wVar 0) (wC (.int 2))) (oSome (w2 rAdd (wVar 1) (wC (.int 1)))) (oNone))) (wNil)))))
theorem walk_l_put {C_s : Unit}   {k : Nat} (T : Mg mg)  {f : Addr} (cdv : Value) (A : Around) (outer : List Env) (s : Shared) (H : Hp) (E : XK) (hr : Room (k + 1) (A.deeper (envOfC "_law_put" (defScope s_l_put) s.heap.objs.size f cdv)))  :
    PSs3 (CXF P w K mg base N_l_put "_law_put" s_l_put f cdv A outer s H E) G (defBody s_l_put) (W_l_put ) := by
  unfold W_l_put
  exact is_one (is_ret (i_tup (ia_cons (i_ix (i_var 0) (i_int)) (ia_cons (i_ix (i_var 0) (i_int)) (ia_cons (i_bin rf_add (i_bin rf_add (i_sl (i_ix (i_var 0) (i_int)) (io_none) (io_some (i_var 1))) (i_tup (ia_cons (i_var 2) (ia_nil)))) (i_sl (i_ix (i_var 0) (i_int)) (io_some (i_bin rf_add (i_var 1) (i_int))) (io_none))) (ia_nil))))))
/-! ### _law_bent -/
abbrev s_l_bent : Stmt := top 48
abbrev N_l_bent : List Str := ["draw", "program", "w", "arrays", "procedures", "k", "p", "name", "params", "blocks", "names", "b", "label", "body", "end", "at", "block", "other", "ends"]
theorem sc_l_bent : FnScope N_l_bent ["draw", "program"] (defScope s_l_bent) := ⟨rfl, rfl, rfl, by decide +kernel, rfl, by decide +kernel, by decide +kernel⟩
theorem nd_l_bent : N_l_bent.Nodup := sc_l_bent.nd
def W_l_bent  (p_l_take : Sp3) (p_l_put : Sp3) (p_l_bent_row : Sp3) : WS := wSeq (wAsg (wVar 1) (gT [gN 2, gN 3, gN 4])) (wSeq (wAsg (wL p_l_take (wCons (wVar 0) (wCons (wC (.int 12)) (wNil)))) (gN 5)) (wSeq (wIfS (wB (w2 rEq (wVar 5) (wC (.int 0)))) (wRet (w2 rIx (wL rLst (wCons (wL rTup (wCons (wC (.int 0)) (wCons (wVar 3) (wCons (wVar 4) (wNil))))) (wCons (wL rTup (wCons (wC (.int 17)) (wCons (wVar 3) (wCons (wVar 4) (wNil))))) (wCons (wL rTup (wCons (wC (.bl true)) (wCons (wVar 3) (wCons (wVar 4) (wNil))))) (wCons (wL rTup (wCons (wVar 2) (wCons (wL rListOf (wCons (wVar 3) (wNil))) (wCons (wVar 4) (wNil))))) (wCons (wL rTup (wCons (wVar 2) (wCons (wVar 3) (wNil)))) (wCons (wC .non) (wCons (wL rTup (wCons (wVar 2) (wCons (wL rTup (wCons (wL rTup (wCons (wC (.str "mem")) (wCons (wC (.int 9)) (wNil)))) (wNil))) (wCons (wVar 4) (wNil))))) (wCons (wL rTup (wCons (wVar 2) (wCons (wL rTup (wCons (wL rTup (wCons (wC (.str "mem")) (wCons (wC (.int 1)) (wNil)))) (wCons (wL rTup (wCons (wC (.str "a")) (wCons (wC (.int 1)) (wNil)))) (wNil)))) (wCons (wVar 4) (wNil))))) (wCons (wL rTup (wCons (wVar 2) (wCons (wL rTup (wCons (wL rTup (wCons (wC (.str "v1")) (wCons (wC (.int 1)) (wNil)))) (wNil))) (wCons (wVar 4) (wNil))))) (wCons (wL rTup (wCons (wVar 2) (wCons (wVar 3) (wCons (wL rTup (wNil)) (wNil))))) (wCons (wL rTup (wCons (wVar 2) (wCons (wL rTup (wCons (wL rTup (wCons (wC (.str "put")) (wCons (wC (.int 1)) (wNil)))) (wNil))) (wCons (wVar 4) (wNil))))) (wCons (wL rTup (wCons (wVar 2) (wCons (wL rTup (wCons (wL rTup (wCons (w2 rMul (wC (.str "m")) (wC (.int 21))) (wCons (wC (.int 1)) (wNil)))) (wNil))) (wCons (wVar 4) (wNil))))) (wCons (wL rTup (wCons (wVar 2) (wCons (wVar 3) (wCons (wL rTup (wCons (wL rTup (wCons (wC (.str "main")) (wCons (wC (.int 0)) (wCons (wL rTup (wNil)) (wNil))))) (wNil))) (wNil))))) (wNil))))))))))))))) (wL p_l_take (wCons (wVar 0) (wCons (wC (.int 13)) (wNil)))))) (wNext)) (wSeq (wAsg (wL p_l_take (wCons (wVar 0) (wCons (wL rLen (wCons (wVar 4) (wNil))) (wNil)))) (gN 6)) (wSeq (wAsg (w2 rIx (wVar 4) (wVar 6)) (gT [gN 7, gN 8, gN 9])) (wSeq (wIfS (wB (w2 rEq (wVar 5) (wC (.int 1)))) (wSeq (wAsg (wL rLst (wCons (wC (.str "aid")) (wCons (wC (.str "a1")) (wCons (wC (.str "Main")) (wCons (wC (.str "zz")) (wCons (wC (.str "v2")) (wCons (wC (.str "v")) (wCons (wC (.str "add")) (wCons (wC (.str "")) (wCons (wC (.int 5)) (wCons (wC (.str "main")) (wNil)))))))))))) (gN 10)) (wRet (wL p_l_put (wCons (wVar 1) (wCons (wVar 6) (wCons (wL rTup (wCons (w2 rIx (wVar 10) (wL p_l_take (wCons (wVar 0) (wCons (wC (.int 10)) (wNil))))) (wCons (wVar 8) (wCons (wVar 9) (wNil))))) (wNil))))))) (wNext)) (wSeq (wIfS (wB (w2 rEq (wVar 5) (wC (.int 2)))) (wRet (wL p_l_put (wCons (wVar 1) (wCons (wVar 6) (wCons (wL rTup (wCons (wVar 7) (wCons (w2 rIx (wL rLst (wCons (wC (.int 0)) (wCons (wC (.int 6)) (wCons (wC (.int 7)) (wCons (w1 rNeg (wC (.int 1))) (wCons (wC (.int 1)) (wNil))))))) (wL p_l_take (wCons (wVar 0) (wCons (wC (.int 5)) (wNil))))) (wCons (wVar 9) (wNil))))) (wNil)))))) (wNext)) (wSeq (wAsg (wL p_l_take (wCons (wVar 0) (wCons (wL rLen (wCons (wVar 9) (wNil))) (wNil)))) (gN 11)) (wSeq (wAsg (w2 rIx (wVar 9) (wVar 11)) (gT [gN 12, gN 13, gN 14])) (wSeq (wIfS (wB (w2 rLt (wVar 5) (wC (.int 6)))) (wSeq (wAsg (wL p_l_take (wCons (wVar 0) (wCons (w2 rAdd (wL rLen (wCons (wVar 13) (wNil))) (wC (.int 1))) (wNil)))) (gN 15)) (wAsg (wL rTup (wCons (wVar 12) (wCons (w2 rAdd (w2 rAdd (wSl (wVar 13) (oNone) (oSome (wVar 15))) (wL rTup (wCons (wL p_l_bent_row (wCons (wVar 0) (wCons (wVar 1) (wNil)))) (wNil)))) (wSl (wVar 13) (oSome (wVar 15)) (oNone))) (wCons (wVar 14) (wNil))))) (gN 16))) (wIfS (wB (w2 rLt (wVar 5) (wC (.int 8)))) (wAsg (wL rTup (wCons (w2 rIx (wL rLst (wCons (wC (.int 999)) (wCons (wC (.int 1000)) (wCons (w1 rNeg (wC (.int 1))) (wCons (w2 rIx (w2 rIx (wVar 9) (wC (.int 0))) (wC (.int 0))) (wCons (wC (.str "b")) (wCons (wC .non) (wCons (wC (.int 0)) (wNil))))))))) (wL p_l_take (wCons (wVar 0) (wCons (wC (.int 7)) (wNil))))) (wCons (wVar 13) (wCons (wVar 14) (wNil))))) (gN 16)) (wIfS (wB (w2 rLt (wVar 5) (wC (.int 11)))) (wSeq (wAsg (w2 rIx (w2 rIx (wVar 9) (wL p_l_take (wCons (wVar 0) (wCons (wL rLen (wCons (wVar 9) (wNil))) (wNil))))) (wC (.int 0))) (gN 17)) (wSeq (wAsg (wL rLst (wCons (wL rTup (wCons (wC (.str "go")) (wCons (wVar 17) (wNil)))) (wCons (wL rTup (wCons (wC (.str "go")) (wCons (wC (.int 998)) (wNil)))) (wCons (wL rTup (wCons (wC (.str "go")) (wCons (w1 rNeg (wC (.int 1))) (wNil)))) (wCons (wL rTup (wCons (wC (.str "go")) (wNil))) (wCons (wL rTup (wCons (wC (.str "if")) (wCons (wL rTup (wCons (wC (.str "var")) (wCons (wC (.int 0)) (wNil)))) (wCons (wVar 17) (wCons (wC (.int 997)) (wNil)))))) (wCons (wL rTup (wCons (wC (.str "if")) (wCons (wL rTup (wCons (wC (.str "int")) (wCons (wC (.int 1)) (wNil)))) (wCons (wVar 17) (wNil))))) (wCons (wL rTup (wCons (wC (.str "if")) (wCons (wL rTup (wCons (wC (.str "var")) (wCons (wC (.int 50)) (wNil)))) (wCons (wC (.int 1)) (wCons (wC (.int 2)) (wNil)))))) (wCons (wL rTup (wCons (wC (.str "return")) (wCons (wL rTup (wCons (wC (.str "int")) (wCons (wC (.int 0)) (wNil)))) (wNil)))) (wCons (wL rTup (wCons (wC (.str "return")) (wNil))) (wCons (wL rTup (wCons (wC (.str "return")) (wCons (wC (.int 1)) (wNil)))) (wCons (wL rTup (wCons (wC (.str "stop")) (wCons (wC (.int 1)) (wNil)))) (wCons (wC .non) (wCons (wL rTup (wNil)) (wCons (wL rTup (wCons (wC (.str "if")) (wCons (wL rTup (wCons (wC (.str "var")) (wCons (wC (.int 1)) (wNil)))) (wCons (wVar 17) (wCons (wVar 17) (wNil)))))) (wCons (wL rTup (wCons (wC (.str "go")) (wCons (wC (.int 1000)) (wNil)))) (wNil))))))))))))))))) (gN 18)) (wAsg (wL rTup (wCons (wVar 12) (wCons (wVar 13) (wCons (w2 rIx (wVar 18) (wL p_l_take (wCons (wVar 0) (wCons (wC (.int 15)) (wNil))))) (wNil))))) (gN 16)))) (wAsg (w2 rIx (wL rLst (wCons (wL rTup (wCons (wVar 12) (wCons (wVar 13) (wNil)))) (wCons (wL rTup (wCons (wVar 12) (wCons (wL rListOf (wCons (wVar 13) (wNil))) (wCons (wVar 14) (wNil))))) (wCons (wC .non) (wNil))))) (wL p_l_take (wCons (wVar 0) (wCons (wC (.int 3)) (wNil))))) (gN 16))))) (wRet (wL p_l_put (wCons (wVar 1) (wCons (wVar 6) (wCons (wL rTup (wCons (wVar 7) (wCons (wVar 8) (wCons (w2 rAdd (w2 rAdd (wSl (wVar 9) (oNone) (oSome (wVar 11))) (wL rTup (wCons (wVar 16) (wNil)))) (wSl (wVar 9) (oSome (w2 rAdd (wVar 11) (wC (.int 1)))) (oNone))) (wNil))))) (wNil)))))))))))))))
theorem walk_l_bent {C_s : Unit}  {p_l_take : Sp3} {p_l_put : Sp3} {p_l_bent_row : Sp3} {k : Nat} (T : Mg mg)  {f : Addr} (cdv : Value) (A : Around) (outer : List Env) (s : Shared) (H : Hp) (E : XK) (hr : Room (k + 1) (A.deeper (envOfC "_law_bent" (defScope s_l_bent) s.heap.objs.size f cdv))) (F_l_take : Fd P w K mg base G "_law_take" (k + 1) p_l_take) (F_l_put : Fd P w K mg base G "_law_put" (k + 1) p_l_put) (F_l_bent_row : Fd P w K mg base G "_law_bent_row" (k + 1) p_l_bent_row) :
    PSs3 (CXF P w K mg base N_l_bent "_law_bent" s_l_bent f cdv A outer s H E) G (defBody s_l_bent) (W_l_bent p_l_take p_l_put p_l_bent_row) := by
  unfold W_l_bent
  exact is_cons (is_asg (i_var 1) (ig_tup rfl (igs_cons (ig_name 2 nd_l_bent) (igs_cons (ig_name 3 nd_l_bent) (igs_cons (ig_name 4 nd_l_bent) (igs_nil)))))) (is_cons (is_asg (i_call F_l_take hr (ia_cons (i_var 0) (ia_cons (i_int) (ia_nil)))) (ig_name 5 nd_l_bent)) (is_cons (is_if (it_cmp (rf_eq hr.units) (i_var 5) (i_int)) (is_one (is_ret (i_ix (i_lst (ia_cons (i_tup (ia_cons (i_int) (ia_cons (i_var 3) (ia_cons (i_var 4) (ia_nil))))) (ia_cons (i_tup (ia_cons (i_int) (ia_cons (i_var 3) (ia_cons (i_var 4) (ia_nil))))) (ia_cons (i_tup (ia_cons (i_bl) (ia_cons (i_var 3) (ia_cons (i_var 4) (ia_nil))))) (ia_cons (i_tup (ia_cons (i_var 2) (ia_cons (i_callT rf_listOf rfl T.list b_list (ia_cons (i_var 3) (ia_nil))) (ia_cons (i_var 4) (ia_nil))))) (ia_cons (i_tup (ia_cons (i_var 2) (ia_cons (i_var 3) (ia_nil)))) (ia_cons (i_non) (ia_cons (i_tup (ia_cons (i_var 2) (ia_cons (i_tup (ia_cons (i_tup (ia_cons (i_str) (ia_cons (i_int) (ia_nil)))) (ia_nil))) (ia_cons (i_var 4) (ia_nil))))) (ia_cons (i_tup (ia_cons (i_var 2) (ia_cons (i_tup (ia_cons (i_tup (ia_cons (i_str) (ia_cons (i_int) (ia_nil)))) (ia_cons (i_tup (ia_cons (i_str) (ia_cons (i_int) (ia_nil)))) (ia_nil)))) (ia_cons (i_var 4) (ia_nil))))) (ia_cons (i_tup (ia_cons (i_var 2) (ia_cons (i_tup (ia_cons (i_tup (ia_cons (i_str) (ia_cons (i_int) (ia_nil)))) (ia_nil))) (ia_cons (i_var 4) (ia_nil))))) (ia_cons (i_tup (ia_cons (i_var 2) (ia_cons (i_var 3) (ia_cons (i_tup (ia_nil)) (ia_nil))))) (ia_cons (i_tup (ia_cons (i_var 2) (ia_cons (i_tup (ia_cons (i_tup (ia_cons (i_str) (ia_cons (i_int) (ia_nil)))) (ia_nil))) (ia_cons (i_var 4) (ia_nil))))) (ia_cons (i_tup (ia_cons (i_var 2) (ia_cons (i_tup (ia_cons (i_tup (ia_cons (i_bin rf_mul (i_str) (i_int)) (ia_cons (i_int) (ia_nil)))) (ia_nil))) (ia_cons (i_var 4) (ia_nil))))) (ia_cons (i_tup (ia_cons (i_var 2) (ia_cons (i_var 3) (ia_cons (i_tup (ia_cons (i_tup (ia_cons (i_str) (ia_cons (i_int) (ia_cons (i_tup (ia_nil)) (ia_nil))))) (ia_nil))) (ia_nil))))) (ia_nil))))))))))))))) (i_call F_l_take hr (ia_cons (i_var 0) (ia_cons (i_int) (ia_nil))))))) (is_nil)) (is_cons (is_asg (i_call F_l_take hr (ia_cons (i_var 0) (ia_cons (i_callB rf_len rfl T.len b_len (ia_cons (i_var 4) (ia_nil))) (ia_nil)))) (ig_name 6 nd_l_bent)) (is_cons (is_asg (i_ix (i_var 4) (i_var 6)) (ig_tup rfl (igs_cons (ig_name 7 nd_l_bent) (igs_cons (ig_name 8 nd_l_bent) (igs_cons (ig_name 9 nd_l_bent) (igs_nil)))))) (is_cons (is_if (it_cmp (rf_eq hr.units) (i_var 5) (i_int)) (is_cons (is_asg (i_lst (ia_cons (i_str) (ia_cons (i_str) (ia_cons (i_str) (ia_cons (i_str) (ia_cons (i_str) (ia_cons (i_str) (ia_cons (i_str) (ia_cons (i_str) (ia_cons (i_int) (ia_cons (i_str) (ia_nil)))))))))))) (ig_name 10 nd_l_bent)) (is_one (is_ret (i_call F_l_put hr (ia_cons (i_var 1) (ia_cons (i_var 6) (ia_cons (i_tup (ia_cons (i_ix (i_var 10) (i_call F_l_take hr (ia_cons (i_var 0) (ia_cons (i_int) (ia_nil))))) (ia_cons (i_var 8) (ia_cons (i_var 9) (ia_nil))))) (ia_nil)))))))) (is_nil)) (is_cons (is_if (it_cmp (rf_eq hr.units) (i_var 5) (i_int)) (is_one (is_ret (i_call F_l_put hr (ia_cons (i_var 1) (ia_cons (i_var 6) (ia_cons (i_tup (ia_cons (i_var 7) (ia_cons (i_ix (i_lst (ia_cons (i_int) (ia_cons (i_int) (ia_cons (i_int) (ia_cons (i_un rf_neg' (i_int)) (ia_cons (i_int) (ia_nil))))))) (i_call F_l_take hr (ia_cons (i_var 0) (ia_cons (i_int) (ia_nil))))) (ia_cons (i_var 9) (ia_nil))))) (ia_nil))))))) (is_nil)) (is_cons (is_asg (i_call F_l_take hr (ia_cons (i_var 0) (ia_cons (i_callB rf_len rfl T.len b_len (ia_cons (i_var 9) (ia_nil))) (ia_nil)))) (ig_name 11 nd_l_bent)) (is_cons (is_asg (i_ix (i_var 9) (i_var 11)) (ig_tup rfl (igs_cons (ig_name 12 nd_l_bent) (igs_cons (ig_name 13 nd_l_bent) (igs_cons (ig_name 14 nd_l_bent) (igs_nil)))))) (is_cons (is_if (it_cmp rf_lt (i_var 5) (i_int)) (is_cons (is_asg (i_call F_l_take hr (ia_cons (i_var 0) (ia_cons (i_bin rf_add (i_callB rf_len rfl T.len b_len (ia_cons (i_var 13) (ia_nil))) (i_int)) (ia_nil)))) (ig_name 15 nd_l_bent)) (is_one (is_asg (i_tup (ia_cons (i_var 12) (ia_cons (i_bin rf_add (i_bin rf_add (i_sl (i_var 13) (io_none) (io_some (i_var 15))) (i_tup (ia_cons (i_call F_l_bent_row hr (ia_cons (i_var 0) (ia_cons (i_var 1) (ia_nil)))) (ia_nil)))) (i_sl (i_var 13) (io_some (i_var 15)) (io_none))) (ia_cons (i_var 14) (ia_nil))))) (ig_name 16 nd_l_bent)))) (is_one (is_if (it_cmp rf_lt (i_var 5) (i_int)) (is_one (is_asg (i_tup (ia_cons (i_ix (i_lst (ia_cons (i_int) (ia_cons (i_int) (ia_cons (i_un rf_neg' (i_int)) (ia_cons (i_ix (i_ix (i_var 9) (i_int)) (i_int)) (ia_cons (i_str) (ia_cons (i_non) (ia_cons (i_int) (ia_nil))))))))) (i_call F_l_take hr (ia_cons (i_var 0) (ia_cons (i_int) (ia_nil))))) (ia_cons (i_var 13) (ia_cons (i_var 14) (ia_nil))))) (ig_name 16 nd_l_bent))) (is_one (is_if (it_cmp rf_lt (i_var 5) (i_int)) (is_cons (is_asg (i_ix (i_ix (i_var 9) (i_call F_l_take hr (ia_cons (i_var 0) (ia_cons (i_callB rf_len rfl T.len b_len (ia_cons (i_var 9) (ia_nil))) (ia_nil))))) (i_int)) (ig_name 17 nd_l_bent)) (is_cons (is_asg (i_lst (ia_cons (i_tup (ia_cons (i_str) (ia_cons (i_var 17) (ia_nil)))) (ia_cons (i_tup (ia_cons (i_str) (ia_cons (i_int) (ia_nil)))) (ia_cons (i_tup (ia_cons (i_str) (ia_cons (i_un rf_neg' (i_int)) (ia_nil)))) (ia_cons (i_tup (ia_cons (i_str) (ia_nil))) (ia_cons (i_tup (ia_cons (i_str) (ia_cons (i_tup (ia_cons (i_str) (ia_cons (i_int) (ia_nil)))) (ia_cons (i_var 17) (ia_cons (i_int) (ia_nil)))))) (ia_cons (i_tup (ia_cons (i_str) (ia_cons (i_tup (ia_cons (i_str) (ia_cons (i_int) (ia_nil)))) (ia_cons (i_var 17) (ia_nil))))) (ia_cons (i_tup (ia_cons (i_str) (ia_cons (i_tup (ia_cons (i_str) (ia_cons (i_int) (ia_nil)))) (ia_cons (i_int) (ia_cons (i_int) (ia_nil)))))) (ia_cons (i_tup (ia_cons (i_str) (ia_cons (i_tup (ia_cons (i_str) (ia_cons (i_int) (ia_nil)))) (ia_nil)))) (ia_cons (i_tup (ia_cons (i_str) (ia_nil))) (ia_cons (i_tup (ia_cons (i_str) (ia_cons (i_int) (ia_nil)))) (ia_cons (i_tup (ia_cons (i_str) (ia_cons (i_int) (ia_nil)))) (ia_cons (i_non) (ia_cons (i_tup (ia_nil)) (ia_cons (i_tup (ia_cons (i_str) (ia_cons (i_tup (ia_cons (i_str) (ia_cons (i_int) (ia_nil)))) (ia_cons (i_var 17) (ia_cons (i_var 17) (ia_nil)))))) (ia_cons (i_tup (ia_cons (i_str) (ia_cons (i_int) (ia_nil)))) (ia_nil))))))))))))))))) (ig_name 18 nd_l_bent)) (is_one (is_asg (i_tup (ia_cons (i_var 12) (ia_cons (i_var 13) (ia_cons (i_ix (i_var 18) (i_call F_l_take hr (ia_cons (i_var 0) (ia_cons (i_int) (ia_nil))))) (ia_nil))))) (ig_name 16 nd_l_bent))))) (is_one (is_asg (i_ix (i_lst (ia_cons (i_tup (ia_cons (i_var 12) (ia_cons (i_var 13) (ia_nil)))) (ia_cons (i_tup (ia_cons (i_var 12) (ia_cons (i_callT rf_listOf rfl T.list b_list (ia_cons (i_var 13) (ia_nil))) (ia_cons (i_var 14) (ia_nil))))) (ia_cons (i_non) (ia_nil))))) (i_call F_l_take hr (ia_cons (i_var 0) (ia_cons (i_int) (ia_nil))))) (ig_name 16 nd_l_bent)))))))) (is_one (is_ret (i_call F_l_put hr (ia_cons (i_var 1) (ia_cons (i_var 6) (ia_cons (i_tup (ia_cons (i_var 7) (ia_cons (i_var 8) (ia_cons (i_bin rf_add (i_bin rf_add (i_sl (i_var 9) (io_none) (io_some (i_var 11))) (i_tup (ia_cons (i_var 16) (ia_nil)))) (i_sl (i_var 9) (io_some (i_bin rf_add (i_var 11) (i_int))) (io_none))) (ia_nil))))) (ia_nil))))))))))))))))
/-! ### _law_right -/
abbrev s_l_right : Stmt := top 49
abbrev N_l_right : List Str := ["value", "found", "due", "row"]
theorem sc_l_right : FnScope N_l_right ["value", "found", "due"] (defScope s_l_right) := ⟨rfl, rfl, rfl, by decide +kernel, rfl, by decide +kernel, by decide +kernel⟩
theorem nd_l_right : N_l_right.Nodup := sc_l_right.nd
def W_l_right   : WS := wSeq (wIfS (wB (w1 (rIsi .list) (wVar 1))) (wAsg (wLc (wIter (wVar 1)) 3 (wOr (wB (w2 rNe (w2 rIx (wVar 3) (wC (.int 1))) (wC (.str "twice")))) (wB (w2 (rIn true) (wL rTup (wCons (w2 rIx (wVar 3) (wC (.int 0))) (wCons (wC (.str "label")) (wNil)))) (wVar 2)))) (wVar 3)) (gN 1)) (wNext)) (wSeq (wAsg (wLc (wIter (wVar 2)) 3 (wOr (wB (w2 rNe (w2 rIx (wVar 3) (wC (.int 1))) (wC (.str "twice")))) (wB (w2 (rIn true) (wL rTup (wCons (w2 rIx (wVar 3) (wC (.int 0))) (wCons (wC (.str "label")) (wNil)))) (wVar 2)))) (wVar 3)) (gN 2)) (wSeq (wIfS (wB (w2 rEq (wVar 1) (wVar 2))) (wRet (wC (.bl true))) (wNext)) (wSeq (wIfS (wOr (wB (w2 (rIn true) (wL rTup (wCons (wL rTup (wNil)) (wCons (wC (.str "name")) (wNil)))) (wVar 2))) (wNot (wB (w1 (rIsi .list) (wVar 1))))) (wRet (wC (.bl false))) (wNext)) (wRet (w2 rEq (wLc (wIter (wVar 1)) 3 (wB (w2 rNe (w2 rIx (wVar 3) (wC (.int 1))) (wC (.str "statement")))) (wVar 3)) (wLc (wIter (wVar 2)) 3 (wB (w2 rNe (w2 rIx (wVar 3) (wC (.int 1))) (wC (.str "statement")))) (wVar 3)))))))
theorem walk_l_right {C_s : Unit}   {k : Nat} (T : Mg mg)  {f : Addr} (cdv : Value) (A : Around) (outer : List Env) (s : Shared) (H : Hp) (E : XK) (hr : Room (k + 1) (A.deeper (envOfC "_law_right" (defScope s_l_right) s.heap.objs.size f cdv)))  :
    PSs3 (CXF P w K mg base N_l_right "_law_right" s_l_right f cdv A outer s H E) G (defBody s_l_right) (W_l_right ) := by
  unfold W_l_right
  exact is_cons (is_if (it_val (i_isi .list rfl T.isinstance b_isinstance rfl T.list b_list (i_var 1))) (is_one (is_setLc 1 3 rfl nd_l_right (sw_true rfl rfl rfl (by decide +kernel)) (blkOk_by (N := N_l_right) (sc := defScope s_l_right) (by decide +kernel)) (ii_any (i_var 1)) (fun _ _ _ _ _ => pg_name (i := 3) nd_l_right rfl (Or.inl rfl)) (fun _ _ _ _ _ => its_one (it_w (iw_or (it_cmp (rf_ne hr.units) (i_ix (i_var 3) (i_int)) (i_str)) (iw_or1 (it_cmp (rf_notIn (room65 hr)) (i_tup (ia_cons (i_ix (i_var 3) (i_int)) (ia_cons (i_str) (ia_nil)))) (i_var 2)))))) (fun _ _ _ _ _ => i_var 3))) (is_nil)) (is_cons (is_asg (i_lc 3 rfl nd_l_right (blkOk_by (N := N_l_right) (sc := defScope s_l_right) (by decide +kernel)) (ii_any (i_var 2)) (fun _ _ _ _ _ => pg_name (i := 3) nd_l_right rfl (Or.inl rfl)) (fun _ _ _ _ _ => its_one (it_w (iw_or (it_cmp (rf_ne hr.units) (i_ix (i_var 3) (i_int)) (i_str)) (iw_or1 (it_cmp (rf_notIn (room65 hr)) (i_tup (ia_cons (i_ix (i_var 3) (i_int)) (ia_cons (i_str) (ia_nil)))) (i_var 2)))))) (fun _ _ _ _ _ => i_var 3)) (ig_name 2 nd_l_right)) (is_cons (is_if (it_cmp (rf_eq hr.units) (i_var 1) (i_var 2)) (is_one (is_ret (i_bl))) (is_nil)) (is_cons (is_if (it_w (iw_or (it_cmp (rf_notIn (room65 hr)) (i_tup (ia_cons (i_tup (ia_nil)) (ia_cons (i_str) (ia_nil)))) (i_var 2)) (iw_or1 (it_not (it_val (i_isi .list rfl T.isinstance b_isinstance rfl T.list b_list (i_var 1))))))) (is_one (is_ret (i_bl))) (is_nil)) (is_one (is_ret (i_cmp (rf_eq hr.units) (i_lc 3 rfl nd_l_right (blkOk_by (N := N_l_right) (sc := defScope s_l_right) (by decide +kernel)) (ii_any (i_var 1)) (fun _ _ _ _ _ => pg_name (i := 3) nd_l_right rfl (Or.inl rfl)) (fun _ _ _ _ _ => its_one (it_cmp (rf_ne hr.units) (i_ix (i_var 3) (i_int)) (i_str))) (fun _ _ _ _ _ => i_var 3)) (i_lc 3 rfl nd_l_right (blkOk_by (N := N_l_right) (sc := defScope s_l_right) (by decide +kernel)) (ii_any (i_var 2)) (fun _ _ _ _ _ => pg_name (i := 3) nd_l_right rfl (Or.inl rfl)) (fun _ _ _ _ _ => its_one (it_cmp (rf_ne hr.units) (i_ix (i_var 3) (i_int)) (i_str))) (fun _ _ _ _ _ => i_var 3))))))))
/-! ### law -/
abbrev s_law : Stmt := top 50
abbrev N_law : List Str := ["script", "draw", "program", "value", "turn"]
theorem sc_law : FnScope N_law ["script"] (defScope s_law) := ⟨rfl, rfl, rfl, by decide +kernel, rfl, by decide +kernel, by decide +kernel⟩
theorem nd_law : N_law.Nodup := sc_law.nd
def W_law  (p_l_draw : Sp3) (p_l_program : Sp3) (p_l_take : Sp3) (p_l_due : Sp3) (p_program_faults : Sp3) (p_l_formed : Sp3) (p_l_bent : Sp3) (p_l_right : Sp3) : WS := wSeq (wAsg (wL p_l_draw (wCons (wVar 0) (wNil))) (gN 1)) (wSeq (wAsg (wL p_l_program (wCons (wVar 1) (wCons (w2 rIx (wL rLst (wCons (wC (.int 1)) (wCons (wC (.int 2)) (wCons (wC (.int 4)) (wCons (wC (.int 16)) (wNil)))))) (wL p_l_take (wCons (wVar 1) (wCons (wC (.int 4)) (wNil))))) (wCons (wC (.int 4)) (wCons (wC (.int 3)) (wNil)))))) (gN 2)) (wSeq (wIfS (wOr (wB (w2 rNe (wL p_program_faults (wCons (wVar 2) (wNil))) (wL rLst (wNil)))) (wB (w2 rNe (wL p_l_due (wCons (wVar 2) (wNil))) (wL rLst (wNil))))) (wRet (wC (.bl false))) (wNext)) (wSeq (wAsg (wVar 2) (gN 3)) (wSeq (wFor (wRg1 (wCons (w2 rAdd (wC (.int 1)) (wL p_l_take (wCons (wVar 1) (wCons (wC (.int 3)) (wNil))))) (wNil))) (gN 4) (wSeq (wIfS (wAnd (wB (wL p_l_formed (wCons (wVar 3) (wNil)))) (wB (w2 rNe (w2 rIx (wVar 3) (wC (.int 2))) (wL rTup (wNil))))) (wAsg (wL p_l_bent (wCons (wVar 1) (wCons (wVar 3) (wNil)))) (gN 3)) (wNext)) (wIfS (wNot (wB (wL p_l_right (wCons (wVar 3) (wCons (wL p_program_faults (wCons (wVar 3) (wNil))) (wCons (wL p_l_due (wCons (wVar 3) (wNil))) (wNil))))))) (wRet (wC (.bl false))) (wNext)))) (wRet (wC (.bl true)))))))
theorem walk_law {C_s : Unit}  {p_l_draw : Sp3} {p_l_program : Sp3} {p_l_take : Sp3} {p_l_due : Sp3} {p_program_faults : Sp3} {p_l_formed : Sp3} {p_l_bent : Sp3} {p_l_right : Sp3} {k : Nat} (T : Mg mg)  {f : Addr} (cdv : Value) (A : Around) (outer : List Env) (s : Shared) (H : Hp) (E : XK) (hr : Room (k + 1) (A.deeper (envOfC "law" (defScope s_law) s.heap.objs.size f cdv))) (F_l_draw : Fd P w K mg base G "_law_draw" (k + 1) p_l_draw) (F_l_program : Fd P w K mg base G "_law_program" (k + 1) p_l_program) (F_l_take : Fd P w K mg base G "_law_take" (k + 1) p_l_take) (F_l_due : Fd P w K mg base G "_law_due" (k + 1) p_l_due) (F_program_faults : Fd P w K mg base G "program_faults" (k + 1) p_program_faults) (F_l_formed : Fd P w K mg base G "_law_formed" (k + 1) p_l_formed) (F_l_bent : Fd P w K mg base G "_law_bent" (k + 1) p_l_bent) (F_l_right : Fd P w K mg base G "_law_right" (k + 1) p_l_right) :
    PSs3 (CXF P w K mg base N_law "law" s_law f cdv A outer s H E) G (defBody s_law) (W_law p_l_draw p_l_program p_l_take p_l_due p_program_faults p_l_formed p_l_bent p_l_right) := by
  unfold W_law
  exact is_cons (is_asg (i_call F_l_draw hr (ia_cons (i_var 0) (ia_nil))) (ig_name 1 nd_law)) (is_cons (is_asg (i_call F_l_program hr (ia_cons (i_var 1) (ia_cons (i_ix (i_lst (ia_cons (i_int) (ia_cons (i_int) (ia_cons (i_int) (ia_cons (i_int) (ia_nil)))))) (i_call F_l_take hr (ia_cons (i_var 1) (ia_cons (i_int) (ia_nil))))) (ia_cons (i_int) (ia_cons (i_int) (ia_nil)))))) (ig_name 2 nd_law)) (is_cons (is_if (it_w (iw_or (it_cmp (rf_ne hr.units) (i_call F_program_faults hr (ia_cons (i_var 2) (ia_nil))) (i_lst (ia_nil))) (iw_or1 (it_cmp (rf_ne hr.units) (i_call F_l_due hr (ia_cons (i_var 2) (ia_nil))) (i_lst (ia_nil)))))) (is_one (is_ret (i_bl))) (is_nil)) (is_cons (is_asg (i_var 2) (ig_name 3 nd_law)) (is_cons (is_for PassesOwn.never rfl (ii_rg1 rfl T.range (ia_cons (i_bin rf_add (i_int) (i_call F_l_take hr (ia_cons (i_var 1) (ia_cons (i_int) (ia_nil))))) (ia_nil))) (ig_name 4 nd_law) (is_cons (is_if (it_w (iw_and (it_val (i_call F_l_formed hr (ia_cons (i_var 3) (ia_nil)))) (iw_and1 (it_cmp (rf_ne hr.units) (i_ix (i_var 3) (i_int)) (i_tup (ia_nil)))))) (is_one (is_asg (i_call F_l_bent hr (ia_cons (i_var 1) (ia_cons (i_var 3) (ia_nil)))) (ig_name 3 nd_law))) (is_nil)) (is_one (is_if (it_not (it_val (i_call F_l_right hr (ia_cons (i_var 3) (ia_cons (i_call F_program_faults hr (ia_cons (i_var 3) (ia_nil))) (ia_cons (i_call F_l_due hr (ia_cons (i_var 3) (ia_nil))) (ia_nil))))))) (is_one (is_ret (i_bl))) (is_nil))))) (is_one (is_ret (i_bl)))))))
end
end Lk01
end
-- Q1S
section
set_option maxRecDepth 100000
set_option maxHeartbeats 4000000
namespace Lk01
open PySem PySem.Spec PyProof.Rows L2 T3
theorem ok_take : ∀ l h k, sp_take l h k → W_l_take (en k) (ev0 N_l_take l) h := by
  rintro l h k ⟨dr, many, rfl, ⟨c, ns, i, q, s, hd, hc, hi, hq, hs, hn⟩, hm, hb, post⟩
  have hcd := Drw.ne hd hc
  have fin : ∀ (i' q' s' : Int), -1 ≤ i' → 0 ≤ q' → 0 ≤ s' → 0 < many ∧ (0 < many ∧ (many < 1073741824 ∨ many.natAbs.log2 < 9000)) ∧ (en k).rt (.int (q' % many)) (up h dr (.lst [.ref c, .int i', .int (q' / many), .int s'])) := fun i' q' s' hi' hq' hs' =>
    ⟨hm, ⟨hm, hb⟩, en_rt (post _ _ (Int.emod_nonneg _ (by omega)) (Int.emod_lt_of_pos _ hm) (Grow.upd hd (Drw.mk' hcd hc hi' (Int.ediv_nonneg hq' (by omega)) hs' hn)))⟩
  have hs' : 0 ≤ (s * 48271 + 11) % 2147483647 := Int.emod_nonneg _ (by omega)
  simp [W_l_take, ev0, hd, up_ne hcd, hc]
  split
  · split
    · rename_i h0 h1
      have hx := atI_pos (l := ns.map D.int) (i := i + 1) (by omega) (by simpa using h1)
      have hpos : 0 ≤ ns[(i+1).toNat]'(by omega) := hn _ (List.getElem_mem _)
      simp [hx]
      split
      · exact fin _ _ _ (by omega) hs' hs'
      · exact fin _ _ _ (by omega) hpos hs
    · exact fin _ _ _ (by omega) hs' hs'
  · exact fin _ _ _ hi hq hs
theorem ok_top : ∀ l h k, sp_top l h k → W_l_top (en k) (ev0 N_l_top l) h := by
  rintro l h k ⟨w, rfl, h0, h1, post⟩
  simp [W_l_top, ev0]
  exact ⟨⟨h0, .inl (by omega)⟩, en_rt (by simpa [p2] using post)⟩
theorem ok_ops : ∀ l h k, sp_ops l h k → W_l_ops (en k) (ev0 N_l_ops l) h := by
  rintro l h k ⟨rfl, post⟩
  simp [W_l_ops]
  exact fun p hp => en_rt (post p hp)
theorem ok_variable : ∀ l h k, sp_variable l h k → W_l_variable sp_take (en k) (ev0 N_l_variable l) h := by
  rintro l h k ⟨dr, rfl, hd, post⟩
  simp [W_l_variable, ev0]
  intro p hp
  refine ⟨dr, 8, rfl, hd.new hp, by decide, .inl (by decide), fun r h' r0 r8 g => ?_⟩
  obtain ⟨g', e⟩ := g.born hd hp
  obtain ⟨x, hx, ex⟩ := atI_in (l := [D.int 0, D.int 1, D.int 2, D.int 3, D.int 0, D.int 1, D.int 2, D.int 39]) r0 r8
  simp [e, ex]
  simp at hx
  rcases hx with rfl | rfl | rfl | rfl | rfl | rfl | rfl | rfl <;> exact en_rt (post _ _ (by decide) (by decide) g')
theorem mask {x w : Int} (h0 : 0 ≤ x) : 0 ≤ Builtin.bitAnd x (p2 w - 1) ∧ Builtin.bitAnd x (p2 w - 1) < p2 w := by
  have e := Bits.bitAnd_mask (x := x) w.toNat h0
  unfold p2
  rw [e]
  exact ⟨Int.emod_nonneg _ (by have := p2_pos (n := w); unfold p2 at this; omega), Int.emod_lt_of_pos _ (by have := p2_pos (n := w); unfold p2 at this; omega)⟩
theorem ok_word : ∀ l h k, sp_word l h k → W_l_word sp_take sp_top (en k) (ev0 N_l_word l) h := by
  rintro l h k ⟨dr, w, rfl, hd, h1, h2, post⟩
  simp [W_l_word, ev0]
  refine ⟨w, rfl, by omega, by omega, ⟨by omega, .inl (by omega)⟩, ?_⟩
  have hp := p2_16 h2
  have hp0 := p2_pos (n := w)
  refine ⟨dr, _, rfl, hd, hp0, .inl (by show p2 w < _; omega), fun r h' r0 r1 g p np => ?_⟩
  refine ⟨dr, 5, rfl, g.drw.new np, by decide, .inl (by decide), fun r' h'' r0' r1' g2 => ?_⟩
  obtain ⟨g3, e⟩ := g2.born g.drw np
  obtain ⟨x, hx, ex⟩ := atI_in (l := [D.int 0, D.int 1, D.int 2, D.int (p2 w - 1), D.int r]) r0' r1'
  simp [e, ex]
  have fin : ∀ y, 0 ≤ y → sp_top [D.int w] h'' fun e h2 => rAndI (.int y) e h2 (en k).rt := fun y hy => by
    refine ⟨w, rfl, by omega, by omega, ?_⟩
    simp
    exact en_rt (post _ _ (mask hy).1 (mask hy).2 (g.trans g3))
  simp at hx
  rcases hx with rfl | rfl | rfl | rfl | rfl
  · exact fin 0 (by decide)
  · exact fin 1 (by decide)
  · exact fin 2 (by decide)
  · exact fin _ (by omega)
  · exact fin _ r0
theorem and_tab : ∀ m : Int, 0 ≤ m → m < 8 → ∃ x, atI [D.int 0, .int 1, .int 1, .int 3, .int 3, .int 3, .int 3, .int 7] m = some (.int x) ∧ 0 ≤ x ∧ x ≤ m := by
  intro m h0 h1
  have : m = 0 ∨ m = 1 ∨ m = 2 ∨ m = 3 ∨ m = 4 ∨ m = 5 ∨ m = 6 ∨ m = 7 := by omega
  rcases this with rfl | rfl | rfl | rfl | rfl | rfl | rfl | rfl <;> exact ⟨_, by simp <;> rfl, by decide, by decide⟩
theorem ok_index (n : Nat) : ∀ l h k, sp_index n l h k → W_l_index sp_take (sp_expression n) sp_top sp_variable (en k) (ev0 N_l_index l) h := by
  rintro l h k ⟨p, dr, w, ars, size, depth, rfl, hs1, hs8, hn, hd, hp, post⟩
  simp [W_l_index, ev0, dg_dK hp.at_, valD_cons]
  refine ⟨dr, 3, rfl, hd, by decide, .inl (by decide), fun r h1 r0 r9 g1 => ?_⟩
  have hd1 := g1.drw
  have hp1 := hp.grow g1 hd
  have hp0 := p2_pos (n := w)
  have hp16 := p2_16 hp.w2
  simp [dg_dK hp1.at_, valD_cons]
  split
  · exact ⟨p, dr, w, ars, depth, rfl, hn, hd1, hp1, fun e h2 we g2 => en_rt (post e h2 we (g1.trans g2))⟩
  · refine ⟨w, rfl, by have := hp.w1; omega, by have := hp.w2; omega, ?_⟩
    simp [dg_dK hp1.at_, valD_cons]
    have hw2 : 2 ≤ p2 w := by have := p2_le hp.w1; simpa [p2] using this
    have hm : ∃ m : Int, (if p2 w < size then p2 w - 1 else size - 1) = m ∧ 0 ≤ m ∧ m ≤ 7 ∧ m < p2 w := ⟨_, rfl, by split <;> omega, by split <;> omega, by split <;> omega⟩
    obtain ⟨m, em, hm0, hm7, hmw⟩ := hm
    refine ⟨dr, 2, rfl, hd1, by decide, .inl (by decide), fun r h2 r0 r9 g2 => ?_⟩
    have hp2 := hp1.grow g2 hd1
    simp [dg_dK hp2.at_, valD_cons]
    split
    · refine ⟨dr, _, rfl, g2.drw, by omega, .inl (by omega), fun r h3 r0 r9 g3 => ?_⟩
      exact en_rt (post (.int r) h3 ⟨r0, by omega⟩ (g1.trans (g2.trans g3)))
    · refine ⟨dr, rfl, g2.drw, fun v h3 v0 v9 g3 q nq => ?_⟩
      have e7 : (if 7 < m then 7 else m) = m := by split <;> omega
      obtain ⟨x, ex, x0, x1⟩ := and_tab m hm0 (by omega)
      simp only [em, e7]
      simp [ex]
      exact en_rt (post (.two "and" (.var v) (.int x)) _ ⟨by decide, ⟨v0, v9⟩, ⟨x0, by omega⟩⟩ (g1.trans (g2.trans (g3.new nq))))
theorem sub_lt {depth : Int} {n : Nat} (h : 0 ≤ depth ∧ depth < n) (h1 : ¬ depth < 1) : 0 ≤ depth - 1 ∧ depth - 1 < ((n - 1 : Nat) : Int) := by omega
theorem ok_expression (n : Nat) : ∀ l h k, sp_expression n l h k → W_l_expression sp_take sp_word sp_variable (sp_index (n - 1)) (sp_expression (n - 1)) sp_ops (en k) (ev0 N_l_expression l) h := by
  rintro l h k ⟨p, dr, w, ars, depth, rfl, hn, hd, hp, post⟩
  simp [W_l_expression, ev0, dg_dK hp.at_, valD_cons]
  refine ⟨dr, 9, rfl, hd, by decide, .inl (by decide), fun r h1 r0 r9 g1 => ?_⟩
  have hd1 := g1.drw
  have hp1 := hp.grow g1 hd
  have hint : sp_word [.ref dr, .int w] h1 fun d h1 => (en k).rt (.tup [.str "int", d]) h1 := ⟨dr, w, rfl, hd1, hp.w1, hp.w2, fun r h2 r0 r1 g2 => en_rt (post (.int r) h2 ⟨r0, r1⟩ (g1.trans g2))⟩
  have hvar : sp_variable [.ref dr] h1 fun d h1 => (en k).rt (.tup [.str "var", d]) h1 := ⟨dr, rfl, hd1, fun r h2 r0 r1 g2 => en_rt (post (.var r) h2 ⟨r0, r1⟩ (g1.trans g2))⟩
  have hone : 1 ≤ depth → ∀ q : Addr, h1 q = none → sp_take [.ref dr, .int 2] (up h1 q (.lst [.str "not", .str "neg"])) fun e h2 => rIx (.ref q) e h2 fun d h1 =>
      sp_expression (n - 1) [.ref p, .int (depth - 1)] h1 fun x h1 => (en k).rt (.tup [d, x]) h1 := fun hd1' q nq => by
    refine ⟨dr, 2, rfl, hd1.new nq, by decide, .inl (by decide), fun r' h2 r0' r1' g2 => ?_⟩
    obtain ⟨g3, e⟩ := g2.born hd1 nq
    obtain ⟨x, hx, ex⟩ := atI_in (l := [D.str "not", D.str "neg"]) r0' r1'
    simp only [s_ix_l]
    refine ⟨_, x, e, ex, p, dr, w, ars, depth - 1, rfl, by omega, g3.drw, hp1.grow g3 hd1, fun e h3 we g4 => ?_⟩
    simp at hx
    rcases hx with rfl | rfl <;> exact en_rt (post (.one _ e) h3 ⟨by decide, we.mono (by omega)⟩ (g1.trans (g3.trans g4)))
  have htwo : 1 ≤ depth → sp_ops [] h1 fun d h1 => sp_take [.ref dr, .int 10] h1 fun e h2 => rIx d e h2 fun d h1 =>
      sp_expression (n - 1) [.ref p, .int (depth - 1)] h1 fun x h1 => sp_expression (n - 1) [.ref p, .int (depth - 1)] h1 fun y h1 => (en k).rt (.tup [d, x, y]) h1 := fun hd1' => by
    refine ⟨rfl, fun q nq => ⟨dr, 10, rfl, hd1.new nq, by decide, .inl (by decide), fun r' h2 r0' r1' g2 => ?_⟩⟩
    obtain ⟨g3, e⟩ := g2.born hd1 nq
    obtain ⟨x, hx, ex⟩ := atI_in (l := pairOps.map D.str) r0' r1'
    simp only [s_ix_l]
    refine ⟨_, x, e, ex, p, dr, w, ars, depth - 1, rfl, by omega, g3.drw, hp1.grow g3 hd1, fun e h3 we g4 => ?_⟩
    refine ⟨p, dr, w, ars, depth - 1, rfl, by omega, g4.drw, (hp1.grow g3 hd1).grow g4 g3.drw, fun f h4 wf g5 => ?_⟩
    obtain ⟨o, ho, rfl⟩ := List.mem_map.mp hx
    exact en_rt (post (.two o e f) h4 ⟨ho, we.mono (by omega), wf.mono (by omega)⟩ (g1.trans (g3.trans (g4.trans g5))))
  simp [dg_dK hp1.at_, valD_cons, hint, hvar]
  intro h2r
  split
  · intro _ _ _; omega
  · intro h4 hd1'
    split
    · refine rEq_nil hp1.okL ?_
      simp
      split
      · first
          | exact htwo hd1'
          | (split
             · exact hone hd1'
             · exact htwo hd1')
      · rename_i hars
        have hlen : 0 < ars.length := List.length_pos_iff.mpr hars
        simp [dg_dK hp1.at_, valD_cons]
        refine ⟨dr, _, rfl, hd1, by omega, .inl (by have := hp.few; omega), fun r' h2 r0' r1' g2 => ?_⟩
        obtain ⟨x, hx, ex⟩ := atI_in (l := ars.map arD) r0' (by simpa using r1')
        obtain ⟨a, ha, rfl⟩ := List.mem_map.mp hx
        simp [ex, arD]
        refine ⟨p, dr, w, ars, a.2, depth - 1, rfl, (hp.sz a ha).1, (hp.sz a ha).2, sub_lt hn (by omega), g2.drw, hp1.grow g2 hd1, fun e h3 we g3 => ?_⟩
        exact en_rt (post (.cell a.1 e) h3 ⟨⟨a.2, ha⟩, we.mono (by omega)⟩ (g1.trans (g2.trans g3)))
    · split
      · exact hone hd1'
      · exact htwo hd1'
theorem ok_row : ∀ l h k, sp_row l h k → W_l_row sp_take (sp_expression 3) sp_variable (sp_index 2) (en k) (ev0 N_l_row l) h := by
  rintro l h k ⟨p, dr, oa, w, ars, others, rfl, hd, hp, ho, hol, hos, post⟩
  simp [W_l_row, ev0, dg_dK hp.at_, valD_cons]
  refine ⟨dr, 12, rfl, hd, by decide, .inl (by decide), fun r h1 r0 r9 g1 => ?_⟩
  have hd1 := g1.drw
  have hp1 := hp.grow g1 hd
  have hoa : oa ≠ dr := by
    rintro rfl
    obtain ⟨c, ns, i, q, s, e, _⟩ := hd
    rw [ho] at e
    have := congrArg List.length (O.lst.inj (Option.some.inj e))
    simp at this; omega
  have ho1 := g1.keep oa _ hoa ho
  have hset : ∀ n : Int, 0 ≤ n ∧ n < 3 → sp_variable [.ref dr] h1 fun d h1 => sp_expression 3 [.ref p, .int n] h1 fun x h1 => (en k).rt (.tup [.str "set", d, x]) h1 := fun n hn => by
    refine ⟨dr, rfl, hd1, fun v h2 v0 v9 g2 => ⟨p, dr, w, ars, n, rfl, hn, g2.drw, hp1.grow g2 hd1, fun e h3 we g3 => ?_⟩⟩
    exact en_rt (post (.set v e) h3 ⟨⟨v0, v9⟩, we⟩ (g1.trans (g2.trans g3)))
  have htake : sp_variable [.ref dr] h1 fun d h1 => (en k).rt (.tup [.str "take", d]) h1 := by
    refine ⟨dr, rfl, hd1, fun v h2 v0 v9 g2 => ?_⟩
    exact en_rt (post (.take v) h2 ⟨v0, v9⟩ (g1.trans g2))
  have hput : sp_expression 3 [.ref p, .int 1] h1 fun d h1 => (en k).rt (.tup [.str "put", d]) h1 := by
    refine ⟨p, dr, w, ars, 1, rfl, by decide, hd1, hp1, fun e h3 we g3 => ?_⟩
    exact en_rt (post (.put e) h3 we (g1.trans g3))
  have hass : sp_take [.ref dr, .int 4] h1 fun d h1 => sp_expression 3 [.ref p, .int 2] h1 fun x h1 => (en k).rt (.tup [.str "assert", d, x]) h1 := by
    refine ⟨dr, 4, rfl, hd1, by decide, .inl (by decide), fun v h2 v0 v9 g2 => ⟨p, dr, w, ars, 2, rfl, by decide, g2.drw, hp1.grow g2 hd1, fun e h3 we g3 => ?_⟩⟩
    exact en_rt (post (.assert v e) h3 ⟨⟨v0, by omega⟩, we⟩ (g1.trans (g2.trans g3)))
  simp [dg_dK hp1.at_, valD_cons, hset 2 (by decide), hset 1 (by decide), htake, hput, hass]
  intro h4 h7 h9
  split
  · rename_i e9
    subst e9
    refine rEq_nil hp1.okL ?_
    simp [hset 1 (by decide)]
    intro hars
    have hlen : 0 < ars.length := List.length_pos_iff.mpr hars
    simp [dg_dK hp1.at_, valD_cons]
    refine ⟨dr, _, rfl, hd1, by omega, .inl (by have := hp.few; omega), fun r' h2 r0' r1' g2 => ?_⟩
    obtain ⟨x, hx, ex⟩ := atI_in (l := ars.map arD) r0' (by simpa using r1')
    obtain ⟨a, ha, rfl⟩ := List.mem_map.mp hx
    simp [ex, arD]
    refine ⟨p, dr, w, ars, a.2, 1, rfl, (hp.sz a ha).1, (hp.sz a ha).2, by decide, g2.drw, hp1.grow g2 hd1, fun e h3 we g3 => ?_⟩
    refine ⟨p, dr, w, ars, 1, rfl, by decide, g3.drw, (hp1.grow g2 hd1).grow g3 g2.drw, fun f h4 wf g4 => ?_⟩
    exact en_rt (post (.store a.1 e f) h4 ⟨⟨a.2, ha⟩, we.mono (by omega), wf⟩ (g1.trans (g2.trans (g3.trans g4))))
  · intro e10 q nq
    subst e10
    have hqo : oa ≠ q := by rintro rfl; rw [ho1] at nq; cases nq
    have gq : Grow dr h1 (up h1 q (.lst [])) := (Grow.refl hd1).new nq
    have ho2 : (up h1 q (.lst [])) oa = some (.lst (others.map othD)) := by rw [up_ne hqo]; exact ho1
    refine rEq_nilL ho2 up_same (by rw [okL_iff]; intro d hd; obtain ⟨a, ha, rfl⟩ := List.mem_map.mp hd; simp [othD, D.ok, D.okL, (hos a ha).2]) ?_
    have hset' : sp_variable [.ref dr] (up h1 q (.lst [])) fun d h1 => sp_expression 3 [.ref p, .int 1] h1 fun x h1 => (en k).rt (.tup [.str "set", d, x]) h1 := by
      refine ⟨dr, rfl, gq.drw, fun v h2 v0 v9 g2 => ⟨p, dr, w, ars, 1, rfl, by decide, g2.drw, (hp1.grow gq hd1).grow g2 gq.drw, fun e h3 we g3 => ?_⟩⟩
      exact en_rt (post (.set v e) h3 ⟨⟨v0, v9⟩, we⟩ (g1.trans (gq.trans (g2.trans g3))))
    simp [hset', ho2]
    intro hn
    have hlen : 0 < others.length := List.length_pos_iff.mpr hn
    refine ⟨dr, _, rfl, gq.drw, by omega, .inl (by omega), fun r' h2 r0' r1' g2 => ?_⟩
    obtain ⟨x, hx, ex⟩ := atI_in (l := others.map othD) r0' (by simpa using r1')
    obtain ⟨a, ha, rfl⟩ := List.mem_map.mp hx
    have ho3 := g2.keep oa _ hoa ho2
    simp [ho3, ex, othD]
    refine ⟨dr, rfl, g2.drw, fun v h3 v0 v9 g3 => ?_⟩
    have h3d := g3.drw
    have hp3 := (((hp1.grow gq hd1).grow g2 gq.drw).grow g3 g2.drw)
    have hb := (hos a ha).1
    simp
    refine ⟨by omega, by omega, fun z nz => ?_⟩
    refine lc_grow (P := fun d => ∃ e : Ex, e.Wf (p2 w) ars 5 ∧ d = e.toD) h3d nz ?_ ?_ ?_
    · simp [rgD]; omega
    · intro h4 x hx g4 K hK
      simp
      refine ⟨p, dr, w, ars, 1, rfl, by decide, g4.drw, hp3.grow g4 h3d, fun e h5 we g5 => hK _ _ ⟨e, we, rfl⟩ g5⟩
    · intro m h4 hm hP g4 e4
      simp [e4]
      obtain ⟨es, rfl, hes⟩ : ∃ es : List Ex, m = es.map Ex.toD ∧ ∀ e ∈ es, e.Wf (p2 w) ars 5 := by
        clear e4 hm
        induction m with
        | nil => exact ⟨[], rfl, fun _ h => nomatch h⟩
        | cons d m ih =>
          obtain ⟨e, we, rfl⟩ := hP d List.mem_cons_self
          obtain ⟨es, rfl, hes⟩ := ih fun d hd => hP d (List.mem_cons_of_mem _ hd)
          exact ⟨e :: es, rfl, fun x hx => by
            rcases List.mem_cons.mp hx with rfl | hx
            · exact we
            · exact hes x hx⟩
      refine en_rt (post (.call v a.1 es) h4 ⟨⟨v0, v9⟩, ?_, hes⟩ (g1.trans (gq.trans (g2.trans (g3.trans g4)))))
      have : (es.length : Int) = a.2 := by simp [rgD] at hm; omega
      rw [this]; exact ha
end Lk01
end
-- Q1S2
section
set_option maxRecDepth 100000
set_option maxHeartbeats 4000000
namespace Lk01
open PySem PySem.Spec PyProof.Rows L2 T3
theorem cut_from {l : List D} {i : Int} {n : Nat} (e : i = n) : T3.cutD l (some i) none = l.drop n := by
  subst e
  unfold T3.cutD
  have e1 : HT.sIx l.length 0 (some (n : Int)) = min n l.length := by
    unfold HT.sIx
    simp
    try omega
  have e2 : HT.sIx l.length l.length none = l.length := by unfold HT.sIx; simp
  rw [e1, e2, List.take_of_length_le (by simp)]
  rcases Nat.le_total n l.length with z | z
  · rw [Nat.min_eq_left z]
  · rw [Nat.min_eq_right z, List.drop_of_length_le z, List.drop_of_length_le (Nat.le_refl _)]
theorem ok_blocks : ∀ l h k, sp_blocks l h k → W_l_blocks sp_take sp_row (sp_expression 3) (en k) (ev0 N_l_blocks l) h := by
  rintro l h k ⟨p, dr, oa, w, ars, others, blocks, rows, rfl, hb1, hb6, hr1, hr4, hd, hp, ho, hol, hos, post⟩
  have hoa : oa ≠ dr := by
    rintro rfl
    obtain ⟨c, ns, i, q, s, e, _⟩ := hd
    rw [ho] at e
    have := congrArg List.length (O.lst.inj (Option.some.inj e))
    simp at this; omega
  simp [W_l_blocks, ev0, dg_dK hp.at_, valD_cons]
  refine ⟨dr, 3, rfl, hd, by decide, .inl (by decide), fun r h1 r0 r9 g1 => ?_⟩
  have hd1 := g1.drw
  simp
  refine ⟨dr, _, rfl, hd1, by omega, .inl (by omega), fun r' h2 r0' r9' g2 => ?_⟩
  have hd2 := g2.drw
  simp
  refine ⟨by omega, by omega, fun lp nlp => ?_⟩
  obtain ⟨n, rfl⟩ := Int.eq_ofNat_of_zero_le r0'
  have en1 : (1 + (n : Int)).toNat = n + 1 := by omega
  rw [en1]
  refine lc_rg (fun j => .int (lbl (1 + r) j)) (by omega) (fun _ _ _ => trivial) ?_ ?_
  · intro j hj o hh hs K hK
    simp
    exact ⟨.inl ⟨by omega, by omega⟩, hK _ (Sub.refl _)⟩
  · rw [show (List.range (n + 1)).map (fun j => D.int (lbl (1 + r) j)) = ((List.range (n + 1)).map (lbl (1 + r))).map D.int by simp]
    generalize hL : (List.range (n + 1)).map (lbl (1 + r)) = L
    have hLn : L.length = n + 1 := by rw [← hL]; simp
    intro fp nfp
    have g3 : Grow dr h2 (up h2 lp (.lst (L.map D.int))) := (Grow.refl hd2).new nlp
    have hd3 := g3.drw
    have gb := g1.trans (g2.trans g3)
    have hpb := ((hp.grow g1 hd).grow g2 hd1).grow g3 hd2
    have hob := g3.keep oa _ hoa (g2.keep oa _ hoa (g1.keep oa _ hoa ho))
    have hlb : (up h2 lp (.lst (L.map D.int))) lp = some (.lst (L.map D.int)) := up_same
    have hlpd : lp ≠ dr := (hd2.fresh nlp)
    revert nfp g3 hd3 gb hpb hob hlb
    generalize up h2 lp (.lst (L.map D.int)) = hb
    intro nfp g3 hd3 gb hpb hob hlb
    have hlf : lp ≠ fp := by rintro rfl; rw [hlb] at nfp; cases nfp
    simp [up_ne hlf, hlb, hLn]
    refine ⟨by omega, ?_⟩
    refine for_inv (fun j ρ h => (∃ x8 x9 x10 x11 x12 x13 x14 x15 x16 : Option D, ρ = [some (.ref p), some (.ref oa), some (.int blocks), some (.int rows), some (.ref dr), some (.int (1 + r)), some (.ref lp), some (.ref fp), x8, x9, x10, x11, x12, x13, x14, x15, x16]) ∧
      Grow dr hb h ∧ ∃ bs : List Bk, bs.length = j ∧ h fp = some (.lst (bs.map Bk.toD)) ∧ bs.map Bk.label = L.take j ∧ ∀ b ∈ bs, b.Wf (p2 w) ars others L) (fun _ _ _ _ _ => trivial) ?_ ?_ ?_
    · exact ⟨⟨_, _, _, _, _, _, _, _, _, rfl⟩, (Grow.refl hd3).new nfp, [], rfl, up_same, by simp, fun _ h => nomatch h⟩
    · rintro j x ρ h3 hx ⟨⟨x8, x9, x10, x11, x12, x13, x14, x15, x16, rfl⟩, g4, bs, hbj, hfp, hlab, hwf⟩ N hN
      have hjn : j < n + 1 := by
        rcases Nat.lt_or_ge j (n + 1) with z | z
        · exact z
        · rw [List.getElem?_eq_none (by simpa [rgD] using z)] at hx; cases hx
      have hxj : x = .int j := by simpa [rgD, hjn] using hx.symm
      subst hxj
      have hd4 := g4.drw
      have hp4 := hpb.grow g4 hd3
      have ho4 := g4.keep oa _ hoa hob
      have hfpd : fp ≠ dr := hd3.fresh nfp
      have hl4 := g4.keep lp _ hlpd hlb
      have hjL : j < L.length := by omega
      have fin : ∀ (h5 : H3) (x10 x11 x13 x14 x15 x16 : Option D) (body : List Sm) (nd : Nd), Grow dr h3 h5 → (body.length ≤ 4 ∧ ∀ s ∈ body, s.Wf (p2 w) ars others) → nd.Wf (p2 w) ars L.tail →
          wAppend (wVar 7) (wCons (wL rTup (wCons (w2 T3.rIx (wVar 6) (wVar 8)) (wCons (wVar 9) (wCons (wVar 12) wNil)))) wNil)
            [some (D.ref p), some (D.ref oa), some (D.int blocks), some (D.int rows), some (D.ref dr), some (D.int (1 + r)), some (D.ref lp), some (D.ref fp), some (D.int ↑j), some (.tup (body.map Sm.toD)), x10, x11, some nd.toD, x13, x14, x15, x16] h5 fun x h1 =>
            N [some (D.ref p), some (D.ref oa), some (D.int blocks), some (D.int rows), some (D.ref dr), some (D.int (1 + r)), some (D.ref lp), some (D.ref fp), some (D.int ↑j), some (.tup (body.map Sm.toD)), x10, x11, some nd.toD, x13, x14, x15, x16] h1 := by
        intro h5 x10 x11 x13 x14 x15 x16 body nd g5 hbody hnd
        have hl5 := g5.keep lp _ hlpd hl4
        have hf5 := g5.keep fp _ hfpd hfp
        have hix : atI (L.map D.int) (j : Int) = some (.int L[j]) := atI_nat (by simp [hjL])
        simp [wAppend, hl5, hf5, hix]
        refine ⟨fp, _, _, rfl, rfl, hf5, by simp; omega, hN _ _ ⟨⟨_, _, _, _, _, _, _, _, _, rfl⟩, (g4.trans g5).write hd3 nfp, bs ++ [⟨L[j], body, nd⟩], by simp [hbj], by simp [Bk.toD], ?_, ?_⟩⟩
        · simp [hlab]
        · intro b hb
          rcases List.mem_append.mp hb with hb | hb
          · exact hwf b hb
          · rw [List.mem_singleton.mp hb]
            exact ⟨List.getElem_mem _, hbody, hnd⟩
      simp
      refine ⟨dr, _, rfl, hd4, by omega, .inl (by omega), fun m h4 m0 m9 g5 => ?_⟩
      have hd5 := g5.drw
      have hp5 := hp4.grow g5 hd4
      have ho5 := g5.keep oa _ hoa ho4
      refine ⟨m, rfl, by omega, by omega, fun z nz => ?_⟩
      refine lc_grow (P := fun d => ∃ s : Sm, s.Wf (p2 w) ars others ∧ d = s.toD) hd5 nz (by simp [rgD]; omega) ?_ ?_
      · intro h6 x hx g6 K hK
        simp
        refine ⟨p, dr, oa, w, ars, others, rfl, g6.drw, hp5.grow g6 hd5, g6.keep oa _ hoa ho5, hol, hos, fun s h7 ws g7 => hK _ _ ⟨s, ws, rfl⟩ g7⟩
      · intro ms h6 hms hP g6 e6
        obtain ⟨ss, rfl, hss⟩ : ∃ ss : List Sm, ms = ss.map Sm.toD ∧ ∀ s ∈ ss, s.Wf (p2 w) ars others := by
          clear e6 hms
          induction ms with
          | nil => exact ⟨[], rfl, fun _ h => nomatch h⟩
          | cons d m ih =>
            obtain ⟨e, we, rfl⟩ := hP d List.mem_cons_self
            obtain ⟨es, rfl, hes⟩ := ih fun d hd => hP d (List.mem_cons_of_mem _ hd)
            exact ⟨e :: es, rfl, fun x hx => by
              rcases List.mem_cons.mp hx with rfl | hx
              · exact we
              · exact hes x hx⟩
        have hb4 : ss.length ≤ 4 := by simp [rgD] at hms; omega
        have g56 := g5.trans g6
        have hl6 := g56.keep lp _ hlpd hl4
        simp [e6, hl6]
        have c1 : T3.cutD (L.map D.int) (some 1) none = L.tail.map D.int := by
          rw [cut_from (i := 1) (n := 1) rfl]; simp
        have c2 : T3.cutD (L.map D.int) (some ((j : Int) + 1)) none = (L.drop (j + 1)).map D.int := by
          rw [cut_from (n := j + 1) (by omega)]; simp
        simp only [c1]
        intro rp nrp
        have hd6 := g6.drw
        have gr : Grow dr h6 (up h6 rp (.lst (L.tail.map D.int))) := (Grow.refl hd6).new nrp
        refine ⟨dr, 5, rfl, gr.drw, by decide, .inl (by decide), fun kd h7 k0 k9 g7 => ?_⟩
        obtain ⟨g7', e7⟩ := g7.born hd6 nrp
        intro q nq
        have hd7 := g7.drw
        have gq : Grow dr h7 (up h7 q (.lst [])) := (Grow.refl hd7).new nq
        have hrq : rp ≠ q := by rintro rfl; rw [e7] at nq; cases nq
        have hrd : rp ≠ dr := hd6.fresh nrp
        have er := gq.keep rp _ hrd e7
        have g3q : Grow dr h3 (up h7 q (.lst [])) := g56.trans (g7'.trans gq)
        have hpq := hp4.grow g3q hd4
        have hlq := g3q.keep lp _ hlpd hl4
        have hret : ∀ x13 x14 x15 x16 : Option D, sp_expression 3 [D.ref p, D.int 1] (up h7 q (.lst [])) fun d_3 h1 =>
          wAppend (wVar 7) (wCons (wL rTup (wCons (w2 T3.rIx (wVar 6) (wVar 8)) (wCons (wVar 9) (wCons (wVar 12) wNil)))) wNil)
            [some (D.ref p), some (D.ref oa), some (D.int blocks), some (D.int rows), some (D.ref dr), some (D.int (1 + r)), some (D.ref lp), some (D.ref fp), some (D.int ↑j), some (.tup (ss.map Sm.toD)), some (.ref rp), some (.int kd), some (D.tup [D.str (Str.ofString "return"), d_3]), x13, x14, x15, x16] h1 fun x h1 =>
            N [some (D.ref p), some (D.ref oa), some (D.int blocks), some (D.int rows), some (D.ref dr), some (D.int (1 + r)), some (D.ref lp), some (D.ref fp), some (D.int ↑j), some (.tup (ss.map Sm.toD)), some (.ref rp), some (.int kd), some (D.tup [D.str (Str.ofString "return"), d_3]), x13, x14, x15, x16] h1 := by
          intro x13 x14 x15 x16
          refine ⟨p, dr, w, ars, 1, rfl, by decide, gq.drw, hpq, fun e h8 we g8 => ?_⟩
          exact fin h8 _ _ _ _ _ _ ss (.ret e) (g3q.trans g8) ⟨hb4, hss⟩ we
        refine rEq_nilL er up_same (by rw [okL_iff]; intro d hd; obtain ⟨a, ha, rfl⟩ := List.mem_map.mp hd; rfl) ?_
        simp [hret, hlq, c2]
        intro hLt hkd
        have hLt' : L.tail ≠ [] := by intro z; rw [← List.map_tail, z] at hLt; exact hLt rfl
        have hend : ∀ (h8 : H3) (op : Addr) (OL : List Int) (x16 : Option D), Grow dr h3 h8 → h8 op = some (.lst (OL.map D.int)) → op ≠ dr → OL ≠ [] → OL.length ≤ 9 → (∀ x ∈ OL, x ∈ L.tail) → h8 rp = some (.lst (L.tail.map D.int)) →
            sp_take [D.ref dr, D.int ↑((OL.map D.int).length)] h8 fun e h2 => T3.rIx (D.ref op) e h2 fun d h1 => ∃ l, h1 rp = some (O.lst l) ∧ sp_take [D.ref dr, D.int ↑l.length] h1 fun e h2 => T3.rIx (D.ref rp) e h2 fun d_1 h1 =>
            if kd = 1 then wAppend (wVar 7) (wCons (wL rTup (wCons (w2 T3.rIx (wVar 6) (wVar 8)) (wCons (wVar 9) (wCons (wVar 12) wNil)))) wNil)
            [some (D.ref p), some (D.ref oa), some (D.int blocks), some (D.int rows), some (D.ref dr), some (D.int (1 + r)), some (D.ref lp), some (D.ref fp), some (D.int ↑j), some (D.tup (List.map Sm.toD ss)), some (D.ref rp), some (D.int kd), some (D.tup [D.str (Str.ofString "go"), d]), some (D.ref op), some d, some d_1, x16] h1 fun x h1 => N [some (D.ref p), some (D.ref oa), some (D.int blocks), some (D.int rows), some (D.ref dr), some (D.int (1 + r)), some (D.ref lp), some (D.ref fp), some (D.int ↑j), some (D.tup (List.map Sm.toD ss)), some (D.ref rp), some (D.int kd), some (D.tup [D.str (Str.ofString "go"), d]), some (D.ref op), some d, some d_1, x16] h1
            else sp_expression 3 [D.ref p, D.int 2] h1 fun d_2 h1 => wAppend (wVar 7) (wCons (wL rTup (wCons (w2 T3.rIx (wVar 6) (wVar 8)) (wCons (wVar 9) (wCons (wVar 12) wNil)))) wNil)
            [some (D.ref p), some (D.ref oa), some (D.int blocks), some (D.int rows), some (D.ref dr), some (D.int (1 + r)), some (D.ref lp), some (D.ref fp), some (D.int ↑j), some (D.tup (List.map Sm.toD ss)), some (D.ref rp), some (D.int kd), some (D.tup [D.str (Str.ofString "if"), d_2, d, d_1]), some (D.ref op), some d, some d_1, x16] h1 fun x h1 => N [some (D.ref p), some (D.ref oa), some (D.int blocks), some (D.int rows), some (D.ref dr), some (D.int (1 + r)), some (D.ref lp), some (D.ref fp), some (D.int ↑j), some (D.tup (List.map Sm.toD ss)), some (D.ref rp), some (D.int kd), some (D.tup [D.str (Str.ofString "if"), d_2, d, d_1]), some (D.ref op), some d, some d_1, x16] h1 := by
          intro h8 op OL x16 g8 eop hopd hO hO9 hsub er8
          have hlenO : 0 < OL.length := List.length_pos_iff.mpr hO
          have hlenL : 0 < L.tail.length := List.length_pos_iff.mpr hLt'
          have hlL : L.tail.length ≤ 6 := by simp; omega
          refine ⟨dr, _, rfl, g8.drw, by simp; omega, .inl (by simp; omega), fun a h9 a0 a9 g9 => ?_⟩
          obtain ⟨x, hx, ex⟩ := atI_in (l := OL.map D.int) a0 a9
          obtain ⟨x, hx', rfl⟩ := List.mem_map.mp hx
          have eop9 := g9.keep op _ hopd eop
          have er9 := g9.keep rp _ hrd er8
          simp only [s_ix_l]
          refine ⟨_, _, eop9, ex, _, er9, ?_⟩
          refine ⟨dr, _, rfl, g9.drw, by simp; simp at hlenL; omega, .inl (by simp; omega), fun b h10 b0 b9 g10 => ?_⟩
          obtain ⟨y, hy, ey⟩ := atI_in (l := L.tail.map D.int) b0 b9
          obtain ⟨y, hy', rfl⟩ := List.mem_map.mp hy
          have er10 := g10.keep rp _ hrd er9
          simp only [s_ix_l]
          refine ⟨_, _, er10, ey, ?_⟩
          have gg := g8.trans (g9.trans g10)
          split
          · exact fin h10 _ _ _ _ _ _ ss (.go x) gg ⟨hb4, hss⟩ (hsub x hx')
          · refine ⟨p, dr, w, ars, 2, rfl, by decide, gg.drw, hp4.grow gg hd4, fun e h11 we g11 => ?_⟩
            exact fin h11 _ _ _ _ _ _ ss (.iff e x y) (gg.trans g11) ⟨hb4, hss⟩ ⟨we, hsub x hx', hy'⟩
        intro a na b nb
        have ga := (Grow.refl gq.drw).new (o := .lst (List.drop (j + 1) (List.map D.int L))) na
        have gb2 := ga.new (o := .lst []) nb
        have hab : a ≠ b := by rintro rfl; rw [up_same] at nb; cases nb
        have g3b := g3q.trans gb2
        have hrb := gb2.keep rp _ hrd er
        have hlb2 := gb2.keep lp _ hlpd hlq
        refine rEq_nilL (by rw [up_ne hab]; exact up_same) up_same (by rw [okL_iff, ← List.map_drop]; intro d hd; obtain ⟨a, ha, rfl⟩ := List.mem_map.mp hd; rfl) ?_
        simp only [D.ok, asB]
        have hnL : L.length ≤ 9 := by omega
        split
        · rename_i hne
          have hdne : L.drop (j + 1) ≠ [] := by
            intro z
            rw [← List.map_drop, z] at hne
            simp at hne
          refine ⟨_, hlb2, fun c nc => ?_⟩
          rw [c2]
          have gc := (Grow.refl g3b.drw).new (o := .lst ((L.drop (j + 1)).map D.int)) nc
          refine hend _ c (L.drop (j + 1)) x16 (g3b.trans gc) up_same (g3b.drw.fresh nc) hdne (by simp; omega) (fun x hx => ?_) (gc.keep rp _ hrd hrb)
          have e : L.drop (j + 1) = L.tail.drop j := by rw [← List.drop_one, List.drop_drop, Nat.add_comm]
          rw [e] at hx
          exact List.mem_of_mem_drop hx
        · refine ⟨_, hrb, ?_⟩
          exact hend _ rp L.tail x16 g3b hrb hrd hLt' (by simp; omega) (fun x hx => hx) hrb
    · rintro ρ h3 ⟨⟨x8, x9, x10, x11, x12, x13, x14, x15, x16, rfl⟩, g4, bs, hbj, hfp, hlab, hwf⟩
      have hll : (rgD 0 (n + 1)).length = n + 1 := by simp [rgD]
      rw [hll] at hbj hlab
      rw [List.take_of_length_le (by omega)] at hlab
      simp [hfp]
      refine en_rt (post bs h3 ⟨⟨1 + r, n + 1, by omega, by omega, by omega, by omega, by rw [hlab, hL]⟩, fun b hb => by rw [hlab]; exact hwf b hb⟩ (gb.trans g4))
end Lk01
end
-- Q1S3
section
set_option maxRecDepth 100000
set_option maxHeartbeats 4000000
namespace Lk01
open PySem PySem.Spec PyProof.Rows L2 T3
theorem ars_pick {n5 n3 n8 : Int} (h5 : 0 ≤ n5 ∧ n5 < 5) (h3 : 0 ≤ n3 ∧ n3 < 3) (h8 : 0 ≤ n8 ∧ n8 < 8) {x : D} (hx : x ∈ [D.tup [], D.tup [], D.tup [D.tup [D.str "mem", .int (1 + n5)]], D.tup [D.tup [D.str "a", D.int 2], D.tup [D.str "mem", .int (1 + n3)]], D.tup [D.tup [D.str "a", D.int 8], D.tup [D.str "b_2", D.int 3], D.tup [D.str "mem", .int (1 + n8)]]]) :
    ∃ ars, ArsOk ars ∧ x = .tup (ars.map arD) := by
  simp only [List.mem_cons, List.not_mem_nil, or_false] at hx
  rcases hx with rfl | rfl | rfl | rfl | rfl
  · exact ⟨[], .inl rfl, rfl⟩
  · exact ⟨[], .inl rfl, rfl⟩
  · exact ⟨[ent "mem" (1 + n5)], .inr (.inl ⟨_, by omega, by omega, rfl⟩), rfl⟩
  · exact ⟨[ent "a" 2, ent "mem" (1 + n3)], .inr (.inr (.inl ⟨_, by omega, by omega, rfl⟩)), rfl⟩
  · exact ⟨[ent "a" 8, ent "b_2" 3, ent "mem" (1 + n8)], .inr (.inr (.inr ⟨_, by omega, by omega, rfl⟩)), rfl⟩
theorem ok_program : ∀ l h k, sp_program l h k → W_l_program sp_take sp_blocks sp_variable (en k) (ev0 N_l_program l) h := by
  rintro l h k ⟨dr, w, blocks, rows, rfl, hw1, hw2, hb1, hb6, hr1, hr4, hd, post⟩
  simp [W_l_program, ev0]
  refine ⟨dr, 5, rfl, hd, by decide, .inl (by decide), fun n5 h1 n50 n51 g1 => ?_⟩
  simp
  refine ⟨dr, 3, rfl, g1.drw, by decide, .inl (by decide), fun n3 h2 n30 n31 g2 => ?_⟩
  simp
  refine ⟨dr, 8, rfl, g2.drw, by decide, .inl (by decide), fun n8 h3 n80 n81 g3 => ?_⟩
  simp
  intro lp nlp
  refine ⟨dr, 5, rfl, g3.drw.new nlp, by decide, .inl (by decide), fun r4 h4 r40 r41 g4 => ?_⟩
  obtain ⟨g4', e4⟩ := g4.born g3.drw nlp
  obtain ⟨x, hx, ex⟩ := atI_in (l := [D.tup [], D.tup [], D.tup [D.tup [D.str "mem", .int (1 + n5)]], D.tup [D.tup [D.str "a", D.int 2], D.tup [D.str "mem", .int (1 + n3)]], D.tup [D.tup [D.str "a", D.int 8], D.tup [D.str "b_2", D.int 3], D.tup [D.str "mem", .int (1 + n8)]]]) r40 r41
  obtain ⟨ars, hars, rfl⟩ := ars_pick ⟨n50, n51⟩ ⟨n30, n31⟩ ⟨n80, n81⟩ hx
  have gA := g1.trans (g2.trans (g3.trans g4'))
  have hdA := gA.drw
  simp only [s_ix_l]
  refine ⟨_, _, e4, ex, ?_⟩
  clear e4 ex hx g4
  simp [wDisp, wPairs]
  intro pp npp
  refine ⟨_, rfl, by simp, ?_⟩
  have em : mergeD [] [((.inr "draw" : Key), D.ref dr), ((.inr "width" : Key), D.int w), ((.inr "arrays" : Key), D.tup (ars.map arD))] = [((.inr "draw" : Key), D.ref dr), ((.inr "width" : Key), D.int w), ((.inr "arrays" : Key), D.tup (ars.map arD))] := by
    simp [mergeD, putD]
  rw [em]
  have hp0 : PAt (up h4 pp (.dK [((.inr "draw" : Key), D.ref dr), ((.inr "width" : Key), D.int w), ((.inr "arrays" : Key), D.tup (ars.map arD))])) pp dr w ars := ⟨up_same, hw1, hw2, hars.sz.1, hars.sz.2, hars.ok⟩
  have gB := (Grow.refl hdA).new (o := .dK [((.inr "draw" : Key), D.ref dr), ((.inr "width" : Key), D.int w), ((.inr "arrays" : Key), D.tup (ars.map arD))]) npp
  have gA2 := gA.trans gB
  have hdB := gB.drw
  clear em gB npp hdA gA
  revert hp0 gA2 hdB
  generalize up h4 pp (.dK [((.inr "draw" : Key), D.ref dr), ((.inr "width" : Key), D.int w), ((.inr "arrays" : Key), D.tup (ars.map arD))]) = hB
  intro hp0 gA2 hdB a1 n1 a2 n2 a3 n3 a4 n4 a5 n5 a6 n6
  have d1 := hdB.new (o := .lst []) n1
  have d2 := d1.new (o := .lst []) n2
  have d3 := d2.new (o := .lst [D.tup [D.str "aid", D.int 1]]) n3
  have d4 := d3.new (o := .lst [D.tup [D.str "aid", D.int 2], D.tup [D.str "zig", D.int 0]]) n4
  have d5 := d4.new (o := .lst [D.tup [D.str "aid", D.int 3], D.tup [D.str "zig", D.int 1]]) n5
  have d6 := d5.new (o := .lst [D.ref a1, D.ref a2, D.ref a3, D.ref a4, D.ref a5]) n6
  refine ⟨dr, 5, rfl, d6, by decide, .inl (by decide), fun r5 h5 r50 r51 g5 => ?_⟩
  obtain ⟨k5, e6⟩ := g5.born d5 n6
  obtain ⟨k4, e5⟩ := k5.born d4 n5
  obtain ⟨k3, e4⟩ := k4.born d3 n4
  obtain ⟨k2, e3⟩ := k3.born d2 n3
  obtain ⟨k1, e2⟩ := k2.born d1 n2
  obtain ⟨k0, e1⟩ := k1.born hdB n1
  obtain ⟨x, hx, ex⟩ := atI_in (l := [D.ref a1, D.ref a2, D.ref a3, D.ref a4, D.ref a5]) r50 r51
  simp only [s_ix_l]
  refine ⟨_, _, e6, ex, ?_⟩
  obtain ⟨oa, others, rfl, hoth, eoa⟩ : ∃ oa others, x = D.ref oa ∧ OthOk others ∧ h5 oa = some (.lst (others.map othD)) := by
    simp only [List.mem_cons, List.not_mem_nil, or_false] at hx
    rcases hx with rfl | rfl | rfl | rfl | rfl
    · exact ⟨_, [], rfl, .inl rfl, e1⟩
    · exact ⟨_, [], rfl, .inl rfl, e2⟩
    · exact ⟨_, [ent "aid" 1], rfl, .inr (.inl rfl), e3⟩
    · exact ⟨_, [ent "aid" 2, ent "zig" 0], rfl, .inr (.inr (.inl rfl)), e4⟩
    · exact ⟨_, [ent "aid" 3, ent "zig" 1], rfl, .inr (.inr (.inr rfl)), e5⟩
  have hd5 := k0.drw
  have hp5 := hp0.grow k0 hdB
  have g05 := gA2.trans k0
  clear ex hx e1 e2 e3 e4 e5 e6 k1 k2 k3 k4 k5 g5 d1 d2 d3 d4 d5 d6 n6 n5 n4 n3 n2 n1 a1 a2 a3 a4 a5 a6 k0 hp0 gA2 hdB
  refine ⟨pp, dr, oa, w, ars, others, blocks, rows, rfl, hb1, hb6, hr1, hr4, hd5, hp5, eoa, hoth.ok.1, hoth.ok.2, fun bs h6 wbs g6 => ?_⟩
  have hd6 := g6.drw
  have hp6 := hp5.grow g6 hd5
  refine ⟨dr, 3, rfl, hd6, by decide, .inl (by decide), fun r7 h7 r70 r71 g7 => ?_⟩
  have hoa : oa ≠ dr := by
    rintro rfl
    obtain ⟨c, ns, i, q, s, e, _⟩ := hd5
    rw [eoa] at e
    have := congrArg List.length (O.lst.inj (Option.some.inj e))
    simp at this
    have := hoth.ok.1
    omega
  have eo6 := g6.keep oa _ hoa eoa
  have htail : ∀ (bs' : List Bk) (x8 : Option D) (h8 : H3), BlWf (p2 w) ars others bs' → Grow dr h6 h8 → ∀ p, h8 p = none →
      (∃ l, up h8 p (O.lst [D.tup [D.str "main", D.int 0, D.tup (bs'.map Bk.toD)]]) oa = some (O.lst l)) ∧
      ∃ l, up h8 p (O.lst [D.tup [D.str "main", D.int 0, D.tup (bs'.map Bk.toD)]]) oa = some (O.lst l) ∧
        forW (fun h => h oa = some (O.lst l)) (gT [gN 10, gN 11])
          (wDrop (wAppend (wVar 9) (wCons (wL rTup (wCons (wVar 10) (wCons (wVar 11) (wCons (wL sp_blocks (wCons (wVar 5) (wCons (wVar 6) (wCons (wL rMax2 (wCons (wC (D.int 1)) (wCons (w2 T3.rSub (wVar 2) (wC (D.int 2))) wNil)))
            (wCons (wL rMax2 (wCons (wC (D.int 1)) (wCons (w2 T3.rSub (wVar 3) (wC (D.int 1))) wNil))) wNil))))) wNil)))) wNil)))
          { nx := wRet (wL rTup (wCons (wVar 1) (wCons (wVar 4) (wCons (wL rTupleOf (wCons (wL T3.rSorted (wCons (wVar 9) wNil)) wNil)) wNil)))) (en k), rt := (en k).rt, bk := (en k).bk, ct := (en k).ct }
          l [some (D.ref dr), some (D.int w), some (D.int blocks), some (D.int rows), some (D.tup (List.map arD ars)), some (D.ref pp), some (D.ref oa), some (D.tup (bs'.map Bk.toD)), x8, some (D.ref p), none, none]
          (up h8 p (O.lst [D.tup [D.str "main", D.int 0, D.tup (bs'.map Bk.toD)]])) := by
    intro bs' x8 h8 wbs' g8 p np
    have hd8 := g8.drw
    have gp : Grow dr h8 (up h8 p (O.lst [D.tup [D.str "main", D.int 0, D.tup (bs'.map Bk.toD)]])) := (Grow.refl hd8).new np
    have eo8 := g8.keep oa _ hoa eo6
    have eop := gp.keep oa _ hoa eo8
    have hp8 := hp6.grow g8 hd6
    refine ⟨⟨_, eop⟩, _, eop, ?_⟩
    refine for_inv (fun j ρ h => (∃ x10 x11 : Option D, ρ = [some (D.ref dr), some (D.int w), some (D.int blocks), some (D.int rows), some (D.tup (List.map arD ars)), some (D.ref pp), some (D.ref oa), some (D.tup (bs'.map Bk.toD)), x8, some (D.ref p), x10, x11]) ∧
      Grow dr h8 h ∧ ∃ ps : List Pr, h p = some (.lst (ps.map Pr.toD)) ∧ ps.map (fun p => ent p.name p.params) = ent "main" 0 :: others.take j ∧ ∀ p ∈ ps, BlWf (p2 w) ars others p.blocks) (fun j ρ h _ i => i.2.1.keep oa _ hoa eo8) ?_ ?_ ?_
    · refine ⟨⟨_, _, rfl⟩, gp, [⟨"main", 0, bs'⟩], up_same, by simp, fun q hq => ?_⟩
      rw [List.mem_singleton.mp hq]; exact wbs'
    · rintro j x ρ h9 hx ⟨⟨x10, x11, rfl⟩, g9, ps, e9, hn, hw⟩ N hN
      have hj : j < others.length := by
        rcases Nat.lt_or_ge j others.length with z | z
        · exact z
        · rw [List.getElem?_eq_none (by simpa using z)] at hx; cases hx
      have hxj : x = othD others[j] := by simpa [hj] using hx.symm
      subst hxj
      have hd9 := g9.drw
      have hp9 := hp8.grow g9 hd8
      have eo9 := g9.keep oa _ hoa eo8
      simp [othD, wAppend]
      refine ⟨⟨_, e9⟩, pp, dr, oa, w, ars, others, _, _, rfl, ?_, ?_, ?_, ?_, hd9, hp9, eo9, hoth.ok.1, hoth.ok.2, fun bs2 h10 wb2 g10 => ?_⟩
      · split <;> omega
      · split <;> omega
      · split <;> omega
      · split <;> omega
      · have gg := g9.trans g10
        have e10 := g10.keep p _ (hd8.fresh np) e9
        have hl : ps.length ≤ 3 := by
          have := congrArg List.length hn
          simp at this
          have := hoth.ok.1
          omega
        refine ⟨p, _, _, rfl, rfl, e10, by simp; omega, hN _ _ ⟨⟨_, _, rfl⟩, gg.write hd8 np, ps ++ [⟨others[j].1, others[j].2, bs2⟩], by simp [Pr.toD], ?_, fun q hq => ?_⟩⟩
        · simp [hn]
          exact (List.take_append_getElem hj)
        · rcases List.mem_append.mp hq with hq | hq
          · exact hw q hq
          · rw [List.mem_singleton.mp hq]; exact wb2.bl
    · rintro ρ h9 ⟨⟨x10, x11, rfl⟩, g9, ps, e9, hn, hw⟩
      have hn' : ps.map (fun p => ent p.name p.params) = ent "main" 0 :: others := by
        rw [hn, List.take_of_length_le (by simp)]
      obtain ⟨s1, s2, s3⟩ := sort_prs hars hoth hn' hw
      simp
      refine ⟨p, _, rfl, e9, s1, s2, fun ys q hperm hpw nq => ?_⟩
      obtain ⟨m, rfl, hm1, hm2⟩ := s3 ys hperm hpw
      simp
      have gfin := (g05.trans (g6.trans (g8.trans g9))).new (o := .lst (m.map Pr.toD)) nq
      exact en_rt (post ⟨w, ars, m⟩ others _ ⟨rfl, hars, hoth, hm1, hm2⟩ gfin)
  simp
  have hbs := wbs.bl
  split
  · obtain ⟨b0, br, rfl⟩ : ∃ b0 br, bs = b0 :: br := by
      cases bs with
      | nil => have := hbs.pos; simp at this
      | cons b0 br => exact ⟨_, _, rfl⟩
    have c1 : T3.cutD ((b0 :: br).map Bk.toD) (some 1) none = br.map Bk.toD := by
      rw [cut_from (i := 1) (n := 1) rfl]; rfl
    have hbr : br.length ≤ 6 := by have := hbs.pos; simp at this; omega
    rw [c1]
    simp [Bk.toD]
    refine ⟨dr, rfl, g7.drw, fun v h8 v0 v9 g8 => ?_⟩
    have hfew : b0.body.length ≤ 4 := (wbs.each b0 List.mem_cons_self).2.1.1
    have hlab := hbs.lab
    simp only [List.map_cons] at hlab
    refine ⟨by omega, by omega, fun p np => ?_⟩
    refine htail (⟨b0.label, .take 0 :: .take v :: b0.body, b0.nd⟩ :: br) _ h8 ⟨?_, ?_, ?_, ?_⟩ (g7.trans g8) p np
    · simp only [List.map_cons]; exact hlab
    · intro b hb
      rcases List.mem_cons.mp hb with rfl | hb
      · simp; omega
      · exact hbs.few b (List.mem_cons_of_mem _ hb)
    · intro b hb
      rcases List.mem_cons.mp hb with rfl | hb
      · intro s hs
        rcases List.mem_cons.mp hs with rfl | hs
        · exact ⟨by decide, by decide⟩
        · rcases List.mem_cons.mp hs with rfl | hs
          · exact ⟨v0, v9⟩
          · exact hbs.sms b0 List.mem_cons_self s hs
      · exact hbs.sms b (List.mem_cons_of_mem _ hb)
    · intro b hb
      rcases List.mem_cons.mp hb with rfl | hb
      · exact hbs.nds b0 List.mem_cons_self
      · exact hbs.nds b (List.mem_cons_of_mem _ hb)
  · intro p np
    exact htail bs none h7 hbs g7 p np
end Lk01
end
-- Q1S4
section
set_option maxRecDepth 100000
set_option maxHeartbeats 4000000
namespace T3
open PySem PySem.Spec L2
theorem fors_scr {G : Sc} {i : Nat} {g : WG} {body : WS} {E : En} {ρ : Ev} {h : H3} : wFor (wScript G i) g body E ρ h ↔ ρ[i]? = some (some (.ref G.a)) ∧ forW (fun _ => True) g body E (G.ns.map .int) ρ h := Iff.rfl
theorem lcs_scr {G : Sc} {j i : Nat} {tt : WT} {e : WE} {ρ : Ev} {h : H3} {k : K1} : wLc (wScript G j) i tt e ρ h k ↔ ρ[j]? = some (some (.ref G.a)) ∧ ∀ p, h p = none → lcW (fun _ => True) i tt e p ρ k (G.ns.map .int) (up h p (.lst [])) := Iff.rfl
def sp_draw (G : Sc) : Sp3 := fun l h k => l = [.ref G.a] ∧ ∀ dr h', Drw h' dr → h dr = none → (∀ a o, h a = some o → h' a = some o) → k (.ref dr) h'
end T3
namespace Lk01
open PySem PySem.Spec PyProof.Rows L2 T3
theorem ok_draw (G : Sc) (hG : G.ns.length ≤ 1000) : ∀ l h k, sp_draw G l h k → W_l_draw G (en k) (ev0 N_l_draw l) h := by
  rintro l h0 k ⟨rfl, post⟩
  simp [W_l_draw, ev0, fors_scr]
  refine for_inv (fun j ρ h' => ∃ (s : Int) (x : Option D), ρ = [some (.ref G.a), some (.int s), x] ∧ 0 ≤ s ∧ h' = h0) (fun _ _ _ _ _ => trivial) ⟨7, none, rfl, by decide, rfl⟩ ?_ ?_
  · rintro j x ρ _ hx ⟨s, y, rfl, hs, rfl⟩ N hN
    obtain ⟨n, hn, rfl⟩ : ∃ n : Int, n ∈ G.ns ∧ x = .int n := by
      have := List.mem_of_getElem? hx
      obtain ⟨n, hn, e⟩ := List.mem_map.mp this
      exact ⟨n, hn, e.symm⟩
    simp
    exact hN _ _ ⟨_, _, rfl, Int.emod_nonneg _ (by decide), rfl⟩
  · rintro ρ h ⟨s, y, rfl, hs, e0⟩
    subst e0
    simp [lcs_scr]
    intro c nc
    refine lc_map (fun d => match d with | .int i => .int (if i < 0 then -i else i) | _ => .non) (by simp; omega) (fun _ _ _ => trivial) ?_ ?_
    · intro x hx o hh hs K hK
      obtain ⟨n, hn, rfl⟩ := List.mem_map.mp hx
      simp
      exact hK _ (Sub.refl _)
    · intro dr ndr
      have hcd : c ≠ dr := by rintro rfl; rw [up_same] at ndr; cases ndr
      have e1 : (G.ns.map D.int).map (fun d => match d with | .int i => .int (if i < 0 then -i else i) | _ => .non) = (G.ns.map fun i => if i < 0 then -i else i).map D.int := by
        simp [Function.comp_def]
      rw [e1] at ndr ⊢
      have hnd : h dr = none := by rw [up_ne hcd.symm] at ndr; exact ndr
      refine en_rt (post dr _ (Drw.mk' (q' := 0) hcd up_same (by decide) (by decide) hs fun n hn => ?_) hnd fun a o ha => ?_)
      · obtain ⟨m, _, rfl⟩ := List.mem_map.mp hn
        split <;> omega
      · have h1 : a ≠ c := by rintro rfl; rw [nc] at ha; cases ha
        have h2 : a ≠ dr := by rintro rfl; rw [hnd] at ha; cases ha
        rw [up_ne h2, up_ne h1]; exact ha
end Lk01
end
-- G1A
section
set_option maxRecDepth 100000
set_option maxHeartbeats 4000000
/-! G1A: numbers, names. -/
namespace Lk01
open PySem PySem.Spec PyProof.Rows L2 T3
def sp_num : Sp3 := fun l h k => ∃ d, l = [d] ∧ VOk h d ∧ k (.bl (isNum d)) h
theorem ok_is_number : ∀ l h k, sp_num l h k → W_is_number (en k) (ev0 N_is_number l) h := by
  rintro l h k ⟨d, rfl, v, post⟩
  simp [W_is_number, ev0]
  refine isi_ok v nofun ?_
  cases d <;> simp [D.isTy, isNum] at post ⊢ <;> exact en_rt post
def sp_btw : Sp3 := fun l h k => ∃ d a b, l = [d, .int a, .int b] ∧ VOk h d ∧ k (.bl (btw d a b)) h
theorem chain_int {a i b : Int} {ρ : Ev} {h : H3} {k : K1} (h0 : ρ[0]? = some (some (.int i))) (h1 : ρ[1]? = some (some (.int a))) (h2 : ρ[2]? = some (some (.int b))) (q : k (.bl (decide (a ≤ i) && decide (i ≤ b))) h) : wChain T3.rLe T3.rLe (wVar 1) (wVar 0) (wVar 2) ρ h k := by
  refine ⟨_, h1, _, h0, _, rfl, ?_⟩
  by_cases c : a ≤ i
  · simp [c] at q ⊢
    exact ⟨_, h2, by simpa using q⟩
  · simp [c] at q ⊢
    exact q
theorem ok_is_between : ∀ l h k, sp_btw l h k → W_is_between sp_num (en k) (ev0 N_is_between l) h := by
  rintro l h k ⟨d, a, b, rfl, v, post⟩
  simp [W_is_between, ev0]
  refine ⟨d, rfl, v, ?_⟩
  cases d with
  | int i => simp [isNum]; exact chain_int rfl rfl rfl (en_rt post)
  | _ => simp [isNum]; exact en_rt post
theorem ok_l_is_in : ∀ l h k, sp_btw l h k → W_l_is_in (en k) (ev0 N_l_is_in l) h := by
  rintro l h k ⟨d, a, b, rfl, v, post⟩
  simp [W_l_is_in, ev0]
  refine isi_ok v nofun ?_
  cases d with
  | int i =>
    simp [D.isTy]
    refine isi_ok v nofun ?_
    simp [D.isTy]
    exact chain_int rfl rfl rfl (en_rt post)
  | bl i =>
    simp [D.isTy]
    refine isi_ok v nofun ?_
    simp [D.isTy]
    exact en_rt post
  | _ => simp [D.isTy]; exact en_rt post
theorem ok_top1 : ∀ l h k, sp_top l h k → W_top (en k) (ev0 N_top l) h := by
  rintro l h k ⟨w, rfl, h0, h1, post⟩
  simp [W_top, ev0]
  exact ⟨⟨h0, .inl (by omega)⟩, en_rt (by simpa [p2] using post)⟩
/-! texts -/
theorem chr_ok {x : Str} (z : PyData.strOk x = true) {c : Nat} (hc : c ∈ x.cps.toList) : PyData.strOk ⟨#[c]⟩ = true := by
  simp only [PyData.strOk, Array.all_eq_true] at z ⊢
  intro i hi
  obtain ⟨j, hj, e⟩ := List.mem_iff_getElem.mp hc
  have := z j (by simpa using hj)
  have hi0 : i = 0 := by simpa using hi
  subst hi0
  simp at e
  simp [← e]
  simpa using this
def chrIn (z : Str) (d : D) : Bool := match d with
  | .str y => (match y.cps.toList with
    | [c] => decide (c ∈ z.cps.toList)
    | _ => false)
  | _ => false
theorem chrIn_c {z : Str} {c : Nat} : chrIn z (.str ⟨#[c]⟩) = decide (c ∈ z.cps.toList) := rfl
theorem cutS1 {x : Str} : (cutS x (some 1) none).cps.toList = x.cps.toList.drop 1 := by
  have hl : x.length = x.cps.size := rfl
  unfold cutS HT.sIx
  simp only [hl]
  by_cases h : 1 ≤ x.cps.size
  · simp [Nat.min_eq_left h]
    try rw [show min 1 x.cps.size = 1 by omega]
    try rw [List.take_of_length_le (by simp)]
  · have : x.cps.size = 0 := by omega
    have e : x.cps.toList = [] := by simpa using this
    simp [e]
def sp_vtext : Sp3 := fun l h k => ∃ x : Str, l = [.str x] ∧ PyData.strOk x = true ∧ x.length ≤ 1000 ∧ ∀ h', Sub h h' → k (.bl (varText x)) h'
theorem ok_is_variable_text : ∀ l h k, sp_vtext l h k → W_is_variable_text (en k) (ev0 N_is_variable_text l) h := by
  rintro l h k ⟨x, rfl, hx, hl, post⟩
  have e0 : x.cps[0]? = x.cps.toList[0]? := by rw [Array.getElem?_toList]
  have hv : ∀ c : Nat, ((⟨#[c]⟩ : Str) = "v") ↔ c = 118 := fun c => by
    have : ("v" : Str) = ⟨#[118]⟩ := by decide +kernel
    rw [this]; simp
  simp [W_is_variable_text, ev0]
  refine ⟨by omega, ?_⟩
  unfold varText at post
  split
  · rename_i c1
    have c1' : 1 < x.length := by omega
    have hlen : 0 < x.cps.toList.length := by simpa using (show 0 < x.cps.size by have : x.length = x.cps.size := rfl; omega)
    refine ⟨by omega, _, by rw [e0]; exact List.getElem?_eq_getElem hlen, ?_⟩
    simp only [hv]
    have h0 : (x.cps.toList[0]? = some 118) ↔ x.cps.toList[0] = 118 := by rw [List.getElem?_eq_getElem hlen]; simp
    split
    · rename_i c2
      refine ⟨by omega, ?_⟩
      rw [cutS1]
      have hl2 : x.cps.toList.length ≤ 1000 := by simpa using (show x.cps.size ≤ 1000 from hl)
      refine lc_all (g := chrIn digitsS) (by rw [List.length_map, List.length_drop]; omega) (fun _ _ => trivial) (fun y hy h' s K hK => ?_) (fun h' s => ?_)
      · obtain ⟨c, hc, rfl⟩ := List.mem_map.mp hy
        simp
        exact ⟨c, rfl, by have := hK _ (Sub.refl _); rw [chrIn_c] at this; simpa [digitsS] using this⟩
      · have := post h' s
        rw [List.all_map]
        simp only [decide_eq_true c1', Bool.true_and, decide_eq_true (h0.mpr c2)] at this
        exact en_rt this
    · rename_i c2
      have := post h (Sub.refl h)
      rw [decide_eq_false (fun z => c2 (h0.mp z))] at this
      simp at this
      exact en_rt this
  · rename_i c1
    have c1' : ¬ 1 < x.length := by omega
    have := post h (Sub.refl h)
    rw [decide_eq_false c1'] at this
    exact en_rt this
def sp_name : Sp3 := fun l h k => ∃ d, l = [d] ∧ VOk h d ∧ ∀ h', Sub h h' → k (.bl (nmB d)) h'
theorem sub_letters : cutS signsS none (some 26) = lettersS := by decide +kernel
theorem len_rng {x : Str} {ρ : Ev} {h : H3} {k : K1} (hx : x.length ≤ 1000) (h0 : ρ[0]? = some (some (.str x))) (q : k (.bl (decide (1 ≤ x.length ∧ x.length ≤ 20))) h) : wChain T3.rLe T3.rLe (wC (.int 1)) (wL T3.rLen (wCons (wVar 0) wNil)) (wC (.int 20)) ρ h k := by
  simp only [wChain, s_c, s_L, s_cons, s_nil, s_var]
  refine ⟨.str x, h0, ?_⟩
  refine (s_len_s (z := x)).mpr ⟨by omega, ?_⟩
  refine ⟨_, rfl, ?_⟩
  by_cases c : 1 ≤ x.length
  · have c' : (1 : Int) ≤ (x.length : Int) := by omega
    simp [c, c'] at q ⊢
    have e : decide ((x.length : Int) ≤ 20) = decide (x.length ≤ 20) := decide_eq_decide.mpr (by omega)
    rw [e]; exact q
  · have c' : ¬ (1 : Int) ≤ (x.length : Int) := by omega
    simp [c, c'] at q ⊢
    exact q
theorem ok_is_name : ∀ l h k, sp_name l h k → W_is_name sp_vtext (en k) (ev0 N_is_name l) h := by
  rintro l h k ⟨d, rfl, v, post⟩
  simp [W_is_name, ev0]
  refine isi_ok v nofun ?_
  cases d with
  | str x =>
    have hx := v.str
    have hl := v.len
    have e0 : x.cps[0]? = x.cps.toList[0]? := by rw [Array.getElem?_toList]
    simp [D.isTy]
    refine len_rng hl rfl ?_
    simp only [nmB, nameS] at post
    by_cases c1 : 1 ≤ x.length ∧ x.length ≤ 20
    · rw [decide_eq_true c1] at post
      have hlen : 0 < x.cps.toList.length := by simpa using (show 0 < x.cps.size by have : x.length = x.cps.size := rfl; omega)
      have hl2 : x.cps.toList.length ≤ 1000 := by simpa using (show x.cps.size ≤ 1000 from hl)
      obtain ⟨c0, rest, hcs⟩ : ∃ c0 rest, x.cps.toList = c0 :: rest := by
        cases e : x.cps.toList with
        | nil => rw [e] at hlen; simp at hlen
        | cons c r => exact ⟨c, r, rfl⟩
      have e1 : x.cps[0]? = some c0 := by rw [e0, hcs]; rfl
      have e2 : x.cps.toList[0]? = some c0 := by rw [hcs]; rfl
      rw [e2] at post
      simp [c1, rInK]
      split
      · rename_i c2
        rw [decide_eq_true (show x ∈ reservedS from c2)] at post
        have := post h (Sub.refl h)
        simp at this
        exact en_rt this
      · rename_i c2
        rw [decide_eq_false (show x ∉ reservedS from c2)] at post
        refine lc_all (g := chrIn signsS) (by rw [List.length_map]; omega) (fun _ _ => trivial) (fun y hy h' s K hK => ?_) (fun h' s => ?_)
        · obtain ⟨c, hc, rfl⟩ := List.mem_map.mp hy
          simp
          exact ⟨c, rfl, by have := hK _ (Sub.refl _); rw [chrIn_c] at this; simpa [signsS] using this⟩
        · rw [List.all_map]
          have eall : x.cps.toList.all (chrIn signsS ∘ fun c => D.str ⟨#[c]⟩) = x.cps.toList.all (fun c => decide (c ∈ signsS.cps.toList)) := rfl
          rw [eall]
          cases hall : (x.cps.toList.all fun c => decide (c ∈ signsS.cps.toList)) with
          | false =>
            have := post h' s
            rw [hall] at this
            simp at this ⊢
            exact en_rt this
          | true =>
            rw [hall] at post
            have hs26 : (Str.ofString "abcdefghijklmnopqrstuvwxyz0123456789_").length ≤ 16777216 := by decide +kernel
            have hcut : cutS (Str.ofString "abcdefghijklmnopqrstuvwxyz0123456789_") none (some 26) = lettersS := sub_letters
            simp only [asB_bl, if_true]
            refine ⟨by omega, c0, e1, hs26, ?_⟩
            rw [hcut]
            refine ⟨_, rfl, ?_⟩
            cases hfst : decide (c0 ∈ lettersS.cps.toList) with
            | false =>
              have := post h' s
              simp only [hfst] at this
              simp at this ⊢
              exact en_rt this
            | true =>
              simp
              refine ⟨x, rfl, hx, hl, fun h2 s2 => ?_⟩
              have := post h2 (s.trans s2)
              simp only [hfst] at this
              simp at this ⊢
              exact en_rt this
    · rw [decide_eq_false c1] at post
      simp [c1]
      have := post h (Sub.refl h)
      simp at this
      exact en_rt this
  | _ =>
    simp [D.isTy]
    exact en_rt (post h (Sub.refl h))
/-! the law's names -/
theorem emp_all {α : Type} {p : α → Bool} : ∀ {l : List α}, (l.filter fun x => !p x).isEmpty = l.all p
  | [] => rfl
  | x :: l => by
    rw [List.filter_cons]
    cases h : p x <;> simp [h, emp_all (l := l)]
theorem law_signs : (Str.ofString "abcdefghijklmnopqrstuvwxyz" ++ Str.ofString "0123456789_") = signsS := by decide +kernel
theorem ok_l_is_name : ∀ l h k, sp_name l h k → W_l_is_name sp_ops (en k) (ev0 N_l_is_name l) h := by
  rintro l h k ⟨d, rfl, v, post⟩
  have hv : ∀ c : Nat, ((⟨#[c]⟩ : Str) = "v") ↔ c = 118 := fun c => by
    have : ("v" : Str) = ⟨#[118]⟩ := by decide +kernel
    rw [this]; simp
  simp [W_l_is_name, ev0]
  refine isi_ok v nofun ?_
  cases d with
  | str x =>
    have hx := v.str
    have hl := v.len
    have e0 : x.cps[0]? = x.cps.toList[0]? := by rw [Array.getElem?_toList]
    simp [D.isTy]
    refine len_rng hl rfl ?_
    simp only [nmB, nameS] at post
    by_cases c1 : 1 ≤ x.length ∧ x.length ≤ 20
    · rw [decide_eq_true c1] at post
      have hlen : 0 < x.cps.toList.length := by simpa using (show 0 < x.cps.size by have : x.length = x.cps.size := rfl; omega)
      have hl2 : x.cps.toList.length ≤ 1000 := by simpa using (show x.cps.size ≤ 1000 from hl)
      obtain ⟨c0, rest, hcs⟩ : ∃ c0 rest, x.cps.toList = c0 :: rest := by
        cases e : x.cps.toList with
        | nil => rw [e] at hlen; simp at hlen
        | cons c r => exact ⟨c, r, rfl⟩
      have e1 : x.cps[0]? = some c0 := by rw [e0, hcs]; rfl
      have e2 : x.cps.toList[0]? = some c0 := by rw [hcs]; rfl
      rw [e2] at post
      simp [c1]
      refine ⟨rfl, fun p np q nq => ?_⟩
      have nqp : p ≠ q := fun z => by subst z; rw [up_same] at nq; cases nq
      refine ⟨pairOps.map D.str, _, by rw [up_ne nqp]; exact up_same, up_same, by decide, fun r nr => ?_⟩
      have s1 : Sub h (up h p (.lst (pairOps.map D.str))) := (Sub.refl h).up np
      have s2 := s1.trans ((Sub.refl _).up (o := .lst [.str "not", .str "neg", .str "width", .str "array", .str "procedure", .str "block", .str "put", .str "take", .str "assert", .str "go", .str "if", .str "return"]) nq)
      have s3 := s2.trans ((Sub.refl _).up (o := .lst (reservedS.map D.str)) nr)
      refine rIn_names (l := reservedS) (neg := false) (by rw [up_same]; rfl) (v.mono s3) (by decide +kernel) ?_
      have er : reservedS.any (eqS (.str x)) = decide (x ∈ reservedS) := by
        rw [Bool.eq_iff_iff]
        simp [eqS]
      rw [er]
      have s3 : Sub h (up (up (up h p (.lst (pairOps.map D.str))) q (.lst [.str "not", .str "neg", .str "width", .str "array", .str "procedure", .str "block", .str "put", .str "take", .str "assert", .str "go", .str "if", .str "return"])) r (.lst (pairOps.map D.str ++ [.str "not", .str "neg", .str "width", .str "array", .str "procedure", .str "block", .str "put", .str "take", .str "assert", .str "go", .str "if", .str "return"]))) := s3
      generalize (up (up (up h p (.lst (pairOps.map D.str))) q (.lst [.str "not", .str "neg", .str "width", .str "array", .str "procedure", .str "block", .str "put", .str "take", .str "assert", .str "go", .str "if", .str "return"])) r (.lst (pairOps.map D.str ++ [.str "not", .str "neg", .str "width", .str "array", .str "procedure", .str "block", .str "put", .str "take", .str "assert", .str "go", .str "if", .str "return"]))) = h3 at s3 ⊢
      cases hres : decide (x ∈ reservedS) with
      | true =>
        have := post h3 s3
        rw [hres] at this
        simp at this ⊢
        exact en_rt this
      | false =>
        rw [hres] at post
        simp
        refine ⟨by omega, c0, e1, ?_⟩
        have eL : ∀ c, decide (c ∈ (Str.ofString "abcdefghijklmnopqrstuvwxyz").cps.toList) = decide (c ∈ lettersS.cps.toList) := fun c => rfl
        refine ⟨_, rfl, ?_⟩
        rw [eL]
        cases hfst : decide (c0 ∈ lettersS.cps.toList) with
        | false =>
          have := post h3 s3
          simp only [hfst] at this
          simp at this ⊢
          exact en_rt this
        | true =>
          simp only [hfst] at post
          simp
          refine lc_emp (t := fun y => !chrIn signsS y) (f := fun y => y) (by rw [List.length_map]; omega) (fun _ _ => trivial) (fun y hy _ => ?_) (fun y hy h' s K hK => ?_) (fun y hy h' s K hK => ?_) (fun h' s => ?_)
          · obtain ⟨c, hc, rfl⟩ := List.mem_map.mp hy
            exact VOk.mk_str (chr_ok hx hc) (by show (1 : Nat) ≤ 1000; decide)
          · obtain ⟨c, hc, rfl⟩ := List.mem_map.mp hy
            simp
            refine ⟨by decide +kernel, ?_⟩
            rw [law_signs]
            refine ⟨c, rfl, ?_⟩
            have := hK _ (Sub.refl _)
            rw [chrIn_c] at this
            simpa using this
          · simp
            exact hK _ (Sub.refl _)
          · rw [emp_all, List.all_map]
            have eall : x.cps.toList.all (chrIn signsS ∘ fun c => D.str ⟨#[c]⟩) = x.cps.toList.all (fun c => decide (c ∈ signsS.cps.toList)) := rfl
            rw [eall]
            cases hall : (x.cps.toList.all fun c => decide (c ∈ signsS.cps.toList)) with
            | false =>
              have := post h' (s3.trans s)
              rw [hall] at this
              simp at this ⊢
              exact en_rt this
            | true =>
              rw [hall] at post
              simp
              refine ⟨by omega, c0, e1, ?_⟩
              simp only [hv]
              have hvt : varText x = (decide (1 < x.length) && (decide (c0 = 118) && rest.all fun c => decide (c ∈ digitsS.cps.toList))) := by
                unfold varText
                rw [e2, hcs]
                simp
              rw [hvt] at post
              by_cases c118 : c0 = 118
              · rw [if_pos c118]
                refine ⟨by omega, ?_⟩
                by_cases cl : 1 < x.length
                · rw [if_pos (by omega)]
                  refine ⟨by omega, ?_⟩
                  rw [cutS1, hcs, List.drop_one, List.tail_cons]
                  have hlr : rest.length ≤ 1000 := by have := congrArg List.length hcs; simp only [List.length_cons] at this; omega
                  refine lc_emp (n := false) (t := fun y => !chrIn digitsS y) (f := fun y => y) (by rw [List.length_map]; omega) (fun _ _ => trivial) (fun y hy _ => ?_) (fun y hy h' s K hK => ?_) (fun y hy h' s K hK => ?_) (fun h2 s2 => ?_)
                  · obtain ⟨c, hc, rfl⟩ := List.mem_map.mp hy
                    exact VOk.mk_str (chr_ok hx (by rw [hcs]; exact List.mem_cons_of_mem _ hc)) (by show (1 : Nat) ≤ 1000; decide)
                  · obtain ⟨c, hc, rfl⟩ := List.mem_map.mp hy
                    simp
                    refine ⟨c, rfl, ?_⟩
                    have := hK _ (Sub.refl _)
                    rw [chrIn_c] at this
                    simpa [digitsS] using this
                  · simp
                    exact hK _ (Sub.refl _)
                  · rw [emp_all, List.all_map]
                    have eall2 : rest.all (chrIn digitsS ∘ fun c => D.str ⟨#[c]⟩) = rest.all (fun c => decide (c ∈ digitsS.cps.toList)) := rfl
                    rw [eall2]
                    have := post h2 ((s3.trans s).trans s2)
                    rw [decide_eq_true c118, decide_eq_true cl] at this
                    simp only [asB_bl, Bool.bne_false]
                    simp only [Bool.true_and, Bool.not_false] at this
                    exact en_rt this
                · rw [if_neg (by omega)]
                  have := post h' (s3.trans s)
                  rw [decide_eq_false cl] at this
                  simp at this
                  exact en_rt this
              · rw [if_neg c118]
                have := post h' (s3.trans s)
                rw [decide_eq_false c118] at this
                simp at this
                exact en_rt this
    · rw [decide_eq_false c1] at post
      simp [c1]
      have := post h (Sub.refl h)
      simp at this
      exact en_rt this
  | _ =>
    simp [D.isTy]
    exact en_rt (post h (Sub.refl h))
end Lk01
end
-- G1B
section
set_option maxRecDepth 100000
set_option maxHeartbeats 4000000
/-! G1B: expressions, statements, ends: the program's look. -/
namespace Lk01
open PySem PySem.Spec PyProof.Rows L2 T3
structure Ctx (h : H3) (v : Pv) : Prop where
  wf : v.Wf
  ok : VOk h v.toD
theorem Ctx.mono {h h' : H3} {v : Pv} (c : Ctx h v) (s : Sub h h') : Ctx h' v := ⟨c.wf, c.ok.mono s⟩
theorem Ctx.as {h : H3} {v : Pv} (c : Ctx h v) : v.ars.length ≤ 60 ∧ ∀ a ∈ v.ars, PyData.strOk a.1 = true := by
  have h1 := (c.ok.tup.2 (.tup (v.ars.map arD)) (by simp)).tup
  refine ⟨by simpa using h1.1, fun a ha => ?_⟩
  exact ((h1.2 _ (List.mem_map_of_mem ha)).tup.2 (.str a.1) (by simp)).str
theorem Ctx.nms {h : H3} {v : Pv} (c : Ctx h v) : ∀ x ∈ v.nms, PyData.strOk x = true := by
  intro x hx
  obtain ⟨a, ha, rfl⟩ := List.mem_map.mp hx
  exact c.as.2 a ha
theorem Ctx.ps {h : H3} {v : Pv} (c : Ctx h v) : v.prs.length ≤ 60 ∧ ∀ p ∈ v.prs, PyData.strOk p.name = true ∧ p.bls.length ≤ 60 ∧ ∀ b ∈ p.bls, VOk h b.lab ∧ (b.body.length ≤ 60 ∧ ∀ s ∈ b.body, VOk h s) ∧ VOk h b.nd := by
  have h1 := (c.ok.tup.2 (.tup (v.prs.map Pc.toD)) (by simp)).tup
  refine ⟨by simpa using h1.1, fun p hp => ?_⟩
  have h2 := (h1.2 _ (List.mem_map_of_mem hp)).tup
  have h3 := (h2.2 (.tup (p.bls.map Bl.toD)) (by simp)).tup
  refine ⟨(h2.2 (.str p.name) (by simp)).str, by simpa using h3.1, fun b hb => ?_⟩
  have h4 := (h3.2 _ (List.mem_map_of_mem hb)).tup
  exact ⟨h4.2 _ (by simp), (h4.2 (.tup b.body) (by simp)).tup, h4.2 _ (by simp)⟩
theorem find_at {α : Type} {p : α → Bool} : ∀ {l : List α} {j : Nat} {a : α}, (∀ x ∈ l.take j, p x = false) → l[j]? = some a → p a = true → l.find? p = some a
  | [], _, _, _, h, _ => by simp at h
  | x :: l, 0, a, _, h, q => by simp at h; subst h; simp [q]
  | x :: l, j + 1, a, hx, h, q => by
    simp at h
    have := hx x (by simp)
    simp only [List.find?_cons, this]
    exact find_at (fun y hy => hx y (by simp [hy])) h q
theorem find_none {α : Type} {p : α → Bool} {l : List α} (h : ∀ x ∈ l.take l.length, p x = false) : l.find? p = none := by
  rw [List.take_length] at h
  exact List.find?_eq_none.mpr fun x hx => by rw [h x hx]; simp
theorem take_snoc {α : Type} {l : List α} {j : Nat} {a : α} (h : l[j]? = some a) : l.take (j + 1) = l.take j ++ [a] := by
  rw [List.take_succ, h]; rfl
def sizeD (v : Pv) (d : D) : D := match v.ars.find? (fun a => eqS d a.1) with
  | some a => .int a.2
  | none => .non
theorem sizeD_non {v : Pv} {d : D} : (sizeD v d).isN = !v.nms.any (eqS d) := by
  unfold sizeD
  have e : v.nms.any (eqS d) = v.ars.any fun a => eqS d a.1 := by rw [Pv.nms, List.any_map]; rfl
  rw [e]
  split
  · rename_i a ha
    have h1 := List.find?_some ha
    have h2 := List.mem_of_find?_eq_some ha
    have : (v.ars.any fun a => eqS d a.1) = true := List.any_eq_true.mpr ⟨a, h2, h1⟩
    rw [this]; rfl
  · rename_i ha
    have : (v.ars.any fun a => eqS d a.1) = false := by
      rw [List.any_eq_false]
      exact List.find?_eq_none.mp ha
    rw [this]; rfl
def sp_sizeof : Sp3 := fun l h k => ∃ v d, l = [v.toD, d] ∧ Ctx h v ∧ VOk h d ∧ k (sizeD v d) h
theorem ok_size_of1 : ∀ l h k, sp_sizeof l h k → W_size_of (en k) (ev0 N_size_of l) h := by
  rintro l h0 k ⟨v, d, rfl, c, vd, post⟩
  simp [W_size_of, ev0, Pv.toD]
  refine for_inv (fun j ρ h' => ∃ x, ρ = [some v.toD, some d, x] ∧ h' = h0 ∧ ∀ a ∈ v.ars.take j, eqS d a.1 = false) (fun _ _ _ _ _ => trivial) ⟨none, rfl, rfl, by simp⟩ ?_ ?_
  · rintro j x ρ h hx ⟨y, rfl, rfl, hf⟩ N hN
    rw [List.getElem?_map, Option.map_eq_some_iff] at hx
    obtain ⟨a, ha, rfl⟩ := hx
    simp [arD]
    refine eq_strR vd (c.as.2 a (List.mem_of_getElem? ha)) ?_
    simp
    split
    · rename_i e
      have : sizeD v d = .int a.2 := by unfold sizeD; rw [find_at hf ha e]
      rw [this] at post
      exact en_rt post
    · rename_i e
      refine hN _ _ ⟨_, rfl, rfl, fun b hb => ?_⟩
      rw [take_snoc ha] at hb
      rcases List.mem_append.mp hb with hb | hb
      · exact hf b hb
      · rw [List.mem_singleton.mp hb]; simpa using e
  · rintro ρ h ⟨y, rfl, rfl, hf⟩
    rw [List.length_map] at hf
    have : sizeD v d = .non := by unfold sizeD; rw [find_none hf]
    rw [this] at post
    simp
    exact en_rt post
def sp_label : Sp3 := fun l h k => ∃ d, l = [d] ∧ VOk h d ∧ k (.bl (btw d 0 999)) h
theorem ok_is_label : ∀ l h k, sp_label l h k → W_is_label sp_btw (en k) (ev0 N_is_label l) h := by
  rintro l h0 k ⟨d, rfl, vd, post⟩
  simp [W_is_label, ev0]
  exact ⟨d, 0, 999, rfl, vd, en_rt post⟩
def sp_targets : Sp3 := fun l h k => ∃ v d, l = [d] ∧ ndB v d = true ∧ k (.tup (aimsD d)) h
theorem ok_targets1 : ∀ l h k, sp_targets l h k → W_targets (en k) (ev0 N_targets l) h := by
  rintro l h0 k ⟨v, d, rfl, hd, post⟩
  rcases ndB_cases hd with ⟨i, rfl⟩ | ⟨a, i, j, rfl⟩ | ⟨a, rfl⟩ <;> simp [W_targets, ev0, aimsD] at post ⊢ <;> exact en_rt post
/-! ### expressions -/
def sp_isex (n : Nat) : Sp3 := fun l h k => ∃ (v : Pv) (d : D) (m : Nat), l = [v.toD, d, .int (m : Int)] ∧ m < n ∧ Ctx h v ∧ VOk h d ∧ k (.bl (exB v.w v.nms m d)) h
theorem two_le {α : Type} {x y : α} {r : List α} : ¬ ((((x :: y :: r).length : Nat) : Int) < 2) := by simp; omega
theorem ok_is_expression (n : Nat) : ∀ l h k, sp_isex (n + 1) l h k → W_is_expression sp_btw sp_top sp_sizeof (sp_isex n) (en k) (ev0 N_is_expression l) h := by
  rintro l h k ⟨v, d, m, rfl, hm, c, vd, post⟩
  have bad : exB v.w v.nms m d = false → (en k).rt (.bl false) h := fun e => by rw [e] at post; exact en_rt post
  simp [W_is_expression, ev0]
  refine isi_ok vd nofun ?_
  cases d with
  | tup l =>
    simp [D.isTy]
    rcases l with _ | ⟨x, _ | ⟨a, r⟩⟩
    · simp; exact bad (by cases m <;> rfl)
    · simp; exact bad (by cases m <;> simp [exB])
    · have hl := vd.tup
      have e1 : ¬ ((r.length : Int) + 1 + 1 < 2) := by omega
      simp [e1]
      rcases m with _ | m
      · simp; exact bad rfl
      · have e2 : ¬ ((m : Int) + 1 < 1) := by omega
        simp [e2]
        have va := hl.2 a (by simp)
        refine isi_ok (hl.2 x (by simp)) nofun ?_
        cases x with
        | str x =>
          simp [D.isTy]
          simp only [exB] at post
          by_cases c1 : x = "int"
          · subst c1
            simp at post ⊢
            cases r with
            | nil =>
              simp [Pv.toD] at post ⊢
              refine ⟨v.w, rfl, by have := c.wf.w; omega, by have := c.wf.w; omega, _, _, _, rfl, va, en_rt post⟩
            | cons b r =>
              have e3 : ¬ ((r.length : Int) + 1 + 1 + 1 = 2) := by omega
              simp [e3] at post ⊢
              exact en_rt post
          · by_cases c2 : x = "var"
            · subst c2
              simp at post ⊢
              cases r with
              | nil =>
                simp at post ⊢
                exact ⟨_, _, _, rfl, va, en_rt post⟩
              | cons b r =>
                have e3 : ¬ ((r.length : Int) + 1 + 1 + 1 = 2) := by omega
                simp [e3] at post ⊢
                exact en_rt post
            · by_cases c3 : x = "cell"
              · subst c3
                simp at post ⊢
                rcases r with _ | ⟨b, _ | ⟨b2, r⟩⟩
                · simp at post ⊢; exact en_rt post
                · simp at post ⊢
                  refine ⟨v, a, rfl, c, va, ?_⟩
                  simp only [sizeD_non]
                  cases hn : v.nms.any (eqS a) with
                  | false => rw [hn] at post; simp at post ⊢; exact en_rt post
                  | true =>
                    rw [hn] at post
                    simp at post ⊢
                    exact ⟨v, b, m, by simp, by omega, c, hl.2 b (by simp), en_rt post⟩
                · have e3 : ¬ ((r.length : Int) + 1 + 1 + 1 + 1 = 3) := by omega
                  simp [e3] at post ⊢
                  exact en_rt post
              · rw [if_neg c1, if_neg c2, if_neg c3] at post
                simp [c1, c2, c3, rInK]
                by_cases c4 : x ∈ singleOps
                · rw [if_pos c4] at post
                  have c4' : x ∈ k_SINGLES := c4
                  simp [c4']
                  cases r with
                  | nil =>
                    simp at post ⊢
                    exact ⟨v, a, m, by simp, by omega, c, va, en_rt post⟩
                  | cons b r =>
                    have e3 : ¬ ((r.length : Int) + 1 + 1 + 1 = 2) := by omega
                    simp [e3] at post ⊢
                    exact en_rt post
                · rw [if_neg c4] at post
                  have c4' : x ∉ k_SINGLES := c4
                  simp [c4']
                  by_cases c5 : x ∈ pairOps
                  · rw [if_pos c5] at post
                    have c5' : x ∈ k_PAIRS := c5
                    simp [c5']
                    rcases r with _ | ⟨b, _ | ⟨b2, r⟩⟩
                    · simp at post ⊢; exact en_rt post
                    · simp at post ⊢
                      refine ⟨v, a, m, by simp, by omega, c, va, ?_⟩
                      cases ha : exB v.w v.nms m a with
                      | false => rw [ha] at post; simp at post ⊢; exact en_rt post
                      | true =>
                        rw [ha] at post
                        simp at post ⊢
                        exact ⟨v, b, m, by simp, by omega, c, hl.2 b (by simp), en_rt post⟩
                    · have e3 : ¬ ((r.length : Int) + 1 + 1 + 1 + 1 = 3) := by omega
                      simp [e3] at post ⊢
                      exact en_rt post
                  · rw [if_neg c5] at post
                    have c5' : x ∉ k_PAIRS := c5
                    simp [c5']
                    exact en_rt post
        | _ => simp [D.isTy]; exact bad rfl
  | _ => simp [D.isTy]; exact bad (by cases m <;> rfl)
/-! ### statements and ends -/
def sp_ex20 : Sp3 := fun l h k => ∃ (v : Pv) (d : D), l = [v.toD, d] ∧ Ctx h v ∧ VOk h d ∧ k (.bl (v.ex d)) h
def sp_call : Sp3 := fun l h k => ∃ (v : Pv) (r : List D), l = [v.toD, .tup (.str "call" :: r)] ∧ Ctx h v ∧ VOk h (.tup (.str "call" :: r)) ∧ ∀ h', Sub h h' → k (.bl (stB v (.tup (.str "call" :: r)))) h'
theorem any_at {α : Type} {p : α → Bool} {l : List α} {j : Nat} {a : α} (h : l[j]? = some a) (q : p a = true) : l.any p = true := List.any_eq_true.mpr ⟨a, List.mem_of_getElem? h, q⟩
theorem any_no {α : Type} {p : α → Bool} {l : List α} (h : ∀ x ∈ l.take l.length, p x = false) : l.any p = false := by
  rw [List.take_length] at h
  rw [List.any_eq_false]
  exact fun x hx => by rw [h x hx]; simp
theorem stB_call {v : Pv} {r : List D} : stB v (.tup (.str "call" :: r)) = v.cll r := by
  simp [stB]
theorem ok_is_call : ∀ l h k, sp_call l h k → W_is_call sp_btw sp_ex20 (en k) (ev0 N_is_call l) h := by
  rintro l h0 k ⟨v, r, rfl, c, vd, post⟩
  have post0 := post h0 (Sub.refl h0)
  have bad : stB v (.tup (.str "call" :: r)) = false → (en k).rt (.bl false) h0 := fun e => by rw [e] at post0; exact en_rt post0
  have hl := vd.tup
  rw [stB_call] at bad post0
  simp only [stB_call] at post
  simp [W_is_call, ev0]
  rcases r with _ | ⟨a, _ | ⟨b, _ | ⟨e, _ | ⟨f, r⟩⟩⟩⟩
  · simp; exact bad rfl
  · simp; exact bad rfl
  · simp; exact bad rfl
  · simp
    refine ⟨a, _, _, rfl, hl.2 a (by simp), ?_⟩
    cases hb : btw a 0 39 with
    | false => simp; exact bad (by cases e <;> first | rfl | simp [Pv.cll, hb])
    | true =>
      simp
      refine isi_ok (hl.2 e (by simp)) nofun ?_
      cases e with
      | tup es =>
        simp [D.isTy, Pv.toD]
        simp only [Pv.cll, hb, Bool.true_and] at post
        have ves := (hl.2 (.tup es) (by simp)).tup
        refine for_inv (fun j ρ h' => ∃ x y, ρ = [some v.toD, some (.tup [.str "call", a, b, .tup es]), x, y] ∧ h' = h0 ∧ ∀ p ∈ v.prs.take j, (eqS b p.name && (!decide (p.name = "main") && decide (p.par = (es.length : Int)))) = false) (fun _ _ _ _ _ => trivial) ⟨none, none, rfl, rfl, by simp⟩ ?_ ?_
        · rintro j x ρ h hx ⟨y, z, rfl, rfl, hf⟩ N hN
          rw [List.getElem?_map, Option.map_eq_some_iff] at hx
          obtain ⟨p, hp, rfl⟩ := hx
          have next : (eqS b p.name && (!decide (p.name = "main") && decide (p.par = (es.length : Int)))) = false → N [some v.toD, some (.tup [.str "call", a, b, .tup es]), some p.toD, z] h := fun e => by
            refine hN _ _ ⟨_, _, rfl, rfl, fun b hb => ?_⟩
            rw [take_snoc hp] at hb
            rcases List.mem_append.mp hb with hb | hb
            · exact hf b hb
            · rw [List.mem_singleton.mp hb]; exact e
          simp [Pc.toD]
          refine eq_strR (hl.2 b (by simp)) (c.ps.2 p (List.mem_of_getElem? hp)).1 ?_
          cases h1 : eqS b p.name with
          | false => simp; exact next (by simp [h1])
          | true =>
            simp
            by_cases h2 : p.par = (es.length : Int)
            · rw [if_pos h2]
              by_cases h3 : p.name = "main"
              · rw [if_pos h3]
                exact next (by simp [h3])
              · rw [if_neg h3]
                have hc : v.cal b es.length = true := any_at hp (by simp [h1, h2, h3])
                rw [hc] at post
                refine lc_all (g := v.ex) (l := es) (by have := ves.1; omega) (fun _ _ => trivial) (fun x hx h' s K hK => ?_) (fun h' s => ?_)
                · simp
                  exact ⟨v, x, rfl, c.mono s, (ves.2 x hx).mono s, hK _ (Sub.refl _)⟩
                · have := post h' s
                  rw [Bool.and_true] at this
                  exact en_rt this
            · rw [if_neg h2]
              exact next (by simp [h2])
        · rintro ρ h ⟨y, z, rfl, rfl, hf⟩
          rw [List.length_map] at hf
          have hc : v.cal b es.length = false := any_no hf
          simp
          exact bad (by simp [Pv.cll, hc])
      | _ => simp [D.isTy]; exact bad rfl
  · have e3 : ¬ ((r.length : Int) + 1 + 1 + 1 + 1 + 1 = 4) := by omega
    simp [e3]
    exact bad (by cases e <;> rfl)
def sp_st : Sp3 := fun l h k => ∃ (v : Pv) (d : D), l = [v.toD, d] ∧ Ctx h v ∧ VOk h d ∧ ∀ h', Sub h h' → k (.bl (stB v d)) h'
theorem ok_is_statement : ∀ l h k, sp_st l h k → W_is_statement sp_ex20 sp_btw sp_sizeof sp_call (en k) (ev0 N_is_statement l) h := by
  rintro l h k ⟨v, d, rfl, c, vd, post⟩
  have post0 := post h (Sub.refl h)
  have bad : stB v d = false → (en k).rt (.bl false) h := fun e => by rw [e] at post0; exact en_rt post0
  simp [W_is_statement, ev0]
  refine isi_ok vd nofun ?_
  cases d with
  | tup l =>
    simp [D.isTy]
    rcases l with _ | ⟨x, r⟩
    · simp; exact bad rfl
    · have hl := vd.tup
      have e1 : ¬ ((r.length : Int) + 1 = 0) := by omega
      simp [e1]
      refine isi_ok (hl.2 x (by simp)) nofun ?_
      cases x with
      | str x =>
        simp [D.isTy]
        by_cases c1 : x = "set"
        · subst c1
          simp [stB] at post0 ⊢
          rcases r with _ | ⟨a, _ | ⟨b, _ | ⟨e, r⟩⟩⟩
          · simp at post0 ⊢; exact en_rt post0
          · simp at post0 ⊢; exact en_rt post0
          · simp at post0 ⊢
            refine ⟨_, _, _, rfl, hl.2 a (by simp), ?_⟩
            cases hb : btw a 0 39 with
            | false => rw [hb] at post0; simp at post0 ⊢; exact en_rt post0
            | true => rw [hb] at post0; simp at post0 ⊢; exact ⟨v, b, rfl, c, hl.2 b (by simp), en_rt post0⟩
          · have e3 : ¬ ((r.length : Int) + 1 + 1 + 1 + 1 = 3) := by omega
            simp [e3] at post0 ⊢; exact en_rt post0
        · by_cases c2 : x = "take"
          · subst c2
            simp [stB] at post0 ⊢
            rcases r with _ | ⟨a, _ | ⟨b, r⟩⟩
            · simp at post0 ⊢; exact en_rt post0
            · simp at post0 ⊢
              exact ⟨_, _, _, rfl, hl.2 a (by simp), en_rt post0⟩
            · have e3 : ¬ ((r.length : Int) + 1 + 1 + 1 = 2) := by omega
              simp [e3] at post0 ⊢; exact en_rt post0
          · by_cases c3 : x = "put"
            · subst c3
              simp [stB] at post0 ⊢
              rcases r with _ | ⟨a, _ | ⟨b, r⟩⟩
              · simp at post0 ⊢; exact en_rt post0
              · simp at post0 ⊢
                exact ⟨v, a, rfl, c, hl.2 a (by simp), en_rt post0⟩
              · have e3 : ¬ ((r.length : Int) + 1 + 1 + 1 = 2) := by omega
                simp [e3] at post0 ⊢; exact en_rt post0
            · by_cases c4 : x = "assert"
              · subst c4
                simp [stB] at post0 ⊢
                rcases r with _ | ⟨a, _ | ⟨b, _ | ⟨e, r⟩⟩⟩
                · simp at post0 ⊢; exact en_rt post0
                · simp at post0 ⊢; exact en_rt post0
                · simp at post0 ⊢
                  refine ⟨_, _, _, rfl, hl.2 a (by simp), ?_⟩
                  cases hb : btw a 0 99 with
                  | false => rw [hb] at post0; simp at post0 ⊢; exact en_rt post0
                  | true => rw [hb] at post0; simp at post0 ⊢; exact ⟨v, b, rfl, c, hl.2 b (by simp), en_rt post0⟩
                · have e3 : ¬ ((r.length : Int) + 1 + 1 + 1 + 1 = 3) := by omega
                  simp [e3] at post0 ⊢; exact en_rt post0
              · by_cases c5 : x = "store"
                · subst c5
                  simp [stB] at post0 ⊢
                  rcases r with _ | ⟨a, _ | ⟨b, _ | ⟨e, _ | ⟨f, r⟩⟩⟩⟩
                  · simp at post0 ⊢; exact en_rt post0
                  · simp at post0 ⊢; exact en_rt post0
                  · simp at post0 ⊢; exact en_rt post0
                  · simp at post0 ⊢
                    refine ⟨v, a, rfl, c, hl.2 a (by simp), ?_⟩
                    simp only [sizeD_non]
                    cases hn : v.nms.any (eqS a) with
                    | false => rw [hn] at post0; simp at post0 ⊢; exact en_rt post0
                    | true =>
                      rw [hn] at post0
                      simp at post0 ⊢
                      refine ⟨v, b, rfl, c, hl.2 b (by simp), ?_⟩
                      cases hb : v.ex b with
                      | false => rw [hb] at post0; simp at post0 ⊢; exact en_rt post0
                      | true => rw [hb] at post0; simp at post0 ⊢; exact ⟨v, e, rfl, c, hl.2 e (by simp), en_rt post0⟩
                  · have e3 : ¬ ((r.length : Int) + 1 + 1 + 1 + 1 + 1 = 4) := by omega
                    simp [e3] at post0 ⊢; exact en_rt post0
                · simp [c1, c2, c3, c4, c5]
                  by_cases c6 : x = "call"
                  · subst c6
                    simp
                    exact ⟨v, r, rfl, c, vd, fun h' s => en_rt (post h' s)⟩
                  · simp [c6]
                    exact bad (by simp only [stB]; rw [if_neg c1, if_neg c2, if_neg c3, if_neg c4, if_neg c5, if_neg c6])
      | _ => simp [D.isTy]; exact bad rfl
  | _ => simp [D.isTy]; exact bad rfl
def sp_end : Sp3 := fun l h k => ∃ (v : Pv) (d : D), l = [v.toD, d] ∧ Ctx h v ∧ VOk h d ∧ k (.bl (ndB v d)) h
theorem ok_is_end : ∀ l h k, sp_end l h k → W_is_end sp_label sp_ex20 (en k) (ev0 N_is_end l) h := by
  rintro l h k ⟨v, d, rfl, c, vd, post⟩
  have bad : ndB v d = false → (en k).rt (.bl false) h := fun e => by rw [e] at post; exact en_rt post
  simp [W_is_end, ev0]
  refine isi_ok vd nofun ?_
  cases d with
  | tup l =>
    simp [D.isTy]
    rcases l with _ | ⟨x, _ | ⟨a, r⟩⟩
    · simp; exact bad rfl
    · simp; exact bad (by simp [ndB])
    · have hl := vd.tup
      have e1 : ¬ ((r.length : Int) + 1 + 1 < 2) := by omega
      simp [e1]
      have va := hl.2 a (by simp)
      refine isi_ok (hl.2 x (by simp)) nofun ?_
      cases x with
      | str x =>
        simp [D.isTy]
        by_cases c1 : x = "go"
        · subst c1
          simp [ndB] at post ⊢
          rcases r with _ | ⟨b, r⟩
          · simp at post ⊢
            exact ⟨_, rfl, va, en_rt post⟩
          · have e3 : ¬ ((r.length : Int) + 1 + 1 + 1 = 2) := by omega
            simp [e3] at post ⊢; exact en_rt post
        · by_cases c2 : x = "if"
          · subst c2
            simp [ndB] at post ⊢
            rcases r with _ | ⟨b, _ | ⟨e, _ | ⟨f, r⟩⟩⟩
            · simp at post ⊢; exact en_rt post
            · simp at post ⊢; exact en_rt post
            · simp at post ⊢
              refine ⟨v, a, rfl, c, va, ?_⟩
              cases h1 : v.ex a with
              | false => rw [h1] at post; simp at post ⊢; exact en_rt post
              | true =>
                rw [h1] at post
                simp at post ⊢
                refine ⟨_, rfl, hl.2 b (by simp), ?_⟩
                cases h2 : btw b 0 999 with
                | false => rw [h2] at post; simp at post ⊢; exact en_rt post
                | true => rw [h2] at post; simp at post ⊢; exact ⟨_, rfl, hl.2 e (by simp), en_rt post⟩
            · have e3 : ¬ ((r.length : Int) + 1 + 1 + 1 + 1 + 1 = 4) := by omega
              simp [e3] at post ⊢; exact en_rt post
          · simp [c1, c2]
            by_cases c3 : x = "return"
            · subst c3
              simp [ndB] at post ⊢
              rcases r with _ | ⟨b, r⟩
              · simp at post ⊢
                exact ⟨v, a, rfl, c, va, en_rt post⟩
              · have e3 : ¬ ((r.length : Int) + 1 + 1 + 1 = 2) := by omega
                simp [e3] at post ⊢; exact en_rt post
            · simp [c3]
              exact bad (by simp only [ndB]; rw [if_neg c1, if_neg c2, if_neg c3])
      | _ => simp [D.isTy]; exact bad rfl
  | _ => simp [D.isTy]; exact bad rfl
end Lk01
end
-- G1C
section
set_option maxRecDepth 100000
set_option maxHeartbeats 4000000
/-! G1C: expressions, ends: the law's look. -/
namespace T3
open PySem PySem.Spec PyProof.Rows L2
theorem rsl_strs {h : H3} : ∀ {l : List Str}, (∀ x ∈ l, PyData.strOk x = true) → RsL h (l.map D.str) (l.map PyData.str) ∧ PyData.depthAll (l.map PyData.str) = 0
  | [], _ => ⟨.nil, by simp [PyData.depthAll]⟩
  | x :: l, hx => by
    obtain ⟨r, e⟩ := rsl_strs (l := l) fun y hy => hx y (List.mem_cons_of_mem _ hy)
    exact ⟨.cons (.str x (hx x List.mem_cons_self)) r, by simp [PyData.depthAll, PyData.depth, e]⟩
theorem rIn_namesT {neg : Bool} {h : H3} {x : Str} {l : List Str} {k : K1} (hx : PyData.strOk x = true) (hl : ∀ x ∈ l, PyData.strOk x = true) (q : k (.bl (decide (x ∈ l) != neg)) h) : rIn neg (.str x) (.tup (l.map .str)) h k := by
  obtain ⟨r, e⟩ := rsl_strs (h := h) hl
  refine ⟨_, _, .str x hx, r, by omega, ?_⟩
  have e : (l.map PyData.str).any (fun z => PyData.eqv z (.str x)) = decide (x ∈ l) := by
    rw [List.any_map, Bool.eq_iff_iff]
    simp only [List.any_eq_true, Function.comp, decide_eq_true_eq]
    simp [eqv_str]
  rw [e]
  exact q
theorem any_eqS {x : Str} {l : List Str} : l.any (eqS (.str x)) = decide (x ∈ l) := by
  rw [Bool.eq_iff_iff]
  simp [eqS]
theorem cutD1 {x : D} {l : List D} : cutD (x :: l) (some 1) none = l := by
  unfold cutD HT.sIx
  simp
  try rw [List.take_of_length_le (by simp)]
theorem emp_all {α : Type} {p : α → Bool} : ∀ {l : List α}, (l.filter fun x => !p x).isEmpty = l.all p
  | [] => rfl
  | x :: l => by
    rw [List.filter_cons]
    cases h : p x <;> simp [h, emp_all (l := l)]
end T3
namespace Lk01
open PySem PySem.Spec PyProof.Rows L2 T3
theorem names_list {h : H3} {v : Pv} {i : Nat} {ρ : Ev} {k : K1} (c : Ctx h v) (hi : i < ρ.length) (q : ∀ p, h p = none → k (.ref p) (up h p (.lst (v.nms.map .str)))) : ∀ p, h p = none → lcW (fun _ => True) i wYes (w2 T3.rIx (wVar i) (wC (.int 0))) p ρ k (v.ars.map arD) (up h p (.lst [])) := by
  refine lc_lst (f := hdD) (by have := c.as.1; simp; omega) (fun _ _ => trivial) (fun x hx h' s K hK => ?_) (fun p np => ?_)
  · obtain ⟨a, ha, rfl⟩ := List.mem_map.mp hx
    simp [arD, hi]
    exact hK _ (Sub.refl _)
  · have e : (v.ars.map arD).map hdD = v.nms.map .str := by rw [List.map_map, Pv.nms, List.map_map]; rfl
    rw [e]
    exact q p np
def sp_fits (n : Nat) : Sp3 := fun l h k => ∃ (v : Pv) (d : D) (m : Nat), l = [v.toD, d, .int (m : Int)] ∧ m < n ∧ Ctx h v ∧ VOk h d ∧ ∀ h', Sub h h' → k (.bl (exB v.w v.nms m d)) h'
theorem ok_l_fits (n : Nat) : ∀ l h k, sp_fits (n + 1) l h k → W_l_fits sp_btw sp_top (sp_fits n) sp_ops (en k) (ev0 N_l_fits l) h := by
  rintro l h k ⟨v, d, m, rfl, hm, c, vd, post⟩
  have bad : exB v.w v.nms m d = false → ∀ h', Sub h h' → (en k).rt (.bl false) h' := fun e h' s => by have := post h' s; rw [e] at this; exact en_rt this
  have bad0 : exB v.w v.nms m d = false → (en k).rt (.bl false) h := fun e => bad e h (Sub.refl h)
  simp [W_l_fits, ev0]
  refine isi_ok vd nofun ?_
  cases d with
  | tup l =>
    simp [D.isTy]
    rcases l with _ | ⟨x, _ | ⟨a, r⟩⟩
    · simp; exact bad0 (by cases m <;> rfl)
    · simp; exact bad0 (by cases m <;> simp [exB])
    · have hl := vd.tup
      have e1 : ¬ ((r.length : Int) + 1 + 1 < 2) := by omega
      simp [e1]
      rcases m with _ | m
      · simp; exact bad0 rfl
      · have e2 : ¬ ((m : Int) + 1 < 1) := by omega
        simp [e2]
        have va := hl.2 a (by simp)
        refine isi_ok (hl.2 x (by simp)) nofun ?_
        cases x with
        | str x =>
          simp [D.isTy]
          have vx := (hl.2 (.str x) (by simp)).str
          simp only [exB] at post
          by_cases c1 : x = "int"
          · subst c1
            have post := post h (Sub.refl h)
            simp at post ⊢
            cases r with
            | nil =>
              simp [Pv.toD] at post ⊢
              refine ⟨v.w, rfl, by have := c.wf.w; omega, by have := c.wf.w; omega, _, _, _, rfl, va, en_rt post⟩
            | cons b r =>
              have e3 : ¬ ((r.length : Int) + 1 + 1 + 1 = 2) := by omega
              simp [e3] at post ⊢
              exact en_rt post
          · by_cases c2 : x = "var"
            · subst c2
              have post := post h (Sub.refl h)
              simp at post ⊢
              cases r with
              | nil =>
                simp at post ⊢
                exact ⟨_, _, _, rfl, va, en_rt post⟩
              | cons b r =>
                have e3 : ¬ ((r.length : Int) + 1 + 1 + 1 = 2) := by omega
                simp [e3] at post ⊢
                exact en_rt post
            · by_cases c3 : x = "cell"
              · subst c3
                simp at post ⊢
                rcases r with _ | ⟨b, _ | ⟨b2, r⟩⟩
                · simp at post ⊢; exact en_rt (post h (Sub.refl h))
                · simp [Pv.toD] at post ⊢
                  refine names_list c (by simp) fun p np => ?_
                  have s1 : Sub h (up h p (.lst (v.nms.map .str))) := (Sub.refl h).up np
                  refine rIn_names (l := v.nms) up_same (va.mono s1) c.nms ?_
                  cases hn : v.nms.any (eqS a) with
                  | false => rw [hn] at post; simp at post ⊢; exact en_rt (post _ s1)
                  | true =>
                    rw [hn] at post
                    simp at post ⊢
                    exact ⟨v, b, m, by simp [Pv.toD], by omega, c.mono s1, (hl.2 b (by simp)).mono s1, fun h' s => en_rt (post h' (s1.trans s))⟩
                · have e3 : ¬ ((r.length : Int) + 1 + 1 + 1 + 1 = 3) := by omega
                  simp [e3] at post ⊢
                  exact en_rt (post h (Sub.refl h))
              · rw [if_neg c1, if_neg c2, if_neg c3] at post
                simp [c1, c2, c3]
                refine rIn_namesT (l := ["not", "neg"]) vx (by decide +kernel) ?_
                have parts : ∀ (q : D → Prop) (h1 : H3), Sub h h1 → ∀ (κ : K1), (∀ h', Sub h1 h' → κ (.bl ((a :: r).all (exB v.w v.nms m))) h') → ∀ (ρ : Ev), ρ[0]? = some (some v.toD) → ρ[2]? = some (some (.int ((m : Int) + 1))) → ρ.length = 6 → ∀ p, h1 p = none →
                    lcW (fun _ => True) 5 (wNot (wB (wL (sp_fits n) (wCons (wVar 0) (wCons (wVar 5) (wCons (w2 rSub (wVar 2) (wC (.int 1))) (wNil))))))) (wVar 5) p ρ (fun d h2 => ∀ q, h2 q = none → rEqN false d (.ref q) (up h2 q (.lst [])) κ) (a :: r) (up h1 p (.lst [])) := by
                  intro _ h1 s1 κ hκ ρ r0 r2 r6 p np
                  have h0' : ∀ x, (ρ.set 5 (some x))[0]? = some (some v.toD) := fun x => by rw [List.getElem?_set_ne (by decide)]; exact r0
                  have h2' : ∀ x, (ρ.set 5 (some x))[2]? = some (some (.int ((m : Int) + 1))) := fun x => by rw [List.getElem?_set_ne (by decide)]; exact r2
                  have h5' : ∀ x, (ρ.set 5 (some x))[5]? = some (some x) := fun x => by rw [List.getElem?_set_self (by omega)]
                  refine lc_emp (n := false) (t := fun y => !exB v.w v.nms m y) (f := fun y => y) (by have := hl.1; simp at this ⊢; omega) (fun _ _ => trivial) (fun y hy _ => (hl.2 y (by simp at hy ⊢; exact .inr hy)).mono s1) (fun y hy h' s K hK => ?_) (fun y hy h' s K hK => ?_) (fun h' s => ?_) p np
                  · simp [h0', h2', h5']
                    refine ⟨v, y, m, by simp, by omega, c.mono (s1.trans s), (hl.2 y (by simp at hy ⊢; exact .inr hy)).mono (s1.trans s), fun h2 s2 => ?_⟩
                    simp
                    exact hK h2 s2
                  · simp [h5']
                    exact hK _ (Sub.refl _)
                  · rw [T3.emp_all]
                    have := hκ h' s
                    simpa using this
                by_cases c4 : x ∈ singleOps
                · rw [if_pos c4] at post
                  have c4' : x ∈ (["not", "neg"] : List Str) := c4
                  simp [c4', cutD1]
                  split
                  · rename_i hr
                    have hr : r = [] := by cases r with | nil => rfl | cons _ _ => simp at hr; omega
                    subst hr
                    refine parts (fun _ => True) h (Sub.refl h) _ (fun h' s => ?_) _ rfl rfl rfl
                    have := post h' s
                    simp at this ⊢
                    exact en_rt this
                  · rename_i hr
                    cases r with
                    | nil => simp at hr
                    | cons _ _ => have := post h (Sub.refl h); simp at this; exact en_rt this
                · rw [if_neg c4] at post
                  have c4' : x ∉ (["not", "neg"] : List Str) := c4
                  simp [c4']
                  refine ⟨rfl, fun q nq => ?_⟩
                  have s1 : Sub h (up h q (.lst (pairOps.map .str))) := (Sub.refl h).up nq
                  refine rIn_names (l := pairOps) up_same (VOk.mk_str vx ((hl.2 (.str x) (by simp)).len)) (by decide +kernel) ?_
                  rw [any_eqS]
                  by_cases c5 : x ∈ pairOps
                  · rw [if_pos c5] at post
                    simp [c5, cutD1]
                    split
                    · rename_i hr
                      obtain ⟨b, rfl⟩ : ∃ b, r = [b] := by
                        rcases r with _ | ⟨b, _ | ⟨_, r⟩⟩
                        · simp at hr
                        · exact ⟨b, rfl⟩
                        · simp at hr; omega
                      refine parts (fun _ => True) _ s1 _ (fun h' s => ?_) _ rfl rfl rfl
                      have := post h' (s1.trans s)
                      simp at this ⊢
                      exact en_rt this
                    · rename_i hr
                      have := post _ s1
                      rcases r with _ | ⟨b, _ | ⟨_, r⟩⟩
                      · simp at this; exact en_rt this
                      · simp at hr
                      · simp at this; exact en_rt this
                  · rw [if_neg c5] at post
                    have e4 : ¬ ((r.length : Int) + 1 + 1 = 0) := by omega
                    simp [c5, e4]
                    exact en_rt (post _ s1)
        | _ => simp [D.isTy]; exact bad0 rfl
  | _ => simp [D.isTy]; exact bad0 (by cases m <;> rfl)
def sp_lend : Sp3 := fun l h k => ∃ (v : Pv) (d : D), l = [v.toD, d] ∧ Ctx h v ∧ VOk h d ∧ ∀ h', Sub h h' → k (.bl (ndB v d)) h'
theorem ok_l_end_fits : ∀ l h k, sp_lend l h k → W_l_end_fits sp_btw (sp_fits 21) (en k) (ev0 N_l_end_fits l) h := by
  rintro l h k ⟨v, d, rfl, c, vd, post0⟩
  have post := post0 h (Sub.refl h)
  have bad : ndB v d = false → (en k).rt (.bl false) h := fun e => by rw [e] at post; exact en_rt post
  simp [W_l_end_fits, ev0]
  refine isi_ok vd nofun ?_
  cases d with
  | tup l =>
    simp [D.isTy]
    rcases l with _ | ⟨x, _ | ⟨a, r⟩⟩
    · simp; exact bad rfl
    · simp; exact bad (by simp [ndB])
    · have hl := vd.tup
      have e1 : ¬ ((r.length : Int) + 1 + 1 < 2) := by omega
      simp [e1]
      have va := hl.2 a (by simp)
      refine isi_ok (hl.2 x (by simp)) nofun ?_
      cases x with
      | str x =>
        simp [D.isTy]
        by_cases c1 : x = "go"
        · subst c1
          simp [ndB] at post ⊢
          rcases r with _ | ⟨b, r⟩
          · simp at post ⊢
            exact ⟨_, _, _, rfl, va, en_rt post⟩
          · have e3 : ¬ ((r.length : Int) + 1 + 1 + 1 = 2) := by omega
            simp [e3] at post ⊢; exact en_rt post
        · by_cases c2 : x = "if"
          · subst c2
            simp [ndB] at post post0 ⊢
            rcases r with _ | ⟨b, _ | ⟨e, _ | ⟨f, r⟩⟩⟩
            · simp at post ⊢; exact en_rt post
            · simp at post ⊢; exact en_rt post
            · simp at post0 ⊢
              refine ⟨v, a, 20, rfl, by omega, c, va, fun h' s => ?_⟩
              have p1 := post0 h' s
              have ee : v.ex a = exB v.w v.nms 20 a := rfl
              rw [← ee]
              cases h1 : v.ex a with
              | false => rw [h1] at p1; simp at p1 ⊢; exact en_rt p1
              | true =>
                rw [h1] at p1
                simp at p1 ⊢
                refine ⟨_, _, _, rfl, (hl.2 b (by simp)).mono s, ?_⟩
                cases h2 : btw b 0 999 with
                | false => rw [h2] at p1; simp at p1 ⊢; exact en_rt p1
                | true => rw [h2] at p1; simp at p1 ⊢; exact ⟨_, _, _, rfl, (hl.2 e (by simp)).mono s, en_rt p1⟩
            · have e3 : ¬ ((r.length : Int) + 1 + 1 + 1 + 1 + 1 = 4) := by omega
              simp [e3] at post ⊢; exact en_rt post
          · simp [c1, c2]
            by_cases c3 : x = "return"
            · subst c3
              simp [ndB] at post post0 ⊢
              rcases r with _ | ⟨b, r⟩
              · simp at post0 ⊢
                exact ⟨v, a, 20, rfl, by omega, c, va, fun h' s => en_rt (post0 h' s)⟩
              · have e3 : ¬ ((r.length : Int) + 1 + 1 + 1 = 2) := by omega
                simp [e3] at post ⊢; exact en_rt post
            · simp [c3]
              exact bad (by simp only [ndB]; rw [if_neg c1, if_neg c2, if_neg c3])
      | _ => simp [D.isTy]; exact bad rfl
  | _ => simp [D.isTy]; exact bad rfl
end Lk01
end
-- G1D
section
set_option maxRecDepth 100000
set_option maxHeartbeats 4000000
/-! G1D: statements: the law's look. -/
namespace T3
open PySem PySem.Spec PyProof.Rows L2
theorem dget2 {o i z : WE} {ρ : Ev} {h : H3} {k : K1} : wDGet2 o i z ρ h k ↔ o ρ h fun x h1 => ∃ a, x = .ref a ∧ IsD3 h1 a ∧ i ρ h1 fun y h2 => z ρ h2 fun d h3 => ∃ o, DG h3 a y o ∧ k (o.getD d) h3 := Iff.rfl
theorem mergeD_new : ∀ {l kvs : List (Key × D)}, ((kvs ++ l).map (·.1)).Nodup → mergeD kvs l = kvs ++ l
  | [], kvs, _ => by simp [mergeD]
  | (k, v) :: r, kvs, h => by
    have h1 : putD kvs k v = kvs ++ [(k, v)] := by
      unfold putD
      rw [if_neg]
      simp only [List.any_eq_true, decide_eq_true_eq]
      rintro ⟨kv, hkv, e⟩
      simp only [List.map_append, List.map_cons, List.nodup_append] at h
      exact h.2.2 kv.1 (List.mem_map_of_mem hkv) k List.mem_cons_self e
    show mergeD (putD kvs k v) r = _
    rw [h1, mergeD_new (by simpa using h)]
    simp
theorem wp_consts {ρ : Ev} {h : H3} : ∀ {l : List (Str × D)} {k : List (D × D) → H3 → Prop}, k (l.map fun p => (.str p.1, p.2)) h → wPairs (l.map fun p => (wC (.str p.1), wC p.2)) ρ h k
  | [], _, q => q
  | p :: l, k, q => by
    show wPairs (l.map fun p => (wC (.str p.1), wC p.2)) ρ h fun ps h3 => k ((.str p.1, p.2) :: ps) h3
    exact wp_consts q
theorem keyed_strs : ∀ {l : List (Str × D)}, keyed (l.map fun p => (.str p.1, p.2)) = some (l.map fun p => (Sum.inr p.1, p.2))
  | [] => rfl
  | p :: l => by
    simp only [List.map_cons, keyed, keyed_strs (l := l)]
    rfl
theorem rgD_at {n j : Nat} {y : D} (h : (rgD 0 n)[j]? = some y) : j < n ∧ y = .int j := by
  have hj : j < n := by
    rcases Nat.lt_or_ge j n with z | z
    · exact z
    · rw [List.getElem?_eq_none (by simpa [rgD] using z)] at h; cases h
  simp [rgD, hj] at h
  exact ⟨hj, h.symm⟩
/-- {"a": .., ..} of what is known -/
theorem disp_c {ρ : Ev} {h : H3} {k : K1} (l : List (Str × D)) (nd : (l.map (·.1)).Nodup) (hl : l.length ≤ 15) (q : ∀ p, h p = none → k (.ref p) (up h p (.dK (l.map fun p => (Sum.inr p.1, p.2))))) : wDisp (l.map fun p => (wC (.str p.1), wC p.2)) ρ h k := by
  intro p np
  refine wp_consts ?_
  refine ⟨up_same, _, keyed_strs, by simpa using hl, ?_⟩
  rw [mergeD_new, up_up]
  · exact q p np
  · rw [List.nil_append, List.map_map]
    have : (l.map ((fun x : Key × D => x.1) ∘ fun p : Str × D => ((Sum.inr p.1 : Key), p.2))) = (l.map (·.1)).map Sum.inr := by rw [List.map_map]; rfl
    rw [this]
    exact List.Pairwise.map _ (fun a b hab e => hab (Sum.inr.inj e)) nd
theorem disp_2 {ρ : Ev} {h : H3} {k : K1} {x y : Str} {f g : WE} {d e : D} (hxy : x ≠ y) (hf : ∀ h', Sub h h' → ∀ K : K1, K d h' → f ρ h' K) (hg : ∀ h', Sub h h' → ∀ K : K1, K e h' → g ρ h' K) (q : ∀ p, h p = none → k (.ref p) (up h p (.dK [(.inr x, d), (.inr y, e)]))) : wDisp (ppsCons (wC (.str x)) f (ppsCons (wC (.str y)) g ppsNil)) ρ h k := by
  intro p np
  refine hf _ ((Sub.refl h).up np) _ (hg _ ((Sub.refl h).up np) _ ⟨up_same, _, rfl, by show (2 : Nat) ≤ 15; decide, ?_⟩)
  rw [up_up, mergeD_new]
  · exact q p np
  · simp [hxy]
end T3
namespace Lk01
open PySem PySem.Spec PyProof.Rows L2 T3
def shpL : List (Str × Str) := [("set", "ve"), ("take", "v"), ("put", "e"), ("store", "aee"), ("assert", "ke"), ("call", "vpx")]
def shpD : List (Key × D) := shpL.map fun p => (.inr p.1, .str p.2)
def shpOf (x : Str) : Option Str := (shpL.find? fun p => decide (p.1 = x)).map (·.2)
theorem valD_shp {x : Str} : valD shpD (.inr x) = (shpOf x).map .str := by
  unfold valD shpD shpOf
  rw [List.find?_map]
  have : ((fun kv : Key × D => decide (kv.1 = Sum.inr x)) ∘ fun p : Str × Str => ((Sum.inr p.1 : Key), D.str p.2)) = fun p => decide (p.1 = x) := by
    funext p
    simp
  rw [this, Option.map_map, Option.map_map]
  rfl
def chkL (v : Pv) (b2 : D) (c : Nat) (d : D) : Bool :=
  if c = 101 then v.ex d
  else if c = 97 then v.nms.any (eqS d)
  else if c = 120 then (match d with | .tup es => es.all v.ex && v.cal b2 es.length | _ => false)
  else if c = 118 then btw d 0 39
  else if c = 107 then btw d 0 99
  else true
theorem chr_eq {c : Nat} {x : String} {n : Nat} (hx : Str.ofString x = ⟨#[n]⟩) : (⟨#[c]⟩ : Str) = Str.ofString x ↔ c = n := by
  rw [hx]; simp
theorem chr_e (c : Nat) : (⟨#[c]⟩ : Str) = Str.ofString "e" ↔ c = 101 := chr_eq (by decide +kernel)
theorem chr_a (c : Nat) : (⟨#[c]⟩ : Str) = Str.ofString "a" ↔ c = 97 := chr_eq (by decide +kernel)
theorem chr_x (c : Nat) : (⟨#[c]⟩ : Str) = Str.ofString "x" ↔ c = 120 := chr_eq (by decide +kernel)
theorem chr_v (c : Nat) : (⟨#[c]⟩ : Str) = Str.ofString "v" ↔ c = 118 := chr_eq (by decide +kernel)
theorem chr_k (c : Nat) : (⟨#[c]⟩ : Str) = Str.ofString "k" ↔ c = 107 := chr_eq (by decide +kernel)
def calT (b : D) (n : Nat) (d : D) : Bool := match d with
  | .tup [.str x, .int i, _] => eqS b x && (!decide (x = "main") && decide (i = (n : Int)))
  | _ => false
theorem calT_any {v : Pv} {b : D} {n : Nat} : ((v.prs.map Pc.toD).filter (calT b n)).isEmpty = !v.cal b n := by
  have : ∀ l : List Pc, ((l.map Pc.toD).filter (calT b n)).isEmpty = !(l.any fun p => eqS b p.name && (!decide (p.name = "main") && decide (p.par = (n : Int)))) := by
    intro l
    induction l with
    | nil => rfl
    | cons p l ih =>
      rw [List.map_cons, List.filter_cons]
      have e : calT b n p.toD = (eqS b p.name && (!decide (p.name = "main") && decide (p.par = (n : Int)))) := rfl
      rw [e, List.any_cons]
      cases h : (eqS b p.name && (!decide (p.name = "main") && decide (p.par = (n : Int)))) with
      | true => rfl
      | false => rw [if_neg Bool.false_ne_true, ih]; rfl
  exact this v.prs
/-- the parts, letter by letter -/
def rowL (v : Pv) (r : List D) : List Nat → List D → Bool
  | [], _ => true
  | _, [] => true
  | c :: cs, d :: ds => chkL v (r[1]?.getD .non) c d && rowL v r cs ds
def sp_lrow : Sp3 := fun l h k => ∃ (v : Pv) (d : D), l = [v.toD, d] ∧ Ctx h v ∧ VOk h d ∧ ∀ h', Sub h h' → k (.bl (stB v d)) h'
theorem ex_list {h : H3} {v : Pv} {es : List D} {κ : K1} {ρ : Ev} (c : Ctx h v) (ve : es.length ≤ 60 ∧ ∀ x ∈ es, VOk h x) (r0 : ρ[0]? = some (some v.toD)) (r9 : ρ.length = 9) (hκ : ∀ h', Sub h h' → κ (.bl (es.all v.ex)) h') : ∀ p, h p = none →
    lcW (fun _ => True) 8 (wNot (wB (wL (sp_fits 21) (wCons (wVar 0) (wCons (wVar 8) (wCons (wC (.int 20)) (wNil))))))) (wVar 8) p ρ (fun d h2 => ∀ q, h2 q = none → rEqN false d (.ref q) (up h2 q (.lst [])) κ) es (up h p (.lst [])) := by
  have h0' : ∀ x, (ρ.set 8 (some x))[0]? = some (some v.toD) := fun x => by rw [List.getElem?_set_ne (by decide)]; exact r0
  have h8' : ∀ x, (ρ.set 8 (some x))[8]? = some (some x) := fun x => by rw [List.getElem?_set_self (by omega)]
  refine lc_emp (n := false) (t := fun y => !v.ex y) (f := fun y => y) (by omega) (fun _ _ => trivial) (fun y hy _ => ve.2 y hy) (fun y hy h' s K hK => ?_) (fun y hy h' s K hK => ?_) (fun h' s => ?_)
  · simp [h0', h8']
    refine ⟨v, y, 20, rfl, by omega, c.mono s, (ve.2 y hy).mono s, fun h2 s2 => ?_⟩
    simp
    exact hK h2 s2
  · simp [h8']
    exact hK _ (Sub.refl _)
  · rw [T3.emp_all]
    have := hκ h' s
    simpa using this
theorem cal_list {h : H3} {v : Pv} {x part : D} {r es : List D} {b2 : D} {κ : K1} {ρ : Ev} (c : Ctx h v) (vb : VOk h b2) (hp : part = .tup es) (r1 : ρ[1]? = some (some (.tup (x :: r)))) (hb : r[1]? = some b2) (r5 : ρ[5]? = some (some part)) (r9 : ρ.length = 9) (hκ : ∀ h', Sub h h' → κ (.bl (v.cal b2 es.length)) h') : ∀ p, h p = none →
    lcW (fun _ => True) 7 (wAnd (wB (w2 T3.rEq (w2 T3.rIx (wVar 7) (wC (.int 0))) (w2 T3.rIx (wVar 1) (wC (.int 2))))) (wAnd (wB (w2 T3.rNe (w2 T3.rIx (wVar 7) (wC (.int 0))) (wC (.str "main")))) (wB (w2 T3.rEq (w2 T3.rIx (wVar 7) (wC (.int 1))) (wL T3.rLen (wCons (wVar 5) (wNil))))))) (wC (.int 1)) p ρ (fun d h2 => ∀ q, h2 q = none → rEqN true d (.ref q) (up h2 q (.lst [])) κ) (v.prs.map Pc.toD) (up h p (.lst [])) := by
  subst hp
  have h1' : ∀ y, (ρ.set 7 (some y))[1]? = some (some (.tup (x :: r))) := fun y => by rw [List.getElem?_set_ne (by decide)]; exact r1
  have h5' : ∀ y, (ρ.set 7 (some y))[5]? = some (some (.tup es)) := fun y => by rw [List.getElem?_set_ne (by decide)]; exact r5
  have h7' : ∀ y, (ρ.set 7 (some y))[7]? = some (some y) := fun y => by rw [List.getElem?_set_self (by omega)]
  refine lc_emp (n := true) (t := calT b2 es.length) (f := fun _ => .int 1) (by have := c.ps.1; simp; omega) (fun _ _ => trivial) (fun y hy _ => .mk_int) (fun y hy h' s K hK => ?_) (fun y hy h' s K hK => ?_) (fun h' s => ?_)
  · obtain ⟨p, hp, rfl⟩ := List.mem_map.mp hy
    have e : calT b2 es.length p.toD = (eqS b2 p.name && (!decide (p.name = "main") && decide (p.par = (es.length : Int)))) := rfl
    rw [e] at hK
    simp [h1', h5', h7', Pc.toD, hb]
    refine eq_strR (vb.mono s) (c.ps.2 p hp).1 ?_
    have hK := hK h' (Sub.refl _)
    cases h1 : eqS b2 p.name with
    | false => rw [h1] at hK; simpa using hK
    | true =>
      rw [h1] at hK
      by_cases h2 : p.name = "main"
      · simp [h2] at hK ⊢; exact hK
      · simp [h2] at hK ⊢; exact hK
  · simp
    exact hK _ (Sub.refl _)
  · rw [calT_any]
    have := hκ h' s
    simpa using this
theorem rowL_stB {v : Pv} {x : Str} {r : List D} : stB v (.tup (.str x :: r)) = match shpOf x with
    | none => false
    | some z => decide (r.length = z.cps.toList.length) && rowL v r z.cps.toList r := by
  have l1 : (Str.ofString "ve").cps.toList = [118, 101] := by decide +kernel
  have l2 : (Str.ofString "v").cps.toList = [118] := by decide +kernel
  have l3 : (Str.ofString "e").cps.toList = [101] := by decide +kernel
  have l4 : (Str.ofString "aee").cps.toList = [97, 101, 101] := by decide +kernel
  have l5 : (Str.ofString "ke").cps.toList = [107, 101] := by decide +kernel
  have l6 : (Str.ofString "vpx").cps.toList = [118, 112, 120] := by decide +kernel
  by_cases c1 : x = "set"
  · subst c1
    have e : shpOf (Str.ofString "set") = some (Str.ofString "ve") := by decide +kernel
    simp only [e, l1]
    rcases r with _ | ⟨a, _ | ⟨b, _ | ⟨f, r⟩⟩⟩ <;> simp [stB, rowL, chkL]
  · by_cases c2 : x = "take"
    · subst c2
      have e : shpOf (Str.ofString "take") = some (Str.ofString "v") := by decide +kernel
      simp only [e, l2]
      rcases r with _ | ⟨a, _ | ⟨b, r⟩⟩ <;> simp [stB, rowL, chkL]
    · by_cases c3 : x = "put"
      · subst c3
        have e : shpOf (Str.ofString "put") = some (Str.ofString "e") := by decide +kernel
        simp only [e, l3]
        rcases r with _ | ⟨a, _ | ⟨b, r⟩⟩ <;> simp [stB, rowL, chkL]
      · by_cases c4 : x = "assert"
        · subst c4
          have e : shpOf (Str.ofString "assert") = some (Str.ofString "ke") := by decide +kernel
          simp only [e, l5]
          rcases r with _ | ⟨a, _ | ⟨b, _ | ⟨f, r⟩⟩⟩ <;> simp [stB, rowL, chkL]
        · by_cases c5 : x = "store"
          · subst c5
            have e : shpOf (Str.ofString "store") = some (Str.ofString "aee") := by decide +kernel
            simp only [e, l4]
            rcases r with _ | ⟨a, _ | ⟨b, _ | ⟨f, _ | ⟨g, r⟩⟩⟩⟩ <;> simp [stB, rowL, chkL]
          · by_cases c6 : x = "call"
            · subst c6
              have e : shpOf (Str.ofString "call") = some (Str.ofString "vpx") := by decide +kernel
              simp only [e, l6]
              rcases r with _ | ⟨a, _ | ⟨b, _ | ⟨f, _ | ⟨g, r⟩⟩⟩⟩
              · simp [stB, Pv.cll]
              · simp [stB, Pv.cll]
              · simp [stB, Pv.cll]
              · cases f <;> simp [stB, Pv.cll, rowL, chkL]
              · cases f <;> simp [stB, Pv.cll]
            · have e : shpOf x = none := by
                simp [shpOf, shpL, Ne.symm c1, Ne.symm c2, Ne.symm c3, Ne.symm c4, Ne.symm c5, Ne.symm c6]
              simp only [e, stB]
              rw [if_neg c1, if_neg c2, if_neg c3, if_neg c4, if_neg c5, if_neg c6]
theorem shp_in {x z : Str} (h : shpOf x = some z) : z ≠ "?" ∧ z.length ≤ 3 ∧ (∀ j, z.cps.toList[j]? = some 120 → j = 2) := by
  unfold shpOf at h
  rw [Option.map_eq_some_iff] at h
  obtain ⟨p, hp, rfl⟩ := h
  have := List.mem_of_find?_eq_some hp
  have all : ∀ p ∈ shpL, (p.2 ≠ "?" ∧ p.2.length ≤ 3) ∧ (p.2.cps.toList[0]? ≠ some 120 ∧ p.2.cps.toList[1]? ≠ some 120) := by decide +kernel
  have h := all p this
  refine ⟨h.1.1, h.1.2, fun j hj => ?_⟩
  rcases j with _ | _ | _ | j
  · exact absurd hj h.2.1
  · exact absurd hj h.2.2
  · rfl
  · have hl : p.2.cps.toList.length ≤ 3 := by rw [Array.length_toList]; exact h.1.2
    rw [List.getElem?_eq_none (by omega)] at hj; cases hj
theorem val_vk {cc : Nat} {d e : D} : (valD [((Sum.inr (Str.ofString "v") : Key), d), (.inr (Str.ofString "k"), e)] (.inr ⟨#[cc]⟩)).getD (.bl true) = if cc = 118 then d else if cc = 107 then e else .bl true := by
  have hv : Str.ofString "v" = ⟨#[118]⟩ := by decide +kernel
  have hk : Str.ofString "k" = ⟨#[107]⟩ := by decide +kernel
  rw [hv, hk]
  unfold valD
  by_cases e1 : cc = 118
  · subst e1; simp
  · by_cases e2 : cc = 107
    · subst e2; simp
    · have n1 : ¬ 118 = cc := fun q => e1 q.symm
      have n2 : ¬ 107 = cc := fun q => e2 q.symm
      simp [e1, e2, n1, n2]
theorem ok_l_row_fits : ∀ l h k, sp_lrow l h k → W_l_row_fits sp_btw (sp_fits 21) (en k) (ev0 N_l_row_fits l) h := by
  rintro l h k ⟨v, d, rfl, c, vd, post⟩
  have bad : stB v d = false → ∀ h', Sub h h' → (en k).rt (.bl false) h' := fun e h' s => by have := post h' s; rw [e] at this; exact en_rt this
  have bad0 : stB v d = false → (en k).rt (.bl false) h := fun e => bad e h (Sub.refl h)
  simp [W_l_row_fits, ev0]
  refine isi_ok vd nofun ?_
  cases d with
  | tup l =>
    simp [D.isTy]
    refine rEq_tup0 vd ?_
    rcases l with _ | ⟨x, r⟩
    · simp; exact bad0 rfl
    · have hl := vd.tup
      simp
      refine isi_ok (hl.2 x (by simp)) nofun ?_
      cases x with
      | str x =>
        simp [D.isTy]
        refine disp_c [("set", .str "ve"), ("take", .str "v"), ("put", .str "e"), ("store", .str "aee"), ("assert", .str "ke"), ("call", .str "vpx")] (by decide +kernel) (by decide) fun p np => ?_
        have s1 : Sub h (up h p (.dK shpD)) := (Sub.refl h).up np
        show wDGet2 _ _ _ _ (up h p (.dK shpD)) _
        rw [dget2]
        simp
        refine ⟨.inl ⟨_, up_same⟩, _, (dg_dK up_same).mpr ⟨.inr x, rfl, rfl⟩, ?_⟩
        rw [valD_shp]
        rw [rowL_stB] at bad
        simp only [rowL_stB] at post
        cases hs : shpOf x with
        | none =>
          simp
          exact bad (by rw [hs]) _ s1
        | some z =>
          rw [hs] at bad
          replace bad : (decide (r.length = z.cps.toList.length) && rowL v r z.cps.toList r) = false → ∀ h', Sub h h' → (en k).rt (.bl false) h' := bad
          simp only [hs] at post
          obtain ⟨z1, z2, z3⟩ := shp_in hs
          have zl : z.length = z.cps.toList.length := by simp [Str.length]
          simp [z1]
          refine ⟨by omega, ?_⟩
          split
          · rename_i hlen
            have hlen : r.length = z.cps.toList.length := by omega
            rw [decide_eq_true hlen] at bad
            simp only [decide_eq_true hlen, Bool.true_and] at bad post
            refine ⟨by omega, by omega, ?_⟩
            rw [zl]
            refine for_inv (fun j ρ h' => ∃ x4 x5 x6, ρ = [some v.toD, some (.tup (.str x :: r)), some (.ref p), some (.str z), x4, x5, x6, none, none] ∧ Sub h h' ∧ rowL v r z.cps.toList r = rowL v r (z.cps.toList.drop j) (r.drop j)) (fun _ _ _ _ _ => trivial) ⟨none, none, none, rfl, s1, rfl⟩ ?_ ?_
            · rintro j y ρ h1 hy ⟨x4, x5, x6, rfl, s2, hr⟩ N hN
              obtain ⟨hjc, rfl⟩ := rgD_at hy
              have hjr : j < r.length := by omega
              have ec : z.cps.toList[j]? = some z.cps.toList[j] := List.getElem?_eq_getElem hjc
              have er : r[j]? = some r[j] := List.getElem?_eq_getElem hjr
              rw [List.drop_eq_getElem_cons hjc, List.drop_eq_getElem_cons hjr] at hr
              have hx := z3 j
              rw [ec] at hx
              have vp : VOk h1 r[j] := (hl.2 _ (List.mem_cons_of_mem _ (List.getElem_mem hjr))).mono s2
              have vb : ∀ b, r[1]? = some b → VOk h1 b := fun b hb => (hl.2 b (List.mem_cons_of_mem _ (List.mem_of_getElem? hb))).mono s2
              generalize z.cps.toList[j] = cc at hr ec hx
              generalize r[j] = part at hr er vp
              simp only [rowL] at hr
              have yes : ∀ x4 x5 x6 h', Sub h1 h' → chkL v (r[1]?.getD .non) cc part = true → N [some v.toD, some (.tup (.str x :: r)), some (.ref p), some (.str z), x4, x5, x6, none, none] h' := fun x4 x5 x6 h' s e => by
                rw [e, Bool.true_and] at hr
                exact hN _ _ ⟨_, _, _, rfl, s2.trans s, hr⟩
              have no : ∀ h', Sub h1 h' → chkL v (r[1]?.getD .non) cc part = false → (en k).rt (.bl false) h' := fun h' s e => by
                rw [e, Bool.false_and] at hr
                exact bad hr h' (s2.trans s)
              have eix : atI (D.str x :: r) (1 + (j : Int)) = some part := by
                have := atI_nat (xs := D.str x :: r) (j := j + 1) (by simpa using er)
                rw [show (1 + (j : Int)) = ((j + 1 : Nat) : Int) by omega]
                exact this
              have ecx : atI z.cps.toList (j : Int) = some cc := atI_nat ec
              simp
              refine ⟨part, eix, ?_⟩
              rw [dget2]
              refine disp_2 (d := .bl (btw part 0 39)) (e := .bl (btw part 0 99)) (by decide) (fun h' s K q => by simp; exact ⟨_, _, _, rfl, vp.mono s, q⟩) (fun h' s K q => by simp; exact ⟨_, _, _, rfl, vp.mono s, q⟩) fun p2 np2 => ?_
              have s3 : Sub h1 (up h1 p2 (.dK [(.inr "v", .bl (btw part 0 39)), (.inr "k", .bl (btw part 0 99))])) := (Sub.refl h1).up np2
              refine ⟨p2, rfl, .inl ⟨_, up_same⟩, ?_⟩
              simp
              refine ⟨by omega, cc, ecx, _, (dg_dK up_same).mpr ⟨.inr ⟨#[cc]⟩, rfl, rfl⟩, ?_⟩
              rw [val_vk]
              generalize up h1 p2 (.dK [(.inr "v", .bl (btw part 0 39)), (.inr "k", .bl (btw part 0 99))]) = h2 at s3 ⊢
              have c2 := c.mono (s2.trans s3)
              have vp2 := vp.mono s3
              by_cases e1 : cc = 101
              · subst e1
                have yes := yes (some (.int j)) (some part)
                simp only [chkL] at yes no
                simp [ecx, chr_e, chr_a, chr_x] at yes no ⊢
                refine ⟨by omega, v, part, 20, rfl, by omega, c2, vp2, fun h3 s4 => ?_⟩
                have ee : exB v.w v.nms 20 part = v.ex part := rfl
                rw [ee]
                cases hb : v.ex part with
                | true => simp; exact ⟨by omega, yes _ _ (s3.trans s4) hb⟩
                | false => simp; exact ⟨by omega, no _ (s3.trans s4) hb⟩
              · by_cases e2 : cc = 97
                · subst e2
                  have yes := yes (some (.int j)) (some part)
                  have k97 : chkL v (r[1]?.getD .non) 97 part = v.nms.any (eqS part) := by simp [chkL]
                  rw [k97] at yes no
                  simp [ecx, chr_e, chr_a, chr_x, Pv.toD]
                  refine ⟨by omega, names_list c2 (by simp) fun q nq => ?_⟩
                  have s4 : Sub h2 (up h2 q (.lst (v.nms.map .str))) := (Sub.refl h2).up nq
                  refine rIn_names (l := v.nms) up_same (vp2.mono s4) c.nms ?_
                  refine ⟨by omega, ?_⟩
                  cases hb : v.nms.any (eqS part) with
                  | true => simp; exact yes _ _ (s3.trans s4) hb
                  | false => simp; exact no _ (s3.trans s4) hb
                · by_cases e3 : cc = 120
                  · subst e3
                    have hj2 : j = 2 := hx rfl
                    have hb1 : 1 < r.length := by omega
                    have eb : r[1]? = some r[1] := List.getElem?_eq_getElem hb1
                    have vb := (vb _ eb).mono s3
                    generalize r[1] = b2 at eb vb
                    rw [eb] at yes no
                    simp only [chkL, Option.getD_some] at yes no
                    simp [ecx, chr_e, chr_a, chr_x]
                    refine ⟨by omega, ?_⟩
                    refine isi_ok vp2 nofun ?_
                    cases part with
                    | tup es =>
                      simp [D.isTy]
                      refine ex_list c2 vp2.tup rfl rfl fun h3 s4 => ?_
                      cases hb : es.all v.ex with
                      | false =>
                        simp
                        exact no _ (s3.trans s4) (by simp [hb])
                      | true =>
                        simp [Pv.toD]
                        refine cal_list (c2.mono s4) (vb.mono s4) rfl rfl eb rfl rfl fun h4 s5 => ?_
                        cases hc : v.cal b2 es.length with
                        | true => simp; exact yes _ _ _ _ ((s3.trans s4).trans s5) (by simp [hb, hc])
                        | false => simp; exact no _ ((s3.trans s4).trans s5) (by simp [hb, hc])
                    | _ => simp [D.isTy]; exact no _ s3 rfl
                  · have yes := yes (some (.int j)) (some part)
                    simp only [chkL, e1, e2, e3, if_false] at yes no
                    simp [ecx, chr_e, chr_a, chr_x, e1, e2, e3]
                    refine ⟨by omega, ?_⟩
                    by_cases e4 : cc = 118
                    · simp [e4] at yes no ⊢
                      cases hb : btw part 0 39 with
                      | true => simp; exact yes _ _ s3 hb
                      | false => simp; exact no _ s3 hb
                    · by_cases e5 : cc = 107
                      · simp [e4, e5] at yes no ⊢
                        cases hb : btw part 0 99 with
                        | true => simp; exact yes _ _ s3 hb
                        | false => simp; exact no _ s3 hb
                      · simp [e4, e5] at yes ⊢
                        exact yes _ _ s3
            · rintro ρ h1 ⟨x4, x5, x6, rfl, s2, hr⟩
              have hl2 : (rgD 0 z.cps.toList.length).length = z.cps.toList.length := by simp [rgD]
              rw [hl2, List.drop_length] at hr
              have := post h1 s2
              rw [hr] at this
              simp
              exact en_rt this
          · rename_i hlen
            have hlen : ¬ r.length = z.cps.toList.length := by omega
            rw [decide_eq_false hlen] at bad
            exact bad rfl _ s1
      | _ => simp [D.isTy]; exact bad0 rfl
  | _ => simp [D.isTy]; exact bad0 rfl
end Lk01
end
-- P03
section
set_option maxRecDepth 100000
set_option maxHeartbeats 4000000
/-! P03: ascending names. -/
namespace T3
open PySem PySem.Spec PySem.W PyProof.Rows L2
theorem nl_tri : ∀ (a b : List Nat), a < b ∨ a = b ∨ b < a
  | [], [] => .inr (.inl rfl)
  | [], b :: s => .inl (by simp)
  | a :: r, [] => .inr (.inr (by simp))
  | a :: r, b :: s => by
    simp only [List.cons_lt_cons_iff, List.cons.injEq]
    rcases Nat.lt_trichotomy a b with h | h | h
    · exact .inl (.inl h)
    · subst h
      rcases nl_tri r s with h | h | h
      · exact .inl (.inr ⟨rfl, h⟩)
      · exact .inr (.inl ⟨rfl, h⟩)
      · exact .inr (.inr (.inr ⟨rfl, h⟩))
    · exact .inr (.inr (.inl h))
theorem nl_trans : ∀ {a b c : List Nat}, a < b → b < c → a < c
  | _, _, [], _, h => by simp at h
  | _, [], _ :: _, h, _ => by simp at h
  | [], _ :: _, _ :: _, _, _ => by simp
  | a :: r, b :: s, c :: t, h, g => by
    simp only [List.cons_lt_cons_iff] at h g ⊢
    rcases h with h | ⟨rfl, h⟩
    · rcases g with g | ⟨rfl, g⟩
      · exact .inl (Nat.lt_trans h g)
      · exact .inl h
    · rcases g with g | ⟨rfl, g⟩
      · exact .inl g
      · exact .inr ⟨rfl, nl_trans h g⟩
theorem nl_irr (a : List Nat) : ¬ a < a := List.lt_irrefl a
theorem nl_le {x p z : List Nat} (h : ¬ x < p) (g : ¬ z < x) : ¬ z < p := fun e => by
  rcases nl_tri p x with q | rfl | q
  · exact g (nl_trans e q)
  · exact g e
  · exact h q
def NotLt (x y : Str) : Prop := ¬ y.cps.toList < x.cps.toList
theorem notlt_anti {x y : Str} (h : NotLt x y) (g : NotLt y x) : x = y := by
  rcases nl_tri x.cps.toList y.cps.toList with q | q | q
  · exact absurd q g
  · exact str_of_cps q
  · exact absurd q h
theorem asc_iff {l : List Str} : asc l = true ↔ l.Pairwise fun x y => x.cps.toList < y.cps.toList := by simp [asc]
theorem asc_notlt {l : List Str} (h : asc l = true) : l.Nodup ∧ l.Pairwise NotLt := by
  rw [asc_iff] at h
  exact ⟨h.imp fun h e => by subst e; exact nl_irr _ h, h.imp fun h g => nl_irr _ (nl_trans h g)⟩
theorem asc_of {l : List Str} (nd : l.Nodup) (h : l.Pairwise NotLt) : asc l = true := by
  rw [asc_iff]
  have both := List.pairwise_and_iff.mpr ⟨nd, h⟩
  refine both.imp fun {x y} hh => ?_
  obtain ⟨ne, h⟩ := hh
  rcases nl_tri x.cps.toList y.cps.toList with q | q | q
  · exact q
  · exact absurd (str_of_cps q) ne
  · exact absurd q h
theorem asc_eq {l ys : List Str} (nd : ys.Nodup) (mem : ∀ x, x ∈ ys ↔ x ∈ l) (srt : ys.Pairwise NotLt) : decide (l = ys) = asc l := by
  rw [Bool.eq_iff_iff, decide_eq_true_eq]
  constructor
  · rintro rfl; exact asc_of nd srt
  · intro h
    obtain ⟨n2, s2⟩ := asc_notlt h
    have pm : l.Perm ys := (List.perm_ext_iff_of_nodup n2 nd).mpr fun x => (mem x).symm
    exact sorted_uniq pm s2 srt fun x _ y _ h g => notlt_anti h g
theorem rising_pw : ∀ {r : List Str} {p : Str}, risingS p r = true → (∀ x ∈ r, NotLt p x) ∧ List.Pairwise NotLt r
  | [], _, _ => ⟨(fun _ h => nomatch h), List.Pairwise.nil⟩
  | x :: r, p, h => by
    simp only [risingS, Bool.and_eq_true, Bool.not_eq_true', ltCps_eq, decide_eq_false_iff_not] at h
    obtain ⟨h1, h2⟩ := rising_pw h.2
    refine ⟨fun y hy => ?_, List.pairwise_cons.mpr ⟨h1, h2⟩⟩
    rcases List.mem_cons.mp hy with rfl | hy
    · exact h.1
    · exact nl_le h.1 (h1 y hy)
theorem sortedS_pw : ∀ {l : List Str}, sortedS l = true → List.Pairwise NotLt l
  | [], _ => List.Pairwise.nil
  | x :: r, h => by
    obtain ⟨h1, h2⟩ := rising_pw h
    exact List.pairwise_cons.mpr ⟨h1, h2⟩
theorem asc_adj {l : List Str} : asc l = true ↔ ∀ j (h : j + 1 < l.length), (l[j]'(by omega)).cps.toList < l[j + 1].cps.toList := by
  rw [asc_iff, List.pairwise_iff_getElem]
  constructor
  · intro h j hj
    exact h j (j + 1) (by omega) hj (by omega)
  · intro h i j hi hj hij
    obtain ⟨d, rfl⟩ : ∃ d, j = i + d + 1 := ⟨j - i - 1, by omega⟩
    clear hij
    induction d with
    | zero => exact h i hj
    | succ d ih =>
      have := ih (by omega)
      exact nl_trans this (h (i + d + 1) (by omega))
theorem rsl_eqv : ∀ {l m : List Str}, PyData.eqvAll (l.map PyData.str) (m.map PyData.str) = decide (l = m)
  | [], [] => by simp [PyData.eqvAll]
  | [], _ :: _ => by simp [PyData.eqvAll]
  | _ :: _, [] => by simp [PyData.eqvAll]
  | x :: l, y :: m => by
    simp only [List.map_cons, PyData.eqvAll, eqv_str, rsl_eqv (l := l) (m := m), List.cons.injEq]
    by_cases h : x = y <;> simp [h]
theorem rEq_strs {n : Bool} {h : H3} {a b : Addr} {l m : List Str} {k : K1} (ha : h a = some (.lst (l.map .str))) (hb : h b = some (.lst (m.map .str))) (hl : ∀ x ∈ l, PyData.strOk x = true) (hm : ∀ x ∈ m, PyData.strOk x = true) (q : k (.bl (decide (l = m) != n)) h) : rEqN n (.ref a) (.ref b) h k := by
  obtain ⟨r1, d1⟩ := rsl_strs (h := h) hl
  obtain ⟨r2, d2⟩ := rsl_strs (h := h) hm
  refine rEq_of (.lst ha r1) (.lst hb r2) (Nat.le_trans (Nat.min_le_left _ _) (by simp [PyData.depth, d1])) ?_
  have : PyData.eqv (.list (l.map PyData.str)) (.list (m.map PyData.str)) = decide (l = m) := by simp only [PyData.eqv, rsl_eqv]
  rw [this]
  exact q
@[simp] theorem lcs_rg2 {t : WA} {i : Nat} {tt : WT} {e : WE} {ρ : Ev} {h : H3} {k : K1} : wLc (wRg2 t) i tt e ρ h k ↔ t ρ h fun l h1 => ∃ i1 j : Int, l = [.int i1, .int j] ∧ (-4611686018427387904 ≤ i1 ∧ i1 < 4611686018427387904 ∧ -4611686018427387904 ≤ j ∧ j < 4611686018427387904) ∧ ∀ p, h1 p = none → lcW (fun _ => True) i tt e p ρ k (rgD i1 (j - i1).toNat) (up h1 p (.lst [])) := Iff.rfl
theorem rg1_mem {n : Nat} {x : D} (h : x ∈ rgD 1 n) : ∃ j : Nat, j < n ∧ x = .int ((j : Int) + 1) := by
  simp only [rgD, List.mem_map, List.mem_range] at h
  obtain ⟨j, hj, rfl⟩ := h
  exact ⟨j, hj, by congr 1; omega⟩
/-- {x: True for x in names} -/
theorem dc_names {p : Addr} {ρ : Ev} {k : K1} {i : Nat} {chk : H3 → Prop} {h0 : H3} {l : List Str} (hi : i < ρ.length) (hl : l.length ≤ 60) (hc : ∀ o, chk (up h0 p o))
    (done : ∀ ks : List Str, ks.Nodup → (∀ x, x ∈ ks ↔ x ∈ l) → ks.length ≤ 60 → k (.ref p) (up h0 p (.dK (ks.map fun x => (Sum.inr x, .bl true))))) :
    dcW1 chk i wYes (wVar i) (wC (.bl true)) p ρ k (l.map .str) (up h0 p (.dK [])) := by
  have gen : ∀ (r a ks : List Str), a ++ r = l → ks.Nodup → (∀ x, x ∈ ks ↔ x ∈ a) → ks.length ≤ a.length → dcW1 chk i wYes (wVar i) (wC (.bl true)) p ρ k (r.map .str) (up h0 p (.dK (ks.map fun x => (Sum.inr x, .bl true)))) := by
    intro r
    induction r with
    | nil =>
      intro a ks e nd mem len
      simp only [List.append_nil] at e
      subst e
      exact ⟨hc _, done ks nd mem (Nat.le_trans len hl)⟩
    | cons x r ih =>
      intro a ks e nd mem len
      have el := congrArg List.length e
      simp only [List.length_append, List.length_cons] at el
      refine ⟨hc _, ?_⟩
      simp only [wYes, if_true]
      refine ⟨.str x, by rw [List.getElem?_set_self hi], ?_⟩
      refine ⟨_, .inr x, up_same, rfl, by simp; omega, _, Sub.refl _, ?_⟩
      rw [up_up]
      by_cases hx : x ∈ ks
      · have e2 : putD (ks.map fun x => ((Sum.inr x : Key), D.bl true)) (.inr x) (.bl true) = ks.map fun x => (Sum.inr x, .bl true) := by
          unfold putD
          rw [if_pos (by simp only [List.any_map, List.any_eq_true]; exact ⟨x, hx, by simp⟩), List.map_map]
          refine List.map_congr_left fun y hy => ?_
          by_cases c : y = x
          · subst c; simp
          · simp [c]
        rw [e2]
        refine ih (a ++ [x]) ks (by simpa using e) nd (fun y => ?_) (by simp; omega)
        rw [List.mem_append, mem y, List.mem_singleton]
        exact ⟨.inl, fun q => q.elim id fun q => by subst q; exact (mem y).mp hx⟩
      · have e2 : putD (ks.map fun x => ((Sum.inr x : Key), D.bl true)) (.inr x) (.bl true) = (ks ++ [x]).map fun x => (Sum.inr x, .bl true) := by
          unfold putD
          rw [if_neg (by simp only [List.any_map, List.any_eq_true]; rintro ⟨y, hy, e⟩; simp at e; subst e; exact hx hy)]
          simp
        rw [e2]
        refine ih (a ++ [x]) (ks ++ [x]) (by simpa using e) ?_ (fun y => ?_) (by simp; omega)
        · rw [List.nodup_append]
          exact ⟨nd, by simp, fun y hy z hz => by rw [List.mem_singleton] at hz; subst hz; rintro rfl; exact hx hy⟩
        · rw [List.mem_append, List.mem_append, mem y]
  exact gen l [] [] rfl List.nodup_nil (by simp) (by simp)
end T3
end
-- G1E
section
set_option maxRecDepth 100000
set_option maxHeartbeats 4000000
/-! G1E: arrays, forms, names: the program's look. -/
namespace Lk01
open PySem PySem.Spec PyProof.Rows L2 T3
def arsB (d : D) : Bool := match d with
  | .tup as => as.all arB && asc (as.map hdS)
  | _ => false
def sp_arrs : Sp3 := fun l h k => ∃ d, l = [d] ∧ VOk h d ∧ ∀ h', Sub h h' → k (.bl (arsB d)) h'
theorem arF_or {d : D} : arF d = true ∨ arF d = false := by cases arF d <;> simp
theorem arF_iff {d : D} : arF d = true ↔ ∃ a b, d = .tup [a, b] := by
  unfold arF
  split
  · exact ⟨fun _ => ⟨_, _, rfl⟩, fun _ => rfl⟩
  · rename_i hn
    exact ⟨fun h => (nomatch h), fun ⟨a, b, e⟩ => absurd e (hn a b)⟩
theorem arB_F {d : D} (h : arF d = false) : arB d = false := by
  cases e : arB d with
  | false => rfl
  | true =>
    obtain ⟨a, rfl, _⟩ := arB_iff.mp e
    cases h
theorem all_false {l : List D} {f g : D → Bool} (hfg : ∀ d, f d = false → g d = false) (h : l.all f = false) : l.all g = false := by
  cases e : l.all g with
  | false => rfl
  | true =>
    rw [List.all_eq_true] at e
    have : l.all f = true := by
      rw [List.all_eq_true]
      intro x hx
      cases q : f x with
      | true => rfl
      | false => have := e x hx; rw [hfg x q] at this; cases this
    rw [h] at this; cases this
theorem ok_are_arrays : ∀ l h k, sp_arrs l h k → W_are_arrays sp_btw sp_name (en k) (ev0 N_are_arrays l) h := by
  rintro l h k ⟨d, rfl, vd, post⟩
  simp [W_are_arrays, ev0]
  refine isi_ok vd nofun ?_
  cases d with
  | tup as =>
    have hl := vd.tup
    simp [D.isTy]
    refine lc_all (g := arF) (by omega) (fun _ _ => trivial) (fun x hx h' s K hK => ?_) (fun h1 s1 => ?_)
    · simp
      refine isi_ok ((hl.2 x hx).mono s) nofun ?_
      have hK := hK _ (Sub.refl _)
      cases x with
      | tup r =>
        simp [D.isTy]
        rcases r with _ | ⟨a, _ | ⟨b, _ | ⟨c, r⟩⟩⟩
        · simp; exact hK
        · simp; exact hK
        · simp; exact hK
        · have e3 : ¬ ((r.length : Int) + 1 + 1 + 1 = 2) := by omega
          simp [e3]; exact hK
      | _ => simp [D.isTy]; exact hK
    · cases h1' : as.all arF with
      | false =>
        simp
        have := post h1 s1
        simp only [arsB, all_false (fun d => arB_F) h1', Bool.false_and] at this
        exact en_rt this
      | true =>
        rw [List.all_eq_true] at h1'
        simp
        refine lc_all (g := arB) (by omega) (fun _ _ => trivial) (fun x hx h' s K hK => ?_) (fun h2 s2 => ?_)
        · obtain ⟨a, b, rfl⟩ := arF_iff.mp (h1' x hx)
          have hv := ((hl.2 _ hx).mono (s1.trans s)).tup
          simp
          refine ⟨a, rfl, hv.2 a (by simp), fun h3 s3 => ?_⟩
          have hK := hK h3 s3
          simp only [arB] at hK
          cases ha : nmB a with
          | false => rw [ha] at hK; simpa using hK
          | true =>
            rw [ha] at hK
            simp at hK ⊢
            exact ⟨_, _, _, rfl, (hv.2 b (by simp)).mono s3, hK⟩
        · cases h2' : as.all arB with
          | false =>
            simp
            have := post h2 (s1.trans s2)
            simp only [arsB, h2', Bool.false_and] at this
            exact en_rt this
          | true =>
            simp
            obtain ⟨m, rfl⟩ := all_ex (f := arD) (P := fun d => arB d = true) (fun d h => let ⟨a, e, _⟩ := arB_iff.mp h; ⟨a, e⟩) (List.all_eq_true.mp h2')
            simp only [arsB, h2', Bool.true_and, hdS_ar] at post
            have hm : m.length ≤ 60 := by simpa using hl.1
            refine ⟨1, _, ⟨rfl, rfl⟩, ⟨by decide, by decide, by simp <;> omega, by simp <;> omega⟩, ?_⟩
            rw [List.length_map]
            refine lc_all (g := fun d => match d with | .int j => decide (((m.map (·.1))[(j - 1).toNat]?.getD ("" : Str)).cps.toList < ((m.map (·.1))[j.toNat]?.getD ("" : Str)).cps.toList) | _ => false) (by simp [rgD]; omega) (fun _ _ => trivial) (fun x hx h' s K hK => ?_) (fun h3 s3 => ?_)
            · obtain ⟨j, hj, rfl⟩ := rg1_mem hx
              have hj1 : j + 1 < m.length := by simp at hj; omega
              have hj0 : j < m.length := by omega
              have e1 : atI (m.map arD) (j : Int) = some (arD m[j]) := atI_nat (by simp [hj0])
              have e2 : atI (m.map arD) ((j : Int) + 1) = some (arD m[j + 1]) := by
                have := atI_nat (xs := m.map arD) (j := j + 1) (v := arD m[j + 1]) (by simp [hj1])
                exact this
              have hK := hK _ (Sub.refl _)
              have t1 : ((j : Int) + 1 - 1).toNat = j := by omega
              have t2 : ((j : Int) + 1).toNat = j + 1 := by omega
              simp only [t1, t2] at hK
              simp [e1, e2, arD, hj0, hj1] at hK ⊢
              exact hK
            · have := post h3 ((s1.trans s2).trans s3)
              have e : ((rgD 1 ((m.length : Int) - 1).toNat).all fun d => match d with | .int j => decide (((m.map (·.1))[(j - 1).toNat]?.getD ("" : Str)).cps.toList < ((m.map (·.1))[j.toNat]?.getD ("" : Str)).cps.toList) | _ => false) = asc (m.map (·.1)) := by
                rw [Bool.eq_iff_iff, List.all_eq_true, asc_adj]
                constructor
                · intro q j hj
                  have hj' : j + 1 < m.length := by simpa using hj
                  have := q (.int ((j : Int) + 1)) (by simp only [rgD, List.mem_map, List.mem_range]; exact ⟨j, by omega, by congr 1; omega⟩)
                  have t1 : ((j : Int) + 1 - 1).toNat = j := by omega
                  have t2 : ((j : Int) + 1).toNat = j + 1 := by omega
                  simp only [t1, t2] at this
                  have hj0 : j < m.length := by omega
                  simpa [hj', hj0] using this
                · intro q x hx
                  obtain ⟨j, hj, rfl⟩ := rg1_mem hx
                  have hj1 : j + 1 < m.length := by omega
                  have hj0 : j < m.length := by omega
                  have := q j (by simpa using hj1)
                  have t1 : ((j : Int) + 1 - 1).toNat = j := by omega
                  have t2 : ((j : Int) + 1).toNat = j + 1 := by omega
                  simp only [t1, t2]
                  simpa [hj0, hj1] using this
              rw [← e] at this
              exact en_rt this
  | _ => simp [D.isTy]; exact en_rt (post h (Sub.refl h))
def sp_prF : Sp3 := fun l h k => ∃ d, l = [d] ∧ VOk h d ∧ ∀ h', Sub h h' → k (.bl (prF d)) h'
theorem ok_is_procedure_form : ∀ l h k, sp_prF l h k → W_is_procedure_form (en k) (ev0 N_is_procedure_form l) h := by
  rintro l h k ⟨d, rfl, vd, post⟩
  have bad : prF d = false → (en k).rt (.bl false) h := fun e => by have := post h (Sub.refl h); rw [e] at this; exact en_rt this
  simp [W_is_procedure_form, ev0]
  refine isi_ok vd nofun ?_
  cases d with
  | tup l =>
    have hl := vd.tup
    simp [D.isTy]
    rcases l with _ | ⟨a, _ | ⟨b, _ | ⟨c, _ | ⟨e, r⟩⟩⟩⟩
    · simp; exact bad rfl
    · simp; exact bad rfl
    · simp; exact bad rfl
    · simp
      refine isi_ok (hl.2 c (by simp)) nofun ?_
      cases c with
      | tup bs =>
        have hb := (hl.2 (.tup bs) (by simp)).tup
        simp [D.isTy]
        rcases bs with _ | ⟨b0, bs⟩
        · simp; exact bad rfl
        · have e3 : ¬ ((bs.length : Int) + 1 = 0) := by omega
          simp [e3]
          refine lc_all (g := blB) (by have := hb.1; simp at this ⊢; omega) (fun _ _ => trivial) (fun x hx h' s K hK => ?_) (fun h1 s1 => ?_)
          · simp
            refine isi_ok ((hb.2 x hx).mono s) nofun ?_
            have hK := hK _ (Sub.refl _)
            cases x with
            | tup r =>
              simp [D.isTy]
              rcases r with _ | ⟨a, _ | ⟨b, _ | ⟨c, _ | ⟨e, r⟩⟩⟩⟩
              · simp; exact hK
              · simp; exact hK
              · simp; cases b <;> exact hK
              · simp
                refine isi_ok (((hb.2 _ hx).mono s).tup.2 b (by simp)) nofun ?_
                cases b <;> exact hK
              · have e4 : ¬ ((r.length : Int) + 1 + 1 + 1 + 1 = 3) := by omega
                simp [e4]
                have : blB (.tup (a :: b :: c :: e :: r)) = false := by cases b <;> rfl
                rw [this] at hK
                exact hK
            | _ => simp [D.isTy]; exact hK
          · exact en_rt (post h1 s1)
      | _ => simp [D.isTy]; exact bad rfl
    · have e4 : ¬ ((r.length : Int) + 1 + 1 + 1 + 1 = 3) := by omega
      simp [e4]
      exact bad (by cases c <;> rfl)
  | _ => simp [D.isTy]; exact bad rfl
def dcD1 (i : Nat) (tt : WT) (ke ve : WE) (ρ : Ev) (k : K1) : D → H3 → Prop
  | .tup l, h1 => ∀ p, h1 p = none → dcW1 (fun _ => True) i tt ke ve p ρ k l (up h1 p (.dK []))
  | .ref a, h1 => (∃ l, h1 a = some (.lst l)) ∧ ∀ p, h1 p = none → ∃ l, h1 a = some (.lst l) ∧ dcW1 (fun h => h a = some (.lst l)) i tt ke ve p ρ k l (up h1 p (.dK []))
  | .str z, h1 => ∀ p, h1 p = none → dcW1 (fun _ => True) i tt ke ve p ρ k (z.cps.toList.map fun c => .str ⟨#[c]⟩) (up h1 p (.dK []))
  | _, _ => False
theorem dcs_it {a : WE} {i : Nat} {tt : WT} {ke ve : WE} {ρ : Ev} {h : H3} {k : K1} : wDc1 (wIter a) i tt ke ve ρ h k ↔ a ρ h (dcD1 i tt ke ve ρ k) := by
  refine Iff.of_eq (congrArg (a ρ h) ?_)
  funext d h1
  cases d <;> rfl
def sp_arenm : Sp3 := fun l h k => ∃ v : Pv, l = [.tup (v.prs.map Pc.toD)] ∧ Ctx h v ∧ ∀ h', Sub h h' → k (.bl (nmsB v)) h'
theorem pn_list {h : H3} {v : Pv} {i : Nat} {ρ : Ev} {k : K1} (c : Ctx h v) (hi : i < ρ.length) (q : ∀ p, h p = none → k (.ref p) (up h p (.lst ((v.prs.map Pc.name).map .str)))) : ∀ p, h p = none → lcW (fun _ => True) i wYes (w2 T3.rIx (wVar i) (wC (.int 0))) p ρ k (v.prs.map Pc.toD) (up h p (.lst [])) := by
  refine lc_lst (f := hdD) (by have := c.ps.1; simp; omega) (fun _ _ => trivial) (fun x hx h' s K hK => ?_) (fun p np => ?_)
  · obtain ⟨a, ha, rfl⟩ := List.mem_map.mp hx
    simp [Pc.toD, hi]
    exact hK _ (Sub.refl _)
  · have e : (v.prs.map Pc.toD).map hdD = (v.prs.map Pc.name).map .str := by rw [List.map_map, List.map_map]; rfl
    rw [e]
    exact q p np
def mainT (d : D) : Bool := match d with
  | .tup [.str x, .int i, _] => decide (x = "main") && decide (i = 0)
  | _ => false
theorem ok_are_names : ∀ l h k, sp_arenm l h k → W_are_names sp_name sp_num (en k) (ev0 N_are_names l) h := by
  rintro l h k ⟨v, rfl, c, post⟩
  simp [W_are_names, ev0]
  refine pn_list c (by simp) fun a na => ?_
  have s1 : Sub h (up h a (.lst ((v.prs.map Pc.name).map .str))) := (Sub.refl h).up na
  have ha : (up h a (.lst ((v.prs.map Pc.name).map .str))) a = some (.lst ((v.prs.map Pc.name).map .str)) := up_same
  generalize up h a (.lst ((v.prs.map Pc.name).map .str)) = h1 at s1 ha ⊢
  have hok : ∀ x ∈ v.prs.map Pc.name, PyData.strOk x = true := fun x hx => by
    obtain ⟨p, hp, rfl⟩ := List.mem_map.mp hx
    exact (c.ps.2 p hp).1
  have hlen : (v.prs.map Pc.name).length ≤ 60 := by simpa using c.ps.1
  have vn : ∀ x ∈ v.prs.map Pc.name, VOk h1 (.str x) := fun x hx => by
    obtain ⟨p, hp, rfl⟩ := List.mem_map.mp hx
    exact (((c.ok.mono s1).tup.2 (.tup (v.prs.map Pc.toD)) (by simp)).tup.2 _ (List.mem_map_of_mem hp)).tup.2 (.str p.name) (by simp)
  have enm : v.prs.all (fun p => nameS p.name) = (v.prs.map Pc.name).all nameS := by rw [List.all_map]; rfl
  simp
  refine ⟨⟨_, ha⟩, fun p np => ⟨_, ha, ?_⟩⟩
  refine lc_all (g := nmB) (by simp at hlen ⊢; omega) (fun h' s => s _ _ ha) (fun x hx h' s K hK => ?_) (fun h2 s2 => ?_) p np
  · obtain ⟨y, hy, rfl⟩ := List.mem_map.mp hx
    simp
    exact ⟨_, rfl, (vn y hy).mono s, hK⟩
  · have e1 : ((v.prs.map Pc.name).map D.str).all nmB = v.prs.all (fun p => nameS p.name) := by rw [enm, List.all_map]; rfl
    rw [e1]
    simp only [nmsB] at post
    cases hn : v.prs.all (fun p => nameS p.name) with
    | false =>
      rw [hn] at post
      simp
      exact en_rt (post h2 (s1.trans s2))
    | true =>
      rw [hn] at post
      simp only [Bool.true_and] at post
      simp
      rw [dcs_it]
      simp [dcD1]
      have s12 := s1.trans s2
      have ha2 := s2 _ _ ha
      refine ⟨⟨_, ha2⟩, fun p np => ⟨_, ha2, ?_⟩⟩
      have hpa : p ≠ a := fun z => by subst z; rw [np] at ha2; cases ha2
      refine dc_names (by simp) hlen (fun o => by rw [up_ne hpa.symm]; exact ha2) fun ks nd mem kl => ?_
      have s3 : Sub h2 (up h2 p (.dK (ks.map fun x => (Sum.inr x, .bl true)))) := (Sub.refl h2).up np
      refine ⟨p, _, ks, rfl, up_same, by rw [List.map_map]; rfl, by omega, fun ys q pm srt nq => ?_⟩
      have s4 := s3.trans ((Sub.refl _).up (o := .lst (ys.map .str)) nq)
      have hm2 : ∀ x, x ∈ ys ↔ x ∈ v.prs.map Pc.name := fun x => by rw [pm.mem_iff, mem x]
      refine rEq_strs (s4 _ _ ha2) up_same hok (fun x hx => hok x ((hm2 x).mp hx)) ?_
      rw [asc_eq (pm.nodup_iff.mpr nd) hm2 (sortedS_pw srt)]
      generalize up (up h2 p (.dK (ks.map fun x => (Sum.inr x, .bl true)))) q (.lst (ys.map .str)) = h4 at s4 ⊢
      have s14 := s12.trans s4
      cases hasc : asc (v.prs.map Pc.name) with
      | false =>
        rw [hasc] at post
        simp
        exact en_rt (post h4 s14)
      | true =>
        rw [hasc] at post
        simp only [Bool.true_and] at post
        simp
        refine lc_any (g := mainT) (by have := c.ps.1; simp; omega) (fun _ _ => trivial) (fun x hx h' s K hK => ?_) (fun h5 s5 => ?_)
        · obtain ⟨p, hp, rfl⟩ := List.mem_map.mp hx
          have hK := hK _ (Sub.refl _)
          have e : mainT p.toD = (decide (p.name = "main") && decide (p.par = 0)) := rfl
          rw [e] at hK
          simp [Pc.toD]
          by_cases h1 : p.name = "main"
          · by_cases h2 : p.par = 0
            · simp [h1, h2] at hK ⊢
              exact ⟨_, rfl, .mk_int, hK⟩
            · simp [h1, h2] at hK ⊢; exact hK
          · simp [h1] at hK ⊢; exact hK
        · have := post h5 (s14.trans s5)
          have e : (v.prs.map Pc.toD).any mainT = v.prs.any fun p => decide (p.name = "main") && decide (p.par = 0) := by rw [List.any_map]; rfl
          rw [e]
          exact en_rt this
end Lk01
end
-- G1F
section
set_option maxRecDepth 100000
set_option maxHeartbeats 4000000
/-! G1F: a block's codes; program_faults. -/
namespace T3
open PySem PySem.Spec PyProof.Rows L2
theorem sub_w {h0 h : H3} {p : Addr} {o : O} (s : Sub h0 h) (np : h0 p = none) : Sub h0 (up h p o) := fun b u e => by
  by_cases c : b = p
  · subst c; rw [np] at e; cases e
  · rw [up_ne c]; exact s b u e
/-- if t: xs.append(e) -/
theorem ifapp {t : WT} {e : WE} {d : D} {i : Nat} {p : Addr} {acc : List D} {b : Bool} {h0 h : H3} {E : En} {ρ : Ev} (r : ρ[i]? = some (some (.ref p))) (hl : acc.length ≤ 1000) (s0 : Sub h0 h) (p0 : h0 p = none) (hp : h p = some (.lst acc))
    (he : ∀ (h' : H3) (K : K1), K d h' → e ρ h' K) (ht : ∀ K : Bool → H3 → Prop, (∀ h', Sub h h' → K b h') → t ρ h K)
    (q : ∀ h', Sub h0 h' → (∀ c o, c ≠ p → h c = some o → h' c = some o) → h' p = some (.lst (acc ++ if b = true then [d] else [])) → E.nx ρ h') : wIfS t (wDrop (wAppend (wVar i) (wCons e wNil))) wNext E ρ h := by
  rw [s_ifS]
  refine ht _ fun h' s => ?_
  have hp' := s _ _ hp
  cases b with
  | true =>
    rw [if_pos rfl, s_drop]
    refine ⟨.ref p, r, p, acc, rfl, hp', ?_⟩
    simp only [s_cons, s_nil]
    refine he _ _ ⟨p, acc, d, rfl, rfl, hp', by omega, ?_⟩
    refine q _ (sub_w (s0.trans s) p0) (fun c o hc e => by rw [up_ne hc]; exact s _ _ e) ?_
    rw [up_same, if_pos rfl]
  | false =>
    rw [if_neg Bool.false_ne_true, s_next]
    refine q _ (s0.trans s) (fun c o _ e => s _ _ e) ?_
    rw [if_neg Bool.false_ne_true, List.append_nil]
    exact hp'
theorem cds_end {v : Pv} {labs : List D} {B : Bl} (hn : ndB v B.nd = false) : (cds v labs B).map D.str = (([] ++ if (!btw B.lab 0 999) = true then [D.str "label"] else []) ++ if (!B.body.all (stB v)) = true then [D.str "statement"] else []) ++ [D.str "end"] := by
  unfold cds
  rw [hn]
  generalize btw B.lab 0 999 = x
  generalize B.body.all (stB v) = y
  cases x <;> cases y <;> rfl
theorem cds_go {v : Pv} {labs : List D} {B : Bl} (hn : ndB v B.nd = true) : (cds v labs B).map D.str = ((([] ++ if (!btw B.lab 0 999) = true then [D.str "label"] else []) ++ if (!B.body.all (stB v)) = true then [D.str "statement"] else []) ++ if (!(aimsD B.nd).all (inL labs)) = true then [D.str "target"] else []) ++ if inL (aimsD B.nd) (labs.headD .non) = true then [D.str "entry"] else [] := by
  unfold cds
  rw [hn]
  generalize btw B.lab 0 999 = x
  generalize B.body.all (stB v) = y
  generalize (aimsD B.nd).all (inL labs) = z
  generalize inL (aimsD B.nd) (labs.headD .non) = u
  cases x <;> cases y <;> cases z <;> cases u <;> rfl
theorem aims_atm {v : Pv} {d : D} {h : H3} (hn : ndB v d = true) : ∀ x ∈ aimsD d, Atm x ∧ VOk h x := by
  rcases ndB_cases hn with ⟨i, rfl⟩ | ⟨a, i, j, rfl⟩ | ⟨a, rfl⟩
  · intro x hx; simp [aimsD] at hx; subst hx; exact ⟨trivial, .mk_int⟩
  · intro x hx
    simp [aimsD] at hx
    rcases hx with rfl | rfl
    · exact ⟨trivial, .mk_int⟩
    · exact ⟨trivial, .mk_int⟩
  · intro x hx; simp [aimsD] at hx
end T3
namespace Lk01
open PySem PySem.Spec PyProof.Rows L2 T3
/-- a block of a procedure of the program -/
structure At3 (h : H3) (v : Pv) (P : Pc) (B : Bl) : Prop where
  c : Ctx h v
  hP : P ∈ v.prs
  hB : B ∈ P.bls
  lab : ∀ b ∈ P.bls, Atm b.lab
theorem At3.mono {h h' : H3} {v : Pv} {P : Pc} {B : Bl} (a : At3 h v P B) (s : Sub h h') : At3 h' v P B := ⟨a.c.mono s, a.hP, a.hB, a.lab⟩
theorem At3.labs {h : H3} {v : Pv} {P : Pc} {B : Bl} (a : At3 h v P B) : ∀ x ∈ P.labs, Atm x ∧ VOk h x := by
  intro x hx
  obtain ⟨b, hb, rfl⟩ := List.mem_map.mp hx
  exact ⟨a.lab b hb, ((a.c.ps.2 P a.hP).2.2 b hb).1⟩
theorem lab_list {h : H3} {v : Pv} {P : Pc} {i : Nat} {ρ : Ev} {k : K1} (c : Ctx h v) (hP : P ∈ v.prs) (hi : i < ρ.length) (q : ∀ p, h p = none → k (.ref p) (up h p (.lst P.labs))) : ∀ p, h p = none → lcW (fun _ => True) i wYes (w2 T3.rIx (wVar i) (wC (.int 0))) p ρ k (P.bls.map Bl.toD) (up h p (.lst [])) := by
  refine lc_lst (f := hdD) (by have := (c.ps.2 P hP).2.1; simp; omega) (fun _ _ => trivial) (fun x hx h' s K hK => ?_) (fun p np => ?_)
  · obtain ⟨a, ha, rfl⟩ := List.mem_map.mp hx
    simp [Bl.toD, hi]
    exact hK _ (Sub.refl _)
  · have e : (P.bls.map Bl.toD).map hdD = P.labs := by rw [List.map_map]; rfl
    rw [e]
    exact q p np
def sp_codes : Sp3 := fun l h k => ∃ (v : Pv) (P : Pc) (B : Bl), l = [v.toD, P.toD, B.toD] ∧ At3 h v P B ∧ ∀ h' p, Sub h h' → h p = none → h' p = some (.lst ((cds v P.labs B).map .str)) → k (.ref p) h'
theorem ok_block_codes : ∀ l h k, sp_codes l h k → W_block_codes sp_label sp_st sp_end sp_targets (en k) (ev0 N_block_codes l) h := by
  rintro l h0 k ⟨v, P, B, rfl, a, post⟩
  have vb := (a.c.ps.2 P a.hP).2.2 B a.hB
  obtain ⟨B0, bs, hbs⟩ : ∃ B0 bs, P.bls = B0 :: bs := by
    cases e : P.bls with
    | nil => have := a.hB; rw [e] at this; cases this
    | cons x l => exact ⟨x, l, rfl⟩
  simp only [W_block_codes, s_seq, s_asg, s_L, s_nil, s_lst, s_gN]
  refine ⟨by decide, fun p np => ?_⟩
  have s1 : Sub h0 (up h0 p (.lst [])) := (Sub.refl h0).up np
  have r3 : ([some v.toD, some P.toD, some B.toD, some (.ref p), none, none, none, none] : Ev)[3]? = some (some (.ref p)) := rfl
  show wIfS _ _ _ _ [some v.toD, some P.toD, some B.toD, some (.ref p), none, none, none, none] _
  refine ifapp (b := !btw B.lab 0 999) (d := .str "label") r3 (by simp) s1 np up_same (fun h' K q => q) (fun K hK => ?_) fun h1 s1 _ g1 => ?_
  · simp [Bl.toD]
    exact ⟨_, rfl, vb.1.mono s1, by simpa using hK _ (Sub.refl _)⟩
  simp only [s_seq]
  refine ifapp (b := !B.body.all (stB v)) (d := .str "statement") r3 (by split <;> simp) s1 np g1 (fun h' K q => q) (fun K hK => ?_) fun h2 s2 _ g2 => ?_
  · simp [Bl.toD]
    refine lc_all (g := stB v) (by have := vb.2.1.1; omega) (fun _ _ => trivial) (fun x hx h' s K hK => ?_) (fun h' s => ?_)
    · simp
      exact ⟨v, x, rfl, a.c.mono (s1.trans s), (vb.2.1.2 x hx).mono (s1.trans s), hK⟩
    · simpa using hK _ s
  simp only [s_seq, s_ifS, s_not, s_B, s_L, s_cons, s_w2, s_nil, s_var, s_c]
  refine ⟨_, rfl, _, rfl, ?_⟩
  simp only [Bl.toD, s_ix_t]
  refine ⟨_, rfl, v, B.nd, rfl, a.c.mono s2, vb.2.2.mono s2, ?_⟩
  simp only [asB_bl]
  cases hn : ndB v B.nd with
  | false =>
    simp only [Bool.not_false, if_true]
    simp only [s_drop, wAppend, s_var, s_cons, s_nil, s_c]
    refine ⟨_, rfl, p, _, rfl, g2, p, _, _, rfl, rfl, g2, by split <;> split <;> simp, ?_⟩
    refine (show ∃ d, _ = some (some d) ∧ (en k).rt d _ from ⟨_, rfl, en_rt (post _ p (sub_w s2 np) np ?_)⟩)
    rw [up_same]
    rw [cds_end hn]
  | true =>
    simp only [Bool.not_true, Bool.false_eq_true, if_false]
    have eP : P.toD = .tup [.str P.name, .int P.par, .tup (P.bls.map Bl.toD)] := rfl
    simp only [s_next, s_seq, s_asg, s_gN, lcs_it, s_w2, s_var, s_c, wNext]
    refine ⟨_, rfl, ?_⟩
    rw [eP]
    simp only [s_ix_t]
    refine ⟨_, rfl, ?_⟩
    rw [lcD_tup]
    refine lab_list (a.c.mono s2) a.hP (by simp) fun q nq => ?_
    have hpq : p ≠ q := fun z => by subst z; rw [nq] at g2; cases g2
    have nq0 : h0 q = none := by
      cases z : h0 q with
      | none => rfl
      | some o => rw [s2 _ _ z] at nq; cases nq
    have s3 : Sub h0 (up h2 q (.lst P.labs)) := s2.up nq0
    have g3 : (up h2 q (.lst P.labs)) p = h2 p := up_ne hpq
    rw [g2] at g3
    have q3 : (up h2 q (.lst P.labs)) q = some (.lst P.labs) := up_same
    generalize up h2 q (.lst P.labs) = h3 at s3 g3 q3 ⊢
    have aa : ∀ h', ∀ x ∈ aimsD B.nd, Atm x ∧ VOk h' x := fun h' => aims_atm hn
    have al : (aimsD B.nd).length ≤ 2 := by rcases ndB_cases hn with ⟨i, e⟩ | ⟨a, i, j, e⟩ | ⟨a, e⟩ <;> rw [e] <;> simp [aimsD]
    have la : ∀ h', Sub h0 h' → ∀ x ∈ P.labs, Atm x ∧ VOk h' x := fun h' s => (a.mono s).labs
    have eh : P.labs[0]? = some (P.labs.headD .non) ∧ P.labs.headD .non ∈ P.labs := by simp [Pc.labs, hbs]
    show wIfS _ _ _ _ [some v.toD, some P.toD, some (.tup [B.lab, .tup B.body, B.nd]), some (.ref p), some (.ref q), none, none, none] _
    have ht : ∀ (i : Nat) (h4 : H3) (k4 : K1), Sub h0 h4 → h4 q = some (.lst P.labs) → (∀ h', Sub h4 h' → k4 (.bl ((aimsD B.nd).all (inL P.labs))) h') → i = 7 → ∀ p', h4 p' = none → lcW (fun _ => True) i wYes (w2 (T3.rIn false) (wVar 7) (wVar 4)) p' [some v.toD, some P.toD, some (.tup [B.lab, .tup B.body, B.nd]), some (.ref p), some (.ref q), none, none, none] (fun d h1 => rAllB [d] h1 k4) (aimsD B.nd) (up h4 p' (.lst [])) := by
      intro i h4 k4 s4 hq hk hi
      subst hi
      refine lc_all (g := inL P.labs) (by omega) (fun _ _ => trivial) (fun x hx h' s K hK => ?_) hk
      simp
      refine rIn_atm (l := P.labs) (s _ _ hq) (aa h' x hx) (la h' (s4.trans s)) ?_
      simpa using hK _ (Sub.refl _)
    refine ifapp (b := !(aimsD B.nd).all (inL P.labs)) (d := .str "target") rfl (by split <;> split <;> simp) s3 np g3 (fun h' K q => q) (fun K hK => ?_) fun h4 s4 x4 g4 => ?_
    · simp
      refine ⟨v, B.nd, rfl, hn, ?_⟩
      simp only [lcD_tup]
      refine ht 7 _ _ s3 q3 (fun h' s => ?_) rfl
      simpa using hK h' s
    simp only [s_seq]
    refine ifapp (b := inL (aimsD B.nd) (P.labs.headD .non)) (d := .str "entry") rfl (by split <;> split <;> split <;> simp) s4 np g4 (fun h' K q => q) (fun K hK => ?_) fun h5 s5 _ g5 => ?_
    · have q4 := x4 q _ hpq.symm q3
      simp
      refine ⟨_, q4, _, eh.1, v, B.nd, rfl, hn, ?_⟩
      have hd := la h4 s4 _ eh.2
      refine rIn_atm_t (l := aimsD B.nd) hd (aa h4) ?_
      simpa using hK _ (Sub.refl _)
    refine (show ∃ d, _ = some (some d) ∧ (en k).rt d _ from ⟨_, rfl, en_rt (post _ p s5 np ?_)⟩)
    rw [cds_go hn]
    exact g5
end Lk01
end
-- G1G
section
set_option maxRecDepth 100000
set_option maxHeartbeats 4000000
/-! G1G: program_faults. -/
namespace T3
open PySem PySem.Spec PySem.W PyProof.Rows L2
theorem upto_zero {v : Pv} {x : D} : UpTo v 0 0 x ↔ (x = itD [] "name" ∧ nmsB v = false) := by
  constructor
  · rintro (h | ⟨p, b, P, B, _, _, (h | h), _⟩)
    · exact h
    · omega
    · omega
  · exact .inl
theorem upto_step {v : Pv} {p b : Nat} {P : Pc} {B : Bl} {x : D} (hP : v.prs[p]? = some P) (hB : P.bls[b]? = some B) : UpTo v p (b + 1) x ↔ (UpTo v p b x ∨ (x = itD [p, b] "twice" ∧ inL (P.labs.take b) B.lab = true)) ∨ ∃ c ∈ cds v P.labs B, x = itD [p, b] c := by
  constructor
  · rintro (h | ⟨p', b', P', B', h1, h2, h3, h4⟩)
    · exact .inl (.inl (.inl h))
    · by_cases c : p' = p ∧ b' = b
      · obtain ⟨rfl, rfl⟩ := c
        rw [hP] at h1; cases h1
        rw [hB] at h2; cases h2
        rcases h4 with h4 | h4
        · exact .inl (.inr h4)
        · exact .inr h4
      · exact .inl (.inl (.inr ⟨p', b', P', B', h1, h2, by omega, h4⟩))
  · rintro ((h | h) | h)
    · rcases h with h | ⟨p', b', P', B', h1, h2, h3, h4⟩
      · exact .inl h
      · exact .inr ⟨p', b', P', B', h1, h2, by omega, h4⟩
    · exact .inr ⟨p, b, P, B, hP, hB, .inr ⟨rfl, by omega⟩, .inl h⟩
    · exact .inr ⟨p, b, P, B, hP, hB, .inr ⟨rfl, by omega⟩, .inr h⟩
theorem upto_next {v : Pv} {p : Nat} {P : Pc} {x : D} (hP : v.prs[p]? = some P) : UpTo v (p + 1) 0 x ↔ UpTo v p P.bls.length x := by
  constructor
  · rintro (h | ⟨p', b', P', B', h1, h2, h3, h4⟩)
    · exact .inl h
    · refine .inr ⟨p', b', P', B', h1, h2, ?_, h4⟩
      by_cases c : p' = p
      · subst c
        rw [hP] at h1; cases h1
        refine .inr ⟨rfl, ?_⟩
        rcases Nat.lt_or_ge b' P.bls.length with z | z
        · exact z
        · rw [List.getElem?_eq_none z] at h2; cases h2
      · exact .inl (by omega)
  · rintro (h | ⟨p', b', P', B', h1, h2, h3, h4⟩)
    · exact .inl h
    · exact .inr ⟨p', b', P', B', h1, h2, by omega, h4⟩
theorem it_pb {p b : Nat} {c : Str} (hc : PyData.strOk c = true) : IsIt (itD [p, b] c) := ⟨_, _, rfl, hc, by simp⟩
theorem cds_ok {v : Pv} {labs : List D} {B : Bl} : (cds v labs B).length ≤ 4 ∧ ∀ c ∈ cds v labs B, PyData.strOk c = true := by
  unfold cds
  generalize btw B.lab 0 999 = x
  generalize B.body.all (stB v) = y
  generalize (aimsD B.nd).all (inL labs) = z
  generalize inL (aimsD B.nd) (labs.headD .non) = u
  generalize ndB v B.nd = t
  cases x <;> cases y <;> cases z <;> cases u <;> cases t <;> decide +kernel
/-- the dict's keys -/
structure KSet (kvs : List (D × D)) (S : D → Prop) : Prop where
  nd : (kvs.map (·.1)).Nodup
  mem : ∀ x, x ∈ kvs.map (·.1) ↔ S x
  it : ∀ x, S x → IsIt x
theorem it_nk_inj {x y : D} (hx : IsIt x) (h : nkOf x = nkOf y) : x = y := by
  obtain ⟨_, k, e, _⟩ := it_nk hx
  exact nkOf_inj e (h ▸ e)
open Classical in
theorem KSet.put {kvs : List (D × D)} {S : D → Prop} {y d : D} (K : KSet kvs S) (hy : IsIt y) : KSet (putN kvs y d) (fun x => S x ∨ x = y) := by
  have e : (putN kvs y d).map (·.1) = if y ∈ kvs.map (·.1) then kvs.map (·.1) else kvs.map (·.1) ++ [y] := by
    unfold putN
    by_cases c : y ∈ kvs.map (·.1)
    · rw [if_pos c]
      obtain ⟨p, hp, e⟩ := List.mem_map.mp c
      rw [if_pos (List.any_eq_true.mpr ⟨p, hp, by rw [e]; simp⟩), List.map_map]
      refine List.map_congr_left fun q hq => ?_
      simp only [Function.comp]
      split <;> rfl
    · rw [if_neg c, if_neg, List.map_append]
      · rfl
      · rw [List.any_eq_true]
        rintro ⟨p, hp, e⟩
        have : p.1 = y := it_nk_inj (K.it _ ((K.mem _).mp (List.mem_map_of_mem hp))) (by simpa using e)
        exact c (this ▸ List.mem_map_of_mem hp)
  refine ⟨?_, fun x => ?_, fun x h => h.elim (K.it x) fun h => h ▸ hy⟩
  · rw [e]
    split
    · exact K.nd
    · rename_i c
      rw [List.nodup_append]
      exact ⟨K.nd, by simp, fun a ha b hb => by rw [List.mem_singleton] at hb; subst hb; rintro rfl; exact c ha⟩
  · rw [e]
    split
    · rename_i c
      rw [K.mem]
      exact ⟨.inl, fun h => h.elim id fun h => h ▸ (K.mem _).mp c⟩
    · rw [List.mem_append, K.mem, List.mem_singleton]
theorem KSet.iff {kvs : List (D × D)} {S T : D → Prop} (K : KSet kvs S) (h : ∀ x, T x ↔ S x) : KSet kvs T := ⟨K.nd, fun x => (K.mem x).trans (h x).symm, fun x q => K.it x ((h x).mp q)⟩
theorem cutTo {l : List D} {b : Nat} (h : b ≤ l.length) : cutD l none (some (b : Int)) = l.take b := by
  unfold cutD HT.sIx
  simp
  rw [if_neg (by omega)]
  omega
theorem form3 {a b : D} {ps : List D} : formB (.tup [a, b, .tup ps]) = (btw a 1 16 && (Lk01.arsB b && (ps.all prF && ps.all prN))) := by
  cases b with
  | tup as => simp only [formB, Lk01.arsB, Bool.and_assoc]
  | _ => simp [formB, Lk01.arsB]
theorem labs_at {P : Pc} {b : Nat} {B : Bl} (hB : P.bls[b]? = some B) : P.labs[b]? = some B.lab := by simp [Pc.labs, hB]
end T3
namespace Lk01
open PySem PySem.Spec PyProof.Rows L2 T3
def sp_pf : Sp3 := fun l h k => ∃ d, l = [d] ∧ VOk h d ∧ Sml d ∧ ∀ h' p ys, Sub h h' → Ans d ys → h' p = some (.lst ys) → k (.ref p) h'
theorem ans_form {d : D} (h : formB d = false) : Ans d [.tup [.tup [], .str "form"]] := by
  unfold Ans
  rw [pv_none h]
  rfl
theorem nput_v {P : Program} {w : World} {i : Nat} {f : Addr} {kvs : List (D × D)} {e : WE} {y : D} {E : En} {ρ : Ev} {h : H3} (r : ρ[i]? = some (some (.ref f))) (hf : h f = some (nst P w kvs)) (hl : kvs.length < 16777216) (hy : IsIt y) (he : ∀ (h' : H3) (K : K1), K y h' → e ρ h' K) (q : E.nx ρ (up h f (nst P w (putN kvs y (.bl true))))) : wNPut P w (wC (.bl true)) (wVar i) e E ρ h := by
  obtain ⟨⟨m, em⟩, k, ek, h8⟩ := it_nk hy
  unfold wNPut
  simp only [s_c, s_var]
  refine ⟨.ref f, r, he _ _ ?_⟩
  exact ⟨f, kvs, m, k, rfl, em, hf, ek, h8, hl, q⟩
def W_pbody (P : Program) (w : World) : WS := (wSeq (wAsg (w2 T3.rIx (w2 T3.rIx (wVar 0) (wC (.int 2))) (wVar 2)) (gN 3)) (wSeq (wAsg (wLc (wIter (w2 T3.rIx (wVar 3) (wC (.int 2)))) 8 (wYes) (w2 T3.rIx (wVar 8) (wC (.int 0)))) (gN 4)) (wFor (wRg1 (wCons (wL T3.rLen (wCons (wVar 4) (wNil))) (wNil))) (gN 5) (wSeq (wIfS (wB (w2 (T3.rIn false) (w2 T3.rIx (wVar 4) (wVar 5)) (wSl (wVar 4) (oNone) (oSome (wVar 5))))) (wNPut P w (wC (.bl true)) (wVar 1) (wL rTup (wCons (wL rTup (wCons (wVar 2) (wCons (wVar 5) (wNil)))) (wCons (wC (.str "twice")) (wNil))))) (wNext)) (wFor (wIter (wL sp_codes (wCons (wVar 0) (wCons (wVar 3) (wCons (w2 T3.rIx (w2 T3.rIx (wVar 3) (wC (.int 2))) (wVar 5)) (wNil)))))) (gN 6) (wNPut P w (wC (.bl true)) (wVar 1) (wL rTup (wCons (wL rTup (wCons (wVar 2) (wCons (wVar 5) (wNil)))) (wCons (wVar 6) (wNil))))))))))
def W_pret (P : Program) (w : World) : WS := wRet (wL T3.rSorted (wCons (wL (rListN P w) (wCons (wVar 1) wNil)) wNil))
theorem pf_rest {P : Program} {w : World} {v : Pv} {f : Addr} {kvs : List (D × D)} {h0 h : H3} {k : K1} {E : En} (c : Ctx h0 v) (sm : v.Sm) (s : Sub h0 h) (nf : h0 f = none) (hf : h f = some (nst P w kvs)) (K : KSet kvs (UpTo v 0 0)) (hl : kvs.length ≤ 1)
    (post : ∀ h' p ys, Sub h0 h' → Srt v ys → h' p = some (.lst ys) → k (.ref p) h') (hE : E.nx = W_pret P w (en k)) : forW (fun _ => True) (gN 2) (W_pbody P w) E (rgD 0 v.prs.length) [some v.toD, some (.ref f), none, none, none, none, none, none, none] h := by
  have lenR : ∀ n, (rgD 0 n).length = n := fun n => by simp [rgD]
  refine for_inv (fun p ρ h' => ∃ kvs x2 x3 x4 x5 x6 x7 x8, ρ = [some v.toD, some (.ref f), x2, x3, x4, x5, x6, x7, x8] ∧ Sub h0 h' ∧ h' f = some (nst P w kvs) ∧ KSet kvs (UpTo v p 0) ∧ kvs.length ≤ 1 + p * 30) (fun _ _ _ _ _ => trivial) ⟨kvs, _, _, _, _, _, _, _, rfl, s, hf, K, by omega⟩ ?_ ?_
  · rintro p x ρ h1 hx ⟨kvs, x2, x3, x4, x5, x6, x7, x8, rfl, s1, hf, K, hl⟩ N hN
    obtain ⟨hp, rfl⟩ := rgD_at hx
    have hP : v.prs[p]? = some v.prs[p] := List.getElem?_eq_getElem hp
    have mP := List.getElem_mem hp
    generalize v.prs[p] = Q at hP mP
    have hQ : atI (v.prs.map Pc.toD) (p : Int) = some Q.toD := atI_nat (by simp [hP])
    have np3 := sm.np
    have nb6 := sm.nb Q mP
    simp [W_pbody, Pv.toD]
    refine ⟨_, hQ, ?_⟩
    have eQ : Q.toD = .tup [.str Q.name, .int Q.par, .tup (Q.bls.map Bl.toD)] := rfl
    rw [eQ]
    simp
    refine lab_list (c.mono s1) mP (by simp) fun q nq => ?_
    have hfq : f ≠ q := fun z => by subst z; rw [nq] at hf; cases hf
    have nq0 : h0 q = none := by
      cases z : h0 q with
      | none => rfl
      | some o => rw [s1 _ _ z] at nq; cases nq
    have s2 : Sub h0 (up h1 q (.lst Q.labs)) := s1.up nq0
    have f2 : (up h1 q (.lst Q.labs)) f = some (nst P w kvs) := by rw [up_ne hfq]; exact hf
    have q2 : (up h1 q (.lst Q.labs)) q = some (.lst Q.labs) := up_same
    generalize up h1 q (.lst Q.labs) = h2 at s2 f2 q2 ⊢
    simp
    refine ⟨_, q2, by simp [Pc.labs]; omega, ?_⟩
    refine for_inv (fun b ρ h' => ∃ kvs x5 x6 x7 x8, ρ = [some v.toD, some (.ref f), some (.int p), some Q.toD, some (.ref q), x5, x6, x7, x8] ∧ Sub h0 h' ∧ h' f = some (nst P w kvs) ∧ h' q = some (.lst Q.labs) ∧ KSet kvs (UpTo v p b) ∧ kvs.length ≤ 1 + p * 30 + b * 5) (fun _ _ _ _ _ => trivial) ⟨kvs, _, _, _, _, rfl, s2, f2, q2, K, by omega⟩ ?_ ?_
    · rintro b x ρ h3 hx ⟨kvs, x5, x6, x7, x8, rfl, s3, f3, q3, K, hl⟩ N2 hN2
      obtain ⟨hb, rfl⟩ := rgD_at hx
      have hb' : b < Q.bls.length := by simpa [Pc.labs] using hb
      have hB : Q.bls[b]? = some Q.bls[b] := List.getElem?_eq_getElem hb'
      have mB := List.getElem_mem hb'
      generalize Q.bls[b] = B at hB mB
      have hB2 : atI (Q.bls.map Bl.toD) (b : Int) = some B.toD := atI_nat (by simp [hB])
      have hL : atI Q.labs (b : Int) = some B.lab := atI_nat (labs_at hB)
      have a3 : At3 h0 v Q B := ⟨c, mP, mB, sm.lab Q mP⟩
      have lb := (a3.mono s3).labs
      have mL : B.lab ∈ Q.labs := List.mem_map_of_mem mB
      simp
      refine ⟨_, q3, _, hL, _, q3, fun q4 nq4 => ?_⟩
      rw [cutTo (by omega)]
      have n4 : ∀ {z : Addr} {o : O}, h3 z = some o → z ≠ q4 := fun {z o} e y => by subst y; rw [nq4] at e; cases e
      have nq40 : h0 q4 = none := by
        cases z : h0 q4 with
        | none => rfl
        | some o => rw [s3 _ _ z] at nq4; cases nq4
      have s4 : Sub h0 (up h3 q4 (.lst (Q.labs.take b))) := s3.up nq40
      have f4 : (up h3 q4 (.lst (Q.labs.take b))) f = some (nst P w kvs) := by rw [up_ne (n4 f3)]; exact f3
      have q5 : (up h3 q4 (.lst (Q.labs.take b))) q = some (.lst Q.labs) := by rw [up_ne (n4 q3)]; exact q3
      have t4 : (up h3 q4 (.lst (Q.labs.take b))) q4 = some (.lst (Q.labs.take b)) := up_same
      generalize up h3 q4 (.lst (Q.labs.take b)) = h4 at s4 f4 q5 t4 ⊢
      have lb4 := (a3.mono s4).labs
      refine rIn_atm (l := Q.labs.take b) t4 (lb4 _ mL) (fun x hx => lb4 x (List.mem_of_mem_take hx)) ?_
      have hcode : ∀ (kvs : List (D × D)) (h5 : H3), Sub h0 h5 → h5 f = some (nst P w kvs) → h5 q = some (.lst Q.labs) → KSet kvs (fun x => UpTo v p b x ∨ (x = itD [p, b] "twice" ∧ inL (Q.labs.take b) B.lab = true)) → kvs.length ≤ 1 + p * 30 + b * 5 + 1 →
          wFor (wIter (wL sp_codes (wCons (wVar 0) (wCons (wVar 3) (wCons (w2 T3.rIx (w2 T3.rIx (wVar 3) (wC (.int 2))) (wVar 5)) (wNil)))))) (gN 6) (wNPut P w (wC (.bl true)) (wVar 1) (wL rTup (wCons (wL rTup (wCons (wVar 2) (wCons (wVar 5) (wNil)))) (wCons (wVar 6) (wNil))))) { nx := N2, ct := N2, bk := N, rt := E.rt } [some v.toD, some (.ref f), some (.int p), some Q.toD, some (.ref q), some (.int b), x6, x7, x8] h5 := by
        intro kvs h5 s5 f5 q5 K5 hl5
        have eQ : Q.toD = .tup [.str Q.name, .int Q.par, .tup (Q.bls.map Bl.toD)] := rfl
        simp
        rw [eQ]
        simp
        refine ⟨_, hB2, v, Q, B, rfl, a3.mono s5, fun h6 cc s6 nc hc => ?_⟩
        have cds4 := cds_ok (v := v) (labs := Q.labs) (B := B)
        have nc0 : h0 cc = none := by
          cases z : h0 cc with
          | none => rfl
          | some o => rw [s5 _ _ z] at nc; cases nc
        have hfc : f ≠ cc := fun z => by subst z; rw [nc] at f5; cases f5
        refine ⟨⟨_, hc⟩, _, hc, ?_⟩
        refine for_inv (fun j ρ h' => ∃ kvs y6, ρ = [some v.toD, some (.ref f), some (.int p), some Q.toD, some (.ref q), some (.int b), y6, x7, x8] ∧ Sub h0 h' ∧ h' f = some (nst P w kvs) ∧ h' q = some (.lst Q.labs) ∧ h' cc = some (.lst ((cds v Q.labs B).map .str)) ∧ KSet kvs (fun x => (UpTo v p b x ∨ (x = itD [p, b] "twice" ∧ inL (Q.labs.take b) B.lab = true)) ∨ ∃ c ∈ (cds v Q.labs B).take j, x = itD [p, b] c) ∧ kvs.length ≤ 1 + p * 30 + b * 5 + 1 + j)
          (fun j ρ h' _ ⟨_, _, _, _, _, _, q, _⟩ => q) ⟨kvs, x6, rfl, s5.trans s6, s6 _ _ f5, s6 _ _ q5, hc, K5.iff fun x => by simp, by omega⟩ ?_ ?_
        · rintro j x ρ h7 hx ⟨kvs, y6, rfl, s7, f7, q7, c7, K7, hl7⟩ N3 hN3
          rw [List.getElem?_map, Option.map_eq_some_iff] at hx
          obtain ⟨cd, hcd, rfl⟩ := hx
          have hj : j < (cds v Q.labs B).length := by
            rcases Nat.lt_or_ge j (cds v Q.labs B).length with z | z
            · exact z
            · rw [List.getElem?_eq_none z] at hcd; cases hcd
          have hcdm := List.mem_of_getElem? hcd
          have hit : IsIt (itD [p, b] cd) := it_pb (cds4.2 cd hcdm)
          rw [s_gN]
          refine nput_v (y := itD [p, b] cd) rfl f7 (by omega) hit (fun h' K q => by simp; exact q) ?_
          have hqf : q ≠ f := fun z => by subst z; rw [f7] at q7; cases q7
          refine hN3 _ _ ⟨_, _, rfl, sub_w s7 nf, up_same, by rw [up_ne hqf]; exact q7, by rw [up_ne hfc.symm]; exact c7, (K7.put (d := .bl true) hit).iff fun x => ?_, by have := putN_len kvs (itD [p, b] cd) (.bl true); omega⟩
          rw [take_snoc hcd]
          simp only [List.mem_append, List.mem_singleton]
          constructor
          · rintro (h | ⟨c, hc | rfl, e⟩)
            · exact .inl (.inl h)
            · exact .inl (.inr ⟨c, hc, e⟩)
            · exact .inr e
          · rintro ((h | ⟨c, hc, e⟩) | e)
            · exact .inl h
            · exact .inr ⟨c, .inl hc, e⟩
            · exact .inr ⟨cd, .inr rfl, e⟩
        · rintro ρ h7 ⟨kvs, y6, rfl, s7, f7, q7, c7, K7, hl7⟩
          rw [List.length_map] at K7 hl7
          rw [List.take_length] at K7
          refine hN2 _ _ ⟨kvs, _, _, _, _, rfl, s7, f7, q7, K7.iff fun x => upto_step hP hB, by have := cds4.1; omega⟩
      cases ht : inL (Q.labs.take b) B.lab with
      | false =>
        simp only [asB_bl]
        have := hcode kvs h4 s4 f4 q5 (K.iff fun x => by simp [ht]) (by omega)
        simp at this ⊢
        exact this
      | true =>
        simp only [asB_bl]
        have hit : IsIt (itD [p, b] "twice") := it_pb (by decide +kernel)
        have hqf : q ≠ f := fun z => by subst z; rw [f4] at q5; cases q5
        refine nput_v (y := itD [p, b] "twice") rfl f4 (by omega) hit (fun h' K q => by simp; exact q) ?_
        exact hcode _ _ (sub_w s4 nf) up_same (by rw [up_ne hqf]; exact q5) ((K.put (d := .bl true) hit).iff fun x => by simp [ht]) (by have := putN_len kvs (itD [p, b] "twice") (.bl true); omega)
    · rintro ρ h3 ⟨kvs, x5, x6, x7, x8, rfl, s3, f3, q3, K, hl⟩
      rw [lenR] at K hl
      have el : Q.labs.length = Q.bls.length := by simp [Pc.labs]
      rw [el] at K hl
      exact hN _ _ ⟨kvs, _, _, _, _, _, _, _, rfl, s3, f3, K.iff fun x => upto_next hP, by omega⟩
  · rintro ρ h1 ⟨kvs, x2, x3, x4, x5, x6, x7, x8, rfl, s1, f1, K, hl⟩
    rw [lenR] at K hl
    rw [hE]
    simp [W_pret]
    refine ⟨f, kvs, rfl, f1, fun q nq => ?_⟩
    refine ⟨q, _, rfl, up_same, fun d hd => ?_, it_srtb fun x hx => K.it x ((K.mem x).mp hx), fun ys p pm srt np => ?_⟩
    · have := K.it d ((K.mem d).mp hd)
      exact ⟨it_ok this, it_dep this⟩
    · have n1 : ∀ {z : Addr} {o : O}, h0 z = some o → h1 z = some o := fun e => s1 _ _ e
      have nq0 : h0 q = none := by
        cases z : h0 q with
        | none => rfl
        | some o => rw [s1 _ _ z] at nq; cases nq
      have np0 : h0 p = none := by
        cases z : h0 p with
        | none => rfl
        | some o =>
          have := (s1.up (o := .lst (kvs.map (·.1))) nq0) _ _ z
          rw [np] at this; cases this
      exact en_rt (post _ p ys ((s1.up nq0).up np0) ⟨pm.nodup_iff.mpr K.nd, fun x => by rw [pm.mem_iff, K.mem]; exact Iff.rfl, srt, by have := sm.np; rw [pm.length_eq, List.length_map]; omega⟩ up_same)
theorem ok_program_faults {P : Program} {w : World} : ∀ l h k, sp_pf l h k → W_program_faults P w sp_arrs sp_btw sp_prF sp_arenm sp_codes (en k) (ev0 N_program_faults l) h := by
  rintro l h k ⟨d, rfl, vd, sm, post⟩
  have bad : formB d = false → ∀ h', Sub h h' → ∀ p, h' p = none → (en k).rt (.ref p) (up h' p (.lst [.tup [.tup [], .str "form"]])) := fun e h' s p np => en_rt (post _ p _ (s.up (by
    cases z : h p with
    | none => rfl
    | some o => rw [s _ _ z] at np; cases np)) (ans_form e) up_same)
  simp only [W_program_faults, s_seq, s_ifS, s_or, s_not, s_B, s_w1, s_var, ev0]
  refine ⟨d, rfl, ?_⟩
  refine isi_ok vd nofun ?_
  cases d with
  | tup l =>
    have hl := vd.tup
    rcases l with _ | ⟨a, _ | ⟨b, _ | ⟨c, _ | ⟨e, r⟩⟩⟩⟩
    · simp [D.isTy]; exact bad rfl h (Sub.refl h)
    · simp [D.isTy]; exact bad rfl h (Sub.refl h)
    · simp [D.isTy]; exact bad (by cases b <;> rfl) h (Sub.refl h)
    · simp [D.isTy]
      refine isi_ok (hl.2 c (by simp)) nofun ?_
      cases c with
      | tup ps =>
        have hp := (hl.2 (.tup ps) (by simp)).tup
        rw [form3] at bad
        simp [D.isTy]
        refine ⟨a, _, _, rfl, hl.2 a (by simp), ?_⟩
        cases ha : btw a 1 16 with
        | false => simp; exact bad (by rw [ha]; rfl) h (Sub.refl h)
        | true =>
          simp
          refine ⟨b, rfl, hl.2 b (by simp), fun h1 s1 => ?_⟩
          cases hb : arsB b with
          | false => simp; exact bad (by rw [ha, hb]; rfl) h1 s1
          | true =>
            simp
            refine lc_all (g := prF) (by omega) (fun _ _ => trivial) (fun x hx h' s K hK => ?_) (fun h2 s2 => ?_)
            · simp; exact ⟨x, rfl, (hp.2 x hx).mono (s1.trans s), hK⟩
            · have s12 := s1.trans s2
              cases hc : ps.all prF with
              | false => simp; exact bad (by rw [ha, hb, hc]; rfl) h2 s12
              | true =>
                simp
                refine lc_all (g := prN) (by omega) (fun _ _ => trivial) (fun x hx h' s K hK => ?_) (fun h3 s3 => ?_)
                · have hx3 := List.all_eq_true.mp hc x hx
                  unfold prF at hx3
                  split at hx3
                  · rename_i n m bs
                    have hv := ((hp.2 _ hx).mono (s12.trans s)).tup
                    have hK := hK _ (Sub.refl _)
                    simp only [prN] at hK
                    simp
                    refine isi_ok (hv.2 n (by simp)) nofun ?_
                    cases n with
                    | str n => simp [D.isTy, isS] at hK ⊢; exact ⟨_, _, _, rfl, hv.2 m (by simp), hK⟩
                    | _ => simp [D.isTy, isS] at hK ⊢; exact hK
                  · cases hx3
                · have s13 := s12.trans s3
                  cases hd : ps.all prN with
                  | false => simp; exact bad (by rw [ha, hb, hc, hd]; rfl) h3 s13
                  | true =>
                    simp
                    have hform : formB (.tup [a, b, .tup ps]) = true := by rw [form3, ha, hb, hc, hd]; rfl
                    obtain ⟨v, hv, wf⟩ := form_iff.mp hform
                    have ePs : .tup ps = D.tup (v.prs.map Pc.toD) := by
                      have := hv
                      simp only [Pv.toD, D.tup.injEq, List.cons.injEq] at this
                      rw [this.2.2.1]
                    clear bad ha hb hc hd hp hl hform
                    have hps : ps = v.prs.map Pc.toD := D.tup.inj ePs
                    subst hps
                    rw [hv] at vd sm post ⊢
                    have c : Ctx h v := ⟨wf, vd⟩
                    intro f nf
                    have nf0 : h f = none := by
                      cases z : h f with
                      | none => rfl
                      | some o => rw [s13 _ _ z] at nf; cases nf
                    have s4 : Sub h (up h3 f (nst P w [])) := s13.up nf0
                    refine ⟨v, rfl, c.mono s4, fun h5 s5 => ?_⟩
                    have s05 := s4.trans s5
                    have f5 : h5 f = some (nst P w []) := s5 _ _ up_same
                    have post' : ∀ h' p ys, Sub h h' → Srt v ys → h' p = some (.lst ys) → k (.ref p) h' := fun h' p ys s q e => post h' p ys s (by unfold Ans; rw [pv_some wf]; exact q) e
                    simp only [asB_bl]
                    have lp : (((v.prs.map Pc.toD).length : Nat) : Int) < 4611686018427387904 := by have := c.ps.1; simp; omega
                    cases hn : nmsB v with
                    | true =>
                      rw [if_pos rfl]
                      refine ⟨lp, ?_⟩
                      rw [List.length_map]
                      exact pf_rest (kvs := []) c (sm v rfl) s05 nf0 f5 ⟨List.nodup_nil, fun x => by rw [upto_zero]; simp [hn], fun x q => q.it⟩ (by simp) post' rfl
                    | false =>
                      rw [if_neg Bool.false_ne_true]
                      have hit : IsIt (itD [] "name") := ⟨[], _, rfl, by decide +kernel, by simp⟩
                      refine nput_v (y := itD [] "name") rfl f5 (by simp) hit (fun h' K q => by simp; exact q) ?_
                      have s06 : Sub h (up h5 f (nst P w (putN [] (itD [] "name") (.bl true)))) := sub_w s05 nf0
                      have f6 : (up h5 f (nst P w (putN [] (itD [] "name") (.bl true)))) f = _ := up_same
                      have K0 : KSet [] (fun _ : D => False) := ⟨List.nodup_nil, fun x => by simp, fun x q => q.elim⟩
                      have K1 : KSet (putN [] (itD [] "name") (.bl true)) (UpTo v 0 0) := (K0.put (d := .bl true) hit).iff fun x => by rw [upto_zero]; simp [hn]
                      have l1 := putN_len [] (itD [] "name") (.bl true)
                      generalize up h5 f (nst P w (putN [] (itD [] "name") (.bl true))) = h6 at s06 f6 ⊢
                      simp only [s_seq, fors_rg1, s_cons, s_nil, s_L, s_w2, s_var, s_c]
                      refine ⟨_, rfl, ?_⟩
                      simp only [Pv.toD, s_ix_t]
                      refine ⟨_, rfl, ?_⟩
                      rw [s_len_t]
                      refine ⟨_, rfl, by omega, lp, ?_⟩
                      have en : (((v.prs.map Pc.toD).length : Nat) : Int).toNat = v.prs.length := by simp
                      rw [en]
                      exact pf_rest c (sm v rfl) s06 nf0 f6 K1 (by simpa using l1) post' rfl
      | _ => simp [D.isTy]; exact bad (by cases b <;> rfl) h (Sub.refl h)
    · simp [D.isTy]
      have e4 : ¬ ((r.length : Int) + 1 + 1 + 1 + 1 = 3) := by omega
      simp [e4]
      exact bad (by cases b <;> cases c <;> rfl) h (Sub.refl h)
  | _ => simp [D.isTy]; exact bad rfl h (Sub.refl h)
end Lk01
end
-- G1H
section
set_option maxRecDepth 100000
set_option maxHeartbeats 4000000
/-! G1H: the law's form. -/
namespace Lk01
open PySem PySem.Spec PyProof.Rows L2 T3
theorem all_no {l : List D} {f : D → Bool} {x : D} (hx : x ∈ l) (h : f x = false) : l.all f = false := by
  cases e : l.all f with
  | false => rfl
  | true => have := List.all_eq_true.mp e x hx; rw [h] at this; cases this
theorem all_yes {l : List D} {f : D → Bool} (h : ∀ x ∈ l.take l.length, f x = true) : l.all f = true := by
  rw [List.take_length] at h
  exact List.all_eq_true.mpr h
theorem take_all {l : List D} {f : D → Bool} {j : Nat} {x : D} (hx : l[j]? = some x) (h : ∀ y ∈ l.take j, f y = true) (g : f x = true) : ∀ y ∈ l.take (j + 1), f y = true := by
  rw [take_snoc hx]
  intro y hy
  rcases List.mem_append.mp hy with hy | hy
  · exact h y hy
  · rw [List.mem_singleton.mp hy]; exact g
def sp_formed : Sp3 := fun l h k => ∃ d, l = [d] ∧ VOk h d ∧ ∀ h', Sub h h' → k (.bl (formB d)) h'
theorem ok_l_formed : ∀ l h k, sp_formed l h k → W_l_formed sp_btw sp_name (en k) (ev0 N_l_formed l) h := by
  rintro l h k ⟨d, rfl, vd, post⟩
  have bad : formB d = false → ∀ h', Sub h h' → (en k).rt (.bl false) h' := fun e h' s => by have := post h' s; rw [e] at this; exact en_rt this
  have bad0 : formB d = false → (en k).rt (.bl false) h := fun e => bad e h (Sub.refl h)
  simp [W_l_formed, ev0]
  refine isi_ok vd nofun ?_
  cases d with
  | tup l =>
    have hl := vd.tup
    rcases l with _ | ⟨a, _ | ⟨b, _ | ⟨c, _ | ⟨e, r⟩⟩⟩⟩
    · simp [D.isTy]; exact bad0 rfl
    · simp [D.isTy]; exact bad0 rfl
    · simp [D.isTy]; exact bad0 (by cases b <;> rfl)
    · simp [D.isTy]
      refine ⟨a, _, _, rfl, hl.2 a (by simp), ?_⟩
      cases ha : btw a 1 16 with
      | false => simp; exact bad0 (by cases b <;> cases c <;> simp [formB, ha])
      | true =>
        simp
        refine isi_ok (hl.2 b (by simp)) nofun ?_
        cases b with
        | tup as =>
          simp [D.isTy]
          refine isi_ok (hl.2 c (by simp)) nofun ?_
          cases c with
          | tup ps =>
            have vas := (hl.2 (.tup as) (by simp)).tup
            have vps := (hl.2 (.tup ps) (by simp)).tup
            have ef : formB (.tup [a, .tup as, .tup ps]) = (as.all arB && (asc (as.map hdS) && (ps.all prF && ps.all prN))) := by simp only [formB, ha, Bool.true_and]
            rw [ef] at bad
            simp only [ef] at post
            simp [D.isTy]
            refine for_inv (fun j ρ h' => ∃ x y, ρ = [some (.tup [a, .tup as, .tup ps]), x, y] ∧ Sub h h' ∧ ∀ z ∈ as.take j, arB z = true) (fun _ _ _ _ _ => trivial) ⟨none, none, rfl, Sub.refl h, by simp⟩ ?_ ?_
            · rintro j row ρ h1 hx ⟨x, y, rfl, s1, hf⟩ N hN
              have hm := List.mem_of_getElem? hx
              have vr := (vas.2 row hm).mono s1
              have no : arB row = false → ∀ h', Sub h1 h' → (en k).rt (.bl false) h' := fun e h' s => bad (by rw [all_no hm e, Bool.false_and]) h' (s1.trans s)
              have yes : arB row = true → ∀ h', Sub h1 h' → N [some (.tup [a, .tup as, .tup ps]), some row, y] h' := fun e h' s => hN _ _ ⟨_, _, rfl, s1.trans s, take_all hx hf e⟩
              simp
              refine isi_ok vr nofun ?_
              cases row with
              | tup r =>
                simp [D.isTy]
                rcases r with _ | ⟨n, _ | ⟨m, _ | ⟨q, r⟩⟩⟩
                · simp; exact no rfl h1 (Sub.refl h1)
                · simp; exact no rfl h1 (Sub.refl h1)
                · simp
                  refine ⟨n, rfl, vr.tup.2 n (by simp), fun h2 s2 => ?_⟩
                  simp only [arB] at no yes
                  cases hn : nmB n with
                  | false => simp; exact no (by rw [hn]; rfl) h2 s2
                  | true =>
                    simp
                    refine ⟨m, _, _, rfl, (vr.tup.2 m (by simp)).mono s2, ?_⟩
                    rw [hn] at no yes
                    cases hm : btw m 1 8 with
                    | false => simp; exact no (by rw [hm]; rfl) h2 s2
                    | true => simp; exact yes (by rw [hm]; rfl) h2 s2
                · have e3 : ¬ ((r.length : Int) + 1 + 1 + 1 = 2) := by omega
                  simp [e3]; exact no rfl h1 (Sub.refl h1)
              | _ => simp [D.isTy]; exact no rfl h1 (Sub.refl h1)
            · rintro ρ h1 ⟨x, y, rfl, s1, hf⟩
              have hall := all_yes hf
              rw [hall, Bool.true_and] at bad
              simp only [hall, Bool.true_and] at post
              obtain ⟨m, rfl⟩ := all_ex (f := arD) (P := fun d => arB d = true) (fun d h => let ⟨a, e, _⟩ := arB_iff.mp h; ⟨a, e⟩) (List.all_eq_true.mp hall)
              rw [hdS_ar] at bad
              simp only [hdS_ar] at post
              have hm60 : m.length ≤ 60 := by simpa using vas.1
              have okm : ∀ x ∈ m.map (·.1), PyData.strOk x = true := fun x hx => by
                obtain ⟨p, hp, rfl⟩ := List.mem_map.mp hx
                exact ((vas.2 _ (List.mem_map_of_mem hp)).tup.2 (.str p.1) (by simp)).str
              have nml : ∀ (h1 : H3) (κ : K1), (∀ p, h1 p = none → κ (.ref p) (up h1 p (.lst ((m.map (·.1)).map .str)))) → ∀ p, h1 p = none → lcW (fun _ => True) 1 wYes (w2 T3.rIx (wVar 1) (wC (.int 0))) p [some (.tup [a, .tup (m.map arD), .tup ps]), x, y] κ (m.map arD) (up h1 p (.lst [])) := fun h1 κ q => by
                refine lc_lst (f := hdD) (by simp; omega) (fun _ _ => trivial) (fun x hx h' s K hK => ?_) (fun p np => ?_)
                · obtain ⟨a, ha, rfl⟩ := List.mem_map.mp hx
                  simp [arD]
                  exact hK _ (Sub.refl _)
                · have e : (m.map arD).map hdD = (m.map (·.1)).map .str := by rw [List.map_map, List.map_map]; rfl
                  rw [e]
                  exact q p np
              simp
              refine nml h1 _ fun p1 np1 => ?_
              have s2 := s1.trans ((Sub.refl h1).up (o := .lst ((m.map (·.1)).map .str)) np1)
              have g2 : (up h1 p1 (.lst ((m.map (·.1)).map .str))) p1 = some (.lst ((m.map (·.1)).map .str)) := up_same
              generalize up h1 p1 (.lst ((m.map (·.1)).map .str)) = h2 at s2 g2 ⊢
              refine nml h2 _ fun p2 np2 => ?_
              have s23 := ((Sub.refl h2).up (o := .lst ((m.map (·.1)).map .str)) np2)
              have g3 : (up h2 p2 (.lst ((m.map (·.1)).map .str))) p2 = some (.lst ((m.map (·.1)).map .str)) := up_same
              generalize up h2 p2 (.lst ((m.map (·.1)).map .str)) = h3 at s23 g3 ⊢
              refine ⟨p2, m.map (·.1), rfl, g3, by simp; omega, fun ys p3 nd mem srt np3 => ?_⟩
              have s34 := ((Sub.refl h3).up (o := .lst (ys.map .str)) np3)
              refine rEq_strs (s34 _ _ (s23 _ _ g2)) up_same okm (fun x hx => okm x ((mem x).mp hx)) ?_
              rw [asc_eq nd mem srt]
              have s4 := (s2.trans s23).trans s34
              generalize up h3 p3 (.lst (ys.map .str)) = h4 at s4 ⊢
              cases hasc : asc (m.map (·.1)) with
              | false => simp; exact bad (by rw [hasc]; rfl) h4 s4
              | true =>
                rw [hasc, Bool.true_and] at bad
                simp only [hasc, Bool.true_and] at post
                simp
                refine for_inv (fun j ρ h' => ∃ x y, ρ = [some (.tup [a, .tup (m.map arD), .tup ps]), x, y] ∧ Sub h h' ∧ ∀ z ∈ ps.take j, (prF z && prN z) = true) (fun _ _ _ _ _ => trivial) ⟨x, y, rfl, s4, by simp⟩ ?_ ?_
                · rintro j row ρ h1 hx ⟨x, y, rfl, s1, hf⟩ N hN
                  have hm := List.mem_of_getElem? hx
                  have vr := (vps.2 row hm).mono s1
                  have no : (prF row && prN row) = false → ∀ h', Sub h1 h' → (en k).rt (.bl false) h' := fun e h' s => bad (by
                    rw [Bool.and_eq_false_iff] at e ⊢
                    exact e.imp (all_no hm) (all_no hm)) h' (s1.trans s)
                  have yes : (prF row && prN row) = true → ∀ y h', Sub h1 h' → N [some (.tup [a, .tup (m.map arD), .tup ps]), some row, y] h' := fun e y h' s => hN _ _ ⟨_, _, rfl, s1.trans s, take_all (f := fun z => prF z && prN z) hx hf e⟩
                  simp
                  refine isi_ok vr nofun ?_
                  cases row with
                  | tup r =>
                    simp [D.isTy]
                    rcases r with _ | ⟨n, _ | ⟨i, _ | ⟨bs, _ | ⟨q, r⟩⟩⟩⟩
                    · simp; exact no rfl h1 (Sub.refl h1)
                    · simp; exact no rfl h1 (Sub.refl h1)
                    · simp; exact no rfl h1 (Sub.refl h1)
                    · simp
                      refine isi_ok (vr.tup.2 n (by simp)) nofun ?_
                      cases n with
                      | str n =>
                        simp [D.isTy]
                        refine ⟨i, _, _, rfl, vr.tup.2 i (by simp), ?_⟩
                        cases hi : btw i 0 6 with
                        | false => simp; exact no (by simp [prN, isS, hi]) h1 (Sub.refl h1)
                        | true =>
                          simp
                          have enn : prN (.tup [.str n, i, bs]) = true := by simp [prN, isS, hi]
                          rw [enn, Bool.and_true] at no yes
                          refine isi_ok (vr.tup.2 bs (by simp)) nofun ?_
                          cases bs with
                          | tup bs =>
                            have vbs := (vr.tup.2 (.tup bs) (by simp))
                            simp [D.isTy]
                            refine rEq_tup0 vbs ?_
                            rcases bs with _ | ⟨b0, bs⟩
                            · simp; exact no rfl h1 (Sub.refl h1)
                            · have ep : prF (.tup [.str n, i, .tup (b0 :: bs)]) = (b0 :: bs).all blB := rfl
                              rw [ep] at no yes
                              simp only [List.isEmpty_cons]
                              simp
                              refine for_inv (fun j ρ h' => ∃ y, ρ = [some (.tup [a, .tup (m.map arD), .tup ps]), some (.tup [.str n, i, .tup (b0 :: bs)]), y] ∧ Sub h1 h' ∧ ∀ z ∈ (b0 :: bs).take j, blB z = true) (fun _ _ _ _ _ => trivial) ⟨y, rfl, Sub.refl h1, by simp⟩ ?_ ?_
                              · rintro j blk ρ h2 hx ⟨y, rfl, s2, hf⟩ N2 hN2
                                have hm := List.mem_of_getElem? hx
                                have vr := (vbs.tup.2 blk hm).mono s2
                                have no2 : blB blk = false → (en k).rt (.bl false) h2 := fun e => no (all_no hm e) h2 s2
                                have yes2 : blB blk = true → N2 [some (.tup [a, .tup (m.map arD), .tup ps]), some (.tup [.str n, i, .tup (b0 :: bs)]), some blk] h2 := fun e => hN2 _ _ ⟨_, rfl, s2, take_all hx hf e⟩
                                simp
                                refine isi_ok vr nofun ?_
                                cases blk with
                                | tup r =>
                                  simp [D.isTy]
                                  rcases r with _ | ⟨u, _ | ⟨w, _ | ⟨z, _ | ⟨q, r⟩⟩⟩⟩
                                  · simp; exact no2 rfl
                                  · simp; exact no2 rfl
                                  · simp; exact no2 (by cases w <;> rfl)
                                  · simp
                                    refine isi_ok (vr.tup.2 w (by simp)) nofun ?_
                                    cases w with
                                    | tup _ => simp [D.isTy]; exact yes2 rfl
                                    | _ => simp [D.isTy]; exact no2 rfl
                                  · have e4 : ¬ ((r.length : Int) + 1 + 1 + 1 + 1 = 3) := by omega
                                    simp [e4]; exact no2 (by cases w <;> rfl)
                                | _ => simp [D.isTy]; exact no2 rfl
                              · rintro ρ h2 ⟨y, rfl, s2, hf⟩
                                exact yes (all_yes hf) _ h2 s2
                          | _ => simp [D.isTy]; exact no rfl h1 (Sub.refl h1)
                      | _ => simp [D.isTy]; exact no (by simp [prN, isS]) h1 (Sub.refl h1)
                    · have e4 : ¬ ((r.length : Int) + 1 + 1 + 1 + 1 = 3) := by omega
                      simp [e4]; exact no (by cases bs <;> rfl) h1 (Sub.refl h1)
                  | _ => simp [D.isTy]; exact no rfl h1 (Sub.refl h1)
                · rintro ρ h1 ⟨x, y, rfl, s1, hf⟩
                  have h2 := all_yes hf
                  have e1 : ps.all prF = true := List.all_eq_true.mpr fun x hx => by have := List.all_eq_true.mp h2 x hx; rw [Bool.and_eq_true] at this; exact this.1
                  have e2 : ps.all prN = true := List.all_eq_true.mpr fun x hx => by have := List.all_eq_true.mp h2 x hx; rw [Bool.and_eq_true] at this; exact this.2
                  have := post h1 s1
                  rw [e1, e2] at this
                  simp
                  exact en_rt this
          | _ => simp [D.isTy]; exact bad0 rfl
        | _ => simp [D.isTy]; exact bad0 rfl
    · simp [D.isTy]
      have e4 : ¬ ((r.length : Int) + 1 + 1 + 1 + 1 = 3) := by omega
      simp [e4]
      exact bad0 (by cases b <;> cases c <;> rfl)
  | _ => simp [D.isTy]; exact bad0 rfl
end Lk01
end
-- G1I
section
set_option maxRecDepth 100000
set_option maxHeartbeats 4000000
/-! G1I: what the law finds. -/
namespace T3
open PySem PySem.Spec PyProof.Rows L2
theorem due_end {v : Pv} {labs acc : List D} {B : Bl} {p b : Int} {t : Bool} {x : D} (hn : ndB v B.nd = false) : (x ∈ (((acc ++ if (!btw B.lab 0 999) = true then [itD [p, b] "label"] else []) ++ if t = true then [itD [p, b] "twice"] else []) ++ if (!B.body.all (stB v)) = true then [itD [p, b] "statement"] else []) ++ [itD [p, b] "end"]) ↔ (x ∈ acc ∨ (x = itD [p, b] "twice" ∧ t = true)) ∨ ∃ c ∈ cds v labs B, x = itD [p, b] c := by
  unfold cds
  rw [hn]
  generalize btw B.lab 0 999 = x1
  generalize B.body.all (stB v) = y
  cases x1 <;> cases y <;> cases t <;> simp [or_assoc, or_comm, or_left_comm]
theorem due_go {v : Pv} {labs acc : List D} {B : Bl} {p b : Int} {t : Bool} {x : D} (hn : ndB v B.nd = true) : (x ∈ ((((acc ++ if (!btw B.lab 0 999) = true then [itD [p, b] "label"] else []) ++ if t = true then [itD [p, b] "twice"] else []) ++ if (!B.body.all (stB v)) = true then [itD [p, b] "statement"] else []) ++ if (!(aimsD B.nd).all (inL labs)) = true then [itD [p, b] "target"] else []) ++ if inL (aimsD B.nd) (labs.headD .non) = true then [itD [p, b] "entry"] else []) ↔ (x ∈ acc ∨ (x = itD [p, b] "twice" ∧ t = true)) ∨ ∃ c ∈ cds v labs B, x = itD [p, b] c := by
  unfold cds
  rw [hn]
  generalize btw B.lab 0 999 = x1
  generalize B.body.all (stB v) = y
  generalize (aimsD B.nd).all (inL labs) = z
  generalize inL (aimsD B.nd) (labs.headD .non) = u
  cases x1 <;> cases y <;> cases z <;> cases u <;> cases t <;> simp [or_assoc, or_comm, or_left_comm]
theorem len_app1 {L : List D} {c : Bool} {d : D} : (L ++ if c = true then [d] else []).length ≤ L.length + 1 := by
  rw [List.length_append]; split <;> simp
theorem cutD2 {x y : D} {l : List D} : cutD (x :: y :: l) (some 2) none = l := by
  unfold cutD HT.sIx
  simp
  try rw [List.take_of_length_le (by simp)]
end T3
namespace Lk01
open PySem PySem.Spec PyProof.Rows L2 T3
def W_aims : WE := wDisp (ppsCons (wC (.str "go")) (wL rLst (wCons (w2 T3.rIx (wVar 10) (wC (.int 1))) (wNil))) (ppsCons (wC (.str "if")) (wL rListOf (wCons (wSl (wVar 10) (oSome (wC (.int 2))) (oNone)) (wNil))) (ppsCons (wC (.str "return")) (wL rLst (wNil)) (ppsNil))))
theorem aims_disp {ρ : Ev} {h : H3} {k : K1} {x a : D} {r : List D} (r10 : ρ[10]? = some (some (.tup (x :: a :: r)))) (q : ∀ h' pd g i t, Sub h h' → (∀ c o, h c = some o → c ≠ g ∧ c ≠ i ∧ c ≠ t) → h' g = some (.lst [a]) → h' i = some (.lst r) → h' t = some (.lst []) → h' pd = some (.dK [(.inr "go", .ref g), (.inr "if", .ref i), (.inr "return", .ref t)]) → k (.ref pd) h') : W_aims ρ h k := by
  unfold W_aims wDisp
  intro p np
  have s0 : Sub h (up h p (.dK [])) := (Sub.refl h).up np
  have g0 : (up h p (.dK [])) p = some (.dK []) := up_same
  generalize up h p (.dK []) = h0 at s0 g0 ⊢
  simp only [wPairs, s_c, s_L, s_cons, s_nil, s_w2, s_var, r10]
  refine ⟨_, rfl, ?_⟩
  simp only [s_ix_t]
  refine ⟨a, by simp, ?_⟩
  rw [s_lst]
  refine ⟨by simp, fun g ng => ?_⟩
  have s1 := (Sub.refl h0).up (o := .lst [a]) ng
  have g1 : (up h0 g (.lst [a])) g = some (.lst [a]) := up_same
  generalize up h0 g (.lst [a]) = h1 at s1 g1 ⊢
  simp only [s_sl, s_var, r10, s_oSome, s_c, s_oNone]
  refine ⟨_, rfl, _, rfl, ?_⟩
  rw [s_sl_t, cutD2, s_lstOf_t]
  intro i ni
  have s2 := (Sub.refl h1).up (o := .lst r) ni
  have g2 : (up h1 i (.lst r)) i = some (.lst r) := up_same
  generalize up h1 i (.lst r) = h2 at s2 g2 ⊢
  rw [s_lst]
  refine ⟨by simp, fun t nt => ?_⟩
  have s3 := (Sub.refl h2).up (o := .lst []) nt
  have g3 : (up h2 t (.lst [])) t = some (.lst []) := up_same
  generalize up h2 t (.lst []) = h3 at s3 g3 ⊢
  have gp := s3 _ _ (s2 _ _ (s1 _ _ g0))
  refine ⟨gp, _, rfl, by show (3 : Nat) ≤ 15; decide, ?_⟩
  rw [mergeD_new (by simp only [List.nil_append, List.map_cons, List.map_nil]; decide +kernel), List.nil_append]
  have e1 : g ≠ p := fun z => by subst z; rw [ng] at g0; cases g0
  have e2 : i ≠ p := fun z => by subst z; rw [s1 _ _ g0] at ni; cases ni
  have e3 : t ≠ p := fun z => by subst z; rw [s2 _ _ (s1 _ _ g0)] at nt; cases nt
  have nph : h p = none := np
  refine q _ p g i t (sub_w (((s0.trans s1).trans s2).trans s3) nph) (fun c o e => ⟨(fun z => by subst z; rw [s0 _ _ e] at ng; cases ng), (fun z => by subst z; rw [s1 _ _ (s0 _ _ e)] at ni; cases ni), (fun z => by subst z; rw [s2 _ _ (s1 _ _ (s0 _ _ e))] at nt; cases nt)⟩) ?_ ?_ ?_ up_same
  · rw [up_ne e1]; exact s3 _ _ (s2 _ _ g1)
  · rw [up_ne e2]; exact s3 _ _ g2
  · rw [up_ne e3]; exact g3
def W_iter : WS := (wSeq (wAsg (w2 T3.rIx (wVar 5) (wVar 7)) (gT [gN 8, gN 9, gN 10])) (wSeq (wIfS (wNot (wB (wL sp_btw (wCons (wVar 8) (wCons (wC (.int 0)) (wCons (wC (.int 999)) (wNil))))))) (wDrop (wAppend (wVar 1) (wCons (wL rTup (wCons (wL rTup (wCons (wVar 4) (wCons (wVar 7) (wNil)))) (wCons (wC (.str "label")) (wNil)))) (wNil)))) (wNext)) (wSeq (wIfS (wB (w2 (T3.rIn false) (wVar 8) (wSl (wVar 6) (oNone) (oSome (wVar 7))))) (wDrop (wAppend (wVar 1) (wCons (wL rTup (wCons (wL rTup (wCons (wVar 4) (wCons (wVar 7) (wNil)))) (wCons (wC (.str "twice")) (wNil)))) (wNil)))) (wNext)) (wSeq (wIfS (wB (w2 T3.rNe (wLc (wIter (wVar 9)) 12 (wNot (wB (wL sp_lrow (wCons (wVar 0) (wCons (wVar 12) (wNil)))))) (wVar 12)) (wL rLst (wNil)))) (wDrop (wAppend (wVar 1) (wCons (wL rTup (wCons (wL rTup (wCons (wVar 4) (wCons (wVar 7) (wNil)))) (wCons (wC (.str "statement")) (wNil)))) (wNil)))) (wNext)) (wSeq (wIfS (wNot (wB (wL sp_lend (wCons (wVar 0) (wCons (wVar 10) (wNil)))))) (wSeq (wDrop (wAppend (wVar 1) (wCons (wL rTup (wCons (wL rTup (wCons (wVar 4) (wCons (wVar 7) (wNil)))) (wCons (wC (.str "end")) (wNil)))) (wNil)))) (wCont)) (wNext)) (wSeq (wAsg (w2 rDGet W_aims (w2 T3.rIx (wVar 10) (wC (.int 0)))) (gN 11)) (wSeq (wIfS (wB (w2 T3.rNe (wLc (wIter (wVar 11)) 15 (wB (w2 (T3.rIn true) (wVar 15) (wVar 6))) (wVar 15)) (wL rLst (wNil)))) (wDrop (wAppend (wVar 1) (wCons (wL rTup (wCons (wL rTup (wCons (wVar 4) (wCons (wVar 7) (wNil)))) (wCons (wC (.str "target")) (wNil)))) (wNil)))) (wNext)) (wIfS (wB (w2 (T3.rIn false) (w2 T3.rIx (wVar 6) (wC (.int 0))) (wVar 11))) (wDrop (wAppend (wVar 1) (wCons (wL rTup (wCons (wL rTup (wCons (wVar 4) (wCons (wVar 7) (wNil)))) (wCons (wC (.str "entry")) (wNil)))) (wNil)))) (wNext)))))))))
def W_dbody : WS := (wSeq (wAsg (w2 T3.rIx (w2 T3.rIx (w2 T3.rIx (wVar 0) (wC (.int 2))) (wVar 4)) (wC (.int 2))) (gN 5)) (wSeq (wAsg (wLc (wIter (wVar 5)) 14 (wYes) (w2 T3.rIx (wVar 14) (wC (.int 0)))) (gN 6)) (wFor (wRg1 (wCons (wL T3.rLen (wCons (wVar 5) (wNil))) (wNil))) (gN 7) W_iter)))
def sp_due : Sp3 := sp_pf
theorem it_tm {c : Str} {ρ : Ev} {p b : Int} (r4 : ρ[4]? = some (some (.int p))) (r7 : ρ[7]? = some (some (.int b))) (h' : H3) (K : K1) (q : K (itD [p, b] c) h') : (wL rTup (wCons (wL rTup (wCons (wVar 4) (wCons (wVar 7) (wNil)))) (wCons (wC (.str c)) (wNil)))) ρ h' K := by
  simp [r4, r7]
  exact q
theorem due_inner {v : Pv} {P : Pc} {B : Bl} {f q nl ml : Addr} {p b : Nat} {acc : List D} {h0 h : H3} {E : En} {N2 : Ev → H3 → Prop} {x8 x9 x10 x11 : Option D} (a3 : At3 h0 v P B) (hB : P.bls[b]? = some B) (s : Sub h0 h) (nf : h0 f = none) (hf : h f = some (.lst acc)) (hq : h q = some (.lst P.labs)) (hl : acc.length ≤ 100) (hqf : q ≠ f)
    (hN : ∀ acc' y8 y9 y10 y11 h', Sub h0 h' → h' f = some (.lst acc') → h' q = some (.lst P.labs) → acc'.length ≤ acc.length + 5 → (∀ x, x ∈ acc' ↔ (x ∈ acc ∨ (x = itD [p, b] "twice" ∧ inL (P.labs.take b) B.lab = true)) ∨ ∃ c ∈ cds v P.labs B, x = itD [p, b] c) → N2 [some v.toD, some (.ref f), some (.ref nl), some (.ref ml), some (.int p), some (.tup (P.bls.map Bl.toD)), some (.ref q), some (.int b), y8, y9, y10, y11, none, none, none, none] h')
    (e1 : E.nx = N2) (e2 : E.ct = N2) :
    W_iter E [some v.toD, some (.ref f), some (.ref nl), some (.ref ml), some (.int p), some (.tup (P.bls.map Bl.toD)), some (.ref q), some (.int b), x8, x9, x10, x11, none, none, none, none] h := by
  have vb := (a3.c.ps.2 P a3.hP).2.2 B a3.hB
  have hB2 : atI (P.bls.map Bl.toD) (b : Int) = some B.toD := atI_nat (by simp [hB])
  have hbl : b ≤ P.labs.length := by
    rcases Nat.lt_or_ge b P.bls.length with z | z
    · simp [Pc.labs]; omega
    · rw [List.getElem?_eq_none z] at hB; cases hB
  have lab := fun h' (s : Sub h0 h') => (a3.mono s).labs
  have mL : B.lab ∈ P.labs := List.mem_map_of_mem a3.hB
  unfold W_iter
  simp only [s_seq, s_asg, s_w2, s_var]
  refine ⟨_, rfl, _, rfl, ?_⟩
  rw [s_ix_t]
  refine ⟨B.toD, hB2, ?_⟩
  simp only [Bl.toD, s_gT]
  refine ⟨rfl, ?_⟩
  simp only [s_go_cons, s_go_nil, s_gN, s_seq]
  show wIfS _ _ _ _ [some v.toD, some (.ref f), some (.ref nl), some (.ref ml), some (.int p), some (.tup (P.bls.map Bl.toD)), some (.ref q), some (.int b), some B.lab, some (.tup B.body), some B.nd, x11, none, none, none, none] _
  refine ifapp (b := !btw B.lab 0 999) (d := itD [p, b] "label") rfl (by omega) s nf hf (it_tm rfl rfl) (fun K hK => ?_) fun h1 s1 x1 g1 => ?_
  · simp
    exact ⟨_, _, _, rfl, vb.1.mono s, by simpa using hK _ (Sub.refl _)⟩
  have q1 := x1 q _ hqf hq
  simp only [s_seq]
  refine ifapp (b := inL (P.labs.take b) B.lab) (d := itD [p, b] "twice") rfl (by rw [List.length_append]; split <;> simp <;> omega) s1 nf g1 (it_tm rfl rfl) (fun K hK => ?_) fun h2 s2 x2 g2 => ?_
  · simp
    refine ⟨_, q1, fun r nr => ?_⟩
    rw [cutTo hbl]
    have sr := (Sub.refl h1).up (o := .lst (P.labs.take b)) nr
    refine rIn_atm (l := P.labs.take b) up_same (lab _ (s1.trans sr) _ mL) (fun x hx => lab _ (s1.trans sr) x (List.mem_of_mem_take hx)) ?_
    simpa using hK _ sr
  have q2 := x2 q _ hqf q1
  simp only [s_seq]
  refine ifapp (b := !B.body.all (stB v)) (d := itD [p, b] "statement") rfl (by rw [List.length_append, List.length_append]; split <;> split <;> simp <;> omega) s2 nf g2 (it_tm rfl rfl) (fun K hK => ?_) fun h3 s3 x3 g3 => ?_
  · simp
    refine lc_emp (n := true) (t := fun y => !stB v y) (f := fun y => y) (by have := vb.2.1.1; omega) (fun _ _ => trivial) (fun y hy _ => (vb.2.1.2 y hy).mono s2) (fun y hy h' s K hK => ?_) (fun y hy h' s K hK => ?_) (fun h' s => ?_)
    · simp
      refine ⟨v, y, rfl, a3.c.mono (s2.trans s), (vb.2.1.2 y hy).mono (s2.trans s), fun h' s => ?_⟩
      simp
      exact hK h' s
    · simp
      exact hK _ (Sub.refl _)
    · rw [T3.emp_all]
      simpa using hK _ s
  have q3 := x3 q _ hqf q2
  simp only [s_seq, s_ifS, s_not, s_B, s_L, s_cons, s_nil, s_var]
  refine ⟨_, rfl, _, rfl, v, B.nd, rfl, a3.c.mono s3, vb.2.2.mono s3, fun h4 s4 => ?_⟩
  have s04 := s3.trans s4
  have g4 := s4 _ _ g3
  have q4 := s4 _ _ q3
  simp only [asB_bl]
  have len3 : ((((acc ++ if (!btw B.lab 0 999) = true then [itD [p, b] "label"] else []) ++ if inL (P.labs.take b) B.lab = true then [itD [p, b] "twice"] else []) ++ if (!B.body.all (stB v)) = true then [itD [p, b] "statement"] else [])).length ≤ acc.length + 3 := by
    rw [List.length_append, List.length_append, List.length_append]; split <;> split <;> split <;> simp
  cases hn : ndB v B.nd with
  | false =>
    simp only [Bool.not_false, if_true]
    simp only [s_drop, wAppend, s_var, s_cons, s_nil]
    refine ⟨_, rfl, f, _, rfl, g4, ?_⟩
    refine it_tm (c := "end") rfl rfl _ _ ?_
    refine ⟨f, _, _, rfl, rfl, g4, by omega, ?_⟩
    simp only [s_cont]
    rw [e2]
    exact hN _ _ _ _ _ _ (sub_w s04 nf) up_same (by rw [up_ne hqf]; exact q4) (by rw [List.length_append]; simp only [List.length_singleton]; omega) (fun x => due_end hn)
  | true =>
    simp only [Bool.not_true, Bool.false_eq_true, if_false]
    simp only [s_next, wNext, s_seq, s_asg, s_w2]
    obtain ⟨x, a, r, ex⟩ : ∃ x a r, B.nd = .tup (.str x :: a :: r) := by
      rcases ndB_cases hn with ⟨i, e⟩ | ⟨a, i, j, e⟩ | ⟨a, e⟩ <;> exact ⟨_, _, _, e⟩
    refine aims_disp (x := .str x) (a := a) (r := r) (by rw [← ex]; rfl) fun h5 pd g i t s5 hne gg gi gt gd => ?_
    obtain ⟨ne1, ne2, ne3⟩ := hne f _ g4
    have s05 := s04.trans s5
    have g5 := s5 _ _ g4
    have q5 := s5 _ _ q4
    simp only [s_var, s_c]
    refine ⟨_, rfl, ?_⟩
    rw [ex, s_ix_t]
    refine ⟨.str x, by simp, ?_⟩
    rw [s_dget]
    have haim : ∃ z, DG h5 pd (.str x) (some (.ref z)) ∧ h5 z = some (.lst (aimsD B.nd)) ∧ z ≠ f := by
      rcases ndB_cases hn with ⟨i', e⟩ | ⟨a', i', j', e⟩ | ⟨a', e⟩
      · rw [e] at ex
        simp only [D.tup.injEq, List.cons.injEq, D.str.injEq] at ex
        obtain ⟨rfl, rfl, rfl⟩ := ex
        exact ⟨g, (dg_dK gd).mpr ⟨_, rfl, rfl⟩, by rw [e]; simpa [aimsD] using gg, ne1.symm⟩
      · rw [e] at ex
        simp only [D.tup.injEq, List.cons.injEq, D.str.injEq] at ex
        obtain ⟨rfl, rfl, rfl⟩ := ex
        exact ⟨i, (dg_dK gd).mpr ⟨_, rfl, by simp [valD]⟩, by rw [e]; simpa [aimsD] using gi, ne2.symm⟩
      · rw [e] at ex
        simp only [D.tup.injEq, List.cons.injEq, D.str.injEq] at ex
        obtain ⟨rfl, rfl, rfl⟩ := ex
        exact ⟨t, (dg_dK gd).mpr ⟨_, rfl, by simp [valD]⟩, by rw [e]; simpa [aimsD] using gt, ne3.symm⟩
    obtain ⟨z, hz, z5, hzf⟩ := haim
    refine ⟨_, hz, ?_⟩
    rw [← ex]
    simp only [s_gN, s_seq]
    have aa : ∀ h', ∀ x ∈ aimsD B.nd, Atm x ∧ VOk h' x := fun h' => aims_atm hn
    have al : (aimsD B.nd).length ≤ 2 := by rcases ndB_cases hn with ⟨i, e⟩ | ⟨a, i, j, e⟩ | ⟨a, e⟩ <;> rw [e] <;> simp [aimsD]
    have eh : P.labs[0]? = some (P.labs.headD .non) ∧ P.labs.headD .non ∈ P.labs := by
      cases e : P.labs with
      | nil => rw [e] at mL; cases mL
      | cons y l => simp
    show wIfS _ _ _ _ [some v.toD, some (.ref f), some (.ref nl), some (.ref ml), some (.int p), some (.tup (P.bls.map Bl.toD)), some (.ref q), some (.int b), some B.lab, some (.tup B.body), some B.nd, some (.ref z), none, none, none, none] _
    refine ifapp (b := !(aimsD B.nd).all (inL P.labs)) (d := itD [p, b] "target") rfl (by omega) s05 nf g5 (it_tm rfl rfl) (fun K hK => ?_) fun h6 s6 x6 g6 => ?_
    · simp
      refine ⟨⟨_, z5⟩, fun p' np' => ⟨_, z5, ?_⟩⟩
      refine lc_emp (n := true) (t := fun y => !inL P.labs y) (f := fun y => y) (by omega) (fun h' s => s _ _ z5) (fun y hy _ => (aa h5 y hy).2) (fun y hy h' s K hK => ?_) (fun y hy h' s K hK => ?_) (fun h' s => ?_) p' np'
      · simp
        refine rIn_atm (l := P.labs) (s _ _ q5) (aa h' y hy) (lab _ (s05.trans s)) ?_
        simpa using hK _ (Sub.refl _)
      · simp
        exact hK _ (Sub.refl _)
      · rw [T3.emp_all]
        simpa using hK _ s
    have q6 := x6 q _ hqf q5
    have z6 := x6 z _ hzf z5
    have len4 : (((((acc ++ if (!btw B.lab 0 999) = true then [itD [p, b] "label"] else []) ++ if inL (P.labs.take b) B.lab = true then [itD [p, b] "twice"] else []) ++ if (!B.body.all (stB v)) = true then [itD [p, b] "statement"] else [])) ++ if (!(aimsD B.nd).all (inL P.labs)) = true then [itD [p, b] "target"] else []).length ≤ acc.length + 4 := by
      exact Nat.le_trans len_app1 (by omega)
    dsimp only
    refine ifapp (b := inL (aimsD B.nd) (P.labs.headD .non)) (d := itD [p, b] "entry") rfl (by omega) s6 nf g6 (it_tm rfl rfl) (fun K hK => ?_) fun h7 s7 x7 g7 => ?_
    · simp
      refine ⟨_, q6, _, eh.1, ?_⟩
      refine rIn_atm (l := aimsD B.nd) z6 (lab _ s6 _ eh.2) (aa h6) ?_
      simpa using hK _ (Sub.refl _)
    have q7 := x7 q _ hqf q6
    show E.nx _ _
    rw [e1]
    exact hN _ _ _ _ _ _ s7 g7 q7 (Nat.le_trans len_app1 (by omega)) (fun x => due_go hn)
end Lk01
end
-- G1J
section
set_option maxRecDepth 100000
set_option maxHeartbeats 4000000
/-! G1J: what is due. -/
namespace Lk01
open PySem PySem.Spec PyProof.Rows L2 T3
theorem up_none {h h' : H3} {p : Addr} (s : Sub h h') (np : h' p = none) : h p = none := by
  cases z : h p with
  | none => rfl
  | some o => rw [s _ _ z] at np; cases np
theorem due_rest {v : Pv} {f nl ml : Addr} {acc : List D} {h0 h : H3} {k : K1} {E : En} (c : Ctx h0 v) (sm : v.Sm) (s : Sub h0 h) (nf : h0 f = none) (hf : h f = some (.lst acc)) (hm : ∀ x, x ∈ acc ↔ UpTo v 0 0 x) (hl : acc.length ≤ 1)
    (post : ∀ h' p ys, Sub h0 h' → Srt v ys → h' p = some (.lst ys) → k (.ref p) h') (hE : E.nx = wRet (w1 rSortSetN (wVar 1)) (en k)) : forW (fun _ => True) (gN 4) W_dbody E (rgD 0 v.prs.length) [some v.toD, some (.ref f), some (.ref nl), some (.ref ml), none, none, none, none, none, none, none, none, none, none, none, none] h := by
  have lenR : ∀ n, (rgD 0 n).length = n := fun n => by simp [rgD]
  refine for_inv (fun p ρ h' => ∃ acc x4 x5 x6 x7 x8 x9 x10 x11, ρ = [some v.toD, some (.ref f), some (.ref nl), some (.ref ml), x4, x5, x6, x7, x8, x9, x10, x11, none, none, none, none] ∧ Sub h0 h' ∧ h' f = some (.lst acc) ∧ (∀ x, x ∈ acc ↔ UpTo v p 0 x) ∧ acc.length ≤ 1 + p * 30) (fun _ _ _ _ _ => trivial) ⟨acc, _, _, _, _, _, _, _, _, rfl, s, hf, hm, by omega⟩ ?_ ?_
  · rintro p x ρ h1 hx ⟨acc, x4, x5, x6, x7, x8, x9, x10, x11, rfl, s1, hf, hm, hl⟩ N hN
    obtain ⟨hp, rfl⟩ := rgD_at hx
    have hP : v.prs[p]? = some v.prs[p] := List.getElem?_eq_getElem hp
    have mP := List.getElem_mem hp
    generalize v.prs[p] = Q at hP mP
    have hQ : atI (v.prs.map Pc.toD) (p : Int) = some Q.toD := atI_nat (by simp [hP])
    have np3 := sm.np
    have nb6 := sm.nb Q mP
    simp [W_dbody, Pv.toD]
    refine ⟨_, hQ, ?_⟩
    have eQ : Q.toD = .tup [.str Q.name, .int Q.par, .tup (Q.bls.map Bl.toD)] := rfl
    rw [eQ]
    simp
    refine lab_list (c.mono s1) mP (by simp) fun q nq => ?_
    have hfq : q ≠ f := fun z => by subst z; rw [nq] at hf; cases hf
    have nq0 : h0 q = none := up_none s1 nq
    have s2 : Sub h0 (up h1 q (.lst Q.labs)) := s1.up nq0
    have f2 : (up h1 q (.lst Q.labs)) f = some (.lst acc) := by rw [up_ne hfq.symm]; exact hf
    have q2 : (up h1 q (.lst Q.labs)) q = some (.lst Q.labs) := up_same
    generalize up h1 q (.lst Q.labs) = h2 at s2 f2 q2 ⊢
    refine ⟨by omega, ?_⟩
    refine for_inv (fun b ρ h' => ∃ acc x7 x8 x9 x10 x11, ρ = [some v.toD, some (.ref f), some (.ref nl), some (.ref ml), some (.int p), some (.tup (Q.bls.map Bl.toD)), some (.ref q), x7, x8, x9, x10, x11, none, none, none, none] ∧ Sub h0 h' ∧ h' f = some (.lst acc) ∧ h' q = some (.lst Q.labs) ∧ (∀ x, x ∈ acc ↔ UpTo v p b x) ∧ acc.length ≤ 1 + p * 30 + b * 5) (fun _ _ _ _ _ => trivial) ⟨acc, _, _, _, _, _, rfl, s2, f2, q2, hm, by omega⟩ ?_ ?_
    · rintro b x ρ h3 hx ⟨acc, x7, x8, x9, x10, x11, rfl, s3, f3, q3, hm, hl⟩ N2 hN2
      obtain ⟨hb, rfl⟩ := rgD_at hx
      have hB : Q.bls[b]? = some Q.bls[b] := List.getElem?_eq_getElem hb
      have mB := List.getElem_mem hb
      generalize Q.bls[b] = B at hB mB
      have a3 : At3 h0 v Q B := ⟨c, mP, mB, sm.lab Q mP⟩
      rw [s_gN]
      refine due_inner (N2 := N2) a3 hB s3 nf f3 q3 (by omega) hfq (fun acc' y8 y9 y10 y11 h' s' f' q' l' m' => ?_) rfl rfl
      refine hN2 _ _ ⟨acc', _, _, _, _, _, rfl, s', f', q', fun x => ?_, by omega⟩
      rw [m' x, upto_step hP hB, hm x]
    · rintro ρ h3 ⟨acc, x7, x8, x9, x10, x11, rfl, s3, f3, q3, hm, hl⟩
      rw [lenR] at hm hl
      exact hN _ _ ⟨acc, _, _, _, _, _, _, _, _, rfl, s3, f3, fun x => (hm x).trans (upto_next hP).symm, by omega⟩
  · rintro ρ h1 ⟨acc, x4, x5, x6, x7, x8, x9, x10, x11, rfl, s1, f1, hm, hl⟩
    rw [lenR] at hm hl
    rw [hE]
    have np3 := sm.np
    have hit : ∀ x ∈ acc, IsIt x := fun x hx => ((hm x).mp hx).it
    simp
    refine ⟨f, acc, rfl, f1, fun x hx => ⟨⟨it_ok (hit x hx), it_dep (hit x hx)⟩, it_nk (hit x hx)⟩, fun m nd sub => ?_, it_srtb hit, fun ys p nd mem srt np => ?_⟩
    · have := nodup_sub nd sub; omega
    · exact en_rt (post _ p ys (s1.up (up_none s1 np)) ⟨nd, fun x => by rw [mem, hm]; exact Iff.rfl, srt, by have := nodup_sub nd (fun x hx => (mem x).mp hx); omega⟩ up_same)
theorem ok_l_due : ∀ l h k, sp_due l h k → W_l_due sp_formed sp_name sp_btw sp_lrow sp_lend (en k) (ev0 N_l_due l) h := by
  rintro l h k ⟨d, rfl, vd, sm, post⟩
  simp only [W_l_due, s_seq, s_ifS, s_not, s_B, s_L, s_cons, s_nil, s_var, ev0]
  refine ⟨d, rfl, d, rfl, vd, fun h1 s1 => ?_⟩
  simp only [asB_bl]
  cases hf : formB d with
  | false =>
    simp
    intro p np
    exact en_rt (post _ p _ (s1.up (up_none s1 np)) (ans_form hf) up_same)
  | true =>
    obtain ⟨v, rfl, wf⟩ := form_iff.mp hf
    have c : Ctx h v := ⟨wf, vd⟩
    have post' : ∀ h' p ys, Sub h h' → Srt v ys → h' p = some (.lst ys) → k (.ref p) h' := fun h' p ys s q e => post h' p ys s (by unfold Ans; rw [pv_some wf]; exact q) e
    simp only [Bool.not_true, Bool.false_eq_true, if_false, s_next, wNext, s_seq, s_asg, s_L, s_nil, s_lst, s_gN]
    refine ⟨by decide, fun f nf => ?_⟩
    have nf0 := up_none s1 nf
    have s2 : Sub h (up h1 f (.lst [])) := s1.up nf0
    have f2 : (up h1 f (.lst [])) f = some (.lst []) := up_same
    generalize up h1 f (.lst []) = h2 at s2 f2 ⊢
    simp only [lcs_it, s_w2, s_var, s_c]
    refine ⟨_, rfl, ?_⟩
    rw [show v.toD = .tup [.int v.w, .tup (v.ars.map arD), .tup (v.prs.map Pc.toD)] from rfl]
    simp only [s_ix_t]
    refine ⟨_, rfl, ?_⟩
    rw [lcD_tup]
    refine pn_list (c.mono s2) (by simp) fun nl nnl => ?_
    have s3 : Sub h (up h2 nl (.lst ((v.prs.map Pc.name).map .str))) := s2.up (up_none s2 nnl)
    have f3 : (up h2 nl (.lst ((v.prs.map Pc.name).map .str))) f = some (.lst []) := by rw [up_ne (fun z => by subst z; rw [nnl] at f2; cases f2)]; exact f2
    have n3 : (up h2 nl (.lst ((v.prs.map Pc.name).map .str))) nl = some (.lst ((v.prs.map Pc.name).map .str)) := up_same
    have hnf : nl ≠ f := fun z => by subst z; rw [nnl] at f2; cases f2
    generalize up h2 nl (.lst ((v.prs.map Pc.name).map .str)) = h3 at s3 f3 n3 ⊢
    refine ⟨_, rfl, _, rfl, ?_⟩
    rw [lcD_tup]
    intro ml nml
    have np60 := c.ps.1
    refine lc_pure mainT (fun y => y) (by simp; omega) (fun _ _ _ => trivial) (fun x hx o h' s K hK => ?_) (fun x hx _ o h' s K hK => ?_) ?_
    · obtain ⟨p, hp, rfl⟩ := List.mem_map.mp hx
      have hK := hK _ (Sub.refl _)
      have e : mainT p.toD = (decide (p.name = "main") && decide (p.par = 0)) := rfl
      rw [e] at hK
      simp [Pc.toD]
      by_cases h1 : p.name = "main"
      · by_cases h2 : p.par = 0 <;> simp [h1, h2] at hK ⊢ <;> exact hK
      · simp [h1] at hK ⊢; exact hK
    · simp
      exact hK _ (Sub.refl _)
    rw [List.map_id']
    have s4 : Sub h (up h3 ml (.lst ((v.prs.map Pc.toD).filter mainT))) := s3.up (up_none s3 nml)
    have f4 : (up h3 ml (.lst ((v.prs.map Pc.toD).filter mainT))) f = some (.lst []) := by rw [up_ne (fun z => by subst z; rw [nml] at f3; cases f3)]; exact f3
    have n4 : (up h3 ml (.lst ((v.prs.map Pc.toD).filter mainT))) nl = some (.lst ((v.prs.map Pc.name).map .str)) := by rw [up_ne (fun z => by subst z; rw [nml] at n3; cases n3)]; exact n3
    have m4 : (up h3 ml (.lst ((v.prs.map Pc.toD).filter mainT))) ml = some (.lst ((v.prs.map Pc.toD).filter mainT)) := up_same
    generalize up h3 ml (.lst ((v.prs.map Pc.toD).filter mainT)) = h4 at s4 f4 n4 m4 ⊢
    show wIfS _ _ _ _ [some v.toD, some (.ref f), some (.ref nl), some (.ref ml), none, none, none, none, none, none, none, none, none, none, none, none] _
    refine ifapp (b := !nmsB v) (d := itD [] "name") rfl (by simp) s4 nf0 f4 (fun h' K q => by simp; exact q) (fun K hK => ?_) fun h5 s5 x5 g5 => ?_
    · have hlen : (v.prs.map Pc.name).length ≤ 60 := by simpa using np60
      have hok : ∀ x ∈ v.prs.map Pc.name, PyData.strOk x = true := fun x hx => by
        obtain ⟨p, hp, rfl⟩ := List.mem_map.mp hx
        exact (c.ps.2 p hp).1
      have vn : ∀ x ∈ v.prs.map Pc.name, VOk h (.str x) := fun x hx => by
        obtain ⟨p, hp, rfl⟩ := List.mem_map.mp hx
        exact ((c.ok.tup.2 (.tup (v.prs.map Pc.toD)) (by simp)).tup.2 _ (List.mem_map_of_mem hp)).tup.2 (.str p.name) (by simp)
      have vm : ∀ x ∈ (v.prs.map Pc.toD).filter mainT, VOk h x := fun x hx => (c.ok.tup.2 (.tup (v.prs.map Pc.toD)) (by simp)).tup.2 _ ((List.mem_filter.mp hx).1)
      have enm : v.prs.all (fun p => nameS p.name) = (v.prs.map Pc.name).all nameS := by rw [List.all_map]; rfl
      simp only [nmsB] at hK
      simp
      refine ⟨⟨_, n4⟩, fun p np => ⟨_, n4, ?_⟩⟩
      refine lc_emp (n := true) (t := fun y => !nmB y) (f := fun y => y) (by simp at hlen ⊢; omega) (fun h' s => s _ _ n4) (fun y hy _ => ?_) (fun y hy h' s K hK => ?_) (fun y hy h' s K hK => ?_) (fun h6 s6 => ?_) p np
      · obtain ⟨x, hx, rfl⟩ := List.mem_map.mp hy
        exact (vn x hx).mono s4
      · obtain ⟨x, hx, rfl⟩ := List.mem_map.mp hy
        simp
        exact ⟨_, rfl, (vn x hx).mono (s4.trans s), fun h2 s2 => by simpa using hK h2 s2⟩
      · simp
        exact hK _ (Sub.refl _)
      · rw [T3.emp_all]
        have e1 : ((v.prs.map Pc.name).map D.str).all nmB = v.prs.all (fun p => nameS p.name) := by rw [enm, List.all_map]; rfl
        rw [e1]
        cases hn : v.prs.all (fun p => nameS p.name) with
        | false => rw [hn] at hK; simpa using hK h6 s6
        | true =>
          rw [hn] at hK
          simp only [Bool.true_and] at hK
          simp
          have n6 := s6 _ _ n4
          refine ⟨nl, v.prs.map Pc.name, rfl, by simpa using n6, by simp; omega, fun ys p3 nd mem srt np3 => ?_⟩
          have s7 := (Sub.refl h6).up (o := .lst (ys.map .str)) np3
          refine rEq_strs (s7 _ _ n6) up_same hok (fun x hx => hok x ((mem x).mp hx)) ?_
          rw [asc_eq nd mem srt]
          have s67 := s6.trans s7
          generalize up h6 p3 (.lst (ys.map .str)) = h7 at s67 ⊢
          cases ha : asc (v.prs.map Pc.name) with
          | false => rw [ha] at hK; simpa using hK h7 s67
          | true =>
            rw [ha] at hK
            simp only [Bool.true_and] at hK
            simp
            intro r nr
            have m7 := s67 _ _ m4
            have s8 := (Sub.refl h7).up (o := .lst []) nr
            refine rEq_nilV (s8 _ _ m7) up_same (fun x hx => (vm x hx).mono (s4.trans (s67.trans s8))) ?_
            have e2 : ((v.prs.map Pc.toD).filter mainT).isEmpty = !(v.prs.any fun p => decide (p.name = "main") && decide (p.par = 0)) := by
              have : ∀ l : List Pc, ((l.map Pc.toD).filter mainT).isEmpty = !(l.any fun p => decide (p.name = "main") && decide (p.par = 0)) := by
                intro l
                induction l with
                | nil => rfl
                | cons p l ih =>
                  rw [List.map_cons, List.filter_cons, List.any_cons]
                  have e : mainT p.toD = (decide (p.name = "main") && decide (p.par = 0)) := rfl
                  rw [e]
                  cases h : (decide (p.name = "main") && decide (p.par = 0)) with
                  | true => rfl
                  | false => rw [if_neg Bool.false_ne_true, ih]; rfl
              exact this _
            rw [e2]
            simpa using hK _ (s67.trans s8)
    simp only [s_seq, fors_rg1, s_cons, s_nil, s_L, s_w2, s_var, s_c]
    refine ⟨_, rfl, ?_⟩
    rw [show v.toD = .tup [.int v.w, .tup (v.ars.map arD), .tup (v.prs.map Pc.toD)] from rfl]
    simp only [s_ix_t]
    refine ⟨_, rfl, ?_⟩
    rw [s_len_t]
    refine ⟨_, rfl, by omega, by simp; omega, ?_⟩
    have enn : (((v.prs.map Pc.toD).length : Nat) : Int).toNat = v.prs.length := by simp
    rw [enn]
    refine due_rest c (sm v rfl) s5 nf0 g5 (fun x => ?_) (Nat.le_trans len_app1 (by simp)) post' rfl
    rw [upto_zero]
    cases nmsB v <;> simp
end Lk01
end
-- G1K
section
set_option maxRecDepth 100000
set_option maxHeartbeats 4000000
/-! G1K: changed programs. -/
namespace T3
open PySem PySem.Spec PyProof.Rows L2
/-- all but the draw -/
def hide (dr : Addr) (h : H3) : H3 := fun a => if a = dr then none else h a
theorem hide_ne {dr a : Addr} {h : H3} (n : a ≠ dr) : hide dr h a = h a := if_neg n
theorem hide_sub {dr : Addr} {h : H3} : Sub (hide dr h) h := fun a o e => by
  unfold hide at e
  split at e
  · cases e
  · exact e
theorem Grow.hide {dr : Addr} {h h' : H3} (g : Grow dr h h') : Sub (T3.hide dr h) (T3.hide dr h') := fun a o e => by
  unfold T3.hide at e ⊢
  split at e
  · cases e
  · rename_i n; rw [if_neg n]; exact g.keep _ _ n e
theorem Sub.hide {dr : Addr} {h h' : H3} (g : Sub h h') : Sub (T3.hide dr h) (T3.hide dr h') := fun a o e => by
  unfold T3.hide at e ⊢
  split at e
  · cases e
  · rename_i n; rw [if_neg n]; exact g _ _ e
theorem Grow.of_sub {dr : Addr} {h h' : H3} (d : Drw h dr) (s : Sub h h') : Grow dr h h' := by
  obtain ⟨c, ns, i, q, z, h1, h2, r⟩ := d
  exact ⟨fun a o _ e => s _ _ e, ⟨c, ns, i, q, z, s _ _ h1, s _ _ h2, r⟩, fun c r e => ⟨r, s _ _ e⟩⟩
theorem vok_tup {h : H3} {l : List D} : VOk h (.tup l) ↔ l.length ≤ 60 ∧ ∀ x ∈ l, VOk h x := ⟨fun v => v.tup, fun ⟨a, b⟩ => .mk_tup a b⟩
theorem vok_int {h : H3} {i : Int} : VOk h (.int i) ↔ True := iff_true_intro .mk_int
theorem vok_bl {h : H3} {i : Bool} : VOk h (.bl i) ↔ True := iff_true_intro .mk_bl
theorem vok_non {h : H3} : VOk h .non ↔ True := iff_true_intro .mk_non
theorem vok_s {h : H3} {x : Str} (hx : (PyData.strOk x && decide (x.length ≤ 1000)) = true) : VOk h (.str x) := by
  rw [Bool.and_eq_true, decide_eq_true_eq] at hx
  exact .mk_str hx.1 hx.2
end T3
namespace Lk01
open PySem PySem.Spec PyProof.Rows L2 T3
def deepD : Nat → D → D
  | 0, d => d
  | n + 1, d => deepD n (.tup [.str "not", d])
theorem deep_vok {h : H3} : ∀ {n : Nat} {d : D}, VOk h d → VOk h (deepD n d)
  | 0, _, v => v
  | n + 1, d, v => deep_vok (n := n) (d := .tup [.str "not", d]) (.mk_tup (by show (2 : Nat) ≤ 60; decide) fun x hx => by
      rcases List.mem_cons.mp hx with rfl | hx
      · exact vok_s (by decide +kernel)
      · rw [List.mem_singleton.mp hx]; exact v)
theorem deep_snoc : ∀ {n : Nat} {d : D}, deepD (n + 1) d = .tup [.str "not", deepD n d]
  | 0, _ => rfl
  | n + 1, d => deep_snoc (n := n) (d := .tup [.str "not", d])
def sp_deep : Sp3 := fun l h k => ∃ (d : D) (n : Nat), l = [d, .int (n : Int)] ∧ n ≤ 100 ∧ k (deepD n d) h
theorem ok_l_deep : ∀ l h k, sp_deep l h k → W_l_deep (en k) (ev0 N_l_deep l) h := by
  rintro l h0 k ⟨d, n, rfl, hn, post⟩
  simp [W_l_deep, ev0]
  refine ⟨by omega, ?_⟩
  refine for_inv (fun j ρ h' => ∃ x, ρ = [some (deepD j d), some (.int (n : Int)), x] ∧ h' = h0) (fun _ _ _ _ _ => trivial) ⟨none, rfl, rfl⟩ ?_ ?_
  · rintro j x ρ h hx ⟨y, rfl, rfl⟩ N hN
    simp
    exact hN _ _ ⟨_, by rw [deep_snoc], rfl⟩
  · rintro ρ h ⟨y, rfl, rfl⟩
    have : (rgD 0 n).length = n := by simp [rgD]
    rw [this]
    simp
    exact en_rt post
/-- a program of the told form, its bodies of n rows at most -/
structure Fit (n : Nat) (v : Pv) : Prop where
  sm : v.Sm
  as : v.ars.length ≤ 3
  bd : ∀ p ∈ v.prs, ∀ b ∈ p.bls, b.body.length ≤ n
def Fits (n : Nat) (d : D) : Prop := ∀ v : Pv, d = v.toD → Fit n v
structure BentIn (dr : Addr) (h : H3) (v : Pv) : Prop where
  d : Drw h dr
  c : Ctx (hide dr h) v
  as : v.ars.length ≤ 3
theorem BentIn.mono {dr : Addr} {h h' : H3} {v : Pv} (a : BentIn dr h v) (g : Grow dr h h') : BentIn dr h' v := ⟨g.drw, a.c.mono g.hide, a.as⟩
def sp_bentrow : Sp3 := fun l h k => ∃ (dr : Addr) (v : Pv), l = [.ref dr, v.toD] ∧ BentIn dr h v ∧ ∀ d h', Grow dr h h' → VOk (hide dr h') d → k d h'
/-! values that are made of nothing but values -/
section
variable {ρ : Ev} {dr : Addr} {h0 h : H3} {f g : WE} {l : WA} {n : Nat}
def Gd (ρ : Ev) (dr : Addr) (h0 : H3) (f : WE) : Prop := ∀ h k, Grow dr h0 h → (∀ d h', Grow dr h h' → VOk (hide dr h') d → k d h') → f ρ h k
def Gds (ρ : Ev) (dr : Addr) (h0 : H3) (l : WA) (n : Nat) : Prop := ∀ h k, Grow dr h0 h → (∀ ds h', Grow dr h h' → ds.length = n → (∀ x ∈ ds, VOk (hide dr h') x) → k ds h') → l ρ h k
theorem gd_c {d : D} (hd : ∀ h, VOk h d) : Gd ρ dr h0 (wC d) := fun h k g q => q _ _ (.refl g.drw) (hd _)
theorem gd_i {i : Int} : Gd ρ dr h0 (wC (.int i)) := gd_c fun _ => .mk_int
theorem gd_b {i : Bool} : Gd ρ dr h0 (wC (.bl i)) := gd_c fun _ => .mk_bl
theorem gd_n : Gd ρ dr h0 (wC .non) := gd_c fun _ => .mk_non
theorem gd_s {x : Str} (hx : (PyData.strOk x && decide (x.length ≤ 1000)) = true) : Gd ρ dr h0 (wC (.str x)) := gd_c fun _ => vok_s hx
theorem gd_neg {i : Int} : Gd ρ dr h0 (w1 rNeg (wC (.int i))) := fun h k g q => q _ _ (.refl g.drw) .mk_int
theorem gd_v {i : Nat} {d : D} (r : ρ[i]? = some (some d)) (v : VOk (hide dr h0) d) : Gd ρ dr h0 (wVar i) := fun h k g q => ⟨d, r, q _ _ (.refl g.drw) (v.mono g.hide)⟩
theorem gds_nil : Gds ρ dr h0 wNil 0 := fun h k g q => q [] _ (.refl g.drw) rfl fun _ hx => nomatch hx
theorem gds_cons (a : Gd ρ dr h0 f) (b : Gds ρ dr h0 l n) : Gds ρ dr h0 (wCons f l) (n + 1) := fun h k g q => a h _ g fun d h1 g1 v => b h1 _ (g.trans g1) fun ds h2 g2 e vs => q (d :: ds) h2 (g1.trans g2) (by simp [e]) fun x hx => by
  rcases List.mem_cons.mp hx with rfl | hx
  · exact v.mono g2.hide
  · exact vs x hx
theorem gd_tup (b : Gds ρ dr h0 l n) (hn : n ≤ 60) : Gd ρ dr h0 (wL rTup l) := fun h k g q => b h _ g fun ds h1 g1 e vs => ⟨by omega, q _ _ g1 (.mk_tup (by omega) vs)⟩
theorem lst_of {k : K1} (b : Gds ρ dr h0 l n) (hn : n ≤ 60) (g : Grow dr h0 h) (q : ∀ ds p h', Grow dr h h' → ds.length = n → (∀ x ∈ ds, VOk (hide dr h') x) → h' p = some (.lst ds) → p ≠ dr → k (.ref p) h') : wL rLst l ρ h k := by
  refine b h _ g fun ds h1 g1 e vs => ⟨by omega, fun p np => ?_⟩
  have g2 := g1.new (o := .lst ds) np
  refine q ds p _ g2 e (fun x hx => (vs x hx).mono ((Grow.refl g1.drw).new (o := .lst ds) np).hide) up_same (g1.drw.fresh np)
theorem vok_ref {dr p : Addr} {h : H3} {ds : List D} (hp : h p = some (.lst ds)) (n : p ≠ dr) (v : ∀ x ∈ ds, VOk (hide dr h) x) : VOk (hide dr h) (.ref p) := .mk_lst (by rw [hide_ne n]; exact hp) v
theorem gd_lst (b : Gds ρ dr h0 l n) (hn : n ≤ 60) : Gd ρ dr h0 (wL rLst l) := fun h k g q => lst_of b hn g fun ds p h' g' e vs hp np => q _ _ g' (vok_ref hp np vs)
theorem gd_t0 : Gd ρ dr h0 (wL rTup wNil) := gd_tup gds_nil (by decide)
theorem gd_t1 {a : WE} (ha : Gd ρ dr h0 a) : Gd ρ dr h0 (wL rTup (wCons a wNil)) := gd_tup (gds_cons ha gds_nil) (by decide)
theorem gd_t2 {a b : WE} (ha : Gd ρ dr h0 a) (hb : Gd ρ dr h0 b) : Gd ρ dr h0 (wL rTup (wCons a (wCons b wNil))) := gd_tup (gds_cons ha (gds_cons hb gds_nil)) (by decide)
theorem gd_t3 {a b c : WE} (ha : Gd ρ dr h0 a) (hb : Gd ρ dr h0 b) (hc : Gd ρ dr h0 c) : Gd ρ dr h0 (wL rTup (wCons a (wCons b (wCons c wNil)))) := gd_tup (gds_cons ha (gds_cons hb (gds_cons hc gds_nil))) (by decide)
theorem gd_t4 {a b c d : WE} (ha : Gd ρ dr h0 a) (hb : Gd ρ dr h0 b) (hc : Gd ρ dr h0 c) (hd : Gd ρ dr h0 d) : Gd ρ dr h0 (wL rTup (wCons a (wCons b (wCons c (wCons d wNil))))) := gd_tup (gds_cons ha (gds_cons hb (gds_cons hc (gds_cons hd gds_nil)))) (by decide)
theorem gd_l0 : Gd ρ dr h0 (wL rLst wNil) := gd_lst gds_nil (by decide)
theorem gd_l2 {a b : WE} (ha : Gd ρ dr h0 a) (hb : Gd ρ dr h0 b) : Gd ρ dr h0 (wL rLst (wCons a (wCons b wNil))) := gd_lst (gds_cons ha (gds_cons hb gds_nil)) (by decide)
theorem gd_deep {n : Nat} (a : Gd ρ dr h0 f) (hn : n ≤ 100) : Gd ρ dr h0 (wL sp_deep (wCons f (wCons (wC (.int (n : Int))) wNil))) := fun h k g q => a h _ g fun d h1 g1 v => ⟨d, n, rfl, hn, q _ _ g1 (deep_vok v)⟩
theorem gd_shl {v : Pv} (r : ρ[1]? = some (some v.toD)) (w : 1 ≤ v.w ∧ v.w ≤ 16) : Gd ρ dr h0 (w2 rShl (wC (.int 1)) (w2 T3.rIx (wVar 1) (wC (.int 0)))) := fun h k g q => by
  simp [r, Pv.toD]
  exact ⟨⟨by omega, .inl (by omega)⟩, q _ _ (.refl g.drw) .mk_int⟩
/-- xs[take(draw, n)] -/
theorem gd_pick (r0 : ρ[0]? = some (some (.ref dr))) (b : Gds ρ dr h0 l n) (hn : n ≤ 60) (hp : 0 < n) : Gd ρ dr h0 (w2 T3.rIx (wL rLst l) (wL sp_take (wCons (wVar 0) (wCons (wC (.int (n : Int))) wNil)))) := fun h k g q => by
  rw [s_w2]
  refine lst_of b hn g fun ds p h1 g1 e vs hp1 np => ?_
  simp only [s_L, s_cons, s_nil, s_var, s_c]
  refine ⟨_, r0, dr, n, rfl, g1.drw, by omega, .inl (by omega), fun r h2 z1 z2 g2 => ?_⟩
  have hr : r.toNat < ds.length := by omega
  have er : atI ds r = some ds[r.toNat] := by
    have := atI_nat (xs := ds) (j := r.toNat) (List.getElem?_eq_getElem hr)
    rwa [show ((r.toNat : Nat) : Int) = r by omega] at this
  exact ⟨ds, _, g2.keep _ _ np hp1, er, q _ _ (g1.trans g2) ((vs _ (List.getElem_mem hr)).mono g2.hide)⟩
end
theorem ok_l_bent_row : ∀ l h k, sp_bentrow l h k → W_l_bent_row sp_deep sp_take (en k) (ev0 N_l_bent_row l) h := by
  rintro l h0 k ⟨dr, v, rfl, a, post⟩
  have w1 := a.c.wf.w
  simp only [W_l_bent_row, s_seq, s_asg, s_gN]
  refine lst_of (n := 26) (dr := dr) (h0 := h0) ?_ (by decide) (.refl a.d) fun ds p h1 g1 e1 v1 hp1 np1 => ?_
  · repeat (first
      | exact gds_nil | exact gd_i | exact gd_b | exact gd_n | exact gd_neg | exact gd_s (by decide +kernel) | exact gd_shl (v := v) rfl w1
      | refine gds_cons ?_ ?_ | exact gd_t0 | exact gd_l0 | refine gd_t1 ?_ | refine gd_t2 ?_ ?_ | refine gd_t3 ?_ ?_ ?_ | refine gd_t4 ?_ ?_ ?_ ?_ | refine gd_l2 ?_ ?_ | decide
      | refine gd_deep (n := 19) ?_ ?_ | refine gd_deep (n := 20) ?_ ?_)
  refine lst_of (n := 8) (dr := dr) (h0 := h1) ?_ (by decide) (.refl g1.drw) fun cs p2 h2 g2 e2 v2 hp2 np2 => ?_
  · repeat (first
      | exact gds_nil | exact gd_i | exact gd_b | exact gd_n | exact gd_neg | exact gd_s (by decide +kernel)
      | refine gds_cons ?_ ?_ | exact gd_t0 | exact gd_l0 | refine gd_t1 ?_ | refine gd_t2 ?_ ?_ | refine gd_t3 ?_ ?_ ?_ | refine gd_t4 ?_ ?_ ?_ ?_ | refine gd_l2 ?_ ?_ | decide)
  have e0 : (ev0 N_l_bent_row [.ref dr, v.toD]) = [some (.ref dr), some v.toD, none, none, none, none, none] := rfl
  rw [e0]
  have g12 := g1.trans g2
  have hp1' := g2.keep _ _ np1 hp1
  have v1' : ∀ x ∈ ds, VOk (hide dr h2) x := fun x hx => (v1 x hx).mono g2.hide
  have as := a.as
  simp only [s_seq, fors_it, s_w2, s_var, s_c, s_gN]
  refine ⟨_, rfl, ?_⟩
  rw [show v.toD = .tup [.int v.w, .tup (v.ars.map arD), .tup (v.prs.map Pc.toD)] from rfl]
  simp only [s_ix_t]
  refine ⟨_, rfl, ?_⟩
  rw [forD_tup]
  refine for_inv (fun j ρ h' => ∃ q rs x4 x5, ρ = [some (.ref dr), some v.toD, some (.ref q), some (.ref p2), x4, x5, none] ∧ Grow dr h2 h' ∧ q ≠ dr ∧ h' q = some (.lst rs) ∧ rs.length = 26 + 3 * j ∧ ∀ x ∈ rs, VOk (hide dr h') x) (fun _ _ _ _ _ => trivial) ⟨p, ds, none, none, rfl, .refl g2.drw, np1, hp1', by omega, v1'⟩ ?_ ?_
  · rintro j x ρ h3 hx ⟨q, rs, x4, x5, rfl, g3, nq, hq, hl, vr⟩ N hN
    rw [List.getElem?_map, Option.map_eq_some_iff] at hx
    obtain ⟨ar, har, rfl⟩ := hx
    have hj : j < v.ars.length := by
      rcases Nat.lt_or_ge j v.ars.length with z | z
      · exact z
      · rw [List.getElem?_eq_none z] at har; cases har
    have van : VOk (hide dr h3) (.str ar.1) := by
      have := ((a.c.ok.tup.2 (.tup (v.ars.map arD)) (by simp [Pv.toD])).tup.2 _ (List.mem_map_of_mem (List.mem_of_getElem? har))).tup.2 (.str ar.1) (by simp)
      exact this.mono (g12.trans g3).hide
    simp only [arD, s_gT]
    refine ⟨rfl, ?_⟩
    simp only [s_go_cons, s_go_nil, s_gN, s_asg, s_w2, s_var]
    refine ⟨_, rfl, ?_⟩
    refine lst_of (n := 3) (dr := dr) (h0 := h3) ?_ (by decide) (.refl g3.drw) fun es p4 h4 g4 e4 v4 hp4 np4 => ?_
    · repeat (first
        | exact gds_nil | exact gd_i | exact gd_neg | exact gd_s (by decide +kernel) | exact gd_v rfl van
        | refine gds_cons ?_ ?_ | exact gd_t0 | exact gd_l0 | refine gd_t1 ?_ | refine gd_t2 ?_ ?_ | refine gd_t3 ?_ ?_ ?_ | refine gd_t4 ?_ ?_ ?_ ?_ | refine gd_l2 ?_ ?_ | decide)
    rw [s_add_ll]
    refine ⟨rs, es, g4.keep _ _ nq hq, hp4, by omega, fun p5 np5 => ?_⟩
    have g5 := (Grow.refl g4.drw).new (o := .lst (rs ++ es)) np5
    refine hN _ _ ⟨p5, rs ++ es, _, _, rfl, (g3.trans g4).trans g5, g4.drw.fresh np5, up_same, by rw [List.length_append]; omega, fun x hx => ?_⟩
    rcases List.mem_append.mp hx with hx | hx
    · exact (vr x hx).mono (g4.trans g5).hide
    · exact (v4 x hx).mono g5.hide
  · rintro ρ h3 ⟨q, rs, x4, x5, rfl, g3, nq, hq, hl, vr⟩
    rw [List.length_map] at hl
    simp only [s_seq, s_asg, s_w2, s_var, s_gN]
    refine ⟨_, rfl, _, rfl, ?_⟩
    rw [s_add_ll]
    refine ⟨rs, cs, hq, g3.keep _ _ np2 hp2, by omega, fun p5 np5 => ?_⟩
    have g5 := (Grow.refl g3.drw).new (o := .lst (rs ++ cs)) np5
    have n5 := g3.drw.fresh np5
    have h5 : (up h3 p5 (.lst (rs ++ cs))) p5 = some (.lst (rs ++ cs)) := up_same
    have v5 : ∀ x ∈ rs ++ cs, VOk (hide dr (up h3 p5 (.lst (rs ++ cs)))) x := fun x hx => by
      rcases List.mem_append.mp hx with hx | hx
      · exact (vr x hx).mono g5.hide
      · exact (v2 x hx).mono (g3.trans g5).hide
    generalize up h3 p5 (.lst (rs ++ cs)) = h6 at g5 h5 v5 ⊢
    have ln : 0 < (rs ++ cs).length ∧ (rs ++ cs).length ≤ 60 := by rw [List.length_append]; omega
    generalize rs ++ cs = ys at h5 v5 ln
    simp only [s_ret, s_w2, s_var, s_L, s_cons, s_nil]
    refine ⟨_, rfl, _, rfl, _, rfl, ?_⟩
    rw [s_len_l]
    refine ⟨ys, h5, dr, _, rfl, g5.drw, by omega, .inl (by omega), fun r h7 z1 z2 g7 => ?_⟩
    have hr : r.toNat < ys.length := by omega
    have er : atI ys r = some ys[r.toNat] := by
      have := atI_nat (xs := ys) (j := r.toNat) (List.getElem?_eq_getElem hr)
      rwa [show ((r.toNat : Nat) : Int) = r by omega] at this
    exact ⟨ys, _, g7.keep _ _ n5 h5, er, en_rt (post _ _ (((g12.trans g3).trans g5).trans g7) ((v5 _ (List.getElem_mem hr)).mono g7.hide))⟩
end Lk01
end
-- G1L
section
set_option maxRecDepth 100000
set_option maxHeartbeats 4000000
/-! G1L: changed programs: put, bent. -/
namespace Lk01
open PySem PySem.Spec PyProof.Rows L2 T3
theorem cutFrom {l : List D} {b : Nat} (h : b ≤ l.length) : T3.cutD l (some (b : Int)) none = l.drop b := by
  unfold T3.cutD HT.sIx
  simp
  rw [if_neg (by omega), List.take_of_length_le (by simp), Nat.min_eq_left h]
/-- xs with the j-th place changed -/
def repl (l : List D) (j : Nat) (x : D) : List D := (l.take j ++ [x]) ++ l.drop (j + 1)
theorem repl_len {l : List D} {j : Nat} {x : D} (h : j < l.length) : (repl l j x).length = l.length := by simp [repl]; omega
theorem repl_mem {l : List D} {j : Nat} {x y : D} (h : y ∈ repl l j x) : y ∈ l ∨ y = x := by
  simp only [repl, List.mem_append, List.mem_singleton] at h
  rcases h with (h | h) | h
  · exact .inl (List.mem_of_mem_take h)
  · exact .inr h
  · exact .inl (List.mem_of_mem_drop h)
def sp_put : Sp3 := fun l h k => ∃ (v : Pv) (p : Nat) (row : D), l = [v.toD, .int (p : Int), row] ∧ p < v.prs.length ∧ v.prs.length ≤ 3 ∧ k (.tup [.int v.w, .tup (v.ars.map arD), .tup (repl (v.prs.map Pc.toD) p row)]) h
theorem ok_l_put : ∀ l h k, sp_put l h k → W_l_put (en k) (ev0 N_l_put l) h := by
  rintro l h k ⟨v, p, row, rfl, hp, h3, post⟩
  have c1 : T3.cutD (v.prs.map Pc.toD) none (some (p : Int)) = (v.prs.map Pc.toD).take p := cutTo (by simp; omega)
  have c2 : T3.cutD (v.prs.map Pc.toD) (some ((p : Int) + 1)) none = (v.prs.map Pc.toD).drop (p + 1) := by
    have := cutFrom (l := v.prs.map Pc.toD) (b := p + 1) (by simp; omega)
    rwa [show (((p + 1 : Nat)) : Int) = (p : Int) + 1 by omega] at this
  simp only [W_l_put, s_ret, s_L, s_cons, s_nil, s_w2, s_var, s_c, ev0]
  refine ⟨_, rfl, ?_⟩
  rw [show v.toD = .tup [.int v.w, .tup (v.ars.map arD), .tup (v.prs.map Pc.toD)] from rfl]
  simp [c1, c2]
  refine ⟨by omega, by omega, ?_⟩
  have := en_rt post
  simpa [repl] using this
def BlkFit (n : Nat) (d : D) : Prop := ∀ B : Bl, d = B.toD → Atm B.lab ∧ B.body.length ≤ n
def RowFit (n : Nat) (d : D) : Prop := ∀ P : Pc, d = P.toD → P.bls.length ≤ 6 ∧ ∀ b ∈ P.bls, Atm b.lab ∧ b.body.length ≤ n
theorem Fit.row {n : Nat} {v : Pv} (f : Fit n v) {P : Pc} (hP : P ∈ v.prs) : RowFit (n + 1) P.toD := fun Q e => by
  have := Pc.inj e
  subst this
  exact ⟨f.sm.nb _ hP, fun b hb => ⟨f.sm.lab _ hP b hb, Nat.le_succ_of_le (f.bd _ hP b hb)⟩⟩
theorem fits_prs {n : Nat} {a b : D} {ps : List D} (ha : ∀ as : List (Str × Int), b = .tup (as.map arD) → as.length ≤ 3) (hl : ps.length ≤ 3) (hr : ∀ x ∈ ps, RowFit n x) : Fits n (.tup [a, b, .tup ps]) := fun v e => by
  simp only [Pv.toD, D.tup.injEq, List.cons.injEq, and_true] at e
  obtain ⟨_, e2, e3⟩ := e
  have row : ∀ p ∈ v.prs, RowFit n p.toD := fun p hp => hr _ (by rw [e3]; exact List.mem_map_of_mem hp)
  have hl' : v.prs.length ≤ 3 := by rw [e3] at hl; simpa using hl
  exact ⟨⟨hl', fun p hp => (row p hp p rfl).1, fun p hp b hb => ((row p hp p rfl).2 b hb).1⟩, ha _ e2, fun p hp b hb => ((row p hp p rfl).2 b hb).2⟩
theorem row_bls {n : Nat} {a b : D} {bs : List D} (hl : bs.length ≤ 6) (hb : ∀ x ∈ bs, BlkFit n x) : RowFit n (.tup [a, b, .tup bs]) := fun P e => by
  simp only [Pc.toD, D.tup.injEq, List.cons.injEq, and_true] at e
  obtain ⟨_, _, e3⟩ := e
  exact ⟨by rw [e3] at hl; simpa using hl, fun b hb' => hb _ (by rw [e3]; exact List.mem_map_of_mem hb') b rfl⟩
theorem ars_inj3 {v : Pv} (h : v.ars.length ≤ 3) : ∀ as : List (Str × Int), D.tup (v.ars.map arD) = .tup (as.map arD) → as.length ≤ 3 := fun as e => by
  have := congrArg List.length (D.tup.inj e)
  simp at this; omega
theorem fits_put {n : Nat} {v : Pv} {p : Nat} {row : D} (f : Fit n v) (hp : p < v.prs.length) (hr : RowFit (n + 1) row) : Fits (n + 1) (.tup [.int v.w, .tup (v.ars.map arD), .tup (repl (v.prs.map Pc.toD) p row)]) := by
  refine fits_prs (ars_inj3 f.as) (by rw [repl_len (by simpa using hp)]; simpa using f.sm.np) fun x hx => ?_
  rcases repl_mem hx with h | rfl
  · obtain ⟨P, hP, rfl⟩ := List.mem_map.mp h
    exact f.row hP
  · exact hr
theorem vok_put {h : H3} {v : Pv} {p : Nat} {row : D} (v0 : VOk h v.toD) (hp : p < v.prs.length) (vr : VOk h row) : VOk h (.tup [.int v.w, .tup (v.ars.map arD), .tup (repl (v.prs.map Pc.toD) p row)]) := by
  have t := v0.tup.2
  have tp := (t (.tup (v.prs.map Pc.toD)) (by simp)).tup
  refine .mk_tup (by simp) fun x hx => ?_
  simp only [List.mem_cons, List.not_mem_nil, or_false] at hx
  rcases hx with rfl | rfl | rfl
  · exact .mk_int
  · exact t _ (by simp)
  · refine .mk_tup (by rw [repl_len (by simpa using hp)]; exact tp.1) fun x hx => ?_
    rcases repl_mem hx with h | rfl
    · exact tp.2 x h
    · exact vr
end Lk01
end
-- G1M
section
set_option maxRecDepth 100000
set_option maxHeartbeats 4000000
/-! G1M: bent. -/
namespace Lk01
open PySem PySem.Spec PyProof.Rows L2 T3
theorem at_toNat {α : Type} {l : List α} {r : Int} (h0 : 0 ≤ r) (h1 : r < l.length) : ∃ x, atI l r = some x ∧ x ∈ l := by
  have hr : r.toNat < l.length := by omega
  have := atI_nat (xs := l) (j := r.toNat) (List.getElem?_eq_getElem hr)
  rw [show ((r.toNat : Nat) : Int) = r by omega] at this
  exact ⟨_, this, List.getElem_mem hr⟩
theorem vt0 {h : H3} : VOk h (.tup []) := .mk_tup (by simp) fun x hx => nomatch hx
theorem vt1 {h : H3} {a : D} (ha : VOk h a) : VOk h (.tup [a]) := .mk_tup (by simp) fun x hx => by rw [List.mem_singleton.mp hx]; exact ha
theorem vt2 {h : H3} {a b : D} (ha : VOk h a) (hb : VOk h b) : VOk h (.tup [a, b]) := .mk_tup (by simp) fun x hx => by
  simp only [List.mem_cons, List.not_mem_nil, or_false] at hx
  rcases hx with rfl | rfl <;> assumption
theorem vt3 {h : H3} {a b c : D} (ha : VOk h a) (hb : VOk h b) (hc : VOk h c) : VOk h (.tup [a, b, c]) := .mk_tup (by simp) fun x hx => by
  simp only [List.mem_cons, List.not_mem_nil, or_false] at hx
  rcases hx with rfl | rfl | rfl <;> assumption
theorem ars_l {l : List D} (h : l.length ≤ 3) : ∀ as : List (Str × Int), D.tup l = .tup (as.map arD) → as.length ≤ 3 := fun as e => by
  have := congrArg List.length (D.tup.inj e)
  simp at this; omega
def sp_bent (n : Nat) : Sp3 := fun l h k => ∃ (dr : Addr) (v : Pv), l = [.ref dr, v.toD] ∧ Drw h dr ∧ Ctx (hide dr h) v ∧ Fit n v ∧ n ≤ 20 ∧ v.prs ≠ [] ∧ ∀ d h', Grow dr h h' → VOk (hide dr h') d → Fits (n + 1) d → k d h'
theorem ok_l_bent (n : Nat) : ∀ l h k, sp_bent n l h k → W_l_bent sp_take sp_put sp_bentrow (en k) (ev0 N_l_bent l) h := by
  rintro l h0 k ⟨dr, v, rfl, dd, c, f, hn, hne, post⟩
  have np3 := f.sm.np
  have np0 : 0 < v.prs.length := List.length_pos_iff.mpr hne
  have ev : v.toD = .tup [.int v.w, .tup (v.ars.map arD), .tup (v.prs.map Pc.toD)] := rfl
  have t := c.ok.tup.2
  have vas : VOk (hide dr h0) (.tup (v.ars.map arD)) := t _ (by simp)
  have vps : VOk (hide dr h0) (.tup (v.prs.map Pc.toD)) := t _ (by simp)
  have e0 : ev0 N_l_bent [.ref dr, v.toD] = [some (.ref dr), some v.toD, none, none, none, none, none, none, none, none, none, none, none, none, none, none, none, none, none] := rfl
  rw [e0]
  simp only [W_l_bent, s_seq, s_asg, s_var]
  refine ⟨_, rfl, ?_⟩
  rw [ev, s_gT]
  refine ⟨rfl, ?_⟩
  simp only [s_go_cons, s_go_nil, s_gN, s_seq, s_asg, s_L, s_cons, s_nil, s_var, s_c]
  refine ⟨_, rfl, dr, 12, rfl, dd, by decide, .inl (by decide), fun kk h1 k0 k1 g1 => ?_⟩
  simp only [s_gN, s_seq, s_ifS, s_B, s_w2, s_var, s_c]
  refine ⟨_, rfl, ?_⟩
  simp only [s_eq_ii, asB_bl, Bool.bne_false, decide_eq_true_eq, List.set_cons_zero, List.set_cons_succ]
  split
  · clear k0 k1
    simp
    intro p np
    refine ⟨by unfold PySem.MulOk; exact ⟨by decide, fun _ _ => by decide +kernel, fun _ _ => by decide +kernel⟩, fun p1 np1 => ?_⟩
    have ga := (Grow.refl g1.drw).new (o := .lst (v.ars.map arD)) np
    have gp : (up h1 p (.lst (v.ars.map arD))) p = some (.lst (v.ars.map arD)) := up_same
    have npd := g1.drw.fresh np
    have n1d := ga.drw.fresh np1
    generalize hL : ([D.tup [D.int 0, D.tup (v.ars.map arD), D.tup (v.prs.map Pc.toD)], D.tup [D.int 17, D.tup (v.ars.map arD), D.tup (v.prs.map Pc.toD)], D.tup [D.bl true, D.tup (v.ars.map arD), D.tup (v.prs.map Pc.toD)], D.tup [D.int v.w, D.ref p, D.tup (v.prs.map Pc.toD)], D.tup [D.int v.w, D.tup (v.ars.map arD)], D.non,
      D.tup [D.int v.w, D.tup [D.tup [D.str (Str.ofString "mem"), D.int 9]], D.tup (v.prs.map Pc.toD)], D.tup [D.int v.w, D.tup [D.tup [D.str (Str.ofString "mem"), D.int 1], D.tup [D.str (Str.ofString "a"), D.int 1]], D.tup (v.prs.map Pc.toD)], D.tup [D.int v.w, D.tup [D.tup [D.str (Str.ofString "v1"), D.int 1]], D.tup (v.prs.map Pc.toD)],
      D.tup [D.int v.w, D.tup (v.ars.map arD), D.tup []], D.tup [D.int v.w, D.tup [D.tup [D.str (Str.ofString "put"), D.int 1]], D.tup (v.prs.map Pc.toD)], D.tup [D.int v.w, D.tup [D.tup [D.str (Txt.mul (Str.ofString "m") 21), D.int 1]], D.tup (v.prs.map Pc.toD)], D.tup [D.int v.w, D.tup (v.ars.map arD), D.tup [D.tup [D.str (Str.ofString "main"), D.int 0, D.tup []]]]] : List D) = L
    have lL : L.length = 13 := by rw [← hL]; rfl
    have g2 := ga.new (o := .lst L) np1
    have gl : (up (up h1 p (.lst (v.ars.map arD))) p1 (.lst L)) p1 = some (.lst L) := up_same
    have gp2 : (up (up h1 p (.lst (v.ars.map arD))) p1 (.lst L)) p = some (.lst (v.ars.map arD)) := by rw [up_ne (fun z => by subst z; rw [gp] at np1; cases np1)]; exact gp
    generalize up (up h1 p (.lst (v.ars.map arD))) p1 (.lst L) = h2 at g2 gl gp2 ⊢
    refine ⟨dr, 13, rfl, g2.drw, by decide, .inl (by decide), fun r h3 z1 z2 g3 => ?_⟩
    obtain ⟨x, ex, hx⟩ := at_toNat (l := L) z1 (by omega)
    have g03 := (g1.trans g2).trans g3
    refine ⟨L, x, g3.keep _ _ n1d gl, ex, ?_⟩
    have v_as := vas.mono g03.hide
    have v_ps := vps.mono g03.hide
    have v_p : VOk (hide dr h3) (.ref p) := vok_ref (g3.keep _ _ npd gp2) npd v_as.tup.2
    have rows : ∀ x ∈ v.prs.map Pc.toD, RowFit (n + 1) x := fun x hx => by obtain ⟨P, hP, rfl⟩ := List.mem_map.mp hx; exact f.row hP
    have lp : (v.prs.map Pc.toD).length ≤ 3 := by simpa using np3
    have key : VOk (hide dr h3) x ∧ Fits (n + 1) x := by
      rw [← hL] at hx
      simp only [List.mem_cons, List.not_mem_nil, or_false] at hx
      rcases hx with rfl | rfl | rfl | rfl | rfl | rfl | rfl | rfl | rfl | rfl | rfl | rfl | rfl
      · exact ⟨vt3 .mk_int v_as v_ps, fits_prs (ars_inj3 f.as) lp rows⟩
      · exact ⟨vt3 .mk_int v_as v_ps, fits_prs (ars_inj3 f.as) lp rows⟩
      · exact ⟨vt3 .mk_bl v_as v_ps, fits_prs (ars_inj3 f.as) lp rows⟩
      · exact ⟨vt3 .mk_int v_p v_ps, fits_prs (fun as e => nomatch e) lp rows⟩
      · exact ⟨vt2 .mk_int v_as, fun u e => by simp [Pv.toD] at e⟩
      · exact ⟨.mk_non, fun u e => nomatch e⟩
      · exact ⟨vt3 .mk_int (vt1 (vt2 (vok_s (by decide +kernel)) .mk_int)) v_ps, fits_prs (ars_l (by simp)) lp rows⟩
      · exact ⟨vt3 .mk_int (vt2 (vt2 (vok_s (by decide +kernel)) .mk_int) (vt2 (vok_s (by decide +kernel)) .mk_int)) v_ps, fits_prs (ars_l (by simp)) lp rows⟩
      · exact ⟨vt3 .mk_int (vt1 (vt2 (vok_s (by decide +kernel)) .mk_int)) v_ps, fits_prs (ars_l (by simp)) lp rows⟩
      · exact ⟨vt3 .mk_int v_as vt0, fits_prs (ars_inj3 f.as) (by simp) (fun x hx => nomatch hx)⟩
      · exact ⟨vt3 .mk_int (vt1 (vt2 (vok_s (by decide +kernel)) .mk_int)) v_ps, fits_prs (ars_l (by simp)) lp rows⟩
      · exact ⟨vt3 .mk_int (vt1 (vt2 (vok_s (by decide +kernel)) .mk_int)) v_ps, fits_prs (ars_l (by simp)) lp rows⟩
      · refine ⟨vt3 .mk_int v_as (vt1 (vt3 (vok_s (by decide +kernel)) .mk_int vt0)), fits_prs (ars_inj3 f.as) (by simp) (fun x hx => ?_)⟩
        rw [List.mem_singleton.mp hx]
        exact row_bls (by simp) fun x hx => nomatch hx
    exact en_rt (post x h3 g03 key.1 key.2)
  · rename_i nk0
    simp only [s_next, wNext, s_seq, s_asg, s_L, s_cons, s_nil, s_var]
    refine ⟨_, rfl, _, rfl, ?_⟩
    rw [s_len_t]
    refine ⟨dr, _, rfl, g1.drw, by simp; omega, .inl (by simp; omega), fun pp h2 p0 p1 g2 => ?_⟩
    obtain ⟨p, rfl⟩ : ∃ p : Nat, pp = p := ⟨pp.toNat, by omega⟩
    have hp : p < v.prs.length := by simpa using p1
    have hP : v.prs[p]? = some v.prs[p] := List.getElem?_eq_getElem hp
    have mP := List.getElem_mem hp
    generalize v.prs[p] = Q at hP mP
    have hQ : atI (v.prs.map Pc.toD) (p : Int) = some Q.toD := atI_nat (by simp [hP])
    have g02 := g1.trans g2
    simp only [s_gN, s_seq, s_asg, s_w2, s_var, List.set_cons_zero, List.set_cons_succ]
    refine ⟨_, rfl, _, rfl, ?_⟩
    rw [s_ix_t]
    refine ⟨_, hQ, ?_⟩
    rw [show Q.toD = .tup [.str Q.name, .int Q.par, .tup (Q.bls.map Bl.toD)] from rfl, s_gT]
    refine ⟨rfl, ?_⟩
    simp only [s_go_cons, s_go_nil, s_gN, s_seq, s_ifS, s_B, s_w2, s_var, s_c, List.set_cons_zero, List.set_cons_succ]
    refine ⟨_, rfl, ?_⟩
    simp only [s_eq_ii, asB_bl, Bool.bne_false, decide_eq_true_eq]
    have tq := (vps.tup.2 _ (List.mem_map_of_mem mP)).tup.2
    have vnm : VOk (hide dr h0) (.str Q.name) := tq _ (by simp)
    have vbs : VOk (hide dr h0) (.tup (Q.bls.map Bl.toD)) := tq _ (by simp)
    have fq := f.row mP
    have put : ∀ row h', Grow dr h0 h' → VOk (hide dr h') row → RowFit (n + 1) row → sp_put [v.toD, .int (p : Int), row] h' (en k).rt := fun row h' g vr fr => ⟨v, p, row, rfl, hp, np3, en_rt (post _ h' g (vok_put (c.ok.mono g.hide) hp vr) (fits_put f hp fr))⟩
    split
    · have vlab : True := trivial
      simp only [s_seq, s_asg]
      refine lst_of (n := 10) (dr := dr) (h0 := h2) ?_ (by decide) (.refl g2.drw) fun ds p1 h3 g3 e3 v3 hp3 np3' => ?_
      · repeat (first
        | exact gds_nil | exact gd_i | exact gd_b | exact gd_n | exact gd_neg | exact gd_s (by decide +kernel) | exact gd_v rfl vlab
        | refine gds_cons ?_ ?_ | exact gd_t0 | exact gd_l0 | refine gd_t1 ?_ | refine gd_t2 ?_ ?_ | refine gd_t3 ?_ ?_ ?_ | refine gd_t4 ?_ ?_ ?_ ?_ | refine gd_l2 ?_ ?_ | decide)
      simp only [s_gN, s_ret, s_L, s_cons, s_nil, s_w2, s_var, s_c, List.set_cons_zero, List.set_cons_succ]
      refine ⟨_, rfl, _, rfl, _, rfl, _, rfl, dr, 10, rfl, g3.drw, by decide, .inl (by decide), fun r h4 z1 z2 g4 => ?_⟩
      obtain ⟨x, ex, hx⟩ := at_toNat (l := ds) z1 (by omega)
      rw [s_ix_l]
      refine ⟨ds, x, g4.keep _ _ np3' hp3, ex, _, rfl, _, rfl, ?_⟩
      rw [s_tup]
      have g04 := (g02.trans g3).trans g4
      exact ⟨by simp, put _ _ g04 (vt3 ((v3 x hx).mono g4.hide) .mk_int (vbs.mono g04.hide)) (fun P e => by
        simp only [Pc.toD, D.tup.injEq, List.cons.injEq, and_true] at e
        exact fq ⟨Q.name, Q.par, P.bls⟩ (by simp only [Pc.toD, D.tup.injEq, List.cons.injEq, and_true, true_and]; exact e.2.2))⟩
    · rename_i nk1
      simp only [s_next, wNext, s_seq, s_ifS, s_B, s_w2, s_var, s_c]
      refine ⟨_, rfl, ?_⟩
      simp only [s_eq_ii, asB_bl, Bool.bne_false, decide_eq_true_eq]
      split
      · have vlab : True := trivial
        simp only [s_ret, s_L, s_cons, s_nil, s_var]
        refine ⟨_, rfl, _, rfl, _, rfl, ?_⟩
        refine gd_pick (n := 5) (dr := dr) (h0 := h2) rfl ?_ (by decide) (by decide) h2 _ (.refl g2.drw) fun d h3 g3 v3 => ?_
        · repeat (first
        | exact gds_nil | exact gd_i | exact gd_b | exact gd_n | exact gd_neg | exact gd_s (by decide +kernel) | exact gd_v rfl vlab
        | refine gds_cons ?_ ?_ | exact gd_t0 | exact gd_l0 | refine gd_t1 ?_ | refine gd_t2 ?_ ?_ | refine gd_t3 ?_ ?_ ?_ | refine gd_t4 ?_ ?_ ?_ ?_ | refine gd_l2 ?_ ?_ | decide)
        refine ⟨_, rfl, ?_⟩
        rw [s_tup]
        have g03 := g02.trans g3
        exact ⟨by simp, put _ _ g03 (vt3 (vnm.mono g03.hide) v3 (vbs.mono g03.hide)) (fun P e => by
          simp only [Pc.toD, D.tup.injEq, List.cons.injEq, and_true] at e
          exact fq ⟨Q.name, Q.par, P.bls⟩ (by simp only [Pc.toD, D.tup.injEq, List.cons.injEq, and_true, true_and]; exact e.2.2))⟩
      · rename_i nk2
        have nb6 := f.sm.nb Q mP
        have nbn : Q.bls ≠ [] := (c.wf.prs Q mP).2
        have nb0 : 0 < Q.bls.length := List.length_pos_iff.mpr nbn
        simp only [s_next, wNext, s_seq, s_asg, s_L, s_cons, s_nil, s_var]
        refine ⟨_, rfl, _, rfl, ?_⟩
        rw [s_len_t]
        refine ⟨dr, _, rfl, g2.drw, by simp; omega, .inl (by simp; omega), fun bb h3 b0 b1 g3 => ?_⟩
        obtain ⟨b, rfl⟩ : ∃ b : Nat, bb = b := ⟨bb.toNat, by omega⟩
        have hb : b < Q.bls.length := by simpa using b1
        have hB : Q.bls[b]? = some Q.bls[b] := List.getElem?_eq_getElem hb
        have mB := List.getElem_mem hb
        generalize Q.bls[b] = B at hB mB
        have hB2 : atI (Q.bls.map Bl.toD) (b : Int) = some B.toD := atI_nat (by simp [hB])
        have g03 := g02.trans g3
        have tb := (vbs.tup.2 _ (List.mem_map_of_mem mB)).tup.2
        have vlab0 : VOk (hide dr h0) B.lab := tb _ (by simp)
        have vbody : VOk (hide dr h0) (.tup B.body) := tb _ (by simp)
        have vnd : VOk (hide dr h0) B.nd := tb _ (by simp)
        have bn : B.body.length ≤ n := f.bd Q mP B mB
        have alab := f.sm.lab Q mP B mB
        have fin : ∀ blk h', Grow dr h0 h' → VOk (hide dr h') blk → BlkFit (n + 1) blk → sp_put [v.toD, .int (p : Int), .tup [.str Q.name, .int Q.par, .tup (repl (Q.bls.map Bl.toD) b blk)]] h' (en k).rt := fun blk h' g vb fb => by
          refine put _ h' g (vt3 (vnm.mono g.hide) .mk_int (.mk_tup (by rw [repl_len (by simpa using hb)]; simp; omega) fun x hx => ?_)) (row_bls (by rw [repl_len (by simpa using hb)]; simpa using nb6) fun x hx => ?_)
          · rcases repl_mem hx with h | rfl
            · exact (vbs.mono g.hide).tup.2 x h
            · exact vb
          · rcases repl_mem hx with h | rfl
            · obtain ⟨B', hB', rfl⟩ := List.mem_map.mp h
              intro B'' e
              have := Bl.inj e
              subst this
              exact ⟨f.sm.lab Q mP _ hB', Nat.le_succ_of_le (f.bd Q mP _ hB')⟩
            · exact fb
        simp only [s_gN, s_seq, s_asg, s_w2, s_var, List.set_cons_zero, List.set_cons_succ]
        refine ⟨_, rfl, _, rfl, ?_⟩
        rw [s_ix_t]
        refine ⟨_, hB2, ?_⟩
        rw [show B.toD = .tup [B.lab, .tup B.body, B.nd] from rfl, s_gT]
        refine ⟨rfl, ?_⟩
        simp only [s_go_cons, s_go_nil, s_gN, s_seq, s_ifS, s_B, s_w2, s_var, s_c, List.set_cons_zero, List.set_cons_succ]
        refine ⟨_, rfl, ?_⟩
        simp only [s_lt_ii, asB_bl, decide_eq_true_eq]
        have c1 : T3.cutD (Q.bls.map Bl.toD) none (some (b : Int)) = (Q.bls.map Bl.toD).take b := cutTo (by simp; omega)
        have c2 : T3.cutD (Q.bls.map Bl.toD) (some ((b : Int) + 1)) none = (Q.bls.map Bl.toD).drop (b + 1) := by
          have := cutFrom (l := Q.bls.map Bl.toD) (b := b + 1) (by simp; omega)
          rwa [show (((b + 1 : Nat)) : Int) = (b : Int) + 1 by omega] at this
        have last : ∀ blk x10 x15 x17 x18 h', Grow dr h0 h' → VOk (hide dr h') blk → BlkFit (n + 1) blk →
            (wRet (wL sp_put (wCons (wVar 1) (wCons (wVar 6) (wCons (wL rTup (wCons (wVar 7) (wCons (wVar 8) (wCons (w2 T3.rAdd (w2 T3.rAdd (wSl (wVar 9) (oNone) (oSome (wVar 11))) (wL rTup (wCons (wVar 16) (wNil)))) (wSl (wVar 9) (oSome (w2 T3.rAdd (wVar 11) (wC (.int 1)))) (oNone))) (wNil))))) (wNil)))))) (en k)
              [some (.ref dr), some v.toD, some (.int v.w), some (.tup (v.ars.map arD)), some (.tup (v.prs.map Pc.toD)), some (.int kk), some (.int (p : Int)), some (.str Q.name), some (.int Q.par), some (.tup (Q.bls.map Bl.toD)), x10, some (.int (b : Int)), some B.lab, some (.tup B.body), some B.nd, x15, some blk, x17, x18] h' := by
          intro blk x10 x15 x17 x18 h' g vb fb
          simp [c1, c2]
          refine ⟨by omega, by omega, ?_⟩
          have := fin blk h' g vb fb
          simpa [repl] using this
        split
        · simp only [s_seq, s_asg, s_L, s_cons, s_nil, s_w2, s_var, s_c]
          refine ⟨_, rfl, _, rfl, ?_⟩
          rw [s_len_t]
          rw [s_add_ii]
          refine ⟨dr, _, rfl, g3.drw, by omega, .inl (by omega), fun aa h4 a0 a1 g4 => ?_⟩
          obtain ⟨at', rfl⟩ : ∃ a : Nat, aa = a := ⟨aa.toNat, by omega⟩
          have hat : at' ≤ B.body.length := by omega
          have d1 : T3.cutD B.body none (some (at' : Int)) = B.body.take at' := cutTo hat
          have d2 : T3.cutD B.body (some (at' : Int)) none = B.body.drop at' := cutFrom hat
          have g04 := g03.trans g4
          simp only [s_gN, s_seq, s_asg, s_w2, s_var, s_L, s_cons, s_nil, s_sl, s_oNone, s_oSome, List.set_cons_zero, List.set_cons_succ]
          refine ⟨_, rfl, _, rfl, _, rfl, _, rfl, ?_⟩
          try dsimp only
          rw [s_sl_t]
          refine ⟨_, rfl, _, rfl, dr, v, rfl, ⟨g04.drw, c.mono g04.hide, f.as⟩, fun row h5 g5 vr => ?_⟩
          have g05 := g04.trans g5
          try dsimp only
          rw [s_tup]
          refine ⟨by simp, ?_⟩
          try dsimp only
          rw [s_add_tt]
          rw [d1]
          refine ⟨by simp; omega, _, rfl, _, rfl, _, rfl, ?_⟩
          try dsimp only
          rw [s_sl_t, d2]
          try dsimp only
          rw [s_add_tt]
          refine ⟨by simp; omega, _, rfl, ?_⟩
          try dsimp only
          rw [s_tup]
          refine ⟨by simp, ?_⟩
          have vb2 := (vbody.mono g05.hide).tup
          exact last _ _ _ _ _ h5 g05 (vt3 (vlab0.mono g05.hide) (.mk_tup (by simp; omega) fun x hx => by
            simp only [List.mem_append, List.mem_singleton] at hx
            rcases hx with (h | rfl) | h
            · exact vb2.2 x (List.mem_of_mem_take h)
            · exact vr
            · exact vb2.2 x (List.mem_of_mem_drop h)) (vnd.mono g05.hide)) (fun B' e => by
            simp only [Bl.toD, D.tup.injEq, List.cons.injEq, and_true] at e
            obtain ⟨e1, e2, _⟩ := e
            exact ⟨e1 ▸ alab, by rw [← e2]; simp; omega⟩)
        · refine ⟨_, rfl, ?_⟩
          simp only [s_lt_ii, asB_bl, decide_eq_true_eq]
          split
          · obtain ⟨B0, bs, hbs⟩ : ∃ B0 bs, Q.bls = B0 :: bs := by
              cases e : Q.bls with
              | nil => exact absurd e nbn
              | cons x l => exact ⟨x, l, rfl⟩
            have hz : (Q.bls.map Bl.toD)[0]? = some B0.toD := by rw [hbs]; rfl
            have m0 : B0 ∈ Q.bls := by rw [hbs]; exact List.mem_cons_self
            have v0 : VOk (hide dr h0) B0.lab := (vbs.tup.2 _ (List.mem_map_of_mem m0)).tup.2 _ (by simp)
            have a0 := f.sm.lab Q mP B0 m0
            simp only [s_asg, s_L, s_cons, s_nil, s_w2, s_w1, s_c, s_var, s_neg]
            refine ⟨_, rfl, ?_⟩
            rw [s_ix_t, atI_lit]
            refine ⟨_, hz, ?_⟩
            rw [show B0.toD = .tup [B0.lab, .tup B0.body, B0.nd] from rfl, s_ix_t, atI_lit]
            refine ⟨B0.lab, rfl, ?_⟩
            rw [s_lst]
            refine ⟨by simp, fun p1 np1 => ?_⟩
            generalize hL : [D.int 999, D.int 1000, D.int (-1), B0.lab, D.str (Str.ofString "b"), D.non, D.int 0] = L at np1 ⊢
            have lL : L.length = 7 := by rw [← hL]; rfl
            have g4 := (Grow.refl g3.drw).new (o := .lst L) np1
            have n1d := g3.drw.fresh np1
            have gl : (up h3 p1 (.lst L)) p1 = some (.lst L) := up_same
            generalize up h3 p1 (.lst L) = h4 at g4 gl ⊢
            refine ⟨_, rfl, dr, 7, rfl, g4.drw, by decide, .inl (by decide), fun r h5 z1 z2 g5 => ?_⟩
            obtain ⟨x, ex, hx⟩ := at_toNat (l := L) z1 (by omega)
            have g05 := (g03.trans g4).trans g5
            have key : VOk (hide dr h5) x ∧ Atm x := by
              rw [← hL] at hx
              simp only [List.mem_cons, List.not_mem_nil, or_false] at hx
              rcases hx with rfl | rfl | rfl | rfl | rfl | rfl | rfl
              · exact ⟨.mk_int, trivial⟩
              · exact ⟨.mk_int, trivial⟩
              · exact ⟨.mk_int, trivial⟩
              · exact ⟨v0.mono g05.hide, a0⟩
              · exact ⟨vok_s (by decide +kernel), trivial⟩
              · exact ⟨.mk_non, trivial⟩
              · exact ⟨.mk_int, trivial⟩
            rw [s_ix_l]
            refine ⟨L, x, g5.keep _ _ n1d gl, ex, _, rfl, _, rfl, ?_⟩
            try dsimp only
            rw [s_tup]
            refine ⟨by simp, ?_⟩
            exact last _ _ _ _ _ h5 g05 (vt3 key.1 (vbody.mono g05.hide) (vnd.mono g05.hide)) (fun B' e => by
              simp only [Bl.toD, D.tup.injEq, List.cons.injEq, and_true] at e
              obtain ⟨e1, e2, _⟩ := e
              exact ⟨e1 ▸ key.2, by rw [← e2]; omega⟩)
          · refine ⟨_, rfl, ?_⟩
            simp only [s_lt_ii, asB_bl, decide_eq_true_eq]
            split
            · simp only [s_seq, s_asg, s_w2, s_L, s_cons, s_nil, s_var, s_c]
              refine ⟨_, rfl, _, rfl, _, rfl, ?_⟩
              rw [s_len_t]
              refine ⟨dr, _, rfl, g3.drw, by simp; omega, .inl (by simp; omega), fun cc h4 q0 q1 g4 => ?_⟩
              obtain ⟨ci, rfl⟩ : ∃ a : Nat, cc = a := ⟨cc.toNat, by omega⟩
              have hc : ci < Q.bls.length := by simpa using q1
              have hC : Q.bls[ci]? = some Q.bls[ci] := List.getElem?_eq_getElem hc
              have mC := List.getElem_mem hc
              generalize Q.bls[ci] = C at hC mC
              have hC2 : atI (Q.bls.map Bl.toD) (ci : Int) = some C.toD := atI_nat (by simp [hC])
              rw [s_ix_t]
              refine ⟨_, hC2, ?_⟩
              rw [show C.toD = .tup [C.lab, .tup C.body, C.nd] from rfl, s_ix_t]
              refine ⟨C.lab, by simp, ?_⟩
              have g04 := g03.trans g4
              have voth : VOk (hide dr h4) C.lab := ((vbs.tup.2 _ (List.mem_map_of_mem mC)).tup.2 _ (by simp)).mono g04.hide
              simp only [s_gN, s_seq, s_asg, List.set_cons_zero, List.set_cons_succ]
              refine lst_of (n := 15) (dr := dr) (h0 := h4) ?_ (by decide) (.refl g4.drw) fun ds p1 h5 g5 e5 v5 hp5 np5 => ?_
              · repeat (first
            | exact gds_nil | exact gd_i | exact gd_b | exact gd_n | exact gd_neg | exact gd_s (by decide +kernel) | exact gd_v rfl voth
            | refine gds_cons ?_ ?_ | exact gd_t0 | exact gd_l0 | refine gd_t1 ?_ | refine gd_t2 ?_ ?_ | refine gd_t3 ?_ ?_ ?_ | refine gd_t4 ?_ ?_ ?_ ?_ | refine gd_l2 ?_ ?_ | decide)
              simp only [s_gN, s_seq, s_asg, s_w2, s_L, s_cons, s_nil, s_var, s_c, List.set_cons_zero, List.set_cons_succ]
              refine ⟨_, rfl, _, rfl, _, rfl, _, rfl, dr, 15, rfl, g5.drw, by decide, .inl (by decide), fun r h6 z1 z2 g6 => ?_⟩
              obtain ⟨x, ex, hx⟩ := at_toNat (l := ds) z1 (by omega)
              rw [s_ix_l]
              refine ⟨ds, x, g6.keep _ _ np5 hp5, ex, ?_⟩
              try dsimp only
              rw [s_tup]
              have g06 := (g04.trans g5).trans g6
              refine ⟨by simp, ?_⟩
              exact last _ _ _ _ _ h6 g06 (vt3 (vlab0.mono g06.hide) (vbody.mono g06.hide) ((v5 x hx).mono g6.hide)) (fun B' e => by
                simp only [Bl.toD, D.tup.injEq, List.cons.injEq, and_true] at e
                obtain ⟨e1, e2, _⟩ := e
                exact ⟨e1 ▸ alab, by rw [← e2]; omega⟩)
            · simp only [s_asg, s_L, s_cons, s_nil, s_w2, s_c, s_var]
              refine ⟨_, rfl, _, rfl, ?_⟩
              rw [s_tup]
              refine ⟨by simp, _, rfl, _, rfl, ?_⟩
              rw [s_lstOf_t]
              intro p np
              have ga := (Grow.refl g3.drw).new (o := .lst B.body) np
              have gp : (up h3 p (.lst B.body)) p = some (.lst B.body) := up_same
              have npd := g3.drw.fresh np
              generalize up h3 p (.lst B.body) = h4 at ga gp ⊢
              refine ⟨_, rfl, ?_⟩
              try dsimp only
              rw [s_tup]
              refine ⟨by simp, ?_⟩
              try dsimp only
              rw [s_lst]
              refine ⟨by simp, fun p1 np1 => ?_⟩
              have n1d := ga.drw.fresh np1
              generalize hL : [D.tup [B.lab, D.tup B.body], D.tup [B.lab, D.ref p, B.nd], D.non] = L at np1 ⊢
              have lL : L.length = 3 := by rw [← hL]; rfl
              have g4 := ga.new (o := .lst L) np1
              have gl : (up h4 p1 (.lst L)) p1 = some (.lst L) := up_same
              have gp2 : (up h4 p1 (.lst L)) p = some (.lst B.body) := by rw [up_ne (fun z => by subst z; rw [gp] at np1; cases np1)]; exact gp
              generalize up h4 p1 (.lst L) = h5 at g4 gl gp2 ⊢
              refine ⟨_, rfl, dr, 3, rfl, g4.drw, by decide, .inl (by decide), fun r h6 z1 z2 g6 => ?_⟩
              obtain ⟨x, ex, hx⟩ := at_toNat (l := L) z1 (by omega)
              have g06 := (g03.trans g4).trans g6
              have key : VOk (hide dr h6) x ∧ BlkFit (n + 1) x := by
                rw [← hL] at hx
                simp only [List.mem_cons, List.not_mem_nil, or_false] at hx
                rcases hx with rfl | rfl | rfl
                · exact ⟨vt2 (vlab0.mono g06.hide) (vbody.mono g06.hide), fun B' e => by simp [Bl.toD] at e⟩
                · exact ⟨vt3 (vlab0.mono g06.hide) (vok_ref (g6.keep _ _ npd gp2) npd (vbody.mono g06.hide).tup.2) (vnd.mono g06.hide), fun B' e => by simp [Bl.toD] at e⟩
                · exact ⟨.mk_non, fun B' e => nomatch e⟩
              rw [s_ix_l]
              refine ⟨L, x, g6.keep _ _ n1d gl, ex, ?_⟩
              exact last _ _ _ _ _ h6 g06 key.1 key.2
end Lk01
end
-- G1N
section
set_option maxRecDepth 100000
set_option maxHeartbeats 4000000
/-! G1N: right. -/
namespace Lk01
open PySem PySem.Spec PyProof.Rows L2 T3
theorem ints_eqv : ∀ ks : List Int, PyData.eqvAll (D.pyL (ks.map D.int)) (D.pyL (ks.map D.int)) = true ∧ PyData.depthAll (D.pyL (ks.map D.int)) ≤ 0
  | [] => by simp [D.pyL, PyData.eqvAll, PyData.depthAll]
  | a :: r => by
    have := ints_eqv r
    simp [D.pyL, D.py, PyData.eqvAll, PyData.depthAll, PyData.eqv, PyData.depth, this.1]
    simpa using this.2
theorem it_eqv {x : D} (h : IsIt x) : PyData.eqv x.py x.py = true ∧ x.py.depth ≤ 2 := by
  obtain ⟨ks, c, rfl, _⟩ := h
  have := ints_eqv ks
  refine ⟨by simp [itD, D.py, D.pyL, PyData.eqv, PyData.eqvAll, this.1], ?_⟩
  have := this.2
  simp [itD, D.py, D.pyL, PyData.depth, PyData.depthAll]; omega
theorem its_rs {h : H3} : ∀ {l : List D}, (∀ x ∈ l, IsIt x) → RsL h l (l.map D.py) ∧ PyData.depthAll (l.map D.py) ≤ 2 ∧ PyData.eqvAll (l.map D.py) (l.map D.py) = true
  | [], _ => ⟨.nil, by simp [PyData.depthAll], by simp [PyData.eqvAll]⟩
  | x :: l, hx => by
    obtain ⟨a, b, c⟩ := its_rs (h := h) (l := l) fun y hy => hx y (List.mem_cons_of_mem _ hy)
    have hi := hx x List.mem_cons_self
    have := it_eqv hi
    refine ⟨.cons (rs_py (it_ok hi)) a, ?_, by simp [PyData.eqvAll, this.1, c]⟩
    have := this.2
    simp [PyData.depthAll]; omega
def rightT (ys : List D) (d : D) : Bool := match d with
  | .tup [a, .str c] => !decide (c = "twice") || !((ys.map D.py).any fun z => PyData.eqv z (D.tup [a, .str "label"]).py)
  | _ => false
def sp_right : Sp3 := fun l h k => ∃ (d : D) (fa da : Addr) (ys : List D), l = [d, .ref fa, .ref da] ∧ h fa = some (.lst ys) ∧ h da = some (.lst ys) ∧ (∀ x ∈ ys, IsIt x) ∧ ys.length ≤ 1000 ∧ ∀ h', Sub h h' → k (.bl true) h'
theorem ok_l_right : ∀ l h k, sp_right l h k → W_l_right (en k) (ev0 N_l_right l) h := by
  rintro l h k ⟨d, fa, da, ys, rfl, hfa, hda, hit, hlen, post⟩
  have tst : ∀ (ρ : Ev), ρ.length = 4 → ρ[2]? = some (some (.ref da)) → ∀ x ∈ ys, ∀ h', Sub h h' → ∀ K : Bool → H3 → Prop, (∀ h2, Sub h' h2 → K (rightT ys x) h2) →
      (wOr (wB (w2 T3.rNe (w2 T3.rIx (wVar 3) (wC (.int 1))) (wC (.str "twice")))) (wB (w2 (T3.rIn true) (wL rTup (wCons (w2 T3.rIx (wVar 3) (wC (.int 0))) (wCons (wC (.str "label")) (wNil)))) (wVar 2)))) (ρ.set 3 (some x)) h' K := by
    intro ρ r4 r2 x hx h' s K hK
    have h2' : (ρ.set 3 (some x))[2]? = some (some (.ref da)) := by rw [List.getElem?_set_ne (by decide)]; exact r2
    have h3' : (ρ.set 3 (some x))[3]? = some (some x) := by rw [List.getElem?_set_self (by omega)]
    obtain ⟨ks, c, rfl, hc, hk2⟩ := hit x hx
    have hK := hK h' (Sub.refl h')
    simp only [itD, rightT] at hK
    generalize ρ.set 3 (some (itD ks c)) = ρ' at h2' h3' ⊢
    simp [h2', h3', itD]
    by_cases e : c = "twice"
    · subst e
      simp at hK ⊢
      obtain ⟨rs, dp, _⟩ := its_rs (h := h') hit
      have hl : IsIt (itD ks "label") := ⟨ks, _, rfl, by decide +kernel, hk2⟩
      refine ⟨ys, _, _, s _ _ hda, rs_py (it_ok hl), rs, by omega, ?_⟩
      simpa [itD] using hK
    · simp [e] at hK ⊢
      exact hK
  have flt : ∀ x ∈ ys.filter (rightT ys), IsIt x := fun x hx => hit x (List.mem_filter.mp hx).1
  simp [W_l_right, ev0]
  refine .inl ⟨⟨_, hfa⟩, ?_⟩
  simp
  refine ⟨⟨_, hfa⟩, fun p np => ⟨_, hfa, ?_⟩⟩
  have npf : p ≠ fa := fun z => by subst z; rw [np] at hfa; cases hfa
  refine lc_pure (rightT ys) (fun y => y) (by omega) (fun o h' s => s _ _ (by rw [up_ne npf.symm]; exact hfa)) (fun x hx o h' s K hK => tst _ (by simp) (by simp) x hx h' (((Sub.refl h).up np).trans s) K hK) (fun x hx _ o h' s K hK => by simp; exact hK _ (Sub.refl _)) ?_
  rw [List.map_id']
  have s1 : Sub h (up h p (.lst (ys.filter (rightT ys)))) := (Sub.refl h).up np
  have p1 : (up h p (.lst (ys.filter (rightT ys)))) p = some (.lst (ys.filter (rightT ys))) := up_same
  generalize up h p (.lst (ys.filter (rightT ys))) = h1 at s1 p1 ⊢
  have hda1 := s1 _ _ hda
  refine ⟨⟨_, hda1⟩, fun q nq => ⟨_, hda1, ?_⟩⟩
  have nqd : q ≠ da := fun z => by subst z; rw [nq] at hda1; cases hda1
  refine lc_pure (rightT ys) (fun y => y) (by omega) (fun o h' s => s _ _ (by rw [up_ne nqd.symm]; exact hda1)) (fun x hx o h' s K hK => tst _ (by simp) (by simp) x hx h' (s1.trans (((Sub.refl h1).up nq).trans s)) K hK) (fun x hx _ o h' s K hK => by simp; exact hK _ (Sub.refl _)) ?_
  rw [List.map_id']
  have s2 : Sub h1 (up h1 q (.lst (ys.filter (rightT ys)))) := (Sub.refl h1).up nq
  have q2 : (up h1 q (.lst (ys.filter (rightT ys)))) q = some (.lst (ys.filter (rightT ys))) := up_same
  generalize up h1 q (.lst (ys.filter (rightT ys))) = h2 at s2 q2 ⊢
  obtain ⟨rs, dp, eq⟩ := its_rs (h := h2) flt
  refine rEq_of (.lst (s2 _ _ p1) rs) (.lst q2 rs) (Nat.le_trans (Nat.min_le_left _ _) (by simp [PyData.depth]; omega)) ?_
  have e : PyData.eqv (.list ((ys.filter (rightT ys)).map D.py)) (.list ((ys.filter (rightT ys)).map D.py)) = true := by simp only [PyData.eqv, eq]
  rw [e]
  simp
  exact en_rt (post _ (s1.trans s2))
end Lk01
end
-- G1O
section
set_option maxRecDepth 100000
set_option maxHeartbeats 4000000
/-! G1O: a generated program has no faults. -/
namespace Lk01
open PySem PySem.Spec PyProof.Rows L2 T3
def bkP (b : Bk) : Bl := ⟨.int b.label, b.body.map Sm.toD, b.nd.toD⟩
def prP (p : Pr) : Pc := ⟨p.name, p.params, p.blocks.map bkP⟩
def pgP (g : Pg) : Pv := ⟨g.w, g.arrays, g.procs.map prP⟩
theorem pgP_toD (g : Pg) : (pgP g).toD = g.toD := by
  have e1 : ∀ b : Bk, (bkP b).toD = b.toD := fun b => rfl
  have e2 : ∀ p : Pr, (prP p).toD = p.toD := fun p => by
    simp only [Pc.toD, prP, Pr.toD, List.map_map]
    rfl
  simp only [Pv.toD, pgP, Pg.toD, List.map_map]
  rw [show (Pc.toD ∘ prP) = Pr.toD from funext e2]
theorem ex_ok {w : Int} {ars : List (Str × Int)} (h0 : 0 ≤ w) : ∀ {n : Nat} {e : Ex}, e.Wf (p2 w) ars n → exB w (ars.map (·.1)) n e.toD = true
  | 0, _, h => h.elim
  | n + 1, .int i, h => by
    have h : 0 ≤ i ∧ i < p2 w := h
    simp [Ex.toD, exB, btw]; omega
  | n + 1, .var i, h => by
    have h : 0 ≤ i ∧ i ≤ 39 := h
    simp [Ex.toD, exB, btw]; omega
  | n + 1, .cell a e, h => by
    obtain ⟨⟨z, hz⟩, h2⟩ := h
    have := ex_ok h0 h2
    simp [Ex.toD, exB, this, eqS]
    exact ⟨z, hz⟩
  | n + 1, .one o e, h => by
    have := ex_ok h0 h.2
    have ho := h.1
    simp only [singleOps, List.mem_cons, List.not_mem_nil, or_false] at ho
    rcases ho with rfl | rfl <;> simp [Ex.toD, exB, this, singleOps]
  | n + 1, .two o e f, h => by
    have := ex_ok h0 h.2.1
    have g := ex_ok h0 h.2.2
    have ho := h.1
    simp only [pairOps, List.mem_cons, List.not_mem_nil, or_false] at ho
    rcases ho with rfl | rfl | rfl | rfl | rfl | rfl | rfl | rfl | rfl | rfl <;> simp [Ex.toD, exB, this, g, singleOps, pairOps]
theorem Ex.Wf.sm' {top : Int} {ars : List (Str × Int)} (ha : ∀ a ∈ ars, a.1.length ≤ 1000) : ∀ {n : Nat} {e : Ex}, e.Wf top ars n → smD e.toD = true
  | 0, _, h => h.elim
  | n + 1, .int i, h => by simp [Ex.toD, smD, smL]; decide +kernel
  | n + 1, .var i, h => by simp [Ex.toD, smD, smL]; decide +kernel
  | n + 1, .cell a e, h => by
    obtain ⟨⟨z, hz⟩, h2⟩ := h
    have h1 : (Str.ofString "cell").length ≤ 1000 := by decide +kernel
    have h3 : a.length ≤ 1000 := ha _ hz
    simp [Ex.toD, smD, smL, Ex.Wf.sm' ha h2, h1, h3]
  | n + 1, .one o e, h => by
    have ho := h.1
    have h1 : o.length ≤ 1000 := by
      simp only [singleOps, List.mem_cons, List.not_mem_nil, or_false] at ho
      rcases ho with rfl | rfl <;> decide +kernel
    simp [Ex.toD, smD, smL, Ex.Wf.sm' ha h.2, h1]
  | n + 1, .two o e f, h => by
    have ho := h.1
    have h1 : o.length ≤ 1000 := by
      simp only [pairOps, List.mem_cons, List.not_mem_nil, or_false] at ho
      rcases ho with rfl | rfl | rfl | rfl | rfl | rfl | rfl | rfl | rfl | rfl <;> decide +kernel
    simp [Ex.toD, smD, smL, Ex.Wf.sm' ha h.2.1, Ex.Wf.sm' ha h.2.2, h1]
theorem smT {l : List D} (h1 : l.length ≤ 60) (h2 : ∀ x ∈ l, smD x = true) : smD (.tup l) = true := by
  simp only [smD, Bool.and_eq_true, decide_eq_true_eq]
  exact ⟨h1, smL_iff.mpr h2⟩
section
variable {w : Int} {ars others : List (Str × Int)}
theorem sm_sm (ha : ∀ a ∈ ars, a.1.length ≤ 1000) (hq : ∀ a ∈ others, a.1.length ≤ 1000 ∧ a.2 ≤ 6) {s : Sm} (h : s.Wf (p2 w) ars others) : smD s.toD = true := by
  have c1 : (Str.ofString "set").length ≤ 1000 := by decide +kernel
  have c2 : (Str.ofString "take").length ≤ 1000 := by decide +kernel
  have c3 : (Str.ofString "put").length ≤ 1000 := by decide +kernel
  have c4 : (Str.ofString "store").length ≤ 1000 := by decide +kernel
  have c5 : (Str.ofString "assert").length ≤ 1000 := by decide +kernel
  have c6 : (Str.ofString "call").length ≤ 1000 := by decide +kernel
  cases s with
  | set v e => simp [Sm.toD, smD, smL, Ex.Wf.sm' ha h.2, c1]
  | take v => simp [Sm.toD, smD, smL, c2]
  | put e => simp [Sm.toD, smD, smL, Ex.Wf.sm' ha h, c3]
  | store a e f =>
    obtain ⟨⟨z, hz⟩, h1, h2⟩ := h
    have h3 : a.length ≤ 1000 := ha _ hz
    simp [Sm.toD, smD, smL, Ex.Wf.sm' ha h1, Ex.Wf.sm' ha h2, c4, h3]
  | assert k e => simp [Sm.toD, smD, smL, Ex.Wf.sm' ha h.2, c5]
  | call v p es =>
    obtain ⟨_, hp, hes⟩ := h
    have h3 : p.length ≤ 1000 := (hq _ hp).1
    have h4 : (es.length : Int) ≤ 6 := (hq _ hp).2
    have h5 : smD (.tup (es.map Ex.toD)) = true := smT (by simp; omega) fun x hx => by
      obtain ⟨e, he, rfl⟩ := List.mem_map.mp hx
      exact Ex.Wf.sm' ha (hes e he)
    refine smT (by simp) fun x hx => ?_
    simp only [List.mem_cons, List.not_mem_nil, or_false] at hx
    rcases hx with rfl | rfl | rfl | rfl
    · simpa [smD] using c6
    · rfl
    · simpa [smD] using h3
    · exact h5
theorem nd_sm (ha : ∀ a ∈ ars, a.1.length ≤ 1000) {L : List Int} {s : Nd} (h : s.Wf (p2 w) ars L) : smD s.toD = true := by
  have c1 : (Str.ofString "go").length ≤ 1000 := by decide +kernel
  have c2 : (Str.ofString "if").length ≤ 1000 := by decide +kernel
  have c3 : (Str.ofString "return").length ≤ 1000 := by decide +kernel
  cases s with
  | go l => simp [Nd.toD, smD, smL, c1]
  | iff e l m => simp [Nd.toD, smD, smL, Ex.Wf.sm' ha h.1, c2]
  | ret e => simp [Nd.toD, smD, smL, Ex.Wf.sm' ha h, c3]
end
theorem st_ok {v : Pv} {others : List (Str × Int)} (h0 : 0 ≤ v.w) (hcal : ∀ p (n : Nat), (p, (n : Int)) ∈ others → v.cal (.str p) n = true) {s : Sm} (h : s.Wf (p2 v.w) v.ars others) : stB v s.toD = true := by
  have ex : ∀ e : Ex, e.Wf (p2 v.w) v.ars 5 → v.ex e.toD = true := fun e h => ex_ok h0 (h.mono (by decide))
  cases s with
  | set x e => obtain ⟨h1, h2⟩ := h; simp [Sm.toD, stB, ex e h2, btw]; omega
  | take x => have h : 0 ≤ x ∧ x ≤ 39 := h; simp [Sm.toD, stB, btw]; omega
  | put e => simp [Sm.toD, stB, ex e h]
  | store a e f =>
    obtain ⟨⟨z, hz⟩, h1, h2⟩ := h
    simp [Sm.toD, stB, ex e h1, ex f h2, eqS, Pv.nms]
    exact ⟨z, hz⟩
  | assert x e => obtain ⟨h1, h2⟩ := h; simp [Sm.toD, stB, ex e h2, btw]; omega
  | call x p es =>
    obtain ⟨h1, h2, h3⟩ := h
    have := hcal p es.length h2
    simp [Sm.toD, stB, Pv.cll, this, btw]
    exact ⟨h1, fun e he => ex e (h3 e he)⟩
theorem nd_ok {v : Pv} {L : List Int} (h0 : 0 ≤ v.w) (hL : ∀ l ∈ L, 0 ≤ l ∧ l ≤ 999) {s : Nd} (h : s.Wf (p2 v.w) v.ars L) : ndB v s.toD = true ∧ ∀ x ∈ aimsD s.toD, ∃ l ∈ L, x = .int l := by
  have ex : ∀ e : Ex, e.Wf (p2 v.w) v.ars 5 → v.ex e.toD = true := fun e h => ex_ok h0 (h.mono (by decide))
  cases s with
  | go l =>
    have := hL l h
    refine ⟨by simp [Nd.toD, ndB, btw]; omega, fun x hx => ?_⟩
    simp [Nd.toD, aimsD] at hx
    exact ⟨l, h, hx⟩
  | iff e l m =>
    obtain ⟨h1, h2, h3⟩ := h
    have := hL l h2
    have := hL m h3
    refine ⟨by simp [Nd.toD, ndB, btw, ex e h1]; omega, fun x hx => ?_⟩
    simp [Nd.toD, aimsD] at hx
    rcases hx with rfl | rfl
    · exact ⟨l, h2, rfl⟩
    · exact ⟨m, h3, rfl⟩
  | ret e =>
    refine ⟨by simp [Nd.toD, ndB]; exact ex e h, fun x hx => ?_⟩
    simp [Nd.toD, aimsD] at hx
end Lk01
end
-- G1P
section
set_option maxRecDepth 100000
set_option maxHeartbeats 4000000
/-! G1P: a generated program has no faults: joined. -/
namespace Lk01
open PySem PySem.Spec PyProof.Rows L2 T3
def nL (L : List (Str × Int)) : Bool := L.all (fun a => nameS a.1) && (asc (L.map (·.1)) && L.any fun a => decide (a.1 = "main") && decide (a.2 = 0))
theorem nmsL {v : Pv} : nmsB v = nL (v.prs.map fun p => (p.name, p.par)) := by
  simp only [nmsB, nL, List.all_map, List.any_map, List.map_map]
  rfl
theorem inL_int {ls : List Int} {l : Int} : inL (ls.map .int) (.int l) = decide (l ∈ ls) := by
  unfold inL
  rw [List.any_map, Bool.eq_iff_iff]
  simp [D.py, PyData.eqv, Function.comp]
theorem ars_ok {l : List (Str × Int)} (h : ArsOk l) : (∀ a ∈ l, nameS a.1 = true ∧ 1 ≤ a.2 ∧ a.2 ≤ 8) ∧ asc (l.map (·.1)) = true ∧ ∀ a ∈ l, a.1.length ≤ 1000 := by
  have n1 : nameS "mem" = true := by decide +kernel
  have n2 : nameS "a" = true := by decide +kernel
  have n3 : nameS "b_2" = true := by decide +kernel
  have l1 : (Str.ofString "mem").length ≤ 1000 := by decide +kernel
  have l2 : (Str.ofString "a").length ≤ 1000 := by decide +kernel
  have l3 : (Str.ofString "b_2").length ≤ 1000 := by decide +kernel
  have hz := h.sz.2
  refine ⟨fun a ha => ⟨?_, hz a ha⟩, ?_, fun a ha => ?_⟩
  · rcases h with rfl | ⟨n, _, _, rfl⟩ | ⟨n, _, _, rfl⟩ | ⟨n, _, _, rfl⟩ <;> simp [ent] at ha
    · rw [ha]; exact n1
    · rcases ha with rfl | rfl
      · exact n2
      · exact n1
    · rcases ha with rfl | rfl | rfl
      · exact n2
      · exact n3
      · exact n1
  · rcases h with rfl | ⟨n, _, _, rfl⟩ | ⟨n, _, _, rfl⟩ | ⟨n, _, _, rfl⟩
    · decide
    · show asc [Str.ofString "mem"] = true; decide +kernel
    · show asc [Str.ofString "a", Str.ofString "mem"] = true; decide +kernel
    · show asc [Str.ofString "a", Str.ofString "b_2", Str.ofString "mem"] = true; decide +kernel
  · rcases h with rfl | ⟨n, _, _, rfl⟩ | ⟨n, _, _, rfl⟩ | ⟨n, _, _, rfl⟩ <;> simp [ent] at ha
    · rw [ha]; exact l1
    · rcases ha with rfl | rfl
      · exact l2
      · exact l1
    · rcases ha with rfl | rfl | rfl
      · exact l2
      · exact l3
      · exact l1
theorem oth_ok {l : List (Str × Int)} (h : OthOk l) : (∀ a ∈ l, a.1.length ≤ 1000 ∧ a.2 ≤ 6) ∧ (∀ a ∈ l, a.1 ≠ "main") ∧ nL (withMain l) = true ∧ (withMain l).length ≤ 3 ∧ (∀ a ∈ withMain l, (0 ≤ a.2 ∧ a.2 ≤ 6) ∧ a.1.length ≤ 1000 ∧ PyData.strOk a.1 = true) ∧ ∀ a ∈ l, a ∈ withMain l := by
  rcases h with rfl | rfl | rfl | rfl
  · refine ⟨by decide +kernel, by decide +kernel, by decide +kernel, by decide, by decide +kernel, by decide⟩
  · refine ⟨by decide +kernel, by decide +kernel, by decide +kernel, by decide, by decide +kernel, by decide +kernel⟩
  · refine ⟨by decide +kernel, by decide +kernel, by decide +kernel, by decide, by decide +kernel, by decide +kernel⟩
  · refine ⟨by decide +kernel, by decide +kernel, by decide +kernel, by decide, by decide +kernel, by decide +kernel⟩
theorem lbl_facts {gap : Int} {n : Nat} (h1 : 1 ≤ gap) (h3 : gap ≤ 3) (hn : n ≤ 6) : ((List.range n).map (lbl gap)).Nodup ∧ ∀ l ∈ (List.range n).map (lbl gap), 0 ≤ l ∧ l ≤ 999 := by
  constructor
  · rw [List.nodup_iff_pairwise_ne, List.pairwise_map]
    refine (List.nodup_range (n := n)).imp_of_mem fun {a b} ha hb hab e => ?_
    rw [List.mem_range] at ha hb
    unfold lbl at e
    have hg : gap = 1 ∨ gap = 2 ∨ gap = 3 := by omega
    rcases hg with rfl | rfl | rfl <;> omega
  · intro l hl
    obtain ⟨k, _, rfl⟩ := List.mem_map.mp hl
    unfold lbl; omega
theorem clean_cds {v : Pv} {others : List (Str × Int)} {bs : List Bk} (h0 : 0 ≤ v.w) (hcal : ∀ p (n : Nat), (p, (n : Int)) ∈ others → v.cal (.str p) n = true) (W : BlWf (p2 v.w) v.ars others bs) {b : Nat} {B : Bk} (hB : bs[b]? = some B) :
    cds v (bs.map fun b => D.int b.label) (bkP B) = [] ∧ inL ((bs.map fun b => D.int b.label).take b) (.int B.label) = false := by
  obtain ⟨gap, n, g1, g3, n1, n6, el⟩ := W.lab
  have lf := lbl_facts (gap := gap) (n := n) g1 g3 n6
  rw [← el] at lf
  have mB := List.mem_of_getElem? hB
  have mL : B.label ∈ bs.map Bk.label := List.mem_map_of_mem mB
  have eD : (bs.map fun b => D.int b.label) = (bs.map Bk.label).map D.int := by rw [List.map_map]; rfl
  have hnd := nd_ok (v := v) (L := (bs.map Bk.label).tail) h0 (fun l hl => lf.2 l (List.mem_of_mem_tail hl)) (W.nds B mB)
  have c1 : btw (bkP B).lab 0 999 = true := by have := lf.2 _ mL; simp [bkP, btw]; omega
  have c2 : (bkP B).body.all (stB v) = true := by
    rw [List.all_eq_true]
    intro x hx
    obtain ⟨s, hs, rfl⟩ := List.mem_map.mp hx
    exact st_ok h0 hcal (W.sms B mB s hs)
  have c3 : ndB v (bkP B).nd = true := hnd.1
  have c4 : (aimsD (bkP B).nd).all (inL ((bs.map Bk.label).map D.int)) = true := by
    rw [List.all_eq_true]
    intro x hx
    obtain ⟨l, hl, rfl⟩ := hnd.2 x hx
    rw [inL_int, decide_eq_true_eq]
    exact List.mem_of_mem_tail hl
  have c5 : inL (aimsD (bkP B).nd) (((bs.map Bk.label).map D.int).headD .non) = false := by
    cases e : bs.map Bk.label with
    | nil => rw [e] at mL; cases mL
    | cons l0 r =>
      rw [e] at hnd lf
      have hn0 := (List.nodup_cons.mp lf.1).1
      simp only [List.map_cons, List.headD_cons]
      unfold inL
      rw [List.any_eq_false]
      intro x hx
      obtain ⟨l, hl, rfl⟩ := hnd.2 x hx
      have : l ∈ r := hl
      simp [D.py, PyData.eqv]
      rintro rfl
      exact hn0 this
  refine ⟨?_, ?_⟩
  · rw [eD]
    unfold cds
    rw [c1, c2, c3, c4, c5]
    rfl
  · rw [eD, ← List.map_take, inL_int, decide_eq_false_iff_not]
    intro hm
    have hb : b < (bs.map Bk.label).length := by
      rcases Nat.lt_or_ge b bs.length with z | z
      · simpa using z
      · rw [List.getElem?_eq_none z] at hB; cases hB
    have eb : (bs.map Bk.label)[b] = B.label := by
      have hb' : b < bs.length := by simpa using hb
      rw [List.getElem?_eq_getElem hb'] at hB
      simp [Option.some.inj hB]
    obtain ⟨j, hj, ej⟩ := List.mem_iff_getElem.mp hm
    rw [List.length_take] at hj
    rw [List.getElem_take] at ej
    exact List.pairwise_iff_getElem.mp lf.1 j b (by omega) hb (by omega) (by rw [ej, eb])
theorem prog_ok {w : Int} {others : List (Str × Int)} {pg : Pg} (w1 : 1 ≤ w) (w16 : w ≤ 16) (wf : PgWf w others pg) : (∀ h, Ctx h (pgP pg)) ∧ Fit 6 (pgP pg) ∧ ∀ x, ¬ InF (pgP pg) x := by
  obtain rfl := wf.wd
  obtain ⟨a1, a2, a3⟩ := ars_ok wf.ars
  obtain ⟨o1, o2, o3, o4, o5, o6⟩ := oth_ok wf.oth
  have enames : (pgP pg).prs.map (fun p => (p.name, p.par)) = withMain others := by
    rw [← wf.prs]
    simp only [pgP, List.map_map]
    rfl
  have h0 : 0 ≤ (pgP pg).w := by show 0 ≤ pg.w; omega
  have hcal : ∀ p (n : Nat), (p, (n : Int)) ∈ others → (pgP pg).cal (.str p) n = true := fun p n hp => by
    have hm := o6 _ hp
    rw [← enames] at hm
    obtain ⟨P, hP, e⟩ := List.mem_map.mp hm
    have := o2 _ hp
    simp only [Prod.mk.injEq] at e
    refine List.any_eq_true.mpr ⟨P, hP, ?_⟩
    have hne : ¬ P.name = "main" := by rw [e.1]; exact this
    simp only [eqS, e.1, e.2, decide_true, Bool.true_and, Bool.and_eq_true, Bool.not_eq_true', decide_eq_false_iff_not]
    rw [e.1] at hne
    exact ⟨hne, trivial⟩
  have lp : pg.procs.length ≤ 3 := by
    have := congrArg List.length wf.prs
    simp at this; omega
  have each : ∀ p ∈ pg.procs, ((0 ≤ p.params ∧ p.params ≤ 6) ∧ p.name.length ≤ 1000 ∧ PyData.strOk p.name = true) := fun p hp => o5 (p.name, p.params) (by rw [← wf.prs]; exact List.mem_map.mpr ⟨p, hp, rfl⟩)
  have pos : ∀ p ∈ pg.procs, 0 < p.blocks.length ∧ p.blocks.length ≤ 6 := fun p hp => (wf.bls p hp).pos
  have wfv : (pgP pg).Wf := ⟨⟨w1, w16⟩, a1, a2, fun P hP => by
    obtain ⟨p, hp, rfl⟩ := List.mem_map.mp hP
    refine ⟨(each p hp).1, fun e => ?_⟩
    have e' : p.blocks.map bkP = [] := e
    rw [List.map_eq_nil_iff] at e'
    have := (pos p hp).1
    rw [e'] at this
    exact absurd this (by simp)⟩
  refine ⟨fun h => ⟨wfv, ?_⟩, ⟨⟨by simpa [pgP] using lp, ?_, ?_⟩, wf.ars.sz.1, ?_⟩, fun x hx => ?_⟩
  · rw [pgP_toD]
    have ok : pg.toD.ok = true := by
      have k1 : D.okL (pg.arrays.map arD) = true := by
        rw [okL_iff]
        intro d hd
        obtain ⟨a, ha, rfl⟩ := List.mem_map.mp hd
        simp [arD, D.ok, D.okL, wf.ars.ok a ha]
      have k2 : D.okL (pg.procs.map Pr.toD) = true := by
        rw [okL_iff]
        intro d hd
        obtain ⟨p, hp, rfl⟩ := List.mem_map.mp hd
        exact Pr.ok wf.ars.ok (fun a ha => ((wf.oth.ok).2 a ha).2) (each p hp).2.2 (wf.bls p hp)
      simp [Pg.toD, D.ok, D.okL, k1, k2]
    refine ⟨?_, _, rs_py ok⟩
    refine smT (by simp) fun x hx => ?_
    simp only [List.mem_cons, List.not_mem_nil, or_false] at hx
    rcases hx with rfl | rfl | rfl
    · rfl
    · refine smT (by have := wf.ars.sz.1; simp; omega) fun x hx => ?_
      obtain ⟨a, ha, rfl⟩ := List.mem_map.mp hx
      have := a3 a ha
      simp [arD, smD, smL]; exact this
    · refine smT (by simp; omega) fun x hx => ?_
      obtain ⟨p, hp, rfl⟩ := List.mem_map.mp hx
      refine smT (by simp) fun x hx => ?_
      simp only [List.mem_cons, List.not_mem_nil, or_false] at hx
      rcases hx with rfl | rfl | rfl
      · simpa [smD] using (each p hp).2.1
      · rfl
      · refine smT (by have := (pos p hp).2; simp; omega) fun x hx => ?_
        obtain ⟨b, hb, rfl⟩ := List.mem_map.mp hx
        refine smT (by simp) fun x hx => ?_
        simp only [List.mem_cons, List.not_mem_nil, or_false] at hx
        rcases hx with rfl | rfl | rfl
        · rfl
        · refine smT (by have := (wf.bls p hp).few b hb; simp; omega) fun x hx => ?_
          obtain ⟨s, hs, rfl⟩ := List.mem_map.mp hx
          exact sm_sm a3 o1 ((wf.bls p hp).sms b hb s hs)
        · exact nd_sm a3 ((wf.bls p hp).nds b hb)
  · intro P hP
    obtain ⟨p, hp, rfl⟩ := List.mem_map.mp hP
    have := (pos p hp).2
    simpa [prP] using this
  · intro P hP B hB
    obtain ⟨p, hp, rfl⟩ := List.mem_map.mp hP
    obtain ⟨b, hb, rfl⟩ := List.mem_map.mp hB
    trivial
  · intro P hP B hB
    obtain ⟨p, hp, rfl⟩ := List.mem_map.mp hP
    obtain ⟨b, hb, rfl⟩ := List.mem_map.mp hB
    have := (wf.bls p hp).few b hb
    simpa [bkP] using this
  · rcases hx with ⟨_, hn⟩ | ⟨i, b, P, B, h1, h2, _, h4⟩
    · rw [nmsL, enames, o3] at hn; cases hn
    · have hP := List.mem_of_getElem? h1
      obtain ⟨p, hp, rfl⟩ := List.mem_map.mp hP
      rw [show (prP p).bls = p.blocks.map bkP from rfl, List.getElem?_map, Option.map_eq_some_iff] at h2
      obtain ⟨b', hb', rfl⟩ := h2
      have key := clean_cds (v := pgP pg) h0 hcal (wf.bls p hp) hb'
      have el : (prP p).labs = p.blocks.map fun b => D.int b.label := by simp only [Pc.labs, prP, List.map_map]; rfl
      rw [el] at h4
      rcases h4 with ⟨_, h4⟩ | ⟨c, hc, _⟩
      · have := key.2
        have e : (bkP b').lab = .int b'.label := rfl
        rw [e] at h4
        rw [this] at h4; cases h4
      · rw [key.1] at hc; cases hc
end Lk01
end
-- G1Q
section
set_option maxRecDepth 100000
set_option maxHeartbeats 4000000
/-! G1Q: the law. -/
namespace Lk01
open PySem PySem.Spec PyProof.Rows L2 T3
def sp_bentA : Sp3 := fun l h k => ∃ n, sp_bent n l h k
theorem ok_l_bentA : ∀ l h k, sp_bentA l h k → W_l_bent sp_take sp_put sp_bentrow (en k) (ev0 N_l_bent l) h := by
  rintro l h k ⟨n, q⟩
  exact ok_l_bent n l h k q
theorem fits_sml {n : Nat} {d : D} (f : Fits n d) : Sml d := fun v e => (f v e).sm
theorem ans_its {d : D} {ys : List D} (a : Ans d ys) (hs : Sml d) : (∀ x ∈ ys, IsIt x) := by
  unfold Ans at a
  split at a
  · exact fun x hx => ((a.mem x).mp hx).it
  · subst a
    intro x hx
    rw [List.mem_singleton.mp hx]
    exact ⟨[], _, rfl, by decide +kernel, by simp⟩
def sp_law (G : Sc) : Sp3 := fun l h k => l = [.ref G.a] ∧ ∀ h', k (.bl true) h'
theorem ok_law (G : Sc) : ∀ l h k, sp_law G l h k → W_law (sp_draw G) sp_program sp_take sp_due sp_pf sp_formed sp_bentA sp_right (en k) (ev0 N_law l) h := by
  rintro l h k ⟨rfl, post⟩
  have e0 : ev0 N_law [.ref G.a] = [some (.ref G.a), none, none, none, none] := rfl
  rw [e0]
  simp only [W_law, s_seq, s_asg, s_L, s_cons, s_nil, s_var, s_c, s_w2, s_lst, s_gN, List.set_cons_zero, List.set_cons_succ]
  refine ⟨_, rfl, rfl, fun dr h1 d1 n1 keep1 => ?_⟩
  refine ⟨_, rfl, by simp, fun q nq => ?_⟩
  refine ⟨_, rfl, dr, 4, rfl, d1.new nq, by decide, .inl (by decide), fun t h2 t0 t4 g2 => ?_⟩
  obtain ⟨g3, hq⟩ := Grow.born d1 nq g2
  obtain ⟨x, ex, hx⟩ := at_toNat (l := [D.int 1, .int 2, .int 4, .int 16]) t0 (by simpa using t4)
  obtain ⟨w, rfl, w1, w16⟩ : ∃ w : Int, x = .int w ∧ 1 ≤ w ∧ w ≤ 16 := by
    simp only [List.mem_cons, List.not_mem_nil, or_false] at hx
    rcases hx with rfl | rfl | rfl | rfl <;> exact ⟨_, rfl, by decide, by decide⟩
  refine ⟨_, _, hq, ex, ?_⟩
  refine ⟨dr, w, 4, 3, rfl, w1, w16, by decide, by decide, by decide, by decide, g3.drw, fun pg others h4 wf g4 => ?_⟩
  obtain ⟨pc, pf, pno⟩ := prog_ok w1 w16 wf
  rw [← pgP_toD]
  generalize pgP pg = v at pc pf pno
  have d4 := g4.drw
  clear wf g4 g3 g2 hq
  have nil : ∀ ys, Ans v.toD ys → ys = [] := fun ys a => by
    unfold Ans at a
    rw [pv_some (pc h4).wf] at a
    exact List.eq_nil_iff_forall_not_mem.mpr fun x hx => pno x ((a.mem x).mp hx)
  have sml : Sml v.toD := fun u e => by have := Pv.inj e; subst this; exact pf.sm
  simp only [s_gN, s_seq, s_ifS, s_or, s_B, s_w2, s_L, s_cons, s_nil, s_var, List.set_cons_zero, List.set_cons_succ]
  refine ⟨_, rfl, _, rfl, (pc h4).ok, sml, fun h5 p ys s5 a5 e5 => ?_⟩
  obtain rfl := nil ys a5
  rw [s_lst]
  refine ⟨by simp, fun q5 n5 => ?_⟩
  have s5' := s5.trans ((Sub.refl h5).up (o := .lst []) n5)
  have e5' : (up h5 q5 (.lst [])) p = some (.lst []) := (Sub.refl h5).up (o := .lst []) n5 _ _ e5
  refine rEq_nilV e5' up_same (fun x hx => nomatch hx) ?_
  generalize up h5 q5 (.lst []) = h6 at s5' e5' ⊢
  simp only [List.isEmpty_nil, asB_bl]
  simp only [bne_self_eq_false, Bool.false_eq_true, if_false]
  refine ⟨_, rfl, _, rfl, (pc h6).ok, sml, fun h7 p7 ys s7 a7 e7 => ?_⟩
  obtain rfl := nil ys a7
  rw [s_lst]
  refine ⟨by simp, fun q7 n7 => ?_⟩
  have s7' := (s5'.trans s7).trans ((Sub.refl h7).up (o := .lst []) n7)
  refine rEq_nilV ((Sub.refl h7).up (o := .lst []) n7 _ _ e7) up_same (fun x hx => nomatch hx) ?_
  generalize up h7 q7 (.lst []) = h8 at s7' ⊢
  simp only [List.isEmpty_nil, asB_bl, bne_self_eq_false, Bool.false_eq_true, if_false, s_next, wNext, s_seq, s_asg, s_var, s_gN, List.set_cons_zero, List.set_cons_succ, fors_rg1, s_cons, s_nil, s_w2, s_c, s_L]
  have d8 := (Grow.of_sub d4 s7').drw
  refine ⟨_, rfl, _, rfl, dr, 3, rfl, d8, by decide, .inl (by decide), fun r h9 r0 r3 g9 => ?_⟩
  try dsimp only
  rw [s_add_ii]
  refine ⟨_, rfl, by omega, by omega, ?_⟩
  have lenR : ∀ n, (rgD 0 n).length = n := fun n => by simp [rgD]
  refine for_inv (fun j ρ h' => ∃ d x4, ρ = [some (.ref G.a), some (.ref dr), some v.toD, some d, x4] ∧ Drw h' dr ∧ VOk (hide dr h') d ∧ Fits (6 + j) d) (fun _ _ _ _ _ => trivial) ⟨v.toD, none, rfl, g9.drw, (pc _).ok, fun u e => by have := Pv.inj e; subst this; exact pf⟩ ?_ ?_
  · rintro j x ρ h' hx ⟨d, x4, rfl, dd, vd, fd⟩ N hN
    obtain ⟨hj, rfl⟩ := rgD_at hx
    have hj3 : j < 3 := by omega
    have fin : ∀ d x4 h', Drw h' dr → VOk (hide dr h') d → Fits (6 + j + 1) d →
        (wIfS (wNot (wB (wL sp_right (wCons (wVar 3) (wCons (wL sp_pf (wCons (wVar 3) (wNil))) (wCons (wL sp_due (wCons (wVar 3) (wNil))) (wNil))))))) (wRet (wC (.bl false))) (wNext)) { nx := N, ct := N, bk := wRet (wC (.bl true)) (en k), rt := (en k).rt } [some (.ref G.a), some (.ref dr), some v.toD, some d, x4] h' := by
      intro d x4 h' dd vd fd
      simp only [s_ifS, s_not, s_B, s_L, s_cons, s_nil, s_var]
      refine ⟨_, rfl, _, rfl, d, rfl, vd.mono hide_sub, fits_sml fd, fun h2 p ys s2 a2 e2 => ?_⟩
      have g2 := Grow.of_sub dd s2
      have vd2 := vd.mono g2.hide
      refine ⟨_, rfl, d, rfl, vd2.mono hide_sub, fits_sml fd, fun h3 p3 zs s3 a3 e3 => ?_⟩
      have := a2.uniq a3
      subst this
      have hits := ans_its a2 (fits_sml fd)
      have hlen : ys.length ≤ 1000 := by
        unfold Ans at a2
        split at a2
        · exact a2.len
        · rw [a2]; simp
      refine ⟨d, p, p3, ys, rfl, s3 _ _ e2, e3, hits, hlen, fun h4 s4 => ?_⟩
      simp only [asB_bl, Bool.not_true, Bool.false_eq_true, if_false]
      have g4 := Grow.of_sub g2.drw (s3.trans s4)
      exact hN _ _ ⟨d, _, rfl, g4.drw, vd2.mono g4.hide, by rw [← Nat.add_assoc]; exact fd⟩
    have up1 : ∀ d, Fits (6 + j) d → Fits (6 + j + 1) d := fun d f u e => ⟨(f u e).sm, (f u e).as, fun p hp b hb => Nat.le_succ_of_le ((f u e).bd p hp b hb)⟩
    simp only [s_gN, s_seq, s_ifS, s_and, s_B, s_L, s_cons, s_nil, s_w2, s_var, s_c, List.set_cons_zero, List.set_cons_succ]
    refine ⟨_, rfl, d, rfl, vd.mono hide_sub, fun h2 s2 => ?_⟩
    have g2 := Grow.of_sub dd s2
    have vd2 := vd.mono g2.hide
    simp only [asB_bl]
    cases hf : formB d with
    | false =>
      simp only [Bool.false_eq_true, if_false]
      exact fin d _ h2 g2.drw vd2 (up1 d fd)
    | true =>
      obtain ⟨u, rfl, wf⟩ := form_iff.mp hf
      simp only [if_true]
      refine ⟨_, rfl, ?_⟩
      rw [show u.toD = .tup [.int u.w, .tup (u.ars.map arD), .tup (u.prs.map Pc.toD)] from rfl, s_ix_t, atI_lit]
      refine ⟨_, rfl, ?_⟩
      rw [s_tup]
      refine ⟨by simp, ?_⟩
      have vps : VOk h2 (.tup (u.prs.map Pc.toD)) := (vd2.mono hide_sub).tup.2 _ (by simp [Pv.toD])
      refine rEq_tup0 vps ?_
      simp only [asB_bl]
      cases hu : u.prs with
      | nil =>
        simp only [List.map_nil, List.isEmpty_nil, bne_self_eq_false, Bool.false_eq_true, if_false]
        rw [s_next]
        have := fin u.toD (some (.int j)) h2 g2.drw vd2 (up1 _ fd)
        simpa only [Pv.toD, hu, List.map_nil] using this
      | cons p ps =>
        simp only [List.map_cons, List.isEmpty_cons, Bool.bne_true, Bool.not_false, if_true]
        simp only [s_asg, s_L, s_cons, s_nil, s_var, s_gN]
        refine ⟨_, rfl, _, rfl, 6 + j, dr, u, by simp only [Pv.toD, hu, List.map_cons], g2.drw, ⟨wf, vd2⟩, fd u rfl, by omega, by rw [hu]; simp, fun d3 h3 g3 v3 f3 => ?_⟩
        exact fin d3 _ h3 g3.drw v3 f3
  · rintro ρ h' ⟨d, x4, rfl, dd, vd, fd⟩
    exact en_rt (post _)
end Lk01
end
-- J01
section
set_option maxRecDepth 100000
set_option maxHeartbeats 4000000
namespace Lk01
open PySem PySem.Spec PyProof.Rows L2 T3
/-- what the module's top has left -/
structure Top (P : Program) (w : World) (K : PySem.W.Frag) (mg : Str → Option Value) (base : Heap) : Prop where
  T : Mg mg
  TT : Mt K mg

  d_top : At K mg "top" s_top
  d_is_number : At K mg "is_number" s_is_number
  d_is_between : At K mg "is_between" s_is_between
  d_is_variable_text : At K mg "is_variable_text" s_is_variable_text
  d_is_name : At K mg "is_name" s_is_name
  d_size_of : At K mg "size_of" s_size_of
  d_targets : At K mg "targets" s_targets
  d_is_label : At K mg "is_label" s_is_label
  d_is_expression : AtD K mg "is_expression" s_is_expression 20
  d_is_call : At K mg "is_call" s_is_call
  d_is_statement : At K mg "is_statement" s_is_statement
  d_is_end : At K mg "is_end" s_is_end
  d_are_arrays : At K mg "are_arrays" s_are_arrays
  d_is_procedure_form : At K mg "is_procedure_form" s_is_procedure_form
  d_are_names : At K mg "are_names" s_are_names
  d_block_codes : At K mg "block_codes" s_block_codes
  d_program_faults : At K mg "program_faults" s_program_faults
  d_l_draw : At K mg "_law_draw" s_l_draw
  d_l_take : At K mg "_law_take" s_l_take
  d_l_top : At K mg "_law_top" s_l_top
  d_l_word : At K mg "_law_word" s_l_word
  d_l_ops : At K mg "_law_ops" s_l_ops
  d_l_variable : At K mg "_law_variable" s_l_variable
  d_l_expression : At K mg "_law_expression" s_l_expression
  d_l_index : At K mg "_law_index" s_l_index
  d_l_row : At K mg "_law_row" s_l_row
  d_l_blocks : At K mg "_law_blocks" s_l_blocks
  d_l_program : At K mg "_law_program" s_l_program
  d_l_is_in : At K mg "_law_is_in" s_l_is_in
  d_l_is_name : At K mg "_law_is_name" s_l_is_name
  d_l_fits : At K mg "_law_fits" s_l_fits
  d_l_row_fits : At K mg "_law_row_fits" s_l_row_fits
  d_l_end_fits : At K mg "_law_end_fits" s_l_end_fits
  d_l_formed : At K mg "_law_formed" s_l_formed
  d_l_due : At K mg "_law_due" s_l_due
  d_l_deep : At K mg "_law_deep" s_l_deep
  d_l_bent_row : At K mg "_law_bent_row" s_l_bent_row
  d_l_put : At K mg "_law_put" s_l_put
  d_l_bent : At K mg "_law_bent" s_l_bent
  d_l_right : At K mg "_law_right" s_l_right
  law : At K mg "law" s_law
section
variable {P : Program} {w : World} {K : PySem.W.Frag} {mg : Str → Option Value} {base : Heap} {G : Sc} (X : Top P w K mg base)
include X
theorem J_top : Fd P w K mg base G "top" 2 (sp_top) :=
  mkFd X.d_top sc_top (fun f fd F => F.binds (ps := ["w"]) fun _ _ _ _ _ _ us hl => match us, hl with | [_], _ => rfl)
    (fun f cdv A outer s H E hr => walk_top (C_s := ()) (k := 0) X.T cdv A outer s H E hr )
    (by intro l h k q; repeat (first | (obtain ⟨rfl, _⟩ := q; rfl) | (obtain rfl := q; rfl) | (obtain ⟨_, q⟩ := q))) (ok_top1)
theorem J_is_number : Fd P w K mg base G "is_number" 2 (sp_num) :=
  mkFd X.d_is_number sc_is_number (fun f fd F => F.binds (ps := ["value"]) fun _ _ _ _ _ _ us hl => match us, hl with | [_], _ => rfl)
    (fun f cdv A outer s H E hr => walk_is_number (C_s := ()) (k := 0) X.T cdv A outer s H E hr )
    (by intro l h k q; repeat (first | (obtain ⟨rfl, _⟩ := q; rfl) | (obtain rfl := q; rfl) | (obtain ⟨_, q⟩ := q))) (ok_is_number)
theorem J_is_between : Fd P w K mg base G "is_between" 3 (sp_btw) :=
  mkFd X.d_is_between sc_is_between (fun f fd F => F.binds (ps := ["value", "least", "most"]) fun _ _ _ _ _ _ us hl => match us, hl with | [_, _, _], _ => rfl)
    (fun f cdv A outer s H E hr => walk_is_between (C_s := ()) (k := 1) X.T cdv A outer s H E hr ((J_is_number X).mono (by decide)))
    (by intro l h k q; repeat (first | (obtain ⟨rfl, _⟩ := q; rfl) | (obtain rfl := q; rfl) | (obtain ⟨_, q⟩ := q))) (ok_is_between)
theorem J_is_variable_text : Fd P w K mg base G "is_variable_text" 2 (sp_vtext) :=
  mkFd X.d_is_variable_text sc_is_variable_text (fun f fd F => F.binds (ps := ["text"]) fun _ _ _ _ _ _ us hl => match us, hl with | [_], _ => rfl)
    (fun f cdv A outer s H E hr => walk_is_variable_text (C_s := ()) (k := 0) X.T cdv A outer s H E hr )
    (by intro l h k q; repeat (first | (obtain ⟨rfl, _⟩ := q; rfl) | (obtain rfl := q; rfl) | (obtain ⟨_, q⟩ := q))) (ok_is_variable_text)
theorem J_is_name : Fd P w K mg base G "is_name" 3 (sp_name) :=
  mkFd X.d_is_name sc_is_name (fun f fd F => F.binds (ps := ["value"]) fun _ _ _ _ _ _ us hl => match us, hl with | [_], _ => rfl)
    (fun f cdv A outer s H E hr => walk_is_name (C_s := ()) (k := 1) X.T cdv A outer s H E hr X.TT ((J_is_variable_text X).mono (by decide)))
    (by intro l h k q; repeat (first | (obtain ⟨rfl, _⟩ := q; rfl) | (obtain rfl := q; rfl) | (obtain ⟨_, q⟩ := q))) (ok_is_name)
theorem J_size_of : Fd P w K mg base G "size_of" 2 (sp_sizeof) :=
  mkFd X.d_size_of sc_size_of (fun f fd F => F.binds (ps := ["program", "name"]) fun _ _ _ _ _ _ us hl => match us, hl with | [_, _], _ => rfl)
    (fun f cdv A outer s H E hr => walk_size_of (C_s := ()) (k := 0) X.T cdv A outer s H E hr )
    (by intro l h k q; repeat (first | (obtain ⟨rfl, _⟩ := q; rfl) | (obtain rfl := q; rfl) | (obtain ⟨_, q⟩ := q))) (ok_size_of1)
theorem J_targets : Fd P w K mg base G "targets" 2 (sp_targets) :=
  mkFd X.d_targets sc_targets (fun f fd F => F.binds (ps := ["end"]) fun _ _ _ _ _ _ us hl => match us, hl with | [_], _ => rfl)
    (fun f cdv A outer s H E hr => walk_targets (C_s := ()) (k := 0) X.T cdv A outer s H E hr )
    (by intro l h k q; repeat (first | (obtain ⟨rfl, _⟩ := q; rfl) | (obtain rfl := q; rfl) | (obtain ⟨_, q⟩ := q))) (ok_targets1)
theorem J_is_label : Fd P w K mg base G "is_label" 4 (sp_label) :=
  mkFd X.d_is_label sc_is_label (fun f fd F => F.binds (ps := ["value"]) fun _ _ _ _ _ _ us hl => match us, hl with | [_], _ => rfl)
    (fun f cdv A outer s H E hr => walk_is_label (C_s := ()) (k := 2) X.T cdv A outer s H E hr ((J_is_between X).mono (by decide)))
    (by intro l h k q; repeat (first | (obtain ⟨rfl, _⟩ := q; rfl) | (obtain rfl := q; rfl) | (obtain ⟨_, q⟩ := q))) (ok_is_label)
theorem R_is_expression : ∀ m : Nat, Fd P w K mg base G "is_expression" (4 + m) (sp_isex m)
  | 0 => Fd.noD X.d_is_expression (ps := ["program", "value", "depth"]) (fun _ _ _ _ _ _ _ _ us hl => match us, hl with | [_, _, _], _ => ⟨_, rfl, rfl⟩) (by rintro l h k ⟨_, _, _, _, z, _⟩; omega)
  | m + 1 => (mkFdD (k := 4 + m) X.d_is_expression sc_is_expression (fun _ _ _ _ _ _ _ _ us hl => match us, hl with | [_, _, _], _ => ⟨_, rfl, rfl⟩)
    (fun f cdv A outer s H E hr => walk_is_expression (C_s := ()) (k := 3 + m) X.T cdv A outer s H E (hr.mono (by omega)) X.TT ((J_is_between X).mono (by omega)) ((J_top X).mono (by omega)) ((J_size_of X).mono (by omega)) ((R_is_expression m).mono (by omega)))
    (by intro l h k q; repeat (first | (obtain ⟨rfl, _⟩ := q; rfl) | (obtain rfl := q; rfl) | (obtain ⟨_, q⟩ := q))) (ok_is_expression m))
theorem J_is_expression : Fd P w K mg base G "is_expression" 25 sp_ex20 :=
  mkFdS (k := 24) X.d_is_expression sc_is_expression (fun _ _ _ _ _ _ _ _ us hl => match us, hl with | [_, _], _ => ⟨_, rfl, rfl⟩)
    (fun f cdv A outer s H E hr => walk_is_expression (C_s := ()) (k := 23) X.T cdv A outer s H E (hr.mono (by omega)) X.TT ((J_is_between X).mono (by omega)) ((J_top X).mono (by omega)) ((J_size_of X).mono (by omega)) ((R_is_expression X 20).mono (by omega)))
    (by intro l h k q; repeat (first | (obtain ⟨rfl, _⟩ := q; rfl) | (obtain rfl := q; rfl) | (obtain ⟨_, q⟩ := q))) (ok_is_expression 20) (by rintro l h k ⟨v, d, rfl, c, vd, q⟩; exact ⟨v, d, 20, rfl, by omega, c, vd, q⟩)
theorem J_is_call : Fd P w K mg base G "is_call" 26 (sp_call) :=
  mkFd X.d_is_call sc_is_call (fun f fd F => F.binds (ps := ["program", "value"]) fun _ _ _ _ _ _ us hl => match us, hl with | [_, _], _ => rfl)
    (fun f cdv A outer s H E hr => walk_is_call (C_s := ()) (k := 24) X.T cdv A outer s H E hr ((J_is_between X).mono (by decide)) ((J_is_expression X).mono (by decide)))
    (by intro l h k q; repeat (first | (obtain ⟨rfl, _⟩ := q; rfl) | (obtain rfl := q; rfl) | (obtain ⟨_, q⟩ := q))) (ok_is_call)
theorem J_is_statement : Fd P w K mg base G "is_statement" 27 (sp_st) :=
  mkFd X.d_is_statement sc_is_statement (fun f fd F => F.binds (ps := ["program", "value"]) fun _ _ _ _ _ _ us hl => match us, hl with | [_, _], _ => rfl)
    (fun f cdv A outer s H E hr => walk_is_statement (C_s := ()) (k := 25) X.T cdv A outer s H E hr ((J_is_expression X).mono (by decide)) ((J_is_between X).mono (by decide)) ((J_size_of X).mono (by decide)) ((J_is_call X).mono (by decide)))
    (by intro l h k q; repeat (first | (obtain ⟨rfl, _⟩ := q; rfl) | (obtain rfl := q; rfl) | (obtain ⟨_, q⟩ := q))) (ok_is_statement)
theorem J_is_end : Fd P w K mg base G "is_end" 26 (sp_end) :=
  mkFd X.d_is_end sc_is_end (fun f fd F => F.binds (ps := ["program", "value"]) fun _ _ _ _ _ _ us hl => match us, hl with | [_, _], _ => rfl)
    (fun f cdv A outer s H E hr => walk_is_end (C_s := ()) (k := 24) X.T cdv A outer s H E hr ((J_is_label X).mono (by decide)) ((J_is_expression X).mono (by decide)))
    (by intro l h k q; repeat (first | (obtain ⟨rfl, _⟩ := q; rfl) | (obtain rfl := q; rfl) | (obtain ⟨_, q⟩ := q))) (ok_is_end)
theorem J_are_arrays : Fd P w K mg base G "are_arrays" 4 (sp_arrs) :=
  mkFd X.d_are_arrays sc_are_arrays (fun f fd F => F.binds (ps := ["value"]) fun _ _ _ _ _ _ us hl => match us, hl with | [_], _ => rfl)
    (fun f cdv A outer s H E hr => walk_are_arrays (C_s := ()) (k := 2) X.T cdv A outer s H E hr ((J_is_between X).mono (by decide)) ((J_is_name X).mono (by decide)))
    (by intro l h k q; repeat (first | (obtain ⟨rfl, _⟩ := q; rfl) | (obtain rfl := q; rfl) | (obtain ⟨_, q⟩ := q))) (ok_are_arrays)
theorem J_is_procedure_form : Fd P w K mg base G "is_procedure_form" 2 (sp_prF) :=
  mkFd X.d_is_procedure_form sc_is_procedure_form (fun f fd F => F.binds (ps := ["value"]) fun _ _ _ _ _ _ us hl => match us, hl with | [_], _ => rfl)
    (fun f cdv A outer s H E hr => walk_is_procedure_form (C_s := ()) (k := 0) X.T cdv A outer s H E hr )
    (by intro l h k q; repeat (first | (obtain ⟨rfl, _⟩ := q; rfl) | (obtain rfl := q; rfl) | (obtain ⟨_, q⟩ := q))) (ok_is_procedure_form)
theorem J_are_names : Fd P w K mg base G "are_names" 4 (sp_arenm) :=
  mkFd X.d_are_names sc_are_names (fun f fd F => F.binds (ps := ["procedures"]) fun _ _ _ _ _ _ us hl => match us, hl with | [_], _ => rfl)
    (fun f cdv A outer s H E hr => walk_are_names (C_s := ()) (k := 2) X.T cdv A outer s H E hr ((J_is_name X).mono (by decide)) ((J_is_number X).mono (by decide)))
    (by intro l h k q; repeat (first | (obtain ⟨rfl, _⟩ := q; rfl) | (obtain rfl := q; rfl) | (obtain ⟨_, q⟩ := q))) (ok_are_names)
theorem J_block_codes : Fd P w K mg base G "block_codes" 28 (sp_codes) :=
  mkFd X.d_block_codes sc_block_codes (fun f fd F => F.binds (ps := ["program", "procedure", "block"]) fun _ _ _ _ _ _ us hl => match us, hl with | [_, _, _], _ => rfl)
    (fun f cdv A outer s H E hr => walk_block_codes (C_s := ()) (k := 26) X.T cdv A outer s H E hr ((J_is_label X).mono (by decide)) ((J_is_statement X).mono (by decide)) ((J_is_end X).mono (by decide)) ((J_targets X).mono (by decide)))
    (by intro l h k q; repeat (first | (obtain ⟨rfl, _⟩ := q; rfl) | (obtain rfl := q; rfl) | (obtain ⟨_, q⟩ := q))) (ok_block_codes)
theorem J_program_faults : Fd P w K mg base G "program_faults" 29 (sp_pf) :=
  mkFd X.d_program_faults sc_program_faults (fun f fd F => F.binds (ps := ["value"]) fun _ _ _ _ _ _ us hl => match us, hl with | [_], _ => rfl)
    (fun f cdv A outer s H E hr => walk_program_faults (C_s := ()) (k := 27) X.T cdv A outer s H E hr ((J_are_arrays X).mono (by decide)) ((J_is_between X).mono (by decide)) ((J_is_procedure_form X).mono (by decide)) ((J_are_names X).mono (by decide)) ((J_block_codes X).mono (by decide)))
    (by intro l h k q; repeat (first | (obtain ⟨rfl, _⟩ := q; rfl) | (obtain rfl := q; rfl) | (obtain ⟨_, q⟩ := q))) (ok_program_faults)
section
variable (hGK : G.K = K) (hGn : G.ns.length ≤ 1000)
include hGK hGn in
theorem J_l_draw : Fd P w K mg base G "_law_draw" 2 (sp_draw G) :=
  mkFd X.d_l_draw sc_l_draw (fun f fd F => F.binds (ps := ["script"]) fun _ _ _ _ _ _ us hl => match us, hl with | [_], _ => rfl)
    (fun f cdv A outer s H E hr => walk_l_draw (C_s := ()) (k := 0) X.T cdv A outer s H E hr hGK)
    (by rintro l h k ⟨rfl, _⟩; rfl) (ok_draw G hGn)
end
theorem J_l_take : Fd P w K mg base G "_law_take" 2 (sp_take) :=
  mkFd X.d_l_take sc_l_take (fun f fd F => F.binds (ps := ["draw", "many"]) fun _ _ _ _ _ _ us hl => match us, hl with | [_, _], _ => rfl)
    (fun f cdv A outer s H E hr => walk_l_take (C_s := ()) (k := 0) X.T cdv A outer s H E hr )
    (by intro l h k q; repeat (first | (obtain ⟨rfl, _⟩ := q; rfl) | (obtain rfl := q; rfl) | (obtain ⟨_, q⟩ := q))) (ok_take)
theorem J_l_top : Fd P w K mg base G "_law_top" 2 (sp_top) :=
  mkFd X.d_l_top sc_l_top (fun f fd F => F.binds (ps := ["w"]) fun _ _ _ _ _ _ us hl => match us, hl with | [_], _ => rfl)
    (fun f cdv A outer s H E hr => walk_l_top (C_s := ()) (k := 0) X.T cdv A outer s H E hr )
    (by intro l h k q; repeat (first | (obtain ⟨rfl, _⟩ := q; rfl) | (obtain rfl := q; rfl) | (obtain ⟨_, q⟩ := q))) (ok_top)
theorem J_l_word : Fd P w K mg base G "_law_word" 3 (sp_word) :=
  mkFd X.d_l_word sc_l_word (fun f fd F => F.binds (ps := ["draw", "w"]) fun _ _ _ _ _ _ us hl => match us, hl with | [_, _], _ => rfl)
    (fun f cdv A outer s H E hr => walk_l_word (C_s := ()) (k := 1) X.T cdv A outer s H E hr ((J_l_take X).mono (by decide)) ((J_l_top X).mono (by decide)))
    (by intro l h k q; repeat (first | (obtain ⟨rfl, _⟩ := q; rfl) | (obtain rfl := q; rfl) | (obtain ⟨_, q⟩ := q))) (ok_word)
theorem J_l_ops : Fd P w K mg base G "_law_ops" 2 (sp_ops) :=
  mkFd X.d_l_ops sc_l_ops (fun f fd F => F.binds (ps := []) fun _ _ _ _ _ _ us hl => match us, hl with | [], _ => rfl)
    (fun f cdv A outer s H E hr => walk_l_ops (C_s := ()) (k := 0) X.T cdv A outer s H E hr )
    (by intro l h k q; repeat (first | (obtain ⟨rfl, _⟩ := q; rfl) | (obtain rfl := q; rfl) | (obtain ⟨_, q⟩ := q))) (ok_ops)
theorem J_l_variable : Fd P w K mg base G "_law_variable" 3 (sp_variable) :=
  mkFd X.d_l_variable sc_l_variable (fun f fd F => F.binds (ps := ["draw"]) fun _ _ _ _ _ _ us hl => match us, hl with | [_], _ => rfl)
    (fun f cdv A outer s H E hr => walk_l_variable (C_s := ()) (k := 1) X.T cdv A outer s H E hr ((J_l_take X).mono (by decide)))
    (by intro l h k q; repeat (first | (obtain ⟨rfl, _⟩ := q; rfl) | (obtain rfl := q; rfl) | (obtain ⟨_, q⟩ := q))) (ok_variable)
/-- an expression, an index: at each level -/
theorem J_expr : ∀ n : Nat, Fd P w K mg base G "_law_expression" (4 + 2 * n) (sp_expression n) ∧ Fd P w K mg base G "_law_index" (5 + 2 * n) (sp_index n) := by
  have ix : ∀ n : Nat, Fd P w K mg base G "_law_expression" (4 + 2 * n) (sp_expression n) → Fd P w K mg base G "_law_index" (5 + 2 * n) (sp_index n) := fun n E => by
    have := mkFd (k := 4 + 2 * n) X.d_l_index sc_l_index (fun f fd F => F.binds (ps := ["p", "size", "depth"]) fun _ _ _ _ _ _ us hl => match us, hl with | [_, _, _], _ => rfl)
      (fun f cdv A outer s H E' hr => walk_l_index (C_s := ()) (k := 3 + 2 * n) X.T cdv A outer s H E' (hr.mono (by omega)) ((J_l_take X).mono (by omega)) (E.mono (by omega)) ((J_l_top X).mono (by omega)) ((J_l_variable X).mono (by omega)))
      (by intro l h k q; repeat (first | (obtain ⟨rfl, _⟩ := q; rfl) | (obtain rfl := q; rfl) | (obtain ⟨_, q⟩ := q))) (ok_index n)
    exact this.mono (by omega)
  intro n
  induction n with
  | zero =>
    have z : Fd P w K mg base G "_law_expression" (4 + 2 * 0) (sp_expression 0) := Fd.no X.d_l_expression (fun f fd F => F.binds (ps := ["p", "depth"]) fun _ _ _ _ _ _ us hl => match us, hl with | [_, _], _ => rfl) (by rintro l h k ⟨p, dr, w, ars, depth, _, z, _⟩; omega)
    exact ⟨z, ix 0 z⟩
  | succ n ih =>
    have e : Fd P w K mg base G "_law_expression" (4 + 2 * (n + 1)) (sp_expression (n + 1)) := by
      have := mkFd (k := 5 + 2 * n) X.d_l_expression sc_l_expression (fun f fd F => F.binds (ps := ["p", "depth"]) fun _ _ _ _ _ _ us hl => match us, hl with | [_, _], _ => rfl)
        (fun f cdv A outer s H E' hr => walk_l_expression (C_s := ()) (k := 4 + 2 * n) X.T cdv A outer s H E' (hr.mono (by omega)) ((J_l_take X).mono (by omega)) ((J_l_word X).mono (by omega)) ((J_l_variable X).mono (by omega)) (ih.2.mono (by omega)) (ih.1.mono (by omega)) ((J_l_ops X).mono (by omega)))
        (by intro l h k q; repeat (first | (obtain ⟨rfl, _⟩ := q; rfl) | (obtain rfl := q; rfl) | (obtain ⟨_, q⟩ := q))) (ok_expression (n + 1))
      exact this.mono (by omega)
    exact ⟨e, ix _ e⟩
theorem J_l_expression : Fd P w K mg base G "_law_expression" 10 (sp_expression 3) := (J_expr X 3).1
theorem J_l_index : Fd P w K mg base G "_law_index" 9 (sp_index 2) := (J_expr X 2).2
theorem J_l_row : Fd P w K mg base G "_law_row" 11 (sp_row) :=
  mkFd X.d_l_row sc_l_row (fun f fd F => F.binds (ps := ["p", "others"]) fun _ _ _ _ _ _ us hl => match us, hl with | [_, _], _ => rfl)
    (fun f cdv A outer s H E hr => walk_l_row (C_s := ()) (k := 9) X.T cdv A outer s H E hr ((J_l_take X).mono (by decide)) ((J_l_expression X).mono (by decide)) ((J_l_variable X).mono (by decide)) ((J_l_index X).mono (by decide)))
    (by intro l h k q; repeat (first | (obtain ⟨rfl, _⟩ := q; rfl) | (obtain rfl := q; rfl) | (obtain ⟨_, q⟩ := q))) (ok_row)
theorem J_l_blocks : Fd P w K mg base G "_law_blocks" 12 (sp_blocks) :=
  mkFd X.d_l_blocks sc_l_blocks (fun f fd F => F.binds (ps := ["p", "others", "blocks", "rows"]) fun _ _ _ _ _ _ us hl => match us, hl with | [_, _, _, _], _ => rfl)
    (fun f cdv A outer s H E hr => walk_l_blocks (C_s := ()) (k := 10) X.T cdv A outer s H E hr ((J_l_take X).mono (by decide)) ((J_l_row X).mono (by decide)) ((J_l_expression X).mono (by decide)))
    (by intro l h k q; repeat (first | (obtain ⟨rfl, _⟩ := q; rfl) | (obtain rfl := q; rfl) | (obtain ⟨_, q⟩ := q))) (ok_blocks)
theorem J_l_program : Fd P w K mg base G "_law_program" 13 (sp_program) :=
  mkFd X.d_l_program sc_l_program (fun f fd F => F.binds (ps := ["draw", "w", "blocks", "rows"]) fun _ _ _ _ _ _ us hl => match us, hl with | [_, _, _, _], _ => rfl)
    (fun f cdv A outer s H E hr => walk_l_program (C_s := ()) (k := 11) X.T cdv A outer s H E hr ((J_l_take X).mono (by decide)) ((J_l_blocks X).mono (by decide)) ((J_l_variable X).mono (by decide)))
    (by intro l h k q; repeat (first | (obtain ⟨rfl, _⟩ := q; rfl) | (obtain rfl := q; rfl) | (obtain ⟨_, q⟩ := q))) (ok_program)
theorem J_l_is_in : Fd P w K mg base G "_law_is_in" 2 (sp_btw) :=
  mkFd X.d_l_is_in sc_l_is_in (fun f fd F => F.binds (ps := ["value", "least", "most"]) fun _ _ _ _ _ _ us hl => match us, hl with | [_, _, _], _ => rfl)
    (fun f cdv A outer s H E hr => walk_l_is_in (C_s := ()) (k := 0) X.T cdv A outer s H E hr )
    (by intro l h k q; repeat (first | (obtain ⟨rfl, _⟩ := q; rfl) | (obtain rfl := q; rfl) | (obtain ⟨_, q⟩ := q))) (ok_l_is_in)
theorem J_l_is_name : Fd P w K mg base G "_law_is_name" 3 (sp_name) :=
  mkFd X.d_l_is_name sc_l_is_name (fun f fd F => F.binds (ps := ["value"]) fun _ _ _ _ _ _ us hl => match us, hl with | [_], _ => rfl)
    (fun f cdv A outer s H E hr => walk_l_is_name (C_s := ()) (k := 1) X.T cdv A outer s H E hr ((J_l_ops X).mono (by decide)))
    (by intro l h k q; repeat (first | (obtain ⟨rfl, _⟩ := q; rfl) | (obtain rfl := q; rfl) | (obtain ⟨_, q⟩ := q))) (ok_l_is_name)
theorem R_l_fits : ∀ m : Nat, Fd P w K mg base G "_law_fits" (4 + m) ((sp_fits) m)
  | 0 => Fd.no X.d_l_fits (fun f fd F => F.binds (ps := ["program", "e", "depth"]) fun _ _ _ _ _ _ us hl => match us, hl with | [_, _, _], _ => rfl) (by rintro l h k ⟨_, _, _, _, z, _⟩; omega)
  | m + 1 => (mkFd (k := 4 + m) X.d_l_fits sc_l_fits (fun f fd F => F.binds (ps := ["program", "e", "depth"]) fun _ _ _ _ _ _ us hl => match us, hl with | [_, _, _], _ => rfl)
    (fun f cdv A outer s H E hr => walk_l_fits (C_s := ()) (k := 3 + m) X.T cdv A outer s H E (hr.mono (by omega)) ((J_l_is_in X).mono (by omega)) ((J_l_top X).mono (by omega)) ((R_l_fits m).mono (by omega)) ((J_l_ops X).mono (by omega)))
    (by intro l h k q; repeat (first | (obtain ⟨rfl, _⟩ := q; rfl) | (obtain rfl := q; rfl) | (obtain ⟨_, q⟩ := q))) (ok_l_fits m))
theorem J_l_fits : Fd P w K mg base G "_law_fits" 25 ((sp_fits) 21) := R_l_fits X 21
theorem J_l_row_fits : Fd P w K mg base G "_law_row_fits" 26 (sp_lrow) :=
  mkFd X.d_l_row_fits sc_l_row_fits (fun f fd F => F.binds (ps := ["program", "row"]) fun _ _ _ _ _ _ us hl => match us, hl with | [_, _], _ => rfl)
    (fun f cdv A outer s H E hr => walk_l_row_fits (C_s := ()) (k := 24) X.T cdv A outer s H E hr ((J_l_is_in X).mono (by decide)) ((J_l_fits X).mono (by decide)))
    (by intro l h k q; repeat (first | (obtain ⟨rfl, _⟩ := q; rfl) | (obtain rfl := q; rfl) | (obtain ⟨_, q⟩ := q))) (ok_l_row_fits)
theorem J_l_end_fits : Fd P w K mg base G "_law_end_fits" 26 (sp_lend) :=
  mkFd X.d_l_end_fits sc_l_end_fits (fun f fd F => F.binds (ps := ["program", "end"]) fun _ _ _ _ _ _ us hl => match us, hl with | [_, _], _ => rfl)
    (fun f cdv A outer s H E hr => walk_l_end_fits (C_s := ()) (k := 24) X.T cdv A outer s H E hr ((J_l_is_in X).mono (by decide)) ((J_l_fits X).mono (by decide)))
    (by intro l h k q; repeat (first | (obtain ⟨rfl, _⟩ := q; rfl) | (obtain rfl := q; rfl) | (obtain ⟨_, q⟩ := q))) (ok_l_end_fits)
theorem J_l_formed : Fd P w K mg base G "_law_formed" 4 (sp_formed) :=
  mkFd X.d_l_formed sc_l_formed (fun f fd F => F.binds (ps := ["value"]) fun _ _ _ _ _ _ us hl => match us, hl with | [_], _ => rfl)
    (fun f cdv A outer s H E hr => walk_l_formed (C_s := ()) (k := 2) X.T cdv A outer s H E hr ((J_l_is_in X).mono (by decide)) ((J_l_is_name X).mono (by decide)))
    (by intro l h k q; repeat (first | (obtain ⟨rfl, _⟩ := q; rfl) | (obtain rfl := q; rfl) | (obtain ⟨_, q⟩ := q))) (ok_l_formed)
theorem J_l_due : Fd P w K mg base G "_law_due" 27 (sp_due) :=
  mkFd X.d_l_due sc_l_due (fun f fd F => F.binds (ps := ["value"]) fun _ _ _ _ _ _ us hl => match us, hl with | [_], _ => rfl)
    (fun f cdv A outer s H E hr => walk_l_due (C_s := ()) (k := 25) X.T cdv A outer s H E hr ((J_l_formed X).mono (by decide)) ((J_l_is_name X).mono (by decide)) ((J_l_is_in X).mono (by decide)) ((J_l_row_fits X).mono (by decide)) ((J_l_end_fits X).mono (by decide)))
    (by intro l h k q; repeat (first | (obtain ⟨rfl, _⟩ := q; rfl) | (obtain rfl := q; rfl) | (obtain ⟨_, q⟩ := q))) (ok_l_due)
theorem J_l_deep : Fd P w K mg base G "_law_deep" 2 (sp_deep) :=
  mkFd X.d_l_deep sc_l_deep (fun f fd F => F.binds (ps := ["e", "many"]) fun _ _ _ _ _ _ us hl => match us, hl with | [_, _], _ => rfl)
    (fun f cdv A outer s H E hr => walk_l_deep (C_s := ()) (k := 0) X.T cdv A outer s H E hr )
    (by intro l h k q; repeat (first | (obtain ⟨rfl, _⟩ := q; rfl) | (obtain rfl := q; rfl) | (obtain ⟨_, q⟩ := q))) (ok_l_deep)
theorem J_l_bent_row : Fd P w K mg base G "_law_bent_row" 3 (sp_bentrow) :=
  mkFd X.d_l_bent_row sc_l_bent_row (fun f fd F => F.binds (ps := ["draw", "program"]) fun _ _ _ _ _ _ us hl => match us, hl with | [_, _], _ => rfl)
    (fun f cdv A outer s H E hr => walk_l_bent_row (C_s := ()) (k := 1) X.T cdv A outer s H E hr ((J_l_deep X).mono (by decide)) ((J_l_take X).mono (by decide)))
    (by intro l h k q; repeat (first | (obtain ⟨rfl, _⟩ := q; rfl) | (obtain rfl := q; rfl) | (obtain ⟨_, q⟩ := q))) (ok_l_bent_row)
theorem J_l_put : Fd P w K mg base G "_law_put" 2 (sp_put) :=
  mkFd X.d_l_put sc_l_put (fun f fd F => F.binds (ps := ["program", "p", "row"]) fun _ _ _ _ _ _ us hl => match us, hl with | [_, _, _], _ => rfl)
    (fun f cdv A outer s H E hr => walk_l_put (C_s := ()) (k := 0) X.T cdv A outer s H E hr )
    (by intro l h k q; repeat (first | (obtain ⟨rfl, _⟩ := q; rfl) | (obtain rfl := q; rfl) | (obtain ⟨_, q⟩ := q))) (ok_l_put)
theorem J_l_bent : Fd P w K mg base G "_law_bent" 4 (sp_bentA) :=
  mkFd X.d_l_bent sc_l_bent (fun f fd F => F.binds (ps := ["draw", "program"]) fun _ _ _ _ _ _ us hl => match us, hl with | [_, _], _ => rfl)
    (fun f cdv A outer s H E hr => walk_l_bent (C_s := ()) (k := 2) X.T cdv A outer s H E hr ((J_l_take X).mono (by decide)) ((J_l_put X).mono (by decide)) ((J_l_bent_row X).mono (by decide)))
    (by intro l h k q; repeat (first | (obtain ⟨rfl, _⟩ := q; rfl) | (obtain rfl := q; rfl) | (obtain ⟨_, q⟩ := q))) (ok_l_bentA)
theorem J_l_right : Fd P w K mg base G "_law_right" 2 (sp_right) :=
  mkFd X.d_l_right sc_l_right (fun f fd F => F.binds (ps := ["value", "found", "due"]) fun _ _ _ _ _ _ us hl => match us, hl with | [_, _, _], _ => rfl)
    (fun f cdv A outer s H E hr => walk_l_right (C_s := ()) (k := 0) X.T cdv A outer s H E hr )
    (by intro l h k q; repeat (first | (obtain ⟨rfl, _⟩ := q; rfl) | (obtain rfl := q; rfl) | (obtain ⟨_, q⟩ := q))) (ok_l_right)
end
end Lk01
end
-- E01
section
set_option maxRecDepth 100000
set_option maxHeartbeats 4000000
/-! E01: the law's call, at the claim. -/
namespace Lk01
open PySem PySem.Spec PySem.W PyProof.Rows L2 T3
theorem ktup2 {K : Frag} {mg : Str → Option Value} {h : Heap} {x s0 s1 : Str} {p : Addr} {t0 t1 : Tok} {od : Option Addr} {n : Nat} {osl : Array (Option Value)} (inK : K.In h) (gl : h.Ns mainGlobals mg) (e : nsIn K mainGlobals x = some (some (.ref p)))
    (l : K.lookup p = some ⟨.type "tuple", od, .seq #[.str s0 t0, .str s1 t1] n, osl⟩) : KTup K mg x [s0, s1] :=
  ⟨p, mg_of inK gl e, fun H => .inr ⟨_, _, n, l, rfl, rfl, (by show 2 ≤ sizeLine; decide), (.cons ⟨t0, rfl⟩ (.cons ⟨t1, rfl⟩ .nil))⟩⟩
theorem ktup10 {K : Frag} {mg : Str → Option Value} {h : Heap} {x s0 s1 s2 s3 s4 s5 s6 s7 s8 s9 : Str} {p : Addr} {t0 t1 t2 t3 t4 t5 t6 t7 t8 t9 : Tok} {od : Option Addr} {n : Nat} {osl : Array (Option Value)} (inK : K.In h) (gl : h.Ns mainGlobals mg) (e : nsIn K mainGlobals x = some (some (.ref p)))
    (l : K.lookup p = some ⟨.type "tuple", od, .seq #[.str s0 t0, .str s1 t1, .str s2 t2, .str s3 t3, .str s4 t4, .str s5 t5, .str s6 t6, .str s7 t7, .str s8 t8, .str s9 t9] n, osl⟩) : KTup K mg x [s0, s1, s2, s3, s4, s5, s6, s7, s8, s9] :=
  ⟨p, mg_of inK gl e, fun H => .inr ⟨_, _, n, l, rfl, rfl, (by show 10 ≤ sizeLine; decide), (.cons ⟨t0, rfl⟩ (.cons ⟨t1, rfl⟩ (.cons ⟨t2, rfl⟩ (.cons ⟨t3, rfl⟩ (.cons ⟨t4, rfl⟩ (.cons ⟨t5, rfl⟩ (.cons ⟨t6, rfl⟩ (.cons ⟨t7, rfl⟩ (.cons ⟨t8, rfl⟩ (.cons ⟨t9, rfl⟩ .nil))))))))))⟩⟩
theorem ktup22 {K : Frag} {mg : Str → Option Value} {h : Heap} {x s0 s1 s2 s3 s4 s5 s6 s7 s8 s9 s10 s11 s12 s13 s14 s15 s16 s17 s18 s19 s20 s21 : Str} {p : Addr} {t0 t1 t2 t3 t4 t5 t6 t7 t8 t9 t10 t11 t12 t13 t14 t15 t16 t17 t18 t19 t20 t21 : Tok} {od : Option Addr} {n : Nat} {osl : Array (Option Value)} (inK : K.In h) (gl : h.Ns mainGlobals mg) (e : nsIn K mainGlobals x = some (some (.ref p)))
    (l : K.lookup p = some ⟨.type "tuple", od, .seq #[.str s0 t0, .str s1 t1, .str s2 t2, .str s3 t3, .str s4 t4, .str s5 t5, .str s6 t6, .str s7 t7, .str s8 t8, .str s9 t9, .str s10 t10, .str s11 t11, .str s12 t12, .str s13 t13, .str s14 t14, .str s15 t15, .str s16 t16, .str s17 t17, .str s18 t18, .str s19 t19, .str s20 t20, .str s21 t21] n, osl⟩) : KTup K mg x [s0, s1, s2, s3, s4, s5, s6, s7, s8, s9, s10, s11, s12, s13, s14, s15, s16, s17, s18, s19, s20, s21] :=
  ⟨p, mg_of inK gl e, fun H => .inr ⟨_, _, n, l, rfl, rfl, (by show 22 ≤ sizeLine; decide), (.cons ⟨t0, rfl⟩ (.cons ⟨t1, rfl⟩ (.cons ⟨t2, rfl⟩ (.cons ⟨t3, rfl⟩ (.cons ⟨t4, rfl⟩ (.cons ⟨t5, rfl⟩ (.cons ⟨t6, rfl⟩ (.cons ⟨t7, rfl⟩ (.cons ⟨t8, rfl⟩ (.cons ⟨t9, rfl⟩ (.cons ⟨t10, rfl⟩ (.cons ⟨t11, rfl⟩ (.cons ⟨t12, rfl⟩ (.cons ⟨t13, rfl⟩ (.cons ⟨t14, rfl⟩ (.cons ⟨t15, rfl⟩ (.cons ⟨t16, rfl⟩ (.cons ⟨t17, rfl⟩ (.cons ⟨t18, rfl⟩ (.cons ⟨t19, rfl⟩ (.cons ⟨t20, rfl⟩ (.cons ⟨t21, rfl⟩ .nil))))))))))))))))))))))⟩⟩
theorem room73 : Room 73 callerA := ⟨rfl, by decide, by decide⟩
theorem walk01 {q : Program} {loose : List Str} {XP : (Str → Option Value) → Heap → Prop} {YP : World → Heap → Prop} {d : DefRec} {K : Params → Frag} (hdf : d.params.defaults = []) (hname : d.name = "law")
    (hY : ∀ (w : World) (h : Heap), YP w h → (K w.params).In h)
    (F : ∀ (w : World) (mg : Str → Option Value) (h : Heap), (K w.params).In h → h.Ns mainGlobals mg → ∀ base, Top PySem.Challenge.pw_inputways_k01_faults_of_programs w (K w.params) mg base) :
    WalkO q loose XP YP PySem.Challenge.rw_inputways_k01_faults_of_programs.row.toRowW d [] (fun f vs => PySem.call f vs) := by
  refine Att.attach_call (l := PySem.Challenge.rw_inputways_k01_faults_of_programs) (n := 63) rfl hdf fun w s₀ s₁ mg mb fa o pm cd doc a vs ns Gr Y ho hd hcd hmg hobj hints hlen hg => ?_
  have KX := hY w _ Y
  have F := F w mg _ KX Gr.T.g
  refine law_at KX Gr.T.g Gr.T.b Gr.T.builtins Gr.T.nolimit hg hobj hints (Nat.le_trans hlen (by decide)) fun base H inB gl ro e0 => ?_
  have X := F base
  obtain ⟨f, fd, hm, Fl⟩ := X.law
  rw [hname] at hmg
  have e : f = fa := by
    have z := hm.symm.trans hmg
    cases z; rfl
  subst e
  have few : (⟨K w.params, a, ns⟩ : Sc).ns.length ≤ 1000 := Nat.le_trans hlen (by decide)
  refine call_at (k := 72) (G := ⟨K w.params, a, ns⟩) (l := [.ref a]) (vs := [V.ref a]) (us := [.ref a]) (kk := fun d _ => d = .bl true) (h := fun _ => none) Fl sc_law room73 e0 ?_ (.cons rfl .nil) rfl
    (fun cdv E hr => walk_law (C_s := ()) (k := 71) X.T cdv callerA [] s₁ H E hr ((J_l_draw X rfl few).mono (by decide)) ((J_l_program X).mono (by decide)) ((J_l_take X).mono (by decide)) ((J_l_due X).mono (by decide)) ((J_program_faults X).mono (by decide)) ((J_l_formed X).mono (by decide)) ((J_l_bent X).mono (by decide)) ((J_l_right X).mono (by decide)))
    ⟨fun _ _ e => (nomatch e), ro⟩ (.cons (.ref a) .nil) (ok_law _ _ _ _ ⟨rfl, fun _ => rfl⟩) (fun d h' v H' e _ _ dv => by subst e; cases dv; rfl)
  exact (Fl.binds (ps := ["script"]) fun _ _ _ _ _ _ us hl => match us, hl with | [_], _ => rfl) s₁ [.ref a] KX rfl
end Lk01
end
-- M01
section
end
open PySem PySem.W PyProof.Rows
set_option maxRecDepth 100000 in
set_option maxHeartbeats 0 in
theorem PySem.Challenge.cw_inputways_k01_faults_of_programs_holds : PySem.Challenge.rw_inputways_k01_faults_of_programs.Holds := by
  w_on; o_law; k_head; (case hw => w_witness2)
  k_fill
  refine Lk01.walk01 rfl rfl (fun w h Y => PySem.W.kIn_of Y) ?F
  intro w mg h KX G
  refine' fun base => ⟨?T, ?TT, ?d_top, ?d_is_number, ?d_is_between, ?d_is_variable_text, ?d_is_name, ?d_size_of, ?d_targets, ?d_is_label, ?d_is_expression, ?d_is_call, ?d_is_statement, ?d_is_end, ?d_are_arrays, ?d_is_procedure_form, ?d_are_names, ?d_block_codes, ?d_program_faults, ?d_l_draw, ?d_l_take, ?d_l_top, ?d_l_word, ?d_l_ops, ?d_l_variable, ?d_l_expression, ?d_l_index, ?d_l_row, ?d_l_blocks, ?d_l_program, ?d_l_is_in, ?d_l_is_name, ?d_l_fits, ?d_l_row_fits, ?d_l_end_fits, ?d_l_formed, ?d_l_due, ?d_l_deep, ?d_l_bent_row, ?d_l_put, ?d_l_bent, ?d_l_right, ?law⟩

  (case T => refine' ⟨PySem.W.mg_none_of KX G ?isinstance_, PySem.W.mg_none_of KX G ?bool_, PySem.W.mg_none_of KX G ?int_, PySem.W.mg_none_of KX G ?len_, PySem.W.mg_none_of KX G ?str_, PySem.W.mg_none_of KX G ?all_, PySem.W.mg_none_of KX G ?tuple_, PySem.W.mg_none_of KX G ?range_, PySem.W.mg_none_of KX G ?sorted_, PySem.W.mg_none_of KX G ?any_, PySem.W.mg_none_of KX G ?list_, PySem.W.mg_none_of KX G ?abs_, PySem.W.mg_none_of KX G ?min_, PySem.W.mg_none_of KX G ?max_, PySem.W.mg_none_of KX G ?set_⟩; (case isinstance_ => k_is); (case bool_ => k_is); (case int_ => k_is); (case len_ => k_is); (case str_ => k_is); (case all_ => k_is); (case tuple_ => k_is); (case range_ => k_is); (case sorted_ => k_is); (case any_ => k_is); (case list_ => k_is); (case abs_ => k_is); (case min_ => k_is); (case max_ => k_is); (case set_ => k_is))
  (case TT => refine' ⟨Lk01.ktup22 KX G ?a1 ?l1, Lk01.ktup2 KX G ?a2 ?l2, Lk01.ktup10 KX G ?a3 ?l3⟩; (case a1 => k_is); (case l1 => k_is); (case a2 => k_is); (case l2 => k_is); (case a3 => k_is); (case l3 => k_is))
  (case d_top => refine' T3.at_mk KX G ?a ?l ?c ?k; (case a => k_is); (case l => k_is); (case c => k_is); (case k => k_is))
  (case d_is_number => refine' T3.at_mk KX G ?a ?l ?c ?k; (case a => k_is); (case l => k_is); (case c => k_is); (case k => k_is))
  (case d_is_between => refine' T3.at_mk KX G ?a ?l ?c ?k; (case a => k_is); (case l => k_is); (case c => k_is); (case k => k_is))
  (case d_is_variable_text => refine' T3.at_mk KX G ?a ?l ?c ?k; (case a => k_is); (case l => k_is); (case c => k_is); (case k => k_is))
  (case d_is_name => refine' T3.at_mk KX G ?a ?l ?c ?k; (case a => k_is); (case l => k_is); (case c => k_is); (case k => k_is))
  (case d_size_of => refine' T3.at_mk KX G ?a ?l ?c ?k; (case a => k_is); (case l => k_is); (case c => k_is); (case k => k_is))
  (case d_targets => refine' T3.at_mk KX G ?a ?l ?c ?k; (case a => k_is); (case l => k_is); (case c => k_is); (case k => k_is))
  (case d_is_label => refine' T3.at_mk KX G ?a ?l ?c ?k; (case a => k_is); (case l => k_is); (case c => k_is); (case k => k_is))
  (case d_is_expression => refine' T3.atd_mk KX G ?a ?l ?c ?k ?t; (case a => k_is); (case l => k_is); (case c => k_is); (case k => k_is); (case t => k_is))
  (case d_is_call => refine' T3.at_mk KX G ?a ?l ?c ?k; (case a => k_is); (case l => k_is); (case c => k_is); (case k => k_is))
  (case d_is_statement => refine' T3.at_mk KX G ?a ?l ?c ?k; (case a => k_is); (case l => k_is); (case c => k_is); (case k => k_is))
  (case d_is_end => refine' T3.at_mk KX G ?a ?l ?c ?k; (case a => k_is); (case l => k_is); (case c => k_is); (case k => k_is))
  (case d_are_arrays => refine' T3.at_mk KX G ?a ?l ?c ?k; (case a => k_is); (case l => k_is); (case c => k_is); (case k => k_is))
  (case d_is_procedure_form => refine' T3.at_mk KX G ?a ?l ?c ?k; (case a => k_is); (case l => k_is); (case c => k_is); (case k => k_is))
  (case d_are_names => refine' T3.at_mk KX G ?a ?l ?c ?k; (case a => k_is); (case l => k_is); (case c => k_is); (case k => k_is))
  (case d_block_codes => refine' T3.at_mk KX G ?a ?l ?c ?k; (case a => k_is); (case l => k_is); (case c => k_is); (case k => k_is))
  (case d_program_faults => refine' T3.at_mk KX G ?a ?l ?c ?k; (case a => k_is); (case l => k_is); (case c => k_is); (case k => k_is))
  (case d_l_draw => refine' T3.at_mk KX G ?a ?l ?c ?k; (case a => k_is); (case l => k_is); (case c => k_is); (case k => k_is))
  (case d_l_take => refine' T3.at_mk KX G ?a ?l ?c ?k; (case a => k_is); (case l => k_is); (case c => k_is); (case k => k_is))
  (case d_l_top => refine' T3.at_mk KX G ?a ?l ?c ?k; (case a => k_is); (case l => k_is); (case c => k_is); (case k => k_is))
  (case d_l_word => refine' T3.at_mk KX G ?a ?l ?c ?k; (case a => k_is); (case l => k_is); (case c => k_is); (case k => k_is))
  (case d_l_ops => refine' T3.at_mk KX G ?a ?l ?c ?k; (case a => k_is); (case l => k_is); (case c => k_is); (case k => k_is))
  (case d_l_variable => refine' T3.at_mk KX G ?a ?l ?c ?k; (case a => k_is); (case l => k_is); (case c => k_is); (case k => k_is))
  (case d_l_expression => refine' T3.at_mk KX G ?a ?l ?c ?k; (case a => k_is); (case l => k_is); (case c => k_is); (case k => k_is))
  (case d_l_index => refine' T3.at_mk KX G ?a ?l ?c ?k; (case a => k_is); (case l => k_is); (case c => k_is); (case k => k_is))
  (case d_l_row => refine' T3.at_mk KX G ?a ?l ?c ?k; (case a => k_is); (case l => k_is); (case c => k_is); (case k => k_is))
  (case d_l_blocks => refine' T3.at_mk KX G ?a ?l ?c ?k; (case a => k_is); (case l => k_is); (case c => k_is); (case k => k_is))
  (case d_l_program => refine' T3.at_mk KX G ?a ?l ?c ?k; (case a => k_is); (case l => k_is); (case c => k_is); (case k => k_is))
  (case d_l_is_in => refine' T3.at_mk KX G ?a ?l ?c ?k; (case a => k_is); (case l => k_is); (case c => k_is); (case k => k_is))
  (case d_l_is_name => refine' T3.at_mk KX G ?a ?l ?c ?k; (case a => k_is); (case l => k_is); (case c => k_is); (case k => k_is))
  (case d_l_fits => refine' T3.at_mk KX G ?a ?l ?c ?k; (case a => k_is); (case l => k_is); (case c => k_is); (case k => k_is))
  (case d_l_row_fits => refine' T3.at_mk KX G ?a ?l ?c ?k; (case a => k_is); (case l => k_is); (case c => k_is); (case k => k_is))
  (case d_l_end_fits => refine' T3.at_mk KX G ?a ?l ?c ?k; (case a => k_is); (case l => k_is); (case c => k_is); (case k => k_is))
  (case d_l_formed => refine' T3.at_mk KX G ?a ?l ?c ?k; (case a => k_is); (case l => k_is); (case c => k_is); (case k => k_is))
  (case d_l_due => refine' T3.at_mk KX G ?a ?l ?c ?k; (case a => k_is); (case l => k_is); (case c => k_is); (case k => k_is))
  (case d_l_deep => refine' T3.at_mk KX G ?a ?l ?c ?k; (case a => k_is); (case l => k_is); (case c => k_is); (case k => k_is))
  (case d_l_bent_row => refine' T3.at_mk KX G ?a ?l ?c ?k; (case a => k_is); (case l => k_is); (case c => k_is); (case k => k_is))
  (case d_l_put => refine' T3.at_mk KX G ?a ?l ?c ?k; (case a => k_is); (case l => k_is); (case c => k_is); (case k => k_is))
  (case d_l_bent => refine' T3.at_mk KX G ?a ?l ?c ?k; (case a => k_is); (case l => k_is); (case c => k_is); (case k => k_is))
  (case d_l_right => refine' T3.at_mk KX G ?a ?l ?c ?k; (case a => k_is); (case l => k_is); (case c => k_is); (case k => k_is))
  (case law => refine' T3.at_mk KX G ?a ?l ?c ?k; (case a => k_is); (case l => k_is); (case c => k_is); (case k => k_is))
