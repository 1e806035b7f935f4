import PyProof.Rows.All
import Wide.All
import OpenK.AllK
import Wide.FinOn
import HandS.TupSets
import KE.KDictKeyed
import HandS.ForMost
import HandS.TupAny
import HandS.IsInst
import HandS.Deep
import HandS.Conv
import HandS.Flow
import HandS.Wide
import HandS.WideBits
import HandS.Text
import HandS.SetKeys
import KE.SortData
import HandS.SortRule
import HandS.Replace
import PyProof.LongRange
import PyProof.Rows.NestShow
import KE.KExcSuper
import KE.KSuper
import HandS.ExcInit
import HandS.ExcOwn
import HandS.WordsExc
import HandS.DictComp
import KE.BitLaws
import PyProof.EqAt
import PySem.Challenge.RW_inputways_k04_runs
set_option Elab.async false
set_option linter.all false
-- T3Tab
section
set_option maxRecDepth 100000
set_option maxHeartbeats 2000000
/-! T3Tab: the slots of a set's table, up to a mask of 511 (sets of fewer than 300 items). -/
namespace T3
open PySem L2
/-- which slots the round has met, as bits -/
def cov (m : Nat) : Nat → Nat × Nat
  | 0 => (0, 0)
  | k + 1 => (((cov m k).1 * 5 + 1) % (m + 1), (cov m k).2 ||| 1 <<< (cov m k).1)
theorem cov_fst (m : Nat) : ∀ k, (cov m k).1 = lcgN m k
  | 0 => rfl
  | k + 1 => by simp only [cov, lcgN, cov_fst m k]
theorem cov_bit (m : Nat) {j : Nat} : ∀ k, (cov m k).2.testBit j = true → ∃ b, b < k ∧ lcgN m b = j
  | 0, h => by simp [cov] at h
  | k + 1, h => by
    simp only [cov, Nat.testBit_or, Bool.or_eq_true] at h
    rcases h with h | h
    · obtain ⟨b, hb, e⟩ := cov_bit m k h
      exact ⟨b, by omega, e⟩
    · rw [Nat.one_shiftLeft, Nat.testBit_two_pow, decide_eq_true_eq, cov_fst] at h
      exact ⟨k, by omega, h⟩
def Msk (m : Nat) : Prop := m = 7 ∨ m = 31 ∨ m = 127 ∨ m = 511
theorem Msk.le {m : Nat} (h : Msk m) : 7 ≤ m ∧ m ≤ 511 := by rcases h with h | h | h | h <;> omega
theorem Msk.odd {m : Nat} (h : Msk m) : m % 2 = 1 := by rcases h with h | h | h | h <;> subst h <;> rfl
theorem cov_full : (cov 7 8).2 = 2 ^ 8 - 1 ∧ (cov 31 32).2 = 2 ^ 32 - 1 ∧ (cov 127 128).2 = 2 ^ 128 - 1 ∧ (cov 511 512).2 = 2 ^ 512 - 1 := by decide +kernel
theorem round_all {m : Nat} (h : Msk m) {j : Nat} (hj : j ≤ m) : ∃ b, b ≤ m ∧ lcgN m b = j := by
  have key : (cov m (m + 1)).2 = 2 ^ (m + 1) - 1 := by
    obtain ⟨a, b, c, d⟩ := cov_full
    rcases h with h | h | h | h <;> subst h <;> assumption
  obtain ⟨b, hb, e⟩ := cov_bit m (m + 1) (j := j) (by rw [key, Nat.testBit_two_pow_sub_one, decide_eq_true_eq]; omega)
  exact ⟨b, by omega, e⟩
theorem round_end {m : Nat} (h : Msk m) : lcgN m (m + 1) = 0 := by
  have key : (cov 7 8).1 = 0 ∧ (cov 31 32).1 = 0 ∧ (cov 127 128).1 = 0 ∧ (cov 511 512).1 = 0 := by decide +kernel
  rw [← cov_fst]
  obtain ⟨a, b, c, d⟩ := key
  rcases h with h | h | h | h <;> subst h <;> assumption
theorem round_again {m : Nat} (h : Msk m) : ∀ k, lcgN m (m + 1 + k) = lcgN m k
  | 0 => round_end h
  | k + 1 => congrArg (fun x => (x * 5 + 1) % (m + 1)) (round_again h k)
theorem met_from {m i j : Nat} (h : Msk m) (hi : i ≤ m) (hj : j ≤ m) : ∃ k, k ≤ m ∧ lcgI m i k = j := by
  obtain ⟨a, a1, a2⟩ := round_all h hi
  obtain ⟨b, b1, b2⟩ := round_all h hj
  subst a2
  by_cases c : a ≤ b
  · exact ⟨b - a, by omega, by rw [lcgN_add, show a + (b - a) = b by omega, b2]⟩
  · exact ⟨m + 1 + b - a, by omega, by rw [lcgN_add, show a + (m + 1 + b - a) = m + 1 + b by omega, round_again h, b2]⟩
theorem met_run {m : Nat} (h : Msk m) (z : Int) {j : Nat} (hj : j ≤ m) : ∃ n, n ≤ m + 12 ∧ runI m (SetTable.bits z) n = j := by
  obtain ⟨k, k1, k2⟩ := met_from h (runI_le m (SetTable.bits z) 12) hj
  exact ⟨12 + k, by omega, (runI_tail (bits_lt z) k).trans k2⟩
theorem met_way {m : Nat} (h : Msk m) (z : Int) {j : Nat} (hj : j ≤ m) : ∃ k, k < 10 * SetTable.turns m ∧ way m z k = j := by
  obtain ⟨n, n1, n2⟩ := met_run h z hj
  obtain ⟨k, k1, k2⟩ := run_nth m (SetTable.bits z) n
  exact ⟨k, by unfold SetTable.turns; omega, (congrArg SetTable.Probe.j k2).trans n2⟩
theorem way_in (m : Nat) (z : Int) (k : Nat) : way m z k ≤ m := by
  have h0 : SetTable.bits z % (m + 1) ≤ m := Nat.le_of_lt_succ (Nat.mod_lt _ (Nat.succ_pos _))
  have h1 := runEnd_bd h0
  have h2 : (runAt m (SetTable.bits z % (m + 1)) (SetTable.bits z)).j + (runAt m (SetTable.bits z % (m + 1)) (SetTable.bits z)).more ≤ m := by
    simp only [runAt]; omega
  have := nth_in k _ h2
  unfold way
  omega
/-- the table of these hashes, each found again -/
structure Tb (t : SetTable) (hs : List Int) : Prop where
  up : Ris t.place.toList
  nod : t.dummies = #[]
  sz : t.place.size = hs.length
  msk : Msk t.mask
  in_ : ∀ x ∈ t.place.toList, x ≤ t.mask
  rea : ∀ (i : Nat) (z : Int) (j : Nat), hs[i]? = some z → t.place.toList[i]? = some j → ∃ k, way t.mask z k = j ∧ ∀ c, c < k → way t.mask z c ∈ t.place.toList
section
variable {t : SetTable} {hs : List Int}
theorem Tb.free (T : Tb t hs) (few : hs.length ≤ t.mask) (z : Int) : ∃ K, K < 10 * SetTable.turns t.mask ∧ way t.mask z K ∉ t.place.toList ∧ ∀ c, c < K → way t.mask z c ∈ t.place.toList := by
  obtain ⟨j, j1, j2⟩ := st_missing t.place.toList (t.mask + 1) (by have := T.sz; simp only [Array.length_toList]; omega)
  obtain ⟨k, k1, k2⟩ := met_way T.msk z (Nat.le_of_lt_succ j1)
  obtain ⟨K, a, b, c⟩ := st_least (p := fun n => way t.mask z n ∉ t.place.toList) k (by simp only [k2]; exact j2)
  exact ⟨K, by omega, b, fun n hn => Decidable.byContradiction (c n hn)⟩
theorem Tb.ahead (T : Tb t hs) {z : Int} {K i j : Nat} (free : way t.mask z K ∉ t.place.toList) (hi : hs[i]? = some z) (hj : t.place.toList[i]? = some j) : ∃ k, k < K ∧ way t.mask z k = j := by
  obtain ⟨k, k1, k2⟩ := T.rea i z j hi hj
  refine ⟨k, Nat.lt_of_not_le fun c => ?_, k1⟩
  rcases Nat.lt_or_eq_of_le c with c | c
  · exact free (k2 K c)
  · exact free (by rw [c, k1]; exact List.mem_of_getElem? hj)
/-- an item is put at the first free slot of its way -/
theorem Tb.put (T : Tb t hs) {z : Int} {K : Nat} (free : way t.mask z K ∉ t.place.toList) (full : ∀ c, c < K → way t.mask z c ∈ t.place.toList) :
    ∃ p t', t.put (way t.mask z K) = (t', p) ∧ p = SetTable.below t.place (way t.mask z K) ∧ p ≤ hs.length ∧ Tb t' (hs.take p ++ z :: hs.drop p) ∧ t'.mask = t.mask ∧ t'.led = t.led ∧ t'.plain = t.plain ∧ t'.fill = hs.length + 1 := by
  have hle := way_in t.mask z K
  generalize hw : way t.mask z K = j at free hle
  have cut := (below_cut T.up j).1
  have lenP : t.place.toList.length = hs.length := by rw [Array.length_toList]; exact T.sz
  have hp : SetTable.below t.place j ≤ t.place.toList.length := by rw [Array.length_toList]; exact cut
  have pp := put_place t j
  have grows : ∀ {x : Nat}, x ∈ t.place.toList → x ∈ (t.put j).1.place.toList := fun h => by rw [pp]; exact mem_ins.mpr (.inr h)
  have size : (t.put j).1.place.size = hs.length + 1 := by rw [← Array.length_toList, pp, len_ins _ hp, lenP]
  have nodm := put_dm T.nod j
  refine ⟨SetTable.below t.place j, (t.put j).1, rfl, rfl, by rw [← lenP]; exact hp, ?_, rfl, rfl, rfl, ?_⟩
  · constructor
    · exact ris_insert T.up fun e => free (List.mem_of_getElem? ((Array.getElem?_toList ..).trans e))
    · exact nodm
    · exact size.trans (len_ins hs (by rw [← lenP]; exact hp) z).symm
    · exact T.msk
    · intro x hx
      rw [pp, mem_ins] at hx
      exact hx.elim (fun e => e ▸ hle) (T.in_ x)
    · intro i z' j' h1 h2
      rw [tins_get hs (by rw [← lenP]; exact hp)] at h1
      rw [pp, tins_get _ hp] at h2
      have old : ∀ i', hs[i']? = some z' → t.place.toList[i']? = some j' → ∃ k, way t.mask z' k = j' ∧ ∀ c, c < k → way t.mask z' c ∈ (t.put j).1.place.toList := fun i' g1 g2 => by
        obtain ⟨k, k1, k2⟩ := T.rea i' z' j' g1 g2
        exact ⟨k, k1, fun c hc => grows (k2 c hc)⟩
      change ∃ k, way t.mask z' k = j' ∧ ∀ c, c < k → way t.mask z' c ∈ (t.put j).1.place.toList
      split at h1
      · rename_i c
        rw [if_pos c] at h2
        exact old i h1 h2
      · rename_i c
        rw [if_neg c] at h2
        split at h1
        · rename_i d
          rw [if_pos d] at h2
          cases h1
          cases h2
          exact ⟨K, hw, fun c hc => grows (full c hc)⟩
        · rename_i d
          rw [if_neg d] at h2
          exact old _ h1 h2
  · change (t.put j).1.place.size + (t.put j).1.dummies.size = _
    rw [size, nodm]
    rfl
end
/-! laying a greater table -/
theorem lay_one {m : Nat} (h : Msk m) {done : List Int} {owner : Array (Option Nat)} (W : Own m done owner) (few : done.length ≤ m) (z : Int) :
    ∃ j, SetTable.layClean.free m owner (SetTable.turns m) (SetTable.bits z % (m + 1)) (SetTable.bits z) = some j ∧ Own m (done ++ [z]) (owner.setIfInBounds j (some done.length)) := by
  obtain ⟨ps, pl, pin⟩ := W.ps
  obtain ⟨j0, g1, g2⟩ := st_missing ps (m + 1) (by omega)
  have open0 : oAt owner j0 = none := Decidable.byContradiction fun c => g2 (pin j0 (Nat.le_of_lt_succ g1) c)
  obtain ⟨n, n1, n2⟩ := met_run h z (Nat.le_of_lt_succ g1)
  have at0 : way m z (off m (SetTable.bits z % (m + 1)) (SetTable.bits z) n) = j0 := by
    have := congrArg SetTable.Probe.j (nth_off m n (SetTable.bits z % (m + 1)) (SetTable.bits z))
    rw [itL_run] at this
    exact this.trans n2
  obtain ⟨K, a, b, c⟩ := st_least (p := fun k => oAt owner (way m z k) = none) (off m (SetTable.bits z % (m + 1)) (SetTable.bits z) n) (at0 ▸ open0)
  have hin : way m z K < owner.size := by have := way_in m z K; rw [W.sz]; omega
  have new := oAt_set_self (owner := owner) (some done.length) hin
  have keeps : ∀ {i : Nat}, oAt owner i ≠ none → oAt (owner.setIfInBounds (way m z K) (some done.length)) i ≠ none := fun {i} hi => by
    by_cases e : i = way m z K
    · rw [e, new]; exact fun z => nomatch z
    · rwa [oAt_set_ne _ e]
  refine ⟨way m z K, free_spec m owner _ n _ _ K (by unfold SetTable.turns; omega) a (fun k hk => ?_) (by rw [b]; rfl), ?_⟩
  · have := c k hk
    cases e : oAt owner (way m z k) with
    | none => exact absurd e this
    | some _ => rfl
  · constructor
    · rw [Array.size_setIfInBounds]; exact W.sz
    · intro j k hj e
      by_cases q : j = way m z K
      · subst q
        rw [new] at e
        cases e
        exact ⟨z, K, by simp, rfl, fun c' hc' => keeps (c c' hc')⟩
      · rw [oAt_set_ne _ q] at e
        obtain ⟨z', K', e1, e2, e3⟩ := W.at_ j k hj e
        exact ⟨z', K', by rw [List.getElem?_append_left (List.getElem?_eq_some_iff.mp e1).1]; exact e1, e2, fun c' hc' => keeps (e3 c' hc')⟩
    · intro k hk
      simp at hk
      by_cases q : k = done.length
      · subst q; exact ⟨_, way_in m z K, new⟩
      · obtain ⟨j, hj, e⟩ := W.all k (by omega)
        refine ⟨j, hj, ?_⟩
        rw [oAt_set_ne _ (by rintro rfl; rw [b] at e; cases e)]
        exact e
    · refine ⟨way m z K :: ps, by simp [pl], fun j hj e => ?_⟩
      by_cases q : j = way m z K
      · rw [q]; exact List.mem_cons_self
      · rw [oAt_set_ne _ q] at e
        exact List.mem_cons_of_mem _ (pin j hj e)
theorem lay_many {m : Nat} (h : Msk m) : ∀ (rest done : List Int) (owner : Array (Option Nat)), Own m done owner → done.length + rest.length ≤ m →
    ∃ owner', rest.foldl (stepF m) (some (owner, done.length)) = some (owner', done.length + rest.length) ∧ Own m (done ++ rest) owner'
  | [], done, owner, W, _ => ⟨owner, rfl, by simpa using W⟩
  | z :: rest, done, owner, W, few => by
    simp only [List.length_cons] at few
    obtain ⟨j, e, W1⟩ := lay_one h W (by omega) z
    obtain ⟨owner', f, W2⟩ := lay_many h rest (done ++ [z]) _ W1 (by simp; omega)
    refine ⟨owner', ?_, by simpa using W2⟩
    rw [List.foldl_cons, stepF_some e]
    simp only [List.length_append, List.length_cons, List.length_nil, Nat.zero_add] at f ⊢
    rw [f, show done.length + 1 + rest.length = done.length + (rest.length + 1) by omega]
theorem relaid_tb (t : SetTable) {hs : Array Int} {wanted M : Nat} (size : SetTable.sizeAbove wanted - 1 = M) (h : Msk M) (few : hs.size ≤ M) :
    ∃ t' order, t.relaid hs wanted = some (t', order) ∧ order.toList.Perm (List.range hs.size) ∧ Tb t' (order.toList.map fun i => hs.getD i 0) ∧ t'.mask = M ∧ t'.led = t.led ∧ t'.plain = t.plain := by
  obtain ⟨owner, f, W⟩ := lay_many h hs.toList [] _ (Own.init M) (by simpa using few)
  rw [List.nil_append] at W
  have laid : SetTable.layClean M hs = some owner := by
    rw [layClean_eq, show (0 : Nat) = ([] : List Int).length from rfl, f]
    rfl
  have live := ris_live (fun j => owner.getD j none) (List.range (M + 1)) (by unfold Ris; exact List.pairwise_lt_range)
  have l1 : Ris ((liveOf M owner).map (·.1)) := live.1
  have l2 : ∀ x ∈ (liveOf M owner).map (·.1), x ≤ M := fun x hx => Nat.le_of_lt_succ (List.mem_range.mp (live.2 x hx))
  have count : (liveOf M owner).length = hs.size := by
    obtain ⟨ps, p1, p2⟩ := W.ps
    have c1 := nat_nodup_len _ ps (List.Pairwise.imp (fun h => Nat.ne_of_lt h) l1) fun x hx => by
      obtain ⟨⟨j, k⟩, hq, rfl⟩ := List.mem_map.mp hx
      have := (mem_live W.sz).mp hq
      exact p2 j this.1 (by rw [this.2]; exact fun z => nomatch z)
    have c2 := nat_nodup_len (List.range hs.size) ((liveOf M owner).map (·.2)) List.nodup_range fun k hk => by
      obtain ⟨j, j1, j2⟩ := W.all k (by simpa using hk)
      exact List.mem_map.mpr ⟨(j, k), (mem_live W.sz).mpr ⟨j1, j2⟩, rfl⟩
    simp only [List.length_map, List.length_range, Array.length_toList] at c1 c2 p1
    omega
  refine ⟨tabOf t M owner, ((liveOf M owner).map (·.2)).toArray, by rw [relaid_eq, size, laid]; rfl, ?_, ?_, rfl, rfl, rfl⟩
  · refine perm_range _ _ (by simpa using count) fun k hk => ?_
    obtain ⟨j, j1, j2⟩ := W.all k (by simpa using hk)
    exact List.mem_map.mpr ⟨(j, k), (mem_live W.sz).mpr ⟨j1, j2⟩, rfl⟩
  · refine ⟨l1, rfl, by simp [tabOf], h, l2, fun i z j h1 h2 => ?_⟩
    simp only [tabOf, List.getElem?_map] at h1 h2
    cases e : (liveOf M owner)[i]? with
    | none => rw [e] at h2; cases h2
    | some q =>
      rw [e] at h1 h2
      obtain ⟨y, k⟩ := q
      simp only [Option.map_some, Option.some.injEq] at h1 h2
      subst h1; subst h2
      obtain ⟨b1, b2⟩ := (mem_live W.sz).mp (List.mem_of_getElem? e)
      obtain ⟨z0, K, a1, a2, a3⟩ := W.at_ y k b1 b2
      have ez : hs.getD k 0 = z0 := by
        rw [Array.getElem?_toList] at a1
        simp [Array.getD_eq_getD_getElem?, a1]
      rw [ez]
      refine ⟨K, a2, fun c hc => ?_⟩
      cases q : oAt owner (way M z0 c) with
      | none => exact absurd q (a3 c hc)
      | some k2 => exact List.mem_map.mpr ⟨(way M z0 c, k2), (mem_live W.sz).mpr ⟨way_in M z0 c, q⟩, rfl⟩
/-- when a table is full, how great the next one is -/
theorem next_mask : SetTable.sizeAbove (SetTable.grown 5) = 32 ∧ SetTable.sizeAbove (SetTable.grown 19) = 128 ∧ SetTable.sizeAbove (SetTable.grown 77) = 512 := by decide +kernel
end T3
end
-- T3Set
section
set_option maxRecDepth 100000
set_option maxHeartbeats 4000000
/-! T3Set: sets of keys that stand on the heap (tuples), at the model. -/
namespace T3
open PySem PySem.Spec PyProof.Rows L2
section
variable {P : Program} {w : World} {κ : Type} [DecidableEq κ]
/-- a kind of keys of which a search shows nothing -/
structure Shy (knd : HeapKind P w κ) : Prop where
  st : knd.Stays
  noCls : ∀ {A : Around} {E : Value → Shared → Prop} {s : Shared} {k : κ} {a : Addr} {Q : Bool → Shared → Prop}, knd.is s.heap k a → Q false s → wpAny (model P w) A (ofAClassStatement 8 (.ref a)) Q E s
  byVal : ∀ {A : Around} {E : Value → Shared → Prop} {s : Shared} {k : κ} {a : Addr} {Q : Bool → Shared → Prop}, knd.is s.heap k a → (∀ b, Q b s) → wpAny (model P w) A (hashByValue 8 (.ref a)) Q E s
  roomy : ∀ A : Around, A.units + 64 < cLine → knd.room A
variable {knd : HeapKind P w κ}
abbrev rowK (knd : HeapKind P w κ) (p : Addr × κ) : Int × Value := (knd.hash p.2, Value.ref p.1)
/-- the set at a: its keys L, in its table's order -/
structure SetK (knd : HeapKind P w κ) (h : Heap) (a : Addr) (L : List (Addr × κ)) (es : Array (Int × Value)) (ep : Nat) (t : SetTable) : Prop where
  ob : ∃ o, h.get? a = some o ∧ o.ExactSet ∧ o.data = .set es ep t
  rows : es.toList = L.map (rowK knd)
  tab : Tb t (L.map fun p => knd.hash p.2)
  nd : (L.map (·.2)).Nodup
  keys : ∀ p ∈ L, knd.is h p.2 p.1
  led : w.params.followText "set-order" = true ∨ t.led = true
  roomy : L.length * 5 < t.mask * 3
  few : L.length < 300
section
variable {A : Around} {E : Value → Shared → Prop} {s : Shared} {a : Addr} {L : List (Addr × κ)} {es : Array (Int × Value)} {ep : Nat} {t : SetTable}
theorem rows_size (h : es.toList = L.map (rowK knd)) : es.size = L.length := by
  have := congrArg List.length h
  simpa using this
theorem rows_get (h : es.toList = L.map (rowK knd)) {i : Nat} {p : Addr × κ} (hp : L[i]? = some p) : es[i]? = some (rowK knd p) := by
  rw [← Array.getElem?_toList, h, List.getElem?_map, hp]
  rfl
theorem fits_of {n : Nat} (nod : t.dummies = #[]) (sz : t.place.size = n) (le : n ≤ t.mask) : t.fits n = true := by
  simp [SetTable.fits, SetTable.fill, nod, sz, le]
theorem SetK.fits (R : SetK knd s.heap a L es ep t) : t.fits es.size = true := by
  have h1 := rows_size R.rows
  have h2 := R.tab.sz
  have h3 := R.roomy
  simp only [List.length_map] at h2
  exact fits_of R.tab.nod (by omega) (by omega)
/-- nothing is seen of a search among them -/
theorem unseen (S : Shy knd) {k : κ} {x : Addr} {Q : Bool → Shared → Prop} (hx : knd.is s.heap k x) {ys : List Value} (hy : ∀ y ∈ ys, ∃ c k', y = Value.ref c ∧ knd.is s.heap k' c) (q : Q false s) :
    wpAny (model P w) A (searchCouldBeSeen (.ref x) ys) Q E s := by
  unfold searchCouldBeSeen
  refine wpAny_bind (wpAny_forIn_list _ (fun left st s' => st.1 = none ∧ s' = s ∧ ∀ y ∈ left, ∃ c k', y = Value.ref c ∧ knd.is s.heap k' c) _ ?_ ?_ _ _ ⟨rfl, rfl, hy⟩)
  · rintro v left st s' ⟨e1, e2, all⟩
    subst e2
    obtain ⟨c, k', e3, hc⟩ := all v List.mem_cons_self
    subst e3
    have more : ∀ y ∈ left, ∃ c k', y = Value.ref c ∧ knd.is s'.heap k' c := fun y h => all y (List.mem_cons_of_mem _ h)
    dsimp only
    by_cases same : (x == c || (carriedByValue (.ref x) && carriedByValue (.ref c))) = true
    · exact wp_if_pos same (wpAny_pure ⟨rfl, rfl, more⟩)
    · refine wp_if_neg same (wpAny_bind (knd.quiet hx ?_))
      simp only [Bool.not_true, Bool.false_eq_true, if_false]
      refine wpAny_bind (knd.quiet hc ?_)
      simp only [Bool.not_true, Bool.false_eq_true, if_false]
      refine wpAny_bind (S.noCls hx ?_)
      simp only [Bool.false_eq_true, if_false]
      refine wpAny_bind (S.noCls hc ?_)
      simp only [Bool.false_eq_true, if_false]
      exact wpAny_pure ⟨rfl, rfl, more⟩
  · rintro ⟨r1, r2⟩ s' ⟨e1, e2, _⟩
    subst e2
    simp only at e1
    subst e1
    exact wpAny_pure q
abbrev stepAt (t : SetTable) (z : Int) (c : Nat) : SetTable.Probe := nth t.mask (runAt t.mask (SetTable.bits z % (t.mask + 1)) (SetTable.bits z)) c
theorem stepAt_clean (t : SetTable) (z : Int) (c : Nat) : (stepAt t z c).dummy = none := by
  have keep : ∀ (n : Nat) (p : SetTable.Probe), p.dummy = none → (nth t.mask p n).dummy = none := by
    intro n
    induction n with
    | zero => exact fun _ h => h
    | succ n ih => exact fun p h => ih _ (by unfold adv; split <;> exact h)
  exact keep c _ rfl
/-- the search for k, from the c-th step of its way -/
theorem seek (S : Shy knd) (R : SetK knd s.heap a L es ep t) {x : Addr} {k : κ} (hx : knd.is s.heap k x) (room : knd.room A) {K : Nat} (Kf : K < 10 * SetTable.turns t.mask)
    (free : way t.mask (knd.hash k) K ∉ t.place.toList) (full : ∀ c, c < K → way t.mask (knd.hash k) c ∈ t.place.toList) {Q : SetFound → Shared → Prop}
    (yes : k ∈ L.map (·.2) → Q (.there none) s) (no : k ∉ L.map (·.2) → Q (.free (way t.mask (knd.hash k) K) false) s) :
    ∀ (f c : Nat) (stand : Option SetTable.Probe), stand.getD (t.probeStart (knd.hash k)) = stepAt t (knd.hash k) c → c ≤ K → K < f + c →
      (∀ (i : Nat) p, L[i]? = some p → p.2 = k → ∃ c', c ≤ c' ∧ c' < K ∧ t.place.toList[i]? = some (way t.mask (knd.hash k) c')) →
      wpAny (model P w) A (setSearchFrom a (.ref x) (knd.hash k) true f stand) Q E s := by
  intro f
  induction f with
  | zero => intro c stand _ h1 h2; omega
  | succ f ih =>
    intro c stand hst hc hf ahead
    obtain ⟨o, ho, hex, hd⟩ := R.ob
    have gw : ¬ t.gaveWay = true := by unfold SetTable.gaveWay; rw [R.tab.msk.odd]; decide
    rw [setSearchFrom_succ]
    refine wpAny_bind (wpAny_setState_of ho hd R.fits ?_)
    dsimp only
    refine wp_if_neg gw ?_
    try refine wpAny_bind (wpAny_pure ?_)
    have on : ∀ q, nth t.mask (stepAt t (knd.hash k) c) q = stepAt t (knd.hash k) (c + q) := fun q => (nth_add t.mask c _ q).symm
    have onj : ∀ q, (nth t.mask (stepAt t (knd.hash k) c) q).j = way t.mask (knd.hash k) (c + q) := fun q => congrArg SetTable.Probe.j (on q)
    have hashed : ∀ (i : Nat) p, L[i]? = some p → (fun i => (es[i]?.map (·.1)).getD 0) i = knd.hash p.2 := fun i p hp => by simp only [rows_get R.rows hp]; rfl
    rcases go_spec t R.tab.up R.tab.nod (fun i => (es[i]?.map (·.1)).getD 0) (knd.hash k) (10 * SetTable.turns t.mask) (K - c) _ (stepAt_clean t _ c) (by omega)
      (fun q hq => by rw [onj]; exact full _ (by omega)) (by rw [onj, show c + (K - c) = K by omega]; exact free) with ⟨q, i, q1, q2, q3, q4, q5⟩ | ⟨q4, q5⟩
    · -- a slot of the same hash
      have met : t.probe (fun i => (es[i]?.map (·.1)).getD 0) (knd.hash k) (stand.getD (t.probeStart (knd.hash k))) = some (.candidate (way t.mask (knd.hash k) (c + q)) i (stepAt t (knd.hash k) (c + (q + 1)))) := by
        rw [hst, ← onj, ← on]
        exact q5
      rw [met]
      dsimp only
      rw [onj] at q2
      have il : i < L.length := by
        have h1 := (List.getElem?_eq_some_iff.mp q2).1
        have h2 := R.tab.sz
        simp only [List.length_map, Array.length_toList] at h1 h2
        omega
      obtain ⟨p, hp⟩ : ∃ p, L[i]? = some p := ⟨_, List.getElem?_eq_getElem il⟩
      have pm := List.mem_of_getElem? hp
      have tail : wpAny (model P w) A (searchRest a (.ref x) (knd.hash k) true f es t (way t.mask (knd.hash k) (c + q)) i (stepAt t (knd.hash k) (c + (q + 1)))) Q E s := by
        unfold searchRest
        rw [rows_get R.rows hp]
        dsimp only
        refine wpAny_bind (wpAny_holding (knd.eqBool room (R.keys p pm) hx ?_))
        refine wpAny_bind (wpAny_setState_of ho hd R.fits ?_)
        dsimp only
        by_cases same : p.2 = k
        · exact wp_if_pos (by simp [same]) (wpAny_pure (yes (List.mem_map.mpr ⟨p, pm, same⟩)))
        · refine wp_if_neg (by simp [same]) ?_
          try refine wpAny_bind (wpAny_pure ?_)
          rw [sameMem]
          dsimp only
          have live := slot_live R.tab.up q2
          simp only [if_true, live, rows_get R.rows hp]
          refine wpAny_bind (wpAny_isSame_ref_self (wpAny_bind (wpAny_pure ?_)))
          simp only [if_true]
          refine wp_if_neg (by simp [same]) (ih (c + (q + 1)) _ rfl (by omega) (by omega) fun i0 p0 h0 k0 => ?_)
          obtain ⟨c', a1, a2, a3⟩ := ahead i0 p0 h0 k0
          refine ⟨c', Nat.lt_of_not_le fun le => ?_, a2, a3⟩
          have le : c' ≤ c + q := le
          rcases Nat.lt_or_eq_of_le le with lt | eq
          · exact q4 (c' - c) i0 (by omega) (by rw [onj, show c + (c' - c) = c' by omega]; exact a3) ((hashed i0 p0 h0).trans (congrArg knd.hash k0))
          · subst eq
            have e2 := slot_live R.tab.up a3
            rw [live] at e2
            cases e2
            rw [hp] at h0
            cases h0
            exact same k0
      by_cases led : t.led = true
      · refine wp_if_neg (by simp [led]) ?_
        try refine wpAny_bind (wpAny_pure ?_)
        exact tail
      · refine wp_if_pos (by simp [led]) (wpAny_bind (unseen S hx (fun y hy => ?_) ?_))
        · obtain ⟨e, he, rfl⟩ := List.mem_map.mp hy
          have he : e ∈ es.toList := by simp at he; simpa using he.1
          rw [R.rows] at he
          obtain ⟨p', hp', rfl⟩ := List.mem_map.mp he
          exact ⟨_, _, rfl, R.keys p' hp'⟩
        · refine wp_if_neg (by decide) ?_
          try refine wpAny_bind (wpAny_pure ?_)
          exact tail
    · -- the free slot
      have met : t.probe (fun i => (es[i]?.map (·.1)).getD 0) (knd.hash k) (stand.getD (t.probeStart (knd.hash k))) = some (.empty (way t.mask (knd.hash k) K) none) := by
        have := onj (K - c)
        rw [show c + (K - c) = K by omega] at this
        rw [hst, ← this]
        exact q5
      rw [met]
      dsimp only
      refine wpAny_pure (no fun hm => ?_)
      obtain ⟨p0, h0, k0⟩ := List.mem_map.mp hm
      obtain ⟨i0, h1⟩ := List.mem_iff_getElem?.mp h0
      obtain ⟨c', a1, a2, a3⟩ := ahead i0 p0 h1 k0
      exact q4 (c' - c) i0 (by omega) (by rw [onj, show c + (c' - c) = c' by omega]; exact a3) ((hashed i0 p0 h1).trans (congrArg knd.hash k0))
theorem seek_all (S : Shy knd) (R : SetK knd s.heap a L es ep t) {x : Addr} {k : κ} (hx : knd.is s.heap k x) (room : knd.room A) {Q : SetFound → Shared → Prop}
    (yes : k ∈ L.map (·.2) → Q (.there none) s)
    (no : ∀ K, k ∉ L.map (·.2) → way t.mask (knd.hash k) K ∉ t.place.toList → (∀ c, c < K → way t.mask (knd.hash k) c ∈ t.place.toList) → Q (.free (way t.mask (knd.hash k) K) false) s) :
    wpAny (model P w) A (setSearch a (.ref x) (knd.hash k) true) Q E s := by
  have h1 := R.roomy
  obtain ⟨K, Kf, free, full⟩ := R.tab.free (by rw [List.length_map]; omega) (knd.hash k)
  have h2 := R.tab.msk.le
  unfold setSearch
  refine seek S R hx room Kf free full yes (fun h => no K h free full) 100000 0 none rfl (Nat.zero_le _) (by unfold SetTable.turns at Kf; omega) fun i p hp hk => ?_
  have hz : (L.map fun p => knd.hash p.2)[i]? = some (knd.hash k) := by rw [List.getElem?_map, hp, ← hk]; rfl
  have il : i < t.place.toList.length := by
    have h3 := (List.getElem?_eq_some_iff.mp hp).1
    have h4 := R.tab.sz
    simp only [List.length_map, Array.length_toList] at h4 ⊢
    omega
  have hj := List.getElem?_eq_getElem il
  obtain ⟨c, c1, c2⟩ := R.tab.ahead free hz hj
  exact ⟨c, Nat.zero_le _, c1, by rw [hj, c2]⟩
/-! laying anew -/
theorem range_get {α : Type} : ∀ (L : List α), (List.range L.length).filterMap (fun i => L[i]?) = L
  | [] => rfl
  | x :: L => by
    rw [List.length_cons, List.range_succ_eq_map, List.filterMap_cons_some (b := x) (by rfl), List.filterMap_map]
    exact congrArg (x :: ·) (range_get L)
theorem rows_order {α : Type} (f : α → Int × Value) (L : List α) (es : Array (Int × Value)) (order : Array Nat) (hr : es.toList = L.map f) (hp : order.toList.Perm (List.range L.length)) :
    ∃ M : List α, (order.filterMap (es[·]?)).toList = M.map f ∧ M.Perm L ∧ (M.map fun p => (f p).1) = order.toList.map fun i => (es.map (·.1)).getD i 0 := by
  have get : ∀ i, es[i]? = (L[i]?).map f := fun i => by rw [← Array.getElem?_toList, hr, List.getElem?_map]
  refine ⟨order.toList.filterMap fun i => L[i]?, ?_, ?_, ?_⟩
  · rw [Array.toList_filterMap, List.map_filterMap]
    exact congrArg (fun g => List.filterMap g order.toList) (funext get)
  · have := hp.filterMap fun i => L[i]?
    rwa [range_get] at this
  · have key : ∀ l : List Nat, (∀ i ∈ l, i < L.length) → ((l.filterMap fun i => L[i]?).map fun p => (f p).1) = l.map fun i => (es.map (·.1)).getD i 0 := by
      intro l
      induction l with
      | nil => exact fun _ => rfl
      | cons i l ih =>
        intro h
        have hi := h i List.mem_cons_self
        have e := get i
        rw [List.getElem?_eq_getElem hi] at e
        rw [List.filterMap_cons_some (List.getElem?_eq_getElem hi), List.map_cons, List.map_cons, ih fun j hj => h j (List.mem_cons_of_mem _ hj)]
        congr 1
        simp [Array.getD_eq_getD_getElem?, e]
    exact key _ fun i hi => List.mem_range.mp (hp.mem_iff.mp hi)
/-- keys stay while a set is written -/
theorem Shy.same (S : Shy knd) {h h' : Heap} {k : κ} {x : Addr} {o : Obj} (hx : knd.is h k x) (ho : h.get? a = some o) (hd : o.data = .set es ep t) (sb : Heap.SameBut a h h') : knd.is h' k x :=
  S.st.stays (fun b u vs n hb du => (sb.2 b (by
    rintro rfl
    rw [ho] at hb
    cases hb
    rw [hd] at du
    cases du)).trans hb) hx
theorem relay (S : Shy knd) {o : Obj} (ho : s.heap.get? a = some o) (hex : o.ExactSet) (hd : o.data = .set es ep t) (hrows : es.toList = L.map (rowK knd)) (sz : t.place.size = es.size) (nod : t.dummies = #[]) (le : es.size ≤ t.mask)
    (nd : (L.map (·.2)).Nodup) (keys : ∀ p ∈ L, knd.is s.heap p.2 p.1) (led : w.params.followText "set-order" = true ∨ t.led = true) (few : L.length < 300) {wanted M : Nat}
    (size : SetTable.sizeAbove wanted = M + 1) (msk : Msk M) (room : L.length * 5 < M * 3) {Q : Unit → Shared → Prop}
    (q : ∀ h' L' es' ep' t', Heap.SameBut a s.heap h' → SetK knd h' a L' es' ep' t' → L'.Perm L → Q () { s with heap := h' }) : wpAny (model P w) A (setRelay a wanted) Q E s := by
  have cnt := rows_size hrows
  obtain ⟨t', order, e, perm, T, em, el, ep'⟩ := relaid_tb t (hs := es.map (·.1)) (wanted := wanted) (by rw [size]; rfl) msk (by rw [Array.size_map]; omega)
  rw [Array.size_map, cnt] at perm
  obtain ⟨L2, r1, r2, r3⟩ := rows_order (rowK knd) L es order hrows perm
  rw [← r3] at T
  have cnt2 : (order.filterMap (es[·]?)).size = es.size := by rw [rows_size r1, r2.length_eq, cnt]
  have mle := msk.le
  rw [setRelay_eq]
  refine wpAny_bind (wpAny_setState_of ho hd (fits_of nod sz le) ?_)
  dsimp only
  refine wp_if_neg (by rw [size, sizeLine_eq]; omega) ?_
  try refine wpAny_bind (wpAny_pure ?_)
  rw [e]
  dsimp only
  refine wpAny_bind (wp_if_neg (by rw [cnt2]; simp) ?_)
  try refine wpAny_bind (wpAny_pure ?_)
  refine wpAny_pure ?_
  dsimp only
  refine wpAny_storeSet_of ho hd ?_ (by rw [cnt2, cnt, sizeLine_eq]; omega)
  have sb : Heap.SameBut a s.heap (s.heap.update a (Obj.putSet (order.filterMap (es[·]?)) t')) := Heap.SameBut.update ..
  refine q _ L2 (order.filterMap (es[·]?)) (ep + 1) t' sb
    { ob := ⟨_, store_at ho hd, ⟨hex.1, hex.2.1, hex.2.2⟩, rfl⟩, rows := r1, tab := T, nd := (r2.map (·.2)).nodup_iff.mpr nd,
      keys := fun p hp => S.same (keys p (r2.mem_iff.mp hp)) ho hd sb, led := by rw [el]; exact led, roomy := by rw [r2.length_eq, em]; exact room, few := by rw [r2.length_eq]; exact few } r2
/-- an item added -/
theorem add_key (S : Shy knd) (R : SetK knd s.heap a L es ep t) {x : Addr} {k : κ} (hx : knd.is s.heap k x) (room : knd.room A) (few : L.length + 1 < 300) {Q : Bool → Shared → Prop}
    (q : ∀ b h' L' es' ep' t', Heap.SameBut a s.heap h' → SetK knd h' a L' es' ep' t' → (k ∈ L.map (·.2) → L' = L) → (k ∉ L.map (·.2) → L'.Perm ((x, k) :: L)) → Q b { s with heap := h' }) :
    wpAny (model P w) A (setAddHashed a (.ref x) (knd.hash k)) Q E s := by
  obtain ⟨o, ho, hex, hd⟩ := R.ob
  have cnt := rows_size R.rows
  have roomy := R.roomy
  unfold setAddHashed
  refine wpAny_holding ?_
  rw [show (100000 : Nat) = 99999 + 1 from rfl, setAddHashedIn_succ]
  refine wpAny_bind (wpAny_setState_of ho hd R.fits ?_)
  dsimp only
  refine wp_if_neg (by simp [byScan, Value.scannable]) ?_
  try refine wpAny_bind (wpAny_pure ?_)
  refine wpAny_bind (seek_all S R hx room (fun hm => ?_) fun K hm free full => ?_)
  · exact wpAny_pure (q false s.heap L es ep t (Heap.SameBut.refl a s.heap) R (fun _ => rfl) fun z => absurd hm z)
  · dsimp only
    refine wpAny_bind (wpAny_setState_of ho hd R.fits ?_)
    dsimp only
    obtain ⟨p, t1, e1, e2, e3, T, em, el, epl, fill⟩ := R.tab.put free full
    rw [e1]
    dsimp only
    -- whether the hash is by value or not, the table is the same but for a mark
    suffices fin : ∀ t2 : SetTable, Tb t2 ((L.map fun p => knd.hash p.2).take p ++ knd.hash k :: (L.map fun p => knd.hash p.2).drop p) → t2.mask = t.mask → t2.led = t.led → t2.fill = (L.map fun p => knd.hash p.2).length + 1 →
        wpAny (model P w) A (storeSet a (SetTable.insertAt es p (knd.hash k, Value.ref x)) t2) (fun _ s' => wpAny (model P w) A (if (!false && t2.tooFull) = true then (do setRelay a (SetTable.grown (es.size + 1)); pure true) else pure true) Q E s') E s by
      by_cases pl : t1.plain = true
      · have go : ∀ b : Bool, wpAny (model P w) A (storeSet a (SetTable.insertAt es p (knd.hash k, Value.ref x)) (if b = true then t1 else { t1 with plain := false })) (fun _ s' => wpAny (model P w) A (if (!false && (if b = true then t1 else { t1 with plain := false }).tooFull) = true then (do setRelay a (SetTable.grown (es.size + 1)); pure true) else pure true) Q E s') E s := fun b => by
          cases b
          · exact fin { t1 with plain := false } ⟨T.up, T.nod, T.sz, T.msk, T.in_, T.rea⟩ em el fill
          · exact fin t1 T em el fill
        exact wp_if_pos pl (wpAny_bind (S.byVal hx fun b => wpAny_bind (go b)))
      · exact wp_if_neg pl (wpAny_bind (wpAny_pure (wpAny_bind (fin t1 T em el fill))))
    clear T em el fill
    intro t1 T em el fill
    have led1 : w.params.followText "set-order" = true ∨ t1.led = true := by rw [el]; exact R.led
    have perm := put_perm L p (x, k)
    have rows1 : (SetTable.insertAt es p (knd.hash k, Value.ref x)).toList = (L.take p ++ (x, k) :: L.drop p).map (rowK knd) := by
      rw [SetTable.toList_insertAt, R.rows]
      simp [List.map_take, List.map_drop]
    have hs1 : (L.take p ++ (x, k) :: L.drop p).map (fun p => knd.hash p.2) = (L.map fun p => knd.hash p.2).take p ++ knd.hash k :: (L.map fun p => knd.hash p.2).drop p := by
      simp [List.map_take, List.map_drop]
    rw [← hs1] at T
    rw [List.length_map] at fill
    have nd1 : ((L.take p ++ (x, k) :: L.drop p).map (·.2)).Nodup := (perm.map (·.2)).nodup_iff.mpr (List.nodup_cons.mpr ⟨hm, R.nd⟩)
    have cnt1 := rows_size rows1
    have len1 := perm.length_eq
    generalize SetTable.insertAt es p (knd.hash k, Value.ref x) = es1 at rows1 cnt1 ⊢
    generalize L.take p ++ (x, k) :: L.drop p = L1 at perm T nd1 rows1 cnt1 len1
    simp only [List.length_cons] at len1
    refine wpAny_storeSet_of ho hd ?_ (by rw [cnt1, sizeLine_eq]; omega)
    have sb : Heap.SameBut a s.heap (s.heap.update a (Obj.putSet es1 t1)) := Heap.SameBut.update ..
    have ho1 := store_at (es' := es1) (t' := t1) ho hd
    generalize s.heap.update a (Obj.putSet es1 t1) = h1 at sb ho1 ⊢
    have keys1 : ∀ p ∈ L1, knd.is h1 p.2 p.1 := fun p hp => by
      rcases List.mem_cons.mp (perm.mem_iff.mp hp) with e | hp
      · rw [e]; exact S.same hx ho hd sb
      · exact S.same (R.keys p hp) ho hd sb
    by_cases hf : t1.tooFull = true
    · first
        | (refine wpAny_bind ?_; refine wp_if_pos (by simp [hf]) ?_)
        | (refine wp_if_pos (by simp [hf]) ?_; refine wpAny_bind ?_)
      have full1 : (L.length + 1) * 5 ≥ t.mask * 3 := by
        have h := hf
        unfold SetTable.tooFull at h
        rw [decide_eq_true_eq, fill, em] at h
        exact h
      have sz1 : t1.place.size = es1.size := by
        have h := T.sz
        rw [List.length_map] at h
        omega
      rw [cnt]
      obtain ⟨M, size, msk, rm⟩ : ∃ M, SetTable.sizeAbove (SetTable.grown (L.length + 1)) = M + 1 ∧ Msk M ∧ L1.length * 5 < M * 3 := by
        obtain ⟨n1, n2, n3⟩ := next_mask
        rcases R.tab.msk with e | e | e | e
        · exact ⟨31, by rw [show L.length + 1 = 5 by omega, n1], .inr (.inl rfl), by omega⟩
        · exact ⟨127, by rw [show L.length + 1 = 19 by omega, n2], .inr (.inr (.inl rfl)), by omega⟩
        · exact ⟨511, by rw [show L.length + 1 = 77 by omega, n3], .inr (.inr (.inr rfl)), by omega⟩
        · omega
      refine relay (s := { s with heap := h1 }) S ho1 ⟨hex.1, hex.2.1, hex.2.2⟩ rfl rows1 sz1 T.nod (by rw [cnt1, em]; omega) nd1 keys1 led1 (by omega) size msk rm fun h2 L2 es2 ep2 t2 sb2 R2 perm2 => ?_
      exact wpAny_pure (q true h2 L2 es2 ep2 t2 (sb.trans sb2) R2 (fun z => absurd z hm) fun _ => perm2.trans perm)
    · first
        | refine wp_if_neg (by simp [hf]) ?_
        | (refine wpAny_bind ?_; refine wp_if_neg (by simp [hf]) ?_; refine wpAny_pure ?_)
      refine wpAny_pure (q true h1 L1 es1 (ep + 1) t1 sb
        { ob := ⟨_, ho1, ⟨hex.1, hex.2.1, hex.2.2⟩, rfl⟩, rows := rows1, tab := T, nd := nd1, keys := keys1, led := led1, few := by omega, roomy := ?_ } (fun z => absurd z hm) fun _ => perm)
      have h := hf
      unfold SetTable.tooFull at h
      rw [decide_eq_true_eq, fill] at h
      omega
end
end
end T3
end
-- T3SetOf
section
set_option maxRecDepth 100000
set_option maxHeartbeats 4000000
/-! T3SetOf: set(xs), xs a list of tuples; what sorted collects of it. -/
namespace T3
open PySem PySem.Spec PyProof.Rows L2
section
variable {P : Program} {w : World} {κ : Type} [DecidableEq κ] {knd : HeapKind P w κ}
/-- the first i of ks are in -/
structure Taken (ks : List (Addr × κ)) (i : Nat) (L : List (Addr × κ)) : Prop where
  sub : ∀ p ∈ L, p ∈ ks.take i
  all : ∀ p ∈ ks.take i, p.2 ∈ L.map (·.2)
/-- fewer than 299 different keys -/
def Few (ks : List (Addr × κ)) : Prop := ∀ D : List κ, D.Nodup → (∀ k ∈ D, k ∈ ks.map (·.2)) → D.length < 299
abbrev emptySet (w : World) : Obj := { cls := .type "set", dict := none, data := .set #[] 0 (.fresh 0 0 (!w.params.followText "set-order")) }
theorem take_one {α : Type} {l : List α} {i : Nat} {x : α} (h : l[i]? = some x) : l.take (i + 1) = l.take i ++ [x] := by
  rw [List.take_succ, h]
  rfl
theorem Taken.old {ks L : List (Addr × κ)} {i : Nat} {x : Addr × κ} (g : Taken ks i L) (h : ks[i]? = some x) (hm : x.2 ∈ L.map (·.2)) : Taken ks (i + 1) L := by
  constructor <;> intro p hp
  · rw [take_one h]; exact List.mem_append_left _ (g.sub p hp)
  · rw [take_one h] at hp
    rcases List.mem_append.mp hp with z | z
    · exact g.all p z
    · rw [List.mem_singleton.mp z]; exact hm
theorem Taken.new {ks L L' : List (Addr × κ)} {i : Nat} {x : Addr × κ} (g : Taken ks i L) (h : ks[i]? = some x) (pm : L'.Perm (x :: L)) : Taken ks (i + 1) L' := by
  constructor <;> intro p hp
  · rw [take_one h]
    rcases List.mem_cons.mp (pm.mem_iff.mp hp) with e | z
    · rw [e]; simp
    · exact List.mem_append_left _ (g.sub p z)
  · rw [(pm.map (·.2)).mem_iff, List.map_cons]
    rw [take_one h] at hp
    rcases List.mem_append.mp hp with z | z
    · exact List.mem_cons_of_mem _ (g.all p z)
    · rw [List.mem_singleton.mp z]; exact List.mem_cons_self
theorem Taken.few {ks L : List (Addr × κ)} {i : Nat} (g : Taken ks i L) (nd : (L.map (·.2)).Nodup) (f : Few ks) : L.length < 299 := by
  have := f _ nd fun k hk => by
    obtain ⟨p, hp, e⟩ := List.mem_map.mp hk
    exact List.mem_map.mpr ⟨p, List.mem_of_mem_take (g.sub p hp), e⟩
  simpa using this
section
variable {A : Around} {E : Value → Shared → Prop} {s : Shared}
theorem SetK.keep {h h' : Heap} {a : Addr} {L : List (Addr × κ)} {es : Array (Int × Value)} {ep : Nat} {t : SetTable} (R : SetK knd h a L es ep t) (ha : ∀ o, h.get? a = some o → h'.get? a = some o) (hk : ∀ p ∈ L, knd.is h' p.2 p.1) : SetK knd h' a L es ep t :=
  let ⟨o, ho, r⟩ := R.ob
  { R with ob := ⟨o, ha o ho, r⟩, keys := hk }
theorem Shy.keep (S : Shy knd) {h h' : Heap} {k : κ} {b : Addr} (x : knd.is h k b) (hk : ∀ c o, h.get? c = some o → h'.get? c = some o) : knd.is h' k b := S.st.stays (fun c o _ _ hc _ => hk c o hc) x
theorem setK_empty {h : Heap} {a : Addr} (ho : h.get? a = some (emptySet w)) : SetK knd h a [] #[] 0 (.fresh 0 0 (!w.params.followText "set-order")) where
  ob := ⟨_, ho, ⟨rfl, rfl, rfl⟩, rfl⟩
  rows := rfl
  tab := { up := List.Pairwise.nil, nod := rfl, sz := rfl, msk := .inl rfl, in_ := fun x hx => (by cases hx), rea := fun i z j hi => (by simp at hi) }
  nd := List.nodup_nil
  keys := fun p hp => (by cases hp)
  led := by
    show _ ∨ (!w.params.followText "set-order") = true
    cases w.params.followText "set-order" <;> simp
  roomy := show 0 * 5 < 7 * 3 by decide
  few := show 0 < 300 by decide
/-- the loop of set.update -/
theorem update_keys (S : Shy knd) {I : Addr} {fp wr : List Addr} {Gn : Array GenState → Array GenState → Prop} {n : Nat} {Pv : Nat → Value → Prop} {St : Nat → Shared → Prop} {R : Result → Shared → Prop}
    (W : WalksS P w A.in1 I fp wr Gn n Pv St) (T : Addr) (apart : T ∉ fp) (ks : List (Addr × κ)) (cnt : n = ks.length) (few : Few ks) (item : ∀ i v, Pv i v → ∃ p, ks[i]? = some p ∧ v = .ref p.1)
    (h0 : Heap) (keys : ∀ p ∈ ks, knd.is h0 p.2 p.1) (newT : h0.get? T = none) (newW : ∀ b ∈ wr, h0.get? b = none) (room : knd.room A.in1) :
    ∀ (left i : Nat) (s : Shared), n = i + left → St i s → (∀ b o, h0.get? b = some o → s.heap.get? b = some o) → (∃ L es ep t, SetK knd s.heap T L es ep t ∧ Taken ks i L) →
      (∀ s' L es ep t, Moved (T :: wr) Gn s s' → SetK knd s'.heap T L es ep t → Taken ks n L → (∀ b o, h0.get? b = some o → s'.heap.get? b = some o) → R (.ok (.ret .none)) s') →
      codeAny (model P w) A (.builtin "set.update.loop" ⟨[.ref T, .ref I], []⟩) R s := by
  have aw : T ∉ wr := fun h => apart (W.sub _ h)
  have wider : ∀ b ∈ wr, b ∈ T :: wr := fun b hb => List.mem_cons_of_mem _ hb
  have stay : ∀ {s s' : Shared}, Moved wr Gn s s' → (∀ b o, h0.get? b = some o → s.heap.get? b = some o) → ∀ b o, h0.get? b = some o → s'.heap.get? b = some o := fun m k b o e =>
    m.heap b o (fun hb => by rw [newW b hb] at e; cases e) (k b o e)
  intro left
  induction left with
  | zero =>
    rintro i s rfl st old ⟨L, es, ep, t, hT, g⟩ fin
    refine codeAny_builtin F.entry_set_update_loop ?_
    rw [Around.under_plainId F.plain_set_update_loop _]
    show wpAny _ A.in1 (pyNext (.ref I) >>= _) _ _ s
    refine wpAny_bind (W.done s _ _ st fun s' m => ?_)
    have old' := stay m old
    exact wpAny_pure (fin s' L es ep t (m.mono wider) (hT.keep (fun o e => m.heap T o aw e) fun p hp => S.keep (keys p (List.mem_of_mem_take (g.sub p hp))) old') g old')
  | succ left ih =>
    rintro i s en st old ⟨L, es, ep, t, hT, g⟩ fin
    refine codeAny_builtin F.entry_set_update_loop ?_
    rw [Around.under_plainId F.plain_set_update_loop _]
    show wpAny _ A.in1 (pyNext (.ref I) >>= _) _ _ s
    refine wpAny_bind (W.item i s _ _ (by omega) st fun v s' hv st' m => ?_)
    obtain ⟨p, hp, ev⟩ := item i v hv
    subst ev
    have old' := stay m old
    have hT' : SetK knd s'.heap T L es ep t := hT.keep (fun o e => m.heap T o aw e) fun q hq => S.keep (keys q (List.mem_of_mem_take (g.sub q hq))) old'
    have hx : knd.is s'.heap p.2 p.1 := S.keep (keys p (List.mem_of_getElem? hp)) old'
    have lt := g.few hT'.nd few
    show wpAny _ A.in1 (holding [Value.ref p.1] (setAdd T (.ref p.1)) >>= _) _ _ s'
    refine wpAny_bind (wpAny_holding ?_)
    unfold setAdd
    refine wpAny_holding (wpAny_bind (knd.pyHash room hx ?_))
    refine add_key (s := { s' with toks := s'.toks + knd.draws p.2 }) S hT' hx room (by omega) fun b h' L' es' ep' t' sb hT2 c1 c2 => ?_
    have g' : Taken ks (i + 1) L' := by
      by_cases c : p.2 ∈ L.map (·.2)
      · rw [c1 c]; exact g.old hp c
      · exact g.new hp (c2 c)
    have old2 : ∀ b o, h0.get? b = some o → h'.get? b = some o := fun b o e => (sb.2 b (by rintro rfl; rw [newT] at e; cases e)).trans (old' b o e)
    refine wpAny_pure ⟨plainId_quiet F.plain_set_update_loop _, ih (i + 1) _ (by omega) (W.frame _ s' _ _ st' (Nat.le_add_right _ _) fun b hb o e => ?_) old2 ⟨L', es', ep', t', hT2, g'⟩ fun s2 L2 es2 ep2 t2 m2 R2 g2 o2 => ?_⟩
    · exact (sb.2 b (by rintro rfl; exact apart hb)).trans e
    · refine fin s2 L2 es2 ep2 t2 (Moved.trans W.gtrans ((m.mono wider).then_heap (Nat.le_add_right _ _) fun b o hb e => ?_) m2) R2 g2 o2
      exact (sb.2 b (by rintro rfl; exact hb List.mem_cons_self)).trans e
set_option maxHeartbeats 8000000 in
/-- set(xs) -/
theorem set_call (S : Shy knd) {l : Addr} {items : Array Value} (ks : List (Addr × κ)) {Q : Value → Shared → Prop} (hh : A.handled = none) (hl : s.heap.IsList l items) (hit : items.toList = ks.map fun p => Value.ref p.1)
    (keys : ∀ p ∈ ks, knd.is s.heap p.2 p.1) (few : Few ks) (room : knd.room A.in1.in1.in1)
    (q : ∀ (h' : Heap) (tk : Nat) L es ep t, SetK knd h' s.heap.objs.size L es ep t → Taken ks ks.length L → (∀ b o, s.heap.get? b = some o → h'.get? b = some o) → Q (.ref s.heap.objs.size) { s with heap := h', toks := tk }) :
    wpAny (model P w) A (call (.type "set") [.ref l]) Q E s := by
  have cnt : items.size = ks.length := by simpa using congrArg List.length hit
  obtain ⟨c, tl, hmro⟩ := F.called_set.mro
  have m1 := F.called_set.made
  have m2 := F.called_set.sub
  refine wpAny_call (codeAny_of_tree ?_)
  show wpAny _ _ (callAny (.type "set") _) _ _ _
  refine wpAny_pure ⟨Code.quiet_builtin _ (by decide +kernel), codeAny_builtin F.entry_type_call ?_⟩
  rw [Around.under_plain (weight_type_call_type "set" [.ref l] []) rfl]
  have m3 := F.called_set.notType
  have m4 := F.called_set.canCreate
  have m5 := F.typeCall_set_1 (.ref l)
  (repeat (any_goals (first | assumption | wp_step))); have new : (s.heap.push (emptySet w)).get? s.heap.objs.size = some (emptySet w) := Heap.get?_push_size _ rfl
  refine codeAny_mono (code_set_led1 (.ref l) (E := E) (Q₁ := fun obj s₁ => obj = .ref s.heap.objs.size ∧ s₁ = { s with heap := s.heap.push (emptySet w) }) ⟨rfl, rfl⟩) fun r s₁ hr => ?_
  match r, hr with
  | .error e, hr => exact hr
  | .ok .next, hr => exact hr.elim
  | .ok .brk, hr => exact hr.elim
  | .ok .cont, hr => exact hr.elim
  | .ok (.ret obj), hr =>
    obtain ⟨e1, e2⟩ := hr
    subst e1; subst e2
    have hT : Shared.TypeIs { s with heap := s.heap.push (emptySet w) } (.ref s.heap.objs.size) "set" := ⟨_, new, rfl⟩
    have i1 := F.called_set.init.lookup
    have i2 := F.called_set.init.bind (.ref s.heap.objs.size)
    (repeat (any_goals (first | assumption | wp_step))); refine codeAny_mono (codeAny_call_builtin (R := wants (fun r s₂ => r = .none ∧ ∃ h' tk L es ep t, s₂ = { s with heap := h', toks := tk } ∧ SetK knd h' s.heap.objs.size L es ep t ∧ Taken ks ks.length L ∧
        (∀ b o, s.heap.get? b = some o → h'.get? b = some o)) E) F.called_set.init.plain F.entry_set_init (check_set_init_1 hT ?_)) fun r₂ s₂ hr₂ => ?_
    · obtain ⟨⟨ocls, odict, odata, oslots⟩, hol, hcl, nl, hdl⟩ := hl
      simp only at hcl hdl
      subst hcl; subst hdl
      have hol' : (s.heap.push (emptySet w)).get? l = some { cls := .type "list", dict := odict, data := .seq items nl, slots := oslots } := Heap.get?_push_of_some _ hol
      have n1 := F.sub_list_set
      have n2 := F.sub_list_frozenset
      have n3 : (Value.type "list" == Value.type "dict") = false := by decide
      have hl1 : (s.heap.push (emptySet w)).IsList l items := ⟨_, hol', rfl, nl, rfl⟩
      unfold Builtin.«set.__init__» noKeywords Builtin.Frozenset.updateFrom
      generalize hPI : pyIter = PI
      wp_walk
      subst hPI
      refine wpAny_pyIter_list hl1 (wpAny_bind (wpAny_runValue ?_))
      have hlS : l < s.heap.objs.size := Heap.lt_size hol
      have sz1 : (s.heap.push (emptySet w)).objs.size = s.heap.objs.size + 1 := Heap.size_push ..
      have nothing : ∀ b, s.heap.objs.size ≤ b → s.heap.get? b = none := fun b hb => by
        cases e : s.heap.get? b with
        | none => rfl
        | some o => exact absurd (Nat.lt_of_lt_of_le (Heap.lt_size e) hb) (Nat.lt_irrefl _)
      have apart : l ≠ (s.heap.push (emptySet w)).objs.size := by rw [sz1]; exact Nat.ne_of_lt (Nat.lt_succ_of_lt hlS)
      have keep0 : ∀ u b o, s.heap.get? b = some o → ((s.heap.push (emptySet w)).push u).get? b = some o := fun u b o e => Heap.get?_push_of_some _ (Heap.get?_push_of_some _ e)
      have item : ∀ (i : Nat) (v : Value), items[i]? = some v → ∃ p, ks[i]? = some p ∧ v = .ref p.1 := fun i v hv => by
        have e : items.toList[i]? = some v := by rw [Array.getElem?_toList]; exact hv
        rw [hit, List.getElem?_map] at e
        cases hq : ks[i]? with
        | none => rw [hq] at e; cases e
        | some p => rw [hq] at e; exact ⟨p, rfl, (Option.some.inj e).symm⟩
      have off : s.heap.objs.size ∉ [(s.heap.push (emptySet w)).objs.size, l] := by
        rw [sz1]
        simp only [List.mem_cons, List.not_mem_nil, or_false, not_or]
        exact ⟨Nat.ne_of_lt (Nat.lt_succ_self _), Nat.ne_of_gt hlS⟩
      have wr0 : ∀ b ∈ [(s.heap.push (emptySet w)).objs.size], s.heap.get? b = none := fun b hb => by
        rw [List.mem_singleton.mp hb, sz1]
        exact nothing _ (Nat.le_succ _)
      refine @update_keys P w κ _ knd A.in1.in1 S _ _ _ _ _ _ _ _ (Walks.list (by simp [hh]) _ l apart items).toS s.heap.objs.size off ks cnt few item s.heap keys (nothing _ (Nat.le_refl _)) wr0 room items.size 0 _ (by omega)
        ⟨⟨_, Heap.get?_push_size _ rfl, rfl, rfl⟩, (hl1.push _)⟩ (keep0 _) ?_ ?_
      · exact ⟨[], #[], 0, _, setK_empty (Heap.get?_push_of_some _ new), ⟨fun p h => (by cases h), fun p h => (by simp at h)⟩⟩
      · intro s' L es ep t m R g old
        obtain ⟨h', g2, d', tk', os'⟩ := s'
        have e1 : g2 = s.gens := m.gens
        have e2 : d' = s.drawn := m.drawn
        have e3 : os' = s.os := m.os
        subst e1; subst e2; subst e3
        rw [cnt] at g
        exact wpAny_pure (wpAny_pure ⟨rfl, h', tk', L, es, ep, t, rfl, R, g, old⟩)
    · match r₂, hr₂ with
      | .error e, hr₂ => exact hr₂
      | .ok .next, hr₂ => exact hr₂.elim
      | .ok .brk, hr₂ => exact hr₂.elim
      | .ok .cont, hr₂ => exact hr₂.elim
      | .ok (.ret r), hr₂ =>
        obtain ⟨e1, h', tk, L, es, ep, t, e2, R, g, old⟩ := hr₂
        subst e1; subst e2
        (repeat (any_goals (first | assumption | wp_step))); exact q _ _ _ _ _ _ R g old
end
end
end T3
end
-- T3Core
section
set_option maxRecDepth 100000
/-! T3Core: values with tuples by value, a heap of lists, dicts, instances; readings W. -/
namespace T3
open PySem L2

inductive D where
  | non | bl (b : Bool) | int (i : Int) | str (x : Str) | tup (l : List D) | ref (a : Addr)

/-- what stands at an address -/
inductive O where
  | lst (l : List D)
  | dK (kvs : List (Key × D)) | dT (kvs : List (List Key × D))
  /-- an instance of the class at C, its attributes' names in order, their values -/
  | ins (C : Addr) (N : List Str) (vs : List D)

abbrev H3 := Addr → Option O
def up (h : H3) (a : Addr) (o : O) : H3 := fun b => if b = a then some o else h b
@[simp] theorem up_same {h : H3} {a : Addr} {o : O} : up h a o a = some o := by unfold up; rw [if_pos rfl]
theorem up_ne {h : H3} {a b : Addr} {o : O} (e : b ≠ a) : up h a o b = h b := by unfold up; rw [if_neg e]
@[simp] theorem up_up {h : H3} {a : Addr} {o u : O} : up (up h a o) a u = up h a u := by
  funext b; unfold up; split <;> rfl
/-- h is part of h' -/
def Sub (h h' : H3) : Prop := ∀ a o, h a = some o → h' a = some o
theorem Sub.refl (h : H3) : Sub h h := fun _ _ e => e
theorem Sub.trans {h h1 h2 : H3} (a : Sub h h1) (b : Sub h1 h2) : Sub h h2 := fun c o e => b c o (a c o e)
theorem Sub.up {h h' : H3} {a : Addr} {o : O} (s : Sub h h') (n : h a = none) : Sub h (up h' a o) := fun b u e => by
  by_cases hb : b = a
  · subst hb; rw [n] at e; cases e
  · rw [up_ne hb]; exact s b u e
theorem Sub.up_up {h h' : H3} {a : Addr} {o : O} (s : Sub h h') : Sub (T3.up h a o) (T3.up h' a o) := fun b u e => by
  by_cases hb : b = a
  · subst hb; rw [up_same] at e ⊢; exact e
  · rw [up_ne hb] at e ⊢; exact s b u e

abbrev Ev := List (Option D)
abbrev K1 := D → H3 → Prop
abbrev KB := Bool → H3 → Prop
abbrev KL := List D → H3 → Prop
abbrev WE := Ev → H3 → K1 → Prop
abbrev WT := Ev → H3 → KB → Prop
abbrev WA := Ev → H3 → KL → Prop
structure En where
  nx : Ev → H3 → Prop
  rt : K1
  bk : Ev → H3 → Prop := fun _ _ => False
  ct : Ev → H3 → Prop := fun _ _ => False
abbrev WS := En → Ev → H3 → Prop
abbrev WG := D → Ev → H3 → (Ev → H3 → Prop) → Prop
/-- a def's promise -/
abbrev Sp3 := List D → H3 → K1 → Prop

/-! ### the relation to HandS's heap -/
mutual
inductive DV (H : Hp) : D → V → Prop
  | non : DV H .non .non
  | bl (b : Bool) : DV H (.bl b) (.bl b)
  | int (i : Int) : DV H (.int i) (.int i)
  | str (x : Str) : DV H (.str x) (.str x)
  | ref (a : Addr) : DV H (.ref a) (.ref a)
  | tup {a : Addr} {l : List D} {vs : List V} : H a = some (.tup vs) → DVs H l vs → DV H (.tup l) (.ref a)
inductive DVs (H : Hp) : List D → List V → Prop
  | nil : DVs H [] []
  | cons {d : D} {v : V} {l : List D} {vs : List V} : DV H d v → DVs H l vs → DVs H (d :: l) (v :: vs)
end
def KVs {κ : Type} (H : Hp) : List (κ × D) → List (κ × V) → Prop := Paired fun p q => p.1 = q.1 ∧ DV H p.2 q.2
/-- a list that is never written -/
def Ro (K : PySem.W.Frag) (H : Hp) (a : Addr) (vs : List V) : Prop :=
  (∃ o, H a = some (.frz o (.lst vs))) ∨
    ∃ (o : Obj) (its : Array Value) (n : Nat), K.lookup a = some o ∧ o.cls = .type "list" ∧ o.dict = none ∧ o.data = .seq its n ∧ its.size ≤ sizeLine ∧ Vals vs its.toList
/-- the law's script: where it stands, what it holds -/
structure Sc where
  K : PySem.W.Frag
  a : Addr
  ns : List Int
def OV (H : Hp) (a : Addr) : O → Prop
  | .lst l => ∃ vs, H a = some (.lst vs) ∧ DVs H l vs
  | .dK kvs => ∃ kv', H a = some (.dK kv') ∧ KVs H kvs kv'
  | .dT kvs => ∃ kv', H a = some (.dT kv') ∧ KVs H kvs kv'
  | .ins C N vs => ∃ dx fs, H a = some (.ins C dx fs) ∧ fs.map (·.1) = N.take vs.length ∧ vs.length ≤ N.length ∧ DVs H vs (fs.map (·.2))
structure Rel (G : Sc) (h : H3) (H : Hp) : Prop where
  at_ : ∀ a o, h a = some o → OV H a o
  sc : Ro G.K H G.a (G.ns.map V.int)
/-- what never goes away -/
structure Per (H H' : Hp) : Prop where
  tups : ∀ b xs, H b = some (.tup xs) → H' b = some (.tup xs)
  frzs : ∀ b o u, H b = some (.frz o u) → H' b = some (.frz o u)
theorem Per.refl (H : Hp) : Per H H := ⟨fun _ _ e => e, fun _ _ _ e => e⟩
theorem Per.trans {H H1 H2 : Hp} (a : Per H H1) (b : Per H1 H2) : Per H H2 := ⟨fun _ _ e => b.tups _ _ (a.tups _ _ e), fun _ _ _ e => b.frzs _ _ _ (a.frzs _ _ _ e)⟩
theorem Per.new {H : Hp} {p : Addr} {o : HO} (n : H p = none) : Per H (upd H p o) :=
  ⟨fun _ _ e => by rw [upd_ne (ne_of_none e n)]; exact e, fun _ _ _ e => by rw [upd_ne (ne_of_none e n)]; exact e⟩
theorem Per.mut {H : Hp} {p : Addr} {o : HO} (n : Mut (H p)) : Per H (upd H p o) :=
  ⟨fun b _ e => by
    have hb : b ≠ p := fun z => by subst z; rw [e] at n; exact n
    rw [upd_ne hb]; exact e, fun b _ _ e => by
    have hb : b ≠ p := fun z => by subst z; rw [e] at n; exact n
    rw [upd_ne hb]; exact e⟩
mutual
theorem DV.per {H H' : Hp} (p : Per H H') : ∀ {d : D} {v : V}, DV H d v → DV H' d v
  | .non, _, h => by cases h; exact .non
  | .bl b, _, h => by cases h; exact .bl b
  | .int i, _, h => by cases h; exact .int i
  | .str x, _, h => by cases h; exact .str x
  | .ref a, _, h => by cases h; exact .ref a
  | .tup l, _, h => by
    cases h with
    | tup e r => exact .tup (p.tups _ _ e) (DVs.per p r)
theorem DVs.per {H H' : Hp} (p : Per H H') : ∀ {l : List D} {vs : List V}, DVs H l vs → DVs H' l vs
  | [], _, h => by cases h; exact .nil
  | d :: l, _, h => by
    cases h with
    | cons r t => exact .cons (DV.per p r) (DVs.per p t)
end
section
variable {κ : Type} {G : Sc} {K : PySem.W.Frag} {H H' : Hp} {h h' : H3} {a p : Addr} {o : O}
theorem KVs.per (x : Per H H') {l : List (κ × D)} {vs : List (κ × V)} (r : KVs H l vs) : KVs H' l vs := Paired.mapP r fun _ _ z => ⟨z.1, z.2.per x⟩
theorem Ro.per (x : Per H H') {vs : List V} (r : Ro K H a vs) : Ro K H' a vs := by
  rcases r with ⟨o, e⟩ | r
  · exact .inl ⟨o, x.frzs _ _ _ e⟩
  · exact .inr r
theorem DVs.length : ∀ {l : List D} {vs : List V}, DVs H l vs → l.length = vs.length
  | [], _, h => by cases h; rfl
  | d :: l, _, h => by
    cases h with
    | cons r t => simp [DVs.length t]
theorem DVs.get : ∀ {l : List D} {vs : List V} {i : Nat} {d : D}, DVs H l vs → l[i]? = some d → ∃ v, vs[i]? = some v ∧ DV H d v
  | [], _, _, _, h, e => by simp at e
  | d :: l, _, i, x, h, e => by
    cases h with
    | cons r t =>
      cases i with
      | zero => simp at e; subst e; exact ⟨_, rfl, r⟩
      | succ i =>
        obtain ⟨v, h1, h2⟩ := DVs.get t (by simpa using e)
        exact ⟨v, by simpa using h1, h2⟩
theorem DVs.append : ∀ {l m : List D} {vs ws : List V}, DVs H l vs → DVs H m ws → DVs H (l ++ m) (vs ++ ws)
  | [], _, _, _, h, s => by cases h; exact s
  | d :: l, _, _, _, h, s => by
    cases h with
    | cons r t => exact .cons r (DVs.append t s)
theorem DVs.set {d : D} {v : V} (r : DV H d v) : ∀ {l : List D} {vs : List V} (i : Nat), DVs H l vs → DVs H (l.set i d) (vs.set i v)
  | [], _, _, h => by cases h; exact .nil
  | _ :: _, _, 0, h => by
    cases h with
    | cons q t => exact .cons r t
  | _ :: _, _, i + 1, h => by
    cases h with
    | cons q t => exact .cons q (DVs.set r i t)
theorem DVs.take : ∀ {l : List D} {vs : List V} (n : Nat), DVs H l vs → DVs H (l.take n) (vs.take n)
  | _, _, 0, _ => by rw [List.take_zero, List.take_zero]; exact .nil
  | [], _, _ + 1, h => by cases h; exact .nil
  | _ :: _, _, n + 1, h => by
    cases h with
    | cons r t => exact .cons r (DVs.take n t)
theorem DVs.drop : ∀ {l : List D} {vs : List V} (n : Nat), DVs H l vs → DVs H (l.drop n) (vs.drop n)
  | _, _, 0, r => r
  | [], _, _ + 1, h => by cases h; exact .nil
  | _ :: _, _, n + 1, h => by
    cases h with
    | cons r t => exact DVs.drop n t
theorem DVs.eraseIdx : ∀ {l : List D} {vs : List V} (i : Nat), DVs H l vs → DVs H (l.eraseIdx i) (vs.eraseIdx i)
  | [], _, _, h => by cases h; exact .nil
  | _ :: _, _, 0, h => by
    cases h with
    | cons _ t => exact t
  | _ :: _, _, i + 1, h => by
    cases h with
    | cons r t => exact .cons r (DVs.eraseIdx i t)
theorem DVs.reverse : ∀ {l : List D} {vs : List V}, DVs H l vs → DVs H l.reverse vs.reverse
  | [], _, h => by cases h; exact .nil
  | _ :: _, _, h => by
    cases h with
    | cons r t => rw [List.reverse_cons, List.reverse_cons]; exact (DVs.reverse t).append (.cons r .nil)
theorem DVs.rep {l : List D} {vs : List V} (r : DVs H l vs) : ∀ k : Nat, DVs H (List.replicate k l).flatten (List.replicate k vs).flatten
  | 0 => .nil
  | k + 1 => by rw [List.replicate_succ, List.replicate_succ, List.flatten_cons, List.flatten_cons]; exact r.append (DVs.rep r k)
theorem DVs.nil_iff {l : List D} {vs : List V} (r : DVs H l vs) : vs = [] ↔ l = [] := by
  have e := r.length
  constructor
  · rintro rfl; exact List.length_eq_zero_iff.mp e
  · rintro rfl; exact List.length_eq_zero_iff.mp e.symm
theorem OV.per (x : Per H H') (n : H' a = H a) (r : OV H a o) : OV H' a o := by
  cases o with
  | lst l => obtain ⟨vs, e, q⟩ := r; exact ⟨vs, n.trans e, q.per x⟩
  | dK l => obtain ⟨vs, e, q⟩ := r; exact ⟨vs, n.trans e, q.per x⟩
  | dT l => obtain ⟨vs, e, q⟩ := r; exact ⟨vs, n.trans e, q.per x⟩
  | ins C N l => obtain ⟨dx, fs, e, k, z, q⟩ := r; exact ⟨dx, fs, n.trans e, k, z, q.per x⟩
theorem OV.some (r : OV H a o) : ∃ u, H a = some u ∧ Mut (some u) := by
  cases o with
  | lst l => obtain ⟨vs, e, q⟩ := r; exact ⟨_, e, trivial⟩
  | dK l => obtain ⟨vs, e, q⟩ := r; exact ⟨_, e, trivial⟩
  | dT l => obtain ⟨vs, e, q⟩ := r; exact ⟨_, e, trivial⟩
  | ins C N l => obtain ⟨dx, fs, e, k, z, q⟩ := r; exact ⟨_, e, trivial⟩
theorem Rel.sub (s : Sub h h') (r : Rel G h' H) : Rel G h H := ⟨fun a o e => r.at_ a o (s a o e), r.sc⟩
theorem Rel.none (r : Rel G h H) (n : H p = none) : h p = none := by
  cases e : h p with
  | none => rfl
  | some o =>
    obtain ⟨u, q, _⟩ := (r.at_ p o e).some
    rw [n] at q; cases q
theorem Rel.mut (r : Rel G h H) (e : h a = some o) : Mut (H a) := by
  obtain ⟨u, q, m⟩ := (r.at_ a o e).some
  rw [q]; exact m
/-- a new object -/
theorem Rel.new {u : HO} (r : Rel G h H) (n : H p = Option.none) (q : OV (upd H p u) p o) : Rel G (up h p o) (upd H p u) := by
  refine ⟨fun b x e => ?_, r.sc.per (Per.new n)⟩
  by_cases hb : b = p
  · subst hb; rw [up_same] at e; cases e; exact q
  · rw [up_ne hb] at e; exact (r.at_ b x e).per (Per.new n) (upd_ne hb)
/-- an object of ours that is not told of -/
theorem Rel.new0 {u : HO} (r : Rel G h H) (n : H p = Option.none) : Rel G h (upd H p u) := by
  refine ⟨fun b x e => ?_, r.sc.per (Per.new n)⟩
  obtain ⟨w, q, _⟩ := (r.at_ b x e).some
  exact (r.at_ b x e).per (Per.new n) (upd_ne (ne_of_none q n))
/-- an object changed -/
theorem Rel.write {u : HO} {o' : O} (r : Rel G h H) (n : h p = some o') (q : OV (upd H p u) p o) : Rel G (up h p o) (upd H p u) := by
  have m := r.mut n
  refine ⟨fun b x e => ?_, r.sc.per (Per.mut m)⟩
  by_cases hb : b = p
  · subst hb; rw [up_same] at e; cases e; exact q
  · rw [up_ne hb] at e; exact (r.at_ b x e).per (Per.mut m) (upd_ne hb)
theorem Rel.lst {l : List D} (r : Rel G h H) (e : h a = some (.lst l)) : ∃ vs, H a = some (.lst vs) ∧ DVs H l vs := r.at_ _ _ e
theorem Rel.setLst {l l' : List D} {vs' : List V} (r : Rel G h H) (e : h a = some (.lst l)) (d : DVs H l' vs') : Rel G (up h a (.lst l')) (upd H a (.lst vs')) :=
  r.write e ⟨vs', upd_same, d.per (Per.mut (r.mut e))⟩
theorem Rel.newLst {l' : List D} {vs' : List V} (r : Rel G h H) (n : H p = Option.none) (d : DVs H l' vs') : Rel G (up h p (.lst l')) (upd H p (.lst vs')) :=
  r.new n ⟨vs', upd_same, d.per (Per.new n)⟩
end
end T3
end
-- T3Sound
section
set_option maxRecDepth 100000
set_option maxHeartbeats 4000000
/-! T3Sound: the readings W mean what HandS's readings mean. -/
namespace T3
open PySem PySem.Spec PyProof.Rows L2

def EvR (H : Hp) (ρ : Ev) (σ : L2.St) : Prop := ρ.length = σ.length ∧ ∀ (i : Nat) (d : D), ρ[i]? = some (some d) → ∃ v, σ[i]? = some (some v) ∧ DV H d v
theorem EvR.per {H H' : Hp} {ρ : Ev} {σ : L2.St} (p : Per H H') (e : EvR H ρ σ) : EvR H' ρ σ := ⟨e.1, fun i d q => let ⟨v, a, b⟩ := e.2 i d q; ⟨v, a, b.per p⟩⟩
theorem EvR.set {H : Hp} {ρ : Ev} {σ : L2.St} {d : D} {v : V} (e : EvR H ρ σ) (r : DV H d v) (i : Nat) : EvR H (ρ.set i (some d)) (σ.set i (some v)) := by
  refine ⟨by rw [List.length_set, List.length_set]; exact e.1, fun j x q => ?_⟩
  by_cases hj : i = j
  · subst hj
    by_cases hl : i < ρ.length
    · rw [List.getElem?_set_self hl] at q
      cases q
      exact ⟨v, List.getElem?_set_self (e.1 ▸ hl), r⟩
    · rw [List.getElem?_eq_none (by rw [List.length_set]; omega)] at q
      cases q
  · rw [List.getElem?_set_ne hj] at q ⊢
    exact e.2 j x q

section
variable (G : Sc)
def Post (H : Hp) (k : K1) (Q : VK) : Prop := ∀ d h' v H', k d h' → Rel G h' H' → Per H H' → DV H' d v → Q v H'
def PostB (H : Hp) (k : KB) (Q : Bool → Hp → Prop) : Prop := ∀ b h' H', k b h' → Rel G h' H' → Per H H' → Q b H'
def PostL (H : Hp) (k : KL) (Q : List V → Hp → Prop) : Prop := ∀ l h' vs H', k l h' → Rel G h' H' → Per H H' → DVs H' l vs → Q vs H'
def PostN (H : Hp) (k : Ev → H3 → Prop) (Q : L2.St → Hp → Prop) : Prop := ∀ ρ h' σ H', k ρ h' → Rel G h' H' → Per H H' → EvR H' ρ σ → Q σ H'
def tI (f : WE) : TE := fun σ H Q => ∃ ρ h k, Rel G h H ∧ EvR H ρ σ ∧ f ρ h k ∧ Post G H k Q
def tIT (f : WT) : TT := fun σ H Q => ∃ ρ h k, Rel G h H ∧ EvR H ρ σ ∧ f ρ h k ∧ PostB G H k Q
def tIA (f : WA) : TA := fun σ H Q => ∃ ρ h k, Rel G h H ∧ EvR H ρ σ ∧ f ρ h k ∧ PostL G H k Q
structure PostS (H : Hp) (E : En) (D : Ends) : Prop where
  nx : PostN G H E.nx D.nx
  rt : Post G H E.rt D.rt
  bk : PostN G H E.bk D.bk
  ct : PostN G H E.ct D.ct
def tIS (f : WS) : TS := fun D σ H => ∃ ρ h E, Rel G h H ∧ EvR H ρ σ ∧ f E ρ h ∧ PostS G H E D
def tIG (g : WG) : TG := fun v σ H Q => ∃ d ρ h k, Rel G h H ∧ EvR H ρ σ ∧ DV H d v ∧ g d ρ h k ∧ PostN G H k Q
end
section
variable {G : Sc} {H H' : Hp} {k : K1} {Q : VK}
theorem Post.per (q : Post G H k Q) (p : Per H H') : Post G H' k Q := fun d h' v H2 a b c e => q d h' v H2 a b (p.trans c) e
theorem PostB.per {k : KB} {Q : Bool → Hp → Prop} (q : PostB G H k Q) (p : Per H H') : PostB G H' k Q := fun d h' H2 a b c => q d h' H2 a b (p.trans c)
theorem PostL.per {k : KL} {Q : List V → Hp → Prop} (q : PostL G H k Q) (p : Per H H') : PostL G H' k Q := fun d h' v H2 a b c e => q d h' v H2 a b (p.trans c) e
theorem PostN.per {k : Ev → H3 → Prop} {Q : L2.St → Hp → Prop} (q : PostN G H k Q) (p : Per H H') : PostN G H' k Q := fun d h' v H2 a b c e => q d h' v H2 a b (p.trans c) e
theorem PostS.per {E : En} {D : Ends} (q : PostS G H E D) (p : Per H H') : PostS G H' E D := ⟨q.nx.per p, q.rt.per p, q.bk.per p, q.ct.per p⟩
theorem PostS.with {E : En} {D : Ends} (q : PostS G H E D) {nx : Ev → H3 → Prop} {nx' : L2.St → Hp → Prop} (p : PostN G H nx nx') : PostS G H { E with nx := nx } { D with nx := nx' } := ⟨p, q.rt, q.bk, q.ct⟩
end

/-! ### weakening -/
section
variable {X : Cx} {e : Expr} {es : List Expr} {st : Stmt} {sts : List Stmt}
theorem _root_.L2.PE.weak {t t' : TE} (h : PE X e t) (w : ∀ σ H Q, t' σ H Q → t σ H Q) : PE X e t' := ⟨fun pins s σ H Q I q => h.run pins s σ H Q I (w σ H Q q)⟩
theorem _root_.L2.PT.weak {t t' : TT} (h : PT X e t) (w : ∀ σ H Q, t' σ H Q → t σ H Q) : PT X e t' := ⟨fun pins s σ H Q I q => h.run pins s σ H Q I (w σ H Q q)⟩
theorem _root_.L2.PW.weak {t t' : TT} (h : PW X e t) (w : ∀ σ H Q, t' σ H Q → t σ H Q) : PW X e t' := ⟨fun wh pins s σ H Q I q => h.run wh pins s σ H Q I (w σ H Q q)⟩
theorem _root_.L2.PA.weak {t t' : TA} (h : PA X es t) (w : ∀ σ H Q, t' σ H Q → t σ H Q) : PA X es t' := ⟨fun p pins s σ H Q I q => h.run p pins s σ H Q I (w σ H Q q)⟩
theorem _root_.L2.PS.weak {t t' : TS} (h : PS X st t) (w : ∀ D σ H, t' D σ H → t D σ H) : PS X st t' := ⟨fun pins s σ H D I q => h.run pins s σ H D I (w D σ H q)⟩
theorem _root_.L2.PSs.weak {t t' : TS} (h : PSs X sts t) (w : ∀ D σ H, t' D σ H → t D σ H) : PSs X sts t' := ⟨fun pins s σ H D I q => h.run pins s σ H D I (w D σ H q)⟩
theorem _root_.L2.PG.weak {t t' : TG} (h : PG X e t) (w : ∀ v σ H Q, t' v σ H Q → t v σ H Q) : PG X e t' := ⟨fun pins s σ H v u Q I r q => h.run pins s σ H v u Q I r (w v σ H Q q)⟩
end

/-! ### readings: expressions -/
def wVar (i : Nat) : WE := fun ρ h k => ∃ d, ρ[i]? = some (some d) ∧ k d h
def wC (d : D) : WE := fun _ h k => k d h
def w1 (r : D → H3 → K1 → Prop) (a : WE) : WE := fun ρ h k => a ρ h fun d h1 => r d h1 k
def w2 (r : D → D → H3 → K1 → Prop) (a b : WE) : WE := fun ρ h k => a ρ h fun d h1 => b ρ h1 fun e h2 => r d e h2 k
def wNil : WA := fun _ h k => k [] h
def wCons (a : WE) (t : WA) : WA := fun ρ h k => a ρ h fun d h1 => t ρ h1 fun l h2 => k (d :: l) h2
def wL (r : List D → H3 → K1 → Prop) (t : WA) : WE := fun ρ h k => t ρ h fun l h1 => r l h1 k
def wML (r : D → List D → H3 → K1 → Prop) (a : WE) (t : WA) : WE := fun ρ h k => a ρ h fun d h1 => t ρ h1 fun l h2 => r d l h2 k
def wIf (t : WT) (a b : WE) : WE := fun ρ h k => t ρ h fun c h1 => if c = true then a ρ h1 k else b ρ h1 k
/-- tests -/
def wB (a : WE) : WT := fun ρ h k => a ρ h fun d h1 => ∃ c, d = .bl c ∧ k c h1
def wAnd (a b : WT) : WT := fun ρ h k => a ρ h fun c h1 => if c = true then b ρ h1 k else k false h1
def wOr (a b : WT) : WT := fun ρ h k => a ρ h fun c h1 => if c = true then k true h1 else b ρ h1 k
def wNot (a : WT) : WT := fun ρ h k => a ρ h fun c h1 => k (!c) h1
/-- a test as a value -/
def wV (a : WT) : WE := fun ρ h k => a ρ h fun c h1 => k (.bl c) h1

section
variable {X : Cx} {G : Sc} {a b c e : Expr} {es : List Expr} {f g : WE} {t u : WT} {l : WA} {pos : Pos}
abbrev PE3 (X : Cx) (G : Sc) (e : Expr) (f : WE) : Prop := PE X e (tI G f)
abbrev PT3 (X : Cx) (G : Sc) (e : Expr) (f : WT) : Prop := PT X e (tIT G f)
abbrev PW3 (X : Cx) (G : Sc) (e : Expr) (f : WT) : Prop := PW X e (tIT G f)
abbrev PA3 (X : Cx) (G : Sc) (es : List Expr) (f : WA) : Prop := PA X es (tIA G f)
abbrev PS3 (X : Cx) (G : Sc) (st : Stmt) (f : WS) : Prop := PS X st (tIS G f)
abbrev PSs3 (X : Cx) (G : Sc) (st : List Stmt) (f : WS) : Prop := PSs X st (tIS G f)
abbrev PG3 (X : Cx) (G : Sc) (e : Expr) (f : WG) : Prop := PG X e (tIG G f)

theorem i_var (i : Nat) {x : Str} {pos : Pos} (hN : X.N[i]? = some x := by rfl) (hv : Vis X.env.scope x := by first | exact .inl rfl | exact .inr (.inl rfl) | exact .inr (.inr rfl)) (hd : (x == ("__debug__" : Str)) = false := by decide) (hcd : (x == ("__classdict__" : Str)) = false := by decide) :
    PE3 X G (.Name x pos) (wVar i) := by
  refine (pe_var (i := i) hN hv hd hcd).weak fun σ H Q ⟨ρ, h, k, rel, ev, ⟨d, e, q⟩, post⟩ => ?_
  obtain ⟨v, e', r⟩ := ev.2 i d e
  exact ⟨v, e', post d h v H q rel (Per.refl H) r⟩
theorem i_c {d : D} {v : V} (h : PE X e (tC v)) (r : ∀ H, DV H d v) : PE3 X G e (wC d) := h.weak fun σ H Q ⟨ρ, h, k, rel, ev, q, post⟩ => post d h v H q rel (Per.refl H) (r H)
theorem i_int {i j pos} : PE3 X G (.Constant (.int i) j pos) (wC (.int i)) := i_c pe_int fun H => .int i
theorem i_bl {b j pos} : PE3 X G (.Constant (.bool b) j pos) (wC (.bl b)) := i_c pe_bl fun H => .bl b
theorem i_non {j pos} : PE3 X G (.Constant .none j pos) (wC .non) := i_c pe_non fun H => .non
theorem i_str {x j pos} : PE3 X G (.Constant (.str x) j pos) (wC (.str x)) := i_c pe_str fun H => .str x

/-- r is refined by R -/
def Rf1 (G : Sc) (R : V → Hp → VK → Prop) (r : D → H3 → K1 → Prop) : Prop := ∀ d x h H k Q, Rel G h H → DV H d x → r d h k → Post G H k Q → R x H Q
def Rf2 (G : Sc) (R : V → V → Hp → VK → Prop) (r : D → D → H3 → K1 → Prop) : Prop := ∀ d e x y h H k Q, Rel G h H → DV H d x → DV H e y → r d e h k → Post G H k Q → R x y H Q
def RfL (G : Sc) (R : List V → Hp → VK → Prop) (r : List D → H3 → K1 → Prop) : Prop := ∀ l vs h H k Q, Rel G h H → DVs H l vs → r l h k → Post G H k Q → R vs H Q
def RfM (G : Sc) (R : V → List V → Hp → VK → Prop) (r : D → List D → H3 → K1 → Prop) : Prop := ∀ d l x vs h H k Q, Rel G h H → DV H d x → DVs H l vs → r d l h k → Post G H k Q → R x vs H Q

theorem lift1 {R : V → Hp → VK → Prop} {r : D → H3 → K1 → Prop} (rf : Rf1 G R r) {σ : L2.St} {H : Hp} {Q : VK} (q : tI G (w1 r f) σ H Q) : tI G f σ H fun x H1 => R x H1 Q := by
  obtain ⟨ρ, h, k, rel, ev, q, post⟩ := q
  exact ⟨ρ, h, _, rel, ev, q, fun d h1 v H1 q1 rel1 per1 dv1 => rf d v h1 H1 k Q rel1 dv1 q1 (post.per per1)⟩
theorem lift2 {R : V → V → Hp → VK → Prop} {r : D → D → H3 → K1 → Prop} (rf : Rf2 G R r) {σ : L2.St} {H : Hp} {Q : VK} (q : tI G (w2 r f g) σ H Q) : tI G f σ H fun x H1 => tI G g σ H1 fun y H2 => R x y H2 Q := by
  obtain ⟨ρ, h, k, rel, ev, q, post⟩ := q
  refine ⟨ρ, h, _, rel, ev, q, fun d h1 v H1 q1 rel1 per1 dv1 => ⟨ρ, h1, _, rel1, ev.per per1, q1, fun e h2 v2 H2 q2 rel2 per2 dv2 => ?_⟩⟩
  exact rf d e v v2 h2 H2 k Q rel2 (dv1.per per2) dv2 q2 (post.per (per1.trans per2))
theorem liftL {R : List V → Hp → VK → Prop} {r : List D → H3 → K1 → Prop} (rf : RfL G R r) {σ : L2.St} {H : Hp} {Q : VK} (q : tI G (wL r l) σ H Q) : tIA G l σ H fun x H1 => R x H1 Q := by
  obtain ⟨ρ, h, k, rel, ev, q, post⟩ := q
  exact ⟨ρ, h, _, rel, ev, q, fun d h1 v H1 q1 rel1 per1 dv1 => rf d v h1 H1 k Q rel1 dv1 q1 (post.per per1)⟩
theorem liftM {R : V → List V → Hp → VK → Prop} {r : D → List D → H3 → K1 → Prop} (rf : RfM G R r) {σ : L2.St} {H : Hp} {Q : VK} (q : tI G (wML r f l) σ H Q) : tI G f σ H fun x H1 => tIA G l σ H1 fun vs H2 => R x vs H2 Q := by
  obtain ⟨ρ, h, k, rel, ev, q, post⟩ := q
  refine ⟨ρ, h, _, rel, ev, q, fun d h1 v H1 q1 rel1 per1 dv1 => ⟨ρ, h1, _, rel1, ev.per per1, q1, fun e h2 v2 H2 q2 rel2 per2 dv2 => ?_⟩⟩
  exact rf d e v v2 h2 H2 k Q rel2 (dv1.per per2) dv2 q2 (post.per (per1.trans per2))

/-- any rule that serves -/
def U2 (X : Cx) (F : Value → Value → Sem Value) : R2 := fun x y H Q => ∃ r, OpR X F r ∧ r x y H Q
theorem U2.ok {F : Value → Value → Sem Value} : OpR X F (U2 X F) := fun pins s σ H x y v u Q I rx ry ⟨r, hr, q⟩ => hr pins s σ H x y v u Q I rx ry q
def U1 (X : Cx) (F : Value → Sem Value) : V → Hp → VK → Prop := fun x H Q => ∃ r, UnR X F r ∧ r x H Q
theorem U1.ok {F : Value → Sem Value} : UnR X F (U1 X F) := fun pins s σ H x v Q I rx ⟨r, hr, q⟩ => hr pins s σ H x v Q I rx q
def UC (X : Cx) (F : Value) : List V → Hp → VK → Prop := fun xs H Q => ∃ r, CallR X F r ∧ r xs H Q
theorem UC.ok {F : Value} : CallR X F (UC X F) := fun pins s σ H x v Q I rx ⟨r, hr, q⟩ => hr pins s σ H x v Q I rx q
def UX (X : Cx) : R2 := fun x y H Q => ∃ r, IxR X r ∧ r x y H Q
theorem UX.ok : IxR X (UX X) := fun value slice pins s σ H x y v u Q I rx ry ⟨r, hr, q⟩ hs => hr value slice pins s σ H x y v u Q I rx ry q hs
def UM (X : Cx) (id : String) : V → List V → Hp → VK → Prop := fun x xs H Q => ∃ r, MtR X id r ∧ r x xs H Q
theorem UM.ok {id : String} : MtR X id (UM X id) := fun pins s σ H x xs v us Q I rx rs ⟨r, hr, q⟩ => hr pins s σ H x xs v us Q I rx rs q
def US (X : Cx) : V → Option Int → Option Int → Hp → VK → Prop := fun x lo hi H Q => ∃ r, SlR X r ∧ r x lo hi H Q
theorem US.ok : SlR X (US X) := fun pins s σ H x v vl vu lo hi sl Q I rx hs pl pu ⟨r, hr, q⟩ => hr pins s σ H x v vl vu lo hi sl Q I rx hs pl pu q
def UP (X : Cx) : TSet := fun o i v H Q => ∃ r, PSet X r ∧ r o i v H Q
theorem UP.ok : PSet X (UP X) := fun pins s σ H o i v ov iv u Q I ro ri rv ⟨r, hr, q⟩ => hr pins s σ H o i v ov iv u Q I ro ri rv q

theorem i_bin {op : Operator} {r : D → D → H3 → K1 → Prop} (rf : Rf2 G (U2 X (binaryOp op)) r) (ha : PE3 X G a f) (hb : PE3 X G b g) : PE3 X G (.BinOp a op b pos) (w2 r f g) := (pe_op U2.ok ha hb).weak fun σ H Q q => lift2 rf q
theorem i_un {op : UnaryOp} {r : D → H3 → K1 → Prop} (rf : Rf1 G (U1 X (unaryOp op)) r) (ha : PE3 X G a f) : PE3 X G (.UnaryOp op a pos) (w1 r f) := (pe_un U1.ok ha).weak fun σ H Q q => lift1 rf q
theorem i_cmp {op : CmpOp} {r : D → D → H3 → K1 → Prop} (rf : Rf2 G (U2 X (compareOp op)) r) (ha : PE3 X G a f) (hb : PE3 X G b g) (hm : behindInMarks op b = false := by first | exact nomark _ | rfl) : PE3 X G (.Compare a [op] [b] pos) (w2 r f g) := (pe_cmpR U2.ok ha hb hm).weak fun σ H Q q => lift2 rf q
theorem tTest_of {σ : L2.St} {H : Hp} {Q : Bool → Hp → Prop} (q : tIT G (wB f) σ H Q) : tI G f σ H fun x H' => ∃ k, x = .bl k ∧ Q k H' := by
  obtain ⟨ρ, h, k, rel, ev, q, post⟩ := q
  refine ⟨ρ, h, _, rel, ev, q, fun d h1 v H1 q1 rel1 per1 dv1 => ?_⟩
  obtain ⟨c, rfl, q1⟩ := q1
  cases dv1
  exact ⟨c, rfl, post c h1 H1 q1 rel1 per1⟩
theorem it_cmp {op : CmpOp} {r : D → D → H3 → K1 → Prop} (rf : Rf2 G (U2 X (compareOp op)) r) (ha : PE3 X G a f) (hb : PE3 X G b g) (hm : behindInMarks op b = false := by first | exact nomark _ | rfl) : PT3 X G (.Compare a [op] [b] pos) (wB (w2 r f g)) := by
  refine (pt_cmpR U2.ok ha hb hm).weak fun σ H Q q => ?_
  exact lift2 (f := f) (g := g) (R := U2 X (compareOp op)) (Q := fun x H' => ∃ k, x = .bl k ∧ Q k H') rf (tTest_of q)
/-- an expression that gives True or False, as a test -/
theorem it_val (h : PE3 X G e f) (he : ∀ whole, isTrue e X.env whole = (do let v ← whole; standAt e.pos; holding [v] (truthy v)) := by intro _; rfl) : PT3 X G e (wB f) := (pt_val h he).weak fun σ H Q q => tTest_of q
theorem it_not (h : PT3 X G a t) : PT3 X G (.UnaryOp .Not a pos) (wNot t) := by
  refine (pt_not h).weak fun σ H Q ⟨ρ, h, k, rel, ev, q, post⟩ => ?_
  exact ⟨ρ, h, _, rel, ev, q, fun c h1 H1 q1 rel1 per1 => post (!c) h1 H1 q1 rel1 per1⟩
variable {rest : List Expr}
theorem iw_and1 (h : PT3 X G a t) : PW3 X G (.BoolOp .And [a] pos) t := pw_and1 h
theorem iw_or1 (h : PT3 X G a t) : PW3 X G (.BoolOp .Or [a] pos) t := pw_or1 h
theorem iw_and (ha : PT3 X G a t) (hb : PW3 X G (.BoolOp .And (b :: rest) pos) u) : PW3 X G (.BoolOp .And (a :: b :: rest) pos) (wAnd t u) := by
  refine (pw_and ha hb).weak fun σ H Q ⟨ρ, h, k, rel, ev, q, post⟩ => ?_
  refine ⟨ρ, h, _, rel, ev, q, fun c h1 H1 q1 rel1 per1 => ?_⟩
  cases c with
  | true => exact ⟨ρ, h1, k, rel1, ev.per per1, q1, post.per per1⟩
  | false => exact post false h1 H1 q1 rel1 per1
theorem iw_or (ha : PT3 X G a t) (hb : PW3 X G (.BoolOp .Or (b :: rest) pos) u) : PW3 X G (.BoolOp .Or (a :: b :: rest) pos) (wOr t u) := by
  refine (pw_or ha hb).weak fun σ H Q ⟨ρ, h, k, rel, ev, q, post⟩ => ?_
  refine ⟨ρ, h, _, rel, ev, q, fun c h1 H1 q1 rel1 per1 => ?_⟩
  cases c with
  | true => exact post true h1 H1 q1 rel1 per1
  | false => exact ⟨ρ, h1, k, rel1, ev.per per1, q1, post.per per1⟩
theorem it_w (h : PW3 X G a t) : PT3 X G a t := h.pt
theorem i_if (ht : PT3 X G c t) (ha : PE3 X G a f) (hb : PE3 X G b g) : PE3 X G (.IfExp c a b pos) (wIf t f g) := by
  refine (pe_ifExp ht ha hb).weak fun σ H Q ⟨ρ, h, k, rel, ev, q, post⟩ => ?_
  refine ⟨ρ, h, _, rel, ev, q, fun c h1 H1 q1 rel1 per1 => ?_⟩
  cases c with
  | true => exact ⟨ρ, h1, k, rel1, ev.per per1, q1, post.per per1⟩
  | false => exact ⟨ρ, h1, k, rel1, ev.per per1, q1, post.per per1⟩
theorem ia_nil : PA3 X G [] wNil := pa_nil.weak fun σ H Q ⟨ρ, h, k, rel, ev, q, post⟩ => post [] h [] H q rel (Per.refl H) .nil
theorem ia_cons (ha : PE3 X G a f) (hr : PA3 X G es l) (hs : starEach (a :: es) X.env = (false, eval a X.env) :: starEach es X.env := by rfl) : PA3 X G (a :: es) (wCons f l) := by
  refine (pa_cons ha hr hs).weak fun σ H Q ⟨ρ, h, k, rel, ev, q, post⟩ => ?_
  refine ⟨ρ, h, _, rel, ev, q, fun d h1 v H1 q1 rel1 per1 dv1 => ⟨ρ, h1, _, rel1, ev.per per1, q1, fun e h2 v2 H2 q2 rel2 per2 dv2 => ?_⟩⟩
  exact post _ h2 _ H2 q2 rel2 (per1.trans per2) (.cons (dv1.per per2) dv2)

/-! displays -/
def rTup : List D → H3 → K1 → Prop := fun l h k => l.length ≤ 16777216 ∧ k (.tup l) h
def rLst : List D → H3 → K1 → Prop := fun l h k => l.length ≤ 16777216 ∧ ∀ p, h p = none → k (.ref p) (up h p (.lst l))
theorem Rel.newTup {h : H3} {H : Hp} {p : Addr} {l : List D} {vs : List V} (rel : Rel G h H) (n : H p = Option.none) (d : DVs H l vs) : Rel G h (upd H p (.tup vs)) ∧ Per H (upd H p (.tup vs)) ∧ DV (upd H p (.tup vs)) (.tup l) (.ref p) :=
  ⟨rel.new0 n, Per.new n, .tup upd_same (d.per (Per.new n))⟩
theorem i_tup {x1} (h : PA3 X G es l) : PE3 X G (.Tuple es x1 pos) (wL rTup l) := by
  refine (pe_tup (x1 := x1) h).weak fun σ H Q q => liftL (R := fun xs H1 Q => xs.length ≤ sizeLine ∧ ∀ p, H1 p = none → Q (.ref p) (upd H1 p (.tup xs))) (fun l vs h H k Q rel dv q post => ?_) q
  refine ⟨by rw [← dv.length]; exact q.1, fun p np => ?_⟩
  obtain ⟨r1, p1, d1⟩ := rel.newTup np dv
  exact post _ h _ _ q.2 r1 p1 d1
theorem i_lst (h : PA3 X G es l) : PE3 X G (.List es pos) (wL rLst l) := by
  refine (pe_lst h).weak fun σ H Q q => liftL (R := fun xs H1 Q => xs.length ≤ sizeLine ∧ ∀ p, H1 p = none → Q (.ref p) (upd H1 p (.lst xs))) (fun l vs h H k Q rel dv q post => ?_) q
  exact ⟨by rw [← dv.length]; exact q.1, fun p np => post _ _ _ _ (q.2 p (rel.none np)) (rel.newLst np dv) (Per.new np) (.ref p)⟩
end

/-! ### readings: statements -/
def wNext : WS := fun E ρ h => E.nx ρ h
def wSeq (t u : WS) : WS := fun E ρ h => t { E with nx := u E } ρ h
def wBreak : WS := fun E ρ h => E.bk ρ h
def wCont : WS := fun E ρ h => E.ct ρ h
def wDrop (a : WE) : WS := fun E ρ h => a ρ h fun _ h1 => E.nx ρ h1
def wRet (a : WE) : WS := fun E ρ h => a ρ h E.rt
def wRetN : WS := fun E _ h => E.rt .non h
def wIfS (t : WT) (a b : WS) : WS := fun E ρ h => t ρ h fun c h1 => if c = true then a E ρ h1 else b E ρ h1
def wNever : WS := fun _ _ _ => False
/-- targets -/
def gN (i : Nat) : WG := fun d ρ h k => k (ρ.set i (some d)) h
def gT : List WG → WG := fun gs d ρ h k => ∃ l, d = .tup l ∧ l.length = gs.length ∧ go gs l ρ h k
where go : List WG → List D → Ev → H3 → (Ev → H3 → Prop) → Prop
  | [], _, ρ, h, k => k ρ h
  | g :: gs, l, ρ, h, k => ∃ d r, l = d :: r ∧ g d ρ h fun ρ1 h1 => go gs r ρ1 h1 k
def wAsg (a : WE) (g : WG) : WS := fun E ρ h => a ρ h fun d h1 => g d ρ h1 E.nx
section
variable {X : Cx} {G : Sc} {st : Stmt} {sts : List Stmt} {e c tg : Expr} {f : WE} {t : WT} {s u : WS} {g : WG} {pos : Pos}
theorem is_nil : PSs3 X G [] wNext := pss_nil.weak fun D σ H ⟨ρ, h, E, rel, ev, q, post⟩ => post.nx ρ h σ H q rel (Per.refl H) ev
theorem is_cons (h1 : PS3 X G st s) (h2 : PSs3 X G sts u) : PSs3 X G (st :: sts) (wSeq s u) := by
  refine (pss_cons h1 h2).weak fun D σ H ⟨ρ, h, E, rel, ev, q, post⟩ => ?_
  refine ⟨ρ, h, _, rel, ev, q, post.with fun ρ' h' σ' H' q' rel' per' ev' => ?_⟩
  exact ⟨ρ', h', E, rel', ev', q', post.per per'⟩
theorem is_one (h1 : PS3 X G st s) : PSs3 X G [st] s := pss_one h1
theorem is_pass : PS3 X G (.Pass pos) wNext := ps_pass.weak fun D σ H ⟨ρ, h, E, rel, ev, q, post⟩ => post.nx ρ h σ H q rel (Per.refl H) ev
theorem is_break : PS3 X G (.Break pos) wBreak := ps_break.weak fun D σ H ⟨ρ, h, E, rel, ev, q, post⟩ => post.bk ρ h σ H q rel (Per.refl H) ev
theorem is_cont : PS3 X G (.Continue pos) wCont := ps_continue.weak fun D σ H ⟨ρ, h, E, rel, ev, q, post⟩ => post.ct ρ h σ H q rel (Per.refl H) ev
theorem is_doc {x j pos pos'} : PS3 X G (.Expr (.Constant (.str x) j pos) pos') wNext := ps_doc.weak fun D σ H ⟨ρ, h, E, rel, ev, q, post⟩ => post.nx ρ h σ H q rel (Per.refl H) ev
theorem is_expr (he : PE3 X G e f) (hs : swapsWith e none pos.line X.env = pure false := by rfl) : PS3 X G (.Expr e pos) (wDrop f) := by
  refine (ps_expr he hs).weak fun D σ H ⟨ρ, h, E, rel, ev, q, post⟩ => ?_
  exact ⟨ρ, h, _, rel, ev, q, fun d h1 v H1 q1 rel1 per1 dv1 => post.nx ρ h1 σ H1 q1 rel1 per1 (ev.per per1)⟩
theorem is_ret (he : PE3 X G e f) : PS3 X G (.Return (some e) pos) (wRet f) := by
  refine (ps_ret he).weak fun D σ H ⟨ρ, h, E, rel, ev, q, post⟩ => ?_
  exact ⟨ρ, h, _, rel, ev, q, post.rt⟩
theorem is_retN : PS3 X G (.Return none pos) wRetN := ps_retN.weak fun D σ H ⟨ρ, h, E, rel, ev, q, post⟩ => post.rt .non h .non H q rel (Per.refl H) .non
theorem is_if {a b : List Stmt} (ht : PT3 X G c t) (ha : PSs3 X G a s) (hb : PSs3 X G b u) : PS3 X G (.If c a b pos) (wIfS t s u) := by
  refine (ps_if ht ha hb).weak fun D σ H ⟨ρ, h, E, rel, ev, q, post⟩ => ?_
  refine ⟨ρ, h, _, rel, ev, q, fun c h1 H1 q1 rel1 per1 => ?_⟩
  cases c with
  | true => exact ⟨ρ, h1, E, rel1, ev.per per1, q1, post.per per1⟩
  | false => exact ⟨ρ, h1, E, rel1, ev.per per1, q1, post.per per1⟩
theorem ig_name (i : Nat) {x : Str} (hN : X.N.Nodup) (hi : X.N[i]? = some x := by rfl) (hx : Loc X.env.scope x := by first | exact .inl rfl | exact .inr rfl) (hf : X.fn x = true ∨ X.env.scope.names.lookup x = some .local := by first | exact .inl rfl | exact .inr rfl | assumption) : PG3 X G (.Name x pos) (gN i) := by
  refine (pg_name (i := i) hN hi hx hf).weak fun v σ H Q ⟨d, ρ, h, k, rel, ev, dv, q, post⟩ => ?_
  exact post _ _ _ _ q rel (Per.refl H) (ev.set dv i)
/-- several targets -/
structure PGs3 (X : Cx) (G : Sc) (es : List Expr) (gs : List WG) : Prop where
  ok : PGs X es fun vs σ H Q => ∃ l ρ h k, Rel G h H ∧ EvR H ρ σ ∧ DVs H l vs ∧ l.length = gs.length ∧ gT.go gs l ρ h k ∧ PostN G H k Q
  len : es.length = gs.length
theorem _root_.L2.PGs.weak {es : List Expr} {t t' : TGs} (h : PGs X es t) (w : ∀ vs σ H Q, t' vs σ H Q → t vs σ H Q) : PGs X es t' := ⟨fun pins s σ H v u Q I r q => h.run pins s σ H v u Q I r (w v σ H Q q)⟩
theorem igs_nil : PGs3 X G [] [] := ⟨pgs_nil.weak fun vs σ H Q ⟨l, ρ, h, k, rel, ev, dv, hl, q, post⟩ => by
  have e : l = [] := List.length_eq_zero_iff.mp hl
  subst e
  exact ⟨by cases dv; rfl, post ρ h σ H q rel (Per.refl H) ev⟩, rfl⟩
theorem igs_cons {es : List Expr} {gs : List WG} (h1 : PG3 X G e g) (h2 : PGs3 X G es gs) (hs : (assignEach (e :: es) X.env).map (·.2) = assign e X.env :: (assignEach es X.env).map (·.2) := by rfl) : PGs3 X G (e :: es) (g :: gs) := by
  refine ⟨(pgs_cons h1 h2.ok hs).weak fun vs σ H Q ⟨l, ρ, h, k, rel, ev, dv, hl, ⟨d, r, el, q⟩, post⟩ => ?_, by simp [h2.len]⟩
  subst el
  cases dv with
  | cons dv dvs =>
    refine ⟨_, _, rfl, d, ρ, h, _, rel, ev, dv, q, fun ρ1 h1 σ1 H1 q1 rel1 per1 ev1 => ?_⟩
    exact ⟨r, ρ1, h1, k, rel1, ev1, dvs.per per1, by simpa using hl, q1, post.per per1⟩
theorem ig_tup {es : List Expr} {k : Nat} {gs : List WG} (hc : X.calm = true) (h : PGs3 X G es gs) (hn : (assignEach es X.env).length = gs.length := by rfl) (hst : (assignEach es X.env).findIdx? (·.1) = none := by rfl) : PG3 X G (.Tuple es k pos) (gT gs) := by
  refine (pg_tup hc h.ok hn hst).weak fun v σ H Q ⟨d, ρ, hh, kk, rel, ev, dv, ⟨l, el, hl, q⟩, post⟩ => ?_
  subst el
  cases dv with
  | tup e r => exact ⟨_, _, rfl, .of e, by rw [← r.length]; exact hl, l, ρ, hh, kk, rel, ev, r, hl, q, post⟩
theorem is_asg (he : PE3 X G e f) (hg : PG3 X G tg g) (hs : swapsWithSole [tg] e pos.line X.env = pure false := by rfl) (hw : swappedStores [tg] e X.env = pure none := by rfl)
    (h1 : (assignEach [tg] X.env).map (·.2) = [assign tg X.env] := by rfl) : PS3 X G (.Assign [tg] e pos) (wAsg f g) := by
  refine (ps_asg he hg hs hw h1).weak fun D σ H ⟨ρ, h, E, rel, ev, q, post⟩ => ?_
  refine ⟨ρ, h, _, rel, ev, q, fun d h1 v H1 q1 rel1 per1 dv1 => ?_⟩
  exact ⟨d, ρ, h1, _, rel1, ev.per per1, dv1, q1, post.nx.per per1⟩
end
end T3
end
-- T3Ops
section
set_option maxRecDepth 100000
set_option maxHeartbeats 4000000
/-! T3Ops: operators by what stands there. -/
namespace T3
open PySem PySem.Spec PyProof.Rows L2

/-! ### data read -/
mutual
/-- d stands, in h, for the plain datum p -/
inductive Rs (h : H3) : D → PyData → Prop
  | non : Rs h .non .none
  | bl (b : Bool) : Rs h (.bl b) (.bool b)
  | int (i : Int) : Rs h (.int i) (.int i)
  | str (x : Str) : PyData.strOk x = true → Rs h (.str x) (.str x)
  | tup {l : List D} {ps : List PyData} : RsL h l ps → Rs h (.tup l) (.tuple ps)
  | lst {a : Addr} {l : List D} {ps : List PyData} : h a = some (.lst l) → RsL h l ps → Rs h (.ref a) (.list ps)
inductive RsL (h : H3) : List D → List PyData → Prop
  | nil : RsL h [] []
  | cons {d : D} {l : List D} {p : PyData} {ps : List PyData} : Rs h d p → RsL h l ps → RsL h (d :: l) (p :: ps)
end
section
variable {h : H3} {p : PyData} {ps : List PyData} {l : List D}
@[simp] theorem rs_non : Rs h .non p ↔ p = .none := ⟨fun e => by cases e; rfl, fun e => e ▸ .non⟩
@[simp] theorem rs_bl {b : Bool} : Rs h (.bl b) p ↔ p = .bool b := ⟨fun e => by cases e; rfl, fun e => e ▸ .bl b⟩
@[simp] theorem rs_int {b : Int} : Rs h (.int b) p ↔ p = .int b := ⟨fun e => by cases e; rfl, fun e => e ▸ .int b⟩
@[simp] theorem rs_str {b : Str} : Rs h (.str b) p ↔ PyData.strOk b = true ∧ p = .str b := ⟨fun e => by cases e with | str _ z => exact ⟨z, rfl⟩, fun ⟨z, e⟩ => e ▸ .str b z⟩
@[simp] theorem rs_tup : Rs h (.tup l) p ↔ ∃ ps, RsL h l ps ∧ p = .tuple ps := ⟨fun e => by cases e with | tup r => exact ⟨_, r, rfl⟩, fun ⟨_, r, e⟩ => e ▸ .tup r⟩
theorem rs_ref {a : Addr} : Rs h (.ref a) p ↔ ∃ l ps, h a = some (.lst l) ∧ RsL h l ps ∧ p = .list ps := ⟨fun e => by cases e with | lst z r => exact ⟨_, _, z, r, rfl⟩, fun ⟨_, _, z, r, e⟩ => e ▸ .lst z r⟩
@[simp] theorem rsl_nil : RsL h [] ps ↔ ps = [] := ⟨fun e => by cases e; rfl, fun e => e ▸ .nil⟩
@[simp] theorem rsl_cons {d : D} : RsL h (d :: l) ps ↔ ∃ p qs, Rs h d p ∧ RsL h l qs ∧ ps = p :: qs := ⟨fun e => by cases e with | cons r t => exact ⟨_, _, r, t, rfl⟩, fun ⟨_, _, r, t, e⟩ => e ▸ .cons r t⟩
end
mutual
theorem Rs.lay {h : H3} : ∀ {d : D} {p : PyData}, Rs h d p → p.canLay0 = true
  | _, _, .non => rfl
  | _, _, .bl _ => rfl
  | _, _, .int _ => rfl
  | _, _, .str _ z => by simpa [PyData.canLay0] using z
  | _, _, .tup r => by simpa [PyData.canLay0] using RsL.lay r
  | _, _, .lst _ r => by simpa [PyData.canLay0] using RsL.lay r
theorem RsL.lay {h : H3} : ∀ {l : List D} {ps : List PyData}, RsL h l ps → PyData.canLayAll0 ps = true
  | _, _, .nil => rfl
  | _, _, .cons r t => by simp [PyData.canLayAll0, Rs.lay r, RsL.lay t]
end
mutual
theorem Rs.dp {G : Sc} {K : PySem.W.Frag} {h : H3} {H : Hp} (rel : Rel G h H) : ∀ {d : D} {p : PyData} {v : V}, Rs h d p → DV H d v → Dp K H v p
  | _, _, _, .non, r => by cases r; exact .non
  | _, _, _, .bl _, r => by cases r; exact .bl _
  | _, _, _, .int _, r => by cases r; exact .int _
  | _, _, _, .str _ _, r => by cases r; exact .str _
  | _, _, _, .tup q, r => by
    cases r with
    | tup e z => exact .tup (SqT.of e) (RsL.dp rel q z)
  | _, _, _, .lst z q, r => by
    cases r
    obtain ⟨vs, e, dv⟩ := rel.lst z
    exact .lst (SqL.of e) (RsL.dp rel q dv)
theorem RsL.dp {G : Sc} {K : PySem.W.Frag} {h : H3} {H : Hp} (rel : Rel G h H) : ∀ {l : List D} {ps : List PyData} {vs : List V}, RsL h l ps → DVs H l vs → DpAll K H vs ps
  | _, _, _, .nil, r => by cases r; exact .nil
  | _, _, _, .cons q t, r => by
    cases r with
    | cons z w => exact .cons (Rs.dp rel q z) (RsL.dp rel t w)
end

/-! ### the operators' readings -/
def rAdd : D → D → H3 → K1 → Prop := fun x y h k => match x, y with
  | .int i, .int j => k (.int (i + j)) h
  | .str a, .str b => a.length + b.length ≤ 16777216 ∧ k (.str (a ++ b)) h
  | .tup l, .tup m => l.length + m.length ≤ 16777216 ∧ k (.tup (l ++ m)) h
  | .ref a, .ref b => ∃ l m, h a = some (.lst l) ∧ h b = some (.lst m) ∧ l.length + m.length ≤ 16777216 ∧ ∀ p, h p = none → k (.ref p) (up h p (.lst (l ++ m)))
  | _, _ => False
def rInt (c : Int → Int → Prop) (g : Int → Int → Int) : D → D → H3 → K1 → Prop := fun x y h k => match x, y with
  | .int i, .int j => c i j ∧ k (.int (g i j)) h
  | _, _ => False
abbrev rSub := rInt (fun _ _ => True) fun i j => i - j
abbrev rMulI := rInt (fun i j => (-18446744073709551616 < i ∧ i < 18446744073709551616) ∨ (-18446744073709551616 < j ∧ j < 18446744073709551616)) fun i j => i * j
abbrev rDiv := rInt (fun _ j => 0 < j ∧ (j < 1073741824 ∨ j.natAbs.log2 < 9000)) fun i j => i / j
abbrev rMod := rInt (fun _ j => 0 < j) fun i j => i % j
abbrev rAndI := rInt (fun _ _ => True) Builtin.bitAnd
abbrev rOrI := rInt (fun _ _ => True) Builtin.bitOr
abbrev rXorI := rInt (fun _ _ => True) Builtin.bitXor
abbrev rShl := rInt (fun i j => 0 ≤ j ∧ ((j ≤ 1000000 ∧ -18446744073709551616 < i ∧ i < 18446744073709551616) ∨ CShl i j)) fun i j => i * 2 ^ j.toNat
abbrev rShr := rInt (fun _ j => 0 ≤ j) fun i j => i / 2 ^ j.toNat
/-- a list, a tuple times an int -/
def rMul : D → D → H3 → K1 → Prop := fun x y h k => match x, y with
  | .ref a, .int n => ∃ l, h a = some (.lst l) ∧ -(2 ^ 63) ≤ n ∧ n < 2 ^ 63 ∧ l.length * n.toNat ≤ 16777216 ∧ ∀ p, h p = none → k (.ref p) (up h p (.lst (List.replicate n.toNat l).flatten))
  | .str z, .int n => PySem.MulOk z n ∧ k (.str (PySem.Txt.mul z n)) h
  | x, y => rMulI x y h k
def rCmpI (g : Int → Int → Bool) : D → D → H3 → K1 → Prop := fun x y h k => match x, y with
  | .int i, .int j => k (.bl (g i j)) h
  | _, _ => False
def rLt : D → D → H3 → K1 → Prop := fun x y h k => match x, y with
  | .int i, .int j => k (.bl (decide (i < j))) h
  | .str i, .str j => k (.bl (decide (i.cps.toList < j.cps.toList))) h
  | _, _ => False
abbrev rLe := rCmpI fun i j => decide (i ≤ j)
abbrev rGt := rCmpI fun i j => decide (j < i)
abbrev rGe := rCmpI fun i j => decide (j ≤ i)
def rEqN (neg : Bool) : D → D → H3 → K1 → Prop := fun x y h k => match x, y with
  | .int i, .int j => k (.bl (decide (i = j) != neg)) h
  | .str i, .str j => k (.bl (decide (i = j) != neg)) h
  | x, y => ∃ p q, Rs h x p ∧ Rs h y q ∧ min p.depth q.depth ≤ 64 ∧ k (.bl (PyData.eqv p q != neg)) h
abbrev rEq := rEqN false
abbrev rNe := rEqN true
def D.isN : D → Bool
  | .non => true
  | _ => false
def rIsN (neg : Bool) : D → H3 → K1 → Prop := fun x h k => k (.bl (x.isN != neg)) h
def rIn (neg : Bool) : D → D → H3 → K1 → Prop := fun x y h k => match y with
  | .str z => ∃ c, x = .str ⟨#[c]⟩ ∧ k (.bl (decide (c ∈ z.cps.toList) != neg)) h
  | .tup l => ∃ p ps, Rs h x p ∧ RsL h l ps ∧ min (PyData.depthAll ps) p.depth ≤ 64 ∧ k (.bl (ps.any (fun z => PyData.eqv z p) != neg)) h
  | .ref a => ∃ l p ps, h a = some (.lst l) ∧ Rs h x p ∧ RsL h l ps ∧ min (PyData.depthAll ps) p.depth ≤ 64 ∧ k (.bl (ps.any (fun z => PyData.eqv z p) != neg)) h
  | _ => False

section
variable {X : Cx} {G : Sc}
theorem post_int {H : Hp} {h : H3} {k : K1} {Q : VK} {i : Int} (post : Post G H k Q) (rel : Rel G h H) (q : k (.int i) h) : Q (.int i) H := post _ _ _ _ q rel (Per.refl H) (.int i)
theorem post_bl {H : Hp} {h : H3} {k : K1} {Q : VK} {i : Bool} (post : Post G H k Q) (rel : Rel G h H) (q : k (.bl i) h) : Q (.bl i) H := post _ _ _ _ q rel (Per.refl H) (.bl i)
theorem post_str {H : Hp} {h : H3} {k : K1} {Q : VK} {i : Str} (post : Post G H k Q) (rel : Rel G h H) (q : k (.str i) h) : Q (.str i) H := post _ _ _ _ q rel (Per.refl H) (.str i)
theorem post_lst {H : Hp} {h : H3} {k : K1} {Q : VK} {l : List D} {vs : List V} {p : Addr} (post : Post G H k Q) (rel : Rel G h H) (dv : DVs H l vs) (q : ∀ p, h p = none → k (.ref p) (up h p (.lst l))) (np : H p = none) : Q (.ref p) (upd H p (.lst vs)) :=
  post _ _ _ _ (q p (rel.none np)) (rel.newLst np dv) (Per.new np) (.ref p)
theorem post_tup {H : Hp} {h : H3} {k : K1} {Q : VK} {l : List D} {vs : List V} {p : Addr} (post : Post G H k Q) (rel : Rel G h H) (dv : DVs H l vs) (q : k (.tup l) h) (np : H p = none) : Q (.ref p) (upd H p (.tup vs)) := by
  obtain ⟨r1, p1, d1⟩ := rel.newTup np dv
  exact post _ _ _ _ q r1 p1 d1
theorem rf_int {op : Operator} {C C' : Int → Int → Prop} {g : Int → Int → Int} (o : OpR X (binaryOp op) (rI C' fun i j => .int (g i j))) (hc : ∀ i j, C i j → C' i j) : Rf2 G (U2 X (binaryOp op)) (rInt C g) := by
  intro d e x y h H k Q rel dx dy q post
  unfold rInt at q
  split at q
  · rename_i i j
    cases dx; cases dy
    exact ⟨_, o, i, j, rfl, rfl, hc _ _ q.1, post_int post rel q.2⟩
  · exact q.elim
theorem rf_int0 {op : Operator} {g : Int → Int → Int} (o : OpR X (binaryOp op) (rI0 fun i j => .int (g i j))) : Rf2 G (U2 X (binaryOp op)) (rInt (fun _ _ => True) g) := by
  intro d e x y h H k Q rel dx dy q post
  unfold rInt at q
  split at q
  · rename_i i j
    cases dx; cases dy
    exact ⟨_, o, i, j, rfl, rfl, post_int post rel q.2⟩
  · exact q.elim
theorem rf_sub : Rf2 G (U2 X (binaryOp .Sub)) rSub := rf_int0 op_sub
theorem rf_mod : Rf2 G (U2 X (binaryOp .Mod)) rMod := rf_int op_mod fun _ _ h => h
theorem rf_and : Rf2 G (U2 X (binaryOp .BitAnd)) rAndI := rf_int0 op_and
theorem rf_or : Rf2 G (U2 X (binaryOp .BitOr)) rOrI := rf_int0 op_or
theorem rf_xor : Rf2 G (U2 X (binaryOp .BitXor)) rXorI := rf_int0 op_xor
theorem rf_shr : Rf2 G (U2 X (binaryOp .RShift)) rShr := rf_int op_shr fun _ _ h => h
theorem rI_or {F : Value → Value → Sem Value} {C1 C2 : Int → Int → Prop} {g : Int → Int → V} (a : OpR X F (rI C1 g)) (b : OpR X F (rI C2 g)) : OpR X F (rI (fun i j => C1 i j ∨ C2 i j) g) := by
  intro pins s σ H x y v u Q I rx ry ⟨i, j, e1, e2, c, q⟩
  rcases c with c | c
  · exact a pins s σ H x y v u Q I rx ry ⟨i, j, e1, e2, c, q⟩
  · exact b pins s σ H x y v u Q I rx ry ⟨i, j, e1, e2, c, q⟩
theorem rf_div : Rf2 G (U2 X (binaryOp .FloorDiv)) rDiv := rf_int (rI_or op_fdiv op_fdivW) fun _ _ h => h.2.elim (fun z => .inl ⟨h.1, z⟩) fun z => .inr ⟨h.1, z⟩
theorem natAbs64 {i : Int} (h : -18446744073709551616 < i ∧ i < 18446744073709551616) : i.natAbs < 2 ^ 64 := by
  have e : (2 ^ 64 : Nat) = 18446744073709551616 := rfl
  omega
theorem rf_shl : Rf2 G (U2 X (binaryOp .LShift)) rShl := rf_int (rI_or op_shl op_shlW) fun _ _ h => h.2.elim (fun z => .inl ⟨h.1, z.1, natAbs64 z.2⟩) fun z => .inr z
theorem rf_mulI : Rf2 G (U2 X (binaryOp .Mult)) rMulI := rf_int op_mul fun _ _ h => h
theorem op_mulS : OpR X (binaryOp .Mult) (fun x y H Q => ∃ z n, x = .str z ∧ y = .int n ∧ PySem.MulOk z n ∧ Q (.str (PySem.Txt.mul z n)) H) := by
  intro pins s σ H x y v u Q I rx ry h
  obtain ⟨z, n, rfl, rfl, hok, q⟩ := h
  obtain ⟨t, rfl⟩ := rx
  obtain ⟨t', rfl⟩ := ry
  exact PySem.SB.mul hok fun t' tk => ⟨.str (PySem.Txt.mul z n), H, I.tok _, ⟨_, rfl⟩, q⟩
theorem rf_mul : Rf2 G (U2 X (binaryOp .Mult)) rMul := by
  intro d e x y h H k Q rel dx dy q post
  unfold rMul at q
  split at q
  · rename_i a n
    cases dx; cases dy
    obtain ⟨l, ha, h1, h2, hz, q⟩ := q
    obtain ⟨vs, e, dv⟩ := rel.lst ha
    exact ⟨_, op_rep, a, n, vs, rfl, rfl, e, h1, h2, by rw [← dv.length]; exact hz, fun p np => post_lst post rel (dv.rep _) q np⟩
  · rename_i z n
    cases dx; cases dy
    exact ⟨_, op_mulS, z, n, rfl, rfl, q.1, post_str post rel q.2⟩
  · exact rf_mulI d e x y h H k Q rel dx dy q post
theorem rf_add : Rf2 G (U2 X (binaryOp .Add)) rAdd := by
  intro d e x y h H k Q rel dx dy q post
  unfold rAdd at q
  split at q
  · rename_i i j
    cases dx; cases dy
    exact ⟨_, op_add, i, j, rfl, rfl, post_int post rel q⟩
  · rename_i i j
    cases dx; cases dy
    exact ⟨_, op_add_str, i, j, rfl, rfl, q.1, post_str post rel q.2⟩
  · rename_i l m
    cases dx with
    | tup e1 r1 =>
      cases dy with
      | tup e2 r2 =>
        refine ⟨_, op_catA, _, _, _, _, rfl, rfl, .of e1, .of e2, by rw [← r1.length, ← r2.length]; exact q.1, fun z => ?_, fun _ z => ?_, fun _ _ p np => post_tup post rel (r1.append r2) q.2 np⟩
        · have z' := r1.nil_iff.mp z
          subst z'
          exact post _ _ _ _ q.2 rel (Per.refl H) (.tup e2 r2)
        · have z' := r2.nil_iff.mp z
          subst z'
          have q2 := q.2
          rw [List.append_nil] at q2
          exact post _ _ _ _ q2 rel (Per.refl H) (.tup e1 r1)
  · rename_i a b
    cases dx; cases dy
    obtain ⟨l, m, ha, hb, hz, q⟩ := q
    obtain ⟨vs, e1, d1⟩ := rel.lst ha
    obtain ⟨ws, e2, d2⟩ := rel.lst hb
    exact ⟨_, op_cat, a, b, vs, ws, rfl, rfl, e1, e2, by rw [← d1.length, ← d2.length]; exact hz, fun p np => post_lst post rel (d1.append d2) q np⟩
  · exact q.elim
theorem rf_neg : Rf1 G (U1 X (unaryOp .USub)) (fun x h k => match x with | .int i => k (.int (-i)) h | _ => False) := by
  intro d x h H k Q rel dx q post
  split at q
  · cases dx
    exact ⟨_, un_neg, _, rfl, post_int post rel q⟩
  · exact q.elim
theorem rf_cmpI {op : CmpOp} {g : Int → Int → Bool} (o : OpR X (compareOp op) (rI0 fun i j => .bl (g i j))) : Rf2 G (U2 X (compareOp op)) (rCmpI g) := by
  intro d e x y h H k Q rel dx dy q post
  unfold rCmpI at q
  split at q
  · rename_i i j
    cases dx; cases dy
    exact ⟨_, o, i, j, rfl, rfl, post_bl post rel q⟩
  · exact q.elim
theorem rf_le : Rf2 G (U2 X (compareOp .LtE)) rLe := rf_cmpI op_le
theorem rf_gt : Rf2 G (U2 X (compareOp .Gt)) rGt := rf_cmpI op_gt
theorem rf_ge : Rf2 G (U2 X (compareOp .GtE)) rGe := rf_cmpI op_ge
theorem rf_lt : Rf2 G (U2 X (compareOp .Lt)) rLt := by
  intro d e x y h H k Q rel dx dy q post
  unfold rLt at q
  split at q
  · cases dx; cases dy
    exact ⟨_, op_lt, _, _, rfl, rfl, post_bl post rel q⟩
  · cases dx; cases dy
    exact ⟨_, op_lt_str, _, _, rfl, rfl, post_bl post rel q⟩
  · exact q.elim
/-- == of read data -/
def rEqM (K : PySem.W.Frag) (neg : Bool) : R2 := fun x y H Q => ∃ d e, Dp K H x d ∧ Dp K H y e ∧ d.canLay0 = true ∧ e.canLay0 = true ∧ min d.depth e.depth ≤ 64 ∧ Q (.bl (PyData.eqv d e != neg)) H
theorem op_eqM (hu : X.A.units + 64 < cLine) : OpR X (compareOp .Eq) (rEqM X.K false) := by
  intro pins s σ H x y v u Q I rx ry ⟨d, e, hd, he, sd, se, hm, q⟩
  obtain ⟨as, r1⟩ := Dp.reads I d x v hd rx
  obtain ⟨bs, r2⟩ := Dp.reads I e y u he ry
  exact SeqAt.compareEq_reads r1 r2 sd se (by omega) ⟨.bl _, H, I, rfl, by simpa using q⟩
theorem op_neM (hu : X.A.units + 64 < cLine) : OpR X (compareOp .NotEq) (rEqM X.K true) := by
  intro pins s σ H x y v u Q I rx ry ⟨d, e, hd, he, sd, se, hm, q⟩
  obtain ⟨as, r1⟩ := Dp.reads I d x v hd rx
  obtain ⟨bs, r2⟩ := Dp.reads I e y u he ry
  exact SeqAt.compareNe_reads r1 r2 sd se (by omega) ⟨.bl _, H, I, rfl, by simpa using q⟩
theorem rf_eqN {op : CmpOp} {neg : Bool} (o : OpR X (compareOp op) (rEqM X.K neg)) (o2 : OpR X (compareOp op) (fun x y H Q => scal x y = true ∧ Q (.bl (decide (x = y) != neg)) H)) : Rf2 G (U2 X (compareOp op)) (rEqN neg) := by
  intro d e x y h H k Q rel dx dy q0 post
  unfold rEqN at q0
  split at q0
  · cases dx; cases dy
    exact ⟨_, o2, rfl, post_bl post rel (by simpa using q0)⟩
  · cases dx; cases dy
    exact ⟨_, o2, rfl, post_bl post rel (by simpa using q0)⟩
  obtain ⟨p, q, rp, rq, hm, kq⟩ := q0
  exact ⟨_, o, p, q, rp.dp rel dx, rq.dp rel dy, rp.lay, rq.lay, hm, post_bl post rel kq⟩
theorem rf_eq (hu : X.A.units + 64 < cLine) : Rf2 G (U2 X (compareOp .Eq)) rEq := rf_eqN (op_eqM hu) (by rw [show (fun (x y : V) (H : Hp) (Q : VK) => scal x y = true ∧ Q (.bl (decide (x = y) != false)) H) = L2.rEq from by funext x y H Q; simp [L2.rEq]]; exact op_eq)
theorem rf_ne (hu : X.A.units + 64 < cLine) : Rf2 G (U2 X (compareOp .NotEq)) rNe := rf_eqN (op_neM hu) (by rw [show (fun (x y : V) (H : Hp) (Q : VK) => scal x y = true ∧ Q (.bl (decide (x = y) != true)) H) = L2.rNe from by funext x y H Q; simp [L2.rNe]]; exact op_ne)
/-- in, over read data -/
def rInM (K : PySem.W.Frag) (neg : Bool) : R2 := fun x y H Q => ∃ d ds, Dp K H x d ∧ (Dp K H y (.list ds) ∨ Dp K H y (.tuple ds)) ∧ d.canLay0 = true ∧ PyData.canLayAll0 ds = true ∧ min (PyData.depthAll ds) d.depth ≤ 64 ∧ Q (.bl (ds.any (fun z => PyData.eqv z d) != neg)) H
theorem op_inM (hu : X.A.units + 65 < cLine) : OpR X (compareOp .In) (rInM X.K false) := by
  intro pins s σ H x y v u Q I rx ry ⟨d, ds, hd, he, sd, se, hm, q⟩
  obtain ⟨as, r1⟩ := Dp.reads I d x v hd rx
  rcases he with he | he
  · obtain ⟨bs, r2⟩ := Dp.reads I (.list ds) y u he ry
    exact SeqAt.in_list_reads r2 r1 (by simpa [PyData.canLay0] using se) sd (by omega) ⟨.bl _, H, I, rfl, by simpa using q⟩
  · obtain ⟨bs, r2⟩ := Dp.reads I (.tuple ds) y u he ry
    exact SeqAt.in_tuple_reads r2 r1 (by simpa [PyData.canLay0] using se) sd (by omega) ⟨.bl _, H, I, rfl, by simpa using q⟩
theorem op_notInM (hu : X.A.units + 65 < cLine) : OpR X (compareOp .NotIn) (rInM X.K true) := by
  intro pins s σ H x y v u Q I rx ry ⟨d, ds, hd, he, sd, se, hm, q⟩
  obtain ⟨as, r1⟩ := Dp.reads I d x v hd rx
  rcases he with he | he
  · obtain ⟨bs, r2⟩ := Dp.reads I (.list ds) y u he ry
    exact SeqAt.notIn_list_reads r2 r1 (by simpa [PyData.canLay0] using se) sd (by omega) ⟨.bl _, H, I, rfl, by simpa using q⟩
  · obtain ⟨bs, r2⟩ := Dp.reads I (.tuple ds) y u he ry
    exact SeqAt.notIn_tuple_reads r2 r1 (by simpa [PyData.canLay0] using se) sd (by omega) ⟨.bl _, H, I, rfl, by simpa using q⟩
theorem rf_inN {op : CmpOp} {neg : Bool} (o : OpR X (compareOp op) (rInM X.K neg)) (o2 : OpR X (compareOp op) (fun x y H Q => ∃ (c : Nat) (z : Str), x = .str ⟨#[c]⟩ ∧ y = .str z ∧ Q (.bl (decide (c ∈ z.cps.toList) != neg)) H)) : Rf2 G (U2 X (compareOp op)) (rIn neg) := by
  intro d e x y h H k Q rel dx dy q post
  unfold rIn at q
  split at q
  · obtain ⟨c, rfl, q⟩ := q
    cases dx; cases dy
    exact ⟨_, o2, c, _, rfl, rfl, post_bl post rel q⟩
  · obtain ⟨p, ps, rp, rq, hm, kq⟩ := q
    exact ⟨_, o, p, ps, rp.dp rel dx, .inr ((Rs.tup rq).dp rel dy), rp.lay, rq.lay, hm, post_bl post rel kq⟩
  · obtain ⟨l, p, ps, ha, rp, rq, hm, kq⟩ := q
    exact ⟨_, o, p, ps, rp.dp rel dx, .inl ((Rs.lst ha rq).dp rel dy), rp.lay, rq.lay, hm, post_bl post rel kq⟩
  · exact q.elim
theorem rf_in (hu : X.A.units + 65 < cLine) : Rf2 G (U2 X (compareOp .In)) (rIn false) := rf_inN (op_inM hu) (by simpa using op_in_sign)
theorem rf_notIn (hu : X.A.units + 65 < cLine) : Rf2 G (U2 X (compareOp .NotIn)) (rIn true) := rf_inN (op_notInM hu) (by simpa using op_notIn_sign)
theorem isN_of {H : Hp} {d : D} {v : V} (r : DV H d v) : decide (v = .non) = d.isN := by
  cases r <;> rfl
variable {a b c e : Expr} {f g : WE} {pos : Pos}
theorem i_isN {j p2} (ha : PE3 X G a f) : PE3 X G (.Compare a [.Is] [.Constant .none j p2] pos) (w1 (rIsN false) f) := by
  refine (pe_cmp (pc_isN ha) rfl).weak fun σ H Q q => lift1 (f := f) (R := fun x H1 Q => Q (.bl (decide (x = .non))) H1) (fun d x h H k Q rel dx q post => ?_) q
  unfold rIsN at q
  exact post_bl post rel (by rw [isN_of dx]; simpa using q)
theorem i_notN {j p2} (ha : PE3 X G a f) : PE3 X G (.Compare a [.IsNot] [.Constant .none j p2] pos) (w1 (rIsN true) f) := by
  refine (pe_cmp (pc_notN ha) rfl).weak fun σ H Q q => lift1 (f := f) (R := fun x H1 Q => Q (.bl (!decide (x = .non))) H1) (fun d x h H k Q rel dx q post => ?_) q
  unfold rIsN at q
  exact post_bl post rel (by rw [isN_of dx]; simpa using q)
end
end T3
end
-- T3Seq
section
set_option maxRecDepth 100000
set_option maxHeartbeats 4000000
/-! T3Seq: subscripts, slices, built-in calls, methods of lists, loops, comprehensions. -/
namespace T3
open PySem PySem.Spec PyProof.Rows L2

/-! ### subscripts -/
def rIx : D → D → H3 → K1 → Prop := fun x y h k => match x, y with
  | .tup l, .int i => ∃ d, atI l i = some d ∧ k d h
  | .ref a, .int i => ∃ l d, h a = some (.lst l) ∧ atI l i = some d ∧ k d h
  | .str z, .int i => z.length ≤ 16777216 ∧ ∃ c, atI z.cps.toList i = some c ∧ k (.str ⟨#[c]⟩) h
  | _, _ => False
def cutD (xs : List D) (lo hi : Option Int) : List D := (xs.drop (HT.sIx xs.length 0 lo)).take (HT.sIx xs.length xs.length hi - HT.sIx xs.length 0 lo)
def rSl (x : D) (lo hi : Option Int) (h : H3) (k : K1) : Prop := match x with
  | .tup l => k (.tup (cutD l lo hi)) h
  | .ref a => ∃ l, h a = some (.lst l) ∧ ∀ p, h p = none → k (.ref p) (up h p (.lst (cutD l lo hi)))
  | .str z => z.length ≤ 16777216 ∧ k (.str (cutS z lo hi)) h
  | _ => False
theorem DVs.atI {H : Hp} {l : List D} {vs : List V} {i : Int} {d : D} (r : DVs H l vs) (e : atI l i = some d) : ∃ v, L2.atI vs i = some v ∧ DV H d v := by
  unfold L2.atI at e ⊢
  rw [← r.length]
  cases q : ixN l.length i with
  | none => rw [q] at e; cases e
  | some j =>
    rw [q] at e
    exact r.get (by simpa using e)
theorem DVs.cut {H : Hp} {l : List D} {vs : List V} (r : DVs H l vs) (lo hi : Option Int) : DVs H (cutD l lo hi) (cutV vs lo hi) := by
  unfold cutD cutV
  rw [← r.length]
  exact (r.drop _).take _
theorem cutD_whole {l : List D} {lo hi : Option Int} (w : HT.sIx l.length 0 lo = 0 ∧ HT.sIx l.length l.length hi = l.length) : cutD l lo hi = l := by
  unfold cutD
  rw [w.1, w.2, List.drop_zero, Nat.sub_zero, List.take_length]
abbrev WO := Ev → H3 → (Option Int → H3 → Prop) → Prop
def oNone : WO := fun _ h k => k none h
def oSome (a : WE) : WO := fun ρ h k => a ρ h fun d h1 => ∃ i, d = .int i ∧ k (some i) h1
def wSl (a : WE) (lo hi : WO) : WE := fun ρ h k => a ρ h fun d h1 => lo ρ h1 fun l h2 => hi ρ h2 fun u h3 => rSl d l u h3 k
section
variable {X : Cx} {G : Sc} {a b e : Expr} {es : List Expr} {f g : WE} {t : WA} {pos p2 : Pos}
theorem rf_ix : Rf2 G (UX X) rIx := by
  intro d e x y h H k Q rel dx dy q post
  unfold rIx at q
  split at q
  · obtain ⟨d', e', q⟩ := q
    cases dy
    cases dx with
    | tup e1 r1 =>
      obtain ⟨v, e2, dv⟩ := r1.atI e'
      exact ⟨_, ix_tup, _, _, _, _, rfl, rfl, .of e1, e2, post _ _ _ _ q rel (Per.refl H) dv⟩
  · obtain ⟨l, d', ha, e', q⟩ := q
    cases dx; cases dy
    obtain ⟨vs, e1, r1⟩ := rel.lst ha
    obtain ⟨v, e2, dv⟩ := r1.atI e'
    exact ⟨_, ix_list, _, _, _, _, rfl, rfl, .of e1, e2, post _ _ _ _ q rel (Per.refl H) dv⟩
  · obtain ⟨hz, c, e', q⟩ := q
    cases dx; cases dy
    exact ⟨_, ix_str, _, _, _, rfl, rfl, hz, e', post_str post rel q⟩
  · exact q.elim
theorem i_ix (ha : PE3 X G a f) (hb : PE3 X G b g) (hs : PlainIx b := by exact fun _ _ => rfl) : PE3 X G (.Subscript a b pos) (w2 rIx f g) := (pe_ix UX.ok ha hb hs).weak fun σ H Q q => lift2 rf_ix q
def tIO (G : Sc) (f : WO) : TO := fun σ H Q => ∃ ρ h k, Rel G h H ∧ EvR H ρ σ ∧ f ρ h k ∧ ∀ o h' H', k o h' → Rel G h' H' → Per H H' → Q o H'
theorem PO.weak {e : Option Expr} {t t' : TO} (h : PO X e t) (w : ∀ σ H Q, t' σ H Q → t σ H Q) : PO X e t' := ⟨fun pins s σ H Q I q => h.run pins s σ H Q I (w σ H Q q)⟩
theorem io_none : PO X none (tIO G oNone) := PO.weak po_none fun σ H Q ⟨ρ, h, k, rel, ev, q, post⟩ => post none h H q rel (Per.refl H)
theorem io_some (h : PE3 X G e f) : PO X (some e) (tIO G (oSome f)) := by
  refine PO.weak (po_some h) fun σ H Q ⟨ρ, h, k, rel, ev, q, post⟩ => ?_
  refine ⟨ρ, h, _, rel, ev, q, fun d h1 v H1 q1 rel1 per1 dv1 => ?_⟩
  obtain ⟨i, rfl, q1⟩ := q1
  cases dv1
  exact ⟨i, rfl, post (some i) h1 H1 q1 rel1 per1⟩
theorem i_sl {lo hi : Option Expr} {ol oh : WO} (ha : PE3 X G a f) (hl : PO X lo (tIO G ol)) (hh : PO X hi (tIO G oh)) : PE3 X G (.Subscript a (.Slice lo hi none p2) pos) (wSl f ol oh) := by
  refine (pe_slice US.ok ha hl hh).weak fun σ H Q ⟨ρ, h, k, rel, ev, q, post⟩ => ?_
  refine ⟨ρ, h, _, rel, ev, q, fun d h1 v H1 q1 rel1 per1 dv1 => ⟨ρ, h1, _, rel1, ev.per per1, q1, fun l h2 H2 q2 rel2 per2 => ⟨ρ, h2, _, rel2, ev.per (per1.trans per2), q2, fun u h3 H3 q3 rel3 per3 => ?_⟩⟩⟩
  have dv3 := dv1.per (per2.trans per3)
  have post3 := post.per (per1.trans (per2.trans per3))
  unfold rSl at q3
  split at q3
  · cases dv3 with
    | tup e1 r1 =>
      refine ⟨_, sl_tupA, _, _, rfl, .of e1, fun w => ?_, fun _ p np => post_tup post3 rel3 (r1.cut l u) q3 np⟩
      rw [← r1.length] at w
      have e : cutD _ l u = _ := cutD_whole w
      rw [e] at q3
      exact post3 _ _ _ _ q3 rel3 (Per.refl H3) (.tup e1 r1)
  · cases dv3
    obtain ⟨l0, ha, q3⟩ := q3
    obtain ⟨vs, e1, r1⟩ := rel3.lst ha
    exact ⟨_, sl_list, _, _, rfl, .of e1, fun p np => post_lst post3 rel3 (r1.cut l u) q3 np⟩
  · cases dv3
    exact ⟨_, sl_str, _, rfl, q3.1, post_str post3 rel3 q3.2⟩
  · exact q3.elim

/-! ### built-in calls -/
theorem i_callB {id : String} {r : List D → H3 → K1 → Prop} {x : Str} {p : Pos} (rf : RfL G (UC X (.builtin id)) r) (hg : Gl X x) (hm : X.mg x = none) (hv : bootBuiltins x = some (.builtin id)) (ha : PA3 X G (e :: es) t) (hn : x ≠ "__name__" := by decide) (hdb : (x == ("__debug__" : Str)) = false := by decide)
    (he : starEach (e :: es) X.env = (false, eval e X.env) :: starEach es X.env := by rfl) (hpl : (backTo pos (starEach es X.env)).any (·.1) = false := by rfl) : PE3 X G (.Call (.Name x p) (e :: es) [] pos) (wL r t) :=
  (pe_callB UC.ok hg hm hv ha hn hdb he hpl).weak fun σ H Q q => liftL rf q
theorem i_callT {T : String} {r : List D → H3 → K1 → Prop} {x : Str} {p : Pos} (rf : RfL G (UC X (.type T)) r) (hg : Gl X x) (hm : X.mg x = none) (hv : bootBuiltins x = some (.type T)) (ha : PA3 X G (e :: es) t) (hn : x ≠ "__name__" := by decide) (hdb : (x == ("__debug__" : Str)) = false := by decide)
    (he : starEach (e :: es) X.env = (false, eval e X.env) :: starEach es X.env := by rfl) (hpl : (backTo pos (starEach es X.env)).any (·.1) = false := by rfl) : PE3 X G (.Call (.Name x p) (e :: es) [] pos) (wL r t) :=
  (pe_callTy UC.ok hg hm hv ha hn hdb he hpl).weak fun σ H Q q => liftL rf q
def rLen : List D → H3 → K1 → Prop := fun l h k => ∃ d, l = [d] ∧ match d with
  | .str z => z.length ≤ 16777216 ∧ k (.int z.length) h
  | .tup l => k (.int l.length) h
  | .ref a => ∃ l, h a = some (.lst l) ∧ k (.int l.length) h
  | _ => False
theorem rf_len : RfL G (UC X (.builtin "len")) rLen := by
  intro l vs h H k Q rel dv ⟨d, el, q⟩ post
  subst el
  cases dv with
  | cons d1 t1 =>
    cases t1
    split at q
    · cases d1
      exact ⟨_, call_len_str, _, rfl, q.1, post_int post rel q.2⟩
    · cases d1 with
      | tup e1 r1 => exact ⟨_, call_len_seq, _, _, rfl, .inr (.of e1), by rw [← r1.length]; exact post_int post rel q⟩
    · cases d1
      obtain ⟨l, ha, q⟩ := q
      obtain ⟨vs, e1, r1⟩ := rel.lst ha
      exact ⟨_, call_len_seq, _, _, rfl, .inl (.of e1), by rw [← r1.length]; exact post_int post rel q⟩
    · exact q.elim
def rI1 (g : Int → Int) : List D → H3 → K1 → Prop := fun l h k => ∃ i, l = [.int i] ∧ k (.int (g i)) h
def rI2 (g : Int → Int → Int) : List D → H3 → K1 → Prop := fun l h k => ∃ i j, l = [.int i, .int j] ∧ k (.int (g i j)) h
abbrev rAbs := rI1 fun i => if i < 0 then -i else i
abbrev rMax2 := rI2 fun i j => if j > i then j else i
abbrev rMin2 := rI2 fun i j => if j < i then j else i
theorem rf_abs : RfL G (UC X (.builtin "abs")) rAbs := by
  intro l vs h H k Q rel dv ⟨i, el, q⟩ post
  subst el
  cases dv with
  | cons d1 t1 =>
    cases t1; cases d1
    exact ⟨_, call_abs, i, rfl, post_int post rel q⟩
theorem rf_max2 (hc : X.calm = true) : RfL G (UC X (.builtin "max")) rMax2 := by
  intro l vs h H k Q rel dv ⟨i, j, el, q⟩ post
  subst el
  cases dv with
  | cons d1 t1 =>
    cases t1 with
    | cons d2 t2 =>
      cases t2; cases d1; cases d2
      exact ⟨_, call_max2 hc, i, j, rfl, post_int post rel q⟩
theorem rf_min2 (hc : X.calm = true) : RfL G (UC X (.builtin "min")) rMin2 := by
  intro l vs h H k Q rel dv ⟨i, j, el, q⟩ post
  subst el
  cases dv with
  | cons d1 t1 =>
    cases t1 with
    | cons d2 t2 =>
      cases t2; cases d1; cases d2
      exact ⟨_, call_min2 hc, i, j, rfl, post_int post rel q⟩
def rToInt : List D → H3 → K1 → Prop := fun l h k => ∃ d, l = [d] ∧ match d with
  | .int i => k (.int i) h
  | .bl b => k (.int (if b then 1 else 0)) h
  | _ => False
theorem rf_int1 : RfL G (UC X (.type "int")) rToInt := by
  intro l vs h H k Q rel dv ⟨d, el, q⟩ post
  subst el
  cases dv with
  | cons d1 t1 =>
    cases t1
    split at q
    · cases d1
      exact ⟨_, call_int1, .inl ⟨_, rfl, post_int post rel q⟩⟩
    · cases d1
      exact ⟨_, call_int1, .inr ⟨_, rfl, post_int post rel q⟩⟩
    · exact q.elim
def rTupleOf : List D → H3 → K1 → Prop := fun l h k => ∃ d, l = [d] ∧ match d with
  | .tup l => k (.tup l) h
  | .ref a => ∃ l, h a = some (.lst l) ∧ k (.tup l) h
  | _ => False
theorem rf_tupleOf : RfL G (UC X (.type "tuple")) rTupleOf := by
  intro l vs h H k Q rel dv ⟨d, el, q⟩ post
  subst el
  cases dv with
  | cons d1 t1 =>
    cases t1
    split at q
    · cases d1 with
      | tup e1 r1 => exact ⟨_, call_tuple_of, _, _, rfl, .inr ⟨.of e1, post _ _ _ _ q rel (Per.refl H) (.tup e1 r1)⟩⟩
    · cases d1
      obtain ⟨l, ha, q⟩ := q
      obtain ⟨vs, e1, r1⟩ := rel.lst ha
      exact ⟨_, call_tuple_of, _, _, rfl, .inl ⟨.of e1, fun p np => post_tup post rel r1 q np⟩⟩
    · exact q.elim
def rListOf : List D → H3 → K1 → Prop := fun l h k => ∃ d, l = [d] ∧ match d with
  | .tup l => ∀ p, h p = none → k (.ref p) (up h p (.lst l))
  | .ref a => ∃ l, h a = some (.lst l) ∧ ∀ p, h p = none → k (.ref p) (up h p (.lst l))
  | _ => False
theorem rf_listOf : RfL G (UC X (.type "list")) rListOf := by
  intro l vs h H k Q rel dv ⟨d, el, q⟩ post
  subst el
  cases dv with
  | cons d1 t1 =>
    cases t1
    split at q
    · cases d1 with
      | tup e1 r1 => exact ⟨_, call_list_of, _, _, rfl, .inr (.of e1), fun p np => post_lst post rel r1 q np⟩
    · cases d1
      obtain ⟨l, ha, q⟩ := q
      obtain ⟨vs, e1, r1⟩ := rel.lst ha
      exact ⟨_, call_list_of, _, _, rfl, .inl (.of e1), fun p np => post_lst post rel r1 q np⟩
    · exact q.elim
/-- all, any of a list of truths -/
def rAllB : List D → H3 → K1 → Prop := fun l h k => ∃ (a : Addr) (bs : List Bool), l = [.ref a] ∧ h a = some (.lst (bs.map D.bl)) ∧ k (.bl (bs.all id)) h
def rAnyB : List D → H3 → K1 → Prop := fun l h k => ∃ (a : Addr) (bs : List Bool), l = [.ref a] ∧ h a = some (.lst (bs.map D.bl)) ∧ k (.bl (bs.any id)) h
theorem DVs.bls {H : Hp} : ∀ {bs : List Bool} {vs : List V}, DVs H (bs.map D.bl) vs → vs = bs.map V.bl
  | [], _, h => by cases h; rfl
  | b :: bs, _, h => by
    cases h with
    | cons r t => cases r; rw [DVs.bls t]; rfl
theorem DVs.ints {H : Hp} : ∀ {bs : List Int} {vs : List V}, DVs H (bs.map D.int) vs → vs = bs.map V.int
  | [], _, h => by cases h; rfl
  | b :: bs, _, h => by
    cases h with
    | cons r t => cases r; rw [DVs.ints t]; rfl
theorem DVs.strs {H : Hp} : ∀ {bs : List Str} {vs : List V}, DVs H (bs.map D.str) vs → vs = bs.map V.str
  | [], _, h => by cases h; rfl
  | b :: bs, _, h => by
    cases h with
    | cons r t => cases r; rw [DVs.strs t]; rfl
theorem rf_all (hc : X.calm = true) : RfL G (UC X (.builtin "all")) rAllB := by
  intro l vs h H k Q rel dv ⟨a, bs, el, ha, q⟩ post
  subst el
  cases dv with
  | cons d1 t1 =>
    cases t1; cases d1
    obtain ⟨vs, e1, r1⟩ := rel.lst ha
    rw [r1.bls] at e1
    exact ⟨_, cr_all hc, a, bs, rfl, .of e1, post_bl post rel q⟩
theorem rf_any (hc : X.calm = true) : RfL G (UC X (.builtin "any")) rAnyB := by
  intro l vs h H k Q rel dv ⟨a, bs, el, ha, q⟩ post
  subst el
  cases dv with
  | cons d1 t1 =>
    cases t1; cases d1
    obtain ⟨vs, e1, r1⟩ := rel.lst ha
    rw [r1.bls] at e1
    exact ⟨_, cr_any hc, a, bs, rfl, .of e1, post_bl post rel q⟩

/-! ### methods of lists -/
def rAppend3 : D → List D → H3 → K1 → Prop := fun x l h k => ∃ a xs d, x = .ref a ∧ l = [d] ∧ h a = some (.lst xs) ∧ xs.length < 16777216 ∧ k .non (up h a (.lst (xs ++ [d])))
theorem i_append {apos cpos : Pos} (ho : PE3 X G a f) (ha : PA3 X G (e :: es) t) (hbase : attributeBase a "append" X.env (eval a X.env) = eval a X.env := by rfl)
    (hfew : ((backTo cpos (starEach (e :: es) X.env)).all (fun x => !x.1) && (backToKw cpos (keywordEach [] X.env)).all (fun x => x.1.isSome)
      && decide ((e :: es).length + ([] : List Keyword).length + (if ([] : List Keyword).isEmpty then 0 else 1) < 30)) = true := by rfl)
    (hline : (apos.endLine == cpos.line) = true := by rfl) (hs : starEach (e :: es) X.env = (false, eval e X.env) :: starEach es X.env := by rfl) (hplain : (backTo cpos (starEach es X.env)).any (·.1) = false := by rfl) :
    PE3 X G (.Call (.Attribute a "append" apos) (e :: es) [] cpos) (fun ρ h k => f ρ h fun x h1 => ∃ p xs, x = .ref p ∧ h1 p = some (.lst xs) ∧ t ρ h1 fun l h2 => rAppend3 x l h2 k) := by
  refine (pe_bm PySem.F.plainAttrs_list PySem.F.slot_list_append PySem.F.type_list_append mt_append ho ha hbase hfew hline hs hplain).weak fun σ H Q ⟨ρ, h, k, rel, ev, q, post⟩ => ?_
  refine ⟨ρ, h, _, rel, ev, q, fun d h1 v H1 q1 rel1 per1 dv1 => ?_⟩
  obtain ⟨p, xs, rfl, hp, q1⟩ := q1
  cases dv1
  obtain ⟨vs, e1, r1⟩ := rel1.lst hp
  refine ⟨.inl ⟨rfl, _, .of e1⟩, ρ, h1, _, rel1, ev.per per1, q1, fun l h2 ws H2 q2 rel2 per2 dv2 => ?_⟩
  obtain ⟨a', xs', d', e', rfl, ha', hz, q2⟩ := q2
  cases e'
  cases dv2 with
  | cons d1 t1 =>
    cases t1
    obtain ⟨vs', e2, r2⟩ := rel2.lst ha'
    refine ⟨_, _, _, rfl, rfl, e2, by rw [← r2.length]; exact hz, ?_⟩
    exact post _ _ _ _ q2 (rel2.setLst ha' (r2.append (.cons d1 .nil))) ((per1.trans per2).trans (Per.mut (rel2.mut ha'))) .non
end
/-- o[i] = v -/
def rSetIx : D → D → D → H3 → (H3 → Prop) → Prop := fun o i d h k => ∃ a n l j, o = .ref a ∧ i = .int n ∧ h a = some (.lst l) ∧ ixN l.length n = some j ∧ k (up h a (.lst (l.set j d)))
def gIx (o i : WE) : WG := fun d ρ h k => o ρ h fun x h1 => i ρ h1 fun y h2 => rSetIx x y d h2 fun h3 => k ρ h3
section
variable {X : Cx} {G : Sc} {o i : Expr} {f g : WE} {pos : Pos}
theorem ig_ix (ho : PE3 X G o f) (hi : PE3 X G i g) (ha : ∀ v, assign (.Subscript o i pos) X.env v = (do
      let ov ← holding [v] (eval o X.env)
      let iv ← holding [v, ov] (eval i X.env)
      standAt pos
      holding [v, ov, iv] (setItem ov iv v)
      release [v, ov, iv] []) := by intro _; rfl) : PG3 X G (.Subscript o i pos) (gIx f g) := by
  refine (pg_sub ho hi set_list ha).weak fun v σ H Q ⟨d, ρ, h, k, rel, ev, dv, q, post⟩ => ?_
  refine ⟨ρ, h, _, rel, ev, q, fun x h1 xv H1 q1 rel1 per1 dv1 => ⟨ρ, h1, _, rel1, ev.per per1, q1, fun y h2 yv H2 q2 rel2 per2 dv2 => ?_⟩⟩
  obtain ⟨a, n, l, j, rfl, rfl, ha, hj, q2⟩ := q2
  have dv1' := dv1.per per2
  cases dv1'; cases dv2
  obtain ⟨vs, e1, r1⟩ := rel2.lst ha
  refine ⟨_, _, _, j, rfl, rfl, e1, by rw [← r1.length]; exact hj, ?_⟩
  have p3 := (per1.trans per2).trans (Per.mut (o := .lst (vs.set j v)) (rel2.mut ha))
  exact post _ _ _ _ q2 (rel2.setLst ha (DVs.set (dv.per (per1.trans per2)) j r1)) p3 (ev.per p3)
end

/-! ### what is walked -/
inductive Src where
  | fix (l : List D) | lst (a : Addr)
abbrev WI := Ev → H3 → (Src → H3 → Prop) → Prop
def Src.at_ : Src → H3 → Nat → D → Prop
  | .fix l, _, i, d => l[i]? = some d
  | .lst a, h, i, d => ∃ l, h a = some (.lst l) ∧ l[i]? = some d
def Src.done : Src → H3 → Nat → Prop
  | .fix l, _, i => l.length ≤ i
  | .lst a, h, i => ∃ l, h a = some (.lst l) ∧ l.length ≤ i
structure ItOk (G : Sc) (J : It) (H1 : Hp) (s : Src) : Prop where
  go : ∀ i H h d, Per H1 H → Rel G h H → s.at_ h i d → J.go i H
  yld : ∀ i H h d x H', Per H1 H → Rel G h H → s.at_ h i d → J.yld i H x H' → Rel G h H' ∧ Per H H' ∧ DV H' d x
  stop : ∀ i H h, Per H1 H → Rel G h H → s.done h i → J.stop i H
def tII (G : Sc) (f : WI) : TI := fun σ H R => ∃ ρ h k, Rel G h H ∧ EvR H ρ σ ∧ f ρ h k ∧ ∀ s J h' H', k s h' → Rel G h' H' → Per H H' → ItOk G J H' s → R J H'
abbrev PI3 (X : Cx) (G : Sc) (tg e : Expr) (f : WI) : Prop := PI X tg e (tII G f)
theorem _root_.L2.PI.weak {X : Cx} {tg e : Expr} {t t' : TI} (h : PI X tg e t) (w : ∀ σ H Q, t' σ H Q → t σ H Q) : PI X tg e t' := ⟨fun pins s σ H Q I q => h.run pins s σ H Q I (w σ H Q q)⟩
/-- a list, a tuple -/
def wIter (a : WE) : WI := fun ρ h k => a ρ h fun d h1 => match d with
  | .tup l => k (.fix l) h1
  | .ref a => (∃ l, h1 a = some (.lst l)) ∧ k (.lst a) h1
  | .str z => k (.fix (z.cps.toList.map fun c => .str ⟨#[c]⟩)) h1
  | _ => False
def rgD (lo : Int) (n : Nat) : List D := (List.range n).map fun (i : Nat) => D.int (lo + i)
def wRg1 (t : WA) : WI := fun ρ h k => t ρ h fun l h1 => ∃ j : Int, l = [.int j] ∧ -4611686018427387904 ≤ j ∧ j < 4611686018427387904 ∧ k (.fix (rgD 0 j.toNat)) h1
def wRg2 (t : WA) : WI := fun ρ h k => t ρ h fun l h1 => ∃ i j : Int, l = [.int i, .int j] ∧ (-4611686018427387904 ≤ i ∧ i < 4611686018427387904 ∧ -4611686018427387904 ≤ j ∧ j < 4611686018427387904) ∧ k (.fix (rgD i (j - i).toNat)) h1
theorem it_tup {G : Sc} {K : PySem.W.Frag} {H1 : Hp} {a : Addr} {l : List D} {vs : List V} (e : H1 a = some (.tup vs)) (r : DVs H1 l vs) : ItOk G (Itt K a) H1 (.fix l) := by
  refine ⟨fun i H h d per rel q => ?_, fun i H h d x H' per rel q y => ?_, fun i H h per rel q => ?_⟩
  · obtain ⟨v, ev, dv⟩ := r.get q
    exact ⟨vs, v, .of (per.tups _ _ e), ev⟩
  · obtain ⟨v, ev, dv⟩ := r.get q
    obtain ⟨rfl, y⟩ := y
    have e2 := y vs (.of (per.tups _ _ e))
    rw [ev] at e2
    cases e2
    exact ⟨rel, Per.refl _, dv.per per⟩
  · exact ⟨vs, .of (per.tups _ _ e), by rw [← r.length]; exact q⟩
theorem it_lst {G : Sc} {K : PySem.W.Frag} {H1 : Hp} {a : Addr} : ItOk G (Itl K a) H1 (.lst a) := by
  refine ⟨fun i H h d per rel ⟨l, ha, q⟩ => ?_, fun i H h d x H' per rel ⟨l, ha, q⟩ y => ?_, fun i H h per rel ⟨l, ha, q⟩ => ?_⟩
  · obtain ⟨vs, e, r⟩ := rel.lst ha
    obtain ⟨v, ev, dv⟩ := r.get q
    exact ⟨vs, v, .of e, ev⟩
  · obtain ⟨vs, e, r⟩ := rel.lst ha
    obtain ⟨v, ev, dv⟩ := r.get q
    obtain ⟨rfl, y⟩ := y
    have e2 := y vs (.of e)
    rw [ev] at e2
    cases e2
    exact ⟨rel, Per.refl _, dv⟩
  · obtain ⟨vs, e, r⟩ := rel.lst ha
    exact ⟨vs, .of e, by rw [← r.length]; exact q⟩
theorem it_str {G : Sc} {H1 : Hp} {z : Str} : ItOk G (Its z) H1 (.fix (z.cps.toList.map fun c => .str ⟨#[c]⟩)) := by
  refine ⟨fun i H h d per rel q => ?_, fun i H h d x H' per rel q y => ?_, fun i H h per rel q => ?_⟩
  · have q' : (z.cps.toList.map fun c => D.str ⟨#[c]⟩)[i]? = some d := q
    have := (List.getElem?_eq_some_iff.mp q').1
    show i < z.cps.size
    simpa using this
  · have q' : (z.cps.toList.map fun c => D.str ⟨#[c]⟩)[i]? = some d := q
    obtain ⟨rfl, c, ec, rfl⟩ := y
    rw [List.getElem?_map, Array.getElem?_toList, ec] at q'
    cases q'
    exact ⟨rel, Per.refl _, .str _⟩
  · have q' : (z.cps.toList.map fun c => D.str ⟨#[c]⟩).length ≤ i := q
    have : z.cps.size ≤ i := by simpa using q'
    exact this
theorem it_rng {G : Sc} {H1 : Hp} {lo : Int} {n : Nat} : ItOk G (Itr lo n) H1 (.fix (rgD lo n)) := by
  refine ⟨fun i H h d per rel q => ?_, fun i H h d x H' per rel q y => ?_, fun i H h per rel q => ?_⟩
  · have q' : (rgD lo n)[i]? = some d := q
    have := (List.getElem?_eq_some_iff.mp q').1
    show i < n
    simpa [rgD] using this
  · have q' : (rgD lo n)[i]? = some d := q
    obtain ⟨rfl, rfl⟩ := y
    have hi := (List.getElem?_eq_some_iff.mp q').1
    have hn : i < n := by simpa [rgD] using hi
    unfold rgD at q'
    rw [List.getElem?_map, List.getElem?_range hn] at q'
    cases q'
    exact ⟨rel, Per.refl _, .int _⟩
  · have q' : (rgD lo n).length ≤ i := q
    have : n ≤ i := by simpa [rgD] using q'
    exact this
section
variable {X : Cx} {G : Sc} {a b tg e : Expr} {es : List Expr} {f g : WE} {t : WA} {pos p : Pos}
/-- a list, a tuple, a text: whichever stands there -/
theorem ii_any (ha : PE3 X G e f) : PI3 X G tg e (wIter f) := by
  refine ⟨fun pins s σ H R I ⟨ρ, h, k, rel, ev, q, post⟩ => ?_⟩
  -- the three walks share the value
  refine thn (ha.run pins s σ H (fun v H1 => ∃ d h1, DV H1 d v ∧ Rel G h1 H1 ∧ Per H H1 ∧ (match d with
    | .tup l => k (.fix l) h1
    | .ref a => (∃ l, h1 a = some (.lst l)) ∧ k (.lst a) h1
    | .str z => k (.fix (z.cps.toList.map fun c => .str ⟨#[c]⟩)) h1
    | _ => False)) I ⟨ρ, h, _, rel, ev, q, fun d h1 v H1 q1 rel1 per1 dv1 => ⟨d, h1, dv1, rel1, per1, q1⟩⟩) fun u s1 ⟨x, H1, I1, r1, d, h1, dv1, rel1, per1, q1⟩ => ?_
  split at q1
  · cases dv1 with
    | tup e1 dr =>
      cases r1
      obtain ⟨its, rv, ⟨o, ho, hc, n, hd⟩, hz⟩ := I1.tuple (.of e1)
      refine wpAny_pyIter_tuple ⟨o, ho, hc, n, hd⟩ ?_
      exact ⟨s1.heap.objs.size, [s1.heap.objs.size], _, _, H1, rfl, I1.kept (t' := s1.toks) fun b o e => Heap.get?_push_of_some _ e, turn_tuple _ _, ⟨_, Heap.get?_push_size _ rfl, rfl, rfl⟩, fun b hb => by
        have e : b = s1.heap.objs.size := by simpa using hb
        subst e
        exact I1.fpOk (Nat.le_refl _) (I1.hok.fresh (Nat.le_refl _)), post _ _ _ _ q1 rel1 per1 (it_tup (K := X.K) e1 dr)⟩
  · cases dv1
    cases r1
    obtain ⟨⟨l, hl⟩, q1⟩ := q1
    obtain ⟨vs, e1, dr⟩ := rel1.lst hl
    obtain ⟨its, rv, p, hz⟩ := I1.list (.of e1)
    refine wpAny_pyIter_list p.isList ?_
    exact ⟨s1.heap.objs.size, [s1.heap.objs.size], _, _, H1, rfl, I1.kept (t' := s1.toks) fun b o e => Heap.get?_push_of_some _ e, turn_list _ _, ⟨_, Heap.get?_push_size _ rfl, rfl, rfl⟩, fun b hb => by
      have e : b = s1.heap.objs.size := by simpa using hb
      subst e
      exact I1.fpOk (Nat.le_refl _) (I1.hok.fresh (Nat.le_refl _)), post _ _ _ _ q1 rel1 per1 (it_lst (K := X.K))⟩
  · rename_i x
    cases dv1
    obtain ⟨t, rfl⟩ := r1
    cases ha : x.cps.all (· < 128)
    · exact wpAny_pyIter_wide ha (pi_one (tk := s1.toks) I1 _ (turn_str _ x t "str_iterator" (.inr rfl)) ⟨_, Heap.get?_push_size _ rfl, rfl, rfl⟩ (post _ _ _ _ q1 rel1 per1 it_str))
    · exact wpAny_pyIter_ascii ha (pi_one (tk := s1.toks) I1 _ (turn_str _ x t "str_ascii_iterator" (.inl rfl)) ⟨_, Heap.get?_push_size _ rfl, rfl, rfl⟩ (post _ _ _ _ q1 rel1 per1 it_str))
  · exact q1.elim
theorem ii_rg1 (hg : Gl X "range") (hm : X.mg "range" = none) (ha : PA3 X G [a] t) (hs : starEach [a] X.env = [(false, eval a X.env)] := by rfl) : PI3 X G tg (.Call (.Name "range" p) [a] [] pos) (wRg1 t) := by
  refine (pi_range1 hg hm ha hs).weak fun σ H R ⟨ρ, h, k, rel, ev, q, post⟩ => ?_
  refine ⟨ρ, h, _, rel, ev, q, fun l h1 vs H1 q1 rel1 per1 dv1 => ?_⟩
  obtain ⟨j, rfl, h1', h2', q1⟩ := q1
  cases dv1 with
  | cons d1 t1 =>
    cases t1; cases d1
    exact ⟨j, rfl, h1', h2', post _ _ _ _ q1 rel1 per1 it_rng⟩
theorem ii_rg2 (hg : Gl X "range") (hm : X.mg "range" = none) (ha : PA3 X G [a, b] t) (hs : starEach [a, b] X.env = [(false, eval a X.env), (false, eval b X.env)] := by rfl) (hs2 : starEach [b] X.env = [(false, eval b X.env)] := by rfl) : PI3 X G tg (.Call (.Name "range" p) [a, b] [] pos) (wRg2 t) := by
  refine (pi_range2 hg hm ha hs hs2).weak fun σ H R ⟨ρ, h, k, rel, ev, q, post⟩ => ?_
  refine ⟨ρ, h, _, rel, ev, q, fun l h1 vs H1 q1 rel1 per1 dv1 => ?_⟩
  obtain ⟨i, j, rfl, hb, q1⟩ := q1
  cases dv1 with
  | cons d1 t1 =>
    cases t1 with
    | cons d2 t2 =>
      cases t2; cases d1; cases d2
      exact ⟨i, j, rfl, hb, post _ _ _ _ q1 rel1 per1 it_rng⟩
end

/-! ### for -/
def forW (chk : H3 → Prop) (g : WG) (body : WS) (E : En) : List D → Ev → H3 → Prop
  | [], ρ, h => chk h ∧ E.nx ρ h
  | x :: r, ρ, h => chk h ∧ g x ρ h fun ρ1 h1 => body { nx := fun ρ2 h2 => ∃ h3, Sub h3 h2 ∧ forW chk g body E r ρ2 h3, ct := fun ρ2 h2 => ∃ h3, Sub h3 h2 ∧ forW chk g body E r ρ2 h3, bk := E.nx, rt := E.rt } ρ1 h1
def wFor (it : WI) (g : WG) (body : WS) : WS := fun E ρ h => it ρ h fun s h1 => match s with
  | .fix l => forW (fun _ => True) g body E l ρ h1
  | .lst a => ∃ l, h1 a = some (.lst l) ∧ forW (fun h => h a = some (.lst l)) g body E l ρ h1
theorem for_ok {G : Sc} {J : It} {H1 : Hp} {s : Src} {g : WG} {body : WS} {E : En} {D : Ends} {l : List T3.D} {chk : H3 → Prop} {ρ : Ev} {h : H3} {σ : L2.St} {H0 : Hp}
    (ok : ItOk G J H1 s) (p0 : Per H0 H1) (at_ : ∀ i h d, chk h → l[i]? = some d → s.at_ h i d) (done : ∀ i h, chk h → l.length ≤ i → s.done h i)
    (rel : Rel G h H1) (ev : EvR H1 ρ σ) (q : forW chk g body E l ρ h) (post : PostS G H0 E D) :
    ∃ W : Nat → Nat → L2.St → Hp → Prop, (∃ m, W 0 m σ H1) ∧ ∀ i m σ H, W i m σ H →
  (J.stop i H ∧ D.nx σ H) ∨ (J.go i H ∧ ∃ N : L2.St → Hp → Prop, (∀ σ' H', N σ' H' → ∃ m', m' < m ∧ W (i + 1) m' σ' H') ∧ ∀ x H', J.yld i H x H' → tIG G g x σ H' fun σ2 H2 => tIS G body { D with nx := N, ct := N, bk := D.nx } σ2 H2) := by
  refine ⟨fun i m σ H => ∃ ρ h, i + m = l.length ∧ Rel G h H ∧ EvR H ρ σ ∧ Per H1 H ∧ forW chk g body E (l.drop i) ρ h, ⟨l.length, ρ, h, by omega, rel, ev, Per.refl _, by simpa using q⟩, ?_⟩
  rintro i m σ H ⟨ρ, h, em, rel, ev, per, q⟩
  by_cases hi : i < l.length
  · have e : l[i]? = some l[i] := List.getElem?_eq_getElem hi
    rw [List.drop_eq_getElem_cons hi] at q
    obtain ⟨hc, q⟩ := q
    have sat := at_ i h _ hc e
    refine .inr ⟨ok.go i H h _ per rel sat, fun σ' H' => ∃ ρ h, Rel G h H' ∧ EvR H' ρ σ' ∧ Per H1 H' ∧ forW chk g body E (l.drop (i + 1)) ρ h, fun σ' H' ⟨ρ', h', a, b, c, d⟩ => ⟨m - 1, by omega, ρ', h', by omega, a, b, c, d⟩, fun x H' y => ?_⟩
    obtain ⟨rel', per', dv⟩ := ok.yld i H h _ x H' per rel sat y
    refine ⟨_, ρ, h, _, rel', ev.per per', dv, q, fun ρ1 h1 σ1 H2 q1 rel1 per1 ev1 => ?_⟩
    refine ⟨ρ1, h1, _, rel1, ev1, q1, ?_⟩
    have pp : Per H0 H2 := p0.trans (per.trans (per'.trans per1))
    have stp : PostN G H2 (fun ρ2 h2 => ∃ h3, Sub h3 h2 ∧ forW chk g body E (l.drop (i + 1)) ρ2 h3) fun σ' H' => ∃ ρ h, Rel G h H' ∧ EvR H' ρ σ' ∧ Per H1 H' ∧ forW chk g body E (l.drop (i + 1)) ρ h :=
      fun ρ2 h2 σ2 H3 ⟨h3, sub, q3⟩ rel2 per2 ev2 => ⟨ρ2, h3, rel2.sub sub, ev2, per.trans (per'.trans (per1.trans per2)), q3⟩
    exact ⟨stp, post.rt.per pp, post.nx.per pp, stp⟩
  · have e : l.drop i = [] := List.drop_eq_nil_iff.mpr (by omega)
    rw [e] at q
    obtain ⟨hc, q⟩ := q
    exact .inl ⟨ok.stop i H h per rel (done i h hc (by omega)), post.nx ρ h σ H q rel (p0.trans per) ev⟩
section
variable {X : Cx} {G : Sc} {tg iter : Expr} {body : List Stmt} {it : WI} {g : WG} {b : WS} {pos : Pos}
theorem is_for (hp : PassesOwn (model X.prog X.w) X.A X.env X.xe) (hc : X.calm = true) (hi : PI3 X G tg iter it) (hg : PG3 X G tg g) (hb : PSs3 X G body b)
    (hs : ∀ x, foldedSetIterable iter X.env x = pure x := by intro _; rfl) : PS3 X G (.For tg iter body [] pos) (wFor it g b) := by
  refine (ps_for hp hc hi hg hb hs).weak fun D σ H ⟨ρ, h, E, rel, ev, q, post⟩ => ?_
  refine ⟨ρ, h, _, rel, ev, q, fun s J h1 H1 q1 rel1 per1 ok => ?_⟩
  split at q1
  · exact for_ok ok per1 (fun i h d _ e => e) (fun i h _ e => e) rel1 (ev.per per1) q1 post
  · obtain ⟨l, hl, q1⟩ := q1
    exact for_ok ok per1 (fun i h d c e => ⟨l, c, e⟩) (fun i h c e => ⟨l, c, e⟩) rel1 (ev.per per1) q1 post
end

/-! ### while -/
def whileW (t : WT) (body : WS) (E : En) : Nat → Ev → H3 → Prop
  | 0, _, _ => False
  | n + 1, ρ, h => t ρ h fun c h1 => if c = true then body { nx := fun ρ2 h2 => ∃ h3, Sub h3 h2 ∧ whileW t body E n ρ2 h3, ct := fun ρ2 h2 => ∃ h3, Sub h3 h2 ∧ whileW t body E n ρ2 h3, bk := E.nx, rt := E.rt } ρ h1 else E.nx ρ h1
def wWhile (t : WT) (body : WS) : WS := fun E ρ h => ∃ n, whileW t body E n ρ h
section
variable {X : Cx} {G : Sc} {c : Expr} {body : List Stmt} {t : WT} {b : WS} {pos : Pos}
theorem is_while (hp : PassesOwn (model X.prog X.w) X.A X.env X.xe) (hc : PT3 X G c t) (hb : PSs3 X G body b) : PS3 X G (.While c body [] pos) (wWhile t b) := by
  refine (ps_while hp hc hb).weak fun D σ H ⟨ρ, h, E, rel, ev, ⟨n, q⟩, post⟩ => ?_
  refine ⟨fun m σ' H' => ∃ ρ h, Rel G h H' ∧ EvR H' ρ σ' ∧ Per H H' ∧ whileW t b E m ρ h, ⟨n, ρ, h, rel, ev, Per.refl _, q⟩, ?_⟩
  rintro m σ' H' ⟨ρ, h, rel, ev, per, q⟩
  cases m with
  | zero => exact q.elim
  | succ m =>
    refine ⟨ρ, h, _, rel, ev, q, fun c h1 H1 q1 rel1 per1 => ?_⟩
    cases c with
    | true =>
      refine ⟨fun σ'' H'' => ∃ ρ h, Rel G h H'' ∧ EvR H'' ρ σ'' ∧ Per H H'' ∧ whileW t b E m ρ h, fun σ'' H'' w => ⟨m, by omega, w⟩, ρ, h1, _, rel1, ev.per per1, q1, ?_⟩
      have pp : Per H H1 := per.trans per1
      have stp : PostN G H1 (fun ρ2 h2 => ∃ h3, Sub h3 h2 ∧ whileW t b E m ρ2 h3) fun σ'' H'' => ∃ ρ h, Rel G h H'' ∧ EvR H'' ρ σ'' ∧ Per H H'' ∧ whileW t b E m ρ h :=
        fun ρ2 h2 σ2 H3 ⟨h3, sub, q3⟩ rel2 per2 ev2 => ⟨ρ2, h3, rel2.sub sub, ev2, pp.trans per2, q3⟩
      exact ⟨stp, post.rt.per pp, post.nx.per pp, stp⟩
    | false => exact post.nx ρ h1 σ' H1 q1 rel1 (per.trans per1) (ev.per per1)
end

/-! ### list comprehensions with one target -/
def lcW (chk : H3 → Prop) (i : Nat) (t : WT) (e : WE) (p : Addr) (ρ : Ev) (k : K1) : List D → H3 → Prop
  | [], h => chk h ∧ k (.ref p) h
  | x :: r, h => chk h ∧ t (ρ.set i (some x)) h fun b h1 => if b = true then e (ρ.set i (some x)) h1 fun d h2 => ∃ acc, h2 p = some (.lst acc) ∧ acc.length < 16777216 ∧ ∃ h3, Sub h3 (up h2 p (.lst (acc ++ [d]))) ∧ lcW chk i t e p ρ k r h3
      else ∃ h3, Sub h3 h1 ∧ lcW chk i t e p ρ k r h3
def wLc (it : WI) (i : Nat) (t : WT) (e : WE) : WE := fun ρ h k => it ρ h fun s h1 => ∀ p, h1 p = none → match s with
  | .fix l => lcW (fun _ => True) i t e p ρ k l (up h1 p (.lst []))
  | .lst a => ∃ l, h1 a = some (.lst l) ∧ lcW (fun h => h a = some (.lst l)) i t e p ρ k l (up h1 p (.lst []))
def wYes : WT := fun _ h k => k true h
theorem wipe_set {σ : L2.St} {i : Nat} {v : Option V} : wipe ((wipe σ [i]).set i v) [i] = wipe σ [i] := by
  show (((σ.set i none).set i v).set i none) = σ.set i none
  rw [List.set_set, List.set_set]
theorem EvR.wip {H : Hp} {ρ : Ev} {σ : L2.St} {d : D} {v : V} (e : EvR H ρ σ) (r : DV H d v) (i : Nat) : EvR H (ρ.set i (some d)) ((wipe σ [i]).set i (some v)) := by
  show EvR H (ρ.set i (some d)) ((σ.set i none).set i (some v))
  rw [List.set_set]
  exact e.set r i
theorem lc_ok {G : Sc} {J : It} {H1 : Hp} {s : Src} {i : Nat} {t : WT} {e : WE} {Q : VK} {k : K1} {l : List T3.D} {chk : H3 → Prop} {ρ : Ev} {h : H3} {σ : L2.St} {H0 : Hp} {p : Addr}
    (ok : ItOk G J H1 s) (p0 : Per H0 H1) (at_ : ∀ i h d, chk h → l[i]? = some d → s.at_ h i d) (done : ∀ i h, chk h → l.length ≤ i → s.done h i)
    (rel : Rel G h H1) (ev : EvR H1 ρ σ) (np : H1 p = none) (q : lcW chk i t e p ρ k l (up h p (.lst []))) (post : Post G H0 k Q) :
    ∃ W : Nat → Nat → Hp → Prop, (∃ m, W 0 m (upd H1 p (.lst []))) ∧ ∀ j m H, W j m H →
  (J.stop j H ∧ Q (.ref p) H) ∨ (J.go j H ∧ ∃ Nx : Hp → Prop, (∀ H', Nx H' → ∃ m', m' < m ∧ W (j + 1) m' H') ∧ ∀ x H', J.yld j H x H' → gName i x (wipe σ [i]) H' fun σ2 H2 => wipe σ2 [i] = wipe σ [i] ∧ tIT G t σ2 H2 fun b H3 =>
    if b = true then tI G e σ2 H3 fun y H4 => ∃ acc, H4 p = some (.lst acc) ∧ acc.length < sizeLine ∧ Nx (upd H4 p (.lst (acc ++ [y]))) else Nx H3) := by
  refine ⟨fun j m H => ∃ h, j + m = l.length ∧ Rel G h H ∧ Per H1 H ∧ lcW chk i t e p ρ k (l.drop j) h, ⟨l.length, _, by omega, rel.newLst np .nil, Per.new np, by simpa using q⟩, ?_⟩
  rintro j m H ⟨h, em, rel, per, q⟩
  by_cases hj : j < l.length
  · have e : l[j]? = some l[j] := List.getElem?_eq_getElem hj
    rw [List.drop_eq_getElem_cons hj] at q
    obtain ⟨hc, q⟩ := q
    have sat := at_ j h _ hc e
    refine .inr ⟨ok.go j H h _ per rel sat, fun H' => ∃ h, Rel G h H' ∧ Per H1 H' ∧ lcW chk i t _ p ρ k (l.drop (j + 1)) h, fun H' ⟨h', a, b, c⟩ => ⟨m - 1, by omega, h', by omega, a, b, c⟩, fun x H' y => ?_⟩
    obtain ⟨rel', per', dv⟩ := ok.yld j H h _ x H' per rel sat y
    refine ⟨wipe_set, ρ.set i (some l[j]), h, _, rel', (ev.per (per.trans per')).wip dv i, q, fun b h1 H2 q1 rel1 per1 => ?_⟩
    cases b with
    | true =>
      rw [if_pos rfl] at q1
      rw [if_pos rfl]
      refine ⟨ρ.set i (some l[j]), h1, _, rel1, (ev.per ((per.trans per').trans per1)).wip (dv.per per1) i, q1, fun d h2 v H3 q2 rel2 per2 dv2 => ?_⟩
      obtain ⟨acc, hacc, hz, h3, sub, q3⟩ := q2
      obtain ⟨vs, e1, r1⟩ := rel2.lst hacc
      refine ⟨vs, e1, by rw [← r1.length]; exact hz, h3, (rel2.setLst hacc (r1.append (.cons dv2 .nil))).sub sub, ?_, q3⟩
      exact ((per.trans per').trans per1).trans (per2.trans (Per.mut (rel2.mut hacc)))
    | false =>
      obtain ⟨h3, sub, q3⟩ := q1
      rw [if_neg Bool.false_ne_true]
      exact ⟨h3, rel1.sub sub, (per.trans per').trans per1, q3⟩
  · have e : l.drop j = [] := List.drop_eq_nil_iff.mpr (by omega)
    rw [e] at q
    obtain ⟨hc, q⟩ := q
    exact .inl ⟨ok.stop j H h per rel (done j h hc (by omega)), post _ h _ H q rel (p0.trans per) (.ref p)⟩
theorem lc_lift {G : Sc} {it : WI} {i : Nat} {t : WT} {e : WE} {σ : L2.St} {H : Hp} {Q : VK} (q : tI G (wLc it i t e) σ H Q) : tLc (tII G it) (gName i) (tIT G t) (tI G e) [i] σ H Q := by
  obtain ⟨ρ, h, k, rel, ev, q, post⟩ := q
  refine ⟨ρ, h, _, rel, ev, q, fun s J h1 H1 q1 rel1 per1 ok p np => ?_⟩
  have q1 := q1 p (rel1.none np)
  split at q1
  · exact lc_ok ok per1 (fun i h d _ e => e) (fun i h _ e => e) rel1 (ev.per per1) np q1 post
  · obtain ⟨l, hl, q1⟩ := q1
    exact lc_ok ok per1 (fun i h d c e => ⟨l, c, e⟩) (fun i h c e => ⟨l, c, e⟩) rel1 (ev.per per1) np q1 post
section
variable {X : Cx} {G : Sc} {elt iter c : Expr} {ifs : List Expr} {scope : Scope} {pos pos' : Pos} {it : WI} {t : WT} {e : WE} {x : Str}
theorem PTs.weak {ifs : List Expr} {t t' : TT} (h : PTs X ifs t) (w : ∀ σ H Q, t' σ H Q → t σ H Q) : PTs X ifs t' := ⟨fun pins s σ H Q I q => h.run pins s σ H Q I (w σ H Q q)⟩
theorem its_nil : PTs X [] (tIT G wYes) := PTs.weak pts_nil fun σ H Q ⟨ρ, h, k, rel, ev, q, post⟩ => post true h H q rel (Per.refl H)
theorem its_one (h : PT3 X G c t) : PTs X [c] (tIT G t) := pts_one h
theorem i_lc (i : Nat) (hc : X.calm = true) (hN : X.N.Nodup) (ok : BlkOk X.N X.env.scope scope [(x, i)]) (hi : PI3 X G (.Name x pos') iter it)
    (hg : ∀ (s : Shared) (H : Hp) (C : Addr) (cl : List (Str × Addr)) (fp : List Addr), PG (X.blk s H scope (compEnvC scope cl C X.env) fp) (.Name x pos') (gName i)) (ht : ∀ (s : Shared) (H : Hp) (C : Addr) (cl : List (Str × Addr)) (fp : List Addr), PTs (X.blk s H scope (compEnvC scope cl C X.env) fp) ifs (tIT G t))
    (he : ∀ (s : Shared) (H : Hp) (C : Addr) (cl : List (Str × Addr)) (fp : List Addr), PE (X.blk s H scope (compEnvC scope cl C X.env) fp) elt (tI G e)) (hs : ∀ x, foldedSetIterable iter X.env x = pure x := by intro _; rfl) :
    PE3 X G (.ListComp elt [⟨.Name x pos', iter, ifs, 0⟩] scope pos) (wLc it i t e) :=
  (pe_lc (own := [(x, i)]) hc hN hi ok hg ht he hs).weak fun σ H Q q => lc_lift q
theorem is_setLc (j : Nat) {y : Str} {py spos : Pos} (i : Nat) (hc : X.calm = true) (hN : X.N.Nodup) (hsw : swapsWith (.ListComp elt [⟨.Name x pos', iter, ifs, 0⟩] scope pos) (some (.Name y py)) spos.line X.env = pure true) (ok : BlkOk X.N X.env.scope scope [(x, i)]) (hi : PI3 X G (.Name x pos') iter it)
    (hg : ∀ (s : Shared) (H : Hp) (C : Addr) (cl : List (Str × Addr)) (fp : List Addr), PG (X.blk s H scope (compEnvC scope cl C X.env) fp) (.Name x pos') (gName i)) (ht : ∀ (s : Shared) (H : Hp) (C : Addr) (cl : List (Str × Addr)) (fp : List Addr), PTs (X.blk s H scope (compEnvC scope cl C X.env) fp) ifs (tIT G t))
    (he : ∀ (s : Shared) (H : Hp) (C : Addr) (cl : List (Str × Addr)) (fp : List Addr), PE (X.blk s H scope (compEnvC scope cl C X.env) fp) elt (tI G e)) (hs : ∀ x, foldedSetIterable iter X.env x = pure x := by intro _; rfl)
    (hy : X.N[j]? = some y := by rfl) (hyl : X.env.scope.names.lookup y = some .local := by rfl) :
    PS3 X G (.Assign [.Name y py] (.ListComp elt [⟨.Name x pos', iter, ifs, 0⟩] scope pos) spos) (wAsg (wLc it i t e) (gN j)) := by
  refine (ps_setLc (i := j) (own := [(x, i)]) hc hN hy hyl hsw hi ok hg ht he hs).weak fun D σ H ⟨ρ, h, E, rel, ev, q, post⟩ => ?_
  refine lc_lift ⟨ρ, h, _, rel, ev, q, fun d h1 v H1 q1 rel1 per1 dv1 => ?_⟩
  exact post.nx _ _ _ _ q1 rel1 per1 ((ev.per per1).set dv1 j)
end
end T3
end
-- T3Call
section
set_option maxRecDepth 100000
set_option maxHeartbeats 4000000
/-! T3Call: dicts, isinstance, chains, fields, calls of defs, the rule for a def. -/
namespace T3
open PySem PySem.Spec PyProof.Rows L2

/-! ### dicts -/
section
variable {κ : Type} [DecidableEq κ]
def valD (kvs : List (κ × D)) (k : κ) : Option D := (kvs.find? fun kv => decide (kv.1 = k)).map (·.2)
def putD (kvs : List (κ × D)) (k : κ) (v : D) : List (κ × D) :=
  if (kvs.any fun kv => decide (kv.1 = k)) = true then kvs.map (fun kv => if kv.1 = k then (kv.1, v) else kv) else kvs ++ [(k, v)]
def dropD (kvs : List (κ × D)) (k : κ) : List (κ × D) := kvs.filter fun kv => decide (kv.1 ≠ k)
theorem valD_nil {k : κ} : valD ([] : List (κ × D)) k = none := rfl
theorem valD_cons {a : κ} {v : D} {r : List (κ × D)} {k : κ} : valD ((a, v) :: r) k = if a = k then some v else valD r k := by
  unfold valD
  by_cases h : a = k
  · simp [h]
  · simp [h]
theorem valD_any (k : κ) : ∀ kvs : List (κ × D), (kvs.any fun kv => decide (kv.1 = k)) = (valD kvs k).isSome
  | [] => rfl
  | (a, v) :: r => by
    rw [valD_cons, List.any_cons, valD_any k r]
    by_cases h : a = k <;> simp [h]
theorem valD_put (k j : κ) (v : D) : ∀ kvs : List (κ × D), valD (putD kvs k v) j = if j = k then some v else valD kvs j := by
  have m : ∀ kvs : List (κ × D), valD (kvs.map fun kv => if kv.1 = k then (kv.1, v) else kv) j = if j = k then (valD kvs k).map (fun _ => v) else valD kvs j := by
    intro kvs
    induction kvs with
    | nil => simp [valD_nil]
    | cons p r ih =>
      obtain ⟨a, w⟩ := p
      rw [List.map_cons]
      by_cases h : a = k
      · subst h
        rw [if_pos rfl, valD_cons, valD_cons, valD_cons, ih]
        by_cases hj : j = a
        · subst hj; simp
        · simp [hj, Ne.symm hj]
      · rw [if_neg h, valD_cons, valD_cons, valD_cons, ih]
        by_cases hj : j = k
        · subst hj; simp [h]
        · simp [hj]
  have s : ∀ kvs : List (κ × D), valD kvs k = none → valD (kvs ++ [(k, v)]) j = if j = k then some v else valD kvs j := by
    intro kvs
    induction kvs with
    | nil =>
      intro _
      rw [List.nil_append, valD_cons, valD_nil]
      by_cases hj : j = k
      · subst hj; simp
      · simp [hj, Ne.symm hj]
    | cons p r ih =>
      obtain ⟨a, w⟩ := p
      intro h
      rw [valD_cons] at h
      by_cases ha : a = k
      · rw [if_pos ha] at h; cases h
      · rw [if_neg ha] at h
        rw [List.cons_append, valD_cons, valD_cons, ih h]
        by_cases hj : j = k
        · subst hj; simp [ha]
        · simp [hj]
  intro kvs
  unfold putD
  rw [valD_any]
  by_cases h : (valD kvs k).isSome = true
  · rw [if_pos h, m]
    obtain ⟨x, e⟩ := Option.isSome_iff_exists.mp h
    rw [e]; rfl
  · rw [if_neg h]
    exact s kvs (by simpa using h)
theorem valD_drop (k j : κ) : ∀ kvs : List (κ × D), valD (dropD kvs k) j = if j = k then none else valD kvs j
  | [] => by simp [dropD, valD_nil]
  | (a, v) :: r => by
    have ih := valD_drop k j r
    unfold dropD at ih ⊢
    rw [List.filter_cons]
    by_cases h : a = k
    · subst h
      rw [if_neg (by simp), ih, valD_cons]
      by_cases hj : j = a
      · simp [hj]
      · simp [hj, Ne.symm hj]
    · rw [if_pos (by simpa using h), valD_cons, valD_cons, ih]
      by_cases hj : j = k
      · subst hj; simp [h]
      · simp [hj]
theorem KVs.val {H : Hp} (k : κ) : ∀ {kvs : List (κ × D)} {vs : List (κ × V)}, KVs H kvs vs → (valD kvs k = none ∧ valV vs k = none) ∨ ∃ d v, valD kvs k = some d ∧ valV vs k = some v ∧ DV H d v
  | [], _, h => by cases h; exact .inl ⟨rfl, rfl⟩
  | (a, d) :: r, _, h => by
    cases h with
    | cons z t =>
      obtain ⟨e, dv⟩ := z
      rename_i p ps
      obtain ⟨b, v⟩ := p
      have e' : a = b := e
      subst e'
      rw [valD_cons]
      by_cases h : a = k
      · exact .inr ⟨d, v, by rw [if_pos h], by rw [valV_pos (p := (a, v)) h], dv⟩
      · rw [if_neg h, valV_neg (p := (a, v)) h]
        exact KVs.val k t
theorem KVs.any {H : Hp} (k : κ) {kvs : List (κ × D)} {vs : List (κ × V)} (r : KVs H kvs vs) : (kvs.any fun kv => decide (kv.1 = k)) = vs.any fun kv => decide (kv.1 = k) := by
  rw [valD_any, valV_any]
  rcases r.val k with ⟨a, b⟩ | ⟨d, v, a, b, _⟩ <;> rw [a, b] <;> rfl
theorem KVs.length {H : Hp} {kvs : List (κ × D)} {vs : List (κ × V)} (r : KVs H kvs vs) : kvs.length = vs.length := Paired.length r
theorem KVs.app {H : Hp} : ∀ {l m : List (κ × D)} {vs ws : List (κ × V)}, KVs H l vs → KVs H m ws → KVs H (l ++ m) (vs ++ ws)
  | [], _, _, _, h, s => by cases h; exact s
  | _ :: _, _, _, _, h, s => by
    cases h with
    | cons r t => exact .cons r (KVs.app t s)
theorem KVs.repl {H : Hp} (k : κ) {d : D} {v : V} (dv : DV H d v) : ∀ {kvs : List (κ × D)} {vs : List (κ × V)}, KVs H kvs vs → KVs H (kvs.map fun kv => if kv.1 = k then (kv.1, d) else kv) (vs.map fun kv => if kv.1 = k then (kv.1, v) else kv)
  | [], _, h => by cases h; exact .nil
  | (a, x) :: r, _, h => by
    cases h with
    | cons z t =>
      obtain ⟨e, dz⟩ := z
      rename_i p ps
      obtain ⟨b, y⟩ := p
      have e' : a = b := e
      subst e'
      rw [List.map_cons, List.map_cons]
      by_cases h : a = k
      · rw [if_pos h, if_pos h]; exact .cons ⟨rfl, dv⟩ (KVs.repl k dv t)
      · rw [if_neg h, if_neg h]; exact .cons ⟨rfl, dz⟩ (KVs.repl k dv t)
theorem KVs.put {H : Hp} (k : κ) {d : D} {v : V} (dv : DV H d v) {kvs : List (κ × D)} {vs : List (κ × V)} (r : KVs H kvs vs) : KVs H (putD kvs k d) (putK vs k v) := by
  unfold putD putK
  rw [r.any k]
  split
  · exact r.repl k dv
  · exact r.app (.cons ⟨rfl, dv⟩ .nil)
theorem KVs.drop {H : Hp} (k : κ) : ∀ {kvs : List (κ × D)} {vs : List (κ × V)}, KVs H kvs vs → KVs H (dropD kvs k) (dropK vs k)
  | [], _, h => by cases h; exact .nil
  | (a, x) :: r, _, h => by
    cases h with
    | cons z t =>
      obtain ⟨e, dz⟩ := z
      rename_i p ps
      obtain ⟨b, y⟩ := p
      have e' : a = b := e
      subst e'
      have ih := KVs.drop k t
      unfold dropD dropK at ih ⊢
      rw [List.filter_cons, List.filter_cons]
      by_cases h : a = k
      · rw [if_neg (by simp [h]), if_neg (by simp [h])]; exact ih
      · rw [if_pos (by simpa using h), if_pos (by simpa using h)]; exact .cons ⟨rfl, dz⟩ ih
end
def kD : Key → D
  | .inl i => .int i
  | .inr x => .str x
def keyOf : D → Option Key
  | .int i => some (.inl i)
  | .str x => some (.inr x)
  | _ => none
@[simp] theorem keyOf_int {i : Int} : keyOf (.int i) = some (.inl i) := rfl
@[simp] theorem keyOf_str {i : Str} : keyOf (.str i) = some (.inr i) := rfl
def keysL : List D → Option (List Key)
  | [] => some []
  | d :: l => match keyOf d, keysL l with
    | some k, some ks => some (k :: ks)
    | _, _ => none
def keysOf : D → Option (List Key)
  | .tup l => keysL l
  | _ => none
theorem key_v {H : Hp} {d : D} {v : V} {k : Key} (r : DV H d v) (e : keyOf d = some k) : v = kV k := by
  cases r <;> first | (cases e; done) | (cases e; rfl)
theorem keys_v {H : Hp} : ∀ {l : List D} {vs : List V} {ks : List Key}, DVs H l vs → keysL l = some ks → vs = ks.map kV
  | [], _, _, h, e => by cases h; cases e; rfl
  | d :: l, _, ks, h, e => by
    cases h with
    | cons r t =>
      unfold keysL at e
      cases q1 : keyOf d with
      | none => rw [q1] at e; cases e
      | some k =>
        rw [q1] at e
        cases q2 : keysL l with
        | none => rw [q2] at e; cases e
        | some ks' =>
          rw [q2] at e
          cases e
          rw [key_v r q1, keys_v t q2]; rfl
/-- what the dict at a holds at y -/
def DG (h : H3) (a : Addr) (y : D) (o : Option D) : Prop :=
  (∃ kvs k, h a = some (.dK kvs) ∧ keyOf y = some k ∧ o = valD kvs k) ∨ ∃ kvs k, h a = some (.dT kvs) ∧ keysOf y = some k ∧ o = valD kvs k
/-- .. behind a store -/
def DPt (h : H3) (a : Addr) (y v : D) (h' : H3) : Prop :=
  (∃ kvs k, h a = some (.dK kvs) ∧ keyOf y = some k ∧ kvs.length < 16777216 ∧ h' = up h a (.dK (putD kvs k v))) ∨
  ∃ kvs k, h a = some (.dT kvs) ∧ keysOf y = some k ∧ kvs.length < 16777216 ∧ h' = up h a (.dT (putD kvs k v))
theorem Rel.dK {G : Sc} {h : H3} {H : Hp} {a : Addr} {kvs : List (Key × D)} (r : Rel G h H) (e : h a = some (.dK kvs)) : ∃ vs, H a = some (.dK vs) ∧ KVs H kvs vs := r.at_ _ _ e
theorem Rel.dT {G : Sc} {h : H3} {H : Hp} {a : Addr} {kvs : List (List Key × D)} (r : Rel G h H) (e : h a = some (.dT kvs)) : ∃ vs, H a = some (.dT vs) ∧ KVs H kvs vs := r.at_ _ _ e
theorem keysOf_v {H : Hp} {y : D} {v : V} {k : List Key} (r : DV H y v) (e : keysOf y = some k) : ∃ b, v = .ref b ∧ H b = some (.tup (k.map kV)) := by
  cases r with
  | tup q t => exact ⟨_, rfl, by rw [q, keys_v t e]⟩
  | _ => cases e
theorem DG.to {G : Sc} {h : H3} {H : Hp} {a : Addr} {y : D} {v : V} {o : Option D} (rel : Rel G h H) (r : DV H y v) (g : DG h a y o) :
    ∃ o', DGet H a v o' ∧ ((o = none ∧ o' = none) ∨ ∃ d w, o = some d ∧ o' = some w ∧ DV H d w) := by
  rcases g with ⟨kvs, k, ha, ek, rfl⟩ | ⟨kvs, k, ha, ek, rfl⟩
  · obtain ⟨vs, e, kv⟩ := rel.dK ha
    exact ⟨valV vs k, .inl ⟨vs, k, .inl e, key_v r ek, rfl⟩, kv.val k⟩
  · obtain ⟨vs, e, kv⟩ := rel.dT ha
    obtain ⟨b, rfl, hb⟩ := keysOf_v r ek
    exact ⟨valV vs k, .inr ⟨vs, k, b, .inl e, rfl, hb, rfl⟩, kv.val k⟩
theorem DPt.to {G : Sc} {h h' : H3} {H : Hp} {a : Addr} {y d : D} {v w : V} (rel : Rel G h H) (ry : DV H y v) (rd : DV H d w) (g : DPt h a y d h') :
    ∃ H', DPut H a v w H' ∧ Rel G h' H' ∧ Per H H' := by
  rcases g with ⟨kvs, k, ha, ek, hz, rfl⟩ | ⟨kvs, k, ha, ek, hz, rfl⟩
  · obtain ⟨vs, e, kv⟩ := rel.dK ha
    refine ⟨_, .inl ⟨vs, k, e, key_v ry ek, by rw [← kv.length]; exact hz, rfl⟩, rel.write ha ⟨_, upd_same, ?_⟩, Per.mut (rel.mut ha)⟩
    exact (kv.put k rd).per (Per.mut (rel.mut ha))
  · obtain ⟨vs, e, kv⟩ := rel.dT ha
    obtain ⟨b, rfl, hb⟩ := keysOf_v ry ek
    refine ⟨_, .inr ⟨vs, k, b, e, rfl, hb, by rw [← kv.length]; exact hz, rfl⟩, rel.write ha ⟨_, upd_same, ?_⟩, Per.mut (rel.mut ha)⟩
    exact (kv.put k rd).per (Per.mut (rel.mut ha))
def rDGet : D → D → H3 → K1 → Prop := fun x y h k => ∃ a v, x = .ref a ∧ DG h a y (some v) ∧ k v h
def rDIn (neg : Bool) : D → D → H3 → K1 → Prop := fun y x h k => ∃ a o, x = .ref a ∧ DG h a y o ∧ k (.bl (o.isSome != neg)) h
section
variable {X : Cx} {G : Sc} {a b c e : Expr} {f g t3 : WE} {pos apos cpos : Pos}
theorem i_dget (hu : X.A.units + 1 < cLine) (ho : PE3 X G a f) (hi : PE3 X G b g) (hs : NoSl b := by exact fun _ _ => rfl) : PE3 X G (.Subscript a b pos) (w2 rDGet f g) := by
  refine (pe_dget hu ho hi hs).weak fun σ H Q q => lift2 (R := fun x y H2 Q => ∃ a v, x = .ref a ∧ DGet H2 a y (some v) ∧ Q v H2) (fun d e x y h H k Q rel dx dy ⟨a, v, ed, g, q⟩ post => ?_) q
  subst ed
  cases dx
  obtain ⟨o', g', r⟩ := g.to rel dy
  rcases r with ⟨z, _⟩ | ⟨d, w, e1, rfl, dv⟩
  · cases z
  · cases e1
    exact ⟨a, w, rfl, g', post _ _ _ _ q rel (Per.refl H) dv⟩
theorem i_din (hu : X.A.units + 1 < cLine) (hi : PE3 X G a f) (ho : PE3 X G b g) (h1 : behindInMarks .In b = false := by rfl) : PE3 X G (.Compare a [.In] [b] pos) (w2 (rDIn false) f g) := by
  refine (pe_cmp (pc_din hu hi ho) h1).weak fun σ H Q q => lift2 (f := f) (g := g) (R := fun y x H2 Q => ∃ a o, x = .ref a ∧ DGet H2 a y o ∧ Q (.bl o.isSome) H2) (fun d e x y h H k Q rel dx dy ⟨a, o, ed, g, q⟩ post => ?_) q
  subst ed
  cases dy
  obtain ⟨o', g', r⟩ := g.to rel dx
  refine ⟨a, o', rfl, g', post_bl post rel ?_⟩
  rcases r with ⟨rfl, rfl⟩ | ⟨d, w, rfl, rfl, dv⟩ <;> simpa using q
theorem i_dnotin (hu : X.A.units + 1 < cLine) (hi : PE3 X G a f) (ho : PE3 X G b g) (h1 : behindInMarks .NotIn b = false := by rfl) : PE3 X G (.Compare a [.NotIn] [b] pos) (w2 (rDIn true) f g) := by
  refine (pe_cmp (pc_dnotin hu hi ho) h1).weak fun σ H Q q => lift2 (f := f) (g := g) (R := fun y x H2 Q => ∃ a o, x = .ref a ∧ DGet H2 a y o ∧ Q (.bl (!o.isSome)) H2) (fun d e x y h H k Q rel dx dy ⟨a, o, ed, g, q⟩ post => ?_) q
  subst ed
  cases dy
  obtain ⟨o', g', r⟩ := g.to rel dx
  refine ⟨a, o', rfl, g', post_bl post rel ?_⟩
  rcases r with ⟨rfl, rfl⟩ | ⟨d, w, rfl, rfl, dv⟩ <;> simpa using q
def wDPut (v o i : WE) : WS := fun E ρ h => v ρ h fun d h1 => o ρ h1 fun x h2 => i ρ h2 fun y h3 => ∃ a h4, x = .ref a ∧ DPt h3 a y d h4 ∧ E.nx ρ h4
theorem is_dput {pos' : Pos} (hu : X.A.units + 1 < cLine) (hv : PE3 X G c t3) (ho : PE3 X G a f) (hi : PE3 X G b g) (hs : swapsWith c (some (.Subscript a b pos')) pos.line X.env = pure false := by rfl) : PS3 X G (.Assign [.Subscript a b pos'] c pos) (wDPut t3 f g) := by
  refine (ps_dput hu ho hi hv hs).weak fun D σ H ⟨ρ, h, E, rel, ev, q, post⟩ => ?_
  refine ⟨ρ, h, _, rel, ev, q, fun d h1 v H1 q1 rel1 per1 dv1 => ⟨ρ, h1, _, rel1, ev.per per1, q1, fun x h2 xv H2 q2 rel2 per2 dv2 => ⟨ρ, h2, _, rel2, ev.per (per1.trans per2), q2, fun y h3 yv H3 q3 rel3 per3 dv3 => ?_⟩⟩⟩
  obtain ⟨a, h4, rfl, g, q3⟩ := q3
  cases dv2
  obtain ⟨H4, p, rel4, per4⟩ := g.to rel3 dv3 (dv1.per (per2.trans per3))
  have pp := per1.trans (per2.trans (per3.trans per4))
  exact ⟨a, H4, rfl, p, post.nx _ _ _ _ q3 rel4 pp (ev.per pp)⟩
/-- {} -/
def wDNewK : WE := fun _ h k => ∀ p, h p = none → k (.ref p) (up h p (.dK []))
def wDNewT : WE := fun _ h k => ∀ p, h p = none → k (.ref p) (up h p (.dT []))
theorem i_dnewK : PE3 X G (.Dict [] [] pos) wDNewK := pe_dnewK.weak fun σ H Q ⟨ρ, h, k, rel, ev, q, post⟩ p np =>
  post _ _ _ _ (q p (rel.none np)) (rel.new np ⟨[], upd_same, .nil⟩) (Per.new np) (.ref p)
theorem i_dnewT : PE3 X G (.Dict [] [] pos) wDNewT := pe_dnewT.weak fun σ H Q ⟨ρ, h, k, rel, ev, q, post⟩ p np =>
  post _ _ _ _ (q p (rel.none np)) (rel.new np ⟨[], upd_same, .nil⟩) (Per.new np) (.ref p)
/-- d.get(y), d.get(y, z): the dict, the arguments -/
def IsD3 (h : H3) (a : Addr) : Prop := (∃ kvs, h a = some (.dK kvs)) ∨ ∃ kvs, h a = some (.dT kvs)
theorem IsD3.to {h : H3} {H : Hp} {a : Addr} (d : IsD3 h a) (rel : Rel G h H) : IsD H a := by
  rcases d with ⟨kvs, e⟩ | ⟨kvs, e⟩
  · obtain ⟨vs, e, _⟩ := rel.dK e; exact .inl ⟨vs, .inl e⟩
  · obtain ⟨vs, e, _⟩ := rel.dT e; exact .inr ⟨vs, .inl e⟩
def wDGet1 (o i : WE) : WE := fun ρ h k => o ρ h fun x h1 => ∃ a, x = .ref a ∧ IsD3 h1 a ∧ i ρ h1 fun y h2 => ∃ o, DG h2 a y o ∧ k (o.getD .non) h2
def wDGet2 (o i z : WE) : WE := fun ρ h k => o ρ h fun x h1 => ∃ a, x = .ref a ∧ IsD3 h1 a ∧ i ρ h1 fun y h2 => z ρ h2 fun d h3 => ∃ o, DG h3 a y o ∧ k (o.getD d) h3
def wDPop (o i : WE) : WE := fun ρ h k => o ρ h fun x h1 => ∃ a, x = .ref a ∧ IsD3 h1 a ∧ i ρ h1 fun y h2 => ∃ kvs q v, h2 a = some (.dK kvs) ∧ keyOf y = some q ∧ valD kvs q = some v ∧ k v (up h2 a (.dK (dropD kvs q)))
def wDSetd (o i z : WE) : WE := fun ρ h k => o ρ h fun x h1 => ∃ a, x = .ref a ∧ IsD3 h1 a ∧ i ρ h1 fun y h2 => z ρ h2 fun d h3 => ∃ kvs q, h3 a = some (.dK kvs) ∧ keyOf y = some q ∧ kvs.length < 16777216 ∧
  (∀ v, valD kvs q = some v → k v h3) ∧ (valD kvs q = none → k d (up h3 a (.dK (putD kvs q d))))
theorem i_dget1 (hu : X.A.units + 1 < cLine) (ho : PE3 X G a f) (hi : PE3 X G b g) (m : M1 X a "get" apos b cpos := by exact ⟨rfl, rfl, rfl, rfl⟩) : PE3 X G (.Call (.Attribute a "get" apos) [b] [] cpos) (wDGet1 f g) := by
  refine (pe_dget1 hu ho hi m).weak fun σ H Q ⟨ρ, h, k, rel, ev, q, post⟩ => ?_
  refine ⟨ρ, h, _, rel, ev, q, fun x h1 v H1 q1 rel1 per1 dv1 => ?_⟩
  obtain ⟨a, rfl, isd, q1⟩ := q1
  cases dv1
  refine ⟨a, rfl, isd.to rel1, ρ, h1, _, rel1, ev.per per1, q1, fun y h2 yv H2 q2 rel2 per2 dv2 => ?_⟩
  obtain ⟨o, g, q2⟩ := q2
  obtain ⟨o', g', r⟩ := g.to rel2 dv2
  refine ⟨o', g', post _ _ _ _ q2 rel2 (per1.trans per2) ?_⟩
  rcases r with ⟨rfl, rfl⟩ | ⟨d, w, rfl, rfl, dv⟩
  · exact .non
  · exact dv
theorem i_dget2 (hu : X.A.units + 1 < cLine) (ho : PE3 X G a f) (hi : PE3 X G b g) (hz : PE3 X G c t3) (m : M2 X a "get" apos b c cpos := by exact ⟨rfl, rfl, rfl, rfl⟩) : PE3 X G (.Call (.Attribute a "get" apos) [b, c] [] cpos) (wDGet2 f g t3) := by
  refine (pe_dget2 hu ho hi hz m).weak fun σ H Q ⟨ρ, h, k, rel, ev, q, post⟩ => ?_
  refine ⟨ρ, h, _, rel, ev, q, fun x h1 v H1 q1 rel1 per1 dv1 => ?_⟩
  obtain ⟨a, rfl, isd, q1⟩ := q1
  cases dv1
  refine ⟨a, rfl, isd.to rel1, ρ, h1, _, rel1, ev.per per1, q1, fun y h2 yv H2 q2 rel2 per2 dv2 => ⟨ρ, h2, _, rel2, ev.per (per1.trans per2), q2, fun z h3 zv H3 q3 rel3 per3 dv3 => ?_⟩⟩
  obtain ⟨o, g, q3⟩ := q3
  obtain ⟨o', g', r⟩ := g.to rel3 (dv2.per per3)
  refine ⟨o', g', post _ _ _ _ q3 rel3 (per1.trans (per2.trans per3)) ?_⟩
  rcases r with ⟨rfl, rfl⟩ | ⟨d, w, rfl, rfl, dv⟩
  · exact dv3
  · exact dv
theorem i_dpop (ho : PE3 X G a f) (hi : PE3 X G b g) (m : M1 X a "pop" apos b cpos := by exact ⟨rfl, rfl, rfl, rfl⟩) : PE3 X G (.Call (.Attribute a "pop" apos) [b] [] cpos) (wDPop f g) := by
  refine (pe_dpop1 ho hi m).weak fun σ H Q ⟨ρ, h, k, rel, ev, q, post⟩ => ?_
  refine ⟨ρ, h, _, rel, ev, q, fun x h1 v H1 q1 rel1 per1 dv1 => ?_⟩
  obtain ⟨a, rfl, isd, q1⟩ := q1
  cases dv1
  refine ⟨a, rfl, isd.to rel1, ρ, h1, _, rel1, ev.per per1, q1, fun y h2 yv H2 q2 rel2 per2 dv2 => ?_⟩
  obtain ⟨kvs, q, v, ha, ek, ev', q2⟩ := q2
  obtain ⟨vs, e, kv⟩ := rel2.dK ha
  rcases kv.val q with ⟨z, _⟩ | ⟨d, w, e1, e2, dv⟩
  · rw [ev'] at z; cases z
  · rw [ev'] at e1; cases e1
    have pm := Per.mut (o := .dK (dropK vs q)) (rel2.mut ha)
    exact ⟨vs, q, w, e, key_v dv2 ek, e2, post _ _ _ _ q2 (rel2.write ha ⟨_, upd_same, (kv.drop q).per pm⟩) ((per1.trans per2).trans pm) (dv.per pm)⟩
theorem i_dsetd (ho : PE3 X G a f) (hi : PE3 X G b g) (hz : PE3 X G c t3) (m : M2 X a "setdefault" apos b c cpos := by exact ⟨rfl, rfl, rfl, rfl⟩) : PE3 X G (.Call (.Attribute a "setdefault" apos) [b, c] [] cpos) (wDSetd f g t3) := by
  refine (pe_dsetd ho hi hz m).weak fun σ H Q ⟨ρ, h, k, rel, ev, q, post⟩ => ?_
  refine ⟨ρ, h, _, rel, ev, q, fun x h1 v H1 q1 rel1 per1 dv1 => ?_⟩
  obtain ⟨a, rfl, isd, q1⟩ := q1
  cases dv1
  refine ⟨a, rfl, isd.to rel1, ρ, h1, _, rel1, ev.per per1, q1, fun y h2 yv H2 q2 rel2 per2 dv2 => ⟨ρ, h2, _, rel2, ev.per (per1.trans per2), q2, fun z h3 zv H3 q3 rel3 per3 dv3 => ?_⟩⟩
  obtain ⟨kvs, q, ha, ek, hl, q3, q4⟩ := q3
  obtain ⟨vs, e, kv⟩ := rel3.dK ha
  refine ⟨vs, q, e, key_v (dv2.per per3) ek, by rw [← kv.length]; exact hl, fun w hw => ?_, fun hn => ?_⟩
  · rcases kv.val q with ⟨_, z⟩ | ⟨d, w', e1, e2, dv⟩
    · rw [hw] at z; cases z
    · rw [hw] at e2; cases e2
      exact post _ _ _ _ (q3 d e1) rel3 (per1.trans (per2.trans per3)) dv
  · rcases kv.val q with ⟨z, _⟩ | ⟨d, w', e1, e2, dv⟩
    · have pm := Per.mut (o := .dK (putK vs q zv)) (rel3.mut ha)
      exact post _ _ _ _ (q4 z) (rel3.write ha ⟨_, upd_same, (kv.put q dv3).per pm⟩) ((per1.trans (per2.trans per3)).trans pm) (dv3.per pm)
    · rw [hn] at e2; cases e2

/-! ### isinstance of one written class -/
inductive Ty where
  | int | bool | str | tuple | list
def Ty.name : Ty → String
  | .int => "int" | .bool => "bool" | .str => "str" | .tuple => "tuple" | .list => "list"
def D.isTy : D → Ty → Bool
  | .int _, .int => true
  | .bl _, .int => true
  | .bl _, .bool => true
  | .str _, .str => true
  | .tup _, .tuple => true
  | _, _ => false
def rIsi (T : Ty) : D → H3 → K1 → Prop := fun x h k => match x with
  | .ref a => ((∃ l, h a = some (.lst l)) ∧ k (.bl (match T with | .list => true | _ => false)) h) ∨ (IsD3 h a ∧ k (.bl false) h)
  | x => k (.bl (x.isTy T)) h
theorem isi_kit {K : PySem.W.Frag} {H : Hp} {d : D} {v : V} (T : Ty) (r : DV H d v) (h : ∀ a, d ≠ .ref a) : ∃ t, TyX K H v t ∧ PySem.W.kitOne K t (.type T.name) = some (d.isTy T) := by
  cases r with
  | non => cases T <;> exact ⟨_, .base .non, kit_ty (by first | (show kitB _ _ = some true; decide +kernel) | (show kitB _ _ = some false; decide +kernel))⟩
  | bl b => cases T <;> exact ⟨_, .base (.bl b), kit_ty (by first | (show kitB _ _ = some true; decide +kernel) | (show kitB _ _ = some false; decide +kernel))⟩
  | int b => cases T <;> exact ⟨_, .base (.int b), kit_ty (by first | (show kitB _ _ = some true; decide +kernel) | (show kitB _ _ = some false; decide +kernel))⟩
  | str b => cases T <;> exact ⟨_, .base (.str b), kit_ty (by first | (show kitB _ _ = some true; decide +kernel) | (show kitB _ _ = some false; decide +kernel))⟩
  | tup e _ => cases T <;> exact ⟨_, .base (.tup e), kit_ty (by first | (show kitB _ _ = some true; decide +kernel) | (show kitB _ _ = some false; decide +kernel))⟩
  | ref a => exact absurd rfl (h a)
theorem i_isi (T : Ty) {x y : Str} {p p2 : Pos} (hg : Gl X x) (hm : X.mg x = none) (hv : bootBuiltins x = some (.builtin "isinstance")) (hgy : Gl X y) (hmy : X.mg y = none) (hvy : bootBuiltins y = some (.type T.name)) (ha : PE3 X G a f)
    (hn : x ≠ "__name__" := by decide) (hdb : (x == ("__debug__" : Str)) = false := by decide) (hny : y ≠ "__name__" := by decide) (hdy : (y == ("__debug__" : Str)) = false := by decide)
    (hs1 : starEach [a, .Name y p2] X.env = (false, eval a X.env) :: starEach [.Name y p2] X.env := by rfl) (hs2 : starEach [.Name y p2] X.env = (false, eval (.Name y p2) X.env) :: starEach [] X.env := by rfl)
    (hpl : (backTo pos (starEach [.Name y p2] X.env)).any (·.1) = false := by rfl) : PE3 X G (.Call (.Name x p) [a, .Name y p2] [] pos) (w1 (rIsi T) f) := by
  have hy : PE X (.Name y p2) (tC (.ty T.name)) := pe_bltn hgy hmy hvy rfl hny hdy
  refine (pe_callB call_isi hg hm hv (pa_cons ha (pa_cons hy pa_nil hs2) hs1) hn hdb hs1 hpl).weak fun σ H Q q => ?_
  refine lift1 (f := f) (R := fun v H1 Q => L2.rIsi X.K [v, .ty T.name] H1 Q) (fun d x h H k Q rel dx q post => ?_) q
  unfold rIsi at q
  split at q
  · cases dx
    rcases q with ⟨⟨l, hl⟩, q⟩ | ⟨d, q⟩
    · obtain ⟨vs, e, _⟩ := rel.lst hl
      refine ⟨_, _, _, .type T.name, _, rfl, .ty _, .base (.lst e), ?_, post_bl post rel q⟩
      cases T <;> exact kit_ty (by decide +kernel)
    · rcases d with ⟨kvs, e⟩ | ⟨kvs, e⟩
      · obtain ⟨vs, e, _⟩ := rel.dK e
        refine ⟨_, _, _, .type T.name, _, rfl, .ty _, .base (.dK e), ?_, post_bl post rel q⟩
        cases T <;> exact kit_ty (by decide +kernel)
      · obtain ⟨vs, e, _⟩ := rel.dT e
        refine ⟨_, _, _, .type T.name, _, rfl, .ty _, .base (.dT e), ?_, post_bl post rel q⟩
        cases T <;> exact kit_ty (by decide +kernel)
  · rename_i hno
    obtain ⟨t, ty, e⟩ := isi_kit (K := X.K) T dx (fun a z => hno a z)
    exact ⟨_, _, t, .type T.name, _, rfl, .ty _, ty, e, post_bl post rel q⟩
end
end T3
end
-- T3Def
section
set_option maxRecDepth 100000
set_option maxHeartbeats 4000000
/-! T3Def: chains, fields, augmented stores, calls of defs and methods, the rule for a def. -/
namespace T3
open PySem PySem.Spec PyProof.Rows L2

/-! ### a op b op c -/
def wChain (r r' : D → D → H3 → K1 → Prop) (a b c : WE) : WE := fun ρ h k => a ρ h fun x h1 => b ρ h1 fun y h2 => r x y h2 fun z h3 => ∃ q, z = .bl q ∧
  (if q = true then c ρ h3 fun w h4 => r' y w h4 k else k (.bl false) h3)
section
variable {X : Cx} {G : Sc} {a b c e o value : Expr} {es : List Expr} {f g t3 : WE} {l : WA} {pos pos' tpos apos cpos : Pos}
theorem chain_lift {op op' : CmpOp} {r r' : D → D → H3 → K1 → Prop} (rf : Rf2 G (U2 X (compareOp op)) r) (rf' : Rf2 G (U2 X (compareOp op')) r') {σ : L2.St} {H : Hp} {Q : VK} (q : tI G (wChain r r' f g t3) σ H Q) :
    tChain (U2 X (compareOp op)) (U2 X (compareOp op')) (tI G f) (tI G g) (tI G t3) σ H Q := by
  obtain ⟨ρ, h, k, rel, ev, q, post⟩ := q
  refine ⟨ρ, h, _, rel, ev, q, fun x h1 xv H1 q1 rel1 per1 dv1 => ⟨ρ, h1, _, rel1, ev.per per1, q1, fun y h2 yv H2 q2 rel2 per2 dv2 => ?_⟩⟩
  refine rf x y xv yv h2 H2 _ _ rel2 (dv1.per per2) dv2 q2 fun z h3 zv H3 q3 rel3 per3 dv3 => ?_
  obtain ⟨qq, rfl, q3⟩ := q3
  cases dv3
  refine ⟨qq, rfl, ?_⟩
  cases qq with
  | true =>
    rw [if_pos rfl] at q3 ⊢
    refine ⟨ρ, h3, _, rel3, ev.per (per1.trans (per2.trans per3)), q3, fun w h4 wv H4 q4 rel4 per4 dv4 => ?_⟩
    exact rf' y w yv wv h4 H4 _ _ rel4 (dv2.per (per3.trans per4)) dv4 q4 (post.per (per1.trans (per2.trans (per3.trans per4))))
  | false =>
    rw [if_neg Bool.false_ne_true] at q3 ⊢
    exact post _ _ _ _ q3 rel3 (per1.trans (per2.trans per3)) (.bl false)
theorem i_chain {op op' : CmpOp} {r r' : D → D → H3 → K1 → Prop} (rf : Rf2 G (U2 X (compareOp op)) r) (rf' : Rf2 G (U2 X (compareOp op')) r') (ha : PE3 X G a f) (hb : PE3 X G b g) (hc : PE3 X G c t3)
    (hm : lastMarks [op, op'] [b, c] = false := by with_unfolding_all rfl) : PE3 X G (.Compare a [op, op'] [b, c] pos) (wChain r r' f g t3) :=
  (pe_chain U2.ok U2.ok ha hb hc hm).weak fun σ H Q q => chain_lift rf rf' q
theorem it_chain {op op' : CmpOp} {r r' : D → D → H3 → K1 → Prop} (rf : Rf2 G (U2 X (compareOp op)) r) (rf' : Rf2 G (U2 X (compareOp op')) r') (ha : PE3 X G a f) (hb : PE3 X G b g) (hc : PE3 X G c t3)
    (hm : lastMarks [op, op'] [b, c] = false := by with_unfolding_all rfl) : PT3 X G (.Compare a [op, op'] [b, c] pos) (wB (wChain r r' f g t3)) :=
  (pt_chain U2.ok U2.ok ha hb hc hm).weak fun σ H Q q => chain_lift (Q := fun x H' => ∃ k, x = .bl k ∧ Q k H') rf rf' (tTest_of q)

/-! ### fields -/
structure Cl3 (K : PySem.W.Frag) (C : Addr) (N : List Str) : Prop where
  cl : Cls K C
  no : ∀ f ∈ N, NoAttr K C f
  nd : N.Nodup
  few : N.length < 1000
def putAtD (vs : List D) (j : Nat) (d : D) : List D := if j < vs.length then vs.set j d else vs ++ [d]
theorem lookup_at {N : List Str} : ∀ {fs : List (Str × V)} {j : Nat} {f : Str}, fs.map (·.1) = N → N.Nodup → N[j]? = some f → ∃ v, fs.lookup f = some v ∧ (fs.map (·.2))[j]? = some v := by
  induction N with
  | nil => intro fs j f _ _ e; simp at e
  | cons n r ih =>
    intro fs j f h nd e
    cases fs with
    | nil => simp at h
    | cons p q =>
      obtain ⟨a, w⟩ := p
      simp only [List.map_cons, List.cons.injEq] at h
      obtain ⟨h1, h2⟩ := h
      have h1 : a = n := h1
      subst h1
      rw [List.nodup_cons] at nd
      cases j with
      | zero =>
        simp at e
        subst e
        exact ⟨w, by simp [List.lookup], rfl⟩
      | succ j =>
        have e' : r[j]? = some f := by simpa using e
        obtain ⟨v, l1, l2⟩ := ih h2 nd.2 e'
        have hne : ¬ f = a := fun z => by
          subst z
          exact nd.1 (List.mem_of_getElem? e')
        refine ⟨v, ?_, by simpa using l2⟩
        rw [List.lookup_cons, beq_eq_false_iff_ne.mpr hne]
        exact l1
theorem putF_at {N : List Str} : ∀ {fs : List (Str × V)} {j : Nat} {f : Str} {v : V}, fs.map (·.1) = N → N.Nodup → N[j]? = some f → (putF f v fs).map (·.1) = N ∧ (putF f v fs).map (·.2) = (fs.map (·.2)).set j v := by
  induction N with
  | nil => intro fs j f _ _ _ e; simp at e
  | cons n r ih =>
    intro fs j f v h nd e
    cases fs with
    | nil => simp at h
    | cons p q =>
      obtain ⟨a, w⟩ := p
      simp only [List.map_cons, List.cons.injEq] at h
      obtain ⟨h1, h2⟩ := h
      have h1 : a = n := h1
      subst h1
      rw [List.nodup_cons] at nd
      cases j with
      | zero =>
        simp at e
        subst e
        have e0 : putF a v ((a, w) :: q) = (a, v) :: q := by unfold putF; rw [if_pos rfl]
        rw [e0]
        exact ⟨by simp [h2], rfl⟩
      | succ j =>
        have e' : r[j]? = some f := by simpa using e
        have hne : ¬ a = f := fun z => by
          subst z
          exact nd.1 (List.mem_of_getElem? e')
        obtain ⟨l1, l2⟩ := ih (v := v) h2 nd.2 e'
        unfold putF
        rw [if_neg hne]
        exact ⟨by simp [l1], by simp [l2]⟩
theorem putF_new {f : Str} {v : V} : ∀ {fs : List (Str × V)}, f ∉ fs.map (·.1) → putF f v fs = fs ++ [(f, v)]
  | [], _ => rfl
  | (a, w) :: r, h => by
    simp only [List.map_cons, List.mem_cons, not_or] at h
    unfold putF
    rw [if_neg (Ne.symm h.1), putF_new h.2]; rfl
def wFld (C : Addr) (N : List Str) (j : Nat) (o : WE) : WE := fun ρ h k => o ρ h fun x h1 => ∃ a vs d, x = .ref a ∧ h1 a = some (.ins C N vs) ∧ vs[j]? = some d ∧ k d h1
def wSetF (C : Addr) (N : List Str) (j : Nat) (o e : WE) : WS := fun E ρ h => e ρ h fun d h1 => o ρ h1 fun x h2 => ∃ a vs, x = .ref a ∧ h2 a = some (.ins C N vs) ∧ j ≤ vs.length ∧ E.nx ρ (up h2 a (.ins C N (putAtD vs j d)))
def wAugF (C : Addr) (N : List Str) (j : Nat) (r : D → D → H3 → K1 → Prop) (o e : WE) : WS := fun E ρ h => o ρ h fun x h1 => ∃ a vs v, x = .ref a ∧ h1 a = some (.ins C N vs) ∧ vs[j]? = some v ∧
  e ρ h1 fun y h2 => r v y h2 fun z h3 => ∃ vs', h3 a = some (.ins C N vs') ∧ j < vs'.length ∧ E.nx ρ (up h3 a (.ins C N (vs'.set j z)))
theorem Rel.ins {h : H3} {H : Hp} {a C : Addr} {N : List Str} {vs : List D} (r : Rel G h H) (e : h a = some (.ins C N vs)) : ∃ dx fs, H a = some (.ins C dx fs) ∧ fs.map (·.1) = N.take vs.length ∧ vs.length ≤ N.length ∧ DVs H vs (fs.map (·.2)) := r.at_ _ _ e
theorem take_get {N : List Str} {j n : Nat} {f : Str} (h : N[j]? = some f) (hj : j < n) : (N.take n)[j]? = some f := by rw [List.getElem?_take, if_pos hj]; exact h
theorem nd_take {N : List Str} {n : Nat} (h : N.Nodup) : (N.take n).Nodup := (List.take_sublist n N).nodup h
theorem i_fld (C : Addr) (N : List Str) (j : Nat) {nm : Str} (T : Cl3 X.K C N) (ha : PE3 X G e f) (hj : N[j]? = some nm := by rfl) (hb : attributeBase e nm X.env (eval e X.env) = eval e X.env := by rfl) : PE3 X G (.Attribute e nm pos) (wFld C N j f) := by
  refine (pe_fld ha hb).weak fun σ H Q ⟨ρ, h, k, rel, ev, q, post⟩ => ?_
  refine ⟨ρ, h, _, rel, ev, q, fun x h1 v H1 q1 rel1 per1 dv1 => ?_⟩
  obtain ⟨a, vs, d, rfl, ha, hd, q1⟩ := q1
  cases dv1
  obtain ⟨dx, fs, e1, e2, e3, r⟩ := rel1.ins ha
  have hl : j < vs.length := (List.getElem?_eq_some_iff.mp hd).1
  obtain ⟨v, l1, l2⟩ := lookup_at e2 (nd_take T.nd) (take_get hj hl)
  obtain ⟨v', l3, dv⟩ := r.get hd
  rw [l2] at l3
  cases l3
  exact ⟨a, C, dx, fs, v, rfl, e1, T.cl, T.no _ (List.mem_of_getElem? hj), l1, post _ _ _ _ q1 rel1 per1 dv⟩
theorem ins_put {C : Addr} {N : List Str} {vs : List D} {j : Nat} {nm : Str} {h : H3} {H : Hp} {a dx : Addr} {fs : List (Str × V)} {d : D} {v : V} (T : Cl3 X.K C N) (rel : Rel G h H) (ha : h a = some (.ins C N vs)) (hj : N[j]? = some nm) (hl : j ≤ vs.length)
    (e1 : H a = some (.ins C dx fs)) (e2 : fs.map (·.1) = N.take vs.length) (e3 : vs.length ≤ N.length) (r : DVs H vs (fs.map (·.2))) (dv : DV H d v) :
    Rel G (up h a (.ins C N (putAtD vs j d))) (upd H a (.ins C dx (putF nm v fs))) := by
  have pm := Per.mut (o := .ins C dx (putF nm v fs)) (rel.mut ha)
  have hjN : j < N.length := (List.getElem?_eq_some_iff.mp hj).1
  refine rel.write ha ⟨dx, putF nm v fs, upd_same, ?_⟩
  unfold putAtD
  by_cases h1 : j < vs.length
  · rw [if_pos h1]
    obtain ⟨p1, p2⟩ := putF_at (v := v) e2 (nd_take T.nd) (take_get hj h1)
    rw [List.length_set, p1, p2]
    exact ⟨rfl, e3, (DVs.set dv j r).per pm⟩
  · rw [if_neg h1]
    have ej : j = vs.length := by omega
    subst ej
    have hn : nm ∉ fs.map (·.1) := fun z => by
      rw [e2] at z
      obtain ⟨i, hi⟩ := List.getElem?_of_mem z
      have hi' : i < vs.length := by
        have q := (List.getElem?_eq_some_iff.mp hi).1
        rw [List.length_take] at q
        omega
      rw [List.getElem?_take, if_pos hi'] at hi
      have := L2.nodup_ix T.nd hi hj
      omega
    have r2 := (r.append (.cons dv .nil)).per pm
    refine ⟨?_, by simp; omega, ?_⟩
    · rw [putF_new hn, List.map_append, List.length_append, e2]
      show _ ++ [nm] = N.take (vs.length + 1)
      rw [List.take_add_one, hj]; rfl
    · have e0 : (putF nm v fs).map (·.2) = fs.map (·.2) ++ [v] := by rw [putF_new hn, List.map_append]; rfl
      rw [e0]
      exact r2
theorem is_setF (C : Addr) (N : List Str) (j : Nat) {nm : Str} (T : Cl3 X.K C N) (ha : PE3 X G o f) (hv : PE3 X G value g) (hj : N[j]? = some nm := by rfl) (hs : swapsWith value (some (.Attribute o nm pos')) pos.line X.env = pure false := by rfl) : PS3 X G (.Assign [.Attribute o nm pos'] value pos) (wSetF C N j f g) := by
  refine (ps_fld ha hv hs).weak fun D σ H ⟨ρ, h, E, rel, ev, q, post⟩ => ?_
  refine ⟨ρ, h, _, rel, ev, q, fun d h1 v H1 q1 rel1 per1 dv1 => ⟨ρ, h1, _, rel1, ev.per per1, q1, fun x h2 xv H2 q2 rel2 per2 dv2 => ?_⟩⟩
  obtain ⟨a, vs, rfl, ha, hl, q2⟩ := q2
  cases dv2
  obtain ⟨dx, fs, e1, e2, e3, r⟩ := rel2.ins ha
  have len : fs.length = vs.length := by
    have := r.length
    simpa using this.symm
  have pp := (per1.trans per2).trans (Per.mut (o := .ins C dx (putF nm v fs)) (rel2.mut ha))
  exact ⟨a, C, dx, fs, rfl, e1, T.cl, T.no _ (List.mem_of_getElem? hj), by have := T.few; omega, post.nx _ _ _ _ q2 (ins_put T rel2 ha hj hl e1 e2 e3 r (dv1.per per2)) pp (ev.per pp)⟩
theorem is_augF (C : Addr) (N : List Str) (j : Nat) {nm : Str} {op : Operator} {r : D → D → H3 → K1 → Prop} {rd : V → V → Hp → VK → Prop} (hop : InOp X op rd) (rf : Rf2 G rd r) (T : Cl3 X.K C N) (ha : PE3 X G o f) (hv : PE3 X G value g) (hj : N[j]? = some nm := by rfl) :
    PS3 X G (.AugAssign (.Attribute o nm tpos) op value pos) (wAugF C N j r f g) := by
  refine (ps_fldaug ha hv hop).weak fun D σ H ⟨ρ, h, E, rel, ev, q, post⟩ => ?_
  refine ⟨ρ, h, _, rel, ev, q, fun x h1 xv H1 q1 rel1 per1 dv1 => ?_⟩
  obtain ⟨a, vs, w, rfl, ha, hw, q1⟩ := q1
  cases dv1
  obtain ⟨dx, fs, e1, e2, e3, r⟩ := rel1.ins ha
  have hl : j < vs.length := (List.getElem?_eq_some_iff.mp hw).1
  obtain ⟨v, l1, l2⟩ := lookup_at e2 (nd_take T.nd) (take_get hj hl)
  obtain ⟨v', l3, dv⟩ := r.get hw
  rw [l2] at l3
  cases l3
  refine ⟨a, C, dx, fs, v, rfl, e1, T.cl, T.no _ (List.mem_of_getElem? hj), l1, ρ, h1, _, rel1, ev.per per1, q1, fun y h2 yv H2 q2 rel2 per2 dv2 => ?_⟩
  refine rf _ _ _ _ _ _ _ _ rel2 (dv.per per2) dv2 q2 fun z h3 zv H3 q3 rel3 per3 dv3 => ?_
  obtain ⟨vs', ha', hl', q3⟩ := q3
  obtain ⟨dx', fs', e1', e2', e3', r'⟩ := rel3.ins ha'
  have len : fs'.length = vs'.length := by
    have := r'.length
    simpa using this.symm
  have pp := (per1.trans (per2.trans per3)).trans (Per.mut (o := .ins C dx' (putF nm zv fs')) (rel3.mut ha'))
  refine ⟨dx', fs', e1', by have := T.few; omega, post.nx _ _ _ _ ?_ (ins_put (d := z) T rel3 ha' hj (Nat.le_of_lt hl') e1' e2' e3' r' dv3) pp (ev.per pp)⟩
  unfold putAtD
  rw [if_pos hl']
  exact q3
abbrev rAddI := rInt (fun _ _ => True) fun i j => i + j
theorem rf_inAdd : Rf2 G L2.rAdd rAddI := by
  intro d e x y h H k Q rel dx dy q post
  unfold rAddI rInt at q
  split at q
  · cases dx; cases dy
    exact ⟨_, _, rfl, rfl, post_int post rel q.2⟩
  · exact q.elim
theorem rf_ipI {g : Int → Int → Int} : Rf2 G (ipI g) (rInt (fun _ _ => True) g) := by
  intro d e x y h H k Q rel dx dy q post
  unfold rInt at q
  split at q
  · cases dx; cases dy
    exact ⟨_, _, rfl, rfl, post_int post rel q.2⟩
  · exact q.elim
/-- name op= e -/
def wAug (i : Nat) (r : D → D → H3 → K1 → Prop) (e : WE) : WS := fun E ρ h => ∃ x, ρ[i]? = some (some x) ∧ e ρ h fun y h1 => r x y h1 fun z h2 => E.nx (ρ.set i (some z)) h2
theorem is_aug (i : Nat) {x : Str} {op : Operator} {ti : TIp} {r : D → D → H3 → K1 → Prop} (ho : PIp X op ti) (rf : Rf2 G ti r) (hN : X.N.Nodup) (he : PE3 X G e f) (hi : X.N[i]? = some x := by rfl) (hx : Loc X.env.scope x := by first | exact .inl rfl | exact .inr rfl)
    (hf : X.fn x = true ∨ X.env.scope.names.lookup x = some .local := by first | exact .inl rfl | exact .inr rfl | assumption) : PS3 X G (.AugAssign (.Name x pos') op e pos) (wAug i r f) := by
  refine (ps_aug (i := i) hN hi hx he ho hf).weak fun D σ H ⟨ρ, h, E, rel, ev, ⟨d, ed, q⟩, post⟩ => ?_
  obtain ⟨v, e1, dv⟩ := ev.2 i d ed
  refine ⟨v, e1, ρ, h, _, rel, ev, q, fun y h1 yv H1 q1 rel1 per1 dv1 => ?_⟩
  refine rf _ _ _ _ _ _ _ _ rel1 (dv.per per1) dv1 q1 fun z h2 zv H2 q2 rel2 per2 dv2 => ?_
  exact post.nx _ _ _ _ q2 rel2 (per1.trans per2) ((ev.per (per1.trans per2)).set dv2 i)
/-- d[k] += e -/
def wDAug (r : D → D → H3 → K1 → Prop) (o i v : WE) : WS := fun E ρ h => o ρ h fun x h1 => i ρ h1 fun y h2 => ∃ a w, x = .ref a ∧ DG h2 a y (some w) ∧ v ρ h2 fun d h3 => r w d h3 fun z h4 => ∃ h5, DPt h4 a y z h5 ∧ E.nx ρ h5
theorem is_daug {op : Operator} {r : D → D → H3 → K1 → Prop} {rd : V → V → Hp → VK → Prop} (hop : InOp X op rd) (rf : Rf2 G rd r) (hu : X.A.units + 1 < cLine) (ho : PE3 X G o f) (hi : PE3 X G e g) (hv : PE3 X G value t3)
    (ha : ∀ ov iv new, augStore e ov iv new = (do holding [new, ov, iv] (setItem ov iv new); release [new, ov, iv] []; pure .next) := by intro _ _ _; rfl) : PS3 X G (.AugAssign (.Subscript o e tpos) op value pos) (wDAug r f g t3) := by
  refine (ps_daug hu ho hi hv hop ha).weak fun D σ H ⟨ρ, h, E, rel, ev, q, post⟩ => ?_
  refine ⟨ρ, h, _, rel, ev, q, fun x h1 xv H1 q1 rel1 per1 dv1 => ⟨ρ, h1, _, rel1, ev.per per1, q1, fun y h2 yv H2 q2 rel2 per2 dv2 => ?_⟩⟩
  obtain ⟨a, w, rfl, g, q2⟩ := q2
  cases dv1
  obtain ⟨o', g', rr⟩ := g.to rel2 dv2
  rcases rr with ⟨z, _⟩ | ⟨d, w', e1, rfl, dv⟩
  · cases z
  · cases e1
    refine ⟨a, w', rfl, g', ρ, h2, _, rel2, ev.per (per1.trans per2), q2, fun v h3 vv H3 q3 rel3 per3 dv3 => ?_⟩
    refine rf _ _ _ _ _ _ _ _ rel3 (dv.per per3) dv3 q3 fun z h4 zv H4 q4 rel4 per4 dv4 => ?_
    obtain ⟨h5, g5, q5⟩ := q4
    obtain ⟨H5, p, rel5, per5⟩ := g5.to rel4 (dv2.per (per3.trans per4)) dv4
    have pp := per1.trans (per2.trans (per3.trans (per4.trans per5)))
    exact ⟨H5, p, post.nx _ _ _ _ q5 rel5 pp (ev.per pp)⟩
end

/-! ### calls -/
/-- a promise over T3, as HandS's -/
def spI (G : Sc) (sp : Sp3) : Sp := fun vs H Q _ => ∃ l h k, Rel G h H ∧ DVs H l vs ∧ sp l h k ∧ Post G H k Q
/-- the def at the module's name x keeps sp -/
def Fd (P : Program) (w : World) (K : PySem.W.Frag) (mg : Str → Option Value) (base : Heap) (G : Sc) (x : Str) (k : Nat) (sp : Sp3) : Prop :=
  ∃ f fd ps, FnOk P w K mg base CX0 k f fd ps (spI G sp) ∧ mg x = some (.ref f) ∧ PySem.W.keepIn K (.ref f) = true ∧ Binds K fd ps []
/-- the method m of the class at C -/
def Md (P : Program) (w : World) (K : PySem.W.Frag) (mg : Str → Option Value) (base : Heap) (G : Sc) (C : Addr) (m : Str) (k : Nat) (sp : Sp3) : Prop :=
  ∃ f fd ps, FnOk P w K mg base CX0 k f fd ps (spI G sp) ∧ Meth K C m f ∧ Cls K C ∧ Binds K fd ps []
/-- the class at the module's name x, its __init__ -/
def Kd (P : Program) (w : World) (K : PySem.W.Frag) (mg : Str → Option Value) (base : Heap) (G : Sc) (x : Str) (C : Addr) (k : Nat) (sp : Sp3) : Prop :=
  ∃ f fd ps, FnOk P w K mg base CX0 k f fd ps (spI G sp) ∧ Mk K C f ∧ mg x = some (.ref C) ∧ Binds K fd ps []
theorem Fd.mono {P : Program} {w : World} {K : PySem.W.Frag} {mg : Str → Option Value} {base : Heap} {G : Sc} {x : Str} {j k : Nat} {sp : Sp3} (F : Fd P w K mg base G x j sp) (h : j ≤ k) : Fd P w K mg base G x k sp :=
  let ⟨f, fd, ps, a, b⟩ := F
  ⟨f, fd, ps, a.mono h, b⟩
section
variable {X : Cx} {G : Sc} {e o : Expr} {es : List Expr} {f : WE} {l : WA} {p pos apos : Pos} {x m : Str} {C : Addr} {k : Nat} {sp : Sp3}
/-- a promise is used: no exceptions -/
theorem spI_of {t : TA} {σ : L2.St} {H : Hp} {Q : VK} {sp : Sp3} (q : tI G (wL sp l) σ H Q) : tIA G l σ H fun vs H1 => spI G sp (vs ++ []) H1 Q E0 := by
  refine liftL (R := fun vs H1 Q => spI G sp (vs ++ []) H1 Q E0) (fun l vs h H k Q rel dv q post => ?_) q
  show spI G sp (vs ++ []) H Q E0
  rw [List.append_nil]
  exact ⟨l, h, k, rel, dv, q, post⟩
theorem i_call (F : Fd X.prog X.w X.K X.mg X.base G x k sp) (hr : Room k X.A) (ha : PA3 X G (e :: es) l) (hg : Gl X x := by rfl)
    (hdb : (x == ("__debug__" : Str)) = false := by decide) (he : starEach (e :: es) X.env = (false, eval e X.env) :: starEach es X.env := by rfl) (hpl : (backTo pos (starEach es X.env)).any (·.1) = false := by rfl) : PE3 X G (.Call (.Name x p) (e :: es) [] pos) (wL sp l) := by
  obtain ⟨f, fd, ps, F, hm, hk, hb⟩ := F
  exact (pe_call F hr hg hm hk hb .nil pass0 ha hdb he hpl).weak fun σ H Q q => spI_of (t := tNil) q
theorem i_call0 (F : Fd X.prog X.w X.K X.mg X.base G x k sp) (hr : Room k X.A) (hg : Gl X x := by rfl) (hdb : (x == ("__debug__" : Str)) = false := by decide) : PE3 X G (.Call (.Name x p) [] [] pos) (wL sp wNil) := by
  obtain ⟨f, fd, ps, F, hm, hk, hb⟩ := F
  refine (pe_call0 F hr hg hm hk hb .nil pass0 hdb).weak fun σ H Q ⟨ρ, h, k, rel, ev, q, post⟩ => ?_
  exact ⟨[], h, k, rel, .nil, q, post⟩
/-- o.m(..): the receiver first -/
def wMeth (sp : Sp3) (o : WE) (l : WA) : WE := fun ρ h k => o ρ h fun x h1 => ∃ a C N vs, x = .ref a ∧ h1 a = some (.ins C N vs) ∧ l ρ h1 fun ds h2 => sp (x :: ds) h2 k
def wMethC (C : Addr) (N : List Str) (sp : Sp3) (o : WE) (l : WA) : WE := fun ρ h k => o ρ h fun x h1 => ∃ a vs, x = .ref a ∧ h1 a = some (.ins C N vs) ∧ l ρ h1 fun ds h2 => sp (x :: ds) h2 k
theorem no_look {N : List Str} {m : Str} (hm : m ∉ N) {fs : List (Str × V)} {n : Nat} (e : fs.map (·.1) = N.take n) : fs.lookup m = none := by
  have hn : m ∉ fs.map (·.1) := fun z => by rw [e] at z; exact hm (List.mem_of_mem_take z)
  clear e
  induction fs with
  | nil => rfl
  | cons q r ih =>
    obtain ⟨a, v⟩ := q
    simp only [List.map_cons, List.mem_cons, not_or] at hn
    rw [List.lookup_cons, beq_eq_false_iff_ne.mpr hn.1]
    exact ih hn.2
theorem i_meth (N : List Str) {pl : Sem Bool} (F : Md X.prog X.w X.K X.mg X.base G C m k sp) (hr : Room k X.A) (ho : PE3 X G o f) (ha : PA3 X G (e :: es) l) (hm : m ∉ N := by decide)
    (hst : starEach (e :: es) X.env = (false, eval e X.env) :: starEach es X.env := by rfl) (hpl : (backTo pos (starEach es X.env)).any (·.1) = false := by rfl)
    (ht : eval (.Call (.Attribute o m apos) (e :: es) [] pos) X.env = (do
      let ov ← eval o X.env
      standAt apos.atName
      let (f, first) ← holding [ov] (getMethod ov m pl)
      callWith pos f first (backTo pos (starEach (e :: es) X.env)) (backToKw pos (keywordEach [] X.env))) := by rfl) : PE3 X G (.Call (.Attribute o m apos) (e :: es) [] pos) (wMethC C N sp f l) := by
  obtain ⟨fa, fd, ps, F, M, c, hb⟩ := F
  refine (pe_meth ho c M F hr hb .nil pass0 ha hst hpl ht).weak fun σ H Q ⟨ρ, h, k, rel, ev, q, post⟩ => ?_
  refine ⟨ρ, h, _, rel, ev, q, fun d h1 v H1 q1 rel1 per1 dv1 => ?_⟩
  obtain ⟨a, vs, rfl, hi, q1⟩ := q1
  cases dv1
  obtain ⟨dx, fs, e1, e2, _, _⟩ := rel1.ins hi
  refine ⟨a, dx, fs, rfl, e1, no_look hm e2, ρ, h1, _, rel1, ev.per per1, q1, fun ds h2 ws H2 q2 rel2 per2 dv2 => ?_⟩
  show spI G sp (V.ref a :: (ws ++ [])) H2 Q E0
  rw [List.append_nil]
  exact ⟨_, h2, k, rel2, .cons (.ref a) dv2, q2, post.per (per1.trans per2)⟩
theorem i_meth0 (N : List Str) {pl : Sem Bool} (F : Md X.prog X.w X.K X.mg X.base G C m k sp) (hr : Room k X.A) (ho : PE3 X G o f) (hm : m ∉ N := by decide)
    (ht : eval (.Call (.Attribute o m apos) [] [] pos) X.env = (do
      let ov ← eval o X.env
      standAt apos.atName
      let (f, first) ← holding [ov] (getMethod ov m pl)
      callWith pos f first (backTo pos (starEach [] X.env)) (backToKw pos (keywordEach [] X.env))) := by rfl) : PE3 X G (.Call (.Attribute o m apos) [] [] pos) (wMethC C N sp f wNil) := by
  obtain ⟨fa, fd, ps, F, M, c, hb⟩ := F
  refine (pe_meth0 ho c M F hr hb .nil pass0 ht).weak fun σ H Q ⟨ρ, h, k, rel, ev, q, post⟩ => ?_
  refine ⟨ρ, h, _, rel, ev, q, fun d h1 v H1 q1 rel1 per1 dv1 => ?_⟩
  obtain ⟨a, vs, rfl, hi, q1⟩ := q1
  cases dv1
  obtain ⟨dx, fs, e1, e2, _, _⟩ := rel1.ins hi
  refine ⟨a, dx, fs, rfl, e1, no_look hm e2, ?_⟩
  exact ⟨_, h1, k, rel1, .cons (.ref a) .nil, q1, post.per per1⟩
/-- C(..) -/
def wMake (C : Addr) (N : List Str) (sp : Sp3) (l : WA) : WE := fun ρ h k => l ρ h fun ds h1 => ∀ x, h1 x = none → sp (.ref x :: ds) (up h1 x (.ins C N [])) fun d h2 => d = .non ∧ k (.ref x) h2
theorem i_make (N : List Str) (F : Kd X.prog X.w X.K X.mg X.base G x C k sp) (hr : Room (k + 1) X.A) (ha : PA3 X G (e :: es) l) (hg : Gl X x := by rfl)
    (hdb : (x == ("__debug__" : Str)) = false := by decide) (he : starEach (e :: es) X.env = (false, eval e X.env) :: starEach es X.env := by rfl) (hpl : (backTo pos (starEach es X.env)).any (·.1) = false := by rfl) : PE3 X G (.Call (.Name x p) (e :: es) [] pos) (wMake C N sp l) := by
  obtain ⟨f, fd, ps, F, M, hm, hb⟩ := F
  refine (pe_make M F hr hg hm hb .nil pass0 ha hdb he hpl).weak fun σ H Q ⟨ρ, h, k, rel, ev, q, post⟩ => ?_
  refine ⟨ρ, h, _, rel, ev, q, fun ds h1 ws H1 q1 rel1 per1 dv1 x dx nx ndx ne => ?_⟩
  rw [List.append_nil]
  have p1 : Per H1 (upd H1 dx (.own x)) := Per.new ndx
  have nx' : (upd H1 dx (.own x)) x = none := by rw [upd_ne (Ne.symm ne)]; exact nx
  have p2 := Per.new (o := .ins C dx []) nx'
  have rel2 : Rel G (up h1 x (.ins C N [])) (upd (upd H1 dx (.own x)) x (.ins C dx [])) := (rel1.new0 ndx).new nx' ⟨dx, [], upd_same, rfl, Nat.zero_le _, .nil⟩
  refine ⟨_, _, _, rel2, .cons (.ref x) (dv1.per (p1.trans p2)), q1 x (rel1.none nx), fun d h2 v H2 q2 rel3 per3 dv3 => ?_⟩
  obtain ⟨rfl, q2⟩ := q2
  cases dv3
  exact ⟨rfl, post _ _ _ _ q2 rel3 (per1.trans ((p1.trans p2).trans per3)) (.ref x)⟩
end

/-! ### the rule for a def -/
/-- the context of a def's body -/
abbrev CXF (P : Program) (w : World) (K : PySem.W.Frag) (mg : Str → Option Value) (base : Heap) (N : List Str) (qual : Str) (st : Stmt) (f : Addr) (cdv : Value) (A : Around) (outer : List Env) (s : Shared) (H : Hp) (E : XK) : Cx :=
  (cxOf CX0 P w K mg base N qual (defScope st) f cdv A outer s H E).nox
/-- what a body is to reach, so that k: what it made may be forgotten -/
def en (k : K1) : En := { nx := fun _ h' => ∃ h'', Sub h'' h' ∧ k .non h'', rt := fun d h' => ∃ h'', Sub h'' h' ∧ k d h'' }
def ev0 (N : List Str) (l : List D) : Ev := l.map some ++ List.replicate (N.length - l.length) none
theorem evr0 {H : Hp} {N : List Str} {l : List D} {vs : List V} (r : DVs H l vs) : EvR H (ev0 N l) (L2.start N vs) := by
  unfold ev0 L2.start
  refine ⟨by simp [r.length], fun i d e => ?_⟩
  rw [← r.length]
  by_cases hi : i < l.length
  · rw [List.getElem?_append_left (by simpa using hi)] at e
    rw [List.getElem?_map] at e
    cases q : l[i]? with
    | none => rw [q] at e; cases e
    | some x =>
      rw [q] at e
      cases e
      obtain ⟨v, ev, dv⟩ := r.get q
      refine ⟨v, ?_, dv⟩
      rw [List.getElem?_append_left (by rw [List.length_map, ← r.length]; exact hi), List.getElem?_map, ev]; rfl
  · rw [List.getElem?_append_right (by simpa using hi)] at e
    have e' := List.mem_of_getElem? e
    rw [List.mem_replicate] at e'
    cases e'.2
section
variable {P : Program} {w : World} {K : PySem.W.Frag} {mg : Str → Option Value} {base : Heap} {G : Sc}
theorem fn3 {x qual : Str} {st : Stmt} {f : Addr} {fd : FuncData} {N ps : List Str} {k : Nat} {sp : Sp3} {W : WS} (F : Fun K x qual st f fd) (S : FnScope N ps (defScope st))
    (walk : ∀ (cdv : Value) (A : Around) (outer : List Env) (s : Shared) (H : Hp) (E : XK), Room k (A.deeper (envOfC qual (defScope st) s.heap.objs.size f cdv)) → PSs3 (CXF P w K mg base N qual st f cdv A outer s H E) G (defBody st) W)
    (len : ∀ l h k, sp l h k → l.length = ps.length) (ok : ∀ l h k, sp l h k → W (en k) (ev0 N l) h) : FnOk P w K mg base CX0 (k + 1) f fd ps (spI G sp) := by
  refine F.ok S (fun vs H Q E ⟨l, h, k, rel, dv, q, post⟩ => by rw [← dv.length]; exact len l h k q) (fun cdv A outer s H vs Q E hr ⟨l, h, k, rel, dv, q, post⟩ => ?_)
  refine ⟨_, walk cdv A outer s H E hr, ev0 N l, h, en k, rel, evr0 dv, ok l h k q, ?_⟩
  refine ⟨fun ρ h' σ H' ⟨h'', sub, q'⟩ rel' per' _ => post _ _ _ _ q' (rel'.sub sub) per' .non, fun d h' v H' ⟨h'', sub, q'⟩ rel' per' dv' => post _ _ _ _ q' (rel'.sub sub) per' dv', fun _ _ _ _ q' => q'.elim, fun _ _ _ _ q' => q'.elim⟩
end
end T3
end
-- T3More
section
set_option maxRecDepth 100000
set_option maxHeartbeats 4000000
/-! T3More: dict displays, truths as values, the script, pop. -/
namespace T3
open PySem PySem.Spec PyProof.Rows L2

theorem room65 {k : Nat} {A : Around} (r : Room k A) : A.units + 65 < cLine := by have := r.un; omega
theorem b_len : bootBuiltins "len" = some (.builtin "len") := PySem.boot_len
theorem b_abs : bootBuiltins "abs" = some (.builtin "abs") := by decide +kernel
theorem b_all : bootBuiltins "all" = some (.builtin "all") := by decide +kernel
theorem b_any : bootBuiltins "any" = some (.builtin "any") := by decide +kernel
theorem b_min : bootBuiltins "min" = some (.builtin "min") := by decide +kernel
theorem b_max : bootBuiltins "max" = some (.builtin "max") := by decide +kernel
theorem b_repr : bootBuiltins "repr" = some (.builtin "repr") := by decide +kernel
theorem b_sorted : bootBuiltins "sorted" = some (.builtin "sorted") := by decide +kernel
theorem b_isinstance : bootBuiltins "isinstance" = some (.builtin "isinstance") := by decide +kernel
theorem b_int : bootBuiltins "int" = some (.type "int") := by decide +kernel
theorem b_bool : bootBuiltins "bool" = some (.type "bool") := by decide +kernel
theorem b_str : bootBuiltins "str" = some (.type "str") := by decide +kernel
theorem b_tuple : bootBuiltins "tuple" = some (.type "tuple") := by decide +kernel
theorem b_list : bootBuiltins "list" = some (.type "list") := by decide +kernel
theorem b_set : bootBuiltins "set" = some (.type "set") := by decide +kernel

def rNeg : D → H3 → K1 → Prop := fun x h k => match x with | .int i => k (.int (-i)) h | _ => False
def wNotV (a : WE) : WE := fun ρ h k => a ρ h fun d h1 => ∃ c, d = .bl c ∧ k (.bl (!c)) h1
def wAndV (a b : WE) : WE := fun ρ h k => a ρ h fun d h1 => ∃ c, d = .bl c ∧ if c = true then b ρ h1 k else k (.bl false) h1
def wOrV (a b : WE) : WE := fun ρ h k => a ρ h fun d h1 => ∃ c, d = .bl c ∧ if c = true then k (.bl true) h1 else b ρ h1 k
def wAppend (a : WE) (t : WA) : WE := fun ρ h k => a ρ h fun x h1 => ∃ p xs, x = .ref p ∧ h1 p = some (.lst xs) ∧ t ρ h1 fun l h2 => rAppend3 x l h2 k
def wPop (a : WE) : WE := fun ρ h k => a ρ h fun x h1 => ∃ p xs d, x = .ref p ∧ h1 p = some (.lst xs) ∧ xs[xs.length - 1]? = some d ∧ k d (up h1 p (.lst xs.dropLast))
theorem DVs.dropLast {H : Hp} {l : List D} {vs : List V} (r : DVs H l vs) : DVs H l.dropLast vs.dropLast := by
  rw [List.dropLast_eq_take, List.dropLast_eq_take, ← r.length]
  exact r.take _
section
variable {X : Cx} {G : Sc} {a b e o : Expr} {es : List Expr} {f g : WE} {t : WA} {pos apos cpos : Pos} {rest : List Expr}
theorem rf_neg' : Rf1 G (U1 X (unaryOp .USub)) rNeg := by
  intro d x h H k Q rel dx q post
  unfold rNeg at q
  split at q
  · cases dx
    exact ⟨_, un_neg, _, rfl, post_int post rel q⟩
  · exact q.elim
theorem i_one {op} (h : PE3 X G a f) : PE3 X G (.BoolOp op [a] pos) f := pe_one h
theorem i_and (ha : PE3 X G a f) (hb : PE3 X G (.BoolOp .And (b :: rest) pos) g) : PE3 X G (.BoolOp .And (a :: b :: rest) pos) (wAndV f g) := by
  refine (pe_and ha hb).weak fun σ H Q ⟨ρ, h, k, rel, ev, q, post⟩ => ?_
  refine ⟨ρ, h, _, rel, ev, q, fun d h1 v H1 q1 rel1 per1 dv1 => ?_⟩
  obtain ⟨c, rfl, q1⟩ := q1
  cases dv1
  refine ⟨c, rfl, ?_⟩
  cases c with
  | true => exact ⟨ρ, h1, k, rel1, ev.per per1, q1, post.per per1⟩
  | false => exact post _ _ _ _ q1 rel1 per1 (.bl false)
theorem i_or (ha : PE3 X G a f) (hb : PE3 X G (.BoolOp .Or (b :: rest) pos) g) : PE3 X G (.BoolOp .Or (a :: b :: rest) pos) (wOrV f g) := by
  refine (pe_or ha hb).weak fun σ H Q ⟨ρ, h, k, rel, ev, q, post⟩ => ?_
  refine ⟨ρ, h, _, rel, ev, q, fun d h1 v H1 q1 rel1 per1 dv1 => ?_⟩
  obtain ⟨c, rfl, q1⟩ := q1
  cases dv1
  refine ⟨c, rfl, ?_⟩
  cases c with
  | true => exact post _ _ _ _ q1 rel1 per1 (.bl true)
  | false => exact ⟨ρ, h1, k, rel1, ev.per per1, q1, post.per per1⟩
theorem i_not (ha : PE3 X G a f) : PE3 X G (.UnaryOp .Not a pos) (wNotV f) := by
  refine (pe_not ha).weak fun σ H Q ⟨ρ, h, k, rel, ev, q, post⟩ => ?_
  refine ⟨ρ, h, _, rel, ev, q, fun d h1 v H1 q1 rel1 per1 dv1 => ?_⟩
  obtain ⟨c, rfl, q1⟩ := q1
  cases dv1
  exact ⟨c, rfl, post _ _ _ _ q1 rel1 per1 (.bl _)⟩
theorem i_pop (ho : PE3 X G a f) (hbase : attributeBase a "pop" X.env (eval a X.env) = eval a X.env := by rfl) (hline : (apos.endLine == cpos.line) = true := by rfl) : PE3 X G (.Call (.Attribute a "pop" apos) [] [] cpos) (wPop f) := by
  refine (pe_bm0 PySem.F.plainAttrs_list PySem.F.slot_list_pop PySem.F.type_list_pop mt_pop ho hbase hline).weak fun σ H Q ⟨ρ, h, k, rel, ev, q, post⟩ => ?_
  refine ⟨ρ, h, _, rel, ev, q, fun x h1 v H1 q1 rel1 per1 dv1 => ?_⟩
  obtain ⟨p, xs, d, rfl, hp, hd, q1⟩ := q1
  cases dv1
  obtain ⟨vs, e1, r1⟩ := rel1.lst hp
  obtain ⟨w, ew, dw⟩ := r1.get hd
  have pm := Per.mut (o := .lst vs.dropLast) (rel1.mut hp)
  exact ⟨.inl ⟨rfl, _, .of e1⟩, _, vs, w, rfl, rfl, e1, by rw [← r1.length]; exact ew, post _ _ _ _ q1 (rel1.setLst hp r1.dropLast) (per1.trans pm) (dw.per pm)⟩
/-! a display of a dict -/
def wPairs : List (WE × WE) → Ev → H3 → (List (D × D) → H3 → Prop) → Prop
  | [], _, h, k => k [] h
  | (f, g) :: r, ρ, h, k => f ρ h fun x h1 => g ρ h1 fun y h2 => wPairs r ρ h2 fun ps h3 => k ((x, y) :: ps) h3
def keyed : List (D × D) → Option (List (Key × D))
  | [] => some []
  | (x, y) :: r => match keyOf x, keyed r with
    | some k, some l => some ((k, y) :: l)
    | _, _ => none
def mergeD (kvs more : List (Key × D)) : List (Key × D) := more.foldl (fun acc kv => putD acc kv.1 kv.2) kvs
def wDisp (l : List (WE × WE)) : WE := fun ρ h k => ∀ p, h p = none → wPairs l ρ (up h p (.dK [])) fun ps h2 => h2 p = some (.dK []) ∧ ∃ kvs, keyed ps = some kvs ∧ kvs.length ≤ 15 ∧ k (.ref p) (up h2 p (.dK (mergeD [] kvs)))
abbrev ppsNil : List (WE × WE) := []
abbrev ppsCons (f g : WE) (l : List (WE × WE)) : List (WE × WE) := (f, g) :: l
abbrev PP3 (X : Cx) (G : Sc) (pos : Pos) (keys : List (Option Expr)) (values : List Expr) (l : List (WE × WE)) : Prop := PPs X pos keys values (l.map fun p => (tI G p.1, tI G p.2))
theorem ipps_nil : PP3 X G pos [] [] ppsNil := pps_nil
theorem ipps_cons {k v : Expr} {ks : List (Option Expr)} {vs : List Expr} {l : List (WE × WE)} (hk : PE3 X G k f) (hv : PE3 X G v g) (hr : PP3 X G pos ks vs l) : PP3 X G pos (some k :: ks) (v :: vs) (ppsCons f g l) := pps_cons hk hv hr
theorem pairs_lift {ρ : Ev} {σ : L2.St} : ∀ {l : List (WE × WE)} {h : H3} {H : Hp} {k : List (D × D) → H3 → Prop} {Q : List (V × V) → Hp → Prop}, Rel G h H → EvR H ρ σ → wPairs l ρ h k →
    (∀ ps h' vs H', k ps h' → Rel G h' H' → Per H H' → Paired (fun (p : D × D) (q : V × V) => DV H' p.1 q.1 ∧ DV H' p.2 q.2) ps vs → Q vs H') → tPairs (l.map fun p => (tI G p.1, tI G p.2)) σ H Q
  | [], h, H, k, Q, rel, ev, q, post => post [] h [] H q rel (Per.refl H) .nil
  | (f, g) :: r, h, H, k, Q, rel, ev, q, post => by
    refine ⟨ρ, h, _, rel, ev, q, fun x h1 xv H1 q1 rel1 per1 dv1 => ⟨ρ, h1, _, rel1, ev.per per1, q1, fun y h2 yv H2 q2 rel2 per2 dv2 => ?_⟩⟩
    refine pairs_lift rel2 (ev.per (per1.trans per2)) q2 fun ps h3 vs H3 q3 rel3 per3 pv => ?_
    exact post _ h3 _ H3 q3 rel3 (per1.trans (per2.trans per3)) (.cons ⟨dv1.per (per2.trans per3), dv2.per per3⟩ pv)
theorem keyed_v {H : Hp} : ∀ {ps : List (D × D)} {vs : List (V × V)} {kvs : List (Key × D)}, Paired (fun (p : D × D) (q : V × V) => DV H p.1 q.1 ∧ DV H p.2 q.2) ps vs → keyed ps = some kvs → ∃ kv' : List (Key × V), vs = kv'.map (fun kv => (kV kv.1, kv.2)) ∧ KVs H kvs kv'
  | [], _, _, h, e => by cases h; cases e; exact ⟨[], rfl, .nil⟩
  | (x, y) :: r, _, _, h, e => by
    cases h with
    | cons z t =>
      rename_i p ps
      obtain ⟨a, b⟩ := p
      unfold keyed at e
      cases q1 : keyOf x with
      | none => rw [q1] at e; cases e
      | some k =>
        rw [q1] at e
        cases q2 : keyed r with
        | none => rw [q2] at e; cases e
        | some l =>
          rw [q2] at e
          cases e
          obtain ⟨kv', e1, e2⟩ := keyed_v t q2
          refine ⟨(k, b) :: kv', ?_, .cons ⟨rfl, z.2⟩ e2⟩
          have e3 : a = kV k := key_v z.1 q1
          rw [e3, e1]; rfl
theorem merge_kv {H : Hp} : ∀ {more : List (Key × D)} {ms : List (Key × V)} {kvs : List (Key × D)} {vs : List (Key × V)}, KVs H more ms → KVs H kvs vs → KVs H (mergeD kvs more) (mergeK vs ms)
  | [], _, _, _, h, s => by cases h; exact s
  | (k, d) :: r, _, _, _, h, s => by
    cases h with
    | cons z t =>
      rename_i p ps
      obtain ⟨k', v⟩ := p
      have e : k = k' := z.1
      subst e
      have q := merge_kv (more := r) (ms := ps) t (s.put k z.2)
      exact q
theorem i_disp {keys : List (Option Expr)} {values : List Expr} {l : List (WE × WE)} (h : PP3 X G pos keys values l) (hall : keys.all (·.isSome) = true := by rfl) (hl : keys.length = values.length := by rfl) (h0 : keys ≠ [] := by exact fun z => nomatch z) (h15 : keys.length ≤ 15 := by decide) : PE3 X G (.Dict keys values pos) (wDisp l) := by
  refine (pe_disp h hall hl h0 h15).weak fun σ H Q ⟨ρ, h, k, rel, ev, q, post⟩ p np => ?_
  have rel0 := rel.new (o := .dK []) np ⟨[], upd_same, .nil⟩
  refine pairs_lift rel0 (ev.per (Per.new np)) (q p (rel.none np)) fun ps h2 vs H2 q2 rel2 per2 pv => ?_
  obtain ⟨hp, kvs, ek, hz, q2⟩ := q2
  obtain ⟨kv', e1, e2⟩ := keyed_v pv ek
  obtain ⟨v0, e0, kv0⟩ := rel2.dK hp
  have ev0 : v0 = [] := by cases kv0; rfl
  subst ev0
  have pm := Per.mut (o := .dK (mergeK [] kv')) (rel2.mut hp)
  exact ⟨e0, kv', e1, by rw [← e2.length]; exact hz, post _ _ _ _ q2 (rel2.write hp ⟨_, upd_same, (merge_kv e2 .nil).per pm⟩) (((Per.new np).trans per2).trans pm) (.ref p)⟩
/-! the script -/
def wScript (G : Sc) (i : Nat) : WI := fun ρ h k => ρ[i]? = some (some (.ref G.a)) ∧ k (.fix (G.ns.map .int)) h
theorem scr_sq {H1 : Hp} (hK : G.K = X.K) (sc : Ro G.K H1 G.a (G.ns.map V.int)) : SqL X.K H1 G.a (G.ns.map V.int) := by
  rw [← hK]
  rcases sc with ⟨o, e⟩ | r
  · exact .inl (.inr ⟨o, e⟩)
  · exact .inr r
theorem it_scr {H1 : Hp} (hK : G.K = X.K) : ItOk G (Itl X.K G.a) H1 (.fix (G.ns.map .int)) := by
  refine ⟨fun i H h d per rel q => ?_, fun i H h d x H' per rel q y => ?_, fun i H h per rel q => ?_⟩
  · have q' : (G.ns.map D.int)[i]? = some d := q
    have hi : i < G.ns.length := by simpa using (List.getElem?_eq_some_iff.mp q').1
    exact ⟨_, .int G.ns[i], scr_sq hK rel.sc, by simp [hi]⟩
  · have q' : (G.ns.map D.int)[i]? = some d := q
    have hi : i < G.ns.length := by simpa using (List.getElem?_eq_some_iff.mp q').1
    obtain ⟨rfl, y⟩ := y
    have e := y _ (scr_sq hK rel.sc)
    rw [List.getElem?_map, List.getElem?_eq_getElem hi] at e q'
    cases e; cases q'
    exact ⟨rel, Per.refl _, .int _⟩
  · have q' : (G.ns.map D.int).length ≤ i := q
    exact ⟨_, scr_sq hK rel.sc, by simpa using q'⟩
theorem ii_script {tg : Expr} (i : Nat) {x : Str} {p : Pos} (hK : G.K = X.K) (hN : X.N[i]? = some x := by rfl) (hv : Vis X.env.scope x := by first | exact .inl rfl | exact .inr (.inl rfl) | exact .inr (.inr rfl)) (hd : (x == ("__debug__" : Str)) = false := by decide) (hcd : (x == ("__classdict__" : Str)) = false := by decide) :
    PI3 X G tg (.Name x p) (wScript G i) := by
  refine (pi_list (pe_var (i := i) hN hv hd hcd)).weak fun σ H R ⟨ρ, h, k, rel, ev, ⟨e, q⟩, post⟩ => ?_
  obtain ⟨v, e1, dv⟩ := ev.2 i _ e
  cases dv
  exact ⟨_, e1, G.a, rfl, ⟨_, scr_sq hK rel.sc⟩, post _ _ _ _ q rel (Per.refl H) (it_scr hK)⟩
/-! tests by is, in -/
variable {c : Expr}
theorem tB_of {σ : L2.St} {H : Hp} {Q : Bool → Hp → Prop} (q : tIT G (wB f) σ H Q) : tI G f σ H fun x H' => ∃ k, x = .bl k ∧ Q k H' := tTest_of q
theorem it_isN {j p2} (ha : PE3 X G a f) : PT3 X G (.Compare a [.Is] [.Constant .none j p2] pos) (wB (w1 (rIsN false) f)) := by
  refine (pt_cmp (pc_isN ha) rfl).weak fun σ H Q q => lift1 (f := f) (R := fun x H1 Q => Q (.bl (decide (x = .non))) H1) (Q := fun x H1 => ∃ c, x = .bl c ∧ Q c H1) (fun d x h H k Q rel dx q post => ?_) (tTest_of q)
  unfold rIsN at q
  exact post_bl post rel (by rw [isN_of dx]; simpa using q)
theorem it_notN {j p2} (ha : PE3 X G a f) : PT3 X G (.Compare a [.IsNot] [.Constant .none j p2] pos) (wB (w1 (rIsN true) f)) := by
  refine (pt_cmp (pc_notN ha) rfl).weak fun σ H Q q => lift1 (f := f) (R := fun x H1 Q => Q (.bl (!decide (x = .non))) H1) (Q := fun x H1 => ∃ c, x = .bl c ∧ Q c H1) (fun d x h H k Q rel dx q post => ?_) (tTest_of q)
  unfold rIsN at q
  exact post_bl post rel (by rw [isN_of dx]; simpa using q)
theorem it_din (hu : X.A.units + 1 < cLine) (hi : PE3 X G a f) (ho : PE3 X G b g) (h1 : behindInMarks .In b = false := by rfl) : PT3 X G (.Compare a [.In] [b] pos) (wB (w2 (rDIn false) f g)) := by
  refine (pt_cmp (pc_din hu hi ho) h1).weak fun σ H Q q => lift2 (f := f) (g := g) (R := fun y x H2 Q => ∃ a o, x = .ref a ∧ DGet H2 a y o ∧ Q (.bl o.isSome) H2) (Q := fun x H1 => ∃ c, x = .bl c ∧ Q c H1) (fun d e x y h H k Q rel dx dy ⟨a, o, ed, g, q⟩ post => ?_) (tTest_of q)
  subst ed
  cases dy
  obtain ⟨o', g', r⟩ := g.to rel dx
  refine ⟨a, o', rfl, g', post_bl post rel ?_⟩
  rcases r with ⟨rfl, rfl⟩ | ⟨d, w, rfl, rfl, dv⟩ <;> simpa using q
theorem it_dnotin (hu : X.A.units + 1 < cLine) (hi : PE3 X G a f) (ho : PE3 X G b g) (h1 : behindInMarks .NotIn b = false := by rfl) : PT3 X G (.Compare a [.NotIn] [b] pos) (wB (w2 (rDIn true) f g)) := by
  refine (pt_cmp (pc_dnotin hu hi ho) h1).weak fun σ H Q q => lift2 (f := f) (g := g) (R := fun y x H2 Q => ∃ a o, x = .ref a ∧ DGet H2 a y o ∧ Q (.bl (!o.isSome)) H2) (Q := fun x H1 => ∃ c, x = .bl c ∧ Q c H1) (fun d e x y h H k Q rel dx dy ⟨a, o, ed, g, q⟩ post => ?_) (tTest_of q)
  subst ed
  cases dy
  obtain ⟨o', g', r⟩ := g.to rel dx
  refine ⟨a, o', rfl, g', post_bl post rel ?_⟩
  rcases r with ⟨rfl, rfl⟩ | ⟨d, w, rfl, rfl, dv⟩ <;> simpa using q
/-! in a module's tuple of texts -/
/-- the module's name x is a tuple of these texts -/
def KTup (K : PySem.W.Frag) (mg : Str → Option Value) (x : Str) (l : List Str) : Prop := ∃ a, mg x = some (.ref a) ∧ ∀ H, SqT K H a (l.map V.str)
def rInK (neg : Bool) (l : List Str) : D → H3 → K1 → Prop := fun d h k => ∃ z, d = .str z ∧ k (.bl (decide (z ∈ l) != neg)) h
theorem inV_strs {z : Str} : ∀ {l : List Str}, inV (.str z) (l.map V.str) = decide (z ∈ l)
  | [] => rfl
  | x :: l => by
    show (eqV (.str x) (.str z) || inV (.str z) (l.map V.str)) = _
    rw [inV_strs]
    show ((x == z) || _) = _
    by_cases h : x = z
    · subst h; simp
    · have h' : ¬ z = x := fun e => h e.symm
      simp [h, h']
theorem flat_strs : ∀ {l : List Str}, (l.map V.str).all flatV = true
  | [] => rfl
  | x :: l => by rw [List.map_cons, List.all_cons, flat_strs]; rfl
theorem inK_lift {op : CmpOp} {neg : Bool} {l : List Str} {tp : Addr} (hT : ∀ H, SqT X.K H tp (l.map V.str)) (o : OpR X (compareOp op) (L2.rIn X.K neg)) {σ : L2.St} {H : Hp} {Q : VK} (q : tI G (w1 (rInK neg l) f) σ H Q) :
    tOp (L2.rIn X.K neg) (tI G f) (tC (.ref tp)) σ H Q := by
  refine lift1 (f := f) (R := fun x H1 Q => L2.rIn X.K neg x (.ref tp) H1 Q) (fun d x h H k Q rel dx q post => ?_) q
  obtain ⟨z, rfl, q⟩ := q
  cases dx
  refine ⟨tp, _, rfl, .inr (hT H), rfl, flat_strs, post_bl post rel ?_⟩
  rw [inV_strs]
  cases neg <;> simpa using q
theorem it_inK {x : Str} {p : Pos} {l : List Str} (hT : KTup X.K X.mg x l) (ha : PE3 X G a f) (hg : Gl X x := by rfl) (hd : (x == ("__debug__" : Str)) = false := by decide) (hm : behindInMarks .In (.Name x p) = false := by rfl) : PT3 X G (.Compare a [.In] [.Name x p] pos) (wB (w1 (rInK false l) f)) := by
  obtain ⟨tp, hmg, hT⟩ := hT
  exact (pt_cmpR op_in_seq ha (pe_glob (v := .ref tp) hg hmg rfl hd) hm).weak fun σ H Q q => inK_lift hT op_in_seq (tTest_of q)
theorem it_notinK {x : Str} {p : Pos} {l : List Str} (hT : KTup X.K X.mg x l) (ha : PE3 X G a f) (hg : Gl X x := by rfl) (hd : (x == ("__debug__" : Str)) = false := by decide) (hm : behindInMarks .NotIn (.Name x p) = false := by rfl) : PT3 X G (.Compare a [.NotIn] [.Name x p] pos) (wB (w1 (rInK true l) f)) := by
  obtain ⟨tp, hmg, hT⟩ := hT
  exact (pt_cmpR op_notIn_seq ha (pe_glob (v := .ref tp) hg hmg rfl hd) hm).weak fun σ H Q q => inK_lift hT op_notIn_seq (tTest_of q)
theorem i_inK {x : Str} {p : Pos} {l : List Str} (hT : KTup X.K X.mg x l) (ha : PE3 X G a f) (hg : Gl X x := by rfl) (hd : (x == ("__debug__" : Str)) = false := by decide) (hm : behindInMarks .In (.Name x p) = false := by rfl) : PE3 X G (.Compare a [.In] [.Name x p] pos) (w1 (rInK false l) f) := by
  obtain ⟨tp, hmg, hT⟩ := hT
  exact (pe_cmpR op_in_seq ha (pe_glob (v := .ref tp) hg hmg rfl hd) hm).weak fun σ H Q q => inK_lift hT op_in_seq q
end
end T3
end
-- T3Simp
section
set_option maxRecDepth 100000
set_option maxHeartbeats 4000000
/-! T3Simp: the readings at known values, for simp. -/
namespace T3
open PySem PySem.Spec PyProof.Rows L2
def asB (d : D) (f : Bool → Prop) : Prop := match d with | .bl c => f c | _ => False
@[simp] theorem asB_bl {c : Bool} {f : Bool → Prop} : asB (.bl c) f ↔ f c := Iff.rfl
theorem asB_iff {d : D} {f : Bool → Prop} : (∃ c, d = .bl c ∧ f c) ↔ asB d f := by
  constructor
  · rintro ⟨c, rfl, q⟩; exact q
  · intro q
    unfold asB at q
    split at q
    · exact ⟨_, rfl, q⟩
    · exact q.elim
section
variable {ρ : Ev} {h : H3} {k : K1} {kb : KB} {kl : KL} {E : En} {a b c : WE} {t u : WT} {l : WA} {s s' : WS} {g : WG} {d e : D}
@[simp] theorem s_var {i : Nat} : wVar i ρ h k ↔ ∃ d, ρ[i]? = some (some d) ∧ k d h := Iff.rfl
@[simp] theorem s_c : wC d ρ h k ↔ k d h := Iff.rfl
@[simp] theorem s_w1 {r : D → H3 → K1 → Prop} : w1 r a ρ h k ↔ a ρ h fun d h1 => r d h1 k := Iff.rfl
@[simp] theorem s_w2 {r : D → D → H3 → K1 → Prop} : w2 r a b ρ h k ↔ a ρ h fun d h1 => b ρ h1 fun e h2 => r d e h2 k := Iff.rfl
@[simp] theorem s_nil : wNil ρ h kl ↔ kl [] h := Iff.rfl
@[simp] theorem s_cons : wCons a l ρ h kl ↔ a ρ h fun d h1 => l ρ h1 fun x h2 => kl (d :: x) h2 := Iff.rfl
@[simp] theorem s_L {r : List D → H3 → K1 → Prop} : wL r l ρ h k ↔ l ρ h fun x h1 => r x h1 k := Iff.rfl
@[simp] theorem s_if : wIf t a b ρ h k ↔ t ρ h fun c h1 => if c = true then a ρ h1 k else b ρ h1 k := Iff.rfl
@[simp] theorem s_B : wB a ρ h kb ↔ a ρ h fun d h1 => asB d fun c => kb c h1 := by simp only [wB, asB_iff]
@[simp] theorem s_and : wAnd t u ρ h kb ↔ t ρ h fun c h1 => if c = true then u ρ h1 kb else kb false h1 := Iff.rfl
@[simp] theorem s_or : wOr t u ρ h kb ↔ t ρ h fun c h1 => if c = true then kb true h1 else u ρ h1 kb := Iff.rfl
@[simp] theorem s_not : wNot t ρ h kb ↔ t ρ h fun c h1 => kb (!c) h1 := Iff.rfl
@[simp] theorem s_andV : wAndV a b ρ h k ↔ a ρ h fun d h1 => asB d fun c => if c = true then b ρ h1 k else k (.bl false) h1 := by simp only [wAndV, asB_iff]
@[simp] theorem s_orV : wOrV a b ρ h k ↔ a ρ h fun d h1 => asB d fun c => if c = true then k (.bl true) h1 else b ρ h1 k := by simp only [wOrV, asB_iff]
@[simp] theorem s_notV : wNotV a ρ h k ↔ a ρ h fun d h1 => asB d fun c => k (.bl (!c)) h1 := by simp only [wNotV, asB_iff]
@[simp] theorem s_tup {x : List D} : rTup x h k ↔ x.length ≤ 16777216 ∧ k (.tup x) h := Iff.rfl
@[simp] theorem s_lst {x : List D} : rLst x h k ↔ x.length ≤ 16777216 ∧ ∀ p, h p = none → k (.ref p) (up h p (.lst x)) := Iff.rfl
@[simp] theorem s_next : wNext E ρ h ↔ E.nx ρ h := Iff.rfl
@[simp] theorem s_seq : wSeq s s' E ρ h ↔ s { E with nx := s' E } ρ h := Iff.rfl
@[simp] theorem s_break : wBreak E ρ h ↔ E.bk ρ h := Iff.rfl
@[simp] theorem s_cont : wCont E ρ h ↔ E.ct ρ h := Iff.rfl
@[simp] theorem s_drop : wDrop a E ρ h ↔ a ρ h fun _ h1 => E.nx ρ h1 := Iff.rfl
@[simp] theorem s_ret : wRet a E ρ h ↔ a ρ h E.rt := Iff.rfl
@[simp] theorem s_retN : wRetN E ρ h ↔ E.rt .non h := Iff.rfl
@[simp] theorem s_ifS : wIfS t s s' E ρ h ↔ t ρ h fun c h1 => if c = true then s E ρ h1 else s' E ρ h1 := Iff.rfl
@[simp] theorem s_asg : wAsg a g E ρ h ↔ a ρ h fun d h1 => g d ρ h1 E.nx := Iff.rfl
@[simp] theorem s_gN {i : Nat} {kn : Ev → H3 → Prop} : gN i d ρ h kn ↔ kn (ρ.set i (some d)) h := Iff.rfl
@[simp] theorem s_gIx {kn : Ev → H3 → Prop} : gIx a b d ρ h kn ↔ a ρ h fun x h1 => b ρ h1 fun y h2 => rSetIx x y d h2 fun h3 => kn ρ h3 := Iff.rfl
@[simp] theorem s_gT {gs : List WG} {kn : Ev → H3 → Prop} {m : List D} : gT gs (.tup m) ρ h kn ↔ m.length = gs.length ∧ gT.go gs m ρ h kn := by
  constructor
  · rintro ⟨l, e, q⟩; cases e; exact q
  · intro q; exact ⟨m, rfl, q⟩
@[simp] theorem s_go_nil {m : List D} {kn : Ev → H3 → Prop} : gT.go [] m ρ h kn ↔ kn ρ h := Iff.rfl
@[simp] theorem s_go_cons {gs : List WG} {m : List D} {kn : Ev → H3 → Prop} : gT.go (g :: gs) (d :: m) ρ h kn ↔ g d ρ h fun ρ1 h1 => gT.go gs m ρ1 h1 kn := by
  constructor
  · rintro ⟨x, r, e, q⟩; cases e; exact q
  · intro q; exact ⟨d, m, rfl, q⟩
@[simp] theorem s_setIx {p : Addr} {n : Int} {kh : H3 → Prop} : rSetIx (.ref p) (.int n) d h kh ↔ ∃ l j, h p = some (.lst l) ∧ ixN l.length n = some j ∧ kh (up h p (.lst (l.set j d))) := by
  constructor
  · rintro ⟨_, _, l, j, e1, e2, q⟩; cases e1; cases e2; exact ⟨l, j, q⟩
  · rintro ⟨l, j, q⟩; exact ⟨p, n, l, j, rfl, rfl, q⟩
@[simp] theorem s_add_ii {i j : Int} : rAdd (.int i) (.int j) h k ↔ k (.int (i + j)) h := Iff.rfl
@[simp] theorem s_add_ss {i j : Str} : rAdd (.str i) (.str j) h k ↔ i.length + j.length ≤ 16777216 ∧ k (.str (i ++ j)) h := Iff.rfl
@[simp] theorem s_add_tt {i j : List D} : rAdd (.tup i) (.tup j) h k ↔ i.length + j.length ≤ 16777216 ∧ k (.tup (i ++ j)) h := Iff.rfl
@[simp] theorem s_add_ll {i j : Addr} : rAdd (.ref i) (.ref j) h k ↔ ∃ l m, h i = some (.lst l) ∧ h j = some (.lst m) ∧ l.length + m.length ≤ 16777216 ∧ ∀ p, h p = none → k (.ref p) (up h p (.lst (l ++ m))) := Iff.rfl
@[simp] theorem s_int {i j : Int} {C : Int → Int → Prop} {f : Int → Int → Int} : rInt C f (.int i) (.int j) h k ↔ C i j ∧ k (.int (f i j)) h := Iff.rfl
@[simp] theorem s_mul {i j : Int} : rMul (.int i) (.int j) h k ↔ ((-18446744073709551616 < i ∧ i < 18446744073709551616) ∨ (-18446744073709551616 < j ∧ j < 18446744073709551616)) ∧ k (.int (i * j)) h := Iff.rfl
@[simp] theorem s_mul_l {p : Addr} {n : Int} : rMul (.ref p) (.int n) h k ↔ ∃ l, h p = some (.lst l) ∧ -(2 ^ 63) ≤ n ∧ n < 2 ^ 63 ∧ l.length * n.toNat ≤ 16777216 ∧ ∀ p, h p = none → k (.ref p) (up h p (.lst (List.replicate n.toNat l).flatten)) := Iff.rfl
@[simp] theorem s_mul_s {z : Str} {n : Int} : rMul (.str z) (.int n) h k ↔ PySem.MulOk z n ∧ k (.str (PySem.Txt.mul z n)) h := Iff.rfl
@[simp] theorem s_neg {i : Int} : rNeg (.int i) h k ↔ k (.int (-i)) h := Iff.rfl
@[simp] theorem s_cmpI {i j : Int} {f : Int → Int → Bool} : rCmpI f (.int i) (.int j) h k ↔ k (.bl (f i j)) h := Iff.rfl
@[simp] theorem s_lt_ii {i j : Int} : rLt (.int i) (.int j) h k ↔ k (.bl (decide (i < j))) h := Iff.rfl
@[simp] theorem s_lt_ss {i j : Str} : rLt (.str i) (.str j) h k ↔ k (.bl (decide (i.cps.toList < j.cps.toList))) h := Iff.rfl
@[simp] theorem s_eq_ii {i j : Int} {n : Bool} : rEqN n (.int i) (.int j) h k ↔ k (.bl (decide (i = j) != n)) h := Iff.rfl
@[simp] theorem s_eq_ss {i j : Str} {n : Bool} : rEqN n (.str i) (.str j) h k ↔ k (.bl (decide (i = j) != n)) h := Iff.rfl
@[simp] theorem s_isN {n : Bool} : rIsN n d h k ↔ k (.bl (d.isN != n)) h := Iff.rfl
@[simp] theorem isN_non : D.isN .non = true := rfl
@[simp] theorem isN_bl {x : Bool} : D.isN (.bl x) = false := rfl
@[simp] theorem isN_int {x : Int} : D.isN (.int x) = false := rfl
@[simp] theorem isN_str {x : Str} : D.isN (.str x) = false := rfl
@[simp] theorem isN_tup {x : List D} : D.isN (.tup x) = false := rfl
@[simp] theorem isN_ref {x : Addr} : D.isN (.ref x) = false := rfl
@[simp] theorem s_ix_t {m : List D} {i : Int} : rIx (.tup m) (.int i) h k ↔ ∃ d, atI m i = some d ∧ k d h := Iff.rfl
@[simp] theorem s_ix_l {p : Addr} {i : Int} : rIx (.ref p) (.int i) h k ↔ ∃ l d, h p = some (.lst l) ∧ atI l i = some d ∧ k d h := Iff.rfl
@[simp] theorem s_ix_s {z : Str} {i : Int} : rIx (.str z) (.int i) h k ↔ z.length ≤ 16777216 ∧ ∃ c, atI z.cps.toList i = some c ∧ k (.str ⟨#[c]⟩) h := Iff.rfl
@[simp] theorem s_len_s {z : Str} : rLen [.str z] h k ↔ z.length ≤ 16777216 ∧ k (.int z.length) h := by
  constructor
  · rintro ⟨x, e, q⟩; cases e; exact q
  · intro q; exact ⟨_, rfl, q⟩
@[simp] theorem s_len_t {m : List D} : rLen [.tup m] h k ↔ k (.int m.length) h := by
  constructor
  · rintro ⟨x, e, q⟩; cases e; exact q
  · intro q; exact ⟨_, rfl, q⟩
@[simp] theorem s_len_l {p : Addr} : rLen [.ref p] h k ↔ ∃ l, h p = some (.lst l) ∧ k (.int l.length) h := by
  constructor
  · rintro ⟨x, e, q⟩; cases e; exact q
  · intro q; exact ⟨_, rfl, q⟩
theorem dg_dK {p : Addr} {kvs : List (Key × D)} {y : D} {o : Option D} (e : h p = some (.dK kvs)) : DG h p y o ↔ ∃ k, keyOf y = some k ∧ o = valD kvs k := by
  constructor
  · rintro (⟨kv, k, e', ek, q⟩ | ⟨kv, k, e', _⟩)
    · rw [e] at e'; cases e'; exact ⟨k, ek, q⟩
    · rw [e] at e'; cases e'
  · rintro ⟨k, ek, q⟩; exact .inl ⟨kvs, k, e, ek, q⟩
@[simp] theorem s_I1 {f : Int → Int} {i : Int} : rI1 f [.int i] h k ↔ k (.int (f i)) h := by
  constructor
  · rintro ⟨x, e, q⟩; cases e; exact q
  · intro q; exact ⟨i, rfl, q⟩
@[simp] theorem s_I2 {f : Int → Int → Int} {i j : Int} : rI2 f [.int i, .int j] h k ↔ k (.int (f i j)) h := by
  constructor
  · rintro ⟨x, y, e, q⟩; cases e; exact q
  · intro q; exact ⟨i, j, rfl, q⟩
@[simp] theorem s_toInt_i {i : Int} : rToInt [.int i] h k ↔ k (.int i) h := by
  constructor
  · rintro ⟨x, e, q⟩; cases e; exact q
  · intro q; exact ⟨_, rfl, q⟩
@[simp] theorem s_toInt_b {i : Bool} : rToInt [.bl i] h k ↔ k (.int (if i then 1 else 0)) h := by
  constructor
  · rintro ⟨x, e, q⟩; cases e; exact q
  · intro q; exact ⟨_, rfl, q⟩
@[simp] theorem s_tupOf_t {m : List D} : rTupleOf [.tup m] h k ↔ k (.tup m) h := by
  constructor
  · rintro ⟨x, e, q⟩; cases e; exact q
  · intro q; exact ⟨_, rfl, q⟩
@[simp] theorem s_tupOf_l {p : Addr} : rTupleOf [.ref p] h k ↔ ∃ l, h p = some (.lst l) ∧ k (.tup l) h := by
  constructor
  · rintro ⟨x, e, q⟩; cases e; exact q
  · intro q; exact ⟨_, rfl, q⟩
@[simp] theorem s_lstOf_t {m : List D} : rListOf [.tup m] h k ↔ ∀ p, h p = none → k (.ref p) (up h p (.lst m)) := by
  constructor
  · rintro ⟨x, e, q⟩; cases e; exact q
  · intro q; exact ⟨_, rfl, q⟩
@[simp] theorem s_lstOf_l {p : Addr} : rListOf [.ref p] h k ↔ ∃ l, h p = some (.lst l) ∧ ∀ p, h p = none → k (.ref p) (up h p (.lst l)) := by
  constructor
  · rintro ⟨x, e, q⟩; cases e; exact q
  · intro q; exact ⟨_, rfl, q⟩
@[simp] theorem s_dget {p : Addr} {y : D} : rDGet (.ref p) y h k ↔ ∃ v, DG h p y (some v) ∧ k v h := by
  constructor
  · rintro ⟨a, v, e, q⟩; cases e; exact ⟨v, q⟩
  · rintro ⟨v, q⟩; exact ⟨p, v, rfl, q⟩
@[simp] theorem s_fld {C : Addr} {N : List Str} {j : Nat} : wFld C N j a ρ h k ↔ a ρ h fun x h1 => ∃ p vs d, x = .ref p ∧ h1 p = some (.ins C N vs) ∧ vs[j]? = some d ∧ k d h1 := Iff.rfl
@[simp] theorem s_sl {lo hi : WO} : wSl a lo hi ρ h k ↔ a ρ h fun d h1 => lo ρ h1 fun x h2 => hi ρ h2 fun y h3 => rSl d x y h3 k := Iff.rfl
@[simp] theorem s_oNone {ko : Option Int → H3 → Prop} : oNone ρ h ko ↔ ko none h := Iff.rfl
@[simp] theorem s_oSome {ko : Option Int → H3 → Prop} : oSome a ρ h ko ↔ a ρ h fun d h1 => ∃ i, d = .int i ∧ ko (some i) h1 := Iff.rfl
@[simp] theorem s_sl_t {m : List D} {lo hi : Option Int} : rSl (.tup m) lo hi h k ↔ k (.tup (cutD m lo hi)) h := Iff.rfl
@[simp] theorem s_sl_l {p : Addr} {lo hi : Option Int} : rSl (.ref p) lo hi h k ↔ ∃ l, h p = some (.lst l) ∧ ∀ p, h p = none → k (.ref p) (up h p (.lst (cutD l lo hi))) := Iff.rfl
end
@[simp] theorem atI_lit {α : Type} {l : List α} {n : Nat} : atI l (no_index (OfNat.ofNat n : Int)) = l[n]? := by
  have e : (OfNat.ofNat n : Int) = (n : Int) := rfl
  rw [e]
  cases q : l[n]? with
  | some v => exact atI_nat q
  | none =>
    unfold atI ixN
    have hn : l.length ≤ n := List.getElem?_eq_none_iff.mp q
    rw [if_pos (by omega), if_neg (by omega)]; rfl
@[simp] theorem ixN_lit {m n : Nat} : ixN m (no_index (OfNat.ofNat n : Int)) = if n < m then some n else none := by
  have e : (OfNat.ofNat n : Int) = (n : Int) := rfl
  rw [e]
  unfold ixN
  rw [if_pos (by omega)]
  by_cases h : n < m
  · rw [if_pos (by omega), if_pos h]; rfl
  · rw [if_neg (by omega), if_neg h]
@[simp] theorem ev0_nil {N : List Str} : ev0 N [] = List.replicate N.length none := by simp [ev0]
theorem ofString_inj {a b : String} (h : Str.ofString a = Str.ofString b) : a = b := by
  have e1 := PyProof.Rows.signs_ofString a
  have e2 := PyProof.Rows.signs_ofString b
  rw [h] at e1
  have e : a.toList.map Char.toNat = b.toList.map Char.toNat := e1.symm.trans e2
  have inj : ∀ {l m : List Char}, l.map Char.toNat = m.map Char.toNat → l = m := by
    intro l
    induction l with
    | nil => intro m h; cases m with | nil => rfl | cons _ _ => simp at h
    | cons x l ih =>
      intro m h
      cases m with
      | nil => simp at h
      | cons y m =>
        simp only [List.map_cons, List.cons.injEq] at h
        have hx : x = y := Char.ext (UInt32.toNat_inj.mp h.1)
        rw [hx, ih h.2]
  exact String.ext_iff.mpr (inj e)
@[simp] theorem ofString_iff {a b : String} : Str.ofString a = Str.ofString b ↔ a = b := ⟨ofString_inj, fun e => by rw [e]⟩
/-! plain data -/
mutual
def D.py : D → PyData
  | .non => .none
  | .bl b => .bool b
  | .int i => .int i
  | .str x => .str x
  | .tup l => .tuple (D.pyL l)
  | .ref _ => .none
def D.pyL : List D → List PyData
  | [] => []
  | d :: l => d.py :: D.pyL l
end
mutual
/-- no list, no dict; its texts are texts -/
def D.ok : D → Bool
  | .str x => PyData.strOk x
  | .tup l => D.okL l
  | .ref _ => false
  | _ => true
def D.okL : List D → Bool
  | [] => true
  | d :: l => d.ok && D.okL l
end
mutual
theorem rs_py {h : H3} : ∀ {d : D}, d.ok = true → Rs h d d.py
  | .non, _ => .non
  | .bl b, _ => .bl b
  | .int i, _ => .int i
  | .str x, z => .str x z
  | .tup l, z => .tup (rsl_py (by simpa [D.ok] using z))
  | .ref _, z => by simp [D.ok] at z
theorem rsl_py {h : H3} : ∀ {l : List D}, D.okL l = true → RsL h l (D.pyL l)
  | [], _ => .nil
  | d :: l, z => by
    simp only [D.okL, Bool.and_eq_true] at z
    exact .cons (rs_py z.1) (rsl_py z.2)
end
theorem okL_iff : ∀ {l : List D}, D.okL l = true ↔ ∀ d ∈ l, d.ok = true
  | [] => by simp [D.okL]
  | d :: l => by simp [D.okL, okL_iff (l := l)]
theorem rEq_of {x y : D} {h : H3} {k : K1} {p q : PyData} {n : Bool} (hx : Rs h x p) (hy : Rs h y q) (hm : min p.depth q.depth ≤ 64) (qq : k (.bl (PyData.eqv p q != n)) h) : rEqN n x y h k := by
  unfold rEqN
  split
  · cases hx; cases hy
    simpa [PyData.eqv, Bool.beq_eq_decide_eq] using qq
  · cases hx; cases hy
    simpa [PyData.eqv, Bool.beq_eq_decide_eq] using qq
  · exact ⟨p, q, hx, hy, hm, qq⟩
theorem rEq_py {x y : D} {h : H3} {k : K1} {n : Bool} (hx : x.ok = true) (hy : y.ok = true) (hm : min x.py.depth y.py.depth ≤ 64) (qq : k (.bl (PyData.eqv x.py y.py != n)) h) : rEqN n x y h k := rEq_of (rs_py hx) (rs_py hy) hm qq
theorem rEq_nil {l : List D} {h : H3} {k : K1} {n : Bool} (hl : D.okL l = true) (qq : k (.bl (l.isEmpty != n)) h) : rEqN n (.tup l) (.tup []) h k := by
  refine rEq_of (.tup (rsl_py hl)) (.tup .nil) (Nat.le_trans (Nat.min_le_right _ _) (by decide)) ?_
  cases l with
  | nil => simpa [D.pyL, PyData.eqv, PyData.eqvAll] using qq
  | cons d l => simpa [D.pyL, PyData.eqv, PyData.eqvAll] using qq
theorem rEq_nilL {a b : Addr} {l : List D} {h : H3} {k : K1} {n : Bool} (ha : h a = some (.lst l)) (hb : h b = some (.lst [])) (hl : D.okL l = true) (qq : k (.bl (l.isEmpty != n)) h) : rEqN n (.ref a) (.ref b) h k := by
  refine rEq_of (.lst ha (rsl_py hl)) (.lst hb .nil) (Nat.le_trans (Nat.min_le_right _ _) (by decide)) ?_
  cases l <;> exact qq
end T3
end
-- T3Sort
section
set_option maxRecDepth 100000
set_option maxHeartbeats 4000000
/-! T3Sort: sorted. -/
namespace T3
open PySem PySem.Spec PySem.Calls PyProof.Rows PySem.W L2
/-- two rows of data that < can compare: alike up to the first place where they differ -/
def tOk : List PyData → List PyData → Prop
  | x :: xs, y :: ys => alike x y = true ∧ x ≠ .none ∧ (PyData.eqv x y = true → tOk xs ys)
  | _, _ => True
section
variable {prog : Program} {w : World} {A : Around} {s : Shared}
theorem depthAll_cons {x : PyData} {xs : List PyData} : x.depth ≤ PyData.depthAll (x :: xs) ∧ PyData.depthAll xs ≤ PyData.depthAll (x :: xs) := by
  simp only [PyData.depthAll]; omega
theorem katLex_tok {b fin : Bool} {Q : Bool → Shared → Prop} (hu : A.units + 64 < cLine) : ∀ (xs ys : List PyData) (i : Nat) (vs ws : List Value) (as bs : List Addr), ReadsAll s.heap vs xs as → ReadsAll s.heap ws ys bs → tOk xs ys →
    PyData.depthAll xs ≤ 64 → (b = true → i = 0 → ∀ x r t, xs = x :: r → x ≠ .tuple t) → fin = decide (xs.length < ys.length) → Q (PyProof.Rows.lexLt itemOrd (keyToksAll xs) (keyToksAll ys)) s → KatLex prog w A b fin Q (vs.zip ws) i s
  | [], [], i, _, _, _, _, ra, rb, _, _, _, hf, hq => by
    cases ra
    cases rb
    have e : fin = false := by rw [hf]; rfl
    subst e
    rw [lex_irrefl] at hq
    exact kat_nil hq
  | [], y :: ys, i, _, _, _, _, ra, rb, _, _, _, hf, hq => by
    cases ra
    have e : fin = true := by rw [hf]; exact decide_eq_true (Nat.succ_pos _)
    subst e
    rw [toks_all_cons] at hq
    simp only [keyToksAll] at hq
    rw [lex_diff (O := itemOrd) (by simp)] at hq
    rw [List.zip_nil_left]
    exact kat_nil (by simpa [itemLt] using hq)
  | x :: xs, [], i, _, _, _, _, ra, rb, _, _, _, hf, hq => by
    cases rb
    have e : fin = false := by rw [hf]; exact decide_eq_false (Nat.not_lt_zero _)
    subst e
    rw [toks_all_cons] at hq
    simp only [keyToksAll] at hq
    rw [lex_diff (O := itemOrd) (by simp)] at hq
    rw [List.zip_nil_right]
    exact kat_nil (by simpa [itemLt] using hq)
  | x :: xs, y :: ys, i, _, _, _, _, ra, rb, h, hd, hb, hf, hq => by
    obtain ⟨h1, hn, h2⟩ := h
    have hf' : fin = decide (xs.length < ys.length) := by
      rw [hf]
      simp only [List.length_cons, Nat.add_lt_add_iff_right]
    have hdx := depthAll_cons (x := x) (xs := xs)
    have hroom : A.units + min x.depth y.depth < cLine := by have := Nat.min_le_left x.depth y.depth; omega
    cases ra with
    | cons r rs =>
      cases rb with
      | cons r' rs' =>
        rw [List.zip_cons_cons]
        refine kat_cons (eqAt_alike x y A s _ _ _ _ r r' h1 hroom prog w _ _ ?_)
        cases hx : PyData.eqv x y with
        | true =>
          rw [dataLt_all_yes h1 hx] at hq
          exact kat_yes (katLex_tok hu xs ys (i + 1) _ _ _ _ rs rs' (h2 hx) (by omega) (fun _ hi => absurd hi (Nat.succ_ne_zero i)) hf' hq)
        | false =>
          rw [dataLt_all_no h1 hx] at hq
          refine kat_no (oneLt_alike (fun hbi t => ?_) r r' h1 hn hroom hq)
          rw [Bool.and_eq_true] at hbi
          exact hb hbi.1 (by simpa using hbi.2) x xs t rfl
/-- rows that sorted takes: tuples whose first items are of one type, or no tuples at all -/
def Srtb (ps : List PyData) : Prop :=
  (∃ T : Value, (T == T) = true ∧ (∀ p ∈ ps, ∃ x r, p = .tuple (x :: r) ∧ dataType x = T) ∧ ∀ xs ys, .tuple xs ∈ ps → .tuple ys ∈ ps → tOk xs ys) ∨
  (AllAlike ps ∧ ∀ p ∈ ps, p ≠ .none ∧ ∀ xs, p ≠ .tuple xs)
theorem swo_data {α : Type} (f : α → PyData) : SrtO.Swo fun x y => dataLt (f x) (f y) := by
  refine ⟨fun x y h => ?_, fun x y z h1 h2 => ?_⟩
  · cases e : dataLt (f y) (f x) with
    | false => rfl
    | true =>
      have := lex_trans (O := itemOrd) _ _ _ h e
      rw [lex_irrefl] at this; cases this
  · cases e : dataLt (f z) (f x) with
    | false => rfl
    | true =>
      rcases lex_negTrans (O := itemOrd) (keyToks (f z)) (keyToks (f y)) (keyToks (f x)) e with q | q
      · exact absurd (q.symm.trans h2) (by decide)
      · exact absurd (q.symm.trans h1) (by decide)
theorem sortable_data {h0 : Heap} {a : Addr} {vs : List Value} {f : Value → PyData} (h2 : 2 ≤ vs.length) (keep : ∀ b o, h0.get? b = some o → b ≠ a ∧ s.heap.get? b = some o)
    (hr : ∀ v ∈ vs, ∃ as, Reads h0 v (f v) as) (hd : ∀ v ∈ vs, (f v).depth ≤ 64) (hs : Srtb (vs.map f)) (hu : A.units + 64 < cLine) : SrtO.SortableO prog w A s a vs fun v u => dataLt (f v) (f u) := by
  intro h' kp
  have hr' : ∀ v ∈ vs, ∃ as, Reads h' v (f v) as := fun v hv => by
    obtain ⟨as, r⟩ := hr v hv
    exact ⟨as, PyProof.Rows.Reads.keeps (fun b o e => kp b o (keep b o e).1 (keep b o e).2) r⟩
  rcases hs with ⟨T, hT, ht, hok⟩ | ⟨hal, hn⟩
  · refine ⟨tuples' (T != Value.type "tuple"), fun Q E hq => ?_, ?_⟩
    · have e : EachIs (fun v d => ∃ as, Reads h' v d as) vs (vs.map f) := by
        clear hok ht hd hr h2
        induction vs with
        | nil => exact .nil
        | cons v vs ih => exact .cons (hr' v List.mem_cons_self) (ih fun u hu => hr' u (List.mem_cons_of_mem _ hu))
      obtain ⟨fs, t1, t2, t3⟩ := each_katTups e fun d hd => by
        obtain ⟨x, r, e, _⟩ := ht d hd
        exact ⟨x, r, e⟩
      refine kat_kind (T := T) t1 (by omega) (fun g hg => ?_) hT hq
      obtain ⟨x, r, as, m1, m2⟩ := t3 g hg
      obtain ⟨x', r', e', eT⟩ := ht _ m1
      cases e'
      rw [← eT]
      exact looks_reads m2
    · intro p q hp hq
      have hp' : f p.1 ∈ vs.map f := List.mem_map_of_mem hp
      have hq' : f q.1 ∈ vs.map f := List.mem_map_of_mem hq
      obtain ⟨as, ra⟩ := hr' _ hp
      obtain ⟨bs, rb⟩ := hr' _ hq
      have hdp := hd _ hp
      show wpAny (model prog w) A (keyLt' _ p.1 q.1) (fun r s' => s' = _ ∧ r = dataLt (f p.1) (f q.1)) _ _
      generalize f p.1 = dp at *
      generalize f q.1 = dq at *
      obtain ⟨x1, r1, rfl, e1⟩ := ht _ hp'
      obtain ⟨x2, r2, rfl, e2⟩ := ht _ hq'
      rw [dataLt_tuple]
      generalize p.1 = u at *
      generalize q.1 = v at *
      cases ra with
      | @tuple l o xs n _ _ k1 k2 k3 k4 =>
        cases rb with
        | @tuple l' o' xs' n' _ _ j1 j2 j3 j4 =>
          have n1 : xs.size = (x1 :: r1).length := by simpa using SeqAt.ReadsAll.length _ _ _ k4
          have n2 : xs'.size = (x2 :: r2).length := by simpa using SeqAt.ReadsAll.length _ _ _ j4
          refine kat_lt k1 k3 j1 j3 (katLex_tok hu (x1 :: r1) (x2 :: r2) 0 _ _ _ _ k4 j4 (hok _ _ hp' hq') ?_ (fun hb _ x r t ex => ?_) (by rw [n1, n2]) ⟨rfl, rfl⟩)
          · have : (PyData.tuple (x1 :: r1)).depth = PyData.depthAll (x1 :: r1) + 1 := by simp [PyData.depth]
            omega
          · obtain ⟨rfl, rfl⟩ := List.cons.inj ex
            rw [← e1] at hb
            exact dataType_tuple hb t
  · obtain ⟨v0, vr, rfl⟩ : ∃ v0 vr, vs = v0 :: vr := by
      cases vs with
      | nil => simp at h2
      | cons v0 vr => exact ⟨_, _, rfl⟩
    have m0 : f v0 ∈ (v0 :: vr).map f := List.mem_map_of_mem List.mem_cons_self
    refine ⟨oneType', fun Q E hq => ?_, ?_⟩
    · refine kas_kind (T := dataType (f v0)) h2 (fun v hv => ?_) (dataType_other (hn _ m0).2) (beq_self_eq_true _) hq
      obtain ⟨as, r⟩ := hr' v hv
      rw [← dataType_alike (hal _ (List.mem_map_of_mem hv) _ m0)]
      exact looks_reads r
    · intro p q hp hq
      obtain ⟨as, ra⟩ := hr' _ hp
      obtain ⟨bs, rb⟩ := hr' _ hq
      have hdp := hd _ hp
      show wpAny (model prog w) A (keyLt' _ p.1 q.1) (fun r s' => s' = _ ∧ r = dataLt (f p.1) (f q.1)) _ _
      rw [keyLt'_oneType]
      exact oneLt_alike (fun _ => (hn _ (List.mem_map_of_mem hp)).2) ra rb (hal _ (List.mem_map_of_mem hp) _ (List.mem_map_of_mem hq)) (hn _ (List.mem_map_of_mem hp)).1 (by have := Nat.min_le_left (f p.1).depth (f q.1).depth; omega) ⟨rfl, rfl⟩
end
/-- a value back to a V -/
def bk3 : Value → V
  | .ref a => .ref a
  | .int i _ => .int i
  | .str x _ => .str x
  | .bool b => .bl b
  | .bytes b _ => .byt b
  | .float b _ => .flt b
  | .type n => .ty n
  | _ => .non
theorem bk3_of {x : V} {u : Value} (r : RelV x u) : bk3 u = x := by
  cases x with
  | non => cases (show u = Value.none from r); rfl
  | bl b => cases (show u = Value.bool b from r); rfl
  | int i => obtain ⟨t, rfl⟩ := (show ∃ t, u = Value.int i t from r); rfl
  | str i => obtain ⟨t, rfl⟩ := (show ∃ t, u = Value.str i t from r); rfl
  | byt i => obtain ⟨t, rfl⟩ := (show ∃ t, u = Value.bytes i t from r); rfl
  | flt i => obtain ⟨t, rfl⟩ := (show ∃ t, u = Value.float i t from r); rfl
  | ref a => cases (show u = Value.ref a from r); rfl
  | ty n => cases (show u = Value.type n from r); rfl
theorem bk3_all : ∀ {xs : List V} {us : List Value}, Vals xs us → us.map bk3 = xs ∧ ∀ u ∈ us, RelV (bk3 u) u
  | _, _, .nil => ⟨rfl, fun u h => nomatch h⟩
  | _, _, .cons r t => by
    obtain ⟨h1, h2⟩ := bk3_all t
    refine ⟨by rw [List.map_cons, h1, bk3_of r], fun u hu => ?_⟩
    rcases List.mem_cons.mp hu with rfl | hu
    · rw [bk3_of r]; exact r
    · exact h2 u hu
theorem bk3_vals : ∀ {us : List Value}, (∀ u ∈ us, RelV (bk3 u) u) → Vals (us.map bk3) us
  | [], _ => .nil
  | u :: us, h => .cons (h u List.mem_cons_self) (bk3_vals fun v hv => h v (List.mem_cons_of_mem _ hv))
def rSortedV (K : PySem.W.Frag) : List V → Hp → VK → Prop := fun vs H Q => ∃ (a : Addr) (xs : List V) (f : V → PyData), vs = [V.ref a] ∧ SqL K H a xs ∧ (∀ x ∈ xs, Dp K H x (f x) ∧ (f x).depth ≤ 64) ∧ Srtb (xs.map f) ∧
  ∀ ys p, SrtO.Srtd (fun x y => dataLt (f x) (f y)) ys → ys.Perm xs → H p = none → Q (.ref p) (upd H p (.lst ys))
section
variable {X : Cx}
theorem cr_sortedV (hu : X.A.units + 70 < cLine) : CallR X (.builtin "sorted") (rSortedV X.K) := by
  intro pins s σ H vs us Q I r h
  obtain ⟨a, xs, f, rfl, hs, hx, hsb, q⟩ := h
  obtain ⟨its, rv, hl, hz⟩ := I.list hs
  obtain ⟨u, rfl, ru⟩ := vals1 r
  obtain rfl : u = Value.ref a := ru
  obtain ⟨e1, e2⟩ := bk3_all rv
  have hm : ∀ v ∈ its, bk3 v ∈ xs := fun v hv => by rw [← e1]; exact List.mem_map_of_mem hv
  refine SrtO.sorted_ord (ltv := fun v u => dataLt (f (bk3 v)) (f (bk3 u))) (swo_data _) hl.isList (by rw [← rv.length]; exact hz) (fun h2 h₁ a' ha' kp => ?_) fun out h1 h2 => ?_
  · refine sortable_data (h0 := s.heap) (f := fun v => f (bk3 v)) h2 kp (fun v hv => ?_) (fun v hv => (hx _ (hm v hv)).2) ?_ (by show X.A.units + 1 + 1 + 64 < cLine; omega)
    · exact Dp.reads I _ _ _ (hx _ (hm v hv)).1 (e2 v hv)
    · rw [show its.map (fun v => f (bk3 v)) = xs.map f by rw [← e1, List.map_map]; rfl]
      exact hsb
  · obtain ⟨c, hc⟩ := sortedAll_at s.heap its out.toArray
    have hd : s.heap.objs.size ≤ s.heap.objs.size + 1 := Nat.le_succ _
    have h3 : ∀ u ∈ out, RelV (bk3 u) u := fun u hu => e2 u (h2.perm.mem_iff.mp hu)
    have hb : (out.map bk3).Perm xs := by rw [← e1]; exact h2.perm.map _
    refine ⟨.ref (s.heap.objs.size + 1), upd H (s.heap.objs.size + 1) (.lst (out.map bk3)), I.laid (t' := s.toks) (fun _ _ => sortedAll_old) hd ⟨?_, out, c, bk3_vals h3, hc⟩, rfl, q _ _ (SrtO.srtd_map h1) hb (I.hok.fresh hd)⟩
    rw [hb.length_eq]
    exact hz
end
mutual
theorem DV.det {H : Hp} : ∀ {d e : D} {v : V}, d.ok = true → e.ok = true → DV H d v → DV H e v → d = e
  | .non, e, _, _, he, h1, h2 => by cases h1; cases h2; rfl
  | .bl b, e, _, _, he, h1, h2 => by cases h1; cases h2; rfl
  | .int b, e, _, _, he, h1, h2 => by cases h1; cases h2; rfl
  | .str b, e, _, _, he, h1, h2 => by cases h1; cases h2; rfl
  | .ref a, e, _, hd, he, h1, h2 => by simp [D.ok] at hd
  | .tup l, e, _, hd, he, h1, h2 => by
    cases h1 with
    | tup a1 r1 =>
      cases h2 with
      | ref => simp [D.ok] at he
      | tup a2 r2 =>
        rw [a1] at a2; cases a2
        rw [DVs.det (by simpa [D.ok] using hd) (by simpa [D.ok] using he) r1 r2]
theorem DVs.det {H : Hp} : ∀ {d e : List D} {v : List V}, D.okL d = true → D.okL e = true → DVs H d v → DVs H e v → d = e
  | [], _, _, _, _, h1, h2 => by cases h1; cases h2; rfl
  | d :: l, _, _, hd, he, h1, h2 => by
    cases h1 with
    | cons a1 r1 =>
      cases h2 with
      | cons a2 r2 =>
        simp only [D.okL, Bool.and_eq_true] at hd he
        rw [DV.det hd.1 he.1 a1 a2, DVs.det hd.2 he.2 r1 r2]
end
def ltD (x y : D) : Bool := dataLt x.py y.py
def rSorted : List D → H3 → K1 → Prop := fun as h k => ∃ a l, as = [.ref a] ∧ h a = some (.lst l) ∧ (∀ d ∈ l, d.ok = true ∧ d.py.depth ≤ 64) ∧ Srtb (l.map D.py) ∧
  ∀ ys p, ys.Perm l → ys.Pairwise (fun x y => ltD y x = false) → h p = none → k (.ref p) (up h p (.lst ys))
section
variable {X : Cx} {G : Sc}
open Classical in
noncomputable def unD (H : Hp) (v : V) : D := if q : ∃ d : D, d.ok = true ∧ DV H d v then q.choose else .non
theorem unD_of {H : Hp} {d : D} {v : V} (h : d.ok = true) (r : DV H d v) : unD H v = d := by
  have q : ∃ d : D, d.ok = true ∧ DV H d v := ⟨d, h, r⟩
  unfold unD
  rw [dif_pos q]
  exact DV.det q.choose_spec.1 h q.choose_spec.2 r
theorem unD_all {H : Hp} : ∀ {l : List D} {vs : List V}, (∀ d ∈ l, d.ok = true) → DVs H l vs → vs.map (unD H) = l ∧ ∀ v ∈ vs, DV H (unD H v) v ∧ unD H v ∈ l
  | _, _, _, .nil => ⟨rfl, fun v h => nomatch h⟩
  | d :: l, v :: vs, h, .cons r t => by
    obtain ⟨h1, h2⟩ := unD_all (fun e he => h e (List.mem_cons_of_mem _ he)) t
    have e := unD_of (h d List.mem_cons_self) r
    refine ⟨by rw [List.map_cons, h1, e], fun u hu => ?_⟩
    rcases List.mem_cons.mp hu with rfl | hu
    · rw [e]; exact ⟨r, List.mem_cons_self⟩
    · exact ⟨(h2 u hu).1, List.mem_cons_of_mem _ (h2 u hu).2⟩
theorem unD_back {H : Hp} : ∀ {vs : List V}, (∀ v ∈ vs, DV H (unD H v) v) → DVs H (vs.map (unD H)) vs
  | [], _ => .nil
  | v :: vs, h => .cons (h v List.mem_cons_self) (unD_back fun u hu => h u (List.mem_cons_of_mem _ hu))
theorem rf_sorted (hu : X.A.units + 70 < cLine) : RfL G (UC X (.builtin "sorted")) rSorted := by
  intro l vs h H k Q rel dv ⟨a, m, el, ha, hok, hs, q⟩ post
  subst el
  cases dv with
  | cons d1 t1 =>
    cases t1
    cases d1
    obtain ⟨ws, e1, r1⟩ := rel.lst ha
    obtain ⟨u1, u2⟩ := unD_all (fun d hd => (hok d hd).1) r1
    refine ⟨_, cr_sortedV hu, a, ws, fun v => (unD H v).py, rfl, .of e1, fun x hx => ?_, ?_, fun ys p hsrt hp np => ?_⟩
    · obtain ⟨z1, z2⟩ := u2 x hx
      exact ⟨(rs_py (hok _ z2).1).dp rel z1, (hok _ z2).2⟩
    · rw [show ws.map (fun v => (unD H v).py) = m.map D.py by rw [← u1, List.map_map]; rfl]
      exact hs
    · have dvs : DVs H (ys.map (unD H)) ys := unD_back fun v hv => (u2 v (hp.mem_iff.mp hv)).1
      refine post_lst post rel dvs (fun p np => q _ p ?_ ?_ np) np
      · rw [← u1]; exact hp.map _
      · exact List.pairwise_map.mpr hsrt
end
theorem room70 {k : Nat} {A : Around} (r : Room k A) : A.units + 70 < cLine := by have := r.un; omega
end T3
end
-- T3Mix
section
set_option maxRecDepth 100000
set_option maxHeartbeats 4000000
/-! T3Mix: sorted(set(xs)), xs a list of tuples of ints and texts. -/
namespace T3
open PySem PySem.Spec PySem.Calls PyProof.Rows PySem.W L2
section
variable {P : Program} {w : World} {A : Around} {E : Value → Shared → Prop} {s : Shared}
abbrev mixT (P : Program) (w : World) : HeapKind P w (List Key) := tupleKind (mixKind P w)
theorem mix_items {k : List Key} {vs : List Value} (h : ItemsAre (mixKind P w) k vs) : ∀ v ∈ vs, (∃ i t, v = Value.int i t) ∨ ∃ x t, v = Value.str x t := by
  induction h with
  | nil => exact fun v hv => (nomatch hv)
  | @cons k0 v0 ks vs h1 _ ih =>
    intro v hv
    rcases List.mem_cons.mp hv with e | hv
    · subst e
      rcases keyIs_shape h1 with ⟨i, t, _, e⟩ | ⟨x, t, _, e⟩
      · exact .inl ⟨i, t, e⟩
      · exact .inr ⟨x, t, e⟩
    · exact ih v hv
theorem cls_int (n : Nat) (i : Int) (t : Tok) : ofAClassStatement n (.int i t) = pure false := by cases n <;> rfl
theorem cls_str (n : Nat) (x : Str) (t : Tok) : ofAClassStatement n (.str x t) = pure false := by cases n <;> rfl
theorem byv_int (n : Nat) (i : Int) (t : Tok) : hashByValue n (.int i t) = pure true := by cases n <;> rfl
theorem byv_str (n : Nat) (x : Str) (t : Tok) : hashByValue n (.str x t) = pure false := by cases n <;> rfl
theorem mix_noCls {k : List Key} {b : Addr} {Q : Bool → Shared → Prop} (hk : (mixT P w).is s.heap k b) (q : Q false s) : wpAny (model P w) A (ofAClassStatement 8 (.ref b)) Q E s := by
  have hT := IsTupleKey.typeIs hk
  obtain ⟨o, items, n, ho, _, hd, hi⟩ := hk
  unfold ofAClassStatement
  refine wpAny_bind (wpAny_typeOf hT ?_)
  have e : (("tuple" : String) == "tuple") = true := by decide
  simp only [e, if_true]
  try refine wpAny_bind (wpAny_pure ?_)
  simp only [Bool.not_true, Bool.false_eq_true, if_false]
  show wpAny _ _ (seqItems? (.ref b) >>= _) _ _ s
  refine wpAny_bind (wpAny_seqItems ho hd (wpAny_bind ?_))
  show wpAny _ _ (forIn items _ _) _ _ s
  rw [← Array.forIn_toList]
  refine wpAny_forIn_list _ (fun left st s' => st.1 = none ∧ s' = s ∧ ∀ v ∈ left, (∃ i t, v = Value.int i t) ∨ ∃ x t, v = Value.str x t) _ ?_ ?_ _ _ ⟨rfl, rfl, mix_items hi⟩
  · rintro v left st s' ⟨_, e2, all⟩
    have go : wpAny (model P w) A (ofAClassStatement 7 v) (fun r s2 => r = false ∧ s2 = s') E s' := by
      rcases all v List.mem_cons_self with ⟨i, t, ev⟩ | ⟨x, t, ev⟩ <;> subst ev
      · rw [cls_int]; exact wpAny_pure ⟨rfl, rfl⟩
      · rw [cls_str]; exact wpAny_pure ⟨rfl, rfl⟩
    refine wpAny_bind (wpAny_mono go (fun r s2 ⟨e3, e4⟩ => ?_) fun _ _ h => h)
    subst e3; subst e4
    simp only [Bool.false_eq_true, if_false]
    exact wpAny_pure ⟨rfl, e2, fun u hu => all u (List.mem_cons_of_mem _ hu)⟩
  · rintro ⟨r1, r2⟩ s' ⟨e1, e2, _⟩
    simp only at e1
    subst e1; subst e2
    exact wpAny_pure q
theorem mix_byVal {k : List Key} {b : Addr} {Q : Bool → Shared → Prop} (hk : (mixT P w).is s.heap k b) (q : ∀ c, Q c s) : wpAny (model P w) A (hashByValue 8 (.ref b)) Q E s := by
  have hT := IsTupleKey.typeIs hk
  obtain ⟨o, items, n, ho, _, hd, hi⟩ := hk
  unfold hashByValue
  refine wpAny_bind (wpAny_specialOf hT F.slot_tuple_hash.lookup ?_)
  show wpAny _ _ (seqItems? (.ref b) >>= _) _ _ s
  refine wpAny_bind (wpAny_seqItems ho hd (wpAny_bind ?_))
  show wpAny _ _ (forIn items _ _) _ _ s
  rw [← Array.forIn_toList]
  refine wpAny_forIn_list _ (fun left st s' => st.1 = none ∧ s' = s ∧ ∀ v ∈ left, (∃ i t, v = Value.int i t) ∨ ∃ x t, v = Value.str x t) _ ?_ ?_ _ _ ⟨rfl, rfl, mix_items hi⟩
  · rintro v left st s' ⟨_, e2, all⟩
    rcases all v List.mem_cons_self with ⟨i, t, ev⟩ | ⟨x, t, ev⟩ <;> subst ev
    · rw [byv_int]
      refine wpAny_bind (wpAny_pure ?_)
      simp only [Bool.not_true, Bool.false_eq_true, if_false]
      exact wpAny_pure ⟨rfl, e2, fun u hu => all u (List.mem_cons_of_mem _ hu)⟩
    · rw [byv_str]
      refine wpAny_bind (wpAny_pure ?_)
      simp only [Bool.not_false, if_true]
      refine wpAny_pure ?_
      subst e2
      exact wpAny_pure (q false)
  · rintro ⟨r1, r2⟩ s' ⟨e1, e2, _⟩
    simp only at e1
    subst e1; subst e2
    exact wpAny_pure (q true)
theorem shy_mix : Shy (mixT P w) where
  st := tupleKind_stays
  noCls := mix_noCls
  byVal := mix_byVal
  roomy := fun A h => show A.units < cLine by omega
/-! sorted, of a set -/
theorem Srtb.sub {ps qs : List PyData} (h : Srtb ps) (s : ∀ x ∈ qs, x ∈ ps) : Srtb qs := by
  rcases h with ⟨T, h1, h2, h3⟩ | ⟨h1, h2⟩
  · exact .inl ⟨T, h1, fun p hp => h2 p (s p hp), fun xs ys hx hy => h3 xs ys (s _ hx) (s _ hy)⟩
  · exact .inr ⟨fun p hp q hq => h1 p (s p hp) q (s q hq), fun p hp => h2 p (s p hp)⟩
variable {κ : Type} [DecidableEq κ] {knd : HeapKind P w κ}
theorem sorted_set {a : Addr} {L : List (Addr × κ)} {es : Array (Int × Value)} {ep : Nat} {t : SetTable} {f : Value → PyData} {Q : Value → Shared → Prop} (R : SetK knd s.heap a L es ep t) (hh : A.handled = none) (hu : A.units + 70 < cLine)
    (reads : ∀ p ∈ L, ∃ as, Reads s.heap (.ref p.1) (f (.ref p.1)) as) (deep : ∀ p ∈ L, (f (.ref p.1)).depth ≤ 64) (srt : Srtb (L.map fun p => f (.ref p.1)))
    (q : ∀ s' p (out : List Value) (c : Nat), (∀ b o, s.heap.get? b = some o → s'.heap.get? b = some o) → s'.gens = s.gens → s'.os = s.os → s.heap.objs.size ≤ p → s'.heap.get? p = some (seqObj "list" out.toArray c) →
      out.Perm (L.map fun p => Value.ref p.1) → SrtO.Srtd (fun v u => dataLt (f v) (f u)) out → Q (.ref p) s') :
    wpAny (model P w) A (call (.builtin "sorted") [.ref a]) Q E s := by
  obtain ⟨o, ho, hex, hd⟩ := R.ob
  have cnt := rows_size R.rows
  have few := R.few
  refine Calls.call_function_entry kind_sorted plain_sorted entry_sorted (args_sorted1 _) ?_
  unfold Builtin.«sorted»
  refine wpAny_bind (m := checkCount "sorted" 1 1 _) (wpAny_pure (wpAny_bind ?_))
  refine collect_set (A := A.in1) hh ⟨o, ho, hex.1, hd⟩ R.fits (by unfold scanBound; omega) R.tab.up R.led fun s1 vs k1 z g1 o1 perm => ?_
  have vals : es.toList.map (·.2) = L.map fun p => Value.ref p.1 := by rw [R.rows, List.map_map]; rfl
  rw [vals] at perm
  have vlen : vs.length = L.length := by rw [perm.length_eq, List.length_map]
  have from_ : ∀ v ∈ vs, ∃ p ∈ L, v = Value.ref p.1 := fun v hv => by
    obtain ⟨p, hp, e⟩ := List.mem_map.mp (perm.mem_iff.mp hv)
    exact ⟨p, hp, e.symm⟩
  refine wpAny_bind (wpAny_newList ?_ (by rw [sizeLine_eq]; omega))
  have hoL : (s1.heap.push (seqObj "list" vs.toArray 0)).get? s1.heap.objs.size = some (seqObj "list" vs.toArray 0) := Heap.get?_push_size _ rfl
  have keep : ∀ b u, s.heap.get? b = some u → b ≠ s1.heap.objs.size ∧ (s1.heap.push (seqObj "list" vs.toArray 0)).get? b = some u := fun b u e =>
    ⟨Nat.ne_of_lt (Nat.lt_of_lt_of_le (Heap.lt_size e) z), Heap.get?_push_of_some _ (k1 b u e)⟩
  refine wpAny_bind (wpAny_holding (wpAny_call_entry slot_list_sort ⟨_, hoL, rfl⟩ entry_list_sort (SrtO.list_sort_ord (s := { s1 with heap := s1.heap.push (seqObj "list" vs.toArray 0) }) (ltv := fun v u => dataLt (f v) (f u)) (swo_data f) hoL (by rw [sizeLine_eq]; omega) (fun h2 => ?_) fun out hs hb => ⟨_, rfl, ?_⟩) (args_list_sort _)))
  · refine sortable_data (h0 := s.heap) (f := f) h2 keep (fun v hv => ?_) (fun v hv => ?_) (srt.sub fun x hx => ?_) (by show A.units + 1 + 1 + 64 < cLine; omega)
    · obtain ⟨p, hp, e⟩ := from_ v hv
      rw [e]; exact reads p hp
    · obtain ⟨p, hp, e⟩ := from_ v hv
      rw [e]; exact deep p hp
    · obtain ⟨v, hv, e⟩ := List.mem_map.mp hx
      obtain ⟨p, hp, e2⟩ := from_ v hv
      exact List.mem_map.mpr ⟨p, hp, by rw [← e, e2]⟩
  · obtain ⟨c, hc⟩ := sortedHeap_at (vs := vs) (out := out.toArray) hoL
    refine wpAny_pure ⟨_, rfl, q _ s1.heap.objs.size out c (fun b u e => ?_) g1 o1 z hc (hb.perm.trans perm) hs⟩
    obtain ⟨k2, k3⟩ := keep b u e
    exact (sortedHeap_old k2 (by rw [size_push']; exact Nat.lt_succ_of_lt (Heap.lt_size (k1 b u e)))).trans k3
end
/-! at the abstract heap -/
/-- the set at a, without its keys' own tuples -/
structure SetZ (P : Program) (w : World) (h : Heap) (a : Addr) (L : List (Addr × List Key)) : Prop where
  ex : ∃ (es : Array (Int × Value)) (ep : Nat) (t : SetTable), (∃ o, h.get? a = some o ∧ o.ExactSet ∧ o.data = .set es ep t) ∧ es.toList = L.map (rowK (mixT P w)) ∧ Tb t (L.map fun p => (mixT P w).hash p.2) ∧ (L.map (·.2)).Nodup ∧
    (w.params.followText "set-order" = true ∨ t.led = true) ∧ L.length * 5 < t.mask * 3 ∧ L.length < 300
def SetE (P : Program) (w : World) (a : Addr) (L : List (Addr × List Key)) : HO := .ext fun h => SetZ P w h a L
theorem SetK.z {P : Program} {w : World} {h : Heap} {a : Addr} {L : List (Addr × List Key)} {es : Array (Int × Value)} {ep : Nat} {t : SetTable} (R : SetK (mixT P w) h a L es ep t) : SetZ P w h a L :=
  ⟨es, ep, t, R.ob, R.rows, R.tab, R.nd, R.led, R.roomy, R.few⟩
theorem setE_ok {P : Program} {w : World} {H : Hp} {h : Heap} {a : Addr} {L : List (Addr × List Key)} (R : SetZ P w h a L) : ObjOk P w H h a (SetE P w a L) := by
  refine ⟨R, let ⟨_, _, _, ⟨o, ho, _⟩, _⟩ := R.ex; ⟨o, ho⟩, fun h1 h2 p k => ?_⟩
  have ⟨es, ep, t, ⟨o, ho, r⟩, q⟩ := SetZ.ex p
  exact ⟨es, ep, t, ⟨o, k o ho, r⟩, q⟩
section
variable {X : Cx}
theorem Inv.mixT {pins : List (Addr × Obj)} {σ : L2.St} {H : Hp} {s : Shared} {b : Addr} {k : List Key} (I : Inv X pins σ H s) (h : SqT X.K H b (k.map kV)) : (T3.mixT X.prog X.w).is s.heap k b := by
  obtain ⟨its, r, ⟨o, ho, hc, n, hd⟩, _⟩ := I.tuple h
  refine ⟨o, its.toArray, n, ho, hc, hd, ?_⟩
  have gen : ∀ {k : List Key} {us : List Value}, Vals (k.map kV) us → ItemsAre (mixKind X.prog X.w) k us := by
    intro k
    induction k with
    | nil => intro us r; cases r; exact .nil
    | cons x k ih =>
      intro us r
      cases r with
      | cons r t => exact .cons (kV_is r) (ih t)
  simpa using gen r
def rSetM (K : PySem.W.Frag) (P : Program) (w : World) : List V → Hp → VK → Prop := fun xs H Q => ∃ (l : Addr) (ks : List (Addr × List Key)), xs = [V.ref l] ∧ SqL K H l (ks.map fun p => V.ref p.1) ∧ (∀ p ∈ ks, SqT K H p.1 (p.2.map kV)) ∧ Few ks ∧
  ∀ a L, H a = none → (∀ p ∈ L, p ∈ ks) → (∀ p ∈ ks, p.2 ∈ L.map (·.2)) → (L.map (·.2)).Nodup → Q (.ref a) (upd H a (SetE P w a L))
theorem cr_setM (hc : X.calm = true) (hu : X.A.units + 70 < cLine) : CallR X (.type "set") (rSetM X.K X.prog X.w) := by
  intro pins s σ H xs us Q I r h
  obtain ⟨l, ks, rfl, hl, hk, hf, q⟩ := h
  rw [Vals.ref1 r]
  obtain ⟨its, rv, pl, hz⟩ := I.list hl
  have refs : ∀ {ks : List (Addr × List Key)} {us : List Value}, Vals (ks.map fun p => V.ref p.1) us → us = ks.map fun p => Value.ref p.1 := by
    intro ks
    induction ks with
    | nil => intro us r; cases r; rfl
    | cons p ks ih =>
      intro us r
      cases r with
      | cons r t => cases r; rw [ih t]; rfl
  refine set_call (P := X.prog) (w := X.w) shy_mix ks (I.ok.hd hc) pl.isList (by simpa using refs rv) (fun p hp => Inv.mixT I (hk p hp)) hf (show X.A.units + 1 + 1 + 1 < cLine by omega) fun h' tk L es ep t R g k => ?_
  refine ⟨.ref s.heap.objs.size, upd H s.heap.objs.size (SetE X.prog X.w s.heap.objs.size L), I.laid (t' := tk) k (Nat.le_refl _) (setE_ok R.z), rfl, q _ L (I.hok.fresh (Nat.le_refl _)) (fun p hp => List.mem_of_mem_take (g.sub p hp)) (fun p hp => g.all p (by rw [List.take_length]; exact hp)) R.nd⟩
def rSortM (K : PySem.W.Frag) (P : Program) (w : World) : List V → Hp → VK → Prop := fun vs H Q => ∃ (a : Addr) (L : List (Addr × List Key)) (f : V → PyData), vs = [V.ref a] ∧ H a = some (SetE P w a L) ∧ (∀ p ∈ L, SqT K H p.1 (p.2.map kV)) ∧
  (∀ p ∈ L, Dp K H (.ref p.1) (f (.ref p.1)) ∧ (f (.ref p.1)).depth ≤ 64) ∧ Srtb (L.map fun p => f (.ref p.1)) ∧
  ∀ ys p, SrtO.Srtd (fun x y => dataLt (f x) (f y)) ys → ys.Perm (L.map fun p => V.ref p.1) → H p = none → Q (.ref p) (upd H p (.lst ys))
theorem cr_sortM (hc : X.calm = true) (hu : X.A.units + 70 < cLine) : CallR X (.builtin "sorted") (rSortM X.K X.prog X.w) := by
  intro pins s σ H vs us Q I r h
  obtain ⟨a, L, f, rfl, ha, hk, hf, hs, q⟩ := h
  have R0 : SetZ X.prog X.w s.heap a L := (I.hok a _ ha).1
  obtain ⟨es, ep, t, z1, z2, z3, z4, z5, z6, z7⟩ := R0.ex
  have R : SetK (mixT X.prog X.w) s.heap a L es ep t := { ob := z1, rows := z2, tab := z3, nd := z4, keys := fun p hp => Inv.mixT I (hk p hp), led := z5, roomy := z6, few := z7 }
  rw [Vals.ref1 r]
  refine sorted_set (f := fun v => f (bk3 v)) R (I.ok.hd hc) hu (fun p hp => Dp.reads I _ _ _ (hf p hp).1 rfl) (fun p hp => (hf p hp).2) hs fun s' p out c k g o hp hg perm srt => ?_
  have back : ∀ v ∈ out, RelV (bk3 v) v := fun v hv => by
    obtain ⟨q, _, e⟩ := List.mem_map.mp (perm.mem_iff.mp hv)
    subst e; rfl
  have vs := bk3_vals back
  have perm2 : (out.map bk3).Perm (L.map fun p => V.ref p.1) := by
    have := perm.map bk3
    rwa [List.map_map] at this
  have few := R.few
  have hlen : (out.map bk3).length ≤ sizeLine := by rw [perm2.length_eq, List.length_map, sizeLine_eq]; omega
  have hn : H p = none := I.hok.fresh hp
  have J : Inv X pins σ (upd H p (.lst (out.map bk3))) { s with heap := s'.heap, gens := s'.gens, drawn := s'.drawn, toks := s'.toks } :=
    I.call (ch := []) (Un.laid k hp hn) (I.hok.laid k hp ⟨hlen, out, c, vs, hg⟩) (by rw [g]; exact I.bare) (fun _ z => nomatch z)
  have e : s' = { s with heap := s'.heap, gens := s'.gens, drawn := s'.drawn, toks := s'.toks } := by
    cases s'; cases s; cases o; rfl
  rw [e]
  exact ⟨.ref p, _, J, rfl, q _ p (SrtO.srtd_map srt) perm2 hn⟩
end
end T3
end
-- T3Misc
section
set_option maxRecDepth 100000
set_option maxHeartbeats 4000000
/-! T3Misc: range(n) of any n; extend, index, join, repr. -/
namespace T3
open PySem PySem.Spec PySem.Calls PyProof.Rows L2
theorem turn_long {P : Program} {w : World} {K : PySem.W.Frag} {tg : Expr} (it : Addr) (lo : Int) (n : Nat) : Turn P w K tg (Itr lo n) [it] it (fun i h => IsLongIter h it (lo + (i : Nat) * 1) ((n : Int) - (i : Nat)) 1) where
  mem := by simp
  obj := fun i h st b hb => by
    have e : b = it := by simpa using hb
    subst e
    exact ⟨_, st, fun v z => by
      have z' : Data.fields _ = Data.cell v := z
      cases z'⟩
  keep := fun i h h' st k => k it (by simp) _ st
  item := by
    intro X hP hw hK hc i pins s σ H E I hf st hg
    subst hP hw hK
    obtain ⟨f0, f1, f2, f3, f4, f5⟩ := hf it (by simp)
    have W := Walks.longrange (prog := X.prog) (w := X.w) (I.ok.hd hc) it lo 1 n
    refine W.item i s _ _ hg st fun v h' tk hv st' kk => ?_
    obtain ⟨t, rfl⟩ := hv
    have I1 : Inv X pins σ H { s with heap := h', toks := tk } := I.turned (fun b o hb e => kk b o (by simpa using hb) e) f0 f1 f3 f4 f5
    refine ⟨_, rfl, go_of (s := { s with heap := h', toks := tk }) (n := "longrange_iterator") st' rfl rfl (by decide) ⟨.int (lo + i), H, I1, ⟨t, ?_⟩, ⟨rfl, rfl⟩, st', fun b hb => (hf b hb).1⟩⟩
    rw [Int.mul_one]
  done := by
    intro X hP hw hK hc i pins s σ H E I hf st hg
    subst hP hw hK
    obtain ⟨f0, f1, f2, f3, f4, f5⟩ := hf it (by simp)
    exact wpAny_pyNext_long_end (I.ok.hd hc) st (by have : n ≤ i := hg; omega) fun h' eb => ⟨rfl, I.turned (t' := s.toks) (fun b o hb e => eb b o hb e) f0 f1 f3 f4 f5⟩
  self := fun _ _ _ _ _ st h => wpAny_pyIter_longiter st h
section
variable {X : Cx} {tg : Expr}
theorem range_any {pins : List (Addr × Obj)} {σ : L2.St} {H : Hp} {s : Shared} {R : It → Hp → Prop} {E : Value → Shared → Prop} {hi : Int} {t u v : Tok} {tk : Nat} (I : Inv X pins σ H s)
    (q : R (Itr 0 hi.toNat) H) : wpAny (model X.prog X.w) X.A (pyIter (.ref s.heap.objs.size)) (PIE X pins σ tg R) E { s with heap := s.heap.push { cls := .type "range", data := .fields #[.int 0 t, .int hi u, .int 1 v] }, toks := tk } := by
  have e2 : Builtin.Range.rangeSize 0 hi 1 = ((hi.toNat : Nat) : Int) - ((0 : Nat) : Int) := by rw [rangeSize_one]; split <;> omega
  cases hs : Builtin.Range.small 0 hi 1 with
  | true =>
    refine wpAny_pyIter_range (IsRange.new ..) hs ?_
    have I1 : Inv X pins σ H { s with heap := s.heap.push { cls := .type "range", data := .fields #[.int 0 t, .int hi u, .int 1 v] }, toks := tk } := I.kept fun b o e => Heap.get?_push_of_some _ e
    refine ⟨(s.heap.push { cls := .type "range", data := .fields #[.int 0 t, .int hi u, .int 1 v] }).objs.size, [(s.heap.push { cls := .type "range", data := .fields #[.int 0 t, .int hi u, .int 1 v] }).objs.size], _, _, H, rfl,
      I1.kept (t' := tk) fun b o e => Heap.get?_push_of_some _ e, turn_range _ 0 hi.toNat, ?_, fun b hb => ?_, q⟩
    · have e1 : (0 : Int) + ((0 : Nat) : Int) * 1 = 0 := by simp
      show IsRangeIter _ _ ((0 : Int) + ((0 : Nat) : Int) * 1) (((hi.toNat : Nat) : Int) - ((0 : Nat) : Int)) 1
      rw [e1, ← e2]
      exact Heap.get?_push_size _ rfl
    · have e : b = (s.heap.push { cls := .type "range", data := .fields #[.int 0 t, .int hi u, .int 1 v] }).objs.size := by simpa using hb
      subst e
      exact I1.fpOk (Nat.le_refl _) (I1.hok.fresh (Nat.le_refl _))
  | false =>
    refine wpAny_pyIter_longrange (IsRange.new ..) hs ?_
    have I1 : Inv X pins σ H { s with heap := s.heap.push { cls := .type "range", data := .fields #[.int 0 t, .int hi u, .int 1 v] }, toks := tk } := I.kept fun b o e => Heap.get?_push_of_some _ e
    refine ⟨(s.heap.push { cls := .type "range", data := .fields #[.int 0 t, .int hi u, .int 1 v] }).objs.size, [(s.heap.push { cls := .type "range", data := .fields #[.int 0 t, .int hi u, .int 1 v] }).objs.size], _, _, H, rfl,
      I1.kept (t' := tk) fun b o e => Heap.get?_push_of_some _ e, turn_long _ 0 hi.toNat, ?_, fun b hb => ?_, q⟩
    · have e1 : (0 : Int) + ((0 : Nat) : Int) * 1 = 0 := by simp
      show IsLongIter _ _ ((0 : Int) + ((0 : Nat) : Int) * 1) (((hi.toNat : Nat) : Int) - ((0 : Nat) : Int)) 1
      rw [e1, ← e2]
      exact Heap.get?_push_size _ rfl
    · have e : b = (s.heap.push { cls := .type "range", data := .fields #[.int 0 t, .int hi u, .int 1 v] }).objs.size := by simpa using hb
      subst e
      exact I1.fpOk (Nat.le_refl _) (I1.hok.fresh (Nat.le_refl _))
def iRngA (ta : TA) : TI := fun σ H R => ta σ H fun vs H1 => ∃ j : Int, vs = [.int j] ∧ R (Itr 0 j.toNat) H1
theorem pi_rangeA {a : Expr} {ta : TA} {p pos : Pos} (hg : Gl X "range") (hm : X.mg "range" = none) (ha : PA X [a] ta) (hs : starEach [a] X.env = [(false, eval a X.env)] := by rfl) : PI X tg (.Call (.Name "range" p) [a] [] pos) (iRngA ta) := by
  refine ⟨fun pins s σ H R I h => ?_⟩
  refine Call_ (ld_blt I hg hm boot_range (PyProof.Rows.callWith_type1 (thn (ha.run pos pins s σ H _ I h) fun us s1 ⟨vs, H1, I1, r1, q1⟩ => ?_) hs rfl))
  obtain ⟨j, e, q⟩ := q1
  subst e
  cases r1 with
  | cons r rr =>
    cases rr
    obtain ⟨t, rfl⟩ := r
    exact call_range_1 (range_any I1 q)
end
section
variable {X : Cx} {G : Sc} {tg a : Expr} {t : WA} {p pos : Pos}
/-- range(n), whatever n -/
def wRgA (t : WA) : WI := fun ρ h k => t ρ h fun l h1 => ∃ j : Int, l = [.int j] ∧ k (.fix (rgD 0 j.toNat)) h1
theorem ii_rgA (hg : Gl X "range") (hm : X.mg "range" = none) (ha : PA3 X G [a] t) (hs : starEach [a] X.env = [(false, eval a X.env)] := by rfl) : PI3 X G tg (.Call (.Name "range" p) [a] [] pos) (wRgA t) := by
  refine (pi_rangeA hg hm ha hs).weak fun σ H R ⟨ρ, h, k, rel, ev, q, post⟩ => ?_
  refine ⟨ρ, h, _, rel, ev, q, fun l h1 vs H1 q1 rel1 per1 dv1 => ?_⟩
  obtain ⟨j, rfl, q1⟩ := q1
  cases dv1 with
  | cons d1 t1 =>
    cases t1; cases d1
    exact ⟨j, rfl, post _ _ _ _ q1 rel1 per1 it_rng⟩
theorem fors_rgA {t : WA} {g : WG} {body : WS} {E : En} {ρ : Ev} {h : H3} : wFor (wRgA t) g body E ρ h ↔ t ρ h fun l h1 => ∃ j : Int, l = [.int j] ∧ forW (fun _ => True) g body E (rgD 0 j.toNat) ρ h1 := Iff.rfl
end
section
variable {X : Cx} {G : Sc}
/-- repr of a tuple of data -/
def rReprV (K : PySem.W.Frag) : List V → Hp → VK → Prop := fun vs H Q => ∃ (x : Addr) (d : PyData), vs = [V.ref x] ∧ Dp K H (.ref x) d ∧ d.canLay0 = true ∧ d.showable = true ∧ d.depth ≤ 64 ∧ d.shown.length ≤ sizeLine ∧ Q (.str d.shown) H
theorem cr_reprV (hu : X.A.units + 70 < cLine) (hgd : X.A.guards = some []) : CallR X (.builtin "repr") (rReprV X.K) := by
  intro pins s σ H vs us Q I r h
  obtain ⟨x, d, rfl, hd, hc, hs, hdp, hz, q⟩ := h
  obtain ⟨u, rfl, ru⟩ := vals1 r
  obtain rfl : u = Value.ref x := ru
  obtain ⟨as, ra⟩ := Dp.reads I d _ _ hd rfl
  refine repr_of_reads' ra hs (fun h => by rw [PyData.hasDict_of_canLay d hc] at h; cases h) hgd (by omega) (fun _ _ e => e) (fun h' u tk hk => ?_) hz
  exact ⟨.str _, H, I.kept hk, ⟨_, rfl⟩, q⟩
def rRepr : List D → H3 → K1 → Prop := fun as h k => ∃ (l : List D) (p : PyData), as = [.tup l] ∧ Rs h (.tup l) p ∧ p.showable = true ∧ p.depth ≤ 64 ∧ p.shown.length ≤ 16777216 ∧ k (.str p.shown) h
theorem rf_repr (hu : X.A.units + 70 < cLine) (hgd : X.A.guards = some []) : RfL G (UC X (.builtin "repr")) rRepr := by
  intro l vs h H k Q rel dv ⟨m, p, el, hr, hs, hdp, hz, q⟩ post
  subst el
  cases dv with
  | cons d1 t1 =>
    cases t1
    cases d1 with
    | tup e1 r1 => exact ⟨_, cr_reprV hu hgd, _, p, rfl, hr.dp rel (.tup e1 r1), hr.lay, hs, hdp, hz, post _ _ _ _ q rel (Per.refl H) (.str _)⟩
variable {e o : Expr} {es : List Expr} {f : WE} {t : WA} {apos cpos : Pos}
/-- xs.extend(a list) -/
def wExtend (o : WE) (t : WA) : WE := fun ρ h k => o ρ h fun x h1 => ∃ p xs, x = .ref p ∧ h1 p = some (.lst xs) ∧ t ρ h1 fun l h2 => ∃ b ys zs, l = [.ref b] ∧ h2 p = some (.lst ys) ∧ h2 b = some (.lst zs) ∧ ys.length + zs.length ≤ 16777216 ∧ k .non (up h2 p (.lst (ys ++ zs)))
theorem i_extend (ho : PE3 X G o f) (ha : PA3 X G (e :: es) t) (hbase : attributeBase o "extend" X.env (eval o X.env) = eval o X.env := by rfl)
    (hfew : ((backTo cpos (starEach (e :: es) X.env)).all (fun x => !x.1) && (backToKw cpos (keywordEach [] X.env)).all (fun x => x.1.isSome)
      && decide ((e :: es).length + ([] : List Keyword).length + (if ([] : List Keyword).isEmpty then 0 else 1) < 30)) = true := by rfl)
    (hline : (apos.endLine == cpos.line) = true := by rfl) (hs : starEach (e :: es) X.env = (false, eval e X.env) :: starEach es X.env := by rfl) (hplain : (backTo cpos (starEach es X.env)).any (·.1) = false := by rfl) :
    PE3 X G (.Call (.Attribute o "extend" apos) (e :: es) [] cpos) (wExtend f t) := by
  refine (pe_bm PySem.F.plainAttrs_list PySem.F.slot_list_extend PySem.F.type_list_extend mt_extend ho ha hbase hfew hline hs hplain).weak fun σ H Q ⟨ρ, h, k, rel, ev, q, post⟩ => ?_
  refine ⟨ρ, h, _, rel, ev, q, fun d h1 v H1 q1 rel1 per1 dv1 => ?_⟩
  obtain ⟨p, xs, rfl, hp, q1⟩ := q1
  cases dv1
  obtain ⟨vs, e1, r1⟩ := rel1.lst hp
  refine ⟨.inl ⟨rfl, _, .of e1⟩, ρ, h1, _, rel1, ev.per per1, q1, fun l h2 ws H2 q2 rel2 per2 dv2 => ?_⟩
  obtain ⟨b, ys, zs, rfl, hy, hzs, hz, q2⟩ := q2
  cases dv2 with
  | cons d1 t1 =>
    cases t1
    cases d1
    obtain ⟨vs', e2, r2⟩ := rel2.lst hy
    obtain ⟨vz, e3, r3⟩ := rel2.lst hzs
    refine ⟨p, b, _, _, rfl, rfl, e2, e3, by rw [← r2.length, ← r3.length]; exact hz, ?_⟩
    exact post _ _ _ _ q2 (rel2.setLst hy (r2.append r3)) ((per1.trans per2).trans (Per.mut (rel2.mut hy))) .non
/-- text.index(sign), where it stands -/
def wSIndex (o : WE) (t : WA) : WE := fun ρ h k => o ρ h fun x h1 => ∃ a, x = .str a ∧ t ρ h1 fun l h2 => ∃ b i rest, l = [.str b] ∧ Builtin.Str.occurrences a b 0 a.length 1 = i :: rest ∧ k (.int (i : Nat)) h2
theorem i_sindex (ho : PE3 X G o f) (ha : PA3 X G (e :: es) t) (hbase : attributeBase o "index" X.env (eval o X.env) = eval o X.env := by rfl)
    (hfew : ((backTo cpos (starEach (e :: es) X.env)).all (fun x => !x.1) && (backToKw cpos (keywordEach [] X.env)).all (fun x => x.1.isSome)
      && decide ((e :: es).length + ([] : List Keyword).length + (if ([] : List Keyword).isEmpty then 0 else 1) < 30)) = true := by rfl)
    (hline : (apos.endLine == cpos.line) = true := by rfl) (hs : starEach (e :: es) X.env = (false, eval e X.env) :: starEach es X.env := by rfl) (hplain : (backTo cpos (starEach es X.env)).any (·.1) = false := by rfl) :
    PE3 X G (.Call (.Attribute o "index" apos) (e :: es) [] cpos) (wSIndex f t) := by
  refine (pe_bm PySem.F.plainAttrs_str PySem.F.slot_str_index PySem.F.type_str_index mt_sindex ho ha hbase hfew hline hs hplain).weak fun σ H Q ⟨ρ, h, k, rel, ev, q, post⟩ => ?_
  refine ⟨ρ, h, _, rel, ev, q, fun d h1 v H1 q1 rel1 per1 dv1 => ?_⟩
  obtain ⟨a, rfl, q1⟩ := q1
  cases dv1
  refine ⟨rfl, ρ, h1, _, rel1, ev.per per1, q1, fun l h2 ws H2 q2 rel2 per2 dv2 => ?_⟩
  obtain ⟨b, i, rest, rfl, hoc, q2⟩ := q2
  cases dv2 with
  | cons d1 t1 =>
    cases t1
    cases d1
    exact ⟨a, b, i, rest, rfl, rfl, hoc, post _ _ _ _ q2 rel2 (per1.trans per2) (.int _)⟩
/-- xs.index(x), xs and x of none, truths, ints -/
def wLIndex (o : WE) (t : WA) : WE := fun ρ h k => o ρ h fun x h1 => ∃ p xs, x = .ref p ∧ h1 p = some (.lst xs) ∧ t ρ h1 fun l h2 => ∃ d ys j, l = [d] ∧ h2 p = some (.lst ys) ∧ d.ok = true ∧ D.okL ys = true ∧ SeqAt.shaped (.list (D.pyL ys)) = true ∧ SeqAt.shaped d.py = true ∧
  (∃ z, (D.pyL ys)[j]? = some z ∧ PyData.eqv z d.py = true) ∧ (∀ (m : Nat) (z' : PyData), m < j → (D.pyL ys)[m]? = some z' → PyData.eqv z' d.py = false) ∧ k (.int (j : Nat)) h2
theorem i_lindex (hu : X.A.units + 65 < cLine) (ho : PE3 X G o f) (ha : PA3 X G (e :: es) t) (hbase : attributeBase o "index" X.env (eval o X.env) = eval o X.env := by rfl)
    (hfew : ((backTo cpos (starEach (e :: es) X.env)).all (fun x => !x.1) && (backToKw cpos (keywordEach [] X.env)).all (fun x => x.1.isSome)
      && decide ((e :: es).length + ([] : List Keyword).length + (if ([] : List Keyword).isEmpty then 0 else 1) < 30)) = true := by rfl)
    (hline : (apos.endLine == cpos.line) = true := by rfl) (hs : starEach (e :: es) X.env = (false, eval e X.env) :: starEach es X.env := by rfl) (hplain : (backTo cpos (starEach es X.env)).any (·.1) = false := by rfl) :
    PE3 X G (.Call (.Attribute o "index" apos) (e :: es) [] cpos) (wLIndex f t) := by
  refine (pe_bm PySem.F.plainAttrs_list PySem.F.slot_list_index PySem.F.type_list_index (mt_indexD hu) ho ha hbase hfew hline hs hplain).weak fun σ H Q ⟨ρ, h, k, rel, ev, q, post⟩ => ?_
  refine ⟨ρ, h, _, rel, ev, q, fun d h1 v H1 q1 rel1 per1 dv1 => ?_⟩
  obtain ⟨p, xs, rfl, hp, q1⟩ := q1
  cases dv1
  obtain ⟨vs, e1, r1⟩ := rel1.lst hp
  refine ⟨.inl ⟨rfl, _, .of e1⟩, ρ, h1, _, rel1, ev.per per1, q1, fun l h2 ws H2 q2 rel2 per2 dv2 => ?_⟩
  obtain ⟨d, ys, j, rfl, hy, hd, hys, s1, s2, ⟨z, hz, hze⟩, hno, q2⟩ := q2
  cases dv2 with
  | cons d1 t1 =>
    cases t1
    obtain ⟨vs', e2, r2⟩ := rel2.lst hy
    exact ⟨p, _, d.py, D.pyL ys, j, z, rfl, rfl, (Rs.lst hy (rsl_py hys)).dp rel2 (.ref p), (rs_py hd).dp rel2 d1, s1, s2, hz, hze, hno, post _ _ _ _ q2 rel2 (per1.trans per2) (.int _)⟩
/-- sep.join(a list of texts) -/
def wJoin (o a : WE) : WE := fun ρ h k => o ρ h fun x h1 => ∃ s, x = .str s ∧ a ρ h1 fun y h2 => ∃ p ys, y = .ref p ∧ h2 p = some (.lst (ys.map D.str)) ∧ (ys.map (·.length)).sum + ys.length * s.length ≤ 16777216 ∧ k (.str (Txt.join s ys)) h2
theorem i_join {g : WE} (ho : PE3 X G o f) (he : PE3 X G e g) (hs : starEach [e] X.env = [(false, eval e X.env)] := by rfl) (hbase : attributeBase o "join" X.env (eval o X.env) = eval o X.env := by rfl) (hline : (apos.endLine == cpos.line) = true := by rfl) :
    PE3 X G (.Call (.Attribute o "join" apos) [e] [] cpos) (wJoin f g) := by
  refine (pe_join ho he hs hbase hline).weak fun σ H Q ⟨ρ, h, k, rel, ev, q, post⟩ => ?_
  refine ⟨ρ, h, _, rel, ev, q, fun d h1 v H1 q1 rel1 per1 dv1 => ?_⟩
  obtain ⟨s, rfl, q1⟩ := q1
  cases dv1
  refine ⟨⟨_, rfl⟩, ρ, h1, _, rel1, ev.per per1, q1, fun y h2 w H2 q2 rel2 per2 dv2 => ?_⟩
  obtain ⟨p, ys, rfl, hy, hz, q2⟩ := q2
  cases dv2
  obtain ⟨vs', e2, r2⟩ := rel2.lst hy
  rw [DVs.strs r2] at e2
  exact ⟨s, p, ys, rfl, rfl, .inl (.of e2), hz, post _ _ _ _ q2 rel2 (per1.trans per2) (.str _)⟩
end
/-! x is True, x is False -/
section
variable {X : Cx} {G : Sc} {a : Expr} {f : WE} {pos : Pos}
def rIsBv (b : Bool) : R2 := fun x y H Q => y = .bl b ∧ Q (.bl (decide (x = .bl b))) H
theorem op_isBv (b : Bool) : OpR X (compareOp .Is) (rIsBv b) := by
  intro pins s σ H x y v u Q I rx ry ⟨ey, q⟩
  subst ey
  cases (show u = Value.bool b from ry)
  have other : ∀ w : Value, plainIs w (.bool b) = true → w ≠ .bool b → x ≠ .bl b → v = w → wpAny (model X.prog X.w) X.A (compareOp .Is v (.bool b)) (EP X pins σ Q) X.xe s := fun w hp hw hx e => by
    subst e
    exact wpAny_is_other hp hw ⟨.bl false, H, I, rfl, by simpa [hx] using q⟩
  cases x with
  | non => exact other .none rfl (fun z => by cases z) (fun z => by cases z) rx
  | bl c =>
    cases (show v = Value.bool c from rx)
    by_cases e : c = b
    · subst e
      exact wpAny_is_self rfl ⟨.bl true, H, I, rfl, by simpa using q⟩
    · exact wpAny_is_other rfl (fun z => e (Value.bool.inj z)) ⟨.bl false, H, I, rfl, by simpa [e] using q⟩
  | int i => obtain ⟨t, e⟩ := (show ∃ t, v = Value.int i t from rx); exact other _ rfl (fun z => by cases z) (fun z => by cases z) e
  | str i => obtain ⟨t, e⟩ := (show ∃ t, v = Value.str i t from rx); exact other _ rfl (fun z => by cases z) (fun z => by cases z) e
  | byt i => obtain ⟨t, e⟩ := (show ∃ t, v = Value.bytes i t from rx); exact other _ rfl (fun z => by cases z) (fun z => by cases z) e
  | flt i => obtain ⟨t, e⟩ := (show ∃ t, v = Value.float i t from rx); exact other _ rfl (fun z => by cases z) (fun z => by cases z) e
  | ref i => exact other _ rfl (fun z => by cases z) (fun z => by cases z) rx
  | ty i => exact other _ rfl (fun z => by cases z) (fun z => by cases z) rx
def _root_.T3.D.isB (b : Bool) : D → Bool
  | .bl c => c == b
  | _ => false
theorem isB_of {H : Hp} {b : Bool} {d : D} {v : V} (r : DV H d v) : d.isB b = decide (v = .bl b) := by
  cases r with
  | bl c => simp only [D.isB]; cases c <;> cases b <;> decide
  | _ => simp [D.isB]
def rIsB (b : Bool) : D → H3 → K1 → Prop := fun x h k => k (.bl (x.isB b)) h
def rIsY : D → D → H3 → K1 → Prop := fun x y h k => match y with
  | .bl c => rIsB c x h k
  | _ => False
theorem rf_isY : Rf2 G (U2 X (compareOp .Is)) rIsY := by
  intro d e x y h H k Q rel dx dy q post
  unfold rIsY at q
  split at q
  · rename_i c
    cases dy
    exact ⟨_, op_isBv c, rfl, post_bl post rel (by rw [← isB_of dx]; exact q)⟩
  · exact q.elim
theorem i_isB {b : Bool} {j p2} (ha : PE3 X G a f) : PE3 X G (.Compare a [.Is] [.Constant (.bool b) j p2] pos) (w1 (rIsB b) f) := i_cmp rf_isY ha i_bl rfl
theorem it_isB {b : Bool} {j p2} (ha : PE3 X G a f) : PT3 X G (.Compare a [.Is] [.Constant (.bool b) j p2] pos) (wB (w1 (rIsB b) f)) := it_cmp rf_isY ha i_bl rfl
end
end T3
end
-- T3SortSet
section
set_option maxRecDepth 100000
set_option maxHeartbeats 4000000
/-! T3SortSet: sorted(set(xs)) as a reading. -/
namespace T3
open PySem PySem.Spec PySem.Calls PyProof.Rows PySem.W L2
/-- fewer than 299 different ones -/
def FewD (l : List D) : Prop := ∀ m : List D, m.Nodup → (∀ x ∈ m, x ∈ l) → m.length < 299
/-- sorted(set(xs)): what stands in xs, each once, in order -/
def rSortSet : D → H3 → K1 → Prop := fun d h k => ∃ a l, d = .ref a ∧ h a = some (.lst l) ∧ (∀ x ∈ l, (x.ok = true ∧ x.py.depth ≤ 64) ∧ ∃ ks, keysOf x = some ks) ∧ FewD l ∧ Srtb (l.map D.py) ∧
  ∀ ys p, ys.Nodup → (∀ x, x ∈ ys ↔ x ∈ l) → ys.Pairwise (fun x y => ltD y x = false) → h p = none → k (.ref p) (up h p (.lst ys))
def dOf (k : List Key) : D := .tup (k.map kD)
theorem keysL_back : ∀ {l : List D} {k : List Key}, keysL l = some k → l = k.map kD
  | [], k, h => by simp only [keysL, Option.some.injEq] at h; subst h; rfl
  | d :: l, k, h => by
    simp only [keysL] at h
    split at h
    · rename_i x ks hx hl
      simp only [Option.some.injEq] at h
      subst h
      rw [List.map_cons, ← keysL_back hl]
      congr 1
      cases d <;> simp [keyOf] at hx
      · subst hx; rfl
      · subst hx; rfl
    · cases h
theorem keysOf_back {x : D} {k : List Key} (h : keysOf x = some k) : x = dOf k := by
  cases x <;> simp [keysOf] at h
  unfold dOf
  rw [keysL_back h]
theorem dOf_inj {k j : List Key} (h : dOf k = dOf j) : k = j := by
  have e : k.map kD = j.map kD := by simpa [dOf] using h
  have inj : ∀ {a b : Key}, kD a = kD b → a = b := by
    intro a b h
    cases a <;> cases b <;> simp [kD] at h <;> rw [h]
  have gen : ∀ {k j : List Key}, k.map kD = j.map kD → k = j := by
    intro k
    induction k with
    | nil => intro j h; cases j <;> simp at h ⊢
    | cons a k ih =>
      intro j h
      cases j with
      | nil => simp at h
      | cons b j =>
        simp only [List.map_cons, List.cons.injEq] at h
        rw [inj h.1, ih h.2]
  exact gen e
theorem key_rows {H : Hp} : ∀ {l : List D} {vs : List V}, DVs H l vs → (∀ x ∈ l, ∃ k, keysOf x = some k) → ∃ ks : List (Addr × List Key), vs = ks.map (fun p => V.ref p.1) ∧ l = ks.map (fun p => dOf p.2) ∧ ∀ p ∈ ks, H p.1 = some (.tup (p.2.map kV)) ∧ DV H (dOf p.2) (.ref p.1)
  | _, _, .nil, _ => ⟨[], rfl, rfl, fun p h => (nomatch h)⟩
  | d :: l, v :: vs, .cons r t, h => by
    obtain ⟨k, hk⟩ := h d List.mem_cons_self
    obtain ⟨ks, e1, e2, e3⟩ := key_rows t fun x hx => h x (List.mem_cons_of_mem _ hx)
    obtain ⟨b, eb, hb⟩ := keysOf_v r hk
    subst eb
    refine ⟨(b, k) :: ks, by rw [e1]; rfl, by rw [e2, keysOf_back hk]; rfl, fun p hp => ?_⟩
    rcases List.mem_cons.mp hp with e | hp
    · subst e; exact ⟨hb, by rw [← keysOf_back hk]; exact r⟩
    · exact e3 p hp
section
variable {X : Cx} {G : Sc} {e : Expr} {f : WE} {p p2 pos pos2 : Pos}
theorem i_sortSet (hc : X.calm = true) (hu : X.A.units + 70 < cLine) (hg : Gl X "sorted") (hm : X.mg "sorted" = none) (hg2 : Gl X "set") (hm2 : X.mg "set" = none) (he : PE3 X G e f)
    (h1 : starEach [.Call (.Name "set" p2) [e] [] pos2] X.env = (false, eval (.Call (.Name "set" p2) [e] [] pos2) X.env) :: starEach [] X.env := by rfl) (h2 : starEach [e] X.env = (false, eval e X.env) :: starEach [] X.env := by rfl) :
    PE3 X G (.Call (.Name "sorted" p) [.Call (.Name "set" p2) [e] [] pos2] [] pos) (w1 rSortSet f) := by
  refine (pe_callB (cr_sortM hc hu) hg hm b_sorted (pa_cons (pe_callTy (cr_setM hc hu) hg2 hm2 b_set (pa_cons he pa_nil h2) (he := h2)) pa_nil h1) (he := h1)).weak fun σ H Q ⟨ρ, h, k, rel, ev, q, post⟩ => ?_
  refine ⟨ρ, h, _, rel, ev, q, fun d h1 v H1 q1 rel1 per1 dv1 => ?_⟩
  obtain ⟨a, l, rfl, ha, hx, few, srt, q2⟩ := q1
  cases dv1
  obtain ⟨vs, e1, r1⟩ := rel1.lst ha
  obtain ⟨ks, k1, k2, k3⟩ := key_rows r1 fun x hx' => (hx x hx').2
  subst k1
  have few' : Few ks := fun Ds nd sub => by
    have := few (Ds.map dOf) (List.pairwise_map.mpr (nd.imp fun hne e => hne (dOf_inj e))) fun x hx' => by
      obtain ⟨d, hd, rfl⟩ := List.mem_map.mp hx'
      obtain ⟨p, hp, e⟩ := List.mem_map.mp (sub d hd)
      rw [k2, ← e]
      exact List.mem_map_of_mem (f := fun p : Addr × List Key => dOf p.2) hp
    simpa using this
  refine ⟨a, ks, rfl, .of e1, fun p hp => .of (k3 p hp).1, few', fun b L nb sub all nd => ?_⟩
  have rel2 : Rel G h1 (upd H1 b (SetE X.prog X.w b L)) := rel1.new0 nb
  have per2 : Per H1 (upd H1 b (SetE X.prog X.w b L)) := Per.new nb
  have inl : ∀ p ∈ L, dOf p.2 ∈ l := fun p hp => by rw [k2]; exact List.mem_map_of_mem (f := fun p : Addr × List Key => dOf p.2) (sub p hp)
  have un : ∀ p ∈ L, unD (upd H1 b (SetE X.prog X.w b L)) (.ref p.1) = dOf p.2 := fun p hp => unD_of (hx _ (inl p hp)).1.1 ((k3 p (sub p hp)).2.per per2)
  refine ⟨b, L, fun v => (unD (upd H1 b (SetE X.prog X.w b L)) v).py, rfl, upd_same, fun p hp => .of (per2.tups _ _ (k3 p (sub p hp)).1), fun p hp => ?_, ?_, fun ys c hs perm nc => ?_⟩
  · show Dp _ _ _ ((unD _ (V.ref p.1)).py) ∧ ((unD _ (V.ref p.1)).py).depth ≤ 64
    rw [un p hp]
    exact ⟨(rs_py (hx _ (inl p hp)).1.1).dp rel2 ((k3 p (sub p hp)).2.per per2), (hx _ (inl p hp)).1.2⟩
  · refine srt.sub fun x hx' => ?_
    obtain ⟨p, hp, rfl⟩ := List.mem_map.mp hx'
    show (unD _ (V.ref p.1)).py ∈ _
    rw [un p hp]
    exact List.mem_map_of_mem (inl p hp)
  · have uny : ∀ v ∈ ys, ∃ p ∈ L, v = V.ref p.1 ∧ unD (upd H1 b (SetE X.prog X.w b L)) v = dOf p.2 := fun v hv => by
      obtain ⟨p, hp, rfl⟩ := List.mem_map.mp (perm.mem_iff.mp hv)
      exact ⟨p, hp, rfl, un p hp⟩
    have dvs : DVs (upd H1 b (SetE X.prog X.w b L)) (ys.map (unD (upd H1 b (SetE X.prog X.w b L)))) ys := unD_back fun v hv => by
      obtain ⟨p, hp, rfl, e⟩ := uny v hv
      rw [e]
      exact (k3 p (sub p hp)).2.per per2
    have perm2 : (ys.map (unD (upd H1 b (SetE X.prog X.w b L)))).Perm (L.map fun p => dOf p.2) := by
      have := perm.map (unD (upd H1 b (SetE X.prog X.w b L)))
      rw [List.map_map] at this
      refine this.trans (.of_eq (List.map_congr_left fun p hp => un p hp))
    refine post_lst (post.per (per1.trans per2)) rel2 dvs (fun c nc => q2 _ c ?_ (fun x => ?_) (List.pairwise_map.mpr hs) nc) nc
    · refine perm2.nodup_iff.mpr ?_
      have := List.pairwise_map.mp nd
      exact List.pairwise_map.mpr (this.imp fun hne e => hne (dOf_inj e))
    · rw [perm2.mem_iff]
      constructor
      · intro hx'
        obtain ⟨p, hp, rfl⟩ := List.mem_map.mp hx'
        exact inl p hp
      · intro hx'
        rw [k2] at hx'
        obtain ⟨p, hp, rfl⟩ := List.mem_map.mp hx'
        obtain ⟨p', hp', e⟩ := List.mem_map.mp (all p hp)
        exact List.mem_map.mpr ⟨p', hp', by rw [e]⟩
end
end T3
end
-- T3Ast
section
set_option maxRecDepth 100000
set_option maxHeartbeats 4000000
/-! T3Ast: the small programs as data of my own. -/
namespace T3
open PySem L2
inductive Ex where
  | int (n : Int) | var (v : Int) | cell (a : Str) (e : Ex) | one (o : Str) (e : Ex) | two (o : Str) (e f : Ex)
inductive Sm where
  | set (v : Int) (e : Ex) | take (v : Int) | put (e : Ex) | store (a : Str) (e f : Ex) | assert (k : Int) (e : Ex) | call (v : Int) (p : Str) (es : List Ex)
inductive Nd where
  | go (l : Int) | iff (e : Ex) (l m : Int) | ret (e : Ex)
structure Bk where
  label : Int
  body : List Sm
  nd : Nd
structure Pr where
  name : Str
  params : Int
  blocks : List Bk
structure Pg where
  w : Int
  arrays : List (Str × Int)
  procs : List Pr
def Ex.toD : Ex → D
  | .int n => .tup [.str "int", .int n]
  | .var v => .tup [.str "var", .int v]
  | .cell a e => .tup [.str "cell", .str a, e.toD]
  | .one o e => .tup [.str o, e.toD]
  | .two o e f => .tup [.str o, e.toD, f.toD]
def Sm.toD : Sm → D
  | .set v e => .tup [.str "set", .int v, e.toD]
  | .take v => .tup [.str "take", .int v]
  | .put e => .tup [.str "put", e.toD]
  | .store a e f => .tup [.str "store", .str a, e.toD, f.toD]
  | .assert k e => .tup [.str "assert", .int k, e.toD]
  | .call v p es => .tup [.str "call", .int v, .str p, .tup (es.map Ex.toD)]
def Nd.toD : Nd → D
  | .go l => .tup [.str "go", .int l]
  | .iff e l m => .tup [.str "if", e.toD, .int l, .int m]
  | .ret e => .tup [.str "return", e.toD]
def Bk.toD (b : Bk) : D := .tup [.int b.label, .tup (b.body.map Sm.toD), b.nd.toD]
def Pr.toD (p : Pr) : D := .tup [.str p.name, .int p.params, .tup (p.blocks.map Bk.toD)]
def arD (a : Str × Int) : D := .tup [.str a.1, .int a.2]
def Pg.toD (p : Pg) : D := .tup [.int p.w, .tup (p.arrays.map arD), .tup (p.procs.map Pr.toD)]
def pairOps : List Str := ["add", "sub", "mul", "and", "or", "xor", "shl", "shr", "less", "equal"]
def singleOps : List Str := ["not", "neg"]
/-- an expression, nested at most n deep, of words below top, over arrays -/
def Ex.Wf (top : Int) (ars : List (Str × Int)) : Nat → Ex → Prop
  | 0, _ => False
  | _ + 1, .int n => 0 ≤ n ∧ n < top
  | _ + 1, .var v => 0 ≤ v ∧ v ≤ 39
  | n + 1, .cell a e => (∃ z, (a, z) ∈ ars) ∧ e.Wf top ars n
  | n + 1, .one o e => o ∈ singleOps ∧ e.Wf top ars n
  | n + 1, .two o e f => o ∈ pairOps ∧ e.Wf top ars n ∧ f.Wf top ars n
theorem Ex.Wf.mono {top : Int} {ars : List (Str × Int)} : ∀ {n m : Nat} {e : Ex}, e.Wf top ars n → n ≤ m → e.Wf top ars m
  | 0, _, _, h, _ => h.elim
  | n + 1, m, e, h, hm => by
    obtain ⟨m, rfl⟩ : ∃ k, m = k + 1 := ⟨m - 1, by omega⟩
    have hm : n ≤ m := by omega
    cases e with
    | int => exact h
    | var => exact h
    | cell a e => exact ⟨h.1, h.2.mono hm⟩
    | one o e => exact ⟨h.1, h.2.mono hm⟩
    | two o e f => exact ⟨h.1, h.2.1.mono hm, h.2.2.mono hm⟩
def Sm.Wf (top : Int) (ars : List (Str × Int)) (others : List (Str × Int)) : Sm → Prop
  | .set v e => (0 ≤ v ∧ v ≤ 39) ∧ e.Wf top ars 5
  | .take v => 0 ≤ v ∧ v ≤ 39
  | .put e => e.Wf top ars 5
  | .store a e f => (∃ z, (a, z) ∈ ars) ∧ e.Wf top ars 5 ∧ f.Wf top ars 5
  | .assert k e => (0 ≤ k ∧ k ≤ 99) ∧ e.Wf top ars 5
  | .call v p es => (0 ≤ v ∧ v ≤ 39) ∧ (p, (es.length : Int)) ∈ others ∧ ∀ e ∈ es, e.Wf top ars 5
def Nd.Wf (top : Int) (ars : List (Str × Int)) (labels : List Int) : Nd → Prop
  | .go l => l ∈ labels
  | .iff e l m => e.Wf top ars 5 ∧ l ∈ labels ∧ m ∈ labels
  | .ret e => e.Wf top ars 5
end T3
end
-- T3Gen
section
set_option maxRecDepth 100000
set_option maxHeartbeats 4000000
/-! T3Gen: the promises of the laws' drawing defs. -/
namespace T3
open PySem PySem.Spec L2
theorem en_rt {k : K1} {d : D} {h : H3} (q : k d h) : (en k).rt d h := ⟨h, Sub.refl h, q⟩
theorem en_rt' {k : K1} {d : D} {h h' : H3} (q : k d h) (s : Sub h h') : (en k).rt d h' := ⟨h, s, q⟩
theorem atI_pos {α : Type} {l : List α} {i : Int} (h0 : 0 ≤ i) (h1 : i < l.length) : atI l i = some (l[i.toNat]'(by omega)) := by
  obtain ⟨n, rfl⟩ := Int.eq_ofNat_of_zero_le h0
  have hn : n < l.length := by omega
  exact atI_nat (List.getElem?_eq_getElem hn)
theorem atI_in {α : Type} {l : List α} {i : Int} (h0 : 0 ≤ i) (h1 : i < l.length) : ∃ x ∈ l, atI l i = some x := ⟨_, List.getElem_mem _, atI_pos h0 h1⟩
/-- the draw at dr -/
def Drw (h : H3) (dr : Addr) : Prop := ∃ (c : Addr) (ns : List Int) (i q s : Int), h dr = some (.lst [.ref c, .int i, .int q, .int s]) ∧ h c = some (.lst (ns.map .int)) ∧ -1 ≤ i ∧ 0 ≤ q ∧ 0 ≤ s ∧ ∀ n ∈ ns, 0 ≤ n
theorem Drw.ne {h : H3} {dr c : Addr} {ns : List Int} {i q s : Int} (hd : h dr = some (.lst [.ref c, .int i, .int q, .int s])) (hc : h c = some (.lst (ns.map .int))) : c ≠ dr := fun z => by
  subst z; rw [hd] at hc
  have := congrArg (fun o => match o with | some (O.lst (D.ref _ :: _)) => true | _ => false) hc
  cases ns <;> simp at this
theorem Drw.mk' {h : H3} {dr c : Addr} {ns : List Int} {i' q' s' : Int} (hcd : c ≠ dr) (hc : h c = some (.lst (ns.map .int))) (hi : -1 ≤ i') (hq : 0 ≤ q') (hs : 0 ≤ s') (hn : ∀ n ∈ ns, 0 ≤ n) : Drw (up h dr (.lst [.ref c, .int i', .int q', .int s'])) dr :=
  ⟨c, ns, i', q', s', up_same, by rw [up_ne hcd]; exact hc, hi, hq, hs, hn⟩
theorem Drw.some {h : H3} {dr : Addr} (d : Drw h dr) : h dr ≠ none := by
  obtain ⟨c, ns, i, q, s, e, _⟩ := d
  rw [e]; exact fun z => nomatch z
/-- h' is h but for the draw, and what was made since -/
structure Grow (dr : Addr) (h h' : H3) : Prop where
  keep : ∀ a o, a ≠ dr → h a = some o → h' a = some o
  drw : Drw h' dr
  same : ∀ c r, h dr = some (.lst (.ref c :: r)) → ∃ r', h' dr = some (.lst (.ref c :: r'))
theorem Grow.upd {dr c : Addr} {h : H3} {r r' : List D} (e : h dr = some (.lst (.ref c :: r))) (d : Drw (up h dr (.lst (.ref c :: r'))) dr) : Grow dr h (T3.up h dr (.lst (.ref c :: r'))) :=
  ⟨fun a u n e => by rw [up_ne n]; exact e, d, fun c' r0 e' => by rw [e] at e'; cases e'; exact ⟨r', up_same⟩⟩
theorem Grow.refl {dr : Addr} {h : H3} (d : Drw h dr) : Grow dr h h := ⟨fun _ _ _ e => e, d, fun _ r e => ⟨r, e⟩⟩
theorem Grow.trans {dr : Addr} {h h1 h2 : H3} (a : Grow dr h h1) (b : Grow dr h1 h2) : Grow dr h h2 := ⟨fun c o n e => b.keep c o n (a.keep c o n e), b.drw, fun c r e => let ⟨_, e'⟩ := a.same c r e; b.same c _ e'⟩
theorem Drw.new {h : H3} {dr p : Addr} {o : O} (d : Drw h dr) (n : h p = none) : Drw (T3.up h p o) dr := by
  obtain ⟨c, ns, i, q, s, e, e2, r⟩ := d
  have h1 : dr ≠ p := fun z => by subst z; rw [n] at e; cases e
  have h2 : c ≠ p := fun z => by subst z; rw [n] at e2; cases e2
  exact ⟨c, ns, i, q, s, by rw [up_ne h1]; exact e, by rw [up_ne h2]; exact e2, r⟩
/-- something new -/
theorem Grow.new {dr p : Addr} {h h' : H3} {o : O} (g : Grow dr h h') (n : h' p = none) : Grow dr h (T3.up h' p o) :=
  ⟨fun a u ha e => by
    have e' := g.keep a u ha e
    have hp : a ≠ p := fun z => by subst z; rw [n] at e'; cases e'
    rw [up_ne hp]; exact e', g.drw.new n, fun c r e => by
    obtain ⟨r', e'⟩ := g.same c r e
    have hp : dr ≠ p := fun z => by subst z; rw [n] at e'; cases e'
    exact ⟨r', by rw [up_ne hp]; exact e'⟩⟩
/-- a thing of ours, newer than h, is written -/
theorem Grow.write {dr p : Addr} {h h' : H3} {o : O} (g : Grow dr h h') (d : Drw h dr) (n : h p = none) : Grow dr h (T3.up h' p o) := by
  obtain ⟨c, ns, i, q, s, e, e2, r⟩ := d
  have hdp : dr ≠ p := fun z => by subst z; rw [n] at e; cases e
  have hcp : c ≠ p := fun z => by subst z; rw [n] at e2; cases e2
  have hcd := Drw.ne e e2
  refine ⟨fun a u ha e => ?_, ?_, fun c' r' e' => ?_⟩
  · have hp : a ≠ p := fun z => by subst z; rw [n] at e; cases e
    rw [up_ne hp]; exact g.keep a u ha e
  · obtain ⟨c', ns', i', q', s', e', e2', r'⟩ := g.drw
    obtain ⟨r0, e0⟩ := g.same c _ e
    rw [e0] at e'
    cases e'
    exact ⟨c, ns', i', q', s', by rw [up_ne hdp]; exact e0, by rw [up_ne hcp]; exact e2', r'⟩
  · obtain ⟨r0, e0⟩ := g.same c' r' e'
    exact ⟨r0, by rw [up_ne hdp]; exact e0⟩
theorem Drw.fresh {h : H3} {dr p : Addr} (d : Drw h dr) (n : h p = none) : p ≠ dr := fun z => by subst z; exact d.some n
theorem Grow.born {dr p : Addr} {h h' : H3} {o : O} (d : Drw h dr) (n : h p = none) (g : Grow dr (T3.up h p o) h') : Grow dr h h' ∧ h' p = some o :=
  ⟨((Grow.refl d).new n).trans g, g.keep p _ (d.fresh n) up_same⟩
def p2 (n : Int) : Int := 2 ^ n.toNat
theorem p2_pos {n : Int} : 0 < p2 n := Int.pow_pos (by decide)
theorem p2_le {n m : Int} (h : n ≤ m) : p2 n ≤ p2 m := by
  unfold p2
  have : (2 : Nat) ^ n.toNat ≤ 2 ^ m.toNat := Nat.pow_le_pow_right (by decide) (by omega)
  have e : ∀ k : Nat, (2 : Int) ^ k = ((2 ^ k : Nat) : Int) := fun k => by simp
  rw [e, e]; omega
theorem p2_16 {n : Int} (h : n ≤ 16) : p2 n ≤ 65536 := p2_le (m := 16) h
/-! promises -/
def sp_take : Sp3 := fun l h k => ∃ (dr : Addr) (many : Int), l = [.ref dr, .int many] ∧ Drw h dr ∧ 0 < many ∧ (many < 1073741824 ∨ many.natAbs.log2 < 9000) ∧ ∀ r h', 0 ≤ r → r < many → Grow dr h h' → k (.int r) h'
def sp_top : Sp3 := fun l h k => ∃ w : Int, l = [.int w] ∧ 0 ≤ w ∧ w ≤ 1000 ∧ k (.int (p2 w - 1)) h
def sp_ops : Sp3 := fun l h k => l = [] ∧ ∀ p, h p = none → k (.ref p) (up h p (.lst (pairOps.map .str)))
def sp_variable : Sp3 := fun l h k => ∃ dr : Addr, l = [.ref dr] ∧ Drw h dr ∧ ∀ r h', 0 ≤ r → r ≤ 39 → Grow dr h h' → k (.int r) h'
def sp_word : Sp3 := fun l h k => ∃ (dr : Addr) (w : Int), l = [.ref dr, .int w] ∧ Drw h dr ∧ 1 ≤ w ∧ w ≤ 16 ∧ ∀ r h', 0 ≤ r → r < p2 w → Grow dr h h' → k (.int r) h'
/-- what is drawn for -/
structure PAt (h : H3) (p dr : Addr) (w : Int) (ars : List (Str × Int)) : Prop where
  at_ : h p = some (.dK [(.inr "draw", .ref dr), (.inr "width", .int w), (.inr "arrays", .tup (ars.map arD))])
  w1 : 1 ≤ w
  w2 : w ≤ 16
  few : ars.length ≤ 3
  sz : ∀ a ∈ ars, 1 ≤ a.2 ∧ a.2 ≤ 8
  okn : ∀ a ∈ ars, PyData.strOk a.1 = true
theorem PAt.grow {h h' : H3} {p dr : Addr} {w : Int} {ars : List (Str × Int)} (x : PAt h p dr w ars) (g : Grow dr h h') (d : Drw h dr) : PAt h' p dr w ars :=
  ⟨g.keep _ _ (fun z => by
    obtain ⟨c, ns, i, q, s, e, _⟩ := d
    have := x.at_
    rw [z, e] at this; cases this) x.at_, x.w1, x.w2, x.few, x.sz, x.okn⟩
theorem PAt.okL {h : H3} {p dr : Addr} {w : Int} {ars : List (Str × Int)} (x : PAt h p dr w ars) : D.okL (ars.map arD) = true := by
  rw [okL_iff]
  intro d hd
  obtain ⟨a, ha, rfl⟩ := List.mem_map.mp hd
  simp [arD, D.ok, D.okL, x.okn a ha]
def sp_expression (n : Nat) : Sp3 := fun l h k => ∃ (p dr : Addr) (w : Int) (ars : List (Str × Int)) (depth : Int), l = [.ref p, .int depth] ∧ (0 ≤ depth ∧ depth < n) ∧ Drw h dr ∧ PAt h p dr w ars ∧
  ∀ (e : Ex) h', e.Wf (p2 w) ars (n + 2) → Grow dr h h' → k e.toD h'
def sp_index (n : Nat) : Sp3 := fun l h k => ∃ (p dr : Addr) (w : Int) (ars : List (Str × Int)) (size depth : Int), l = [.ref p, .int size, .int depth] ∧ 1 ≤ size ∧ size ≤ 8 ∧ (0 ≤ depth ∧ depth < n) ∧ Drw h dr ∧ PAt h p dr w ars ∧
  ∀ (e : Ex) h', e.Wf (p2 w) ars (n + 2) → Grow dr h h' → k e.toD h'
def othD (a : Str × Int) : D := .tup [.str a.1, .int a.2]
def sp_row : Sp3 := fun l h k => ∃ (p dr oa : Addr) (w : Int) (ars others : List (Str × Int)), l = [.ref p, .ref oa] ∧ Drw h dr ∧ PAt h p dr w ars ∧ h oa = some (.lst (others.map othD)) ∧ others.length ≤ 2 ∧ (∀ o ∈ others, (0 ≤ o.2 ∧ o.2 ≤ 3) ∧ PyData.strOk o.1 = true) ∧
  ∀ (e : Sm) h', e.Wf (p2 w) ars others → Grow dr h h' → k e.toD h'
/-- a comprehension that draws -/
theorem lc_grow {dr p : Addr} {i : Nat} {e : WE} {ρ : Ev} {k : K1} {h0 : H3} {P : D → Prop} (hd : Drw h0 dr) (np : h0 p = none) {l : List D} (hl : l.length ≤ 1000)
    (step : ∀ h x, x ∈ l → Grow dr h0 h → ∀ K : K1, (∀ d h2, P d → Grow dr h h2 → K d h2) → e (ρ.set i (some x)) h K)
    (done : ∀ m h', m.length = l.length → (∀ d ∈ m, P d) → Grow dr h0 h' → h' p = some (.lst m) → k (.ref p) h') :
    lcW (fun _ => True) i wYes e p ρ k l (up h0 p (.lst [])) := by
  have gen : ∀ (r : List D) (acc : List D) (h : H3), (∀ x ∈ r, x ∈ l) → acc.length + r.length = l.length → (∀ d ∈ acc, P d) → Grow dr h0 h → h p = some (.lst acc) → lcW (fun _ => True) i wYes e p ρ k r h := by
    intro r
    induction r with
    | nil =>
      intro acc h _ hlen ha g e0
      exact ⟨trivial, done acc h (by simpa using hlen) ha g e0⟩
    | cons x r ih =>
      intro acc h hx hlen ha g e0
      refine ⟨trivial, ?_⟩
      simp only [wYes, if_true]
      refine step h x (hx x List.mem_cons_self) g _ fun d h2 pd g2 => ?_
      have hpd : p ≠ dr := hd.fresh np
      have e2 := g2.keep p _ hpd e0
      simp only [List.length_cons] at hlen
      refine ⟨acc, e2, by omega, _, Sub.refl _, ?_⟩
      refine ih (acc ++ [d]) _ (fun y hy => hx y (List.mem_cons_of_mem _ hy)) (by simp; omega) (fun y hy => ?_) ((g.trans g2).write hd np) up_same
      rcases List.mem_append.mp hy with hy | hy
      · exact ha y hy
      · rw [List.mem_singleton.mp hy]; exact pd
  exact gen l [] _ (fun x hx => hx) (by simp) (fun _ h => nomatch h) ((Grow.refl hd).new np) up_same
@[simp] theorem lcs_rg1 {t : WA} {i : Nat} {tt : WT} {e : WE} {ρ : Ev} {h : H3} {k : K1} : wLc (wRg1 t) i tt e ρ h k ↔ t ρ h fun l h1 => ∃ j : Int, l = [.int j] ∧ -4611686018427387904 ≤ j ∧ j < 4611686018427387904 ∧ ∀ p, h1 p = none → lcW (fun _ => True) i tt e p ρ k (rgD 0 j.toNat) (up h1 p (.lst [])) := Iff.rfl
def lcD (i : Nat) (tt : WT) (e : WE) (ρ : Ev) (k : K1) : D → H3 → Prop
  | .tup l, h1 => ∀ p, h1 p = none → lcW (fun _ => True) i tt e p ρ k l (up h1 p (.lst []))
  | .ref a, h1 => (∃ l, h1 a = some (.lst l)) ∧ ∀ p, h1 p = none → ∃ l, h1 a = some (.lst l) ∧ lcW (fun h => h a = some (.lst l)) i tt e p ρ k l (up h1 p (.lst []))
  | .str z, h1 => ∀ p, h1 p = none → lcW (fun _ => True) i tt e p ρ k (z.cps.toList.map fun c => .str ⟨#[c]⟩) (up h1 p (.lst []))
  | _, _ => False
@[simp] theorem lcs_it {a : WE} {i : Nat} {tt : WT} {e : WE} {ρ : Ev} {h : H3} {k : K1} : wLc (wIter a) i tt e ρ h k ↔ a ρ h (lcD i tt e ρ k) := by
  refine Iff.of_eq (congrArg (a ρ h) ?_)
  funext d h1
  cases d <;> rfl
@[simp] theorem lcD_tup {i : Nat} {tt : WT} {e : WE} {ρ : Ev} {k : K1} {l : List D} {h1 : H3} : lcD i tt e ρ k (.tup l) h1 ↔ ∀ p, h1 p = none → lcW (fun _ => True) i tt e p ρ k l (up h1 p (.lst [])) := Iff.rfl
@[simp] theorem lcD_ref {i : Nat} {tt : WT} {e : WE} {ρ : Ev} {k : K1} {a : Addr} {h1 : H3} : lcD i tt e ρ k (.ref a) h1 ↔ (∃ l, h1 a = some (.lst l)) ∧ ∀ p, h1 p = none → ∃ l, h1 a = some (.lst l) ∧ lcW (fun h => h a = some (.lst l)) i tt e p ρ k l (up h1 p (.lst [])) := Iff.rfl
/-- a comprehension of no effect, over a list that stays -/
theorem lc_pure {chk : H3 → Prop} {p : Addr} {i : Nat} {tt : WT} {e : WE} {ρ : Ev} {k : K1} {h0 : H3} {l : List D} (t : D → Bool) (f : D → D) (hl : l.length < 16777216)
    (hc : ∀ o h, Sub (up h0 p o) h → chk h)
    (tst : ∀ x ∈ l, ∀ o h, Sub (up h0 p o) h → ∀ K : Bool → H3 → Prop, (∀ h2, Sub h h2 → K (t x) h2) → tt (ρ.set i (some x)) h K)
    (step : ∀ x ∈ l, t x = true → ∀ o h, Sub (up h0 p o) h → ∀ K : K1, (∀ h2, Sub h h2 → K (f x) h2) → e (ρ.set i (some x)) h K)
    (done : k (.ref p) (up h0 p (.lst ((l.filter t).map f)))) : lcW chk i tt e p ρ k l (up h0 p (.lst [])) := by
  have gen : ∀ (r a : List D), a ++ r = l → lcW chk i tt e p ρ k r (up h0 p (.lst ((a.filter t).map f))) := by
    intro r
    induction r with
    | nil =>
      intro a e0
      simp only [List.append_nil] at e0
      subst e0
      exact ⟨hc _ _ (Sub.refl _), done⟩
    | cons x r ih =>
      intro a e0
      have hx : x ∈ l := by rw [← e0]; exact List.mem_append_right _ List.mem_cons_self
      have ih' := ih (a ++ [x]) (by simpa using e0)
      have hlen := congrArg List.length e0
      simp only [List.length_append, List.length_cons] at hlen
      refine ⟨hc _ _ (Sub.refl _), tst x hx _ _ (Sub.refl _) _ fun h1 s1 => ?_⟩
      have hfl : ((a.filter t).map f).length ≤ a.length := by rw [List.length_map]; exact List.length_filter_le _ _
      cases hb : t x with
      | true =>
        simp only [if_true]
        refine step x hx hb _ _ s1 _ fun h2 s2 => ?_
        refine ⟨_, s2 _ _ (s1 _ _ up_same), by omega, _, ?_, ih'⟩
        have e1 : ((a ++ [x]).filter t).map f = (a.filter t).map f ++ [f x] := by simp [List.filter_append, hb]
        rw [e1]
        intro b u eb
        by_cases hbp : b = p
        · subst hbp; rw [up_same] at eb ⊢; exact eb
        · rw [up_ne hbp] at eb ⊢; exact s2 _ _ (s1 _ _ (by rw [up_ne hbp]; exact eb))
      | false =>
        refine ⟨_, s1, ?_⟩
        have e1 : ((a ++ [x]).filter t).map f = (a.filter t).map f := by simp [List.filter_append, hb]
        rw [e1] at ih'
        exact ih'
  exact gen l [] rfl
theorem lc_map {chk : H3 → Prop} {p : Addr} {i : Nat} {e : WE} {ρ : Ev} {k : K1} {h0 : H3} {l : List D} (f : D → D) (hl : l.length < 16777216)
    (hc : ∀ o h, Sub (up h0 p o) h → chk h)
    (step : ∀ x ∈ l, ∀ o h, Sub (up h0 p o) h → ∀ K : K1, (∀ h2, Sub h h2 → K (f x) h2) → e (ρ.set i (some x)) h K)
    (done : k (.ref p) (up h0 p (.lst (l.map f)))) : lcW chk i wYes e p ρ k l (up h0 p (.lst [])) := by
  refine lc_pure (fun _ => true) f hl hc (fun _ _ _ _ _ _ q => q _ (Sub.refl _)) (fun x hx _ => step x hx) ?_
  rw [List.filter_eq_self.mpr (fun _ _ => rfl)]; exact done
/-- over range(n) -/
theorem lc_rg {chk : H3 → Prop} {p : Addr} {i : Nat} {e : WE} {ρ : Ev} {k : K1} {h0 : H3} {n : Nat} (f : Nat → D) (hl : n < 16777216)
    (hc : ∀ o h, Sub (up h0 p o) h → chk h)
    (step : ∀ x, x < n → ∀ o h, Sub (up h0 p o) h → ∀ K : K1, (∀ h2, Sub h h2 → K (f x) h2) → e (ρ.set i (some (.int x))) h K)
    (done : k (.ref p) (up h0 p (.lst ((List.range n).map f)))) : lcW chk i wYes e p ρ k (rgD 0 n) (up h0 p (.lst [])) := by
  refine lc_map (fun d => match d with | .int j => f j.toNat | _ => .non) (by simpa [rgD] using hl) hc (fun x hx => ?_) ?_
  · simp [rgD] at hx
    obtain ⟨j, hj, rfl⟩ := hx
    exact step j hj
  · rw [show (rgD 0 n).map _ = (List.range n).map f by simp [rgD]]; exact done
@[simp] theorem fors_rg1 {t : WA} {g : WG} {body : WS} {E : En} {ρ : Ev} {h : H3} : wFor (wRg1 t) g body E ρ h ↔ t ρ h fun l h1 => ∃ j : Int, l = [.int j] ∧ -4611686018427387904 ≤ j ∧ j < 4611686018427387904 ∧ forW (fun _ => True) g body E (rgD 0 j.toNat) ρ h1 := Iff.rfl
def forD (g : WG) (body : WS) (E : En) (ρ : Ev) : D → H3 → Prop
  | .tup l, h1 => forW (fun _ => True) g body E l ρ h1
  | .ref a, h1 => (∃ l, h1 a = some (.lst l)) ∧ ∃ l, h1 a = some (.lst l) ∧ forW (fun h => h a = some (.lst l)) g body E l ρ h1
  | .str z, h1 => forW (fun _ => True) g body E (z.cps.toList.map fun c => .str ⟨#[c]⟩) ρ h1
  | _, _ => False
@[simp] theorem fors_it {a : WE} {g : WG} {body : WS} {E : En} {ρ : Ev} {h : H3} : wFor (wIter a) g body E ρ h ↔ a ρ h (forD g body E ρ) := by
  refine Iff.of_eq (congrArg (a ρ h) ?_)
  funext d h1
  cases d <;> rfl
@[simp] theorem forD_tup {g : WG} {body : WS} {E : En} {ρ : Ev} {l : List D} {h1 : H3} : forD g body E ρ (.tup l) h1 ↔ forW (fun _ => True) g body E l ρ h1 := Iff.rfl
@[simp] theorem forD_ref {g : WG} {body : WS} {E : En} {ρ : Ev} {a : Addr} {h1 : H3} : forD g body E ρ (.ref a) h1 ↔ (∃ l, h1 a = some (.lst l)) ∧ ∃ l, h1 a = some (.lst l) ∧ forW (fun h => h a = some (.lst l)) g body E l ρ h1 := Iff.rfl
@[simp] theorem forD_str {g : WG} {body : WS} {E : En} {ρ : Ev} {z : Str} {h1 : H3} : forD g body E ρ (.str z) h1 ↔ forW (fun _ => True) g body E (z.cps.toList.map fun c => .str ⟨#[c]⟩) ρ h1 := Iff.rfl
/-- a for with an invariant -/
theorem for_inv {chk : H3 → Prop} {g : WG} {body : WS} {E : En} {l : List D} {ρ : Ev} {h : H3} (I : Nat → Ev → H3 → Prop)
    (hc : ∀ j ρ h, j ≤ l.length → I j ρ h → chk h) (h0 : I 0 ρ h)
    (step : ∀ j x ρ h, l[j]? = some x → I j ρ h → ∀ N : Ev → H3 → Prop, (∀ ρ2 h2, I (j + 1) ρ2 h2 → N ρ2 h2) → g x ρ h fun ρ1 h1 => body { nx := N, ct := N, bk := E.nx, rt := E.rt } ρ1 h1)
    (done : ∀ ρ h, I l.length ρ h → E.nx ρ h) : forW chk g body E l ρ h := by
  have gen : ∀ (r : List D) (j : Nat), j ≤ l.length → l.drop j = r → ∀ ρ h, I j ρ h → forW chk g body E r ρ h := by
    intro r
    induction r with
    | nil =>
      intro j hj ej ρ h q
      have : j = l.length := by have := congrArg List.length ej; simp at this; omega
      subst this
      exact ⟨hc _ _ _ hj q, done _ _ q⟩
    | cons x r ih =>
      intro j hj ej ρ h q
      have hx : l[j]? = some x := by have z := List.getElem?_drop (xs := l) (i := j) (j := 0); rw [ej] at z; simpa using z.symm
      have hlt : j < l.length := by
        rcases Nat.lt_or_ge j l.length with z | z
        · exact z
        · rw [List.getElem?_eq_none z] at hx; cases hx
      refine ⟨hc _ _ _ hj q, step j x ρ h hx q _ fun ρ2 h2 q2 => ⟨h2, Sub.refl _, ih (j + 1) (by omega) ?_ _ _ q2⟩⟩
      rw [← List.drop_drop, ej]; rfl
  exact gen l 0 (by omega) rfl ρ h h0
def lbl (gap : Int) (k : Nat) : Int := (5 + gap * k) % 17
def Bk.Wf (top : Int) (ars others : List (Str × Int)) (labels : List Int) (b : Bk) : Prop := b.label ∈ labels ∧ (b.body.length ≤ 4 ∧ ∀ s ∈ b.body, s.Wf top ars others) ∧ b.nd.Wf top ars labels.tail
structure BksWf (top : Int) (ars others : List (Str × Int)) (bs : List Bk) : Prop where
  lab : ∃ (gap : Int) (n : Nat), 1 ≤ gap ∧ gap ≤ 3 ∧ 1 ≤ n ∧ n ≤ 6 ∧ bs.map Bk.label = (List.range n).map (lbl gap)
  each : ∀ b ∈ bs, b.Wf top ars others (bs.map Bk.label)
def sp_blocks : Sp3 := fun l h k => ∃ (p dr oa : Addr) (w : Int) (ars others : List (Str × Int)) (blocks rows : Int), l = [.ref p, .ref oa, .int blocks, .int rows] ∧ 1 ≤ blocks ∧ blocks ≤ 6 ∧ 1 ≤ rows ∧ rows ≤ 4 ∧ Drw h dr ∧ PAt h p dr w ars ∧ h oa = some (.lst (others.map othD)) ∧ others.length ≤ 2 ∧ (∀ o ∈ others, (0 ≤ o.2 ∧ o.2 ≤ 3) ∧ PyData.strOk o.1 = true) ∧
  ∀ (bs : List Bk) h', BksWf (p2 w) ars others bs → Grow dr h h' → k (.tup (bs.map Bk.toD)) h'
end T3
end
-- T3Wf
section
set_option maxRecDepth 100000
set_option maxHeartbeats 4000000
/-! T3Wf: programs as data: readable, shallow, sorted. -/
namespace T3
open PySem PySem.Spec PySem.W L2
theorem py_tup {l : List D} : (D.tup l).py = .tuple (D.pyL l) := by simp [D.py]
theorem pyL_map {α : Type} {f : α → D} : ∀ {l : List α}, D.pyL (l.map f) = l.map fun x => (f x).py
  | [] => by simp [D.pyL]
  | x :: l => by simp [D.pyL, pyL_map (l := l)]
theorem depthAll_le {n : Nat} : ∀ {l : List PyData}, (∀ x ∈ l, x.depth ≤ n) → PyData.depthAll l ≤ n
  | [], _ => by simp [PyData.depthAll]
  | x :: l, h => by
    have h1 := h x List.mem_cons_self
    have h2 := depthAll_le (l := l) fun y hy => h y (List.mem_cons_of_mem _ hy)
    simp only [PyData.depthAll]; omega
theorem Ex.Wf.dep {top : Int} {ars : List (Str × Int)} : ∀ {n : Nat} {e : Ex}, e.Wf top ars n → e.toD.py.depth ≤ n
  | 0, _, h => h.elim
  | n + 1, .int _, _ => by simp [Ex.toD, D.py, D.pyL, PyData.depth, PyData.depthAll]
  | n + 1, .var _, _ => by simp [Ex.toD, D.py, D.pyL, PyData.depth, PyData.depthAll]
  | n + 1, .cell a e, h => by
    have := Ex.Wf.dep h.2
    simp [Ex.toD, D.py, D.pyL, PyData.depth, PyData.depthAll]; omega
  | n + 1, .one a e, h => by
    have := Ex.Wf.dep h.2
    simp [Ex.toD, D.py, D.pyL, PyData.depth, PyData.depthAll]; omega
  | n + 1, .two a e f, h => by
    have := Ex.Wf.dep h.2.1
    have := Ex.Wf.dep h.2.2
    simp [Ex.toD, D.py, D.pyL, PyData.depth, PyData.depthAll]; omega
theorem Ex.Wf.ok {top : Int} {ars : List (Str × Int)} (ho : ∀ a ∈ ars, PyData.strOk a.1 = true) : ∀ {n : Nat} {e : Ex}, e.Wf top ars n → e.toD.ok = true
  | 0, _, h => h.elim
  | n + 1, .int _, _ => by simp [Ex.toD, D.ok, D.okL]; decide +kernel
  | n + 1, .var _, _ => by simp [Ex.toD, D.ok, D.okL]; decide +kernel
  | n + 1, .cell a e, h => by
    obtain ⟨⟨z, hz⟩, h2⟩ := h
    have h1 : PyData.strOk "cell" = true := by decide +kernel
    simp [Ex.toD, D.ok, D.okL, Ex.Wf.ok ho h2, ho _ hz, h1]
  | n + 1, .one a e, h => by
    have h1 : PyData.strOk a = true := by
      have := h.1
      simp only [singleOps, List.mem_cons, List.not_mem_nil, or_false] at this
      rcases this with rfl | rfl <;> decide +kernel
    simp [Ex.toD, D.ok, D.okL, Ex.Wf.ok ho h.2, h1]
  | n + 1, .two a e f, h => by
    have h1 : PyData.strOk a = true := by
      have := h.1
      simp only [pairOps, List.mem_cons, List.not_mem_nil, or_false] at this
      rcases this with rfl | rfl | rfl | rfl | rfl | rfl | rfl | rfl | rfl | rfl <;> decide +kernel
    simp [Ex.toD, D.ok, D.okL, Ex.Wf.ok ho h.2.1, Ex.Wf.ok ho h.2.2, h1]
section
variable {top : Int} {ars others : List (Str × Int)}
theorem Sm.Wf.dep {s : Sm} (h : s.Wf top ars others) : s.toD.py.depth ≤ 8 := by
  cases s with
  | set v e => have := h.2.dep; simp [Sm.toD, D.py, D.pyL, PyData.depth, PyData.depthAll]; omega
  | take v => simp [Sm.toD, D.py, D.pyL, PyData.depth, PyData.depthAll]
  | put e => have := Ex.Wf.dep h; simp [Sm.toD, D.py, D.pyL, PyData.depth, PyData.depthAll]; omega
  | store a e f => have := h.2.1.dep; have := h.2.2.dep; simp [Sm.toD, D.py, D.pyL, PyData.depth, PyData.depthAll]; omega
  | assert k e => have := h.2.dep; simp [Sm.toD, D.py, D.pyL, PyData.depth, PyData.depthAll]; omega
  | call v p es =>
    have : PyData.depthAll (D.pyL (es.map Ex.toD)) ≤ 5 := by
      rw [pyL_map]
      exact depthAll_le fun x hx => by
        obtain ⟨e, he, rfl⟩ := List.mem_map.mp hx
        exact (h.2.2 e he).dep
    simp [Sm.toD, D.py, D.pyL, PyData.depth, PyData.depthAll]; omega
theorem Sm.Wf.ok (ho : ∀ a ∈ ars, PyData.strOk a.1 = true) (hq : ∀ a ∈ others, PyData.strOk a.1 = true) {s : Sm} (h : s.Wf top ars others) : s.toD.ok = true := by
  have c1 : PyData.strOk "set" = true := by decide +kernel
  have c2 : PyData.strOk "take" = true := by decide +kernel
  have c3 : PyData.strOk "put" = true := by decide +kernel
  have c4 : PyData.strOk "store" = true := by decide +kernel
  have c5 : PyData.strOk "assert" = true := by decide +kernel
  have c6 : PyData.strOk "call" = true := by decide +kernel
  cases s with
  | set v e => simp [Sm.toD, D.ok, D.okL, h.2.ok ho, c1]
  | take v => simp [Sm.toD, D.ok, D.okL, c2]
  | put e => simp [Sm.toD, D.ok, D.okL, Ex.Wf.ok ho h, c3]
  | store a e f =>
    obtain ⟨⟨z, hz⟩, h1, h2⟩ := h
    simp [Sm.toD, D.ok, D.okL, h1.ok ho, h2.ok ho, ho _ hz, c4]
  | assert k e => simp [Sm.toD, D.ok, D.okL, h.2.ok ho, c5]
  | call v p es =>
    have : D.okL (es.map Ex.toD) = true := by
      rw [okL_iff]
      intro d hd
      obtain ⟨e, he, rfl⟩ := List.mem_map.mp hd
      exact (h.2.2 e he).ok ho
    have hp := hq _ h.2.1
    simp [Sm.toD, D.ok, D.okL, c6, this]
    exact hp
theorem Nd.Wf.dep {L : List Int} {n : Nd} (h : n.Wf top ars L) : n.toD.py.depth ≤ 8 := by
  cases n with
  | go l => simp [Nd.toD, D.py, D.pyL, PyData.depth, PyData.depthAll]
  | iff e l m => have := h.1.dep; simp [Nd.toD, D.py, D.pyL, PyData.depth, PyData.depthAll]; omega
  | ret e => have := Ex.Wf.dep h; simp [Nd.toD, D.py, D.pyL, PyData.depth, PyData.depthAll]; omega
theorem Nd.Wf.ok (ho : ∀ a ∈ ars, PyData.strOk a.1 = true) {L : List Int} {n : Nd} (h : n.Wf top ars L) : n.toD.ok = true := by
  have c1 : PyData.strOk "go" = true := by decide +kernel
  have c2 : PyData.strOk "if" = true := by decide +kernel
  have c3 : PyData.strOk "return" = true := by decide +kernel
  cases n with
  | go l => simp [Nd.toD, D.ok, D.okL, c1]
  | iff e l m => simp [Nd.toD, D.ok, D.okL, h.1.ok ho, c2]
  | ret e => simp [Nd.toD, D.ok, D.okL, Ex.Wf.ok ho h, c3]
end
/-- a procedure's blocks: at most eight rows each -/
structure BlWf (top : Int) (ars others : List (Str × Int)) (bs : List Bk) : Prop where
  lab : ∃ (gap : Int) (n : Nat), 1 ≤ gap ∧ gap ≤ 3 ∧ 1 ≤ n ∧ n ≤ 6 ∧ bs.map Bk.label = (List.range n).map (lbl gap)
  few : ∀ b ∈ bs, b.body.length ≤ 6
  sms : ∀ b ∈ bs, ∀ s ∈ b.body, s.Wf top ars others
  nds : ∀ b ∈ bs, b.nd.Wf top ars (bs.map Bk.label).tail
theorem BksWf.bl {top : Int} {ars others : List (Str × Int)} {bs : List Bk} (h : BksWf top ars others bs) : BlWf top ars others bs :=
  ⟨h.lab, fun b hb => Nat.le_trans (h.each b hb).2.1.1 (by decide), fun b hb => (h.each b hb).2.1.2, fun b hb => (h.each b hb).2.2⟩
theorem BlWf.pos {top : Int} {ars others : List (Str × Int)} {bs : List Bk} (h : BlWf top ars others bs) : 0 < bs.length ∧ bs.length ≤ 6 := by
  obtain ⟨_, n, _, _, h1, h6, e⟩ := h.lab
  have := congrArg List.length e
  simp at this; omega
theorem Bk.dep {top : Int} {ars others : List (Str × Int)} {bs : List Bk} (h : BlWf top ars others bs) {b : Bk} (hb : b ∈ bs) : b.toD.py.depth ≤ 10 := by
  have h1 := (h.nds b hb).dep
  have h2 : PyData.depthAll (D.pyL (b.body.map Sm.toD)) ≤ 8 := by
    rw [pyL_map]
    exact depthAll_le fun x hx => by
      obtain ⟨e, he, rfl⟩ := List.mem_map.mp hx
      exact (h.sms b hb e he).dep
  simp [Bk.toD, D.py, D.pyL, PyData.depth, PyData.depthAll]; omega
theorem Bk.ok {top : Int} {ars others : List (Str × Int)} (ho : ∀ a ∈ ars, PyData.strOk a.1 = true) (hq : ∀ a ∈ others, PyData.strOk a.1 = true) {bs : List Bk} (h : BlWf top ars others bs) {b : Bk} (hb : b ∈ bs) : b.toD.ok = true := by
  have h2 : D.okL (b.body.map Sm.toD) = true := by
    rw [okL_iff]
    intro d hd
    obtain ⟨e, he, rfl⟩ := List.mem_map.mp hd
    exact (h.sms b hb e he).ok ho hq
  simp [Bk.toD, D.ok, D.okL, (h.nds b hb).ok ho, h2]
theorem Pr.dep {top : Int} {ars others : List (Str × Int)} {p : Pr} (h : BlWf top ars others p.blocks) : p.toD.py.depth ≤ 12 := by
  have h2 : PyData.depthAll (D.pyL (p.blocks.map Bk.toD)) ≤ 10 := by
    rw [pyL_map]
    exact depthAll_le fun x hx => by
      obtain ⟨e, he, rfl⟩ := List.mem_map.mp hx
      exact Bk.dep h he
  simp [Pr.toD, D.py, D.pyL, PyData.depth, PyData.depthAll]; omega
theorem Pr.ok {top : Int} {ars others : List (Str × Int)} (ho : ∀ a ∈ ars, PyData.strOk a.1 = true) (hq : ∀ a ∈ others, PyData.strOk a.1 = true) {p : Pr} (hn : PyData.strOk p.name = true) (h : BlWf top ars others p.blocks) : p.toD.ok = true := by
  have h2 : D.okL (p.blocks.map Bk.toD) = true := by
    rw [okL_iff]
    intro d hd
    obtain ⟨e, he, rfl⟩ := List.mem_map.mp hd
    exact Bk.ok ho hq h he
  simp [Pr.toD, D.ok, D.okL, hn, h2]
/-! sorting -/
theorem sorted_uniq {α : Type} {r : α → α → Prop} : ∀ {l m : List α}, m.Perm l → m.Pairwise r → l.Pairwise r → (∀ x ∈ l, ∀ y ∈ l, r x y → r y x → x = y) → m = l
  | [], m, p, _, _, _ => p.eq_nil
  | x :: l, [], p, _, _, _ => absurd p.length_eq (by simp)
  | x :: l, y :: m, p, hm, hl, ha => by
    have hy : y ∈ x :: l := p.mem_iff.mp List.mem_cons_self
    have hx : x ∈ y :: m := p.mem_iff.mpr List.mem_cons_self
    have e : y = x := by
      rcases List.mem_cons.mp hx with e | hx'
      · exact e.symm
      · rcases List.mem_cons.mp hy with e | hy'
        · exact e
        · exact ha y hy x List.mem_cons_self ((List.pairwise_cons.mp hm).1 x hx') ((List.pairwise_cons.mp hl).1 y hy')
    subst e
    rw [sorted_uniq (p.cons_inv) (List.pairwise_cons.mp hm).2 (List.pairwise_cons.mp hl).2 fun a ha' b hb => ha a (List.mem_cons_of_mem _ ha') b (List.mem_cons_of_mem _ hb)]
mutual
theorem alike_py : ∀ {d : D}, d.ok = true → alike d.py d.py = true
  | .non, _ => rfl
  | .bl _, _ => rfl
  | .int _, _ => rfl
  | .str _, _ => rfl
  | .ref _, h => by simp [D.ok] at h
  | .tup l, h => by simp only [D.py, alike]; exact alikeL_py (by simpa [D.ok] using h)
theorem alikeL_py : ∀ {l : List D}, D.okL l = true → alikeAll (D.pyL l) (D.pyL l) = true
  | [], _ => by simp [D.pyL, alikeAll]
  | d :: l, h => by
    simp only [D.okL, Bool.and_eq_true] at h
    simp [D.pyL, alikeAll, alike_py h.1, alikeL_py h.2]
end
theorem tOk_self : ∀ {l : List D}, D.okL l = true → (∀ d ∈ l, d.py ≠ .none) → tOk (D.pyL l) (D.pyL l)
  | [], _, _ => by simp [D.pyL, tOk]
  | d :: l, h, hn => by
    simp only [D.okL, Bool.and_eq_true] at h
    simp only [D.pyL, tOk]
    exact ⟨alike_py h.1, hn d List.mem_cons_self, fun _ => tOk_self h.2 fun e he => hn e (List.mem_cons_of_mem _ he)⟩
theorem eqv_str {x y : Str} : PyData.eqv (.str x) (.str y) = decide (x = y) := by simp [PyData.eqv, Bool.beq_eq_decide_eq]
theorem ltD_pr {p q : Pr} (h : p.name ≠ q.name) : ltD p.toD q.toD = decide (p.name.cps.toList < q.name.cps.toList) := by
  unfold ltD
  simp only [Pr.toD, D.py, D.pyL, dataLt_tuple]
  rw [dataLt_all_no rfl (by rw [eqv_str]; exact decide_eq_false h), dataLt_str]
abbrev ent (x : Str) (n : Int) : Str × Int := (x, n)
def ArsOk (l : List (Str × Int)) : Prop := l = [] ∨ (∃ n : Int, 1 ≤ n ∧ n ≤ 5 ∧ l = [ent "mem" n]) ∨ (∃ n : Int, 1 ≤ n ∧ n ≤ 3 ∧ l = [ent "a" 2, ent "mem" n]) ∨ ∃ n : Int, 1 ≤ n ∧ n ≤ 8 ∧ l = [ent "a" 8, ent "b_2" 3, ent "mem" n]
def OthOk (l : List (Str × Int)) : Prop := l = [] ∨ l = [ent "aid" 1] ∨ l = [ent "aid" 2, ent "zig" 0] ∨ l = [ent "aid" 3, ent "zig" 1]
def withMain : List (Str × Int) → List (Str × Int)
  | [] => [ent "main" 0]
  | a :: r => a :: ent "main" 0 :: r
structure PgWf (w : Int) (others : List (Str × Int)) (pg : Pg) : Prop where
  wd : pg.w = w
  ars : ArsOk pg.arrays
  oth : OthOk others
  prs : pg.procs.map (fun p => ent p.name p.params) = withMain others
  bls : ∀ p ∈ pg.procs, BlWf (p2 w) pg.arrays others p.blocks
theorem ArsOk.ok {l : List (Str × Int)} (h : ArsOk l) : ∀ a ∈ l, PyData.strOk a.1 = true := by
  have c1 : PyData.strOk "mem" = true := by decide +kernel
  have c2 : PyData.strOk "a" = true := by decide +kernel
  have c3 : PyData.strOk "b_2" = true := by decide +kernel
  rcases h with rfl | ⟨n, _, _, rfl⟩ | ⟨n, _, _, rfl⟩ | ⟨n, _, _, rfl⟩ <;> intro a ha <;> simp at ha
  · rw [ha]; exact c1
  · rcases ha with rfl | rfl
    · exact c2
    · exact c1
  · rcases ha with rfl | rfl | rfl
    · exact c2
    · exact c3
    · exact c1
theorem ArsOk.sz {l : List (Str × Int)} (h : ArsOk l) : l.length ≤ 3 ∧ ∀ a ∈ l, 1 ≤ a.2 ∧ a.2 ≤ 8 := by
  rcases h with rfl | ⟨n, h1, h2, rfl⟩ | ⟨n, h1, h2, rfl⟩ | ⟨n, h1, h2, rfl⟩ <;> refine ⟨by simp, fun a ha => ?_⟩ <;> simp at ha
  · rw [ha]; exact ⟨h1, by show n ≤ 8; omega⟩
  · rcases ha with rfl | rfl
    · exact ⟨by decide, by decide⟩
    · exact ⟨h1, by show n ≤ 8; omega⟩
  · rcases ha with rfl | rfl | rfl
    · exact ⟨by decide, by decide⟩
    · exact ⟨by decide, by decide⟩
    · exact ⟨h1, by show n ≤ 8; omega⟩
theorem OthOk.ok {l : List (Str × Int)} (h : OthOk l) : l.length ≤ 2 ∧ ∀ a ∈ l, (0 ≤ a.2 ∧ a.2 ≤ 3) ∧ PyData.strOk a.1 = true := by
  have c1 : PyData.strOk "aid" = true := by decide +kernel
  have c2 : PyData.strOk "zig" = true := by decide +kernel
  rcases h with rfl | rfl | rfl | rfl <;> refine ⟨by simp, fun a ha => ?_⟩ <;> simp at ha
  · rw [ha]; exact ⟨⟨by decide, by decide⟩, c1⟩
  · rcases ha with rfl | rfl
    · exact ⟨⟨by decide, by decide⟩, c1⟩
    · exact ⟨⟨by decide, by decide⟩, c2⟩
  · rcases ha with rfl | rfl
    · exact ⟨⟨by decide, by decide⟩, c1⟩
    · exact ⟨⟨by decide, by decide⟩, c2⟩
def sp_program : Sp3 := fun l h k => ∃ (dr : Addr) (w blocks rows : Int), l = [.ref dr, .int w, .int blocks, .int rows] ∧ 1 ≤ w ∧ w ≤ 16 ∧ 1 ≤ blocks ∧ blocks ≤ 6 ∧ 1 ≤ rows ∧ rows ≤ 4 ∧ Drw h dr ∧
  ∀ (pg : Pg) (others : List (Str × Int)) h', PgWf w others pg → Grow dr h h' → k pg.toD h'
theorem lt_ne {a b : Str} (h : a.cps.toList < b.cps.toList) : a ≠ b := fun e => by subst e; exact absurd h (List.lt_irrefl _)
theorem tri_by {t : List Pr} (hs : t.Pairwise fun p q => p.name.cps.toList < q.name.cps.toList) : ∀ p ∈ t, ∀ q ∈ t, p = q ∨ p.name.cps.toList < q.name.cps.toList ∨ q.name.cps.toList < p.name.cps.toList := by
  induction t with
  | nil => intro p hp; cases hp
  | cons a t ih =>
    obtain ⟨ha, ht⟩ := List.pairwise_cons.mp hs
    intro p hp q hq
    rcases List.mem_cons.mp hp with e | hp
    · rcases List.mem_cons.mp hq with e' | hq
      · exact .inl (e.trans e'.symm)
      · rw [e]; exact .inr (.inl (ha q hq))
    · rcases List.mem_cons.mp hq with e' | hq
      · rw [e']; exact .inr (.inr (ha p hp))
      · exact ih ht p hp q hq
theorem srt_by {l t : List Pr} (hp : t.Perm l) (hs : t.Pairwise fun p q => p.name.cps.toList < q.name.cps.toList) {ys : List D} (h1 : ys.Perm (l.map Pr.toD)) (h2 : ys.Pairwise fun x y => ltD y x = false) : ys = t.map Pr.toD := by
  have tri := tri_by hs
  refine sorted_uniq (h1.trans (hp.map _).symm) h2 (List.pairwise_map.mpr (hs.imp fun {p q} h => ?_)) ?_
  · rw [ltD_pr (lt_ne h).symm]
    exact decide_eq_false (List.lt_asymm h)
  · intro x hx y hy e1 e2
    obtain ⟨p, hp, rfl⟩ := List.mem_map.mp hx
    obtain ⟨q, hq, rfl⟩ := List.mem_map.mp hy
    rcases tri p hp q hq with rfl | h | h
    · rfl
    · rw [ltD_pr (lt_ne h), decide_eq_true h] at e2; cases e2
    · rw [ltD_pr (lt_ne h), decide_eq_true h] at e1; cases e1
theorem srt_ex {others : List (Str × Int)} (ho : OthOk others) {l : List Pr} (hl : l.map (fun p => ent p.name p.params) = ent "main" 0 :: others) :
    ∃ t : List Pr, t.Perm l ∧ (t.Pairwise fun p q => p.name.cps.toList < q.name.cps.toList) ∧ t.map (fun p => ent p.name p.params) = withMain others := by
  have c1 : ("aid" : Str).cps.toList < ("main" : Str).cps.toList := by decide +kernel
  have c2 : ("aid" : Str).cps.toList < ("zig" : Str).cps.toList := by decide +kernel
  have c3 : ("main" : Str).cps.toList < ("zig" : Str).cps.toList := by decide +kernel
  have hlen := congrArg List.length hl
  rcases ho with rfl | rfl | rfl | rfl <;> simp only [List.length_map, List.length_cons, List.length_nil] at hlen
  · exact ⟨l, .refl _, by
      obtain ⟨m, rfl⟩ : ∃ m, l = [m] := by
        match l, hlen with
        | [m], _ => exact ⟨m, rfl⟩
      simp, hl⟩
  · obtain ⟨m, a, rfl⟩ : ∃ m a, l = [m, a] := by
      match l, hlen with
      | [m, a], _ => exact ⟨m, a, rfl⟩
    simp only [List.map_cons, List.map_nil, List.cons.injEq, and_true] at hl
    obtain ⟨e1, e2⟩ := hl
    refine ⟨[a, m], List.Perm.swap _ _ _, ?_, by simp only [List.map_cons, List.map_nil, e1, e2, withMain]⟩
    simp only [List.pairwise_cons, List.mem_cons, List.not_mem_nil, or_false, forall_eq, false_implies, implies_true, and_true, List.Pairwise.nil, (Prod.mk.inj e1).1, (Prod.mk.inj e2).1]
    exact c1
  all_goals
    obtain ⟨m, a, z, rfl⟩ : ∃ m a z, l = [m, a, z] := by
      match l, hlen with
      | [m, a, z], _ => exact ⟨m, a, z, rfl⟩
    simp only [List.map_cons, List.map_nil, List.cons.injEq, and_true] at hl
    obtain ⟨e1, e2, e3⟩ := hl
    refine ⟨[a, m, z], List.Perm.swap _ _ _, ?_, by simp only [List.map_cons, List.map_nil, e1, e2, e3, withMain]⟩
    simp only [List.pairwise_cons, List.mem_cons, List.not_mem_nil, or_false, forall_eq_or_imp, forall_eq, false_implies, implies_true, and_true, List.Pairwise.nil, (Prod.mk.inj e1).1, (Prod.mk.inj e2).1, (Prod.mk.inj e3).1]
    exact ⟨⟨c1, c2⟩, c3⟩
/-- sorted, of procedures in the order main, told -/
theorem sort_prs {top : Int} {ars others : List (Str × Int)} (hr : ArsOk ars) (ho : OthOk others) {l : List Pr} (hl : l.map (fun p => ent p.name p.params) = ent "main" 0 :: others) (hb : ∀ p ∈ l, BlWf top ars others p.blocks) :
    (∀ d ∈ l.map Pr.toD, d.ok = true ∧ d.py.depth ≤ 64) ∧ Srtb ((l.map Pr.toD).map D.py) ∧
    ∀ ys : List D, ys.Perm (l.map Pr.toD) → ys.Pairwise (fun x y => ltD y x = false) → ∃ m : List Pr, ys = m.map Pr.toD ∧ m.map (fun p => ent p.name p.params) = withMain others ∧ ∀ p ∈ m, BlWf top ars others p.blocks := by
  have cm : PyData.strOk "main" = true := by decide +kernel
  have hnames : ∀ p ∈ l, PyData.strOk p.name = true := by
    intro p hp
    have : ent p.name p.params ∈ ent "main" 0 :: others := by rw [← hl]; exact List.mem_map_of_mem (f := fun p : Pr => ent p.name p.params) hp
    rcases List.mem_cons.mp this with e | e
    · rw [(Prod.mk.inj e).1]; exact cm
    · exact (ho.ok.2 _ e).2
  have hok : ∀ p ∈ l, p.toD.ok = true := fun p hp => Pr.ok hr.ok (fun a ha => (ho.ok.2 a ha).2) (hnames p hp) (hb p hp)
  obtain ⟨t, ht1, ht2, ht3⟩ := srt_ex ho hl
  refine ⟨fun d hd => ?_, ?_, ?_⟩
  · obtain ⟨p, hp, rfl⟩ := List.mem_map.mp hd
    exact ⟨hok p hp, by have := Pr.dep (hb p hp); omega⟩
  · refine .inl ⟨.type "str", by decide, fun d hd => ?_, fun xs ys hx hy => ?_⟩
    · rw [List.map_map] at hd
      obtain ⟨p, hp, rfl⟩ := List.mem_map.mp hd
      exact ⟨.str p.name, [.int p.params, (D.tup (p.blocks.map Bk.toD)).py], by simp only [Function.comp, Pr.toD, D.py, D.pyL], rfl⟩
    · rw [List.map_map] at hx hy
      obtain ⟨p, hp, ep⟩ := List.mem_map.mp hx
      obtain ⟨q, hq, eq⟩ := List.mem_map.mp hy
      simp only [Function.comp, Pr.toD, py_tup] at ep eq
      injection ep with ep; injection eq with eq
      have dist : p = q ∨ p.name ≠ q.name := by
        rcases tri_by ht2 p (ht1.mem_iff.mpr hp) q (ht1.mem_iff.mpr hq) with h | h | h
        · exact .inl h
        · exact .inr (lt_ne h)
        · exact .inr (lt_ne h).symm
      rcases dist with rfl | hne
      · rw [← ep, ← eq]
        refine tOk_self (by simpa [Pr.toD, D.ok] using hok p hp) fun d hd => ?_
        simp at hd
        rcases hd with rfl | rfl | rfl <;> simp [D.py]
      · rw [← ep, ← eq]
        simp only [D.pyL, D.py, tOk]
        refine ⟨rfl, by simp, fun e => ?_⟩
        rw [eqv_str] at e
        exact absurd (of_decide_eq_true e) hne
  · intro ys h1 h2
    exact ⟨t, srt_by ht1 ht2 h1 h2, ht3, fun p hp => hb p (ht1.mem_iff.mp hp)⟩
end T3
end
-- T3Items
section
set_option maxRecDepth 100000
set_option maxHeartbeats 4000000
/-! T3Items: the items of a program as rows of keys; sorted rows of them. -/
namespace T3
open PySem PySem.Spec PyProof.Rows PySem.W L2
inductive ItmOk : List Key → Prop
  | block {n : Str} {l : Int} (h : PyData.strOk n = true) : ItmOk [.inr "block", .inr n, .inl l]
  | edge {n : Str} {l m : Int} (h : PyData.strOk n = true) : ItmOk [.inr "edge", .inr n, .inl l, .inl m]
  | broken {i : Int} : ItmOk [.inr "broken", .inl i]
  | deep {n : Str} {l m : Int} (h : PyData.strOk n = true) : ItmOk [.inr "deep", .inr n, .inl l, .inl m]
  | index {n : Str} {l m : Int} (h : PyData.strOk n = true) : ItmOk [.inr "index", .inr n, .inl l, .inl m]
theorem keysL_map : ∀ ks : List Key, keysL (ks.map kD) = some ks
  | [] => rfl
  | k :: r => by
    rw [List.map_cons]
    unfold keysL
    rw [keysL_map r]
    cases k <;> rfl
theorem keysOf_d (ks : List Key) : keysOf (dOf ks) = some ks := keysL_map ks
theorem ItmOk.ok {ks : List Key} (h : ItmOk ks) : (dOf ks).ok = true := by
  have c1 : PyData.strOk "block" = true := by decide +kernel
  have c2 : PyData.strOk "edge" = true := by decide +kernel
  have c3 : PyData.strOk "broken" = true := by decide +kernel
  have c4 : PyData.strOk "deep" = true := by decide +kernel
  have c5 : PyData.strOk "index" = true := by decide +kernel
  cases h <;> simp [dOf, kD, D.ok, D.okL, *]
theorem ItmOk.dep {ks : List Key} (h : ItmOk ks) : (dOf ks).py.depth ≤ 64 := by
  cases h <;> simp [dOf, kD, D.py, D.pyL, PyData.depth, PyData.depthAll]
theorem ItmOk.tok {ks js : List Key} (h : ItmOk ks) (g : ItmOk js) : tOk (D.pyL (ks.map kD)) (D.pyL (js.map kD)) := by
  cases h <;> cases g <;> simp [kD, D.py, D.pyL, tOk, alike, eqv_str]
theorem it_srtb {l : List (List Key)} (h : ∀ k ∈ l, ItmOk k) : Srtb ((l.map dOf).map D.py) := by
  refine .inl ⟨.type "str", by decide, fun p hp => ?_, fun xs ys hx hy => ?_⟩
  · simp only [List.map_map, List.mem_map, Function.comp] at hp
    obtain ⟨k, hk, rfl⟩ := hp
    cases h k hk <;> exact ⟨_, _, rfl, rfl⟩
  · simp only [List.map_map, List.mem_map, Function.comp] at hx hy
    obtain ⟨k, hk, ek⟩ := hx
    obtain ⟨j, hj, ej⟩ := hy
    simp only [dOf, D.py, PyData.tuple.injEq] at ek ej
    subst ek ej
    exact (h k hk).tok (h j hj)
theorem toks_inj : ∀ {k j : List Key}, keyToksAll (D.pyL (k.map kD)) = keyToksAll (D.pyL (j.map kD)) → k = j
  | [], [], _ => rfl
  | [], b :: _, h => by cases b <;> simp [D.pyL, keyToksAll] at h
  | a :: _, [], h => by cases a <;> simp [D.pyL, keyToksAll] at h
  | a :: k, b :: j, h => by
    cases a <;> cases b <;> simp [D.pyL, keyToksAll, kD, D.py, keyToks] at h
    · rw [h.1, toks_inj h.2]
    · rename_i x y
      have e : x = y := str_of_cps (by rw [h.1])
      rw [e, toks_inj h.2]
theorem ltD_tot {k j : List Key} (h : ltD (dOf k) (dOf j) = false) (g : ltD (dOf j) (dOf k) = false) : k = j := by
  unfold ltD at h g
  simp only [dOf, D.py, dataLt_tuple] at h g
  exact toks_inj (lex_total (O := itemOrd) _ _ h g)
/-- the same things, each once, in order: the same row -/
theorem same_rows {l m : List D} (hl : ∀ x ∈ l, ∃ k, x = dOf k) (nl : l.Nodup) (nm : m.Nodup) (e : ∀ x, x ∈ l ↔ x ∈ m) (sl : l.Pairwise fun x y => ltD y x = false) (sm : m.Pairwise fun x y => ltD y x = false) : l = m := by
  refine (sorted_uniq ((List.perm_ext_iff_of_nodup nm nl).mpr fun x => (e x).symm) sm sl fun x hx y hy h g => ?_).symm
  obtain ⟨k, rfl⟩ := hl x hx
  obtain ⟨j, rfl⟩ := hl y hy
  rw [ltD_tot g h]
end T3
end
-- T3End
section
set_option maxRecDepth 100000
set_option maxHeartbeats 4000000
/-! T3End: the law's own call, at the place where the claim makes it (so that what is under repr is known). -/
namespace T3
open PySem PySem.Spec PySem.W PyProof.Rows L2
section
variable {P : Program} {w : World} {K : Frag} {mg mb : Str → Option Value} {base : Heap} {k : Nat} {f : Addr} {fd : FuncData} {x qual : Str} {st : Stmt} {N ps : List Str} {G : Sc}
/-- the call of a def at A, from its body's reading at A -/
theorem call_at {A : Around} {outer : List Env} {s : Shared} {H : Hp} {args : Args} {us : List Value} {vs : List V} {Q : VK} {W : WS} {l : List D} {h : H3} {kk : K1}
    (F : Fun K x qual st f fd) (S : FnScope N ps (defScope st)) (room : Room (k + 1) A) (e0 : Env0 P w K mg base A outer s H) (bnd : BindsTo s fd args (ps.zip us)) (vals : Vals vs us) (lenV : vs.length = ps.length)
    (walk : ∀ (cdv : Value) (E : XK), Room k (A.deeper (envOfC qual (defScope st) s.heap.objs.size f cdv)) → PSs3 (CXF P w K mg base N qual st f cdv A outer s H E) G (defBody st) W)
    (rel : Rel G h H) (dv : DVs H l vs) (ok : W (en kk) (ev0 N l) h) (post : Post G H kk Q) :
    codeAny (model P w) A (.call (.ref f) args) (CR CX0 outer P w H s Q E0) s := by
  obtain ⟨oc, od, kV, doc, pm, an, cdv, ct, osl, rfl, lk, hcd⟩ := F.ex
  have kept : ∀ (b : Addr) (o : Obj), base.get? b = some o → s.heap.get? b = some o := fun b o q => (e0.bs b o q).1
  have Kin := e0.mod.kin.keeps kept
  have loc : ∀ y ∈ ps.zip us, (defScope st).names.lookup y.1 = some .local ∨ ((defScope st).names.lookup y.1 = some .cell ∧ ((cellsFrom (s.heap.objs.size + 1) (defScope st).names []).lookup y.1).isSome = true) := by
    rintro ⟨n, v⟩ hy
    refine (S.par n (List.of_mem_zip hy).1).imp id fun q => ⟨q, cellsFrom_some _ _ _ (.inl q)⟩
  refine codeAny_call_function room.depth (Kin _ _ lk) rfl S.co S.gen rfl (codeRec_of Kin hcd) (bnd _ _ _ _ (wpAny_newFunctionEnv_cells S.kind loc ?_))
  rintro env rfl s1 inC
  refine ⟨(e0.mod.nolimit.keeps kept).keeps inC.toInCall.keep, codeAny_func ?_⟩
  have I0 : Inv (cxOf CX0 P w K mg base N qual (defScope st) f cdv A outer s H E0) [] (L2.start N vs) H s1 := inv_start S room.hd e0 lenV vals inC
  have go := ((walk cdv E0 (room.deeper _)).nox).run [] s1 (L2.start N vs) H ⟨fun _ H' => Q .non H', Q, fun _ _ => False, fun _ _ => False⟩ I0 ⟨ev0 N l, h, en kk, rel, evr0 dv, ok, ?_⟩
  · refine wpAny_mono go (fun fl s' q => ?_) fun e s' q => q
    match fl, q with
    | .ret u, ⟨v, σ', H', J, rv, q⟩ => exact ⟨v, H', J.os, J.bare, J.base, J.hok, rv, q⟩
    | .next, ⟨σ', H', J, q⟩ => exact ⟨V.non, H', J.os, J.bare, J.base, J.hok, rfl, q⟩
    | .brk, ⟨_, _, _, q⟩ => exact q.elim
    | .cont, ⟨_, _, _, q⟩ => exact q.elim
  · exact ⟨fun ρ h' σ H' ⟨_, sub, q⟩ r p _ => post _ _ _ _ q (r.sub sub) p .non, fun d h' v H' ⟨_, sub, q⟩ r p dv => post _ _ _ _ q (r.sub sub) p dv, fun _ _ _ _ q => q.elim, fun _ _ _ _ q => q.elim⟩
theorem ns_hid {h : Heap} {H : Hp} (noDict : ∀ b o es ep, h.get? b = some o → o.data = .dict es ep → H b = none) {b : Addr} {m : Str → Option Value} (q : h.Ns b m) : (hidT h H).Ns b m := by
  obtain ⟨o, es, ep, e, d, r⟩ := q
  exact ⟨o, es, ep, hidT_get e (noDict _ _ _ _ e d), d, r⟩
/-- the claim's call of the law -/
theorem law_at {fa a : Addr} {s₁ : Shared} {vs : List Value} {ns : List Int} (inK : K.In s₁.heap) (gl : s₁.heap.Ns mainGlobals mg) (bl : s₁.heap.Ns builtinsNs mb) (bz : ∀ y : Str, y ≠ "__name__" → mb y = bootBuiltins y) (nolim : s₁.heap.NoLimit) (gens : s₁.gens = #[])
    (script : s₁.heap.get? a = some { cls := .type "list", data := .seq vs.toArray }) (isI : IntsAre vs ns) (few : ns.length ≤ sizeLine)
    (go : ∀ (base : Heap) (H : Hp), K.In base → base.Ns mainGlobals mg → Ro K H a (ns.map V.int) → Env0 P w K mg base callerA [] s₁ H →
      codeAny (model P w) callerA (.call (.ref fa) ⟨[.ref a], []⟩) (CR CX0 [] P w H s₁ (fun v _ => v = .bl true) E0) s₁) :
    codeAny (model P w) callerA (.call (.ref fa) ⟨[.ref a], []⟩) (fun r s' => r = .ok (.ret (.bool true)) ∧ OldK s₁.heap s'.heap ∧ s'.os = s₁.os ∧ AllBare s'.gens) s₁ := by
  -- what is told of the script: the module's own object, or an object that nobody writes
  obtain ⟨H, hro, hok, at_, old, alien⟩ : ∃ H : Hp, Ro K H a (ns.map V.int) ∧ HOk P w H s₁.heap ∧ (∀ b, H b ≠ none → b = a) ∧ (∀ b, H b = none ∨ ∃ o xs, H b = some (.frz o (.lst xs))) ∧ (H a ≠ none → K.lookup a = none) := by
    have rv := vals_ints isI
    cases hk : K.lookup a with
    | some o =>
      have e : some o = some _ := (inK a o hk).symm.trans script
      cases e
      exact ⟨fun _ => none, .inr ⟨_, vs.toArray, _, hk, rfl, rfl, rfl, by simpa [isI.length] using few, by simpa using rv⟩, fun b u z => (nomatch z), fun b z => absurd rfl z, fun _ => .inl rfl, fun z => absurd rfl z⟩
    | none =>
      let ob : Obj := { cls := .type "list", data := .seq vs.toArray }
      let H : Hp := fun b => if b = a then some (.frz ob (.lst (ns.map V.int))) else none
      have Ha : H a = some (.frz ob (.lst (ns.map V.int))) := if_pos rfl
      have Hb : ∀ b, b ≠ a → H b = none := fun b z => if_neg z
      refine ⟨H, .inl ⟨ob, Ha⟩, fun b u z => ?_, fun b z => Decidable.byContradiction fun y => z (Hb b y), fun b => ?_, fun _ => rfl⟩
      · by_cases y : b = a
        · subst y
          rw [Ha] at z
          cases z
          exact ⟨script, by rw [List.length_map]; exact few, vs, _, rv, script⟩
        · rw [Hb b y] at z; cases z
      · by_cases y : b = a
        · subst y; exact .inr ⟨_, _, Ha⟩
        · exact .inl (Hb b y)
  have noDict : ∀ b o es ep, s₁.heap.get? b = some o → o.data = .dict es ep → H b = none := fun b o es ep e d => by
    refine Decidable.byContradiction fun z => ?_
    rw [at_ b z, script] at e
    cases e
    cases (show Data.seq vs.toArray _ = Data.dict es ep from d)
  have inB : K.In (hidT s₁.heap H) := fun b o e => hidT_get (inK b o e) (Decidable.byContradiction fun z => by
    have y := at_ b z
    subst y
    rw [alien z] at e
    cases e)
  obtain ⟨mc, l1, l2⟩ := nolim
  have envs : Env0 P w K mg (hidT s₁.heap H) callerA [] s₁ H :=
    { frames := rfl, mod := ⟨inB, ns_hid noDict gl, ⟨mb, ns_hid noDict bl, bz⟩, ⟨mc, ns_hid noDict l1, l2⟩⟩, bs := fun b o => of_hidT, bsz := Nat.le_of_eq (hidT_size _ _), funs := trivial, frf := fun b z => (nomatch z), hok := hok, bare := .of_eq gens }
  refine codeAny_mono (go _ H inB (ns_hid noDict gl) hro envs) fun r s' q => ?_
  match r, q with
  | .error e, q => exact (show False from q).elim
  | .ok (.ret u), ⟨v, H', os, bare, un, hok', rv, (e : v = .bl true)⟩ =>
    subst e
    have e2 : u = Value.bool true := rv
    subst e2
    refine ⟨rfl, .of_keep fun b o e => ?_, os, bare⟩
    rcases old b with z | ⟨ob, xs, z⟩
    · exact un.keep b o e z (by simp [frs]) (by simp)
    · have y1 := (hok b _ z).1
      have y2 := (hok' b _ (un.frzs b ob _ z)).1
      rw [e] at y1
      cases y1
      exact y2
  | .ok .next, q => exact (show False from q).elim
  | .ok .brk, q => exact (show False from q).elim
  | .ok .cont, q => exact (show False from q).elim
end
end T3
end
-- T3Super
section
set_option maxRecDepth 100000
set_option maxHeartbeats 4000000
/-! T3Super: an own error below ValueError whose __init__ says super().__init__(at) and self.at = at. -/
namespace T3
open PySem PySem.Spec PySem.Calls PyProof.Rows PySem.W L2
section
variable {P : Program} {w : World} {K : PySem.W.Frag} {mg : Str → Option Value} {base : Heap}
/-- what the class at C, its __init__ at f, and the module show -/
structure SupC (P : Program) (K : PySem.W.Frag) (f C cc cda : Addr) (fd : FuncData) (scope : Scope) (a1 : Arg) : Prop where
  hp : (fd.params.posonlyargs ++ fd.params.args).head? = some a1
  hc : ∃ vs file tf ccl cdd ccs, K.lookup cda = some ⟨ccl, cdd, .fields vs, ccs⟩ ∧ vs[2]? = some (.str file tf) ∧ ((P.main.file : Str) == file) = true
  hcell : ∃ cl cld csl, K.lookup cc = some ⟨cl, cld, .cell (some (.ref C)), csl⟩
  hsub : PySem.W.mroIn K C (.ref C) = some true
  hks : scope.names.lookup ("super" : Str) = some .globalImplicit
  hkc : scope.names.lookup ("__class__" : Str) = some .free
  hka : scope.names.lookup a1.arg = some .local
  hk : scope.kind = .function
  htop : (P.main.scope.names.lookup ("super" : Str)).isSome = false
/-- how super().__init__(an) is evaluated -/
def SupEv (q : Str) (scope : Scope) (L f cc cda : Addr) (an : Str) (p0 p1 p2 ap pos : Pos) : Prop := ∃ pl : Sem Bool,
  eval (.Call (.Attribute (.Call (.Name "super" p0) [] [] p1) "__init__" p2) [.Name an ap] [] pos) (ksEnv q scope L f (.ref cda) cc) = (do
      let ov ← attributeBase (.Call (.Name "super" p0) [] [] p1) "__init__" (ksEnv q scope L f (.ref cda) cc) (eval (.Call (.Name "super" p0) [] [] p1) (ksEnv q scope L f (.ref cda) cc))
      standAt p2.atName
      let (f', first) ← holding [ov] (getMethod ov "__init__" pl)
      callWith pos f' first (backTo pos (starEach [.Name an ap] (ksEnv q scope L f (.ref cda) cc))) [])
/-- super().__init__(e), at the heap -/
theorem super_init {A : Around} {E : Value → Shared → Prop} {s : Shared} {body : List Stmt} {q : Str} {scope : Scope} {L f C cc cda x t1 : Addr} {fd : FuncData} {a1 : Arg} {oc : Value} {od : Option Addr} {osl : Array (Option Value)}
    {p0 p1 p2 pos : Pos} {an : Str} {ap : Pos} {u : Value} {m : Str → Option Value} {Q : Value → Shared → Prop}
    (hev : SupEv q scope L f cc cda an p0 p1 p2 ap pos) (T : SupC P K f C cc cda fd scope a1) (O : OexC K C) (KX : K.In s.heap) (hf : K.lookup f = some ⟨oc, od, .func fd, osl⟩) (hns : s.heap.Ns L m) (hv : m a1.arg = some (.ref x)) (hu : m an = some u) (hlu : scope.names.lookup an = some .local) (hda : (an == ("__debug__" : Str)) = false)
    (gl : s.heap.Ns mainGlobals mg) (gn : mg "super" = none) (bl : ∃ mb, s.heap.Ns builtinsNs mb ∧ ∀ x : Str, x ≠ "__name__" → mb x = bootBuiltins x)
    (ho : nsIn K cStatics "thirdparty.any" = some none) (hB : subIn K (.ref C) (.type "ValueError") = some true) (hm : ks_superIn K C C "__init__" = some (some (.builtin "ValueError.__init__")))
    (hx : s.heap.get? x = some ({ cls := .ref C, dict := none, data := .fields #[.ref t1, .none, .none, .none, .bool false, .none] } : Obj))
    (h : ∀ h' tk t2, (∀ b o, b ≠ x → s.heap.get? b = some o → h'.get? b = some o) → h'.get? x = some ({ cls := .ref C, dict := none, data := .fields #[.ref t2, .none, .none, .none, .bool false, .none] } : Obj) → Q .none { s with heap := h', toks := tk }) :
    _root_.PySem.wpAt (model P w) A (.func body (ksEnv q scope L f (.ref cda) cc)) (eval (.Call (.Attribute (.Call (.Name "super" p0) [] [] p1) "__init__" p2) [.Name an ap] [] pos) (ksEnv q scope L f (.ref cda) cc)) Q E s := by
  obtain ⟨vs, file, tf, ccl, cdd, ccs, hcode, hvs, hfile⟩ := T.hc
  obtain ⟨cl, cld, csl, hcell⟩ := T.hcell
  obtain ⟨nm, qn, N, bs, bm, sn, sub, ab, col, dd, k0, k1, k2, k3, k5, hC, hbm⟩ := O.cls
  have hcl : PySem.W.clsIn K C = some { name := nm, bases := bs, mro := .ref C :: bm, ns := N, qualname := qn, hasDict := true, slotNames := sn, subclasses := sub, abstract := ab, collection := col, hasDel := false } := by unfold PySem.W.clsIn; rw [hC] <;> rfl
  obtain ⟨pl, hev⟩ := hev
  refine ks_wpAt_MethodCall (pl := pl) ?_ hev
  obtain ⟨hh, g, d, t, os⟩ := s
  have oC := KX _ _ hC
  refine ks_wpAt_super_base (env := ksEnv q scope L f (.ref cda) cc) T.hks T.hkc (by decide) rfl (KX _ _ hf) rfl T.hp rfl (KX _ _ hcode) rfl hvs hfile T.htop ?_
  obtain ⟨mb, b1, b2⟩ := bl
  refine ks_loadName_global T.hk T.hks (loadGlobal_builtin (env := ksEnv q scope L f (.ref cda) cc) gl gn b1 ((b2 "super" (by decide)).trans (by decide +kernel)) ⟨rfl, ?_⟩)
  refine wpAny_loadName_free T.hk T.hkc rfl ⟨_, KX _ _ hcell, rfl⟩ ?_
  refine wpAny_loadName_local T.hk T.hka hns hv ?_
  refine ks_wpAny_isType_cls oC rfl ⟨rfl, ?_⟩
  refine ks_wpAny_call_super oC rfl hx rfl (fun c e => by cases e) (looks_mroIn KX T.hsub) (fun h1 e1 k1 => ?_)
  have KX1 : K.In h1 := KX.keeps k1
  have hI : Looks (model P w) h1 (isInstance (.ref x) (.type "ValueError")) true := (InstAt.type (C := C) (od := none) ⟨k1 _ _ hx, rfl, rfl, trivial⟩).andThen (looks_subIn KX1 hB)
  unfold ks_superIn at hm
  rw [hcl] at hm
  have hxC : x ≠ C := fun z => by
    have y := k1 _ _ hx
    rw [z] at y
    have y2 := KX1 _ _ hC
    rw [y2] at y
    cases y
  refine kxs_getMethod kxs_ValueError e1 (looks_opaque KX1 ho) (l₀ := .ref C :: bm) ?_ rfl KX1 hm hI hxC (by decide) ?_
  · exact fun A Q E s k q => wpAny_bind ((looks_clsIn KX1 hcl) A _ E s k (wpAny_pure q))
  have hw1 : (h1.push (kxs_mw "ValueError.__init__" x)).get? h1.objs.size = some (kxs_mw "ValueError.__init__" x) := Heap.get?_push_at rfl rfl
  have k2 : ∀ b o, hh.get? b = some o → (h1.push (kxs_mw "ValueError.__init__" x)).get? b = some o := fun b o e => Heap.get?_push_of_some _ (k1 b o e)
  have KX2 : K.In (h1.push (kxs_mw "ValueError.__init__" x)) := KX.keeps k2
  have hst : starEach [.Name an ap] (ksEnv q scope L f (.ref cda) cc) = (false, eval (.Name an ap) (ksEnv q scope L f (.ref cda) cc)) :: starEach [] (ksEnv q scope L f (.ref cda) cc) := by rfl
  have step : wpAny (model P w) A (spliced (backTo pos (starEach [.Name an ap] (ksEnv q scope L f (.ref cda) cc)))) (fun vs s₁ => KxsAt "ValueError.__init__" h1.objs.size x s₁.heap ∧ wpAny (model P w) A (call (.ref h1.objs.size) ([] ++ vs)) Q E s₁) E ⟨h1.push (kxs_mw "ValueError.__init__" x), g, d, t + 1, os⟩ := by
    refine spliced_more ?_ hst
    refine wpAny_Name (wpAny_loadName_local T.hk hlu (hns.keeps k2) hu ?_) hda
    refine spliced_none ⟨hw1, ?_⟩
    show wpAny _ _ (call (.ref h1.objs.size) [u]) _ _ _
    refine wpAny_call (codeAny_of_tree ?_)
    show wpAny _ A.in1 (callAny (.ref h1.objs.size) ⟨[u], []⟩) _ _ _
    simp only [callAny]
    refine wpAny_bind (wpAny_load hw1 ?_)
    simp only [kxs_mw, show (Value.type "method-wrapper" == Value.type "method" || Value.type "method-wrapper" == Value.type "builtin_function_or_method" || Value.type "method-wrapper" == Value.type "method-wrapper") = true by decide, if_true]
    refine KFB.if_so (by decide) ?_
    refine wpAny_bind (check_bound_init F.excBase_ValueError.toExcCallFacts (KX2 _ _ hC) (k2 _ _ hx) rfl ?_)
    refine wpAny_bind (wpAny_pure (wpAny_pure ?_))
    refine ⟨plainId_quiet F.excBase_ValueError.init.plain _, codeAny_builtin F.excBase_ValueError.initEntry ?_⟩
    refine exc_init_tree (cls := .ref C) (t0 := t1) (dv := none) (c2 := .none) (c3 := .none) (b4 := .bool false) (k2 _ _ hx) (by simp [sizeLine]) fun h3 e3 x3 _ => ?_
    exact h h3 _ _ (fun b o hb e => e3 b o hb (k2 b o e)) x3
  show wpAny _ _ (callWith pos (.ref h1.objs.size) [] (backTo pos (starEach [.Name an ap] (ksEnv q scope L f (.ref cda) cc))) []) _ _ _
  rw [hst] at step ⊢
  exact kxs_callWith (i := "ValueError.__init__") (x := x) rfl (evalArgs_plain step)
/-- the promise of that __init__ -/
def spSup (C : Addr) (fld : Str) : Sp := fun vs H Q _ => ∃ (a : Addr) (y : V), vs = [.ref a, y] ∧ H a = some (exo a C none) ∧ ∀ dx, H dx = none → dx ≠ a → Q .non (upd (upd H dx (exd dx [(fld, y)])) a (exo a C (some dx)))
theorem fn_sup {CX : CXT} {k : Nat} {f C cc cda : Addr} {name qual : Str} {params : Arguments} {scope : Scope} {dV kV doc pm ct oc : Value} {anD od : Option Addr} {osl : Array (Option Value)} {a1 : Arg} {an fld : Str}
    {p0 p1 p2 pos ap sp ep tp vp xp : Pos}
    (lk : K.lookup f = some ⟨oc, od, .func (ksFn name qual params [.Expr (.Call (.Attribute (.Call (.Name "super" p0) [] [] p1) "__init__" p2) [.Name an ap] [] pos) ep, .Assign [.Attribute (.Name a1.arg tp) fld vp] (.Name an xp) sp] scope dV kV doc pm anD (.ref cda) ct cc), osl⟩)
    (hcd : PySem.W.codeIn K (.ref cda) qual = true)
    (hev : ∀ L, SupEv qual scope L f cc cda an p0 p1 p2 ap pos) (T : SupC P K f C cc cda (ksFn name qual params [.Expr (.Call (.Attribute (.Call (.Name "super" p0) [] [] p1) "__init__" p2) [.Name an ap] [] pos) ep, .Assign [.Attribute (.Name a1.arg tp) fld vp] (.Name an xp) sp] scope dV kV doc pm anD (.ref cda) ct cc) scope a1) (O : OexC K C)
    (hne : a1.arg ≠ an) (hlu : scope.names.lookup an = some .local) (hda : (an == ("__debug__" : Str)) = false) (hda1 : (a1.arg == ("__debug__" : Str)) = false) (hcda : (an == ("__classdict__" : Str)) = false) (hcda1 : (a1.arg == ("__classdict__" : Str)) = false)
    (hkinds : ∀ x ∈ scope.names, x.2 ≠ .cell ∧ (x.2 = .free → x.1 = "__class__"))
    (gn : mg "super" = none) (ho : nsIn K cStatics "thirdparty.any" = some none) (hB : subIn K (.ref C) (.type "ValueError") = some true) (hm : ks_superIn K C C "__init__" = some (some (.builtin "ValueError.__init__")))
    (hfl : PySem.W.findIn K (.ref C) fld = some none)
    (hin : ∀ L, interactive (ksEnv qual scope L f (.ref cda) cc) = false) (hsw : ∀ L, swapsWith (.Call (.Attribute (.Call (.Name "super" p0) [] [] p1) "__init__" p2) [.Name an ap] [] pos) none ep.line (ksEnv qual scope L f (.ref cda) cc) = pure false)
    (hsw2 : ∀ L, swapsWith (.Name an xp) (some (.Attribute (.Name a1.arg tp) fld vp)) sp.line (ksEnv qual scope L f (.ref cda) cc) = pure false)
    (hco : scope.isCoroutine = false) (hgen : scope.isGenerator = false) :
    FnOk P w K mg base CX (k + 1) f (ksFn name qual params [.Expr (.Call (.Attribute (.Call (.Name "super" p0) [] [] p1) "__init__" p2) [.Name an ap] [] pos) ep, .Assign [.Attribute (.Name a1.arg tp) fld vp] (.Name an xp) sp] scope dV kV doc pm anD (.ref cda) ct cc) [a1.arg, an] (spSup C fld) := by
  refine ⟨fun vs H Q E ⟨a, y, e, _⟩ => by rw [e]; rfl, fun A outer s H args us vs Q E hr e0 hb r hsp => ?_⟩
  obtain ⟨a, y, rfl, ha, q⟩ := hsp
  obtain ⟨u0, u1, rfl, r0, r1⟩ := vals2 r
  obtain rfl : u0 = Value.ref a := r0
  have KX : K.In s.heap := e0.mod.kin.keeps fun b o e => (e0.bs b o e).1
  have lim : s.heap.NoLimit := e0.mod.nolimit.keeps fun b o e => (e0.bs b o e).1
  refine ks_codeAny_call_defAt (binds := [(a1.arg, .ref a), (an, u1)]) hr.depth (KX _ _ lk) rfl lim (codeRec_of KX hcd) rfl hb (fun x hx => (hkinds x hx).1) (fun x hx => ?_) (fun h₁ hns hk₁ => ?_) hco hgen T.hk
  · simp only [List.mem_cons, List.not_mem_nil, or_false] at hx
    rcases hx with rfl | rfl
    · exact T.hka
    · exact hlu
  generalize hL : s.heap.objs.size = L at hns
  have m1 : (fun x => List.lookup x [(a1.arg, Value.ref a), (an, u1)].reverse) a1.arg = some (.ref a) := by
    show List.lookup a1.arg [(an, u1), (a1.arg, Value.ref a)] = _
    have e : (a1.arg == an) = false := beq_eq_false_iff_ne.mpr hne
    simp [List.lookup, e]
  have m2 : (fun x => List.lookup x [(a1.arg, Value.ref a), (an, u1)].reverse) an = some u1 := by
    show List.lookup an [(an, u1), (a1.arg, Value.ref a)] = _
    simp [List.lookup]
  obtain ⟨t1, hx0⟩ := exo_at e0.hok ha
  obtain ⟨cl, cld, csl, hcell⟩ := T.hcell
  let X : Cx := Cx.mk P w K mg base (A.deeper (ksEnv qual scope L f (.ref cda) cc)) [a1.arg, an] s H (ksEnv qual scope L f (.ref cda) cc) outer (ksEnv qual scope L f (.ref cda) cc :: outer) [] (fun _ => false) true []
    (fun e s' => wpAny (model P w) (A.deeper (ksEnv qual scope L f (.ref cda) cc)) (leaving (ksEnv qual scope L f (.ref cda) cc) e) (fun _ s'' => CX outer H s E e s'') (fun e' s'' => CX outer H s E e' s'') s')
  have hcc : ∀ {x : Str} {c : Addr}, (ksEnv qual scope L f (.ref cda) cc).cells.lookup x = some c → x = "__class__" ∧ c = cc := fun {x c} h => by
    have h : List.lookup x [("__class__", cc)] = some c := h
    simp only [List.lookup] at h
    split at h
    · rename_i e
      exact ⟨by simpa using e, by cases h; rfl⟩
    · cases h
  have Hcc : H cc = none := (e0.bs cc _ (e0.mod.kin _ _ hcell)).2
  have mem_of : ∀ {x : Str} {kd : NameKind}, scope.names.lookup x = some kd → (x, kd) ∈ scope.names := fun h => PySem.mem_of_lookup h
  have I : Inv X [] [some (.ref a), some y] H { s with heap := h₁, toks := s.toks + 2 } := by
    refine ⟨⟨e0.mod, T.hk, rfl, rfl, Nat.le_of_eq hL, fun x z c h1 h2 => (hcc h1).1.trans (hcc h2).1.symm, fun x hx => ?_, fun x c h _ => (by cases h), fun _ => hr.hd, Around.frames_deeper e0.frames, .inr ⟨rfl, rfl⟩, fun b z => (by cases z), e0.bs, e0.bsz, fun b _ _ z => (by cases z), fun b z => (by cases z), e0.funs, e0.frf⟩,
      rfl, e0.bare, Un.kept hk₁, ⟨_, hns, fun i x v h1 h2 h3 => ?_⟩, fun x c h => ?_, e0.hok.fresh (Nat.le_of_eq hL), fun x c h => ?_, fun p hp => (by cases hp), e0.hok.kept hk₁, rfl⟩
    · rcases hx with hx | hx
      · exact absurd rfl (hkinds _ (mem_of hx)).1
      · have := (hkinds _ (mem_of hx)).2 rfl
        have e : x = "__class__" := this
        subst e
        exact ⟨cc, by show List.lookup (Str.ofString "__class__") [(Str.ofString "__class__", cc)] = some cc; simp [List.lookup]⟩
    · match i, h1, h2 with
      | 0, h1, h2 =>
        obtain rfl : a1.arg = x := Option.some.inj h1
        obtain rfl : V.ref a = v := Option.some.inj (Option.some.inj h2)
        exact ⟨.ref a, rfl, .inl ⟨T.hka, m1⟩⟩
      | 1, h1, h2 =>
        obtain rfl : an = x := Option.some.inj h1
        obtain rfl : y = v := Option.some.inj (Option.some.inj h2)
        exact ⟨u1, r1, .inl ⟨hlu, m2⟩⟩
      | i + 2, h1, h2 => cases h1
    · rw [(hcc h).2]
      exact ⟨_, _, hk₁ _ _ (KX _ _ hcell), rfl⟩
    · rw [(hcc h).2]; exact Hcc
  have fin : ∀ {σ' : L2.St} {H' : Hp} {v : V} {u : Value} {s' : Shared}, Inv X [] σ' H' s' → RelV v u → Q v H' → CE outer P w H s Q u s' :=
    fun {σ' H' v u s'} J rv q => ⟨v, H', J.os, J.bare, J.base, J.hok, rv, q⟩
  refine ks_wpAt_execs_cons (ks_wpAt_Expr_any ?_ (hin L) (hsw L))
  have bl := e0.mod.blt
  refine super_init (mg := mg) (hev L) T O (KX.keeps hk₁) lk hns m1 m2 hlu hda (e0.mod.glob.keeps fun b o e => hk₁ b o (e0.bs b o e).1) gn (by
    obtain ⟨mb, b1, b2⟩ := bl
    exact ⟨mb, b1.keeps fun b o e => hk₁ b o (e0.bs b o e).1, b2⟩) ho hB hm (hk₁ _ _ hx0) (fun h' tk t2 k3 x3 => ?_)
  refine wpAt_of_wpAny ?_
  have J : Inv X [] [some (.ref a), some y] H { s with heap := h', toks := tk } := by
    have J := I.write (t' := tk) (x := a) (e := a) (o := exo a C none) (h' := h') (by rw [ha]; exact True.intro) (.inl rfl) k3 ⟨_, x3⟩ (exo_ok x3)
    have eu : upd H a (exo a C none) = H := by
      funext b
      by_cases hb : b = a
      · rw [hb, upd_same, ha]
      · rw [upd_ne hb]
    rw [eu] at J
    exact J
  have hps : PSs X [.Assign [.Attribute (.Name a1.arg tp) fld vp] (.Name an xp) sp] (tOst K fld (tVar 0) (tVar 1)) :=
    pss_one (ps_ost (X := X) (pe_var (i := 0) rfl (.inl T.hka) hda1 hcda1) (pe_var (i := 1) rfl (.inl hlu) hda hcda) (hsw2 L))
  refine wpAny_mono (hps.run [] _ _ H { nx := fun _ H' => Q .non H', rt := Q } J ⟨y, rfl, .ref a, rfl, a, C, rfl, O, hfl, .inl ⟨ha, fun dx n ne => q dx n ne⟩⟩) (fun fl s' hs => ?_) fun e s' hs => hs
  cases fl with
  | ret u =>
    obtain ⟨v, σ', H', J, rv, q⟩ := hs
    exact fin J rv q
  | next =>
    obtain ⟨σ', H', J, q⟩ := hs
    exact fin (v := V.non) (u := Value.none) J rfl q
  | brk =>
    obtain ⟨_, _, _, q⟩ := hs
    exact False.elim q
  | cont =>
    obtain ⟨_, _, _, q⟩ := hs
    exact False.elim q
end
end T3
end
-- T3Exc
section
set_option maxRecDepth 100000
set_option maxHeartbeats 4000000
/-! T3Exc: an own error with one field, raised through defs. -/
namespace T3
open PySem PySem.Spec PyProof.Rows L2
theorem inv_per {X : Cx} {pins : List (Addr × Obj)} {σ : L2.St} {H : Hp} {s : Shared} (I : Inv X pins σ H s) : Per X.H_0 H := ⟨I.base.tups, I.base.frzs⟩
/-- ex is what is wanted of the error's field and the heap behind it -/
def PostX (G : Sc) (C : Addr) (fld : Str) (H0 : Hp) (ex : D → H3 → Prop) (E : XK) : Prop := ∀ v h' x H' d, ex v h' → Rel G h' H' → Per H0 H' → DV H' v x → H' d = some (.xd [(fld, x)]) → E (.ref C) (some d) H'
theorem PostX.per {G : Sc} {C : Addr} {fld : Str} {H H' : Hp} {ex : D → H3 → Prop} {E : XK} (q : PostX G C fld H ex E) (p : Per H H') : PostX G C fld H' ex E := fun v h' x H2 d a b c e f => q v h' x H2 d a b (p.trans c) e f
/-- the context's wish, that may know the names -/
def XF (X : Cx) (G : Sc) (C : Addr) (fld : Str) (ex : Ev → D → H3 → Prop) : Prop := ∃ W : WX, Takes X W ∧ ∀ ρ v h' x H' d σ, ex ρ v h' → Rel G h' H' → Per X.H_0 H' → EvR H' ρ σ → DV H' v x → H' d = some (.xd [(fld, x)]) → W (.ref C) (some d) σ H'
/-- a def's wish -/
def XF0 (X : Cx) (G : Sc) (C : Addr) (fld : Str) (ex : D → H3 → Prop) : Prop := ∃ W : WX, Takes X W ∧ ∀ v h' x H' d σ, ex v h' → Rel G h' H' → Per X.H_0 H' → DV H' v x → H' d = some (.xd [(fld, x)]) → W (.ref C) (some d) σ H'
theorem XF0.xf {X : Cx} {G : Sc} {C : Addr} {fld : Str} {ex : D → H3 → Prop} (h : XF0 X G C fld ex) : XF X G C fld fun _ => ex :=
  let ⟨W, tk, q⟩ := h
  ⟨W, tk, fun _ v h' x H' d σ a b c _ e f => q v h' x H' d σ a b c e f⟩
abbrev XS3 := (D → H3 → Prop) → Sp3
def spX (G : Sc) (C : Addr) (fld : Str) (sp : XS3) : Sp := fun vs H Q E => ∃ l h k ex, Rel G h H ∧ DVs H l vs ∧ sp ex l h k ∧ Post G H k Q ∧ PostX G C fld H ex E
def FdX (P : Program) (w : World) (K : PySem.W.Frag) (mg : Str → Option Value) (base : Heap) (G : Sc) (C : Addr) (fld : Str) (x : Str) (k : Nat) (sp : XS3) : Prop :=
  ∃ f fd ps, FnOk P w K mg base (L2.CX P w) k f fd ps (spX G C fld sp) ∧ mg x = some (.ref f) ∧ PySem.W.keepIn K (.ref f) = true ∧ Binds K fd ps []
def MdX (P : Program) (w : World) (K : PySem.W.Frag) (mg : Str → Option Value) (base : Heap) (G : Sc) (C : Addr) (fld : Str) (C2 : Addr) (m : Str) (k : Nat) (sp : XS3) : Prop :=
  ∃ f fd ps, FnOk P w K mg base (L2.CX P w) k f fd ps (spX G C fld sp) ∧ Meth K C2 m f ∧ Cls K C2 ∧ Binds K fd ps []
/-- the error's class -/
def KdX (P : Program) (w : World) (K : PySem.W.Frag) (mg : Str → Option Value) (base : Heap) (C : Addr) (fld : Str) (x : Str) (k : Nat) : Prop :=
  ∃ f fd ps, FnOk P w K mg base CX0 k f fd ps (spSup C fld) ∧ OexC K C ∧ PySem.W.findIn K (.ref C) "__init__" = some (some (.ref f)) ∧ PySem.W.typeIn K (.ref f) = some (.type "function") ∧ mg x = some (.ref C) ∧ Binds K fd ps []
section
variable {X : Cx} {G : Sc} {C C2 : Addr} {fld x m : Str} {k : Nat} {sp : XS3} {ex : Ev → D → H3 → Prop} {ex0 : D → H3 → Prop} {e o : Expr} {es : List Expr} {f : WE} {l : WA} {p pos pos' apos : Pos}
theorem perw {t t' : TE} (h : PE X e t) (w : ∀ σ H Q, Per X.H_0 H → t' σ H Q → t σ H Q) : PE X e t' := ⟨fun pins s σ H Q I q => h.run pins s σ H Q I (w σ H Q (inv_per I) q)⟩
theorem perwS {st : Stmt} {t t' : TS} (h : PS X st t) (w : ∀ D σ H, Per X.H_0 H → t' D σ H → t D σ H) : PS X st t' := ⟨fun pins s σ H D I q => h.run pins s σ H D I (w D σ H (inv_per I) q)⟩
def wLX (sp : XS3) (ex : Ev → D → H3 → Prop) (l : WA) : WE := fun ρ h k => l ρ h fun ds h1 => sp (ex ρ) ds h1 k
theorem i_callX (hx : XF X G C fld ex) (F : FdX X.prog X.w X.K X.mg X.base G C fld x k sp) (hr : Room k X.A) (ha : PA3 X G (e :: es) l) (hg : Gl X x := by rfl)
    (hdb : (x == ("__debug__" : Str)) = false := by decide) (he : starEach (e :: es) X.env = (false, eval e X.env) :: starEach es X.env := by rfl) (hpl : (backTo pos (starEach es X.env)).any (·.1) = false := by rfl) : PE3 X G (.Call (.Name x p) (e :: es) [] pos) (wLX sp ex l) := by
  obtain ⟨fa, fd, ps, F, hm, hk, hb⟩ := F
  obtain ⟨W, tk, hW⟩ := hx
  refine perw (pe_callS (E := L2.WE W) F hr hg hm hk hb (fun σ => passAt tk σ) ha hdb he hpl) fun σ H Q hp ⟨ρ, h, k, rel, ev, q, post⟩ => ?_
  refine ⟨ρ, h, _, rel, ev, q, fun ds h1 vs H1 q1 rel1 per1 dvs => ⟨ds, h1, k, ex ρ, rel1, dvs, q1, post.per per1, fun v h' x H' d e1 r1 p1 d1 hd => ?_⟩⟩
  exact hW ρ v h' x H' d σ e1 r1 ((hp.trans per1).trans p1) (ev.per (per1.trans p1)) d1 hd
def wMethX (C : Addr) (N : List Str) (sp : XS3) (ex : D → H3 → Prop) (o : WE) (l : WA) : WE := fun ρ h k => o ρ h fun x h1 => ∃ a vs, x = .ref a ∧ h1 a = some (.ins C N vs) ∧ l ρ h1 fun ds h2 => sp ex (x :: ds) h2 k
theorem i_methX (N : List Str) {pl : Sem Bool} (hx : XF0 X G C fld ex0) (F : MdX X.prog X.w X.K X.mg X.base G C fld C2 m k sp) (hr : Room k X.A) (ho : PE3 X G o f) (ha : PA3 X G (e :: es) l) (hm : m ∉ N := by decide)
    (hst : starEach (e :: es) X.env = (false, eval e X.env) :: starEach es X.env := by rfl) (hpl : (backTo pos (starEach es X.env)).any (·.1) = false := by rfl)
    (ht : eval (.Call (.Attribute o m apos) (e :: es) [] pos) X.env = (do
      let ov ← eval o X.env
      standAt apos.atName
      let (f, first) ← holding [ov] (getMethod ov m pl)
      callWith pos f first (backTo pos (starEach (e :: es) X.env)) (backToKw pos (keywordEach [] X.env))) := by rfl) : PE3 X G (.Call (.Attribute o m apos) (e :: es) [] pos) (wMethX C2 N sp ex0 f l) := by
  obtain ⟨fa, fd, ps, F, M, c, hb⟩ := F
  obtain ⟨W, tk, hW⟩ := hx
  refine perw (pe_meth (E := fun cls d H => ∀ σ, W cls d σ H) ho c M F hr hb .nil (passes_call tk fun cls d σ H h => h σ) ha hst hpl ht) fun σ H Q hp ⟨ρ, h, k, rel, ev, q, post⟩ => ?_
  refine ⟨ρ, h, _, rel, ev, q, fun d h1 v H1 q1 rel1 per1 dv1 => ?_⟩
  obtain ⟨a, vs, rfl, hi, q1⟩ := q1
  cases dv1
  obtain ⟨dx, fs, e1, e2, _, _⟩ := rel1.ins hi
  refine ⟨a, dx, fs, rfl, e1, no_look hm e2, ρ, h1, _, rel1, ev.per per1, q1, fun ds h2 ws H2 q2 rel2 per2 dv2 => ?_⟩
  show spX G C fld sp (V.ref a :: (ws ++ [])) H2 Q _
  rw [List.append_nil]
  exact ⟨_, h2, k, ex0, rel2, .cons (.ref a) dv2, q2, post.per (per1.trans per2), fun v h' x H' d e1 r1 p1 d1 hd σ => hW v h' x H' d σ e1 r1 (((hp.trans per1).trans per2).trans p1) d1 hd⟩
theorem i_methX0 (N : List Str) {pl : Sem Bool} (hx : XF0 X G C fld ex0) (F : MdX X.prog X.w X.K X.mg X.base G C fld C2 m k sp) (hr : Room k X.A) (ho : PE3 X G o f) (hm : m ∉ N := by decide)
    (ht : eval (.Call (.Attribute o m apos) [] [] pos) X.env = (do
      let ov ← eval o X.env
      standAt apos.atName
      let (f, first) ← holding [ov] (getMethod ov m pl)
      callWith pos f first (backTo pos (starEach [] X.env)) (backToKw pos (keywordEach [] X.env))) := by rfl) : PE3 X G (.Call (.Attribute o m apos) [] [] pos) (wMethX C2 N sp ex0 f wNil) := by
  obtain ⟨fa, fd, ps, F, M, c, hb⟩ := F
  obtain ⟨W, tk, hW⟩ := hx
  refine perw (pe_meth0 (E := fun cls d H => ∀ σ, W cls d σ H) ho c M F hr hb .nil (passes_call tk fun cls d σ H h => h σ) ht) fun σ H Q hp ⟨ρ, h, k, rel, ev, q, post⟩ => ?_
  refine ⟨ρ, h, _, rel, ev, q, fun d h1 v H1 q1 rel1 per1 dv1 => ?_⟩
  obtain ⟨a, vs, rfl, hi, q1⟩ := q1
  cases dv1
  obtain ⟨dx, fs, e1, e2, _, _⟩ := rel1.ins hi
  exact ⟨a, dx, fs, rfl, e1, no_look hm e2, _, h1, k, ex0, rel1, .cons (.ref a) .nil, q1, post.per per1, fun v h' x H' d e1 r1 p1 d1 hd σ => hW v h' x H' d σ e1 r1 ((hp.trans per1).trans p1) d1 hd⟩
/-- raise C(e) -/
def wRaise (ex : Ev → D → H3 → Prop) (a : WE) : WS := fun _ ρ h => a ρ h fun v h1 => ex ρ v h1
theorem is_raise (hx : XF X G C fld ex) (F : KdX X.prog X.w X.K X.mg X.base C fld x k) (hc : X.calm = true) (hr : Room (k + 1) X.A) (he : PE3 X G e f) (hg : Gl X x := by rfl)
    (hdb : (x == ("__debug__" : Str)) = false := by decide) (hst : starEach [e] X.env = (false, eval e X.env) :: starEach [] X.env := by rfl) (hpl : (backTo pos (starEach [] X.env)).any (·.1) = false := by rfl) :
    PS3 X G (.Raise (some (.Call (.Name x p) [e] [] pos)) none pos') (wRaise ex f) := by
  obtain ⟨fa, fd, ps, F, T, iC, tI, hm, hb⟩ := F
  obtain ⟨W, tk, hW⟩ := hx
  refine perwS (ps_raise hc tk (pmk_oex T iC tI F hr hb .nil pass0 hg hm (ia_cons he ia_nil hst) hdb hst hpl)) fun D σ H hp ⟨ρ, h, E, rel, ev, q, post⟩ => ?_
  refine ⟨ρ, h, fun l h1 => match l with | [v] => ex ρ v h1 | _ => False, rel, ev, q, fun l h1 vs H1 q1 rel1 per1 dvs => ?_⟩
  match l, q1, dvs with
  | [v], q1, dvs =>
    cases dvs with
    | cons d1 t1 =>
      cases t1
      rename_i y
      refine ⟨by simp, fun a na => ⟨a, y, rfl, upd_same, fun dx nd nda => ⟨rfl, dx, [(fld, y)], upd_same, ?_, ?_, ?_⟩⟩⟩
      · rw [upd_ne nda, upd_same]
      · rw [upd_ne nda] at nd; exact nd
      · rw [upd_ne nda] at nd
        have e1 : upd (del (upd (upd (upd H1 a (exo a C none)) dx (exd dx [(fld, y)])) a (exo a C (some dx))) a) dx (.xd [(fld, y)]) = upd H1 dx (.xd [(fld, y)]) := by
          funext b
          by_cases hb : b = dx
          · rw [hb, upd_same, upd_same]
          · rw [upd_ne hb, upd_ne hb]
            by_cases hba : b = a
            · rw [hba, del_same, na]
            · rw [del_ne hba, upd_ne hba, upd_ne hb, upd_ne hba]
        rw [e1]
        exact hW ρ v h1 y _ dx σ q1 (rel1.new0 nd) ((hp.trans per1).trans (Per.new nd)) (ev.per (per1.trans (Per.new nd))) (d1.per (Per.new nd)) upd_same
end
section
variable {P : Program} {w : World} {K : PySem.W.Frag} {mg : Str → Option Value} {base : Heap} {G : Sc} {C : Addr} {fld : Str}
/-- a raising def's context -/
abbrev CXX (P : Program) (w : World) (K : PySem.W.Frag) (mg : Str → Option Value) (base : Heap) (N : List Str) (qual : Str) (st : Stmt) (f : Addr) (cdv : Value) (A : Around) (outer : List Env) (s : Shared) (H : Hp) (E : XK) : Cx :=
  cxOf (L2.CX P w) P w K mg base N qual (defScope st) f cdv A outer s H E
theorem xf_of {N : List Str} {qual : Str} {st : Stmt} {f : Addr} {cdv : Value} {A : Around} {outer : List Env} {s : Shared} {H : Hp} {E : XK} {ex : D → H3 → Prop} (q : PostX G C fld H ex E) : XF0 (CXX P w K mg base N qual st f cdv A outer s H E) G C fld ex :=
  ⟨_, takes_of rfl rfl rfl rfl, fun v h' x H' d σ a b c e f => q v h' x H' d a b c e f⟩
theorem fnX {x qual : Str} {st : Stmt} {f : Addr} {fd : FuncData} {N ps : List Str} {k : Nat} {sp : XS3} {W : (D → H3 → Prop) → WS} (F : Fun K x qual st f fd) (S : FnScope N ps (defScope st))
    (walk : ∀ (ex : D → H3 → Prop) (cdv : Value) (A : Around) (outer : List Env) (s : Shared) (H : Hp) (E : XK), Room k (A.deeper (envOfC qual (defScope st) s.heap.objs.size f cdv)) → XF0 (CXX P w K mg base N qual st f cdv A outer s H E) G C fld ex → PSs3 (CXX P w K mg base N qual st f cdv A outer s H E) G (defBody st) (W ex))
    (len : ∀ ex l h k, sp ex l h k → l.length = ps.length) (ok : ∀ ex l h k, sp ex l h k → W ex (en k) (ev0 N l) h) : FnOk P w K mg base (L2.CX P w) (k + 1) f fd ps (spX G C fld sp) := by
  refine F.okX S (fun vs H Q E ⟨l, h, k, ex, rel, dv, q, post, _⟩ => by rw [← dv.length]; exact len ex l h k q) (fun cdv A outer s H vs Q E hr ⟨l, h, k, ex, rel, dv, q, post, px⟩ => ?_)
  refine ⟨_, walk ex cdv A outer s H E hr (xf_of px), ev0 N l, h, en k, rel, evr0 dv, ok ex l h k q, ?_⟩
  refine ⟨fun ρ h' σ H' ⟨h'', sub, q'⟩ rel' per' _ => post _ _ _ _ q' (rel'.sub sub) per' .non, fun d h' v H' ⟨h'', sub, q'⟩ rel' per' dv' => post _ _ _ _ q' (rel'.sub sub) per' dv', fun _ _ _ _ q' => q'.elim, fun _ _ _ _ q' => q'.elim⟩
end
end T3
end
-- T3Join
section
set_option maxRecDepth 100000
set_option maxHeartbeats 4000000
/-! T3Join: from what the module's top has left to the promises of its defs. -/
namespace T3
open PySem PySem.Spec PySem.W PyProof.Rows L2
/-- the def at the module's name x -/
def At (K : Frag) (mg : Str → Option Value) (x : Str) (st : Stmt) : Prop := ∃ f fd, mg x = some (.ref f) ∧ Fun K x x st f fd
/-- the method m of the class at C -/
def AtM (K : Frag) (C : Addr) (m qual : Str) (st : Stmt) : Prop := ∃ f fd, Meth K C m f ∧ Fun K m qual st f fd
section
variable {P : Program} {w : World} {K : Frag} {mg : Str → Option Value} {base h : Heap} {G : Sc} {x m qual : Str} {st : Stmt} {f C C2 : Addr} {N ps : List Str} {j k : Nat} {fld : Str}
theorem at_mk {oc : Value} {od an : Option Addr} {osl : Array (Option Value)} {kV doc pm cdv ct : Value} (inK : K.In h) (gl : h.Ns mainGlobals mg) (a : nsIn K mainGlobals x = some (some (.ref f)))
    (l : K.lookup f = some ⟨oc, od, .func (fnOf x x (defArgs st) (defBody st) (defScope st) .none kV doc pm an cdv ct), osl⟩) (c : codeIn K cdv x = true) (kp : keepIn K (.ref f) = true) : At K mg x st := ⟨f, _, mg_of inK gl a, fun_mk l c kp⟩
theorem atm_mk {oc : Value} {od an : Option Addr} {osl : Array (Option Value)} {kV doc pm cdv ct : Value} (a : findIn K (.ref C) m = some (some (.ref f))) (i : isFn K (.ref f) = true)
    (l : K.lookup f = some ⟨oc, od, .func (fnOf m qual (defArgs st) (defBody st) (defScope st) .none kV doc pm an cdv ct), osl⟩) (c : codeIn K cdv qual = true) (kp : keepIn K (.ref f) = true) : AtM K C m qual st := ⟨f, _, ⟨a, i, kp⟩, fun_mk l c kp⟩
theorem cls_mk (pg : plainGet K C Str.empty = true) (hd : hasDictIn K C = true) (po : plainOver K C = true) (sa : findIn K (.ref C) "__setattr__" = some (some (.builtin "object.__setattr__"))) : Cls K C := ⟨pg, hd, po, sa⟩
/-- how its arguments bind -/
abbrev Bnd (K : Frag) (x qual : Str) (st : Stmt) (ps : List Str) : Prop := ∀ (f : Addr) (fd : FuncData), Fun K x qual st f fd → Binds K fd ps []
theorem mkFd {sp : Sp3} {W : WS} (D : At K mg x st) (S : FnScope N ps (defScope st)) (b : Bnd K x x st ps)
    (walk : ∀ (f : Addr) (cdv : Value) (A : Around) (outer : List Env) (s : Shared) (H : Hp) (E : XK), Room k (A.deeper (envOfC x (defScope st) s.heap.objs.size f cdv)) → PSs3 (CXF P w K mg base N x st f cdv A outer s H E) G (defBody st) W)
    (len : ∀ l h k, sp l h k → l.length = ps.length) (ok : ∀ l h k, sp l h k → W (en k) (ev0 N l) h) : Fd P w K mg base G x (k + 1) sp := by
  obtain ⟨f, fd, hm, F⟩ := D
  exact ⟨f, fd, ps, fn3 F S (walk f) len ok, hm, F.kp, b f fd F⟩
theorem mkMd {sp : Sp3} {W : WS} (D : AtM K C m qual st) (c : Cls K C) (S : FnScope N ps (defScope st)) (b : Bnd K m qual st ps)
    (walk : ∀ (f : Addr) (cdv : Value) (A : Around) (outer : List Env) (s : Shared) (H : Hp) (E : XK), Room k (A.deeper (envOfC qual (defScope st) s.heap.objs.size f cdv)) → PSs3 (CXF P w K mg base N qual st f cdv A outer s H E) G (defBody st) W)
    (len : ∀ l h k, sp l h k → l.length = ps.length) (ok : ∀ l h k, sp l h k → W (en k) (ev0 N l) h) : Md P w K mg base G C m (k + 1) sp := by
  obtain ⟨f, fd, hm, F⟩ := D
  exact ⟨f, fd, ps, fn3 F S (walk f) len ok, hm, c, b f fd F⟩
theorem mkKd {sp : Sp3} {W : WS} (D : AtM K C "__init__" qual st) (mk : makesIn K C = true) (kc : keepIn K (.ref C) = true) (hx : mg x = some (.ref C)) (S : FnScope N ps (defScope st)) (b : Bnd K "__init__" qual st ps)
    (walk : ∀ (f : Addr) (cdv : Value) (A : Around) (outer : List Env) (s : Shared) (H : Hp) (E : XK), Room k (A.deeper (envOfC qual (defScope st) s.heap.objs.size f cdv)) → PSs3 (CXF P w K mg base N qual st f cdv A outer s H E) G (defBody st) W)
    (len : ∀ l h k, sp l h k → l.length = ps.length) (ok : ∀ l h k, sp l h k → W (en k) (ev0 N l) h) : Kd P w K mg base G x C (k + 1) sp := by
  obtain ⟨f, fd, hm, F⟩ := D
  exact ⟨f, fd, ps, fn3 F S (walk f) len ok, ⟨mk, hm.at_, hm.fn, kc⟩, hx, b f fd F⟩
/-- a wish for an error, whatever was made since -/
def exS (ex : D → H3 → Prop) : D → H3 → Prop := fun v h' => ∃ h'', Sub h'' h' ∧ ex v h''
theorem PostX.exS {H0 : Hp} {ex : D → H3 → Prop} {E : XK} (q : PostX G C fld H0 ex E) : PostX G C fld H0 (T3.exS ex) E := fun v h' x H' d ⟨h'', sub, e⟩ r p dv hd => q v h'' x H' d e (r.sub sub) p dv hd
theorem fnXS {fd : FuncData} {sp : XS3} {W : (D → H3 → Prop) → WS} (F : Fun K x qual st f fd) (S : FnScope N ps (defScope st))
    (walk : ∀ (ex : D → H3 → Prop) (cdv : Value) (A : Around) (outer : List Env) (s : Shared) (H : Hp) (E : XK), Room k (A.deeper (envOfC qual (defScope st) s.heap.objs.size f cdv)) → XF0 (CXX P w K mg base N qual st f cdv A outer s H E) G C fld ex → PSs3 (CXX P w K mg base N qual st f cdv A outer s H E) G (defBody st) (W ex))
    (len : ∀ ex l h k, sp ex l h k → l.length = ps.length) (ok : ∀ ex l h k, sp ex l h k → W (exS ex) (en k) (ev0 N l) h) : FnOk P w K mg base (L2.CX P w) (k + 1) f fd ps (spX G C fld sp) := by
  refine F.okX S (fun vs H Q E ⟨l, h, k, ex, rel, dv, q, post, _⟩ => by rw [← dv.length]; exact len ex l h k q) (fun cdv A outer s H vs Q E hr ⟨l, h, k, ex, rel, dv, q, post, px⟩ => ?_)
  refine ⟨_, walk (exS ex) cdv A outer s H E hr (xf_of px.exS), ev0 N l, h, en k, rel, evr0 dv, ok ex l h k q, ?_⟩
  exact ⟨fun ρ h' σ H' ⟨_, sub, q'⟩ r p _ => post _ _ _ _ q' (r.sub sub) p .non, fun d h' v H' ⟨_, sub, q'⟩ r p dv' => post _ _ _ _ q' (r.sub sub) p dv', fun _ _ _ _ q' => q'.elim, fun _ _ _ _ q' => q'.elim⟩
theorem mkFdX {sp : XS3} {W : (D → H3 → Prop) → WS} (D : At K mg x st) (S : FnScope N ps (defScope st)) (b : Bnd K x x st ps)
    (walk : ∀ (f : Addr) (ex : T3.D → H3 → Prop) (cdv : Value) (A : Around) (outer : List Env) (s : Shared) (H : Hp) (E : XK), Room k (A.deeper (envOfC x (defScope st) s.heap.objs.size f cdv)) → XF0 (CXX P w K mg base N x st f cdv A outer s H E) G C fld ex → PSs3 (CXX P w K mg base N x st f cdv A outer s H E) G (defBody st) (W ex))
    (len : ∀ ex l h k, sp ex l h k → l.length = ps.length) (ok : ∀ ex l h k, sp ex l h k → W (exS ex) (en k) (ev0 N l) h) : FdX P w K mg base G C fld x (k + 1) sp := by
  obtain ⟨f, fd, hm, F⟩ := D
  exact ⟨f, fd, ps, fnXS F S (walk f) len ok, hm, F.kp, b f fd F⟩
theorem mkMdX {sp : XS3} {W : (D → H3 → Prop) → WS} (D : AtM K C2 m qual st) (c : Cls K C2) (S : FnScope N ps (defScope st)) (b : Bnd K m qual st ps)
    (walk : ∀ (f : Addr) (ex : T3.D → H3 → Prop) (cdv : Value) (A : Around) (outer : List Env) (s : Shared) (H : Hp) (E : XK), Room k (A.deeper (envOfC qual (defScope st) s.heap.objs.size f cdv)) → XF0 (CXX P w K mg base N qual st f cdv A outer s H E) G C fld ex → PSs3 (CXX P w K mg base N qual st f cdv A outer s H E) G (defBody st) (W ex))
    (len : ∀ ex l h k, sp ex l h k → l.length = ps.length) (ok : ∀ ex l h k, sp ex l h k → W (exS ex) (en k) (ev0 N l) h) : MdX P w K mg base G C fld C2 m (k + 1) sp := by
  obtain ⟨f, fd, hm, F⟩ := D
  exact ⟨f, fd, ps, fnXS F S (walk f) len ok, hm, c, b f fd F⟩
theorem Fd.no {sp : Sp3} (D : At K mg x st) (b : Bnd K x x st ps) (no : ∀ l h k, ¬ sp l h k) : Fd P w K mg base G x k sp := by
  obtain ⟨f, fd, hm, F⟩ := D
  exact ⟨f, fd, ps, ⟨fun vs H Q E ⟨l, h, k, _, _, q, _⟩ => (no _ _ _ q).elim, fun A outer s H args us vs Q E _ _ _ _ ⟨l, h, k, _, _, q, _⟩ => (no _ _ _ q).elim⟩, hm, F.kp, b f fd F⟩
theorem FdX.no {sp : XS3} (D : At K mg x st) (b : Bnd K x x st ps) (no : ∀ ex l h k, ¬ sp ex l h k) : FdX P w K mg base G C fld x k sp := by
  obtain ⟨f, fd, hm, F⟩ := D
  exact ⟨f, fd, ps, ⟨fun vs H Q E ⟨l, h, k, ex, _, _, q, _⟩ => (no _ _ _ _ q).elim, fun A outer s H args us vs Q E _ _ _ _ ⟨l, h, k, ex, _, _, q, _⟩ => (no _ _ _ _ q).elim⟩, hm, F.kp, b f fd F⟩
theorem MdX.no {sp : XS3} (D : AtM K C2 m qual st) (c : Cls K C2) (b : Bnd K m qual st ps) (no : ∀ ex l h k, ¬ sp ex l h k) : MdX P w K mg base G C fld C2 m k sp := by
  obtain ⟨f, fd, hm, F⟩ := D
  exact ⟨f, fd, ps, ⟨fun vs H Q E ⟨l, h, k, ex, _, _, q, _⟩ => (no _ _ _ _ q).elim, fun A outer s H args us vs Q E _ _ _ _ ⟨l, h, k, ex, _, _, q, _⟩ => (no _ _ _ _ q).elim⟩, hm, c, b f fd F⟩
theorem Md.mono {sp : Sp3} (F : Md P w K mg base G C m j sp) (h : j ≤ k) : Md P w K mg base G C m k sp := let ⟨f, fd, ps, a, b⟩ := F; ⟨f, fd, ps, a.mono h, b⟩
theorem Kd.mono {sp : Sp3} (F : Kd P w K mg base G x C j sp) (h : j ≤ k) : Kd P w K mg base G x C k sp := let ⟨f, fd, ps, a, b⟩ := F; ⟨f, fd, ps, a.mono h, b⟩
theorem FdX.mono {sp : XS3} (F : FdX P w K mg base G C fld x j sp) (h : j ≤ k) : FdX P w K mg base G C fld x k sp := let ⟨f, fd, ps, a, b⟩ := F; ⟨f, fd, ps, a.mono h, b⟩
theorem MdX.mono {sp : XS3} (F : MdX P w K mg base G C fld C2 m j sp) (h : j ≤ k) : MdX P w K mg base G C fld C2 m k sp := let ⟨f, fd, ps, a, b⟩ := F; ⟨f, fd, ps, a.mono h, b⟩
theorem KdX.mono (F : KdX P w K mg base C fld x j) (h : j ≤ k) : KdX P w K mg base C fld x k := let ⟨f, fd, ps, a, b⟩ := F; ⟨f, fd, ps, a.mono h, b⟩
end
end T3
end
-- T3Kw
section
set_option maxRecDepth 100000
set_option maxHeartbeats 4000000
/-! T3Kw: calls with keywords, list(dict), a dict comprehension with two names. -/
namespace T3
open PySem PySem.Spec PySem.W PyProof.Rows L2

/-! ### list(d): a dict's keys -/
def keysD (kvs : List (List Key × D)) : List D := kvs.map fun kv => .tup (kv.1.map kD)
def rListD : List D → H3 → K1 → Prop := fun l h k => ∃ a kvs, l = [.ref a] ∧ h a = some (.dT kvs) ∧ ∀ p, h p = none → k (.ref p) (up h p (.lst (keysD kvs)))
theorem dv_key (H : Hp) : ∀ k : Key, DV H (kD k) (kV k)
  | .inl i => .int i
  | .inr x => .str x
theorem dvs_key (H : Hp) : ∀ ks : List Key, DVs H (ks.map kD) (ks.map kV)
  | [] => .nil
  | k :: r => .cons (dv_key H k) (dvs_key H r)
theorem dvs_keys {H : Hp} : ∀ {kvs : List (List Key × D)} {vs : List (List Key × V)} {bs : List Addr}, KVs H kvs vs → IsKeys H vs bs → DVs H (keysD kvs) (bs.map V.ref)
  | [], _, _, h, b => by
    cases h
    cases b
    exact .nil
  | (k, d) :: r, _, _, h, b => by
    cases h with
    | cons z t =>
      cases b with
      | cons y u =>
        obtain ⟨e, _⟩ := z
        refine .cons (.tup y ?_) (dvs_keys t u)
        rw [← e]
        exact dvs_key H k
theorem rf_listD {X : Cx} {G : Sc} (hc : X.calm = true) : RfL G (UC X (.type "list")) rListD := by
  intro l vs h H k Q rel dv ⟨a, kvs, el, ha, q⟩ post
  subst el
  cases dv with
  | cons d1 t1 =>
    cases t1
    cases d1
    obtain ⟨ws, e1, r1⟩ := rel.dT ha
    exact ⟨_, call_list_dT hc, a, ws, rfl, .of e1, fun p bs np ik => post_lst post rel (dvs_keys r1 ik) q np⟩

/-! ### calls with keywords -/
/-- the arguments by place, and just one by its keyword -/
def one1 {α : Type} (us ws : List α) : List α := if ws.length = 1 then us ++ ws else []
/-- the def at the module's name x, called with its last argument by the keyword ks -/
def FdK (P : Program) (w : World) (K : Frag) (mg : Str → Option Value) (base : Heap) (G : Sc) (x : Str) (ks : List Str) (k : Nat) (sp : Sp3) : Prop :=
  ∃ f fd ps, FnOk P w K mg base CX0 k f fd ps (spI G sp) ∧ mg x = some (.ref f) ∧ keepIn K (.ref f) = true ∧ KBinds K fd ps ks one1 one1
theorem FdK.mono {P : Program} {w : World} {K : Frag} {mg : Str → Option Value} {base : Heap} {G : Sc} {x : Str} {ks : List Str} {j k : Nat} {sp : Sp3} (F : FdK P w K mg base G x ks j sp) (h : j ≤ k) : FdK P w K mg base G x ks k sp :=
  let ⟨f, fd, ps, a, b⟩ := F
  ⟨f, fd, ps, a.mono h, b⟩
/-- the keywords' values, from the left -/
abbrev PK3 (X : Cx) (G : Sc) (kws : List Keyword) (t : WA) : Prop := PK X kws (tIA G t)
def wKw (sp : Sp3) (l m : WA) : WE := fun ρ h k => l ρ h fun ds h1 => m ρ h1 fun es h2 => es.length = 1 ∧ sp (ds ++ es) h2 k
section
variable {X : Cx} {G : Sc} {e : Expr} {es : List Expr} {kws : List Keyword} {f : WE} {l m : WA} {p pos kpos : Pos} {x : Str} {ks : List Str} {k : Nat} {sp : Sp3} {nm : Option Str}
theorem _root_.L2.PK.weak {kws : List Keyword} {t t' : TA} (h : PK X kws t) (w : ∀ σ H Q, t' σ H Q → t σ H Q) : PK X kws t' := ⟨fun pos pins s σ H Q I q => h.run pos pins s σ H Q I (w σ H Q q)⟩
theorem ik_nil : PK3 X G [] wNil := PK.weak pk_nil fun σ H Q ⟨ρ, h, k, rel, ev, q, post⟩ => post [] h [] H q rel (Per.refl H) .nil
theorem ik_cons (ha : PE3 X G e f) (hr : PK3 X G kws l) : PK3 X G (⟨nm, e, kpos⟩ :: kws) (wCons f l) := by
  refine PK.weak (pk_cons ha hr) fun σ H Q ⟨ρ, h, k, rel, ev, q, post⟩ => ?_
  refine ⟨ρ, h, _, rel, ev, q, fun d h1 v H1 q1 rel1 per1 dv1 => ?_⟩
  exact ⟨ρ, h1, _, rel1, ev.per per1, q1, fun ds h2 vs H2 q2 rel2 per2 dv2 => post _ _ _ _ q2 rel2 (per1.trans per2) (.cons (dv1.per per2) dv2)⟩
theorem i_callK (F : FdK X.prog X.w X.K X.mg X.base G x ks k sp) (hr : Room k X.A) (ha : PA3 X G (e :: es) l) (hk : PK3 X G kws m) (hg : Gl X x := by rfl)
    (hall : (backToKw pos (keywordEach kws X.env)).all (·.1.isSome) = true := by rfl) (hks : (backToKw pos (keywordEach kws X.env)).filterMap (·.1) = ks := by rfl)
    (hdb : (x == ("__debug__" : Str)) = false := by decide) (he : starEach (e :: es) X.env = (false, eval e X.env) :: starEach es X.env := by rfl)
    (hpl : ((backTo pos (starEach (e :: es) X.env)).any (·.1) || (backToKw pos (keywordEach kws X.env)).any (·.1.isNone)) = false := by rfl) : PE3 X G (.Call (.Name x p) (e :: es) kws pos) (wKw sp l m) := by
  obtain ⟨f, fd, ps, F, hm, hkp, hb⟩ := F
  refine (pe_callK F hr hg hm hkp hb pass0 ha hk hall hks hdb he hpl).weak fun σ H Q ⟨ρ, h, k, rel, ev, q, post⟩ => ?_
  refine ⟨ρ, h, _, rel, ev, q, fun ds h1 vs H1 q1 rel1 per1 dv1 => ⟨ρ, h1, _, rel1, ev.per per1, q1, fun es' h2 ws H2 q2 rel2 per2 dv2 => ?_⟩⟩
  show spI G sp (one1 vs ws) H2 Q E0
  have e1 : one1 vs ws = vs ++ ws := if_pos (by rw [← dv2.length]; exact q2.1)
  rw [e1]
  exact ⟨_, h2, k, rel2, (dv1.per per2).append dv2, q2.2, post.per (per1.trans per2)⟩
end
section
variable {P : Program} {w : World} {K : Frag} {mg : Str → Option Value} {base : Heap} {G : Sc} {x : Str} {st : Stmt} {N ps ks : List Str} {k : Nat}
theorem vals_app : ∀ {vs : List V} {us : List Value} {zs : List V} {ws : List Value}, Vals vs us → Vals zs ws → Vals (vs ++ zs) (us ++ ws)
  | _, _, _, _, .nil, h => h
  | _, _, _, _, .cons r t, h => .cons r (vals_app t h)
/-- the last argument by the keyword k -/
theorem Fun.kbinds {qual : Str} {f : Addr} {fd : FuncData} {kw : Str} (F : Fun K x qual st f fd) (hps : ps ≠ [])
    (h : ∀ (kV doc pm : Value) (an : Option Addr) (cdv ct : Value) (us : List Value) (w : Value), us.length + 1 = ps.length → bindArgs (fnOf x qual (defArgs st) (defBody st) (defScope st) .none kV doc pm an cdv ct) ⟨us, [(kw, w)]⟩ = pure (ps.zip (us ++ [w]))) :
    KBinds K fd ps [kw] one1 one1 := by
  obtain ⟨oc, od, kV, doc, pm, an, cdv, ct, osl, rfl, lk, hcd⟩ := F.ex
  refine ⟨fun s us ws _ hl => ?_, fun {vs us zs ws} a b => ?_⟩
  · unfold one1 at hl ⊢
    split at hl
    · rename_i c
      obtain ⟨w, rfl⟩ := List.length_eq_one_iff.mp c
      exact .of_eq (h kV doc pm an cdv ct us w (by simpa using hl))
    · exact absurd (List.length_eq_zero_iff.mp hl.symm) hps
  · have hl : zs.length = ws.length := b.length
    unfold one1
    rw [hl]
    split
    · exact vals_app a b
    · exact .nil
/-- its promise -/
theorem mkFdK {sp : Sp3} {W : WS} {kw : Str} (D : At K mg x st) (S : FnScope N ps (defScope st)) (b : ∀ (f : Addr) (fd : FuncData), Fun K x x st f fd → KBinds K fd ps [kw] one1 one1)
    (walk : ∀ (f : Addr) (cdv : Value) (A : Around) (outer : List Env) (s : Shared) (H : Hp) (E : XK), Room k (A.deeper (envOfC x (defScope st) s.heap.objs.size f cdv)) → PSs3 (CXF P w K mg base N x st f cdv A outer s H E) G (defBody st) W)
    (len : ∀ l h k, sp l h k → l.length = ps.length) (ok : ∀ l h k, sp l h k → W (en k) (ev0 N l) h) : FdK P w K mg base G x [kw] (k + 1) sp := by
  obtain ⟨f, fd, hm, F⟩ := D
  exact ⟨f, fd, ps, fn3 F S (walk f) len ok, hm, F.kp, b f fd F⟩
end

/-! ### {k: v for a, b in ..} -/
def dcW (chk : H3 → Prop) (i j : Nat) (t : WT) (ke ve : WE) (p : Addr) (ρ : Ev) (k : K1) : List D → H3 → Prop
  | [], h => chk h ∧ k (.ref p) h
  | x :: r, h => chk h ∧ ∃ a b, x = .tup [a, b] ∧ t ((ρ.set i (some a)).set j (some b)) h fun c h1 => if c = true then ke ((ρ.set i (some a)).set j (some b)) h1 fun y h2 => ve ((ρ.set i (some a)).set j (some b)) h2 fun d h3 =>
      ∃ kvs q, h3 p = some (.dK kvs) ∧ keyOf y = some q ∧ kvs.length < 16777216 ∧ ∃ h4, Sub h4 (up h3 p (.dK (putD kvs q d))) ∧ dcW chk i j t ke ve p ρ k r h4
      else ∃ h3, Sub h3 h1 ∧ dcW chk i j t ke ve p ρ k r h3
def wDc (it : WI) (i j : Nat) (t : WT) (ke ve : WE) : WE := fun ρ h k => it ρ h fun s h1 => ∀ p, h1 p = none → match s with
  | .fix l => dcW (fun _ => True) i j t ke ve p ρ k l (up h1 p (.dK []))
  | .lst a => ∃ l, h1 a = some (.lst l) ∧ dcW (fun h => h a = some (.lst l)) i j t ke ve p ρ k l (up h1 p (.dK []))
abbrev gTwo (K : Frag) (i j : Nat) : TG := gTup K 2 (gCons (gName i) (gCons (gName j) gNil))
theorem wipe_set2 {σ : L2.St} {i j : Nat} {v u : Option V} : wipe (((wipe σ [i, j]).set i v).set j u) [i, j] = wipe σ [i, j] := by
  show ((((((σ.set j none).set i none).set i v).set j u).set j none).set i none) = (σ.set j none).set i none
  by_cases h : i = j
  · subst h; simp [List.set_set]
  · rw [List.set_set, List.set_set, List.set_comm _ _ h, List.set_set, List.set_set]
theorem EvR.wip2 {H : Hp} {ρ : Ev} {σ : L2.St} {a b : D} {v u : V} (e : EvR H ρ σ) (r : DV H a v) (s : DV H b u) {i j : Nat} (h : i ≠ j) : EvR H ((ρ.set i (some a)).set j (some b)) (((wipe σ [i, j]).set i (some v)).set j (some u)) := by
  show EvR H ((ρ.set i (some a)).set j (some b)) ((((σ.set j none).set i none).set i (some v)).set j (some u))
  rw [List.set_set, List.set_comm none (some v) (Ne.symm h), List.set_set]
  exact (e.set r i).set s j
theorem dc_ok {G : Sc} {KK : Frag} {J : It} {H1 : Hp} {s : Src} {i j : Nat} {t : WT} {ke ve : WE} {Q : VK} {k : K1} {l : List T3.D} {chk : H3 → Prop} {ρ : Ev} {h : H3} {σ : L2.St} {H0 : Hp} {p : Addr} (hij : i ≠ j)
    (ok : ItOk G J H1 s) (p0 : Per H0 H1) (at_ : ∀ i h d, chk h → l[i]? = some d → s.at_ h i d) (done : ∀ i h, chk h → l.length ≤ i → s.done h i)
    (rel : Rel G h H1) (ev : EvR H1 ρ σ) (np : H1 p = none) (q : dcW chk i j t ke ve p ρ k l (up h p (.dK []))) (post : Post G H0 k Q) :
    ∃ W : Nat → Nat → Hp → Prop, (∃ m, W 0 m (upd H1 p (.dK []))) ∧ ∀ n m H, W n m H →
  (J.stop n H ∧ Q (.ref p) H) ∨ (J.go n H ∧ ∃ Nx : Hp → Prop, (∀ H', Nx H' → ∃ m', m' < m ∧ W (n + 1) m' H') ∧ ∀ x H', J.yld n H x H' → gTwo KK i j x (wipe σ [i, j]) H' fun σ2 H2 => wipe σ2 [i, j] = wipe σ [i, j] ∧ tIT G t σ2 H2 fun b H3 =>
    if b = true then tI G ke σ2 H3 fun y H4 => tI G ve σ2 H4 fun z H5 => ∃ kvs k, y = kV k ∧ H5 p = some (.dK kvs) ∧ kvs.length < sizeLine ∧ Nx (upd H5 p (.dK (putK kvs k z))) else Nx H3) := by
  refine ⟨fun n m H => ∃ h, n + m = l.length ∧ Rel G h H ∧ Per H1 H ∧ dcW chk i j t ke ve p ρ k (l.drop n) h, ⟨l.length, _, by omega, rel.new (o := .dK []) np ⟨[], upd_same, .nil⟩, Per.new np, by simpa using q⟩, ?_⟩
  rintro n m H ⟨h, em, rel, per, q⟩
  by_cases hj : n < l.length
  · have e : l[n]? = some l[n] := List.getElem?_eq_getElem hj
    rw [List.drop_eq_getElem_cons hj] at q
    obtain ⟨hc, a, b, ex, q⟩ := q
    have sat := at_ n h _ hc e
    refine .inr ⟨ok.go n H h _ per rel sat, fun H' => ∃ h, Rel G h H' ∧ Per H1 H' ∧ dcW chk i j t ke ve p ρ k (l.drop (n + 1)) h, fun H' ⟨h', a, b, c⟩ => ⟨m - 1, by omega, h', by omega, a, b, c⟩, fun x H' y => ?_⟩
    obtain ⟨rel', per', dv⟩ := ok.yld n H h _ x H' per rel sat y
    rw [ex] at dv
    cases dv with
    | tup et rt =>
      cases rt with
      | cons da rt =>
        cases rt with
        | cons db rt =>
          cases rt
          refine ⟨_, _, rfl, .of et, rfl, _, _, rfl, _, _, rfl, rfl, wipe_set2, (ρ.set i (some a)).set j (some b), h, _, rel', (ev.per (per.trans per')).wip2 da db hij, q, fun c h1 H2 q1 rel1 per1 => ?_⟩
          cases c with
          | true =>
            rw [if_pos rfl] at q1
            rw [if_pos rfl]
            refine ⟨(ρ.set i (some a)).set j (some b), h1, _, rel1, (ev.per ((per.trans per').trans per1)).wip2 (da.per per1) (db.per per1) hij, q1, fun y h2 v H3 q2 rel2 per2 dv2 => ?_⟩
            refine ⟨(ρ.set i (some a)).set j (some b), h2, _, rel2, (ev.per (((per.trans per').trans per1).trans per2)).wip2 (da.per (per1.trans per2)) (db.per (per1.trans per2)) hij, q2, fun d h3 u H4 q3 rel3 per3 dv3 => ?_⟩
            obtain ⟨kvs, kk, ha, ek, hz, h4, sub, q4⟩ := q3
            obtain ⟨vs, e1, kv⟩ := rel3.dK ha
            have pm := Per.mut (o := .dK (putK vs kk u)) (rel3.mut ha)
            refine ⟨vs, kk, key_v (dv2.per per3) ek, e1, by rw [← kv.length]; exact hz, h4, (rel3.write (o := .dK (putD kvs kk d)) ha ⟨_, upd_same, (kv.put kk dv3).per pm⟩).sub sub, ?_, q4⟩
            exact ((per.trans per').trans per1).trans ((per2.trans per3).trans pm)
          | false =>
            obtain ⟨h3, sub, q3⟩ := q1
            rw [if_neg Bool.false_ne_true]
            exact ⟨h3, rel1.sub sub, (per.trans per').trans per1, q3⟩
  · have e : l.drop n = [] := List.drop_eq_nil_iff.mpr (by omega)
    rw [e] at q
    obtain ⟨hc, q⟩ := q
    exact .inl ⟨ok.stop n H h per rel (done n h hc (by omega)), post _ h _ H q rel (p0.trans per) (.ref p)⟩
section
variable {X : Cx} {G : Sc} {kx vx iter c : Expr} {ifs : List Expr} {scope : Scope} {pos p1 p2 p3 : Pos} {it : WI} {t : WT} {ke ve : WE} {x y : Str} {kd : Nat}
theorem i_dc (i j : Nat) (hc : X.calm = true) (hN : X.N.Nodup) (hij : i ≠ j) (ok : BlkOk X.N X.env.scope scope [(x, i), (y, j)]) (hi : PI3 X G (.Tuple [.Name x p1, .Name y p2] kd p3) iter it)
    (hg : ∀ (s : Shared) (H : Hp) (C : Addr) (cl : List (Str × Addr)) (fp : List Addr), PG (X.blk s H scope (compEnvC scope cl C X.env) fp) (.Tuple [.Name x p1, .Name y p2] kd p3) (gTwo X.K i j))
    (ht : ∀ (s : Shared) (H : Hp) (C : Addr) (cl : List (Str × Addr)) (fp : List Addr), PTs (X.blk s H scope (compEnvC scope cl C X.env) fp) ifs (tIT G t))
    (hk : ∀ (s : Shared) (H : Hp) (C : Addr) (cl : List (Str × Addr)) (fp : List Addr), PE (X.blk s H scope (compEnvC scope cl C X.env) fp) kx (tI G ke))
    (he : ∀ (s : Shared) (H : Hp) (C : Addr) (cl : List (Str × Addr)) (fp : List Addr), PE (X.blk s H scope (compEnvC scope cl C X.env) fp) vx (tI G ve)) (hs : ∀ x, foldedSetIterable iter X.env x = pure x := by intro _; rfl) :
    PE3 X G (.DictComp kx vx [⟨.Tuple [.Name x p1, .Name y p2] kd p3, iter, ifs, 0⟩] scope pos) (wDc it i j t ke ve) := by
  refine (pe_dc (own := [(x, i), (y, j)]) hc hN hi ok hg ht hk he hs).weak fun σ H Q ⟨ρ, h, k, rel, ev, q, post⟩ => ?_
  refine ⟨ρ, h, _, rel, ev, q, fun s J h1 H1 q1 rel1 per1 ok p np => ?_⟩
  have q1 := q1 p (rel1.none np)
  split at q1
  · exact dc_ok hij ok per1 (fun i h d _ e => e) (fun i h _ e => e) rel1 (ev.per per1) np q1 post
  · obtain ⟨l, hl, q1⟩ := q1
    exact dc_ok hij ok per1 (fun i h d c e => ⟨l, c, e⟩) (fun i h c e => ⟨l, c, e⟩) rel1 (ev.per per1) np q1 post
end
end T3
end
-- P04
section
set_option maxRecDepth 100000
set_option maxHeartbeats 4000000
/-! P04: runs, in plain Lean. -/
namespace P04
open PySem L2 T3
/-! ### programs -/
def pns (pg : Pg) : List (Str × Int) := pg.procs.map fun p => (p.name, p.params)
structure PrOk (pg : Pg) (p : Pr) : Prop where
  nm : PyData.strOk p.name = true
  ne : p.blocks ≠ []
  prm : p.params ≤ 3
  few : p.blocks.length ≤ 6
  lab : (p.blocks.map Bk.label).Nodup
  body : ∀ b ∈ p.blocks, b.body.length ≤ 6
  sms : ∀ b ∈ p.blocks, ∀ s ∈ b.body, s.Wf (p2 pg.w) pg.arrays (pns pg)
  nds : ∀ b ∈ p.blocks, b.nd.Wf (p2 pg.w) pg.arrays (p.blocks.map Bk.label)
structure PgOk (pg : Pg) : Prop where
  w1 : 1 ≤ pg.w
  w2 : pg.w ≤ 16
  an : (pg.arrays.map (·.1)).Nodup
  az : ∀ a ∈ pg.arrays, 1 ≤ a.2 ∧ a.2 ≤ 8
  ao : ∀ a ∈ pg.arrays, PyData.strOk a.1 = true
  af : pg.arrays.length ≤ 3
  pn : (pg.procs.map Pr.name).Nodup
  pf : pg.procs.length ≤ 3
  main : ∃ p ∈ pg.procs, p.name = "main"
  each : ∀ p ∈ pg.procs, PrOk pg p
/-! ### words -/
def opD (w : Int) (o : Str) (x y : Int) : Int :=
  if o = "add" then Builtin.bitAnd (x + y) (p2 w - 1)
  else if o = "sub" then Builtin.bitAnd (x - y) (p2 w - 1)
  else if o = "mul" then Builtin.bitAnd (x * y) (p2 w - 1)
  else if o = "and" then Builtin.bitAnd x y
  else if o = "or" then Builtin.bitOr x y
  else if o = "xor" then Builtin.bitXor x y
  else if o = "shl" then (if w ≤ y then 0 else Builtin.bitAnd (x * 2 ^ y.toNat) (p2 w - 1))
  else if o = "shr" then (if w ≤ y then 0 else x / 2 ^ y.toNat)
  else if o = "less" then (if x < y then 1 else 0)
  else if o = "equal" then (if x = y then 1 else 0)
  else if o = "not" then p2 w - 1 - x
  else Builtin.bitAnd (-x) (p2 w - 1)
theorem p2_nat (w : Int) : p2 w = ((2 ^ w.toNat : Nat) : Int) := by unfold p2; simp
theorem p2_two {w : Int} (h : 1 ≤ w) : 2 ≤ p2 w := p2_le (n := 1) h
theorem and_top (x : Int) {w : Int} : 0 ≤ Builtin.bitAnd x (p2 w - 1) ∧ Builtin.bitAnd x (p2 w - 1) < p2 w := by
  have h := p2_pos (n := w)
  have := PyProof.Rows.bitAnd_range x (y := p2 w - 1) (by omega)
  omega
theorem opD_range {w : Int} {o : Str} {x y : Int} (hw : 1 ≤ w) (hx : 0 ≤ x ∧ x < p2 w) (hy : 0 ≤ y ∧ y < p2 w) : 0 ≤ opD w o x y ∧ opD w o x y < p2 w := by
  have h2 := p2_two hw
  have hp := p2_nat w
  have e : ((2 ^ w.toNat : Nat) : Int) = p2 w := hp.symm
  have hxn : x.toNat < 2 ^ w.toNat := by have := hx.2; rw [hp] at this; omega
  have hyn : y.toNat < 2 ^ w.toNat := by have := hy.2; rw [hp] at this; omega
  unfold opD
  split
  · exact and_top _
  split
  · exact and_top _
  split
  · exact and_top _
  split
  · have := PyProof.Rows.bitAnd_range x (y := y) hy.1
    omega
  split
  · rw [Bits.bitOr_pp hx.1 hy.1]
    have := Nat.or_lt_two_pow hxn hyn
    rw [hp]; omega
  split
  · rw [Bits.bitXor_pp hx.1 hy.1]
    have := Nat.xor_lt_two_pow hxn hyn
    rw [hp]; omega
  split
  · split
    · omega
    · exact and_top _
  split
  · split
    · omega
    · have h1 : 0 ≤ x / 2 ^ y.toNat := Int.ediv_nonneg hx.1 (Int.le_of_lt (Int.pow_pos (by decide)))
      have h3 : x / 2 ^ y.toNat ≤ x := Int.ediv_le_self _ hx.1
      omega
  split
  · split <;> omega
  split
  · split <;> omega
  split
  · omega
  · exact and_top _
/-! ### states -/
structure Fr where
  pr : Pr
  label : Int
  at_ : Nat
  vars : List (Key × D)
  res : Int
structure Rn where
  used : Nat
  writes : List Int
  path : List (Str × Int)
  items : List (List Key)
  cells : List (Str × List Int)
  frames : List Fr
  en : Option (List Key)
def getV (vars : List (Key × D)) (v : Int) : Int := match valD vars (.inl v) with
  | some (.int x) => x
  | _ => 0
def val (w : Int) (cells : List (Str × List Int)) (vars : List (Key × D)) : Ex → Option Int
  | .int n => some n
  | .var v => some (getV vars v)
  | .cell a e => match val w cells vars e with
    | none => none
    | some i => match cells.lookup a with
      | some l => l[i.toNat]?
      | none => none
  | .one o e => match val w cells vars e with
    | none => none
    | some x => some (opD w o x 0)
  | .two o e f => match val w cells vars e with
    | none => none
    | some x => match val w cells vars f with
      | none => none
      | some y => some (opD w o x y)
def blkOf (p : Pr) (l : Int) : Option Bk := p.blocks.find? fun b => decide (b.label = l)
def bodyOf (f : Fr) : List Sm := match blkOf f.pr f.label with
  | some b => b.body
  | none => []
def place (f : Fr) : Int := if f.at_ < (bodyOf f).length then f.at_ else -1
def Rn.fin (S : Rn) (ks : List Key) : Rn := { S with en := some ks, items := S.items ++ [ks] }
def idxK (f : Fr) : List Key := [.inr "index", .inr f.pr.name, .inl f.label, .inl (place f)]
def deepK (f : Fr) : List Key := [.inr "deep", .inr f.pr.name, .inl f.label, .inl f.at_]
def blockK (n : Str) (l : Int) : List Key := [.inr "block", .inr n, .inl l]
def edgeK (n : Str) (l m : Int) : List Key := [.inr "edge", .inr n, .inl l, .inl m]
def brokenK (i : Int) : List Key := [.inr "broken", .inl i]
def bump (f : Fr) : Fr := { f with at_ := f.at_ + 1 }
def put (f : Fr) (v x : Int) : Fr := { f with vars := putD f.vars (.inl v) (.int x) }
def putC (cells : List (Str × List Int)) (a : Str) (i : Nat) (x : Int) : List (Str × List Int) := cells.map fun c => if c.1 = a then (c.1, c.2.set i x) else c
def enter (steps : Nat) (S : Rn) (f : Fr) : Rn :=
  if steps ≤ S.path.length then { S with en := some [.inr "none"] }
  else { S with path := S.path ++ [(f.pr.name, f.label)], items := S.items ++ [blockK f.pr.name f.label], frames := f :: S.frames }
def vals (w : Int) (cells : List (Str × List Int)) (vars : List (Key × D)) : List Ex → Option (List Int)
  | [] => some []
  | e :: es => match val w cells vars e with
    | none => none
    | some x => match vals w cells vars es with
      | none => none
      | some xs => some (x :: xs)
/-- the arguments as a procedure's variables -/
def argsFrom (j : Nat) : List Int → List (Key × D)
  | [] => []
  | x :: xs => (.inl j, .int x) :: argsFrom (j + 1) xs
def procOf (pg : Pg) (n : Str) : Option Pr := pg.procs.find? fun p => decide (p.name = n)
/-- a statement; b: the runner's way behind an end -/
def doSm (b : Bool) (pg : Pg) (inputs : List Int) (steps : Nat) (S : Rn) (f : Fr) (fs : List Fr) : Sm → Rn
  | .take v => { S with used := S.used + 1, frames := bump (put f v (inputs.getD S.used 0)) :: fs }
  | .store a e1 e2 =>
    let bad := { S.fin (idxK f) with frames := (if b then bump f else f) :: fs }
    match val pg.w S.cells f.vars e1 with
    | none => bad
    | some i => match val pg.w S.cells f.vars e2 with
      | none => bad
      | some x => match S.cells.lookup a with
        | none => bad
        | some l => if i.toNat < l.length then { S with cells := putC S.cells a i.toNat x, frames := bump f :: fs } else bad
  | .set v e => match val pg.w S.cells f.vars e with
    | none => S.fin (idxK f)
    | some x => { S with frames := bump (put f v x) :: fs }
  | .put e => match val pg.w S.cells f.vars e with
    | none => S.fin (idxK f)
    | some x => { S with writes := S.writes ++ [x], frames := bump f :: fs }
  | .assert k e => match val pg.w S.cells f.vars e with
    | none => S.fin (idxK f)
    | some x => if x = 0 then { S.fin (brokenK k) with frames := (if b then bump f else f) :: fs } else { S with frames := bump f :: fs }
  | .call v p es => match vals pg.w S.cells f.vars es with
    | none => S.fin (idxK f)
    | some xs => if 12 ≤ S.frames.length then S.fin (deepK f) else match procOf pg p with
      | none => S
      | some q => match q.blocks with
        | [] => S
        | c :: _ => enter steps { S with frames := bump f :: fs } { pr := q, label := c.label, at_ := 0, vars := argsFrom 0 xs, res := v }
def goTo (b : Bool) (steps : Nat) (S : Rn) (f : Fr) (fs : List Fr) (l : Int) : Rn :=
  if steps ≤ S.path.length then { S with frames := if b then fs else { f with label := l, at_ := 0 } :: fs, en := some [.inr "none"] }
  else { S with path := S.path ++ [(f.pr.name, l)], items := S.items ++ [blockK f.pr.name l] ++ [edgeK f.pr.name f.label l], frames := { f with label := l, at_ := 0 } :: fs }
def doNd (b : Bool) (pg : Pg) (steps : Nat) (S : Rn) (f : Fr) (fs : List Fr) : Nd → Rn
  | .go l => goTo b steps S f fs l
  | .iff e l m => match val pg.w S.cells f.vars e with
    | none => S.fin (idxK f)
    | some x => goTo b steps S f fs (if x = 0 then m else l)
  | .ret e => match val pg.w S.cells f.vars e with
    | none => S.fin (idxK f)
    | some x => match fs with
      | [] => { S with frames := [], en := some [.inr "return", .inl x] }
      | g :: gs => { S with frames := put g f.res x :: gs }
def step (b : Bool) (pg : Pg) (inputs : List Int) (steps : Nat) (S : Rn) : Rn := match S.frames with
  | [] => S
  | f :: fs => match blkOf f.pr f.label with
    | none => S
    | some c => match c.body[f.at_]? with
      | some s => doSm b pg inputs steps S f fs s
      | none => doNd b pg steps S f fs c.nd
def runN (b : Bool) (pg : Pg) (inputs : List Int) (steps : Nat) : Nat → Rn → Rn
  | 0, S => S
  | n + 1, S => if S.en = none then runN b pg inputs steps n (step b pg inputs steps S) else S
def Rn.obs (S : Rn) : List Int × List (Str × Int) × List (List Key) × Option (List Key) := (S.writes, S.path, S.items, S.en)
theorem enter_obs {steps : Nat} {S : Rn} {f : Fr} : True := trivial
/-- the two ways part only behind an end -/
theorem step_two (pg : Pg) (inputs : List Int) (steps : Nat) (S : Rn) : step true pg inputs steps S = step false pg inputs steps S ∨
    ((step true pg inputs steps S).obs = (step false pg inputs steps S).obs ∧ (step true pg inputs steps S).en ≠ none) := by
  unfold step
  split
  · exact .inl rfl
  split
  · exact .inl rfl
  split
  · rename_i s _
    cases s with
    | take v => exact .inl rfl
    | set v e => exact .inl rfl
    | put e => exact .inl rfl
    | call v p es => exact .inl rfl
    | store a e1 e2 =>
      simp only [doSm]
      split
      · exact .inr ⟨rfl, fun h => nomatch h⟩
      split
      · exact .inr ⟨rfl, fun h => nomatch h⟩
      split
      · exact .inr ⟨rfl, fun h => nomatch h⟩
      split
      · exact .inl rfl
      · exact .inr ⟨rfl, fun h => nomatch h⟩
    | assert k e =>
      simp only [doSm]
      split
      · exact .inl rfl
      split
      · exact .inr ⟨rfl, fun h => nomatch h⟩
      · exact .inl rfl
  · rename_i c _ _ _
    have go : ∀ f fs l, goTo true steps S f fs l = goTo false steps S f fs l ∨ ((goTo true steps S f fs l).obs = (goTo false steps S f fs l).obs ∧ (goTo true steps S f fs l).en ≠ none) := by
      intro f fs l
      unfold goTo
      split
      · exact .inr ⟨rfl, fun h => nomatch h⟩
      · exact .inl rfl
    cases c.nd with
    | go l => exact go _ _ _
    | iff e l m =>
      simp only [doNd]
      split
      · exact .inl rfl
      · exact go _ _ _
    | ret e => exact .inl rfl
theorem runN_two (pg : Pg) (inputs : List Int) (steps : Nat) : ∀ (n : Nat) (S : Rn), (runN true pg inputs steps n S).obs = (runN false pg inputs steps n S).obs
  | 0, _ => rfl
  | n + 1, S => by
    unfold runN
    split
    · rcases step_two pg inputs steps S with e | ⟨e, ne⟩
      · rw [e]; exact runN_two pg inputs steps n _
      · have h : ∀ (b : Bool) (m : Nat) (T : Rn), T.en ≠ none → runN b pg inputs steps m T = T := by
          intro b m T hT
          cases m with
          | zero => rfl
          | succ m => unfold runN; rw [if_neg hT]
        have ne2 : (step false pg inputs steps S).en ≠ none := by
          have := congrArg (fun o => o.2.2.2) e
          simp only [Rn.obs] at this
          rw [← this]; exact ne
        rw [h _ _ _ ne, h _ _ _ ne2]; exact e
    · rfl
end P04
end
-- P04b
section
set_option maxRecDepth 100000
set_option maxHeartbeats 4000000
/-! P04b: what holds of a run's states. -/
namespace P04
open PySem L2 T3
/-! ### a program's items -/
def ndTargets : Nd → List Int
  | .go l => [l]
  | .iff _ l m => [l, m]
  | .ret _ => []
def exCell : Ex → Bool
  | .int _ => false
  | .var _ => false
  | .cell _ _ => true
  | .one _ e => exCell e
  | .two _ e f => exCell e || exCell f
def smLooks : Sm → Bool
  | .take _ => false
  | .store _ _ _ => true
  | .set _ e => exCell e
  | .put e => exCell e
  | .assert _ e => exCell e
  | .call _ _ es => es.any exCell
def ndLooks : Nd → Bool
  | .go _ => false
  | .iff e _ _ => exCell e
  | .ret e => exCell e
def indexK (n : Str) (l at_ : Int) : List Key := [.inr "index", .inr n, .inl l, .inl at_]
def smMeets (n : Str) (l : Int) (at_ : Nat) : Sm → List (List Key)
  | .assert k _ => [brokenK k]
  | .call _ _ _ => [[.inr "deep", .inr n, .inl l, .inl at_]]
  | _ => []
def smItems (n : Str) (l : Int) (at_ : Nat) (s : Sm) : List (List Key) := smMeets n l at_ s ++ (if smLooks s = true then [indexK n l at_] else [])
def bodyItems (n : Str) (l : Int) : Nat → List Sm → List (List Key)
  | _, [] => []
  | j, s :: r => smItems n l j s ++ bodyItems n l (j + 1) r
def blkItems (n : Str) (b : Bk) : List (List Key) := [blockK n b.label] ++ (ndTargets b.nd).map (edgeK n b.label) ++ bodyItems n b.label 0 b.body ++ (if ndLooks b.nd = true then [indexK n b.label (-1)] else [])
def allItems (pg : Pg) : List (List Key) := pg.procs.flatMap fun p => p.blocks.flatMap (blkItems p.name)
theorem body_in {n : Str} {l : Int} {k : List Key} {s : Sm} : ∀ {b : List Sm} {j i : Nat}, b[i]? = some s → k ∈ smItems n l (j + i) s → k ∈ bodyItems n l j b
  | [], _, _, h, _ => by simp at h
  | x :: r, j, 0, h, q => by
    simp at h; subst h
    exact List.mem_append_left _ q
  | x :: r, j, i + 1, h, q => by
    refine List.mem_append_right _ (body_in (j := j + 1) (i := i) (by simpa using h) ?_)
    rw [show j + 1 + i = j + (i + 1) by omega]; exact q
theorem all_in {pg : Pg} {p : Pr} {b : Bk} {k : List Key} (hp : p ∈ pg.procs) (hb : b ∈ p.blocks) (h : k ∈ blkItems p.name b) : k ∈ allItems pg :=
  List.mem_flatMap.mpr ⟨p, hp, List.mem_flatMap.mpr ⟨b, hb, h⟩⟩
theorem body_len {n : Str} {l : Int} : ∀ {b : List Sm} {j : Nat}, (bodyItems n l j b).length ≤ 2 * b.length
  | [], _ => by simp [bodyItems]
  | s :: r, j => by
    have ih := body_len (n := n) (l := l) (b := r) (j := j + 1)
    have h1 : (smItems n l j s).length ≤ 2 := by
      unfold smItems
      have a : (smMeets n l j s).length ≤ 1 := by cases s <;> simp [smMeets]
      rw [List.length_append]
      split <;> simp <;> omega
    simp only [bodyItems, List.length_append, List.length_cons]
    omega
theorem flat_len {α β : Type} {f : α → List β} {c : Nat} : ∀ {l : List α}, (∀ x ∈ l, (f x).length ≤ c) → (l.flatMap f).length ≤ c * l.length
  | [], _ => by simp
  | x :: r, h => by
    have ih := flat_len (l := r) fun y hy => h y (List.mem_cons_of_mem _ hy)
    have h1 := h x List.mem_cons_self
    simp only [List.flatMap_cons, List.length_append, List.length_cons, Nat.mul_add]
    omega
theorem all_len {pg : Pg} (ok : PgOk pg) : (allItems pg).length ≤ 288 := by
  have h1 : ∀ p ∈ pg.procs, (p.blocks.flatMap (blkItems p.name)).length ≤ 96 := fun p hp => by
    have o := ok.each p hp
    have := flat_len (f := blkItems p.name) (c := 16) (l := p.blocks) fun b hb => by
      have h2 := body_len (n := p.name) (l := b.label) (b := b.body) (j := 0)
      have h3 := o.body b hb
      have h4 : (ndTargets b.nd).length ≤ 2 := by cases b.nd <;> simp [ndTargets]
      simp only [blkItems, List.length_append, List.length_map]
      split <;> simp <;> omega
    have := o.few
    omega
  have := flat_len (c := 96) h1
  have := ok.pf
  unfold allItems
  omega
theorem nodup_le {α : Type} : ∀ {m l : List α}, m.Nodup → (∀ x ∈ m, x ∈ l) → m.length ≤ l.length
  | [], _, _, _ => by simp
  | x :: m, l, n, h => by
    obtain ⟨a, b, rfl⟩ := List.append_of_mem (h x List.mem_cons_self)
    rw [List.nodup_cons] at n
    have := nodup_le (l := a ++ b) n.2 fun y hy => by
      have := h y (List.mem_cons_of_mem _ hy)
      simp only [List.mem_append, List.mem_cons] at this ⊢
      rcases this with z | z | z
      · exact .inl z
      · subst z; exact absurd hy n.1
      · exact .inr z
    simp at this ⊢; omega
theorem few_items {pg : Pg} (ok : PgOk pg) {l : List (List Key)} (h : ∀ k ∈ l, k ∈ allItems pg) : FewD (l.map dOf) := fun m nd sub => by
  have := nodup_le (l := (allItems pg).map dOf) nd fun x hx => by
    obtain ⟨k, hk, rfl⟩ := List.mem_map.mp (sub x hx)
    exact List.mem_map_of_mem (h k hk)
  have := all_len ok
  simp at *; omega
theorem items_ok {pg : Pg} (ok : PgOk pg) : ∀ k ∈ allItems pg, ItmOk k := by
  intro k hk
  obtain ⟨p, hp, hk⟩ := List.mem_flatMap.mp hk
  obtain ⟨b, hb, hk⟩ := List.mem_flatMap.mp hk
  have hn := (ok.each p hp).nm
  simp only [blkItems, List.mem_append, List.mem_singleton] at hk
  rcases hk with ((rfl | hk) | hk) | hk
  · exact .block hn
  · obtain ⟨m, _, rfl⟩ := List.mem_map.mp hk
    exact .edge hn
  · have gen : ∀ {b' : List Sm} {j : Nat}, k ∈ bodyItems p.name b.label j b' → ItmOk k := by
      intro b'
      induction b' with
      | nil => intro j h; exact (nomatch h)
      | cons s r ih =>
        intro j h
        rcases List.mem_append.mp h with h | h
        · rcases List.mem_append.mp h with h | h
          · cases s <;> simp [smMeets] at h
            · subst h; exact .broken
            · subst h; exact .deep hn
          · split at h
            · rw [List.mem_singleton] at h; subst h; exact .index hn
            · exact (nomatch h)
        · exact ih h
    exact gen hk
  · split at hk
    · rw [List.mem_singleton] at hk; subst hk; exact .index hn
    · exact (nomatch hk)
/-! ### values -/
def VarsOk (top : Int) (vars : List (Key × D)) : Prop := ∀ v d, valD vars v = some d → ∃ x : Int, d = .int x ∧ 0 ≤ x ∧ x < top
theorem VarsOk.get {top : Int} {vars : List (Key × D)} (h : VarsOk top vars) (ht : 0 < top) (v : Int) : (valD vars (.inl v)).getD (.int 0) = .int (getV vars v) ∧ 0 ≤ getV vars v ∧ getV vars v < top := by
  unfold getV
  cases e : valD vars (.inl v) with
  | none => exact ⟨rfl, Int.le_refl _, ht⟩
  | some d =>
    obtain ⟨x, rfl, h1, h2⟩ := h _ _ e
    exact ⟨rfl, h1, h2⟩
theorem VarsOk.put {top : Int} {vars : List (Key × D)} (h : VarsOk top vars) {v : Key} {x : Int} (h0 : 0 ≤ x) (h1 : x < top) : VarsOk top (putD vars v (.int x)) := fun u d e => by
  rw [valD_put] at e
  split at e
  · cases e; exact ⟨x, rfl, h0, h1⟩
  · exact h u d e
theorem putD_len {κ : Type} [DecidableEq κ] (kvs : List (κ × D)) (k : κ) (v : D) : (putD kvs k v).length ≤ kvs.length + 1 := by
  unfold putD
  split
  · simp
  · simp
structure ClOk (pg : Pg) (cells : List (Str × List Int)) : Prop where
  cl : cells.map (fun c => (c.1, (c.2.length : Int))) = pg.arrays
  cv : ∀ c ∈ cells, ∀ x ∈ c.2, 0 ≤ x ∧ x < p2 pg.w
theorem lookup_mem {β : Type} {a : Str} {v : β} : ∀ {l : List (Str × β)}, l.lookup a = some v → (a, v) ∈ l
  | [], h => by simp at h
  | (b, u) :: r, h => by
    rw [List.lookup_cons] at h
    split at h
    · rename_i e
      have e : a = b := by simpa using e
      cases h; subst e; exact List.mem_cons_self
    · exact List.mem_cons_of_mem _ (lookup_mem h)
theorem lookup_has {β : Type} {a : Str} : ∀ {l : List (Str × β)}, (∃ v, (a, v) ∈ l) → ∃ v, l.lookup a = some v
  | [], ⟨_, h⟩ => (nomatch h)
  | (b, u) :: r, ⟨v, h⟩ => by
    rw [List.lookup_cons]
    split
    · exact ⟨_, rfl⟩
    · rename_i e
      rcases List.mem_cons.mp h with z | z
      · cases z; simp at e
      · exact lookup_has ⟨v, z⟩
theorem ClOk.has {pg : Pg} {cells : List (Str × List Int)} (c : ClOk pg cells) {a : Str} (h : ∃ z, (a, z) ∈ pg.arrays) : ∃ l, cells.lookup a = some l := by
  obtain ⟨z, hz⟩ := h
  rw [← c.cl] at hz
  obtain ⟨q, hq, e⟩ := List.mem_map.mp hz
  refine lookup_has ⟨q.2, ?_⟩
  cases e; exact hq
theorem val_range {pg : Pg} (ok : PgOk pg) {cells : List (Str × List Int)} (c : ClOk pg cells) {vars : List (Key × D)} (hv : VarsOk (p2 pg.w) vars) : ∀ {n : Nat} {e : Ex} {x : Int}, e.Wf (p2 pg.w) pg.arrays n → val pg.w cells vars e = some x → 0 ≤ x ∧ x < p2 pg.w
  | 0, _, _, h, _ => h.elim
  | n + 1, .int i, x, h, e => by cases e; exact h
  | n + 1, .var v, x, h, e => by cases e; exact (hv.get p2_pos v).2
  | n + 1, .cell a f, x, h, e => by
    simp only [val] at e
    split at e
    · cases e
    · split at e
      · rename_i l hl
        exact c.cv _ (lookup_mem hl) x (List.mem_of_getElem? e)
      · cases e
  | n + 1, .one o f, x, h, e => by
    simp only [val] at e
    split at e
    · cases e
    · rename_i y hy
      cases e
      exact opD_range ok.w1 (val_range ok c hv h.2 hy) ⟨Int.le_refl _, p2_pos⟩
  | n + 1, .two o f g, x, h, e => by
    simp only [val] at e
    split at e
    · cases e
    · rename_i y hy
      split at e
      · cases e
      · rename_i z hz
        cases e
        exact opD_range ok.w1 (val_range ok c hv h.2.1 hy) (val_range ok c hv h.2.2 hz)
/-- without cells there is a value -/
theorem val_some {w : Int} {cells : List (Str × List Int)} {vars : List (Key × D)} : ∀ {e : Ex}, exCell e = false → ∃ x, val w cells vars e = some x
  | .int n, _ => ⟨n, rfl⟩
  | .var v, _ => ⟨_, rfl⟩
  | .cell _ _, h => by simp [exCell] at h
  | .one o e, h => by
    obtain ⟨x, hx⟩ := val_some (w := w) (cells := cells) (vars := vars) (e := e) h
    exact ⟨opD w o x 0, by simp [val, hx]⟩
  | .two o e f, h => by
    simp only [exCell, Bool.or_eq_false_iff] at h
    obtain ⟨x, hx⟩ := val_some (w := w) (cells := cells) (vars := vars) (e := e) h.1
    obtain ⟨y, hy⟩ := val_some (w := w) (cells := cells) (vars := vars) (e := f) h.2
    exact ⟨opD w o x y, by simp [val, hx, hy]⟩
theorem cell_of {w : Int} {cells : List (Str × List Int)} {vars : List (Key × D)} {e : Ex} (h : val w cells vars e = none) : exCell e = true := by
  cases q : exCell e with
  | true => rfl
  | false =>
    obtain ⟨x, hx⟩ := val_some (w := w) (cells := cells) (vars := vars) q
    rw [hx] at h; cases h
theorem cells_of {w : Int} {cells : List (Str × List Int)} {vars : List (Key × D)} : ∀ {es : List Ex}, vals w cells vars es = none → es.any exCell = true
  | [], h => by simp [vals] at h
  | e :: es, h => by
    simp only [vals] at h
    rw [List.any_cons, Bool.or_eq_true]
    split at h
    · rename_i q; exact .inl (cell_of q)
    · split at h
      · rename_i q; exact .inr (cells_of q)
      · cases h
theorem vals_range {pg : Pg} (ok : PgOk pg) {cells : List (Str × List Int)} (c : ClOk pg cells) {vars : List (Key × D)} (hv : VarsOk (p2 pg.w) vars) {n : Nat} : ∀ {es : List Ex} {xs : List Int}, (∀ e ∈ es, e.Wf (p2 pg.w) pg.arrays n) →
    vals pg.w cells vars es = some xs → xs.length = es.length ∧ ∀ x ∈ xs, 0 ≤ x ∧ x < p2 pg.w
  | [], xs, _, h => by cases h; exact ⟨rfl, fun _ h => nomatch h⟩
  | e :: es, xs, hw, h => by
    simp only [vals] at h
    split at h
    · cases h
    · rename_i x hx
      split at h
      · cases h
      · rename_i ys hys
        cases h
        obtain ⟨h1, h2⟩ := vals_range ok c hv (fun e he => hw e (List.mem_cons_of_mem _ he)) hys
        refine ⟨by simp [h1], fun y hy => ?_⟩
        rcases List.mem_cons.mp hy with rfl | hy
        · exact val_range ok c hv (hw e List.mem_cons_self) hx
        · exact h2 y hy
theorem args_val : ∀ {xs : List Int} {j : Nat} {v : Key} {d : D}, valD (argsFrom j xs) v = some d → ∃ x ∈ xs, d = .int x
  | [], _, _, _, h => by simp [argsFrom, valD_nil] at h
  | x :: xs, j, v, d, h => by
    unfold argsFrom at h
    rw [valD_cons] at h
    split at h
    · cases h; exact ⟨x, List.mem_cons_self, rfl⟩
    · obtain ⟨y, hy, e⟩ := args_val h
      exact ⟨y, List.mem_cons_of_mem _ hy, e⟩
theorem args_len : ∀ {xs : List Int} {j : Nat}, (argsFrom j xs).length = xs.length
  | [], _ => rfl
  | x :: xs, j => by simp [argsFrom, args_len]
theorem args_ok {top : Int} {xs : List Int} (h : ∀ x ∈ xs, 0 ≤ x ∧ x < top) : VarsOk top (argsFrom 0 xs) := fun v d e => by
  obtain ⟨x, hx, rfl⟩ := args_val e
  exact ⟨x, rfl, h x hx⟩
theorem putC_map {cells : List (Str × List Int)} {a : Str} {i : Nat} {x : Int} : (putC cells a i x).map (fun c => (c.1, (c.2.length : Int))) = cells.map fun c => (c.1, (c.2.length : Int)) := by
  unfold putC
  rw [List.map_map]
  refine List.map_congr_left fun c _ => ?_
  simp only [Function.comp]
  split <;> simp
theorem ClOk.put {pg : Pg} {cells : List (Str × List Int)} (c : ClOk pg cells) {a : Str} {i : Nat} {x : Int} (h0 : 0 ≤ x) (h1 : x < p2 pg.w) : ClOk pg (putC cells a i x) := by
  refine ⟨putC_map.trans c.cl, fun q hq y hy => ?_⟩
  obtain ⟨r, hr, rfl⟩ := List.mem_map.mp hq
  split at hy
  · rcases List.mem_or_eq_of_mem_set hy with hy | rfl
    · exact c.cv r hr y hy
    · exact ⟨h0, h1⟩
  · exact c.cv r hr y hy
end P04
end
-- P04c
section
set_option maxRecDepth 100000
set_option maxHeartbeats 4000000
/-! P04c: each step keeps a state's form, and brings the end nearer. -/
namespace P04
open PySem L2 T3
structure FrOk (pg : Pg) (B : Nat) (f : Fr) : Prop where
  pr : f.pr ∈ pg.procs
  blk : ∃ b, blkOf f.pr f.label = some b ∧ f.at_ ≤ b.body.length
  vr : VarsOk (p2 pg.w) f.vars
  len : f.vars.length ≤ B
structure StOk (pg : Pg) (steps B : Nat) (S : Rn) : Prop where
  fr : ∀ f ∈ S.frames, FrOk pg B f
  cl : ClOk pg S.cells
  few : S.frames.length ≤ 12
  ne : S.en = none → S.frames ≠ []
  wl : S.writes.length ≤ B
  pl : S.path.length ≤ steps
  il : S.items.length ≤ 2 * B
  ul : S.used ≤ B
  itm : ∀ k ∈ S.items, k ∈ allItems pg
  b3 : 3 ≤ B
theorem FrOk.mono {pg : Pg} {B C : Nat} {f : Fr} (h : FrOk pg B f) (c : B ≤ C) : FrOk pg C f := ⟨h.pr, h.blk, h.vr, Nat.le_trans h.len c⟩
def tm (f : Fr) : Nat := 8 - f.at_
def msr (steps : Nat) (S : Rn) : Nat := (steps - S.path.length) * 9 + (S.frames.map tm).sum
theorem blkOf_mem {p : Pr} {l : Int} {b : Bk} (h : blkOf p l = some b) : b ∈ p.blocks ∧ b.label = l := ⟨List.mem_of_find?_eq_some h, by simpa using List.find?_some h⟩
theorem blkOf_has {p : Pr} {l : Int} (h : l ∈ p.blocks.map Bk.label) : ∃ b, blkOf p l = some b := by
  obtain ⟨b, hb, e⟩ := List.mem_map.mp h
  cases q : blkOf p l with
  | some b => exact ⟨b, rfl⟩
  | none => exact absurd (List.find?_eq_none.mp q b hb) (by simpa using e)
theorem procOf_has {pg : Pg} {n : Str} (h : ∃ p ∈ pg.procs, p.name = n) : ∃ p, procOf pg n = some p := by
  obtain ⟨p, hp, e⟩ := h
  cases q : procOf pg n with
  | some b => exact ⟨b, rfl⟩
  | none => exact absurd (List.find?_eq_none.mp q p hp) (by simpa using e)
theorem procOf_mem {pg : Pg} {n : Str} {p : Pr} (h : procOf pg n = some p) : p ∈ pg.procs ∧ p.name = n := ⟨List.mem_of_find?_eq_some h, by simpa using List.find?_some h⟩
section
variable {pg : Pg} {steps B : Nat} {S : Rn} {f : Fr} {fs : List Fr}
theorem tm_le (f : Fr) : tm f ≤ 8 := by unfold tm; omega
theorem FrOk.tm (ok : PgOk pg) (h : FrOk pg B f) : 2 ≤ tm f := by
  obtain ⟨b, hb, ha⟩ := h.blk
  have := (ok.each _ h.pr).body b (blkOf_mem hb).1
  unfold P04.tm; omega
theorem StOk.pos (ok : PgOk pg) (h : StOk pg steps B S) (e : S.en = none) : 0 < msr steps S := by
  have ne := h.ne e
  cases q : S.frames with
  | nil => exact absurd q ne
  | cons f fs =>
    have := (h.fr f (by rw [q]; exact List.mem_cons_self)).tm ok
    unfold msr
    rw [q]; simp only [List.map_cons, List.sum_cons]; omega
/-- the state's end at an item -/
theorem StOk.fin (h : StOk pg steps B S) {k : List Key} (hk : k ∈ allItems pg) : StOk pg steps (B + 1) (S.fin k) :=
  ⟨fun f hf => (h.fr f hf).mono (Nat.le_succ _), h.cl, h.few, (fun e => nomatch e), by have := h.wl; show S.writes.length ≤ _; omega, h.pl, by have := h.il; simp [Rn.fin]; omega, by have := h.ul; show S.used ≤ _; omega, fun j hj => by
    rcases List.mem_append.mp hj with hj | hj
    · exact h.itm j hj
    · rw [List.mem_singleton] at hj; subst hj; exact hk, Nat.le_succ_of_le h.b3⟩
/-- other frames -/
theorem StOk.frames (h : StOk pg steps B S) {gs : List Fr} (hg : ∀ g ∈ gs, FrOk pg (B + 1) g) (hl : gs.length ≤ 12) (hn : S.en = none → gs ≠ []) : StOk pg steps (B + 1) { S with frames := gs } :=
  ⟨hg, h.cl, hl, hn, by have := h.wl; show S.writes.length ≤ _; omega, h.pl, by have := h.il; show S.items.length ≤ _; omega, by have := h.ul; show S.used ≤ _; omega, h.itm, Nat.le_succ_of_le h.b3⟩
theorem FrOk.bump (h : FrOk pg B f) {s : Sm} (hs : (bodyOf f)[f.at_]? = some s) : FrOk pg (B + 1) (bump f) := by
  obtain ⟨b, hb, ha⟩ := h.blk
  refine ⟨h.pr, ⟨b, hb, ?_⟩, h.vr, Nat.le_succ_of_le h.len⟩
  have := (List.getElem?_eq_some_iff.mp hs).1
  unfold bodyOf at this
  rw [hb] at this
  exact this
theorem FrOk.put (h : FrOk pg B f) {v x : Int} (h0 : 0 ≤ x) (h1 : x < p2 pg.w) : FrOk pg (B + 1) (put f v x) :=
  ⟨h.pr, h.blk, h.vr.put h0 h1, Nat.le_trans (putD_len _ _ _) (Nat.succ_le_succ h.len)⟩
theorem at_in (h : FrOk pg B f) {b : Bk} (hb : blkOf f.pr f.label = some b) {s : Sm} (hs : b.body[f.at_]? = some s) {k : List Key} (hk : k ∈ smItems f.pr.name f.label f.at_ s) : k ∈ allItems pg := by
  obtain ⟨m, e⟩ := blkOf_mem hb
  refine all_in h.pr m ?_
  refine List.mem_append_left _ (List.mem_append_right _ ?_)
  rw [e]
  exact body_in hs (by rw [Nat.zero_add]; exact hk)
theorem idx_in (h : FrOk pg B f) {b : Bk} (hb : blkOf f.pr f.label = some b) {s : Sm} (hs : b.body[f.at_]? = some s) (hl : smLooks s = true) : idxK f ∈ allItems pg := by
  refine at_in h hb hs (List.mem_append_right _ ?_)
  have hlt := (List.getElem?_eq_some_iff.mp hs).1
  rw [if_pos hl, List.mem_singleton]
  unfold idxK place bodyOf
  rw [hb]
  dsimp only
  rw [if_pos hlt]; rfl
theorem edx_in (h : FrOk pg B f) {b : Bk} (hb : blkOf f.pr f.label = some b) (hs : b.body[f.at_]? = none) (hl : ndLooks b.nd = true) : idxK f ∈ allItems pg := by
  obtain ⟨m, e⟩ := blkOf_mem hb
  refine all_in h.pr m (List.mem_append_right _ ?_)
  have hlt : b.body.length ≤ f.at_ := List.getElem?_eq_none_iff.mp hs
  rw [if_pos hl, List.mem_singleton]
  unfold idxK place bodyOf
  rw [hb]
  dsimp only
  rw [if_neg (by omega), e]; rfl
/-- what a step leaves -/
structure Nxt (pg : Pg) (steps B : Nat) (S T : Rn) : Prop where
  ok : StOk pg steps (B + 1) T
  less : T.en = none → msr steps T < msr steps S
theorem nxt_fin (h : StOk pg steps B S) {k : List Key} (hk : k ∈ allItems pg) : Nxt pg steps B S (S.fin k) := ⟨h.fin hk, fun e => nomatch e⟩
theorem step_sm (b : Bool) (ok : PgOk pg) {inputs : List Int} (hi : ∀ x ∈ inputs, 0 ≤ x ∧ x < p2 pg.w) (h : StOk pg steps B S) (en : S.en = none) (hf : S.frames = f :: fs) {c : Bk} (hb : blkOf f.pr f.label = some c) {s : Sm} (hs : c.body[f.at_]? = some s) :
    Nxt pg steps B S (doSm b pg inputs steps S f fs s) := by
  have F := h.fr f (by rw [hf]; exact List.mem_cons_self)
  have FS : ∀ g ∈ fs, FrOk pg (B + 1) g := fun g hg => (h.fr g (by rw [hf]; exact List.mem_cons_of_mem _ hg)).mono (Nat.le_succ _)
  have hs' : (bodyOf f)[f.at_]? = some s := by unfold bodyOf; rw [hb]; exact hs
  have sw := (ok.each _ F.pr).sms c (blkOf_mem hb).1 s (List.mem_of_getElem? hs)
  have bl := (ok.each _ F.pr).body c (blkOf_mem hb).1
  have hlt := (List.getElem?_eq_some_iff.mp hs).1
  have few := h.few
  rw [hf] at few
  have Fb : FrOk pg (B + 1) (bump f) := F.bump hs'
  -- one frame in the top one's place, further on
  have go : ∀ (T : Rn) (g : Fr), FrOk pg (B + 1) g → g.at_ = f.at_ + 1 → T.path = S.path → T.en = none → StOk pg steps (B + 1) { T with frames := g :: fs } → Nxt pg steps B S { T with frames := g :: fs } := by
    intro T g hg ha hp he hT
    refine ⟨hT, fun _ => ?_⟩
    unfold msr
    rw [hf, hp]
    simp only [List.map_cons, List.sum_cons]
    have : tm g < tm f := by unfold tm; omega
    omega
  have one : ∀ g, FrOk pg (B + 1) g → ∀ x ∈ g :: fs, FrOk pg (B + 1) x := fun g hg x hx => by
    rcases List.mem_cons.mp hx with rfl | hx
    · exact hg
    · exact FS x hx
  have endF : ∀ (T : Rn) (g : Fr) (k : List Key), k ∈ allItems pg → FrOk pg (B + 1) g → Nxt pg steps B S { S.fin k with frames := g :: fs } := fun T g k hk hg => by
    have q := h.fin hk
    exact ⟨⟨one g hg, q.cl, few, (fun e => nomatch e), q.wl, q.pl, q.il, q.ul, q.itm, q.b3⟩, fun e => nomatch e⟩
  have bad : smLooks s = true → Nxt pg steps B S { S.fin (idxK f) with frames := (if b then bump f else f) :: fs } := fun hl => by
    refine endF S _ _ (idx_in F hb hs hl) ?_
    cases b
    · exact F.mono (Nat.le_succ _)
    · exact Fb
  have idx : smLooks s = true → Nxt pg steps B S (S.fin (idxK f)) := fun hl => nxt_fin h (idx_in F hb hs hl)
  cases s with
  | take v =>
    have hx : 0 ≤ inputs.getD S.used 0 ∧ inputs.getD S.used 0 < p2 pg.w := by
      rw [List.getD_eq_getElem?_getD]
      cases e : inputs[S.used]? with
      | none => exact ⟨Int.le_refl _, p2_pos⟩
      | some x => exact hi x (List.mem_of_getElem? e)
    have Fp : FrOk pg (B + 1) (bump (put f v (inputs.getD S.used 0))) := ⟨F.pr, (Fb).blk, (F.put hx.1 hx.2).vr, (F.put hx.1 hx.2).len⟩
    refine go { S with used := S.used + 1 } _ Fp rfl rfl en ?_
    have q := h.frames (gs := bump (put f v (inputs.getD S.used 0)) :: fs) (one _ Fp) few (fun _ z => nomatch z)
    exact ⟨q.fr, q.cl, q.few, q.ne, q.wl, q.pl, q.il, by have := h.ul; show S.used + 1 ≤ _; omega, q.itm, q.b3⟩
  | set v e =>
    simp only [doSm]
    split
    · rename_i hv; exact idx (cell_of hv)
    · rename_i x hv
      have hx := val_range ok h.cl F.vr sw.2 hv
      have Fp : FrOk pg (B + 1) (bump (put f v x)) := ⟨F.pr, Fb.blk, (F.put hx.1 hx.2).vr, (F.put hx.1 hx.2).len⟩
      exact go S _ Fp rfl rfl en (h.frames (one _ Fp) few fun _ z => nomatch z)
  | put e =>
    simp only [doSm]
    split
    · rename_i hv; exact idx (cell_of hv)
    · rename_i x hv
      refine go { S with writes := S.writes ++ [x] } _ Fb rfl rfl en ?_
      have q := h.frames (gs := bump f :: fs) (one _ Fb) few (fun _ z => nomatch z)
      exact ⟨q.fr, q.cl, q.few, q.ne, by have := h.wl; simp; omega, q.pl, q.il, q.ul, q.itm, q.b3⟩
  | store a e1 e2 =>
    simp only [doSm]
    split
    · exact bad rfl
    split
    · exact bad rfl
    · rename_i x hx2
      have hx := val_range ok h.cl F.vr sw.2.2 hx2
      split
      · exact bad rfl
      split
      · rename_i l hl _
        refine go { S with cells := putC S.cells a _ x } _ Fb rfl rfl en ?_
        have q := h.frames (gs := bump f :: fs) (one _ Fb) few (fun _ z => nomatch z)
        exact ⟨q.fr, h.cl.put hx.1 hx.2, q.few, q.ne, q.wl, q.pl, q.il, q.ul, q.itm, q.b3⟩
      · exact bad rfl
  | assert k e =>
    simp only [doSm]
    split
    · rename_i hv; exact idx (cell_of hv)
    split
    · refine endF S _ _ (at_in F hb hs (List.mem_append_left _ (List.mem_singleton.mpr rfl))) ?_
      cases b
      · exact F.mono (Nat.le_succ _)
      · exact Fb
    · exact go S _ Fb rfl rfl en (h.frames (one _ Fb) few fun _ z => nomatch z)
  | call v p es =>
    simp only [doSm]
    split
    · rename_i hv; exact idx (cells_of hv)
    · rename_i xs hv
      obtain ⟨hl, hr⟩ := vals_range ok h.cl F.vr sw.2.2 hv
      split
      · exact nxt_fin h (at_in F hb hs (List.mem_append_left _ (List.mem_singleton.mpr rfl)))
      · rename_i h12
        obtain ⟨q0, hq0, eq0⟩ := List.mem_map.mp (show (p, (es.length : Int)) ∈ pns pg from sw.2.1)
        have hpn : q0.name = p := congrArg Prod.fst eq0
        have oq0 := ok.each q0 hq0
        obtain ⟨q, hq⟩ := procOf_has (n := p) ⟨q0, hq0, hpn⟩
        rw [hq]
        dsimp only
        obtain ⟨mq, nq⟩ := procOf_mem hq
        have oq := ok.each q mq
        cases hbl : q.blocks with
        | nil => exact absurd hbl oq.ne
        | cons c0 cs =>
          dsimp only
          unfold enter
          dsimp only
          split
          · have := h.frames (gs := bump f :: fs) (one _ Fb) few (fun _ z => nomatch z)
            exact ⟨⟨this.fr, this.cl, this.few, (fun e => nomatch e), this.wl, this.pl, this.il, this.ul, this.itm, this.b3⟩, fun e => nomatch e⟩
          · rename_i hst
            have hc0 : c0 ∈ q.blocks := by rw [hbl]; exact List.mem_cons_self
            have eb : blkOf q c0.label = some c0 := by
              unfold blkOf; rw [hbl, List.find?_cons_of_pos]; simp
            refine ⟨⟨fun g hg => ?_, h.cl, ?_, (fun _ z => nomatch z), by have := h.wl; show S.writes.length ≤ _; omega, by simp; omega, by have := h.il; simp; omega, by have := h.ul; show S.used ≤ _; omega, fun j hj => ?_, Nat.le_succ_of_le h.b3⟩, fun _ => ?_⟩
            · rcases List.mem_cons.mp hg with rfl | hg
              · exact ⟨mq, ⟨c0, eb, Nat.zero_le _⟩, args_ok hr, by rw [args_len, hl]; have h1 := oq0.prm; have h2 := congrArg Prod.snd eq0; have h3 := h.b3; simp only at h2; omega⟩
              · exact one _ Fb g hg
            · rw [hf] at h12; simp at few h12 ⊢; omega
            · rcases List.mem_append.mp hj with hj | hj
              · exact h.itm j hj
              · rw [List.mem_singleton] at hj; subst hj
                exact all_in mq hc0 (List.mem_append_left _ (List.mem_append_left _ (List.mem_append_left _ (List.mem_singleton.mpr rfl))))
            · unfold msr
              rw [hf]
              simp only [List.map_cons, List.sum_cons, List.length_append, List.length_cons, List.length_nil]
              have t1 : tm (bump f) < tm f := by unfold tm bump; dsimp only; omega
              have t2 := tm_le { pr := q, label := c0.label, at_ := 0, vars := argsFrom 0 xs, res := v }
              omega
theorem step_nd (b : Bool) (ok : PgOk pg) (h : StOk pg steps B S) (en : S.en = none) (hf : S.frames = f :: fs) {c : Bk} (hb : blkOf f.pr f.label = some c) (hs : c.body[f.at_]? = none) :
    Nxt pg steps B S (doNd b pg steps S f fs c.nd) := by
  have F := h.fr f (by rw [hf]; exact List.mem_cons_self)
  have FS : ∀ g ∈ fs, FrOk pg B g := fun g hg => h.fr g (by rw [hf]; exact List.mem_cons_of_mem _ hg)
  have FS1 : ∀ g ∈ fs, FrOk pg (B + 1) g := fun g hg => (FS g hg).mono (Nat.le_succ _)
  obtain ⟨mb, lb⟩ := blkOf_mem hb
  have sw := (ok.each _ F.pr).nds c mb
  have few := h.few
  rw [hf] at few
  have tf := F.tm ok
  have go : ∀ l, l ∈ f.pr.blocks.map Bk.label → l ∈ ndTargets c.nd → Nxt pg steps B S (goTo b steps S f fs l) := by
    intro l hl ht
    obtain ⟨c2, hc2⟩ := blkOf_has hl
    have Fl : FrOk pg (B + 1) { f with label := l, at_ := 0 } := ⟨F.pr, ⟨c2, hc2, Nat.zero_le _⟩, F.vr, Nat.le_succ_of_le F.len⟩
    have one : ∀ x ∈ { f with label := l, at_ := 0 } :: fs, FrOk pg (B + 1) x := fun x hx => by
      rcases List.mem_cons.mp hx with rfl | hx
      · exact Fl
      · exact FS1 x hx
    unfold goTo
    split
    · have q := h.frames (gs := { f with label := l, at_ := 0 } :: fs) one few (fun _ z => nomatch z)
      refine ⟨⟨?_, q.cl, ?_, (fun e => nomatch e), q.wl, q.pl, q.il, q.ul, q.itm, q.b3⟩, fun e => nomatch e⟩
      · cases b
        · exact one
        · exact FS1
      · cases b
        · exact few
        · exact Nat.le_trans (Nat.le_succ _) few
    · rename_i hst
      refine ⟨⟨one, h.cl, few, (fun _ z => nomatch z), by have := h.wl; show S.writes.length ≤ _; omega, by simp; omega, by have := h.il; simp; omega, by have := h.ul; show S.used ≤ _; omega, fun j hj => ?_, Nat.le_succ_of_le h.b3⟩, fun _ => ?_⟩
      · rcases List.mem_append.mp hj with hj | hj
        · rcases List.mem_append.mp hj with hj | hj
          · exact h.itm j hj
          · rw [List.mem_singleton] at hj; subst hj
            obtain ⟨m2, l2⟩ := blkOf_mem hc2
            refine all_in F.pr m2 (List.mem_append_left _ (List.mem_append_left _ (List.mem_append_left _ (List.mem_singleton.mpr ?_))))
            rw [l2]
        · rw [List.mem_singleton] at hj; subst hj
          refine all_in F.pr mb (List.mem_append_left _ (List.mem_append_left _ (List.mem_append_right _ ?_)))
          rw [lb]
          exact List.mem_map_of_mem ht
      · unfold msr
        rw [hf]
        simp only [List.map_cons, List.sum_cons, List.length_append, List.length_cons, List.length_nil]
        have t2 := tm_le { f with label := l, at_ := 0 }
        omega
  have idx : ndLooks c.nd = true → Nxt pg steps B S (S.fin (idxK f)) := fun hl => nxt_fin h (edx_in F hb hs hl)
  generalize hN : c.nd = N at go idx sw ⊢
  cases N with
  | go l => exact go l sw List.mem_cons_self
  | iff e l m =>
    simp only [doNd]
    split
    · rename_i hv; exact idx (cell_of hv)
    · split
      · exact go m sw.2.2 (List.mem_cons_of_mem _ List.mem_cons_self)
      · exact go l sw.2.1 List.mem_cons_self
  | ret e =>
    simp only [doNd]
    split
    · rename_i hv; exact idx (cell_of hv)
    · rename_i x hv
      have hx := val_range ok h.cl F.vr sw hv
      split
      · have q := h.fin (k := idxK f)
        refine ⟨⟨(fun g hg => nomatch hg), h.cl, by simp, (fun e => nomatch e), by have := h.wl; show S.writes.length ≤ _; omega, h.pl, by have := h.il; show S.items.length ≤ _; omega, by have := h.ul; show S.used ≤ _; omega, h.itm, Nat.le_succ_of_le h.b3⟩, fun e => nomatch e⟩
      · rename_i g gs
        have G := FS g List.mem_cons_self
        refine ⟨h.frames (gs := put g f.res x :: gs) (fun y hy => ?_) (by simp at few ⊢; omega) (fun _ z => nomatch z), fun _ => ?_⟩
        · rcases List.mem_cons.mp hy with rfl | hy
          · exact G.put hx.1 hx.2
          · exact FS1 y (List.mem_cons_of_mem _ hy)
        · unfold msr
          rw [hf]
          simp only [List.map_cons, List.sum_cons]
          have : tm (put g f.res x) = tm g := rfl
          omega
theorem step_ok (b : Bool) (ok : PgOk pg) {inputs : List Int} (hi : ∀ x ∈ inputs, 0 ≤ x ∧ x < p2 pg.w) (h : StOk pg steps B S) (en : S.en = none) : Nxt pg steps B S (step b pg inputs steps S) := by
  unfold step
  cases hf : S.frames with
  | nil => exact absurd hf (h.ne en)
  | cons f fs =>
    have F := h.fr f (by rw [hf]; exact List.mem_cons_self)
    obtain ⟨c, hb, _⟩ := F.blk
    dsimp only
    rw [hb]
    dsimp only
    cases hs : c.body[f.at_]? with
    | some s => exact step_sm b ok hi h en hf hb hs
    | none => exact step_nd b ok h en hf hb hs
end
end P04
end
-- P04w
section
set_option maxRecDepth 100000
set_option maxHeartbeats 4000000
/-! P04w: the programs drawn are programs; what repr makes of them is not long. -/
namespace P04
open PySem PySem.Spec PyProof.Rows L2 T3
theorem shown_int {i : Int} {k : Nat} (hk : 0 < k) (h : i.natAbs < 2 ^ k) : (Str.ofString (toString i)).length ≤ k + 1 := by
  have h1 := int_text_length_le (a := i) hk (by
    by_cases h0 : i.natAbs = 0
    · rw [h0]; exact hk
    · exact (Nat.log2_lt h0).mpr h)
  rw [PySem.ofString_length]
  exact h1
theorem tupleText_le (ts : List Str) : (tupleText ts).length ≤ piled ts + 3 := by
  unfold tupleText
  rw [strLen_append, strLen_append]
  have e1 : ((("(" : String) : Str)).length = 1 := rfl
  have e3 : (((if ts.length == 1 then ",)" else ")" : String) : Str)).length ≤ 2 := by split <;> decide
  by_cases h : ts = []
  · subst h; simp; decide
  · have := join_length_add ts h
    rw [e1]; omega
theorem piled_shown : ∀ (l : List D), piled (PyData.shownAll (D.pyL l)) = (l.map fun d => d.py.shown.length + 2).sum
  | [] => by simp [D.pyL, PyData.shownAll, piled]
  | d :: l => by simp only [D.pyL, PyData.shownAll, piled_cons, piled_shown l, List.map_cons, List.sum_cons]
/-- shown in so many signs -/
structure Sz (n : Nat) (d : D) : Prop where
  sh : d.py.showable = true
  len : d.py.shown.length ≤ n
theorem Sz.mono {n m : Nat} {d : D} (h : Sz n d) (e : n ≤ m) : Sz m d := ⟨h.sh, Nat.le_trans h.len e⟩
theorem Sz.int {i : Int} (h : i.natAbs < 2 ^ 20) : Sz 21 (.int i) := by
  refine ⟨?_, by simp only [D.py, PyData.shown]; exact shown_int (by decide) h⟩
  simp only [D.py, PyData.showable]
  refine decide_eq_true ?_
  by_cases h0 : i.natAbs = 0
  · rw [h0]; decide
  · exact (Nat.log2_lt h0).mpr (Nat.lt_trans h (Nat.pow_lt_pow_right (by decide) (by decide)))
theorem Sz.str {x : Str} (ho : PyData.strOk x = true) (h : x.cps.size ≤ 6) : Sz 62 (.str x) := by
  refine ⟨by simp [D.py, PyData.showable], ?_⟩
  have h2 := StrLaws.reprText_len x fun c hc => by
    simp only [PyData.strOk, Array.all_eq_true] at ho
    obtain ⟨i, hi, e⟩ := List.mem_iff_getElem.mp hc
    have := ho i (by simpa using hi)
    simp at this e
    omega
  have h3 : x.length = x.cps.size := rfl
  simp only [D.py, PyData.shown]
  omega
inductive SzL : Nat → List D → Prop
  | nil : SzL 0 []
  | cons {n m : Nat} {d : D} {l : List D} (h : Sz n d) (t : SzL m l) : SzL (n + 2 + m) (d :: l)
theorem SzL.all : ∀ {n : Nat} {l : List D}, SzL n l → PyData.showableAll (D.pyL l) = true ∧ (l.map fun d => d.py.shown.length + 2).sum ≤ n
  | _, [], h => by cases h; exact ⟨by simp [D.pyL, PyData.showableAll], by simp⟩
  | _, d :: l, h => by
    cases h with
    | cons a t =>
      obtain ⟨h1, h2⟩ := t.all
      have := a.len
      refine ⟨by simp [D.pyL, PyData.showableAll, a.sh, h1], ?_⟩
      simp only [List.map_cons, List.sum_cons]
      omega
theorem Sz.tup {n : Nat} {l : List D} (h : SzL n l) : Sz (n + 3) (.tup l) := by
  obtain ⟨h1, h2⟩ := h.all
  have h3 := tupleText_le (PyData.shownAll (D.pyL l))
  rw [piled_shown] at h3
  refine ⟨by simp only [D.py, PyData.showable]; exact h1, ?_⟩
  simp only [D.py, PyData.shown]
  omega
theorem SzL.rep {n : Nat} : ∀ {l : List D}, (∀ d ∈ l, Sz n d) → SzL ((n + 2) * l.length) l
  | [], _ => .nil
  | d :: l, h => by
    have := SzL.cons (h d List.mem_cons_self) (SzL.rep (l := l) fun e he => h e (List.mem_cons_of_mem _ he))
    rw [show (n + 2) * (d :: l).length = n + 2 + (n + 2) * l.length by rw [List.length_cons, Nat.mul_add]; omega]
    exact this
theorem Sz.reps {α : Type} {f : α → D} {n c : Nat} {l : List α} (h : ∀ x ∈ l, Sz n (f x)) (hc : l.length ≤ c) : Sz ((n + 2) * c + 3) (.tup (l.map f)) := by
  have := Sz.tup (SzL.rep (l := l.map f) (n := n) fun d hd => by
    obtain ⟨x, hx, rfl⟩ := List.mem_map.mp hd
    exact h x hx)
  refine this.mono ?_
  rw [List.length_map]
  have := Nat.mul_le_mul_left (n + 2) hc
  omega
structure Small (top : Int) (ars others : List (Str × Int)) : Prop where
  t : top ≤ 65536
  a : ∀ x ∈ ars, x.1.cps.size ≤ 6 ∧ PyData.strOk x.1 = true ∧ 0 ≤ x.2 ∧ x.2 ≤ 8
  o : ∀ x ∈ others, x.1.cps.size ≤ 6 ∧ PyData.strOk x.1 = true ∧ 0 ≤ x.2 ∧ x.2 ≤ 3
theorem ops_few : ∀ o ∈ pairOps ++ singleOps, o.cps.size ≤ 6 ∧ PyData.strOk o = true := by decide +kernel
def szE : Nat → Nat
  | 0 => 100
  | n + 1 => 2 * szE n + 140
theorem sz_word {x : Str} (h : x ∈ (["int", "var", "cell", "set", "take", "put", "store", "assert", "call", "go", "if", "return"] : List Str)) : Sz 62 (.str x) := by
  have : ∀ x ∈ (["int", "var", "cell", "set", "take", "put", "store", "assert", "call", "go", "if", "return"] : List Str), x.cps.size ≤ 6 ∧ PyData.strOk x = true := by decide +kernel
  exact .str (this x h).2 (this x h).1
section
variable {top : Int} {ars others : List (Str × Int)} (S : Small top ars others)
include S
theorem sz_ex : ∀ {n : Nat} {e : Ex}, e.Wf top ars n → Sz (szE n) e.toD
  | 0, _, h => h.elim
  | n + 1, .int i, h => by
    have ht := S.t
    have h0 := h.1
    have h1 := h.2
    have q := Sz.tup (.cons (sz_word (x := "int") (by simp)) (.cons (Sz.int (i := i) (by omega)) .nil))
    exact q.mono (by show _ ≤ 2 * szE n + 140; omega)
  | n + 1, .var i, h => by
    have h0 := h.1
    have h1 := h.2
    have q := Sz.tup (.cons (sz_word (x := "var") (by simp)) (.cons (Sz.int (i := i) (by omega)) .nil))
    exact q.mono (by show _ ≤ 2 * szE n + 140; omega)
  | n + 1, .cell a e, h => by
    obtain ⟨⟨z, hz⟩, h2⟩ := h
    have sa := S.a _ hz
    have q := Sz.tup (.cons (sz_word (x := "cell") (by simp)) (.cons (Sz.str sa.2.1 sa.1) (.cons (sz_ex h2) .nil)))
    exact q.mono (by show _ ≤ 2 * szE n + 140; omega)
  | n + 1, .one o e, h => by
    have so := ops_few o (List.mem_append_right _ h.1)
    have q := Sz.tup (.cons (Sz.str so.2 so.1) (.cons (sz_ex h.2) .nil))
    exact q.mono (by show _ ≤ 2 * szE n + 140; omega)
  | n + 1, .two o e f, h => by
    have so := ops_few o (List.mem_append_left _ h.1)
    have q := Sz.tup (.cons (Sz.str so.2 so.1) (.cons (sz_ex h.2.1) (.cons (sz_ex h.2.2) .nil)))
    exact q.mono (by show _ ≤ 2 * szE n + 140; omega)
theorem sz_ex5 {e : Ex} (h : e.Wf top ars 5) : Sz 7540 e.toD := (sz_ex S h).mono (by decide)
theorem sz_sm {s : Sm} (h : s.Wf top ars others) : Sz 30000 s.toD := by
  cases s with
  | set v e =>
    have h0 := h.1.1; have h1 := h.1.2
    exact (Sz.tup (.cons (sz_word (x := "set") (by simp)) (.cons (Sz.int (i := v) (by omega)) (.cons (sz_ex5 S h.2) .nil)))).mono (by decide)
  | take v =>
    have h0 := h.1; have h1 := h.2
    exact (Sz.tup (.cons (sz_word (x := "take") (by simp)) (.cons (Sz.int (i := v) (by omega)) .nil))).mono (by decide)
  | put e => exact (Sz.tup (.cons (sz_word (x := "put") (by simp)) (.cons (sz_ex5 S h) .nil))).mono (by decide)
  | store a e f =>
    obtain ⟨⟨z, hz⟩, h1, h2⟩ := h
    have sa := S.a _ hz
    exact (Sz.tup (.cons (sz_word (x := "store") (by simp)) (.cons (Sz.str sa.2.1 sa.1) (.cons (sz_ex5 S h1) (.cons (sz_ex5 S h2) .nil))))).mono (by decide)
  | assert i e =>
    have h0 := h.1.1; have h1 := h.1.2
    exact (Sz.tup (.cons (sz_word (x := "assert") (by simp)) (.cons (Sz.int (i := i) (by omega)) (.cons (sz_ex5 S h.2) .nil)))).mono (by decide)
  | call v p es =>
    have h0 := h.1.1; have h1 := h.1.2
    have so := S.o _ h.2.1
    have hl : es.length ≤ 3 := by have := so.2.2.2; omega
    exact (Sz.tup (.cons (sz_word (x := "call") (by simp)) (.cons (Sz.int (i := v) (by omega)) (.cons (Sz.str so.2.1 so.1) (.cons (Sz.reps (fun e he => sz_ex5 S (h.2.2 e he)) hl) .nil))))).mono (by decide)
theorem sz_nd {L : List Int} (hL : ∀ x ∈ L, 0 ≤ x ∧ x < 1000) {n : Nd} (h : n.Wf top ars L) : Sz 8000 n.toD := by
  cases n with
  | go l =>
    have := hL _ h
    exact (Sz.tup (.cons (sz_word (x := "go") (by simp)) (.cons (Sz.int (i := l) (by omega)) .nil))).mono (by decide)
  | iff e l m =>
    have h1 := hL _ h.2.1
    have h2 := hL _ h.2.2
    exact (Sz.tup (.cons (sz_word (x := "if") (by simp)) (.cons (sz_ex5 S h.1) (.cons (Sz.int (i := l) (by omega)) (.cons (Sz.int (i := m) (by omega)) .nil))))).mono (by decide)
  | ret e => exact (Sz.tup (.cons (sz_word (x := "return") (by simp)) (.cons (sz_ex5 S h) .nil))).mono (by decide)
end
/-- a program of short names, small numbers -/
structure PgSm (pg : Pg) : Prop where
  ok : PgOk pg
  an : ∀ a ∈ pg.arrays, a.1.cps.size ≤ 6
  pn : ∀ p ∈ pg.procs, p.name.cps.size ≤ 6 ∧ 0 ≤ p.params
  lab : ∀ p ∈ pg.procs, ∀ b ∈ p.blocks, 0 ≤ b.label ∧ b.label < 1000
theorem PgSm.small {pg : Pg} (h : PgSm pg) : Small (p2 pg.w) pg.arrays (pns pg) := by
  refine ⟨p2_16 h.ok.w2, fun a ha => ⟨h.an a ha, h.ok.ao a ha, by have := h.ok.az a ha; omega, (h.ok.az a ha).2⟩, fun a ha => ?_⟩
  obtain ⟨p, hp, rfl⟩ := List.mem_map.mp ha
  exact ⟨(h.pn p hp).1, (h.ok.each p hp).nm, (h.pn p hp).2, (h.ok.each p hp).prm⟩
theorem PgSm.sz {pg : Pg} (h : PgSm pg) : Sz 6000000 pg.toD := by
  have S := h.small
  have hb : ∀ p ∈ pg.procs, ∀ b ∈ p.blocks, Sz 200000 b.toD := fun p hp b hb => by
    have O := h.ok.each p hp
    have hl := h.lab p hp b hb
    have := Sz.tup (.cons (Sz.int (i := b.label) (by omega)) (.cons (Sz.reps (fun s hs => sz_sm S (O.sms b hb s hs)) (O.body b hb)) (.cons (sz_nd S (fun x hx => by
      obtain ⟨c, hc, rfl⟩ := List.mem_map.mp hx
      exact h.lab p hp c hc) (O.nds b hb)) .nil)))
    exact this.mono (by decide)
  have hp : ∀ p ∈ pg.procs, Sz 1300000 p.toD := fun p hp => by
    have O := h.ok.each p hp
    have hn := h.pn p hp
    have hm := O.prm
    exact (Sz.tup (.cons (Sz.str O.nm hn.1) (.cons (Sz.int (i := p.params) (by omega)) (.cons (Sz.reps (hb p hp) O.few) .nil)))).mono (by decide)
  have ha : ∀ a ∈ pg.arrays, Sz 100 (arD a) := fun a ha => by
    have z := h.ok.az a ha
    exact (Sz.tup (.cons (Sz.str (h.ok.ao a ha) (h.an a ha)) (.cons (Sz.int (i := a.2) (by omega)) .nil))).mono (by decide)
  have hw := h.ok.w1
  have hw2 := h.ok.w2
  exact (Sz.tup (.cons (Sz.int (i := pg.w) (by omega)) (.cons (Sz.reps ha h.ok.af) (.cons (Sz.reps hp h.ok.pf) .nil)))).mono (by decide)
/-- repr of it -/
theorem PgSm.repr {pg : Pg} (h : PgSm pg) (h1 : pg.toD.ok = true) (h2 : pg.toD.py.depth ≤ 64) {hh : H3} {k : K1} (q : k (.str pg.toD.py.shown) hh) : rRepr [pg.toD] hh k :=
  ⟨_, _, rfl, rs_py h1, h.sz.sh, h2, Nat.le_trans h.sz.len (by decide), q⟩
theorem dep_tup {n : Nat} {l : List D} (h : ∀ d ∈ l, d.py.depth ≤ n) : (D.tup l).py.depth ≤ n + 1 := by
  have : PyData.depthAll (D.pyL l) ≤ n := by
    have e : D.pyL l = l.map D.py := by
      clear h
      induction l with
      | nil => simp [D.pyL]
      | cons d l ih => simp [D.pyL, ih]
    rw [e]
    exact depthAll_le fun x hx => by
      obtain ⟨d, hd, rfl⟩ := List.mem_map.mp hx
      exact h d hd
  simp only [D.py, PyData.depth]; omega
theorem dep_map {α : Type} {f : α → D} {n : Nat} {l : List α} (h : ∀ x ∈ l, (f x).py.depth ≤ n) : (D.tup (l.map f)).py.depth ≤ n + 1 := dep_tup fun d hd => by
  obtain ⟨x, hx, rfl⟩ := List.mem_map.mp hd
  exact h x hx
theorem ok_map {α : Type} {f : α → D} {l : List α} (h : ∀ x ∈ l, (f x).ok = true) : D.okL (l.map f) = true := okL_iff.mpr fun d hd => by
  obtain ⟨x, hx, rfl⟩ := List.mem_map.mp hd
  exact h x hx
theorem dep_int {i : Int} : (D.int i).py.depth = 0 := by simp [D.py, PyData.depth]
theorem dep_str {x : Str} : (D.str x).py.depth = 0 := by simp [D.py, PyData.depth]
theorem PgOk.dep {pg : Pg} (h : PgOk pg) : pg.toD.py.depth ≤ 64 := by
  have hb : ∀ p ∈ pg.procs, ∀ b ∈ p.blocks, b.toD.py.depth ≤ 10 := fun p hp b hb => by
    have O := h.each p hp
    have h1 := dep_map (f := Sm.toD) (l := b.body) fun s hs => (O.sms b hb s hs).dep
    have h2 := (O.nds b hb).dep
    refine dep_tup fun d hd => ?_
    simp only [List.mem_cons, List.not_mem_nil, or_false] at hd
    rcases hd with rfl | rfl | rfl
    · rw [dep_int]; omega
    · omega
    · omega
  have hp : ∀ p ∈ pg.procs, p.toD.py.depth ≤ 12 := fun p hp => by
    have h1 := dep_map (hb p hp)
    refine dep_tup fun d hd => ?_
    simp only [List.mem_cons, List.not_mem_nil, or_false] at hd
    rcases hd with rfl | rfl | rfl
    · rw [dep_str]; omega
    · rw [dep_int]; omega
    · exact h1
  have ha : ∀ a ∈ pg.arrays, (arD a).py.depth ≤ 1 := fun a ha => by simp [arD, D.py, D.pyL, PyData.depth, PyData.depthAll]
  have h1 := dep_map hp
  have h2 := dep_map ha
  refine Nat.le_trans (dep_tup (n := 13) fun d hd => ?_) (by decide)
  simp only [List.mem_cons, List.not_mem_nil, or_false] at hd
  rcases hd with rfl | rfl | rfl
  · rw [dep_int]; omega
  · omega
  · omega
theorem PgOk.okD {pg : Pg} (h : PgOk pg) : pg.toD.ok = true := by
  have hn : ∀ a ∈ pns pg, PyData.strOk a.1 = true := fun a ha => by
    obtain ⟨p, hp, rfl⟩ := List.mem_map.mp ha
    exact (h.each p hp).nm
  have hb : ∀ p ∈ pg.procs, ∀ b ∈ p.blocks, b.toD.ok = true := fun p hp b hb => by
    have O := h.each p hp
    have h1 := ok_map (f := Sm.toD) (l := b.body) fun s hs => (O.sms b hb s hs).ok h.ao hn
    have h2 := (O.nds b hb).ok h.ao
    simp [Bk.toD, D.ok, D.okL, h1, h2]
  have hp : ∀ p ∈ pg.procs, p.toD.ok = true := fun p hp => by
    have h1 := ok_map (hb p hp)
    simp [Pr.toD, D.ok, D.okL, h1, (h.each p hp).nm]
  have h1 := ok_map hp
  have h2 : D.okL (pg.arrays.map arD) = true := ok_map fun a ha => by simp [arD, D.ok, D.okL, h.ao a ha]
  simp [Pg.toD, D.ok, D.okL, h1, h2]
theorem Sm.Wf.more {top : Int} {ars o1 o2 : List (Str × Int)} (h : ∀ x ∈ o1, x ∈ o2) {s : Sm} (w : s.Wf top ars o1) : s.Wf top ars o2 := by
  cases s with
  | call v p es => exact ⟨w.1, h _ w.2.1, w.2.2⟩
  | _ => exact w
theorem Nd.Wf.more {top : Int} {ars : List (Str × Int)} {l1 l2 : List Int} (h : ∀ x ∈ l1, x ∈ l2) {n : Nd} (w : n.Wf top ars l1) : n.Wf top ars l2 := by
  cases n with
  | go l => exact h _ w
  | iff e l m => exact ⟨w.1, h _ w.2.1, h _ w.2.2⟩
  | ret e => exact w
theorem lbl_nodup {gap : Int} {n : Nat} (h1 : 1 ≤ gap) (h3 : gap ≤ 3) (hn : n ≤ 6) : ((List.range n).map (lbl gap)).Nodup := by
  have hg : gap = 1 ∨ gap = 2 ∨ gap = 3 := by omega
  have hm : n = 0 ∨ n = 1 ∨ n = 2 ∨ n = 3 ∨ n = 4 ∨ n = 5 ∨ n = 6 := by omega
  rcases hg with rfl | rfl | rfl <;> rcases hm with rfl | rfl | rfl | rfl | rfl | rfl | rfl <;> decide
theorem wm_mem {l : List (Str × Int)} {x : Str × Int} : x ∈ withMain l ↔ x ∈ ent "main" 0 :: l := by
  cases l with
  | nil => rfl
  | cons a r =>
    simp only [withMain, List.mem_cons]
    constructor
    · rintro (h | h | h)
      · exact .inr (.inl h)
      · exact .inl h
      · exact .inr (.inr h)
    · rintro (h | h | h)
      · exact .inr (.inl h)
      · exact .inl h
      · exact .inr (.inr h)
/-- what is drawn is a program -/
theorem wf_sm {w : Int} (h0 : 1 ≤ w) (h1 : w ≤ 16) {others : List (Str × Int)} {pg : Pg} (h : PgWf w others pg) : PgSm pg := by
  have oth : ∀ x ∈ ent "main" 0 :: others, x.1.cps.size ≤ 6 ∧ PyData.strOk x.1 = true ∧ 0 ≤ x.2 ∧ x.2 ≤ 3 := by
    have : ∀ x ∈ ([ent "main" 0, ent "aid" 1, ent "aid" 2, ent "aid" 3, ent "zig" 0, ent "zig" 1] : List (Str × Int)), x.1.cps.size ≤ 6 ∧ PyData.strOk x.1 = true ∧ 0 ≤ x.2 ∧ x.2 ≤ 3 := by decide +kernel
    intro x hx
    refine this x ?_
    rcases h.oth with rfl | rfl | rfl | rfl <;> simp at hx ⊢ <;> (rcases hx with rfl | rfl | rfl | rfl) <;> simp
  have hpr : ∀ p ∈ pg.procs, ent p.name p.params ∈ ent "main" 0 :: others := fun p hp => by
    have : ent p.name p.params ∈ withMain others := by rw [← h.prs]; exact List.mem_map_of_mem (f := fun p : Pr => ent p.name p.params) hp
    exact wm_mem.mp this
  have hpn : pns pg = withMain others := h.prs
  have hsub : ∀ x ∈ others, x ∈ pns pg := fun x hx => by rw [hpn]; exact wm_mem.mpr (List.mem_cons_of_mem _ hx)
  have hlen : pg.procs.length ≤ 3 := by
    have := congrArg List.length h.prs
    have h2 := h.oth.ok.1
    have h3 : (withMain others).length = others.length + 1 := by cases others <;> simp [withMain]
    simp at this; omega
  have hlab : ∀ p ∈ pg.procs, ∀ b ∈ p.blocks, 0 ≤ b.label ∧ b.label < 1000 := fun p hp b hb => by
    obtain ⟨gap, n, _, _, _, _, e⟩ := (h.bls p hp).lab
    have : b.label ∈ p.blocks.map Bk.label := List.mem_map_of_mem hb
    rw [e] at this
    obtain ⟨k, _, e⟩ := List.mem_map.mp this
    rw [← e]; unfold lbl; omega
  have asz : ∀ a ∈ pg.arrays, a.1.cps.size ≤ 6 := by
    have : ∀ x ∈ (["mem", "a", "b_2"] : List Str), x.cps.size ≤ 6 := by decide +kernel
    intro a ha
    refine this a.1 ?_
    rcases h.ars with e | ⟨n, _, _, e⟩ | ⟨n, _, _, e⟩ | ⟨n, _, _, e⟩ <;> rw [e] at ha <;> simp at ha
    · simp [ha]
    · rcases ha with rfl | rfl <;> simp
    · rcases ha with rfl | rfl | rfl <;> simp
  refine ⟨⟨by rw [h.wd]; exact h0, by rw [h.wd]; exact h1, ?_, h.ars.sz.2, h.ars.ok, h.ars.sz.1, ?_, hlen, ?_, fun p hp => ?_⟩, asz, fun p hp => ⟨(oth _ (hpr p hp)).1, (oth _ (hpr p hp)).2.2.1⟩, hlab⟩
  · have c1 : ("mem" : Str) ≠ "a" := by decide +kernel
    have c2 : ("mem" : Str) ≠ "b_2" := by decide +kernel
    have c3 : ("a" : Str) ≠ "b_2" := by decide +kernel
    rcases h.ars with e | ⟨n, _, _, e⟩ | ⟨n, _, _, e⟩ | ⟨n, _, _, e⟩ <;> rw [e] <;> simp [c1, c2, c3, c1.symm, c2.symm]
  · have e : pg.procs.map Pr.name = (withMain others).map (·.1) := by rw [← h.prs, List.map_map]; rfl
    rw [e]
    rcases h.oth with rfl | rfl | rfl | rfl <;> simp [withMain]
  · have : ent "main" 0 ∈ pns pg := by rw [hpn]; exact wm_mem.mpr List.mem_cons_self
    obtain ⟨p, hp, e⟩ := List.mem_map.mp this
    exact ⟨p, hp, congrArg Prod.fst e⟩
  · have B := h.bls p hp
    have nl := B.pos
    refine ⟨(oth _ (hpr p hp)).2.1, fun e => by rw [e] at nl; simp at nl, (oth _ (hpr p hp)).2.2.2, nl.2, ?_, B.few, fun b hb s hs => ?_, fun b hb => ?_⟩
    · obtain ⟨gap, n, g1, g3, _, n6, e⟩ := B.lab
      rw [e]; exact lbl_nodup g1 g3 n6
    · rw [h.wd]; exact Sm.Wf.more hsub (B.sms b hb s hs)
    · rw [h.wd]; exact Nd.Wf.more (fun x hx => List.mem_of_mem_tail hx) (B.nds b hb)
/-! the ring -/
def ringB : Pr := { name := "aid", params := 1, blocks := [{ label := 0, body := [.put (.var 0), .call 1 "aid" [.two "add" (.var 0) (.int 1)]], nd := .ret (.var 1) }] }
def ringR : List Sm := [.take 0, .call 2 "aid" [.var 0], .put (.var 2)]
def ringP (w : Int) (n : Nat) : Pg := { w := w, arrays := [], procs := [ringB, { name := "main", params := 0, blocks := [{ label := 3, body := ringR.drop n, nd := .ret (.var 2) }] }] }
theorem ring_sm {w : Int} (h0 : 1 ≤ w) (h1 : w ≤ 16) (n : Nat) : PgSm (ringP w n) := by
  have c1 : PyData.strOk "aid" = true := by decide +kernel
  have c2 : PyData.strOk "main" = true := by decide +kernel
  have c3 : ("aid" : Str) ≠ "main" := by decide +kernel
  have c4 : ("aid" : Str).cps.size ≤ 6 ∧ ("main" : Str).cps.size ≤ 6 := by decide +kernel
  have w2 := p2_two h0
  have va : ∀ (v : Int) (m : Nat), 0 ≤ v → v ≤ 39 → (Ex.var v).Wf (p2 w) [] (m + 1) := fun v m a b => ⟨a, b⟩
  have hr : ∀ s ∈ ringR, s.Wf (p2 w) [] (pns (ringP w n)) := by
    intro s hs
    simp [ringR] at hs
    rcases hs with rfl | rfl | rfl
    · exact ⟨by decide, by decide⟩
    · exact ⟨⟨by decide, by decide⟩, by simp [pns, ringP, ringB], fun e he => by rw [List.mem_singleton] at he; subst he; exact va 0 4 (by decide) (by decide)⟩
    · exact va 2 4 (by decide) (by decide)
  refine ⟨⟨h0, h1, by simp [ringP], by simp [ringP], by simp [ringP], by simp [ringP], ?_, by simp [ringP], ⟨_, by simp [ringP]; exact .inr rfl, rfl⟩, fun p hp => ?_⟩, by simp [ringP], ?_, ?_⟩
  · simp [ringP, ringB, c3]
  · simp [ringP] at hp
    rcases hp with rfl | rfl
    · refine ⟨c1, by simp [ringB], by simp [ringB], by simp [ringB], by simp [ringB], by simp [ringB], fun b hb s hs => ?_, fun b hb => ?_⟩
      · simp [ringB] at hb
        subst hb
        simp at hs
        rcases hs with rfl | rfl
        · exact va 0 4 (by decide) (by decide)
        · exact ⟨⟨by decide, by decide⟩, by simp [pns, ringP, ringB], fun e he => by
            rw [List.mem_singleton] at he; subst he
            exact ⟨by simp [pairOps], va 0 3 (by decide) (by decide), ⟨by decide, by show (1 : Int) < p2 w; omega⟩⟩⟩
      · simp [ringB] at hb
        subst hb
        exact va 1 4 (by decide) (by decide)
    · refine ⟨c2, by simp, by simp, by simp, by simp, by simp [ringR]; omega, fun b hb s hs => ?_, fun b hb => ?_⟩
      · simp at hb
        subst hb
        exact hr s (List.mem_of_mem_drop hs)
      · simp at hb
        subst hb
        exact va 2 4 (by decide) (by decide)
  · intro p hp
    simp [ringP] at hp
    rcases hp with rfl | rfl
    · exact ⟨c4.1, by decide⟩
    · exact ⟨c4.2, Int.le_refl 0⟩
  · intro p hp b hb
    simp [ringP] at hp
    rcases hp with rfl | rfl
    · simp [ringB] at hb; subst hb; exact ⟨by decide, by decide⟩
    · simp at hb; subst hb; exact ⟨by show (0 : Int) ≤ 3; decide, by show (3 : Int) < 1000; decide⟩
end P04
end
-- T3Nil
section
set_option maxRecDepth 100000
set_option maxHeartbeats 4000000
/-! T3Nil: xs == [], whatever xs holds. -/
namespace T3
open PySem PySem.Spec PySem.W PyProof.Rows L2
section
variable {X : Cx} {G : Sc}
theorem op_eq_len (hu : X.A.units < cLine) : OpR X (compareOp .Eq) (fun x y H Q => ∃ a b xs ys, x = .ref a ∧ y = .ref b ∧ H a = some (.lst xs) ∧ H b = some (.lst ys) ∧ xs.length ≠ ys.length ∧ Q (.bl false) H) := by
  intro pins s σ H x y v u Q I rx ry ⟨a, b, xs, ys, ex, ey, ha, hb, hne, q⟩
  subst ex ey
  cases rx; cases ry
  obtain ⟨it1, r1, ⟨o, n, ho, hc, _, hd⟩, _⟩ := I.list (.of ha)
  obtain ⟨it2, r2, ⟨o2, n2, ho2, hc2, _, hd2⟩, _⟩ := I.list (.of hb)
  have l1 := r1.length
  have l2 := r2.length
  exact SeqAt.eq_list_lengthsAt (l := a) (b := b) ⟨o, ho, hc, n, hd⟩ ⟨o2, ho2, hc2, n2, hd2⟩ (by simp; omega) hu ⟨.bl false, H, I, rfl, q⟩
/-- .. == [] -/
def rEqNil : D → D → H3 → K1 → Prop := fun x y h k => ∃ a b l, x = .ref a ∧ y = .ref b ∧ h a = some (.lst l) ∧ h b = some (.lst []) ∧ k (.bl l.isEmpty) h
theorem rf_eqNil (hu : X.A.units + 64 < cLine) : Rf2 G (U2 X (compareOp .Eq)) rEqNil := by
  intro d e x y h H k Q rel dx dy ⟨a, b, l, ed, ee, ha, hb, q⟩ post
  subst ed ee
  cases l with
  | nil =>
    refine rf_eq hu _ _ _ _ _ _ _ _ rel dx dy ?_ post
    exact rEq_nilL ha hb rfl q
  | cons z r =>
    cases dx; cases dy
    obtain ⟨vs, e1, r1⟩ := rel.lst ha
    obtain ⟨ws, e2, r2⟩ := rel.lst hb
    have l1 := r1.length
    have l2 := r2.length
    exact ⟨_, op_eq_len (by omega), a, b, vs, ws, rfl, rfl, e1, e2, by simp at l1 l2; omega, post_bl post rel q⟩
end
end T3
end
-- Lk04
section
set_option maxRecDepth 100000
set_option maxHeartbeats 4000000
namespace Lk04
open PySem PySem.Spec PyProof.Rows L2 T3
def top (i : Nat) : Stmt := PySem.Challenge.pw_inputways_k04_runs.main.body.getD i (.Pass ⟨0, 0, 0, 0⟩)
abbrev n_Frame : List Str := ["procedure", "label", "at", "variables", "result"]
abbrev n_Runner : List Str := ["program", "inputs", "steps", "used", "writes", "path", "seen", "arrays", "end", "frames"]
/-- the module's names: what is still built in; the constants -/
structure Mg (mg : Str → Option Value) : Prop where
  len : mg "len" = none
  range : mg "range" = none
  tuple : mg "tuple" = none
  sorted : mg "sorted" = none
  list : mg "list" = none
  any : mg "any" = none
  int : mg "int" = none
  abs : mg "abs" = none
  min : mg "min" = none
  max : mg "max" = none
  isinstance : mg "isinstance" = none
  set : mg "set" = none
  repr : mg "repr" = none
  c_MOST_FRAMES : ∃ t, mg "MOST_FRAMES" = some (.int 12 t)
def k_SINGLES : List Str := ["not", "neg"]
structure Mt (K : PySem.W.Frag) (mg : Str → Option Value) : Prop where
  t_SINGLES : KTup K mg "SINGLES" k_SINGLES
section
variable {P : Program} {w : World} {K : PySem.W.Frag} {mg : Str → Option Value} {base : Heap} {G : Sc}
/-! ### top -/
abbrev s_top : Stmt := top 2
abbrev N_top : List Str := ["w"]
theorem sc_top : FnScope N_top ["w"] (defScope s_top) := ⟨rfl, rfl, rfl, by decide +kernel, rfl, by decide +kernel, by decide +kernel⟩
theorem nd_top : N_top.Nodup := sc_top.nd
def W_top   : WS := wRet (w2 rSub (w2 rShl (wC (.int 1)) (wVar 0)) (wC (.int 1)))
theorem walk_top {C_s : Unit}   {k : Nat} (T : Mg mg)  {f : Addr} (cdv : Value) (A : Around) (outer : List Env) (s : Shared) (H : Hp) (E : XK) (hr : Room (k + 1) (A.deeper (envOfC "top" (defScope s_top) s.heap.objs.size f cdv)))  :
    PSs3 (CXF P w K mg base N_top "top" s_top f cdv A outer s H E) G (defBody s_top) (W_top ) := by
  unfold W_top
  exact is_one (is_ret (i_bin rf_sub (i_bin rf_shl (i_int) (i_var 0)) (i_int)))
/-! ### shifted -/
abbrev s_shifted : Stmt := top 3
abbrev N_shifted : List Str := ["op", "w", "x", "y"]
theorem sc_shifted : FnScope N_shifted ["op", "w", "x", "y"] (defScope s_shifted) := ⟨rfl, rfl, rfl, by decide +kernel, rfl, by decide +kernel, by decide +kernel⟩
theorem nd_shifted : N_shifted.Nodup := sc_shifted.nd
def W_shifted  (p_top : Sp3) : WS := wSeq (wIfS (wB (w2 rGe (wVar 3) (wVar 1))) (wRet (wC (.int 0))) (wNext)) (wRet (wIf (wB (w2 rEq (wVar 0) (wC (.str "shl")))) (w2 rAndI (w2 rShl (wVar 2) (wVar 3)) (wL p_top (wCons (wVar 1) (wNil)))) (w2 rShr (wVar 2) (wVar 3))))
theorem walk_shifted {C_s : Unit}  {p_top : Sp3} {k : Nat} (T : Mg mg)  {f : Addr} (cdv : Value) (A : Around) (outer : List Env) (s : Shared) (H : Hp) (E : XK) (hr : Room (k + 1) (A.deeper (envOfC "shifted" (defScope s_shifted) s.heap.objs.size f cdv))) (F_top : Fd P w K mg base G "top" (k + 1) p_top) :
    PSs3 (CXF P w K mg base N_shifted "shifted" s_shifted f cdv A outer s H E) G (defBody s_shifted) (W_shifted p_top) := by
  unfold W_shifted
  exact is_cons (is_if (it_cmp rf_ge (i_var 3) (i_var 1)) (is_one (is_ret (i_int))) (is_nil)) (is_one (is_ret (i_if (it_cmp (rf_eq hr.units) (i_var 0) (i_str)) (i_bin rf_and (i_bin rf_shl (i_var 2) (i_var 3)) (i_call F_top hr (ia_cons (i_var 1) (ia_nil)))) (i_bin rf_shr (i_var 2) (i_var 3)))))
/-! ### compute -/
abbrev s_compute : Stmt := top 4
abbrev N_compute : List Str := ["op", "w", "x", "y"]
theorem sc_compute : FnScope N_compute ["op", "w", "x", "y"] (defScope s_compute) := ⟨rfl, rfl, rfl, by decide +kernel, rfl, by decide +kernel, by decide +kernel⟩
theorem nd_compute : N_compute.Nodup := sc_compute.nd
def W_compute  (p_top : Sp3) (p_shifted : Sp3) : WS := wSeq (wIfS (wB (w2 rEq (wVar 0) (wC (.str "add")))) (wRet (w2 rAndI (w2 rAdd (wVar 2) (wVar 3)) (wL p_top (wCons (wVar 1) (wNil))))) (wNext)) (wSeq (wIfS (wB (w2 rEq (wVar 0) (wC (.str "sub")))) (wRet (w2 rAndI (w2 rSub (wVar 2) (wVar 3)) (wL p_top (wCons (wVar 1) (wNil))))) (wNext)) (wSeq (wIfS (wB (w2 rEq (wVar 0) (wC (.str "mul")))) (wRet (w2 rAndI (w2 rMul (wVar 2) (wVar 3)) (wL p_top (wCons (wVar 1) (wNil))))) (wNext)) (wSeq (wIfS (wB (w2 rEq (wVar 0) (wC (.str "and")))) (wRet (w2 rAndI (wVar 2) (wVar 3))) (wNext)) (wSeq (wIfS (wB (w2 rEq (wVar 0) (wC (.str "or")))) (wRet (w2 rOrI (wVar 2) (wVar 3))) (wNext)) (wSeq (wIfS (wB (w2 rEq (wVar 0) (wC (.str "xor")))) (wRet (w2 rXorI (wVar 2) (wVar 3))) (wNext)) (wSeq (wIfS (wB (w2 (rIn false) (wVar 0) (wL rTup (wCons (wC (.str "shl")) (wCons (wC (.str "shr")) (wNil)))))) (wRet (wL p_shifted (wCons (wVar 0) (wCons (wVar 1) (wCons (wVar 2) (wCons (wVar 3) (wNil))))))) (wNext)) (wSeq (wIfS (wB (w2 rEq (wVar 0) (wC (.str "less")))) (wRet (wIf (wB (w2 rLt (wVar 2) (wVar 3))) (wC (.int 1)) (wC (.int 0)))) (wNext)) (wSeq (wIfS (wB (w2 rEq (wVar 0) (wC (.str "equal")))) (wRet (wIf (wB (w2 rEq (wVar 2) (wVar 3))) (wC (.int 1)) (wC (.int 0)))) (wNext)) (wSeq (wIfS (wB (w2 rEq (wVar 0) (wC (.str "not")))) (wRet (w2 rSub (wL p_top (wCons (wVar 1) (wNil))) (wVar 2))) (wNext)) (wRet (w2 rAndI (w1 rNeg (wVar 2)) (wL p_top (wCons (wVar 1) (wNil))))))))))))))
theorem walk_compute {C_s : Unit}  {p_top : Sp3} {p_shifted : Sp3} {k : Nat} (T : Mg mg)  {f : Addr} (cdv : Value) (A : Around) (outer : List Env) (s : Shared) (H : Hp) (E : XK) (hr : Room (k + 1) (A.deeper (envOfC "compute" (defScope s_compute) s.heap.objs.size f cdv))) (F_top : Fd P w K mg base G "top" (k + 1) p_top) (F_shifted : Fd P w K mg base G "shifted" (k + 1) p_shifted) :
    PSs3 (CXF P w K mg base N_compute "compute" s_compute f cdv A outer s H E) G (defBody s_compute) (W_compute p_top p_shifted) := by
  unfold W_compute
  exact is_cons (is_if (it_cmp (rf_eq hr.units) (i_var 0) (i_str)) (is_one (is_ret (i_bin rf_and (i_bin rf_add (i_var 2) (i_var 3)) (i_call F_top hr (ia_cons (i_var 1) (ia_nil)))))) (is_nil)) (is_cons (is_if (it_cmp (rf_eq hr.units) (i_var 0) (i_str)) (is_one (is_ret (i_bin rf_and (i_bin rf_sub (i_var 2) (i_var 3)) (i_call F_top hr (ia_cons (i_var 1) (ia_nil)))))) (is_nil)) (is_cons (is_if (it_cmp (rf_eq hr.units) (i_var 0) (i_str)) (is_one (is_ret (i_bin rf_and (i_bin rf_mul (i_var 2) (i_var 3)) (i_call F_top hr (ia_cons (i_var 1) (ia_nil)))))) (is_nil)) (is_cons (is_if (it_cmp (rf_eq hr.units) (i_var 0) (i_str)) (is_one (is_ret (i_bin rf_and (i_var 2) (i_var 3)))) (is_nil)) (is_cons (is_if (it_cmp (rf_eq hr.units) (i_var 0) (i_str)) (is_one (is_ret (i_bin rf_or (i_var 2) (i_var 3)))) (is_nil)) (is_cons (is_if (it_cmp (rf_eq hr.units) (i_var 0) (i_str)) (is_one (is_ret (i_bin rf_xor (i_var 2) (i_var 3)))) (is_nil)) (is_cons (is_if (it_cmp (rf_in (room65 hr)) (i_var 0) (i_tup (ia_cons (i_str) (ia_cons (i_str) (ia_nil))))) (is_one (is_ret (i_call F_shifted hr (ia_cons (i_var 0) (ia_cons (i_var 1) (ia_cons (i_var 2) (ia_cons (i_var 3) (ia_nil)))))))) (is_nil)) (is_cons (is_if (it_cmp (rf_eq hr.units) (i_var 0) (i_str)) (is_one (is_ret (i_if (it_cmp rf_lt (i_var 2) (i_var 3)) (i_int) (i_int)))) (is_nil)) (is_cons (is_if (it_cmp (rf_eq hr.units) (i_var 0) (i_str)) (is_one (is_ret (i_if (it_cmp (rf_eq hr.units) (i_var 2) (i_var 3)) (i_int) (i_int)))) (is_nil)) (is_cons (is_if (it_cmp (rf_eq hr.units) (i_var 0) (i_str)) (is_one (is_ret (i_bin rf_sub (i_call F_top hr (ia_cons (i_var 1) (ia_nil))) (i_var 2)))) (is_nil)) (is_one (is_ret (i_bin rf_and (i_un rf_neg' (i_var 2)) (i_call F_top hr (ia_cons (i_var 1) (ia_nil)))))))))))))))
/-! ### size_of -/
abbrev s_size_of : Stmt := top 6
abbrev N_size_of : List Str := ["program", "name", "row"]
theorem sc_size_of : FnScope N_size_of ["program", "name"] (defScope s_size_of) := ⟨rfl, rfl, rfl, by decide +kernel, rfl, by decide +kernel, by decide +kernel⟩
theorem nd_size_of : N_size_of.Nodup := sc_size_of.nd
def W_size_of   : WS := wSeq (wFor (wIter (w2 rIx (wVar 0) (wC (.int 1)))) (gN 2) (wIfS (wB (w2 rEq (w2 rIx (wVar 2) (wC (.int 0))) (wVar 1))) (wRet (w2 rIx (wVar 2) (wC (.int 1)))) (wNext))) (wRet (wC .non))
theorem walk_size_of {C_s : Unit}   {k : Nat} (T : Mg mg)  {f : Addr} (cdv : Value) (A : Around) (outer : List Env) (s : Shared) (H : Hp) (E : XK) (hr : Room (k + 1) (A.deeper (envOfC "size_of" (defScope s_size_of) s.heap.objs.size f cdv)))  :
    PSs3 (CXF P w K mg base N_size_of "size_of" s_size_of f cdv A outer s H E) G (defBody s_size_of) (W_size_of ) := by
  unfold W_size_of
  exact is_cons (is_for PassesOwn.never rfl (ii_any (i_ix (i_var 0) (i_int))) (ig_name 2 nd_size_of) (is_one (is_if (it_cmp (rf_eq hr.units) (i_ix (i_var 2) (i_int)) (i_var 1)) (is_one (is_ret (i_ix (i_var 2) (i_int)))) (is_nil)))) (is_one (is_ret (i_non)))
/-! ### procedure_of -/
abbrev s_procedure_of : Stmt := top 7
abbrev N_procedure_of : List Str := ["program", "name", "row"]
theorem sc_procedure_of : FnScope N_procedure_of ["program", "name"] (defScope s_procedure_of) := ⟨rfl, rfl, rfl, by decide +kernel, rfl, by decide +kernel, by decide +kernel⟩
theorem nd_procedure_of : N_procedure_of.Nodup := sc_procedure_of.nd
def W_procedure_of   : WS := wSeq (wFor (wIter (w2 rIx (wVar 0) (wC (.int 2)))) (gN 2) (wIfS (wB (w2 rEq (w2 rIx (wVar 2) (wC (.int 0))) (wVar 1))) (wRet (wVar 2)) (wNext))) (wRet (wC .non))
theorem walk_procedure_of {C_s : Unit}   {k : Nat} (T : Mg mg)  {f : Addr} (cdv : Value) (A : Around) (outer : List Env) (s : Shared) (H : Hp) (E : XK) (hr : Room (k + 1) (A.deeper (envOfC "procedure_of" (defScope s_procedure_of) s.heap.objs.size f cdv)))  :
    PSs3 (CXF P w K mg base N_procedure_of "procedure_of" s_procedure_of f cdv A outer s H E) G (defBody s_procedure_of) (W_procedure_of ) := by
  unfold W_procedure_of
  exact is_cons (is_for PassesOwn.never rfl (ii_any (i_ix (i_var 0) (i_int))) (ig_name 2 nd_procedure_of) (is_one (is_if (it_cmp (rf_eq hr.units) (i_ix (i_var 2) (i_int)) (i_var 1)) (is_one (is_ret (i_var 2))) (is_nil)))) (is_one (is_ret (i_non)))
/-! ### block_of -/
abbrev s_block_of : Stmt := top 8
abbrev N_block_of : List Str := ["procedure", "label", "block"]
theorem sc_block_of : FnScope N_block_of ["procedure", "label"] (defScope s_block_of) := ⟨rfl, rfl, rfl, by decide +kernel, rfl, by decide +kernel, by decide +kernel⟩
theorem nd_block_of : N_block_of.Nodup := sc_block_of.nd
def W_block_of   : WS := wSeq (wFor (wIter (w2 rIx (wVar 0) (wC (.int 2)))) (gN 2) (wIfS (wB (w2 rEq (w2 rIx (wVar 2) (wC (.int 0))) (wVar 1))) (wRet (wVar 2)) (wNext))) (wRet (wC .non))
theorem walk_block_of {C_s : Unit}   {k : Nat} (T : Mg mg)  {f : Addr} (cdv : Value) (A : Around) (outer : List Env) (s : Shared) (H : Hp) (E : XK) (hr : Room (k + 1) (A.deeper (envOfC "block_of" (defScope s_block_of) s.heap.objs.size f cdv)))  :
    PSs3 (CXF P w K mg base N_block_of "block_of" s_block_of f cdv A outer s H E) G (defBody s_block_of) (W_block_of ) := by
  unfold W_block_of
  exact is_cons (is_for PassesOwn.never rfl (ii_any (i_ix (i_var 0) (i_int))) (ig_name 2 nd_block_of) (is_one (is_if (it_cmp (rf_eq hr.units) (i_ix (i_var 2) (i_int)) (i_var 1)) (is_one (is_ret (i_var 2))) (is_nil)))) (is_one (is_ret (i_non)))
/-! ### targets -/
abbrev s_targets : Stmt := top 9
abbrev N_targets : List Str := ["end"]
theorem sc_targets : FnScope N_targets ["end"] (defScope s_targets) := ⟨rfl, rfl, rfl, by decide +kernel, rfl, by decide +kernel, by decide +kernel⟩
theorem nd_targets : N_targets.Nodup := sc_targets.nd
def W_targets   : WS := wSeq (wIfS (wB (w2 rEq (w2 rIx (wVar 0) (wC (.int 0))) (wC (.str "go")))) (wRet (wL rTup (wCons (w2 rIx (wVar 0) (wC (.int 1))) (wNil)))) (wNext)) (wSeq (wIfS (wB (w2 rEq (w2 rIx (wVar 0) (wC (.int 0))) (wC (.str "if")))) (wRet (wL rTup (wCons (w2 rIx (wVar 0) (wC (.int 2))) (wCons (w2 rIx (wVar 0) (wC (.int 3))) (wNil))))) (wNext)) (wRet (wL rTup (wNil))))
theorem walk_targets {C_s : Unit}   {k : Nat} (T : Mg mg)  {f : Addr} (cdv : Value) (A : Around) (outer : List Env) (s : Shared) (H : Hp) (E : XK) (hr : Room (k + 1) (A.deeper (envOfC "targets" (defScope s_targets) s.heap.objs.size f cdv)))  :
    PSs3 (CXF P w K mg base N_targets "targets" s_targets f cdv A outer s H E) G (defBody s_targets) (W_targets ) := by
  unfold W_targets
  exact is_cons (is_if (it_cmp (rf_eq hr.units) (i_ix (i_var 0) (i_int)) (i_str)) (is_one (is_ret (i_tup (ia_cons (i_ix (i_var 0) (i_int)) (ia_nil))))) (is_nil)) (is_cons (is_if (it_cmp (rf_eq hr.units) (i_ix (i_var 0) (i_int)) (i_str)) (is_one (is_ret (i_tup (ia_cons (i_ix (i_var 0) (i_int)) (ia_cons (i_ix (i_var 0) (i_int)) (ia_nil)))))) (is_nil)) (is_one (is_ret (i_tup (ia_nil)))))
/-! ### Frame.__init__ -/
abbrev s_Frame_init : Stmt := inClass (top 12) 0
abbrev N_Frame_init : List Str := ["self", "procedure", "label", "variables", "result"]
theorem sc_Frame_init : FnScope N_Frame_init ["self", "procedure", "label", "variables", "result"] (defScope s_Frame_init) := ⟨rfl, rfl, rfl, by decide +kernel, rfl, by decide +kernel, by decide +kernel⟩
theorem nd_Frame_init : N_Frame_init.Nodup := sc_Frame_init.nd
def W_Frame_init (C_Frame : Addr)  : WS := wSeq (wSetF C_Frame n_Frame 0 (wVar 0) (wVar 1)) (wSeq (wSetF C_Frame n_Frame 1 (wVar 0) (wVar 2)) (wSeq (wSetF C_Frame n_Frame 2 (wVar 0) (wC (.int 0))) (wSeq (wSetF C_Frame n_Frame 3 (wVar 0) (wVar 3)) (wSetF C_Frame n_Frame 4 (wVar 0) (wVar 4)))))
theorem walk_Frame_init {C_s : Unit} {C_Frame : Addr}  {k : Nat} (T : Mg mg) (T_Frame : Cl3 K C_Frame n_Frame) {f : Addr} (cdv : Value) (A : Around) (outer : List Env) (s : Shared) (H : Hp) (E : XK) (hr : Room (k + 1) (A.deeper (envOfC "Frame.__init__" (defScope s_Frame_init) s.heap.objs.size f cdv)))  :
    PSs3 (CXF P w K mg base N_Frame_init "Frame.__init__" s_Frame_init f cdv A outer s H E) G (defBody s_Frame_init) (W_Frame_init C_Frame) := by
  unfold W_Frame_init
  exact is_cons (is_setF C_Frame n_Frame 0 T_Frame (i_var 0) (i_var 1)) (is_cons (is_setF C_Frame n_Frame 1 T_Frame (i_var 0) (i_var 2)) (is_cons (is_setF C_Frame n_Frame 2 T_Frame (i_var 0) (i_int)) (is_cons (is_setF C_Frame n_Frame 3 T_Frame (i_var 0) (i_var 3)) (is_one (is_setF C_Frame n_Frame 4 T_Frame (i_var 0) (i_var 4))))))
/-! ### Frame.block -/
abbrev s_Frame_block : Stmt := inClass (top 12) 1
abbrev N_Frame_block : List Str := ["self"]
theorem sc_Frame_block : FnScope N_Frame_block ["self"] (defScope s_Frame_block) := ⟨rfl, rfl, rfl, by decide +kernel, rfl, by decide +kernel, by decide +kernel⟩
theorem nd_Frame_block : N_Frame_block.Nodup := sc_Frame_block.nd
def W_Frame_block (C_Frame : Addr) (p_block_of : Sp3) : WS := wRet (wL p_block_of (wCons (wFld C_Frame n_Frame 0 (wVar 0)) (wCons (wFld C_Frame n_Frame 1 (wVar 0)) (wNil))))
theorem walk_Frame_block {C_s : Unit} {C_Frame : Addr} {p_block_of : Sp3} {k : Nat} (T : Mg mg) (T_Frame : Cl3 K C_Frame n_Frame) {f : Addr} (cdv : Value) (A : Around) (outer : List Env) (s : Shared) (H : Hp) (E : XK) (hr : Room (k + 1) (A.deeper (envOfC "Frame.block" (defScope s_Frame_block) s.heap.objs.size f cdv))) (F_block_of : Fd P w K mg base G "block_of" (k + 1) p_block_of) :
    PSs3 (CXF P w K mg base N_Frame_block "Frame.block" s_Frame_block f cdv A outer s H E) G (defBody s_Frame_block) (W_Frame_block C_Frame p_block_of) := by
  unfold W_Frame_block
  exact is_one (is_ret (i_call F_block_of hr (ia_cons (i_fld C_Frame n_Frame 0 T_Frame (i_var 0)) (ia_cons (i_fld C_Frame n_Frame 1 T_Frame (i_var 0)) (ia_nil)))))
/-! ### Frame.place -/
abbrev s_Frame_place : Stmt := inClass (top 12) 2
abbrev N_Frame_place : List Str := ["self", "at"]
theorem sc_Frame_place : FnScope N_Frame_place ["self"] (defScope s_Frame_place) := ⟨rfl, rfl, rfl, by decide +kernel, rfl, by decide +kernel, by decide +kernel⟩
theorem nd_Frame_place : N_Frame_place.Nodup := sc_Frame_place.nd
def W_Frame_place (C_Frame : Addr) (p_Frame_block : Sp3) : WS := wSeq (wAsg (wIf (wB (w2 rLt (wFld C_Frame n_Frame 2 (wVar 0)) (wL rLen (wCons (w2 rIx (wMethC C_Frame n_Frame p_Frame_block (wVar 0) wNil) (wC (.int 1))) (wNil))))) (wFld C_Frame n_Frame 2 (wVar 0)) (w1 rNeg (wC (.int 1)))) (gN 1)) (wRet (wL rTup (wCons (w2 rIx (wFld C_Frame n_Frame 0 (wVar 0)) (wC (.int 0))) (wCons (wFld C_Frame n_Frame 1 (wVar 0)) (wCons (wVar 1) (wNil))))))
theorem walk_Frame_place {C_s : Unit} {C_Frame : Addr} {p_Frame_block : Sp3} {k : Nat} (T : Mg mg) (T_Frame : Cl3 K C_Frame n_Frame) {f : Addr} (cdv : Value) (A : Around) (outer : List Env) (s : Shared) (H : Hp) (E : XK) (hr : Room (k + 1) (A.deeper (envOfC "Frame.place" (defScope s_Frame_place) s.heap.objs.size f cdv))) (F_Frame_block : Md P w K mg base G C_Frame "block" (k + 1) p_Frame_block) :
    PSs3 (CXF P w K mg base N_Frame_place "Frame.place" s_Frame_place f cdv A outer s H E) G (defBody s_Frame_place) (W_Frame_place C_Frame p_Frame_block) := by
  unfold W_Frame_place
  exact is_cons (is_asg (i_if (it_cmp rf_lt (i_fld C_Frame n_Frame 2 T_Frame (i_var 0)) (i_callB rf_len rfl T.len b_len (ia_cons (i_ix (i_meth0 n_Frame F_Frame_block hr (i_var 0)) (i_int)) (ia_nil)))) (i_fld C_Frame n_Frame 2 T_Frame (i_var 0)) (i_un rf_neg' (i_int))) (ig_name 1 nd_Frame_place)) (is_one (is_ret (i_tup (ia_cons (i_ix (i_fld C_Frame n_Frame 0 T_Frame (i_var 0)) (i_int)) (ia_cons (i_fld C_Frame n_Frame 1 T_Frame (i_var 0)) (ia_cons (i_var 1) (ia_nil)))))))
/-! ### Runner.__init__ -/
abbrev s_Runner_init : Stmt := inClass (top 13) 0
abbrev N_Runner_init : List Str := ["self", "program", "inputs", "steps", "main", "name", "size"]
theorem sc_Runner_init : FnScope N_Runner_init ["self", "program", "inputs", "steps"] (defScope s_Runner_init) := ⟨rfl, rfl, rfl, by decide +kernel, rfl, by decide +kernel, by decide +kernel⟩
theorem nd_Runner_init : N_Runner_init.Nodup := sc_Runner_init.nd
def W_Runner_init (C_Runner : Addr) (C_Frame : Addr) (p_procedure_of : Sp3) (p_Runner_enter : Sp3) (p_Frame_init : Sp3) : WS := wSeq (wSetF C_Runner n_Runner 0 (wVar 0) (wVar 1)) (wSeq (wSetF C_Runner n_Runner 1 (wVar 0) (wVar 2)) (wSeq (wSetF C_Runner n_Runner 2 (wVar 0) (wVar 3)) (wSeq (wSetF C_Runner n_Runner 3 (wVar 0) (wC (.int 0))) (wSeq (wSetF C_Runner n_Runner 4 (wVar 0) (wL rLst (wNil))) (wSeq (wSetF C_Runner n_Runner 5 (wVar 0) (wL rLst (wNil))) (wSeq (wSetF C_Runner n_Runner 6 (wVar 0) (wDNewT)) (wSeq (wSetF C_Runner n_Runner 7 (wVar 0) (wDc (wIter (w2 rIx (wVar 1) (wC (.int 1)))) 5 6 (wYes) (wVar 5) (w2 rMul (wL rLst (wCons (wC (.int 0)) (wNil))) (wVar 6)))) (wSeq (wSetF C_Runner n_Runner 8 (wVar 0) (wC .non)) (wSeq (wSetF C_Runner n_Runner 9 (wVar 0) (wL rLst (wNil))) (wSeq (wAsg (wL p_procedure_of (wCons (wVar 1) (wCons (wC (.str "main")) (wNil)))) (gN 4)) (wDrop (wMethC C_Runner n_Runner p_Runner_enter (wVar 0) (wCons (wMake C_Frame n_Frame p_Frame_init (wCons (wVar 4) (wCons (w2 rIx (w2 rIx (w2 rIx (wVar 4) (wC (.int 2))) (wC (.int 0))) (wC (.int 0))) (wCons (wDNewK) (wCons (wC (.int 0)) (wNil)))))) (wNil))))))))))))))
theorem walk_Runner_init {C_s : Unit} {C_Runner : Addr} {C_Frame : Addr} {p_procedure_of : Sp3} {p_Runner_enter : Sp3} {p_Frame_init : Sp3} {k : Nat} (T : Mg mg) (T_Runner : Cl3 K C_Runner n_Runner) (T_Frame : Cl3 K C_Frame n_Frame) {f : Addr} (cdv : Value) (A : Around) (outer : List Env) (s : Shared) (H : Hp) (E : XK) (hr : Room (k + 1) (A.deeper (envOfC "Runner.__init__" (defScope s_Runner_init) s.heap.objs.size f cdv))) (F_procedure_of : Fd P w K mg base G "procedure_of" (k + 1) p_procedure_of) (F_Runner_enter : Md P w K mg base G C_Runner "enter" (k + 1) p_Runner_enter) (K_Frame : Kd P w K mg base G "Frame" C_Frame k p_Frame_init) :
    PSs3 (CXF P w K mg base N_Runner_init "Runner.__init__" s_Runner_init f cdv A outer s H E) G (defBody s_Runner_init) (W_Runner_init C_Runner C_Frame p_procedure_of p_Runner_enter p_Frame_init) := by
  unfold W_Runner_init
  exact is_cons (is_setF C_Runner n_Runner 0 T_Runner (i_var 0) (i_var 1)) (is_cons (is_setF C_Runner n_Runner 1 T_Runner (i_var 0) (i_var 2)) (is_cons (is_setF C_Runner n_Runner 2 T_Runner (i_var 0) (i_var 3)) (is_cons (is_setF C_Runner n_Runner 3 T_Runner (i_var 0) (i_int)) (is_cons (is_setF C_Runner n_Runner 4 T_Runner (i_var 0) (i_lst (ia_nil))) (is_cons (is_setF C_Runner n_Runner 5 T_Runner (i_var 0) (i_lst (ia_nil))) (is_cons (is_setF C_Runner n_Runner 6 T_Runner (i_var 0) (i_dnewT)) (is_cons (is_setF C_Runner n_Runner 7 T_Runner (i_var 0) (i_dc 5 6 rfl nd_Runner_init (by decide) (blkOk_by (N := N_Runner_init) (sc := defScope s_Runner_init) (by decide +kernel)) (ii_any (i_ix (i_var 1) (i_int))) (fun _ _ _ _ _ => pg_tup rfl (pgs_cons (pg_name (i := 5) nd_Runner_init rfl (Or.inl rfl)) (pgs_cons (pg_name (i := 6) nd_Runner_init rfl (Or.inl rfl)) pgs_nil))) (fun _ _ _ _ _ => its_nil) (fun _ _ _ _ _ => i_var 5) (fun _ _ _ _ _ => i_bin rf_mul (i_lst (ia_cons (i_int) (ia_nil))) (i_var 6)))) (is_cons (is_setF C_Runner n_Runner 8 T_Runner (i_var 0) (i_non)) (is_cons (is_setF C_Runner n_Runner 9 T_Runner (i_var 0) (i_lst (ia_nil))) (is_cons (is_asg (i_call F_procedure_of hr (ia_cons (i_var 1) (ia_cons (i_str) (ia_nil)))) (ig_name 4 nd_Runner_init)) (is_one (is_expr (i_meth n_Runner F_Runner_enter hr (i_var 0) (ia_cons (i_make n_Frame K_Frame hr (ia_cons (i_var 4) (ia_cons (i_ix (i_ix (i_ix (i_var 4) (i_int)) (i_int)) (i_int)) (ia_cons (i_dnewK) (ia_cons (i_int) (ia_nil)))))) (ia_nil)))))))))))))))
/-! ### Runner.enter -/
abbrev s_Runner_enter : Stmt := inClass (top 13) 1
abbrev N_Runner_enter : List Str := ["self", "frame", "place"]
theorem sc_Runner_enter : FnScope N_Runner_enter ["self", "frame"] (defScope s_Runner_enter) := ⟨rfl, rfl, rfl, by decide +kernel, rfl, by decide +kernel, by decide +kernel⟩
theorem nd_Runner_enter : N_Runner_enter.Nodup := sc_Runner_enter.nd
def W_Runner_enter (C_Runner : Addr) (C_Frame : Addr)  : WS := wSeq (wIfS (wB (w2 rGe (wL rLen (wCons (wFld C_Runner n_Runner 5 (wVar 0)) (wNil))) (wFld C_Runner n_Runner 2 (wVar 0)))) (wSeq (wSetF C_Runner n_Runner 8 (wVar 0) (wL rTup (wCons (wC (.str "none")) (wNil)))) (wRetN)) (wNext)) (wSeq (wAsg (wL rTup (wCons (w2 rIx (wFld C_Frame n_Frame 0 (wVar 1)) (wC (.int 0))) (wCons (wFld C_Frame n_Frame 1 (wVar 1)) (wNil)))) (gN 2)) (wSeq (wDrop (wAppend (wFld C_Runner n_Runner 5 (wVar 0)) (wCons (wVar 2) (wNil)))) (wSeq (wDPut (wC (.bl true)) (wFld C_Runner n_Runner 6 (wVar 0)) (w2 rAdd (wL rTup (wCons (wC (.str "block")) (wNil))) (wVar 2))) (wDrop (wAppend (wFld C_Runner n_Runner 9 (wVar 0)) (wCons (wVar 1) (wNil)))))))
theorem walk_Runner_enter {C_s : Unit} {C_Runner : Addr} {C_Frame : Addr}  {k : Nat} (T : Mg mg) (T_Runner : Cl3 K C_Runner n_Runner) (T_Frame : Cl3 K C_Frame n_Frame) {f : Addr} (cdv : Value) (A : Around) (outer : List Env) (s : Shared) (H : Hp) (E : XK) (hr : Room (k + 1) (A.deeper (envOfC "Runner.enter" (defScope s_Runner_enter) s.heap.objs.size f cdv)))  :
    PSs3 (CXF P w K mg base N_Runner_enter "Runner.enter" s_Runner_enter f cdv A outer s H E) G (defBody s_Runner_enter) (W_Runner_enter C_Runner C_Frame) := by
  unfold W_Runner_enter
  exact is_cons (is_if (it_cmp rf_ge (i_callB rf_len rfl T.len b_len (ia_cons (i_fld C_Runner n_Runner 5 T_Runner (i_var 0)) (ia_nil))) (i_fld C_Runner n_Runner 2 T_Runner (i_var 0))) (is_cons (is_setF C_Runner n_Runner 8 T_Runner (i_var 0) (i_tup (ia_cons (i_str) (ia_nil)))) (is_one (is_retN))) (is_nil)) (is_cons (is_asg (i_tup (ia_cons (i_ix (i_fld C_Frame n_Frame 0 T_Frame (i_var 1)) (i_int)) (ia_cons (i_fld C_Frame n_Frame 1 T_Frame (i_var 1)) (ia_nil)))) (ig_name 2 nd_Runner_enter)) (is_cons (is_expr (i_append (i_fld C_Runner n_Runner 5 T_Runner (i_var 0)) (ia_cons (i_var 2) (ia_nil)))) (is_cons (is_dput (hu_of hr) (i_bl) (i_fld C_Runner n_Runner 6 T_Runner (i_var 0)) (i_bin rf_add (i_tup (ia_cons (i_str) (ia_nil))) (i_var 2))) (is_one (is_expr (i_append (i_fld C_Runner n_Runner 9 T_Runner (i_var 0)) (ia_cons (i_var 1) (ia_nil))))))))
/-! ### Runner.value -/
abbrev s_Runner_value : Stmt := inClass (top 13) 2
abbrev N_Runner_value : List Str := ["self", "e", "at", "x", "y"]
theorem sc_Runner_value : FnScope N_Runner_value ["self", "e"] (defScope s_Runner_value) := ⟨rfl, rfl, rfl, by decide +kernel, rfl, by decide +kernel, by decide +kernel⟩
theorem nd_Runner_value : N_Runner_value.Nodup := sc_Runner_value.nd
def W_Runner_value (C_Frame : Addr) (C_Runner : Addr) (p_Runner_value : Sp3) (p_Runner_is_below : Sp3) (p_compute : Sp3) : WS := wSeq (wIfS (wB (w2 rEq (w2 rIx (wVar 1) (wC (.int 0))) (wC (.str "int")))) (wRet (w2 rIx (wVar 1) (wC (.int 1)))) (wNext)) (wSeq (wIfS (wB (w2 rEq (w2 rIx (wVar 1) (wC (.int 0))) (wC (.str "var")))) (wRet (wDGet2 (wFld C_Frame n_Frame 3 (w2 rIx (wFld C_Runner n_Runner 9 (wVar 0)) (w1 rNeg (wC (.int 1))))) (w2 rIx (wVar 1) (wC (.int 1))) (wC (.int 0)))) (wNext)) (wSeq (wIfS (wB (w2 rEq (w2 rIx (wVar 1) (wC (.int 0))) (wC (.str "cell")))) (wSeq (wAsg (wMethC C_Runner n_Runner p_Runner_value (wVar 0) (wCons (w2 rIx (wVar 1) (wC (.int 2))) (wNil))) (gN 2)) (wRet (wIf (wOr (wB (w1 (rIsN false) (wVar 2))) (wNot (wB (wMethC C_Runner n_Runner p_Runner_is_below (wVar 0) (wCons (w2 rIx (wVar 1) (wC (.int 1))) (wCons (wVar 2) (wNil))))))) (wC .non) (w2 rIx (w2 rDGet (wFld C_Runner n_Runner 7 (wVar 0)) (w2 rIx (wVar 1) (wC (.int 1)))) (wVar 2))))) (wNext)) (wSeq (wAsg (wMethC C_Runner n_Runner p_Runner_value (wVar 0) (wCons (w2 rIx (wVar 1) (wC (.int 1))) (wNil))) (gN 3)) (wSeq (wIfS (wB (w1 (rIsN false) (wVar 3))) (wRet (wC .non)) (wNext)) (wSeq (wAsg (wIf (wB (w1 (rInK false k_SINGLES) (w2 rIx (wVar 1) (wC (.int 0))))) (wC (.int 0)) (wMethC C_Runner n_Runner p_Runner_value (wVar 0) (wCons (w2 rIx (wVar 1) (wC (.int 2))) (wNil)))) (gN 4)) (wRet (wIf (wB (w1 (rIsN false) (wVar 4))) (wC .non) (wL p_compute (wCons (w2 rIx (wVar 1) (wC (.int 0))) (wCons (w2 rIx (wFld C_Runner n_Runner 0 (wVar 0)) (wC (.int 0))) (wCons (wVar 3) (wCons (wVar 4) (wNil)))))))))))))
theorem walk_Runner_value {C_s : Unit} {C_Frame : Addr} {C_Runner : Addr} {p_Runner_value : Sp3} {p_Runner_is_below : Sp3} {p_compute : Sp3} {k : Nat} (T : Mg mg) (T_Frame : Cl3 K C_Frame n_Frame) (T_Runner : Cl3 K C_Runner n_Runner) {f : Addr} (cdv : Value) (A : Around) (outer : List Env) (s : Shared) (H : Hp) (E : XK) (hr : Room (k + 1) (A.deeper (envOfC "Runner.value" (defScope s_Runner_value) s.heap.objs.size f cdv))) (TT : Mt K mg) (F_Runner_value : Md P w K mg base G C_Runner "value" (k + 1) p_Runner_value) (F_Runner_is_below : Md P w K mg base G C_Runner "is_below" (k + 1) p_Runner_is_below) (F_compute : Fd P w K mg base G "compute" (k + 1) p_compute) :
    PSs3 (CXF P w K mg base N_Runner_value "Runner.value" s_Runner_value f cdv A outer s H E) G (defBody s_Runner_value) (W_Runner_value C_Frame C_Runner p_Runner_value p_Runner_is_below p_compute) := by
  unfold W_Runner_value
  exact is_cons (is_if (it_cmp (rf_eq hr.units) (i_ix (i_var 1) (i_int)) (i_str)) (is_one (is_ret (i_ix (i_var 1) (i_int)))) (is_nil)) (is_cons (is_if (it_cmp (rf_eq hr.units) (i_ix (i_var 1) (i_int)) (i_str)) (is_one (is_ret (i_dget2 (hu_of hr) (i_fld C_Frame n_Frame 3 T_Frame (i_ix (i_fld C_Runner n_Runner 9 T_Runner (i_var 0)) (i_un rf_neg' (i_int)))) (i_ix (i_var 1) (i_int)) (i_int)))) (is_nil)) (is_cons (is_if (it_cmp (rf_eq hr.units) (i_ix (i_var 1) (i_int)) (i_str)) (is_cons (is_asg (i_meth n_Runner F_Runner_value hr (i_var 0) (ia_cons (i_ix (i_var 1) (i_int)) (ia_nil))) (ig_name 2 nd_Runner_value)) (is_one (is_ret (i_if (it_w (iw_or (it_isN (i_var 2)) (iw_or1 (it_not (it_val (i_meth n_Runner F_Runner_is_below hr (i_var 0) (ia_cons (i_ix (i_var 1) (i_int)) (ia_cons (i_var 2) (ia_nil))))))))) (i_non) (i_ix (i_dget (hu_of hr) (i_fld C_Runner n_Runner 7 T_Runner (i_var 0)) (i_ix (i_var 1) (i_int))) (i_var 2)))))) (is_nil)) (is_cons (is_asg (i_meth n_Runner F_Runner_value hr (i_var 0) (ia_cons (i_ix (i_var 1) (i_int)) (ia_nil))) (ig_name 3 nd_Runner_value)) (is_cons (is_if (it_isN (i_var 3)) (is_one (is_ret (i_non))) (is_nil)) (is_cons (is_asg (i_if (it_inK TT.t_SINGLES (i_ix (i_var 1) (i_int))) (i_int) (i_meth n_Runner F_Runner_value hr (i_var 0) (ia_cons (i_ix (i_var 1) (i_int)) (ia_nil)))) (ig_name 4 nd_Runner_value)) (is_one (is_ret (i_if (it_isN (i_var 4)) (i_non) (i_call F_compute hr (ia_cons (i_ix (i_var 1) (i_int)) (ia_cons (i_ix (i_fld C_Runner n_Runner 0 T_Runner (i_var 0)) (i_int)) (ia_cons (i_var 3) (ia_cons (i_var 4) (ia_nil))))))))))))))
/-! ### Runner.is_below -/
abbrev s_Runner_is_below : Stmt := inClass (top 13) 3
abbrev N_Runner_is_below : List Str := ["self", "name", "at"]
theorem sc_Runner_is_below : FnScope N_Runner_is_below ["self", "name", "at"] (defScope s_Runner_is_below) := ⟨rfl, rfl, rfl, by decide +kernel, rfl, by decide +kernel, by decide +kernel⟩
theorem nd_Runner_is_below : N_Runner_is_below.Nodup := sc_Runner_is_below.nd
def W_Runner_is_below (C_Runner : Addr) (C_Frame : Addr) (p_size_of : Sp3) (p_Runner_finish : Sp3) (p_Frame_place : Sp3) : WS := wSeq (wIfS (wB (w2 rLt (wVar 2) (wL p_size_of (wCons (wFld C_Runner n_Runner 0 (wVar 0)) (wCons (wVar 1) (wNil)))))) (wRet (wC (.bl true))) (wNext)) (wSeq (wDrop (wMethC C_Runner n_Runner p_Runner_finish (wVar 0) (wCons (w2 rAdd (wL rTup (wCons (wC (.str "index")) (wNil))) (wMethC C_Frame n_Frame p_Frame_place (w2 rIx (wFld C_Runner n_Runner 9 (wVar 0)) (w1 rNeg (wC (.int 1)))) wNil)) (wNil)))) (wRet (wC (.bl false))))
theorem walk_Runner_is_below {C_s : Unit} {C_Runner : Addr} {C_Frame : Addr} {p_size_of : Sp3} {p_Runner_finish : Sp3} {p_Frame_place : Sp3} {k : Nat} (T : Mg mg) (T_Runner : Cl3 K C_Runner n_Runner) (T_Frame : Cl3 K C_Frame n_Frame) {f : Addr} (cdv : Value) (A : Around) (outer : List Env) (s : Shared) (H : Hp) (E : XK) (hr : Room (k + 1) (A.deeper (envOfC "Runner.is_below" (defScope s_Runner_is_below) s.heap.objs.size f cdv))) (F_size_of : Fd P w K mg base G "size_of" (k + 1) p_size_of) (F_Runner_finish : Md P w K mg base G C_Runner "finish" (k + 1) p_Runner_finish) (F_Frame_place : Md P w K mg base G C_Frame "place" (k + 1) p_Frame_place) :
    PSs3 (CXF P w K mg base N_Runner_is_below "Runner.is_below" s_Runner_is_below f cdv A outer s H E) G (defBody s_Runner_is_below) (W_Runner_is_below C_Runner C_Frame p_size_of p_Runner_finish p_Frame_place) := by
  unfold W_Runner_is_below
  exact is_cons (is_if (it_cmp rf_lt (i_var 2) (i_call F_size_of hr (ia_cons (i_fld C_Runner n_Runner 0 T_Runner (i_var 0)) (ia_cons (i_var 1) (ia_nil))))) (is_one (is_ret (i_bl))) (is_nil)) (is_cons (is_expr (i_meth n_Runner F_Runner_finish hr (i_var 0) (ia_cons (i_bin rf_add (i_tup (ia_cons (i_str) (ia_nil))) (i_meth0 n_Frame F_Frame_place hr (i_ix (i_fld C_Runner n_Runner 9 T_Runner (i_var 0)) (i_un rf_neg' (i_int))))) (ia_nil)))) (is_one (is_ret (i_bl))))
/-! ### Runner.finish -/
abbrev s_Runner_finish : Stmt := inClass (top 13) 4
abbrev N_Runner_finish : List Str := ["self", "end"]
theorem sc_Runner_finish : FnScope N_Runner_finish ["self", "end"] (defScope s_Runner_finish) := ⟨rfl, rfl, rfl, by decide +kernel, rfl, by decide +kernel, by decide +kernel⟩
theorem nd_Runner_finish : N_Runner_finish.Nodup := sc_Runner_finish.nd
def W_Runner_finish (C_Runner : Addr)  : WS := wSeq (wSetF C_Runner n_Runner 8 (wVar 0) (wVar 1)) (wIfS (wB (w2 (rIn false) (w2 rIx (wVar 1) (wC (.int 0))) (wL rTup (wCons (wC (.str "broken")) (wCons (wC (.str "index")) (wCons (wC (.str "deep")) (wNil))))))) (wDPut (wC (.bl true)) (wFld C_Runner n_Runner 6 (wVar 0)) (wVar 1)) (wNext))
theorem walk_Runner_finish {C_s : Unit} {C_Runner : Addr}  {k : Nat} (T : Mg mg) (T_Runner : Cl3 K C_Runner n_Runner) {f : Addr} (cdv : Value) (A : Around) (outer : List Env) (s : Shared) (H : Hp) (E : XK) (hr : Room (k + 1) (A.deeper (envOfC "Runner.finish" (defScope s_Runner_finish) s.heap.objs.size f cdv)))  :
    PSs3 (CXF P w K mg base N_Runner_finish "Runner.finish" s_Runner_finish f cdv A outer s H E) G (defBody s_Runner_finish) (W_Runner_finish C_Runner) := by
  unfold W_Runner_finish
  exact is_cons (is_setF C_Runner n_Runner 8 T_Runner (i_var 0) (i_var 1)) (is_one (is_if (it_cmp (rf_in (room65 hr)) (i_ix (i_var 1) (i_int)) (i_tup (ia_cons (i_str) (ia_cons (i_str) (ia_cons (i_str) (ia_nil)))))) (is_one (is_dput (hu_of hr) (i_bl) (i_fld C_Runner n_Runner 6 T_Runner (i_var 0)) (i_var 1))) (is_nil)))
/-! ### Runner.run -/
abbrev s_Runner_run : Stmt := inClass (top 13) 5
abbrev N_Runner_run : List Str := ["self", "frame", "block"]
theorem sc_Runner_run : FnScope N_Runner_run ["self"] (defScope s_Runner_run) := ⟨rfl, rfl, rfl, by decide +kernel, rfl, by decide +kernel, by decide +kernel⟩
theorem nd_Runner_run : N_Runner_run.Nodup := sc_Runner_run.nd
def W_Runner_run (C_Runner : Addr) (C_Frame : Addr) (p_Frame_block : Sp3) (p_Runner_statement : Sp3) (p_Runner_leave : Sp3) : WS := wWhile (wB (w1 (rIsN false) (wFld C_Runner n_Runner 8 (wVar 0)))) (wSeq (wAsg (w2 rIx (wFld C_Runner n_Runner 9 (wVar 0)) (w1 rNeg (wC (.int 1)))) (gN 1)) (wSeq (wAsg (wMethC C_Frame n_Frame p_Frame_block (wVar 1) wNil) (gN 2)) (wIfS (wB (w2 rLt (wFld C_Frame n_Frame 2 (wVar 1)) (wL rLen (wCons (w2 rIx (wVar 2) (wC (.int 1))) (wNil))))) (wDrop (wMethC C_Runner n_Runner p_Runner_statement (wVar 0) (wCons (wVar 1) (wCons (w2 rIx (w2 rIx (wVar 2) (wC (.int 1))) (wFld C_Frame n_Frame 2 (wVar 1))) (wNil))))) (wDrop (wMethC C_Runner n_Runner p_Runner_leave (wVar 0) (wCons (wVar 1) (wCons (w2 rIx (wVar 2) (wC (.int 2))) (wNil))))))))
theorem walk_Runner_run {C_s : Unit} {C_Runner : Addr} {C_Frame : Addr} {p_Frame_block : Sp3} {p_Runner_statement : Sp3} {p_Runner_leave : Sp3} {k : Nat} (T : Mg mg) (T_Runner : Cl3 K C_Runner n_Runner) (T_Frame : Cl3 K C_Frame n_Frame) {f : Addr} (cdv : Value) (A : Around) (outer : List Env) (s : Shared) (H : Hp) (E : XK) (hr : Room (k + 1) (A.deeper (envOfC "Runner.run" (defScope s_Runner_run) s.heap.objs.size f cdv))) (F_Frame_block : Md P w K mg base G C_Frame "block" (k + 1) p_Frame_block) (F_Runner_statement : Md P w K mg base G C_Runner "statement" (k + 1) p_Runner_statement) (F_Runner_leave : Md P w K mg base G C_Runner "leave" (k + 1) p_Runner_leave) :
    PSs3 (CXF P w K mg base N_Runner_run "Runner.run" s_Runner_run f cdv A outer s H E) G (defBody s_Runner_run) (W_Runner_run C_Runner C_Frame p_Frame_block p_Runner_statement p_Runner_leave) := by
  unfold W_Runner_run
  exact is_one (is_while PassesOwn.never (it_isN (i_fld C_Runner n_Runner 8 T_Runner (i_var 0))) (is_cons (is_asg (i_ix (i_fld C_Runner n_Runner 9 T_Runner (i_var 0)) (i_un rf_neg' (i_int))) (ig_name 1 nd_Runner_run)) (is_cons (is_asg (i_meth0 n_Frame F_Frame_block hr (i_var 1)) (ig_name 2 nd_Runner_run)) (is_one (is_if (it_cmp rf_lt (i_fld C_Frame n_Frame 2 T_Frame (i_var 1)) (i_callB rf_len rfl T.len b_len (ia_cons (i_ix (i_var 2) (i_int)) (ia_nil)))) (is_one (is_expr (i_meth n_Runner F_Runner_statement hr (i_var 0) (ia_cons (i_var 1) (ia_cons (i_ix (i_ix (i_var 2) (i_int)) (i_fld C_Frame n_Frame 2 T_Frame (i_var 1))) (ia_nil)))))) (is_one (is_expr (i_meth n_Runner F_Runner_leave hr (i_var 0) (ia_cons (i_var 1) (ia_cons (i_ix (i_var 2) (i_int)) (ia_nil)))))))))))
/-! ### Runner.statement -/
abbrev s_Runner_statement : Stmt := inClass (top 13) 6
abbrev N_Runner_statement : List Str := ["self", "frame", "row", "x"]
theorem sc_Runner_statement : FnScope N_Runner_statement ["self", "frame", "row"] (defScope s_Runner_statement) := ⟨rfl, rfl, rfl, by decide +kernel, rfl, by decide +kernel, by decide +kernel⟩
theorem nd_Runner_statement : N_Runner_statement.Nodup := sc_Runner_statement.nd
def W_Runner_statement (C_Runner : Addr) (C_Frame : Addr) (p_Runner_call : Sp3) (p_Runner_store : Sp3) (p_Runner_value : Sp3) (p_Runner_finish : Sp3) : WS := wSeq (wIfS (wB (w2 rEq (w2 rIx (wVar 2) (wC (.int 0))) (wC (.str "call")))) (wSeq (wDrop (wMethC C_Runner n_Runner p_Runner_call (wVar 0) (wCons (wVar 1) (wCons (wVar 2) (wNil))))) (wRetN)) (wNext)) (wSeq (wIfS (wB (w2 rEq (w2 rIx (wVar 2) (wC (.int 0))) (wC (.str "take")))) (wSeq (wDPut (wIf (wB (w2 rLt (wFld C_Runner n_Runner 3 (wVar 0)) (wL rLen (wCons (wFld C_Runner n_Runner 1 (wVar 0)) (wNil))))) (w2 rIx (wFld C_Runner n_Runner 1 (wVar 0)) (wFld C_Runner n_Runner 3 (wVar 0))) (wC (.int 0))) (wFld C_Frame n_Frame 3 (wVar 1)) (w2 rIx (wVar 2) (wC (.int 1)))) (wAugF C_Runner n_Runner 3 rAddI (wVar 0) (wC (.int 1)))) (wIfS (wB (w2 rEq (w2 rIx (wVar 2) (wC (.int 0))) (wC (.str "store")))) (wDrop (wMethC C_Runner n_Runner p_Runner_store (wVar 0) (wCons (wVar 2) (wNil)))) (wSeq (wAsg (wMethC C_Runner n_Runner p_Runner_value (wVar 0) (wCons (w2 rIx (wVar 2) (w1 rNeg (wC (.int 1)))) (wNil))) (gN 3)) (wSeq (wIfS (wB (w1 (rIsN false) (wVar 3))) (wRetN) (wNext)) (wIfS (wB (w2 rEq (w2 rIx (wVar 2) (wC (.int 0))) (wC (.str "set")))) (wDPut (wVar 3) (wFld C_Frame n_Frame 3 (wVar 1)) (w2 rIx (wVar 2) (wC (.int 1)))) (wIfS (wB (w2 rEq (w2 rIx (wVar 2) (wC (.int 0))) (wC (.str "put")))) (wDrop (wAppend (wFld C_Runner n_Runner 4 (wVar 0)) (wCons (wVar 3) (wNil)))) (wIfS (wB (w2 rEq (wVar 3) (wC (.int 0)))) (wDrop (wMethC C_Runner n_Runner p_Runner_finish (wVar 0) (wCons (wL rTup (wCons (wC (.str "broken")) (wCons (w2 rIx (wVar 2) (wC (.int 1))) (wNil)))) (wNil)))) (wNext)))))))) (wAugF C_Frame n_Frame 2 rAddI (wVar 1) (wC (.int 1))))
theorem walk_Runner_statement {C_s : Unit} {C_Runner : Addr} {C_Frame : Addr} {p_Runner_call : Sp3} {p_Runner_store : Sp3} {p_Runner_value : Sp3} {p_Runner_finish : Sp3} {k : Nat} (T : Mg mg) (T_Runner : Cl3 K C_Runner n_Runner) (T_Frame : Cl3 K C_Frame n_Frame) {f : Addr} (cdv : Value) (A : Around) (outer : List Env) (s : Shared) (H : Hp) (E : XK) (hr : Room (k + 1) (A.deeper (envOfC "Runner.statement" (defScope s_Runner_statement) s.heap.objs.size f cdv))) (F_Runner_call : Md P w K mg base G C_Runner "call" (k + 1) p_Runner_call) (F_Runner_store : Md P w K mg base G C_Runner "store" (k + 1) p_Runner_store) (F_Runner_value : Md P w K mg base G C_Runner "value" (k + 1) p_Runner_value) (F_Runner_finish : Md P w K mg base G C_Runner "finish" (k + 1) p_Runner_finish) :
    PSs3 (CXF P w K mg base N_Runner_statement "Runner.statement" s_Runner_statement f cdv A outer s H E) G (defBody s_Runner_statement) (W_Runner_statement C_Runner C_Frame p_Runner_call p_Runner_store p_Runner_value p_Runner_finish) := by
  unfold W_Runner_statement
  exact is_cons (is_if (it_cmp (rf_eq hr.units) (i_ix (i_var 2) (i_int)) (i_str)) (is_cons (is_expr (i_meth n_Runner F_Runner_call hr (i_var 0) (ia_cons (i_var 1) (ia_cons (i_var 2) (ia_nil))))) (is_one (is_retN))) (is_nil)) (is_cons (is_if (it_cmp (rf_eq hr.units) (i_ix (i_var 2) (i_int)) (i_str)) (is_cons (is_dput (hu_of hr) (i_if (it_cmp rf_lt (i_fld C_Runner n_Runner 3 T_Runner (i_var 0)) (i_callB rf_len rfl T.len b_len (ia_cons (i_fld C_Runner n_Runner 1 T_Runner (i_var 0)) (ia_nil)))) (i_ix (i_fld C_Runner n_Runner 1 T_Runner (i_var 0)) (i_fld C_Runner n_Runner 3 T_Runner (i_var 0))) (i_int)) (i_fld C_Frame n_Frame 3 T_Frame (i_var 1)) (i_ix (i_var 2) (i_int))) (is_one (is_augF C_Runner n_Runner 3 in_add rf_inAdd T_Runner (i_var 0) (i_int)))) (is_one (is_if (it_cmp (rf_eq hr.units) (i_ix (i_var 2) (i_int)) (i_str)) (is_one (is_expr (i_meth n_Runner F_Runner_store hr (i_var 0) (ia_cons (i_var 2) (ia_nil))))) (is_cons (is_asg (i_meth n_Runner F_Runner_value hr (i_var 0) (ia_cons (i_ix (i_var 2) (i_un rf_neg' (i_int))) (ia_nil))) (ig_name 3 nd_Runner_statement)) (is_cons (is_if (it_isN (i_var 3)) (is_one (is_retN)) (is_nil)) (is_one (is_if (it_cmp (rf_eq hr.units) (i_ix (i_var 2) (i_int)) (i_str)) (is_one (is_dput (hu_of hr) (i_var 3) (i_fld C_Frame n_Frame 3 T_Frame (i_var 1)) (i_ix (i_var 2) (i_int)))) (is_one (is_if (it_cmp (rf_eq hr.units) (i_ix (i_var 2) (i_int)) (i_str)) (is_one (is_expr (i_append (i_fld C_Runner n_Runner 4 T_Runner (i_var 0)) (ia_cons (i_var 3) (ia_nil))))) (is_one (is_if (it_cmp (rf_eq hr.units) (i_var 3) (i_int)) (is_one (is_expr (i_meth n_Runner F_Runner_finish hr (i_var 0) (ia_cons (i_tup (ia_cons (i_str) (ia_cons (i_ix (i_var 2) (i_int)) (ia_nil)))) (ia_nil))))) (is_nil)))))))))))) (is_one (is_augF C_Frame n_Frame 2 in_add rf_inAdd T_Frame (i_var 1) (i_int))))
/-! ### Runner.store -/
abbrev s_Runner_store : Stmt := inClass (top 13) 7
abbrev N_Runner_store : List Str := ["self", "row", "at", "x"]
theorem sc_Runner_store : FnScope N_Runner_store ["self", "row"] (defScope s_Runner_store) := ⟨rfl, rfl, rfl, by decide +kernel, rfl, by decide +kernel, by decide +kernel⟩
theorem nd_Runner_store : N_Runner_store.Nodup := sc_Runner_store.nd
def W_Runner_store (C_Runner : Addr) (p_Runner_value : Sp3) (p_Runner_is_below : Sp3) : WS := wSeq (wAsg (wMethC C_Runner n_Runner p_Runner_value (wVar 0) (wCons (w2 rIx (wVar 1) (wC (.int 2))) (wNil))) (gN 2)) (wSeq (wAsg (wIf (wB (w1 (rIsN false) (wVar 2))) (wC .non) (wMethC C_Runner n_Runner p_Runner_value (wVar 0) (wCons (w2 rIx (wVar 1) (wC (.int 3))) (wNil)))) (gN 3)) (wIfS (wAnd (wB (w1 (rIsN true) (wVar 3))) (wB (wMethC C_Runner n_Runner p_Runner_is_below (wVar 0) (wCons (w2 rIx (wVar 1) (wC (.int 1))) (wCons (wVar 2) (wNil)))))) (wAsg (wVar 3) (gIx (w2 rDGet (wFld C_Runner n_Runner 7 (wVar 0)) (w2 rIx (wVar 1) (wC (.int 1)))) (wVar 2))) (wNext)))
theorem walk_Runner_store {C_s : Unit} {C_Runner : Addr} {p_Runner_value : Sp3} {p_Runner_is_below : Sp3} {k : Nat} (T : Mg mg) (T_Runner : Cl3 K C_Runner n_Runner) {f : Addr} (cdv : Value) (A : Around) (outer : List Env) (s : Shared) (H : Hp) (E : XK) (hr : Room (k + 1) (A.deeper (envOfC "Runner.store" (defScope s_Runner_store) s.heap.objs.size f cdv))) (F_Runner_value : Md P w K mg base G C_Runner "value" (k + 1) p_Runner_value) (F_Runner_is_below : Md P w K mg base G C_Runner "is_below" (k + 1) p_Runner_is_below) :
    PSs3 (CXF P w K mg base N_Runner_store "Runner.store" s_Runner_store f cdv A outer s H E) G (defBody s_Runner_store) (W_Runner_store C_Runner p_Runner_value p_Runner_is_below) := by
  unfold W_Runner_store
  exact is_cons (is_asg (i_meth n_Runner F_Runner_value hr (i_var 0) (ia_cons (i_ix (i_var 1) (i_int)) (ia_nil))) (ig_name 2 nd_Runner_store)) (is_cons (is_asg (i_if (it_isN (i_var 2)) (i_non) (i_meth n_Runner F_Runner_value hr (i_var 0) (ia_cons (i_ix (i_var 1) (i_int)) (ia_nil)))) (ig_name 3 nd_Runner_store)) (is_one (is_if (it_w (iw_and (it_notN (i_var 3)) (iw_and1 (it_val (i_meth n_Runner F_Runner_is_below hr (i_var 0) (ia_cons (i_ix (i_var 1) (i_int)) (ia_cons (i_var 2) (ia_nil)))))))) (is_one (is_asg (i_var 3) (ig_ix (i_dget (hu_of hr) (i_fld C_Runner n_Runner 7 T_Runner (i_var 0)) (i_ix (i_var 1) (i_int))) (i_var 2)))) (is_nil))))
/-! ### Runner.call -/
abbrev s_Runner_call : Stmt := inClass (top 13) 8
abbrev N_Runner_call : List Str := ["self", "frame", "row", "variables", "k", "x", "procedure"]
theorem sc_Runner_call : FnScope N_Runner_call ["self", "frame", "row"] (defScope s_Runner_call) := ⟨rfl, rfl, rfl, by decide +kernel, rfl, by decide +kernel, by decide +kernel⟩
theorem nd_Runner_call : N_Runner_call.Nodup := sc_Runner_call.nd
def W_Runner_call (C_Runner : Addr) (C_Frame : Addr) (p_Runner_value : Sp3) (p_Runner_finish : Sp3) (p_Frame_place : Sp3) (p_procedure_of : Sp3) (p_Runner_enter : Sp3) (p_Frame_init : Sp3) : WS := wSeq (wAsg (wDNewK) (gN 3)) (wSeq (wFor (wRg1 (wCons (wL rLen (wCons (w2 rIx (wVar 2) (wC (.int 3))) (wNil))) (wNil))) (gN 4) (wSeq (wAsg (wMethC C_Runner n_Runner p_Runner_value (wVar 0) (wCons (w2 rIx (w2 rIx (wVar 2) (wC (.int 3))) (wVar 4)) (wNil))) (gN 5)) (wSeq (wIfS (wB (w1 (rIsN false) (wVar 5))) (wRetN) (wNext)) (wDPut (wVar 5) (wVar 3) (wVar 4))))) (wSeq (wIfS (wB (w2 rGe (wL rLen (wCons (wFld C_Runner n_Runner 9 (wVar 0)) (wNil))) (wC (.int 12)))) (wSeq (wDrop (wMethC C_Runner n_Runner p_Runner_finish (wVar 0) (wCons (w2 rAdd (wL rTup (wCons (wC (.str "deep")) (wNil))) (wMethC C_Frame n_Frame p_Frame_place (wVar 1) wNil)) (wNil)))) (wRetN)) (wNext)) (wSeq (wAugF C_Frame n_Frame 2 rAddI (wVar 1) (wC (.int 1))) (wSeq (wAsg (wL p_procedure_of (wCons (wFld C_Runner n_Runner 0 (wVar 0)) (wCons (w2 rIx (wVar 2) (wC (.int 2))) (wNil)))) (gN 6)) (wDrop (wMethC C_Runner n_Runner p_Runner_enter (wVar 0) (wCons (wMake C_Frame n_Frame p_Frame_init (wCons (wVar 6) (wCons (w2 rIx (w2 rIx (w2 rIx (wVar 6) (wC (.int 2))) (wC (.int 0))) (wC (.int 0))) (wCons (wVar 3) (wCons (w2 rIx (wVar 2) (wC (.int 1))) (wNil)))))) (wNil))))))))
theorem walk_Runner_call {C_s : Unit} {C_Runner : Addr} {C_Frame : Addr} {p_Runner_value : Sp3} {p_Runner_finish : Sp3} {p_Frame_place : Sp3} {p_procedure_of : Sp3} {p_Runner_enter : Sp3} {p_Frame_init : Sp3} {k : Nat} (T : Mg mg) (T_Runner : Cl3 K C_Runner n_Runner) (T_Frame : Cl3 K C_Frame n_Frame) {f : Addr} (cdv : Value) (A : Around) (outer : List Env) (s : Shared) (H : Hp) (E : XK) (hr : Room (k + 1) (A.deeper (envOfC "Runner.call" (defScope s_Runner_call) s.heap.objs.size f cdv))) (F_Runner_value : Md P w K mg base G C_Runner "value" (k + 1) p_Runner_value) (F_Runner_finish : Md P w K mg base G C_Runner "finish" (k + 1) p_Runner_finish) (F_Frame_place : Md P w K mg base G C_Frame "place" (k + 1) p_Frame_place) (F_procedure_of : Fd P w K mg base G "procedure_of" (k + 1) p_procedure_of) (F_Runner_enter : Md P w K mg base G C_Runner "enter" (k + 1) p_Runner_enter) (K_Frame : Kd P w K mg base G "Frame" C_Frame k p_Frame_init) :
    PSs3 (CXF P w K mg base N_Runner_call "Runner.call" s_Runner_call f cdv A outer s H E) G (defBody s_Runner_call) (W_Runner_call C_Runner C_Frame p_Runner_value p_Runner_finish p_Frame_place p_procedure_of p_Runner_enter p_Frame_init) := by
  unfold W_Runner_call
  exact is_cons (is_asg (i_dnewK) (ig_name 3 nd_Runner_call)) (is_cons (is_for PassesOwn.never rfl (ii_rg1 rfl T.range (ia_cons (i_callB rf_len rfl T.len b_len (ia_cons (i_ix (i_var 2) (i_int)) (ia_nil))) (ia_nil))) (ig_name 4 nd_Runner_call) (is_cons (is_asg (i_meth n_Runner F_Runner_value hr (i_var 0) (ia_cons (i_ix (i_ix (i_var 2) (i_int)) (i_var 4)) (ia_nil))) (ig_name 5 nd_Runner_call)) (is_cons (is_if (it_isN (i_var 5)) (is_one (is_retN)) (is_nil)) (is_one (is_dput (hu_of hr) (i_var 5) (i_var 3) (i_var 4)))))) (is_cons (is_if (it_cmp rf_ge (i_callB rf_len rfl T.len b_len (ia_cons (i_fld C_Runner n_Runner 9 T_Runner (i_var 0)) (ia_nil))) (i_c (pe_glob (v := .int 12) rfl T.c_MOST_FRAMES.choose_spec ⟨_, rfl⟩) (fun _ => .int _))) (is_cons (is_expr (i_meth n_Runner F_Runner_finish hr (i_var 0) (ia_cons (i_bin rf_add (i_tup (ia_cons (i_str) (ia_nil))) (i_meth0 n_Frame F_Frame_place hr (i_var 1))) (ia_nil)))) (is_one (is_retN))) (is_nil)) (is_cons (is_augF C_Frame n_Frame 2 in_add rf_inAdd T_Frame (i_var 1) (i_int)) (is_cons (is_asg (i_call F_procedure_of hr (ia_cons (i_fld C_Runner n_Runner 0 T_Runner (i_var 0)) (ia_cons (i_ix (i_var 2) (i_int)) (ia_nil)))) (ig_name 6 nd_Runner_call)) (is_one (is_expr (i_meth n_Runner F_Runner_enter hr (i_var 0) (ia_cons (i_make n_Frame K_Frame hr (ia_cons (i_var 6) (ia_cons (i_ix (i_ix (i_ix (i_var 6) (i_int)) (i_int)) (i_int)) (ia_cons (i_var 3) (ia_cons (i_ix (i_var 2) (i_int)) (ia_nil)))))) (ia_nil)))))))))
/-! ### Runner.leave -/
abbrev s_Runner_leave : Stmt := inClass (top 13) 9
abbrev N_Runner_leave : List Str := ["self", "frame", "end", "x"]
theorem sc_Runner_leave : FnScope N_Runner_leave ["self", "frame", "end"] (defScope s_Runner_leave) := ⟨rfl, rfl, rfl, by decide +kernel, rfl, by decide +kernel, by decide +kernel⟩
theorem nd_Runner_leave : N_Runner_leave.Nodup := sc_Runner_leave.nd
def W_Runner_leave (C_Runner : Addr) (C_Frame : Addr) (p_Runner_go : Sp3) (p_Runner_value : Sp3) (p_Runner_finish : Sp3) : WS := wSeq (wIfS (wB (w2 rEq (w2 rIx (wVar 2) (wC (.int 0))) (wC (.str "go")))) (wSeq (wDrop (wMethC C_Runner n_Runner p_Runner_go (wVar 0) (wCons (wVar 1) (wCons (w2 rIx (wVar 2) (wC (.int 1))) (wNil))))) (wRetN)) (wNext)) (wSeq (wAsg (wMethC C_Runner n_Runner p_Runner_value (wVar 0) (wCons (w2 rIx (wVar 2) (wC (.int 1))) (wNil))) (gN 3)) (wSeq (wIfS (wB (w1 (rIsN false) (wVar 3))) (wRetN) (wNext)) (wSeq (wIfS (wB (w2 rEq (w2 rIx (wVar 2) (wC (.int 0))) (wC (.str "if")))) (wSeq (wDrop (wMethC C_Runner n_Runner p_Runner_go (wVar 0) (wCons (wVar 1) (wCons (wIf (wB (w2 rNe (wVar 3) (wC (.int 0)))) (w2 rIx (wVar 2) (wC (.int 2))) (w2 rIx (wVar 2) (wC (.int 3)))) (wNil))))) (wRetN)) (wNext)) (wSeq (wDrop (wPop (wFld C_Runner n_Runner 9 (wVar 0)))) (wIfS (wB (w2 rEq (wL rLen (wCons (wFld C_Runner n_Runner 9 (wVar 0)) (wNil))) (wC (.int 0)))) (wDrop (wMethC C_Runner n_Runner p_Runner_finish (wVar 0) (wCons (wL rTup (wCons (wC (.str "return")) (wCons (wVar 3) (wNil)))) (wNil)))) (wDPut (wVar 3) (wFld C_Frame n_Frame 3 (w2 rIx (wFld C_Runner n_Runner 9 (wVar 0)) (w1 rNeg (wC (.int 1))))) (wFld C_Frame n_Frame 4 (wVar 1))))))))
theorem walk_Runner_leave {C_s : Unit} {C_Runner : Addr} {C_Frame : Addr} {p_Runner_go : Sp3} {p_Runner_value : Sp3} {p_Runner_finish : Sp3} {k : Nat} (T : Mg mg) (T_Runner : Cl3 K C_Runner n_Runner) (T_Frame : Cl3 K C_Frame n_Frame) {f : Addr} (cdv : Value) (A : Around) (outer : List Env) (s : Shared) (H : Hp) (E : XK) (hr : Room (k + 1) (A.deeper (envOfC "Runner.leave" (defScope s_Runner_leave) s.heap.objs.size f cdv))) (F_Runner_go : Md P w K mg base G C_Runner "go" (k + 1) p_Runner_go) (F_Runner_value : Md P w K mg base G C_Runner "value" (k + 1) p_Runner_value) (F_Runner_finish : Md P w K mg base G C_Runner "finish" (k + 1) p_Runner_finish) :
    PSs3 (CXF P w K mg base N_Runner_leave "Runner.leave" s_Runner_leave f cdv A outer s H E) G (defBody s_Runner_leave) (W_Runner_leave C_Runner C_Frame p_Runner_go p_Runner_value p_Runner_finish) := by
  unfold W_Runner_leave
  exact is_cons (is_if (it_cmp (rf_eq hr.units) (i_ix (i_var 2) (i_int)) (i_str)) (is_cons (is_expr (i_meth n_Runner F_Runner_go hr (i_var 0) (ia_cons (i_var 1) (ia_cons (i_ix (i_var 2) (i_int)) (ia_nil))))) (is_one (is_retN))) (is_nil)) (is_cons (is_asg (i_meth n_Runner F_Runner_value hr (i_var 0) (ia_cons (i_ix (i_var 2) (i_int)) (ia_nil))) (ig_name 3 nd_Runner_leave)) (is_cons (is_if (it_isN (i_var 3)) (is_one (is_retN)) (is_nil)) (is_cons (is_if (it_cmp (rf_eq hr.units) (i_ix (i_var 2) (i_int)) (i_str)) (is_cons (is_expr (i_meth n_Runner F_Runner_go hr (i_var 0) (ia_cons (i_var 1) (ia_cons (i_if (it_cmp (rf_ne hr.units) (i_var 3) (i_int)) (i_ix (i_var 2) (i_int)) (i_ix (i_var 2) (i_int))) (ia_nil))))) (is_one (is_retN))) (is_nil)) (is_cons (is_expr (i_pop (i_fld C_Runner n_Runner 9 T_Runner (i_var 0)))) (is_one (is_if (it_cmp (rf_eq hr.units) (i_callB rf_len rfl T.len b_len (ia_cons (i_fld C_Runner n_Runner 9 T_Runner (i_var 0)) (ia_nil))) (i_int)) (is_one (is_expr (i_meth n_Runner F_Runner_finish hr (i_var 0) (ia_cons (i_tup (ia_cons (i_str) (ia_cons (i_var 3) (ia_nil)))) (ia_nil))))) (is_one (is_dput (hu_of hr) (i_var 3) (i_fld C_Frame n_Frame 3 T_Frame (i_ix (i_fld C_Runner n_Runner 9 T_Runner (i_var 0)) (i_un rf_neg' (i_int)))) (i_fld C_Frame n_Frame 4 T_Frame (i_var 1))))))))))
/-! ### Runner.go -/
abbrev s_Runner_go : Stmt := inClass (top 13) 10
abbrev N_Runner_go : List Str := ["self", "frame", "label", "old", "count"]
theorem sc_Runner_go : FnScope N_Runner_go ["self", "frame", "label"] (defScope s_Runner_go) := ⟨rfl, rfl, rfl, by decide +kernel, rfl, by decide +kernel, by decide +kernel⟩
theorem nd_Runner_go : N_Runner_go.Nodup := sc_Runner_go.nd
def W_Runner_go (C_Runner : Addr) (C_Frame : Addr) (p_Runner_enter : Sp3) (p_Frame_init : Sp3) : WS := wSeq (wDrop (wPop (wFld C_Runner n_Runner 9 (wVar 0)))) (wSeq (wAsg (wFld C_Frame n_Frame 1 (wVar 1)) (gN 3)) (wSeq (wAsg (wL rLen (wCons (wFld C_Runner n_Runner 5 (wVar 0)) (wNil))) (gN 4)) (wSeq (wDrop (wMethC C_Runner n_Runner p_Runner_enter (wVar 0) (wCons (wMake C_Frame n_Frame p_Frame_init (wCons (wFld C_Frame n_Frame 0 (wVar 1)) (wCons (wVar 2) (wCons (wFld C_Frame n_Frame 3 (wVar 1)) (wCons (wFld C_Frame n_Frame 4 (wVar 1)) (wNil)))))) (wNil)))) (wIfS (wB (w2 rGt (wL rLen (wCons (wFld C_Runner n_Runner 5 (wVar 0)) (wNil))) (wVar 4))) (wDPut (wC (.bl true)) (wFld C_Runner n_Runner 6 (wVar 0)) (wL rTup (wCons (wC (.str "edge")) (wCons (w2 rIx (wFld C_Frame n_Frame 0 (wVar 1)) (wC (.int 0))) (wCons (wVar 3) (wCons (wVar 2) (wNil))))))) (wNext)))))
theorem walk_Runner_go {C_s : Unit} {C_Runner : Addr} {C_Frame : Addr} {p_Runner_enter : Sp3} {p_Frame_init : Sp3} {k : Nat} (T : Mg mg) (T_Runner : Cl3 K C_Runner n_Runner) (T_Frame : Cl3 K C_Frame n_Frame) {f : Addr} (cdv : Value) (A : Around) (outer : List Env) (s : Shared) (H : Hp) (E : XK) (hr : Room (k + 1) (A.deeper (envOfC "Runner.go" (defScope s_Runner_go) s.heap.objs.size f cdv))) (F_Runner_enter : Md P w K mg base G C_Runner "enter" (k + 1) p_Runner_enter) (K_Frame : Kd P w K mg base G "Frame" C_Frame k p_Frame_init) :
    PSs3 (CXF P w K mg base N_Runner_go "Runner.go" s_Runner_go f cdv A outer s H E) G (defBody s_Runner_go) (W_Runner_go C_Runner C_Frame p_Runner_enter p_Frame_init) := by
  unfold W_Runner_go
  exact is_cons (is_expr (i_pop (i_fld C_Runner n_Runner 9 T_Runner (i_var 0)))) (is_cons (is_asg (i_fld C_Frame n_Frame 1 T_Frame (i_var 1)) (ig_name 3 nd_Runner_go)) (is_cons (is_asg (i_callB rf_len rfl T.len b_len (ia_cons (i_fld C_Runner n_Runner 5 T_Runner (i_var 0)) (ia_nil))) (ig_name 4 nd_Runner_go)) (is_cons (is_expr (i_meth n_Runner F_Runner_enter hr (i_var 0) (ia_cons (i_make n_Frame K_Frame hr (ia_cons (i_fld C_Frame n_Frame 0 T_Frame (i_var 1)) (ia_cons (i_var 2) (ia_cons (i_fld C_Frame n_Frame 3 T_Frame (i_var 1)) (ia_cons (i_fld C_Frame n_Frame 4 T_Frame (i_var 1)) (ia_nil)))))) (ia_nil)))) (is_one (is_if (it_cmp rf_gt (i_callB rf_len rfl T.len b_len (ia_cons (i_fld C_Runner n_Runner 5 T_Runner (i_var 0)) (ia_nil))) (i_var 4)) (is_one (is_dput (hu_of hr) (i_bl) (i_fld C_Runner n_Runner 6 T_Runner (i_var 0)) (i_tup (ia_cons (i_str) (ia_cons (i_ix (i_fld C_Frame n_Frame 0 T_Frame (i_var 1)) (i_int)) (ia_cons (i_var 3) (ia_cons (i_var 2) (ia_nil)))))))) (is_nil))))))
/-! ### done -/
abbrev s_done : Stmt := top 14
abbrev N_done : List Str := ["program", "inputs", "steps", "runner"]
theorem sc_done : FnScope N_done ["program", "inputs", "steps"] (defScope s_done) := ⟨rfl, rfl, rfl, by decide +kernel, rfl, by decide +kernel, by decide +kernel⟩
theorem nd_done : N_done.Nodup := sc_done.nd
def W_done (C_Runner : Addr) (p_Runner_init : Sp3) (p_Runner_run : Sp3) : WS := wSeq (wAsg (wMake C_Runner n_Runner p_Runner_init (wCons (wVar 0) (wCons (wVar 1) (wCons (wVar 2) (wNil))))) (gN 3)) (wSeq (wDrop (wMethC C_Runner n_Runner p_Runner_run (wVar 3) wNil)) (wRet (wVar 3)))
theorem walk_done {C_s : Unit} {C_Runner : Addr} {p_Runner_init : Sp3} {p_Runner_run : Sp3} {k : Nat} (T : Mg mg) (T_Runner : Cl3 K C_Runner n_Runner) {f : Addr} (cdv : Value) (A : Around) (outer : List Env) (s : Shared) (H : Hp) (E : XK) (hr : Room (k + 1) (A.deeper (envOfC "done" (defScope s_done) s.heap.objs.size f cdv))) (K_Runner : Kd P w K mg base G "Runner" C_Runner k p_Runner_init) (F_Runner_run : Md P w K mg base G C_Runner "run" (k + 1) p_Runner_run) :
    PSs3 (CXF P w K mg base N_done "done" s_done f cdv A outer s H E) G (defBody s_done) (W_done C_Runner p_Runner_init p_Runner_run) := by
  unfold W_done
  exact is_cons (is_asg (i_make n_Runner K_Runner hr (ia_cons (i_var 0) (ia_cons (i_var 1) (ia_cons (i_var 2) (ia_nil))))) (ig_name 3 nd_done)) (is_cons (is_expr (i_meth0 n_Runner F_Runner_run hr (i_var 3))) (is_one (is_ret (i_var 3))))
/-! ### run -/
abbrev s_run : Stmt := top 15
abbrev N_run : List Str := ["program", "inputs", "steps", "runner"]
theorem sc_run : FnScope N_run ["program", "inputs", "steps"] (defScope s_run) := ⟨rfl, rfl, rfl, by decide +kernel, rfl, by decide +kernel, by decide +kernel⟩
theorem nd_run : N_run.Nodup := sc_run.nd
def W_run (C_Runner : Addr) (p_done : Sp3) : WS := wSeq (wAsg (wL p_done (wCons (wVar 0) (wCons (wVar 1) (wCons (wVar 2) (wNil))))) (gN 3)) (wRet (wL rTup (wCons (wL rTupleOf (wCons (wFld C_Runner n_Runner 4 (wVar 3)) (wNil))) (wCons (wFld C_Runner n_Runner 8 (wVar 3)) (wCons (wL rTupleOf (wCons (wFld C_Runner n_Runner 5 (wVar 3)) (wNil))) (wNil))))))
theorem walk_run {C_s : Unit} {C_Runner : Addr} {p_done : Sp3} {k : Nat} (T : Mg mg) (T_Runner : Cl3 K C_Runner n_Runner) {f : Addr} (cdv : Value) (A : Around) (outer : List Env) (s : Shared) (H : Hp) (E : XK) (hr : Room (k + 1) (A.deeper (envOfC "run" (defScope s_run) s.heap.objs.size f cdv))) (F_done : Fd P w K mg base G "done" (k + 1) p_done) :
    PSs3 (CXF P w K mg base N_run "run" s_run f cdv A outer s H E) G (defBody s_run) (W_run C_Runner p_done) := by
  unfold W_run
  exact is_cons (is_asg (i_call F_done hr (ia_cons (i_var 0) (ia_cons (i_var 1) (ia_cons (i_var 2) (ia_nil))))) (ig_name 3 nd_run)) (is_one (is_ret (i_tup (ia_cons (i_callT rf_tupleOf rfl T.tuple b_tuple (ia_cons (i_fld C_Runner n_Runner 4 T_Runner (i_var 3)) (ia_nil))) (ia_cons (i_fld C_Runner n_Runner 8 T_Runner (i_var 3)) (ia_cons (i_callT rf_tupleOf rfl T.tuple b_tuple (ia_cons (i_fld C_Runner n_Runner 5 T_Runner (i_var 3)) (ia_nil))) (ia_nil)))))))
/-! ### met -/
abbrev s_met : Stmt := top 16
abbrev N_met : List Str := ["program", "inputs", "steps"]
theorem sc_met : FnScope N_met ["program", "inputs", "steps"] (defScope s_met) := ⟨rfl, rfl, rfl, by decide +kernel, rfl, by decide +kernel, by decide +kernel⟩
theorem nd_met : N_met.Nodup := sc_met.nd
def W_met (C_Runner : Addr) (p_done : Sp3) : WS := wRet (wL rTupleOf (wCons (wL rSorted (wCons (wL rListD (wCons (wFld C_Runner n_Runner 6 (wL p_done (wCons (wVar 0) (wCons (wVar 1) (wCons (wVar 2) (wNil)))))) (wNil))) (wNil))) (wNil)))
theorem walk_met {C_s : Unit} {C_Runner : Addr} {p_done : Sp3} {k : Nat} (T : Mg mg) (T_Runner : Cl3 K C_Runner n_Runner) {f : Addr} (cdv : Value) (A : Around) (outer : List Env) (s : Shared) (H : Hp) (E : XK) (hr : Room (k + 1) (A.deeper (envOfC "met" (defScope s_met) s.heap.objs.size f cdv))) (F_done : Fd P w K mg base G "done" (k + 1) p_done) :
    PSs3 (CXF P w K mg base N_met "met" s_met f cdv A outer s H E) G (defBody s_met) (W_met C_Runner p_done) := by
  unfold W_met
  exact is_one (is_ret (i_callT rf_tupleOf rfl T.tuple b_tuple (ia_cons (i_callB (rf_sorted (room70 hr)) rfl T.sorted b_sorted (ia_cons (i_callT (rf_listD rfl) rfl T.list b_list (ia_cons (i_fld C_Runner n_Runner 6 T_Runner (i_call F_done hr (ia_cons (i_var 0) (ia_cons (i_var 1) (ia_cons (i_var 2) (ia_nil)))))) (ia_nil))) (ia_nil))) (ia_nil))))
/-! ### statement_items -/
abbrev s_statement_items : Stmt := top 17
abbrev N_statement_items : List Str := ["name", "label", "at", "row"]
theorem sc_statement_items : FnScope N_statement_items ["name", "label", "at", "row"] (defScope s_statement_items) := ⟨rfl, rfl, rfl, by decide +kernel, rfl, by decide +kernel, by decide +kernel⟩
theorem nd_statement_items : N_statement_items.Nodup := sc_statement_items.nd
def W_statement_items   : WS := wSeq (wIfS (wB (w2 rEq (w2 rIx (wVar 3) (wC (.int 0))) (wC (.str "assert")))) (wRet (wL rLst (wCons (wL rTup (wCons (wC (.str "broken")) (wCons (w2 rIx (wVar 3) (wC (.int 1))) (wNil)))) (wNil)))) (wNext)) (wSeq (wIfS (wB (w2 rEq (w2 rIx (wVar 3) (wC (.int 0))) (wC (.str "call")))) (wRet (wL rLst (wCons (wL rTup (wCons (wC (.str "deep")) (wCons (wVar 0) (wCons (wVar 1) (wCons (wVar 2) (wNil)))))) (wNil)))) (wNext)) (wRet (wL rLst (wNil))))
theorem walk_statement_items {C_s : Unit}   {k : Nat} (T : Mg mg)  {f : Addr} (cdv : Value) (A : Around) (outer : List Env) (s : Shared) (H : Hp) (E : XK) (hr : Room (k + 1) (A.deeper (envOfC "statement_items" (defScope s_statement_items) s.heap.objs.size f cdv)))  :
    PSs3 (CXF P w K mg base N_statement_items "statement_items" s_statement_items f cdv A outer s H E) G (defBody s_statement_items) (W_statement_items ) := by
  unfold W_statement_items
  exact is_cons (is_if (it_cmp (rf_eq hr.units) (i_ix (i_var 3) (i_int)) (i_str)) (is_one (is_ret (i_lst (ia_cons (i_tup (ia_cons (i_str) (ia_cons (i_ix (i_var 3) (i_int)) (ia_nil)))) (ia_nil))))) (is_nil)) (is_cons (is_if (it_cmp (rf_eq hr.units) (i_ix (i_var 3) (i_int)) (i_str)) (is_one (is_ret (i_lst (ia_cons (i_tup (ia_cons (i_str) (ia_cons (i_var 0) (ia_cons (i_var 1) (ia_cons (i_var 2) (ia_nil)))))) (ia_nil))))) (is_nil)) (is_one (is_ret (i_lst (ia_nil)))))
/-! ### has_cell -/
abbrev s_has_cell : Stmt := top 18
abbrev N_has_cell : List Str := ["e", "part"]
theorem sc_has_cell : FnScope N_has_cell ["e"] (defScope s_has_cell) := ⟨rfl, rfl, rfl, by decide +kernel, rfl, by decide +kernel, by decide +kernel⟩
theorem nd_has_cell : N_has_cell.Nodup := sc_has_cell.nd
def W_has_cell  (p_has_cell : Sp3) : WS := wSeq (wIfS (wB (w2 (rIn false) (w2 rIx (wVar 0) (wC (.int 0))) (wL rTup (wCons (wC (.str "int")) (wCons (wC (.str "var")) (wNil)))))) (wRet (wC (.bl false))) (wNext)) (wSeq (wIfS (wB (w2 rEq (w2 rIx (wVar 0) (wC (.int 0))) (wC (.str "cell")))) (wRet (wC (.bl true))) (wNext)) (wRet (wL rAnyB (wCons (wLc (wIter (wSl (wVar 0) (oSome (wC (.int 1))) (oNone))) 1 (wYes) (wL p_has_cell (wCons (wVar 1) (wNil)))) (wNil)))))
theorem walk_has_cell {C_s : Unit}  {p_has_cell : Sp3} {k : Nat} (T : Mg mg)  {f : Addr} (cdv : Value) (A : Around) (outer : List Env) (s : Shared) (H : Hp) (E : XK) (hr : Room (k + 1) (A.deeper (envOfC "has_cell" (defScope s_has_cell) s.heap.objs.size f cdv))) (F_has_cell : Fd P w K mg base G "has_cell" (k + 1) p_has_cell) :
    PSs3 (CXF P w K mg base N_has_cell "has_cell" s_has_cell f cdv A outer s H E) G (defBody s_has_cell) (W_has_cell p_has_cell) := by
  unfold W_has_cell
  exact is_cons (is_if (it_cmp (rf_in (room65 hr)) (i_ix (i_var 0) (i_int)) (i_tup (ia_cons (i_str) (ia_cons (i_str) (ia_nil))))) (is_one (is_ret (i_bl))) (is_nil)) (is_cons (is_if (it_cmp (rf_eq hr.units) (i_ix (i_var 0) (i_int)) (i_str)) (is_one (is_ret (i_bl))) (is_nil)) (is_one (is_ret (i_callB (rf_any rfl) rfl T.any b_any (ia_cons (i_lc 1 rfl nd_has_cell (blkOk_by (N := N_has_cell) (sc := defScope s_has_cell) (by decide +kernel)) (ii_any (i_sl (i_var 0) (io_some (i_int)) (io_none))) (fun _ _ _ _ _ => pg_name (i := 1) nd_has_cell rfl (Or.inl rfl)) (fun _ _ _ _ _ => its_nil) (fun _ _ _ _ _ => i_call F_has_cell hr (ia_cons (i_var 1) (ia_nil)))) (ia_nil))))))
/-! ### looks -/
abbrev s_looks : Stmt := top 19
abbrev N_looks : List Str := ["row", "part"]
theorem sc_looks : FnScope N_looks ["row"] (defScope s_looks) := ⟨rfl, rfl, rfl, by decide +kernel, rfl, by decide +kernel, by decide +kernel⟩
theorem nd_looks : N_looks.Nodup := sc_looks.nd
def W_looks  (p_has_cell : Sp3) : WS := wSeq (wIfS (wB (w2 (rIn false) (w2 rIx (wVar 0) (wC (.int 0))) (wL rTup (wCons (wC (.str "take")) (wCons (wC (.str "go")) (wNil)))))) (wRet (wC (.bl false))) (wNext)) (wSeq (wIfS (wB (w2 rEq (w2 rIx (wVar 0) (wC (.int 0))) (wC (.str "store")))) (wRet (wC (.bl true))) (wNext)) (wSeq (wIfS (wB (w2 rEq (w2 rIx (wVar 0) (wC (.int 0))) (wC (.str "call")))) (wRet (wL rAnyB (wCons (wLc (wIter (w2 rIx (wVar 0) (wC (.int 3)))) 1 (wYes) (wL p_has_cell (wCons (wVar 1) (wNil)))) (wNil)))) (wNext)) (wSeq (wIfS (wB (w2 (rIn false) (w2 rIx (wVar 0) (wC (.int 0))) (wL rTup (wCons (wC (.str "if")) (wCons (wC (.str "return")) (wCons (wC (.str "put")) (wNil))))))) (wRet (wL p_has_cell (wCons (w2 rIx (wVar 0) (wC (.int 1))) (wNil)))) (wNext)) (wRet (wL p_has_cell (wCons (w2 rIx (wVar 0) (wC (.int 2))) (wNil)))))))
theorem walk_looks {C_s : Unit}  {p_has_cell : Sp3} {k : Nat} (T : Mg mg)  {f : Addr} (cdv : Value) (A : Around) (outer : List Env) (s : Shared) (H : Hp) (E : XK) (hr : Room (k + 1) (A.deeper (envOfC "looks" (defScope s_looks) s.heap.objs.size f cdv))) (F_has_cell : Fd P w K mg base G "has_cell" (k + 1) p_has_cell) :
    PSs3 (CXF P w K mg base N_looks "looks" s_looks f cdv A outer s H E) G (defBody s_looks) (W_looks p_has_cell) := by
  unfold W_looks
  exact is_cons (is_if (it_cmp (rf_in (room65 hr)) (i_ix (i_var 0) (i_int)) (i_tup (ia_cons (i_str) (ia_cons (i_str) (ia_nil))))) (is_one (is_ret (i_bl))) (is_nil)) (is_cons (is_if (it_cmp (rf_eq hr.units) (i_ix (i_var 0) (i_int)) (i_str)) (is_one (is_ret (i_bl))) (is_nil)) (is_cons (is_if (it_cmp (rf_eq hr.units) (i_ix (i_var 0) (i_int)) (i_str)) (is_one (is_ret (i_callB (rf_any rfl) rfl T.any b_any (ia_cons (i_lc 1 rfl nd_looks (blkOk_by (N := N_looks) (sc := defScope s_looks) (by decide +kernel)) (ii_any (i_ix (i_var 0) (i_int))) (fun _ _ _ _ _ => pg_name (i := 1) nd_looks rfl (Or.inl rfl)) (fun _ _ _ _ _ => its_nil) (fun _ _ _ _ _ => i_call F_has_cell hr (ia_cons (i_var 1) (ia_nil)))) (ia_nil))))) (is_nil)) (is_cons (is_if (it_cmp (rf_in (room65 hr)) (i_ix (i_var 0) (i_int)) (i_tup (ia_cons (i_str) (ia_cons (i_str) (ia_cons (i_str) (ia_nil)))))) (is_one (is_ret (i_call F_has_cell hr (ia_cons (i_ix (i_var 0) (i_int)) (ia_nil))))) (is_nil)) (is_one (is_ret (i_call F_has_cell hr (ia_cons (i_ix (i_var 0) (i_int)) (ia_nil))))))))
/-! ### items_of -/
abbrev s_items_of : Stmt := top 20
abbrev N_items_of : List Str := ["program", "found", "name", "params", "blocks", "label", "body", "end", "target", "at", "item"]
theorem sc_items_of : FnScope N_items_of ["program"] (defScope s_items_of) := ⟨rfl, rfl, rfl, by decide +kernel, rfl, by decide +kernel, by decide +kernel⟩
theorem nd_items_of : N_items_of.Nodup := sc_items_of.nd
def W_items_of  (p_targets : Sp3) (p_statement_items : Sp3) (p_looks : Sp3) : WS := wSeq (wAsg (wDNewT) (gN 1)) (wSeq (wFor (wIter (w2 rIx (wVar 0) (wC (.int 2)))) (gT [gN 2, gN 3, gN 4]) (wFor (wIter (wVar 4)) (gT [gN 5, gN 6, gN 7]) (wSeq (wDPut (wC (.bl true)) (wVar 1) (wL rTup (wCons (wC (.str "block")) (wCons (wVar 2) (wCons (wVar 5) (wNil)))))) (wSeq (wFor (wIter (wL p_targets (wCons (wVar 7) (wNil)))) (gN 8) (wDPut (wC (.bl true)) (wVar 1) (wL rTup (wCons (wC (.str "edge")) (wCons (wVar 2) (wCons (wVar 5) (wCons (wVar 8) (wNil)))))))) (wSeq (wFor (wRg1 (wCons (wL rLen (wCons (wVar 6) (wNil))) (wNil))) (gN 9) (wSeq (wFor (wIter (wL p_statement_items (wCons (wVar 2) (wCons (wVar 5) (wCons (wVar 9) (wCons (w2 rIx (wVar 6) (wVar 9)) (wNil))))))) (gN 10) (wDPut (wC (.bl true)) (wVar 1) (wVar 10))) (wIfS (wB (wL p_looks (wCons (w2 rIx (wVar 6) (wVar 9)) (wNil)))) (wDPut (wC (.bl true)) (wVar 1) (wL rTup (wCons (wC (.str "index")) (wCons (wVar 2) (wCons (wVar 5) (wCons (wVar 9) (wNil))))))) (wNext)))) (wIfS (wB (wL p_looks (wCons (wVar 7) (wNil)))) (wDPut (wC (.bl true)) (wVar 1) (wL rTup (wCons (wC (.str "index")) (wCons (wVar 2) (wCons (wVar 5) (wCons (w1 rNeg (wC (.int 1))) (wNil))))))) (wNext))))))) (wRet (wL rTupleOf (wCons (wL rSorted (wCons (wL rListD (wCons (wVar 1) (wNil))) (wNil))) (wNil)))))
theorem walk_items_of {C_s : Unit}  {p_targets : Sp3} {p_statement_items : Sp3} {p_looks : Sp3} {k : Nat} (T : Mg mg)  {f : Addr} (cdv : Value) (A : Around) (outer : List Env) (s : Shared) (H : Hp) (E : XK) (hr : Room (k + 1) (A.deeper (envOfC "items_of" (defScope s_items_of) s.heap.objs.size f cdv))) (F_targets : Fd P w K mg base G "targets" (k + 1) p_targets) (F_statement_items : Fd P w K mg base G "statement_items" (k + 1) p_statement_items) (F_looks : Fd P w K mg base G "looks" (k + 1) p_looks) :
    PSs3 (CXF P w K mg base N_items_of "items_of" s_items_of f cdv A outer s H E) G (defBody s_items_of) (W_items_of p_targets p_statement_items p_looks) := by
  unfold W_items_of
  exact is_cons (is_asg (i_dnewT) (ig_name 1 nd_items_of)) (is_cons (is_for PassesOwn.never rfl (ii_any (i_ix (i_var 0) (i_int))) (ig_tup rfl (igs_cons (ig_name 2 nd_items_of) (igs_cons (ig_name 3 nd_items_of) (igs_cons (ig_name 4 nd_items_of) (igs_nil))))) (is_one (is_for PassesOwn.never rfl (ii_any (i_var 4)) (ig_tup rfl (igs_cons (ig_name 5 nd_items_of) (igs_cons (ig_name 6 nd_items_of) (igs_cons (ig_name 7 nd_items_of) (igs_nil))))) (is_cons (is_dput (hu_of hr) (i_bl) (i_var 1) (i_tup (ia_cons (i_str) (ia_cons (i_var 2) (ia_cons (i_var 5) (ia_nil)))))) (is_cons (is_for PassesOwn.never rfl (ii_any (i_call F_targets hr (ia_cons (i_var 7) (ia_nil)))) (ig_name 8 nd_items_of) (is_one (is_dput (hu_of hr) (i_bl) (i_var 1) (i_tup (ia_cons (i_str) (ia_cons (i_var 2) (ia_cons (i_var 5) (ia_cons (i_var 8) (ia_nil))))))))) (is_cons (is_for PassesOwn.never rfl (ii_rg1 rfl T.range (ia_cons (i_callB rf_len rfl T.len b_len (ia_cons (i_var 6) (ia_nil))) (ia_nil))) (ig_name 9 nd_items_of) (is_cons (is_for PassesOwn.never rfl (ii_any (i_call F_statement_items hr (ia_cons (i_var 2) (ia_cons (i_var 5) (ia_cons (i_var 9) (ia_cons (i_ix (i_var 6) (i_var 9)) (ia_nil))))))) (ig_name 10 nd_items_of) (is_one (is_dput (hu_of hr) (i_bl) (i_var 1) (i_var 10)))) (is_one (is_if (it_val (i_call F_looks hr (ia_cons (i_ix (i_var 6) (i_var 9)) (ia_nil)))) (is_one (is_dput (hu_of hr) (i_bl) (i_var 1) (i_tup (ia_cons (i_str) (ia_cons (i_var 2) (ia_cons (i_var 5) (ia_cons (i_var 9) (ia_nil)))))))) (is_nil))))) (is_one (is_if (it_val (i_call F_looks hr (ia_cons (i_var 7) (ia_nil)))) (is_one (is_dput (hu_of hr) (i_bl) (i_var 1) (i_tup (ia_cons (i_str) (ia_cons (i_var 2) (ia_cons (i_var 5) (ia_cons (i_un rf_neg' (i_int)) (ia_nil)))))))) (is_nil))))))))) (is_one (is_ret (i_callT rf_tupleOf rfl T.tuple b_tuple (ia_cons (i_callB (rf_sorted (room70 hr)) rfl T.sorted b_sorted (ia_cons (i_callT (rf_listD rfl) rfl T.list b_list (ia_cons (i_var 1) (ia_nil))) (ia_nil))) (ia_nil))))))
/-! ### _law_draw -/
abbrev s_l_draw : Stmt := top 22
abbrev N_l_draw : List Str := ["script", "seed", "cell"]
theorem sc_l_draw : FnScope N_l_draw ["script"] (defScope s_l_draw) := ⟨rfl, rfl, rfl, by decide +kernel, rfl, by decide +kernel, by decide +kernel⟩
theorem nd_l_draw : N_l_draw.Nodup := sc_l_draw.nd
def W_l_draw (G : Sc)   : WS := wSeq (wAsg (wC (.int 7)) (gN 1)) (wSeq (wFor (wScript G 0) (gN 2) (wAsg (w2 rMod (wL rToInt (wCons (w2 rAdd (w2 rAdd (w2 rMul (wVar 1) (wC (.int 48271))) (w2 rMod (wL rAbs (wCons (wL rToInt (wCons (wVar 2) (wNil))) (wNil))) (wC (.int 65521)))) (wC (.int 1))) (wNil))) (wC (.int 2147483647))) (gN 1))) (wRet (wL rLst (wCons (wLc (wScript G 0) 2 (wYes) (wL rAbs (wCons (wL rToInt (wCons (wVar 2) (wNil))) (wNil)))) (wCons (w1 rNeg (wC (.int 1))) (wCons (wC (.int 0)) (wCons (wVar 1) (wNil))))))))
theorem walk_l_draw {C_s : Unit}   {k : Nat} (T : Mg mg)  {f : Addr} (cdv : Value) (A : Around) (outer : List Env) (s : Shared) (H : Hp) (E : XK) (hr : Room (k + 1) (A.deeper (envOfC "_law_draw" (defScope s_l_draw) s.heap.objs.size f cdv))) (hGK : G.K = K) :
    PSs3 (CXF P w K mg base N_l_draw "_law_draw" s_l_draw f cdv A outer s H E) G (defBody s_l_draw) (W_l_draw G) := by
  unfold W_l_draw
  exact is_cons (is_asg (i_int) (ig_name 1 nd_l_draw)) (is_cons (is_for PassesOwn.never rfl (ii_script 0 hGK) (ig_name 2 nd_l_draw) (is_one (is_asg (i_bin rf_mod (i_callT rf_int1 rfl T.int b_int (ia_cons (i_bin rf_add (i_bin rf_add (i_bin rf_mul (i_var 1) (i_int)) (i_bin rf_mod (i_callB rf_abs rfl T.abs b_abs (ia_cons (i_callT rf_int1 rfl T.int b_int (ia_cons (i_var 2) (ia_nil))) (ia_nil))) (i_int))) (i_int)) (ia_nil))) (i_int)) (ig_name 1 nd_l_draw)))) (is_one (is_ret (i_lst (ia_cons (i_lc 2 rfl nd_l_draw (blkOk_by (N := N_l_draw) (sc := defScope s_l_draw) (by decide +kernel)) (ii_script 0 hGK) (fun _ _ _ _ _ => pg_name (i := 2) nd_l_draw rfl (Or.inl rfl)) (fun _ _ _ _ _ => its_nil) (fun _ _ _ _ _ => i_callB rf_abs rfl T.abs b_abs (ia_cons (i_callT rf_int1 rfl T.int b_int (ia_cons (i_var 2) (ia_nil))) (ia_nil)))) (ia_cons (i_un rf_neg' (i_int)) (ia_cons (i_int) (ia_cons (i_var 1) (ia_nil)))))))))
/-! ### _law_take -/
abbrev s_l_take : Stmt := top 23
abbrev N_l_take : List Str := ["draw", "many", "found"]
theorem sc_l_take : FnScope N_l_take ["draw", "many"] (defScope s_l_take) := ⟨rfl, rfl, rfl, by decide +kernel, rfl, by decide +kernel, by decide +kernel⟩
theorem nd_l_take : N_l_take.Nodup := sc_l_take.nd
def W_l_take   : WS := wSeq (wIfS (wB (w2 rEq (w2 rIx (wVar 0) (wC (.int 2))) (wC (.int 0)))) (wSeq (wAsg (w2 rAdd (w2 rIx (wVar 0) (wC (.int 1))) (wC (.int 1))) (gIx (wVar 0) (wC (.int 1)))) (wSeq (wIfS (wB (w2 rLt (w2 rIx (wVar 0) (wC (.int 1))) (wL rLen (wCons (w2 rIx (wVar 0) (wC (.int 0))) (wNil))))) (wAsg (w2 rIx (w2 rIx (wVar 0) (wC (.int 0))) (w2 rIx (wVar 0) (wC (.int 1)))) (gIx (wVar 0) (wC (.int 2)))) (wNext)) (wIfS (wB (w2 rEq (w2 rIx (wVar 0) (wC (.int 2))) (wC (.int 0)))) (wSeq (wAsg (w2 rMod (wL rToInt (wCons (w2 rAdd (w2 rMul (w2 rIx (wVar 0) (wC (.int 3))) (wC (.int 48271))) (wC (.int 11))) (wNil))) (wC (.int 2147483647))) (gIx (wVar 0) (wC (.int 3)))) (wAsg (w2 rIx (wVar 0) (wC (.int 3))) (gIx (wVar 0) (wC (.int 2))))) (wNext)))) (wNext)) (wSeq (wAsg (w2 rMod (wL rToInt (wCons (w2 rIx (wVar 0) (wC (.int 2))) (wNil))) (wVar 1)) (gN 2)) (wSeq (wAsg (w2 rDiv (w2 rIx (wVar 0) (wC (.int 2))) (wVar 1)) (gIx (wVar 0) (wC (.int 2)))) (wRet (wVar 2))))
theorem walk_l_take {C_s : Unit}   {k : Nat} (T : Mg mg)  {f : Addr} (cdv : Value) (A : Around) (outer : List Env) (s : Shared) (H : Hp) (E : XK) (hr : Room (k + 1) (A.deeper (envOfC "_law_take" (defScope s_l_take) s.heap.objs.size f cdv)))  :
    PSs3 (CXF P w K mg base N_l_take "_law_take" s_l_take f cdv A outer s H E) G (defBody s_l_take) (W_l_take ) := by
  unfold W_l_take
  exact is_cons (is_if (it_cmp (rf_eq hr.units) (i_ix (i_var 0) (i_int)) (i_int)) (is_cons (is_asg (i_bin rf_add (i_ix (i_var 0) (i_int)) (i_int)) (ig_ix (i_var 0) (i_int))) (is_cons (is_if (it_cmp rf_lt (i_ix (i_var 0) (i_int)) (i_callB rf_len rfl T.len b_len (ia_cons (i_ix (i_var 0) (i_int)) (ia_nil)))) (is_one (is_asg (i_ix (i_ix (i_var 0) (i_int)) (i_ix (i_var 0) (i_int))) (ig_ix (i_var 0) (i_int)))) (is_nil)) (is_one (is_if (it_cmp (rf_eq hr.units) (i_ix (i_var 0) (i_int)) (i_int)) (is_cons (is_asg (i_bin rf_mod (i_callT rf_int1 rfl T.int b_int (ia_cons (i_bin rf_add (i_bin rf_mul (i_ix (i_var 0) (i_int)) (i_int)) (i_int)) (ia_nil))) (i_int)) (ig_ix (i_var 0) (i_int))) (is_one (is_asg (i_ix (i_var 0) (i_int)) (ig_ix (i_var 0) (i_int))))) (is_nil))))) (is_nil)) (is_cons (is_asg (i_bin rf_mod (i_callT rf_int1 rfl T.int b_int (ia_cons (i_ix (i_var 0) (i_int)) (ia_nil))) (i_var 1)) (ig_name 2 nd_l_take)) (is_cons (is_asg (i_bin rf_div (i_ix (i_var 0) (i_int)) (i_var 1)) (ig_ix (i_var 0) (i_int))) (is_one (is_ret (i_var 2)))))
/-! ### _law_top -/
abbrev s_l_top : Stmt := top 24
abbrev N_l_top : List Str := ["w"]
theorem sc_l_top : FnScope N_l_top ["w"] (defScope s_l_top) := ⟨rfl, rfl, rfl, by decide +kernel, rfl, by decide +kernel, by decide +kernel⟩
theorem nd_l_top : N_l_top.Nodup := sc_l_top.nd
def W_l_top   : WS := wRet (w2 rSub (w2 rShl (wC (.int 1)) (wVar 0)) (wC (.int 1)))
theorem walk_l_top {C_s : Unit}   {k : Nat} (T : Mg mg)  {f : Addr} (cdv : Value) (A : Around) (outer : List Env) (s : Shared) (H : Hp) (E : XK) (hr : Room (k + 1) (A.deeper (envOfC "_law_top" (defScope s_l_top) s.heap.objs.size f cdv)))  :
    PSs3 (CXF P w K mg base N_l_top "_law_top" s_l_top f cdv A outer s H E) G (defBody s_l_top) (W_l_top ) := by
  unfold W_l_top
  exact is_one (is_ret (i_bin rf_sub (i_bin rf_shl (i_int) (i_var 0)) (i_int)))
/-! ### _law_compute -/
abbrev s_l_compute : Stmt := top 25
abbrev N_l_compute : List Str := ["op", "w", "x", "y"]
theorem sc_l_compute : FnScope N_l_compute ["op", "w", "x", "y"] (defScope s_l_compute) := ⟨rfl, rfl, rfl, by decide +kernel, rfl, by decide +kernel, by decide +kernel⟩
theorem nd_l_compute : N_l_compute.Nodup := sc_l_compute.nd
def W_l_compute  (p_l_top : Sp3) : WS := wSeq (wIfS (wB (w2 rEq (wVar 0) (wC (.str "add")))) (wRet (w2 rAndI (w2 rAdd (wVar 2) (wVar 3)) (wL p_l_top (wCons (wVar 1) (wNil))))) (wNext)) (wSeq (wIfS (wB (w2 rEq (wVar 0) (wC (.str "sub")))) (wRet (w2 rAndI (w2 rSub (wVar 2) (wVar 3)) (wL p_l_top (wCons (wVar 1) (wNil))))) (wNext)) (wSeq (wIfS (wB (w2 rEq (wVar 0) (wC (.str "mul")))) (wRet (w2 rAndI (w2 rMul (wVar 2) (wVar 3)) (wL p_l_top (wCons (wVar 1) (wNil))))) (wNext)) (wSeq (wIfS (wB (w2 rEq (wVar 0) (wC (.str "and")))) (wRet (w2 rAndI (wVar 2) (wVar 3))) (wNext)) (wSeq (wIfS (wB (w2 rEq (wVar 0) (wC (.str "or")))) (wRet (w2 rOrI (wVar 2) (wVar 3))) (wNext)) (wSeq (wIfS (wB (w2 rEq (wVar 0) (wC (.str "xor")))) (wRet (w2 rXorI (wVar 2) (wVar 3))) (wNext)) (wSeq (wIfS (wB (w2 rEq (wVar 0) (wC (.str "shl")))) (wRet (wIf (wB (w2 rLt (wVar 3) (wVar 1))) (w2 rAndI (w2 rShl (wVar 2) (wL rMin2 (wCons (wVar 3) (wCons (wC (.int 20)) (wNil))))) (wL p_l_top (wCons (wVar 1) (wNil)))) (wC (.int 0)))) (wNext)) (wSeq (wIfS (wB (w2 rEq (wVar 0) (wC (.str "shr")))) (wRet (wIf (wB (w2 rLt (wVar 3) (wVar 1))) (w2 rShr (wVar 2) (wVar 3)) (wC (.int 0)))) (wNext)) (wSeq (wIfS (wB (w2 rEq (wVar 0) (wC (.str "less")))) (wRet (wL rToInt (wCons (w2 rLt (wVar 2) (wVar 3)) (wNil)))) (wNext)) (wSeq (wIfS (wB (w2 rEq (wVar 0) (wC (.str "equal")))) (wRet (wL rToInt (wCons (w2 rEq (wVar 2) (wVar 3)) (wNil)))) (wNext)) (wSeq (wIfS (wB (w2 rEq (wVar 0) (wC (.str "not")))) (wRet (w2 rSub (wL p_l_top (wCons (wVar 1) (wNil))) (wVar 2))) (wNext)) (wRet (w2 rAndI (w2 rSub (wC (.int 0)) (wVar 2)) (wL p_l_top (wCons (wVar 1) (wNil)))))))))))))))
theorem walk_l_compute {C_s : Unit}  {p_l_top : Sp3} {k : Nat} (T : Mg mg)  {f : Addr} (cdv : Value) (A : Around) (outer : List Env) (s : Shared) (H : Hp) (E : XK) (hr : Room (k + 1) (A.deeper (envOfC "_law_compute" (defScope s_l_compute) s.heap.objs.size f cdv))) (F_l_top : Fd P w K mg base G "_law_top" (k + 1) p_l_top) :
    PSs3 (CXF P w K mg base N_l_compute "_law_compute" s_l_compute f cdv A outer s H E) G (defBody s_l_compute) (W_l_compute p_l_top) := by
  unfold W_l_compute
  exact is_cons (is_if (it_cmp (rf_eq hr.units) (i_var 0) (i_str)) (is_one (is_ret (i_bin rf_and (i_bin rf_add (i_var 2) (i_var 3)) (i_call F_l_top hr (ia_cons (i_var 1) (ia_nil)))))) (is_nil)) (is_cons (is_if (it_cmp (rf_eq hr.units) (i_var 0) (i_str)) (is_one (is_ret (i_bin rf_and (i_bin rf_sub (i_var 2) (i_var 3)) (i_call F_l_top hr (ia_cons (i_var 1) (ia_nil)))))) (is_nil)) (is_cons (is_if (it_cmp (rf_eq hr.units) (i_var 0) (i_str)) (is_one (is_ret (i_bin rf_and (i_bin rf_mul (i_var 2) (i_var 3)) (i_call F_l_top hr (ia_cons (i_var 1) (ia_nil)))))) (is_nil)) (is_cons (is_if (it_cmp (rf_eq hr.units) (i_var 0) (i_str)) (is_one (is_ret (i_bin rf_and (i_var 2) (i_var 3)))) (is_nil)) (is_cons (is_if (it_cmp (rf_eq hr.units) (i_var 0) (i_str)) (is_one (is_ret (i_bin rf_or (i_var 2) (i_var 3)))) (is_nil)) (is_cons (is_if (it_cmp (rf_eq hr.units) (i_var 0) (i_str)) (is_one (is_ret (i_bin rf_xor (i_var 2) (i_var 3)))) (is_nil)) (is_cons (is_if (it_cmp (rf_eq hr.units) (i_var 0) (i_str)) (is_one (is_ret (i_if (it_cmp rf_lt (i_var 3) (i_var 1)) (i_bin rf_and (i_bin rf_shl (i_var 2) (i_callB (rf_min2 rfl) rfl T.min b_min (ia_cons (i_var 3) (ia_cons (i_int) (ia_nil))))) (i_call F_l_top hr (ia_cons (i_var 1) (ia_nil)))) (i_int)))) (is_nil)) (is_cons (is_if (it_cmp (rf_eq hr.units) (i_var 0) (i_str)) (is_one (is_ret (i_if (it_cmp rf_lt (i_var 3) (i_var 1)) (i_bin rf_shr (i_var 2) (i_var 3)) (i_int)))) (is_nil)) (is_cons (is_if (it_cmp (rf_eq hr.units) (i_var 0) (i_str)) (is_one (is_ret (i_callT rf_int1 rfl T.int b_int (ia_cons (i_cmp rf_lt (i_var 2) (i_var 3)) (ia_nil))))) (is_nil)) (is_cons (is_if (it_cmp (rf_eq hr.units) (i_var 0) (i_str)) (is_one (is_ret (i_callT rf_int1 rfl T.int b_int (ia_cons (i_cmp (rf_eq hr.units) (i_var 2) (i_var 3)) (ia_nil))))) (is_nil)) (is_cons (is_if (it_cmp (rf_eq hr.units) (i_var 0) (i_str)) (is_one (is_ret (i_bin rf_sub (i_call F_l_top hr (ia_cons (i_var 1) (ia_nil))) (i_var 2)))) (is_nil)) (is_one (is_ret (i_bin rf_and (i_bin rf_sub (i_int) (i_var 2)) (i_call F_l_top hr (ia_cons (i_var 1) (ia_nil))))))))))))))))
/-! ### _law_word -/
abbrev s_l_word : Stmt := top 26
abbrev N_l_word : List Str := ["draw", "w"]
theorem sc_l_word : FnScope N_l_word ["draw", "w"] (defScope s_l_word) := ⟨rfl, rfl, rfl, by decide +kernel, rfl, by decide +kernel, by decide +kernel⟩
theorem nd_l_word : N_l_word.Nodup := sc_l_word.nd
def W_l_word  (p_l_take : Sp3) (p_l_top : Sp3) : WS := wRet (w2 rAndI (w2 rIx (wL rLst (wCons (wC (.int 0)) (wCons (wC (.int 1)) (wCons (wC (.int 2)) (wCons (wL p_l_top (wCons (wVar 1) (wNil))) (wCons (wL p_l_take (wCons (wVar 0) (wCons (w2 rShl (wC (.int 1)) (wVar 1)) (wNil)))) (wNil))))))) (wL p_l_take (wCons (wVar 0) (wCons (wC (.int 5)) (wNil))))) (wL p_l_top (wCons (wVar 1) (wNil))))
theorem walk_l_word {C_s : Unit}  {p_l_take : Sp3} {p_l_top : Sp3} {k : Nat} (T : Mg mg)  {f : Addr} (cdv : Value) (A : Around) (outer : List Env) (s : Shared) (H : Hp) (E : XK) (hr : Room (k + 1) (A.deeper (envOfC "_law_word" (defScope s_l_word) s.heap.objs.size f cdv))) (F_l_take : Fd P w K mg base G "_law_take" (k + 1) p_l_take) (F_l_top : Fd P w K mg base G "_law_top" (k + 1) p_l_top) :
    PSs3 (CXF P w K mg base N_l_word "_law_word" s_l_word f cdv A outer s H E) G (defBody s_l_word) (W_l_word p_l_take p_l_top) := by
  unfold W_l_word
  exact is_one (is_ret (i_bin rf_and (i_ix (i_lst (ia_cons (i_int) (ia_cons (i_int) (ia_cons (i_int) (ia_cons (i_call F_l_top hr (ia_cons (i_var 1) (ia_nil))) (ia_cons (i_call F_l_take hr (ia_cons (i_var 0) (ia_cons (i_bin rf_shl (i_int) (i_var 1)) (ia_nil)))) (ia_nil))))))) (i_call F_l_take hr (ia_cons (i_var 0) (ia_cons (i_int) (ia_nil))))) (i_call F_l_top hr (ia_cons (i_var 1) (ia_nil)))))
/-! ### _law_ops -/
abbrev s_l_ops : Stmt := top 27
abbrev N_l_ops : List Str := []
theorem sc_l_ops : FnScope N_l_ops [] (defScope s_l_ops) := ⟨rfl, rfl, rfl, by decide +kernel, rfl, by decide +kernel, by decide +kernel⟩
theorem nd_l_ops : N_l_ops.Nodup := sc_l_ops.nd
def W_l_ops   : WS := wRet (wL rLst (wCons (wC (.str "add")) (wCons (wC (.str "sub")) (wCons (wC (.str "mul")) (wCons (wC (.str "and")) (wCons (wC (.str "or")) (wCons (wC (.str "xor")) (wCons (wC (.str "shl")) (wCons (wC (.str "shr")) (wCons (wC (.str "less")) (wCons (wC (.str "equal")) (wNil))))))))))))
theorem walk_l_ops {C_s : Unit}   {k : Nat} (T : Mg mg)  {f : Addr} (cdv : Value) (A : Around) (outer : List Env) (s : Shared) (H : Hp) (E : XK) (hr : Room (k + 1) (A.deeper (envOfC "_law_ops" (defScope s_l_ops) s.heap.objs.size f cdv)))  :
    PSs3 (CXF P w K mg base N_l_ops "_law_ops" s_l_ops f cdv A outer s H E) G (defBody s_l_ops) (W_l_ops ) := by
  unfold W_l_ops
  exact is_one (is_ret (i_lst (ia_cons (i_str) (ia_cons (i_str) (ia_cons (i_str) (ia_cons (i_str) (ia_cons (i_str) (ia_cons (i_str) (ia_cons (i_str) (ia_cons (i_str) (ia_cons (i_str) (ia_cons (i_str) (ia_nil)))))))))))))
/-! ### _law_variable -/
abbrev s_l_variable : Stmt := top 28
abbrev N_l_variable : List Str := ["draw"]
theorem sc_l_variable : FnScope N_l_variable ["draw"] (defScope s_l_variable) := ⟨rfl, rfl, rfl, by decide +kernel, rfl, by decide +kernel, by decide +kernel⟩
theorem nd_l_variable : N_l_variable.Nodup := sc_l_variable.nd
def W_l_variable  (p_l_take : Sp3) : WS := wRet (w2 rIx (wL rLst (wCons (wC (.int 0)) (wCons (wC (.int 1)) (wCons (wC (.int 2)) (wCons (wC (.int 3)) (wCons (wC (.int 0)) (wCons (wC (.int 1)) (wCons (wC (.int 2)) (wCons (wC (.int 39)) (wNil)))))))))) (wL p_l_take (wCons (wVar 0) (wCons (wC (.int 8)) (wNil)))))
theorem walk_l_variable {C_s : Unit}  {p_l_take : Sp3} {k : Nat} (T : Mg mg)  {f : Addr} (cdv : Value) (A : Around) (outer : List Env) (s : Shared) (H : Hp) (E : XK) (hr : Room (k + 1) (A.deeper (envOfC "_law_variable" (defScope s_l_variable) s.heap.objs.size f cdv))) (F_l_take : Fd P w K mg base G "_law_take" (k + 1) p_l_take) :
    PSs3 (CXF P w K mg base N_l_variable "_law_variable" s_l_variable f cdv A outer s H E) G (defBody s_l_variable) (W_l_variable p_l_take) := by
  unfold W_l_variable
  exact is_one (is_ret (i_ix (i_lst (ia_cons (i_int) (ia_cons (i_int) (ia_cons (i_int) (ia_cons (i_int) (ia_cons (i_int) (ia_cons (i_int) (ia_cons (i_int) (ia_cons (i_int) (ia_nil)))))))))) (i_call F_l_take hr (ia_cons (i_var 0) (ia_cons (i_int) (ia_nil))))))
/-! ### _law_expression -/
abbrev s_l_expression : Stmt := top 29
abbrev N_l_expression : List Str := ["p", "depth", "draw", "k", "name", "size"]
theorem sc_l_expression : FnScope N_l_expression ["p", "depth"] (defScope s_l_expression) := ⟨rfl, rfl, rfl, by decide +kernel, rfl, by decide +kernel, by decide +kernel⟩
theorem nd_l_expression : N_l_expression.Nodup := sc_l_expression.nd
def W_l_expression  (p_l_take : Sp3) (p_l_word : Sp3) (p_l_variable : Sp3) (p_l_index : Sp3) (p_l_expression : Sp3) (p_l_ops : Sp3) : WS := wSeq (wAsg (w2 rDGet (wVar 0) (wC (.str "draw"))) (gN 2)) (wSeq (wAsg (wL p_l_take (wCons (wVar 2) (wCons (wC (.int 9)) (wNil)))) (gN 3)) (wSeq (wIfS (wOr (wB (w2 rLt (wVar 3) (wC (.int 2)))) (wAnd (wB (w2 rLt (wVar 1) (wC (.int 1)))) (wB (w2 rGt (wVar 3) (wC (.int 5)))))) (wRet (wL rTup (wCons (wC (.str "int")) (wCons (wL p_l_word (wCons (wVar 2) (wCons (w2 rDGet (wVar 0) (wC (.str "width"))) (wNil)))) (wNil))))) (wNext)) (wSeq (wIfS (wOr (wB (w2 rLt (wVar 3) (wC (.int 4)))) (wB (w2 rLt (wVar 1) (wC (.int 1))))) (wRet (wL rTup (wCons (wC (.str "var")) (wCons (wL p_l_variable (wCons (wVar 2) (wNil))) (wNil))))) (wNext)) (wSeq (wIfS (wAnd (wB (w2 rEq (wVar 3) (wC (.int 4)))) (wB (w2 rNe (w2 rDGet (wVar 0) (wC (.str "arrays"))) (wL rTup (wNil))))) (wSeq (wAsg (w2 rIx (w2 rDGet (wVar 0) (wC (.str "arrays"))) (wL p_l_take (wCons (wVar 2) (wCons (wL rLen (wCons (w2 rDGet (wVar 0) (wC (.str "arrays"))) (wNil))) (wNil))))) (gT [gN 4, gN 5])) (wRet (wL rTup (wCons (wC (.str "cell")) (wCons (wVar 4) (wCons (wL p_l_index (wCons (wVar 0) (wCons (wVar 5) (wCons (w2 rSub (wVar 1) (wC (.int 1))) (wNil))))) (wNil))))))) (wNext)) (wSeq (wIfS (wB (w2 rEq (wVar 3) (wC (.int 5)))) (wRet (wL rTup (wCons (w2 rIx (wL rLst (wCons (wC (.str "not")) (wCons (wC (.str "neg")) (wNil)))) (wL p_l_take (wCons (wVar 2) (wCons (wC (.int 2)) (wNil))))) (wCons (wL p_l_expression (wCons (wVar 0) (wCons (w2 rSub (wVar 1) (wC (.int 1))) (wNil)))) (wNil))))) (wNext)) (wRet (wL rTup (wCons (w2 rIx (wL p_l_ops wNil) (wL p_l_take (wCons (wVar 2) (wCons (wC (.int 10)) (wNil))))) (wCons (wL p_l_expression (wCons (wVar 0) (wCons (w2 rSub (wVar 1) (wC (.int 1))) (wNil)))) (wCons (wL p_l_expression (wCons (wVar 0) (wCons (w2 rSub (wVar 1) (wC (.int 1))) (wNil)))) (wNil)))))))))))
theorem walk_l_expression {C_s : Unit}  {p_l_take : Sp3} {p_l_word : Sp3} {p_l_variable : Sp3} {p_l_index : Sp3} {p_l_expression : Sp3} {p_l_ops : Sp3} {k : Nat} (T : Mg mg)  {f : Addr} (cdv : Value) (A : Around) (outer : List Env) (s : Shared) (H : Hp) (E : XK) (hr : Room (k + 1) (A.deeper (envOfC "_law_expression" (defScope s_l_expression) s.heap.objs.size f cdv))) (F_l_take : Fd P w K mg base G "_law_take" (k + 1) p_l_take) (F_l_word : Fd P w K mg base G "_law_word" (k + 1) p_l_word) (F_l_variable : Fd P w K mg base G "_law_variable" (k + 1) p_l_variable) (F_l_index : Fd P w K mg base G "_law_index" (k + 1) p_l_index) (F_l_expression : Fd P w K mg base G "_law_expression" (k + 1) p_l_expression) (F_l_ops : Fd P w K mg base G "_law_ops" (k + 1) p_l_ops) :
    PSs3 (CXF P w K mg base N_l_expression "_law_expression" s_l_expression f cdv A outer s H E) G (defBody s_l_expression) (W_l_expression p_l_take p_l_word p_l_variable p_l_index p_l_expression p_l_ops) := by
  unfold W_l_expression
  exact is_cons (is_asg (i_dget (hu_of hr) (i_var 0) (i_str)) (ig_name 2 nd_l_expression)) (is_cons (is_asg (i_call F_l_take hr (ia_cons (i_var 2) (ia_cons (i_int) (ia_nil)))) (ig_name 3 nd_l_expression)) (is_cons (is_if (it_w (iw_or (it_cmp rf_lt (i_var 3) (i_int)) (iw_or1 (it_w (iw_and (it_cmp rf_lt (i_var 1) (i_int)) (iw_and1 (it_cmp rf_gt (i_var 3) (i_int)))))))) (is_one (is_ret (i_tup (ia_cons (i_str) (ia_cons (i_call F_l_word hr (ia_cons (i_var 2) (ia_cons (i_dget (hu_of hr) (i_var 0) (i_str)) (ia_nil)))) (ia_nil)))))) (is_nil)) (is_cons (is_if (it_w (iw_or (it_cmp rf_lt (i_var 3) (i_int)) (iw_or1 (it_cmp rf_lt (i_var 1) (i_int))))) (is_one (is_ret (i_tup (ia_cons (i_str) (ia_cons (i_call F_l_variable hr (ia_cons (i_var 2) (ia_nil))) (ia_nil)))))) (is_nil)) (is_cons (is_if (it_w (iw_and (it_cmp (rf_eq hr.units) (i_var 3) (i_int)) (iw_and1 (it_cmp (rf_ne hr.units) (i_dget (hu_of hr) (i_var 0) (i_str)) (i_tup (ia_nil)))))) (is_cons (is_asg (i_ix (i_dget (hu_of hr) (i_var 0) (i_str)) (i_call F_l_take hr (ia_cons (i_var 2) (ia_cons (i_callB rf_len rfl T.len b_len (ia_cons (i_dget (hu_of hr) (i_var 0) (i_str)) (ia_nil))) (ia_nil))))) (ig_tup rfl (igs_cons (ig_name 4 nd_l_expression) (igs_cons (ig_name 5 nd_l_expression) (igs_nil))))) (is_one (is_ret (i_tup (ia_cons (i_str) (ia_cons (i_var 4) (ia_cons (i_call F_l_index hr (ia_cons (i_var 0) (ia_cons (i_var 5) (ia_cons (i_bin rf_sub (i_var 1) (i_int)) (ia_nil))))) (ia_nil)))))))) (is_nil)) (is_cons (is_if (it_cmp (rf_eq hr.units) (i_var 3) (i_int)) (is_one (is_ret (i_tup (ia_cons (i_ix (i_lst (ia_cons (i_str) (ia_cons (i_str) (ia_nil)))) (i_call F_l_take hr (ia_cons (i_var 2) (ia_cons (i_int) (ia_nil))))) (ia_cons (i_call F_l_expression hr (ia_cons (i_var 0) (ia_cons (i_bin rf_sub (i_var 1) (i_int)) (ia_nil)))) (ia_nil)))))) (is_nil)) (is_one (is_ret (i_tup (ia_cons (i_ix (i_call0 F_l_ops hr) (i_call F_l_take hr (ia_cons (i_var 2) (ia_cons (i_int) (ia_nil))))) (ia_cons (i_call F_l_expression hr (ia_cons (i_var 0) (ia_cons (i_bin rf_sub (i_var 1) (i_int)) (ia_nil)))) (ia_cons (i_call F_l_expression hr (ia_cons (i_var 0) (ia_cons (i_bin rf_sub (i_var 1) (i_int)) (ia_nil)))) (ia_nil))))))))))))
/-! ### _law_index -/
abbrev s_l_index : Stmt := top 30
abbrev N_l_index : List Str := ["p", "size", "depth", "most"]
theorem sc_l_index : FnScope N_l_index ["p", "size", "depth"] (defScope s_l_index) := ⟨rfl, rfl, rfl, by decide +kernel, rfl, by decide +kernel, by decide +kernel⟩
theorem nd_l_index : N_l_index.Nodup := sc_l_index.nd
def W_l_index  (p_l_take : Sp3) (p_l_expression : Sp3) (p_l_top : Sp3) (p_l_variable : Sp3) : WS := wSeq (wIfS (wB (w2 rEq (wL p_l_take (wCons (w2 rDGet (wVar 0) (wC (.str "draw"))) (wCons (wC (.int 3)) (wNil)))) (wC (.int 0)))) (wRet (wL p_l_expression (wCons (wVar 0) (wCons (wVar 2) (wNil))))) (wNext)) (wSeq (wAsg (wL rMin2 (wCons (w2 rSub (wVar 1) (wC (.int 1))) (wCons (wL p_l_top (wCons (w2 rDGet (wVar 0) (wC (.str "width"))) (wNil))) (wNil)))) (gN 3)) (wSeq (wIfS (wB (w2 rEq (wL p_l_take (wCons (w2 rDGet (wVar 0) (wC (.str "draw"))) (wCons (wC (.int 2)) (wNil)))) (wC (.int 0)))) (wRet (wL rTup (wCons (wC (.str "int")) (wCons (wL p_l_take (wCons (w2 rDGet (wVar 0) (wC (.str "draw"))) (wCons (w2 rAdd (wVar 3) (wC (.int 1))) (wNil)))) (wNil))))) (wNext)) (wRet (wL rTup (wCons (wC (.str "and")) (wCons (wL rTup (wCons (wC (.str "var")) (wCons (wL p_l_variable (wCons (w2 rDGet (wVar 0) (wC (.str "draw"))) (wNil))) (wNil)))) (wCons (wL rTup (wCons (wC (.str "int")) (wCons (w2 rIx (wL rLst (wCons (wC (.int 0)) (wCons (wC (.int 1)) (wCons (wC (.int 1)) (wCons (wC (.int 3)) (wCons (wC (.int 3)) (wCons (wC (.int 3)) (wCons (wC (.int 3)) (wCons (wC (.int 7)) (wNil)))))))))) (wL rMin2 (wCons (wVar 3) (wCons (wC (.int 7)) (wNil))))) (wNil)))) (wNil))))))))
theorem walk_l_index {C_s : Unit}  {p_l_take : Sp3} {p_l_expression : Sp3} {p_l_top : Sp3} {p_l_variable : Sp3} {k : Nat} (T : Mg mg)  {f : Addr} (cdv : Value) (A : Around) (outer : List Env) (s : Shared) (H : Hp) (E : XK) (hr : Room (k + 1) (A.deeper (envOfC "_law_index" (defScope s_l_index) s.heap.objs.size f cdv))) (F_l_take : Fd P w K mg base G "_law_take" (k + 1) p_l_take) (F_l_expression : Fd P w K mg base G "_law_expression" (k + 1) p_l_expression) (F_l_top : Fd P w K mg base G "_law_top" (k + 1) p_l_top) (F_l_variable : Fd P w K mg base G "_law_variable" (k + 1) p_l_variable) :
    PSs3 (CXF P w K mg base N_l_index "_law_index" s_l_index f cdv A outer s H E) G (defBody s_l_index) (W_l_index p_l_take p_l_expression p_l_top p_l_variable) := by
  unfold W_l_index
  exact is_cons (is_if (it_cmp (rf_eq hr.units) (i_call F_l_take hr (ia_cons (i_dget (hu_of hr) (i_var 0) (i_str)) (ia_cons (i_int) (ia_nil)))) (i_int)) (is_one (is_ret (i_call F_l_expression hr (ia_cons (i_var 0) (ia_cons (i_var 2) (ia_nil)))))) (is_nil)) (is_cons (is_asg (i_callB (rf_min2 rfl) rfl T.min b_min (ia_cons (i_bin rf_sub (i_var 1) (i_int)) (ia_cons (i_call F_l_top hr (ia_cons (i_dget (hu_of hr) (i_var 0) (i_str)) (ia_nil))) (ia_nil)))) (ig_name 3 nd_l_index)) (is_cons (is_if (it_cmp (rf_eq hr.units) (i_call F_l_take hr (ia_cons (i_dget (hu_of hr) (i_var 0) (i_str)) (ia_cons (i_int) (ia_nil)))) (i_int)) (is_one (is_ret (i_tup (ia_cons (i_str) (ia_cons (i_call F_l_take hr (ia_cons (i_dget (hu_of hr) (i_var 0) (i_str)) (ia_cons (i_bin rf_add (i_var 3) (i_int)) (ia_nil)))) (ia_nil)))))) (is_nil)) (is_one (is_ret (i_tup (ia_cons (i_str) (ia_cons (i_tup (ia_cons (i_str) (ia_cons (i_call F_l_variable hr (ia_cons (i_dget (hu_of hr) (i_var 0) (i_str)) (ia_nil))) (ia_nil)))) (ia_cons (i_tup (ia_cons (i_str) (ia_cons (i_ix (i_lst (ia_cons (i_int) (ia_cons (i_int) (ia_cons (i_int) (ia_cons (i_int) (ia_cons (i_int) (ia_cons (i_int) (ia_cons (i_int) (ia_cons (i_int) (ia_nil)))))))))) (i_callB (rf_min2 rfl) rfl T.min b_min (ia_cons (i_var 3) (ia_cons (i_int) (ia_nil))))) (ia_nil)))) (ia_nil)))))))))
/-! ### _law_row -/
abbrev s_l_row : Stmt := top 31
abbrev N_l_row : List Str := ["p", "others", "draw", "k", "name", "size", "params", "j"]
theorem sc_l_row : FnScope N_l_row ["p", "others"] (defScope s_l_row) := ⟨rfl, rfl, rfl, by decide +kernel, rfl, by decide +kernel, by decide +kernel⟩
theorem nd_l_row : N_l_row.Nodup := sc_l_row.nd
def W_l_row  (p_l_take : Sp3) (p_l_expression : Sp3) (p_l_variable : Sp3) (p_l_index : Sp3) : WS := wSeq (wAsg (w2 rDGet (wVar 0) (wC (.str "draw"))) (gN 2)) (wSeq (wAsg (wL p_l_take (wCons (wVar 2) (wCons (wC (.int 12)) (wNil)))) (gN 3)) (wSeq (wIfS (wB (w2 rLt (wVar 3) (wC (.int 4)))) (wRet (wL rTup (wCons (wC (.str "set")) (wCons (wL p_l_variable (wCons (wVar 2) (wNil))) (wCons (wL p_l_expression (wCons (wVar 0) (wCons (wC (.int 2)) (wNil)))) (wNil)))))) (wNext)) (wSeq (wIfS (wB (w2 rLt (wVar 3) (wC (.int 7)))) (wRet (wL rTup (wCons (wC (.str "take")) (wCons (wL p_l_variable (wCons (wVar 2) (wNil))) (wNil))))) (wNext)) (wSeq (wIfS (wB (w2 rLt (wVar 3) (wC (.int 9)))) (wRet (wL rTup (wCons (wC (.str "put")) (wCons (wL p_l_expression (wCons (wVar 0) (wCons (wC (.int 1)) (wNil)))) (wNil))))) (wNext)) (wSeq (wIfS (wAnd (wB (w2 rEq (wVar 3) (wC (.int 9)))) (wB (w2 rNe (w2 rDGet (wVar 0) (wC (.str "arrays"))) (wL rTup (wNil))))) (wSeq (wAsg (w2 rIx (w2 rDGet (wVar 0) (wC (.str "arrays"))) (wL p_l_take (wCons (wVar 2) (wCons (wL rLen (wCons (w2 rDGet (wVar 0) (wC (.str "arrays"))) (wNil))) (wNil))))) (gT [gN 4, gN 5])) (wRet (wL rTup (wCons (wC (.str "store")) (wCons (wVar 4) (wCons (wL p_l_index (wCons (wVar 0) (wCons (wVar 5) (wCons (wC (.int 1)) (wNil))))) (wCons (wL p_l_expression (wCons (wVar 0) (wCons (wC (.int 1)) (wNil)))) (wNil)))))))) (wNext)) (wSeq (wIfS (wAnd (wB (w2 rEq (wVar 3) (wC (.int 10)))) (wB (w2 rNe (wVar 1) (wL rLst (wNil))))) (wSeq (wAsg (w2 rIx (wVar 1) (wL p_l_take (wCons (wVar 2) (wCons (wL rLen (wCons (wVar 1) (wNil))) (wNil))))) (gT [gN 4, gN 6])) (wRet (wL rTup (wCons (wC (.str "call")) (wCons (wL p_l_variable (wCons (wVar 2) (wNil))) (wCons (wVar 4) (wCons (wL rTupleOf (wCons (wLc (wRg1 (wCons (wVar 6) (wNil))) 7 (wYes) (wL p_l_expression (wCons (wVar 0) (wCons (wC (.int 1)) (wNil))))) (wNil))) (wNil)))))))) (wNext)) (wSeq (wIfS (wB (w2 rEq (wVar 3) (wC (.int 11)))) (wRet (wL rTup (wCons (wC (.str "assert")) (wCons (wL p_l_take (wCons (wVar 2) (wCons (wC (.int 4)) (wNil)))) (wCons (wL p_l_expression (wCons (wVar 0) (wCons (wC (.int 2)) (wNil)))) (wNil)))))) (wNext)) (wRet (wL rTup (wCons (wC (.str "set")) (wCons (wL p_l_variable (wCons (wVar 2) (wNil))) (wCons (wL p_l_expression (wCons (wVar 0) (wCons (wC (.int 1)) (wNil)))) (wNil)))))))))))))
theorem walk_l_row {C_s : Unit}  {p_l_take : Sp3} {p_l_expression : Sp3} {p_l_variable : Sp3} {p_l_index : Sp3} {k : Nat} (T : Mg mg)  {f : Addr} (cdv : Value) (A : Around) (outer : List Env) (s : Shared) (H : Hp) (E : XK) (hr : Room (k + 1) (A.deeper (envOfC "_law_row" (defScope s_l_row) s.heap.objs.size f cdv))) (F_l_take : Fd P w K mg base G "_law_take" (k + 1) p_l_take) (F_l_expression : Fd P w K mg base G "_law_expression" (k + 1) p_l_expression) (F_l_variable : Fd P w K mg base G "_law_variable" (k + 1) p_l_variable) (F_l_index : Fd P w K mg base G "_law_index" (k + 1) p_l_index) :
    PSs3 (CXF P w K mg base N_l_row "_law_row" s_l_row f cdv A outer s H E) G (defBody s_l_row) (W_l_row p_l_take p_l_expression p_l_variable p_l_index) := by
  unfold W_l_row
  exact is_cons (is_asg (i_dget (hu_of hr) (i_var 0) (i_str)) (ig_name 2 nd_l_row)) (is_cons (is_asg (i_call F_l_take hr (ia_cons (i_var 2) (ia_cons (i_int) (ia_nil)))) (ig_name 3 nd_l_row)) (is_cons (is_if (it_cmp rf_lt (i_var 3) (i_int)) (is_one (is_ret (i_tup (ia_cons (i_str) (ia_cons (i_call F_l_variable hr (ia_cons (i_var 2) (ia_nil))) (ia_cons (i_call F_l_expression hr (ia_cons (i_var 0) (ia_cons (i_int) (ia_nil)))) (ia_nil))))))) (is_nil)) (is_cons (is_if (it_cmp rf_lt (i_var 3) (i_int)) (is_one (is_ret (i_tup (ia_cons (i_str) (ia_cons (i_call F_l_variable hr (ia_cons (i_var 2) (ia_nil))) (ia_nil)))))) (is_nil)) (is_cons (is_if (it_cmp rf_lt (i_var 3) (i_int)) (is_one (is_ret (i_tup (ia_cons (i_str) (ia_cons (i_call F_l_expression hr (ia_cons (i_var 0) (ia_cons (i_int) (ia_nil)))) (ia_nil)))))) (is_nil)) (is_cons (is_if (it_w (iw_and (it_cmp (rf_eq hr.units) (i_var 3) (i_int)) (iw_and1 (it_cmp (rf_ne hr.units) (i_dget (hu_of hr) (i_var 0) (i_str)) (i_tup (ia_nil)))))) (is_cons (is_asg (i_ix (i_dget (hu_of hr) (i_var 0) (i_str)) (i_call F_l_take hr (ia_cons (i_var 2) (ia_cons (i_callB rf_len rfl T.len b_len (ia_cons (i_dget (hu_of hr) (i_var 0) (i_str)) (ia_nil))) (ia_nil))))) (ig_tup rfl (igs_cons (ig_name 4 nd_l_row) (igs_cons (ig_name 5 nd_l_row) (igs_nil))))) (is_one (is_ret (i_tup (ia_cons (i_str) (ia_cons (i_var 4) (ia_cons (i_call F_l_index hr (ia_cons (i_var 0) (ia_cons (i_var 5) (ia_cons (i_int) (ia_nil))))) (ia_cons (i_call F_l_expression hr (ia_cons (i_var 0) (ia_cons (i_int) (ia_nil)))) (ia_nil))))))))) (is_nil)) (is_cons (is_if (it_w (iw_and (it_cmp (rf_eq hr.units) (i_var 3) (i_int)) (iw_and1 (it_cmp (rf_ne hr.units) (i_var 1) (i_lst (ia_nil)))))) (is_cons (is_asg (i_ix (i_var 1) (i_call F_l_take hr (ia_cons (i_var 2) (ia_cons (i_callB rf_len rfl T.len b_len (ia_cons (i_var 1) (ia_nil))) (ia_nil))))) (ig_tup rfl (igs_cons (ig_name 4 nd_l_row) (igs_cons (ig_name 6 nd_l_row) (igs_nil))))) (is_one (is_ret (i_tup (ia_cons (i_str) (ia_cons (i_call F_l_variable hr (ia_cons (i_var 2) (ia_nil))) (ia_cons (i_var 4) (ia_cons (i_callT rf_tupleOf rfl T.tuple b_tuple (ia_cons (i_lc 7 rfl nd_l_row (blkOk_by (N := N_l_row) (sc := defScope s_l_row) (by decide +kernel)) (ii_rg1 rfl T.range (ia_cons (i_var 6) (ia_nil))) (fun _ _ _ _ _ => pg_name (i := 7) nd_l_row rfl (Or.inl rfl)) (fun _ _ _ _ _ => its_nil) (fun _ _ _ _ _ => i_call F_l_expression hr (ia_cons (i_var 0) (ia_cons (i_int) (ia_nil))))) (ia_nil))) (ia_nil))))))))) (is_nil)) (is_cons (is_if (it_cmp (rf_eq hr.units) (i_var 3) (i_int)) (is_one (is_ret (i_tup (ia_cons (i_str) (ia_cons (i_call F_l_take hr (ia_cons (i_var 2) (ia_cons (i_int) (ia_nil)))) (ia_cons (i_call F_l_expression hr (ia_cons (i_var 0) (ia_cons (i_int) (ia_nil)))) (ia_nil))))))) (is_nil)) (is_one (is_ret (i_tup (ia_cons (i_str) (ia_cons (i_call F_l_variable hr (ia_cons (i_var 2) (ia_nil))) (ia_cons (i_call F_l_expression hr (ia_cons (i_var 0) (ia_cons (i_int) (ia_nil)))) (ia_nil))))))))))))))
/-! ### _law_blocks -/
abbrev s_l_blocks : Stmt := top 32
abbrev N_l_blocks : List Str := ["p", "others", "blocks", "rows", "draw", "gap", "labels", "found", "k", "body", "rest", "kind", "end", "onward", "first", "second", "j"]
theorem sc_l_blocks : FnScope N_l_blocks ["p", "others", "blocks", "rows"] (defScope s_l_blocks) := ⟨rfl, rfl, rfl, by decide +kernel, rfl, by decide +kernel, by decide +kernel⟩
theorem nd_l_blocks : N_l_blocks.Nodup := sc_l_blocks.nd
def W_l_blocks  (p_l_take : Sp3) (p_l_row : Sp3) (p_l_expression : Sp3) : WS := wSeq (wAsg (w2 rDGet (wVar 0) (wC (.str "draw"))) (gN 4)) (wSeq (wAsg (w2 rAdd (wC (.int 1)) (wL p_l_take (wCons (wVar 4) (wCons (wC (.int 3)) (wNil))))) (gN 5)) (wSeq (wAsg (wLc (wRg1 (wCons (w2 rAdd (wC (.int 1)) (wL p_l_take (wCons (wVar 4) (wCons (wVar 2) (wNil))))) (wNil))) 8 (wYes) (w2 rMod (wL rToInt (wCons (w2 rAdd (wC (.int 5)) (w2 rMul (wVar 5) (wVar 8))) (wNil))) (wC (.int 17)))) (gN 6)) (wSeq (wAsg (wL rLst (wNil)) (gN 7)) (wSeq (wFor (wRg1 (wCons (wL rLen (wCons (wVar 6) (wNil))) (wNil))) (gN 8) (wSeq (wAsg (wL rTupleOf (wCons (wLc (wRg1 (wCons (wL p_l_take (wCons (wVar 4) (wCons (w2 rAdd (wVar 3) (wC (.int 1))) (wNil)))) (wNil))) 16 (wYes) (wL p_l_row (wCons (wVar 0) (wCons (wVar 1) (wNil))))) (wNil))) (gN 9)) (wSeq (wAsg (wSl (wVar 6) (oSome (wC (.int 1))) (oNone)) (gN 10)) (wSeq (wAsg (wL p_l_take (wCons (wVar 4) (wCons (wC (.int 5)) (wNil)))) (gN 11)) (wSeq (wIfS (wOr (wB (w2 rEq (wVar 10) (wL rLst (wNil)))) (wB (w2 rEq (wVar 11) (wC (.int 0))))) (wAsg (wL rTup (wCons (wC (.str "return")) (wCons (wL p_l_expression (wCons (wVar 0) (wCons (wC (.int 1)) (wNil)))) (wNil)))) (gN 12)) (wSeq (wAsg (wIf (wB (w2 rNe (wSl (wVar 6) (oSome (w2 rAdd (wVar 8) (wC (.int 1)))) (oNone)) (wL rLst (wNil)))) (wSl (wVar 6) (oSome (w2 rAdd (wVar 8) (wC (.int 1)))) (oNone)) (wVar 10)) (gN 13)) (wSeq (wAsg (w2 rIx (wVar 13) (wL p_l_take (wCons (wVar 4) (wCons (wL rLen (wCons (wVar 13) (wNil))) (wNil))))) (gN 14)) (wSeq (wAsg (w2 rIx (wVar 10) (wL p_l_take (wCons (wVar 4) (wCons (wL rLen (wCons (wVar 10) (wNil))) (wNil))))) (gN 15)) (wAsg (wIf (wB (w2 rEq (wVar 11) (wC (.int 1)))) (wL rTup (wCons (wC (.str "go")) (wCons (wVar 14) (wNil)))) (wL rTup (wCons (wC (.str "if")) (wCons (wL p_l_expression (wCons (wVar 0) (wCons (wC (.int 2)) (wNil)))) (wCons (wVar 14) (wCons (wVar 15) (wNil))))))) (gN 12)))))) (wDrop (wAppend (wVar 7) (wCons (wL rTup (wCons (w2 rIx (wVar 6) (wVar 8)) (wCons (wVar 9) (wCons (wVar 12) (wNil))))) (wNil))))))))) (wRet (wL rTupleOf (wCons (wVar 7) (wNil))))))))
theorem walk_l_blocks {C_s : Unit}  {p_l_take : Sp3} {p_l_row : Sp3} {p_l_expression : Sp3} {k : Nat} (T : Mg mg)  {f : Addr} (cdv : Value) (A : Around) (outer : List Env) (s : Shared) (H : Hp) (E : XK) (hr : Room (k + 1) (A.deeper (envOfC "_law_blocks" (defScope s_l_blocks) s.heap.objs.size f cdv))) (F_l_take : Fd P w K mg base G "_law_take" (k + 1) p_l_take) (F_l_row : Fd P w K mg base G "_law_row" (k + 1) p_l_row) (F_l_expression : Fd P w K mg base G "_law_expression" (k + 1) p_l_expression) :
    PSs3 (CXF P w K mg base N_l_blocks "_law_blocks" s_l_blocks f cdv A outer s H E) G (defBody s_l_blocks) (W_l_blocks p_l_take p_l_row p_l_expression) := by
  unfold W_l_blocks
  exact is_cons (is_asg (i_dget (hu_of hr) (i_var 0) (i_str)) (ig_name 4 nd_l_blocks)) (is_cons (is_asg (i_bin rf_add (i_int) (i_call F_l_take hr (ia_cons (i_var 4) (ia_cons (i_int) (ia_nil))))) (ig_name 5 nd_l_blocks)) (is_cons (is_setLc 6 8 rfl nd_l_blocks (sw_true rfl rfl rfl (by decide +kernel)) (blkOk_by (N := N_l_blocks) (sc := defScope s_l_blocks) (by decide +kernel)) (ii_rg1 rfl T.range (ia_cons (i_bin rf_add (i_int) (i_call F_l_take hr (ia_cons (i_var 4) (ia_cons (i_var 2) (ia_nil))))) (ia_nil))) (fun _ _ _ _ _ => pg_name (i := 8) nd_l_blocks rfl (Or.inl rfl)) (fun _ _ _ _ _ => its_nil) (fun _ _ _ _ _ => i_bin rf_mod (i_callT rf_int1 rfl T.int b_int (ia_cons (i_bin rf_add (i_int) (i_bin rf_mul (i_var 5) (i_var 8))) (ia_nil))) (i_int))) (is_cons (is_asg (i_lst (ia_nil)) (ig_name 7 nd_l_blocks)) (is_cons (is_for PassesOwn.never rfl (ii_rg1 rfl T.range (ia_cons (i_callB rf_len rfl T.len b_len (ia_cons (i_var 6) (ia_nil))) (ia_nil))) (ig_name 8 nd_l_blocks) (is_cons (is_asg (i_callT rf_tupleOf rfl T.tuple b_tuple (ia_cons (i_lc 16 rfl nd_l_blocks (blkOk_by (N := N_l_blocks) (sc := defScope s_l_blocks) (by decide +kernel)) (ii_rg1 rfl T.range (ia_cons (i_call F_l_take hr (ia_cons (i_var 4) (ia_cons (i_bin rf_add (i_var 3) (i_int)) (ia_nil)))) (ia_nil))) (fun _ _ _ _ _ => pg_name (i := 16) nd_l_blocks rfl (Or.inl rfl)) (fun _ _ _ _ _ => its_nil) (fun _ _ _ _ _ => i_call F_l_row hr (ia_cons (i_var 0) (ia_cons (i_var 1) (ia_nil))))) (ia_nil))) (ig_name 9 nd_l_blocks)) (is_cons (is_asg (i_sl (i_var 6) (io_some (i_int)) (io_none)) (ig_name 10 nd_l_blocks)) (is_cons (is_asg (i_call F_l_take hr (ia_cons (i_var 4) (ia_cons (i_int) (ia_nil)))) (ig_name 11 nd_l_blocks)) (is_cons (is_if (it_w (iw_or (it_cmp (rf_eq hr.units) (i_var 10) (i_lst (ia_nil))) (iw_or1 (it_cmp (rf_eq hr.units) (i_var 11) (i_int))))) (is_one (is_asg (i_tup (ia_cons (i_str) (ia_cons (i_call F_l_expression hr (ia_cons (i_var 0) (ia_cons (i_int) (ia_nil)))) (ia_nil)))) (ig_name 12 nd_l_blocks))) (is_cons (is_asg (i_if (it_cmp (rf_ne hr.units) (i_sl (i_var 6) (io_some (i_bin rf_add (i_var 8) (i_int))) (io_none)) (i_lst (ia_nil))) (i_sl (i_var 6) (io_some (i_bin rf_add (i_var 8) (i_int))) (io_none)) (i_var 10)) (ig_name 13 nd_l_blocks)) (is_cons (is_asg (i_ix (i_var 13) (i_call F_l_take hr (ia_cons (i_var 4) (ia_cons (i_callB rf_len rfl T.len b_len (ia_cons (i_var 13) (ia_nil))) (ia_nil))))) (ig_name 14 nd_l_blocks)) (is_cons (is_asg (i_ix (i_var 10) (i_call F_l_take hr (ia_cons (i_var 4) (ia_cons (i_callB rf_len rfl T.len b_len (ia_cons (i_var 10) (ia_nil))) (ia_nil))))) (ig_name 15 nd_l_blocks)) (is_one (is_asg (i_if (it_cmp (rf_eq hr.units) (i_var 11) (i_int)) (i_tup (ia_cons (i_str) (ia_cons (i_var 14) (ia_nil)))) (i_tup (ia_cons (i_str) (ia_cons (i_call F_l_expression hr (ia_cons (i_var 0) (ia_cons (i_int) (ia_nil)))) (ia_cons (i_var 14) (ia_cons (i_var 15) (ia_nil))))))) (ig_name 12 nd_l_blocks))))))) (is_one (is_expr (i_append (i_var 7) (ia_cons (i_tup (ia_cons (i_ix (i_var 6) (i_var 8)) (ia_cons (i_var 9) (ia_cons (i_var 12) (ia_nil))))) (ia_nil)))))))))) (is_one (is_ret (i_callT rf_tupleOf rfl T.tuple b_tuple (ia_cons (i_var 7) (ia_nil)))))))))
/-! ### _law_program -/
abbrev s_l_program : Stmt := top 33
abbrev N_l_program : List Str := ["draw", "w", "blocks", "rows", "arrays", "p", "told", "made", "first", "procedures", "name", "params"]
theorem sc_l_program : FnScope N_l_program ["draw", "w", "blocks", "rows"] (defScope s_l_program) := ⟨rfl, rfl, rfl, by decide +kernel, rfl, by decide +kernel, by decide +kernel⟩
theorem nd_l_program : N_l_program.Nodup := sc_l_program.nd
def W_l_program  (p_l_take : Sp3) (p_l_blocks : Sp3) (p_l_variable : Sp3) : WS := wSeq (wAsg (w2 rIx (wL rLst (wCons (wL rTup (wNil)) (wCons (wL rTup (wNil)) (wCons (wL rTup (wCons (wL rTup (wCons (wC (.str "mem")) (wCons (w2 rAdd (wC (.int 1)) (wL p_l_take (wCons (wVar 0) (wCons (wC (.int 5)) (wNil))))) (wNil)))) (wNil))) (wCons (wL rTup (wCons (wL rTup (wCons (wC (.str "a")) (wCons (wC (.int 2)) (wNil)))) (wCons (wL rTup (wCons (wC (.str "mem")) (wCons (w2 rAdd (wC (.int 1)) (wL p_l_take (wCons (wVar 0) (wCons (wC (.int 3)) (wNil))))) (wNil)))) (wNil)))) (wCons (wL rTup (wCons (wL rTup (wCons (wC (.str "a")) (wCons (wC (.int 8)) (wNil)))) (wCons (wL rTup (wCons (wC (.str "b_2")) (wCons (wC (.int 3)) (wNil)))) (wCons (wL rTup (wCons (wC (.str "mem")) (wCons (w2 rAdd (wC (.int 1)) (wL p_l_take (wCons (wVar 0) (wCons (wC (.int 8)) (wNil))))) (wNil)))) (wNil))))) (wNil))))))) (wL p_l_take (wCons (wVar 0) (wCons (wC (.int 5)) (wNil))))) (gN 4)) (wSeq (wAsg (wDisp (ppsCons (wC (.str "draw")) (wVar 0) (ppsCons (wC (.str "width")) (wVar 1) (ppsCons (wC (.str "arrays")) (wVar 4) (ppsNil))))) (gN 5)) (wSeq (wAsg (w2 rIx (wL rLst (wCons (wL rLst (wNil)) (wCons (wL rLst (wNil)) (wCons (wL rLst (wCons (wL rTup (wCons (wC (.str "aid")) (wCons (wC (.int 1)) (wNil)))) (wNil))) (wCons (wL rLst (wCons (wL rTup (wCons (wC (.str "aid")) (wCons (wC (.int 2)) (wNil)))) (wCons (wL rTup (wCons (wC (.str "zig")) (wCons (wC (.int 0)) (wNil)))) (wNil)))) (wCons (wL rLst (wCons (wL rTup (wCons (wC (.str "aid")) (wCons (wC (.int 3)) (wNil)))) (wCons (wL rTup (wCons (wC (.str "zig")) (wCons (wC (.int 1)) (wNil)))) (wNil)))) (wNil))))))) (wL p_l_take (wCons (wVar 0) (wCons (wC (.int 5)) (wNil))))) (gN 6)) (wSeq (wAsg (wL p_l_blocks (wCons (wVar 5) (wCons (wVar 6) (wCons (wVar 2) (wCons (wVar 3) (wNil)))))) (gN 7)) (wSeq (wIfS (wB (w2 rGt (wL p_l_take (wCons (wVar 0) (wCons (wC (.int 3)) (wNil)))) (wC (.int 0)))) (wSeq (wAsg (wL rTup (wCons (w2 rIx (w2 rIx (wVar 7) (wC (.int 0))) (wC (.int 0))) (wCons (w2 rAdd (wL rTup (wCons (wL rTup (wCons (wC (.str "take")) (wCons (wC (.int 0)) (wNil)))) (wCons (wL rTup (wCons (wC (.str "take")) (wCons (wL p_l_variable (wCons (wVar 0) (wNil))) (wNil)))) (wNil)))) (w2 rIx (w2 rIx (wVar 7) (wC (.int 0))) (wC (.int 1)))) (wCons (w2 rIx (w2 rIx (wVar 7) (wC (.int 0))) (wC (.int 2))) (wNil))))) (gN 8)) (wAsg (w2 rAdd (wL rTup (wCons (wVar 8) (wNil))) (wSl (wVar 7) (oSome (wC (.int 1))) (oNone))) (gN 7))) (wNext)) (wSeq (wAsg (wL rLst (wCons (wL rTup (wCons (wC (.str "main")) (wCons (wC (.int 0)) (wCons (wVar 7) (wNil))))) (wNil))) (gN 9)) (wSeq (wFor (wIter (wVar 6)) (gT [gN 10, gN 11]) (wDrop (wAppend (wVar 9) (wCons (wL rTup (wCons (wVar 10) (wCons (wVar 11) (wCons (wL p_l_blocks (wCons (wVar 5) (wCons (wVar 6) (wCons (wL rMax2 (wCons (wC (.int 1)) (wCons (w2 rSub (wVar 2) (wC (.int 2))) (wNil)))) (wCons (wL rMax2 (wCons (wC (.int 1)) (wCons (w2 rSub (wVar 3) (wC (.int 1))) (wNil)))) (wNil)))))) (wNil))))) (wNil))))) (wRet (wL rTup (wCons (wVar 1) (wCons (wVar 4) (wCons (wL rTupleOf (wCons (wL rSorted (wCons (wVar 9) (wNil))) (wNil))) (wNil))))))))))))
theorem walk_l_program {C_s : Unit}  {p_l_take : Sp3} {p_l_blocks : Sp3} {p_l_variable : Sp3} {k : Nat} (T : Mg mg)  {f : Addr} (cdv : Value) (A : Around) (outer : List Env) (s : Shared) (H : Hp) (E : XK) (hr : Room (k + 1) (A.deeper (envOfC "_law_program" (defScope s_l_program) s.heap.objs.size f cdv))) (F_l_take : Fd P w K mg base G "_law_take" (k + 1) p_l_take) (F_l_blocks : Fd P w K mg base G "_law_blocks" (k + 1) p_l_blocks) (F_l_variable : Fd P w K mg base G "_law_variable" (k + 1) p_l_variable) :
    PSs3 (CXF P w K mg base N_l_program "_law_program" s_l_program f cdv A outer s H E) G (defBody s_l_program) (W_l_program p_l_take p_l_blocks p_l_variable) := by
  unfold W_l_program
  exact is_cons (is_asg (i_ix (i_lst (ia_cons (i_tup (ia_nil)) (ia_cons (i_tup (ia_nil)) (ia_cons (i_tup (ia_cons (i_tup (ia_cons (i_str) (ia_cons (i_bin rf_add (i_int) (i_call F_l_take hr (ia_cons (i_var 0) (ia_cons (i_int) (ia_nil))))) (ia_nil)))) (ia_nil))) (ia_cons (i_tup (ia_cons (i_tup (ia_cons (i_str) (ia_cons (i_int) (ia_nil)))) (ia_cons (i_tup (ia_cons (i_str) (ia_cons (i_bin rf_add (i_int) (i_call F_l_take hr (ia_cons (i_var 0) (ia_cons (i_int) (ia_nil))))) (ia_nil)))) (ia_nil)))) (ia_cons (i_tup (ia_cons (i_tup (ia_cons (i_str) (ia_cons (i_int) (ia_nil)))) (ia_cons (i_tup (ia_cons (i_str) (ia_cons (i_int) (ia_nil)))) (ia_cons (i_tup (ia_cons (i_str) (ia_cons (i_bin rf_add (i_int) (i_call F_l_take hr (ia_cons (i_var 0) (ia_cons (i_int) (ia_nil))))) (ia_nil)))) (ia_nil))))) (ia_nil))))))) (i_call F_l_take hr (ia_cons (i_var 0) (ia_cons (i_int) (ia_nil))))) (ig_name 4 nd_l_program)) (is_cons (is_asg (i_disp (ipps_cons (i_str) (i_var 0) (ipps_cons (i_str) (i_var 1) (ipps_cons (i_str) (i_var 4) (ipps_nil))))) (ig_name 5 nd_l_program)) (is_cons (is_asg (i_ix (i_lst (ia_cons (i_lst (ia_nil)) (ia_cons (i_lst (ia_nil)) (ia_cons (i_lst (ia_cons (i_tup (ia_cons (i_str) (ia_cons (i_int) (ia_nil)))) (ia_nil))) (ia_cons (i_lst (ia_cons (i_tup (ia_cons (i_str) (ia_cons (i_int) (ia_nil)))) (ia_cons (i_tup (ia_cons (i_str) (ia_cons (i_int) (ia_nil)))) (ia_nil)))) (ia_cons (i_lst (ia_cons (i_tup (ia_cons (i_str) (ia_cons (i_int) (ia_nil)))) (ia_cons (i_tup (ia_cons (i_str) (ia_cons (i_int) (ia_nil)))) (ia_nil)))) (ia_nil))))))) (i_call F_l_take hr (ia_cons (i_var 0) (ia_cons (i_int) (ia_nil))))) (ig_name 6 nd_l_program)) (is_cons (is_asg (i_call F_l_blocks hr (ia_cons (i_var 5) (ia_cons (i_var 6) (ia_cons (i_var 2) (ia_cons (i_var 3) (ia_nil)))))) (ig_name 7 nd_l_program)) (is_cons (is_if (it_cmp rf_gt (i_call F_l_take hr (ia_cons (i_var 0) (ia_cons (i_int) (ia_nil)))) (i_int)) (is_cons (is_asg (i_tup (ia_cons (i_ix (i_ix (i_var 7) (i_int)) (i_int)) (ia_cons (i_bin rf_add (i_tup (ia_cons (i_tup (ia_cons (i_str) (ia_cons (i_int) (ia_nil)))) (ia_cons (i_tup (ia_cons (i_str) (ia_cons (i_call F_l_variable hr (ia_cons (i_var 0) (ia_nil))) (ia_nil)))) (ia_nil)))) (i_ix (i_ix (i_var 7) (i_int)) (i_int))) (ia_cons (i_ix (i_ix (i_var 7) (i_int)) (i_int)) (ia_nil))))) (ig_name 8 nd_l_program)) (is_one (is_asg (i_bin rf_add (i_tup (ia_cons (i_var 8) (ia_nil))) (i_sl (i_var 7) (io_some (i_int)) (io_none))) (ig_name 7 nd_l_program)))) (is_nil)) (is_cons (is_asg (i_lst (ia_cons (i_tup (ia_cons (i_str) (ia_cons (i_int) (ia_cons (i_var 7) (ia_nil))))) (ia_nil))) (ig_name 9 nd_l_program)) (is_cons (is_for PassesOwn.never rfl (ii_any (i_var 6)) (ig_tup rfl (igs_cons (ig_name 10 nd_l_program) (igs_cons (ig_name 11 nd_l_program) (igs_nil)))) (is_one (is_expr (i_append (i_var 9) (ia_cons (i_tup (ia_cons (i_var 10) (ia_cons (i_var 11) (ia_cons (i_call F_l_blocks hr (ia_cons (i_var 5) (ia_cons (i_var 6) (ia_cons (i_callB (rf_max2 rfl) rfl T.max b_max (ia_cons (i_int) (ia_cons (i_bin rf_sub (i_var 2) (i_int)) (ia_nil)))) (ia_cons (i_callB (rf_max2 rfl) rfl T.max b_max (ia_cons (i_int) (ia_cons (i_bin rf_sub (i_var 3) (i_int)) (ia_nil)))) (ia_nil)))))) (ia_nil))))) (ia_nil)))))) (is_one (is_ret (i_tup (ia_cons (i_var 1) (ia_cons (i_var 4) (ia_cons (i_callT rf_tupleOf rfl T.tuple b_tuple (ia_cons (i_callB (rf_sorted (room70 hr)) rfl T.sorted b_sorted (ia_cons (i_var 9) (ia_nil))) (ia_nil))) (ia_nil)))))))))))))
/-! ### _law_shape -/
abbrev s_l_shape : Stmt := top 34
abbrev N_l_shape : List Str := ["draw", "most", "w"]
theorem sc_l_shape : FnScope N_l_shape ["draw", "most"] (defScope s_l_shape) := ⟨rfl, rfl, rfl, by decide +kernel, rfl, by decide +kernel, by decide +kernel⟩
theorem nd_l_shape : N_l_shape.Nodup := sc_l_shape.nd
def W_l_shape  (p_l_take : Sp3) : WS := wSeq (wAsg (w2 rIx (wL rLst (wCons (wC (.int 1)) (wCons (wC (.int 2)) (wCons (wC (.int 2)) (wCons (wC (.int 3)) (wCons (wC (.int 3)) (wCons (wC (.int 4)) (wNil)))))))) (wL p_l_take (wCons (wVar 0) (wCons (wC (.int 6)) (wNil))))) (gN 2)) (wRet (wL rTup (wCons (wVar 2) (wCons (wL p_l_take (wCons (wVar 0) (wCons (w2 rAdd (wL rMin2 (wCons (wC (.int 3)) (wCons (w2 rDiv (wVar 1) (wVar 2)) (wNil)))) (wC (.int 1))) (wNil)))) (wNil)))))
theorem walk_l_shape {C_s : Unit}  {p_l_take : Sp3} {k : Nat} (T : Mg mg)  {f : Addr} (cdv : Value) (A : Around) (outer : List Env) (s : Shared) (H : Hp) (E : XK) (hr : Room (k + 1) (A.deeper (envOfC "_law_shape" (defScope s_l_shape) s.heap.objs.size f cdv))) (F_l_take : Fd P w K mg base G "_law_take" (k + 1) p_l_take) :
    PSs3 (CXF P w K mg base N_l_shape "_law_shape" s_l_shape f cdv A outer s H E) G (defBody s_l_shape) (W_l_shape p_l_take) := by
  unfold W_l_shape
  exact is_cons (is_asg (i_ix (i_lst (ia_cons (i_int) (ia_cons (i_int) (ia_cons (i_int) (ia_cons (i_int) (ia_cons (i_int) (ia_cons (i_int) (ia_nil)))))))) (i_call F_l_take hr (ia_cons (i_var 0) (ia_cons (i_int) (ia_nil))))) (ig_name 2 nd_l_shape)) (is_one (is_ret (i_tup (ia_cons (i_var 2) (ia_cons (i_call F_l_take hr (ia_cons (i_var 0) (ia_cons (i_bin rf_add (i_callB (rf_min2 rfl) rfl T.min b_min (ia_cons (i_int) (ia_cons (i_bin rf_div (i_var 1) (i_var 2)) (ia_nil)))) (i_int)) (ia_nil)))) (ia_nil))))))
/-! ### _law_all -/
abbrev s_l_all : Stmt := top 35
abbrev N_l_all : List Str := ["w", "n", "rows", "k", "longer", "row", "x"]
theorem sc_l_all : FnScope N_l_all ["w", "n"] (defScope s_l_all) := ⟨rfl, rfl, rfl, by decide +kernel, rfl, by decide +kernel, by decide +kernel⟩
theorem nd_l_all : N_l_all.Nodup := sc_l_all.nd
def W_l_all   : WS := wSeq (wAsg (wL rLst (wCons (wL rTup (wNil)) (wNil))) (gN 2)) (wSeq (wFor (wRg1 (wCons (wVar 1) (wNil))) (gN 3) (wSeq (wAsg (wL rLst (wNil)) (gN 4)) (wSeq (wFor (wIter (wVar 2)) (gN 5) (wAsg (w2 rAdd (wVar 4) (wLc (wRg1 (wCons (w2 rShl (wC (.int 1)) (wVar 0)) (wNil))) 6 (wYes) (w2 rAdd (wVar 5) (wL rTup (wCons (wVar 6) (wNil)))))) (gN 4))) (wAsg (wVar 4) (gN 2))))) (wRet (wVar 2)))
theorem walk_l_all {C_s : Unit}   {k : Nat} (T : Mg mg)  {f : Addr} (cdv : Value) (A : Around) (outer : List Env) (s : Shared) (H : Hp) (E : XK) (hr : Room (k + 1) (A.deeper (envOfC "_law_all" (defScope s_l_all) s.heap.objs.size f cdv)))  :
    PSs3 (CXF P w K mg base N_l_all "_law_all" s_l_all f cdv A outer s H E) G (defBody s_l_all) (W_l_all ) := by
  unfold W_l_all
  exact is_cons (is_asg (i_lst (ia_cons (i_tup (ia_nil)) (ia_nil))) (ig_name 2 nd_l_all)) (is_cons (is_for PassesOwn.never rfl (ii_rg1 rfl T.range (ia_cons (i_var 1) (ia_nil))) (ig_name 3 nd_l_all) (is_cons (is_asg (i_lst (ia_nil)) (ig_name 4 nd_l_all)) (is_cons (is_for PassesOwn.never rfl (ii_any (i_var 2)) (ig_name 5 nd_l_all) (is_one (is_asg (i_bin rf_add (i_var 4) (i_lc 6 rfl nd_l_all (blkOk_by (N := N_l_all) (sc := defScope s_l_all) (by decide +kernel)) (ii_rg1 rfl T.range (ia_cons (i_bin rf_shl (i_int) (i_var 0)) (ia_nil))) (fun _ _ _ _ _ => pg_name (i := 6) nd_l_all rfl (Or.inl rfl)) (fun _ _ _ _ _ => its_nil) (fun _ _ _ _ _ => i_bin rf_add (i_var 5) (i_tup (ia_cons (i_var 6) (ia_nil)))))) (ig_name 4 nd_l_all)))) (is_one (is_asg (i_var 4) (ig_name 2 nd_l_all)))))) (is_one (is_ret (i_var 2))))
/-! ### _law_value -/
abbrev s_l_value : Stmt := top 36
abbrev N_l_value : List Str := ["m", "e", "parts", "part", "x"]
theorem sc_l_value : FnScope N_l_value ["m", "e"] (defScope s_l_value) := ⟨rfl, rfl, rfl, by decide +kernel, rfl, by decide +kernel, by decide +kernel⟩
theorem nd_l_value : N_l_value.Nodup := sc_l_value.nd
def W_l_value  (p_l_value : Sp3) (p_l_inside : Sp3) (p_l_compute : Sp3) : WS := wSeq (wIfS (wB (w2 rEq (w2 rIx (wVar 1) (wC (.int 0))) (wC (.str "int")))) (wRet (w2 rIx (wVar 1) (wC (.int 1)))) (wNext)) (wSeq (wIfS (wB (w2 rEq (w2 rIx (wVar 1) (wC (.int 0))) (wC (.str "var")))) (wRet (wDGet2 (w2 rDGet (w2 rIx (w2 rDGet (wVar 0) (wC (.str "open"))) (w1 rNeg (wC (.int 1)))) (wC (.str "words"))) (w2 rIx (wVar 1) (wC (.int 1))) (wC (.int 0)))) (wNext)) (wSeq (wAsg (wL rLst (wNil)) (gN 2)) (wSeq (wFor (wIter (wSl (wVar 1) (oSome (wC (.int 1))) (oNone))) (gN 3) (wIfS (wB (w1 (rIsi .tuple) (wVar 3))) (wSeq (wAsg (wL p_l_value (wCons (wVar 0) (wCons (wVar 3) (wNil)))) (gN 4)) (wSeq (wIfS (wB (w1 (rIsN false) (wVar 4))) (wRet (wC .non)) (wNext)) (wDrop (wAppend (wVar 2) (wCons (wVar 4) (wNil)))))) (wNext))) (wSeq (wIfS (wB (w2 rEq (w2 rIx (wVar 1) (wC (.int 0))) (wC (.str "cell")))) (wSeq (wIfS (wNot (wB (wL p_l_inside (wCons (wVar 0) (wCons (w2 rIx (wVar 1) (wC (.int 1))) (wCons (w2 rIx (wVar 2) (wC (.int 0))) (wNil))))))) (wRet (wC .non)) (wNext)) (wRet (w2 rIx (w2 rDGet (w2 rDGet (wVar 0) (wC (.str "cells"))) (w2 rIx (wVar 1) (wC (.int 1)))) (w2 rIx (wVar 2) (wC (.int 0)))))) (wNext)) (wRet (wL p_l_compute (wCons (w2 rIx (wVar 1) (wC (.int 0))) (wCons (w2 rIx (w2 rDGet (wVar 0) (wC (.str "program"))) (wC (.int 0))) (wCons (w2 rIx (wVar 2) (wC (.int 0))) (wCons (w2 rIx (w2 rAdd (wVar 2) (wL rLst (wCons (wC (.int 0)) (wNil)))) (wC (.int 1))) (wNil)))))))))))
theorem walk_l_value {C_s : Unit}  {p_l_value : Sp3} {p_l_inside : Sp3} {p_l_compute : Sp3} {k : Nat} (T : Mg mg)  {f : Addr} (cdv : Value) (A : Around) (outer : List Env) (s : Shared) (H : Hp) (E : XK) (hr : Room (k + 1) (A.deeper (envOfC "_law_value" (defScope s_l_value) s.heap.objs.size f cdv))) (F_l_value : Fd P w K mg base G "_law_value" (k + 1) p_l_value) (F_l_inside : Fd P w K mg base G "_law_inside" (k + 1) p_l_inside) (F_l_compute : Fd P w K mg base G "_law_compute" (k + 1) p_l_compute) :
    PSs3 (CXF P w K mg base N_l_value "_law_value" s_l_value f cdv A outer s H E) G (defBody s_l_value) (W_l_value p_l_value p_l_inside p_l_compute) := by
  unfold W_l_value
  exact is_cons (is_if (it_cmp (rf_eq hr.units) (i_ix (i_var 1) (i_int)) (i_str)) (is_one (is_ret (i_ix (i_var 1) (i_int)))) (is_nil)) (is_cons (is_if (it_cmp (rf_eq hr.units) (i_ix (i_var 1) (i_int)) (i_str)) (is_one (is_ret (i_dget2 (hu_of hr) (i_dget (hu_of hr) (i_ix (i_dget (hu_of hr) (i_var 0) (i_str)) (i_un rf_neg' (i_int))) (i_str)) (i_ix (i_var 1) (i_int)) (i_int)))) (is_nil)) (is_cons (is_asg (i_lst (ia_nil)) (ig_name 2 nd_l_value)) (is_cons (is_for PassesOwn.never rfl (ii_any (i_sl (i_var 1) (io_some (i_int)) (io_none))) (ig_name 3 nd_l_value) (is_one (is_if (it_val (i_isi .tuple rfl T.isinstance b_isinstance rfl T.tuple b_tuple (i_var 3))) (is_cons (is_asg (i_call F_l_value hr (ia_cons (i_var 0) (ia_cons (i_var 3) (ia_nil)))) (ig_name 4 nd_l_value)) (is_cons (is_if (it_isN (i_var 4)) (is_one (is_ret (i_non))) (is_nil)) (is_one (is_expr (i_append (i_var 2) (ia_cons (i_var 4) (ia_nil))))))) (is_nil)))) (is_cons (is_if (it_cmp (rf_eq hr.units) (i_ix (i_var 1) (i_int)) (i_str)) (is_cons (is_if (it_not (it_val (i_call F_l_inside hr (ia_cons (i_var 0) (ia_cons (i_ix (i_var 1) (i_int)) (ia_cons (i_ix (i_var 2) (i_int)) (ia_nil))))))) (is_one (is_ret (i_non))) (is_nil)) (is_one (is_ret (i_ix (i_dget (hu_of hr) (i_dget (hu_of hr) (i_var 0) (i_str)) (i_ix (i_var 1) (i_int))) (i_ix (i_var 2) (i_int)))))) (is_nil)) (is_one (is_ret (i_call F_l_compute hr (ia_cons (i_ix (i_var 1) (i_int)) (ia_cons (i_ix (i_dget (hu_of hr) (i_var 0) (i_str)) (i_int)) (ia_cons (i_ix (i_var 2) (i_int)) (ia_cons (i_ix (i_bin rf_add (i_var 2) (i_lst (ia_cons (i_int) (ia_nil)))) (i_int)) (ia_nil))))))))))))
/-! ### _law_inside -/
abbrev s_l_inside : Stmt := top 37
abbrev N_l_inside : List Str := ["m", "name", "at", "here", "place"]
theorem sc_l_inside : FnScope N_l_inside ["m", "name", "at"] (defScope s_l_inside) := ⟨rfl, rfl, rfl, by decide +kernel, rfl, by decide +kernel, by decide +kernel⟩
theorem nd_l_inside : N_l_inside.Nodup := sc_l_inside.nd
def W_l_inside  (p_l_body : Sp3) (p_l_ended : Sp3) : WS := wSeq (wIfS (wB (w2 rLt (wVar 2) (wL rLen (wCons (w2 rDGet (w2 rDGet (wVar 0) (wC (.str "cells"))) (wVar 1)) (wNil))))) (wRet (wC (.bl true))) (wNext)) (wSeq (wAsg (w2 rIx (w2 rDGet (wVar 0) (wC (.str "open"))) (w1 rNeg (wC (.int 1)))) (gN 3)) (wSeq (wAsg (wIf (wB (w2 rLt (w2 rDGet (wVar 3) (wC (.str "at"))) (wL rLen (wCons (w2 rIx (wL p_l_body (wCons (wVar 0) (wCons (wVar 3) (wNil)))) (wC (.int 1))) (wNil))))) (w2 rDGet (wVar 3) (wC (.str "at"))) (w1 rNeg (wC (.int 1)))) (gN 4)) (wSeq (wDrop (wL p_l_ended (wCons (wVar 0) (wCons (wL rTup (wCons (wC (.str "index")) (wCons (w2 rDGet (wVar 3) (wC (.str "name"))) (wCons (w2 rDGet (wVar 3) (wC (.str "label"))) (wCons (wVar 4) (wNil)))))) (wNil))))) (wRet (wC (.bl false))))))
theorem walk_l_inside {C_s : Unit}  {p_l_body : Sp3} {p_l_ended : Sp3} {k : Nat} (T : Mg mg)  {f : Addr} (cdv : Value) (A : Around) (outer : List Env) (s : Shared) (H : Hp) (E : XK) (hr : Room (k + 1) (A.deeper (envOfC "_law_inside" (defScope s_l_inside) s.heap.objs.size f cdv))) (F_l_body : Fd P w K mg base G "_law_body" (k + 1) p_l_body) (F_l_ended : Fd P w K mg base G "_law_ended" (k + 1) p_l_ended) :
    PSs3 (CXF P w K mg base N_l_inside "_law_inside" s_l_inside f cdv A outer s H E) G (defBody s_l_inside) (W_l_inside p_l_body p_l_ended) := by
  unfold W_l_inside
  exact is_cons (is_if (it_cmp rf_lt (i_var 2) (i_callB rf_len rfl T.len b_len (ia_cons (i_dget (hu_of hr) (i_dget (hu_of hr) (i_var 0) (i_str)) (i_var 1)) (ia_nil)))) (is_one (is_ret (i_bl))) (is_nil)) (is_cons (is_asg (i_ix (i_dget (hu_of hr) (i_var 0) (i_str)) (i_un rf_neg' (i_int))) (ig_name 3 nd_l_inside)) (is_cons (is_asg (i_if (it_cmp rf_lt (i_dget (hu_of hr) (i_var 3) (i_str)) (i_callB rf_len rfl T.len b_len (ia_cons (i_ix (i_call F_l_body hr (ia_cons (i_var 0) (ia_cons (i_var 3) (ia_nil)))) (i_int)) (ia_nil)))) (i_dget (hu_of hr) (i_var 3) (i_str)) (i_un rf_neg' (i_int))) (ig_name 4 nd_l_inside)) (is_cons (is_expr (i_call F_l_ended hr (ia_cons (i_var 0) (ia_cons (i_tup (ia_cons (i_str) (ia_cons (i_dget (hu_of hr) (i_var 3) (i_str)) (ia_cons (i_dget (hu_of hr) (i_var 3) (i_str)) (ia_cons (i_var 4) (ia_nil)))))) (ia_nil))))) (is_one (is_ret (i_bl))))))
/-! ### _law_body -/
abbrev s_l_body : Stmt := top 38
abbrev N_l_body : List Str := ["m", "here", "blocks", "row", "block"]
theorem sc_l_body : FnScope N_l_body ["m", "here"] (defScope s_l_body) := ⟨rfl, rfl, rfl, by decide +kernel, rfl, by decide +kernel, by decide +kernel⟩
theorem nd_l_body : N_l_body.Nodup := sc_l_body.nd
def W_l_body   : WS := wSeq (wAsg (w2 rIx (w2 rIx (wLc (wIter (w2 rIx (w2 rDGet (wVar 0) (wC (.str "program"))) (wC (.int 2)))) 3 (wB (w2 rEq (w2 rIx (wVar 3) (wC (.int 0))) (w2 rDGet (wVar 1) (wC (.str "name"))))) (wVar 3)) (wC (.int 0))) (wC (.int 2))) (gN 2)) (wRet (w2 rIx (wLc (wIter (wVar 2)) 4 (wB (w2 rEq (w2 rIx (wVar 4) (wC (.int 0))) (w2 rDGet (wVar 1) (wC (.str "label"))))) (wVar 4)) (wC (.int 0))))
theorem walk_l_body {C_s : Unit}   {k : Nat} (T : Mg mg)  {f : Addr} (cdv : Value) (A : Around) (outer : List Env) (s : Shared) (H : Hp) (E : XK) (hr : Room (k + 1) (A.deeper (envOfC "_law_body" (defScope s_l_body) s.heap.objs.size f cdv)))  :
    PSs3 (CXF P w K mg base N_l_body "_law_body" s_l_body f cdv A outer s H E) G (defBody s_l_body) (W_l_body ) := by
  unfold W_l_body
  exact is_cons (is_asg (i_ix (i_ix (i_lc 3 rfl nd_l_body (blkOk_by (N := N_l_body) (sc := defScope s_l_body) (by decide +kernel)) (ii_any (i_ix (i_dget (hu_of hr) (i_var 0) (i_str)) (i_int))) (fun _ _ _ _ _ => pg_name (i := 3) nd_l_body rfl (Or.inl rfl)) (fun _ _ _ _ _ => its_one (it_cmp (rf_eq hr.units) (i_ix (i_var 3) (i_int)) (i_dget (hu_of hr) (i_var 1) (i_str)))) (fun _ _ _ _ _ => i_var 3)) (i_int)) (i_int)) (ig_name 2 nd_l_body)) (is_one (is_ret (i_ix (i_lc 4 rfl nd_l_body (blkOk_by (N := N_l_body) (sc := defScope s_l_body) (by decide +kernel)) (ii_any (i_var 2)) (fun _ _ _ _ _ => pg_name (i := 4) nd_l_body rfl (Or.inl rfl)) (fun _ _ _ _ _ => its_one (it_cmp (rf_eq hr.units) (i_ix (i_var 4) (i_int)) (i_dget (hu_of hr) (i_var 1) (i_str)))) (fun _ _ _ _ _ => i_var 4)) (i_int))))
/-! ### _law_ended -/
abbrev s_l_ended : Stmt := top 39
abbrev N_l_ended : List Str := ["m", "end"]
theorem sc_l_ended : FnScope N_l_ended ["m", "end"] (defScope s_l_ended) := ⟨rfl, rfl, rfl, by decide +kernel, rfl, by decide +kernel, by decide +kernel⟩
theorem nd_l_ended : N_l_ended.Nodup := sc_l_ended.nd
def W_l_ended   : WS := wSeq (wDPut (wVar 1) (wVar 0) (wC (.str "end"))) (wIfS (wB (w2 (rIn false) (w2 rIx (wVar 1) (wC (.int 0))) (wL rLst (wCons (wC (.str "broken")) (wCons (wC (.str "index")) (wCons (wC (.str "deep")) (wNil))))))) (wDrop (wAppend (w2 rDGet (wVar 0) (wC (.str "items"))) (wCons (wVar 1) (wNil)))) (wNext))
theorem walk_l_ended {C_s : Unit}   {k : Nat} (T : Mg mg)  {f : Addr} (cdv : Value) (A : Around) (outer : List Env) (s : Shared) (H : Hp) (E : XK) (hr : Room (k + 1) (A.deeper (envOfC "_law_ended" (defScope s_l_ended) s.heap.objs.size f cdv)))  :
    PSs3 (CXF P w K mg base N_l_ended "_law_ended" s_l_ended f cdv A outer s H E) G (defBody s_l_ended) (W_l_ended ) := by
  unfold W_l_ended
  exact is_cons (is_dput (hu_of hr) (i_var 1) (i_var 0) (i_str)) (is_one (is_if (it_cmp (rf_in (room65 hr)) (i_ix (i_var 1) (i_int)) (i_lst (ia_cons (i_str) (ia_cons (i_str) (ia_cons (i_str) (ia_nil)))))) (is_one (is_expr (i_append (i_dget (hu_of hr) (i_var 0) (i_str)) (ia_cons (i_var 1) (ia_nil))))) (is_nil)))
/-! ### _law_begin -/
abbrev s_l_begin : Stmt := top 40
abbrev N_l_begin : List Str := ["m", "here"]
theorem sc_l_begin : FnScope N_l_begin ["m", "here"] (defScope s_l_begin) := ⟨rfl, rfl, rfl, by decide +kernel, rfl, by decide +kernel, by decide +kernel⟩
theorem nd_l_begin : N_l_begin.Nodup := sc_l_begin.nd
def W_l_begin   : WS := wSeq (wIfS (wB (w2 rGe (wL rLen (wCons (w2 rDGet (wVar 0) (wC (.str "path"))) (wNil))) (w2 rDGet (wVar 0) (wC (.str "steps"))))) (wSeq (wDPut (wL rTup (wCons (wC (.str "none")) (wNil))) (wVar 0) (wC (.str "end"))) (wRet (wC (.bl false)))) (wNext)) (wSeq (wDrop (wAppend (w2 rDGet (wVar 0) (wC (.str "path"))) (wCons (wL rTup (wCons (w2 rDGet (wVar 1) (wC (.str "name"))) (wCons (w2 rDGet (wVar 1) (wC (.str "label"))) (wNil)))) (wNil)))) (wSeq (wDrop (wAppend (w2 rDGet (wVar 0) (wC (.str "items"))) (wCons (wL rTup (wCons (wC (.str "block")) (wCons (w2 rDGet (wVar 1) (wC (.str "name"))) (wCons (w2 rDGet (wVar 1) (wC (.str "label"))) (wNil))))) (wNil)))) (wRet (wC (.bl true)))))
theorem walk_l_begin {C_s : Unit}   {k : Nat} (T : Mg mg)  {f : Addr} (cdv : Value) (A : Around) (outer : List Env) (s : Shared) (H : Hp) (E : XK) (hr : Room (k + 1) (A.deeper (envOfC "_law_begin" (defScope s_l_begin) s.heap.objs.size f cdv)))  :
    PSs3 (CXF P w K mg base N_l_begin "_law_begin" s_l_begin f cdv A outer s H E) G (defBody s_l_begin) (W_l_begin ) := by
  unfold W_l_begin
  exact is_cons (is_if (it_cmp rf_ge (i_callB rf_len rfl T.len b_len (ia_cons (i_dget (hu_of hr) (i_var 0) (i_str)) (ia_nil))) (i_dget (hu_of hr) (i_var 0) (i_str))) (is_cons (is_dput (hu_of hr) (i_tup (ia_cons (i_str) (ia_nil))) (i_var 0) (i_str)) (is_one (is_ret (i_bl)))) (is_nil)) (is_cons (is_expr (i_append (i_dget (hu_of hr) (i_var 0) (i_str)) (ia_cons (i_tup (ia_cons (i_dget (hu_of hr) (i_var 1) (i_str)) (ia_cons (i_dget (hu_of hr) (i_var 1) (i_str)) (ia_nil)))) (ia_nil)))) (is_cons (is_expr (i_append (i_dget (hu_of hr) (i_var 0) (i_str)) (ia_cons (i_tup (ia_cons (i_str) (ia_cons (i_dget (hu_of hr) (i_var 1) (i_str)) (ia_cons (i_dget (hu_of hr) (i_var 1) (i_str)) (ia_nil))))) (ia_nil)))) (is_one (is_ret (i_bl)))))
/-! ### _law_called -/
abbrev s_l_called : Stmt := top 41
abbrev N_l_called : List Str := ["m", "here", "row", "words", "k", "x", "first", "inner", "other"]
theorem sc_l_called : FnScope N_l_called ["m", "here", "row"] (defScope s_l_called) := ⟨rfl, rfl, rfl, by decide +kernel, rfl, by decide +kernel, by decide +kernel⟩
theorem nd_l_called : N_l_called.Nodup := sc_l_called.nd
def W_l_called  (p_l_value : Sp3) (p_l_ended : Sp3) (p_l_begin : Sp3) : WS := wSeq (wAsg (wDNewK) (gN 3)) (wSeq (wFor (wRg1 (wCons (wL rLen (wCons (w2 rIx (wVar 2) (wC (.int 3))) (wNil))) (wNil))) (gN 4) (wSeq (wAsg (wL p_l_value (wCons (wVar 0) (wCons (w2 rIx (w2 rIx (wVar 2) (wC (.int 3))) (wVar 4)) (wNil)))) (gN 5)) (wSeq (wIfS (wB (w1 (rIsN false) (wVar 5))) (wRetN) (wNext)) (wDPut (wVar 5) (wVar 3) (wVar 4))))) (wSeq (wIfS (wB (w2 rEq (wL rLen (wCons (w2 rDGet (wVar 0) (wC (.str "open"))) (wNil))) (wC (.int 12)))) (wSeq (wDrop (wL p_l_ended (wCons (wVar 0) (wCons (wL rTup (wCons (wC (.str "deep")) (wCons (w2 rDGet (wVar 1) (wC (.str "name"))) (wCons (w2 rDGet (wVar 1) (wC (.str "label"))) (wCons (w2 rDGet (wVar 1) (wC (.str "at"))) (wNil)))))) (wNil))))) (wRetN)) (wNext)) (wSeq (wDPut (w2 rAdd (w2 rDGet (wVar 1) (wC (.str "at"))) (wC (.int 1))) (wVar 1) (wC (.str "at"))) (wSeq (wAsg (w2 rIx (w2 rIx (w2 rIx (w2 rIx (wLc (wIter (w2 rIx (w2 rDGet (wVar 0) (wC (.str "program"))) (wC (.int 2)))) 8 (wB (w2 rEq (w2 rIx (wVar 8) (wC (.int 0))) (w2 rIx (wVar 2) (wC (.int 2))))) (wVar 8)) (wC (.int 0))) (wC (.int 2))) (wC (.int 0))) (wC (.int 0))) (gN 6)) (wSeq (wAsg (wDisp (ppsCons (wC (.str "name")) (w2 rIx (wVar 2) (wC (.int 2))) (ppsCons (wC (.str "label")) (wVar 6) (ppsCons (wC (.str "at")) (wC (.int 0)) (ppsCons (wC (.str "words")) (wVar 3) (ppsCons (wC (.str "gives")) (w2 rIx (wVar 2) (wC (.int 1))) (ppsNil))))))) (gN 7)) (wIfS (wB (wL p_l_begin (wCons (wVar 0) (wCons (wVar 7) (wNil))))) (wDrop (wAppend (w2 rDGet (wVar 0) (wC (.str "open"))) (wCons (wVar 7) (wNil)))) (wNext)))))))
theorem walk_l_called {C_s : Unit}  {p_l_value : Sp3} {p_l_ended : Sp3} {p_l_begin : Sp3} {k : Nat} (T : Mg mg)  {f : Addr} (cdv : Value) (A : Around) (outer : List Env) (s : Shared) (H : Hp) (E : XK) (hr : Room (k + 1) (A.deeper (envOfC "_law_called" (defScope s_l_called) s.heap.objs.size f cdv))) (F_l_value : Fd P w K mg base G "_law_value" (k + 1) p_l_value) (F_l_ended : Fd P w K mg base G "_law_ended" (k + 1) p_l_ended) (F_l_begin : Fd P w K mg base G "_law_begin" (k + 1) p_l_begin) :
    PSs3 (CXF P w K mg base N_l_called "_law_called" s_l_called f cdv A outer s H E) G (defBody s_l_called) (W_l_called p_l_value p_l_ended p_l_begin) := by
  unfold W_l_called
  exact is_cons (is_asg (i_dnewK) (ig_name 3 nd_l_called)) (is_cons (is_for PassesOwn.never rfl (ii_rg1 rfl T.range (ia_cons (i_callB rf_len rfl T.len b_len (ia_cons (i_ix (i_var 2) (i_int)) (ia_nil))) (ia_nil))) (ig_name 4 nd_l_called) (is_cons (is_asg (i_call F_l_value hr (ia_cons (i_var 0) (ia_cons (i_ix (i_ix (i_var 2) (i_int)) (i_var 4)) (ia_nil)))) (ig_name 5 nd_l_called)) (is_cons (is_if (it_isN (i_var 5)) (is_one (is_retN)) (is_nil)) (is_one (is_dput (hu_of hr) (i_var 5) (i_var 3) (i_var 4)))))) (is_cons (is_if (it_cmp (rf_eq hr.units) (i_callB rf_len rfl T.len b_len (ia_cons (i_dget (hu_of hr) (i_var 0) (i_str)) (ia_nil))) (i_int)) (is_cons (is_expr (i_call F_l_ended hr (ia_cons (i_var 0) (ia_cons (i_tup (ia_cons (i_str) (ia_cons (i_dget (hu_of hr) (i_var 1) (i_str)) (ia_cons (i_dget (hu_of hr) (i_var 1) (i_str)) (ia_cons (i_dget (hu_of hr) (i_var 1) (i_str)) (ia_nil)))))) (ia_nil))))) (is_one (is_retN))) (is_nil)) (is_cons (is_dput (hu_of hr) (i_bin rf_add (i_dget (hu_of hr) (i_var 1) (i_str)) (i_int)) (i_var 1) (i_str)) (is_cons (is_asg (i_ix (i_ix (i_ix (i_ix (i_lc 8 rfl nd_l_called (blkOk_by (N := N_l_called) (sc := defScope s_l_called) (by decide +kernel)) (ii_any (i_ix (i_dget (hu_of hr) (i_var 0) (i_str)) (i_int))) (fun _ _ _ _ _ => pg_name (i := 8) nd_l_called rfl (Or.inl rfl)) (fun _ _ _ _ _ => its_one (it_cmp (rf_eq hr.units) (i_ix (i_var 8) (i_int)) (i_ix (i_var 2) (i_int)))) (fun _ _ _ _ _ => i_var 8)) (i_int)) (i_int)) (i_int)) (i_int)) (ig_name 6 nd_l_called)) (is_cons (is_asg (i_disp (ipps_cons (i_str) (i_ix (i_var 2) (i_int)) (ipps_cons (i_str) (i_var 6) (ipps_cons (i_str) (i_int) (ipps_cons (i_str) (i_var 3) (ipps_cons (i_str) (i_ix (i_var 2) (i_int)) (ipps_nil))))))) (ig_name 7 nd_l_called)) (is_one (is_if (it_val (i_call F_l_begin hr (ia_cons (i_var 0) (ia_cons (i_var 7) (ia_nil))))) (is_one (is_expr (i_append (i_dget (hu_of hr) (i_var 0) (i_str)) (ia_cons (i_var 7) (ia_nil))))) (is_nil))))))))
/-! ### _law_done -/
abbrev s_l_done : Stmt := top 42
abbrev N_l_done : List Str := ["m", "here", "row", "at", "x"]
theorem sc_l_done : FnScope N_l_done ["m", "here", "row"] (defScope s_l_done) := ⟨rfl, rfl, rfl, by decide +kernel, rfl, by decide +kernel, by decide +kernel⟩
theorem nd_l_done : N_l_done.Nodup := sc_l_done.nd
def W_l_done  (p_l_value : Sp3) (p_l_inside : Sp3) (p_l_ended : Sp3) : WS := wSeq (wIfS (wB (w2 rEq (w2 rIx (wVar 2) (wC (.int 0))) (wC (.str "take")))) (wSeq (wDPut (w2 rIx (w2 rAdd (wL rListOf (wCons (w2 rDGet (wVar 0) (wC (.str "inputs"))) (wNil))) (w2 rMul (wL rLst (wCons (wC (.int 0)) (wNil))) (w2 rAdd (w2 rDGet (wVar 0) (wC (.str "used"))) (wC (.int 1))))) (w2 rDGet (wVar 0) (wC (.str "used")))) (w2 rDGet (wVar 1) (wC (.str "words"))) (w2 rIx (wVar 2) (wC (.int 1)))) (wDPut (w2 rAdd (w2 rDGet (wVar 0) (wC (.str "used"))) (wC (.int 1))) (wVar 0) (wC (.str "used")))) (wIfS (wB (w2 rEq (w2 rIx (wVar 2) (wC (.int 0))) (wC (.str "store")))) (wSeq (wAsg (wL p_l_value (wCons (wVar 0) (wCons (w2 rIx (wVar 2) (wC (.int 2))) (wNil)))) (gN 3)) (wSeq (wAsg (wIf (wB (w1 (rIsN false) (wVar 3))) (wC .non) (wL p_l_value (wCons (wVar 0) (wCons (w2 rIx (wVar 2) (wC (.int 3))) (wNil))))) (gN 4)) (wSeq (wIfS (wOr (wB (w1 (rIsN false) (wVar 4))) (wNot (wB (wL p_l_inside (wCons (wVar 0) (wCons (w2 rIx (wVar 2) (wC (.int 1))) (wCons (wVar 3) (wNil)))))))) (wRetN) (wNext)) (wAsg (wVar 4) (gIx (w2 rDGet (w2 rDGet (wVar 0) (wC (.str "cells"))) (w2 rIx (wVar 2) (wC (.int 1)))) (wVar 3)))))) (wSeq (wAsg (wL p_l_value (wCons (wVar 0) (wCons (w2 rIx (wVar 2) (w2 rSub (wL rLen (wCons (wVar 2) (wNil))) (wC (.int 1)))) (wNil)))) (gN 4)) (wSeq (wIfS (wB (w1 (rIsN false) (wVar 4))) (wRetN) (wNext)) (wIfS (wB (w2 rEq (w2 rIx (wVar 2) (wC (.int 0))) (wC (.str "set")))) (wDPut (wVar 4) (w2 rDGet (wVar 1) (wC (.str "words"))) (w2 rIx (wVar 2) (wC (.int 1)))) (wIfS (wB (w2 rEq (w2 rIx (wVar 2) (wC (.int 0))) (wC (.str "put")))) (wDrop (wAppend (w2 rDGet (wVar 0) (wC (.str "writes"))) (wCons (wVar 4) (wNil)))) (wIfS (wB (w2 rEq (wVar 4) (wC (.int 0)))) (wSeq (wDrop (wL p_l_ended (wCons (wVar 0) (wCons (wL rTup (wCons (wC (.str "broken")) (wCons (w2 rIx (wVar 2) (wC (.int 1))) (wNil)))) (wNil))))) (wRetN)) (wNext)))))))) (wDPut (w2 rAdd (w2 rDGet (wVar 1) (wC (.str "at"))) (wC (.int 1))) (wVar 1) (wC (.str "at")))
theorem walk_l_done {C_s : Unit}  {p_l_value : Sp3} {p_l_inside : Sp3} {p_l_ended : Sp3} {k : Nat} (T : Mg mg)  {f : Addr} (cdv : Value) (A : Around) (outer : List Env) (s : Shared) (H : Hp) (E : XK) (hr : Room (k + 1) (A.deeper (envOfC "_law_done" (defScope s_l_done) s.heap.objs.size f cdv))) (F_l_value : Fd P w K mg base G "_law_value" (k + 1) p_l_value) (F_l_inside : Fd P w K mg base G "_law_inside" (k + 1) p_l_inside) (F_l_ended : Fd P w K mg base G "_law_ended" (k + 1) p_l_ended) :
    PSs3 (CXF P w K mg base N_l_done "_law_done" s_l_done f cdv A outer s H E) G (defBody s_l_done) (W_l_done p_l_value p_l_inside p_l_ended) := by
  unfold W_l_done
  exact is_cons (is_if (it_cmp (rf_eq hr.units) (i_ix (i_var 2) (i_int)) (i_str)) (is_cons (is_dput (hu_of hr) (i_ix (i_bin rf_add (i_callT rf_listOf rfl T.list b_list (ia_cons (i_dget (hu_of hr) (i_var 0) (i_str)) (ia_nil))) (i_bin rf_mul (i_lst (ia_cons (i_int) (ia_nil))) (i_bin rf_add (i_dget (hu_of hr) (i_var 0) (i_str)) (i_int)))) (i_dget (hu_of hr) (i_var 0) (i_str))) (i_dget (hu_of hr) (i_var 1) (i_str)) (i_ix (i_var 2) (i_int))) (is_one (is_dput (hu_of hr) (i_bin rf_add (i_dget (hu_of hr) (i_var 0) (i_str)) (i_int)) (i_var 0) (i_str)))) (is_one (is_if (it_cmp (rf_eq hr.units) (i_ix (i_var 2) (i_int)) (i_str)) (is_cons (is_asg (i_call F_l_value hr (ia_cons (i_var 0) (ia_cons (i_ix (i_var 2) (i_int)) (ia_nil)))) (ig_name 3 nd_l_done)) (is_cons (is_asg (i_if (it_isN (i_var 3)) (i_non) (i_call F_l_value hr (ia_cons (i_var 0) (ia_cons (i_ix (i_var 2) (i_int)) (ia_nil))))) (ig_name 4 nd_l_done)) (is_cons (is_if (it_w (iw_or (it_isN (i_var 4)) (iw_or1 (it_not (it_val (i_call F_l_inside hr (ia_cons (i_var 0) (ia_cons (i_ix (i_var 2) (i_int)) (ia_cons (i_var 3) (ia_nil)))))))))) (is_one (is_retN)) (is_nil)) (is_one (is_asg (i_var 4) (ig_ix (i_dget (hu_of hr) (i_dget (hu_of hr) (i_var 0) (i_str)) (i_ix (i_var 2) (i_int))) (i_var 3))))))) (is_cons (is_asg (i_call F_l_value hr (ia_cons (i_var 0) (ia_cons (i_ix (i_var 2) (i_bin rf_sub (i_callB rf_len rfl T.len b_len (ia_cons (i_var 2) (ia_nil))) (i_int))) (ia_nil)))) (ig_name 4 nd_l_done)) (is_cons (is_if (it_isN (i_var 4)) (is_one (is_retN)) (is_nil)) (is_one (is_if (it_cmp (rf_eq hr.units) (i_ix (i_var 2) (i_int)) (i_str)) (is_one (is_dput (hu_of hr) (i_var 4) (i_dget (hu_of hr) (i_var 1) (i_str)) (i_ix (i_var 2) (i_int)))) (is_one (is_if (it_cmp (rf_eq hr.units) (i_ix (i_var 2) (i_int)) (i_str)) (is_one (is_expr (i_append (i_dget (hu_of hr) (i_var 0) (i_str)) (ia_cons (i_var 4) (ia_nil))))) (is_one (is_if (it_cmp (rf_eq hr.units) (i_var 4) (i_int)) (is_cons (is_expr (i_call F_l_ended hr (ia_cons (i_var 0) (ia_cons (i_tup (ia_cons (i_str) (ia_cons (i_ix (i_var 2) (i_int)) (ia_nil)))) (ia_nil))))) (is_one (is_retN))) (is_nil)))))))))))) (is_one (is_dput (hu_of hr) (i_bin rf_add (i_dget (hu_of hr) (i_var 1) (i_str)) (i_int)) (i_var 1) (i_str)))
/-! ### _law_left -/
abbrev s_l_left : Stmt := top 43
abbrev N_l_left : List Str := ["m", "here", "end", "x", "label", "old"]
theorem sc_l_left : FnScope N_l_left ["m", "here", "end"] (defScope s_l_left) := ⟨rfl, rfl, rfl, by decide +kernel, rfl, by decide +kernel, by decide +kernel⟩
theorem nd_l_left : N_l_left.Nodup := sc_l_left.nd
def W_l_left  (p_l_value : Sp3) (p_l_ended : Sp3) (p_l_begin : Sp3) : WS := wSeq (wAsg (wIf (wB (w2 rEq (w2 rIx (wVar 2) (wC (.int 0))) (wC (.str "go")))) (wC (.int 0)) (wL p_l_value (wCons (wVar 0) (wCons (w2 rIx (wVar 2) (wC (.int 1))) (wNil))))) (gN 3)) (wSeq (wIfS (wB (w1 (rIsN false) (wVar 3))) (wRetN) (wNext)) (wSeq (wIfS (wB (w2 rEq (w2 rIx (wVar 2) (wC (.int 0))) (wC (.str "return")))) (wSeq (wDrop (wPop (w2 rDGet (wVar 0) (wC (.str "open"))))) (wSeq (wIfS (wB (w2 rEqNil (w2 rDGet (wVar 0) (wC (.str "open"))) (wL rLst (wNil)))) (wDrop (wL p_l_ended (wCons (wVar 0) (wCons (wL rTup (wCons (wC (.str "return")) (wCons (wVar 3) (wNil)))) (wNil))))) (wDPut (wVar 3) (w2 rDGet (w2 rIx (w2 rDGet (wVar 0) (wC (.str "open"))) (w1 rNeg (wC (.int 1)))) (wC (.str "words"))) (w2 rDGet (wVar 1) (wC (.str "gives"))))) (wRetN))) (wNext)) (wSeq (wAsg (wIf (wB (w2 rEq (w2 rIx (wVar 2) (wC (.int 0))) (wC (.str "go")))) (w2 rIx (wVar 2) (wC (.int 1))) (wIf (wB (w2 rNe (wVar 3) (wC (.int 0)))) (w2 rIx (wVar 2) (wC (.int 2))) (w2 rIx (wVar 2) (wC (.int 3))))) (gN 4)) (wSeq (wAsg (w2 rDGet (wVar 1) (wC (.str "label"))) (gN 5)) (wSeq (wDPut (wVar 4) (wVar 1) (wC (.str "label"))) (wSeq (wDPut (wC (.int 0)) (wVar 1) (wC (.str "at"))) (wIfS (wB (wL p_l_begin (wCons (wVar 0) (wCons (wVar 1) (wNil))))) (wDrop (wAppend (w2 rDGet (wVar 0) (wC (.str "items"))) (wCons (wL rTup (wCons (wC (.str "edge")) (wCons (w2 rDGet (wVar 1) (wC (.str "name"))) (wCons (wVar 5) (wCons (wVar 4) (wNil)))))) (wNil)))) (wNext))))))))
theorem walk_l_left {C_s : Unit}  {p_l_value : Sp3} {p_l_ended : Sp3} {p_l_begin : Sp3} {k : Nat} (T : Mg mg)  {f : Addr} (cdv : Value) (A : Around) (outer : List Env) (s : Shared) (H : Hp) (E : XK) (hr : Room (k + 1) (A.deeper (envOfC "_law_left" (defScope s_l_left) s.heap.objs.size f cdv))) (F_l_value : Fd P w K mg base G "_law_value" (k + 1) p_l_value) (F_l_ended : Fd P w K mg base G "_law_ended" (k + 1) p_l_ended) (F_l_begin : Fd P w K mg base G "_law_begin" (k + 1) p_l_begin) :
    PSs3 (CXF P w K mg base N_l_left "_law_left" s_l_left f cdv A outer s H E) G (defBody s_l_left) (W_l_left p_l_value p_l_ended p_l_begin) := by
  unfold W_l_left
  exact is_cons (is_asg (i_if (it_cmp (rf_eq hr.units) (i_ix (i_var 2) (i_int)) (i_str)) (i_int) (i_call F_l_value hr (ia_cons (i_var 0) (ia_cons (i_ix (i_var 2) (i_int)) (ia_nil))))) (ig_name 3 nd_l_left)) (is_cons (is_if (it_isN (i_var 3)) (is_one (is_retN)) (is_nil)) (is_cons (is_if (it_cmp (rf_eq hr.units) (i_ix (i_var 2) (i_int)) (i_str)) (is_cons (is_expr (i_pop (i_dget (hu_of hr) (i_var 0) (i_str)))) (is_cons (is_if (it_cmp (rf_eqNil hr.units) (i_dget (hu_of hr) (i_var 0) (i_str)) (i_lst (ia_nil))) (is_one (is_expr (i_call F_l_ended hr (ia_cons (i_var 0) (ia_cons (i_tup (ia_cons (i_str) (ia_cons (i_var 3) (ia_nil)))) (ia_nil)))))) (is_one (is_dput (hu_of hr) (i_var 3) (i_dget (hu_of hr) (i_ix (i_dget (hu_of hr) (i_var 0) (i_str)) (i_un rf_neg' (i_int))) (i_str)) (i_dget (hu_of hr) (i_var 1) (i_str))))) (is_one (is_retN)))) (is_nil)) (is_cons (is_asg (i_if (it_cmp (rf_eq hr.units) (i_ix (i_var 2) (i_int)) (i_str)) (i_ix (i_var 2) (i_int)) (i_if (it_cmp (rf_ne hr.units) (i_var 3) (i_int)) (i_ix (i_var 2) (i_int)) (i_ix (i_var 2) (i_int)))) (ig_name 4 nd_l_left)) (is_cons (is_asg (i_dget (hu_of hr) (i_var 1) (i_str)) (ig_name 5 nd_l_left)) (is_cons (is_dput (hu_of hr) (i_var 4) (i_var 1) (i_str)) (is_cons (is_dput (hu_of hr) (i_int) (i_var 1) (i_str)) (is_one (is_if (it_val (i_call F_l_begin hr (ia_cons (i_var 0) (ia_cons (i_var 1) (ia_nil))))) (is_one (is_expr (i_append (i_dget (hu_of hr) (i_var 0) (i_str)) (ia_cons (i_tup (ia_cons (i_str) (ia_cons (i_dget (hu_of hr) (i_var 1) (i_str)) (ia_cons (i_var 5) (ia_cons (i_var 4) (ia_nil)))))) (ia_nil))))) (is_nil)))))))))
/-! ### _law_run -/
abbrev s_l_run : Stmt := top 44
abbrev N_l_run : List Str := ["program", "inputs", "steps", "cells", "name", "size", "first", "here", "m", "block", "row"]
theorem sc_l_run : FnScope N_l_run ["program", "inputs", "steps"] (defScope s_l_run) := ⟨rfl, rfl, rfl, by decide +kernel, rfl, by decide +kernel, by decide +kernel⟩
theorem nd_l_run : N_l_run.Nodup := sc_l_run.nd
def W_l_run  (p_l_begin : Sp3) (p_l_body : Sp3) (p_l_left : Sp3) (p_l_called : Sp3) (p_l_done : Sp3) : WS := wSeq (wAsg (wDNewK) (gN 3)) (wSeq (wFor (wIter (w2 rIx (wVar 0) (wC (.int 1)))) (gT [gN 4, gN 5]) (wDPut (w2 rMul (wL rLst (wCons (wC (.int 0)) (wNil))) (wVar 5)) (wVar 3) (wVar 4))) (wSeq (wAsg (w2 rIx (w2 rIx (w2 rIx (w2 rIx (wLc (wIter (w2 rIx (wVar 0) (wC (.int 2)))) 10 (wB (w2 rEq (w2 rIx (wVar 10) (wC (.int 0))) (wC (.str "main")))) (wVar 10)) (wC (.int 0))) (wC (.int 2))) (wC (.int 0))) (wC (.int 0))) (gN 6)) (wSeq (wAsg (wDisp (ppsCons (wC (.str "name")) (wC (.str "main")) (ppsCons (wC (.str "label")) (wVar 6) (ppsCons (wC (.str "at")) (wC (.int 0)) (ppsCons (wC (.str "words")) (wDNewK) (ppsCons (wC (.str "gives")) (wC (.int 0)) (ppsNil))))))) (gN 7)) (wSeq (wAsg (wDisp (ppsCons (wC (.str "program")) (wVar 0) (ppsCons (wC (.str "inputs")) (wVar 1) (ppsCons (wC (.str "steps")) (wVar 2) (ppsCons (wC (.str "used")) (wC (.int 0)) (ppsCons (wC (.str "cells")) (wVar 3) (ppsCons (wC (.str "writes")) (wL rLst (wNil)) (ppsCons (wC (.str "path")) (wL rLst (wNil)) (ppsCons (wC (.str "items")) (wL rLst (wNil)) (ppsCons (wC (.str "open")) (wL rLst (wCons (wVar 7) (wNil))) (ppsCons (wC (.str "end")) (wC .non) (ppsNil)))))))))))) (gN 8)) (wSeq (wDrop (wL p_l_begin (wCons (wVar 8) (wCons (wVar 7) (wNil))))) (wSeq (wWhile (wB (w1 (rIsN false) (w2 rDGet (wVar 8) (wC (.str "end"))))) (wSeq (wAsg (w2 rIx (w2 rDGet (wVar 8) (wC (.str "open"))) (w1 rNeg (wC (.int 1)))) (gN 7)) (wSeq (wAsg (wL p_l_body (wCons (wVar 8) (wCons (wVar 7) (wNil)))) (gN 9)) (wIfS (wB (w2 rGe (w2 rDGet (wVar 7) (wC (.str "at"))) (wL rLen (wCons (w2 rIx (wVar 9) (wC (.int 1))) (wNil))))) (wDrop (wL p_l_left (wCons (wVar 8) (wCons (wVar 7) (wCons (w2 rIx (wVar 9) (wC (.int 2))) (wNil)))))) (wIfS (wB (w2 rEq (w2 rIx (w2 rIx (w2 rIx (wVar 9) (wC (.int 1))) (w2 rDGet (wVar 7) (wC (.str "at")))) (wC (.int 0))) (wC (.str "call")))) (wDrop (wL p_l_called (wCons (wVar 8) (wCons (wVar 7) (wCons (w2 rIx (w2 rIx (wVar 9) (wC (.int 1))) (w2 rDGet (wVar 7) (wC (.str "at")))) (wNil)))))) (wDrop (wL p_l_done (wCons (wVar 8) (wCons (wVar 7) (wCons (w2 rIx (w2 rIx (wVar 9) (wC (.int 1))) (w2 rDGet (wVar 7) (wC (.str "at")))) (wNil))))))))))) (wRet (wL rTup (wCons (wL rTupleOf (wCons (w2 rDGet (wVar 8) (wC (.str "writes"))) (wNil))) (wCons (w2 rDGet (wVar 8) (wC (.str "end"))) (wCons (wL rTupleOf (wCons (w2 rDGet (wVar 8) (wC (.str "path"))) (wNil))) (wCons (wL rTupleOf (wCons (w1 rSortSet (w2 rDGet (wVar 8) (wC (.str "items")))) (wNil))) (wNil)))))))))))))
theorem walk_l_run {C_s : Unit}  {p_l_begin : Sp3} {p_l_body : Sp3} {p_l_left : Sp3} {p_l_called : Sp3} {p_l_done : Sp3} {k : Nat} (T : Mg mg)  {f : Addr} (cdv : Value) (A : Around) (outer : List Env) (s : Shared) (H : Hp) (E : XK) (hr : Room (k + 1) (A.deeper (envOfC "_law_run" (defScope s_l_run) s.heap.objs.size f cdv))) (F_l_begin : Fd P w K mg base G "_law_begin" (k + 1) p_l_begin) (F_l_body : Fd P w K mg base G "_law_body" (k + 1) p_l_body) (F_l_left : Fd P w K mg base G "_law_left" (k + 1) p_l_left) (F_l_called : Fd P w K mg base G "_law_called" (k + 1) p_l_called) (F_l_done : Fd P w K mg base G "_law_done" (k + 1) p_l_done) :
    PSs3 (CXF P w K mg base N_l_run "_law_run" s_l_run f cdv A outer s H E) G (defBody s_l_run) (W_l_run p_l_begin p_l_body p_l_left p_l_called p_l_done) := by
  unfold W_l_run
  exact is_cons (is_asg (i_dnewK) (ig_name 3 nd_l_run)) (is_cons (is_for PassesOwn.never rfl (ii_any (i_ix (i_var 0) (i_int))) (ig_tup rfl (igs_cons (ig_name 4 nd_l_run) (igs_cons (ig_name 5 nd_l_run) (igs_nil)))) (is_one (is_dput (hu_of hr) (i_bin rf_mul (i_lst (ia_cons (i_int) (ia_nil))) (i_var 5)) (i_var 3) (i_var 4)))) (is_cons (is_asg (i_ix (i_ix (i_ix (i_ix (i_lc 10 rfl nd_l_run (blkOk_by (N := N_l_run) (sc := defScope s_l_run) (by decide +kernel)) (ii_any (i_ix (i_var 0) (i_int))) (fun _ _ _ _ _ => pg_name (i := 10) nd_l_run rfl (Or.inl rfl)) (fun _ _ _ _ _ => its_one (it_cmp (rf_eq hr.units) (i_ix (i_var 10) (i_int)) (i_str))) (fun _ _ _ _ _ => i_var 10)) (i_int)) (i_int)) (i_int)) (i_int)) (ig_name 6 nd_l_run)) (is_cons (is_asg (i_disp (ipps_cons (i_str) (i_str) (ipps_cons (i_str) (i_var 6) (ipps_cons (i_str) (i_int) (ipps_cons (i_str) (i_dnewK) (ipps_cons (i_str) (i_int) (ipps_nil))))))) (ig_name 7 nd_l_run)) (is_cons (is_asg (i_disp (ipps_cons (i_str) (i_var 0) (ipps_cons (i_str) (i_var 1) (ipps_cons (i_str) (i_var 2) (ipps_cons (i_str) (i_int) (ipps_cons (i_str) (i_var 3) (ipps_cons (i_str) (i_lst (ia_nil)) (ipps_cons (i_str) (i_lst (ia_nil)) (ipps_cons (i_str) (i_lst (ia_nil)) (ipps_cons (i_str) (i_lst (ia_cons (i_var 7) (ia_nil))) (ipps_cons (i_str) (i_non) (ipps_nil)))))))))))) (ig_name 8 nd_l_run)) (is_cons (is_expr (i_call F_l_begin hr (ia_cons (i_var 8) (ia_cons (i_var 7) (ia_nil))))) (is_cons (is_while PassesOwn.never (it_isN (i_dget (hu_of hr) (i_var 8) (i_str))) (is_cons (is_asg (i_ix (i_dget (hu_of hr) (i_var 8) (i_str)) (i_un rf_neg' (i_int))) (ig_name 7 nd_l_run)) (is_cons (is_asg (i_call F_l_body hr (ia_cons (i_var 8) (ia_cons (i_var 7) (ia_nil)))) (ig_name 9 nd_l_run)) (is_one (is_if (it_cmp rf_ge (i_dget (hu_of hr) (i_var 7) (i_str)) (i_callB rf_len rfl T.len b_len (ia_cons (i_ix (i_var 9) (i_int)) (ia_nil)))) (is_one (is_expr (i_call F_l_left hr (ia_cons (i_var 8) (ia_cons (i_var 7) (ia_cons (i_ix (i_var 9) (i_int)) (ia_nil))))))) (is_one (is_if (it_cmp (rf_eq hr.units) (i_ix (i_ix (i_ix (i_var 9) (i_int)) (i_dget (hu_of hr) (i_var 7) (i_str))) (i_int)) (i_str)) (is_one (is_expr (i_call F_l_called hr (ia_cons (i_var 8) (ia_cons (i_var 7) (ia_cons (i_ix (i_ix (i_var 9) (i_int)) (i_dget (hu_of hr) (i_var 7) (i_str))) (ia_nil))))))) (is_one (is_expr (i_call F_l_done hr (ia_cons (i_var 8) (ia_cons (i_var 7) (ia_cons (i_ix (i_ix (i_var 9) (i_int)) (i_dget (hu_of hr) (i_var 7) (i_str))) (ia_nil)))))))))))))) (is_one (is_ret (i_tup (ia_cons (i_callT rf_tupleOf rfl T.tuple b_tuple (ia_cons (i_dget (hu_of hr) (i_var 8) (i_str)) (ia_nil))) (ia_cons (i_dget (hu_of hr) (i_var 8) (i_str)) (ia_cons (i_callT rf_tupleOf rfl T.tuple b_tuple (ia_cons (i_dget (hu_of hr) (i_var 8) (i_str)) (ia_nil))) (ia_cons (i_callT rf_tupleOf rfl T.tuple b_tuple (ia_cons (i_sortSet rfl (room70 hr) rfl T.sorted rfl T.set (i_dget (hu_of hr) (i_var 8) (i_str))) (ia_nil))) (ia_nil))))))))))))))
/-! ### _law_has_cell -/
abbrev s_l_has_cell : Stmt := top 45
abbrev N_l_has_cell : List Str := ["part", "other"]
theorem sc_l_has_cell : FnScope N_l_has_cell ["part"] (defScope s_l_has_cell) := ⟨rfl, rfl, rfl, by decide +kernel, rfl, by decide +kernel, by decide +kernel⟩
theorem nd_l_has_cell : N_l_has_cell.Nodup := sc_l_has_cell.nd
def W_l_has_cell  (p_l_has_cell : Sp3) : WS := wSeq (wIfS (wOr (wNot (wB (w1 (rIsi .tuple) (wVar 0)))) (wB (w2 rEq (wVar 0) (wL rTup (wNil))))) (wRet (wC (.bl false))) (wNext)) (wRet (wOrV (w2 rEq (w2 rIx (wVar 0) (wC (.int 0))) (wC (.str "cell"))) (w2 rNe (wLc (wIter (wVar 0)) 1 (wB (wL p_l_has_cell (wCons (wVar 1) (wNil)))) (wC (.int 1))) (wL rLst (wNil)))))
theorem walk_l_has_cell {C_s : Unit}  {p_l_has_cell : Sp3} {k : Nat} (T : Mg mg)  {f : Addr} (cdv : Value) (A : Around) (outer : List Env) (s : Shared) (H : Hp) (E : XK) (hr : Room (k + 1) (A.deeper (envOfC "_law_has_cell" (defScope s_l_has_cell) s.heap.objs.size f cdv))) (F_l_has_cell : Fd P w K mg base G "_law_has_cell" (k + 1) p_l_has_cell) :
    PSs3 (CXF P w K mg base N_l_has_cell "_law_has_cell" s_l_has_cell f cdv A outer s H E) G (defBody s_l_has_cell) (W_l_has_cell p_l_has_cell) := by
  unfold W_l_has_cell
  exact is_cons (is_if (it_w (iw_or (it_not (it_val (i_isi .tuple rfl T.isinstance b_isinstance rfl T.tuple b_tuple (i_var 0)))) (iw_or1 (it_cmp (rf_eq hr.units) (i_var 0) (i_tup (ia_nil)))))) (is_one (is_ret (i_bl))) (is_nil)) (is_one (is_ret (i_or (i_cmp (rf_eq hr.units) (i_ix (i_var 0) (i_int)) (i_str)) (i_one (i_cmp (rf_ne hr.units) (i_lc 1 rfl nd_l_has_cell (blkOk_by (N := N_l_has_cell) (sc := defScope s_l_has_cell) (by decide +kernel)) (ii_any (i_var 0)) (fun _ _ _ _ _ => pg_name (i := 1) nd_l_has_cell rfl (Or.inl rfl)) (fun _ _ _ _ _ => its_one (it_val (i_call F_l_has_cell hr (ia_cons (i_var 1) (ia_nil))))) (fun _ _ _ _ _ => i_int)) (i_lst (ia_nil)))))))
/-! ### _law_items -/
abbrev s_l_items : Stmt := top 46
abbrev N_l_items : List Str := ["program", "found", "name", "params", "blocks", "label", "body", "end", "at", "row", "aim"]
theorem sc_l_items : FnScope N_l_items ["program"] (defScope s_l_items) := ⟨rfl, rfl, rfl, by decide +kernel, rfl, by decide +kernel, by decide +kernel⟩
theorem nd_l_items : N_l_items.Nodup := sc_l_items.nd
def W_l_items  (p_l_has_cell : Sp3) : WS := wSeq (wAsg (wL rLst (wNil)) (gN 1)) (wSeq (wFor (wIter (w2 rIx (wVar 0) (wC (.int 2)))) (gT [gN 2, gN 3, gN 4]) (wFor (wIter (wVar 4)) (gT [gN 5, gN 6, gN 7]) (wSeq (wDrop (wAppend (wVar 1) (wCons (wL rTup (wCons (wC (.str "block")) (wCons (wVar 2) (wCons (wVar 5) (wNil))))) (wNil)))) (wSeq (wAsg (w2 rAdd (wVar 1) (wLc (wIter (wDGet2 (wDisp (ppsCons (wC (.str "go")) (wL rLst (wCons (w2 rIx (wVar 7) (wC (.int 1))) (wNil))) (ppsCons (wC (.str "if")) (wL rListOf (wCons (wSl (wVar 7) (oSome (wC (.int 2))) (oNone)) (wNil))) (ppsNil)))) (w2 rIx (wVar 7) (wC (.int 0))) (wL rLst (wNil)))) 10 (wYes) (wL rTup (wCons (wC (.str "edge")) (wCons (wVar 2) (wCons (wVar 5) (wCons (wVar 10) (wNil)))))))) (gN 1)) (wSeq (wFor (wRg1 (wCons (wL rLen (wCons (wVar 6) (wNil))) (wNil))) (gN 8) (wSeq (wAsg (w2 rIx (wVar 6) (wVar 8)) (gN 9)) (wSeq (wIfS (wB (w2 rEq (w2 rIx (wVar 9) (wC (.int 0))) (wC (.str "assert")))) (wDrop (wAppend (wVar 1) (wCons (wL rTup (wCons (wC (.str "broken")) (wCons (w2 rIx (wVar 9) (wC (.int 1))) (wNil)))) (wNil)))) (wNext)) (wSeq (wIfS (wB (w2 rEq (w2 rIx (wVar 9) (wC (.int 0))) (wC (.str "call")))) (wDrop (wAppend (wVar 1) (wCons (wL rTup (wCons (wC (.str "deep")) (wCons (wVar 2) (wCons (wVar 5) (wCons (wVar 8) (wNil)))))) (wNil)))) (wNext)) (wIfS (wOr (wB (w2 rEq (w2 rIx (wVar 9) (wC (.int 0))) (wC (.str "store")))) (wB (wL p_l_has_cell (wCons (wVar 9) (wNil))))) (wDrop (wAppend (wVar 1) (wCons (wL rTup (wCons (wC (.str "index")) (wCons (wVar 2) (wCons (wVar 5) (wCons (wVar 8) (wNil)))))) (wNil)))) (wNext)))))) (wIfS (wB (wL p_l_has_cell (wCons (wVar 7) (wNil)))) (wDrop (wAppend (wVar 1) (wCons (wL rTup (wCons (wC (.str "index")) (wCons (wVar 2) (wCons (wVar 5) (wCons (w1 rNeg (wC (.int 1))) (wNil)))))) (wNil)))) (wNext))))))) (wRet (wL rTupleOf (wCons (w1 rSortSet (wVar 1)) (wNil)))))
theorem walk_l_items {C_s : Unit}  {p_l_has_cell : Sp3} {k : Nat} (T : Mg mg)  {f : Addr} (cdv : Value) (A : Around) (outer : List Env) (s : Shared) (H : Hp) (E : XK) (hr : Room (k + 1) (A.deeper (envOfC "_law_items" (defScope s_l_items) s.heap.objs.size f cdv))) (F_l_has_cell : Fd P w K mg base G "_law_has_cell" (k + 1) p_l_has_cell) :
    PSs3 (CXF P w K mg base N_l_items "_law_items" s_l_items f cdv A outer s H E) G (defBody s_l_items) (W_l_items p_l_has_cell) := by
  unfold W_l_items
  exact is_cons (is_asg (i_lst (ia_nil)) (ig_name 1 nd_l_items)) (is_cons (is_for PassesOwn.never rfl (ii_any (i_ix (i_var 0) (i_int))) (ig_tup rfl (igs_cons (ig_name 2 nd_l_items) (igs_cons (ig_name 3 nd_l_items) (igs_cons (ig_name 4 nd_l_items) (igs_nil))))) (is_one (is_for PassesOwn.never rfl (ii_any (i_var 4)) (ig_tup rfl (igs_cons (ig_name 5 nd_l_items) (igs_cons (ig_name 6 nd_l_items) (igs_cons (ig_name 7 nd_l_items) (igs_nil))))) (is_cons (is_expr (i_append (i_var 1) (ia_cons (i_tup (ia_cons (i_str) (ia_cons (i_var 2) (ia_cons (i_var 5) (ia_nil))))) (ia_nil)))) (is_cons (is_asg (i_bin rf_add (i_var 1) (i_lc 10 rfl nd_l_items (blkOk_by (N := N_l_items) (sc := defScope s_l_items) (by decide +kernel)) (ii_any (i_dget2 (hu_of hr) (i_disp (ipps_cons (i_str) (i_lst (ia_cons (i_ix (i_var 7) (i_int)) (ia_nil))) (ipps_cons (i_str) (i_callT rf_listOf rfl T.list b_list (ia_cons (i_sl (i_var 7) (io_some (i_int)) (io_none)) (ia_nil))) (ipps_nil)))) (i_ix (i_var 7) (i_int)) (i_lst (ia_nil)))) (fun _ _ _ _ _ => pg_name (i := 10) nd_l_items rfl (Or.inl rfl)) (fun _ _ _ _ _ => its_nil) (fun _ _ _ _ _ => i_tup (ia_cons (i_str) (ia_cons (i_var 2) (ia_cons (i_var 5) (ia_cons (i_var 10) (ia_nil)))))))) (ig_name 1 nd_l_items)) (is_cons (is_for PassesOwn.never rfl (ii_rg1 rfl T.range (ia_cons (i_callB rf_len rfl T.len b_len (ia_cons (i_var 6) (ia_nil))) (ia_nil))) (ig_name 8 nd_l_items) (is_cons (is_asg (i_ix (i_var 6) (i_var 8)) (ig_name 9 nd_l_items)) (is_cons (is_if (it_cmp (rf_eq hr.units) (i_ix (i_var 9) (i_int)) (i_str)) (is_one (is_expr (i_append (i_var 1) (ia_cons (i_tup (ia_cons (i_str) (ia_cons (i_ix (i_var 9) (i_int)) (ia_nil)))) (ia_nil))))) (is_nil)) (is_cons (is_if (it_cmp (rf_eq hr.units) (i_ix (i_var 9) (i_int)) (i_str)) (is_one (is_expr (i_append (i_var 1) (ia_cons (i_tup (ia_cons (i_str) (ia_cons (i_var 2) (ia_cons (i_var 5) (ia_cons (i_var 8) (ia_nil)))))) (ia_nil))))) (is_nil)) (is_one (is_if (it_w (iw_or (it_cmp (rf_eq hr.units) (i_ix (i_var 9) (i_int)) (i_str)) (iw_or1 (it_val (i_call F_l_has_cell hr (ia_cons (i_var 9) (ia_nil))))))) (is_one (is_expr (i_append (i_var 1) (ia_cons (i_tup (ia_cons (i_str) (ia_cons (i_var 2) (ia_cons (i_var 5) (ia_cons (i_var 8) (ia_nil)))))) (ia_nil))))) (is_nil))))))) (is_one (is_if (it_val (i_call F_l_has_cell hr (ia_cons (i_var 7) (ia_nil)))) (is_one (is_expr (i_append (i_var 1) (ia_cons (i_tup (ia_cons (i_str) (ia_cons (i_var 2) (ia_cons (i_var 5) (ia_cons (i_un rf_neg' (i_int)) (ia_nil)))))) (ia_nil))))) (is_nil))))))))) (is_one (is_ret (i_callT rf_tupleOf rfl T.tuple b_tuple (ia_cons (i_sortSet rfl (room70 hr) rfl T.sorted rfl T.set (i_var 1)) (ia_nil))))))
/-! ### _law_ring -/
abbrev s_l_ring : Stmt := top 47
abbrev N_l_ring : List Str := ["draw", "w", "body", "rows", "main"]
theorem sc_l_ring : FnScope N_l_ring ["draw", "w"] (defScope s_l_ring) := ⟨rfl, rfl, rfl, by decide +kernel, rfl, by decide +kernel, by decide +kernel⟩
theorem nd_l_ring : N_l_ring.Nodup := sc_l_ring.nd
def W_l_ring  (p_l_take : Sp3) : WS := wSeq (wAsg (wL rTup (wCons (wL rTup (wCons (wC (.str "put")) (wCons (wL rTup (wCons (wC (.str "var")) (wCons (wC (.int 0)) (wNil)))) (wNil)))) (wCons (wL rTup (wCons (wC (.str "call")) (wCons (wC (.int 1)) (wCons (wC (.str "aid")) (wCons (wL rTup (wCons (wL rTup (wCons (wC (.str "add")) (wCons (wL rTup (wCons (wC (.str "var")) (wCons (wC (.int 0)) (wNil)))) (wCons (wL rTup (wCons (wC (.str "int")) (wCons (wC (.int 1)) (wNil)))) (wNil))))) (wNil))) (wNil)))))) (wNil)))) (gN 2)) (wSeq (wAsg (wL rLst (wCons (wL rTup (wCons (wC (.str "take")) (wCons (wC (.int 0)) (wNil)))) (wCons (wL rTup (wCons (wC (.str "call")) (wCons (wC (.int 2)) (wCons (wC (.str "aid")) (wCons (wL rTup (wCons (wL rTup (wCons (wC (.str "var")) (wCons (wC (.int 0)) (wNil)))) (wNil))) (wNil)))))) (wCons (wL rTup (wCons (wC (.str "put")) (wCons (wL rTup (wCons (wC (.str "var")) (wCons (wC (.int 2)) (wNil)))) (wNil)))) (wNil))))) (gN 3)) (wSeq (wAsg (wL rTup (wCons (wC (.str "main")) (wCons (wC (.int 0)) (wCons (wL rTup (wCons (wL rTup (wCons (wC (.int 3)) (wCons (wL rTupleOf (wCons (wSl (wVar 3) (oSome (wL p_l_take (wCons (wVar 0) (wCons (wC (.int 2)) (wNil))))) (oNone)) (wNil))) (wCons (wL rTup (wCons (wC (.str "return")) (wCons (wL rTup (wCons (wC (.str "var")) (wCons (wC (.int 2)) (wNil)))) (wNil)))) (wNil))))) (wNil))) (wNil))))) (gN 4)) (wRet (wL rTup (wCons (wVar 1) (wCons (wL rTup (wNil)) (wCons (wL rTup (wCons (wL rTup (wCons (wC (.str "aid")) (wCons (wC (.int 1)) (wCons (wL rTup (wCons (wL rTup (wCons (wC (.int 0)) (wCons (wVar 2) (wCons (wL rTup (wCons (wC (.str "return")) (wCons (wL rTup (wCons (wC (.str "var")) (wCons (wC (.int 1)) (wNil)))) (wNil)))) (wNil))))) (wNil))) (wNil))))) (wCons (wVar 4) (wNil)))) (wNil))))))))
theorem walk_l_ring {C_s : Unit}  {p_l_take : Sp3} {k : Nat} (T : Mg mg)  {f : Addr} (cdv : Value) (A : Around) (outer : List Env) (s : Shared) (H : Hp) (E : XK) (hr : Room (k + 1) (A.deeper (envOfC "_law_ring" (defScope s_l_ring) s.heap.objs.size f cdv))) (F_l_take : Fd P w K mg base G "_law_take" (k + 1) p_l_take) :
    PSs3 (CXF P w K mg base N_l_ring "_law_ring" s_l_ring f cdv A outer s H E) G (defBody s_l_ring) (W_l_ring p_l_take) := by
  unfold W_l_ring
  exact is_cons (is_asg (i_tup (ia_cons (i_tup (ia_cons (i_str) (ia_cons (i_tup (ia_cons (i_str) (ia_cons (i_int) (ia_nil)))) (ia_nil)))) (ia_cons (i_tup (ia_cons (i_str) (ia_cons (i_int) (ia_cons (i_str) (ia_cons (i_tup (ia_cons (i_tup (ia_cons (i_str) (ia_cons (i_tup (ia_cons (i_str) (ia_cons (i_int) (ia_nil)))) (ia_cons (i_tup (ia_cons (i_str) (ia_cons (i_int) (ia_nil)))) (ia_nil))))) (ia_nil))) (ia_nil)))))) (ia_nil)))) (ig_name 2 nd_l_ring)) (is_cons (is_asg (i_lst (ia_cons (i_tup (ia_cons (i_str) (ia_cons (i_int) (ia_nil)))) (ia_cons (i_tup (ia_cons (i_str) (ia_cons (i_int) (ia_cons (i_str) (ia_cons (i_tup (ia_cons (i_tup (ia_cons (i_str) (ia_cons (i_int) (ia_nil)))) (ia_nil))) (ia_nil)))))) (ia_cons (i_tup (ia_cons (i_str) (ia_cons (i_tup (ia_cons (i_str) (ia_cons (i_int) (ia_nil)))) (ia_nil)))) (ia_nil))))) (ig_name 3 nd_l_ring)) (is_cons (is_asg (i_tup (ia_cons (i_str) (ia_cons (i_int) (ia_cons (i_tup (ia_cons (i_tup (ia_cons (i_int) (ia_cons (i_callT rf_tupleOf rfl T.tuple b_tuple (ia_cons (i_sl (i_var 3) (io_some (i_call F_l_take hr (ia_cons (i_var 0) (ia_cons (i_int) (ia_nil))))) (io_none)) (ia_nil))) (ia_cons (i_tup (ia_cons (i_str) (ia_cons (i_tup (ia_cons (i_str) (ia_cons (i_int) (ia_nil)))) (ia_nil)))) (ia_nil))))) (ia_nil))) (ia_nil))))) (ig_name 4 nd_l_ring)) (is_one (is_ret (i_tup (ia_cons (i_var 1) (ia_cons (i_tup (ia_nil)) (ia_cons (i_tup (ia_cons (i_tup (ia_cons (i_str) (ia_cons (i_int) (ia_cons (i_tup (ia_cons (i_tup (ia_cons (i_int) (ia_cons (i_var 2) (ia_cons (i_tup (ia_cons (i_str) (ia_cons (i_tup (ia_cons (i_str) (ia_cons (i_int) (ia_nil)))) (ia_nil)))) (ia_nil))))) (ia_nil))) (ia_nil))))) (ia_cons (i_var 4) (ia_nil)))) (ia_nil)))))))))
/-! ### law -/
abbrev s_law : Stmt := top 48
abbrev N_law : List Str := ["script", "draw", "w", "program", "before", "turn", "inputs", "steps", "writes", "end", "path", "items", "k", "item"]
theorem sc_law : FnScope N_law ["script"] (defScope s_law) := ⟨rfl, rfl, rfl, by decide +kernel, rfl, by decide +kernel, by decide +kernel⟩
theorem nd_law : N_law.Nodup := sc_law.nd
def W_law  (p_l_draw : Sp3) (p_l_take : Sp3) (p_l_program : Sp3) (p_l_ring : Sp3) (p_items_of : Sp3) (p_l_items : Sp3) (p_l_word : Sp3) (p_l_run : Sp3) (p_met : Sp3) (p_run : Sp3) : WS := wSeq (wAsg (wL p_l_draw (wCons (wVar 0) (wNil))) (gN 1)) (wSeq (wAsg (w2 rIx (wL rLst (wCons (wC (.int 1)) (wCons (wC (.int 2)) (wCons (wC (.int 3)) (wCons (wC (.int 8)) (wCons (wC (.int 16)) (wNil))))))) (wL p_l_take (wCons (wVar 1) (wCons (wC (.int 5)) (wNil))))) (gN 2)) (wSeq (wAsg (wL p_l_program (wCons (wVar 1) (wCons (wVar 2) (wCons (wC (.int 6)) (wCons (wC (.int 4)) (wNil)))))) (gN 3)) (wSeq (wIfS (wB (w2 rEq (wL p_l_take (wCons (wVar 1) (wCons (wC (.int 9)) (wNil)))) (wC (.int 0)))) (wAsg (wL p_l_ring (wCons (wVar 1) (wCons (wVar 2) (wNil)))) (gN 3)) (wNext)) (wSeq (wAsg (wL rRepr (wCons (wVar 3) (wNil))) (gN 4)) (wSeq (wIfS (wB (w2 rNe (wL p_items_of (wCons (wVar 3) (wNil))) (wL p_l_items (wCons (wVar 3) (wNil))))) (wRet (wC (.bl false))) (wNext)) (wSeq (wFor (wRg1 (wCons (wC (.int 3)) (wNil))) (gN 5) (wSeq (wAsg (wL rTupleOf (wCons (wLc (wRg1 (wCons (wL p_l_take (wCons (wVar 1) (wCons (wC (.int 6)) (wNil)))) (wNil))) 12 (wYes) (wL p_l_word (wCons (wVar 1) (wCons (wVar 2) (wNil))))) (wNil))) (gN 6)) (wSeq (wAsg (w2 rIx (wL rLst (wCons (wC (.int 0)) (wCons (wC (.int 1)) (wCons (wC (.int 60)) (wCons (wC (.int 60)) (wCons (wL p_l_take (wCons (wVar 1) (wCons (wC (.int 20)) (wNil)))) (wNil))))))) (wL p_l_take (wCons (wVar 1) (wCons (wC (.int 5)) (wNil))))) (gN 7)) (wSeq (wAsg (wL p_l_run (wCons (wVar 3) (wCons (wVar 6) (wCons (wVar 7) (wNil))))) (gT [gN 8, gN 9, gN 10, gN 11])) (wSeq (wIfS (wOr (wB (w2 rNe (wKw p_run (wCons (wVar 3) (wCons (wVar 6) (wNil))) (wCons (wVar 7) (wNil))) (wL rTup (wCons (wVar 8) (wCons (wVar 9) (wCons (wVar 10) (wNil))))))) (wB (w2 rNe (wKw p_met (wCons (wVar 3) (wCons (wVar 6) (wNil))) (wCons (wVar 7) (wNil))) (wVar 11)))) (wRet (wC (.bl false))) (wNext)) (wIfS (wB (w2 rNe (wLc (wIter (wVar 11)) 13 (wB (w2 (rIn true) (wVar 13) (wL p_l_items (wCons (wVar 3) (wNil))))) (wVar 13)) (wL rLst (wNil)))) (wRet (wC (.bl false))) (wNext))))))) (wRet (w2 rEq (wL rRepr (wCons (wVar 3) (wNil))) (wVar 4)))))))))
theorem walk_law {C_s : Unit}  {p_l_draw : Sp3} {p_l_take : Sp3} {p_l_program : Sp3} {p_l_ring : Sp3} {p_items_of : Sp3} {p_l_items : Sp3} {p_l_word : Sp3} {p_l_run : Sp3} {p_met : Sp3} {p_run : Sp3} {k : Nat} (T : Mg mg)  {f : Addr} (cdv : Value) (A : Around) (outer : List Env) (s : Shared) (H : Hp) (E : XK) (hr : Room (k + 1) (A.deeper (envOfC "law" (defScope s_law) s.heap.objs.size f cdv))) (hgd : A.guards = some []) (F_l_draw : Fd P w K mg base G "_law_draw" (k + 1) p_l_draw) (F_l_take : Fd P w K mg base G "_law_take" (k + 1) p_l_take) (F_l_program : Fd P w K mg base G "_law_program" (k + 1) p_l_program) (F_l_ring : Fd P w K mg base G "_law_ring" (k + 1) p_l_ring) (F_items_of : Fd P w K mg base G "items_of" (k + 1) p_items_of) (F_l_items : Fd P w K mg base G "_law_items" (k + 1) p_l_items) (F_l_word : Fd P w K mg base G "_law_word" (k + 1) p_l_word) (F_l_run : Fd P w K mg base G "_law_run" (k + 1) p_l_run) (F_met : FdK P w K mg base G "met" ["steps"] (k + 1) p_met) (F_run : FdK P w K mg base G "run" ["steps"] (k + 1) p_run) :
    PSs3 (CXF P w K mg base N_law "law" s_law f cdv A outer s H E) G (defBody s_law) (W_law p_l_draw p_l_take p_l_program p_l_ring p_items_of p_l_items p_l_word p_l_run p_met p_run) := by
  unfold W_law
  exact is_cons (is_asg (i_call F_l_draw hr (ia_cons (i_var 0) (ia_nil))) (ig_name 1 nd_law)) (is_cons (is_asg (i_ix (i_lst (ia_cons (i_int) (ia_cons (i_int) (ia_cons (i_int) (ia_cons (i_int) (ia_cons (i_int) (ia_nil))))))) (i_call F_l_take hr (ia_cons (i_var 1) (ia_cons (i_int) (ia_nil))))) (ig_name 2 nd_law)) (is_cons (is_asg (i_call F_l_program hr (ia_cons (i_var 1) (ia_cons (i_var 2) (ia_cons (i_int) (ia_cons (i_int) (ia_nil)))))) (ig_name 3 nd_law)) (is_cons (is_if (it_cmp (rf_eq hr.units) (i_call F_l_take hr (ia_cons (i_var 1) (ia_cons (i_int) (ia_nil)))) (i_int)) (is_one (is_asg (i_call F_l_ring hr (ia_cons (i_var 1) (ia_cons (i_var 2) (ia_nil)))) (ig_name 3 nd_law))) (is_nil)) (is_cons (is_asg (i_callB (rf_repr (room70 hr) hgd) rfl T.repr b_repr (ia_cons (i_var 3) (ia_nil))) (ig_name 4 nd_law)) (is_cons (is_if (it_cmp (rf_ne hr.units) (i_call F_items_of hr (ia_cons (i_var 3) (ia_nil))) (i_call F_l_items hr (ia_cons (i_var 3) (ia_nil)))) (is_one (is_ret (i_bl))) (is_nil)) (is_cons (is_for PassesOwn.never rfl (ii_rg1 rfl T.range (ia_cons (i_int) (ia_nil))) (ig_name 5 nd_law) (is_cons (is_asg (i_callT rf_tupleOf rfl T.tuple b_tuple (ia_cons (i_lc 12 rfl nd_law (blkOk_by (N := N_law) (sc := defScope s_law) (by decide +kernel)) (ii_rg1 rfl T.range (ia_cons (i_call F_l_take hr (ia_cons (i_var 1) (ia_cons (i_int) (ia_nil)))) (ia_nil))) (fun _ _ _ _ _ => pg_name (i := 12) nd_law rfl (Or.inl rfl)) (fun _ _ _ _ _ => its_nil) (fun _ _ _ _ _ => i_call F_l_word hr (ia_cons (i_var 1) (ia_cons (i_var 2) (ia_nil))))) (ia_nil))) (ig_name 6 nd_law)) (is_cons (is_asg (i_ix (i_lst (ia_cons (i_int) (ia_cons (i_int) (ia_cons (i_int) (ia_cons (i_int) (ia_cons (i_call F_l_take hr (ia_cons (i_var 1) (ia_cons (i_int) (ia_nil)))) (ia_nil))))))) (i_call F_l_take hr (ia_cons (i_var 1) (ia_cons (i_int) (ia_nil))))) (ig_name 7 nd_law)) (is_cons (is_asg (i_call F_l_run hr (ia_cons (i_var 3) (ia_cons (i_var 6) (ia_cons (i_var 7) (ia_nil))))) (ig_tup rfl (igs_cons (ig_name 8 nd_law) (igs_cons (ig_name 9 nd_law) (igs_cons (ig_name 10 nd_law) (igs_cons (ig_name 11 nd_law) (igs_nil))))))) (is_cons (is_if (it_w (iw_or (it_cmp (rf_ne hr.units) (i_callK F_run hr (ia_cons (i_var 3) (ia_cons (i_var 6) (ia_nil))) (ik_cons (i_var 7) (ik_nil))) (i_tup (ia_cons (i_var 8) (ia_cons (i_var 9) (ia_cons (i_var 10) (ia_nil)))))) (iw_or1 (it_cmp (rf_ne hr.units) (i_callK F_met hr (ia_cons (i_var 3) (ia_cons (i_var 6) (ia_nil))) (ik_cons (i_var 7) (ik_nil))) (i_var 11))))) (is_one (is_ret (i_bl))) (is_nil)) (is_one (is_if (it_cmp (rf_ne hr.units) (i_lc 13 rfl nd_law (blkOk_by (N := N_law) (sc := defScope s_law) (by decide +kernel)) (ii_any (i_var 11)) (fun _ _ _ _ _ => pg_name (i := 13) nd_law rfl (Or.inl rfl)) (fun _ _ _ _ _ => its_one (it_cmp (rf_notIn (room65 hr)) (i_var 13) (i_call F_l_items hr (ia_cons (i_var 3) (ia_nil))))) (fun _ _ _ _ _ => i_var 13)) (i_lst (ia_nil))) (is_one (is_ret (i_bl))) (is_nil)))))))) (is_one (is_ret (i_cmp (rf_eq hr.units) (i_callB (rf_repr (room70 hr) hgd) rfl T.repr b_repr (ia_cons (i_var 3) (ia_nil))) (i_var 4))))))))))
end
end Lk04
end
-- Q4S
section
set_option maxRecDepth 100000
set_option maxHeartbeats 4000000
namespace Lk04
open PySem PySem.Spec PyProof.Rows L2 T3
theorem ok_take : ∀ l h k, sp_take l h k → W_l_take (en k) (ev0 N_l_take l) h := by
  rintro l h k ⟨dr, many, rfl, ⟨c, ns, i, q, s, hd, hc, hi, hq, hs, hn⟩, hm, hb, post⟩
  have hcd := Drw.ne hd hc
  have fin : ∀ (i' q' s' : Int), -1 ≤ i' → 0 ≤ q' → 0 ≤ s' → 0 < many ∧ (0 < many ∧ (many < 1073741824 ∨ many.natAbs.log2 < 9000)) ∧ (en k).rt (.int (q' % many)) (up h dr (.lst [.ref c, .int i', .int (q' / many), .int s'])) := fun i' q' s' hi' hq' hs' =>
    ⟨hm, ⟨hm, hb⟩, en_rt (post _ _ (Int.emod_nonneg _ (by omega)) (Int.emod_lt_of_pos _ hm) (Grow.upd hd (Drw.mk' hcd hc hi' (Int.ediv_nonneg hq' (by omega)) hs' hn)))⟩
  have hs' : 0 ≤ (s * 48271 + 11) % 2147483647 := Int.emod_nonneg _ (by omega)
  simp [W_l_take, ev0, hd, up_ne hcd, hc]
  split
  · split
    · rename_i h0 h1
      have hx := atI_pos (l := ns.map D.int) (i := i + 1) (by omega) (by simpa using h1)
      have hpos : 0 ≤ ns[(i+1).toNat]'(by omega) := hn _ (List.getElem_mem _)
      simp [hx]
      split
      · exact fin _ _ _ (by omega) hs' hs'
      · exact fin _ _ _ (by omega) hpos hs
    · exact fin _ _ _ (by omega) hs' hs'
  · exact fin _ _ _ hi hq hs
theorem ok_top : ∀ l h k, sp_top l h k → W_l_top (en k) (ev0 N_l_top l) h := by
  rintro l h k ⟨w, rfl, h0, h1, post⟩
  simp [W_l_top, ev0]
  exact ⟨⟨h0, .inl (by omega)⟩, en_rt (by simpa [p2] using post)⟩
theorem ok_ops : ∀ l h k, sp_ops l h k → W_l_ops (en k) (ev0 N_l_ops l) h := by
  rintro l h k ⟨rfl, post⟩
  simp [W_l_ops]
  exact fun p hp => en_rt (post p hp)
theorem ok_variable : ∀ l h k, sp_variable l h k → W_l_variable sp_take (en k) (ev0 N_l_variable l) h := by
  rintro l h k ⟨dr, rfl, hd, post⟩
  simp [W_l_variable, ev0]
  intro p hp
  refine ⟨dr, 8, rfl, hd.new hp, by decide, .inl (by decide), fun r h' r0 r8 g => ?_⟩
  obtain ⟨g', e⟩ := g.born hd hp
  obtain ⟨x, hx, ex⟩ := atI_in (l := [D.int 0, D.int 1, D.int 2, D.int 3, D.int 0, D.int 1, D.int 2, D.int 39]) r0 r8
  simp [e, ex]
  simp at hx
  rcases hx with rfl | rfl | rfl | rfl | rfl | rfl | rfl | rfl <;> exact en_rt (post _ _ (by decide) (by decide) g')
theorem mask {x w : Int} (h0 : 0 ≤ x) : 0 ≤ Builtin.bitAnd x (p2 w - 1) ∧ Builtin.bitAnd x (p2 w - 1) < p2 w := by
  have e := Bits.bitAnd_mask (x := x) w.toNat h0
  unfold p2
  rw [e]
  exact ⟨Int.emod_nonneg _ (by have := p2_pos (n := w); unfold p2 at this; omega), Int.emod_lt_of_pos _ (by have := p2_pos (n := w); unfold p2 at this; omega)⟩
theorem ok_word : ∀ l h k, sp_word l h k → W_l_word sp_take sp_top (en k) (ev0 N_l_word l) h := by
  rintro l h k ⟨dr, w, rfl, hd, h1, h2, post⟩
  simp [W_l_word, ev0]
  refine ⟨w, rfl, by omega, by omega, ⟨by omega, .inl (by omega)⟩, ?_⟩
  have hp := p2_16 h2
  have hp0 := p2_pos (n := w)
  refine ⟨dr, _, rfl, hd, hp0, .inl (by show p2 w < _; omega), fun r h' r0 r1 g p np => ?_⟩
  refine ⟨dr, 5, rfl, g.drw.new np, by decide, .inl (by decide), fun r' h'' r0' r1' g2 => ?_⟩
  obtain ⟨g3, e⟩ := g2.born g.drw np
  obtain ⟨x, hx, ex⟩ := atI_in (l := [D.int 0, D.int 1, D.int 2, D.int (p2 w - 1), D.int r]) r0' r1'
  simp [e, ex]
  have fin : ∀ y, 0 ≤ y → sp_top [D.int w] h'' fun e h2 => rAndI (.int y) e h2 (en k).rt := fun y hy => by
    refine ⟨w, rfl, by omega, by omega, ?_⟩
    simp
    exact en_rt (post _ _ (mask hy).1 (mask hy).2 (g.trans g3))
  simp at hx
  rcases hx with rfl | rfl | rfl | rfl | rfl
  · exact fin 0 (by decide)
  · exact fin 1 (by decide)
  · exact fin 2 (by decide)
  · exact fin _ (by omega)
  · exact fin _ r0
theorem and_tab : ∀ m : Int, 0 ≤ m → m < 8 → ∃ x, atI [D.int 0, .int 1, .int 1, .int 3, .int 3, .int 3, .int 3, .int 7] m = some (.int x) ∧ 0 ≤ x ∧ x ≤ m := by
  intro m h0 h1
  have : m = 0 ∨ m = 1 ∨ m = 2 ∨ m = 3 ∨ m = 4 ∨ m = 5 ∨ m = 6 ∨ m = 7 := by omega
  rcases this with rfl | rfl | rfl | rfl | rfl | rfl | rfl | rfl <;> exact ⟨_, by simp <;> rfl, by decide, by decide⟩
theorem ok_index (n : Nat) : ∀ l h k, sp_index n l h k → W_l_index sp_take (sp_expression n) sp_top sp_variable (en k) (ev0 N_l_index l) h := by
  rintro l h k ⟨p, dr, w, ars, size, depth, rfl, hs1, hs8, hn, hd, hp, post⟩
  simp [W_l_index, ev0, dg_dK hp.at_, valD_cons]
  refine ⟨dr, 3, rfl, hd, by decide, .inl (by decide), fun r h1 r0 r9 g1 => ?_⟩
  have hd1 := g1.drw
  have hp1 := hp.grow g1 hd
  have hp0 := p2_pos (n := w)
  have hp16 := p2_16 hp.w2
  simp [dg_dK hp1.at_, valD_cons]
  split
  · exact ⟨p, dr, w, ars, depth, rfl, hn, hd1, hp1, fun e h2 we g2 => en_rt (post e h2 we (g1.trans g2))⟩
  · refine ⟨w, rfl, by have := hp.w1; omega, by have := hp.w2; omega, ?_⟩
    simp [dg_dK hp1.at_, valD_cons]
    have hw2 : 2 ≤ p2 w := by have := p2_le hp.w1; simpa [p2] using this
    have hm : ∃ m : Int, (if p2 w < size then p2 w - 1 else size - 1) = m ∧ 0 ≤ m ∧ m ≤ 7 ∧ m < p2 w := ⟨_, rfl, by split <;> omega, by split <;> omega, by split <;> omega⟩
    obtain ⟨m, em, hm0, hm7, hmw⟩ := hm
    refine ⟨dr, 2, rfl, hd1, by decide, .inl (by decide), fun r h2 r0 r9 g2 => ?_⟩
    have hp2 := hp1.grow g2 hd1
    simp [dg_dK hp2.at_, valD_cons]
    split
    · refine ⟨dr, _, rfl, g2.drw, by omega, .inl (by omega), fun r h3 r0 r9 g3 => ?_⟩
      exact en_rt (post (.int r) h3 ⟨r0, by omega⟩ (g1.trans (g2.trans g3)))
    · refine ⟨dr, rfl, g2.drw, fun v h3 v0 v9 g3 q nq => ?_⟩
      have e7 : (if 7 < m then 7 else m) = m := by split <;> omega
      obtain ⟨x, ex, x0, x1⟩ := and_tab m hm0 (by omega)
      simp only [em, e7]
      simp [ex]
      exact en_rt (post (.two "and" (.var v) (.int x)) _ ⟨by decide, ⟨v0, v9⟩, ⟨x0, by omega⟩⟩ (g1.trans (g2.trans (g3.new nq))))
theorem sub_lt {depth : Int} {n : Nat} (h : 0 ≤ depth ∧ depth < n) (h1 : ¬ depth < 1) : 0 ≤ depth - 1 ∧ depth - 1 < ((n - 1 : Nat) : Int) := by omega
theorem ok_expression (n : Nat) : ∀ l h k, sp_expression n l h k → W_l_expression sp_take sp_word sp_variable (sp_index (n - 1)) (sp_expression (n - 1)) sp_ops (en k) (ev0 N_l_expression l) h := by
  rintro l h k ⟨p, dr, w, ars, depth, rfl, hn, hd, hp, post⟩
  simp [W_l_expression, ev0, dg_dK hp.at_, valD_cons]
  refine ⟨dr, 9, rfl, hd, by decide, .inl (by decide), fun r h1 r0 r9 g1 => ?_⟩
  have hd1 := g1.drw
  have hp1 := hp.grow g1 hd
  have hint : sp_word [.ref dr, .int w] h1 fun d h1 => (en k).rt (.tup [.str "int", d]) h1 := ⟨dr, w, rfl, hd1, hp.w1, hp.w2, fun r h2 r0 r1 g2 => en_rt (post (.int r) h2 ⟨r0, r1⟩ (g1.trans g2))⟩
  have hvar : sp_variable [.ref dr] h1 fun d h1 => (en k).rt (.tup [.str "var", d]) h1 := ⟨dr, rfl, hd1, fun r h2 r0 r1 g2 => en_rt (post (.var r) h2 ⟨r0, r1⟩ (g1.trans g2))⟩
  have hone : 1 ≤ depth → ∀ q : Addr, h1 q = none → sp_take [.ref dr, .int 2] (up h1 q (.lst [.str "not", .str "neg"])) fun e h2 => rIx (.ref q) e h2 fun d h1 =>
      sp_expression (n - 1) [.ref p, .int (depth - 1)] h1 fun x h1 => (en k).rt (.tup [d, x]) h1 := fun hd1' q nq => by
    refine ⟨dr, 2, rfl, hd1.new nq, by decide, .inl (by decide), fun r' h2 r0' r1' g2 => ?_⟩
    obtain ⟨g3, e⟩ := g2.born hd1 nq
    obtain ⟨x, hx, ex⟩ := atI_in (l := [D.str "not", D.str "neg"]) r0' r1'
    simp only [s_ix_l]
    refine ⟨_, x, e, ex, p, dr, w, ars, depth - 1, rfl, by omega, g3.drw, hp1.grow g3 hd1, fun e h3 we g4 => ?_⟩
    simp at hx
    rcases hx with rfl | rfl <;> exact en_rt (post (.one _ e) h3 ⟨by decide, we.mono (by omega)⟩ (g1.trans (g3.trans g4)))
  have htwo : 1 ≤ depth → sp_ops [] h1 fun d h1 => sp_take [.ref dr, .int 10] h1 fun e h2 => rIx d e h2 fun d h1 =>
      sp_expression (n - 1) [.ref p, .int (depth - 1)] h1 fun x h1 => sp_expression (n - 1) [.ref p, .int (depth - 1)] h1 fun y h1 => (en k).rt (.tup [d, x, y]) h1 := fun hd1' => by
    refine ⟨rfl, fun q nq => ⟨dr, 10, rfl, hd1.new nq, by decide, .inl (by decide), fun r' h2 r0' r1' g2 => ?_⟩⟩
    obtain ⟨g3, e⟩ := g2.born hd1 nq
    obtain ⟨x, hx, ex⟩ := atI_in (l := pairOps.map D.str) r0' r1'
    simp only [s_ix_l]
    refine ⟨_, x, e, ex, p, dr, w, ars, depth - 1, rfl, by omega, g3.drw, hp1.grow g3 hd1, fun e h3 we g4 => ?_⟩
    refine ⟨p, dr, w, ars, depth - 1, rfl, by omega, g4.drw, (hp1.grow g3 hd1).grow g4 g3.drw, fun f h4 wf g5 => ?_⟩
    obtain ⟨o, ho, rfl⟩ := List.mem_map.mp hx
    exact en_rt (post (.two o e f) h4 ⟨ho, we.mono (by omega), wf.mono (by omega)⟩ (g1.trans (g3.trans (g4.trans g5))))
  simp [dg_dK hp1.at_, valD_cons, hint, hvar]
  intro h2r
  split
  · intro _ _ _; omega
  · intro h4 hd1'
    split
    · refine rEq_nil hp1.okL ?_
      simp
      split
      · first
          | exact htwo hd1'
          | (split
             · exact hone hd1'
             · exact htwo hd1')
      · rename_i hars
        have hlen : 0 < ars.length := List.length_pos_iff.mpr hars
        simp [dg_dK hp1.at_, valD_cons]
        refine ⟨dr, _, rfl, hd1, by omega, .inl (by have := hp.few; omega), fun r' h2 r0' r1' g2 => ?_⟩
        obtain ⟨x, hx, ex⟩ := atI_in (l := ars.map arD) r0' (by simpa using r1')
        obtain ⟨a, ha, rfl⟩ := List.mem_map.mp hx
        simp [ex, arD]
        refine ⟨p, dr, w, ars, a.2, depth - 1, rfl, (hp.sz a ha).1, (hp.sz a ha).2, sub_lt hn (by omega), g2.drw, hp1.grow g2 hd1, fun e h3 we g3 => ?_⟩
        exact en_rt (post (.cell a.1 e) h3 ⟨⟨a.2, ha⟩, we.mono (by omega)⟩ (g1.trans (g2.trans g3)))
    · split
      · exact hone hd1'
      · exact htwo hd1'
theorem ok_row : ∀ l h k, sp_row l h k → W_l_row sp_take (sp_expression 3) sp_variable (sp_index 2) (en k) (ev0 N_l_row l) h := by
  rintro l h k ⟨p, dr, oa, w, ars, others, rfl, hd, hp, ho, hol, hos, post⟩
  simp [W_l_row, ev0, dg_dK hp.at_, valD_cons]
  refine ⟨dr, 12, rfl, hd, by decide, .inl (by decide), fun r h1 r0 r9 g1 => ?_⟩
  have hd1 := g1.drw
  have hp1 := hp.grow g1 hd
  have hoa : oa ≠ dr := by
    rintro rfl
    obtain ⟨c, ns, i, q, s, e, _⟩ := hd
    rw [ho] at e
    have := congrArg List.length (O.lst.inj (Option.some.inj e))
    simp at this; omega
  have ho1 := g1.keep oa _ hoa ho
  have hset : ∀ n : Int, 0 ≤ n ∧ n < 3 → sp_variable [.ref dr] h1 fun d h1 => sp_expression 3 [.ref p, .int n] h1 fun x h1 => (en k).rt (.tup [.str "set", d, x]) h1 := fun n hn => by
    refine ⟨dr, rfl, hd1, fun v h2 v0 v9 g2 => ⟨p, dr, w, ars, n, rfl, hn, g2.drw, hp1.grow g2 hd1, fun e h3 we g3 => ?_⟩⟩
    exact en_rt (post (.set v e) h3 ⟨⟨v0, v9⟩, we⟩ (g1.trans (g2.trans g3)))
  have htake : sp_variable [.ref dr] h1 fun d h1 => (en k).rt (.tup [.str "take", d]) h1 := by
    refine ⟨dr, rfl, hd1, fun v h2 v0 v9 g2 => ?_⟩
    exact en_rt (post (.take v) h2 ⟨v0, v9⟩ (g1.trans g2))
  have hput : sp_expression 3 [.ref p, .int 1] h1 fun d h1 => (en k).rt (.tup [.str "put", d]) h1 := by
    refine ⟨p, dr, w, ars, 1, rfl, by decide, hd1, hp1, fun e h3 we g3 => ?_⟩
    exact en_rt (post (.put e) h3 we (g1.trans g3))
  have hass : sp_take [.ref dr, .int 4] h1 fun d h1 => sp_expression 3 [.ref p, .int 2] h1 fun x h1 => (en k).rt (.tup [.str "assert", d, x]) h1 := by
    refine ⟨dr, 4, rfl, hd1, by decide, .inl (by decide), fun v h2 v0 v9 g2 => ⟨p, dr, w, ars, 2, rfl, by decide, g2.drw, hp1.grow g2 hd1, fun e h3 we g3 => ?_⟩⟩
    exact en_rt (post (.assert v e) h3 ⟨⟨v0, by omega⟩, we⟩ (g1.trans (g2.trans g3)))
  simp [dg_dK hp1.at_, valD_cons, hset 2 (by decide), hset 1 (by decide), htake, hput, hass]
  intro h4 h7 h9
  split
  · rename_i e9
    subst e9
    refine rEq_nil hp1.okL ?_
    simp [hset 1 (by decide)]
    intro hars
    have hlen : 0 < ars.length := List.length_pos_iff.mpr hars
    simp [dg_dK hp1.at_, valD_cons]
    refine ⟨dr, _, rfl, hd1, by omega, .inl (by have := hp.few; omega), fun r' h2 r0' r1' g2 => ?_⟩
    obtain ⟨x, hx, ex⟩ := atI_in (l := ars.map arD) r0' (by simpa using r1')
    obtain ⟨a, ha, rfl⟩ := List.mem_map.mp hx
    simp [ex, arD]
    refine ⟨p, dr, w, ars, a.2, 1, rfl, (hp.sz a ha).1, (hp.sz a ha).2, by decide, g2.drw, hp1.grow g2 hd1, fun e h3 we g3 => ?_⟩
    refine ⟨p, dr, w, ars, 1, rfl, by decide, g3.drw, (hp1.grow g2 hd1).grow g3 g2.drw, fun f h4 wf g4 => ?_⟩
    exact en_rt (post (.store a.1 e f) h4 ⟨⟨a.2, ha⟩, we.mono (by omega), wf⟩ (g1.trans (g2.trans (g3.trans g4))))
  · intro e10 q nq
    subst e10
    have hqo : oa ≠ q := by rintro rfl; rw [ho1] at nq; cases nq
    have gq : Grow dr h1 (up h1 q (.lst [])) := (Grow.refl hd1).new nq
    have ho2 : (up h1 q (.lst [])) oa = some (.lst (others.map othD)) := by rw [up_ne hqo]; exact ho1
    refine rEq_nilL ho2 up_same (by rw [okL_iff]; intro d hd; obtain ⟨a, ha, rfl⟩ := List.mem_map.mp hd; simp [othD, D.ok, D.okL, (hos a ha).2]) ?_
    have hset' : sp_variable [.ref dr] (up h1 q (.lst [])) fun d h1 => sp_expression 3 [.ref p, .int 1] h1 fun x h1 => (en k).rt (.tup [.str "set", d, x]) h1 := by
      refine ⟨dr, rfl, gq.drw, fun v h2 v0 v9 g2 => ⟨p, dr, w, ars, 1, rfl, by decide, g2.drw, (hp1.grow gq hd1).grow g2 gq.drw, fun e h3 we g3 => ?_⟩⟩
      exact en_rt (post (.set v e) h3 ⟨⟨v0, v9⟩, we⟩ (g1.trans (gq.trans (g2.trans g3))))
    simp [hset', ho2]
    intro hn
    have hlen : 0 < others.length := List.length_pos_iff.mpr hn
    refine ⟨dr, _, rfl, gq.drw, by omega, .inl (by omega), fun r' h2 r0' r1' g2 => ?_⟩
    obtain ⟨x, hx, ex⟩ := atI_in (l := others.map othD) r0' (by simpa using r1')
    obtain ⟨a, ha, rfl⟩ := List.mem_map.mp hx
    have ho3 := g2.keep oa _ hoa ho2
    simp [ho3, ex, othD]
    refine ⟨dr, rfl, g2.drw, fun v h3 v0 v9 g3 => ?_⟩
    have h3d := g3.drw
    have hp3 := (((hp1.grow gq hd1).grow g2 gq.drw).grow g3 g2.drw)
    have hb := (hos a ha).1
    simp
    refine ⟨by omega, by omega, fun z nz => ?_⟩
    refine lc_grow (P := fun d => ∃ e : Ex, e.Wf (p2 w) ars 5 ∧ d = e.toD) h3d nz ?_ ?_ ?_
    · simp [rgD]; omega
    · intro h4 x hx g4 K hK
      simp
      refine ⟨p, dr, w, ars, 1, rfl, by decide, g4.drw, hp3.grow g4 h3d, fun e h5 we g5 => hK _ _ ⟨e, we, rfl⟩ g5⟩
    · intro m h4 hm hP g4 e4
      simp [e4]
      obtain ⟨es, rfl, hes⟩ : ∃ es : List Ex, m = es.map Ex.toD ∧ ∀ e ∈ es, e.Wf (p2 w) ars 5 := by
        clear e4 hm
        induction m with
        | nil => exact ⟨[], rfl, fun _ h => nomatch h⟩
        | cons d m ih =>
          obtain ⟨e, we, rfl⟩ := hP d List.mem_cons_self
          obtain ⟨es, rfl, hes⟩ := ih fun d hd => hP d (List.mem_cons_of_mem _ hd)
          exact ⟨e :: es, rfl, fun x hx => by
            rcases List.mem_cons.mp hx with rfl | hx
            · exact we
            · exact hes x hx⟩
      refine en_rt (post (.call v a.1 es) h4 ⟨⟨v0, v9⟩, ?_, hes⟩ (g1.trans (gq.trans (g2.trans (g3.trans g4)))))
      have : (es.length : Int) = a.2 := by simp [rgD] at hm; omega
      rw [this]; exact ha
end Lk04
end
-- Q4S2
section
set_option maxRecDepth 100000
set_option maxHeartbeats 4000000
namespace Lk04
open PySem PySem.Spec PyProof.Rows L2 T3
theorem cut_from {l : List D} {i : Int} {n : Nat} (e : i = n) : T3.cutD l (some i) none = l.drop n := by
  subst e
  unfold T3.cutD
  have e1 : HT.sIx l.length 0 (some (n : Int)) = min n l.length := by
    unfold HT.sIx
    simp
    try omega
  have e2 : HT.sIx l.length l.length none = l.length := by unfold HT.sIx; simp
  rw [e1, e2, List.take_of_length_le (by simp)]
  rcases Nat.le_total n l.length with z | z
  · rw [Nat.min_eq_left z]
  · rw [Nat.min_eq_right z, List.drop_of_length_le z, List.drop_of_length_le (Nat.le_refl _)]
theorem ok_blocks : ∀ l h k, sp_blocks l h k → W_l_blocks sp_take sp_row (sp_expression 3) (en k) (ev0 N_l_blocks l) h := by
  rintro l h k ⟨p, dr, oa, w, ars, others, blocks, rows, rfl, hb1, hb6, hr1, hr4, hd, hp, ho, hol, hos, post⟩
  have hoa : oa ≠ dr := by
    rintro rfl
    obtain ⟨c, ns, i, q, s, e, _⟩ := hd
    rw [ho] at e
    have := congrArg List.length (O.lst.inj (Option.some.inj e))
    simp at this; omega
  simp [W_l_blocks, ev0, dg_dK hp.at_, valD_cons]
  refine ⟨dr, 3, rfl, hd, by decide, .inl (by decide), fun r h1 r0 r9 g1 => ?_⟩
  have hd1 := g1.drw
  simp
  refine ⟨dr, _, rfl, hd1, by omega, .inl (by omega), fun r' h2 r0' r9' g2 => ?_⟩
  have hd2 := g2.drw
  simp
  refine ⟨by omega, by omega, fun lp nlp => ?_⟩
  obtain ⟨n, rfl⟩ := Int.eq_ofNat_of_zero_le r0'
  have en1 : (1 + (n : Int)).toNat = n + 1 := by omega
  rw [en1]
  refine lc_rg (fun j => .int (lbl (1 + r) j)) (by omega) (fun _ _ _ => trivial) ?_ ?_
  · intro j hj o hh hs K hK
    simp
    exact ⟨.inl ⟨by omega, by omega⟩, hK _ (Sub.refl _)⟩
  · rw [show (List.range (n + 1)).map (fun j => D.int (lbl (1 + r) j)) = ((List.range (n + 1)).map (lbl (1 + r))).map D.int by simp]
    generalize hL : (List.range (n + 1)).map (lbl (1 + r)) = L
    have hLn : L.length = n + 1 := by rw [← hL]; simp
    intro fp nfp
    have g3 : Grow dr h2 (up h2 lp (.lst (L.map D.int))) := (Grow.refl hd2).new nlp
    have hd3 := g3.drw
    have gb := g1.trans (g2.trans g3)
    have hpb := ((hp.grow g1 hd).grow g2 hd1).grow g3 hd2
    have hob := g3.keep oa _ hoa (g2.keep oa _ hoa (g1.keep oa _ hoa ho))
    have hlb : (up h2 lp (.lst (L.map D.int))) lp = some (.lst (L.map D.int)) := up_same
    have hlpd : lp ≠ dr := (hd2.fresh nlp)
    revert nfp g3 hd3 gb hpb hob hlb
    generalize up h2 lp (.lst (L.map D.int)) = hb
    intro nfp g3 hd3 gb hpb hob hlb
    have hlf : lp ≠ fp := by rintro rfl; rw [hlb] at nfp; cases nfp
    simp [up_ne hlf, hlb, hLn]
    refine ⟨by omega, ?_⟩
    refine for_inv (fun j ρ h => (∃ x8 x9 x10 x11 x12 x13 x14 x15 x16 : Option D, ρ = [some (.ref p), some (.ref oa), some (.int blocks), some (.int rows), some (.ref dr), some (.int (1 + r)), some (.ref lp), some (.ref fp), x8, x9, x10, x11, x12, x13, x14, x15, x16]) ∧
      Grow dr hb h ∧ ∃ bs : List Bk, bs.length = j ∧ h fp = some (.lst (bs.map Bk.toD)) ∧ bs.map Bk.label = L.take j ∧ ∀ b ∈ bs, b.Wf (p2 w) ars others L) (fun _ _ _ _ _ => trivial) ?_ ?_ ?_
    · exact ⟨⟨_, _, _, _, _, _, _, _, _, rfl⟩, (Grow.refl hd3).new nfp, [], rfl, up_same, by simp, fun _ h => nomatch h⟩
    · rintro j x ρ h3 hx ⟨⟨x8, x9, x10, x11, x12, x13, x14, x15, x16, rfl⟩, g4, bs, hbj, hfp, hlab, hwf⟩ N hN
      have hjn : j < n + 1 := by
        rcases Nat.lt_or_ge j (n + 1) with z | z
        · exact z
        · rw [List.getElem?_eq_none (by simpa [rgD] using z)] at hx; cases hx
      have hxj : x = .int j := by simpa [rgD, hjn] using hx.symm
      subst hxj
      have hd4 := g4.drw
      have hp4 := hpb.grow g4 hd3
      have ho4 := g4.keep oa _ hoa hob
      have hfpd : fp ≠ dr := hd3.fresh nfp
      have hl4 := g4.keep lp _ hlpd hlb
      have hjL : j < L.length := by omega
      have fin : ∀ (h5 : H3) (x10 x11 x13 x14 x15 x16 : Option D) (body : List Sm) (nd : Nd), Grow dr h3 h5 → (body.length ≤ 4 ∧ ∀ s ∈ body, s.Wf (p2 w) ars others) → nd.Wf (p2 w) ars L.tail →
          wAppend (wVar 7) (wCons (wL rTup (wCons (w2 T3.rIx (wVar 6) (wVar 8)) (wCons (wVar 9) (wCons (wVar 12) wNil)))) wNil)
            [some (D.ref p), some (D.ref oa), some (D.int blocks), some (D.int rows), some (D.ref dr), some (D.int (1 + r)), some (D.ref lp), some (D.ref fp), some (D.int ↑j), some (.tup (body.map Sm.toD)), x10, x11, some nd.toD, x13, x14, x15, x16] h5 fun x h1 =>
            N [some (D.ref p), some (D.ref oa), some (D.int blocks), some (D.int rows), some (D.ref dr), some (D.int (1 + r)), some (D.ref lp), some (D.ref fp), some (D.int ↑j), some (.tup (body.map Sm.toD)), x10, x11, some nd.toD, x13, x14, x15, x16] h1 := by
        intro h5 x10 x11 x13 x14 x15 x16 body nd g5 hbody hnd
        have hl5 := g5.keep lp _ hlpd hl4
        have hf5 := g5.keep fp _ hfpd hfp
        have hix : atI (L.map D.int) (j : Int) = some (.int L[j]) := atI_nat (by simp [hjL])
        simp [wAppend, hl5, hf5, hix]
        refine ⟨fp, _, _, rfl, rfl, hf5, by simp; omega, hN _ _ ⟨⟨_, _, _, _, _, _, _, _, _, rfl⟩, (g4.trans g5).write hd3 nfp, bs ++ [⟨L[j], body, nd⟩], by simp [hbj], by simp [Bk.toD], ?_, ?_⟩⟩
        · simp [hlab]
        · intro b hb
          rcases List.mem_append.mp hb with hb | hb
          · exact hwf b hb
          · rw [List.mem_singleton.mp hb]
            exact ⟨List.getElem_mem _, hbody, hnd⟩
      simp
      refine ⟨dr, _, rfl, hd4, by omega, .inl (by omega), fun m h4 m0 m9 g5 => ?_⟩
      have hd5 := g5.drw
      have hp5 := hp4.grow g5 hd4
      have ho5 := g5.keep oa _ hoa ho4
      refine ⟨m, rfl, by omega, by omega, fun z nz => ?_⟩
      refine lc_grow (P := fun d => ∃ s : Sm, s.Wf (p2 w) ars others ∧ d = s.toD) hd5 nz (by simp [rgD]; omega) ?_ ?_
      · intro h6 x hx g6 K hK
        simp
        refine ⟨p, dr, oa, w, ars, others, rfl, g6.drw, hp5.grow g6 hd5, g6.keep oa _ hoa ho5, hol, hos, fun s h7 ws g7 => hK _ _ ⟨s, ws, rfl⟩ g7⟩
      · intro ms h6 hms hP g6 e6
        obtain ⟨ss, rfl, hss⟩ : ∃ ss : List Sm, ms = ss.map Sm.toD ∧ ∀ s ∈ ss, s.Wf (p2 w) ars others := by
          clear e6 hms
          induction ms with
          | nil => exact ⟨[], rfl, fun _ h => nomatch h⟩
          | cons d m ih =>
            obtain ⟨e, we, rfl⟩ := hP d List.mem_cons_self
            obtain ⟨es, rfl, hes⟩ := ih fun d hd => hP d (List.mem_cons_of_mem _ hd)
            exact ⟨e :: es, rfl, fun x hx => by
              rcases List.mem_cons.mp hx with rfl | hx
              · exact we
              · exact hes x hx⟩
        have hb4 : ss.length ≤ 4 := by simp [rgD] at hms; omega
        have g56 := g5.trans g6
        have hl6 := g56.keep lp _ hlpd hl4
        simp [e6, hl6]
        have c1 : T3.cutD (L.map D.int) (some 1) none = L.tail.map D.int := by
          rw [cut_from (i := 1) (n := 1) rfl]; simp
        have c2 : T3.cutD (L.map D.int) (some ((j : Int) + 1)) none = (L.drop (j + 1)).map D.int := by
          rw [cut_from (n := j + 1) (by omega)]; simp
        simp only [c1]
        intro rp nrp
        have hd6 := g6.drw
        have gr : Grow dr h6 (up h6 rp (.lst (L.tail.map D.int))) := (Grow.refl hd6).new nrp
        refine ⟨dr, 5, rfl, gr.drw, by decide, .inl (by decide), fun kd h7 k0 k9 g7 => ?_⟩
        obtain ⟨g7', e7⟩ := g7.born hd6 nrp
        intro q nq
        have hd7 := g7.drw
        have gq : Grow dr h7 (up h7 q (.lst [])) := (Grow.refl hd7).new nq
        have hrq : rp ≠ q := by rintro rfl; rw [e7] at nq; cases nq
        have hrd : rp ≠ dr := hd6.fresh nrp
        have er := gq.keep rp _ hrd e7
        have g3q : Grow dr h3 (up h7 q (.lst [])) := g56.trans (g7'.trans gq)
        have hpq := hp4.grow g3q hd4
        have hlq := g3q.keep lp _ hlpd hl4
        have hret : ∀ x13 x14 x15 x16 : Option D, sp_expression 3 [D.ref p, D.int 1] (up h7 q (.lst [])) fun d_3 h1 =>
          wAppend (wVar 7) (wCons (wL rTup (wCons (w2 T3.rIx (wVar 6) (wVar 8)) (wCons (wVar 9) (wCons (wVar 12) wNil)))) wNil)
            [some (D.ref p), some (D.ref oa), some (D.int blocks), some (D.int rows), some (D.ref dr), some (D.int (1 + r)), some (D.ref lp), some (D.ref fp), some (D.int ↑j), some (.tup (ss.map Sm.toD)), some (.ref rp), some (.int kd), some (D.tup [D.str (Str.ofString "return"), d_3]), x13, x14, x15, x16] h1 fun x h1 =>
            N [some (D.ref p), some (D.ref oa), some (D.int blocks), some (D.int rows), some (D.ref dr), some (D.int (1 + r)), some (D.ref lp), some (D.ref fp), some (D.int ↑j), some (.tup (ss.map Sm.toD)), some (.ref rp), some (.int kd), some (D.tup [D.str (Str.ofString "return"), d_3]), x13, x14, x15, x16] h1 := by
          intro x13 x14 x15 x16
          refine ⟨p, dr, w, ars, 1, rfl, by decide, gq.drw, hpq, fun e h8 we g8 => ?_⟩
          exact fin h8 _ _ _ _ _ _ ss (.ret e) (g3q.trans g8) ⟨hb4, hss⟩ we
        refine rEq_nilL er up_same (by rw [okL_iff]; intro d hd; obtain ⟨a, ha, rfl⟩ := List.mem_map.mp hd; rfl) ?_
        simp [hret, hlq, c2]
        intro hLt hkd
        have hLt' : L.tail ≠ [] := by intro z; rw [← List.map_tail, z] at hLt; exact hLt rfl
        have hend : ∀ (h8 : H3) (op : Addr) (OL : List Int) (x16 : Option D), Grow dr h3 h8 → h8 op = some (.lst (OL.map D.int)) → op ≠ dr → OL ≠ [] → OL.length ≤ 9 → (∀ x ∈ OL, x ∈ L.tail) → h8 rp = some (.lst (L.tail.map D.int)) →
            sp_take [D.ref dr, D.int ↑((OL.map D.int).length)] h8 fun e h2 => T3.rIx (D.ref op) e h2 fun d h1 => ∃ l, h1 rp = some (O.lst l) ∧ sp_take [D.ref dr, D.int ↑l.length] h1 fun e h2 => T3.rIx (D.ref rp) e h2 fun d_1 h1 =>
            if kd = 1 then wAppend (wVar 7) (wCons (wL rTup (wCons (w2 T3.rIx (wVar 6) (wVar 8)) (wCons (wVar 9) (wCons (wVar 12) wNil)))) wNil)
            [some (D.ref p), some (D.ref oa), some (D.int blocks), some (D.int rows), some (D.ref dr), some (D.int (1 + r)), some (D.ref lp), some (D.ref fp), some (D.int ↑j), some (D.tup (List.map Sm.toD ss)), some (D.ref rp), some (D.int kd), some (D.tup [D.str (Str.ofString "go"), d]), some (D.ref op), some d, some d_1, x16] h1 fun x h1 => N [some (D.ref p), some (D.ref oa), some (D.int blocks), some (D.int rows), some (D.ref dr), some (D.int (1 + r)), some (D.ref lp), some (D.ref fp), some (D.int ↑j), some (D.tup (List.map Sm.toD ss)), some (D.ref rp), some (D.int kd), some (D.tup [D.str (Str.ofString "go"), d]), some (D.ref op), some d, some d_1, x16] h1
            else sp_expression 3 [D.ref p, D.int 2] h1 fun d_2 h1 => wAppend (wVar 7) (wCons (wL rTup (wCons (w2 T3.rIx (wVar 6) (wVar 8)) (wCons (wVar 9) (wCons (wVar 12) wNil)))) wNil)
            [some (D.ref p), some (D.ref oa), some (D.int blocks), some (D.int rows), some (D.ref dr), some (D.int (1 + r)), some (D.ref lp), some (D.ref fp), some (D.int ↑j), some (D.tup (List.map Sm.toD ss)), some (D.ref rp), some (D.int kd), some (D.tup [D.str (Str.ofString "if"), d_2, d, d_1]), some (D.ref op), some d, some d_1, x16] h1 fun x h1 => N [some (D.ref p), some (D.ref oa), some (D.int blocks), some (D.int rows), some (D.ref dr), some (D.int (1 + r)), some (D.ref lp), some (D.ref fp), some (D.int ↑j), some (D.tup (List.map Sm.toD ss)), some (D.ref rp), some (D.int kd), some (D.tup [D.str (Str.ofString "if"), d_2, d, d_1]), some (D.ref op), some d, some d_1, x16] h1 := by
          intro h8 op OL x16 g8 eop hopd hO hO9 hsub er8
          have hlenO : 0 < OL.length := List.length_pos_iff.mpr hO
          have hlenL : 0 < L.tail.length := List.length_pos_iff.mpr hLt'
          have hlL : L.tail.length ≤ 6 := by simp; omega
          refine ⟨dr, _, rfl, g8.drw, by simp; omega, .inl (by simp; omega), fun a h9 a0 a9 g9 => ?_⟩
          obtain ⟨x, hx, ex⟩ := atI_in (l := OL.map D.int) a0 a9
          obtain ⟨x, hx', rfl⟩ := List.mem_map.mp hx
          have eop9 := g9.keep op _ hopd eop
          have er9 := g9.keep rp _ hrd er8
          simp only [s_ix_l]
          refine ⟨_, _, eop9, ex, _, er9, ?_⟩
          refine ⟨dr, _, rfl, g9.drw, by simp; simp at hlenL; omega, .inl (by simp; omega), fun b h10 b0 b9 g10 => ?_⟩
          obtain ⟨y, hy, ey⟩ := atI_in (l := L.tail.map D.int) b0 b9
          obtain ⟨y, hy', rfl⟩ := List.mem_map.mp hy
          have er10 := g10.keep rp _ hrd er9
          simp only [s_ix_l]
          refine ⟨_, _, er10, ey, ?_⟩
          have gg := g8.trans (g9.trans g10)
          split
          · exact fin h10 _ _ _ _ _ _ ss (.go x) gg ⟨hb4, hss⟩ (hsub x hx')
          · refine ⟨p, dr, w, ars, 2, rfl, by decide, gg.drw, hp4.grow gg hd4, fun e h11 we g11 => ?_⟩
            exact fin h11 _ _ _ _ _ _ ss (.iff e x y) (gg.trans g11) ⟨hb4, hss⟩ ⟨we, hsub x hx', hy'⟩
        intro a na b nb
        have ga := (Grow.refl gq.drw).new (o := .lst (List.drop (j + 1) (List.map D.int L))) na
        have gb2 := ga.new (o := .lst []) nb
        have hab : a ≠ b := by rintro rfl; rw [up_same] at nb; cases nb
        have g3b := g3q.trans gb2
        have hrb := gb2.keep rp _ hrd er
        have hlb2 := gb2.keep lp _ hlpd hlq
        refine rEq_nilL (by rw [up_ne hab]; exact up_same) up_same (by rw [okL_iff, ← List.map_drop]; intro d hd; obtain ⟨a, ha, rfl⟩ := List.mem_map.mp hd; rfl) ?_
        simp only [D.ok, asB]
        have hnL : L.length ≤ 9 := by omega
        split
        · rename_i hne
          have hdne : L.drop (j + 1) ≠ [] := by
            intro z
            rw [← List.map_drop, z] at hne
            simp at hne
          refine ⟨_, hlb2, fun c nc => ?_⟩
          rw [c2]
          have gc := (Grow.refl g3b.drw).new (o := .lst ((L.drop (j + 1)).map D.int)) nc
          refine hend _ c (L.drop (j + 1)) x16 (g3b.trans gc) up_same (g3b.drw.fresh nc) hdne (by simp; omega) (fun x hx => ?_) (gc.keep rp _ hrd hrb)
          have e : L.drop (j + 1) = L.tail.drop j := by rw [← List.drop_one, List.drop_drop, Nat.add_comm]
          rw [e] at hx
          exact List.mem_of_mem_drop hx
        · refine ⟨_, hrb, ?_⟩
          exact hend _ rp L.tail x16 g3b hrb hrd hLt' (by simp; omega) (fun x hx => hx) hrb
    · rintro ρ h3 ⟨⟨x8, x9, x10, x11, x12, x13, x14, x15, x16, rfl⟩, g4, bs, hbj, hfp, hlab, hwf⟩
      have hll : (rgD 0 (n + 1)).length = n + 1 := by simp [rgD]
      rw [hll] at hbj hlab
      rw [List.take_of_length_le (by omega)] at hlab
      simp [hfp]
      refine en_rt (post bs h3 ⟨⟨1 + r, n + 1, by omega, by omega, by omega, by omega, by rw [hlab, hL]⟩, fun b hb => by rw [hlab]; exact hwf b hb⟩ (gb.trans g4))
end Lk04
end
-- Q4S3
section
set_option maxRecDepth 100000
set_option maxHeartbeats 4000000
namespace Lk04
open PySem PySem.Spec PyProof.Rows L2 T3
theorem ars_pick {n5 n3 n8 : Int} (h5 : 0 ≤ n5 ∧ n5 < 5) (h3 : 0 ≤ n3 ∧ n3 < 3) (h8 : 0 ≤ n8 ∧ n8 < 8) {x : D} (hx : x ∈ [D.tup [], D.tup [], D.tup [D.tup [D.str "mem", .int (1 + n5)]], D.tup [D.tup [D.str "a", D.int 2], D.tup [D.str "mem", .int (1 + n3)]], D.tup [D.tup [D.str "a", D.int 8], D.tup [D.str "b_2", D.int 3], D.tup [D.str "mem", .int (1 + n8)]]]) :
    ∃ ars, ArsOk ars ∧ x = .tup (ars.map arD) := by
  simp only [List.mem_cons, List.not_mem_nil, or_false] at hx
  rcases hx with rfl | rfl | rfl | rfl | rfl
  · exact ⟨[], .inl rfl, rfl⟩
  · exact ⟨[], .inl rfl, rfl⟩
  · exact ⟨[ent "mem" (1 + n5)], .inr (.inl ⟨_, by omega, by omega, rfl⟩), rfl⟩
  · exact ⟨[ent "a" 2, ent "mem" (1 + n3)], .inr (.inr (.inl ⟨_, by omega, by omega, rfl⟩)), rfl⟩
  · exact ⟨[ent "a" 8, ent "b_2" 3, ent "mem" (1 + n8)], .inr (.inr (.inr ⟨_, by omega, by omega, rfl⟩)), rfl⟩
theorem ok_program : ∀ l h k, sp_program l h k → W_l_program sp_take sp_blocks sp_variable (en k) (ev0 N_l_program l) h := by
  rintro l h k ⟨dr, w, blocks, rows, rfl, hw1, hw2, hb1, hb6, hr1, hr4, hd, post⟩
  simp [W_l_program, ev0]
  refine ⟨dr, 5, rfl, hd, by decide, .inl (by decide), fun n5 h1 n50 n51 g1 => ?_⟩
  simp
  refine ⟨dr, 3, rfl, g1.drw, by decide, .inl (by decide), fun n3 h2 n30 n31 g2 => ?_⟩
  simp
  refine ⟨dr, 8, rfl, g2.drw, by decide, .inl (by decide), fun n8 h3 n80 n81 g3 => ?_⟩
  simp
  intro lp nlp
  refine ⟨dr, 5, rfl, g3.drw.new nlp, by decide, .inl (by decide), fun r4 h4 r40 r41 g4 => ?_⟩
  obtain ⟨g4', e4⟩ := g4.born g3.drw nlp
  obtain ⟨x, hx, ex⟩ := atI_in (l := [D.tup [], D.tup [], D.tup [D.tup [D.str "mem", .int (1 + n5)]], D.tup [D.tup [D.str "a", D.int 2], D.tup [D.str "mem", .int (1 + n3)]], D.tup [D.tup [D.str "a", D.int 8], D.tup [D.str "b_2", D.int 3], D.tup [D.str "mem", .int (1 + n8)]]]) r40 r41
  obtain ⟨ars, hars, rfl⟩ := ars_pick ⟨n50, n51⟩ ⟨n30, n31⟩ ⟨n80, n81⟩ hx
  have gA := g1.trans (g2.trans (g3.trans g4'))
  have hdA := gA.drw
  simp only [s_ix_l]
  refine ⟨_, _, e4, ex, ?_⟩
  clear e4 ex hx g4
  simp [wDisp, wPairs]
  intro pp npp
  refine ⟨_, rfl, by simp, ?_⟩
  have em : mergeD [] [((.inr "draw" : Key), D.ref dr), ((.inr "width" : Key), D.int w), ((.inr "arrays" : Key), D.tup (ars.map arD))] = [((.inr "draw" : Key), D.ref dr), ((.inr "width" : Key), D.int w), ((.inr "arrays" : Key), D.tup (ars.map arD))] := by
    simp [mergeD, putD]
  rw [em]
  have hp0 : PAt (up h4 pp (.dK [((.inr "draw" : Key), D.ref dr), ((.inr "width" : Key), D.int w), ((.inr "arrays" : Key), D.tup (ars.map arD))])) pp dr w ars := ⟨up_same, hw1, hw2, hars.sz.1, hars.sz.2, hars.ok⟩
  have gB := (Grow.refl hdA).new (o := .dK [((.inr "draw" : Key), D.ref dr), ((.inr "width" : Key), D.int w), ((.inr "arrays" : Key), D.tup (ars.map arD))]) npp
  have gA2 := gA.trans gB
  have hdB := gB.drw
  clear em gB npp hdA gA
  revert hp0 gA2 hdB
  generalize up h4 pp (.dK [((.inr "draw" : Key), D.ref dr), ((.inr "width" : Key), D.int w), ((.inr "arrays" : Key), D.tup (ars.map arD))]) = hB
  intro hp0 gA2 hdB a1 n1 a2 n2 a3 n3 a4 n4 a5 n5 a6 n6
  have d1 := hdB.new (o := .lst []) n1
  have d2 := d1.new (o := .lst []) n2
  have d3 := d2.new (o := .lst [D.tup [D.str "aid", D.int 1]]) n3
  have d4 := d3.new (o := .lst [D.tup [D.str "aid", D.int 2], D.tup [D.str "zig", D.int 0]]) n4
  have d5 := d4.new (o := .lst [D.tup [D.str "aid", D.int 3], D.tup [D.str "zig", D.int 1]]) n5
  have d6 := d5.new (o := .lst [D.ref a1, D.ref a2, D.ref a3, D.ref a4, D.ref a5]) n6
  refine ⟨dr, 5, rfl, d6, by decide, .inl (by decide), fun r5 h5 r50 r51 g5 => ?_⟩
  obtain ⟨k5, e6⟩ := g5.born d5 n6
  obtain ⟨k4, e5⟩ := k5.born d4 n5
  obtain ⟨k3, e4⟩ := k4.born d3 n4
  obtain ⟨k2, e3⟩ := k3.born d2 n3
  obtain ⟨k1, e2⟩ := k2.born d1 n2
  obtain ⟨k0, e1⟩ := k1.born hdB n1
  obtain ⟨x, hx, ex⟩ := atI_in (l := [D.ref a1, D.ref a2, D.ref a3, D.ref a4, D.ref a5]) r50 r51
  simp only [s_ix_l]
  refine ⟨_, _, e6, ex, ?_⟩
  obtain ⟨oa, others, rfl, hoth, eoa⟩ : ∃ oa others, x = D.ref oa ∧ OthOk others ∧ h5 oa = some (.lst (others.map othD)) := by
    simp only [List.mem_cons, List.not_mem_nil, or_false] at hx
    rcases hx with rfl | rfl | rfl | rfl | rfl
    · exact ⟨_, [], rfl, .inl rfl, e1⟩
    · exact ⟨_, [], rfl, .inl rfl, e2⟩
    · exact ⟨_, [ent "aid" 1], rfl, .inr (.inl rfl), e3⟩
    · exact ⟨_, [ent "aid" 2, ent "zig" 0], rfl, .inr (.inr (.inl rfl)), e4⟩
    · exact ⟨_, [ent "aid" 3, ent "zig" 1], rfl, .inr (.inr (.inr rfl)), e5⟩
  have hd5 := k0.drw
  have hp5 := hp0.grow k0 hdB
  have g05 := gA2.trans k0
  clear ex hx e1 e2 e3 e4 e5 e6 k1 k2 k3 k4 k5 g5 d1 d2 d3 d4 d5 d6 n6 n5 n4 n3 n2 n1 a1 a2 a3 a4 a5 a6 k0 hp0 gA2 hdB
  refine ⟨pp, dr, oa, w, ars, others, blocks, rows, rfl, hb1, hb6, hr1, hr4, hd5, hp5, eoa, hoth.ok.1, hoth.ok.2, fun bs h6 wbs g6 => ?_⟩
  have hd6 := g6.drw
  have hp6 := hp5.grow g6 hd5
  refine ⟨dr, 3, rfl, hd6, by decide, .inl (by decide), fun r7 h7 r70 r71 g7 => ?_⟩
  have hoa : oa ≠ dr := by
    rintro rfl
    obtain ⟨c, ns, i, q, s, e, _⟩ := hd5
    rw [eoa] at e
    have := congrArg List.length (O.lst.inj (Option.some.inj e))
    simp at this
    have := hoth.ok.1
    omega
  have eo6 := g6.keep oa _ hoa eoa
  have htail : ∀ (bs' : List Bk) (x8 : Option D) (h8 : H3), BlWf (p2 w) ars others bs' → Grow dr h6 h8 → ∀ p, h8 p = none →
      (∃ l, up h8 p (O.lst [D.tup [D.str "main", D.int 0, D.tup (bs'.map Bk.toD)]]) oa = some (O.lst l)) ∧
      ∃ l, up h8 p (O.lst [D.tup [D.str "main", D.int 0, D.tup (bs'.map Bk.toD)]]) oa = some (O.lst l) ∧
        forW (fun h => h oa = some (O.lst l)) (gT [gN 10, gN 11])
          (wDrop (wAppend (wVar 9) (wCons (wL rTup (wCons (wVar 10) (wCons (wVar 11) (wCons (wL sp_blocks (wCons (wVar 5) (wCons (wVar 6) (wCons (wL rMax2 (wCons (wC (D.int 1)) (wCons (w2 T3.rSub (wVar 2) (wC (D.int 2))) wNil)))
            (wCons (wL rMax2 (wCons (wC (D.int 1)) (wCons (w2 T3.rSub (wVar 3) (wC (D.int 1))) wNil))) wNil))))) wNil)))) wNil)))
          { nx := wRet (wL rTup (wCons (wVar 1) (wCons (wVar 4) (wCons (wL rTupleOf (wCons (wL T3.rSorted (wCons (wVar 9) wNil)) wNil)) wNil)))) (en k), rt := (en k).rt, bk := (en k).bk, ct := (en k).ct }
          l [some (D.ref dr), some (D.int w), some (D.int blocks), some (D.int rows), some (D.tup (List.map arD ars)), some (D.ref pp), some (D.ref oa), some (D.tup (bs'.map Bk.toD)), x8, some (D.ref p), none, none]
          (up h8 p (O.lst [D.tup [D.str "main", D.int 0, D.tup (bs'.map Bk.toD)]])) := by
    intro bs' x8 h8 wbs' g8 p np
    have hd8 := g8.drw
    have gp : Grow dr h8 (up h8 p (O.lst [D.tup [D.str "main", D.int 0, D.tup (bs'.map Bk.toD)]])) := (Grow.refl hd8).new np
    have eo8 := g8.keep oa _ hoa eo6
    have eop := gp.keep oa _ hoa eo8
    have hp8 := hp6.grow g8 hd6
    refine ⟨⟨_, eop⟩, _, eop, ?_⟩
    refine for_inv (fun j ρ h => (∃ x10 x11 : Option D, ρ = [some (D.ref dr), some (D.int w), some (D.int blocks), some (D.int rows), some (D.tup (List.map arD ars)), some (D.ref pp), some (D.ref oa), some (D.tup (bs'.map Bk.toD)), x8, some (D.ref p), x10, x11]) ∧
      Grow dr h8 h ∧ ∃ ps : List Pr, h p = some (.lst (ps.map Pr.toD)) ∧ ps.map (fun p => ent p.name p.params) = ent "main" 0 :: others.take j ∧ ∀ p ∈ ps, BlWf (p2 w) ars others p.blocks) (fun j ρ h _ i => i.2.1.keep oa _ hoa eo8) ?_ ?_ ?_
    · refine ⟨⟨_, _, rfl⟩, gp, [⟨"main", 0, bs'⟩], up_same, by simp, fun q hq => ?_⟩
      rw [List.mem_singleton.mp hq]; exact wbs'
    · rintro j x ρ h9 hx ⟨⟨x10, x11, rfl⟩, g9, ps, e9, hn, hw⟩ N hN
      have hj : j < others.length := by
        rcases Nat.lt_or_ge j others.length with z | z
        · exact z
        · rw [List.getElem?_eq_none (by simpa using z)] at hx; cases hx
      have hxj : x = othD others[j] := by simpa [hj] using hx.symm
      subst hxj
      have hd9 := g9.drw
      have hp9 := hp8.grow g9 hd8
      have eo9 := g9.keep oa _ hoa eo8
      simp [othD, wAppend]
      refine ⟨⟨_, e9⟩, pp, dr, oa, w, ars, others, _, _, rfl, ?_, ?_, ?_, ?_, hd9, hp9, eo9, hoth.ok.1, hoth.ok.2, fun bs2 h10 wb2 g10 => ?_⟩
      · split <;> omega
      · split <;> omega
      · split <;> omega
      · split <;> omega
      · have gg := g9.trans g10
        have e10 := g10.keep p _ (hd8.fresh np) e9
        have hl : ps.length ≤ 3 := by
          have := congrArg List.length hn
          simp at this
          have := hoth.ok.1
          omega
        refine ⟨p, _, _, rfl, rfl, e10, by simp; omega, hN _ _ ⟨⟨_, _, rfl⟩, gg.write hd8 np, ps ++ [⟨others[j].1, others[j].2, bs2⟩], by simp [Pr.toD], ?_, fun q hq => ?_⟩⟩
        · simp [hn]
          exact (List.take_append_getElem hj)
        · rcases List.mem_append.mp hq with hq | hq
          · exact hw q hq
          · rw [List.mem_singleton.mp hq]; exact wb2.bl
    · rintro ρ h9 ⟨⟨x10, x11, rfl⟩, g9, ps, e9, hn, hw⟩
      have hn' : ps.map (fun p => ent p.name p.params) = ent "main" 0 :: others := by
        rw [hn, List.take_of_length_le (by simp)]
      obtain ⟨s1, s2, s3⟩ := sort_prs hars hoth hn' hw
      simp
      refine ⟨p, _, rfl, e9, s1, s2, fun ys q hperm hpw nq => ?_⟩
      obtain ⟨m, rfl, hm1, hm2⟩ := s3 ys hperm hpw
      simp
      have gfin := (g05.trans (g6.trans (g8.trans g9))).new (o := .lst (m.map Pr.toD)) nq
      exact en_rt (post ⟨w, ars, m⟩ others _ ⟨rfl, hars, hoth, hm1, hm2⟩ gfin)
  simp
  have hbs := wbs.bl
  split
  · obtain ⟨b0, br, rfl⟩ : ∃ b0 br, bs = b0 :: br := by
      cases bs with
      | nil => have := hbs.pos; simp at this
      | cons b0 br => exact ⟨_, _, rfl⟩
    have c1 : T3.cutD ((b0 :: br).map Bk.toD) (some 1) none = br.map Bk.toD := by
      rw [cut_from (i := 1) (n := 1) rfl]; rfl
    have hbr : br.length ≤ 6 := by have := hbs.pos; simp at this; omega
    rw [c1]
    simp [Bk.toD]
    refine ⟨dr, rfl, g7.drw, fun v h8 v0 v9 g8 => ?_⟩
    have hfew : b0.body.length ≤ 4 := (wbs.each b0 List.mem_cons_self).2.1.1
    have hlab := hbs.lab
    simp only [List.map_cons] at hlab
    refine ⟨by omega, by omega, fun p np => ?_⟩
    refine htail (⟨b0.label, .take 0 :: .take v :: b0.body, b0.nd⟩ :: br) _ h8 ⟨?_, ?_, ?_, ?_⟩ (g7.trans g8) p np
    · simp only [List.map_cons]; exact hlab
    · intro b hb
      rcases List.mem_cons.mp hb with rfl | hb
      · simp; omega
      · exact hbs.few b (List.mem_cons_of_mem _ hb)
    · intro b hb
      rcases List.mem_cons.mp hb with rfl | hb
      · intro s hs
        rcases List.mem_cons.mp hs with rfl | hs
        · exact ⟨by decide, by decide⟩
        · rcases List.mem_cons.mp hs with rfl | hs
          · exact ⟨v0, v9⟩
          · exact hbs.sms b0 List.mem_cons_self s hs
      · exact hbs.sms b (List.mem_cons_of_mem _ hb)
    · intro b hb
      rcases List.mem_cons.mp hb with rfl | hb
      · exact hbs.nds b0 List.mem_cons_self
      · exact hbs.nds b (List.mem_cons_of_mem _ hb)
  · intro p np
    exact htail bs none h7 hbs g7 p np
end Lk04
end
-- Q4S4
section
set_option maxRecDepth 100000
set_option maxHeartbeats 4000000
namespace T3
open PySem PySem.Spec L2
theorem fors_scr {G : Sc} {i : Nat} {g : WG} {body : WS} {E : En} {ρ : Ev} {h : H3} : wFor (wScript G i) g body E ρ h ↔ ρ[i]? = some (some (.ref G.a)) ∧ forW (fun _ => True) g body E (G.ns.map .int) ρ h := Iff.rfl
theorem lcs_scr {G : Sc} {j i : Nat} {tt : WT} {e : WE} {ρ : Ev} {h : H3} {k : K1} : wLc (wScript G j) i tt e ρ h k ↔ ρ[j]? = some (some (.ref G.a)) ∧ ∀ p, h p = none → lcW (fun _ => True) i tt e p ρ k (G.ns.map .int) (up h p (.lst [])) := Iff.rfl
def sp_draw (G : Sc) : Sp3 := fun l h k => l = [.ref G.a] ∧ ∀ dr h', Drw h' dr → h dr = none → (∀ a o, h a = some o → h' a = some o) → k (.ref dr) h'
end T3
namespace Lk04
open PySem PySem.Spec PyProof.Rows L2 T3
theorem ok_draw (G : Sc) (hG : G.ns.length ≤ 1000) : ∀ l h k, sp_draw G l h k → W_l_draw G (en k) (ev0 N_l_draw l) h := by
  rintro l h0 k ⟨rfl, post⟩
  simp [W_l_draw, ev0, fors_scr]
  refine for_inv (fun j ρ h' => ∃ (s : Int) (x : Option D), ρ = [some (.ref G.a), some (.int s), x] ∧ 0 ≤ s ∧ h' = h0) (fun _ _ _ _ _ => trivial) ⟨7, none, rfl, by decide, rfl⟩ ?_ ?_
  · rintro j x ρ _ hx ⟨s, y, rfl, hs, rfl⟩ N hN
    obtain ⟨n, hn, rfl⟩ : ∃ n : Int, n ∈ G.ns ∧ x = .int n := by
      have := List.mem_of_getElem? hx
      obtain ⟨n, hn, e⟩ := List.mem_map.mp this
      exact ⟨n, hn, e.symm⟩
    simp
    exact hN _ _ ⟨_, _, rfl, Int.emod_nonneg _ (by decide), rfl⟩
  · rintro ρ h ⟨s, y, rfl, hs, e0⟩
    subst e0
    simp [lcs_scr]
    intro c nc
    refine lc_map (fun d => match d with | .int i => .int (if i < 0 then -i else i) | _ => .non) (by simp; omega) (fun _ _ _ => trivial) ?_ ?_
    · intro x hx o hh hs K hK
      obtain ⟨n, hn, rfl⟩ := List.mem_map.mp hx
      simp
      exact hK _ (Sub.refl _)
    · intro dr ndr
      have hcd : c ≠ dr := by rintro rfl; rw [up_same] at ndr; cases ndr
      have e1 : (G.ns.map D.int).map (fun d => match d with | .int i => .int (if i < 0 then -i else i) | _ => .non) = (G.ns.map fun i => if i < 0 then -i else i).map D.int := by
        simp [Function.comp_def]
      rw [e1] at ndr ⊢
      have hnd : h dr = none := by rw [up_ne hcd.symm] at ndr; exact ndr
      refine en_rt (post dr _ (Drw.mk' (q' := 0) hcd up_same (by decide) (by decide) hs fun n hn => ?_) hnd fun a o ha => ?_)
      · obtain ⟨m, _, rfl⟩ := List.mem_map.mp hn
        split <;> omega
      · have h1 : a ≠ c := by rintro rfl; rw [nc] at ha; cases ha
        have h2 : a ≠ dr := by rintro rfl; rw [hnd] at ha; cases ha
        rw [up_ne h2, up_ne h1]; exact ha
end Lk04
end
-- T3Own
section
set_option maxRecDepth 100000
set_option maxHeartbeats 4000000
/-! T3Own: a row of objects that belong together, made since h0. -/
namespace T3
open PySem PySem.Spec L2
structure Own (h0 h : H3) (cs : List (Addr × O)) : Prop where
  nd : (cs.map (·.1)).Nodup
  at_ : ∀ p ∈ cs, h p.1 = some p.2
  fresh : ∀ p ∈ cs, h0 p.1 = none
  sub : Sub h0 h
section
variable {h0 h h' : H3} {cs ds xs ys : List (Addr × O)} {a p : Addr} {o o' : O}
theorem Own.get (w : Own h0 h cs) (m : (a, o) ∈ cs) : h a = some o := w.at_ _ m
theorem Own.set (w : Own h0 h (xs ++ (a, o) :: ys)) : Own h0 (up h a o') (xs ++ (a, o') :: ys) := by
  have nd := w.nd
  have e : (xs ++ (a, o') :: ys).map (·.1) = (xs ++ (a, o) :: ys).map (·.1) := by simp
  have n0 : ∀ q ∈ xs ++ ys, q.1 ≠ a := by
    intro q hq
    simp only [List.map_append, List.map_cons] at nd
    have := ((List.perm_middle.nodup_iff).mp nd)
    rw [List.nodup_cons] at this
    intro z
    refine this.1 ?_
    rw [← List.map_append, ← z]
    exact List.mem_map_of_mem hq
  have f0 : h0 a = none := w.fresh (a, o) (by simp)
  refine ⟨by rw [e]; exact nd, fun q hq => ?_, fun q hq => ?_, fun b u eb => ?_⟩
  · rcases List.mem_append.mp hq with z | z
    · rw [up_ne (n0 q (List.mem_append_left _ z))]; exact w.at_ q (List.mem_append_left _ z)
    · rcases List.mem_cons.mp z with rfl | z
      · exact up_same
      · rw [up_ne (n0 q (List.mem_append_right _ z))]; exact w.at_ q (List.mem_append_right _ (List.mem_cons_of_mem _ z))
  · rcases List.mem_append.mp hq with z | z
    · exact w.fresh q (List.mem_append_left _ z)
    · rcases List.mem_cons.mp z with rfl | z
      · exact f0
      · exact w.fresh q (List.mem_append_right _ (List.mem_cons_of_mem _ z))
  · have : b ≠ a := fun z => by subst z; rw [f0] at eb; cases eb
    rw [up_ne this]; exact w.sub b u eb
theorem Sub.none (s : Sub h0 h) (n : h p = none) : h0 p = none := by
  cases e : h0 p with
  | none => rfl
  | some u => rw [s p u e] at n; cases n
theorem Own.ne (w : Own h0 h cs) (n : h p = none) : p ∉ cs.map (·.1) := fun z => by
  obtain ⟨q, hq, e⟩ := List.mem_map.mp z
  have := w.at_ q hq
  rw [e, n] at this; cases this
theorem Own.new (w : Own h0 h cs) (n : h p = none) : Own h0 (up h p o) ((p, o) :: cs) := by
  have hn := w.ne n
  refine ⟨by rw [List.map_cons, List.nodup_cons]; exact ⟨hn, w.nd⟩, fun q hq => ?_, fun q hq => ?_, w.sub.up (w.sub.none n)⟩
  · rcases List.mem_cons.mp hq with rfl | hq
    · exact up_same
    · rw [up_ne (fun z => hn (by rw [← z]; exact List.mem_map_of_mem hq))]; exact w.at_ q hq
  · rcases List.mem_cons.mp hq with rfl | hq
    · exact w.sub.none n
    · exact w.fresh q hq
theorem Own.perm (w : Own h0 h cs) (q : cs.Perm ds) : Own h0 h ds := ⟨((q.map _).nodup_iff).mp w.nd, fun p hp => w.at_ p (q.mem_iff.mpr hp), fun p hp => w.fresh p (q.mem_iff.mpr hp), w.sub⟩
theorem Own.more (w : Own h0 h cs) (s : Sub h h') : Own h0 h' cs := ⟨w.nd, fun p hp => s _ _ (w.at_ p hp), w.fresh, w.sub.trans s⟩
theorem Own.drop (w : Own h0 h cs) (q : ds.Sublist cs) : Own h0 h ds := ⟨(q.map _).nodup w.nd, fun p hp => w.at_ p (q.subset hp), fun p hp => w.fresh p (q.subset hp), w.sub⟩
/-- something besides -/
theorem Own.keep (w : Own h0 h cs) (n : h p = none) : Own (up h0 p o) (up h p o) cs := by
  have hn := w.ne n
  refine ⟨w.nd, fun q hq => ?_, fun q hq => ?_, w.sub.up_up⟩ <;> rw [up_ne (fun z => hn (by rw [← z]; exact List.mem_map_of_mem hq))]
  · exact w.at_ q hq
  · exact w.fresh q hq
/-- .. changed -/
theorem Own.less {h1 : H3} (w : Own h1 h cs) (s : Sub h0 h1) : Own h0 h cs := ⟨w.nd, w.at_, fun q hq => s.none (w.fresh q hq), s.trans w.sub⟩
theorem Own.start (s : Sub h0 h) : Own h0 h [] := ⟨List.nodup_nil, (fun _ h => nomatch h), (fun _ h => nomatch h), s⟩
end
end T3
namespace T3
open PySem PySem.Spec L2
section
variable {h0 h : H3} {cs xs ys : List (Addr × O)} {a p : Addr} {o o' : O}
theorem Own.away (w : Own h0 h cs) (n : h0 p = some o) : p ∉ cs.map (·.1) := fun z => by
  obtain ⟨q, hq, e⟩ := List.mem_map.mp z
  have := w.fresh q hq
  rw [e, n] at this; cases this
/-- what was besides is taken in -/
theorem Own.take (w : Own (up h0 p o) h cs) (n : h0 p = none) : Own h0 h ((p, o) :: cs) := by
  have hn := w.away (p := p) (o := o) up_same
  refine ⟨by rw [List.map_cons, List.nodup_cons]; exact ⟨hn, w.nd⟩, fun q hq => ?_, fun q hq => ?_, ((Sub.refl h0).up n).trans w.sub⟩
  · rcases List.mem_cons.mp hq with rfl | hq
    · exact w.sub _ _ up_same
    · exact w.at_ q hq
  · rcases List.mem_cons.mp hq with rfl | hq
    · exact n
    · exact ((Sub.refl h0).up n).none (w.fresh q hq)
/-- .. is put besides -/
theorem Own.give (w : Own h0 h (xs ++ (a, o) :: ys)) : Own (up h0 a o) h (xs ++ ys) := by
  have nd := w.nd
  simp only [List.map_append, List.map_cons] at nd
  have nd := (List.perm_middle.nodup_iff).mp nd
  rw [List.nodup_cons, ← List.map_append] at nd
  refine ⟨nd.2, fun q hq => w.at_ q ?_, fun q hq => ?_, fun b u eb => ?_⟩
  · rcases List.mem_append.mp hq with z | z
    · exact List.mem_append_left _ z
    · exact List.mem_append_right _ (List.mem_cons_of_mem _ z)
  · rw [up_ne (fun z => nd.1 (by rw [← z]; exact List.mem_map_of_mem hq))]
    refine w.fresh q ?_
    rcases List.mem_append.mp hq with z | z
    · exact List.mem_append_left _ z
    · exact List.mem_append_right _ (List.mem_cons_of_mem _ z)
  · by_cases hb : b = a
    · subst hb; rw [up_same] at eb; cases eb; exact w.at_ (b, o) (by simp)
    · rw [up_ne hb] at eb; exact w.sub b u eb
/-- .. is changed -/
theorem Own.alter (w : Own (up h0 p o) h cs) : Own (up h0 p o') (up h p o') cs := by
  have hn := w.away (p := p) (o := o) up_same
  refine ⟨w.nd, fun q hq => ?_, fun q hq => ?_, fun b u eb => ?_⟩
  · rw [up_ne (fun z => hn (by rw [← z]; exact List.mem_map_of_mem hq))]; exact w.at_ q hq
  · have := w.fresh q hq
    have hq' : q.1 ≠ p := fun z => hn (by rw [← z]; exact List.mem_map_of_mem hq)
    rw [up_ne hq'] at this ⊢; exact this
  · by_cases hb : b = p
    · subst hb; rw [up_same] at eb ⊢; exact eb
    · rw [up_ne hb] at eb ⊢; exact w.sub b u (by rw [up_ne hb]; exact eb)
end
end T3
end
-- G04
section
set_option maxRecDepth 100000
set_option maxHeartbeats 4000000
/-! G04: words, and the rows of a program that are looked for. -/
namespace T3
open PySem L2
theorem depthAll_strs : ∀ l : List Str, PyData.depthAll (l.map PyData.str) ≤ 1
  | [] => by simp [PyData.depthAll]
  | x :: r => by have := depthAll_strs r; simp [PyData.depthAll, PyData.depth]; omega
theorem rsl_strs {h : H3} : ∀ {l : List Str}, (∀ x ∈ l, PyData.strOk x = true) → RsL h (l.map D.str) (l.map PyData.str)
  | [], _ => .nil
  | x :: r, q => .cons (.str x (q x List.mem_cons_self)) (rsl_strs fun y hy => q y (List.mem_cons_of_mem _ hy))
theorem any_strs {z : Str} : ∀ l : List Str, (l.map PyData.str).any (fun p => PyData.eqv p (.str z)) = decide (z ∈ l)
  | [] => by simp
  | x :: r => by
    rw [List.map_cons, List.any_cons, any_strs r, eqv_str]
    by_cases h : x = z
    · subst h; simp
    · simp [h, Ne.symm h]
theorem in_strs {neg : Bool} {z : Str} {l : List Str} {h : H3} {k : K1} (hz : PyData.strOk z = true) (hl : ∀ x ∈ l, PyData.strOk x = true) (q : k (.bl (decide (z ∈ l) != neg)) h) : T3.rIn neg (.str z) (.tup (l.map .str)) h k := by
  refine ⟨.str z, l.map .str, .str z hz, rsl_strs hl, ?_, by rw [any_strs]; exact q⟩
  have := depthAll_strs l
  omega
theorem in_strsL {neg : Bool} {z : Str} {l : List Str} {a : Addr} {h : H3} {k : K1} (ha : h a = some (.lst (l.map .str))) (hz : PyData.strOk z = true) (hl : ∀ x ∈ l, PyData.strOk x = true) (q : k (.bl (decide (z ∈ l) != neg)) h) : T3.rIn neg (.str z) (.ref a) h k := by
  refine ⟨l.map .str, .str z, l.map .str, ha, .str z hz, rsl_strs hl, ?_, by rw [any_strs]; exact q⟩
  have := depthAll_strs l
  omega
@[simp] theorem sp_top_i {w : Int} {h : H3} {k : K1} : sp_top [.int w] h k ↔ (0 ≤ w ∧ w ≤ 1000 ∧ k (.int (p2 w - 1)) h) := by
  constructor
  · rintro ⟨x, e, q⟩; cases e; exact q
  · intro q; exact ⟨w, rfl, q⟩
end T3
namespace Lk04
open PySem PySem.Spec PyProof.Rows L2 T3 P04
def sp_compute : Sp3 := fun l h k => ∃ (o : Str) (w x y : Int), l = [.str o, .int w, .int x, .int y] ∧ (o ∈ pairOps ∨ o ∈ singleOps) ∧ 1 ≤ w ∧ w ≤ 16 ∧ (0 ≤ x ∧ x < p2 w) ∧ (0 ≤ y ∧ y < p2 w) ∧ k (.int (opD w o x y)) h
def sp_shifted : Sp3 := fun l h k => ∃ (o : Str) (w x y : Int), l = [.str o, .int w, .int x, .int y] ∧ (o = "shl" ∨ o = "shr") ∧ 1 ≤ w ∧ w ≤ 16 ∧ (0 ≤ x ∧ x < p2 w) ∧ (0 ≤ y ∧ y < p2 w) ∧ k (.int (opD w o x y)) h
theorem ok_top2 : ∀ l h k, sp_top l h k → W_top (en k) (ev0 N_top l) h := by
  rintro l h k ⟨w, rfl, h0, h1, post⟩
  simp [W_top, ev0]
  exact ⟨⟨h0, .inl (by omega)⟩, en_rt (by simpa [p2] using post)⟩
theorem ok_shifted : ∀ l h k, sp_shifted l h k → W_shifted sp_top (en k) (ev0 N_shifted l) h := by
  rintro l h k ⟨o, w, x, y, rfl, ho, w1, w2, hx, hy, post⟩
  have hx2 := p2_16 w2
  rcases ho with rfl | rfl <;> simp [W_shifted, ev0, opD] at post ⊢
  · split
    · rename_i c; rw [if_pos c] at post; exact en_rt post
    · rename_i c
      rw [if_neg c] at post
      exact ⟨⟨hy.1, .inl ⟨by omega, by omega, by omega⟩⟩, by omega, by omega, en_rt post⟩
  · split
    · rename_i c; rw [if_pos c] at post; exact en_rt post
    · rename_i c
      rw [if_neg c] at post
      exact ⟨hy.1, en_rt post⟩
theorem ok_compute : ∀ l h k, sp_compute l h k → W_compute sp_top sp_shifted (en k) (ev0 N_compute l) h := by
  rintro l h k ⟨o, w, x, y, rfl, ho, w1, w2, hx, hy, post⟩
  have hx2 := p2_16 w2
  have hw : 0 ≤ w ∧ w ≤ 1000 := ⟨by omega, by omega⟩
  have c1 : PyData.strOk "shl" = true := by decide +kernel
  have c2 : PyData.strOk "shr" = true := by decide +kernel
  have cl : ∀ z ∈ (["shl", "shr"] : List Str), PyData.strOk z = true := by
    intro z hz
    rcases List.mem_cons.mp hz with rfl | hz
    · exact c1
    · rw [List.mem_singleton.mp hz]; exact c2
  have nin : ∀ (o : Str) (K : K1) , PyData.strOk o = true → o ≠ "shl" → o ≠ "shr" → K (.bl false) h → T3.rIn false (.str o) (.tup [.str "shl", .str "shr"]) h K := fun o K c n1 n2 q =>
    in_strs (l := ["shl", "shr"]) c cl (by rw [decide_eq_false (by simp [n1, n2])]; exact q)
  simp [pairOps, singleOps] at ho
  rcases ho with (rfl | rfl | rfl | rfl | rfl | rfl | rfl | rfl | rfl | rfl) | rfl | rfl <;> simp [W_compute, ev0, opD, hw] at post ⊢
  · exact en_rt post
  · exact en_rt post
  · exact ⟨.inl ⟨by omega, by omega⟩, en_rt post⟩
  · exact en_rt post
  · exact en_rt post
  · exact en_rt post
  · refine in_strs (l := ["shl", "shr"]) c1 cl ?_
    simp
    exact ⟨_, w, x, y, rfl, .inl rfl, w1, w2, hx, hy, en_rt (by simpa [opD] using post)⟩
  · refine in_strs (l := ["shl", "shr"]) c2 cl ?_
    simp
    exact ⟨_, w, x, y, rfl, .inr rfl, w1, w2, hx, hy, en_rt (by simpa [opD] using post)⟩
  · refine nin "less" _ (by decide +kernel) (by simp) (by simp) ?_
    simp
    split
    · rename_i c; rw [if_pos c] at post; exact en_rt post
    · rename_i c; rw [if_neg c] at post; exact en_rt post
  · refine nin "equal" _ (by decide +kernel) (by simp) (by simp) ?_
    simp
    split
    · rename_i c; rw [if_pos c] at post; exact en_rt post
    · rename_i c; rw [if_neg c] at post; exact en_rt post
  · refine nin "not" _ (by decide +kernel) (by simp) (by simp) ?_
    simp [hw]
    exact en_rt post
  · refine nin "neg" _ (by decide +kernel) (by simp) (by simp) ?_
    simp [hw]
    exact en_rt post
theorem ok_l_compute : ∀ l h k, sp_compute l h k → W_l_compute sp_top (en k) (ev0 N_l_compute l) h := by
  rintro l h k ⟨o, w, x, y, rfl, ho, w1, w2, hx, hy, post⟩
  have hx2 := p2_16 w2
  have hw : 0 ≤ w ∧ w ≤ 1000 := ⟨by omega, by omega⟩
  simp [pairOps, singleOps] at ho
  rcases ho with (rfl | rfl | rfl | rfl | rfl | rfl | rfl | rfl | rfl | rfl) | rfl | rfl <;> simp [W_l_compute, ev0, opD, hw] at post ⊢
  · exact en_rt post
  · exact en_rt post
  · exact ⟨.inl ⟨by omega, by omega⟩, en_rt post⟩
  · exact en_rt post
  · exact en_rt post
  · exact en_rt post
  · split
    · rename_i c
      rw [if_neg (by omega)] at post
      have e : (if 20 < y then 20 else y) = y := if_neg (by omega)
      rw [e]
      exact ⟨⟨hy.1, .inl ⟨by omega, by omega, by omega⟩⟩, en_rt post⟩
    · rename_i c; rw [if_pos (by omega)] at post; exact en_rt post
  · split
    · rename_i c
      rw [if_neg (by omega)] at post
      exact ⟨hy.1, en_rt post⟩
    · rename_i c; rw [if_pos (by omega)] at post; exact en_rt post
  · exact en_rt post
  · exact en_rt post
  · exact en_rt post
  · exact en_rt post
def sp_sizeof : Sp3 := fun l h k => ∃ (pg : Pg) (a : Str) (z : Int), l = [pg.toD, .str a] ∧ pg.arrays.lookup a = some z ∧ k (.int z) h
theorem ok_size_of : ∀ l h k, sp_sizeof l h k → W_size_of (en k) (ev0 N_size_of l) h := by
  rintro l h0 k ⟨pg, a, z, rfl, hz, post⟩
  simp [W_size_of, ev0, Pg.toD]
  refine for_inv (fun j ρ h' => (∃ x, ρ = [some pg.toD, some (.str a), x]) ∧ h' = h0 ∧ (pg.arrays.drop j).lookup a = some z) (fun _ _ _ _ _ => trivial) ⟨⟨none, rfl⟩, rfl, by simpa using hz⟩ ?_ ?_
  · rintro j x ρ _ hx ⟨⟨y, rfl⟩, rfl, hd⟩ N hN
    rw [List.getElem?_map] at hx
    cases e : pg.arrays[j]? with
    | none => rw [e] at hx; cases hx
    | some q =>
      rw [e] at hx; cases hx
      have hj := (List.getElem?_eq_some_iff.mp e).1
      have e2 : pg.arrays[j] = q := (List.getElem?_eq_some_iff.mp e).2
      rw [List.drop_eq_getElem_cons hj, e2] at hd
      obtain ⟨b, n⟩ := q
      rw [List.lookup_cons] at hd
      simp [arD]
      by_cases hb : b = a
      · subst hb
        simp at hd ⊢
        subst hd
        exact en_rt post
      · rw [beq_eq_false_iff_ne.mpr (Ne.symm hb)] at hd
        simp [hb]
        exact hN _ _ ⟨⟨_, rfl⟩, rfl, hd⟩
  · rintro ρ h' ⟨_, _, hd⟩
    simp at hd
def sp_procof : Sp3 := fun l h k => ∃ (pg : Pg) (a : Str) (p : Pr), l = [pg.toD, .str a] ∧ procOf pg a = some p ∧ k p.toD h
theorem ok_procedure_of : ∀ l h k, sp_procof l h k → W_procedure_of (en k) (ev0 N_procedure_of l) h := by
  rintro l h0 k ⟨pg, a, z, rfl, hz, post⟩
  simp [W_procedure_of, ev0, Pg.toD]
  refine for_inv (fun j ρ h' => (∃ x, ρ = [some pg.toD, some (.str a), x]) ∧ h' = h0 ∧ (pg.procs.drop j).find? (fun p => decide (p.name = a)) = some z) (fun _ _ _ _ _ => trivial) ⟨⟨none, rfl⟩, rfl, by simpa [procOf] using hz⟩ ?_ ?_
  · rintro j x ρ _ hx ⟨⟨y, rfl⟩, rfl, hd⟩ N hN
    rw [List.getElem?_map] at hx
    cases e : pg.procs[j]? with
    | none => rw [e] at hx; cases hx
    | some q =>
      rw [e] at hx; cases hx
      have hj := (List.getElem?_eq_some_iff.mp e).1
      have e2 : pg.procs[j] = q := (List.getElem?_eq_some_iff.mp e).2
      rw [List.drop_eq_getElem_cons hj, e2, List.find?_cons] at hd
      simp [Pr.toD]
      by_cases hb : q.name = a
      · simp [hb] at hd ⊢
        subst hd
        exact en_rt (by rw [← hb]; exact post)
      · simp [hb] at hd ⊢
        exact hN _ _ ⟨⟨_, rfl⟩, rfl, by simpa using hd⟩
  · rintro ρ h' ⟨_, _, hd⟩
    simp at hd
def sp_blkof : Sp3 := fun l h k => ∃ (p : Pr) (a : Int) (b : Bk), l = [p.toD, .int a] ∧ blkOf p a = some b ∧ k b.toD h
theorem ok_block_of : ∀ l h k, sp_blkof l h k → W_block_of (en k) (ev0 N_block_of l) h := by
  rintro l h0 k ⟨pg, a, z, rfl, hz, post⟩
  simp [W_block_of, ev0, Pr.toD]
  refine for_inv (fun j ρ h' => (∃ x, ρ = [some pg.toD, some (.int a), x]) ∧ h' = h0 ∧ (pg.blocks.drop j).find? (fun p => decide (p.label = a)) = some z) (fun _ _ _ _ _ => trivial) ⟨⟨none, rfl⟩, rfl, by simpa [blkOf] using hz⟩ ?_ ?_
  · rintro j x ρ _ hx ⟨⟨y, rfl⟩, rfl, hd⟩ N hN
    rw [List.getElem?_map] at hx
    cases e : pg.blocks[j]? with
    | none => rw [e] at hx; cases hx
    | some q =>
      rw [e] at hx; cases hx
      have hj := (List.getElem?_eq_some_iff.mp e).1
      have e2 : pg.blocks[j] = q := (List.getElem?_eq_some_iff.mp e).2
      rw [List.drop_eq_getElem_cons hj, e2, List.find?_cons] at hd
      simp [Bk.toD]
      by_cases hb : q.label = a
      · simp [hb] at hd ⊢
        subst hd
        exact en_rt (by rw [← hb]; exact post)
      · simp [hb] at hd ⊢
        exact hN _ _ ⟨⟨_, rfl⟩, rfl, by simpa using hd⟩
  · rintro ρ h' ⟨_, _, hd⟩
    simp at hd
def sp_targets : Sp3 := fun l h k => ∃ n : Nd, l = [n.toD] ∧ k (.tup ((ndTargets n).map .int)) h
theorem ok_targets : ∀ l h k, sp_targets l h k → W_targets (en k) (ev0 N_targets l) h := by
  rintro l h k ⟨n, rfl, post⟩
  cases n <;> simp [W_targets, ev0, Nd.toD, ndTargets] at post ⊢ <;> exact en_rt post
end Lk04
end
-- P04r
section
set_option maxRecDepth 100000
set_option maxHeartbeats 4000000
/-! P04r: a run's state on the heap. -/
namespace P04
open PySem L2 T3
structure Lay where
  b : Addr
  wr : Addr
  pa : Addr
  it : Addr
  ce : Addr
  op : Addr
  cs : List Addr
  fs : List (Addr × Addr)
/-- how a state's parts are written -/
structure Knd where
  mo : Lay → Nat → Option (List Key) → O
  so : List (List Key) → O
  fo : Pr → Int → Nat → Int → Addr → O
  ix : ∀ L fs u e, mo { L with fs := fs } u e = mo L u e
def plD (p : Str × Int) : D := .tup [.str p.1, .int p.2]
def enD : Option (List Key) → D
  | none => .non
  | some ks => dOf ks
def arK : List (Str × List Int) → List Addr → List (Key × D)
  | c :: cl, a :: as => (.inr c.1, .ref a) :: arK cl as
  | _, _ => []
def cellCs : List (Str × List Int) → List Addr → List (Addr × O)
  | c :: cl, a :: as => (a, .lst (c.2.map .int)) :: cellCs cl as
  | _, _ => []
def frCs (κ : Knd) : List (Addr × Addr) → List Fr → List (Addr × O)
  | av :: fs, f :: gs => (av.1, κ.fo f.pr f.label f.at_ f.res av.2) :: (av.2, .dK f.vars) :: frCs κ fs gs
  | _, _ => []
def refs (fs : List (Addr × Addr)) : List D := (fs.map fun p => D.ref p.1).reverse
def base6 (κ : Knd) (L : Lay) (S : Rn) : List (Addr × O) :=
  (L.b, κ.mo L S.used S.en) :: (L.wr, .lst (S.writes.map .int)) :: (L.pa, .lst (S.path.map plD)) :: (L.it, κ.so S.items) :: (L.ce, .dK (arK S.cells L.cs)) :: (L.op, .lst (refs L.fs)) :: []
def cellsOf (κ : Knd) (L : Lay) (S : Rn) : List (Addr × O) :=
  (L.b, κ.mo L S.used S.en) :: (L.wr, .lst (S.writes.map .int)) :: (L.pa, .lst (S.path.map plD)) :: (L.it, κ.so S.items) :: (L.ce, .dK (arK S.cells L.cs)) :: (L.op, .lst (refs L.fs)) :: (cellCs S.cells L.cs ++ frCs κ L.fs S.frames)
structure RunAt (κ : Knd) (h0 h : H3) (L : Lay) (S : Rn) : Prop where
  ow : Own h0 h (cellsOf κ L S)
  lc : L.cs.length = S.cells.length
  lf : L.fs.length = S.frames.length
section
variable {κ : Knd} {h0 h h' : H3} {L : Lay} {S : Rn} {a v : Addr} {fs : List (Addr × Addr)} {f : Fr} {gs : List Fr}
theorem RunAt.b (R : RunAt κ h0 h L S) : h L.b = some (κ.mo L S.used S.en) := R.ow.get (by simp [cellsOf])
theorem RunAt.wr (R : RunAt κ h0 h L S) : h L.wr = some (.lst (S.writes.map .int)) := R.ow.get (by simp [cellsOf])
theorem RunAt.pa (R : RunAt κ h0 h L S) : h L.pa = some (.lst (S.path.map plD)) := R.ow.get (by simp [cellsOf])
theorem RunAt.it (R : RunAt κ h0 h L S) : h L.it = some (κ.so S.items) := R.ow.get (by simp [cellsOf])
theorem RunAt.ce (R : RunAt κ h0 h L S) : h L.ce = some (.dK (arK S.cells L.cs)) := R.ow.get (by simp [cellsOf])
theorem RunAt.op (R : RunAt κ h0 h L S) : h L.op = some (.lst (refs L.fs)) := R.ow.get (by simp [cellsOf])
theorem RunAt.top (R : RunAt κ h0 h L S) (hL : L.fs = (a, v) :: fs) (hS : S.frames = f :: gs) : h a = some (κ.fo f.pr f.label f.at_ f.res v) ∧ h v = some (.dK f.vars) := by
  constructor
  · exact R.ow.get (by simp [cellsOf, hL, hS, frCs])
  · exact R.ow.get (by simp [cellsOf, hL, hS, frCs])
theorem RunAt.lay (R : RunAt κ h0 h L S) (hS : S.frames = f :: gs) : ∃ a v fs, L.fs = (a, v) :: fs ∧ fs.length = gs.length := by
  have := R.lf
  rw [hS] at this
  cases e : L.fs with
  | nil => rw [e] at this; simp at this
  | cons p fs => exact ⟨p.1, p.2, fs, rfl, by rw [e] at this; simpa using this⟩
theorem refs_cons : refs ((a, v) :: fs) = refs fs ++ [.ref a] := by simp [refs]
theorem RunAt.more (R : RunAt κ h0 h L S) (s : Sub h h') : RunAt κ h0 h' L S := ⟨R.ow.more s, R.lc, R.lf⟩
theorem RunAt.less {h1 : H3} (R : RunAt κ h1 h L S) (s : Sub h0 h1) : RunAt κ h0 h L S := ⟨R.ow.less s, R.lc, R.lf⟩
theorem RunAt.keep {p : Addr} {o : O} (R : RunAt κ h0 h L S) (n : h p = none) : RunAt κ (up h0 p o) (up h p o) L S := ⟨R.ow.keep n, R.lc, R.lf⟩
theorem RunAt.alter {p : Addr} {o o' : O} (R : RunAt κ (up h0 p o) h L S) : RunAt κ (up h0 p o') (up h p o') L S := ⟨R.ow.alter, R.lc, R.lf⟩
theorem RunAt.setB (R : RunAt κ h0 h L S) (u : Nat) (e : Option (List Key)) : RunAt κ h0 (up h L.b (κ.mo L u e)) L { S with used := u, en := e } :=
  ⟨Own.set (xs := []) (o := κ.mo L S.used S.en) R.ow, R.lc, R.lf⟩
theorem RunAt.setWr (R : RunAt κ h0 h L S) (ws : List Int) : RunAt κ h0 (up h L.wr (.lst (ws.map .int))) L { S with writes := ws } :=
  ⟨Own.set (xs := [_]) R.ow, R.lc, R.lf⟩
theorem RunAt.setPa (R : RunAt κ h0 h L S) (ps : List (Str × Int)) : RunAt κ h0 (up h L.pa (.lst (ps.map plD))) L { S with path := ps } :=
  ⟨Own.set (xs := [_, _]) R.ow, R.lc, R.lf⟩
theorem RunAt.setIt (R : RunAt κ h0 h L S) (is : List (List Key)) : RunAt κ h0 (up h L.it (κ.so is)) L { S with items := is } :=
  ⟨Own.set (xs := [_, _, _]) R.ow, R.lc, R.lf⟩
theorem RunAt.setTop (R : RunAt κ h0 h L S) (hL : L.fs = (a, v) :: fs) (hS : S.frames = f :: gs) (f' : Fr) (e : f'.vars = f.vars) : RunAt κ h0 (up h a (κ.fo f'.pr f'.label f'.at_ f'.res v)) L { S with frames := f' :: gs } := by
  refine ⟨?_, R.lc, by rw [R.lf, hS]; rfl⟩
  have w := R.ow
  unfold cellsOf at w ⊢
  rw [hL, hS] at w
  dsimp only
  rw [hL]
  unfold frCs at w ⊢
  rw [e]
  exact Own.set (xs := _ :: _ :: _ :: _ :: _ :: _ :: cellCs S.cells L.cs) w
theorem RunAt.setVars (R : RunAt κ h0 h L S) (hL : L.fs = (a, v) :: fs) (hS : S.frames = f :: gs) (vs : List (Key × D)) : RunAt κ h0 (up h v (.dK vs)) L { S with frames := { f with vars := vs } :: gs } := by
  refine ⟨?_, R.lc, by rw [R.lf, hS]; rfl⟩
  have w := R.ow
  unfold cellsOf at w ⊢
  rw [hL, hS] at w
  dsimp only
  rw [hL]
  unfold frCs at w ⊢
  rw [← hL] at w
  have w' : Own h0 h ((base6 κ L S ++ (cellCs S.cells L.cs ++ [(a, κ.fo f.pr f.label f.at_ f.res v)])) ++ (v, .dK f.vars) :: frCs κ fs gs) := by
    simpa [base6] using w
  rw [← hL]
  simpa [base6] using Own.set (o' := .dK vs) w'
/-- a frame is left -/
theorem RunAt.pop (R : RunAt κ h0 h L S) (hL : L.fs = (a, v) :: fs) (hS : S.frames = f :: gs) :
    RunAt κ (up (up h0 a (κ.fo f.pr f.label f.at_ f.res v)) v (.dK f.vars)) (up h L.op (.lst (refs fs))) { L with fs := fs } { S with frames := gs } := by
  have lf := R.lf
  rw [hL, hS] at lf
  refine ⟨?_, R.lc, by simpa using lf⟩
  have w := R.ow
  unfold cellsOf at w ⊢
  rw [hL, hS] at w
  unfold frCs at w
  have w1 := Own.give (xs := _ :: _ :: _ :: _ :: _ :: _ :: cellCs S.cells L.cs) w
  have w2 := Own.give (xs := _ :: _ :: _ :: _ :: _ :: _ :: cellCs S.cells L.cs) w1
  dsimp only
  rw [κ.ix]
  exact Own.set (xs := [_, _, _, _, _]) w2
/-- a frame is put on top -/
theorem RunAt.push (R : RunAt κ (up (up h0 v (.dK f.vars)) a (κ.fo f.pr f.label f.at_ f.res v)) h L S) (nv : h0 v = none) (na : h0 a = none) (hne : a ≠ v) :
    RunAt κ h0 (up h L.op (.lst (refs L.fs ++ [.ref a]))) { L with fs := (a, v) :: L.fs } { S with frames := f :: S.frames } := by
  refine ⟨?_, R.lc, by simp [R.lf]⟩
  have w1 := R.ow.take (by rw [up_ne hne]; exact na)
  have w2 := w1.take nv
  rw [← refs_cons]
  have w3 : Own h0 h (((L.b, κ.mo L S.used S.en) :: (L.wr, .lst (S.writes.map .int)) :: (L.pa, .lst (S.path.map plD)) :: (L.it, κ.so S.items) :: (L.ce, .dK (arK S.cells L.cs)) :: []) ++ (L.op, .lst (refs L.fs)) :: (cellCs S.cells L.cs ++ ((a, κ.fo f.pr f.label f.at_ f.res v) :: (v, .dK f.vars) :: frCs κ L.fs S.frames))) := by
    refine w2.perm ?_
    unfold cellsOf
    have p1 : ∀ (x y : Addr × O) (A B : List (Addr × O)), (x :: y :: (A ++ B)).Perm (A ++ (y :: x :: B)) := fun x y A B => by
      refine (List.Perm.swap y x _).trans ?_
      refine ((List.perm_middle (l₁ := A) (l₂ := B) (a := x)).symm.cons y).trans ?_
      exact (List.perm_middle (l₁ := A) (l₂ := x :: B) (a := y)).symm
    exact p1 _ _ (_ :: _ :: _ :: _ :: _ :: _ :: cellCs S.cells L.cs) _
  have w4 := Own.set (o' := .lst (refs ((a, v) :: L.fs))) w3
  unfold cellsOf
  dsimp only
  rw [κ.ix]
  exact w4
/-- a cell -/
theorem cell_find : ∀ {cells : List (Str × List Int)} {cs : List Addr} {nm : Str} {l : List Int}, cells.lookup nm = some l → cs.length = cells.length → (cells.map (·.1)).Nodup →
    ∃ ca xs ys, valD (arK cells cs) (.inr nm) = some (.ref ca) ∧ cellCs cells cs = xs ++ (ca, .lst (l.map .int)) :: ys ∧
      ∀ i x, arK (putC cells nm i x) cs = arK cells cs ∧ cellCs (putC cells nm i x) cs = xs ++ (ca, .lst ((l.set i x).map .int)) :: ys
  | [], _, _, _, h, _, _ => by simp at h
  | c :: cl, [], _, _, _, hl, _ => by simp at hl
  | (n, m) :: cl, a :: as, nm, l, h, hl, nd => by
    rw [List.map_cons, List.nodup_cons] at nd
    rw [List.lookup_cons] at h
    by_cases e : nm = n
    · subst e
      simp at h
      subst h
      have rest : ∀ i x, putC cl nm i x = cl := fun i x => by
        unfold putC
        refine (List.map_congr_left fun c hc => ?_).trans (List.map_id cl)
        rw [if_neg]; rfl
        intro z
        have hm : c.1 ∈ cl.map (·.1) := List.mem_map_of_mem hc
        exact nd.1 (by rw [← z]; exact hm)
      refine ⟨a, [], cellCs cl as, by simp [arK, valD_cons], rfl, fun i x => ?_⟩
      have e1 : putC ((nm, m) :: cl) nm i x = (nm, m.set i x) :: cl := by
        show (if nm = nm then (nm, m.set i x) else (nm, m)) :: putC cl nm i x = _
        rw [if_pos rfl, rest]
      rw [e1]
      exact ⟨rfl, rfl⟩
    · rw [beq_eq_false_iff_ne.mpr e] at h
      obtain ⟨ca, xs, ys, h1, h2, h3⟩ := cell_find (cs := as) h (by simpa using hl) nd.2
      refine ⟨ca, (a, .lst (m.map .int)) :: xs, ys, ?_, by rw [cellCs, h2]; rfl, fun i x => ?_⟩
      · rw [arK, valD_cons, if_neg (by simpa using Ne.symm e)]; exact h1
      · have e1 : putC ((n, m) :: cl) nm i x = (n, m) :: putC cl nm i x := by
          show (if n = nm then (n, m.set i x) else (n, m)) :: putC cl nm i x = _
          rw [if_neg (Ne.symm e)]
        rw [e1, arK, cellCs, (h3 i x).1, (h3 i x).2]
        exact ⟨rfl, rfl⟩
theorem RunAt.cell (R : RunAt κ h0 h L S) {nm : Str} {l : List Int} (hl : S.cells.lookup nm = some l) (nd : (S.cells.map (·.1)).Nodup) :
    ∃ ca, valD (arK S.cells L.cs) (.inr nm) = some (.ref ca) ∧ h ca = some (.lst (l.map .int)) ∧ ∀ i x, RunAt κ h0 (up h ca (.lst ((l.map D.int).set i (.int x)))) L { S with cells := putC S.cells nm i x } := by
  obtain ⟨ca, xs, ys, h1, h2, h3⟩ := cell_find hl R.lc nd
  have w := R.ow
  unfold cellsOf at w
  rw [h2] at w
  have w' : Own h0 h ((base6 κ L S ++ xs) ++ (ca, .lst (l.map .int)) :: (ys ++ frCs κ L.fs S.frames)) := by simpa [base6] using w
  refine ⟨ca, h1, w'.get (by simp), fun i x => ⟨?_, by simp [putC, R.lc], R.lf⟩⟩
  have := Own.set (o' := .lst ((l.map D.int).set i (.int x))) w'
  unfold cellsOf
  dsimp only
  rw [(h3 i x).1, (h3 i x).2, List.map_set]
  simpa [base6] using this
theorem ClOk.nd {pg : Pg} (ok : PgOk pg) {cells : List (Str × List Int)} (c : ClOk pg cells) : (cells.map (·.1)).Nodup := by
  have := ok.an
  rw [← c.cl, List.map_map] at this
  exact this
end
end P04
end
-- G04b
section
set_option maxRecDepth 100000
set_option maxHeartbeats 4000000
/-! G04b: the runner's frames, its end, values. -/
namespace T3
open PySem L2
theorem while_inv {t : WT} {body : WS} {E : En} {ρ : Ev} {h : H3} (I : Nat → Ev → H3 → Prop) {m : Nat} (h0 : I m ρ h)
    (step : ∀ m ρ h, I m ρ h → ∀ N : Ev → H3 → Prop, (∀ m' ρ2 h2, m' < m → I m' ρ2 h2 → N ρ2 h2) → t ρ h fun c h1 => if c = true then body { nx := N, ct := N, bk := E.nx, rt := E.rt } ρ h1 else E.nx ρ h1) : wWhile t body E ρ h := by
  have gen : ∀ n m ρ h, m < n → I m ρ h → whileW t body E n ρ h := by
    intro n
    induction n with
    | zero => intro m ρ h hm; omega
    | succ n ih =>
      intro m ρ h hm q
      exact step m ρ h q _ fun m' ρ2 h2 hm' q' => ⟨h2, Sub.refl _, ih m' ρ2 h2 (by omega) q'⟩
  exact ⟨m + 1, gen _ m ρ h (Nat.lt_succ_self _) h0⟩
@[simp] theorem s_app3 {p : Addr} {d : D} {h : H3} {k : K1} : rAppend3 (.ref p) [d] h k ↔ ∃ xs, h p = some (.lst xs) ∧ xs.length < 16777216 ∧ k .non (up h p (.lst (xs ++ [d]))) := by
  constructor
  · rintro ⟨a, xs, d', e1, e2, r⟩; cases e1; cases e2; exact ⟨xs, r⟩
  · rintro ⟨xs, r⟩; exact ⟨p, xs, d, rfl, rfl, r⟩
theorem dpt_T {h : H3} {a : Addr} {kvs : List (List Key × D)} {ks : List Key} {v : D} (e : h a = some (.dT kvs)) (hl : kvs.length < 16777216) : DPt h a (dOf ks) v (up h a (.dT (putD kvs ks v))) :=
  .inr ⟨kvs, ks, e, keysOf_d ks, hl, rfl⟩
theorem dpt_K {h : H3} {a : Addr} {kvs : List (Key × D)} {y : D} {q : Key} {v : D} (e : h a = some (.dK kvs)) (hy : keyOf y = some q) (hl : kvs.length < 16777216) : DPt h a y v (up h a (.dK (putD kvs q v))) :=
  .inl ⟨kvs, q, e, hy, hl, rfl⟩
theorem atI_neg {α : Type} {l : List α} {x : α} : atI (l ++ [x]) (-1) = some x := by
  unfold atI ixN
  rw [if_neg (by omega), if_pos (by simp; omega)]
  have e : (-1 + ((l ++ [x]).length : Int)).toNat = l.length := by simp; omega
  simp only [Option.bind_some, e]
  simp
end T3
namespace P04
open PySem L2 T3
def seenOf (is : List (List Key)) : List (List Key × D) := is.foldl (fun kvs k => putD kvs k (.bl true)) []
theorem seen_snoc {is : List (List Key)} {k : List Key} : seenOf (is ++ [k]) = putD (seenOf is) k (.bl true) := by simp [seenOf]
theorem seen_len : ∀ is : List (List Key), (seenOf is).length ≤ is.length := by
  have gen : ∀ (is : List (List Key)) (a : List (List Key × D)), (is.foldl (fun kvs k => putD kvs k (.bl true)) a).length ≤ a.length + is.length := by
    intro is
    induction is with
    | nil => intro a; simp
    | cons x r ih =>
      intro a
      have := ih (putD a x (.bl true))
      have := putD_len a x (.bl true)
      simp only [List.foldl_cons, List.length_cons]; omega
  intro is
  have := gen is []
  simpa [seenOf] using this
end P04
namespace Lk04
open PySem PySem.Spec PyProof.Rows L2 T3 P04
def κR (CR CF : Addr) (pg : Pg) (inputs : List Int) (steps : Nat) : Knd where
  mo := fun L u e => .ins CR n_Runner [pg.toD, .tup (inputs.map .int), .int steps, .int u, .ref L.wr, .ref L.pa, .ref L.it, .ref L.ce, enD e, .ref L.op]
  so := fun is => .dT (seenOf is)
  fo := fun p l a r v => .ins CF n_Frame [p.toD, .int l, .int a, .ref v, .int r]
  ix := fun _ _ _ _ => rfl
/-- what is at hand in a run -/
structure Env4 (pg : Pg) (inputs : List Int) (steps B : Nat) (S : Rn) : Prop where
  ok : PgOk pg
  st : StOk pg steps B S
  small : B ≤ 100000
  few : steps ≤ 60
  inp : ∀ x ∈ inputs, 0 ≤ x ∧ x < p2 pg.w
  inl : inputs.length ≤ 1000
def sp_finit (CF : Addr) : Sp3 := fun l h k => ∃ a p lb v r, l = [.ref a, p, lb, v, r] ∧ h a = some (.ins CF n_Frame []) ∧ k .non (up h a (.ins CF n_Frame [p, lb, .int 0, v, r]))
theorem ok_finit (CF : Addr) : ∀ l h k, sp_finit CF l h k → W_Frame_init CF (en k) (ev0 N_Frame_init l) h := by
  rintro l h k ⟨a, p, lb, v, r, rfl, ha, post⟩
  simp [W_Frame_init, ev0, wSetF, ha, putAtD, n_Frame]
  exact en_rt (by simpa [n_Frame] using post)
def sp_fblock (CF : Addr) : Sp3 := fun l h k => ∃ (a : Addr) (p : Pr) (lb : Int) (x y z : D) (b : Bk), l = [.ref a] ∧ h a = some (.ins CF n_Frame [p.toD, .int lb, x, y, z]) ∧ blkOf p lb = some b ∧ k b.toD h
theorem ok_fblock (CF : Addr) : ∀ l h k, sp_fblock CF l h k → W_Frame_block CF sp_blkof (en k) (ev0 N_Frame_block l) h := by
  rintro l h k ⟨a, p, lb, x, y, z, b, rfl, ha, hb, post⟩
  simp [W_Frame_block, ev0, ha, n_Frame]
  exact ⟨p, lb, b, rfl, hb, en_rt post⟩
def plcD (f : Fr) : List D := [.str f.pr.name, .int f.label, .int (place f)]
def sp_fplace (CF : Addr) : Sp3 := fun l h k => ∃ (a : Addr) (f : Fr) (y z : D) (b : Bk), l = [.ref a] ∧ h a = some (.ins CF n_Frame [f.pr.toD, .int f.label, .int f.at_, y, z]) ∧ blkOf f.pr f.label = some b ∧ k (.tup (plcD f)) h
theorem ok_fplace (CF : Addr) : ∀ l h k, sp_fplace CF l h k → W_Frame_place CF (sp_fblock CF) (en k) (ev0 N_Frame_place l) h := by
  rintro l h k ⟨a, f, y, z, b, rfl, ha, hb, post⟩
  simp [W_Frame_place, ev0, ha, n_Frame, wMethC]
  refine ⟨a, f.pr, f.label, .int f.at_, y, z, b, rfl, by simpa [n_Frame] using ha, hb, ?_⟩
  unfold plcD place bodyOf at post
  rw [hb] at post
  simp [Bk.toD, ha, n_Frame, Pr.toD]
  split
  · rename_i c
    rw [if_pos c] at post
    exact en_rt post
  · rename_i c
    rw [if_neg c] at post
    exact en_rt post
/-- the end's words that are items, too -/
def endWords : List Str := ["broken", "index", "deep"]
def Rn.end_ (S : Rn) (x : Str) (r : List Key) : Rn := if x ∈ endWords then S.fin (.inr x :: r) else { S with en := some (.inr x :: r) }
def sp_finish (CR CF : Addr) : Sp3 := fun l h k => ∃ (pg : Pg) (inputs : List Int) (steps : Nat) (L : Lay) (S : Rn) (x : Str) (r : List Key) (h0 : H3), l = [.ref L.b, dOf (.inr x :: r)] ∧ PyData.strOk x = true ∧ RunAt (κR CR CF pg inputs steps) h0 h L S ∧ S.items.length ≤ 300000 ∧
  ∀ h', RunAt (κR CR CF pg inputs steps) h0 h' L (Rn.end_ S x r) → k .non h'
theorem ok_finish (CR CF : Addr) : ∀ l h k, sp_finish CR CF l h k → W_Runner_finish CR (en k) (ev0 N_Runner_finish l) h := by
  rintro l h k ⟨pg, inputs, steps, L, S, x, r, h0, rfl, hx, R, hl, post⟩
  have c1 : ∀ z ∈ endWords, PyData.strOk z = true := by
    intro z hz
    simp [endWords] at hz
    rcases hz with rfl | rfl | rfl <;> decide +kernel
  have hb := R.b
  have R1 := R.setB S.used (some (.inr x :: r))
  have hb1 := R1.b
  have hi1 := R1.it
  simp only [κR] at hb hb1 hi1 R1
  simp [W_Runner_finish, ev0, wSetF, hb, n_Runner, putAtD, dOf, kD]
  refine in_strs (l := endWords) hx c1 ?_
  simp
  unfold Rn.end_ at post
  have e0 : D.tup (D.str x :: List.map kD r) = dOf (.inr x :: r) := rfl
  rw [e0]
  split
  · rename_i c
    rw [if_pos c] at post
    simp [wDPut]
    have hl2 := seen_len S.items
    have R2 := R1.setIt (S.items ++ [.inr x :: r])
    simp only [enD] at R1 R2 hb1 hi1
    refine ⟨_, dpt_T (kvs := seenOf S.items) hi1 (by omega), en_rt (post _ ?_)⟩
    rw [seen_snoc] at R2
    exact R2
  · rename_i c
    rw [if_neg c] at post
    exact en_rt (post _ R1)
end Lk04
end
-- G04c
section
set_option maxRecDepth 100000
set_option maxHeartbeats 4000000
/-! G04c: the runner's look at sizes, values. -/
namespace Lk04
open PySem PySem.Spec PyProof.Rows L2 T3 P04
def sp_below (CR CF : Addr) : Sp3 := fun l h k => ∃ (pg : Pg) (inputs : List Int) (steps : Nat) (L : Lay) (S : Rn) (B : Nat) (f : Fr) (fs : List Fr) (a : Str) (z i : Int) (h0 : H3), l = [.ref L.b, .str a, .int i] ∧
  RunAt (κR CR CF pg inputs steps) h0 h L S ∧ Env4 pg inputs steps B S ∧ S.frames = f :: fs ∧ pg.arrays.lookup a = some z ∧
  (i < z → ∀ h', RunAt (κR CR CF pg inputs steps) h0 h' L S → k (.bl true) h') ∧ (¬ i < z → ∀ h', RunAt (κR CR CF pg inputs steps) h0 h' L (S.fin (idxK f)) → k (.bl false) h')
theorem ok_below (CR CF : Addr) : ∀ l h k, sp_below CR CF l h k → W_Runner_is_below CR CF sp_sizeof (sp_finish CR CF) (sp_fplace CF) (en k) (ev0 N_Runner_is_below l) h := by
  rintro l h k ⟨pg, inputs, steps, L, S, B, f, fs, a, z, i, h0, rfl, R, E, hf, hz, p1, p2⟩
  have hb : h L.b = some (.ins CR n_Runner [pg.toD, .tup (inputs.map .int), .int steps, .int S.used, .ref L.wr, .ref L.pa, .ref L.it, .ref L.ce, enD S.en, .ref L.op]) := R.b
  have ho := R.op
  obtain ⟨t, v, fs', hL, _⟩ := R.lay hf
  obtain ⟨ht, hv⟩ := R.top hL hf
  have ht : h t = some (.ins CF n_Frame [f.pr.toD, .int f.label, .int f.at_, .ref v, .int f.res]) := ht
  rw [hL, refs_cons] at ho
  have FO := E.st.fr f (by rw [hf]; exact List.mem_cons_self)
  obtain ⟨b, hbk, _⟩ := FO.blk
  simp [W_Runner_is_below, ev0, hb, n_Runner]
  refine ⟨pg, a, z, rfl, hz, ?_⟩
  simp
  split
  · rename_i c; exact en_rt (p1 c _ R)
  · rename_i c
    simp [wMethC, hb, n_Runner, ho, atI_neg, ht, n_Frame]
    refine ⟨t, f, .ref v, .int f.res, b, rfl, by simpa [n_Frame] using ht, hbk, ?_⟩
    simp [plcD]
    have hil := E.st.il
    have hsm := E.small
    refine ⟨pg, inputs, steps, L, S, "index", [.inr f.pr.name, .inl f.label, .inl (place f)], h0, rfl, by decide +kernel, R, by omega, fun h' R' => ?_⟩
    have e : Rn.end_ S "index" [.inr f.pr.name, .inl f.label, .inl (place f)] = S.fin (idxK f) := by
      unfold Rn.end_; rw [if_pos (by simp [endWords])]; rfl
    rw [e] at R'
    exact en_rt (p2 c _ R')
def optD : Option Int → D
  | none => .non
  | some x => .int x
/-- the state behind a look for a value -/
def aft (S : Rn) (f : Fr) : Option Int → Rn
  | none => S.fin (idxK f)
  | some _ => S
def sp_value (CR CF : Addr) (m : Nat) : Sp3 := fun l h k => ∃ (pg : Pg) (inputs : List Int) (steps : Nat) (L : Lay) (S : Rn) (B : Nat) (f : Fr) (fs : List Fr) (e : Ex) (h0 : H3), l = [.ref L.b, e.toD] ∧
  RunAt (κR CR CF pg inputs steps) h0 h L S ∧ Env4 pg inputs steps B S ∧ S.frames = f :: fs ∧ e.Wf (p2 pg.w) pg.arrays m ∧
  ∀ h', RunAt (κR CR CF pg inputs steps) h0 h' L (aft S f (val pg.w S.cells f.vars e)) → k (optD (val pg.w S.cells f.vars e)) h'
theorem sizes {a : Str} {l : List Int} : ∀ {cells : List (Str × List Int)}, cells.lookup a = some l → (cells.map fun c => (c.1, (c.2.length : Int))).lookup a = some (l.length : Int)
  | [], h => by simp at h
  | (n, m) :: cl, h => by
    rw [List.map_cons, List.lookup_cons]
    rw [List.lookup_cons] at h
    cases e : a == n with
    | true => rw [e] at h; cases h; rfl
    | false => rw [e] at h; exact sizes (cells := cl) h
theorem op_words {o : Str} (h : o ∈ pairOps ∨ o ∈ singleOps) : o ≠ "int" ∧ o ≠ "var" ∧ o ≠ "cell" := by
  simp [pairOps, singleOps] at h
  rcases h with (rfl | rfl | rfl | rfl | rfl | rfl | rfl | rfl | rfl | rfl) | rfl | rfl <;> simp
theorem pair_single {o : Str} (h : o ∈ pairOps) : o ∉ k_SINGLES := by
  simp [pairOps] at h
  rcases h with rfl | rfl | rfl | rfl | rfl | rfl | rfl | rfl | rfl | rfl <;> simp [k_SINGLES]
theorem ok_value (CR CF : Addr) (m : Nat) : ∀ l h k, sp_value CR CF (m + 1) l h k → W_Runner_value CF CR (sp_value CR CF m) (sp_below CR CF) sp_compute (en k) (ev0 N_Runner_value l) h := by
  rintro l h k ⟨pg, inputs, steps, L, S, B, f, fs, e, h0, rfl, R, E, hf, hw, post⟩
  have hb : h L.b = some (.ins CR n_Runner [pg.toD, .tup (inputs.map .int), .int steps, .int S.used, .ref L.wr, .ref L.pa, .ref L.it, .ref L.ce, enD S.en, .ref L.op]) := R.b
  have ho := R.op
  obtain ⟨t, v, fs', hL, _⟩ := R.lay hf
  obtain ⟨ht, hv⟩ := R.top hL hf
  have ht : h t = some (.ins CF n_Frame [f.pr.toD, .int f.label, .int f.at_, .ref v, .int f.res]) := ht
  rw [hL, refs_cons] at ho
  have FO := E.st.fr f (by rw [hf]; exact List.mem_cons_self)
  cases e with
  | int n =>
    simp [W_Runner_value, ev0, Ex.toD, val, optD, aft] at post ⊢
    exact en_rt (post _ R)
  | var x =>
    simp [W_Runner_value, ev0, Ex.toD, val, optD, aft, wDGet2, hb, n_Runner, ho, atI_neg, ht, n_Frame] at post ⊢
    refine ⟨.inl ⟨_, hv⟩, _, (dg_dK hv).mpr ⟨_, rfl, rfl⟩, ?_⟩
    rw [(FO.vr.get p2_pos x).1]
    exact en_rt (post _ R)
  | cell a i =>
    simp [W_Runner_value, ev0, Ex.toD, wMethC, hb, n_Runner]
    refine ⟨pg, inputs, steps, L, S, B, f, fs, i, h0, rfl, R, E, hf, hw.2, fun h1 R1 => ?_⟩
    obtain ⟨l, hl⟩ := E.st.cl.has hw.1
    cases hv1 : val pg.w S.cells f.vars i with
    | none =>
      simp [val, hv1, optD, aft] at post R1 ⊢
      exact en_rt (post _ R1)
    | some x =>
      have hx := val_range E.ok E.st.cl FO.vr hw.2 hv1
      simp [val, hv1, hl, optD, aft] at post R1 ⊢
      have hb1 : h1 L.b = some (.ins CR n_Runner [pg.toD, .tup (inputs.map .int), .int steps, .int S.used, .ref L.wr, .ref L.pa, .ref L.it, .ref L.ce, enD S.en, .ref L.op]) := R1.b
      simp [hb1, n_Runner]
      have hz : pg.arrays.lookup a = some (l.length : Int) := by rw [← E.st.cl.cl]; exact sizes (cells := S.cells) (l := l) hl
      refine ⟨pg, inputs, steps, L, S, B, f, fs, a, l.length, x, h0, rfl, R1, E, hf, hz, fun c h2 R2 => ?_, fun c h2 R2 => ?_⟩
      · have hb2 : h2 L.b = some (.ins CR n_Runner [pg.toD, .tup (inputs.map .int), .int steps, .int S.used, .ref L.wr, .ref L.pa, .ref L.it, .ref L.ce, enD S.en, .ref L.op]) := R2.b
        obtain ⟨ca, g1, g2, _⟩ := R2.cell hl (E.st.cl.nd E.ok)
        have hlt : x.toNat < l.length := by omega
        rw [List.getElem?_eq_getElem hlt] at post
        have hat : atI (l.map D.int) x = some (.int l[x.toNat]) := by
          rw [atI_pos hx.1 (by simpa using c)]; simp
        simp [hb2, n_Runner]
        exact ⟨_, (dg_dK R2.ce).mpr ⟨_, rfl, g1.symm⟩, by simp [g2, hat]; exact en_rt (post _ R2)⟩
      · rw [List.getElem?_eq_none (by omega)] at post
        simp at post ⊢
        exact en_rt (post _ R2)
  | one o x =>
    obtain ⟨n1, n2, n3⟩ := op_words (.inr hw.1)
    have hs : o ∈ k_SINGLES := hw.1
    simp [W_Runner_value, ev0, Ex.toD, wMethC, hb, n_Runner, n1, n2, n3]
    refine ⟨pg, inputs, steps, L, S, B, f, fs, x, h0, rfl, R, E, hf, hw.2, fun h1 R1 => ?_⟩
    cases hv1 : val pg.w S.cells f.vars x with
    | none =>
      simp [val, hv1, optD, aft] at post R1 ⊢
      exact en_rt (post _ R1)
    | some y =>
      have hx := val_range E.ok E.st.cl FO.vr hw.2 hv1
      simp [val, hv1, optD, aft] at post R1 ⊢
      have hb1 : h1 L.b = some (.ins CR n_Runner [pg.toD, .tup (inputs.map .int), .int steps, .int S.used, .ref L.wr, .ref L.pa, .ref L.it, .ref L.ce, enD S.en, .ref L.op]) := R1.b
      simp [rInK, hs, hb1, n_Runner, Pg.toD]
      exact ⟨o, pg.w, y, 0, rfl, .inr hw.1, E.ok.w1, E.ok.w2, hx, ⟨Int.le_refl _, p2_pos⟩, en_rt (post _ R1)⟩
  | two o x y =>
    obtain ⟨n1, n2, n3⟩ := op_words (.inl hw.1)
    have hs := pair_single hw.1
    simp [W_Runner_value, ev0, Ex.toD, wMethC, hb, n_Runner, n1, n2, n3]
    refine ⟨pg, inputs, steps, L, S, B, f, fs, x, h0, rfl, R, E, hf, hw.2.1, fun h1 R1 => ?_⟩
    cases hv1 : val pg.w S.cells f.vars x with
    | none =>
      simp [val, hv1, optD, aft] at post R1 ⊢
      exact en_rt (post _ R1)
    | some a =>
      have hx := val_range E.ok E.st.cl FO.vr hw.2.1 hv1
      simp [val, hv1, optD, aft] at post R1 ⊢
      have hb1 : h1 L.b = some (.ins CR n_Runner [pg.toD, .tup (inputs.map .int), .int steps, .int S.used, .ref L.wr, .ref L.pa, .ref L.it, .ref L.ce, enD S.en, .ref L.op]) := R1.b
      simp [rInK, hs, hb1, n_Runner]
      refine ⟨pg, inputs, steps, L, S, B, f, fs, y, h0, rfl, R1, E, hf, hw.2.2, fun h2 R2 => ?_⟩
      cases hv2 : val pg.w S.cells f.vars y with
      | none =>
        simp [hv2, optD, aft] at post R2 ⊢
        exact en_rt (post _ R2)
      | some c =>
        have hy := val_range E.ok E.st.cl FO.vr hw.2.2 hv2
        simp [hv2, optD, aft] at post R2 ⊢
        have hb2 : h2 L.b = some (.ins CR n_Runner [pg.toD, .tup (inputs.map .int), .int steps, .int S.used, .ref L.wr, .ref L.pa, .ref L.it, .ref L.ce, enD S.en, .ref L.op]) := R2.b
        simp [hb2, n_Runner, Pg.toD]
        exact ⟨o, pg.w, a, c, rfl, .inl hw.1, E.ok.w1, E.ok.w2, hx, hy, en_rt (post _ R2)⟩
end Lk04
end
-- G04d
section
set_option maxRecDepth 100000
set_option maxHeartbeats 4000000
/-! G04d: the runner enters, stores. -/
namespace P04
open PySem L2 T3
structure Nes (L : Lay) : Prop where
  bwr : L.b ≠ L.wr
  bpa : L.b ≠ L.pa
  bit : L.b ≠ L.it
  bce : L.b ≠ L.ce
  bop : L.b ≠ L.op
  wrpa : L.wr ≠ L.pa
  writ : L.wr ≠ L.it
  wrce : L.wr ≠ L.ce
  wrop : L.wr ≠ L.op
  pait : L.pa ≠ L.it
  pace : L.pa ≠ L.ce
  paop : L.pa ≠ L.op
  itce : L.it ≠ L.ce
  itop : L.it ≠ L.op
  ceop : L.ce ≠ L.op
theorem RunAt.nes {κ : Knd} {h0 h : H3} {L : Lay} {S : Rn} (R : RunAt κ h0 h L S) : Nes L := by
  have n := R.ow.nd
  simp only [cellsOf, List.map_cons, List.nodup_cons, List.mem_cons, not_or] at n
  obtain ⟨⟨a1, a2, a3, a4, a5, _⟩, ⟨b1, b2, b3, b4, _⟩, ⟨c1, c2, c3, _⟩, ⟨d1, d2, _⟩, ⟨e1, _⟩, _⟩ := n
  exact ⟨a1, a2, a3, a4, a5, b1, b2, b3, b4, c1, c2, c3, d1, d2, e1⟩
/-- the top frame's two places are others than the six -/
structure Net (L : Lay) (a v : Addr) : Prop where
  av : a ≠ v
  ab : a ≠ L.b
  awr : a ≠ L.wr
  apa : a ≠ L.pa
  ait : a ≠ L.it
  ace : a ≠ L.ce
  aop : a ≠ L.op
  vb : v ≠ L.b
  vwr : v ≠ L.wr
  vpa : v ≠ L.pa
  vit : v ≠ L.it
  vce : v ≠ L.ce
  vop : v ≠ L.op
theorem RunAt.net {κ : Knd} {h0 h : H3} {L : Lay} {S : Rn} {a v : Addr} {fs : List (Addr × Addr)} {f : Fr} {gs : List Fr} (R : RunAt κ h0 h L S) (hL : L.fs = (a, v) :: fs) (hS : S.frames = f :: gs) : Net L a v := by
  have n := R.ow.nd
  simp only [cellsOf, hL, hS, frCs, List.map_cons, List.map_append, List.nodup_cons, List.mem_cons, List.mem_append, not_or, List.nodup_append] at n
  obtain ⟨⟨_, _, _, _, _, _, a1, a2, _⟩, ⟨_, _, _, _, _, b1, b2, _⟩, ⟨_, _, _, _, c1, c2, _⟩, ⟨_, _, _, d1, d2, _⟩, ⟨_, _, e1, e2, _⟩, ⟨_, f1, f2, _⟩, _, ⟨g1, _⟩, _⟩ := n
  exact ⟨g1.1, Ne.symm a1, Ne.symm b1, Ne.symm c1, Ne.symm d1, Ne.symm e1, Ne.symm f1, Ne.symm a2, Ne.symm b2, Ne.symm c2, Ne.symm d2, Ne.symm e2, Ne.symm f2⟩
theorem RunAt.apart {κ : Knd} {h0 h : H3} {L : Lay} {S : Rn} {p : Addr} {o : O} (R : RunAt κ h0 h L S) (n : h0 p = some o) : p ≠ L.b ∧ p ≠ L.wr ∧ p ≠ L.pa ∧ p ≠ L.it ∧ p ≠ L.ce ∧ p ≠ L.op := by
  have n := R.ow.away n
  simp only [cellsOf, List.map_cons, List.mem_cons, not_or] at n
  obtain ⟨a1, a2, a3, a4, a5, a6, _⟩ := n
  exact ⟨a1, a2, a3, a4, a5, a6⟩
end P04
namespace Lk04
open PySem PySem.Spec PyProof.Rows L2 T3 P04
def foR (CF : Addr) (f : Fr) (v : Addr) : O := .ins CF n_Frame [f.pr.toD, .int f.label, .int f.at_, .ref v, .int f.res]
def sp_enter (CR CF : Addr) : Sp3 := fun l h k => ∃ (pg : Pg) (inputs : List Int) (steps : Nat) (L : Lay) (S : Rn) (f : Fr) (a v : Addr) (h0 : H3), l = [.ref L.b, .ref a] ∧
  RunAt (κR CR CF pg inputs steps) (up (up h0 v (.dK f.vars)) a (foR CF f v)) h L S ∧ h0 v = none ∧ h0 a = none ∧ a ≠ v ∧ S.path.length ≤ 1000 ∧ S.items.length ≤ 300000 ∧ L.fs.length ≤ 100 ∧
  (steps ≤ S.path.length → ∀ h', RunAt (κR CR CF pg inputs steps) (up (up h0 v (.dK f.vars)) a (foR CF f v)) h' L { S with en := some [.inr "none"] } → k .non h') ∧
  (¬ steps ≤ S.path.length → ∀ h', RunAt (κR CR CF pg inputs steps) h0 h' { L with fs := (a, v) :: L.fs } (enter steps S f) → k .non h')
theorem ok_enter (CR CF : Addr) : ∀ l h k, sp_enter CR CF l h k → W_Runner_enter CR CF (en k) (ev0 N_Runner_enter l) h := by
  rintro l h k ⟨pg, inputs, steps, L, S, f, a, v, h0, rfl, R, nv, na, hav, hpl, hil, hfl, p1, p2⟩
  have hb : h L.b = some (.ins CR n_Runner [pg.toD, .tup (inputs.map .int), .int steps, .int S.used, .ref L.wr, .ref L.pa, .ref L.it, .ref L.ce, enD S.en, .ref L.op]) := R.b
  have hp := R.pa
  have ho := R.op
  have hi : h L.it = some (.dT (seenOf S.items)) := R.it
  have ne := R.nes
  have ha : h a = some (foR CF f v) := R.ow.sub _ _ up_same
  simp [W_Runner_enter, ev0, hb, n_Runner, hp]
  split
  · rename_i c
    simp [wSetF, hb, n_Runner, putAtD]
    exact en_rt (p1 c _ (R.setB S.used (some [.inr "none"])))
  · rename_i c
    have R2 := R.setPa (S.path ++ [(f.pr.name, f.label)])
    have R3 := R2.setIt (S.items ++ [blockK f.pr.name f.label])
    have R4 := RunAt.push (f := f) R3 nv na hav
    have hl := seen_len S.items
    simp [foR, n_Frame, ha, wAppend, hb, n_Runner, hp, wDPut, up_ne ne.bpa, up_ne ne.bit, up_ne ne.bop, Pr.toD]
    refine ⟨by omega, _, dpt_T (ks := blockK f.pr.name f.label) (kvs := seenOf S.items) (by rw [up_ne ne.pait.symm]; exact hi) (by omega), ?_⟩
    simp [up_ne ne.bpa, up_ne ne.bit, hb, n_Runner, up_ne ne.paop.symm, up_ne ne.itop.symm, ho]
    refine ⟨by simp [refs]; omega, en_rt (p2 c _ ?_)⟩
    have e1 : enter steps S f = { S with path := S.path ++ [(f.pr.name, f.label)], items := S.items ++ [blockK f.pr.name f.label], frames := f :: S.frames } := by unfold enter; rw [if_neg c]
    rw [e1]
    have e2 : (κR CR CF pg inputs steps).so (S.items ++ [blockK f.pr.name f.label]) = .dT (putD (seenOf S.items) (blockK f.pr.name f.label) (.bl true)) := by
      show O.dT (seenOf _) = _
      rw [seen_snoc]
    rw [e2] at R4
    simpa [plD] using R4
/-- the state behind a store -/
def stoS (S : Rn) (f : Fr) (fs : List Fr) (w : Int) (a : Str) (e1 e2 : Ex) : Rn :=
  match val w S.cells f.vars e1 with
  | none => S.fin (idxK f)
  | some i => match val w S.cells f.vars e2 with
    | none => S.fin (idxK f)
    | some x => match S.cells.lookup a with
      | none => S.fin (idxK f)
      | some l => if i.toNat < l.length then { S with cells := putC S.cells a i.toNat x } else S.fin (idxK f)
def sp_store (CR CF : Addr) : Sp3 := fun l h k => ∃ (pg : Pg) (inputs : List Int) (steps : Nat) (L : Lay) (S : Rn) (B : Nat) (f : Fr) (fs : List Fr) (a : Str) (e1 e2 : Ex) (h0 : H3), l = [.ref L.b, (Sm.store a e1 e2).toD] ∧
  RunAt (κR CR CF pg inputs steps) h0 h L S ∧ Env4 pg inputs steps B S ∧ S.frames = f :: fs ∧ (Sm.store a e1 e2).Wf (p2 pg.w) pg.arrays (pns pg) ∧
  ∀ h', RunAt (κR CR CF pg inputs steps) h0 h' L (stoS S f fs pg.w a e1 e2) → k .non h'
theorem ok_store (CR CF : Addr) : ∀ l h k, sp_store CR CF l h k → W_Runner_store CR (sp_value CR CF 5) (sp_below CR CF) (en k) (ev0 N_Runner_store l) h := by
  rintro l h k ⟨pg, inputs, steps, L, S, B, f, fs, a, e1, e2, h0, rfl, R, E, hf, hw, post⟩
  have hb : h L.b = some (.ins CR n_Runner [pg.toD, .tup (inputs.map .int), .int steps, .int S.used, .ref L.wr, .ref L.pa, .ref L.it, .ref L.ce, enD S.en, .ref L.op]) := R.b
  have FO := E.st.fr f (by rw [hf]; exact List.mem_cons_self)
  obtain ⟨l, hl⟩ := E.st.cl.has hw.1
  simp [W_Runner_store, ev0, Sm.toD, wMethC, hb, n_Runner]
  refine ⟨pg, inputs, steps, L, S, B, f, fs, e1, h0, rfl, R, E, hf, hw.2.1, fun h1 R1 => ?_⟩
  unfold stoS at post
  cases hv1 : val pg.w S.cells f.vars e1 with
  | none =>
    simp [hv1, optD, aft] at post R1 ⊢
    exact en_rt (post _ R1)
  | some i =>
    have hi := val_range E.ok E.st.cl FO.vr hw.2.1 hv1
    simp [hv1, optD, aft] at post R1 ⊢
    have hb1 : h1 L.b = some (.ins CR n_Runner [pg.toD, .tup (inputs.map .int), .int steps, .int S.used, .ref L.wr, .ref L.pa, .ref L.it, .ref L.ce, enD S.en, .ref L.op]) := R1.b
    simp [hb1, n_Runner]
    refine ⟨pg, inputs, steps, L, S, B, f, fs, e2, h0, rfl, R1, E, hf, hw.2.2, fun h2 R2 => ?_⟩
    cases hv2 : val pg.w S.cells f.vars e2 with
    | none =>
      simp [hv2, optD, aft] at post R2 ⊢
      exact en_rt (post _ R2)
    | some x =>
      have hx := val_range E.ok E.st.cl FO.vr hw.2.2 hv2
      simp [hv2, hl, optD, aft] at post R2 ⊢
      have hb2 : h2 L.b = some (.ins CR n_Runner [pg.toD, .tup (inputs.map .int), .int steps, .int S.used, .ref L.wr, .ref L.pa, .ref L.it, .ref L.ce, enD S.en, .ref L.op]) := R2.b
      simp [hb2, n_Runner]
      have hz : pg.arrays.lookup a = some (l.length : Int) := by rw [← E.st.cl.cl]; exact sizes (cells := S.cells) (l := l) hl
      refine ⟨pg, inputs, steps, L, S, B, f, fs, a, l.length, i, h0, rfl, R2, E, hf, hz, fun c h3 R3 => ?_, fun c h3 R3 => ?_⟩
      · have hb3 : h3 L.b = some (.ins CR n_Runner [pg.toD, .tup (inputs.map .int), .int steps, .int S.used, .ref L.wr, .ref L.pa, .ref L.it, .ref L.ce, enD S.en, .ref L.op]) := R3.b
        obtain ⟨ca, g1, g2, g3⟩ := R3.cell hl (E.st.cl.nd E.ok)
        rw [if_pos (by omega)] at post
        have hix : ixN l.length i = some i.toNat := by
          unfold ixN; rw [if_pos hi.1, if_pos (by omega)]
        simp [hb3, n_Runner]
        refine ⟨_, (dg_dK R3.ce).mpr ⟨_, rfl, g1.symm⟩, ?_⟩
        simp [g2, hix]
        exact en_rt (post _ (g3 i.toNat x))
      · rw [if_neg (by omega)] at post
        simp
        exact en_rt (post _ R3)
end Lk04
end
-- G04e
section
set_option maxRecDepth 100000
set_option maxHeartbeats 4000000
/-! G04e: the runner's calls. -/
namespace P04
open PySem L2 T3
theorem vals_app {w : Int} {cells : List (Str × List Int)} {vars : List (Key × D)} : ∀ {es fs : List Ex}, vals w cells vars (es ++ fs) = match vals w cells vars es with
    | none => none
    | some xs => match vals w cells vars fs with
      | none => none
      | some ys => some (xs ++ ys)
  | [], fs => by
    simp only [List.nil_append, vals]
    cases vals w cells vars fs <;> rfl
  | e :: es, fs => by
    simp only [List.cons_append, vals]
    cases val w cells vars e with
    | none => rfl
    | some x =>
      dsimp only
      rw [vals_app (es := es) (fs := fs)]
      cases vals w cells vars es with
      | none => rfl
      | some xs =>
        dsimp only
        cases vals w cells vars fs <;> rfl
theorem vals_len {w : Int} {cells : List (Str × List Int)} {vars : List (Key × D)} : ∀ {es : List Ex} {xs : List Int}, vals w cells vars es = some xs → xs.length = es.length
  | [], xs, h => by cases h; rfl
  | e :: es, xs, h => by
    simp only [vals] at h
    split at h
    · cases h
    · split at h
      · cases h
      · rename_i ys hys
        cases h
        simp [vals_len hys]
theorem args_fresh : ∀ {xs : List Int} {j n : Nat}, j + xs.length ≤ n → valD (argsFrom j xs) (.inl n) = none
  | [], _, _, _ => rfl
  | x :: xs, j, n, h => by
    simp only [List.length_cons] at h
    rw [argsFrom, valD_cons, if_neg (by intro z; cases z; omega)]
    exact args_fresh (by omega)
theorem args_app : ∀ {xs : List Int} {j : Nat} {x : Int}, argsFrom j (xs ++ [x]) = argsFrom j xs ++ [(.inl ((j + xs.length : Nat) : Int), .int x)]
  | [], j, x => by simp [argsFrom]
  | y :: xs, j, x => by
    rw [List.cons_append, argsFrom, args_app, argsFrom, List.cons_append, show j + 1 + xs.length = j + (y :: xs).length by simp; omega]
theorem args_put {xs : List Int} {x : Int} : putD (argsFrom 0 xs) (.inl (xs.length : Int)) (.int x) = argsFrom 0 (xs ++ [x]) := by
  unfold putD
  rw [valD_any, args_fresh (by omega)]
  simp [args_app]
end P04
namespace Lk04
open PySem PySem.Spec PyProof.Rows L2 T3 P04
/-- a statement of the top frame: what it leaves -/
def sp_stm (CR CF : Addr) (P : Sm → Prop) : Sp3 := fun l h k => ∃ (pg : Pg) (inputs : List Int) (steps : Nat) (L : Lay) (S : Rn) (B : Nat) (f : P04.Fr) (fs : List P04.Fr) (s : Sm) (c : Bk) (a v : Addr) (fs' : List (Addr × Addr)) (h0 : H3), l = [.ref L.b, .ref a, s.toD] ∧ P s ∧
  RunAt (κR CR CF pg inputs steps) h0 h L S ∧ Env4 pg inputs steps B S ∧ S.frames = f :: fs ∧ L.fs = (a, v) :: fs' ∧ blkOf f.pr f.label = some c ∧ c.body[f.at_]? = some s ∧
  ∀ L' h', L'.b = L.b → RunAt (κR CR CF pg inputs steps) h0 h' L' (doSm true pg inputs steps S f fs s) → k .non h'
theorem ok_call (CR CF : Addr) : ∀ l h k, sp_stm CR CF (fun s => ∃ v p es, s = .call v p es) l h k →
    W_Runner_call CR CF (sp_value CR CF 5) (sp_finish CR CF) (sp_fplace CF) sp_procof (sp_enter CR CF) (sp_finit CF) (en k) (ev0 N_Runner_call l) h := by
  rintro l h k ⟨pg, inputs, steps, L, S, B, f, fs, s, c, a, v, fs', h0, rfl, ⟨vr, p, es, rfl⟩, R, E, hf, hL, hc, hs, post⟩
  have FO := E.st.fr f (by rw [hf]; exact List.mem_cons_self)
  have sw := (E.ok.each _ FO.pr).sms c (blkOf_mem hc).1 _ (List.mem_of_getElem? hs)
  have hlt := (List.getElem?_eq_some_iff.mp hs).1
  have hln : es.length ≤ 3 := by
    obtain ⟨q0, hq0, eq0⟩ := List.mem_map.mp (show (p, (es.length : Int)) ∈ pns pg from sw.2.1)
    have h1 := (E.ok.each q0 hq0).prm
    have h2 := congrArg Prod.snd eq0
    simp only at h2; omega
  simp [W_Runner_call, ev0, wDNewK, Sm.toD]
  intro p0 np0
  have nh0 : h0 p0 = none := R.ow.sub.none np0
  refine ⟨by omega, ?_⟩
  refine for_inv (fun j ρ h' => ∃ xs x4 x5 x6, ρ = [some (.ref L.b), some (.ref a), some (Sm.call vr p es).toD, some (.ref p0), x4, x5, x6] ∧ RunAt (κR CR CF pg inputs steps) (up h0 p0 (.dK (argsFrom 0 xs))) h' L S ∧ vals pg.w S.cells f.vars (es.take j) = some xs)
    (fun _ _ _ _ _ => trivial) ⟨[], none, none, none, rfl, R.keep np0, by simp [vals]⟩ ?_ ?_
  · rintro j x ρ h1 hx ⟨xs, x4, x5, x6, rfl, R1, hv⟩ N hN
    have hj : j < es.length := by
      have := (List.getElem?_eq_some_iff.mp hx).1
      simpa [rgD] using this
    have ex : x = .int j := by
      have := (List.getElem?_eq_some_iff.mp hx).2
      rw [← this]; simp [rgD]
    subst ex
    have hb1 : h1 L.b = some (.ins CR n_Runner [pg.toD, .tup (inputs.map .int), .int steps, .int S.used, .ref L.wr, .ref L.pa, .ref L.it, .ref L.ce, enD S.en, .ref L.op]) := R1.b
    have hix : atI (es.map Ex.toD) (j : Int) = some es[j].toD := atI_nat (by simp [hj])
    have htk : es.take (j + 1) = es.take j ++ [es[j]] := by rw [List.take_succ_eq_append_getElem hj]
    have hlx := vals_len hv
    simp [wMethC, hb1, n_Runner, Sm.toD, hix]
    refine ⟨pg, inputs, steps, L, S, B, f, fs, es[j], _, rfl, R1, E, hf, sw.2.2 _ (List.getElem_mem hj), fun h2 R2 => ?_⟩
    cases hv1 : val pg.w S.cells f.vars es[j] with
    | none =>
      simp [hv1, optD, aft] at R2 ⊢
      have e0 : vals pg.w S.cells f.vars es = none := by
        have e1 : vals pg.w S.cells f.vars (es.take (j + 1)) = none := by rw [htk, P04.vals_app, hv]; simp [vals, hv1]
        rw [← List.take_append_drop (j + 1) es, P04.vals_app, e1]
      have e2 : doSm true pg inputs steps S f fs (.call vr p es) = S.fin (idxK f) := by simp [doSm, e0]
      rw [e2] at post
      exact en_rt (post L _ rfl (R2.less ((Sub.refl h0).up nh0)))
    | some x =>
      simp [hv1, optD, aft] at R2 ⊢
      have hd2 : h2 p0 = some (.dK (argsFrom 0 xs)) := R2.ow.sub _ _ up_same
      have hlj : xs.length = j := by rw [hlx]; simp; omega
      simp [wDPut]
      refine ⟨_, dpt_K (q := .inl (j : Int)) hd2 rfl (by rw [args_len]; omega), hN _ _ ⟨xs ++ [x], _, _, _, rfl, ?_, ?_⟩⟩
      · rw [← args_put, hlj]
        exact R2.alter
      · rw [htk, P04.vals_app, hv]; simp [vals, hv1]
  · rintro ρ h1 ⟨xs, x4, x5, x6, rfl, R1, hv⟩
    have hv : vals pg.w S.cells f.vars es = some xs := by simpa [rgD] using hv
    have hb1 : h1 L.b = some (.ins CR n_Runner [pg.toD, .tup (inputs.map .int), .int steps, .int S.used, .ref L.wr, .ref L.pa, .ref L.it, .ref L.ce, enD S.en, .ref L.op]) := R1.b
    have ho1 := R1.op
    obtain ⟨ht1, hv1⟩ := R1.top hL hf
    have ht1 : h1 a = some (.ins CF n_Frame [f.pr.toD, .int f.label, .int f.at_, .ref v, .int f.res]) := ht1
    have hlf := R1.lf
    have hrl : (refs L.fs).length = S.frames.length := by simp [refs, hlf]
    simp [hb1, n_Runner, ho1, hrl]
    simp only [doSm, hv] at post
    split
    · rename_i h12
      have h12 : 12 ≤ S.frames.length := by omega
      rw [if_pos h12] at post
      simp [wMethC, hb1, n_Runner, ht1, n_Frame]
      refine ⟨a, f, .ref v, .int f.res, c, rfl, by simpa [n_Frame] using ht1, hc, ?_⟩
      simp [plcD]
      have hil := E.st.il
      have hsm := E.small
      refine ⟨pg, inputs, steps, L, S, "deep", [.inr f.pr.name, .inl f.label, .inl (place f)], _, rfl, by decide +kernel, R1, by omega, fun h' R' => ?_⟩
      have e : Rn.end_ S "deep" [.inr f.pr.name, .inl f.label, .inl (place f)] = S.fin (deepK f) := by
        unfold Rn.end_ deepK place bodyOf; rw [if_pos (by simp [endWords]), hc]
        dsimp only
        rw [if_pos hlt]
      rw [e] at R'
      exact en_rt (post L _ rfl (R'.less ((Sub.refl h0).up nh0)))
    · rename_i h12
      have h12 : ¬ 12 ≤ S.frames.length := by omega
      rw [if_neg h12] at post
      obtain ⟨q0, hq0, eq0⟩ := List.mem_map.mp (show (p, (es.length : Int)) ∈ pns pg from sw.2.1)
      obtain ⟨q, hq⟩ := procOf_has (n := p) ⟨q0, hq0, congrArg Prod.fst eq0⟩
      obtain ⟨mq, nq⟩ := procOf_mem hq
      have oq := E.ok.each q mq
      cases hbl : q.blocks with
      | nil => exact absurd hbl oq.ne
      | cons c0 cs =>
        simp only [hq, hbl] at post
        have R2 := R1.setTop hL hf (bump f) rfl
        have N1 := R1.net hL hf
        simp [wAugF, ht1, n_Frame, up_ne N1.ab.symm, hb1, n_Runner, Sm.toD]
        refine ⟨pg, p, q, rfl, hq, ?_⟩
        simp [wMethC, wMake, up_ne N1.ab.symm, hb1, n_Runner, Pr.toD, hbl, Bk.toD]
        intro x nx
        have hx0 : (up h0 p0 (.dK (argsFrom 0 xs))) x = none := R2.ow.sub.none (by simpa [κR, P04.bump, n_Frame, Pr.toD] using nx)
        have hxp : x ≠ p0 := fun z => by subst z; rw [up_same] at hx0; cases hx0
        have hx00 : h0 x = none := by rw [up_ne hxp] at hx0; exact hx0
        refine ⟨x, _, _, _, _, rfl, up_same, rfl, ?_⟩
        rw [up_up]
        have R3 := R2.keep (p := x) (o := foR CF { pr := q, label := c0.label, at_ := 0, vars := argsFrom 0 xs, res := vr } p0) (by simpa [κR, P04.bump, n_Frame, Pr.toD] using nx)
        have hpl := E.st.pl
        have hfew := E.few
        have hil := E.st.il
        have hsm := E.small
        have hfw := E.st.few
        refine ⟨pg, inputs, steps, L, { S with frames := bump f :: fs }, { pr := q, label := c0.label, at_ := 0, vars := argsFrom 0 xs, res := vr }, x, p0, h0, rfl, ?_, nh0, hx00, hxp, ?_, ?_, ?_, fun c1 h' R' => ?_, fun c1 h' R' => ?_⟩
        · simpa [κR, P04.bump, n_Frame, foR, Pr.toD, hbl, Bk.toD] using R3
        · show S.path.length ≤ 1000; omega
        · show S.items.length ≤ 300000; omega
        · omega
        · refine en_rt (post L _ rfl ?_)
          unfold enter
          rw [if_pos c1]
          exact R'.less (((Sub.refl h0).up nh0).trans ((Sub.refl _).up hx0))
        · exact en_rt (post { L with fs := (x, p0) :: L.fs } _ rfl R')
end Lk04
end
-- G04f
section
set_option maxRecDepth 100000
set_option maxHeartbeats 4000000
/-! G04f: the runner's statements. -/
namespace T3
open PySem L2
@[simp] theorem atI_m2 {α : Type} {x y : α} : atI [x, y] (-1) = some y := rfl
@[simp] theorem atI_m3 {α : Type} {x y z : α} : atI [x, y, z] (-1) = some z := rfl
@[simp] theorem atI_m4 {α : Type} {x y z u : α} : atI [x, y, z, u] (-1) = some u := rfl
end T3
namespace P04
open PySem L2 T3
theorem sto_eq {pg : Pg} {inputs : List Int} {steps : Nat} {S : Rn} {f : Fr} {fs : List Fr} {a : Str} {e1 e2 : Ex} : doSm true pg inputs steps S f fs (.store a e1 e2) = { Lk04.stoS S f fs pg.w a e1 e2 with frames := bump f :: fs } := by
  cases h1 : val pg.w S.cells f.vars e1 with
  | none => simp [doSm, Lk04.stoS, h1]
  | some i =>
    cases h2 : val pg.w S.cells f.vars e2 with
    | none => simp [doSm, Lk04.stoS, h1, h2]
    | some x =>
      cases h3 : S.cells.lookup a with
      | none => simp [doSm, Lk04.stoS, h1, h2, h3]
      | some l =>
        by_cases h4 : i.toNat < l.length
        · simp [doSm, Lk04.stoS, h1, h2, h3, h4]
        · simp [doSm, Lk04.stoS, h1, h2, h3, h4]
theorem sto_fr {S : Rn} {f : Fr} {fs : List Fr} {w : Int} {a : Str} {e1 e2 : Ex} : (Lk04.stoS S f fs w a e1 e2).frames = S.frames := by
  simp only [Lk04.stoS]
  split
  · rfl
  split
  · rfl
  split
  · rfl
  split <;> rfl
end P04
namespace Lk04
open PySem PySem.Spec PyProof.Rows L2 T3 P04
theorem ok_statement (CR CF : Addr) : ∀ l h k, sp_stm CR CF (fun _ => True) l h k →
    W_Runner_statement CR CF (sp_stm CR CF (fun s => ∃ v p es, s = .call v p es)) (sp_store CR CF) (sp_value CR CF 5) (sp_finish CR CF) (en k) (ev0 N_Runner_statement l) h := by
  rintro l h k ⟨pg, inputs, steps, L, S, B, f, fs, s, c, a, v, fs', h0, rfl, _, R, E, hf, hL, hc, hs, post⟩
  have FO := E.st.fr f (by rw [hf]; exact List.mem_cons_self)
  have sw := (E.ok.each _ FO.pr).sms c (blkOf_mem hc).1 _ (List.mem_of_getElem? hs)
  have hb : h L.b = some (.ins CR n_Runner [pg.toD, .tup (inputs.map .int), .int steps, .int S.used, .ref L.wr, .ref L.pa, .ref L.it, .ref L.ce, enD S.en, .ref L.op]) := R.b
  have hwr := R.wr
  obtain ⟨ht, hv⟩ := R.top hL hf
  have ht : h a = some (.ins CF n_Frame [f.pr.toD, .int f.label, .int f.at_, .ref v, .int f.res]) := ht
  have N := R.net hL hf
  have hwl := E.st.wl
  have hsm := E.small
  have hvl := FO.len
  have hil := E.st.il
  cases s with
  | call vr p es =>
    simp [W_Runner_statement, ev0, Sm.toD, wMethC, hb, n_Runner]
    exact ⟨pg, inputs, steps, L, S, B, f, fs, _, c, a, v, fs', h0, rfl, ⟨vr, p, es, rfl⟩, R, E, hf, hL, hc, hs, fun L' h' e R' => en_rt (post L' h' e R')⟩
  | take vr =>
    have R2 := R.setVars hL hf (putD f.vars (.inl vr) (.int (inputs.getD S.used 0)))
    have R3 := R2.setB (S.used + 1) S.en
    have R4 := R3.setTop hL rfl (P04.bump (P04.put f vr (inputs.getD S.used 0))) rfl
    have hinl := E.inl
    have fin : (wDPut (wC (.int (inputs.getD S.used 0))) (wFld CF n_Frame 3 (wVar 1)) (w2 T3.rIx (wVar 2) (wC (D.int 1)))) { en k with nx := fun ρ h => wAugF CR n_Runner 3 rAddI (wVar 0) (wC (.int 1)) { en k with nx := wAugF CF n_Frame 2 rAddI (wVar 1) (wC (.int 1)) (en k) } ρ h }
        [some (.ref L.b), some (.ref a), some (.tup [.str "take", .int vr]), none] h := by
      simp [wDPut, ht, n_Frame]
      refine ⟨_, dpt_K (q := .inl vr) hv rfl (by omega), ?_⟩
      simp [wAugF, up_ne N.vb.symm, hb, n_Runner, up_ne N.ab, up_ne N.av, ht, n_Frame]
      refine en_rt (post L _ rfl ?_)
      simp only [doSm]
      simpa [κR, n_Runner, n_Frame, P04.bump, P04.put] using R4
    simp [W_Runner_statement, ev0, Sm.toD, hb, n_Runner]
    simp only [wDPut, s_if, s_c]
    simp [hb, n_Runner]
    split
    · rename_i hlt
      have e1 : inputs.getD S.used 0 = inputs[S.used]'(by omega) := by simp [List.getD_eq_getElem?_getD, List.getElem?_eq_getElem (show S.used < inputs.length by omega)]
      have e2 : atI (inputs.map D.int) (S.used : Int) = some (.int (inputs[S.used]'(by omega))) := atI_nat (by simp)
      simp [hb, n_Runner, e2]
      rw [e1] at fin
      simpa [wDPut] using fin
    · rename_i hge
      have e1 : inputs.getD S.used 0 = 0 := by simp [List.getD_eq_getElem?_getD, List.getElem?_eq_none (show inputs.length ≤ S.used by omega)]
      rw [e1] at fin
      simpa [wDPut] using fin
  | store nm e1 e2 =>
    simp [W_Runner_statement, ev0, Sm.toD, wMethC, hb, n_Runner]
    refine ⟨pg, inputs, steps, L, S, B, f, fs, nm, e1, e2, h0, rfl, R, E, hf, sw, fun h1 R1 => ?_⟩
    have hf1 : (stoS S f fs pg.w nm e1 e2).frames = f :: fs := sto_fr.trans hf
    obtain ⟨ht1, _⟩ := R1.top hL hf1
    have ht1 : h1 a = some (.ins CF n_Frame [f.pr.toD, .int f.label, .int f.at_, .ref v, .int f.res]) := ht1
    simp [wAugF, ht1, n_Frame]
    have R2 := R1.setTop hL hf1 (P04.bump f) rfl
    refine en_rt (post L _ rfl ?_)
    rw [sto_eq]
    simpa [κR, n_Frame, P04.bump] using R2
  | set vr e =>
    simp [W_Runner_statement, ev0, Sm.toD, wMethC, hb, n_Runner]
    refine ⟨pg, inputs, steps, L, S, B, f, fs, e, h0, rfl, R, E, hf, sw.2, fun h1 R1 => ?_⟩
    simp only [doSm] at post
    cases hv1 : val pg.w S.cells f.vars e with
    | none =>
      simp [hv1, optD, aft] at post R1 ⊢
      exact en_rt (post L _ rfl R1)
    | some x =>
      simp [hv1, optD, aft] at post R1 ⊢
      obtain ⟨ht1, hvv⟩ := R1.top hL hf
      have ht1 : h1 a = some (.ins CF n_Frame [f.pr.toD, .int f.label, .int f.at_, .ref v, .int f.res]) := ht1
      simp [wDPut, ht1, n_Frame]
      refine ⟨_, dpt_K (q := .inl vr) hvv rfl (by omega), ?_⟩
      simp [wAugF, up_ne N.av, ht1, n_Frame]
      have R2 := R1.setVars hL hf (putD f.vars (.inl vr) (.int x))
      have R3 := R2.setTop hL rfl (P04.bump (P04.put f vr x)) rfl
      refine en_rt (post L _ rfl ?_)
      simpa [κR, n_Frame, P04.bump, P04.put] using R3
  | put e =>
    simp [W_Runner_statement, ev0, Sm.toD, wMethC, hb, n_Runner]
    refine ⟨pg, inputs, steps, L, S, B, f, fs, e, h0, rfl, R, E, hf, sw, fun h1 R1 => ?_⟩
    simp only [doSm] at post
    cases hv1 : val pg.w S.cells f.vars e with
    | none =>
      simp [hv1, optD, aft] at post R1 ⊢
      exact en_rt (post L _ rfl R1)
    | some x =>
      simp [hv1, optD, aft] at post R1 ⊢
      obtain ⟨ht1, hvv⟩ := R1.top hL hf
      have ht1 : h1 a = some (.ins CF n_Frame [f.pr.toD, .int f.label, .int f.at_, .ref v, .int f.res]) := ht1
      have hb1 : h1 L.b = some (.ins CR n_Runner [pg.toD, .tup (inputs.map .int), .int steps, .int S.used, .ref L.wr, .ref L.pa, .ref L.it, .ref L.ce, enD S.en, .ref L.op]) := R1.b
      have hw1 := R1.wr
      simp [wAppend, hb1, n_Runner, hw1]
      simp [wAugF, up_ne N.awr, ht1, n_Frame]
      have R2 := R1.setWr (S.writes ++ [x])
      have R3 := R2.setTop hL hf (P04.bump f) rfl
      refine ⟨by omega, en_rt (post L _ rfl ?_)⟩
      simpa [κR, n_Frame, P04.bump] using R3
  | assert i e =>
    simp [W_Runner_statement, ev0, Sm.toD, wMethC, hb, n_Runner]
    refine ⟨pg, inputs, steps, L, S, B, f, fs, e, h0, rfl, R, E, hf, sw.2, fun h1 R1 => ?_⟩
    simp only [doSm] at post
    cases hv1 : val pg.w S.cells f.vars e with
    | none =>
      simp [hv1, optD, aft] at post R1 ⊢
      exact en_rt (post L _ rfl R1)
    | some x =>
      simp [hv1, optD, aft] at post R1 ⊢
      split
      · rename_i hx0
        rw [if_pos hx0] at post
        have hb1 : h1 L.b = some (.ins CR n_Runner [pg.toD, .tup (inputs.map .int), .int steps, .int S.used, .ref L.wr, .ref L.pa, .ref L.it, .ref L.ce, enD S.en, .ref L.op]) := R1.b
        simp [wMethC, hb1, n_Runner]
        refine ⟨pg, inputs, steps, L, S, "broken", [.inl i], h0, rfl, by decide +kernel, R1, by omega, fun h2 R2 => ?_⟩
        have e : Rn.end_ S "broken" [.inl i] = S.fin (brokenK i) := by
          unfold Rn.end_; rw [if_pos (by simp [endWords])]; rfl
        rw [e] at R2
        obtain ⟨ht2, _⟩ := R2.top hL hf
        have ht2 : h2 a = some (.ins CF n_Frame [f.pr.toD, .int f.label, .int f.at_, .ref v, .int f.res]) := ht2
        simp [wAugF, ht2, n_Frame]
        have R3 := R2.setTop hL hf (P04.bump f) rfl
        refine en_rt (post L _ rfl ?_)
        simpa [κR, n_Frame, P04.bump] using R3
      · rename_i hx0
        rw [if_neg hx0] at post
        obtain ⟨ht1, hvv⟩ := R1.top hL hf
        have ht1 : h1 a = some (.ins CF n_Frame [f.pr.toD, .int f.label, .int f.at_, .ref v, .int f.res]) := ht1
        simp [wAugF, ht1, n_Frame]
        have R3 := R1.setTop hL hf (P04.bump f) rfl
        refine en_rt (post L _ rfl ?_)
        simpa [κR, n_Frame, P04.bump] using R3
end Lk04
end
-- G04g
section
set_option maxRecDepth 100000
set_option maxHeartbeats 4000000
/-! G04g: the runner goes on, leaves, runs. -/
namespace T3
theorem refs_last {l : List D} {x : D} : (l ++ [x])[(l ++ [x]).length - 1]? = some x := by simp
end T3
namespace P04
open PySem L2 T3
theorem RunAt.freshTop {κ : Knd} {h0 h : H3} {L : Lay} {S : Rn} {a v : Addr} {fs : List (Addr × Addr)} {f : Fr} {gs : List Fr} (R : RunAt κ h0 h L S) (hL : L.fs = (a, v) :: fs) (hS : S.frames = f :: gs) : h0 a = none ∧ h0 v = none := by
  constructor
  · exact R.ow.fresh (a, κ.fo f.pr f.label f.at_ f.res v) (by simp [cellsOf, hL, hS, frCs])
  · exact R.ow.fresh (v, .dK f.vars) (by simp [cellsOf, hL, hS, frCs])
end P04
namespace Lk04
open PySem PySem.Spec PyProof.Rows L2 T3 P04
def sp_go (CR CF : Addr) : Sp3 := fun l h k => ∃ (pg : Pg) (inputs : List Int) (steps : Nat) (L : Lay) (S : Rn) (B : Nat) (f : P04.Fr) (fs : List P04.Fr) (lb : Int) (a v : Addr) (fs' : List (Addr × Addr)) (h0 : H3), l = [.ref L.b, .ref a, .int lb] ∧
  RunAt (κR CR CF pg inputs steps) h0 h L S ∧ Env4 pg inputs steps B S ∧ S.frames = f :: fs ∧ L.fs = (a, v) :: fs' ∧
  ∀ L' h', L'.b = L.b → RunAt (κR CR CF pg inputs steps) h0 h' L' (goTo true steps S f fs lb) → k .non h'
theorem ok_go (CR CF : Addr) : ∀ l h k, sp_go CR CF l h k → W_Runner_go CR CF (sp_enter CR CF) (sp_finit CF) (en k) (ev0 N_Runner_go l) h := by
  rintro l h k ⟨pg, inputs, steps, L, S, B, f, fs, lb, a, v, fs', h0, rfl, R, E, hf, hL, post⟩
  have hb : h L.b = some (.ins CR n_Runner [pg.toD, .tup (inputs.map .int), .int steps, .int S.used, .ref L.wr, .ref L.pa, .ref L.it, .ref L.ce, enD S.en, .ref L.op]) := R.b
  have hpa := R.pa
  have ho := R.op
  rw [hL, refs_cons] at ho
  obtain ⟨ht, hv⟩ := R.top hL hf
  have ht : h a = some (.ins CF n_Frame [f.pr.toD, .int f.label, .int f.at_, .ref v, .int f.res]) := ht
  have N := R.net hL hf
  have ne := R.nes
  obtain ⟨fa, fv⟩ := R.freshTop hL hf
  have R2 := R.pop hL hf
  have hpl := E.st.pl
  have hfew := E.few
  have hil := E.st.il
  have hsm := E.small
  have hfw := E.st.few
  have hlf := R.lf
  simp [W_Runner_go, ev0, wPop, hb, n_Runner, ho]
  simp [up_ne N.aop, ht, n_Frame, up_ne ne.bop, hb, n_Runner, up_ne ne.paop, hpa]
  simp [wMethC, wMake, up_ne ne.bop, hb, n_Runner, up_ne N.aop, ht, n_Frame]
  intro x nx
  have n2 := R2.ow.sub.none nx
  have hxv : x ≠ v := fun z => by subst z; rw [up_same] at n2; cases n2
  have n1 : (up h0 a (foR CF f v)) x = none := by rw [up_ne hxv] at n2; exact n2
  have hxa : x ≠ a := fun z => by subst z; rw [up_same] at n1; cases n1
  refine ⟨x, _, _, _, _, rfl, up_same, rfl, ?_⟩
  rw [up_up]
  have R3 := R2.keep (p := x) (o := foR CF { f with label := lb, at_ := 0 } v) nx
  refine ⟨pg, inputs, steps, { L with fs := fs' }, { S with frames := fs }, { f with label := lb, at_ := 0 }, x, v, up h0 a (foR CF f v), rfl, ?_, ?_, n1, hxv, ?_, ?_, ?_, fun c h' R' => ?_, fun c h' R' => ?_⟩
  · simpa [κR, foR, n_Frame] using R3
  · rw [up_ne N.av.symm]; exact fv
  · show S.path.length ≤ 1000; omega
  · show S.items.length ≤ 300000; omega
  · rw [hL, hf] at hlf; simp at hlf; rw [hf] at hfw; simp at hfw; show fs'.length ≤ 100; omega
  · have hb' : h' L.b = some (.ins CR n_Runner [pg.toD, .tup (inputs.map .int), .int steps, .int S.used, .ref L.wr, .ref L.pa, .ref L.it, .ref L.ce, .tup [.str "none"], .ref L.op]) := R'.b
    have hp' := R'.pa
    simp [hb', n_Runner, hp']
    refine en_rt (post { L with fs := fs' } _ rfl ?_)
    unfold goTo
    rw [if_pos c]
    exact R'.less (((Sub.refl h0).up fa).trans (((Sub.refl _).up (by rw [up_ne N.av.symm]; exact fv)).trans ((Sub.refl _).up n2)))
  · have e1 : enter steps { S with frames := fs } { f with label := lb, at_ := 0 } = { S with path := S.path ++ [(f.pr.name, lb)], items := S.items ++ [blockK f.pr.name lb], frames := { f with label := lb, at_ := 0 } :: fs } := by
      unfold enter; rw [if_neg c]
    rw [e1] at R'
    have hb' : h' L.b = some (.ins CR n_Runner [pg.toD, .tup (inputs.map .int), .int steps, .int S.used, .ref L.wr, .ref L.pa, .ref L.it, .ref L.ce, enD S.en, .ref L.op]) := R'.b
    have hp' := R'.pa
    have hi' : h' L.it = some (.dT (seenOf (S.items ++ [blockK f.pr.name lb]))) := R'.it
    have ha' : h' a = some (foR CF f v) := R'.ow.sub _ _ up_same
    have hsl := seen_len (S.items ++ [blockK f.pr.name lb])
    simp at hsl
    simp [hb', n_Runner, hp', wDPut, ha', foR, n_Frame, Pr.toD]
    refine ⟨_, dpt_T (ks := edgeK f.pr.name f.label lb) hi' (by omega), en_rt (post { L with fs := (x, v) :: fs' } _ rfl ?_)⟩
    have R4 := R'.setIt (S.items ++ [blockK f.pr.name lb] ++ [edgeK f.pr.name f.label lb])
    unfold goTo
    rw [if_neg c]
    have e2 : (κR CR CF pg inputs steps).so (S.items ++ [blockK f.pr.name lb] ++ [edgeK f.pr.name f.label lb]) = .dT (putD (seenOf (S.items ++ [blockK f.pr.name lb])) (edgeK f.pr.name f.label lb) (.bl true)) := by
      show O.dT (seenOf _) = _
      rw [seen_snoc]
    rw [e2] at R4
    exact R4.less ((Sub.refl h0).up fa)
def sp_leave (CR CF : Addr) : Sp3 := fun l h k => ∃ (pg : Pg) (inputs : List Int) (steps : Nat) (L : Lay) (S : Rn) (B : Nat) (f : P04.Fr) (fs : List P04.Fr) (c : Bk) (a v : Addr) (fs' : List (Addr × Addr)) (h0 : H3), l = [.ref L.b, .ref a, c.nd.toD] ∧
  RunAt (κR CR CF pg inputs steps) h0 h L S ∧ Env4 pg inputs steps B S ∧ S.frames = f :: fs ∧ L.fs = (a, v) :: fs' ∧ blkOf f.pr f.label = some c ∧
  ∀ L' h', L'.b = L.b → RunAt (κR CR CF pg inputs steps) h0 h' L' (doNd true pg steps S f fs c.nd) → k .non h'
theorem ok_leave (CR CF : Addr) : ∀ l h k, sp_leave CR CF l h k → W_Runner_leave CR CF (sp_go CR CF) (sp_value CR CF 5) (sp_finish CR CF) (en k) (ev0 N_Runner_leave l) h := by
  rintro l h k ⟨pg, inputs, steps, L, S, B, f, fs, c, a, v, fs', h0, rfl, R, E, hf, hL, hc, post⟩
  have hb : h L.b = some (.ins CR n_Runner [pg.toD, .tup (inputs.map .int), .int steps, .int S.used, .ref L.wr, .ref L.pa, .ref L.it, .ref L.ce, enD S.en, .ref L.op]) := R.b
  have FO := E.st.fr f (by rw [hf]; exact List.mem_cons_self)
  have sw := (E.ok.each _ FO.pr).nds c (blkOf_mem hc).1
  have N := R.net hL hf
  have ne := R.nes
  obtain ⟨fa, fv⟩ := R.freshTop hL hf
  have hil := E.st.il
  have hsm := E.small
  generalize hN : c.nd = Nn at sw post ⊢
  cases Nn with
  | go lb =>
    simp [W_Runner_leave, ev0, Nd.toD, wMethC, hb, n_Runner]
    exact ⟨pg, inputs, steps, L, S, B, f, fs, lb, a, v, fs', h0, rfl, R, E, hf, hL, fun L' h' e R' => en_rt (post L' h' e R')⟩
  | iff e l1 l2 =>
    simp [W_Runner_leave, ev0, Nd.toD, wMethC, hb, n_Runner]
    refine ⟨pg, inputs, steps, L, S, B, f, fs, e, h0, rfl, R, E, hf, sw.1, fun h1 R1 => ?_⟩
    simp only [doNd] at post
    cases hv1 : val pg.w S.cells f.vars e with
    | none =>
      simp [hv1, optD, aft] at post R1 ⊢
      exact en_rt (post L _ rfl R1)
    | some x =>
      simp [hv1, optD, aft] at post R1 ⊢
      have hb1 : h1 L.b = some (.ins CR n_Runner [pg.toD, .tup (inputs.map .int), .int steps, .int S.used, .ref L.wr, .ref L.pa, .ref L.it, .ref L.ce, enD S.en, .ref L.op]) := R1.b
      simp [wMethC, hb1, n_Runner]
      split
      · rename_i hx
        rw [if_pos hx] at post
        exact ⟨pg, inputs, steps, L, S, B, f, fs, _, a, v, fs', h0, rfl, R1, E, hf, hL, fun L' h' e R' => en_rt (post L' h' e R')⟩
      · rename_i hx
        rw [if_neg hx] at post
        exact ⟨pg, inputs, steps, L, S, B, f, fs, _, a, v, fs', h0, rfl, R1, E, hf, hL, fun L' h' e R' => en_rt (post L' h' e R')⟩
  | ret e =>
    simp [W_Runner_leave, ev0, Nd.toD, wMethC, hb, n_Runner]
    refine ⟨pg, inputs, steps, L, S, B, f, fs, e, h0, rfl, R, E, hf, sw, fun h1 R1 => ?_⟩
    simp only [doNd] at post
    cases hv1 : val pg.w S.cells f.vars e with
    | none =>
      simp [hv1, optD, aft] at post R1 ⊢
      exact en_rt (post L _ rfl R1)
    | some x =>
      simp [hv1, optD, aft] at post R1 ⊢
      have hb1 : h1 L.b = some (.ins CR n_Runner [pg.toD, .tup (inputs.map .int), .int steps, .int S.used, .ref L.wr, .ref L.pa, .ref L.it, .ref L.ce, enD S.en, .ref L.op]) := R1.b
      have ho1 := R1.op
      rw [hL, refs_cons] at ho1
      obtain ⟨ht1, _⟩ := R1.top hL hf
      have ht1 : h1 a = some (.ins CF n_Frame [f.pr.toD, .int f.label, .int f.at_, .ref v, .int f.res]) := ht1
      have R2 := R1.pop hL hf
      have hlf := R1.lf
      rw [hL, hf] at hlf
      have less : ∀ {h' : H3} {L' : Lay} {S' : Rn}, RunAt (κR CR CF pg inputs steps) (up (up h0 a ((κR CR CF pg inputs steps).fo f.pr f.label f.at_ f.res v)) v (.dK f.vars)) h' L' S' → RunAt (κR CR CF pg inputs steps) h0 h' L' S' := fun R' =>
        R'.less (((Sub.refl h0).up fa).trans ((Sub.refl _).up (by rw [up_ne N.av.symm]; exact fv)))
      simp [wPop, hb1, n_Runner, ho1]
      simp [up_ne ne.bop, hb1, n_Runner]
      cases fs with
      | nil =>
        have e0 : fs' = [] := List.length_eq_zero_iff.mp (by simpa using hlf)
        subst e0
        simp [refs, wMethC, up_ne ne.bop, hb1, n_Runner]
        refine ⟨pg, inputs, steps, { L with fs := [] }, { S with frames := [] }, "return", [.inl x], _, rfl, by decide +kernel, R2, by show S.items.length ≤ _; omega, fun h' R' => ?_⟩
        have e : Rn.end_ { S with frames := [] } "return" [.inl x] = { S with frames := [], en := some [.inr "return", .inl x] } := by
          unfold Rn.end_; rw [if_neg (by simp [endWords])]
        rw [e] at R'
        exact en_rt (post { L with fs := [] } _ rfl (less R'))
      | cons g gs =>
        cases fs' with
        | nil => simp at hlf
        | cons av2 fs2 =>
          obtain ⟨a2, v2⟩ := av2
          obtain ⟨ht2, hv2⟩ := R2.top (a := a2) (v := v2) (fs := fs2) rfl rfl
          have N2 := R2.net (a := a2) (v := v2) (fs := fs2) rfl rfl
          have ht2 : (up h1 L.op (.lst (refs ((a2, v2) :: fs2)))) a2 = some (.ins CF n_Frame [g.pr.toD, .int g.label, .int g.at_, .ref v2, .int g.res]) := ht2
          rw [refs_cons] at ht2 hv2
          have hlen : ¬ (refs ((a2, v2) :: fs2)).length = 0 := by simp [refs]
          have hg := (E.st.fr g (by rw [hf]; exact List.mem_cons_of_mem _ List.mem_cons_self)).len
          simp [refs_cons, wDPut, up_ne ne.bop, hb1, n_Runner, atI_neg, ht2, n_Frame, up_ne N.aop, ht1]
          refine ⟨_, dpt_K (q := .inl f.res) hv2 rfl (by omega), ?_⟩
          have R3 := R2.setVars (a := a2) (v := v2) (fs := fs2) rfl rfl (putD g.vars (.inl f.res) (.int x))
          rw [refs_cons] at R3
          exact en_rt (post { L with fs := (a2, v2) :: fs2 } _ rfl (less R3))
def sp_rrun (CR CF : Addr) : Sp3 := fun l h k => ∃ (pg : Pg) (inputs : List Int) (steps : Nat) (L : Lay) (S : Rn) (B M : Nat) (h0 : H3), l = [.ref L.b] ∧
  RunAt (κR CR CF pg inputs steps) h0 h L S ∧ Env4 pg inputs steps B S ∧ msr steps S ≤ M ∧ B + M ≤ 100000 ∧
  ∀ L' h', L'.b = L.b → RunAt (κR CR CF pg inputs steps) h0 h' L' (runN true pg inputs steps M S) → k .non h'
theorem runN_end {b : Bool} {pg : Pg} {inputs : List Int} {steps : Nat} {m : Nat} {T : Rn} (hT : T.en ≠ none) : runN b pg inputs steps m T = T := by
  cases m with
  | zero => rfl
  | succ m => unfold P04.runN; rw [if_neg hT]
theorem isN_en {e : Option (List Key)} : (enD e).isN = e.isNone := by cases e <;> rfl
theorem ok_run (CR CF : Addr) : ∀ l h k, sp_rrun CR CF l h k → W_Runner_run CR CF (sp_fblock CF) (sp_stm CR CF (fun _ => True)) (sp_leave CR CF) (en k) (ev0 N_Runner_run l) h := by
  rintro l h k ⟨pg, inputs, steps, L, S, B, M, h0, rfl, R, E, hm, hB, post⟩
  unfold W_Runner_run
  refine while_inv (fun m ρ h' => ∃ L' S' B' x1 x2, ρ = [some (.ref L.b), x1, x2] ∧ L'.b = L.b ∧ RunAt (κR CR CF pg inputs steps) h0 h' L' S' ∧ StOk pg steps B' S' ∧ B' + m ≤ B + M ∧ (S'.en = none → msr steps S' ≤ m) ∧ runN true pg inputs steps m S' = runN true pg inputs steps M S)
    (m := M) ⟨L, S, B, none, none, rfl, rfl, R, E.st, by omega, fun _ => hm, rfl⟩ ?_
  rintro m ρ h1 ⟨L1, S1, B1, x1, x2, rfl, hL1, R1, St1, hB1, hm1, hr⟩ N hN
  have hb1 : h1 L1.b = some (.ins CR n_Runner [pg.toD, .tup (inputs.map .int), .int steps, .int S1.used, .ref L1.wr, .ref L1.pa, .ref L1.it, .ref L1.ce, enD S1.en, .ref L1.op]) := R1.b
  rw [hL1] at hb1
  simp [hb1, n_Runner, isN_en]
  cases hen : S1.en with
  | some ks =>
    simp
    rw [runN_end (by rw [hen]; simp)] at hr
    rw [← hr] at post
    exact ⟨h1, Sub.refl _, post L1 h1 hL1 R1⟩
  | none =>
    simp
    have E1 : Env4 pg inputs steps B1 S1 := ⟨E.ok, St1, by omega, E.few, E.inp, E.inl⟩
    have hpos := St1.pos E.ok hen
    have hmm := hm1 hen
    have nx := step_ok true E.ok E.inp St1 hen
    have hr' : runN true pg inputs steps (m - 1) (step true pg inputs steps S1) = runN true pg inputs steps M S := by
      rw [← hr]
      obtain ⟨j, rfl⟩ : ∃ j, m = j + 1 := ⟨m - 1, by omega⟩
      conv => rhs; unfold P04.runN
      rw [if_pos hen]; rfl
    cases hf : S1.frames with
    | nil => exact absurd hf (St1.ne hen)
    | cons f fs =>
      obtain ⟨a, v, fs', hL, _⟩ := R1.lay hf
      have ho1 := R1.op
      rw [hL, refs_cons] at ho1
      obtain ⟨ht1, _⟩ := R1.top hL hf
      have ht1 : h1 a = some (.ins CF n_Frame [f.pr.toD, .int f.label, .int f.at_, .ref v, .int f.res]) := ht1
      have FO := St1.fr f (by rw [hf]; exact List.mem_cons_self)
      obtain ⟨c, hc, _⟩ := FO.blk
      have fin : ∀ (T : Rn), step true pg inputs steps S1 = T → ∀ L' h', L'.b = L1.b → RunAt (κR CR CF pg inputs steps) h0 h' L' T → ∀ y1 y2, N [some (.ref L.b), y1, y2] h' := by
        intro T eT L' h' eb R' y1 y2
        subst eT
        exact hN (m - 1) _ _ (by omega) ⟨L', _, B1 + 1, y1, y2, rfl, eb.trans hL1, R', nx.ok, by omega, fun e => by have := nx.less e; omega, hr'⟩
      unfold P04.step at fin
      rw [hf] at fin
      dsimp only at fin
      rw [hc] at fin
      dsimp only at fin
      simp [hb1, n_Runner, ho1, atI_neg, wMethC, ht1, n_Frame]
      refine ⟨a, f.pr, f.label, .int f.at_, .ref v, .int f.res, c, rfl, by simpa [n_Frame] using ht1, hc, ?_⟩
      simp [Bk.toD, ht1, n_Frame]
      split
      · rename_i hlt
        rw [List.getElem?_eq_getElem hlt] at fin
        have hix : atI (c.body.map Sm.toD) (f.at_ : Int) = some (c.body[f.at_]).toD := atI_nat (by simp [hlt])
        simp [hb1, n_Runner, wMethC, ht1, n_Frame, hix]
        rw [← hL1]
        refine ⟨pg, inputs, steps, L1, S1, B1, f, fs, c.body[f.at_], c, a, v, fs', h0, rfl, trivial, R1, E1, hf, hL, hc, List.getElem?_eq_getElem hlt, fun L' h' eb R' => ?_⟩
        rw [hL1]
        exact fin _ rfl L' h' eb R' _ _
      · rename_i hge
        rw [List.getElem?_eq_none (by omega)] at fin
        simp [hb1, n_Runner, wMethC]
        rw [← hL1]
        refine ⟨pg, inputs, steps, L1, S1, B1, f, fs, c, a, v, fs', h0, rfl, R1, E1, hf, hL, hc, fun L' h' eb R' => ?_⟩
        rw [hL1]
        exact fin _ rfl L' h' eb R' _ _
end Lk04
end
-- G04h
section
set_option maxRecDepth 100000
set_option maxHeartbeats 4000000
/-! G04h: a runner is made; done, run. -/
namespace P04
open PySem L2 T3
def initCells (pg : Pg) : List (Str × List Int) := pg.arrays.map fun a => (a.1, List.replicate a.2.toNat 0)
def start (pg : Pg) : Rn := { used := 0, writes := [], path := [], items := [], cells := initCells pg, frames := [], en := none }
def mainFr (p : Pr) (c : Bk) : Fr := { pr := p, label := c.label, at_ := 0, vars := [], res := 0 }
def initR (pg : Pg) (steps : Nat) (p : Pr) (c : Bk) : Rn := enter steps (start pg) (mainFr p c)
theorem arK_len : ∀ {cells : List (Str × List Int)} {cs : List Addr}, (arK cells cs).length ≤ cells.length
  | [], _ => by simp [arK]
  | _ :: _, [] => by simp [arK]
  | c :: cl, a :: as => by have := arK_len (cells := cl) (cs := as); simp [arK]; omega
theorem arK_none {nm : Str} : ∀ {cells : List (Str × List Int)} {cs : List Addr}, nm ∉ cells.map (·.1) → valD (arK cells cs) (.inr nm) = none
  | [], _, _ => rfl
  | _ :: _, [], _ => rfl
  | c :: cl, a :: as, h => by
    simp only [List.map_cons, List.mem_cons, not_or] at h
    rw [arK, valD_cons, if_neg (by intro z; cases z; exact h.1 rfl)]
    exact arK_none h.2
theorem arK_app {c : Str × List Int} {a : Addr} : ∀ {cells : List (Str × List Int)} {cs : List Addr}, cs.length = cells.length → arK (cells ++ [c]) (cs ++ [a]) = arK cells cs ++ [(.inr c.1, .ref a)]
  | [], [], _ => rfl
  | [], _ :: _, h => by simp at h
  | _ :: _, [], h => by simp at h
  | d :: cl, b :: as, h => by simp [arK, arK_app (cells := cl) (cs := as) (by simpa using h)]
theorem cellCs_app {c : Str × List Int} {a : Addr} : ∀ {cells : List (Str × List Int)} {cs : List Addr}, cs.length = cells.length → cellCs (cells ++ [c]) (cs ++ [a]) = cellCs cells cs ++ [(a, .lst (c.2.map .int))]
  | [], [], _ => rfl
  | [], _ :: _, h => by simp at h
  | _ :: _, [], h => by simp at h
  | d :: cl, b :: as, h => by simp [cellCs, cellCs_app (cells := cl) (cs := as) (by simpa using h)]
theorem arK_put {c : Str × List Int} {a : Addr} {cells : List (Str × List Int)} {cs : List Addr} (h : cs.length = cells.length) (n : c.1 ∉ cells.map (·.1)) : putD (arK cells cs) (.inr c.1) (.ref a) = arK (cells ++ [c]) (cs ++ [a]) := by
  unfold putD
  rw [valD_any, arK_none n, arK_app h]
  simp
theorem init_ok (pg : Pg) (ok : PgOk pg) : ClOk pg (initCells pg) := by
  refine ⟨?_, fun c hc x hx => ?_⟩
  · unfold initCells
    rw [List.map_map]
    refine (List.map_congr_left fun a ha => ?_).trans (List.map_id _)
    have := ok.az a ha
    simp [Int.toNat_of_nonneg (show 0 ≤ a.2 by omega)]
  · obtain ⟨a, _, rfl⟩ := List.mem_map.mp hc
    have := List.eq_of_mem_replicate hx
    subst this
    exact ⟨Int.le_refl _, p2_pos⟩
end P04
namespace Lk04
open PySem PySem.Spec PyProof.Rows L2 T3 P04
section
variable {h0 h : H3} {C : Addr} {N : List Str} {j : Nat} {x : Addr} {vs : List D} {cs : List (Addr × O)} {e : WE} {ρ : Ev} {E : En} {o : O} {d : D}
theorem set_new (w : Own h0 h ((x, .ins C N vs) :: cs)) (hj : j = vs.length) (hx : ρ[0]? = some (some (.ref x))) (he : ∀ k : K1, (∀ p, h p = none → k (.ref p) (up h p o)) → e ρ h k)
    (next : ∀ p h', Own h0 h' ((x, .ins C N (vs ++ [.ref p])) :: (p, o) :: cs) → E.nx ρ h') : wSetF C N j (wVar 0) e E ρ h := by
  refine he _ fun p np => ⟨_, hx, x, vs, rfl, (w.new np).get (by simp), by omega, ?_⟩
  have w2 : Own h0 (up h p o) ((x, .ins C N vs) :: (p, o) :: cs) := (w.new np).perm (List.Perm.swap _ _ _)
  refine next p _ ?_
  unfold putAtD
  rw [if_neg (by omega)]
  exact Own.set (xs := []) w2
theorem set_val (w : Own h0 h ((x, .ins C N vs) :: cs)) (hj : j = vs.length) (hx : ρ[0]? = some (some (.ref x))) (he : ∀ k : K1, k d h → e ρ h k)
    (next : ∀ h', Own h0 h' ((x, .ins C N (vs ++ [d])) :: cs) → E.nx ρ h') : wSetF C N j (wVar 0) e E ρ h := by
  refine he _ ⟨_, hx, x, vs, rfl, w.get (by simp), by omega, ?_⟩
  refine next _ ?_
  unfold putAtD
  rw [if_neg (by omega)]
  exact Own.set (xs := []) w
end
/-- the arrays' dict is made -/
theorem dc_arrays {h0 : H3} {i jj : Nat} (hij : i ≠ jj) {ρ : Ev} (hi : i < ρ.length) (hjj : jj < ρ.length) {k : K1} {p : Addr} : ∀ (r done : List (Str × Int)) (cs : List Addr) (base : List (Addr × O)) (h : H3), ((done ++ r).map (·.1)).Nodup → (∀ a ∈ r, 0 ≤ a.2 ∧ a.2 ≤ 100) → done.length + r.length ≤ 100 →
    cs.length = done.length → Own h0 h ((p, .dK (arK (done.map fun a => (a.1, List.replicate a.2.toNat 0)) cs)) :: (cellCs (done.map fun a => (a.1, List.replicate a.2.toNat 0)) cs ++ base)) →
    (∀ cs' h', cs'.length = (done ++ r).length → Own h0 h' ((p, .dK (arK ((done ++ r).map fun a => (a.1, List.replicate a.2.toNat 0)) cs')) :: (cellCs ((done ++ r).map fun a => (a.1, List.replicate a.2.toNat 0)) cs' ++ base)) → k (.ref p) h') →
    dcW (fun _ => True) i jj wYes (wVar i) (w2 T3.rMul (wL rLst (wCons (wC (.int 0)) wNil)) (wVar jj)) p ρ k (r.map arD) h
  | [], done, cs, base, h, _, _, _, hl, w, fin => ⟨trivial, fin cs h (by simpa using hl) (by simpa using w)⟩
  | (nm, n) :: r, done, cs, base, h, nd, hz, hb, hl, w, fin => by
    have hn := hz (nm, n) List.mem_cons_self
    simp only at hn
    have gi : ((ρ.set i (some (.str nm))).set jj (some (.int n)))[i]? = some (some (.str nm)) := by
      rw [List.getElem?_set_ne (Ne.symm hij), List.getElem?_set_self (by simpa using hi)]
    have gj : ((ρ.set i (some (D.str nm))).set jj (some (D.int n)))[jj]? = some (some (.int n)) := List.getElem?_set_self (by simpa using hjj)
    refine ⟨trivial, .str nm, .int n, rfl, ?_⟩
    simp [wYes, gi, gj]
    intro t nt
    have w1 := w.more ((Sub.refl h).up (o := .lst [.int 0]) nt)
    refine ⟨by omega, by omega, by omega, fun q nq => ?_⟩
    have w2 := w1.new (p := q) (o := .lst ((List.replicate n.toNat 0).map D.int)) nq
    have hd : (up (up h t (.lst [.int 0])) q (.lst ((List.replicate n.toNat 0).map D.int))) p = some (.dK (arK (done.map fun a => (a.1, List.replicate a.2.toNat 0)) cs)) := w2.get (by simp)
    have hlen := arK_len (cells := done.map fun a => (a.1, List.replicate a.2.toNat (0 : Int))) (cs := cs)
    simp at hlen
    have e0 : (List.replicate n.toNat 0).map D.int = List.replicate n.toNat (D.int 0) := by simp
    rw [e0] at w2 hd
    simp only [List.length_cons] at hb
    refine ⟨_, hd, by omega, _, Sub.refl _, ?_⟩
    refine dc_arrays hij hi hjj r (done ++ [(nm, n)]) (cs ++ [q]) base _ (by simpa using nd) (fun a ha => hz a (List.mem_cons_of_mem _ ha)) (by simp; omega) (by simp [hl]) ?_ (by simpa using fin)
    have hnm : nm ∉ (done.map fun a => (a.1, List.replicate a.2.toNat (0 : Int))).map (·.1) := by
      rw [List.map_map]
      simp only [List.map_append, List.map_cons, List.nodup_append] at nd
      intro z
      exact nd.2.2 nm z nm List.mem_cons_self rfl
    have e1 := arK_put (c := (nm, List.replicate n.toNat 0)) (a := q) (cells := done.map fun a => (a.1, List.replicate a.2.toNat 0)) (cs := cs) (by simpa using hl) hnm
    have e2 := cellCs_app (c := (nm, List.replicate n.toNat 0)) (a := q) (cells := done.map fun a => (a.1, List.replicate a.2.toNat 0)) (cs := cs) (by simpa using hl)
    simp only at e1
    rw [e1]
    have w3 := Own.set (xs := [_]) (o' := .dK (arK ((done.map fun a => (a.1, List.replicate a.2.toNat 0)) ++ [(nm, List.replicate n.toNat 0)]) (cs ++ [q]))) w2
    rw [List.map_append, List.map_singleton]
    rw [e2]
    refine w3.perm ?_
    simp only [List.singleton_append, List.append_assoc]
    refine (List.Perm.swap _ _ _).trans (List.Perm.cons _ ?_)
    rw [show (List.replicate n.toNat (0 : Int)).map D.int = List.replicate n.toNat (D.int 0) by simp]
    exact (List.perm_middle).symm
end Lk04
end
-- G04i
section
set_option maxRecDepth 100000
set_option maxHeartbeats 4000000
/-! G04i: a runner is made; done, run. -/
namespace Lk04
open PySem PySem.Spec PyProof.Rows L2 T3 P04
def sp_rinit (CR CF : Addr) : Sp3 := fun l h k => ∃ (x : Addr) (pg : Pg) (inputs : List Int) (steps : Nat) (p : Pr) (c : Bk) (ct : List Bk) (h0 : H3), l = [.ref x, pg.toD, .tup (inputs.map .int), .int steps] ∧ h = up h0 x (.ins CR n_Runner []) ∧ h0 x = none ∧ PgOk pg ∧
  procOf pg "main" = some p ∧ p.blocks = c :: ct ∧ steps ≤ 60 ∧ ∀ L h', L.b = x → RunAt (κR CR CF pg inputs steps) h0 h' L (initR pg steps p c) → k .non h'
theorem perm9 {α : Type} {a b c d e f : α} {X : List α} : (a :: b :: c :: (X ++ [d, e, f])).Perm (a :: f :: e :: d :: c :: b :: X) := by
  refine List.Perm.cons _ ?_
  have h1 : (b :: c :: (X ++ [d, e, f])).Perm (b :: c :: ([d, e, f] ++ X)) := ((List.perm_append_comm).cons c).cons b
  refine h1.trans ?_
  exact (List.reverse_perm [b, c, d, e, f]).symm.append_right X
theorem set_arr {h0 h : H3} {C : Addr} {N : List Str} {j : Nat} {x : Addr} {vs : List D} {base : List (Addr × O)} {ρ : Ev} {E : En} {pg : Pg} (ok : PgOk pg) (w : Own h0 h ((x, .ins C N vs) :: base)) (hj : j = vs.length) (hx : ρ[0]? = some (some (.ref x))) (h1 : ρ[1]? = some (some pg.toD)) (hl : ρ.length = 7)
    (next : ∀ p cs' h', cs'.length = (initCells pg).length → Own h0 h' ((x, .ins C N (vs ++ [.ref p])) :: (p, .dK (arK (initCells pg) cs')) :: (cellCs (initCells pg) cs' ++ base)) → E.nx ρ h') :
    wSetF C N j (wVar 0) (wDc (wIter (w2 T3.rIx (wVar 1) (wC (.int 1)))) 5 6 (wYes) (wVar 5) (w2 T3.rMul (wL rLst (wCons (wC (.int 0)) (wNil))) (wVar 6))) E ρ h := by
  unfold wSetF wDc wIter
  refine ⟨_, h1, ?_⟩
  simp [Pg.toD]
  intro p7 n7
  have w8 := w.new (p := p7) (o := .dK []) n7
  refine dc_arrays (by decide) (by omega) (by omega) pg.arrays [] [] ((x, .ins C N vs) :: base) _ (by simpa using ok.an) (fun a ha => by have := ok.az a ha; omega) (by have := ok.af; simp; omega) rfl (by simpa [arK, cellCs] using w8) fun cs' h8 hl w9 => ?_
  simp only [List.nil_append] at hl w9
  have w10 : Own h0 h8 ((x, .ins C N vs) :: (p7, .dK (arK (initCells pg) cs')) :: (cellCs (initCells pg) cs' ++ base)) := by
    refine w9.perm ?_
    refine ((List.perm_middle (l₁ := cellCs (initCells pg) cs') (a := (x, _))).cons (p7, _)).trans ?_
    exact List.Perm.swap _ _ _
  have hob : h8 x = some (.ins C N vs) := w10.get (by simp)
  refine ⟨_, hx, x, rfl, vs, hob, by omega, next p7 cs' _ (by simpa [initCells] using hl) ?_⟩
  unfold putAtD
  rw [if_neg (by omega)]
  exact Own.set (xs := []) w10
theorem ok_rinit (CR CF : Addr) : ∀ l h k, sp_rinit CR CF l h k → W_Runner_init CR CF sp_procof (sp_enter CR CF) (sp_finit CF) (en k) (ev0 N_Runner_init l) h := by
  rintro l h k ⟨x, pg, inputs, steps, p, c, ct, h0, rfl, rfl, hx, ok, hp, hbl, hst, post⟩
  have w0 : Own h0 (up h0 x (.ins CR n_Runner [])) [(x, .ins CR n_Runner [])] := (Own.start (Sub.refl h0)).new hx
  unfold W_Runner_init
  simp only [s_seq]
  refine set_val (d := pg.toD) w0 rfl rfl (fun k q => ⟨_, rfl, q⟩) fun h1 w1 => ?_
  simp only [s_seq]
  refine set_val (d := .tup (inputs.map .int)) w1 rfl rfl (fun k q => ⟨_, rfl, q⟩) fun h2 w2 => ?_
  simp only [s_seq]
  refine set_val (d := .int steps) w2 rfl rfl (fun k q => ⟨_, rfl, q⟩) fun h3 w3 => ?_
  simp only [s_seq]
  refine set_val (d := .int 0) w3 rfl rfl (fun k q => q) fun h4 w4 => ?_
  simp only [s_seq]
  refine set_new (o := .lst []) w4 rfl rfl (fun k q => by simpa using q) fun p4 h5 w5 => ?_
  simp only [s_seq]
  refine set_new (o := .lst []) w5 rfl rfl (fun k q => by simpa using q) fun p5 h6 w6 => ?_
  simp only [s_seq]
  refine set_new (o := .dT []) w6 rfl rfl (fun k q => q) fun p6 h7 w7 => ?_
  simp only [s_seq]
  refine set_arr ok w7 rfl rfl rfl rfl fun p7 cs' h8 hcl w8 => ?_
  simp only [s_seq]
  refine set_val (d := .non) w8 rfl rfl (fun k q => q) fun h9 w9 => ?_
  simp only [s_seq]
  refine set_new (o := .lst []) w9 rfl rfl (fun k q => by simpa using q) fun p9 h10 w10 => ?_
  have R : RunAt (κR CR CF pg inputs steps) h0 h10 ⟨x, p4, p5, p6, p7, p9, cs', []⟩ (start pg) := by
    refine ⟨?_, hcl, rfl⟩
    have := w10.perm perm9
    simpa [cellsOf, κR, P04.start, frCs, refs, enD, seenOf, Pg.toD] using this
  have hb : h10 x = some (.ins CR n_Runner [pg.toD, .tup (inputs.map .int), .int steps, .int 0, .ref p4, .ref p5, .ref p6, .ref p7, .non, .ref p9]) := R.b
  have hbb : p.toD = .tup [.str p.name, .int p.params, .tup ((c :: ct).map Bk.toD)] := by rw [← hbl]; rfl
  simp [ev0]
  refine ⟨pg, "main", p, rfl, hp, ?_⟩
  simp [wMethC, wMake, hb, n_Runner, hbb, Bk.toD, wDNewK]
  intro v nv xf nxf
  have nv0 := R.ow.sub.none nv
  have R2 := R.keep (o := .dK []) nv
  have nxf0 := R2.ow.sub.none nxf
  have hxv : xf ≠ v := fun z => by subst z; rw [up_same] at nxf0; cases nxf0
  have nxf1 : h0 xf = none := by rw [up_ne hxv] at nxf0; exact nxf0
  refine ⟨xf, _, _, _, _, rfl, up_same, ?_⟩
  rw [up_up]
  have R3 := R2.keep (p := xf) (o := foR CF (mainFr p c) v) nxf
  refine ⟨rfl, pg, inputs, steps, ⟨x, p4, p5, p6, p7, p9, cs', []⟩, start pg, mainFr p c, xf, v, h0, rfl, ?_, nv0, nxf1, hxv, by simp [P04.start], by simp [P04.start], by simp, fun c1 h' R' => ?_, fun c1 h' R' => ?_⟩
  · simpa [foR, mainFr, hbb, Bk.toD] using R3
  · refine en_rt' (post ⟨x, p4, p5, p6, p7, p9, cs', []⟩ h' rfl ?_) (Sub.refl _)
    unfold initR enter
    rw [if_pos c1]
    exact R'.less (((Sub.refl h0).up nv0).trans ((Sub.refl _).up nxf0))
  · exact en_rt' (post ⟨x, p4, p5, p6, p7, p9, cs', [(xf, v)]⟩ h' rfl R') (Sub.refl _)
end Lk04
end
-- G04j
section
set_option maxRecDepth 100000
set_option maxHeartbeats 4000000
/-! G04j: done, run, met. -/
namespace P04
open PySem L2 T3
def initS (b : Bool) (pg : Pg) (steps : Nat) (p : Pr) (c : Bk) : Rn :=
  if steps ≤ 0 then { start pg with frames := if b then [] else [mainFr p c], en := some [.inr "none"] } else enter steps (start pg) (mainFr p c)
theorem init_true {pg : Pg} {steps : Nat} {p : Pr} {c : Bk} : initS true pg steps p c = initR pg steps p c := by
  unfold initS initR enter
  split
  · rename_i h
    have h2 : steps ≤ (start pg).path.length := h
    simp only [if_true, if_pos h2]; rfl
  · rfl
def fin (b : Bool) (pg : Pg) (inputs : List Int) (steps : Nat) : Rn := match procOf pg "main" with
  | none => start pg
  | some p => match p.blocks with
    | [] => start pg
    | c :: _ => runN b pg inputs steps 600 (initS b pg steps p c)
theorem main_ok {pg : Pg} (ok : PgOk pg) : ∃ p c ct, procOf pg "main" = some p ∧ p ∈ pg.procs ∧ p.blocks = c :: ct := by
  obtain ⟨p, hp⟩ := procOf_has (pg := pg) (n := "main") ok.main
  obtain ⟨m, _⟩ := procOf_mem hp
  have := (ok.each p m).ne
  cases h : p.blocks with
  | nil => exact absurd h this
  | cons c ct => exact ⟨p, c, ct, hp, m, h⟩
theorem initS_ok (b : Bool) {pg : Pg} {steps : Nat} {p : Pr} {c : Bk} {ct : List Bk} (ok : PgOk pg) (m : p ∈ pg.procs) (hbl : p.blocks = c :: ct) (hs : steps ≤ 60) : StOk pg steps 3 (initS b pg steps p c) ∧ msr steps (initS b pg steps p c) ≤ 600 := by
  have eb : blkOf p c.label = some c := by
    unfold blkOf; rw [hbl, List.find?_cons_of_pos]; simp
  have hc : c ∈ p.blocks := by rw [hbl]; exact List.mem_cons_self
  have F : FrOk pg 3 (mainFr p c) := ⟨m, ⟨c, eb, Nat.zero_le _⟩, (fun v d e => by simp [mainFr, valD_nil] at e), by simp [mainFr]⟩
  have one : ∀ f ∈ [mainFr p c], FrOk pg 3 f := fun f hf => by rw [List.mem_singleton.mp hf]; exact F
  unfold initS
  split
  · rename_i h
    refine ⟨⟨?_, init_ok pg ok, ?_, (fun e => nomatch e), by simp [start], by simp [start], by simp [start], by simp [start], by simp [start], by decide⟩, ?_⟩
    · cases b
      · exact one
      · exact fun f hf => nomatch hf
    · cases b <;> simp
    · have : steps = 0 := by omega
      subst this
      cases b <;> simp [msr, start, tm]
      omega
  · rename_i h
    unfold enter
    rw [if_neg (by simpa [start] using h)]
    refine ⟨⟨one, init_ok pg ok, by simp [start], (fun _ z => nomatch z), by simp [start], by simp [start]; omega, by simp [start], by simp [start], fun k hk => ?_, by decide⟩, ?_⟩
    · simp [start] at hk
      subst hk
      exact all_in m hc (List.mem_append_left _ (List.mem_append_left _ (List.mem_append_left _ (List.mem_singleton.mpr rfl))))
    · simp [msr, start]
      have := tm_le (mainFr p c)
      omega
theorem runN_ok (b : Bool) {pg : Pg} (ok : PgOk pg) {inputs : List Int} (hi : ∀ x ∈ inputs, 0 ≤ x ∧ x < p2 pg.w) {steps : Nat} : ∀ (n B : Nat) (S : Rn), StOk pg steps B S → ∃ C, StOk pg steps C (runN b pg inputs steps n S)
  | 0, B, S, h => ⟨B, h⟩
  | n + 1, B, S, h => by
    unfold P04.runN
    split
    · rename_i e
      exact runN_ok b ok hi n (B + 1) _ (step_ok b ok hi h e).ok
    · exact ⟨B, h⟩
theorem fin_ok (b : Bool) {pg : Pg} (ok : PgOk pg) {inputs : List Int} (hi : ∀ x ∈ inputs, 0 ≤ x ∧ x < p2 pg.w) {steps : Nat} (hs : steps ≤ 60) : ∃ C, StOk pg steps C (fin b pg inputs steps) := by
  obtain ⟨p, c, ct, hp, m, hbl⟩ := main_ok ok
  unfold fin
  rw [hp]; dsimp only; rw [hbl]
  exact runN_ok b ok hi _ _ _ (initS_ok b ok m hbl hs).1
/-- both ways end alike -/
theorem fin_two (pg : Pg) (inputs : List Int) (steps : Nat) : (fin true pg inputs steps).obs = (fin false pg inputs steps).obs := by
  unfold fin
  split
  · rfl
  split
  · rfl
  · unfold initS
    split
    · simp only [runN]
      rfl
    · exact runN_two pg inputs steps _ _
/-! what was seen -/
theorem putD_keys {κ : Type} [DecidableEq κ] {kvs : List (κ × D)} {k : κ} {v : D} : (putD kvs k v).map (·.1) = if k ∈ kvs.map (·.1) then kvs.map (·.1) else kvs.map (·.1) ++ [k] := by
  unfold putD
  have e : (kvs.any fun kv => decide (kv.1 = k)) = decide (k ∈ kvs.map (·.1)) := by
    rw [Bool.eq_iff_iff]
    simp
  rw [e]
  by_cases h : k ∈ kvs.map (·.1)
  · rw [decide_eq_true h, if_pos rfl, if_pos h, List.map_map]
    refine List.map_congr_left fun kv _ => ?_
    simp only [Function.comp]
    split <;> rfl
  · rw [decide_eq_false h, if_neg (by simp), if_neg h]; simp
theorem seen_keys : ∀ (is : List (List Key)), ((seenOf is).map (·.1)).Nodup ∧ ∀ k, k ∈ (seenOf is).map (·.1) ↔ k ∈ is := by
  have gen : ∀ (is : List (List Key)) (a : List (List Key × D)), (a.map (·.1)).Nodup → ((is.foldl (fun kvs k => putD kvs k (.bl true)) a).map (·.1)).Nodup ∧ ∀ k, k ∈ (is.foldl (fun kvs k => putD kvs k (.bl true)) a).map (·.1) ↔ k ∈ a.map (·.1) ∨ k ∈ is := by
    intro is
    induction is with
    | nil => intro a h; exact ⟨h, fun k => by simp⟩
    | cons x r ih =>
      intro a h
      have h2 : ((putD a x (.bl true)).map (·.1)).Nodup := by
        rw [putD_keys]
        split
        · exact h
        · rename_i hx
          rw [List.nodup_append]
          exact ⟨h, by simp, fun y hy z hz e => by rw [List.mem_singleton] at hz; subst hz; subst e; exact hx hy⟩
      obtain ⟨q1, q2⟩ := ih (putD a x (.bl true)) h2
      refine ⟨q1, fun k => ?_⟩
      rw [List.foldl_cons, q2, putD_keys]
      split
      · rename_i hx
        constructor
        · rintro (z | z)
          · exact .inl z
          · exact .inr (List.mem_cons_of_mem _ z)
        · rintro (z | z)
          · exact .inl z
          · rcases List.mem_cons.mp z with rfl | z
            · exact .inl hx
            · exact .inr z
      · constructor
        · rintro (z | z)
          · rcases List.mem_append.mp z with z | z
            · exact .inl z
            · rw [List.mem_singleton] at z; subst z; exact .inr List.mem_cons_self
          · exact .inr (List.mem_cons_of_mem _ z)
        · rintro (z | z)
          · exact .inl (List.mem_append_left _ z)
          · rcases List.mem_cons.mp z with rfl | z
            · exact .inl (List.mem_append_right _ (List.mem_singleton.mpr rfl))
            · exact .inr z
  intro is
  obtain ⟨a, b⟩ := gen is [] (by simp)
  exact ⟨a, fun k => by have := b k; simpa [seenOf] using this⟩
end P04
namespace Lk04
open PySem PySem.Spec PyProof.Rows L2 T3 P04
/-- a run's arguments -/
structure RunIn (pg : Pg) (inputs : List Int) (steps : Nat) : Prop where
  ok : PgOk pg
  few : steps ≤ 60
  inp : ∀ x ∈ inputs, 0 ≤ x ∧ x < p2 pg.w
  inl : inputs.length ≤ 1000
def argD (pg : Pg) (inputs : List Int) (steps : Nat) : List D := [pg.toD, .tup (inputs.map .int), .int steps]
def sp_done (CR CF : Addr) : Sp3 := fun l h k => ∃ pg inputs steps, l = argD pg inputs steps ∧ RunIn pg inputs steps ∧ ∀ L h', RunAt (κR CR CF pg inputs steps) h h' L (fin true pg inputs steps) → k (.ref L.b) h'
theorem ok_done (CR CF : Addr) : ∀ l h k, sp_done CR CF l h k → W_done CR (sp_rinit CR CF) (sp_rrun CR CF) (en k) (ev0 N_done l) h := by
  rintro l h k ⟨pg, inputs, steps, rfl, I, post⟩
  obtain ⟨p, c, ct, hp, m, hbl⟩ := main_ok I.ok
  obtain ⟨i1, i2⟩ := initS_ok true I.ok m hbl I.few
  simp [W_done, ev0, argD, wMake]
  intro x nx
  refine ⟨x, pg, inputs, steps, p, c, ct, h, rfl, rfl, nx, I.ok, hp, hbl, I.few, fun L h1 eL R1 => ?_⟩
  rw [init_true] at i1 i2
  have hb1 : h1 L.b = some (.ins CR n_Runner [pg.toD, .tup (inputs.map .int), .int steps, .int (initR pg steps p c).used, .ref L.wr, .ref L.pa, .ref L.it, .ref L.ce, enD (initR pg steps p c).en, .ref L.op]) := R1.b
  rw [eL] at hb1
  simp [wMethC, hb1, n_Runner]
  rw [← eL]
  refine ⟨pg, inputs, steps, L, initR pg steps p c, 3, 600, h, rfl, R1, ⟨I.ok, i1, by decide, I.few, I.inp, I.inl⟩, i2, by decide, fun L' h' e R' => ?_⟩
  have e0 : fin true pg inputs steps = runN true pg inputs steps 600 (initR pg steps p c) := by
    unfold fin; rw [hp]; dsimp only; rw [hbl]; dsimp only; rw [init_true]
  rw [← e0] at R'
  rw [← e]
  exact en_rt (post L' h' R')
def resD (S : Rn) : D := .tup [.tup (S.writes.map .int), enD S.en, .tup (S.path.map plD)]
def sp_run (b : Bool) : Sp3 := fun l h k => ∃ pg inputs steps, l = argD pg inputs steps ∧ RunIn pg inputs steps ∧ ∀ h', Sub h h' → k (resD (fin b pg inputs steps)) h'
theorem ok_runf (CR CF : Addr) : ∀ l h k, sp_run true l h k → W_run CR (sp_done CR CF) (en k) (ev0 N_run l) h := by
  rintro l h k ⟨pg, inputs, steps, rfl, I, post⟩
  simp [W_run, ev0, argD]
  refine ⟨pg, inputs, steps, rfl, I, fun L h1 R1 => ?_⟩
  have hb1 : h1 L.b = some (.ins CR n_Runner [pg.toD, .tup (inputs.map .int), .int steps, .int (fin true pg inputs steps).used, .ref L.wr, .ref L.pa, .ref L.it, .ref L.ce, enD (fin true pg inputs steps).en, .ref L.op]) := R1.b
  have hw := R1.wr
  have hp := R1.pa
  simp [hb1, n_Runner, hw, hp]
  exact en_rt (post h1 R1.ow.sub)
/-- the items in order -/
def sp_met (b : Bool) : Sp3 := fun l h k => ∃ pg inputs steps, l = argD pg inputs steps ∧ RunIn pg inputs steps ∧
  ∀ ys h', Sub h h' → ys.Nodup → (∀ d, d ∈ ys ↔ d ∈ (fin b pg inputs steps).items.map dOf) → ys.Pairwise (fun x y => ltD y x = false) → k (.tup ys) h'
theorem ok_met (CR CF : Addr) : ∀ l h k, sp_met true l h k → W_met CR (sp_done CR CF) (en k) (ev0 N_met l) h := by
  rintro l h k ⟨pg, inputs, steps, rfl, I, post⟩
  simp [W_met, ev0, argD]
  refine ⟨pg, inputs, steps, rfl, I, fun L h1 R1 => ?_⟩
  have hb1 : h1 L.b = some (.ins CR n_Runner [pg.toD, .tup (inputs.map .int), .int steps, .int (fin true pg inputs steps).used, .ref L.wr, .ref L.pa, .ref L.it, .ref L.ce, enD (fin true pg inputs steps).en, .ref L.op]) := R1.b
  have hi : h1 L.it = some (.dT (seenOf (fin true pg inputs steps).items)) := R1.it
  obtain ⟨C, st⟩ := fin_ok true I.ok I.inp I.few
  obtain ⟨sn, sm⟩ := seen_keys (fin true pg inputs steps).items
  have ek : keysD (seenOf (fin true pg inputs steps).items) = ((seenOf (fin true pg inputs steps).items).map (·.1)).map dOf := by
    unfold keysD; rw [List.map_map]; rfl
  have hit : ∀ q ∈ (seenOf (fin true pg inputs steps).items).map (·.1), ItmOk q := fun q hq => items_ok I.ok q (st.itm q ((sm q).mp hq))
  simp [hb1, n_Runner]
  refine ⟨L.it, _, rfl, hi, fun p np => ?_⟩
  simp
  refine ⟨p, _, rfl, up_same, ?_, ?_, fun ys q perm srt nq => ?_⟩
  · rw [ek]
    intro d hd
    obtain ⟨j, hj, rfl⟩ := List.mem_map.mp hd
    exact ⟨(hit j hj).ok, (hit j hj).dep⟩
  · rw [ek]; exact it_srtb hit
  · simp
    have s1 : Sub h1 (up h1 p (.lst (keysD (seenOf (fin true pg inputs steps).items)))) := (Sub.refl h1).up np
    refine en_rt (post ys _ (R1.ow.sub.trans (s1.trans ((Sub.refl _).up nq))) ?_ (fun d => ?_) srt)
    · rw [ek] at perm
      refine (perm.nodup_iff).mpr ?_
      exact List.pairwise_map.mpr (sn.imp fun hne e => hne (dOf_inj e))
    · rw [perm.mem_iff, ek]
      simp only [List.mem_map]
      constructor
      · rintro ⟨j, ⟨q, hq, rfl⟩, rfl⟩
        exact ⟨q.1, (sm q.1).mp (List.mem_map_of_mem hq), rfl⟩
      · rintro ⟨j, hj, rfl⟩
        obtain ⟨q, hq, e⟩ := List.mem_map.mp ((sm j).mpr hj)
        exact ⟨j, ⟨q, hq, e⟩, rfl⟩
end Lk04
end
-- G4L
section
set_option maxRecDepth 100000
set_option maxHeartbeats 4000000
/-! G4L: the law's own walk: the state as a dict; its end, its blocks. -/
namespace Lk04
open PySem PySem.Spec PyProof.Rows L2 T3 P04
def mK (pg : Pg) (inputs : List Int) (steps : Nat) (L : Lay) (u : Int) (e : D) : List (Key × D) :=
  [(.inr "program", pg.toD), (.inr "inputs", .tup (inputs.map .int)), (.inr "steps", .int steps), (.inr "used", .int u), (.inr "cells", .ref L.ce), (.inr "writes", .ref L.wr), (.inr "path", .ref L.pa), (.inr "items", .ref L.it), (.inr "open", .ref L.op), (.inr "end", e)]
def heK (p : Str) (l a r : Int) (v : Addr) : List (Key × D) := [(.inr "name", .str p), (.inr "label", .int l), (.inr "at", .int a), (.inr "words", .ref v), (.inr "gives", .int r)]
def κL (pg : Pg) (inputs : List Int) (steps : Nat) : Knd where
  mo := fun L u e => .dK (mK pg inputs steps L u (enD e))
  so := fun is => .lst (is.map dOf)
  fo := fun p l a r v => .dK (heK p.name l a r v)
  ix := fun _ _ _ _ => rfl
section
variable {pg : Pg} {inputs : List Int} {steps : Nat} {L : Lay} {u : Int} {e d : D} {p : Str} {l a r : Int} {v : Addr}
theorem mK_program : valD (mK pg inputs steps L u e) (.inr "program") = some pg.toD := by simp [mK, valD_cons]
theorem mK_inputs : valD (mK pg inputs steps L u e) (.inr "inputs") = some (.tup (inputs.map .int)) := by simp [mK, valD_cons]
theorem mK_steps : valD (mK pg inputs steps L u e) (.inr "steps") = some (.int steps) := by simp [mK, valD_cons]
theorem mK_used : valD (mK pg inputs steps L u e) (.inr "used") = some (.int u) := by simp [mK, valD_cons]
theorem mK_cells : valD (mK pg inputs steps L u e) (.inr "cells") = some (.ref L.ce) := by simp [mK, valD_cons]
theorem mK_writes : valD (mK pg inputs steps L u e) (.inr "writes") = some (.ref L.wr) := by simp [mK, valD_cons]
theorem mK_path : valD (mK pg inputs steps L u e) (.inr "path") = some (.ref L.pa) := by simp [mK, valD_cons]
theorem mK_items : valD (mK pg inputs steps L u e) (.inr "items") = some (.ref L.it) := by simp [mK, valD_cons]
theorem mK_open : valD (mK pg inputs steps L u e) (.inr "open") = some (.ref L.op) := by simp [mK, valD_cons]
theorem mK_end : valD (mK pg inputs steps L u e) (.inr "end") = some e := by simp [mK, valD_cons]
theorem mK_putE : putD (mK pg inputs steps L u e) (.inr "end") d = mK pg inputs steps L u d := by simp [mK, putD]
theorem mK_putU {w : Int} : putD (mK pg inputs steps L u e) (.inr "used") (.int w) = mK pg inputs steps L w e := by simp [mK, putD]
theorem heK_name : valD (heK p l a r v) (.inr "name") = some (.str p) := by simp [heK, valD_cons]
theorem heK_label : valD (heK p l a r v) (.inr "label") = some (.int l) := by simp [heK, valD_cons]
theorem heK_at : valD (heK p l a r v) (.inr "at") = some (.int a) := by simp [heK, valD_cons]
theorem heK_words : valD (heK p l a r v) (.inr "words") = some (.ref v) := by simp [heK, valD_cons]
theorem heK_gives : valD (heK p l a r v) (.inr "gives") = some (.int r) := by simp [heK, valD_cons]
theorem heK_putL {m : Int} : putD (heK p l a r v) (.inr "label") (.int m) = heK p m a r v := by simp [heK, putD]
theorem heK_putA {m : Int} : putD (heK p l a r v) (.inr "at") (.int m) = heK p l m r v := by simp [heK, putD]
end
/-- a look into a dict whose rows are known -/
theorem dg_at {h : H3} {q : Addr} {kvs : List (Key × D)} {x : Str} {d : D} {k : K1} (e : h q = some (.dK kvs)) (g : valD kvs (.inr x) = some d) : rDGet (.ref q) (.str x) h k ↔ k d h := by
  rw [s_dget]
  constructor
  · rintro ⟨v, hv, kk⟩
    obtain ⟨y, ey, ev⟩ := (dg_dK e).mp hv
    cases ey
    rw [g] at ev; cases ev; exact kk
  · intro kk; exact ⟨d, (dg_dK e).mpr ⟨_, rfl, g.symm⟩, kk⟩
theorem so_snoc {pg : Pg} {inputs : List Int} {steps : Nat} {is : List (List Key)} {q : List Key} : (κL pg inputs steps).so (is ++ [q]) = .lst (is.map dOf ++ [dOf q]) := by simp [κL]
def sp_lended : Sp3 := fun l h k => ∃ (pg : Pg) (inputs : List Int) (steps : Nat) (L : Lay) (S : Rn) (x : Str) (r : List Key) (h0 : H3), l = [.ref L.b, dOf (.inr x :: r)] ∧ PyData.strOk x = true ∧ RunAt (κL pg inputs steps) h0 h L S ∧ S.items.length ≤ 300000 ∧
  ∀ h', RunAt (κL pg inputs steps) h0 h' L (Rn.end_ S x r) → k .non h'
theorem ok_l_ended : ∀ l h k, sp_lended l h k → W_l_ended (en k) (ev0 N_l_ended l) h := by
  rintro l h k ⟨pg, inputs, steps, L, S, x, r, h0, rfl, hx, R, hl, post⟩
  have c1 : ∀ z ∈ endWords, PyData.strOk z = true := by
    intro z hz
    simp [endWords] at hz
    rcases hz with rfl | rfl | rfl <;> decide +kernel
  have hb : h L.b = some (.dK (mK pg inputs steps L S.used (enD S.en))) := R.b
  have R1 := R.setB S.used (some (.inr x :: r))
  have e0 : D.tup (D.str x :: List.map kD r) = dOf (.inr x :: r) := rfl
  simp [W_l_ended, ev0, wDPut, dOf, kD]
  refine ⟨_, dpt_K (q := .inr "end") hb rfl (by simp [mK]), ?_⟩
  rw [mK_putE, e0]
  intro p np
  have hp : ∀ o, up (up h L.b (.dK (mK pg inputs steps L S.used (dOf (.inr x :: r))))) p o p = some o := fun o => up_same
  refine in_strsL (l := endWords) up_same hx c1 ?_
  have R2 : RunAt (κL pg inputs steps) h0 _ L _ := R1.more ((Sub.refl _).up (o := .lst (endWords.map .str)) np)
  have hb2 : (up (up h L.b (.dK (mK pg inputs steps L S.used (dOf (.inr x :: r))))) p (.lst (endWords.map .str))) L.b = some (.dK (mK pg inputs steps L S.used (dOf (.inr x :: r)))) := R2.b
  have hi2 : (up (up h L.b (.dK (mK pg inputs steps L S.used (dOf (.inr x :: r))))) p (.lst (endWords.map .str))) L.it = some (.lst (S.items.map dOf)) := R2.it
  unfold Rn.end_ at post
  simp
  split
  · rename_i c
    rw [if_pos c] at post
    have R3 := R2.setIt (S.items ++ [.inr x :: r])
    have hw : (endWords.map D.str) = [D.str "broken", D.str "index", D.str "deep"] := rfl
    rw [hw] at hb2 hi2 R3
    simp [wAppend, dg_dK hb2, mK_items, hi2]
    refine ⟨by omega, en_rt (post _ ?_)⟩
    rw [so_snoc] at R3
    exact R3
  · rename_i c
    rw [if_neg c] at post
    exact en_rt (post _ R2)
theorem head_filter {α : Type} {p : α → Bool} {l : List α} {x : α} (h : l.find? p = some x) : (l.filter p)[0]? = some x := by
  rw [← List.head?_eq_getElem?, List.head?_filter]; exact h
def sp_lbody : Sp3 := fun l h k => ∃ (m q : Addr) (mk hk : List (Key × D)) (pg : Pg) (p : Pr) (lb : Int) (b : Bk), l = [.ref m, .ref q] ∧ h m = some (.dK mk) ∧ valD mk (.inr "program") = some pg.toD ∧ h q = some (.dK hk) ∧ valD hk (.inr "name") = some (.str p.name) ∧ valD hk (.inr "label") = some (.int lb) ∧
  PgOk pg ∧ p ∈ pg.procs ∧ blkOf p lb = some b ∧ ∀ h', Sub h h' → k b.toD h'
theorem find_self {pg : Pg} (ok : PgOk pg) {p : Pr} (hp : p ∈ pg.procs) : procOf pg p.name = some p := by
  have nd := ok.pn
  unfold procOf
  generalize pg.procs = l at hp nd
  induction l with
  | nil => exact (nomatch hp)
  | cons q r ih =>
    rw [List.map_cons, List.nodup_cons] at nd
    rcases List.mem_cons.mp hp with rfl | h
    · rw [List.find?_cons_of_pos (by simp)]
    · rw [List.find?_cons_of_neg]
      · exact ih h nd.2
      · simp
        intro e
        exact nd.1 (by rw [e]; exact List.mem_map_of_mem h)
theorem ok_l_body : ∀ l h k, sp_lbody l h k → W_l_body (en k) (ev0 N_l_body l) h := by
  rintro l h k ⟨m, q, mk, hk, pg, p, lb, b, rfl, hm, g1, hq, g2, g3, ok, hp, hb, post⟩
  have c1 := find_self ok hp
  have few := ok.pf
  have few2 := (ok.each p hp).few
  simp [W_l_body, ev0, dg_dK hm, g1, Pg.toD]
  intro a na
  refine lc_pure (fun d => match d with | .tup (.str n :: _) => decide (n = p.name) | _ => false) (fun d => d) (by simp; omega) (fun _ _ _ => trivial) ?_ ?_ ?_
  · intro x hx o h1 s1 K hK
    obtain ⟨r, hr, rfl⟩ := List.mem_map.mp hx
    have hq1 : h1 q = some (.dK hk) := s1 _ _ ((Sub.refl h).up na _ _ hq)
    simp [Pr.toD, dg_dK hq1, g2]
    exact hK _ (Sub.refl _)
  · intro x hx _ o h1 s1 K hK
    simp
    exact hK _ (Sub.refl _)
  · have e0 : ((pg.procs.map Pr.toD).filter fun d => match d with | .tup (.str n :: _) => decide (n = p.name) | _ => false) = (pg.procs.filter fun r => decide (r.name = p.name)).map Pr.toD := by
      rw [List.filter_map]; rfl
    have e1 : ((pg.procs.filter fun r => decide (r.name = p.name)).map Pr.toD)[0]? = some p.toD := by
      rw [List.getElem?_map, head_filter c1]; rfl
    have e2 : atI ((pg.procs.filter fun r => decide (r.name = p.name)).map Pr.toD) 0 = some p.toD := by rw [atI_lit]; exact e1
    simp only [List.map_id', e0]
    simp only [s_c, s_w2, s_ix_l]
    refine ⟨_, _, up_same, e2, ?_⟩
    simp [Pr.toD]
    intro a2 na2
    have sq : (up h a (.lst ((pg.procs.filter fun r => decide (r.name = p.name)).map Pr.toD))) q = some (.dK hk) := (Sub.refl h).up na _ _ hq
    refine lc_pure (fun d => match d with | .tup (.int n :: _) => decide (n = lb) | _ => false) (fun d => d) (by simp; omega) (fun _ _ _ => trivial) ?_ ?_ ?_
    · intro x hx o h1 s1 K hK
      obtain ⟨r, hr, rfl⟩ := List.mem_map.mp hx
      have hq1 : h1 q = some (.dK hk) := s1 _ _ ((Sub.refl _).up na2 _ _ sq)
      simp [Bk.toD, dg_dK hq1, g3]
      exact hK _ (Sub.refl _)
    · intro x hx _ o h1 s1 K hK
      simp
      exact hK _ (Sub.refl _)
    · have f0 : ((p.blocks.map Bk.toD).filter fun d => match d with | .tup (.int n :: _) => decide (n = lb) | _ => false) = (p.blocks.filter fun r => decide (r.label = lb)).map Bk.toD := by
        rw [List.filter_map]; rfl
      have f2 : atI ((p.blocks.filter fun r => decide (r.label = lb)).map Bk.toD) 0 = some b.toD := by
        rw [atI_lit, List.getElem?_map, head_filter hb]; rfl
      simp only [List.map_id', f0]
      simp only [s_c, s_w2, s_ix_l]
      refine ⟨_, _, up_same, f2, en_rt (post _ ?_)⟩
      exact ((Sub.refl h).up na).trans ((Sub.refl _).up na2)
def sp_lbegin : Sp3 := fun l h k => ∃ (pg : Pg) (inputs : List Int) (steps : Nat) (L : Lay) (S : Rn) (q : Addr) (hk : List (Key × D)) (nm : Str) (lb : Int) (h0 : H3), l = [.ref L.b, .ref q] ∧ RunAt (κL pg inputs steps) h0 h L S ∧
  h q = some (.dK hk) ∧ valD hk (.inr "name") = some (.str nm) ∧ valD hk (.inr "label") = some (.int lb) ∧ q ≠ L.pa ∧ q ≠ L.it ∧ S.path.length ≤ 1000 ∧ S.items.length ≤ 300000 ∧
  (steps ≤ S.path.length → ∀ h', RunAt (κL pg inputs steps) h0 h' L { S with en := some [.inr "none"] } → k (.bl false) h') ∧
  (¬ steps ≤ S.path.length → ∀ h', RunAt (κL pg inputs steps) h0 h' L { S with path := S.path ++ [(nm, lb)], items := S.items ++ [blockK nm lb] } → k (.bl true) h')
theorem ok_l_begin : ∀ l h k, sp_lbegin l h k → W_l_begin (en k) (ev0 N_l_begin l) h := by
  rintro l h k ⟨pg, inputs, steps, L, S, q, hk, nm, lb, h0, rfl, R, hq, g1, g2, n1, n2, hpl, hil, p1, p2⟩
  have hb : h L.b = some (.dK (mK pg inputs steps L S.used (enD S.en))) := R.b
  have hp := R.pa
  have hi : h L.it = some (.lst (S.items.map dOf)) := R.it
  have ne := R.nes
  simp [W_l_begin, ev0, dg_dK hb, mK_path, mK_steps, hp]
  split
  · rename_i c
    simp [wDPut]
    refine ⟨_, dpt_K (q := .inr "end") hb rfl (by simp [mK]), ?_⟩
    rw [mK_putE]
    exact en_rt (p1 c _ (R.setB S.used (some [.inr "none"])))
  · rename_i c
    have R2 := R.setPa (S.path ++ [(nm, lb)])
    have R3 := R2.setIt (S.items ++ [blockK nm lb])
    rw [so_snoc] at R3
    have hb2 : ∀ o, (up h L.pa o) L.b = some (.dK (mK pg inputs steps L S.used (enD S.en))) := fun o => by rw [up_ne ne.bpa]; exact hb
    have hq2 : ∀ o, (up h L.pa o) q = some (.dK hk) := fun o => by rw [up_ne n1]; exact hq
    simp [wAppend, dg_dK hb, mK_path, dg_dK hq, g1, g2, hp]
    refine ⟨by omega, ?_⟩
    simp [dg_dK (hb2 _), mK_items, up_ne ne.pait.symm, hi, dg_dK (hq2 _), g1, g2]
    refine ⟨by omega, en_rt (p2 c _ ?_)⟩
    simpa [plD, blockK, dOf, kD] using R3
end Lk04
end
-- G4M
section
set_option maxRecDepth 100000
set_option maxHeartbeats 4000000
/-! G4M: the law's own walk: sizes, values. -/
namespace Lk04
open PySem PySem.Spec PyProof.Rows L2 T3 P04
theorem body_at {pg : Pg} {inputs : List Int} {steps : Nat} {L : Lay} {S : Rn} {B : Nat} {h0 h : H3} {f : P04.Fr} {fs : List P04.Fr} {a v : Addr} {fs' : List (Addr × Addr)} {c : Bk} {k : K1} (R : RunAt (κL pg inputs steps) h0 h L S) (ok : PgOk pg) (St : StOk pg steps B S) (hf : S.frames = f :: fs) (hL : L.fs = (a, v) :: fs') (hc : blkOf f.pr f.label = some c)
    (post : ∀ h', RunAt (κL pg inputs steps) h0 h' L S → k c.toD h') : sp_lbody [.ref L.b, .ref a] h k :=
  ⟨L.b, a, _, _, pg, f.pr, f.label, c, rfl, R.b, mK_program, (R.top hL hf).1, heK_name, heK_label, ok, (St.fr f (by rw [hf]; exact List.mem_cons_self)).pr, hc, fun h' s => post h' (R.more s)⟩
def sp_linside : Sp3 := fun l h k => ∃ (pg : Pg) (inputs : List Int) (steps : Nat) (L : Lay) (S : Rn) (B : Nat) (f : P04.Fr) (fs : List P04.Fr) (a : Str) (z : List Int) (i : Int) (h0 : H3), l = [.ref L.b, .str a, .int i] ∧
  RunAt (κL pg inputs steps) h0 h L S ∧ Env4 pg inputs steps B S ∧ S.frames = f :: fs ∧ S.cells.lookup a = some z ∧
  (i < z.length → ∀ h', RunAt (κL pg inputs steps) h0 h' L S → k (.bl true) h') ∧ (¬ i < z.length → ∀ h', RunAt (κL pg inputs steps) h0 h' L (S.fin (idxK f)) → k (.bl false) h')
theorem ok_l_inside : ∀ l h k, sp_linside l h k → W_l_inside sp_lbody sp_lended (en k) (ev0 N_l_inside l) h := by
  rintro l h k ⟨pg, inputs, steps, L, S, B, f, fs, a, z, i, h0, rfl, R, E, hf, hz, p1, p2⟩
  have hb : h L.b = some (.dK (mK pg inputs steps L S.used (enD S.en))) := R.b
  have ho := R.op
  obtain ⟨t, v, fs', hL, _⟩ := R.lay hf
  have ht : h t = some (.dK (heK f.pr.name f.label f.at_ f.res v)) := (R.top hL hf).1
  rw [hL, refs_cons] at ho
  have FO := E.st.fr f (by rw [hf]; exact List.mem_cons_self)
  obtain ⟨b, hbk, _⟩ := FO.blk
  obtain ⟨ca, g1, g2, _⟩ := R.cell hz (E.st.cl.nd E.ok)
  simp [W_l_inside, ev0, dg_dK hb, mK_cells, dg_dK R.ce, g1, g2]
  split
  · rename_i c; exact en_rt (p1 c _ R)
  · rename_i c
    simp [dg_dK hb, mK_open, ho, atI_neg, dg_dK ht, heK_at]
    refine body_at R E.ok E.st hf hL hbk fun h1 R1 => ?_
    have hb1 : h1 L.b = some (.dK (mK pg inputs steps L S.used (enD S.en))) := R1.b
    have ht1 : h1 t = some (.dK (heK f.pr.name f.label f.at_ f.res v)) := (R1.top hL hf).1
    have hil := E.st.il
    have hsm := E.small
    have fin : ∀ pl : Int, pl = place f → sp_lended [.ref L.b, .tup [.str "index", .str f.pr.name, .int f.label, .int pl]] h1 fun _ h2 => (en k).rt (.bl false) h2 := by
      rintro pl rfl
      refine ⟨pg, inputs, steps, L, S, "index", [.inr f.pr.name, .inl f.label, .inl (place f)], h0, rfl, by decide +kernel, R1, by omega, fun h' R' => ?_⟩
      have e : Rn.end_ S "index" [.inr f.pr.name, .inl f.label, .inl (place f)] = S.fin (idxK f) := by
        unfold Rn.end_; rw [if_pos (by simp [endWords])]; rfl
      rw [e] at R'
      exact en_rt (p2 c _ R')
    unfold place bodyOf at fin
    rw [hbk] at fin
    simp [Bk.toD]
    split
    · rename_i c2
      rw [if_pos c2] at fin
      simp [dg_dK ht1, heK_at, heK_name, heK_label]
      exact fin _ rfl
    · rename_i c2
      rw [if_neg c2] at fin
      simp [dg_dK ht1, heK_at, heK_name, heK_label]
      exact fin _ rfl
theorem cut2 {x y : D} : T3.cutD [x, y] (some 1) none = [y] := cut_from (i := 1) (n := 1) rfl
theorem cut3 {x y z : D} : T3.cutD [x, y, z] (some 1) none = [y, z] := cut_from (i := 1) (n := 1) rfl
theorem isTup {e : Ex} {h : H3} {k : K1} : T3.rIsi .tuple e.toD h k ↔ k (.bl true) h := by cases e <;> simp [Ex.toD, T3.rIsi, D.isTy]
theorem isTupS {x : Str} {h : H3} {k : K1} : T3.rIsi .tuple (.str x) h k ↔ k (.bl false) h := by simp [T3.rIsi, D.isTy]
def sp_lvalue (m : Nat) : Sp3 := fun l h k => ∃ (pg : Pg) (inputs : List Int) (steps : Nat) (L : Lay) (S : Rn) (B : Nat) (f : P04.Fr) (fs : List P04.Fr) (e : Ex) (h0 : H3), l = [.ref L.b, e.toD] ∧
  RunAt (κL pg inputs steps) h0 h L S ∧ Env4 pg inputs steps B S ∧ S.frames = f :: fs ∧ e.Wf (p2 pg.w) pg.arrays m ∧
  ∀ h', RunAt (κL pg inputs steps) h0 h' L (aft S f (val pg.w S.cells f.vars e)) → k (optD (val pg.w S.cells f.vars e)) h'
theorem ok_l_value (m : Nat) : ∀ l h k, sp_lvalue (m + 1) l h k → W_l_value (sp_lvalue m) sp_linside sp_compute (en k) (ev0 N_l_value l) h := by
  rintro l h k ⟨pg, inputs, steps, L, S, B, f, fs, e, h0, rfl, R, E, hf, hw, post⟩
  have hb : h L.b = some (.dK (mK pg inputs steps L S.used (enD S.en))) := R.b
  have ho := R.op
  obtain ⟨t, v, fs', hL, _⟩ := R.lay hf
  obtain ⟨ht, hv⟩ := R.top hL hf
  have ht : h t = some (.dK (heK f.pr.name f.label f.at_ f.res v)) := ht
  rw [hL, refs_cons] at ho
  have FO := E.st.fr f (by rw [hf]; exact List.mem_cons_self)
  cases e with
  | int n =>
    simp [W_l_value, ev0, Ex.toD, val, optD, aft] at post ⊢
    exact en_rt (post _ R)
  | var x =>
    simp [W_l_value, ev0, Ex.toD, val, optD, aft, wDGet2, dg_dK hb, mK_open, ho, atI_neg, dg_dK ht, heK_words] at post ⊢
    refine ⟨.inl ⟨_, hv⟩, _, (dg_dK hv).mpr ⟨_, rfl, rfl⟩, ?_⟩
    rw [(FO.vr.get p2_pos x).1]
    exact en_rt (post _ R)
  | cell a i =>
    simp [W_l_value, ev0, Ex.toD]
    intro p np
    have n0 := R.ow.sub.none np
    have R0 := R.keep (o := .lst []) np
    rw [cut3]
    simp [forW, isTupS, isTup]
    refine ⟨_, Sub.refl _, pg, inputs, steps, L, S, B, f, fs, i, _, rfl, R0, E, hf, hw.2, fun h1 R1 => ?_⟩
    obtain ⟨l, hl⟩ := E.st.cl.has hw.1
    have s0 := (Sub.refl h0).up (o := .lst []) n0
    cases hv1 : val pg.w S.cells f.vars i with
    | none =>
      simp [val, hv1, optD, aft] at post R1 ⊢
      exact en_rt (post _ (R1.less s0))
    | some x =>
      have hx := val_range E.ok E.st.cl FO.vr hw.2 hv1
      simp [val, hv1, hl, optD, aft] at post R1 ⊢
      have hp1 : h1 p = some (.lst []) := R1.ow.sub _ _ up_same
      have R2 := R1.alter (o' := .lst [.int x])
      simp [wAppend, hp1]
      refine ⟨_, Sub.refl _, ?_⟩
      simp
      refine ⟨pg, inputs, steps, L, S, B, f, fs, a, l, x, _, rfl, R2, E, hf, hl, fun c h2 R3 => ?_, fun c h2 R3 => ?_⟩
      · have hb2 : h2 L.b = some (.dK (mK pg inputs steps L S.used (enD S.en))) := R3.b
        have hp2 : h2 p = some (.lst [.int x]) := R3.ow.sub _ _ up_same
        obtain ⟨ca, g1, g2, _⟩ := R3.cell hl (E.st.cl.nd E.ok)
        have hlt : x.toNat < l.length := by omega
        rw [List.getElem?_eq_getElem hlt] at post
        have hat : atI (l.map D.int) x = some (.int l[x.toNat]) := by
          rw [atI_pos hx.1 (by simpa using c)]; simp
        simp [dg_dK hb2, mK_cells, dg_dK R3.ce, g1, hp2, g2, hat]
        exact en_rt (post _ (R3.less ((Sub.refl h0).up n0)))
      · rw [List.getElem?_eq_none (by omega)] at post
        simp at post ⊢
        exact en_rt (post _ (R3.less ((Sub.refl h0).up n0)))
  | one o x =>
    obtain ⟨n1, n2, n3⟩ := op_words (.inr hw.1)
    simp [W_l_value, ev0, Ex.toD, n1, n2, n3]
    intro p np
    have n0 := R.ow.sub.none np
    have R0 := R.keep (o := .lst []) np
    rw [cut2]
    simp [forW, isTup]
    refine ⟨pg, inputs, steps, L, S, B, f, fs, x, _, rfl, R0, E, hf, hw.2, fun h1 R1 => ?_⟩
    have s0 := fun o => (Sub.refl h0).up (o := o) n0
    cases hv1 : val pg.w S.cells f.vars x with
    | none =>
      simp [val, hv1, optD, aft] at post R1 ⊢
      exact en_rt (post _ (R1.less (s0 _)))
    | some y =>
      have hx := val_range E.ok E.st.cl FO.vr hw.2 hv1
      simp [val, hv1, optD, aft] at post R1 ⊢
      have hp1 : h1 p = some (.lst []) := R1.ow.sub _ _ up_same
      have R2 := R1.alter (o' := .lst [.int y])
      have hb2 : (up h1 p (.lst [.int y])) L.b = some (.dK (mK pg inputs steps L S.used (enD S.en))) := R2.b
      simp [wAppend, hp1]
      refine ⟨_, Sub.refl _, ?_⟩
      simp [n3, dg_dK hb2, mK_program, Pg.toD]
      intro q nq
      have nqp : p ≠ q := fun z => by subst z; rw [up_same] at nq; cases nq
      refine ⟨[.int y], by rw [up_ne nqp]; exact up_same, by simp, fun r nr => ?_⟩
      simp
      have R3 := (R2.more ((Sub.refl _).up (o := .lst [.int 0]) nq)).more ((Sub.refl _).up (o := .lst ([.int y] ++ [.int 0])) nr)
      exact ⟨o, pg.w, y, 0, rfl, .inr hw.1, E.ok.w1, E.ok.w2, hx, ⟨Int.le_refl _, p2_pos⟩, en_rt (post _ (R3.less (s0 _)))⟩
  | two o x y =>
    obtain ⟨n1, n2, n3⟩ := op_words (.inl hw.1)
    simp [W_l_value, ev0, Ex.toD, n1, n2, n3]
    intro p np
    have n0 := R.ow.sub.none np
    have R0 := R.keep (o := .lst []) np
    rw [cut3]
    simp [forW, isTup]
    refine ⟨pg, inputs, steps, L, S, B, f, fs, x, _, rfl, R0, E, hf, hw.2.1, fun h1 R1 => ?_⟩
    have s0 := fun o => (Sub.refl h0).up (o := o) n0
    cases hv1 : val pg.w S.cells f.vars x with
    | none =>
      simp [val, hv1, optD, aft] at post R1 ⊢
      exact en_rt (post _ (R1.less (s0 _)))
    | some a =>
      have hx := val_range E.ok E.st.cl FO.vr hw.2.1 hv1
      simp [val, hv1, optD, aft] at post R1 ⊢
      have hp1 : h1 p = some (.lst []) := R1.ow.sub _ _ up_same
      have R2 := R1.alter (o' := .lst [.int a])
      simp [wAppend, hp1]
      refine ⟨_, Sub.refl _, pg, inputs, steps, L, S, B, f, fs, y, _, rfl, R2, E, hf, hw.2.2, fun h2 R3 => ?_⟩
      cases hv2 : val pg.w S.cells f.vars y with
      | none =>
        simp [hv2, optD, aft] at post R3 ⊢
        exact en_rt (post _ (R3.less (s0 _)))
      | some c =>
        have hy := val_range E.ok E.st.cl FO.vr hw.2.2 hv2
        simp [hv2, optD, aft] at post R3 ⊢
        have hp2 : h2 p = some (.lst [.int a]) := R3.ow.sub _ _ up_same
        have R4 := R3.alter (o' := .lst [.int a, .int c])
        have hb4 : (up h2 p (.lst [.int a, .int c])) L.b = some (.dK (mK pg inputs steps L S.used (enD S.en))) := R4.b
        simp [wAppend, hp2]
        refine ⟨_, Sub.refl _, ?_⟩
        simp [n3, dg_dK hb4, mK_program, Pg.toD]
        intro q nq
        have nqp : p ≠ q := fun z => by subst z; rw [up_same] at nq; cases nq
        refine ⟨[.int a, .int c], by rw [up_ne nqp]; exact up_same, by simp, fun r nr => ?_⟩
        simp
        have R5 := (R4.more ((Sub.refl _).up (o := .lst [.int 0]) nq)).more ((Sub.refl _).up (o := .lst ([.int a, .int c] ++ [.int 0])) nr)
        exact ⟨o, pg.w, a, c, rfl, .inl hw.1, E.ok.w1, E.ok.w2, hx, hy, en_rt (post _ (R5.less (s0 _)))⟩
end Lk04
end
-- G4N
section
set_option maxRecDepth 100000
set_option maxHeartbeats 4000000
/-! G4N: the law's own walk: statements. -/
namespace T3
open PySem L2
theorem take_at {inputs : List Int} {u : Nat} : atI (inputs.map D.int ++ List.replicate (u + 1) (D.int 0)) (u : Int) = some (.int (inputs.getD u 0)) := by
  refine atI_nat ?_
  by_cases h : u < inputs.length
  · rw [List.getElem?_append_left (by simpa using h)]
    simp [List.getD_eq_getElem?_getD, h]
  · rw [List.getElem?_append_right (by simp; omega)]
    rw [List.getElem?_replicate, if_pos (by simp; omega)]
    simp [List.getD_eq_getElem?_getD, List.getElem?_eq_none (show inputs.length ≤ u by omega)]
end T3
namespace Lk04
open PySem PySem.Spec PyProof.Rows L2 T3 P04
/-- a statement of the top frame: what it leaves -/
def sp_lstm (P : Sm → Prop) : Sp3 := fun l h k => ∃ (pg : Pg) (inputs : List Int) (steps : Nat) (L : Lay) (S : Rn) (B : Nat) (f : P04.Fr) (fs : List P04.Fr) (s : Sm) (c : Bk) (a v : Addr) (fs' : List (Addr × Addr)) (h0 : H3), l = [.ref L.b, .ref a, s.toD] ∧ P s ∧
  RunAt (κL pg inputs steps) h0 h L S ∧ Env4 pg inputs steps B S ∧ S.frames = f :: fs ∧ L.fs = (a, v) :: fs' ∧ blkOf f.pr f.label = some c ∧ c.body[f.at_]? = some s ∧
  ∀ L' h', L'.b = L.b → RunAt (κL pg inputs steps) h0 h' L' (doSm false pg inputs steps S f fs s) → k .non h'
theorem ok_l_done : ∀ l h k, sp_lstm (fun s => ¬ ∃ v p es, s = .call v p es) l h k → W_l_done (sp_lvalue 5) sp_linside sp_lended (en k) (ev0 N_l_done l) h := by
  rintro l h k ⟨pg, inputs, steps, L, S, B, f, fs, s, c, a, v, fs', h0, rfl, hnc, R, E, hf, hL, hc, hs, post⟩
  have FO := E.st.fr f (by rw [hf]; exact List.mem_cons_self)
  have sw := (E.ok.each _ FO.pr).sms c (blkOf_mem hc).1 _ (List.mem_of_getElem? hs)
  have hb : h L.b = some (.dK (mK pg inputs steps L S.used (enD S.en))) := R.b
  obtain ⟨ht, hv⟩ := R.top hL hf
  have ht : h a = some (.dK (heK f.pr.name f.label f.at_ f.res v)) := ht
  have N := R.net hL hf
  have hwl := E.st.wl
  have hsm := E.small
  have hvl := FO.len
  have hil := E.st.il
  have hul := E.st.ul
  have hinl := E.inl
  cases s with
  | call vr p es => exact absurd ⟨vr, p, es, rfl⟩ hnc
  | take vr =>
    simp [W_l_done, ev0, Sm.toD, wDPut, dg_dK hb, mK_inputs]
    intro p1 n1
    have R1 := R.more ((Sub.refl h).up (o := .lst (inputs.map .int)) n1)
    intro p2 n2
    have R2 := R1.more ((Sub.refl _).up (o := .lst [.int 0]) n2)
    have hb2 : (up (up h p1 (.lst (inputs.map .int))) p2 (.lst [.int 0])) L.b = some (.dK (mK pg inputs steps L S.used (enD S.en))) := R2.b
    simp [dg_dK hb2, mK_used]
    refine ⟨by omega, by omega, by omega, fun p3 n3 => ?_⟩
    have R3 := R2.more ((Sub.refl _).up (o := .lst (List.replicate (S.used + 1) (.int 0))) n3)
    have hp1 : (up (up (up h p1 (.lst (inputs.map .int))) p2 (.lst [.int 0])) p3 (.lst (List.replicate (S.used + 1) (.int 0)))) p1 = some (.lst (inputs.map .int)) :=
      ((Sub.refl _).up n3) _ _ (((Sub.refl _).up n2) _ _ up_same)
    refine ⟨_, hp1, by simp; omega, fun p4 n4 => ?_⟩
    have R4 := R3.more ((Sub.refl _).up (o := .lst (inputs.map .int ++ List.replicate (S.used + 1) (.int 0))) n4)
    have hb4 : (up (up (up (up h p1 (.lst (inputs.map .int))) p2 (.lst [.int 0])) p3 (.lst (List.replicate (S.used + 1) (.int 0)))) p4 (.lst (inputs.map .int ++ List.replicate (S.used + 1) (.int 0)))) L.b = some (.dK (mK pg inputs steps L S.used (enD S.en))) := R4.b
    obtain ⟨ht4, hv4⟩ := R4.top hL hf
    generalize hH : (up (up (up (up h p1 (.lst (inputs.map .int))) p2 (.lst [.int 0])) p3 (.lst (List.replicate (S.used + 1) (.int 0)))) p4 (.lst (inputs.map .int ++ List.replicate (S.used + 1) (.int 0)))) = H4 at R4 hb4 ht4 hv4 ⊢
    have hp4 : H4 p4 = some (.lst (inputs.map .int ++ List.replicate (S.used + 1) (.int 0))) := by rw [← hH]; exact up_same
    have ht4 : H4 a = some (.dK (heK f.pr.name f.label f.at_ f.res v)) := ht4
    simp [dg_dK hb4, mK_used, hp4, take_at, dg_dK ht4, heK_words]
    refine ⟨_, dpt_K (q := .inl vr) hv4 rfl (by omega), ?_⟩
    have R5 := R4.setVars hL hf (putD f.vars (.inl vr) (.int (inputs.getD S.used 0)))
    have hb5 : ∀ o, (up H4 v o) L.b = some (.dK (mK pg inputs steps L S.used (enD S.en))) := fun o => by rw [up_ne N.vb.symm]; exact hb4
    simp [dg_dK (hb5 _), mK_used]
    refine ⟨_, dpt_K (q := .inr "used") (hb5 _) rfl (by simp [mK]), ?_⟩
    rw [mK_putU]
    have R6 := R5.setB (S.used + 1) S.en
    have ht6 : ∀ o o', (up (up H4 v o) L.b o') a = some (.dK (heK f.pr.name f.label f.at_ f.res v)) := fun o o' => by rw [up_ne N.ab, up_ne N.av]; exact ht4
    simp [dg_dK (ht6 _ _), heK_at]
    refine ⟨_, dpt_K (q := .inr "at") (ht6 _ _) rfl (by simp [heK]), ?_⟩
    rw [heK_putA]
    have R7 := R6.setTop hL rfl (P04.bump (P04.put f vr (inputs.getD S.used 0))) rfl
    refine en_rt (post L _ rfl ?_)
    simp only [doSm]
    simpa [κL, P04.bump, P04.put] using R7
  | store nm e1 e2 =>
    obtain ⟨l, hl⟩ := E.st.cl.has sw.1
    simp [W_l_done, ev0, Sm.toD]
    refine ⟨pg, inputs, steps, L, S, B, f, fs, e1, h0, rfl, R, E, hf, sw.2.1, fun h1 R1 => ?_⟩
    have bad : ({ S.fin (idxK f) with frames := f :: fs } : Rn) = S.fin (idxK f) := by
      show ({ S.fin (idxK f) with frames := f :: fs } : Rn) = { S.fin (idxK f) with frames := (S.fin (idxK f)).frames }
      rw [show (S.fin (idxK f)).frames = f :: fs from hf]
    cases hv1 : val pg.w S.cells f.vars e1 with
    | none =>
      simp [hv1, optD, aft] at R1 ⊢
      refine en_rt (post L _ rfl ?_)
      simp only [doSm, hv1]
      simpa [bad] using R1
    | some i =>
      have hi := val_range E.ok E.st.cl FO.vr sw.2.1 hv1
      simp [hv1, optD, aft] at R1 ⊢
      refine ⟨pg, inputs, steps, L, S, B, f, fs, e2, h0, rfl, R1, E, hf, sw.2.2, fun h2 R2 => ?_⟩
      cases hv2 : val pg.w S.cells f.vars e2 with
      | none =>
        simp [hv2, optD, aft] at R2 ⊢
        refine en_rt (post L _ rfl ?_)
        simp only [doSm, hv1, hv2]
        simpa [bad] using R2
      | some x =>
        simp [hv2, optD, aft] at R2 ⊢
        refine ⟨pg, inputs, steps, L, S, B, f, fs, nm, l, i, h0, rfl, R2, E, hf, hl, fun c h3 R3 => ?_, fun c h3 R3 => ?_⟩
        · have hb3 : h3 L.b = some (.dK (mK pg inputs steps L S.used (enD S.en))) := R3.b
          obtain ⟨ca, g1, g2, g3⟩ := R3.cell hl (E.st.cl.nd E.ok)
          have hix : ixN l.length i = some i.toNat := by
            unfold ixN; rw [if_pos hi.1, if_pos (by omega)]
          have R4 := g3 i.toNat x
          obtain ⟨ht4, _⟩ := R4.top hL hf
          have ht4 : (up h3 ca (.lst ((l.map D.int).set i.toNat (.int x)))) a = some (.dK (heK f.pr.name f.label f.at_ f.res v)) := ht4
          simp [dg_dK hb3, mK_cells, dg_dK R3.ce, g1, g2, hix, wDPut]
          simp [dg_dK ht4, heK_at]
          refine ⟨_, dpt_K (q := .inr "at") ht4 rfl (by simp [heK]), ?_⟩
          rw [heK_putA]
          have R5 := R4.setTop hL hf (P04.bump f) rfl
          refine en_rt (post L _ rfl ?_)
          simp only [doSm, hv1, hv2, hl]
          rw [if_pos (by omega)]
          simpa [κL, P04.bump] using R5
        · simp
          refine en_rt (post L _ rfl ?_)
          simp only [doSm, hv1, hv2, hl]
          rw [if_neg (by omega)]
          simpa [bad] using R3
  | set vr e =>
    simp [W_l_done, ev0, Sm.toD]
    refine ⟨pg, inputs, steps, L, S, B, f, fs, e, h0, rfl, R, E, hf, sw.2, fun h1 R1 => ?_⟩
    simp only [doSm] at post
    cases hv1 : val pg.w S.cells f.vars e with
    | none =>
      simp [hv1, optD, aft] at post R1 ⊢
      exact en_rt (post L _ rfl R1)
    | some x =>
      simp [hv1, optD, aft] at post R1 ⊢
      obtain ⟨ht1, hvv⟩ := R1.top hL hf
      have ht1 : h1 a = some (.dK (heK f.pr.name f.label f.at_ f.res v)) := ht1
      have ht2 : ∀ o, (up h1 v o) a = some (.dK (heK f.pr.name f.label f.at_ f.res v)) := fun o => by rw [up_ne N.av]; exact ht1
      simp [wDPut, dg_dK ht1, heK_words]
      refine ⟨_, dpt_K (q := .inl vr) hvv rfl (by omega), ?_⟩
      simp [dg_dK (ht2 _), heK_at]
      refine ⟨_, dpt_K (q := .inr "at") (ht2 _) rfl (by simp [heK]), ?_⟩
      rw [heK_putA]
      have R2 := R1.setVars hL hf (putD f.vars (.inl vr) (.int x))
      have R3 := R2.setTop hL rfl (P04.bump (P04.put f vr x)) rfl
      refine en_rt (post L _ rfl ?_)
      simpa [κL, P04.bump, P04.put] using R3
  | put e =>
    simp [W_l_done, ev0, Sm.toD]
    refine ⟨pg, inputs, steps, L, S, B, f, fs, e, h0, rfl, R, E, hf, sw, fun h1 R1 => ?_⟩
    simp only [doSm] at post
    cases hv1 : val pg.w S.cells f.vars e with
    | none =>
      simp [hv1, optD, aft] at post R1 ⊢
      exact en_rt (post L _ rfl R1)
    | some x =>
      simp [hv1, optD, aft] at post R1 ⊢
      obtain ⟨ht1, hvv⟩ := R1.top hL hf
      have ht1 : h1 a = some (.dK (heK f.pr.name f.label f.at_ f.res v)) := ht1
      have hb1 : h1 L.b = some (.dK (mK pg inputs steps L S.used (enD S.en))) := R1.b
      have hw1 := R1.wr
      have ht2 : ∀ o, (up h1 L.wr o) a = some (.dK (heK f.pr.name f.label f.at_ f.res v)) := fun o => by rw [up_ne N.awr]; exact ht1
      simp [wAppend, dg_dK hb1, mK_writes, hw1, wDPut]
      refine ⟨by omega, ?_⟩
      simp [dg_dK (ht2 _), heK_at]
      refine ⟨_, dpt_K (q := .inr "at") (ht2 _) rfl (by simp [heK]), ?_⟩
      rw [heK_putA]
      have R2 := R1.setWr (S.writes ++ [x])
      have R3 := R2.setTop hL hf (P04.bump f) rfl
      refine en_rt (post L _ rfl ?_)
      simpa [κL, P04.bump] using R3
  | assert i e =>
    simp [W_l_done, ev0, Sm.toD]
    refine ⟨pg, inputs, steps, L, S, B, f, fs, e, h0, rfl, R, E, hf, sw.2, fun h1 R1 => ?_⟩
    simp only [doSm] at post
    cases hv1 : val pg.w S.cells f.vars e with
    | none =>
      simp [hv1, optD, aft] at post R1 ⊢
      exact en_rt (post L _ rfl R1)
    | some x =>
      simp [hv1, optD, aft] at post R1 ⊢
      split
      · rename_i hx0
        rw [if_pos hx0] at post
        refine ⟨pg, inputs, steps, L, S, "broken", [.inl i], h0, rfl, by decide +kernel, R1, by omega, fun h2 R2 => ?_⟩
        have e : Rn.end_ S "broken" [.inl i] = S.fin (brokenK i) := by
          unfold Rn.end_; rw [if_pos (by simp [endWords])]; rfl
        rw [e] at R2
        refine en_rt (post L _ rfl ?_)
        have ef : ({ S.fin (brokenK i) with frames := f :: fs } : Rn) = S.fin (brokenK i) := by
          show ({ S.fin (brokenK i) with frames := f :: fs } : Rn) = { S.fin (brokenK i) with frames := (S.fin (brokenK i)).frames }
          rw [show (S.fin (brokenK i)).frames = f :: fs from hf]
        rw [ef]; exact R2
      · rename_i hx0
        rw [if_neg hx0] at post
        obtain ⟨ht1, hvv⟩ := R1.top hL hf
        have ht1 : h1 a = some (.dK (heK f.pr.name f.label f.at_ f.res v)) := ht1
        simp [wDPut, dg_dK ht1, heK_at]
        refine ⟨_, dpt_K (q := .inr "at") ht1 rfl (by simp [heK]), ?_⟩
        rw [heK_putA]
        have R3 := R1.setTop hL hf (P04.bump f) rfl
        refine en_rt (post L _ rfl ?_)
        simpa [κL, P04.bump] using R3
end Lk04
end
-- G4O
section
set_option maxRecDepth 100000
set_option maxHeartbeats 4000000
/-! G4O: the law's own walk: the end of a block. -/
namespace Lk04
open PySem PySem.Spec PyProof.Rows L2 T3 P04
def sp_lleft : Sp3 := fun l h k => ∃ (pg : Pg) (inputs : List Int) (steps : Nat) (L : Lay) (S : Rn) (B : Nat) (f : P04.Fr) (fs : List P04.Fr) (c : Bk) (a v : Addr) (fs' : List (Addr × Addr)) (h0 : H3), l = [.ref L.b, .ref a, c.nd.toD] ∧
  RunAt (κL pg inputs steps) h0 h L S ∧ Env4 pg inputs steps B S ∧ S.frames = f :: fs ∧ L.fs = (a, v) :: fs' ∧ blkOf f.pr f.label = some c ∧
  ∀ L' h', L'.b = L.b → RunAt (κL pg inputs steps) h0 h' L' (doNd false pg steps S f fs c.nd) → k .non h'
def W_goto : WS := (wSeq (wAsg (w2 rDGet (wVar 1) (wC (.str "label"))) (gN 5)) (wSeq (wDPut (wVar 4) (wVar 1) (wC (.str "label"))) (wSeq (wDPut (wC (.int 0)) (wVar 1) (wC (.str "at"))) (wIfS (wB (wL sp_lbegin (wCons (wVar 0) (wCons (wVar 1) (wNil))))) (wDrop (wAppend (w2 rDGet (wVar 0) (wC (.str "items"))) (wCons (wL rTup (wCons (wC (.str "edge")) (wCons (w2 rDGet (wVar 1) (wC (.str "name"))) (wCons (wVar 5) (wCons (wVar 4) (wNil)))))) (wNil)))) (wNext)))))
/-- the law goes to another block -/
theorem l_goto {pg : Pg} {inputs : List Int} {steps : Nat} {L : Lay} {S : Rn} {B : Nat} {f : P04.Fr} {fs : List P04.Fr} {a v : Addr} {fs' : List (Addr × Addr)} {h0 h : H3} {k : K1} {lb : Int} {x : Option D} {e : D}
    (R : RunAt (κL pg inputs steps) h0 h L S) (E : Env4 pg inputs steps B S) (hf : S.frames = f :: fs) (hL : L.fs = (a, v) :: fs')
    (post : ∀ h', RunAt (κL pg inputs steps) h0 h' L (goTo false steps S f fs lb) → k .non h') :
    W_goto (en k)
      [some (.ref L.b), some (.ref a), some e, x, some (.int lb), none] h := by
  have hb : h L.b = some (.dK (mK pg inputs steps L S.used (enD S.en))) := R.b
  obtain ⟨ht, hv⟩ := R.top hL hf
  have ht : h a = some (.dK (heK f.pr.name f.label f.at_ f.res v)) := ht
  have N := R.net hL hf
  have hpl := E.st.pl
  have hfew := E.few
  have hil := E.st.il
  have hsm := E.small
  simp [W_goto, dg_dK ht, heK_label, wDPut]
  refine ⟨_, dpt_K (q := .inr "label") ht rfl (by simp [heK]), ?_⟩
  rw [heK_putL]
  refine ⟨_, dpt_K (q := .inr "at") up_same rfl (by simp [heK]), ?_⟩
  rw [heK_putA, up_up]
  have R2 := R.setTop hL hf { f with label := lb, at_ := 0 } rfl
  have ht2 : (up h a (.dK (heK f.pr.name lb 0 f.res v))) a = some (.dK (heK f.pr.name lb 0 f.res v)) := up_same
  refine ⟨pg, inputs, steps, L, { S with frames := { f with label := lb, at_ := 0 } :: fs }, a, heK f.pr.name lb 0 f.res v, f.pr.name, lb, h0, rfl, R2, ht2, heK_name, heK_label, N.apa, N.ait, by show S.path.length ≤ 1000; omega, by show S.items.length ≤ 300000; omega, fun c1 h' R' => ?_, fun c1 h' R' => ?_⟩
  · simp
    refine en_rt (post h' ?_)
    unfold goTo
    rw [if_pos c1]
    exact R'
  · have hb' : h' L.b = some (.dK (mK pg inputs steps L S.used (enD S.en))) := R'.b
    have hi' : h' L.it = some (.lst ((S.items ++ [blockK f.pr.name lb]).map dOf)) := R'.it
    obtain ⟨ht', _⟩ := R'.top hL rfl
    have ht' : h' a = some (.dK (heK f.pr.name lb 0 f.res v)) := ht'
    have R3 := R'.setIt (S.items ++ [blockK f.pr.name lb] ++ [edgeK f.pr.name f.label lb])
    rw [so_snoc] at R3
    simp [wAppend, dg_dK hb', mK_items, hi', dg_dK ht', heK_name]
    refine ⟨by omega, en_rt (post _ ?_)⟩
    unfold goTo
    rw [if_neg c1]
    simpa [edgeK, dOf, kD] using R3
theorem ok_l_left : ∀ l h k, sp_lleft l h k → W_l_left (sp_lvalue 5) sp_lended sp_lbegin (en k) (ev0 N_l_left l) h := by
  rintro l h k ⟨pg, inputs, steps, L, S, B, f, fs, c, a, v, fs', h0, rfl, R, E, hf, hL, hc, post⟩
  have FO := E.st.fr f (by rw [hf]; exact List.mem_cons_self)
  have sw := (E.ok.each _ FO.pr).nds c (blkOf_mem hc).1
  have hil := E.st.il
  have hsm := E.small
  generalize hN : c.nd = Nn at sw post ⊢
  unfold W_l_left
  rw [show (wSeq (wAsg (w2 rDGet (wVar 1) (wC (.str "label"))) (gN 5)) _) = W_goto from rfl]
  cases Nn with
  | go lb =>
    simp [ev0, Nd.toD]
    exact l_goto R E hf hL fun h' R' => post L h' rfl R'
  | iff e l1 l2 =>
    simp [ev0, Nd.toD]
    refine ⟨pg, inputs, steps, L, S, B, f, fs, e, h0, rfl, R, E, hf, sw.1, fun h1 R1 => ?_⟩
    simp only [doNd] at post
    cases hv1 : val pg.w S.cells f.vars e with
    | none =>
      simp [hv1, optD, aft] at post R1 ⊢
      exact en_rt (post L _ rfl R1)
    | some x =>
      simp [hv1, optD, aft] at post R1 ⊢
      split
      · rename_i hx
        rw [if_pos hx] at post
        exact l_goto R1 E hf hL fun h' R' => post L h' rfl R'
      · rename_i hx
        rw [if_neg hx] at post
        exact l_goto R1 E hf hL fun h' R' => post L h' rfl R'
  | ret e =>
    have N := R.net hL hf
    have ne := R.nes
    obtain ⟨fa, fv⟩ := R.freshTop hL hf
    simp [ev0, Nd.toD]
    refine ⟨pg, inputs, steps, L, S, B, f, fs, e, h0, rfl, R, E, hf, sw, fun h1 R1 => ?_⟩
    simp only [doNd] at post
    cases hv1 : val pg.w S.cells f.vars e with
    | none =>
      simp [hv1, optD, aft] at post R1 ⊢
      exact en_rt (post L _ rfl R1)
    | some x =>
      simp [hv1, optD, aft] at post R1 ⊢
      have hb1 : h1 L.b = some (.dK (mK pg inputs steps L S.used (enD S.en))) := R1.b
      have ho1 := R1.op
      rw [hL, refs_cons] at ho1
      obtain ⟨ht1, _⟩ := R1.top hL hf
      have ht1 : h1 a = some (.dK (heK f.pr.name f.label f.at_ f.res v)) := ht1
      have R2 := R1.pop hL hf
      have hlf := R1.lf
      rw [hL, hf] at hlf
      have less : ∀ {h' : H3} {L' : Lay} {S' : Rn}, RunAt (κL pg inputs steps) (up (up h0 a ((κL pg inputs steps).fo f.pr f.label f.at_ f.res v)) v (.dK f.vars)) h' L' S' → RunAt (κL pg inputs steps) h0 h' L' S' := fun R' =>
        R'.less (((Sub.refl h0).up fa).trans ((Sub.refl _).up (by rw [up_ne N.av.symm]; exact fv)))
      simp [wPop, dg_dK hb1, mK_open, ho1]
      have hb2 : (up h1 L.op (.lst (refs fs'))) L.b = some (.dK (mK pg inputs steps L S.used (enD S.en))) := R2.b
      simp [dg_dK hb2, mK_open]
      intro p np
      have R3 := R2.more ((Sub.refl _).up (o := .lst []) np)
      have ho3 : (up (up h1 L.op (.lst (refs fs'))) p (.lst [])) L.op = some (.lst (refs fs')) := R3.op
      have hb3 : (up (up h1 L.op (.lst (refs fs'))) p (.lst [])) L.b = some (.dK (mK pg inputs steps L S.used (enD S.en))) := R3.b
      have ha3 : (up (up h1 L.op (.lst (refs fs'))) p (.lst [])) a = some (.dK (heK f.pr.name f.label f.at_ f.res v)) := R3.ow.sub _ _ (by rw [up_ne N.av]; exact up_same)
      refine ⟨L.op, p, refs fs', rfl, rfl, ho3, up_same, ?_⟩
      cases fs with
      | nil =>
        have e0 : fs' = [] := List.length_eq_zero_iff.mp (by simpa using hlf)
        subst e0
        simp [refs]
        refine ⟨pg, inputs, steps, { L with fs := [] }, { S with frames := [] }, "return", [.inl x], _, rfl, by decide +kernel, R3, by show S.items.length ≤ _; omega, fun h' R' => ?_⟩
        have e : Rn.end_ { S with frames := [] } "return" [.inl x] = { S with frames := [], en := some [.inr "return", .inl x] } := by
          unfold Rn.end_; rw [if_neg (by simp [endWords])]
        rw [e] at R'
        exact en_rt (post { L with fs := [] } _ rfl (less R'))
      | cons g gs =>
        cases fs' with
        | nil => simp at hlf
        | cons av2 fs2 =>
          obtain ⟨a2, v2⟩ := av2
          obtain ⟨ht2, hv2⟩ := R3.top (a := a2) (v := v2) (fs := fs2) rfl rfl
          have hg := (E.st.fr g (by rw [hf]; exact List.mem_cons_of_mem _ List.mem_cons_self)).len
          have R4 := R3.setVars (a := a2) (v := v2) (fs := fs2) rfl rfl (putD g.vars (.inl f.res) (.int x))
          generalize hH : (up (up h1 L.op (.lst (refs ((a2, v2) :: fs2)))) p (.lst [])) = H3' at ho3 hb3 ha3 ht2 hv2 R4 ⊢
          have ht2 : H3' a2 = some (.dK (heK g.pr.name g.label g.at_ g.res v2)) := ht2
          rw [refs_cons] at ho3
          simp [refs_cons, wDPut, dg_dK hb3, mK_open, ho3, atI_neg, dg_dK ht2, heK_words, dg_dK ha3, heK_gives]
          exact ⟨_, dpt_K (q := .inl f.res) hv2 rfl (by omega), en_rt (post { L with fs := (a2, v2) :: fs2 } _ rfl (less R4))⟩
end Lk04
end
-- G4P
section
set_option maxRecDepth 100000
set_option maxHeartbeats 4000000
/-! G4P: the law's own walk: calls. -/
namespace Lk04
open PySem PySem.Spec PyProof.Rows L2 T3 P04
theorem first_of {pg : Pg} {n : Str} {q : Pr} (hq : procOf pg n = some q) : atI ((pg.procs.filter fun r => decide (r.name = n)).map Pr.toD) 0 = some q.toD := by
  rw [atI_lit, List.getElem?_map, head_filter hq]; rfl
theorem filt_toD {pg : Pg} {n : Str} : ((pg.procs.map Pr.toD).filter fun d => match d with | .tup (.str x :: _) => decide (x = n) | _ => false) = (pg.procs.filter fun r => decide (r.name = n)).map Pr.toD := by
  rw [List.filter_map]; rfl
theorem ok_l_called : ∀ l h k, sp_lstm (fun s => ∃ v p es, s = .call v p es) l h k → W_l_called (sp_lvalue 5) sp_lended sp_lbegin (en k) (ev0 N_l_called l) h := by
  rintro l h k ⟨pg, inputs, steps, L, S, B, f, fs, s, c, a, v, fs', h0, rfl, ⟨vr, p, es, rfl⟩, R, E, hf, hL, hc, hs, post⟩
  have FO := E.st.fr f (by rw [hf]; exact List.mem_cons_self)
  have sw := (E.ok.each _ FO.pr).sms c (blkOf_mem hc).1 _ (List.mem_of_getElem? hs)
  have hlt := (List.getElem?_eq_some_iff.mp hs).1
  have hln : es.length ≤ 3 := by
    obtain ⟨q0, hq0, eq0⟩ := List.mem_map.mp (show (p, (es.length : Int)) ∈ pns pg from sw.2.1)
    have h1 := (E.ok.each q0 hq0).prm
    have h2 := congrArg Prod.snd eq0
    simp only at h2; omega
  simp [W_l_called, ev0, wDNewK, Sm.toD]
  intro p0 np0
  have nh0 : h0 p0 = none := R.ow.sub.none np0
  refine ⟨by omega, ?_⟩
  refine for_inv (fun j ρ h' => ∃ xs x4 x5, ρ = [some (.ref L.b), some (.ref a), some (Sm.call vr p es).toD, some (.ref p0), x4, x5, none, none, none] ∧ RunAt (κL pg inputs steps) (up h0 p0 (.dK (argsFrom 0 xs))) h' L S ∧ vals pg.w S.cells f.vars (es.take j) = some xs)
    (fun _ _ _ _ _ => trivial) ⟨[], none, none, rfl, R.keep np0, by simp [vals]⟩ ?_ ?_
  · rintro j x ρ h1 hx ⟨xs, x4, x5, rfl, R1, hv⟩ N hN
    have hj : j < es.length := by
      have := (List.getElem?_eq_some_iff.mp hx).1
      simpa [rgD] using this
    have ex : x = .int j := by
      have := (List.getElem?_eq_some_iff.mp hx).2
      rw [← this]; simp [rgD]
    subst ex
    have hix : atI (es.map Ex.toD) (j : Int) = some es[j].toD := atI_nat (by simp [hj])
    have htk : es.take (j + 1) = es.take j ++ [es[j]] := by rw [List.take_succ_eq_append_getElem hj]
    have hlx := vals_len hv
    simp [Sm.toD, hix]
    refine ⟨pg, inputs, steps, L, S, B, f, fs, es[j], _, rfl, R1, E, hf, sw.2.2 _ (List.getElem_mem hj), fun h2 R2 => ?_⟩
    cases hv1 : val pg.w S.cells f.vars es[j] with
    | none =>
      simp [hv1, optD, aft] at R2 ⊢
      have e0 : vals pg.w S.cells f.vars es = none := by
        have e1 : vals pg.w S.cells f.vars (es.take (j + 1)) = none := by rw [htk, P04.vals_app, hv]; simp [vals, hv1]
        rw [← List.take_append_drop (j + 1) es, P04.vals_app, e1]
      have e2 : doSm false pg inputs steps S f fs (.call vr p es) = S.fin (idxK f) := by simp [doSm, e0]
      rw [e2] at post
      exact en_rt (post L _ rfl (R2.less ((Sub.refl h0).up nh0)))
    | some x =>
      simp [hv1, optD, aft] at R2 ⊢
      have hd2 : h2 p0 = some (.dK (argsFrom 0 xs)) := R2.ow.sub _ _ up_same
      have hlj : xs.length = j := by rw [hlx]; simp; omega
      simp [wDPut]
      refine ⟨_, dpt_K (q := .inl (j : Int)) hd2 rfl (by rw [args_len]; omega), hN _ _ ⟨xs ++ [x], _, _, rfl, ?_, ?_⟩⟩
      · rw [← args_put, hlj]
        exact R2.alter
      · rw [htk, P04.vals_app, hv]; simp [vals, hv1]
  · rintro ρ h1 ⟨xs, x4, x5, rfl, R1, hv⟩
    have hv : vals pg.w S.cells f.vars es = some xs := by simpa [rgD] using hv
    have hb1 : h1 L.b = some (.dK (mK pg inputs steps L S.used (enD S.en))) := R1.b
    have ho1 := R1.op
    obtain ⟨ht1, hv1⟩ := R1.top hL hf
    have ht1 : h1 a = some (.dK (heK f.pr.name f.label f.at_ f.res v)) := ht1
    have hlf := R1.lf
    have hrl : (refs L.fs).length = S.frames.length := by simp [refs, hlf]
    have hil := E.st.il
    have hsm := E.small
    have hfw := E.st.few
    simp [dg_dK hb1, mK_open, ho1, hrl]
    simp only [doSm, hv] at post
    split
    · rename_i h12
      have h12 : 12 ≤ S.frames.length := by omega
      rw [if_pos h12] at post
      simp [dg_dK ht1, heK_name, heK_label, heK_at]
      refine ⟨pg, inputs, steps, L, S, "deep", [.inr f.pr.name, .inl f.label, .inl f.at_], _, rfl, by decide +kernel, R1, by omega, fun h' R' => ?_⟩
      have e : Rn.end_ S "deep" [.inr f.pr.name, .inl f.label, .inl f.at_] = S.fin (deepK f) := by
        unfold Rn.end_ deepK; rw [if_pos (by simp [endWords])]
      rw [e] at R'
      exact en_rt (post L _ rfl (R'.less ((Sub.refl h0).up nh0)))
    · rename_i h12
      have h12 : ¬ 12 ≤ S.frames.length := by omega
      rw [if_neg h12] at post
      obtain ⟨q0, hq0, eq0⟩ := List.mem_map.mp (show (p, (es.length : Int)) ∈ pns pg from sw.2.1)
      obtain ⟨q, hq⟩ := procOf_has (n := p) ⟨q0, hq0, congrArg Prod.fst eq0⟩
      obtain ⟨mq, nq⟩ := procOf_mem hq
      have oq := E.ok.each q mq
      cases hbl : q.blocks with
      | nil => exact absurd hbl oq.ne
      | cons c0 cs =>
        simp only [hq, hbl] at post
        have R2 := R1.setTop hL hf (P04.bump f) rfl
        have N1 := R1.net hL hf
        simp [dg_dK ht1, heK_at, wDPut]
        refine ⟨_, dpt_K (q := .inr "at") ht1 rfl (by simp [heK]), ?_⟩
        rw [heK_putA]
        have R2' : RunAt (κL pg inputs steps) (up h0 p0 (.dK (argsFrom 0 xs))) (up h1 a (.dK (heK f.pr.name f.label (f.at_ + 1) f.res v))) L { S with frames := P04.bump f :: fs } := by
          simpa [κL, P04.bump] using R2
        generalize (up h1 a (.dK (heK f.pr.name f.label (f.at_ + 1) f.res v))) = h2 at R2' ⊢
        have hb2 : h2 L.b = some (.dK (mK pg inputs steps L S.used (enD S.en))) := R2'.b
        have few := E.ok.pf
        simp [dg_dK hb2, mK_program, Pg.toD, Sm.toD]
        intro t nt
        refine lc_pure (fun d => match d with | .tup (.str n :: _) => decide (n = p) | _ => false) (fun d => d) (by simp; omega) (fun _ _ _ => trivial) ?_ ?_ ?_
        · intro x hx o h3 s1 K hK
          obtain ⟨r, hr, rfl⟩ := List.mem_map.mp hx
          simp [Pr.toD]
          exact hK _ (Sub.refl _)
        · intro x hx _ o h3 s1 K hK
          simp
          exact hK _ (Sub.refl _)
        · simp only [List.map_id', filt_toD]
          simp only [s_c, s_w2, s_ix_l]
          refine ⟨_, _, up_same, first_of hq, ?_⟩
          have R3 := R2'.more ((Sub.refl _).up (o := .lst ((pg.procs.filter fun r => decide (r.name = p)).map Pr.toD)) nt)
          generalize (up h2 t (.lst ((pg.procs.filter fun r => decide (r.name = p)).map Pr.toD))) = h3 at R3 ⊢
          simp [Pr.toD, hbl, Bk.toD]
          simp [wDisp, wPairs]
          intro x nx
          refine ⟨_, rfl, by simp, ?_⟩
          have em : mergeD [] [((.inr "name" : Key), D.str p), (.inr "label", D.int c0.label), (.inr "at", D.int 0), (.inr "words", D.ref p0), (.inr "gives", D.int vr)] = heK p c0.label 0 vr p0 := by
            simp [mergeD, putD, heK]
          rw [em]
          have hx0 : (up h0 p0 (.dK (argsFrom 0 xs))) x = none := R3.ow.sub.none nx
          have hxp : x ≠ p0 := fun z => by subst z; rw [up_same] at hx0; cases hx0
          have hx00 : h0 x = none := by rw [up_ne hxp] at hx0; exact hx0
          have R4 := R3.keep (p := x) (o := .dK (heK p c0.label 0 vr p0)) nx
          obtain ⟨y1, y2, y3, y4, y5, y6⟩ := R4.apart up_same
          have hpl := E.st.pl
          have hfew := E.few
          refine ⟨pg, inputs, steps, L, { S with frames := P04.bump f :: fs }, x, _, p, c0.label, _, rfl, R4, up_same, heK_name, heK_label, y3, y4, by show S.path.length ≤ 1000; omega, by show S.items.length ≤ 300000; omega, fun c1 h' R' => ?_, fun c1 h' R' => ?_⟩
          · simp
            refine en_rt (post L _ rfl ?_)
            unfold enter
            rw [if_pos c1]
            exact R'.less (((Sub.refl h0).up nh0).trans ((Sub.refl _).up hx0))
          · have hb5 : h' L.b = some (.dK (mK pg inputs steps L S.used (enD S.en))) := R'.b
            have ho5 := R'.op
            simp [wAppend, dg_dK hb5, mK_open, ho5]
            have efo : (κL pg inputs steps).fo q c0.label 0 vr p0 = .dK (heK p c0.label 0 vr p0) := by rw [← nq]; rfl
            have R5 := RunAt.push (κ := κL pg inputs steps) (h := h') (L := L) (f := { pr := q, label := c0.label, at_ := 0, vars := argsFrom 0 xs, res := vr }) (v := p0) (a := x) (h0 := h0) (S := { { S with frames := P04.bump f :: fs } with path := S.path ++ [(p, c0.label)], items := S.items ++ [blockK p c0.label] }) (by rw [efo]; exact R') nh0 hx00 hxp
            refine ⟨by omega, en_rt (post { L with fs := (x, p0) :: L.fs } _ rfl ?_)⟩
            unfold enter
            rw [if_neg c1]
            simpa [nq] using R5
end Lk04
end
-- G4Q
section
set_option maxRecDepth 100000
set_option maxHeartbeats 4000000
/-! G4Q: the law's own run. -/
namespace Lk04
open PySem PySem.Spec PyProof.Rows L2 T3 P04
/-- the loop of the law's walk -/
def W_lloop : WS := wWhile (wB (w1 (rIsN false) (w2 rDGet (wVar 8) (wC (.str "end"))))) (wSeq (wAsg (w2 T3.rIx (w2 rDGet (wVar 8) (wC (.str "open"))) (w1 rNeg (wC (.int 1)))) (gN 7)) (wSeq (wAsg (wL sp_lbody (wCons (wVar 8) (wCons (wVar 7) (wNil)))) (gN 9)) (wIfS (wB (w2 rGe (w2 rDGet (wVar 7) (wC (.str "at"))) (wL T3.rLen (wCons (w2 T3.rIx (wVar 9) (wC (.int 1))) (wNil))))) (wDrop (wL sp_lleft (wCons (wVar 8) (wCons (wVar 7) (wCons (w2 T3.rIx (wVar 9) (wC (.int 2))) (wNil)))))) (wIfS (wB (w2 T3.rEq (w2 T3.rIx (w2 T3.rIx (w2 T3.rIx (wVar 9) (wC (.int 1))) (w2 rDGet (wVar 7) (wC (.str "at")))) (wC (.int 0))) (wC (.str "call")))) (wDrop (wL (sp_lstm (fun s => ∃ v p es, s = .call v p es)) (wCons (wVar 8) (wCons (wVar 7) (wCons (w2 T3.rIx (w2 T3.rIx (wVar 9) (wC (.int 1))) (w2 rDGet (wVar 7) (wC (.str "at")))) (wNil)))))) (wDrop (wL (sp_lstm (fun s => ¬ ∃ v p es, s = .call v p es)) (wCons (wVar 8) (wCons (wVar 7) (wCons (w2 T3.rIx (w2 T3.rIx (wVar 9) (wC (.int 1))) (w2 rDGet (wVar 7) (wC (.str "at")))) (wNil))))))))))
theorem call_or (s : Sm) : (∃ v p es, s = .call v p es) ∨ ((¬ ∃ v p es, s = .call v p es) ∧ ∃ x r, s.toD = .tup (.str x :: r) ∧ x ≠ "call") := by
  cases s with
  | call v p es => exact .inl ⟨v, p, es, rfl⟩
  | _ => refine .inr ⟨(by rintro ⟨_, _, _, e⟩; cases e), _, _, rfl, by simp⟩
theorem ok_lloop {pg : Pg} {inputs : List Int} {steps : Nat} {L : Lay} {S : Rn} {B M : Nat} {h0 h : H3} {EE : En} {a0 a1 a2 a3 a4 a5 a6 a7 a9 a10 : Option D} (R : RunAt (κL pg inputs steps) h0 h L S) (E : Env4 pg inputs steps B S) (hm : msr steps S ≤ M) (hB : B + M ≤ 100000)
    (post : ∀ L' h' b7 b9, L'.b = L.b → RunAt (κL pg inputs steps) h0 h' L' (runN false pg inputs steps M S) → EE.nx [a0, a1, a2, a3, a4, a5, a6, b7, some (.ref L.b), b9, a10] h') :
    W_lloop EE [a0, a1, a2, a3, a4, a5, a6, a7, some (.ref L.b), a9, a10] h := by
  unfold W_lloop
  refine while_inv (fun m ρ h' => ∃ L' S' B' x1 x2, ρ = [a0, a1, a2, a3, a4, a5, a6, x1, some (.ref L.b), x2, a10] ∧ L'.b = L.b ∧ RunAt (κL pg inputs steps) h0 h' L' S' ∧ StOk pg steps B' S' ∧ B' + m ≤ B + M ∧ (S'.en = none → msr steps S' ≤ m) ∧ runN false pg inputs steps m S' = runN false pg inputs steps M S)
    (m := M) ⟨L, S, B, a7, a9, rfl, rfl, R, E.st, by omega, fun _ => hm, rfl⟩ ?_
  rintro m ρ h1 ⟨L1, S1, B1, x1, x2, rfl, hL1, R1, St1, hB1, hm1, hr⟩ N hN
  have hb1 : h1 L1.b = some (.dK (mK pg inputs steps L1 S1.used (enD S1.en))) := R1.b
  rw [hL1] at hb1
  simp [dg_dK hb1, mK_end, isN_en]
  cases hen : S1.en with
  | some ks =>
    simp
    rw [runN_end (by rw [hen]; simp)] at hr
    rw [← hr] at post
    exact post L1 h1 _ _ hL1 R1
  | none =>
    simp
    have E1 : Env4 pg inputs steps B1 S1 := ⟨E.ok, St1, by omega, E.few, E.inp, E.inl⟩
    have hpos := St1.pos E.ok hen
    have hmm := hm1 hen
    have nx := step_ok false E.ok E.inp St1 hen
    have hr' : runN false pg inputs steps (m - 1) (step false pg inputs steps S1) = runN false pg inputs steps M S := by
      rw [← hr]
      obtain ⟨j, rfl⟩ : ∃ j, m = j + 1 := ⟨m - 1, by omega⟩
      conv => rhs; unfold P04.runN
      rw [if_pos hen]; rfl
    cases hf : S1.frames with
    | nil => exact absurd hf (St1.ne hen)
    | cons f fs =>
      obtain ⟨a, v, fs', hL, _⟩ := R1.lay hf
      have ho1 := R1.op
      rw [hL, refs_cons] at ho1
      have FO := St1.fr f (by rw [hf]; exact List.mem_cons_self)
      obtain ⟨c, hc, _⟩ := FO.blk
      have fin : ∀ (T : Rn), step false pg inputs steps S1 = T → ∀ L' h', L'.b = L1.b → RunAt (κL pg inputs steps) h0 h' L' T → ∀ y1 y2, N [a0, a1, a2, a3, a4, a5, a6, y1, some (.ref L.b), y2, a10] h' := by
        intro T eT L' h' eb R' y1 y2
        subst eT
        exact hN (m - 1) _ _ (by omega) ⟨L', _, B1 + 1, y1, y2, rfl, eb.trans hL1, R', nx.ok, by omega, fun e => by have := nx.less e; omega, hr'⟩
      unfold P04.step at fin
      rw [hf] at fin
      dsimp only at fin
      rw [hc] at fin
      dsimp only at fin
      simp [dg_dK hb1, mK_open, ho1, atI_neg]
      rw [← hL1]
      refine body_at R1 E.ok St1 hf hL hc fun h2 R2 => ?_
      have ht2 : h2 a = some (.dK (heK f.pr.name f.label f.at_ f.res v)) := (R2.top hL hf).1
      simp [Bk.toD, dg_dK ht2, heK_at]
      split
      · rename_i hge
        rw [List.getElem?_eq_none (by omega)] at fin
        refine ⟨pg, inputs, steps, L1, S1, B1, f, fs, c, a, v, fs', h0, rfl, R2, E1, hf, hL, hc, fun L' h' eb R' => ?_⟩
        rw [hL1]
        exact fin _ rfl L' h' eb R' _ _
      · rename_i hlt
        have hlt : f.at_ < c.body.length := by omega
        rw [List.getElem?_eq_getElem hlt] at fin
        have hix : atI (c.body.map Sm.toD) (f.at_ : Int) = some (c.body[f.at_]).toD := atI_nat (by simp [hlt])
        simp [dg_dK ht2, heK_at, hix]
        have fin2 : ∀ P : Sm → Prop, P c.body[f.at_] → sp_lstm P [.ref L1.b, .ref a, (c.body[f.at_]).toD] h2 fun _ h3 => N [a0, a1, a2, a3, a4, a5, a6, some (.ref a), some (.ref L1.b), some (.tup [.int c.label, .tup (c.body.map Sm.toD), c.nd.toD]), a10] h3 := fun P hP => by
          refine ⟨pg, inputs, steps, L1, S1, B1, f, fs, c.body[f.at_], c, a, v, fs', h0, rfl, hP, R2, E1, hf, hL, hc, List.getElem?_eq_getElem hlt, fun L' h' eb R' => ?_⟩
          rw [hL1]
          exact fin _ rfl L' h' eb R' _ _
        rcases call_or c.body[f.at_] with hcl | ⟨hcl, x, r, ex, nx⟩
        · obtain ⟨v1, p1, es1, ec⟩ := hcl
          have hq := fin2 (fun s => ∃ v p es, s = .call v p es) ⟨v1, p1, es1, ec⟩
          rw [ec] at hq ⊢
          simp [Sm.toD, dg_dK ht2, heK_at, hix, ec] at hq ⊢
          exact hq
        · have hq := fin2 (fun s => ¬ ∃ v p es, s = .call v p es) hcl
          rw [ex] at hq hix ⊢
          simp [nx, dg_dK ht2, heK_at, hix] at hq ⊢
          exact hq
end Lk04
end
-- G4R
section
set_option maxRecDepth 100000
set_option maxHeartbeats 4000000
/-! G4R: the law's own run: begin, loop, result. -/
namespace Lk04
open PySem PySem.Spec PyProof.Rows L2 T3 P04
/-- a run by the law: writes, end, path, items in order -/
def sp_lrun : Sp3 := fun l h k => ∃ pg inputs steps, l = argD pg inputs steps ∧ RunIn pg inputs steps ∧
  ∀ ys h', Sub h h' → ys.Nodup → (∀ d, d ∈ ys ↔ d ∈ (fin false pg inputs steps).items.map dOf) → ys.Pairwise (fun x y => ltD y x = false) →
    k (.tup [.tup ((fin false pg inputs steps).writes.map .int), enD (fin false pg inputs steps).en, .tup ((fin false pg inputs steps).path.map plD), .tup ys]) h'
def iC (a : Str × Int) : Str × List Int := (a.1, List.replicate a.2.toNat 0)
def W_cells : WS := wFor (wIter (w2 T3.rIx (wVar 0) (wC (.int 1)))) (gT [gN 4, gN 5]) (wDPut (w2 T3.rMul (wL rLst (wCons (wC (.int 0)) (wNil))) (wVar 5)) (wVar 3) (wVar 4))
theorem ok_cells {pg : Pg} (ok : PgOk pg) {p : Addr} {h0 h : H3} {E : En} {a1 a2 a6 a7 a8 a9 a10 : Option D} (w : Own h0 h [(p, .dK [])])
    (post : ∀ cs h' x4 x5, cs.length = (initCells pg).length → Own h0 h' ((p, .dK (arK (initCells pg) cs)) :: cellCs (initCells pg) cs) → E.nx [some pg.toD, a1, a2, some (.ref p), x4, x5, a6, a7, a8, a9, a10] h') :
    W_cells E [some pg.toD, a1, a2, some (.ref p), none, none, a6, a7, a8, a9, a10] h := by
  unfold W_cells
  have af := ok.af
  have ei : initCells pg = pg.arrays.map iC := rfl
  simp [Pg.toD]
  refine for_inv (fun j ρ h' => ∃ cs x4 x5, ρ = [some pg.toD, a1, a2, some (.ref p), x4, x5, a6, a7, a8, a9, a10] ∧ cs.length = j ∧ Own h0 h' ((p, .dK (arK ((pg.arrays.take j).map iC) cs)) :: cellCs ((pg.arrays.take j).map iC) cs))
    (fun _ _ _ _ _ => trivial) ⟨[], none, none, rfl, rfl, by simpa [arK, cellCs] using w⟩ ?_ ?_
  · rintro j x ρ h1 hx ⟨cs, x4, x5, rfl, hl, w1⟩ N hN
    rw [List.getElem?_map] at hx
    have hj : j < pg.arrays.length := by
      rcases Nat.lt_or_ge j pg.arrays.length with z | z
      · exact z
      · rw [List.getElem?_eq_none z] at hx; simp at hx
    rw [List.getElem?_eq_getElem hj] at hx
    simp at hx
    subst hx
    have htk : pg.arrays.take (j + 1) = pg.arrays.take j ++ [pg.arrays[j]] := by rw [List.take_succ_eq_append_getElem hj]
    have hn := ok.az _ (List.getElem_mem hj)
    have hnd := ok.an
    generalize pg.arrays[j] = a at htk hn ⊢
    obtain ⟨nm, n⟩ := a
    simp only at hn
    simp [arD, wDPut, Pg.toD]
    intro t nt
    have w2 := w1.more ((Sub.refl h1).up (o := .lst [.int 0]) nt)
    refine ⟨by omega, by omega, by omega, fun q nq => ?_⟩
    have w3 := w2.new (p := q) (o := .lst ((List.replicate n.toNat 0).map D.int)) nq
    have e0 : (List.replicate n.toNat 0).map D.int = List.replicate n.toNat (D.int 0) := by simp
    rw [e0] at w3
    have hd : (up (up h1 t (.lst [.int 0])) q (.lst (List.replicate n.toNat (D.int 0)))) p = some (.dK (arK ((pg.arrays.take j).map iC) cs)) := w3.get (by simp)
    have hlen : (arK ((pg.arrays.take j).map iC) cs).length ≤ 3 := Nat.le_trans arK_len (by simp; omega)
    refine ⟨_, dpt_K (q := .inr nm) hd rfl (by omega), hN _ _ ⟨cs ++ [q], _, _, rfl, by simp [hl], ?_⟩⟩
    have hcl : cs.length = ((pg.arrays.take j).map iC).length := by simp [hl]; omega
    have hnm : nm ∉ ((pg.arrays.take j).map iC).map (·.1) := by
      rw [List.map_map]
      rw [← List.take_append_drop (j + 1) pg.arrays, htk] at hnd
      simp only [List.map_append, List.map_cons, List.nodup_append] at hnd
      intro z
      exact hnd.1.2.2 nm z nm (by simp) rfl
    have e1 := arK_put (c := (nm, List.replicate n.toNat 0)) (a := q) hcl hnm
    have e2 := cellCs_app (c := (nm, List.replicate n.toNat 0)) (a := q) hcl
    simp only at e1
    rw [e1, htk, List.map_append, List.map_singleton]
    have ec : iC (nm, n) = (nm, List.replicate n.toNat 0) := rfl
    rw [ec, e2]
    have w4 := Own.set (xs := [_]) (o' := .dK (arK ((pg.arrays.take j).map iC ++ [(nm, List.replicate n.toNat 0)]) (cs ++ [q]))) w3
    refine w4.perm ?_
    simp only [List.singleton_append]
    refine (List.Perm.swap _ _ _).trans (List.Perm.cons _ ?_)
    rw [show (List.replicate n.toNat (0 : Int)).map D.int = List.replicate n.toNat (D.int 0) by simp]
    exact (List.perm_append_comm (l₁ := [_]))
  · rintro ρ h1 ⟨cs, x4, x5, rfl, hl, w1⟩
    simp at hl w1
    refine post cs h1 x4 x5 (by simp [initCells, hl]) ?_
    rw [ei]
    simpa using w1
theorem permL {α : Type} {b wr pa it ce op a v : α} {X : List α} : (op :: it :: pa :: wr :: b :: v :: a :: ce :: X).Perm (b :: wr :: pa :: it :: ce :: op :: (X ++ [a, v])) := by
  have h1 : (b :: wr :: pa :: it :: ce :: op :: (X ++ [a, v])).Perm (b :: wr :: pa :: it :: ce :: op :: ([a, v] ++ X)) := ((((((List.perm_append_comm).cons op).cons ce).cons it).cons pa).cons wr).cons b
  refine List.Perm.trans ?_ h1.symm
  have h2 : ([op, it, pa, wr, b, v, a, ce]).Perm ([b, wr, pa, it, ce, op, a, v]) := by
    have e1 : ([op, it, pa, wr, b, v, a, ce]).Perm ([ce, a, v, b, wr, pa, it, op]) := (List.reverse_perm [ce, a, v, b, wr, pa, it, op])
    refine e1.trans ?_
    have e2 : ([ce, a, v] ++ [b, wr, pa, it, op]).Perm ([b, wr, pa, it, op] ++ [ce, a, v]) := List.perm_append_comm
    refine e2.trans ?_
    exact ((((List.perm_middle (l₁ := [op]) (a := ce) (l₂ := [a, v])).cons it).cons pa).cons wr).cons b
  exact h2.append_right X
def W_here : WE := (wDisp (ppsCons (wC (.str "name")) (wC (.str "main")) (ppsCons (wC (.str "label")) (wVar 6) (ppsCons (wC (.str "at")) (wC (.int 0)) (ppsCons (wC (.str "words")) (wDNewK) (ppsCons (wC (.str "gives")) (wC (.int 0)) (ppsNil)))))))
def W_mdict : WE := (wDisp (ppsCons (wC (.str "program")) (wVar 0) (ppsCons (wC (.str "inputs")) (wVar 1) (ppsCons (wC (.str "steps")) (wVar 2) (ppsCons (wC (.str "used")) (wC (.int 0)) (ppsCons (wC (.str "cells")) (wVar 3) (ppsCons (wC (.str "writes")) (wL rLst (wNil)) (ppsCons (wC (.str "path")) (wL rLst (wNil)) (ppsCons (wC (.str "items")) (wL rLst (wNil)) (ppsCons (wC (.str "open")) (wL rLst (wCons (wVar 7) (wNil))) (ppsCons (wC (.str "end")) (wC .non) (ppsNil))))))))))))
theorem here_at {ρ : Ev} {h : H3} {k : K1} {lb : Int} (r6 : ρ[6]? = some (some (.int lb))) (post : ∀ x v, h x = none → (up h x (.dK [])) v = none → k (.ref x) (up (up (up h x (.dK [])) v (.dK [])) x (.dK (heK "main" lb 0 0 v)))) : W_here ρ h k := by
  simp only [W_here, wDisp, wPairs, s_c, s_var, r6]
  intro x nx
  refine ⟨_, rfl, ?_⟩
  intro v nv
  have hxv : x ≠ v := fun z => by subst z; rw [up_same] at nv; cases nv
  have em : mergeD [] [((.inr "name" : Key), D.str "main"), (.inr "label", D.int lb), (.inr "at", D.int 0), (.inr "words", D.ref v), (.inr "gives", D.int 0)] = heK "main" lb 0 0 v := by
    simp [mergeD, putD, heK]
  refine ⟨by rw [up_ne hxv]; exact up_same, _, rfl, by simp, ?_⟩
  rw [em]
  exact post x v nx nv
theorem wp_step {f g : WE} {r : List (WE × WE)} {x y : D} {ρ : Ev} {h h2 : H3} {k : List (D × D) → H3 → Prop} (hf : ∀ K : K1, K x h → f ρ h K) (hg : ∀ K : K1, K y h2 → g ρ h K) (next : wPairs r ρ h2 fun ps h3 => k ((x, y) :: ps) h3) : wPairs ((f, g) :: r) ρ h k := hf _ (hg _ next)
theorem wp_new {f g : WE} {r : List (WE × WE)} {x : D} {o : O} {ρ : Ev} {h : H3} {k : List (D × D) → H3 → Prop} (hf : ∀ K : K1, K x h → f ρ h K) (hg : ∀ K : K1, (∀ p, h p = none → K (.ref p) (up h p o)) → g ρ h K) (next : ∀ p, h p = none → wPairs r ρ (up h p o) fun ps h3 => k ((x, .ref p) :: ps) h3) : wPairs ((f, g) :: r) ρ h k := hf _ (hg _ next)
theorem putD_new {kvs : List (Key × D)} {k : Str} {v : D} (h : kvs.any (fun kv => decide (kv.1 = .inr k)) = false) : putD kvs (.inr k) v = kvs ++ [(.inr k, v)] := by
  unfold putD; rw [h]; rfl
theorem mergeD_new : ∀ {l kvs : List (Key × D)}, ((kvs ++ l).map (·.1)).Nodup → mergeD kvs l = kvs ++ l
  | [], kvs, _ => by simp [mergeD]
  | (k, v) :: r, kvs, h => by
    have h1 : putD kvs k v = kvs ++ [(k, v)] := by
      unfold putD
      rw [if_neg]
      simp only [List.any_eq_true, decide_eq_true_eq]
      rintro ⟨kv, hkv, e⟩
      simp only [List.map_append, List.map_cons, List.nodup_append] at h
      exact h.2.2 kv.1 (List.mem_map_of_mem hkv) k List.mem_cons_self e
    show mergeD (putD kvs k v) r = _
    rw [h1, mergeD_new (by simpa using h)]
    simp
theorem mdict_eq {pg : Pg} {inputs : List Int} {steps : Nat} {pc b wr pa it op : Addr} : mergeD [] [((.inr "program" : Key), pg.toD), (.inr "inputs", .tup (inputs.map .int)), (.inr "steps", .int steps), (.inr "used", .int 0), (.inr "cells", .ref pc), (.inr "writes", .ref wr), (.inr "path", .ref pa), (.inr "items", .ref it), (.inr "open", .ref op), (.inr "end", .non)] = mK pg inputs steps ⟨b, wr, pa, it, pc, op, [], []⟩ 0 .non := by
  rw [mergeD_new]
  · rfl
  · simp only [List.nil_append, List.map_cons, List.map_nil]
    decide +kernel
theorem mdict_at {ρ : Ev} {h : H3} {k : K1} {pg : Pg} {inputs : List Int} {steps : Nat} {pc q : Addr} (r0 : ρ[0]? = some (some pg.toD)) (r1 : ρ[1]? = some (some (.tup (inputs.map .int)))) (r2 : ρ[2]? = some (some (.int steps))) (r3 : ρ[3]? = some (some (.ref pc))) (r7 : ρ[7]? = some (some (.ref q)))
    (post : ∀ b wr pa it op h1 h2 h3 h4 h5, h b = none → h1 = up h b (.dK []) → h1 wr = none → h2 = up h1 wr (.lst []) → h2 pa = none → h3 = up h2 pa (.lst []) → h3 it = none → h4 = up h3 it (.lst []) → h4 op = none → h5 = up h4 op (.lst [.ref q]) →
      k (.ref b) (up h5 b (.dK (mK pg inputs steps ⟨b, wr, pa, it, pc, op, [], []⟩ 0 .non)))) : W_mdict ρ h k := by
  unfold W_mdict wDisp
  intro b nb
  refine wp_step (x := .str "program") (fun K q => q) (fun K q => ⟨_, r0, q⟩) ?_
  refine wp_step (x := .str "inputs") (fun K q => q) (fun K q => ⟨_, r1, q⟩) ?_
  refine wp_step (x := .str "steps") (fun K q => q) (fun K q => ⟨_, r2, q⟩) ?_
  refine wp_step (x := .str "used") (fun K q => q) (fun K q => q) ?_
  refine wp_step (x := .str "cells") (fun K q => q) (fun K q => ⟨_, r3, q⟩) ?_
  refine wp_new (x := .str "writes") (o := .lst []) (fun K q => q) (fun K q => ⟨by decide, q⟩) fun wr nwr => ?_
  refine wp_new (x := .str "path") (o := .lst []) (fun K q => q) (fun K q => ⟨by decide, q⟩) fun pa npa => ?_
  refine wp_new (x := .str "items") (o := .lst []) (fun K q => q) (fun K q => ⟨by decide, q⟩) fun it nit => ?_
  refine wp_new (x := .str "open") (o := .lst [.ref q]) (fun K q => q) (fun K q => ⟨_, r7, by show (1 : Nat) ≤ _; decide, q⟩) fun op nop => ?_
  refine wp_step (x := .str "end") (fun K q => q) (fun K q => q) ?_
  have ne : ∀ {g : H3} {x : Addr} {o : O}, g b = some (.dK []) → g x = none → (up g x o) b = some (.dK []) := fun {g x o} e n => by
    rw [up_ne (fun z => by subst z; rw [n] at e; cases e)]; exact e
  refine ⟨ne (ne (ne (ne up_same nwr) npa) nit) nop, _, rfl, Nat.le_of_ble_eq_true rfl, ?_⟩
  rw [mdict_eq (wr := wr) (pa := pa) (it := it) (op := op) (b := b)]
  exact post b wr pa it op _ _ _ _ _ nb rfl nwr rfl npa rfl nit rfl nop rfl
def W_lres : WS := (wRet (wL rTup (wCons (wL rTupleOf (wCons (w2 rDGet (wVar 8) (wC (.str "writes"))) (wNil))) (wCons (w2 rDGet (wVar 8) (wC (.str "end"))) (wCons (wL rTupleOf (wCons (w2 rDGet (wVar 8) (wC (.str "path"))) (wNil))) (wCons (wL rTupleOf (wCons (w1 rSortSet (w2 rDGet (wVar 8) (wC (.str "items")))) (wNil))) (wNil)))))))
def W_lrest : WS := (wSeq (wAsg (w2 T3.rIx (w2 T3.rIx (w2 T3.rIx (w2 T3.rIx (wLc (wIter (w2 T3.rIx (wVar 0) (wC (.int 2)))) 10 (wB (w2 T3.rEq (w2 T3.rIx (wVar 10) (wC (.int 0))) (wC (.str "main")))) (wVar 10)) (wC (.int 0))) (wC (.int 2))) (wC (.int 0))) (wC (.int 0))) (gN 6)) (wSeq (wAsg W_here (gN 7)) (wSeq (wAsg W_mdict (gN 8)) (wSeq (wDrop (wL sp_lbegin (wCons (wVar 8) (wCons (wVar 7) (wNil))))) (wSeq W_lloop W_lres)))))
def nmB (n : Str) : D → Bool
  | .tup (.str x :: _) => decide (x = n)
  | _ => false
theorem filt_nm {pg : Pg} {n : Str} : (pg.procs.map Pr.toD).filter (nmB n) = (pg.procs.filter fun r => decide (r.name = n)).map Pr.toD := by
  rw [List.filter_map]; rfl
theorem W_l_run_eq : W_l_run sp_lbegin sp_lbody sp_lleft (sp_lstm (fun s => ∃ v p es, s = .call v p es)) (sp_lstm (fun s => ¬ ∃ v p es, s = .call v p es)) = wSeq (wAsg wDNewK (gN 3)) (wSeq W_cells W_lrest) := rfl
theorem ok_l_run : ∀ l h k, sp_lrun l h k → W_l_run sp_lbegin sp_lbody sp_lleft (sp_lstm (fun s => ∃ v p es, s = .call v p es)) (sp_lstm (fun s => ¬ ∃ v p es, s = .call v p es)) (en k) (ev0 N_l_run l) h := by
  rintro l h k ⟨pg, inputs, steps, rfl, I, post⟩
  obtain ⟨p, c, ct, hp, m, hbl⟩ := main_ok I.ok
  obtain ⟨hpm, hpn⟩ := procOf_mem hp
  rw [W_l_run_eq]
  simp only [s_seq, s_asg]
  intro pc npc
  have w0 : Own h (up h pc (.dK [])) [(pc, .dK [])] := (Own.start (Sub.refl h)).new npc
  refine ok_cells I.ok (h0 := h) w0 fun cs h1 x4 x5 hcl w1 => ?_
  have few := I.ok.pf
  simp [W_lrest, Pg.toD]
  intro t nt
  refine lc_pure (nmB "main") (fun d => d) (by simp; omega) (fun _ _ _ => trivial) ?_ ?_ ?_
  · intro x hx o h3 s1 K hK
    obtain ⟨r, hr, rfl⟩ := List.mem_map.mp hx
    simp [Pr.toD]
    exact hK _ (Sub.refl _)
  · intro x hx _ o h3 s1 K hK
    simp
    exact hK _ (Sub.refl _)
  · simp only [List.map_id', filt_nm]
    simp only [s_c, s_w2, s_ix_l]
    refine ⟨_, _, up_same, first_of hp, ?_⟩
    have w2 := w1.more ((Sub.refl _).up (o := .lst ((pg.procs.filter fun r => decide (r.name = ("main" : Str))).map Pr.toD)) nt)
    generalize (up h1 t (.lst ((pg.procs.filter fun r => decide (r.name = ("main" : Str))).map Pr.toD))) = h2 at w2 ⊢
    simp [Pr.toD, hbl, Bk.toD]
    refine here_at rfl fun x v nx nv => ?_
    refine mdict_at (pg := pg) (inputs := inputs) (steps := steps) (pc := pc) (q := x) rfl rfl rfl rfl rfl fun b wr pa it op g1 g2 g3 g4 g5 nb e1 nwr e2 npa e3 nit e4 nop e5 => ?_
    have w3 := (w2.new (o := .dK []) nx).new (o := .dK []) nv
    have w4 := Own.set (xs := [_]) (o' := .dK (heK "main" c.label 0 0 v)) w3
    have w5 := w4.new (o := .dK []) nb
    rw [← e1] at w5
    have w6 := w5.new (o := .lst []) nwr
    rw [← e2] at w6
    have w7 := w6.new (o := .lst []) npa
    rw [← e3] at w7
    have w8 := w7.new (o := .lst []) nit
    rw [← e4] at w8
    have w9 := w8.new (o := .lst [.ref x]) nop
    rw [← e5] at w9
    have w10 := Own.set (xs := [_, _, _, _]) (o' := .dK (mK pg inputs steps ⟨b, wr, pa, it, pc, op, [], []⟩ 0 .non)) w9
    have R : RunAt (κL pg inputs steps) h (up g5 b (.dK (mK pg inputs steps ⟨b, wr, pa, it, pc, op, [], []⟩ 0 .non))) ⟨b, wr, pa, it, pc, op, cs, [(x, v)]⟩ { start pg with frames := [mainFr p c] } := by
      refine ⟨?_, hcl, rfl⟩
      have := w10.perm permL
      simpa [cellsOf, κL, P04.start, frCs, refs, enD, mainFr, mK, hpn] using this
    generalize (up g5 b (.dK (mK pg inputs steps ⟨b, wr, pa, it, pc, op, [], []⟩ 0 .non))) = g6 at R ⊢
    have N := R.net rfl rfl
    have ht : g6 x = some (.dK (heK "main" c.label 0 0 v)) := by rw [← hpn]; exact (R.top rfl rfl).1
    obtain ⟨i1, i2⟩ := initS_ok false (c := c) I.ok m hbl I.few
    have E : Env4 pg inputs steps 3 (initS false pg steps p c) := ⟨I.ok, i1, by decide, I.few, I.inp, I.inl⟩
    have loop : ∀ h', RunAt (κL pg inputs steps) h h' ⟨b, wr, pa, it, pc, op, cs, [(x, v)]⟩ (initS false pg steps p c) → ∀ k7 k9 x4 x5, W_lloop { (en k) with nx := fun ρ h => W_lres (en k) ρ h } [some pg.toD, some (.tup (inputs.map .int)), some (.int steps), some (.ref pc), x4, x5, some (.int c.label), k7, some (.ref b), k9, none] h' := by
      intro h' R1 k7 k9 x4 x5
      refine ok_lloop (L := ⟨b, wr, pa, it, pc, op, cs, [(x, v)]⟩) R1 E i2 (by decide) fun L' h2 b7 b9 hL R2 => ?_
      have e0 : fin false pg inputs steps = runN false pg inputs steps 600 (initS false pg steps p c) := by
        unfold fin; rw [hp]; dsimp only; rw [hbl]
      rw [← e0] at R2
      obtain ⟨C, st⟩ := fin_ok false I.ok I.inp I.few
      have hb2 : h2 b = some (.dK (mK pg inputs steps L' (fin false pg inputs steps).used (enD (fin false pg inputs steps).en))) := by rw [← (show L'.b = b from hL)]; exact R2.b
      have hw := R2.wr
      have hpa := R2.pa
      have hi : h2 L'.it = some (.lst ((fin false pg inputs steps).items.map dOf)) := R2.it
      have hit : ∀ q ∈ (fin false pg inputs steps).items, ItmOk q := fun q hq => items_ok I.ok q (st.itm q hq)
      simp [W_lres, dg_dK hb2, mK_writes, mK_end, mK_path, mK_items, hw, hpa]
      refine ⟨L'.it, _, rfl, hi, ?_, few_items I.ok st.itm, it_srtb hit, fun ys q nd mem srt nq => ?_⟩
      · intro d hd
        obtain ⟨j, hj, rfl⟩ := List.mem_map.mp hd
        exact ⟨⟨(hit j hj).ok, (hit j hj).dep⟩, _, keysOf_d j⟩
      · simp
        exact en_rt (post ys _ (R2.ow.sub.trans ((Sub.refl _).up nq)) nd mem srt)
    refine ⟨pg, inputs, steps, ⟨b, wr, pa, it, pc, op, cs, [(x, v)]⟩, { start pg with frames := [mainFr p c] }, x, _, p.name, c.label, h, rfl, R, ht, by rw [hpn]; exact heK_name, heK_label, N.apa, N.ait, by simp [P04.start], by simp [P04.start], fun c1 h' R' => ?_, fun c1 h' R' => ?_⟩
    · refine loop h' ?_ _ _ _ _
      unfold initS
      rw [if_pos (by simpa [P04.start] using c1)]
      exact R'
    · refine loop h' ?_ _ _ _ _
      unfold initS
      rw [if_neg (by simpa [P04.start] using c1)]
      unfold enter
      rw [if_neg c1]
      exact R'
end Lk04
end
-- G4S
section
set_option maxRecDepth 100000
set_option maxHeartbeats 4000000
/-! G4S: what looks at a cell. -/
namespace Lk04
open PySem PySem.Spec PyProof.Rows L2 T3 P04
theorem ok_words4 : ∀ z ∈ (["int", "var", "cell", "take", "go", "if", "return", "put", "set", "store", "assert", "call"] : List Str), PyData.strOk z = true := by
  intro z hz
  simp at hz
  rcases hz with rfl | rfl | rfl | rfl | rfl | rfl | rfl | rfl | rfl | rfl | rfl | rfl <;> decide +kernel
theorem sub4 {l : List Str} (h : ∀ x ∈ l, x ∈ (["int", "var", "cell", "take", "go", "if", "return", "put", "set", "store", "assert", "call"] : List Str)) : ∀ x ∈ l, PyData.strOk x = true := fun x hx => ok_words4 x (h x hx)
/-- any([f(part) for part in l]) -/
theorem any_lc {p : Sp3} {ρ : Ev} {h : H3} {k : K1} {i : Nat} {es : List Ex} {g : Ex → Bool} (hi : i < ρ.length) (hl : es.length ≤ 1000) (hp : ∀ e ∈ es, ∀ h' K, Sub h h' → (∀ h2, Sub h' h2 → K (.bl (g e)) h2) → p [e.toD] h' K)
    (q : ∀ h', Sub h h' → k (.bl (es.any g)) h') : ∀ t, h t = none → lcW (fun _ => True) i wYes (wL p (wCons (wVar i) wNil)) t ρ (fun d h1 => rAnyB [d] h1 k) (es.map Ex.toD) (up h t (.lst [])) := by
  intro t nt
  have gen : ∀ (r done : List Ex) (h1 : H3), done.length + r.length ≤ 1000 → (∀ e ∈ r, e ∈ es) → done ++ r = es → Sub (up h t (.lst (done.map fun e => D.bl (g e)))) h1 → lcW (fun _ => True) i wYes (wL p (wCons (wVar i) wNil)) t ρ (fun d h1 => rAnyB [d] h1 k) (r.map Ex.toD) h1 := by
    intro r
    induction r with
    | nil =>
      intro done h1 _ _ e s
      simp at e
      subst e
      refine ⟨trivial, t, done.map g, rfl, s _ _ ?_, ?_⟩
      · rw [up_same]; simp [Function.comp]
      · have := q h1 (((Sub.refl h).up nt).trans s)
        simpa [List.any_map, Function.comp] using this
    | cons e r ih =>
      intro done h1 hl hr ee s
      refine ⟨trivial, ?_⟩
      have gi : (ρ.set i (some e.toD))[i]? = some (some e.toD) := List.getElem?_set_self hi
      simp [wYes, gi]
      refine hp e (hr e List.mem_cons_self) h1 _ (((Sub.refl h).up nt).trans s) fun h2 s2 => ?_
      simp at hl
      refine ⟨_, s2 _ _ (s _ _ up_same), by simp; omega, up h t (.lst ((done ++ [e]).map fun e => D.bl (g e))), ?_, ?_⟩
      · rw [List.map_append]
        intro b u eb
        by_cases hb : b = t
        · subst hb; rw [up_same] at eb ⊢; exact eb
        · rw [up_ne hb] at eb ⊢; exact s2 _ _ (s _ _ (by rw [up_ne hb]; exact eb))
      · exact ih (done ++ [e]) _ (by simp; omega) (fun y hy => hr y (List.mem_cons_of_mem _ hy)) (by simp [ee]) (Sub.refl _)
  exact gen es [] _ (by simpa using hl) (fun e he => he) rfl (Sub.refl _)
def sp_hascell (m : Nat) : Sp3 := fun l h k => ∃ (e : Ex) (top : Int) (ars : List (Str × Int)), l = [e.toD] ∧ e.Wf top ars m ∧ ∀ h', Sub h h' → k (.bl (exCell e)) h'
theorem op_not {o : Str} (h : o ∈ pairOps ∨ o ∈ singleOps) : o ≠ "int" ∧ o ≠ "var" ∧ o ≠ "cell" ∧ PyData.strOk o = true := by
  simp [pairOps, singleOps] at h
  rcases h with (rfl | rfl | rfl | rfl | rfl | rfl | rfl | rfl | rfl | rfl) | (rfl | rfl) <;> refine ⟨by simp, by simp, by simp, by decide +kernel⟩
theorem ok_has_cell (m : Nat) : ∀ l h k, sp_hascell (m + 1) l h k → W_has_cell (sp_hascell m) (en k) (ev0 N_has_cell l) h := by
  rintro l h k ⟨e, top, ars, rfl, hw, post⟩
  have two : ∀ z ∈ (["int", "var"] : List Str), PyData.strOk z = true := sub4 (by intro x hx; simp at hx ⊢; rcases hx with rfl | rfl <;> simp)
  cases e with
  | int n =>
    simp [W_has_cell, ev0, Ex.toD]
    refine in_strs (l := ["int", "var"]) (two _ (by simp)) two ?_
    simp
    exact en_rt (post _ (Sub.refl h))
  | var n =>
    simp [W_has_cell, ev0, Ex.toD]
    refine in_strs (l := ["int", "var"]) (two _ (by simp)) two ?_
    simp
    exact en_rt (post _ (Sub.refl h))
  | cell a e =>
    simp [W_has_cell, ev0, Ex.toD]
    refine in_strs (l := ["int", "var"]) (ok_words4 _ (by simp)) two ?_
    simp
    exact en_rt (post _ (Sub.refl h))
  | one o e =>
    obtain ⟨n1, n2, n3, n4⟩ := op_not (.inr hw.1)
    simp [W_has_cell, ev0, Ex.toD]
    refine in_strs (l := ["int", "var"]) n4 two ?_
    simp [n1, n2, n3]
    rw [cut2]
    refine any_lc (es := [e]) (g := exCell) (by simp) (by simp) (fun x hx h' K s q => ?_) fun h' s => ?_
    · rw [List.mem_singleton] at hx; subst hx
      exact ⟨x, top, ars, rfl, hw.2, q⟩
    · have := post h' s
      simp [exCell] at this ⊢
      exact en_rt this
  | two o e f =>
    obtain ⟨n1, n2, n3, n4⟩ := op_not (.inl hw.1)
    simp [W_has_cell, ev0, Ex.toD]
    refine in_strs (l := ["int", "var"]) n4 two ?_
    simp [n1, n2, n3]
    rw [cut3]
    refine any_lc (es := [e, f]) (g := exCell) (by simp) (by simp) (fun x hx h' K s q => ?_) fun h' s => ?_
    · simp at hx
      rcases hx with rfl | rfl
      · exact ⟨x, top, ars, rfl, hw.2.1, q⟩
      · exact ⟨x, top, ars, rfl, hw.2.2, q⟩
    · have := post h' s
      simp [exCell] at this ⊢
      exact en_rt this
/-- a statement, an end -/
def sp_looks : Sp3 := fun l h k => ∃ (d : D) (c : Bool) (top : Int) (ars others : List (Str × Int)) (L : List Int), l = [d] ∧ (∀ h', Sub h h' → k (.bl c) h') ∧
  ((∃ s : Sm, d = s.toD ∧ s.Wf top ars others ∧ c = smLooks s ∧ ∀ v p es, s = .call v p es → es.length ≤ 1000) ∨ ∃ n : Nd, d = n.toD ∧ n.Wf top ars L ∧ c = ndLooks n)
theorem ok_looks : ∀ l h k, sp_looks l h k → W_looks (sp_hascell 5) (en k) (ev0 N_looks l) h := by
  rintro l h k ⟨d, c, top, ars, others, L, rfl, post, hd⟩
  have w2 : ∀ z ∈ (["take", "go"] : List Str), PyData.strOk z = true := sub4 (by intro x hx; simp at hx ⊢; rcases hx with rfl | rfl <;> simp)
  have w3 : ∀ z ∈ (["if", "return", "put"] : List Str), PyData.strOk z = true := sub4 (by intro x hx; simp at hx ⊢; rcases hx with rfl | rfl | rfl <;> simp)
  have fin : ∀ e : Ex, e.Wf top ars 5 → c = exCell e → sp_hascell 5 [e.toD] h (en k).rt := fun e he hc => ⟨e, top, ars, rfl, he, fun h' s => by rw [← hc]; exact en_rt (post h' s)⟩
  rcases hd with ⟨s, rfl, hw, rfl, hl⟩ | ⟨n, rfl, hw, rfl⟩
  · cases s with
    | set v e =>
      simp [W_looks, ev0, Sm.toD]
      refine in_strs (l := ["take", "go"]) (ok_words4 _ (by simp)) w2 ?_
      simp
      refine in_strs (l := ["if", "return", "put"]) (ok_words4 _ (by simp)) w3 ?_
      simp
      exact fin e hw.2 rfl
    | take v =>
      simp [W_looks, ev0, Sm.toD]
      refine in_strs (l := ["take", "go"]) (ok_words4 _ (by simp)) w2 ?_
      simp
      exact en_rt (post h (Sub.refl h))
    | put e =>
      simp [W_looks, ev0, Sm.toD]
      refine in_strs (l := ["take", "go"]) (ok_words4 _ (by simp)) w2 ?_
      simp
      refine in_strs (l := ["if", "return", "put"]) (ok_words4 _ (by simp)) w3 ?_
      simp
      exact fin e hw rfl
    | store a e f =>
      simp [W_looks, ev0, Sm.toD]
      refine in_strs (l := ["take", "go"]) (ok_words4 _ (by simp)) w2 ?_
      simp
      exact en_rt (post h (Sub.refl h))
    | assert i e =>
      simp [W_looks, ev0, Sm.toD]
      refine in_strs (l := ["take", "go"]) (ok_words4 _ (by simp)) w2 ?_
      simp
      refine in_strs (l := ["if", "return", "put"]) (ok_words4 _ (by simp)) w3 ?_
      simp
      exact fin e hw.2 rfl
    | call v p es =>
      simp [W_looks, ev0, Sm.toD]
      refine in_strs (l := ["take", "go"]) (ok_words4 _ (by simp)) w2 ?_
      simp
      refine any_lc (es := es) (g := exCell) (by simp) (hl v p es rfl) (fun x hx h' K s q => ?_) fun h' s => ?_
      · exact ⟨x, top, ars, rfl, hw.2.2 x hx, q⟩
      · exact en_rt (post h' s)
  · cases n with
    | go l =>
      simp [W_looks, ev0, Nd.toD]
      refine in_strs (l := ["take", "go"]) (ok_words4 _ (by simp)) w2 ?_
      simp
      exact en_rt (post h (Sub.refl h))
    | iff e l m =>
      simp [W_looks, ev0, Nd.toD]
      refine in_strs (l := ["take", "go"]) (ok_words4 _ (by simp)) w2 ?_
      simp
      refine in_strs (l := ["if", "return", "put"]) (ok_words4 _ (by simp)) w3 ?_
      simp
      exact fin e hw.1 rfl
    | ret e =>
      simp [W_looks, ev0, Nd.toD]
      refine in_strs (l := ["take", "go"]) (ok_words4 _ (by simp)) w2 ?_
      simp
      refine in_strs (l := ["if", "return", "put"]) (ok_words4 _ (by simp)) w3 ?_
      simp
      exact fin e hw rfl
/-- what a statement may meet -/
def sp_stmitems : Sp3 := fun l h k => ∃ (nm : Str) (lb : Int) (at_ : Nat) (s : Sm), l = [.str nm, .int lb, .int at_, s.toD] ∧ ∀ p, h p = none → k (.ref p) (up h p (.lst ((smMeets nm lb at_ s).map dOf)))
theorem ok_statement_items : ∀ l h k, sp_stmitems l h k → W_statement_items (en k) (ev0 N_statement_items l) h := by
  rintro l h k ⟨nm, lb, at_, s, rfl, post⟩
  cases s <;> simp [W_statement_items, ev0, Sm.toD, smMeets] at post ⊢ <;> intro p np <;> exact en_rt (post p np)
/-! the law's look -/
def isCl : List D → Bool
  | .str x :: _ => decide (x = "cell")
  | _ => false
mutual
def hasD : D → Bool
  | .tup l => isCl l || hasL l
  | _ => false
def hasL : List D → Bool
  | [] => false
  | d :: l => hasD d || hasL l
end
theorem hasL_any : ∀ {l : List D}, hasL l = l.any hasD
  | [] => rfl
  | d :: l => by simp [hasL, hasL_any (l := l)]
theorem has_ex {top : Int} {ars : List (Str × Int)} : ∀ {m : Nat} {e : Ex}, e.Wf top ars m → hasD e.toD = exCell e
  | 0, _, h => h.elim
  | m + 1, .int n, _ => by simp [Ex.toD, hasD, hasL, isCl, exCell]
  | m + 1, .var n, _ => by simp [Ex.toD, hasD, hasL, isCl, exCell]
  | m + 1, .cell a e, _ => by simp [Ex.toD, hasD, hasL, isCl, exCell]
  | m + 1, .one o e, h => by
    obtain ⟨_, _, n3, _⟩ := op_not (.inr h.1)
    simp [Ex.toD, hasD, hasL, isCl, exCell, n3, has_ex h.2]
  | m + 1, .two o e f, h => by
    obtain ⟨_, _, n3, _⟩ := op_not (.inl h.1)
    simp [Ex.toD, hasD, hasL, isCl, exCell, n3, has_ex h.2.1, has_ex h.2.2]
theorem isCl_str {x : Str} {r : List D} : isCl (.str x :: r) = decide (x = "cell") := rfl
theorem isCl_map {es : List Ex} : isCl (es.map Ex.toD) = false := by
  cases es with
  | nil => rfl
  | cons e es => cases e <;> rfl
theorem has_sm {top : Int} {ars others : List (Str × Int)} {s : Sm} (h : s.Wf top ars others) (hn : ∀ a e f, s ≠ .store a e f) : hasD s.toD = smLooks s := by
  cases s with
  | set v e => simp [Sm.toD, hasD, hasL, isCl, smLooks, has_ex h.2]
  | take v => simp [Sm.toD, hasD, hasL, isCl, smLooks]
  | put e => simp [Sm.toD, hasD, hasL, isCl, smLooks, has_ex h]
  | store a e f => exact absurd rfl (hn a e f)
  | assert i e => simp [Sm.toD, hasD, hasL, isCl, smLooks, has_ex h.2]
  | call v p es =>
    simp [Sm.toD, hasD, hasL, isCl_str, smLooks, isCl_map, hasL_any]
    rw [Bool.eq_iff_iff]
    simp
    constructor
    · rintro ⟨e, he, q⟩; rw [has_ex (h.2.2 e he)] at q; exact ⟨e, he, q⟩
    · rintro ⟨e, he, q⟩; exact ⟨e, he, by rw [has_ex (h.2.2 e he)]; exact q⟩
theorem has_nd {top : Int} {ars : List (Str × Int)} {L : List Int} {n : Nd} (h : n.Wf top ars L) : hasD n.toD = ndLooks n := by
  cases n with
  | go l => simp [Nd.toD, hasD, hasL, isCl, ndLooks]
  | iff e l m => simp [Nd.toD, hasD, hasL, isCl, ndLooks, has_ex h.1]
  | ret e => simp [Nd.toD, hasD, hasL, isCl, ndLooks, has_ex h]
mutual
def smD : D → Bool
  | .tup l => decide (l.length ≤ 1000) && smL l
  | _ => true
def smL : List D → Bool
  | [] => true
  | d :: l => smD d && smL l
end
theorem smL_iff : ∀ {l : List D}, smL l = true ↔ ∀ d ∈ l, smD d = true
  | [] => by simp [smL]
  | d :: l => by simp [smL, smL_iff (l := l)]
theorem sm_ex : ∀ {e : Ex}, smD e.toD = true
  | .int _ => by simp [Ex.toD, smD, smL]
  | .var _ => by simp [Ex.toD, smD, smL]
  | .cell _ e => by simp [Ex.toD, smD, smL, sm_ex (e := e)]
  | .one _ e => by simp [Ex.toD, smD, smL, sm_ex (e := e)]
  | .two _ e f => by simp [Ex.toD, smD, smL, sm_ex (e := e), sm_ex (e := f)]
theorem sm_sm {s : Sm} (h : ∀ v p es, s = .call v p es → es.length ≤ 1000) : smD s.toD = true := by
  cases s with
  | call v p es =>
    have := h v p es rfl
    have q : smL (es.map Ex.toD) = true := by
      rw [smL_iff]
      intro d hd
      obtain ⟨e, _, rfl⟩ := List.mem_map.mp hd
      exact sm_ex
    simp [Sm.toD, smD, smL, q, this]
  | _ => simp [Sm.toD, smD, smL, sm_ex]
theorem sm_nd {n : Nd} : smD n.toD = true := by
  cases n <;> simp [Nd.toD, smD, smL, sm_ex]
theorem depth_mem {x : PyData} : ∀ {l : List PyData}, x ∈ l → x.depth ≤ PyData.depthAll l
  | [], h => (nomatch h)
  | y :: l, h => by
    simp only [PyData.depthAll]
    rcases List.mem_cons.mp h with rfl | h
    · omega
    · have := depth_mem h; omega
theorem pyL_eq : ∀ l : List D, D.pyL l = l.map D.py
  | [] => by simp [D.pyL]
  | d :: l => by simp [D.pyL, pyL_eq l]
def sp_lhas (m : Nat) : Sp3 := fun l h k => ∃ d : D, l = [d] ∧ d.ok = true ∧ d.py.depth < m ∧ m ≤ 60 ∧ smD d = true ∧ ∀ h', Sub h h' → k (.bl (hasD d)) h'
theorem eq_cell {d : D} {h : H3} {k : K1} (ho : d.ok = true) (q : k (.bl (isCl [d])) h) : T3.rEqN false d (.str "cell") h k := by
  have c1 : PyData.strOk "cell" = true := ok_words4 _ (by simp)
  have z : ∀ e : D, e.ok = true → (∀ x, e ≠ .str x) → k (.bl false) h → T3.rEqN false e (.str "cell") h k := fun e he hn q => by
    refine rEq_py he (by simp [D.ok, c1]) (Nat.le_trans (Nat.min_le_right _ _) (by simp [D.py, PyData.depth])) ?_
    cases e with
    | str x => exact absurd rfl (hn x)
    | non => simpa [D.py, PyData.eqv] using q
    | bl b => simpa [D.py, PyData.eqv] using q
    | int b => simpa [D.py, PyData.eqv] using q
    | tup b => simpa [D.py, PyData.eqv] using q
    | ref a => simp [D.ok] at he
  cases d with
  | str x => simpa [isCl] using q
  | non => exact z _ ho (fun _ e => nomatch e) q
  | bl b => exact z _ ho (fun _ e => nomatch e) q
  | int b => exact z _ ho (fun _ e => nomatch e) q
  | tup b => exact z _ ho (fun _ e => nomatch e) q
  | ref b => exact z _ ho (fun _ e => nomatch e) q
theorem ok_l_has_cell (m : Nat) : ∀ l h k, sp_lhas (m + 1) l h k → W_l_has_cell (sp_lhas m) (en k) (ev0 N_l_has_cell l) h := by
  rintro l h k ⟨d, rfl, ho, hd, hm, hs, post⟩
  cases d with
  | tup l =>
    have hok : D.okL l = true := by simpa [D.ok] using ho
    have hsl : l.length ≤ 1000 ∧ smL l = true := by simpa [smD] using hs
    simp [W_l_has_cell, ev0, T3.rIsi, D.isTy]
    refine rEq_nil hok ?_
    cases l with
    | nil =>
      have := post h (Sub.refl h)
      simp [hasD, hasL, isCl] at this ⊢
      exact en_rt this
    | cons x l =>
      simp
      have hx : x.ok = true := (okL_iff.mp hok) x List.mem_cons_self
      refine eq_cell hx ?_
      simp
      have ec : isCl [x] = isCl (x :: l) := by cases x <;> rfl
      rw [ec]
      split
      · rename_i c
        have := post h (Sub.refl h)
        simp [hasD, c] at this
        exact en_rt this
      · rename_i c
        have c : isCl (x :: l) = false := by simpa using c
        intro t nt
        refine lc_pure hasD (fun _ => .int 1) (by simp at hsl ⊢; omega) (fun _ _ _ => trivial) ?_ ?_ ?_
        · intro y hy o h1 s1 K hK
          simp
          refine ⟨y, rfl, (okL_iff.mp hok) y hy, ?_, by omega, smL_iff.mp hsl.2 y hy, fun h' s' => hK h' s'⟩
          have h1 : y.py.depth ≤ PyData.depthAll (D.pyL (x :: l)) := by
            rw [pyL_eq]; exact depth_mem (List.mem_map_of_mem hy)
          simp [D.py, PyData.depth] at hd
          omega
        · intro y hy _ o h1 s1 K hK
          exact hK _ (Sub.refl _)
        · intro q nq
          have ntq : t ≠ q := fun z => by subst z; rw [up_same] at nq; cases nq
          have e1 : ∀ r : List D, D.okL (r.map fun _ => D.int 1) = true := fun r => by
            rw [okL_iff]; intro d hd; obtain ⟨_, _, rfl⟩ := List.mem_map.mp hd; rfl
          refine rEq_nilL (by rw [up_ne ntq]; exact up_same) up_same (e1 _) ?_
          have := post _ (((Sub.refl h).up nt).trans ((Sub.refl _).up (o := .lst []) nq))
          have e2 : hasD (.tup (x :: l)) = ((((x :: l).filter hasD).map fun _ => D.int 1).isEmpty != true) := by
            simp only [hasD, c, Bool.false_or, hasL_any]
            rw [Bool.eq_iff_iff]
            simp [List.isEmpty_iff, List.filter_eq_nil_iff]
            cases hasD x <;> simp
          rw [e2] at this
          exact en_rt this
  | ref a => simp [D.ok] at ho
  | _ =>
    have := post h (Sub.refl h)
    simp [W_l_has_cell, ev0, T3.rIsi, D.isTy, hasD] at this ⊢
    exact en_rt this
end Lk04
end
-- G4T
section
set_option maxRecDepth 100000
set_option maxHeartbeats 4000000
/-! G4T: the program's items. -/
namespace Lk04
open PySem PySem.Spec PyProof.Rows L2 T3 P04
/-- the items found so far, at p -/
structure Fnd (so : List (List Key) → O) (h0 h : H3) (p : Addr) (L : List (List Key)) : Prop where
  new : h0 p = none
  at_ : h p = some (so L)
  sub : Sub h0 h
def soT (L : List (List Key)) : O := .dT (seenOf L)
def soL (L : List (List Key)) : O := .lst (L.map dOf)
section
variable {so : List (List Key) → O} {h0 h h' : H3} {p : Addr} {L : List (List Key)} {k : List Key}
theorem Fnd.more (F : Fnd so h0 h p L) (s : Sub h h') : Fnd so h0 h' p L := ⟨F.new, s _ _ F.at_, F.sub.trans s⟩
theorem Fnd.put {M : List (List Key)} (F : Fnd so h0 h p L) : Fnd so h0 (up h p (so M)) p M := ⟨F.new, up_same, F.sub.up F.new⟩
theorem Fnd.keep {t : Addr} {o : O} (F : Fnd so h0 h p L) (n : h t = none) : Fnd so (up h0 t o) (up h t o) p L := by
  have ntp : p ≠ t := fun z => by subst z; have := F.at_; rw [n] at this; cases this
  exact ⟨by rw [up_ne ntp]; exact F.new, by rw [up_ne ntp]; exact F.at_, F.sub.up_up⟩
theorem Fnd.less {h1 : H3} (F : Fnd so h1 h p L) (s : Sub h0 h1) : Fnd so h0 h p L := ⟨s.none F.new, F.at_, s.trans F.sub⟩
theorem Fnd.dput (F : Fnd soT h0 h p L) (hl : L.length ≤ 10000) {N : H3 → Prop} {y : D} (hy : y = dOf k) (q : ∀ h', Fnd soT h0 h' p (L ++ [k]) → N h') : ∃ h4, DPt h p y (.bl true) h4 ∧ N h4 := by
  subst hy
  have := seen_len L
  refine ⟨_, dpt_T (ks := k) F.at_ (by omega), q _ ?_⟩
  have z := F.put (M := L ++ [k])
  unfold soT at z
  rw [seen_snoc] at z
  exact z
end
theorem smI_len {n : Str} {l : Int} {j : Nat} {s : Sm} : (smItems n l j s).length ≤ 2 := by
  have := body_len (n := n) (l := l) (j := j) (b := [s])
  simpa [bodyItems] using this
theorem body_snoc {n : Str} {l : Int} {s : Sm} : ∀ {b : List Sm} {j : Nat}, bodyItems n l j (b ++ [s]) = bodyItems n l j b ++ smItems n l (j + b.length) s
  | [], j => by simp [bodyItems]
  | x :: b, j => by
    simp only [List.cons_append, bodyItems, body_snoc (b := b) (j := j + 1), List.append_assoc, List.length_cons]
    rw [show j + 1 + b.length = j + (b.length + 1) by omega]
def W_ioEdges : WS := wFor (wIter (wL sp_targets (wCons (wVar 7) (wNil)))) (gN 8) (wDPut (wC (.bl true)) (wVar 1) (wL rTup (wCons (wC (.str "edge")) (wCons (wVar 2) (wCons (wVar 5) (wCons (wVar 8) (wNil)))))))
def W_ioStms : WS := wFor (wRg1 (wCons (wL T3.rLen (wCons (wVar 6) (wNil))) (wNil))) (gN 9) (wSeq (wFor (wIter (wL sp_stmitems (wCons (wVar 2) (wCons (wVar 5) (wCons (wVar 9) (wCons (w2 T3.rIx (wVar 6) (wVar 9)) (wNil))))))) (gN 10) (wDPut (wC (.bl true)) (wVar 1) (wVar 10))) (wIfS (wB (wL sp_looks (wCons (w2 T3.rIx (wVar 6) (wVar 9)) (wNil)))) (wDPut (wC (.bl true)) (wVar 1) (wL rTup (wCons (wC (.str "index")) (wCons (wVar 2) (wCons (wVar 5) (wCons (wVar 9) (wNil))))))) (wNext)))
def W_ioEnd : WS := wIfS (wB (wL sp_looks (wCons (wVar 7) (wNil)))) (wDPut (wC (.bl true)) (wVar 1) (wL rTup (wCons (wC (.str "index")) (wCons (wVar 2) (wCons (wVar 5) (wCons (w1 rNeg (wC (.int 1))) (wNil))))))) (wNext)
def W_ioBlock : WS := wSeq (wDPut (wC (.bl true)) (wVar 1) (wL rTup (wCons (wC (.str "block")) (wCons (wVar 2) (wCons (wVar 5) (wNil)))))) (wSeq W_ioEdges (wSeq W_ioStms W_ioEnd))
def W_ioRet : WS := wRet (wL rTupleOf (wCons (wL rSorted (wCons (wL rListD (wCons (wVar 1) (wNil))) (wNil))) (wNil)))
theorem W_items_of_eq : W_items_of sp_targets sp_stmitems sp_looks = wSeq (wAsg (wDNewT) (gN 1)) (wSeq (wFor (wIter (w2 T3.rIx (wVar 0) (wC (.int 2)))) (gT [gN 2, gN 3, gN 4]) (wFor (wIter (wVar 4)) (gT [gN 5, gN 6, gN 7]) W_ioBlock)) W_ioRet) := rfl
section
variable {pg : Pg} {h0 h : H3} {p : Addr} {L : List (List Key)} {pr : Pr} {b : Bk} {E : En} {a0 a3 a4 a8 a9 a10 : Option D}
theorem io_edges {a6 : Option D} (F : Fnd soT h0 h p L) (hl : L.length ≤ 5000)
    (post : ∀ h' x8, Fnd soT h0 h' p (L ++ (ndTargets b.nd).map (edgeK pr.name b.label)) → E.nx [a0, some (.ref p), some (.str pr.name), a3, a4, some (.int b.label), a6, some b.nd.toD, x8, a9, a10] h') :
    W_ioEdges E [a0, some (.ref p), some (.str pr.name), a3, a4, some (.int b.label), a6, some b.nd.toD, a8, a9, a10] h := by
  have h4 : (ndTargets b.nd).length ≤ 2 := by cases b.nd <;> simp [ndTargets]
  unfold W_ioEdges
  simp
  refine ⟨b.nd, rfl, ?_⟩
  simp
  refine for_inv (fun j ρ h' => ∃ x8, ρ = [a0, some (.ref p), some (.str pr.name), a3, a4, some (.int b.label), a6, some b.nd.toD, x8, a9, a10] ∧ Fnd soT h0 h' p (L ++ ((ndTargets b.nd).take j).map (edgeK pr.name b.label)))
    (fun _ _ _ _ _ => trivial) ⟨a8, rfl, by simpa using F⟩ ?_ ?_
  · rintro j x ρ h1 hx ⟨x8, rfl, F1⟩ N hN
    rw [List.getElem?_map] at hx
    cases ht : (ndTargets b.nd)[j]? with
    | none => rw [ht] at hx; simp at hx
    | some m =>
      rw [ht] at hx
      simp at hx
      subst hx
      simp [wDPut]
      refine F1.dput (k := edgeK pr.name b.label m) (by simp; omega) rfl fun h' F2 => hN _ _ ⟨_, rfl, ?_⟩
      rw [List.take_succ, ht]
      simpa using F2
  · rintro ρ h1 ⟨x8, rfl, F1⟩
    refine post h1 x8 ?_
    simpa using F1
theorem io_stms {a7 : Option D} (ok : PgOk pg) (hp : pr ∈ pg.procs) (hb : b ∈ pr.blocks) (F : Fnd soT h0 h p L) (hl : L.length ≤ 5000)
    (post : ∀ h' x9 x10, Fnd soT h0 h' p (L ++ bodyItems pr.name b.label 0 b.body) → E.nx [a0, some (.ref p), some (.str pr.name), a3, a4, some (.int b.label), some (.tup (b.body.map Sm.toD)), a7, a8, x9, x10] h') :
    W_ioStms E [a0, some (.ref p), some (.str pr.name), a3, a4, some (.int b.label), some (.tup (b.body.map Sm.toD)), a7, a8, a9, a10] h := by
  have O := ok.each pr hp
  have hbl := O.body b hb
  unfold W_ioStms
  simp
  refine ⟨by omega, ?_⟩
  refine for_inv (fun j ρ h' => ∃ x9 x10, ρ = [a0, some (.ref p), some (.str pr.name), a3, a4, some (.int b.label), some (.tup (b.body.map Sm.toD)), a7, a8, x9, x10] ∧ Fnd soT h0 h' p (L ++ bodyItems pr.name b.label 0 (b.body.take j)))
    (fun _ _ _ _ _ => trivial) ⟨a9, a10, rfl, by simpa [bodyItems] using F⟩ ?_ ?_
  · rintro j x ρ h1 hx ⟨x9, x10, rfl, F1⟩ N hN
    have hj : j < b.body.length := by
      have := (List.getElem?_eq_some_iff.mp hx).1
      simpa [rgD] using this
    have ex : x = .int j := by
      have := (List.getElem?_eq_some_iff.mp hx).2
      rw [← this]; simp [rgD]
    subst ex
    have hix : atI (b.body.map Sm.toD) (j : Int) = some b.body[j].toD := atI_nat (by simp [hj])
    have hs := O.sms b hb _ (List.getElem_mem hj)
    have e2 : b.body.take (j + 1) = b.body.take j ++ [b.body[j]] := by rw [List.take_succ_eq_append_getElem hj]
    have e3 : bodyItems pr.name b.label 0 (b.body.take (j + 1)) = bodyItems pr.name b.label 0 (b.body.take j) ++ smItems pr.name b.label j b.body[j] := by
      rw [e2, body_snoc]
      simp [List.length_take, Nat.min_eq_left (Nat.le_of_lt hj)]
    have h3 := body_len (n := pr.name) (l := b.label) (b := b.body.take j) (j := 0)
    have hlt : (b.body.take j).length ≤ 6 := by simp; omega
    generalize b.body[j] = s at hix hs e3
    have hcall : ∀ v q es, s = .call v q es → es.length ≤ 1000 := by
      rintro v q es rfl
      obtain ⟨q0, hq0, eq0⟩ := List.mem_map.mp (show (q, (es.length : Int)) ∈ pns pg from hs.2.1)
      have h1 := (ok.each q0 hq0).prm
      have h2 := congrArg Prod.snd eq0
      simp only at h2; omega
    simp [hix]
    refine ⟨pr.name, b.label, j, s, rfl, fun t nt => ?_⟩
    have F2 := F1.keep (o := .lst ((smMeets pr.name b.label j s).map dOf)) nt
    have n0 := F1.sub.none nt
    have s0 := (Sub.refl h0).up (o := .lst ((smMeets pr.name b.label j s).map dOf)) n0
    have hml : (smMeets pr.name b.label j s).length ≤ 1 := by cases s <;> simp [smMeets]
    simp
    refine for_inv (fun i ρ h' => ∃ y10, ρ = [a0, some (.ref p), some (.str pr.name), a3, a4, some (.int b.label), some (.tup (b.body.map Sm.toD)), a7, a8, some (.int j), y10] ∧ Fnd soT (up h0 t (.lst ((smMeets pr.name b.label j s).map dOf))) h' p (L ++ bodyItems pr.name b.label 0 (b.body.take j) ++ (smMeets pr.name b.label j s).take i))
      (fun _ _ _ _ ⟨_, _, q⟩ => q.sub _ _ up_same) ⟨x10, rfl, by simpa using F2⟩ ?_ ?_
    · rintro i x ρ h2 hx ⟨y10, rfl, F3⟩ N2 hN2
      rw [List.getElem?_map] at hx
      cases hm : (smMeets pr.name b.label j s)[i]? with
      | none => rw [hm] at hx; simp at hx
      | some q =>
        rw [hm] at hx
        simp at hx
        subst hx
        simp [wDPut]
        refine F3.dput (k := q) (by simp; omega) rfl fun h' F4 => hN2 _ _ ⟨_, rfl, ?_⟩
        rw [List.take_succ, hm]
        simpa using F4
    · rintro ρ h2 ⟨y10, rfl, F3⟩
      have F3 := F3.less s0
      simp [hix]
      refine ⟨s.toD, smLooks s, p2 pg.w, pg.arrays, pns pg, [], rfl, fun h3 s3 => ?_, .inl ⟨s, rfl, hs, rfl, hcall⟩⟩
      have F4 := F3.more s3
      simp
      split
      · rename_i c
        simp [wDPut]
        refine F4.dput (k := indexK pr.name b.label j) (by simp; omega) rfl fun h' F5 => hN _ _ ⟨_, _, rfl, ?_⟩
        rw [e3]
        simpa [smItems, c] using F5
      · rename_i c
        refine hN _ _ ⟨_, _, rfl, ?_⟩
        rw [e3]
        simpa [smItems, c] using F4
  · rintro ρ h1 ⟨x9, x10, rfl, F1⟩
    refine post h1 _ _ ?_
    simpa [rgD] using F1
theorem io_end (ok : PgOk pg) (hp : pr ∈ pg.procs) (hb : b ∈ pr.blocks) {a6 : Option D} (F : Fnd soT h0 h p L) (hl : L.length ≤ 5000)
    (post : ∀ h', Fnd soT h0 h' p (L ++ (if ndLooks b.nd = true then [indexK pr.name b.label (-1)] else [])) → E.nx [a0, some (.ref p), some (.str pr.name), a3, a4, some (.int b.label), a6, some b.nd.toD, a8, a9, a10] h') :
    W_ioEnd E [a0, some (.ref p), some (.str pr.name), a3, a4, some (.int b.label), a6, some b.nd.toD, a8, a9, a10] h := by
  have O := ok.each pr hp
  unfold W_ioEnd
  simp
  refine ⟨b.nd.toD, ndLooks b.nd, p2 pg.w, pg.arrays, [], pr.blocks.map Bk.label, rfl, fun h1 s1 => ?_, .inr ⟨b.nd, rfl, O.nds b hb, rfl⟩⟩
  have F1 := F.more s1
  simp
  split
  · rename_i c
    simp [wDPut]
    refine F1.dput (k := indexK pr.name b.label (-1)) (by omega) rfl fun h' F5 => post h' ?_
    rw [if_pos c]; exact F5
  · rename_i c
    refine post h1 ?_
    rw [if_neg c]; simpa using F1
theorem io_block (ok : PgOk pg) (hp : pr ∈ pg.procs) (hb : b ∈ pr.blocks) (F : Fnd soT h0 h p L) (hl : L.length ≤ 4000)
    (post : ∀ h' x8 x9 x10, Fnd soT h0 h' p (L ++ blkItems pr.name b) → E.nx [a0, some (.ref p), some (.str pr.name), a3, a4, some (.int b.label), some (.tup (b.body.map Sm.toD)), some b.nd.toD, x8, x9, x10] h') :
    W_ioBlock E [a0, some (.ref p), some (.str pr.name), a3, a4, some (.int b.label), some (.tup (b.body.map Sm.toD)), some b.nd.toD, a8, a9, a10] h := by
  have O := ok.each pr hp
  have hbl := O.body b hb
  have h4 : (ndTargets b.nd).length ≤ 2 := by cases b.nd <;> simp [ndTargets]
  have h3 := body_len (n := pr.name) (l := b.label) (b := b.body) (j := 0)
  unfold W_ioBlock
  simp [wDPut]
  refine F.dput (k := blockK pr.name b.label) (by omega) rfl fun h1 F1 => ?_
  refine io_edges F1 (by simp; omega) fun h2 x8 F2 => ?_
  refine io_stms ok hp hb F2 (by simp; omega) fun h3 x9 x10 F3 => ?_
  refine io_end ok hp hb F3 (by simp; omega) fun h4 F4 => ?_
  refine post h4 x8 x9 x10 ?_
  simpa [blkItems] using F4
end
/-- a program's items in order -/
def sp_itemsof : Sp3 := fun l h k => ∃ pg, l = [pg.toD] ∧ PgOk pg ∧
  ∀ ys h', Sub h h' → ys.Nodup → (∀ d, d ∈ ys ↔ d ∈ (allItems pg).map dOf) → ys.Pairwise (fun x y => ltD y x = false) → k (.tup ys) h'
theorem blk_len {n : Str} {b : Bk} (h : b.body.length ≤ 6) : (blkItems n b).length ≤ 16 := by
  have h2 := body_len (n := n) (l := b.label) (b := b.body) (j := 0)
  have h4 : (ndTargets b.nd).length ≤ 2 := by cases b.nd <;> simp [ndTargets]
  simp only [blkItems, List.length_append, List.length_map]
  split <;> simp <;> omega
theorem procs_len {pg : Pg} (ok : PgOk pg) {l : List Pr} (h : ∀ p ∈ l, p ∈ pg.procs) : (l.flatMap fun p => p.blocks.flatMap (blkItems p.name)).length ≤ 96 * l.length :=
  flat_len fun p hp => by
    have o := ok.each p (h p hp)
    have := flat_len (f := blkItems p.name) (c := 16) (l := p.blocks) fun b hb => blk_len (o.body b hb)
    have := o.few
    omega
theorem take_get {α β : Type} {l : List α} {f : α → β} {j : Nat} {x : β} (h : (l.map f)[j]? = some x) : ∃ hj : j < l.length, x = f l[j] ∧ l.take (j + 1) = l.take j ++ [l[j]] := by
  rw [List.getElem?_map] at h
  have hj : j < l.length := by
    rcases Nat.lt_or_ge j l.length with z | z
    · exact z
    · rw [List.getElem?_eq_none z] at h; simp at h
  rw [List.getElem?_eq_getElem hj] at h
  simp at h
  exact ⟨hj, h.symm, by rw [List.take_succ_eq_append_getElem hj]⟩
theorem ok_items_of : ∀ l h k, sp_itemsof l h k → W_items_of sp_targets sp_stmitems sp_looks (en k) (ev0 N_items_of l) h := by
  rintro l h k ⟨pg, rfl, ok, post⟩
  have pf := ok.pf
  rw [W_items_of_eq]
  simp only [s_seq, s_asg]
  intro p np
  have F0 : Fnd soT h (up h p (.dT [])) p [] := ⟨np, up_same, (Sub.refl h).up np⟩
  generalize up h p (.dT []) = hh at F0 ⊢
  simp [ev0, Pg.toD]
  refine for_inv (fun j ρ h' => ∃ x2 x3 x4 x5 x6 x7 x8 x9 x10, ρ = [some pg.toD, some (.ref p), x2, x3, x4, x5, x6, x7, x8, x9, x10] ∧ Fnd soT h h' p ((pg.procs.take j).flatMap fun p => p.blocks.flatMap (blkItems p.name)))
    (fun _ _ _ _ _ => trivial) ⟨_, _, _, _, _, _, _, _, _, rfl, F0⟩ ?_ ?_
  · rintro j x ρ h1 hx ⟨x2, x3, x4, x5, x6, x7, x8, x9, x10, rfl, F1⟩ N hN
    obtain ⟨hj, rfl, etk⟩ := take_get hx
    have hp : pg.procs[j] ∈ pg.procs := List.getElem_mem hj
    have hlen := procs_len ok (l := pg.procs.take j) fun q hq => List.mem_of_mem_take hq
    have htl : (pg.procs.take j).length ≤ 3 := by simp; omega
    have hN2 : ∀ x2 x3 x4 x5 x6 x7 x8 x9 x10 h', Fnd soT h h' p (((pg.procs.take j).flatMap fun p => p.blocks.flatMap (blkItems p.name)) ++ pg.procs[j].blocks.flatMap (blkItems pg.procs[j].name)) → N [some pg.toD, some (.ref p), x2, x3, x4, x5, x6, x7, x8, x9, x10] h' := fun _ _ _ _ _ _ _ _ _ h' F => hN _ _ ⟨_, _, _, _, _, _, _, _, _, rfl, by rw [etk, List.flatMap_append, List.flatMap_singleton]; exact F⟩
    generalize pg.procs[j] = pr at hp hN2 ⊢
    have O := ok.each pr hp
    have hfew := O.few
    simp [Pr.toD]
    refine for_inv (fun i ρ h' => ∃ x5 x6 x7 x8 x9 x10, ρ = [some pg.toD, some (.ref p), some (.str pr.name), some (.int pr.params), some (.tup (pr.blocks.map Bk.toD)), x5, x6, x7, x8, x9, x10] ∧ Fnd soT h h' p (((pg.procs.take j).flatMap fun p => p.blocks.flatMap (blkItems p.name)) ++ (pr.blocks.take i).flatMap (blkItems pr.name)))
      (fun _ _ _ _ _ => trivial) ⟨_, _, _, _, _, _, rfl, by simpa using F1⟩ ?_ ?_
    · rintro i y ρ h2 hy ⟨y5, y6, y7, y8, y9, y10, rfl, F2⟩ N2 hN3
      obtain ⟨hi, rfl, etk2⟩ := take_get hy
      have hb : pr.blocks[i] ∈ pr.blocks := List.getElem_mem hi
      have hlb := flat_len (f := blkItems pr.name) (c := 16) (l := pr.blocks.take i) fun b hb => blk_len (O.body b (List.mem_of_mem_take hb))
      have htb : (pr.blocks.take i).length ≤ 6 := by simp; omega
      have hN4 : ∀ x5 x6 x7 x8 x9 x10 h', Fnd soT h h' p (((pg.procs.take j).flatMap fun p => p.blocks.flatMap (blkItems p.name)) ++ (pr.blocks.take i).flatMap (blkItems pr.name) ++ blkItems pr.name pr.blocks[i]) → N2 [some pg.toD, some (.ref p), some (.str pr.name), some (.int pr.params), some (.tup (pr.blocks.map Bk.toD)), x5, x6, x7, x8, x9, x10] h' := fun _ _ _ _ _ _ h' F => hN3 _ _ ⟨_, _, _, _, _, _, rfl, by rw [etk2, List.flatMap_append, List.flatMap_singleton, ← List.append_assoc]; exact F⟩
      generalize pr.blocks[i] = b at hb hN4 ⊢
      simp [Bk.toD]
      exact io_block ok hp hb F2 (by simp only [List.length_append]; omega) fun h' z8 z9 z10 F3 => hN4 _ _ _ _ _ _ _ F3
    · rintro ρ h2 ⟨y5, y6, y7, y8, y9, y10, rfl, F2⟩
      refine hN2 _ _ _ _ _ _ _ _ _ _ ?_
      simpa using F2
  · rintro ρ h1 ⟨x2, x3, x4, x5, x6, x7, x8, x9, x10, rfl, F1⟩
    have F1 : Fnd soT h h1 p (allItems pg) := by simpa [allItems] using F1
    have ha : h1 p = some (.dT (seenOf (allItems pg))) := F1.at_
    obtain ⟨sn, sm⟩ := seen_keys (allItems pg)
    have ek : keysD (seenOf (allItems pg)) = ((seenOf (allItems pg)).map (·.1)).map dOf := by
      unfold keysD; rw [List.map_map]; rfl
    have hit : ∀ q ∈ (seenOf (allItems pg)).map (·.1), ItmOk q := fun q hq => items_ok ok q ((sm q).mp hq)
    simp [W_ioRet]
    refine ⟨p, _, rfl, ha, fun t nt => ?_⟩
    refine ⟨t, _, rfl, up_same, ?_, ?_, fun ys q perm srt nq => ?_⟩
    · rw [ek]
      intro d hd
      obtain ⟨j, hj, rfl⟩ := List.mem_map.mp hd
      exact ⟨(hit j hj).ok, (hit j hj).dep⟩
    · rw [ek]; exact it_srtb hit
    · simp
      have s1 : Sub h1 (up h1 t (.lst (keysD (seenOf (allItems pg))))) := (Sub.refl h1).up nt
      refine en_rt (post ys _ (F1.sub.trans (s1.trans ((Sub.refl _).up nq))) ?_ (fun d => ?_) srt)
      · rw [ek] at perm
        refine (perm.nodup_iff).mpr ?_
        exact List.pairwise_map.mpr (sn.imp fun hne e => hne (dOf_inj e))
      · rw [perm.mem_iff, ek]
        simp only [List.mem_map]
        constructor
        · rintro ⟨j, ⟨q, hq, rfl⟩, rfl⟩
          exact ⟨q.1, (sm q.1).mp (List.mem_map_of_mem hq), rfl⟩
        · rintro ⟨j, hj, rfl⟩
          obtain ⟨q, hq, e⟩ := List.mem_map.mp ((sm j).mpr hj)
          exact ⟨j, ⟨q, hq, e⟩, rfl⟩
end Lk04
end
-- G4U
section
set_option maxRecDepth 100000
set_option maxHeartbeats 4000000
/-! G4U: the program's items, by the law. -/
namespace Lk04
open PySem PySem.Spec PyProof.Rows L2 T3 P04
section
variable {h0 h h' : H3} {p : Addr} {L : List (List Key)} {k : List Key}
theorem Fnd.app {y : D} (F : Fnd soL h0 h p L) (hy : y = dOf k) : Fnd soL h0 (up h p (.lst (L.map dOf ++ [y]))) p (L ++ [k]) := by
  subst hy
  have := F.put (M := L ++ [k])
  simpa [soL] using this
end
def dpK (n : Str) (l : Int) (j : Nat) : List Key := [.inr "deep", .inr n, .inl l, .inl j]
def W_liLc : WE := (wLc (wIter (wDGet2 (wDisp (ppsCons (wC (.str "go")) (wL rLst (wCons (w2 T3.rIx (wVar 7) (wC (.int 1))) (wNil))) (ppsCons (wC (.str "if")) (wL rListOf (wCons (wSl (wVar 7) (oSome (wC (.int 2))) (oNone)) (wNil))) (ppsNil)))) (w2 T3.rIx (wVar 7) (wC (.int 0))) (wL rLst (wNil)))) 10 (wYes) (wL rTup (wCons (wC (.str "edge")) (wCons (wVar 2) (wCons (wVar 5) (wCons (wVar 10) (wNil)))))))
def W_liStms (m : Nat) : WS := wFor (wRg1 (wCons (wL T3.rLen (wCons (wVar 6) (wNil))) (wNil))) (gN 8) (wSeq (wAsg (w2 T3.rIx (wVar 6) (wVar 8)) (gN 9)) (wSeq (wIfS (wB (w2 T3.rEq (w2 T3.rIx (wVar 9) (wC (.int 0))) (wC (.str "assert")))) (wDrop (wAppend (wVar 1) (wCons (wL rTup (wCons (wC (.str "broken")) (wCons (w2 T3.rIx (wVar 9) (wC (.int 1))) (wNil)))) (wNil)))) (wNext)) (wSeq (wIfS (wB (w2 T3.rEq (w2 T3.rIx (wVar 9) (wC (.int 0))) (wC (.str "call")))) (wDrop (wAppend (wVar 1) (wCons (wL rTup (wCons (wC (.str "deep")) (wCons (wVar 2) (wCons (wVar 5) (wCons (wVar 8) (wNil)))))) (wNil)))) (wNext)) (wIfS (wOr (wB (w2 T3.rEq (w2 T3.rIx (wVar 9) (wC (.int 0))) (wC (.str "store")))) (wB (wL (sp_lhas m) (wCons (wVar 9) (wNil))))) (wDrop (wAppend (wVar 1) (wCons (wL rTup (wCons (wC (.str "index")) (wCons (wVar 2) (wCons (wVar 5) (wCons (wVar 8) (wNil)))))) (wNil)))) (wNext)))))
def W_liEnd (m : Nat) : WS := wIfS (wB (wL (sp_lhas m) (wCons (wVar 7) (wNil)))) (wDrop (wAppend (wVar 1) (wCons (wL rTup (wCons (wC (.str "index")) (wCons (wVar 2) (wCons (wVar 5) (wCons (w1 rNeg (wC (.int 1))) (wNil)))))) (wNil)))) (wNext)
def W_liBlock (m : Nat) : WS := (wSeq (wDrop (wAppend (wVar 1) (wCons (wL rTup (wCons (wC (.str "block")) (wCons (wVar 2) (wCons (wVar 5) (wNil))))) (wNil)))) (wSeq (wAsg (w2 T3.rAdd (wVar 1) W_liLc) (gN 1)) (wSeq (W_liStms m) (W_liEnd m))))
def W_liRet : WS := wRet (wL rTupleOf (wCons (w1 rSortSet (wVar 1)) (wNil)))
theorem W_l_items_eq (m : Nat) : W_l_items (sp_lhas m) = wSeq (wAsg (wL rLst (wNil)) (gN 1)) (wSeq (wFor (wIter (w2 T3.rIx (wVar 0) (wC (.int 2)))) (gT [gN 2, gN 3, gN 4]) (wFor (wIter (wVar 4)) (gT [gN 5, gN 6, gN 7]) (W_liBlock m))) W_liRet) := rfl
section
variable {pg : Pg} {h0 h : H3} {p : Addr} {L : List (List Key)} {pr : Pr} {b : Bk} {E : En} {a0 a3 a4 a8 a9 a10 : Option D} {m : Nat}
/-- [("edge", name, label, aim) for aim in ..] -/
theorem li_lc {ρ : Ev} {k : K1} {nm : Str} {lb : Int} {n : Nd} (h2 : ρ[2]? = some (some (.str nm))) (h5 : ρ[5]? = some (some (.int lb))) (h7 : ρ[7]? = some (some n.toD)) (hl : ρ.length = 11)
    (post : ∀ h' r, Sub h h' → h' r = some (.lst (((ndTargets n).map (edgeK nm lb)).map dOf)) → k (.ref r) h') : W_liLc ρ h k := by
  have h4 : (ndTargets n).length ≤ 2 := by cases n <;> simp [ndTargets]
  have go : ∀ (h1 : H3) (a : Addr), Sub h h1 → h1 a = some (.lst ((ndTargets n).map .int)) → lcD 10 wYes (wL rTup (wCons (wC (.str "edge")) (wCons (wVar 2) (wCons (wVar 5) (wCons (wVar 10) (wNil)))))) ρ k (.ref a) h1 := by
    intro h1 a s1 ha
    rw [lcD_ref]
    refine ⟨⟨_, ha⟩, fun t nt => ⟨_, ha, ?_⟩⟩
    refine lc_map (fun d => .tup [.str "edge", .str nm, .int lb, d]) (by simp; omega) (fun o h' s => s _ _ (((Sub.refl h1).up nt) _ _ ha)) ?_ ?_
    · intro x hx o h' s K hK
      have e2 : (ρ.set 10 (some x))[2]? = some (some (.str nm)) := by rw [List.getElem?_set_ne (by decide)]; exact h2
      have e5 : (ρ.set 10 (some x))[5]? = some (some (.int lb)) := by rw [List.getElem?_set_ne (by decide)]; exact h5
      have e10 : (ρ.set 10 (some x))[10]? = some (some x) := List.getElem?_set_self (by omega)
      simp only [s_L, s_cons, s_c, s_var, s_nil, s_tup]
      exact ⟨_, e2, _, e5, _, e10, by simp, hK _ (Sub.refl _)⟩
    · refine post _ t (s1.trans ((Sub.refl h1).up nt)) ?_
      rw [up_same, List.map_map, List.map_map]
      rfl
  unfold W_liLc
  rw [lcs_it]
  unfold wDGet2 wDisp
  intro x nx
  have hne : ∀ {g : H3} {y : Addr} {o : O}, g x = some (.dK []) → g y = none → (up g y o) x = some (.dK []) := fun {g y o} e n => by
    rw [up_ne (fun z => by subst z; rw [n] at e; cases e)]; exact e
  have em : ∀ d e : D, mergeD [] [((.inr "go" : Key), d), (.inr "if", e)] = [(.inr "go", d), (.inr "if", e)] := fun d e => by
    rw [mergeD_new]; rfl
    simp only [List.nil_append, List.map_cons, List.map_nil]; decide +kernel
  obtain ⟨d1, l2, w, q1, q2, q3⟩ : ∃ (d1 : D) (l2 : List D) (w : Str), (∀ (h : H3) (K : K1), K d1 h → w2 T3.rIx (wVar 7) (wC (.int 1)) ρ h K) ∧ (∀ (h : H3) (K : K1), (∀ p, h p = none → K (.ref p) (up h p (.lst l2))) → wL rListOf (wCons (wSl (wVar 7) (oSome (wC (.int 2))) (oNone)) (wNil)) ρ h K) ∧
      ((∀ (h : H3) (K : K1), K (.str w) h → w2 T3.rIx (wVar 7) (wC (.int 0)) ρ h K) ∧ ((w = "go" ∧ [d1] = (ndTargets n).map .int) ∨ (w = "if" ∧ l2 = (ndTargets n).map .int) ∨ (w ≠ "go" ∧ w ≠ "if" ∧ ndTargets n = []))) := by
    cases n with
    | go l =>
      refine ⟨.int l, [], "go", fun h K q => ⟨_, h7, by simp [Nd.toD]; exact q⟩, fun h K q => ⟨_, h7, by simp [Nd.toD]; exact q⟩, fun h K q => ⟨_, h7, by simp [Nd.toD]; exact q⟩, .inl ⟨rfl, rfl⟩⟩
    | iff e l m =>
      refine ⟨e.toD, [.int l, .int m], "if", fun h K q => ⟨_, h7, by simp [Nd.toD]; exact q⟩, fun h K q => ⟨_, h7, by simp [Nd.toD]; exact q⟩, fun h K q => ⟨_, h7, by simp [Nd.toD]; exact q⟩, .inr (.inl ⟨rfl, rfl⟩)⟩
    | ret e =>
      refine ⟨e.toD, [], "return", fun h K q => ⟨_, h7, by simp [Nd.toD]; exact q⟩, fun h K q => ⟨_, h7, by simp [Nd.toD]; exact q⟩, fun h K q => ⟨_, h7, by simp [Nd.toD]; exact q⟩, .inr (.inr ⟨by simp, by simp, rfl⟩)⟩
  refine wp_new (x := .str "go") (o := .lst [d1]) (fun K q => q) (fun K q => q1 _ _ ⟨by simp, q⟩) fun y ny => ?_
  refine wp_new (x := .str "if") (o := .lst l2) (fun K q => q) (fun K q => q2 _ _ q) fun z nz => ?_
  refine ⟨hne (hne up_same ny) nz, _, rfl, Nat.le_of_ble_eq_true rfl, x, rfl, .inl ⟨_, up_same⟩, q3.1 _ _ ⟨by decide, fun t nt => ?_⟩⟩
  rw [em] at nt ⊢
  have s1 : Sub h (up h x (.dK [])) := (Sub.refl h).up nx
  have s2 := s1.up (o := .lst [d1]) (s1.none ny)
  have s3 := s2.up (o := .lst l2) (s2.none nz)
  have s4 := s3.up (o := .dK [((.inr "go" : Key), .ref y), (.inr "if", .ref z)]) nx
  have s5 := s4.up (o := .lst []) (s4.none nt)
  have tx : x ≠ t := fun z => by subst z; rw [up_same] at nt; cases nt
  have yx : y ≠ x := fun z => by subst z; rw [up_same] at ny; cases ny
  have zy : y ≠ z := fun z => by subst z; rw [up_same] at nz; cases nz
  have zx : z ≠ x := fun e => by subst e; rw [up_ne yx.symm, up_same] at nz; cases nz
  have ty : y ≠ t := fun e => by subst e; rw [up_ne yx, up_ne zy, up_same] at nt; cases nt
  have tz : z ≠ t := fun e => by subst e; rw [up_ne zx, up_same] at nt; cases nt
  have gx : (up (up (up (up (up h x (.dK [])) y (.lst [d1])) z (.lst l2)) x (.dK [((.inr "go" : Key), .ref y), (.inr "if", .ref z)])) t (.lst [])) x = some (.dK [((.inr "go" : Key), .ref y), (.inr "if", .ref z)]) := by
    rw [up_ne tx]; exact up_same
  have gy : (up (up (up (up (up h x (.dK [])) y (.lst [d1])) z (.lst l2)) x (.dK [((.inr "go" : Key), .ref y), (.inr "if", .ref z)])) t (.lst [])) y = some (.lst [d1]) := by
    rw [up_ne ty, up_ne yx, up_ne zy]; exact up_same
  have gz : (up (up (up (up (up h x (.dK [])) y (.lst [d1])) z (.lst l2)) x (.dK [((.inr "go" : Key), .ref y), (.inr "if", .ref z)])) t (.lst [])) z = some (.lst l2) := by
    rw [up_ne tz, up_ne zx]; exact up_same
  rcases q3.2 with ⟨rfl, e⟩ | ⟨rfl, e⟩ | ⟨n1, n2, e⟩
  · refine ⟨some (.ref y), (dg_dK gx).mpr ⟨_, rfl, by simp [valD_cons]⟩, ?_⟩
    exact go _ y s5 (by rw [gy, e])
  · refine ⟨some (.ref z), (dg_dK gx).mpr ⟨_, rfl, by simp [valD_cons]⟩, ?_⟩
    exact go _ z s5 (by rw [gz, e])
  · refine ⟨none, (dg_dK gx).mpr ⟨_, rfl, by simp [valD_cons, valD_nil, Ne.symm n1, Ne.symm n2]⟩, ?_⟩
    exact go _ t s5 (by rw [up_same, e]; rfl)
theorem li_stms {a7 : Option D} (hm : 12 ≤ m ∧ m ≤ 60) (ok : PgOk pg) (hp : pr ∈ pg.procs) (hb : b ∈ pr.blocks) (F : Fnd soL h0 h p L) (hl : L.length ≤ 5000)
    (post : ∀ h' x8 x9, Fnd soL h0 h' p (L ++ bodyItems pr.name b.label 0 b.body) → E.nx [a0, some (.ref p), some (.str pr.name), a3, a4, some (.int b.label), some (.tup (b.body.map Sm.toD)), a7, x8, x9, a10] h') :
    W_liStms m E [a0, some (.ref p), some (.str pr.name), a3, a4, some (.int b.label), some (.tup (b.body.map Sm.toD)), a7, a8, a9, a10] h := by
  have O := ok.each pr hp
  have hbl := O.body b hb
  unfold W_liStms
  simp
  refine ⟨by omega, ?_⟩
  refine for_inv (fun j ρ h' => ∃ x8 x9, ρ = [a0, some (.ref p), some (.str pr.name), a3, a4, some (.int b.label), some (.tup (b.body.map Sm.toD)), a7, x8, x9, a10] ∧ Fnd soL h0 h' p (L ++ bodyItems pr.name b.label 0 (b.body.take j)))
    (fun _ _ _ _ _ => trivial) ⟨a8, a9, rfl, by simpa [bodyItems] using F⟩ ?_ ?_
  · rintro j x ρ h1 hx ⟨x8, x9, rfl, F1⟩ N hN
    have hj : j < b.body.length := by
      have := (List.getElem?_eq_some_iff.mp hx).1
      simpa [rgD] using this
    have ex : x = .int j := by
      have := (List.getElem?_eq_some_iff.mp hx).2
      rw [← this]; simp [rgD]
    subst ex
    have hix : atI (b.body.map Sm.toD) (j : Int) = some b.body[j].toD := atI_nat (by simp [hj])
    have hs := O.sms b hb _ (List.getElem_mem hj)
    have e2 : b.body.take (j + 1) = b.body.take j ++ [b.body[j]] := by rw [List.take_succ_eq_append_getElem hj]
    have e3 : bodyItems pr.name b.label 0 (b.body.take (j + 1)) = bodyItems pr.name b.label 0 (b.body.take j) ++ smItems pr.name b.label j b.body[j] := by
      rw [e2, body_snoc]
      simp [List.length_take, Nat.min_eq_left (Nat.le_of_lt hj)]
    have h3 := body_len (n := pr.name) (l := b.label) (b := b.body.take j) (j := 0)
    have hlt : (b.body.take j).length ≤ 6 := by simp; omega
    generalize b.body[j] = s at hix hs e3
    have hcall : ∀ v q es, s = .call v q es → es.length ≤ 1000 := by
      rintro v q es rfl
      obtain ⟨q0, hq0, eq0⟩ := List.mem_map.mp (show (q, (es.length : Int)) ∈ pns pg from hs.2.1)
      have h1 := (ok.each q0 hq0).prm
      have h2 := congrArg Prod.snd eq0
      simp only at h2; omega
    generalize hM : L ++ bodyItems pr.name b.label 0 (b.body.take j) = M at F1
    have hMl : M.length ≤ 6000 := by rw [← hM]; simp; omega
    have fin : ∀ x8 x9 h', Fnd soL h0 h' p (M ++ smItems pr.name b.label j s) → N [a0, some (.ref p), some (.str pr.name), a3, a4, some (.int b.label), some (.tup (b.body.map Sm.toD)), a7, x8, x9, a10] h' := fun x8 x9 h' F => hN _ _ ⟨_, _, rfl, by rw [e3, ← List.append_assoc, hM]; exact F⟩
    have hst : PyData.strOk "store" = true := by decide +kernel
    have has : ∀ h1 k, (∀ h', Sub h1 h' → k (.bl (hasD s.toD)) h') → sp_lhas m [s.toD] h1 k := fun h1 k q => by
      refine ⟨s.toD, rfl, hs.ok ok.ao (fun a ha => ?_), ?_, hm.2, sm_sm hcall, q⟩
      · obtain ⟨q0, hq0, rfl⟩ := List.mem_map.mp ha
        exact (ok.each q0 hq0).nm
      · have := hs.dep; omega
    have fM : ∀ {h'}, Fnd soL h0 h' p M → h' p = some (.lst (M.map dOf)) := fun F => F.at_
    cases s with
    | store a e f =>
      simp [hix, Sm.toD]
      simp [wAppend, fM F1]
      refine ⟨by omega, fin _ _ _ ?_⟩
      simpa [smItems, smMeets, smLooks, dOf, kD, indexK] using F1.app (k := indexK pr.name b.label j) rfl
    | assert i e =>
      have e1 := has_sm hs (fun _ _ _ => nofun)
      simp [hix, Sm.toD]
      simp [wAppend, fM F1]
      refine ⟨by omega, ?_⟩
      have F2 := F1.app (k := brokenK i) rfl
      have f2 : ∀ {h'}, Fnd soL h0 h' p (M ++ [brokenK i]) → h' p = some (.lst ((M ++ [brokenK i]).map dOf)) := fun F => F.at_
      refine has _ _ fun h2 s2 => ?_
      have F3 := F2.more s2
      rw [e1]
      simp
      split
      · rename_i c
        simp [wAppend, f2 F3]
        refine ⟨by omega, fin _ _ _ ?_⟩
        simpa [smItems, smMeets, c, dOf, kD, indexK, brokenK, dpK] using F3.app (k := indexK pr.name b.label j) rfl
      · rename_i c
        refine fin _ _ _ ?_
        simpa [smItems, smMeets, c, dpK] using F3
    | call v q es =>
      have e1 := has_sm hs (fun _ _ _ => nofun)
      simp [hix, Sm.toD]
      simp [wAppend, fM F1]
      refine ⟨by omega, ?_⟩
      have F2 := F1.app (k := (dpK pr.name b.label j)) rfl
      have f2 : ∀ {h'}, Fnd soL h0 h' p (M ++ [(dpK pr.name b.label j)]) → h' p = some (.lst ((M ++ [(dpK pr.name b.label j)]).map dOf)) := fun F => F.at_
      refine has _ _ fun h2 s2 => ?_
      have F3 := F2.more s2
      rw [e1]
      simp
      split
      · rename_i c
        simp [wAppend, f2 F3]
        refine ⟨by omega, fin _ _ _ ?_⟩
        simpa [smItems, smMeets, c, dOf, kD, indexK, brokenK, dpK] using F3.app (k := indexK pr.name b.label j) rfl
      · rename_i c
        refine fin _ _ _ ?_
        simpa [smItems, smMeets, c, dpK] using F3
    | set v e =>
      have e1 := has_sm hs (fun _ _ _ => nofun)
      simp [hix, Sm.toD]
      refine has _ _ fun h2 s2 => ?_
      have F3 := F1.more s2
      rw [e1]
      simp
      split
      · rename_i c
        simp [wAppend, fM F3]
        refine ⟨by omega, fin _ _ _ ?_⟩
        simpa [smItems, smMeets, c, dOf, kD, indexK, brokenK, dpK] using F3.app (k := indexK pr.name b.label j) rfl
      · rename_i c
        refine fin _ _ _ ?_
        simpa [smItems, smMeets, c, dpK] using F3
    | take v =>
      have e1 := has_sm hs (fun _ _ _ => nofun)
      simp [hix, Sm.toD]
      refine has _ _ fun h2 s2 => ?_
      have F3 := F1.more s2
      rw [e1]
      simp [smLooks]
      refine fin _ _ _ ?_
      simpa [smItems, smMeets, smLooks] using F3
    | put e =>
      have e1 := has_sm hs (fun _ _ _ => nofun)
      simp [hix, Sm.toD]
      refine has _ _ fun h2 s2 => ?_
      have F3 := F1.more s2
      rw [e1]
      simp
      split
      · rename_i c
        simp [wAppend, fM F3]
        refine ⟨by omega, fin _ _ _ ?_⟩
        simpa [smItems, smMeets, c, dOf, kD, indexK, brokenK, dpK] using F3.app (k := indexK pr.name b.label j) rfl
      · rename_i c
        refine fin _ _ _ ?_
        simpa [smItems, smMeets, c, dpK] using F3
  · rintro ρ h1 ⟨x8, x9, rfl, F1⟩
    refine post h1 _ _ ?_
    simpa [rgD] using F1
theorem li_end {a6 : Option D} (hm : 12 ≤ m ∧ m ≤ 60) (ok : PgOk pg) (hp : pr ∈ pg.procs) (hb : b ∈ pr.blocks) (F : Fnd soL h0 h p L) (hl : L.length ≤ 5000)
    (post : ∀ h', Fnd soL h0 h' p (L ++ (if ndLooks b.nd = true then [indexK pr.name b.label (-1)] else [])) → E.nx [a0, some (.ref p), some (.str pr.name), a3, a4, some (.int b.label), a6, some b.nd.toD, a8, a9, a10] h') :
    W_liEnd m E [a0, some (.ref p), some (.str pr.name), a3, a4, some (.int b.label), a6, some b.nd.toD, a8, a9, a10] h := by
  have O := ok.each pr hp
  have hn := O.nds b hb
  unfold W_liEnd
  simp
  refine ⟨b.nd.toD, rfl, hn.ok ok.ao, by have := hn.dep; omega, hm.2, sm_nd, fun h1 s1 => ?_⟩
  have F1 := F.more s1
  have fM : ∀ {h'}, Fnd soL h0 h' p L → h' p = some (.lst (L.map dOf)) := fun F => F.at_
  rw [has_nd hn]
  simp
  split
  · rename_i c
    simp [wAppend, fM F1]
    refine ⟨by omega, post _ ?_⟩
    rw [if_pos c]
    exact F1.app (k := indexK pr.name b.label (-1)) rfl
  · rename_i c
    refine post h1 ?_
    rw [if_neg c]; simpa using F1
theorem li_block (hm : 12 ≤ m ∧ m ≤ 60) (ok : PgOk pg) (hp : pr ∈ pg.procs) (hb : b ∈ pr.blocks) (F : Fnd soL h0 h p L) (hl : L.length ≤ 4000)
    (post : ∀ p' h' x8 x9 x10, Fnd soL h0 h' p' (L ++ blkItems pr.name b) → E.nx [a0, some (.ref p'), some (.str pr.name), a3, a4, some (.int b.label), some (.tup (b.body.map Sm.toD)), some b.nd.toD, x8, x9, x10] h') :
    W_liBlock m E [a0, some (.ref p), some (.str pr.name), a3, a4, some (.int b.label), some (.tup (b.body.map Sm.toD)), some b.nd.toD, a8, a9, a10] h := by
  have O := ok.each pr hp
  have hbl := O.body b hb
  have h4 : (ndTargets b.nd).length ≤ 2 := by cases b.nd <;> simp [ndTargets]
  have h3 := body_len (n := pr.name) (l := b.label) (b := b.body) (j := 0)
  have fM : ∀ {h'}, Fnd soL h0 h' p L → h' p = some (.lst (L.map dOf)) := fun F => F.at_
  unfold W_liBlock
  simp [wAppend, fM F]
  refine ⟨by omega, ?_⟩
  have F1 := F.app (k := blockK pr.name b.label) rfl
  refine li_lc (nm := pr.name) (lb := b.label) (n := b.nd) rfl rfl rfl rfl fun h1 r s1 hr => ?_
  have F2 := F1.more s1
  have f2 : h1 p = some (.lst ((L ++ [blockK pr.name b.label]).map dOf)) := F2.at_
  simp [f2, hr]
  refine ⟨by omega, fun t nt => ?_⟩
  have F3 : Fnd soL h0 (up h1 t (.lst (L.map dOf ++ dOf (blockK pr.name b.label) :: (ndTargets b.nd).map (dOf ∘ edgeK pr.name b.label)))) t (L ++ [blockK pr.name b.label] ++ (ndTargets b.nd).map (edgeK pr.name b.label)) := by
    refine ⟨F2.sub.none nt, by rw [up_same]; simp [soL], F2.sub.up (F2.sub.none nt)⟩
  refine li_stms hm ok hp hb F3 (by simp; omega) fun h2 x8 x9 F4 => ?_
  refine li_end hm ok hp hb F4 (by simp; omega) fun h3 F5 => ?_
  refine post t h3 _ _ _ ?_
  simpa [blkItems] using F5
end
theorem ok_l_items (m : Nat) (hm : 12 ≤ m ∧ m ≤ 60) : ∀ l h k, sp_itemsof l h k → W_l_items (sp_lhas m) (en k) (ev0 N_l_items l) h := by
  rintro l h k ⟨pg, rfl, ok, post⟩
  have pf := ok.pf
  rw [W_l_items_eq]
  simp only [s_seq, s_asg]
  refine ⟨by decide, fun p np => ?_⟩
  have F0 : Fnd soL h (up h p (.lst [])) p [] := ⟨np, up_same, (Sub.refl h).up np⟩
  generalize up h p (.lst []) = hh at F0 ⊢
  simp [ev0, Pg.toD]
  refine for_inv (fun j ρ h' => ∃ p x2 x3 x4 x5 x6 x7 x8 x9 x10, ρ = [some pg.toD, some (.ref p), x2, x3, x4, x5, x6, x7, x8, x9, x10] ∧ Fnd soL h h' p ((pg.procs.take j).flatMap fun p => p.blocks.flatMap (blkItems p.name)))
    (fun _ _ _ _ _ => trivial) ⟨_, _, _, _, _, _, _, _, _, _, rfl, F0⟩ ?_ ?_
  · rintro j x ρ h1 hx ⟨p, x2, x3, x4, x5, x6, x7, x8, x9, x10, rfl, F1⟩ N hN
    obtain ⟨hj, rfl, etk⟩ := take_get hx
    have hp : pg.procs[j] ∈ pg.procs := List.getElem_mem hj
    have hlen := procs_len ok (l := pg.procs.take j) fun q hq => List.mem_of_mem_take hq
    have htl : (pg.procs.take j).length ≤ 3 := by simp; omega
    have hN2 : ∀ p x2 x3 x4 x5 x6 x7 x8 x9 x10 h', Fnd soL h h' p (((pg.procs.take j).flatMap fun p => p.blocks.flatMap (blkItems p.name)) ++ pg.procs[j].blocks.flatMap (blkItems pg.procs[j].name)) → N [some pg.toD, some (.ref p), x2, x3, x4, x5, x6, x7, x8, x9, x10] h' := fun _ _ _ _ _ _ _ _ _ _ h' F => hN _ _ ⟨_, _, _, _, _, _, _, _, _, _, rfl, by rw [etk, List.flatMap_append, List.flatMap_singleton]; exact F⟩
    generalize pg.procs[j] = pr at hp hN2 ⊢
    have O := ok.each pr hp
    have hfew := O.few
    simp [Pr.toD]
    refine for_inv (fun i ρ h' => ∃ p x5 x6 x7 x8 x9 x10, ρ = [some pg.toD, some (.ref p), some (.str pr.name), some (.int pr.params), some (.tup (pr.blocks.map Bk.toD)), x5, x6, x7, x8, x9, x10] ∧ Fnd soL h h' p (((pg.procs.take j).flatMap fun p => p.blocks.flatMap (blkItems p.name)) ++ (pr.blocks.take i).flatMap (blkItems pr.name)))
      (fun _ _ _ _ _ => trivial) ⟨_, _, _, _, _, _, _, rfl, by simpa using F1⟩ ?_ ?_
    · rintro i y ρ h2 hy ⟨p, y5, y6, y7, y8, y9, y10, rfl, F2⟩ N2 hN3
      obtain ⟨hi, rfl, etk2⟩ := take_get hy
      have hb : pr.blocks[i] ∈ pr.blocks := List.getElem_mem hi
      have hlb := flat_len (f := blkItems pr.name) (c := 16) (l := pr.blocks.take i) fun b hb => blk_len (O.body b (List.mem_of_mem_take hb))
      have htb : (pr.blocks.take i).length ≤ 6 := by simp; omega
      have hN4 : ∀ p x5 x6 x7 x8 x9 x10 h', Fnd soL h h' p (((pg.procs.take j).flatMap fun p => p.blocks.flatMap (blkItems p.name)) ++ (pr.blocks.take i).flatMap (blkItems pr.name) ++ blkItems pr.name pr.blocks[i]) → N2 [some pg.toD, some (.ref p), some (.str pr.name), some (.int pr.params), some (.tup (pr.blocks.map Bk.toD)), x5, x6, x7, x8, x9, x10] h' := fun _ _ _ _ _ _ _ h' F => hN3 _ _ ⟨_, _, _, _, _, _, _, rfl, by rw [etk2, List.flatMap_append, List.flatMap_singleton, ← List.append_assoc]; exact F⟩
      generalize pr.blocks[i] = b at hb hN4 ⊢
      simp [Bk.toD]
      exact li_block hm ok hp hb F2 (by simp only [List.length_append]; omega) fun p' h' z8 z9 z10 F3 => hN4 _ _ _ _ _ _ _ _ F3
    · rintro ρ h2 ⟨p, y5, y6, y7, y8, y9, y10, rfl, F2⟩
      refine hN2 _ _ _ _ _ _ _ _ _ _ _ ?_
      simpa using F2
  · rintro ρ h1 ⟨p, x2, x3, x4, x5, x6, x7, x8, x9, x10, rfl, F1⟩
    have F1 : Fnd soL h h1 p (allItems pg) := by simpa [allItems] using F1
    have ha : h1 p = some (.lst ((allItems pg).map dOf)) := F1.at_
    have hit : ∀ q ∈ allItems pg, ItmOk q := items_ok ok
    simp [W_liRet]
    refine ⟨p, _, rfl, ha, ?_, few_items ok (fun _ h => h), it_srtb hit, fun ys q nd mem srt nq => ?_⟩
    · intro d hd
      obtain ⟨j, hj, rfl⟩ := List.mem_map.mp hd
      exact ⟨⟨(hit j hj).ok, (hit j hj).dep⟩, _, keysOf_d j⟩
    · simp
      exact en_rt (post ys _ (F1.sub.trans ((Sub.refl _).up nq)) nd mem srt)
end Lk04
end
-- P04s
section
set_option maxRecDepth 100000
set_option maxHeartbeats 4000000
/-! P04s: what a run tells is plain data. -/
namespace P04
open PySem L2 T3
structure Shp (S : Rn) : Prop where
  pa : ∀ q ∈ S.path, blockK q.1 q.2 ∈ S.items
  en : ∀ ks, S.en = some ks → ks ∈ S.items ∨ ks = [.inr "none"] ∨ ∃ x, ks = [.inr "return", .inl x]
theorem Shp.fin {S : Rn} (h : Shp S) (ks : List Key) : Shp (S.fin ks) :=
  ⟨fun q hq => List.mem_append_left _ (h.pa q hq), fun j e => by cases e; exact .inl (List.mem_append_right _ (List.mem_singleton.mpr rfl))⟩
theorem Shp.like {S T : Rn} (h : Shp S) (e1 : T.path = S.path) (e2 : T.items = S.items) (e3 : T.en = S.en) : Shp T :=
  ⟨fun q hq => by rw [e2]; exact h.pa q (by rw [← e1]; exact hq), fun ks e => by rw [e2]; exact h.en ks (by rw [← e3]; exact e)⟩
theorem Shp.none {S T : Rn} (h : Shp S) (e1 : T.path = S.path) (e2 : T.items = S.items) (e3 : T.en = some [.inr "none"]) : Shp T :=
  ⟨fun q hq => by rw [e2]; exact h.pa q (by rw [← e1]; exact hq), fun ks e => by rw [e3] at e; cases e; exact .inr (.inl rfl)⟩
theorem Shp.more {S T : Rn} (h : Shp S) {q : Str × Int} {r : List (List Key)} (e1 : T.path = S.path ++ [q]) (e2 : T.items = S.items ++ (blockK q.1 q.2 :: r)) (e3 : T.en = S.en) : Shp T :=
  ⟨fun p hp => by
    rw [e1] at hp; rw [e2]
    rcases List.mem_append.mp hp with hp | hp
    · exact List.mem_append_left _ (h.pa p hp)
    · rw [List.mem_singleton] at hp; subst hp; exact List.mem_append_right _ List.mem_cons_self, fun ks e => by
    rw [e2]
    rcases h.en ks (by rw [← e3]; exact e) with z | z
    · exact .inl (List.mem_append_left _ z)
    · exact .inr z⟩
theorem shp_enter {steps : Nat} {S : Rn} {f : Fr} (h : Shp S) : Shp (enter steps S f) := by
  unfold enter
  split
  · exact h.none rfl rfl rfl
  · exact h.more rfl rfl rfl
theorem shp_goTo {b : Bool} {steps : Nat} {S : Rn} {f : Fr} {fs : List Fr} {l : Int} (h : Shp S) : Shp (goTo b steps S f fs l) := by
  unfold goTo
  split
  · exact h.none rfl rfl rfl
  · exact h.more (q := (f.pr.name, l)) rfl (List.append_assoc _ _ _) rfl
theorem shp_step {b : Bool} {pg : Pg} {inputs : List Int} {steps : Nat} {S : Rn} (h : Shp S) : Shp (step b pg inputs steps S) := by
  unfold step
  split
  · exact h
  split
  · exact h
  rename_i f fs _ c _
  split
  · rename_i s _
    have bad : ∀ ks gs, Shp { S.fin ks with frames := gs } := fun ks gs => (h.fin ks).like rfl rfl rfl
    cases s with
    | take v => exact h.like rfl rfl rfl
    | store a e1 e2 =>
      simp only [doSm]
      split
      · exact bad _ _
      split
      · exact bad _ _
      split
      · exact bad _ _
      split
      · exact h.like rfl rfl rfl
      · exact bad _ _
    | set v e =>
      simp only [doSm]
      split
      · exact h.fin _
      · exact h.like rfl rfl rfl
    | put e =>
      simp only [doSm]
      split
      · exact h.fin _
      · exact h.like rfl rfl rfl
    | assert k e =>
      simp only [doSm]
      split
      · exact h.fin _
      split
      · exact bad _ _
      · exact h.like rfl rfl rfl
    | call v p es =>
      simp only [doSm]
      split
      · exact h.fin _
      split
      · exact h.fin _
      split
      · exact h
      split
      · exact h
      · exact shp_enter (h.like rfl rfl rfl)
  · cases c.nd with
    | go l => exact shp_goTo h
    | iff e l m =>
      simp only [doNd]
      split
      · exact h.fin _
      · exact shp_goTo h
    | ret e =>
      simp only [doNd]
      split
      · exact h.fin _
      split
      · exact ⟨h.pa, fun ks e => by cases e; exact .inr (.inr ⟨_, rfl⟩)⟩
      · exact h.like rfl rfl rfl
theorem shp_runN {b : Bool} {pg : Pg} {inputs : List Int} {steps : Nat} : ∀ (n : Nat) {S : Rn}, Shp S → Shp (runN b pg inputs steps n S)
  | 0, S, h => h
  | n + 1, S, h => by
    unfold P04.runN
    split
    · exact shp_runN n (shp_step h)
    · exact h
theorem shp_start {pg : Pg} : Shp (P04.start pg) := ⟨fun q hq => (nomatch hq), fun ks e => nomatch e⟩
theorem shp_fin {b : Bool} {pg : Pg} {inputs : List Int} {steps : Nat} : Shp (fin b pg inputs steps) := by
  unfold fin
  split
  · exact shp_start
  split
  · exact shp_start
  · refine shp_runN _ ?_
    unfold initS
    split
    · exact (shp_start (pg := pg)).none rfl rfl rfl
    · exact shp_enter shp_start
/-- what run gives is plain -/
theorem res_ok {b : Bool} {pg : Pg} {inputs : List Int} {steps : Nat} (ok : PgOk pg) (hi : ∀ x ∈ inputs, 0 ≤ x ∧ x < p2 pg.w) (hs : steps ≤ 60) :
    (∀ q ∈ (fin b pg inputs steps).path, PyData.strOk q.1 = true) ∧ (enD (fin b pg inputs steps).en).ok = true ∧ (enD (fin b pg inputs steps).en).py.depth ≤ 8 := by
  obtain ⟨C, st⟩ := fin_ok b ok hi hs
  have h := shp_fin (b := b) (pg := pg) (inputs := inputs) (steps := steps)
  refine ⟨fun q hq => ?_, ?_⟩
  · have := items_ok ok _ (st.itm _ (h.pa q hq))
    cases this with
    | block hn => exact hn
  · cases e : (fin b pg inputs steps).en with
    | none => exact ⟨rfl, by simp [enD, D.py, PyData.depth]⟩
    | some ks =>
      rcases h.en ks e with z | rfl | ⟨x, rfl⟩
      · have := items_ok ok _ (st.itm _ z)
        exact ⟨this.ok, by cases this <;> simp [enD, dOf, kD, D.py, D.pyL, PyData.depth, PyData.depthAll]⟩
      · have c1 : PyData.strOk "none" = true := by decide +kernel
        exact ⟨by simp [enD, dOf, kD, D.ok, D.okL, c1], by simp [enD, dOf, kD, D.py, D.pyL, PyData.depth, PyData.depthAll]⟩
      · have c1 : PyData.strOk "return" = true := by decide +kernel
        exact ⟨by simp [enD, dOf, kD, D.ok, D.okL, c1], by simp [enD, dOf, kD, D.py, D.pyL, PyData.depth, PyData.depthAll]⟩
/-- the same thing twice is equal -/
theorem rNe_refl {d : D} {h : H3} {k : K1} (ho : d.ok = true) (hd : d.py.depth ≤ 64) (q : k (.bl false) h) : T3.rNe d d h k := by
  refine rEq_py ho ho (Nat.le_trans (Nat.min_le_left _ _) hd) ?_
  rw [W.eqv_refl_alike _ (alike_py ho)]
  exact q
end P04
end
-- G4V
section
set_option maxRecDepth 100000
set_option maxHeartbeats 4000000
/-! G4V: the ring; the law. -/
namespace Lk04
open PySem PySem.Spec PyProof.Rows L2 T3 P04
def sp_lring : Sp3 := fun l h k => ∃ (dr : Addr) (w : Int), l = [.ref dr, .int w] ∧ Drw h dr ∧ ∀ n h', Grow dr h h' → k (ringP w n).toD h'
theorem ok_l_ring : ∀ l h k, sp_lring l h k → W_l_ring sp_take (en k) (ev0 N_l_ring l) h := by
  rintro l h k ⟨dr, w, rfl, hd, post⟩
  simp [W_l_ring, ev0]
  intro p np
  have hd1 := hd.new (o := .lst (ringR.map Sm.toD)) np
  refine ⟨dr, 2, rfl, hd1, by decide, .inl (by decide), fun r h2 r0 r2 g => ?_⟩
  obtain ⟨g1, hp⟩ := Grow.born hd np g
  refine ⟨r, rfl, _, hp, fun q nq => ?_⟩
  obtain rfl | rfl : r = 0 ∨ r = 1 := by omega
  · exact en_rt (post 0 _ (g1.new nq))
  · exact en_rt (post 1 _ (g1.new nq))
theorem Drw.sub {h h' : H3} {dr : Addr} (s : Sub h h') (d : Drw h dr) : Drw h' dr := by
  obtain ⟨c, ns, i, q, s', e1, e2, r⟩ := d
  exact ⟨c, ns, i, q, s', s _ _ e1, s _ _ e2, r⟩
theorem ints_of {top : Int} : ∀ {m : List D}, (∀ d ∈ m, ∃ r : Int, d = .int r ∧ 0 ≤ r ∧ r < top) → ∃ l : List Int, m = l.map .int ∧ ∀ x ∈ l, 0 ≤ x ∧ x < top
  | [], _ => ⟨[], rfl, fun _ h => nomatch h⟩
  | d :: m, h => by
    obtain ⟨l, e, hl⟩ := ints_of (m := m) fun d hd => h d (List.mem_cons_of_mem _ hd)
    obtain ⟨r, er, hr⟩ := h d List.mem_cons_self
    refine ⟨r :: l, by rw [e, er]; rfl, fun x hx => ?_⟩
    rcases List.mem_cons.mp hx with rfl | hx
    · exact hr
    · exact hl x hx
def sp_law (G : Sc) : Sp3 := fun l h k => l = [.ref G.a] ∧ ∀ h', k (.bl true) h'
def W_lawLoop : WS := (wFor (wRg1 (wCons (wC (.int 3)) (wNil))) (gN 5) (wSeq (wAsg (wL rTupleOf (wCons (wLc (wRg1 (wCons (wL sp_take (wCons (wVar 1) (wCons (wC (.int 6)) (wNil)))) (wNil))) 12 (wYes) (wL sp_word (wCons (wVar 1) (wCons (wVar 2) (wNil))))) (wNil))) (gN 6)) (wSeq (wAsg (w2 T3.rIx (wL rLst (wCons (wC (.int 0)) (wCons (wC (.int 1)) (wCons (wC (.int 60)) (wCons (wC (.int 60)) (wCons (wL sp_take (wCons (wVar 1) (wCons (wC (.int 20)) (wNil)))) (wNil))))))) (wL sp_take (wCons (wVar 1) (wCons (wC (.int 5)) (wNil))))) (gN 7)) (wSeq (wAsg (wL sp_lrun (wCons (wVar 3) (wCons (wVar 6) (wCons (wVar 7) (wNil))))) (gT [gN 8, gN 9, gN 10, gN 11])) (wSeq (wIfS (wOr (wB (w2 T3.rNe (wKw (sp_run true) (wCons (wVar 3) (wCons (wVar 6) (wNil))) (wCons (wVar 7) (wNil))) (wL rTup (wCons (wVar 8) (wCons (wVar 9) (wCons (wVar 10) (wNil))))))) (wB (w2 T3.rNe (wKw (sp_met true) (wCons (wVar 3) (wCons (wVar 6) (wNil))) (wCons (wVar 7) (wNil))) (wVar 11)))) (wRet (wC (.bl false))) (wNext)) (wIfS (wB (w2 T3.rNe (wLc (wIter (wVar 11)) 13 (wB (w2 (rIn true) (wVar 13) (wL sp_itemsof (wCons (wVar 3) (wNil))))) (wVar 13)) (wL rLst (wNil)))) (wRet (wC (.bl false))) (wNext)))))))
def W_lawEnd : WS := wSeq (wAsg (wL rRepr (wCons (wVar 3) (wNil))) (gN 4)) (wSeq (wIfS (wB (w2 T3.rNe (wL sp_itemsof (wCons (wVar 3) (wNil))) (wL sp_itemsof (wCons (wVar 3) (wNil))))) (wRet (wC (.bl false))) (wNext)) (wSeq W_lawLoop (wRet (w2 T3.rEq (wL rRepr (wCons (wVar 3) (wNil))) (wVar 4)))))
theorem W_law_eq (G : Sc) : W_law (sp_draw G) sp_take sp_program sp_lring sp_itemsof sp_itemsof sp_word sp_lrun (sp_met true) (sp_run true) =
    wSeq (wAsg (wL (sp_draw G) (wCons (wVar 0) (wNil))) (gN 1)) (wSeq (wAsg (w2 T3.rIx (wL rLst (wCons (wC (.int 1)) (wCons (wC (.int 2)) (wCons (wC (.int 3)) (wCons (wC (.int 8)) (wCons (wC (.int 16)) (wNil))))))) (wL sp_take (wCons (wVar 1) (wCons (wC (.int 5)) (wNil))))) (gN 2)) (wSeq (wAsg (wL sp_program (wCons (wVar 1) (wCons (wVar 2) (wCons (wC (.int 6)) (wCons (wC (.int 4)) (wNil)))))) (gN 3)) (wSeq (wIfS (wB (w2 T3.rEq (wL sp_take (wCons (wVar 1) (wCons (wC (.int 9)) (wNil)))) (wC (.int 0)))) (wAsg (wL sp_lring (wCons (wVar 1) (wCons (wVar 2) (wNil)))) (gN 3)) (wNext)) W_lawEnd))) := rfl
theorem rows_ok {pg : Pg} (ok : PgOk pg) {ys : List D} (h : ∀ d, d ∈ ys → d ∈ (allItems pg).map dOf) : D.okL ys = true ∧ PyData.depthAll (D.pyL ys) ≤ 8 := by
  have hit := items_ok ok
  constructor
  · refine okL_iff.mpr fun d hd => ?_
    obtain ⟨k, hk, rfl⟩ := List.mem_map.mp (h d hd)
    exact (hit k hk).ok
  · rw [pyL_eq]
    refine depthAll_le fun x hx => ?_
    obtain ⟨d, hd, rfl⟩ := List.mem_map.mp hx
    obtain ⟨k, hk, rfl⟩ := List.mem_map.mp (h d hd)
    cases hit k hk <;> simp [dOf, kD, D.py, D.pyL, PyData.depth, PyData.depthAll]
theorem rows_same {m : List (List Key)} {ys zs : List D} (n1 : ys.Nodup) (m1 : ∀ d, d ∈ ys ↔ d ∈ m.map dOf) (s1 : ys.Pairwise fun x y => ltD y x = false) (n2 : zs.Nodup) (m2 : ∀ d, d ∈ zs ↔ d ∈ m.map dOf) (s2 : zs.Pairwise fun x y => ltD y x = false) : ys = zs :=
  same_rows (fun x hx => by obtain ⟨k, _, e⟩ := List.mem_map.mp ((m1 x).mp hx); exact ⟨k, e.symm⟩) n1 n2 (fun x => (m1 x).trans (m2 x).symm) s1 s2
theorem rows_ne {pg : Pg} (ok : PgOk pg) {ys : List D} {h : H3} {k : K1} (hs : ∀ d, d ∈ ys → d ∈ (allItems pg).map dOf) (q : k (.bl false) h) : T3.rNe (.tup ys) (.tup ys) h k := by
  obtain ⟨h1, h2⟩ := rows_ok ok hs
  exact rNe_refl (by simpa [D.ok] using h1) (by simp only [D.py, PyData.depth]; omega) q
/-- one turn -/
theorem law_loop {pg : Pg} (S : PgSm pg) {dr : Addr} {h : H3} {k : K1} {a0 a4 a5 a6 a7 a8 a9 a10 a11 a12 a13 : Option D} {nx : Ev → H3 → Prop} (hd : Drw h dr)
    (post : ∀ h' b5 b6 b7 b8 b9 b10 b11, nx [a0, some (.ref dr), some (.int pg.w), some pg.toD, a4, b5, b6, b7, b8, b9, b10, b11, a12, a13] h') :
    W_lawLoop { en k with nx := nx } [a0, some (.ref dr), some (.int pg.w), some pg.toD, a4, a5, a6, a7, a8, a9, a10, a11, a12, a13] h := by
  have ok := S.ok
  unfold W_lawLoop
  simp
  refine for_inv (fun j ρ h' => ∃ b5 b6 b7 b8 b9 b10 b11, ρ = [a0, some (.ref dr), some (.int pg.w), some pg.toD, a4, b5, b6, b7, b8, b9, b10, b11, a12, a13] ∧ Drw h' dr)
    (fun _ _ _ _ _ => trivial) ⟨_, _, _, _, _, _, _, rfl, hd⟩ ?_ ?_
  · rintro j x ρ h1 hx ⟨b5, b6, b7, b8, b9, b10, b11, rfl, d1⟩ N hN
    simp
    refine ⟨dr, 6, rfl, d1, by decide, .inl (by decide), fun r h2 r0 r6 g2 => ⟨r, rfl, by omega, by omega, fun p np => ?_⟩⟩
    refine lc_grow (P := fun d => ∃ r : Int, d = .int r ∧ 0 ≤ r ∧ r < p2 pg.w) g2.drw np (by simp [rgD]; omega) ?_ ?_
    · intro h3 y hy g3 K hK
      simp
      exact ⟨dr, pg.w, rfl, g3.drw, ok.w1, ok.w2, fun r h' q0 q1 g => hK _ _ ⟨r, rfl, q0, q1⟩ g⟩
    · intro m h3 hml hm g3 hp3
      obtain ⟨inputs, rfl, hin⟩ := ints_of hm
      have hil : inputs.length ≤ 1000 := by simp [rgD] at hml; omega
      simp [hp3]
      refine ⟨dr, 20, rfl, g3.drw, by decide, .inl (by decide), fun s h4 s0 s20 g4 => fun q nq => ?_⟩
      refine ⟨dr, 5, rfl, g4.drw.new nq, by decide, .inl (by decide), fun t h5 t0 t5 g5 => ?_⟩
      obtain ⟨g6, hq⟩ := Grow.born g4.drw nq g5
      obtain ⟨x, hx, ex⟩ := atI_in (l := [D.int 0, .int 1, .int 60, .int 60, .int s]) t0 (by simpa using t5)
      obtain ⟨steps, rfl, hst⟩ : ∃ n : Nat, x = .int n ∧ n ≤ 60 := by
        simp at hx
        rcases hx with rfl | rfl | rfl | rfl
        · exact ⟨0, rfl, by decide⟩
        · exact ⟨1, rfl, by decide⟩
        · exact ⟨60, rfl, by decide⟩
        · exact ⟨s.toNat, by rw [Int.toNat_of_nonneg s0], by omega⟩
      have d5 := g6.drw
      simp [hq, ex]
      have I : RunIn pg inputs steps := ⟨ok, hst, hin, hil⟩
      obtain ⟨C, st⟩ := fin_ok false ok hin hst
      have two := fin_two pg inputs steps
      simp only [Rn.obs, Prod.mk.injEq] at two
      obtain ⟨t1, t2, t3, t4⟩ := two
      obtain ⟨k1, k2, k3⟩ := res_ok (b := false) ok hin hst
      refine ⟨pg, inputs, steps, rfl, I, fun ys h6 s6 nd mem srt => ?_⟩
      have hsub : ∀ d, d ∈ ys → d ∈ (allItems pg).map dOf := fun d hd => by
        obtain ⟨q, hq, e⟩ := List.mem_map.mp ((mem d).mp hd)
        rw [← e]; exact List.mem_map_of_mem (st.itm q hq)
      obtain ⟨o1, o2⟩ := rows_ok ok hsub
      simp [wKw]
      refine ⟨pg, inputs, steps, rfl, I, fun h7 s7 => ?_⟩
      have er : resD (fin true pg inputs steps) = .tup [.tup ((fin false pg inputs steps).writes.map .int), enD (fin false pg inputs steps).en, .tup ((fin false pg inputs steps).path.map plD)] := by
        unfold resD; rw [t1, t2, t4]
      rw [er]
      refine rNe_refl ?_ ?_ ?_
      · have w1 : D.okL ((fin false pg inputs steps).writes.map .int) = true := ok_map fun _ _ => rfl
        have w2 : D.okL ((fin false pg inputs steps).path.map plD) = true := ok_map fun q hq => by simp [plD, D.ok, D.okL, k1 q hq]
        simp [D.ok, D.okL, w1, w2, k2]
      · have w1 : (D.tup ((fin false pg inputs steps).writes.map .int)).py.depth ≤ 1 := dep_map (n := 0) fun x _ => by rw [dep_int]; exact Nat.le_refl _
        have w2 : (D.tup ((fin false pg inputs steps).path.map plD)).py.depth ≤ 2 := dep_map (n := 1) fun x _ => by simp [plD, D.py, D.pyL, PyData.depth, PyData.depthAll]
        refine Nat.le_trans (dep_tup (n := 60) fun d hd => ?_) (by decide)
        simp only [List.mem_cons, List.not_mem_nil, or_false] at hd
        rcases hd with rfl | rfl | rfl
        · omega
        · omega
        · omega
      simp
      refine ⟨pg, inputs, steps, rfl, I, fun zs h8 s8 nd2 mem2 srt2 => ?_⟩
      rw [t3] at mem2
      have eyz := rows_same nd2 mem2 srt2 nd mem srt
      subst eyz
      refine rows_ne ok hsub ?_
      simp
      intro u nu
      have d8 : Drw h8 dr := Drw.sub s8 (Drw.sub s7 (Drw.sub s6 d5))
      refine lc_pure (fun _ => false) (fun d => d) (by have := nodup_le (m := zs) (l := (allItems pg).map dOf) nd hsub; have := all_len ok; rw [List.length_map] at *; omega) (fun _ _ _ => trivial) ?_ (fun _ _ h => nomatch h) ?_
      · intro y hy o hh s1 K hK
        simp
        refine ⟨pg, rfl, ok, fun ws h9 s9 nd3 mem3 srt3 => ?_⟩
        obtain ⟨q1, q2⟩ := rows_ok ok (ys := ws) fun d hd => (mem3 d).mp hd
        have hyo := (okL_iff.mp o1) y hy
        have hyw : y ∈ ws := (mem3 y).mpr (hsub y hy)
        refine ⟨y.py, D.pyL ws, rs_py hyo, rsl_py q1, by omega, ?_⟩
        have ea : (D.pyL ws).any (fun z => PyData.eqv z y.py) = true := by
          rw [pyL_eq, List.any_eq_true]
          exact ⟨y.py, List.mem_map_of_mem hyw, W.eqv_refl_alike _ (alike_py hyo)⟩
        rw [ea]
        exact hK _ s9
      · rw [show (zs.filter (fun _ => false)) = [] from List.filter_eq_nil_iff.mpr (by simp)]
        simp
        intro v nv
        have nuv : u ≠ v := fun z => by subst z; rw [up_same] at nv; cases nv
        refine rEq_nilL (l := []) (by rw [up_ne nuv]; exact up_same) up_same rfl ?_
        simp
        exact hN _ _ ⟨_, _, _, _, _, _, _, rfl, (d8.new nu).new nv⟩
  · rintro ρ h1 ⟨b5, b6, b7, b8, b9, b10, b11, rfl, d1⟩
    exact post _ _ _ _ _ _ _ _
theorem law_end {pg : Pg} (S : PgSm pg) {dr : Addr} {h : H3} {k : K1} {a0 a4 a5 a6 a7 a8 a9 a10 a11 a12 a13 : Option D} (hd : Drw h dr) (post : ∀ h', k (.bl true) h') :
    W_lawEnd (en k) [a0, some (.ref dr), some (.int pg.w), some pg.toD, a4, a5, a6, a7, a8, a9, a10, a11, a12, a13] h := by
  have ok := S.ok
  unfold W_lawEnd
  simp
  refine S.repr ok.okD ok.dep ?_
  refine ⟨pg, rfl, ok, fun ys h1 s1 nd mem srt => ?_⟩
  refine ⟨pg, rfl, ok, fun zs h2 s2 nd2 mem2 srt2 => ?_⟩
  have e := rows_same nd2 mem2 srt2 nd mem srt
  subst e
  refine rows_ne ok (fun d hd => (mem d).mp hd) ?_
  simp
  refine law_loop S (Drw.sub s2 (Drw.sub s1 hd)) fun h3 b5 b6 b7 b8 b9 b10 b11 => ?_
  simp
  refine S.repr ok.okD ok.dep ?_
  simp
  exact en_rt (post _)
theorem ok_law (G : Sc) : ∀ l h k, sp_law G l h k → W_law (sp_draw G) sp_take sp_program sp_lring sp_itemsof sp_itemsof sp_word sp_lrun (sp_met true) (sp_run true) (en k) (ev0 N_law l) h := by
  rintro l h k ⟨rfl, post⟩
  rw [W_law_eq]
  simp [ev0]
  refine ⟨rfl, fun dr h1 d1 n1 keep1 => fun q nq => ?_⟩
  refine ⟨dr, 5, rfl, d1.new nq, by decide, .inl (by decide), fun t h2 t0 t5 g2 => ?_⟩
  obtain ⟨g3, hq⟩ := Grow.born d1 nq g2
  obtain ⟨x, hx, ex⟩ := atI_in (l := [D.int 1, .int 2, .int 3, .int 8, .int 16]) t0 (by simpa using t5)
  obtain ⟨w, rfl, w1, w16⟩ : ∃ w : Int, x = .int w ∧ 1 ≤ w ∧ w ≤ 16 := by
    simp at hx
    rcases hx with rfl | rfl | rfl | rfl | rfl <;> exact ⟨_, rfl, by decide, by decide⟩
  simp [hq, ex]
  refine ⟨dr, w, 6, 4, rfl, w1, w16, by decide, by decide, by decide, by decide, g3.drw, fun pg others h4 wf g4 => ?_⟩
  have S := wf_sm w1 w16 wf
  have ew := wf.wd
  refine ⟨dr, 9, rfl, g4.drw, by decide, .inl (by decide), fun r h5 r0 r9 g5 => ?_⟩
  simp
  split
  · refine ⟨dr, w, rfl, g5.drw, fun n h6 g6 => ?_⟩
    exact law_end (pg := ringP w n) (ring_sm w1 w16 n) g6.drw post
  · subst ew
    exact law_end S g5.drw post
end Lk04
end
-- J04
section
set_option maxRecDepth 100000
set_option maxHeartbeats 4000000
namespace T3
open PySem PySem.Spec PySem.W PyProof.Rows L2
theorem Md.no {P : Program} {w : World} {K : Frag} {mg : Str → Option Value} {base : Heap} {G : Sc} {C : Addr} {m qual : Str} {st : Stmt} {ps : List Str} {k : Nat} {sp : Sp3} (D : AtM K C m qual st) (c : Cls K C) (b : Bnd K m qual st ps) (no : ∀ l h k, ¬ sp l h k) : Md P w K mg base G C m k sp := by
  obtain ⟨f, fd, hm, F⟩ := D
  exact ⟨f, fd, ps, ⟨fun vs H Q E ⟨l, h, k, _, _, q, _⟩ => (no _ _ _ q).elim, fun A outer s H args us vs Q E _ _ _ _ ⟨l, h, k, _, _, q, _⟩ => (no _ _ _ q).elim⟩, hm, c, b f fd F⟩
end T3
namespace Lk04
open PySem PySem.Spec PyProof.Rows L2 T3 P04
/-- what the module's top has left -/
structure Top (P : Program) (w : World) (K : PySem.W.Frag) (mg : Str → Option Value) (base : Heap) (C_Frame C_Runner : Addr) : Prop where
  T : Mg mg
  TT : Mt K mg
  T_Frame : Cl3 K C_Frame n_Frame
  mk_Frame : PySem.W.makesIn K C_Frame = true
  kp_Frame : PySem.W.keepIn K (.ref C_Frame) = true
  g_Frame : mg "Frame" = some (.ref C_Frame)
  T_Runner : Cl3 K C_Runner n_Runner
  mk_Runner : PySem.W.makesIn K C_Runner = true
  kp_Runner : PySem.W.keepIn K (.ref C_Runner) = true
  g_Runner : mg "Runner" = some (.ref C_Runner)
  d_top : At K mg "top" s_top
  d_shifted : At K mg "shifted" s_shifted
  d_compute : At K mg "compute" s_compute
  d_size_of : At K mg "size_of" s_size_of
  d_procedure_of : At K mg "procedure_of" s_procedure_of
  d_block_of : At K mg "block_of" s_block_of
  d_targets : At K mg "targets" s_targets
  m_Frame_init : AtM K C_Frame "__init__" "Frame.__init__" s_Frame_init
  m_Frame_block : AtM K C_Frame "block" "Frame.block" s_Frame_block
  m_Frame_place : AtM K C_Frame "place" "Frame.place" s_Frame_place
  m_Runner_finish : AtM K C_Runner "finish" "Runner.finish" s_Runner_finish
  m_Runner_is_below : AtM K C_Runner "is_below" "Runner.is_below" s_Runner_is_below
  m_Runner_value : AtM K C_Runner "value" "Runner.value" s_Runner_value
  m_Runner_enter : AtM K C_Runner "enter" "Runner.enter" s_Runner_enter
  m_Runner_store : AtM K C_Runner "store" "Runner.store" s_Runner_store
  m_Runner_call : AtM K C_Runner "call" "Runner.call" s_Runner_call
  m_Runner_statement : AtM K C_Runner "statement" "Runner.statement" s_Runner_statement
  m_Runner_go : AtM K C_Runner "go" "Runner.go" s_Runner_go
  m_Runner_leave : AtM K C_Runner "leave" "Runner.leave" s_Runner_leave
  m_Runner_run : AtM K C_Runner "run" "Runner.run" s_Runner_run
  m_Runner_init : AtM K C_Runner "__init__" "Runner.__init__" s_Runner_init
  d_done : At K mg "done" s_done
  d_run : At K mg "run" s_run
  d_met : At K mg "met" s_met
  d_statement_items : At K mg "statement_items" s_statement_items
  d_has_cell : At K mg "has_cell" s_has_cell
  d_looks : At K mg "looks" s_looks
  d_items_of : At K mg "items_of" s_items_of
  d_l_draw : At K mg "_law_draw" s_l_draw
  d_l_take : At K mg "_law_take" s_l_take
  d_l_top : At K mg "_law_top" s_l_top
  d_l_compute : At K mg "_law_compute" s_l_compute
  d_l_word : At K mg "_law_word" s_l_word
  d_l_ops : At K mg "_law_ops" s_l_ops
  d_l_variable : At K mg "_law_variable" s_l_variable
  d_l_expression : At K mg "_law_expression" s_l_expression
  d_l_index : At K mg "_law_index" s_l_index
  d_l_row : At K mg "_law_row" s_l_row
  d_l_blocks : At K mg "_law_blocks" s_l_blocks
  d_l_program : At K mg "_law_program" s_l_program
  d_l_body : At K mg "_law_body" s_l_body
  d_l_ended : At K mg "_law_ended" s_l_ended
  d_l_inside : At K mg "_law_inside" s_l_inside
  d_l_value : At K mg "_law_value" s_l_value
  d_l_begin : At K mg "_law_begin" s_l_begin
  d_l_called : At K mg "_law_called" s_l_called
  d_l_done : At K mg "_law_done" s_l_done
  d_l_left : At K mg "_law_left" s_l_left
  d_l_run : At K mg "_law_run" s_l_run
  d_l_has_cell : At K mg "_law_has_cell" s_l_has_cell
  d_l_items : At K mg "_law_items" s_l_items
  d_l_ring : At K mg "_law_ring" s_l_ring
  law : At K mg "law" s_law
section
variable {P : Program} {w : World} {K : PySem.W.Frag} {mg : Str → Option Value} {base : Heap} {G : Sc} {C_Frame C_Runner : Addr} (X : Top P w K mg base C_Frame C_Runner)
include X
theorem J_top : Fd P w K mg base G "top" 2 (sp_top) :=
  mkFd X.d_top sc_top (fun f fd F => F.binds (ps := ["w"]) fun _ _ _ _ _ _ us hl => match us, hl with | [_], _ => rfl)
    (fun f cdv A outer s H E hr => walk_top (C_s := ()) (k := 0) X.T cdv A outer s H E hr )
    (by intro l h k q; repeat (first | (obtain ⟨rfl, _⟩ := q; rfl) | (obtain rfl := q; rfl) | (obtain ⟨_, q⟩ := q))) (ok_top2)
theorem J_shifted : Fd P w K mg base G "shifted" 3 (sp_shifted) :=
  mkFd X.d_shifted sc_shifted (fun f fd F => F.binds (ps := ["op", "w", "x", "y"]) fun _ _ _ _ _ _ us hl => match us, hl with | [_, _, _, _], _ => rfl)
    (fun f cdv A outer s H E hr => walk_shifted (C_s := ()) (k := 1) X.T cdv A outer s H E hr ((J_top X).mono (by decide)))
    (by intro l h k q; repeat (first | (obtain ⟨rfl, _⟩ := q; rfl) | (obtain rfl := q; rfl) | (obtain ⟨_, q⟩ := q))) (ok_shifted)
theorem J_compute : Fd P w K mg base G "compute" 4 (sp_compute) :=
  mkFd X.d_compute sc_compute (fun f fd F => F.binds (ps := ["op", "w", "x", "y"]) fun _ _ _ _ _ _ us hl => match us, hl with | [_, _, _, _], _ => rfl)
    (fun f cdv A outer s H E hr => walk_compute (C_s := ()) (k := 2) X.T cdv A outer s H E hr ((J_top X).mono (by decide)) ((J_shifted X).mono (by decide)))
    (by intro l h k q; repeat (first | (obtain ⟨rfl, _⟩ := q; rfl) | (obtain rfl := q; rfl) | (obtain ⟨_, q⟩ := q))) (ok_compute)
theorem J_size_of : Fd P w K mg base G "size_of" 2 (sp_sizeof) :=
  mkFd X.d_size_of sc_size_of (fun f fd F => F.binds (ps := ["program", "name"]) fun _ _ _ _ _ _ us hl => match us, hl with | [_, _], _ => rfl)
    (fun f cdv A outer s H E hr => walk_size_of (C_s := ()) (k := 0) X.T cdv A outer s H E hr )
    (by intro l h k q; repeat (first | (obtain ⟨rfl, _⟩ := q; rfl) | (obtain rfl := q; rfl) | (obtain ⟨_, q⟩ := q))) (ok_size_of)
theorem J_procedure_of : Fd P w K mg base G "procedure_of" 2 (sp_procof) :=
  mkFd X.d_procedure_of sc_procedure_of (fun f fd F => F.binds (ps := ["program", "name"]) fun _ _ _ _ _ _ us hl => match us, hl with | [_, _], _ => rfl)
    (fun f cdv A outer s H E hr => walk_procedure_of (C_s := ()) (k := 0) X.T cdv A outer s H E hr )
    (by intro l h k q; repeat (first | (obtain ⟨rfl, _⟩ := q; rfl) | (obtain rfl := q; rfl) | (obtain ⟨_, q⟩ := q))) (ok_procedure_of)
theorem J_block_of : Fd P w K mg base G "block_of" 2 (sp_blkof) :=
  mkFd X.d_block_of sc_block_of (fun f fd F => F.binds (ps := ["procedure", "label"]) fun _ _ _ _ _ _ us hl => match us, hl with | [_, _], _ => rfl)
    (fun f cdv A outer s H E hr => walk_block_of (C_s := ()) (k := 0) X.T cdv A outer s H E hr )
    (by intro l h k q; repeat (first | (obtain ⟨rfl, _⟩ := q; rfl) | (obtain rfl := q; rfl) | (obtain ⟨_, q⟩ := q))) (ok_block_of)
theorem J_targets : Fd P w K mg base G "targets" 2 (sp_targets) :=
  mkFd X.d_targets sc_targets (fun f fd F => F.binds (ps := ["end"]) fun _ _ _ _ _ _ us hl => match us, hl with | [_], _ => rfl)
    (fun f cdv A outer s H E hr => walk_targets (C_s := ()) (k := 0) X.T cdv A outer s H E hr )
    (by intro l h k q; repeat (first | (obtain ⟨rfl, _⟩ := q; rfl) | (obtain rfl := q; rfl) | (obtain ⟨_, q⟩ := q))) (ok_targets)
theorem J_Frame_init : Kd P w K mg base G "Frame" C_Frame 2 (sp_finit C_Frame) :=
  mkKd X.m_Frame_init X.mk_Frame X.kp_Frame X.g_Frame sc_Frame_init (fun f fd F => F.binds (ps := ["self", "procedure", "label", "variables", "result"]) fun _ _ _ _ _ _ us hl => match us, hl with | [_, _, _, _, _], _ => rfl)
    (fun f cdv A outer s H E hr => walk_Frame_init (C_s := ()) (k := 0) X.T X.T_Frame cdv A outer s H E hr )
    (by intro l h k q; repeat (first | (obtain ⟨rfl, _⟩ := q; rfl) | (obtain rfl := q; rfl) | (obtain ⟨_, q⟩ := q))) (ok_finit C_Frame)
theorem J_Frame_block : Md P w K mg base G C_Frame "block" 3 (sp_fblock C_Frame) :=
  mkMd X.m_Frame_block X.T_Frame.cl sc_Frame_block (fun f fd F => F.binds (ps := ["self"]) fun _ _ _ _ _ _ us hl => match us, hl with | [_], _ => rfl)
    (fun f cdv A outer s H E hr => walk_Frame_block (C_s := ()) (k := 1) X.T X.T_Frame cdv A outer s H E hr ((J_block_of X).mono (by decide)))
    (by intro l h k q; repeat (first | (obtain ⟨rfl, _⟩ := q; rfl) | (obtain rfl := q; rfl) | (obtain ⟨_, q⟩ := q))) (ok_fblock C_Frame)
theorem J_Frame_place : Md P w K mg base G C_Frame "place" 4 (sp_fplace C_Frame) :=
  mkMd X.m_Frame_place X.T_Frame.cl sc_Frame_place (fun f fd F => F.binds (ps := ["self"]) fun _ _ _ _ _ _ us hl => match us, hl with | [_], _ => rfl)
    (fun f cdv A outer s H E hr => walk_Frame_place (C_s := ()) (k := 2) X.T X.T_Frame cdv A outer s H E hr ((J_Frame_block X).mono (by decide)))
    (by intro l h k q; repeat (first | (obtain ⟨rfl, _⟩ := q; rfl) | (obtain rfl := q; rfl) | (obtain ⟨_, q⟩ := q))) (ok_fplace C_Frame)
theorem J_Runner_finish : Md P w K mg base G C_Runner "finish" 2 (sp_finish C_Runner C_Frame) :=
  mkMd X.m_Runner_finish X.T_Runner.cl sc_Runner_finish (fun f fd F => F.binds (ps := ["self", "end"]) fun _ _ _ _ _ _ us hl => match us, hl with | [_, _], _ => rfl)
    (fun f cdv A outer s H E hr => walk_Runner_finish (C_s := ()) (k := 0) X.T X.T_Runner cdv A outer s H E hr )
    (by intro l h k q; repeat (first | (obtain ⟨rfl, _⟩ := q; rfl) | (obtain rfl := q; rfl) | (obtain ⟨_, q⟩ := q))) (ok_finish C_Runner C_Frame)
theorem J_Runner_is_below : Md P w K mg base G C_Runner "is_below" 5 (sp_below C_Runner C_Frame) :=
  mkMd X.m_Runner_is_below X.T_Runner.cl sc_Runner_is_below (fun f fd F => F.binds (ps := ["self", "name", "at"]) fun _ _ _ _ _ _ us hl => match us, hl with | [_, _, _], _ => rfl)
    (fun f cdv A outer s H E hr => walk_Runner_is_below (C_s := ()) (k := 3) X.T X.T_Runner X.T_Frame cdv A outer s H E hr ((J_size_of X).mono (by decide)) ((J_Runner_finish X).mono (by decide)) ((J_Frame_place X).mono (by decide)))
    (by intro l h k q; repeat (first | (obtain ⟨rfl, _⟩ := q; rfl) | (obtain rfl := q; rfl) | (obtain ⟨_, q⟩ := q))) (ok_below C_Runner C_Frame)
theorem R_Runner_value : ∀ m : Nat, Md P w K mg base G C_Runner "value" (8 + m) ((sp_value C_Runner C_Frame) m)
  | 0 => Md.no X.m_Runner_value X.T_Runner.cl (fun f fd F => F.binds (ps := ["self", "e"]) fun _ _ _ _ _ _ us hl => match us, hl with | [_, _], _ => rfl) (by rintro l h k ⟨_, _, _, _, _, _, _, _, _, _, _, _, _, _, z, _⟩; exact z)
  | m + 1 => (mkMd (k := 8 + m) X.m_Runner_value X.T_Runner.cl sc_Runner_value (fun f fd F => F.binds (ps := ["self", "e"]) fun _ _ _ _ _ _ us hl => match us, hl with | [_, _], _ => rfl)
    (fun f cdv A outer s H E hr => walk_Runner_value (C_s := ()) (k := 7 + m) X.T X.T_Frame X.T_Runner cdv A outer s H E (hr.mono (by omega)) X.TT ((R_Runner_value m).mono (by omega)) ((J_Runner_is_below X).mono (by omega)) ((J_compute X).mono (by omega)))
    (by intro l h k q; repeat (first | (obtain ⟨rfl, _⟩ := q; rfl) | (obtain rfl := q; rfl) | (obtain ⟨_, q⟩ := q))) (ok_value C_Runner C_Frame m))
theorem J_Runner_value : Md P w K mg base G C_Runner "value" 13 ((sp_value C_Runner C_Frame) 5) := R_Runner_value X 5
theorem J_Runner_enter : Md P w K mg base G C_Runner "enter" 2 (sp_enter C_Runner C_Frame) :=
  mkMd X.m_Runner_enter X.T_Runner.cl sc_Runner_enter (fun f fd F => F.binds (ps := ["self", "frame"]) fun _ _ _ _ _ _ us hl => match us, hl with | [_, _], _ => rfl)
    (fun f cdv A outer s H E hr => walk_Runner_enter (C_s := ()) (k := 0) X.T X.T_Runner X.T_Frame cdv A outer s H E hr )
    (by intro l h k q; repeat (first | (obtain ⟨rfl, _⟩ := q; rfl) | (obtain rfl := q; rfl) | (obtain ⟨_, q⟩ := q))) (ok_enter C_Runner C_Frame)
theorem J_Runner_store : Md P w K mg base G C_Runner "store" 14 (sp_store C_Runner C_Frame) :=
  mkMd X.m_Runner_store X.T_Runner.cl sc_Runner_store (fun f fd F => F.binds (ps := ["self", "row"]) fun _ _ _ _ _ _ us hl => match us, hl with | [_, _], _ => rfl)
    (fun f cdv A outer s H E hr => walk_Runner_store (C_s := ()) (k := 12) X.T X.T_Runner cdv A outer s H E hr ((J_Runner_value X).mono (by decide)) ((J_Runner_is_below X).mono (by decide)))
    (by intro l h k q; repeat (first | (obtain ⟨rfl, _⟩ := q; rfl) | (obtain rfl := q; rfl) | (obtain ⟨_, q⟩ := q))) (ok_store C_Runner C_Frame)
theorem J_Runner_call : Md P w K mg base G C_Runner "call" 14 (sp_stm C_Runner C_Frame (fun s => ∃ v p es, s = .call v p es)) :=
  mkMd X.m_Runner_call X.T_Runner.cl sc_Runner_call (fun f fd F => F.binds (ps := ["self", "frame", "row"]) fun _ _ _ _ _ _ us hl => match us, hl with | [_, _, _], _ => rfl)
    (fun f cdv A outer s H E hr => walk_Runner_call (C_s := ()) (k := 12) X.T X.T_Runner X.T_Frame cdv A outer s H E hr ((J_Runner_value X).mono (by decide)) ((J_Runner_finish X).mono (by decide)) ((J_Frame_place X).mono (by decide)) ((J_procedure_of X).mono (by decide)) ((J_Runner_enter X).mono (by decide)) ((J_Frame_init X).mono (by decide)))
    (by intro l h k q; repeat (first | (obtain ⟨rfl, _⟩ := q; rfl) | (obtain rfl := q; rfl) | (obtain ⟨_, q⟩ := q))) (ok_call C_Runner C_Frame)
theorem J_Runner_statement : Md P w K mg base G C_Runner "statement" 15 (sp_stm C_Runner C_Frame (fun _ => True)) :=
  mkMd X.m_Runner_statement X.T_Runner.cl sc_Runner_statement (fun f fd F => F.binds (ps := ["self", "frame", "row"]) fun _ _ _ _ _ _ us hl => match us, hl with | [_, _, _], _ => rfl)
    (fun f cdv A outer s H E hr => walk_Runner_statement (C_s := ()) (k := 13) X.T X.T_Runner X.T_Frame cdv A outer s H E hr ((J_Runner_call X).mono (by decide)) ((J_Runner_store X).mono (by decide)) ((J_Runner_value X).mono (by decide)) ((J_Runner_finish X).mono (by decide)))
    (by intro l h k q; repeat (first | (obtain ⟨rfl, _⟩ := q; rfl) | (obtain rfl := q; rfl) | (obtain ⟨_, q⟩ := q))) (ok_statement C_Runner C_Frame)
theorem J_Runner_go : Md P w K mg base G C_Runner "go" 4 (sp_go C_Runner C_Frame) :=
  mkMd X.m_Runner_go X.T_Runner.cl sc_Runner_go (fun f fd F => F.binds (ps := ["self", "frame", "label"]) fun _ _ _ _ _ _ us hl => match us, hl with | [_, _, _], _ => rfl)
    (fun f cdv A outer s H E hr => walk_Runner_go (C_s := ()) (k := 2) X.T X.T_Runner X.T_Frame cdv A outer s H E hr ((J_Runner_enter X).mono (by decide)) ((J_Frame_init X).mono (by decide)))
    (by intro l h k q; repeat (first | (obtain ⟨rfl, _⟩ := q; rfl) | (obtain rfl := q; rfl) | (obtain ⟨_, q⟩ := q))) (ok_go C_Runner C_Frame)
theorem J_Runner_leave : Md P w K mg base G C_Runner "leave" 14 (sp_leave C_Runner C_Frame) :=
  mkMd X.m_Runner_leave X.T_Runner.cl sc_Runner_leave (fun f fd F => F.binds (ps := ["self", "frame", "end"]) fun _ _ _ _ _ _ us hl => match us, hl with | [_, _, _], _ => rfl)
    (fun f cdv A outer s H E hr => walk_Runner_leave (C_s := ()) (k := 12) X.T X.T_Runner X.T_Frame cdv A outer s H E hr ((J_Runner_go X).mono (by decide)) ((J_Runner_value X).mono (by decide)) ((J_Runner_finish X).mono (by decide)))
    (by intro l h k q; repeat (first | (obtain ⟨rfl, _⟩ := q; rfl) | (obtain rfl := q; rfl) | (obtain ⟨_, q⟩ := q))) (ok_leave C_Runner C_Frame)
theorem J_Runner_run : Md P w K mg base G C_Runner "run" 16 (sp_rrun C_Runner C_Frame) :=
  mkMd X.m_Runner_run X.T_Runner.cl sc_Runner_run (fun f fd F => F.binds (ps := ["self"]) fun _ _ _ _ _ _ us hl => match us, hl with | [_], _ => rfl)
    (fun f cdv A outer s H E hr => walk_Runner_run (C_s := ()) (k := 14) X.T X.T_Runner X.T_Frame cdv A outer s H E hr ((J_Frame_block X).mono (by decide)) ((J_Runner_statement X).mono (by decide)) ((J_Runner_leave X).mono (by decide)))
    (by intro l h k q; repeat (first | (obtain ⟨rfl, _⟩ := q; rfl) | (obtain rfl := q; rfl) | (obtain ⟨_, q⟩ := q))) (ok_run C_Runner C_Frame)
theorem J_Runner_init : Kd P w K mg base G "Runner" C_Runner 4 (sp_rinit C_Runner C_Frame) :=
  mkKd X.m_Runner_init X.mk_Runner X.kp_Runner X.g_Runner sc_Runner_init (fun f fd F => F.binds (ps := ["self", "program", "inputs", "steps"]) fun _ _ _ _ _ _ us hl => match us, hl with | [_, _, _, _], _ => rfl)
    (fun f cdv A outer s H E hr => walk_Runner_init (C_s := ()) (k := 2) X.T X.T_Runner X.T_Frame cdv A outer s H E hr ((J_procedure_of X).mono (by decide)) ((J_Runner_enter X).mono (by decide)) ((J_Frame_init X).mono (by decide)))
    (by intro l h k q; repeat (first | (obtain ⟨rfl, _⟩ := q; rfl) | (obtain rfl := q; rfl) | (obtain ⟨_, q⟩ := q))) (ok_rinit C_Runner C_Frame)
theorem J_done : Fd P w K mg base G "done" 17 (sp_done C_Runner C_Frame) :=
  mkFd X.d_done sc_done (fun f fd F => F.binds (ps := ["program", "inputs", "steps"]) fun _ _ _ _ _ _ us hl => match us, hl with | [_, _, _], _ => rfl)
    (fun f cdv A outer s H E hr => walk_done (C_s := ()) (k := 15) X.T X.T_Runner cdv A outer s H E hr ((J_Runner_init X).mono (by decide)) ((J_Runner_run X).mono (by decide)))
    (by intro l h k q; repeat (first | (obtain ⟨rfl, _⟩ := q; rfl) | (obtain rfl := q; rfl) | (obtain ⟨_, q⟩ := q))) (ok_done C_Runner C_Frame)
theorem J_run : FdK P w K mg base G "run" ["steps"] 18 (sp_run true) :=
  mkFdK X.d_run sc_run (fun f fd F => T3.Fun.kbinds F (ps := ["program", "inputs", "steps"]) (by simp) fun _ _ _ _ _ _ us w hl => match us, hl with | [_, _], _ => rfl)
    (fun f cdv A outer s H E hr => walk_run (C_s := ()) (k := 16) X.T X.T_Runner cdv A outer s H E hr ((J_done X).mono (by decide)))
    (by intro l h k q; repeat (first | (obtain ⟨rfl, _⟩ := q; rfl) | (obtain rfl := q; rfl) | (obtain ⟨_, q⟩ := q))) (ok_runf C_Runner C_Frame)
theorem J_met : FdK P w K mg base G "met" ["steps"] 18 (sp_met true) :=
  mkFdK X.d_met sc_met (fun f fd F => T3.Fun.kbinds F (ps := ["program", "inputs", "steps"]) (by simp) fun _ _ _ _ _ _ us w hl => match us, hl with | [_, _], _ => rfl)
    (fun f cdv A outer s H E hr => walk_met (C_s := ()) (k := 16) X.T X.T_Runner cdv A outer s H E hr ((J_done X).mono (by decide)))
    (by intro l h k q; repeat (first | (obtain ⟨rfl, _⟩ := q; rfl) | (obtain rfl := q; rfl) | (obtain ⟨_, q⟩ := q))) (ok_met C_Runner C_Frame)
theorem J_statement_items : Fd P w K mg base G "statement_items" 2 (sp_stmitems) :=
  mkFd X.d_statement_items sc_statement_items (fun f fd F => F.binds (ps := ["name", "label", "at", "row"]) fun _ _ _ _ _ _ us hl => match us, hl with | [_, _, _, _], _ => rfl)
    (fun f cdv A outer s H E hr => walk_statement_items (C_s := ()) (k := 0) X.T cdv A outer s H E hr )
    (by intro l h k q; repeat (first | (obtain ⟨rfl, _⟩ := q; rfl) | (obtain rfl := q; rfl) | (obtain ⟨_, q⟩ := q))) (ok_statement_items)
theorem R_has_cell : ∀ m : Nat, Fd P w K mg base G "has_cell" (4 + m) ((sp_hascell) m)
  | 0 => Fd.no X.d_has_cell (fun f fd F => F.binds (ps := ["e"]) fun _ _ _ _ _ _ us hl => match us, hl with | [_], _ => rfl) (by rintro l h k ⟨_, _, _, _, z, _⟩; exact z)
  | m + 1 => (mkFd (k := 4 + m) X.d_has_cell sc_has_cell (fun f fd F => F.binds (ps := ["e"]) fun _ _ _ _ _ _ us hl => match us, hl with | [_], _ => rfl)
    (fun f cdv A outer s H E hr => walk_has_cell (C_s := ()) (k := 3 + m) X.T cdv A outer s H E (hr.mono (by omega)) ((R_has_cell m).mono (by omega)))
    (by intro l h k q; repeat (first | (obtain ⟨rfl, _⟩ := q; rfl) | (obtain rfl := q; rfl) | (obtain ⟨_, q⟩ := q))) (ok_has_cell m))
theorem J_has_cell : Fd P w K mg base G "has_cell" 9 ((sp_hascell) 5) := R_has_cell X 5
theorem J_looks : Fd P w K mg base G "looks" 10 (sp_looks) :=
  mkFd X.d_looks sc_looks (fun f fd F => F.binds (ps := ["row"]) fun _ _ _ _ _ _ us hl => match us, hl with | [_], _ => rfl)
    (fun f cdv A outer s H E hr => walk_looks (C_s := ()) (k := 8) X.T cdv A outer s H E hr ((J_has_cell X).mono (by decide)))
    (by intro l h k q; repeat (first | (obtain ⟨rfl, _⟩ := q; rfl) | (obtain rfl := q; rfl) | (obtain ⟨_, q⟩ := q))) (ok_looks)
theorem J_items_of : Fd P w K mg base G "items_of" 11 (sp_itemsof) :=
  mkFd X.d_items_of sc_items_of (fun f fd F => F.binds (ps := ["program"]) fun _ _ _ _ _ _ us hl => match us, hl with | [_], _ => rfl)
    (fun f cdv A outer s H E hr => walk_items_of (C_s := ()) (k := 9) X.T cdv A outer s H E hr ((J_targets X).mono (by decide)) ((J_statement_items X).mono (by decide)) ((J_looks X).mono (by decide)))
    (by intro l h k q; repeat (first | (obtain ⟨rfl, _⟩ := q; rfl) | (obtain rfl := q; rfl) | (obtain ⟨_, q⟩ := q))) (ok_items_of)
section
variable (hGK : G.K = K) (hGn : G.ns.length ≤ 1000)
include hGK hGn in
theorem J_l_draw : Fd P w K mg base G "_law_draw" 2 (sp_draw G) :=
  mkFd X.d_l_draw sc_l_draw (fun f fd F => F.binds (ps := ["script"]) fun _ _ _ _ _ _ us hl => match us, hl with | [_], _ => rfl)
    (fun f cdv A outer s H E hr => walk_l_draw (C_s := ()) (k := 0) X.T cdv A outer s H E hr hGK)
    (by rintro l h k ⟨rfl, _⟩; rfl) (ok_draw G hGn)
end
theorem J_l_take : Fd P w K mg base G "_law_take" 2 (sp_take) :=
  mkFd X.d_l_take sc_l_take (fun f fd F => F.binds (ps := ["draw", "many"]) fun _ _ _ _ _ _ us hl => match us, hl with | [_, _], _ => rfl)
    (fun f cdv A outer s H E hr => walk_l_take (C_s := ()) (k := 0) X.T cdv A outer s H E hr )
    (by intro l h k q; repeat (first | (obtain ⟨rfl, _⟩ := q; rfl) | (obtain rfl := q; rfl) | (obtain ⟨_, q⟩ := q))) (ok_take)
theorem J_l_top : Fd P w K mg base G "_law_top" 2 (sp_top) :=
  mkFd X.d_l_top sc_l_top (fun f fd F => F.binds (ps := ["w"]) fun _ _ _ _ _ _ us hl => match us, hl with | [_], _ => rfl)
    (fun f cdv A outer s H E hr => walk_l_top (C_s := ()) (k := 0) X.T cdv A outer s H E hr )
    (by intro l h k q; repeat (first | (obtain ⟨rfl, _⟩ := q; rfl) | (obtain rfl := q; rfl) | (obtain ⟨_, q⟩ := q))) (ok_top)
theorem J_l_compute : Fd P w K mg base G "_law_compute" 3 (sp_compute) :=
  mkFd X.d_l_compute sc_l_compute (fun f fd F => F.binds (ps := ["op", "w", "x", "y"]) fun _ _ _ _ _ _ us hl => match us, hl with | [_, _, _, _], _ => rfl)
    (fun f cdv A outer s H E hr => walk_l_compute (C_s := ()) (k := 1) X.T cdv A outer s H E hr ((J_l_top X).mono (by decide)))
    (by intro l h k q; repeat (first | (obtain ⟨rfl, _⟩ := q; rfl) | (obtain rfl := q; rfl) | (obtain ⟨_, q⟩ := q))) (ok_l_compute)
theorem J_l_word : Fd P w K mg base G "_law_word" 3 (sp_word) :=
  mkFd X.d_l_word sc_l_word (fun f fd F => F.binds (ps := ["draw", "w"]) fun _ _ _ _ _ _ us hl => match us, hl with | [_, _], _ => rfl)
    (fun f cdv A outer s H E hr => walk_l_word (C_s := ()) (k := 1) X.T cdv A outer s H E hr ((J_l_take X).mono (by decide)) ((J_l_top X).mono (by decide)))
    (by intro l h k q; repeat (first | (obtain ⟨rfl, _⟩ := q; rfl) | (obtain rfl := q; rfl) | (obtain ⟨_, q⟩ := q))) (ok_word)
theorem J_l_ops : Fd P w K mg base G "_law_ops" 2 (sp_ops) :=
  mkFd X.d_l_ops sc_l_ops (fun f fd F => F.binds (ps := []) fun _ _ _ _ _ _ us hl => match us, hl with | [], _ => rfl)
    (fun f cdv A outer s H E hr => walk_l_ops (C_s := ()) (k := 0) X.T cdv A outer s H E hr )
    (by intro l h k q; repeat (first | (obtain ⟨rfl, _⟩ := q; rfl) | (obtain rfl := q; rfl) | (obtain ⟨_, q⟩ := q))) (ok_ops)
theorem J_l_variable : Fd P w K mg base G "_law_variable" 3 (sp_variable) :=
  mkFd X.d_l_variable sc_l_variable (fun f fd F => F.binds (ps := ["draw"]) fun _ _ _ _ _ _ us hl => match us, hl with | [_], _ => rfl)
    (fun f cdv A outer s H E hr => walk_l_variable (C_s := ()) (k := 1) X.T cdv A outer s H E hr ((J_l_take X).mono (by decide)))
    (by intro l h k q; repeat (first | (obtain ⟨rfl, _⟩ := q; rfl) | (obtain rfl := q; rfl) | (obtain ⟨_, q⟩ := q))) (ok_variable)
/-- an expression, an index: at each level -/
theorem J_expr : ∀ n : Nat, Fd P w K mg base G "_law_expression" (4 + 2 * n) (sp_expression n) ∧ Fd P w K mg base G "_law_index" (5 + 2 * n) (sp_index n) := by
  have ix : ∀ n : Nat, Fd P w K mg base G "_law_expression" (4 + 2 * n) (sp_expression n) → Fd P w K mg base G "_law_index" (5 + 2 * n) (sp_index n) := fun n E => by
    have := mkFd (k := 4 + 2 * n) X.d_l_index sc_l_index (fun f fd F => F.binds (ps := ["p", "size", "depth"]) fun _ _ _ _ _ _ us hl => match us, hl with | [_, _, _], _ => rfl)
      (fun f cdv A outer s H E' hr => walk_l_index (C_s := ()) (k := 3 + 2 * n) X.T cdv A outer s H E' (hr.mono (by omega)) ((J_l_take X).mono (by omega)) (E.mono (by omega)) ((J_l_top X).mono (by omega)) ((J_l_variable X).mono (by omega)))
      (by intro l h k q; repeat (first | (obtain ⟨rfl, _⟩ := q; rfl) | (obtain rfl := q; rfl) | (obtain ⟨_, q⟩ := q))) (ok_index n)
    exact this.mono (by omega)
  intro n
  induction n with
  | zero =>
    have z : Fd P w K mg base G "_law_expression" (4 + 2 * 0) (sp_expression 0) := Fd.no X.d_l_expression (fun f fd F => F.binds (ps := ["p", "depth"]) fun _ _ _ _ _ _ us hl => match us, hl with | [_, _], _ => rfl) (by rintro l h k ⟨p, dr, w, ars, depth, _, z, _⟩; omega)
    exact ⟨z, ix 0 z⟩
  | succ n ih =>
    have e : Fd P w K mg base G "_law_expression" (4 + 2 * (n + 1)) (sp_expression (n + 1)) := by
      have := mkFd (k := 5 + 2 * n) X.d_l_expression sc_l_expression (fun f fd F => F.binds (ps := ["p", "depth"]) fun _ _ _ _ _ _ us hl => match us, hl with | [_, _], _ => rfl)
        (fun f cdv A outer s H E' hr => walk_l_expression (C_s := ()) (k := 4 + 2 * n) X.T cdv A outer s H E' (hr.mono (by omega)) ((J_l_take X).mono (by omega)) ((J_l_word X).mono (by omega)) ((J_l_variable X).mono (by omega)) (ih.2.mono (by omega)) (ih.1.mono (by omega)) ((J_l_ops X).mono (by omega)))
        (by intro l h k q; repeat (first | (obtain ⟨rfl, _⟩ := q; rfl) | (obtain rfl := q; rfl) | (obtain ⟨_, q⟩ := q))) (ok_expression (n + 1))
      exact this.mono (by omega)
    exact ⟨e, ix _ e⟩
theorem J_l_expression : Fd P w K mg base G "_law_expression" 10 (sp_expression 3) := (J_expr X 3).1
theorem J_l_index : Fd P w K mg base G "_law_index" 9 (sp_index 2) := (J_expr X 2).2
theorem J_l_row : Fd P w K mg base G "_law_row" 11 (sp_row) :=
  mkFd X.d_l_row sc_l_row (fun f fd F => F.binds (ps := ["p", "others"]) fun _ _ _ _ _ _ us hl => match us, hl with | [_, _], _ => rfl)
    (fun f cdv A outer s H E hr => walk_l_row (C_s := ()) (k := 9) X.T cdv A outer s H E hr ((J_l_take X).mono (by decide)) ((J_l_expression X).mono (by decide)) ((J_l_variable X).mono (by decide)) ((J_l_index X).mono (by decide)))
    (by intro l h k q; repeat (first | (obtain ⟨rfl, _⟩ := q; rfl) | (obtain rfl := q; rfl) | (obtain ⟨_, q⟩ := q))) (ok_row)
theorem J_l_blocks : Fd P w K mg base G "_law_blocks" 12 (sp_blocks) :=
  mkFd X.d_l_blocks sc_l_blocks (fun f fd F => F.binds (ps := ["p", "others", "blocks", "rows"]) fun _ _ _ _ _ _ us hl => match us, hl with | [_, _, _, _], _ => rfl)
    (fun f cdv A outer s H E hr => walk_l_blocks (C_s := ()) (k := 10) X.T cdv A outer s H E hr ((J_l_take X).mono (by decide)) ((J_l_row X).mono (by decide)) ((J_l_expression X).mono (by decide)))
    (by intro l h k q; repeat (first | (obtain ⟨rfl, _⟩ := q; rfl) | (obtain rfl := q; rfl) | (obtain ⟨_, q⟩ := q))) (ok_blocks)
theorem J_l_program : Fd P w K mg base G "_law_program" 13 (sp_program) :=
  mkFd X.d_l_program sc_l_program (fun f fd F => F.binds (ps := ["draw", "w", "blocks", "rows"]) fun _ _ _ _ _ _ us hl => match us, hl with | [_, _, _, _], _ => rfl)
    (fun f cdv A outer s H E hr => walk_l_program (C_s := ()) (k := 11) X.T cdv A outer s H E hr ((J_l_take X).mono (by decide)) ((J_l_blocks X).mono (by decide)) ((J_l_variable X).mono (by decide)))
    (by intro l h k q; repeat (first | (obtain ⟨rfl, _⟩ := q; rfl) | (obtain rfl := q; rfl) | (obtain ⟨_, q⟩ := q))) (ok_program)
theorem J_l_body : Fd P w K mg base G "_law_body" 2 (sp_lbody) :=
  mkFd X.d_l_body sc_l_body (fun f fd F => F.binds (ps := ["m", "here"]) fun _ _ _ _ _ _ us hl => match us, hl with | [_, _], _ => rfl)
    (fun f cdv A outer s H E hr => walk_l_body (C_s := ()) (k := 0) X.T cdv A outer s H E hr )
    (by intro l h k q; repeat (first | (obtain ⟨rfl, _⟩ := q; rfl) | (obtain rfl := q; rfl) | (obtain ⟨_, q⟩ := q))) (ok_l_body)
theorem J_l_ended : Fd P w K mg base G "_law_ended" 2 (sp_lended) :=
  mkFd X.d_l_ended sc_l_ended (fun f fd F => F.binds (ps := ["m", "end"]) fun _ _ _ _ _ _ us hl => match us, hl with | [_, _], _ => rfl)
    (fun f cdv A outer s H E hr => walk_l_ended (C_s := ()) (k := 0) X.T cdv A outer s H E hr )
    (by intro l h k q; repeat (first | (obtain ⟨rfl, _⟩ := q; rfl) | (obtain rfl := q; rfl) | (obtain ⟨_, q⟩ := q))) (ok_l_ended)
theorem J_l_inside : Fd P w K mg base G "_law_inside" 3 (sp_linside) :=
  mkFd X.d_l_inside sc_l_inside (fun f fd F => F.binds (ps := ["m", "name", "at"]) fun _ _ _ _ _ _ us hl => match us, hl with | [_, _, _], _ => rfl)
    (fun f cdv A outer s H E hr => walk_l_inside (C_s := ()) (k := 1) X.T cdv A outer s H E hr ((J_l_body X).mono (by decide)) ((J_l_ended X).mono (by decide)))
    (by intro l h k q; repeat (first | (obtain ⟨rfl, _⟩ := q; rfl) | (obtain rfl := q; rfl) | (obtain ⟨_, q⟩ := q))) (ok_l_inside)
theorem R_l_value : ∀ m : Nat, Fd P w K mg base G "_law_value" (8 + m) ((sp_lvalue) m)
  | 0 => Fd.no X.d_l_value (fun f fd F => F.binds (ps := ["m", "e"]) fun _ _ _ _ _ _ us hl => match us, hl with | [_, _], _ => rfl) (by rintro l h k ⟨_, _, _, _, _, _, _, _, _, _, _, _, _, _, z, _⟩; exact z)
  | m + 1 => (mkFd (k := 8 + m) X.d_l_value sc_l_value (fun f fd F => F.binds (ps := ["m", "e"]) fun _ _ _ _ _ _ us hl => match us, hl with | [_, _], _ => rfl)
    (fun f cdv A outer s H E hr => walk_l_value (C_s := ()) (k := 7 + m) X.T cdv A outer s H E (hr.mono (by omega)) ((R_l_value m).mono (by omega)) ((J_l_inside X).mono (by omega)) ((J_l_compute X).mono (by omega)))
    (by intro l h k q; repeat (first | (obtain ⟨rfl, _⟩ := q; rfl) | (obtain rfl := q; rfl) | (obtain ⟨_, q⟩ := q))) (ok_l_value m))
theorem J_l_value : Fd P w K mg base G "_law_value" 13 ((sp_lvalue) 5) := R_l_value X 5
theorem J_l_begin : Fd P w K mg base G "_law_begin" 2 (sp_lbegin) :=
  mkFd X.d_l_begin sc_l_begin (fun f fd F => F.binds (ps := ["m", "here"]) fun _ _ _ _ _ _ us hl => match us, hl with | [_, _], _ => rfl)
    (fun f cdv A outer s H E hr => walk_l_begin (C_s := ()) (k := 0) X.T cdv A outer s H E hr )
    (by intro l h k q; repeat (first | (obtain ⟨rfl, _⟩ := q; rfl) | (obtain rfl := q; rfl) | (obtain ⟨_, q⟩ := q))) (ok_l_begin)
theorem J_l_called : Fd P w K mg base G "_law_called" 14 (sp_lstm (fun s => ∃ v p es, s = .call v p es)) :=
  mkFd X.d_l_called sc_l_called (fun f fd F => F.binds (ps := ["m", "here", "row"]) fun _ _ _ _ _ _ us hl => match us, hl with | [_, _, _], _ => rfl)
    (fun f cdv A outer s H E hr => walk_l_called (C_s := ()) (k := 12) X.T cdv A outer s H E hr ((J_l_value X).mono (by decide)) ((J_l_ended X).mono (by decide)) ((J_l_begin X).mono (by decide)))
    (by intro l h k q; repeat (first | (obtain ⟨rfl, _⟩ := q; rfl) | (obtain rfl := q; rfl) | (obtain ⟨_, q⟩ := q))) (ok_l_called)
theorem J_l_done : Fd P w K mg base G "_law_done" 14 (sp_lstm (fun s => ¬ ∃ v p es, s = .call v p es)) :=
  mkFd X.d_l_done sc_l_done (fun f fd F => F.binds (ps := ["m", "here", "row"]) fun _ _ _ _ _ _ us hl => match us, hl with | [_, _, _], _ => rfl)
    (fun f cdv A outer s H E hr => walk_l_done (C_s := ()) (k := 12) X.T cdv A outer s H E hr ((J_l_value X).mono (by decide)) ((J_l_inside X).mono (by decide)) ((J_l_ended X).mono (by decide)))
    (by intro l h k q; repeat (first | (obtain ⟨rfl, _⟩ := q; rfl) | (obtain rfl := q; rfl) | (obtain ⟨_, q⟩ := q))) (ok_l_done)
theorem J_l_left : Fd P w K mg base G "_law_left" 14 (sp_lleft) :=
  mkFd X.d_l_left sc_l_left (fun f fd F => F.binds (ps := ["m", "here", "end"]) fun _ _ _ _ _ _ us hl => match us, hl with | [_, _, _], _ => rfl)
    (fun f cdv A outer s H E hr => walk_l_left (C_s := ()) (k := 12) X.T cdv A outer s H E hr ((J_l_value X).mono (by decide)) ((J_l_ended X).mono (by decide)) ((J_l_begin X).mono (by decide)))
    (by intro l h k q; repeat (first | (obtain ⟨rfl, _⟩ := q; rfl) | (obtain rfl := q; rfl) | (obtain ⟨_, q⟩ := q))) (ok_l_left)
theorem J_l_run : Fd P w K mg base G "_law_run" 15 (sp_lrun) :=
  mkFd X.d_l_run sc_l_run (fun f fd F => F.binds (ps := ["program", "inputs", "steps"]) fun _ _ _ _ _ _ us hl => match us, hl with | [_, _, _], _ => rfl)
    (fun f cdv A outer s H E hr => walk_l_run (C_s := ()) (k := 13) X.T cdv A outer s H E hr ((J_l_begin X).mono (by decide)) ((J_l_body X).mono (by decide)) ((J_l_left X).mono (by decide)) ((J_l_called X).mono (by decide)) ((J_l_done X).mono (by decide)))
    (by intro l h k q; repeat (first | (obtain ⟨rfl, _⟩ := q; rfl) | (obtain rfl := q; rfl) | (obtain ⟨_, q⟩ := q))) (ok_l_run)
theorem R_l_has_cell : ∀ m : Nat, Fd P w K mg base G "_law_has_cell" (4 + m) ((sp_lhas) m)
  | 0 => Fd.no X.d_l_has_cell (fun f fd F => F.binds (ps := ["part"]) fun _ _ _ _ _ _ us hl => match us, hl with | [_], _ => rfl) (by rintro l h k ⟨_, _, _, z, _⟩; omega)
  | m + 1 => (mkFd (k := 4 + m) X.d_l_has_cell sc_l_has_cell (fun f fd F => F.binds (ps := ["part"]) fun _ _ _ _ _ _ us hl => match us, hl with | [_], _ => rfl)
    (fun f cdv A outer s H E hr => walk_l_has_cell (C_s := ()) (k := 3 + m) X.T cdv A outer s H E (hr.mono (by omega)) ((R_l_has_cell m).mono (by omega)))
    (by intro l h k q; repeat (first | (obtain ⟨rfl, _⟩ := q; rfl) | (obtain rfl := q; rfl) | (obtain ⟨_, q⟩ := q))) (ok_l_has_cell m))
theorem J_l_has_cell : Fd P w K mg base G "_law_has_cell" 16 ((sp_lhas) 12) := R_l_has_cell X 12
theorem J_l_items : Fd P w K mg base G "_law_items" 17 (sp_itemsof) :=
  mkFd X.d_l_items sc_l_items (fun f fd F => F.binds (ps := ["program"]) fun _ _ _ _ _ _ us hl => match us, hl with | [_], _ => rfl)
    (fun f cdv A outer s H E hr => walk_l_items (C_s := ()) (k := 15) X.T cdv A outer s H E hr ((J_l_has_cell X).mono (by decide)))
    (by intro l h k q; repeat (first | (obtain ⟨rfl, _⟩ := q; rfl) | (obtain rfl := q; rfl) | (obtain ⟨_, q⟩ := q))) (ok_l_items 12 (by decide))
theorem J_l_ring : Fd P w K mg base G "_law_ring" 3 (sp_lring) :=
  mkFd X.d_l_ring sc_l_ring (fun f fd F => F.binds (ps := ["draw", "w"]) fun _ _ _ _ _ _ us hl => match us, hl with | [_, _], _ => rfl)
    (fun f cdv A outer s H E hr => walk_l_ring (C_s := ()) (k := 1) X.T cdv A outer s H E hr ((J_l_take X).mono (by decide)))
    (by intro l h k q; repeat (first | (obtain ⟨rfl, _⟩ := q; rfl) | (obtain rfl := q; rfl) | (obtain ⟨_, q⟩ := q))) (ok_l_ring)
end
end Lk04
end
-- E04
section
set_option maxRecDepth 100000
set_option maxHeartbeats 4000000
/-! E04: the law's call, at the claim. -/
namespace Lk04
open PySem PySem.Spec PySem.W PyProof.Rows L2 T3 P04
theorem intK {K : Frag} {mg : Str → Option Value} {h : Heap} {x : Str} {i : Int} {t : Tok} (inK : K.In h) (gl : h.Ns mainGlobals mg) (e : nsIn K mainGlobals x = some (some (.int i t))) : ∃ t, mg x = some (.int i t) := ⟨t, mg_of inK gl e⟩
theorem ktup2 {K : Frag} {mg : Str → Option Value} {h : Heap} {x s1 s2 : Str} {p : Addr} {t1 t2 : Tok} {od : Option Addr} {n : Nat} {osl : Array (Option Value)} (inK : K.In h) (gl : h.Ns mainGlobals mg) (e : nsIn K mainGlobals x = some (some (.ref p)))
    (l : K.lookup p = some ⟨.type "tuple", od, .seq #[.str s1 t1, .str s2 t2] n, osl⟩) : KTup K mg x [s1, s2] :=
  ⟨p, mg_of inK gl e, fun H => .inr ⟨_, _, n, l, rfl, rfl, (by show 2 ≤ sizeLine; decide), .cons ⟨t1, rfl⟩ (.cons ⟨t2, rfl⟩ .nil)⟩⟩
theorem room73 : Room 73 callerA := ⟨rfl, by decide, by decide⟩
theorem walk04 {q : Program} {loose : List Str} {XP : (Str → Option Value) → Heap → Prop} {YP : World → Heap → Prop} {d : DefRec} {K : Params → Frag} (hdf : d.params.defaults = []) (hname : d.name = "law")
    (hY : ∀ (w : World) (h : Heap), YP w h → (K w.params).In h)
    (F : ∀ (w : World) (mg : Str → Option Value) (h : Heap), (K w.params).In h → h.Ns mainGlobals mg → ∃ C_Frame C_Runner, ∀ base, Top PySem.Challenge.pw_inputways_k04_runs w (K w.params) mg base C_Frame C_Runner) :
    WalkO q loose XP YP PySem.Challenge.rw_inputways_k04_runs.row.toRowW d [] (fun f vs => PySem.call f vs) := by
  refine Att.attach_call (l := PySem.Challenge.rw_inputways_k04_runs) (n := 63) rfl hdf fun w s₀ s₁ mg mb fa o pm cd doc a vs ns Gr Y ho hd hcd hmg hobj hints hlen hg => ?_
  have KX := hY w _ Y
  obtain ⟨CF, CR, F⟩ := F w mg _ KX Gr.T.g
  refine law_at KX Gr.T.g Gr.T.b Gr.T.builtins Gr.T.nolimit hg hobj hints (Nat.le_trans hlen (by decide)) fun base H inB gl ro e0 => ?_
  have X := F base
  obtain ⟨f, fd, hm, Fl⟩ := X.law
  rw [hname] at hmg
  have e : f = fa := by
    have z := hm.symm.trans hmg
    cases z; rfl
  subst e
  have few : (⟨K w.params, a, ns⟩ : Sc).ns.length ≤ 1000 := Nat.le_trans hlen (by decide)
  refine call_at (k := 72) (G := ⟨K w.params, a, ns⟩) (l := [.ref a]) (vs := [V.ref a]) (us := [.ref a]) (kk := fun d _ => d = .bl true) (h := fun _ => none) Fl sc_law room73 e0 ?_ (.cons rfl .nil) rfl
    (fun cdv E hr => walk_law (C_s := ()) (k := 71) X.T cdv callerA [] s₁ H E hr rfl ((J_l_draw X rfl few).mono (by decide)) ((J_l_take X).mono (by decide)) ((J_l_program X).mono (by decide)) ((J_l_ring X).mono (by decide)) ((J_items_of X).mono (by decide)) ((J_l_items X).mono (by decide)) ((J_l_word X).mono (by decide)) ((J_l_run X).mono (by decide)) ((J_met X).mono (by decide)) ((J_run X).mono (by decide)))
    ⟨fun _ _ e => (nomatch e), ro⟩ (.cons (.ref a) .nil) (ok_law _ _ _ _ ⟨rfl, fun _ => rfl⟩) (fun d h' v H' e _ _ dv => by subst e; cases dv; rfl)
  exact (Fl.binds (ps := ["script"]) fun _ _ _ _ _ _ us hl => match us, hl with | [_], _ => rfl) s₁ [.ref a] KX rfl
end Lk04
end
-- M04
section
end
open PySem PySem.W PyProof.Rows
set_option maxRecDepth 100000 in
set_option maxHeartbeats 0 in
theorem PySem.Challenge.cw_inputways_k04_runs_holds : PySem.Challenge.rw_inputways_k04_runs.Holds := by
  w_on; o_law; k_head; (case hw => w_witness2)
  k_fill
  refine Lk04.walk04 rfl rfl (fun w h Y => PySem.W.kIn_of Y) ?F
  intro w mg h KX G
  refine' ⟨?CF, ?CR, fun base => ⟨?T, ?TT, ?T_Frame, ?mk_Frame, ?kp_Frame, ?g_Frame, ?T_Runner, ?mk_Runner, ?kp_Runner, ?g_Runner, ?d_top, ?d_shifted, ?d_compute, ?d_size_of, ?d_procedure_of, ?d_block_of, ?d_targets, ?m_Frame_init, ?m_Frame_block, ?m_Frame_place, ?m_Runner_finish, ?m_Runner_is_below, ?m_Runner_value, ?m_Runner_enter, ?m_Runner_store, ?m_Runner_call, ?m_Runner_statement, ?m_Runner_go, ?m_Runner_leave, ?m_Runner_run, ?m_Runner_init, ?d_done, ?d_run, ?d_met, ?d_statement_items, ?d_has_cell, ?d_looks, ?d_items_of, ?d_l_draw, ?d_l_take, ?d_l_top, ?d_l_compute, ?d_l_word, ?d_l_ops, ?d_l_variable, ?d_l_expression, ?d_l_index, ?d_l_row, ?d_l_blocks, ?d_l_program, ?d_l_body, ?d_l_ended, ?d_l_inside, ?d_l_value, ?d_l_begin, ?d_l_called, ?d_l_done, ?d_l_left, ?d_l_run, ?d_l_has_cell, ?d_l_items, ?d_l_ring, ?law⟩⟩
  (case g_Frame => refine' PySem.W.mg_of KX G ?a; (case a => k_is))
  (case g_Runner => refine' PySem.W.mg_of KX G ?a; (case a => k_is))
  (case T => refine' ⟨PySem.W.mg_none_of KX G ?len_, PySem.W.mg_none_of KX G ?range_, PySem.W.mg_none_of KX G ?tuple_, PySem.W.mg_none_of KX G ?sorted_, PySem.W.mg_none_of KX G ?list_, PySem.W.mg_none_of KX G ?any_, PySem.W.mg_none_of KX G ?int_, PySem.W.mg_none_of KX G ?abs_, PySem.W.mg_none_of KX G ?min_, PySem.W.mg_none_of KX G ?max_, PySem.W.mg_none_of KX G ?isinstance_, PySem.W.mg_none_of KX G ?set_, PySem.W.mg_none_of KX G ?repr_, Lk04.intK KX G ?c_MOST_FRAMES_⟩; (case len_ => k_is); (case range_ => k_is); (case tuple_ => k_is); (case sorted_ => k_is); (case list_ => k_is); (case any_ => k_is); (case int_ => k_is); (case abs_ => k_is); (case min_ => k_is); (case max_ => k_is); (case isinstance_ => k_is); (case set_ => k_is); (case repr_ => k_is); (case c_MOST_FRAMES_ => k_is))
  (case TT => refine' ⟨Lk04.ktup2 KX G ?a ?l⟩; (case a => k_is); (case l => k_is))
  (case T_Frame => exact ⟨T3.cls_mk (by k_is) (by k_is) (by k_is) (by k_is), by intro f hf; simp at hf; rcases hf with rfl | rfl | rfl | rfl | rfl <;> (show PySem.W.findIn _ _ _ = _; k_is), by decide, by decide⟩)
  (case mk_Frame => k_is)
  (case kp_Frame => k_is)
  (case T_Runner => exact ⟨T3.cls_mk (by k_is) (by k_is) (by k_is) (by k_is), by intro f hf; simp at hf; rcases hf with rfl | rfl | rfl | rfl | rfl | rfl | rfl | rfl | rfl | rfl <;> (show PySem.W.findIn _ _ _ = _; k_is), by decide, by decide⟩)
  (case mk_Runner => k_is)
  (case kp_Runner => k_is)
  (case d_top => refine' T3.at_mk KX G ?a ?l ?c ?k; (case a => k_is); (case l => k_is); (case c => k_is); (case k => k_is))
  (case d_shifted => refine' T3.at_mk KX G ?a ?l ?c ?k; (case a => k_is); (case l => k_is); (case c => k_is); (case k => k_is))
  (case d_compute => refine' T3.at_mk KX G ?a ?l ?c ?k; (case a => k_is); (case l => k_is); (case c => k_is); (case k => k_is))
  (case d_size_of => refine' T3.at_mk KX G ?a ?l ?c ?k; (case a => k_is); (case l => k_is); (case c => k_is); (case k => k_is))
  (case d_procedure_of => refine' T3.at_mk KX G ?a ?l ?c ?k; (case a => k_is); (case l => k_is); (case c => k_is); (case k => k_is))
  (case d_block_of => refine' T3.at_mk KX G ?a ?l ?c ?k; (case a => k_is); (case l => k_is); (case c => k_is); (case k => k_is))
  (case d_targets => refine' T3.at_mk KX G ?a ?l ?c ?k; (case a => k_is); (case l => k_is); (case c => k_is); (case k => k_is))
  (case m_Frame_init => refine' T3.atm_mk ?a ?i ?l ?c ?k; (case a => k_is); (case i => k_is); (case l => k_is); (case c => k_is); (case k => k_is))
  (case m_Frame_block => refine' T3.atm_mk ?a ?i ?l ?c ?k; (case a => k_is); (case i => k_is); (case l => k_is); (case c => k_is); (case k => k_is))
  (case m_Frame_place => refine' T3.atm_mk ?a ?i ?l ?c ?k; (case a => k_is); (case i => k_is); (case l => k_is); (case c => k_is); (case k => k_is))
  (case m_Runner_finish => refine' T3.atm_mk ?a ?i ?l ?c ?k; (case a => k_is); (case i => k_is); (case l => k_is); (case c => k_is); (case k => k_is))
  (case m_Runner_is_below => refine' T3.atm_mk ?a ?i ?l ?c ?k; (case a => k_is); (case i => k_is); (case l => k_is); (case c => k_is); (case k => k_is))
  (case m_Runner_value => refine' T3.atm_mk ?a ?i ?l ?c ?k; (case a => k_is); (case i => k_is); (case l => k_is); (case c => k_is); (case k => k_is))
  (case m_Runner_enter => refine' T3.atm_mk ?a ?i ?l ?c ?k; (case a => k_is); (case i => k_is); (case l => k_is); (case c => k_is); (case k => k_is))
  (case m_Runner_store => refine' T3.atm_mk ?a ?i ?l ?c ?k; (case a => k_is); (case i => k_is); (case l => k_is); (case c => k_is); (case k => k_is))
  (case m_Runner_call => refine' T3.atm_mk ?a ?i ?l ?c ?k; (case a => k_is); (case i => k_is); (case l => k_is); (case c => k_is); (case k => k_is))
  (case m_Runner_statement => refine' T3.atm_mk ?a ?i ?l ?c ?k; (case a => k_is); (case i => k_is); (case l => k_is); (case c => k_is); (case k => k_is))
  (case m_Runner_go => refine' T3.atm_mk ?a ?i ?l ?c ?k; (case a => k_is); (case i => k_is); (case l => k_is); (case c => k_is); (case k => k_is))
  (case m_Runner_leave => refine' T3.atm_mk ?a ?i ?l ?c ?k; (case a => k_is); (case i => k_is); (case l => k_is); (case c => k_is); (case k => k_is))
  (case m_Runner_run => refine' T3.atm_mk ?a ?i ?l ?c ?k; (case a => k_is); (case i => k_is); (case l => k_is); (case c => k_is); (case k => k_is))
  (case m_Runner_init => refine' T3.atm_mk ?a ?i ?l ?c ?k; (case a => k_is); (case i => k_is); (case l => k_is); (case c => k_is); (case k => k_is))
  (case d_done => refine' T3.at_mk KX G ?a ?l ?c ?k; (case a => k_is); (case l => k_is); (case c => k_is); (case k => k_is))
  (case d_run => refine' T3.at_mk KX G ?a ?l ?c ?k; (case a => k_is); (case l => k_is); (case c => k_is); (case k => k_is))
  (case d_met => refine' T3.at_mk KX G ?a ?l ?c ?k; (case a => k_is); (case l => k_is); (case c => k_is); (case k => k_is))
  (case d_statement_items => refine' T3.at_mk KX G ?a ?l ?c ?k; (case a => k_is); (case l => k_is); (case c => k_is); (case k => k_is))
  (case d_has_cell => refine' T3.at_mk KX G ?a ?l ?c ?k; (case a => k_is); (case l => k_is); (case c => k_is); (case k => k_is))
  (case d_looks => refine' T3.at_mk KX G ?a ?l ?c ?k; (case a => k_is); (case l => k_is); (case c => k_is); (case k => k_is))
  (case d_items_of => refine' T3.at_mk KX G ?a ?l ?c ?k; (case a => k_is); (case l => k_is); (case c => k_is); (case k => k_is))
  (case d_l_draw => refine' T3.at_mk KX G ?a ?l ?c ?k; (case a => k_is); (case l => k_is); (case c => k_is); (case k => k_is))
  (case d_l_take => refine' T3.at_mk KX G ?a ?l ?c ?k; (case a => k_is); (case l => k_is); (case c => k_is); (case k => k_is))
  (case d_l_top => refine' T3.at_mk KX G ?a ?l ?c ?k; (case a => k_is); (case l => k_is); (case c => k_is); (case k => k_is))
  (case d_l_compute => refine' T3.at_mk KX G ?a ?l ?c ?k; (case a => k_is); (case l => k_is); (case c => k_is); (case k => k_is))
  (case d_l_word => refine' T3.at_mk KX G ?a ?l ?c ?k; (case a => k_is); (case l => k_is); (case c => k_is); (case k => k_is))
  (case d_l_ops => refine' T3.at_mk KX G ?a ?l ?c ?k; (case a => k_is); (case l => k_is); (case c => k_is); (case k => k_is))
  (case d_l_variable => refine' T3.at_mk KX G ?a ?l ?c ?k; (case a => k_is); (case l => k_is); (case c => k_is); (case k => k_is))
  (case d_l_expression => refine' T3.at_mk KX G ?a ?l ?c ?k; (case a => k_is); (case l => k_is); (case c => k_is); (case k => k_is))
  (case d_l_index => refine' T3.at_mk KX G ?a ?l ?c ?k; (case a => k_is); (case l => k_is); (case c => k_is); (case k => k_is))
  (case d_l_row => refine' T3.at_mk KX G ?a ?l ?c ?k; (case a => k_is); (case l => k_is); (case c => k_is); (case k => k_is))
  (case d_l_blocks => refine' T3.at_mk KX G ?a ?l ?c ?k; (case a => k_is); (case l => k_is); (case c => k_is); (case k => k_is))
  (case d_l_program => refine' T3.at_mk KX G ?a ?l ?c ?k; (case a => k_is); (case l => k_is); (case c => k_is); (case k => k_is))
  (case d_l_body => refine' T3.at_mk KX G ?a ?l ?c ?k; (case a => k_is); (case l => k_is); (case c => k_is); (case k => k_is))
  (case d_l_ended => refine' T3.at_mk KX G ?a ?l ?c ?k; (case a => k_is); (case l => k_is); (case c => k_is); (case k => k_is))
  (case d_l_inside => refine' T3.at_mk KX G ?a ?l ?c ?k; (case a => k_is); (case l => k_is); (case c => k_is); (case k => k_is))
  (case d_l_value => refine' T3.at_mk KX G ?a ?l ?c ?k; (case a => k_is); (case l => k_is); (case c => k_is); (case k => k_is))
  (case d_l_begin => refine' T3.at_mk KX G ?a ?l ?c ?k; (case a => k_is); (case l => k_is); (case c => k_is); (case k => k_is))
  (case d_l_called => refine' T3.at_mk KX G ?a ?l ?c ?k; (case a => k_is); (case l => k_is); (case c => k_is); (case k => k_is))
  (case d_l_done => refine' T3.at_mk KX G ?a ?l ?c ?k; (case a => k_is); (case l => k_is); (case c => k_is); (case k => k_is))
  (case d_l_left => refine' T3.at_mk KX G ?a ?l ?c ?k; (case a => k_is); (case l => k_is); (case c => k_is); (case k => k_is))
  (case d_l_run => refine' T3.at_mk KX G ?a ?l ?c ?k; (case a => k_is); (case l => k_is); (case c => k_is); (case k => k_is))
  (case d_l_has_cell => refine' T3.at_mk KX G ?a ?l ?c ?k; (case a => k_is); (case l => k_is); (case c => k_is); (case k => k_is))
  (case d_l_items => refine' T3.at_mk KX G ?a ?l ?c ?k; (case a => k_is); (case l => k_is); (case c => k_is); (case k => k_is))
  (case d_l_ring => refine' T3.at_mk KX G ?a ?l ?c ?k; (case a => k_is); (case l => k_is); (case c => k_is); (case k => k_is))
  (case law => refine' T3.at_mk KX G ?a ?l ?c ?k; (case a => k_is); (case l => k_is); (case c => k_is); (case k => k_is))
