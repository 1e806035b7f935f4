import PyProof.Rows.All
import Wide.All
import OpenK.AllK
import Wide.FinOn
import KE.RegKSuper
import HandS.ForMost
import HandS.TupAny
import HandS.IsInst
import HandS.Deep
import HandS.Conv
import HandS.Flow
import HandS.Wide
import HandS.WideBits
import HandS.Text
import HandS.SetKeys
import KE.SortData
import HandS.SortRule
import KE.KExcSuper
import KE.KSuper
import HandS.ExcInit
import HandS.ExcOwn
import HandS.WordsExc
import HandS.Replace
import PyProof.LongRange
import PyProof.Rows.NestShow
import HandS.ExcField
import PySem.Challenge.RW_inputways_k06_packing
set_option Elab.async false
set_option linter.all false
-- T3Core
section
set_option maxRecDepth 100000
/-! T3Core: values with tuples by value, a heap of lists, dicts, instances; readings W. -/
namespace T3
open PySem L2

inductive D where
  | non | bl (b : Bool) | int (i : Int) | str (x : Str) | tup (l : List D) | ref (a : Addr)

/-- what stands at an address -/
inductive O where
  | lst (l : List D)
  | dK (kvs : List (Key × D)) | dT (kvs : List (List Key × D))
  /-- an instance of the class at C, its attributes' names in order, their values -/
  | ins (C : Addr) (N : List Str) (vs : List D)

abbrev H3 := Addr → Option O
def up (h : H3) (a : Addr) (o : O) : H3 := fun b => if b = a then some o else h b
@[simp] theorem up_same {h : H3} {a : Addr} {o : O} : up h a o a = some o := by unfold up; rw [if_pos rfl]
theorem up_ne {h : H3} {a b : Addr} {o : O} (e : b ≠ a) : up h a o b = h b := by unfold up; rw [if_neg e]
@[simp] theorem up_up {h : H3} {a : Addr} {o u : O} : up (up h a o) a u = up h a u := by
  funext b; unfold up; split <;> rfl
/-- h is part of h' -/
def Sub (h h' : H3) : Prop := ∀ a o, h a = some o → h' a = some o
theorem Sub.refl (h : H3) : Sub h h := fun _ _ e => e
theorem Sub.trans {h h1 h2 : H3} (a : Sub h h1) (b : Sub h1 h2) : Sub h h2 := fun c o e => b c o (a c o e)
theorem Sub.up {h h' : H3} {a : Addr} {o : O} (s : Sub h h') (n : h a = none) : Sub h (up h' a o) := fun b u e => by
  by_cases hb : b = a
  · subst hb; rw [n] at e; cases e
  · rw [up_ne hb]; exact s b u e
theorem Sub.up_up {h h' : H3} {a : Addr} {o : O} (s : Sub h h') : Sub (T3.up h a o) (T3.up h' a o) := fun b u e => by
  by_cases hb : b = a
  · subst hb; rw [up_same] at e ⊢; exact e
  · rw [up_ne hb] at e ⊢; exact s b u e

abbrev Ev := List (Option D)
abbrev K1 := D → H3 → Prop
abbrev KB := Bool → H3 → Prop
abbrev KL := List D → H3 → Prop
abbrev WE := Ev → H3 → K1 → Prop
abbrev WT := Ev → H3 → KB → Prop
abbrev WA := Ev → H3 → KL → Prop
structure En where
  nx : Ev → H3 → Prop
  rt : K1
  bk : Ev → H3 → Prop := fun _ _ => False
  ct : Ev → H3 → Prop := fun _ _ => False
abbrev WS := En → Ev → H3 → Prop
abbrev WG := D → Ev → H3 → (Ev → H3 → Prop) → Prop
/-- a def's promise -/
abbrev Sp3 := List D → H3 → K1 → Prop

/-! ### the relation to HandS's heap -/
mutual
inductive DV (H : Hp) : D → V → Prop
  | non : DV H .non .non
  | bl (b : Bool) : DV H (.bl b) (.bl b)
  | int (i : Int) : DV H (.int i) (.int i)
  | str (x : Str) : DV H (.str x) (.str x)
  | ref (a : Addr) : DV H (.ref a) (.ref a)
  | tup {a : Addr} {l : List D} {vs : List V} : H a = some (.tup vs) → DVs H l vs → DV H (.tup l) (.ref a)
inductive DVs (H : Hp) : List D → List V → Prop
  | nil : DVs H [] []
  | cons {d : D} {v : V} {l : List D} {vs : List V} : DV H d v → DVs H l vs → DVs H (d :: l) (v :: vs)
end
def KVs {κ : Type} (H : Hp) : List (κ × D) → List (κ × V) → Prop := Paired fun p q => p.1 = q.1 ∧ DV H p.2 q.2
/-- a list that is never written -/
def Ro (K : PySem.W.Frag) (H : Hp) (a : Addr) (vs : List V) : Prop :=
  (∃ o, H a = some (.frz o (.lst vs))) ∨
    ∃ (o : Obj) (its : Array Value) (n : Nat), K.lookup a = some o ∧ o.cls = .type "list" ∧ o.dict = none ∧ o.data = .seq its n ∧ its.size ≤ sizeLine ∧ Vals vs its.toList
/-- the law's script: where it stands, what it holds -/
structure Sc where
  K : PySem.W.Frag
  a : Addr
  ns : List Int
def OV (H : Hp) (a : Addr) : O → Prop
  | .lst l => ∃ vs, H a = some (.lst vs) ∧ DVs H l vs
  | .dK kvs => ∃ kv', H a = some (.dK kv') ∧ KVs H kvs kv'
  | .dT kvs => ∃ kv', H a = some (.dT kv') ∧ KVs H kvs kv'
  | .ins C N vs => ∃ dx fs, H a = some (.ins C dx fs) ∧ fs.map (·.1) = N.take vs.length ∧ vs.length ≤ N.length ∧ DVs H vs (fs.map (·.2))
structure Rel (G : Sc) (h : H3) (H : Hp) : Prop where
  at_ : ∀ a o, h a = some o → OV H a o
  sc : Ro G.K H G.a (G.ns.map V.int)
/-- what never goes away -/
structure Per (H H' : Hp) : Prop where
  tups : ∀ b xs, H b = some (.tup xs) → H' b = some (.tup xs)
  frzs : ∀ b o u, H b = some (.frz o u) → H' b = some (.frz o u)
theorem Per.refl (H : Hp) : Per H H := ⟨fun _ _ e => e, fun _ _ _ e => e⟩
theorem Per.trans {H H1 H2 : Hp} (a : Per H H1) (b : Per H1 H2) : Per H H2 := ⟨fun _ _ e => b.tups _ _ (a.tups _ _ e), fun _ _ _ e => b.frzs _ _ _ (a.frzs _ _ _ e)⟩
theorem Per.new {H : Hp} {p : Addr} {o : HO} (n : H p = none) : Per H (upd H p o) :=
  ⟨fun _ _ e => by rw [upd_ne (ne_of_none e n)]; exact e, fun _ _ _ e => by rw [upd_ne (ne_of_none e n)]; exact e⟩
theorem Per.mut {H : Hp} {p : Addr} {o : HO} (n : Mut (H p)) : Per H (upd H p o) :=
  ⟨fun b _ e => by
    have hb : b ≠ p := fun z => by subst z; rw [e] at n; exact n
    rw [upd_ne hb]; exact e, fun b _ _ e => by
    have hb : b ≠ p := fun z => by subst z; rw [e] at n; exact n
    rw [upd_ne hb]; exact e⟩
mutual
theorem DV.per {H H' : Hp} (p : Per H H') : ∀ {d : D} {v : V}, DV H d v → DV H' d v
  | .non, _, h => by cases h; exact .non
  | .bl b, _, h => by cases h; exact .bl b
  | .int i, _, h => by cases h; exact .int i
  | .str x, _, h => by cases h; exact .str x
  | .ref a, _, h => by cases h; exact .ref a
  | .tup l, _, h => by
    cases h with
    | tup e r => exact .tup (p.tups _ _ e) (DVs.per p r)
theorem DVs.per {H H' : Hp} (p : Per H H') : ∀ {l : List D} {vs : List V}, DVs H l vs → DVs H' l vs
  | [], _, h => by cases h; exact .nil
  | d :: l, _, h => by
    cases h with
    | cons r t => exact .cons (DV.per p r) (DVs.per p t)
end
section
variable {κ : Type} {G : Sc} {K : PySem.W.Frag} {H H' : Hp} {h h' : H3} {a p : Addr} {o : O}
theorem KVs.per (x : Per H H') {l : List (κ × D)} {vs : List (κ × V)} (r : KVs H l vs) : KVs H' l vs := Paired.mapP r fun _ _ z => ⟨z.1, z.2.per x⟩
theorem Ro.per (x : Per H H') {vs : List V} (r : Ro K H a vs) : Ro K H' a vs := by
  rcases r with ⟨o, e⟩ | r
  · exact .inl ⟨o, x.frzs _ _ _ e⟩
  · exact .inr r
theorem DVs.length : ∀ {l : List D} {vs : List V}, DVs H l vs → l.length = vs.length
  | [], _, h => by cases h; rfl
  | d :: l, _, h => by
    cases h with
    | cons r t => simp [DVs.length t]
theorem DVs.get : ∀ {l : List D} {vs : List V} {i : Nat} {d : D}, DVs H l vs → l[i]? = some d → ∃ v, vs[i]? = some v ∧ DV H d v
  | [], _, _, _, h, e => by simp at e
  | d :: l, _, i, x, h, e => by
    cases h with
    | cons r t =>
      cases i with
      | zero => simp at e; subst e; exact ⟨_, rfl, r⟩
      | succ i =>
        obtain ⟨v, h1, h2⟩ := DVs.get t (by simpa using e)
        exact ⟨v, by simpa using h1, h2⟩
theorem DVs.append : ∀ {l m : List D} {vs ws : List V}, DVs H l vs → DVs H m ws → DVs H (l ++ m) (vs ++ ws)
  | [], _, _, _, h, s => by cases h; exact s
  | d :: l, _, _, _, h, s => by
    cases h with
    | cons r t => exact .cons r (DVs.append t s)
theorem DVs.set {d : D} {v : V} (r : DV H d v) : ∀ {l : List D} {vs : List V} (i : Nat), DVs H l vs → DVs H (l.set i d) (vs.set i v)
  | [], _, _, h => by cases h; exact .nil
  | _ :: _, _, 0, h => by
    cases h with
    | cons q t => exact .cons r t
  | _ :: _, _, i + 1, h => by
    cases h with
    | cons q t => exact .cons q (DVs.set r i t)
theorem DVs.take : ∀ {l : List D} {vs : List V} (n : Nat), DVs H l vs → DVs H (l.take n) (vs.take n)
  | _, _, 0, _ => by rw [List.take_zero, List.take_zero]; exact .nil
  | [], _, _ + 1, h => by cases h; exact .nil
  | _ :: _, _, n + 1, h => by
    cases h with
    | cons r t => exact .cons r (DVs.take n t)
theorem DVs.drop : ∀ {l : List D} {vs : List V} (n : Nat), DVs H l vs → DVs H (l.drop n) (vs.drop n)
  | _, _, 0, r => r
  | [], _, _ + 1, h => by cases h; exact .nil
  | _ :: _, _, n + 1, h => by
    cases h with
    | cons r t => exact DVs.drop n t
theorem DVs.eraseIdx : ∀ {l : List D} {vs : List V} (i : Nat), DVs H l vs → DVs H (l.eraseIdx i) (vs.eraseIdx i)
  | [], _, _, h => by cases h; exact .nil
  | _ :: _, _, 0, h => by
    cases h with
    | cons _ t => exact t
  | _ :: _, _, i + 1, h => by
    cases h with
    | cons r t => exact .cons r (DVs.eraseIdx i t)
theorem DVs.reverse : ∀ {l : List D} {vs : List V}, DVs H l vs → DVs H l.reverse vs.reverse
  | [], _, h => by cases h; exact .nil
  | _ :: _, _, h => by
    cases h with
    | cons r t => rw [List.reverse_cons, List.reverse_cons]; exact (DVs.reverse t).append (.cons r .nil)
theorem DVs.rep {l : List D} {vs : List V} (r : DVs H l vs) : ∀ k : Nat, DVs H (List.replicate k l).flatten (List.replicate k vs).flatten
  | 0 => .nil
  | k + 1 => by rw [List.replicate_succ, List.replicate_succ, List.flatten_cons, List.flatten_cons]; exact r.append (DVs.rep r k)
theorem DVs.nil_iff {l : List D} {vs : List V} (r : DVs H l vs) : vs = [] ↔ l = [] := by
  have e := r.length
  constructor
  · rintro rfl; exact List.length_eq_zero_iff.mp e
  · rintro rfl; exact List.length_eq_zero_iff.mp e.symm
theorem OV.per (x : Per H H') (n : H' a = H a) (r : OV H a o) : OV H' a o := by
  cases o with
  | lst l => obtain ⟨vs, e, q⟩ := r; exact ⟨vs, n.trans e, q.per x⟩
  | dK l => obtain ⟨vs, e, q⟩ := r; exact ⟨vs, n.trans e, q.per x⟩
  | dT l => obtain ⟨vs, e, q⟩ := r; exact ⟨vs, n.trans e, q.per x⟩
  | ins C N l => obtain ⟨dx, fs, e, k, z, q⟩ := r; exact ⟨dx, fs, n.trans e, k, z, q.per x⟩
theorem OV.some (r : OV H a o) : ∃ u, H a = some u ∧ Mut (some u) := by
  cases o with
  | lst l => obtain ⟨vs, e, q⟩ := r; exact ⟨_, e, trivial⟩
  | dK l => obtain ⟨vs, e, q⟩ := r; exact ⟨_, e, trivial⟩
  | dT l => obtain ⟨vs, e, q⟩ := r; exact ⟨_, e, trivial⟩
  | ins C N l => obtain ⟨dx, fs, e, k, z, q⟩ := r; exact ⟨_, e, trivial⟩
theorem Rel.sub (s : Sub h h') (r : Rel G h' H) : Rel G h H := ⟨fun a o e => r.at_ a o (s a o e), r.sc⟩
theorem Rel.none (r : Rel G h H) (n : H p = none) : h p = none := by
  cases e : h p with
  | none => rfl
  | some o =>
    obtain ⟨u, q, _⟩ := (r.at_ p o e).some
    rw [n] at q; cases q
theorem Rel.mut (r : Rel G h H) (e : h a = some o) : Mut (H a) := by
  obtain ⟨u, q, m⟩ := (r.at_ a o e).some
  rw [q]; exact m
/-- a new object -/
theorem Rel.new {u : HO} (r : Rel G h H) (n : H p = Option.none) (q : OV (upd H p u) p o) : Rel G (up h p o) (upd H p u) := by
  refine ⟨fun b x e => ?_, r.sc.per (Per.new n)⟩
  by_cases hb : b = p
  · subst hb; rw [up_same] at e; cases e; exact q
  · rw [up_ne hb] at e; exact (r.at_ b x e).per (Per.new n) (upd_ne hb)
/-- an object of ours that is not told of -/
theorem Rel.new0 {u : HO} (r : Rel G h H) (n : H p = Option.none) : Rel G h (upd H p u) := by
  refine ⟨fun b x e => ?_, r.sc.per (Per.new n)⟩
  obtain ⟨w, q, _⟩ := (r.at_ b x e).some
  exact (r.at_ b x e).per (Per.new n) (upd_ne (ne_of_none q n))
/-- an object changed -/
theorem Rel.write {u : HO} {o' : O} (r : Rel G h H) (n : h p = some o') (q : OV (upd H p u) p o) : Rel G (up h p o) (upd H p u) := by
  have m := r.mut n
  refine ⟨fun b x e => ?_, r.sc.per (Per.mut m)⟩
  by_cases hb : b = p
  · subst hb; rw [up_same] at e; cases e; exact q
  · rw [up_ne hb] at e; exact (r.at_ b x e).per (Per.mut m) (upd_ne hb)
theorem Rel.lst {l : List D} (r : Rel G h H) (e : h a = some (.lst l)) : ∃ vs, H a = some (.lst vs) ∧ DVs H l vs := r.at_ _ _ e
theorem Rel.setLst {l l' : List D} {vs' : List V} (r : Rel G h H) (e : h a = some (.lst l)) (d : DVs H l' vs') : Rel G (up h a (.lst l')) (upd H a (.lst vs')) :=
  r.write e ⟨vs', upd_same, d.per (Per.mut (r.mut e))⟩
theorem Rel.newLst {l' : List D} {vs' : List V} (r : Rel G h H) (n : H p = Option.none) (d : DVs H l' vs') : Rel G (up h p (.lst l')) (upd H p (.lst vs')) :=
  r.new n ⟨vs', upd_same, d.per (Per.new n)⟩
end
end T3
end
-- T3Sound
section
set_option maxRecDepth 100000
set_option maxHeartbeats 4000000
/-! T3Sound: the readings W mean what HandS's readings mean. -/
namespace T3
open PySem PySem.Spec PyProof.Rows L2

def EvR (H : Hp) (ρ : Ev) (σ : L2.St) : Prop := ρ.length = σ.length ∧ ∀ (i : Nat) (d : D), ρ[i]? = some (some d) → ∃ v, σ[i]? = some (some v) ∧ DV H d v
theorem EvR.per {H H' : Hp} {ρ : Ev} {σ : L2.St} (p : Per H H') (e : EvR H ρ σ) : EvR H' ρ σ := ⟨e.1, fun i d q => let ⟨v, a, b⟩ := e.2 i d q; ⟨v, a, b.per p⟩⟩
theorem EvR.set {H : Hp} {ρ : Ev} {σ : L2.St} {d : D} {v : V} (e : EvR H ρ σ) (r : DV H d v) (i : Nat) : EvR H (ρ.set i (some d)) (σ.set i (some v)) := by
  refine ⟨by rw [List.length_set, List.length_set]; exact e.1, fun j x q => ?_⟩
  by_cases hj : i = j
  · subst hj
    by_cases hl : i < ρ.length
    · rw [List.getElem?_set_self hl] at q
      cases q
      exact ⟨v, List.getElem?_set_self (e.1 ▸ hl), r⟩
    · rw [List.getElem?_eq_none (by rw [List.length_set]; omega)] at q
      cases q
  · rw [List.getElem?_set_ne hj] at q ⊢
    exact e.2 j x q

section
variable (G : Sc)
def Post (H : Hp) (k : K1) (Q : VK) : Prop := ∀ d h' v H', k d h' → Rel G h' H' → Per H H' → DV H' d v → Q v H'
def PostB (H : Hp) (k : KB) (Q : Bool → Hp → Prop) : Prop := ∀ b h' H', k b h' → Rel G h' H' → Per H H' → Q b H'
def PostL (H : Hp) (k : KL) (Q : List V → Hp → Prop) : Prop := ∀ l h' vs H', k l h' → Rel G h' H' → Per H H' → DVs H' l vs → Q vs H'
def PostN (H : Hp) (k : Ev → H3 → Prop) (Q : L2.St → Hp → Prop) : Prop := ∀ ρ h' σ H', k ρ h' → Rel G h' H' → Per H H' → EvR H' ρ σ → Q σ H'
def tI (f : WE) : TE := fun σ H Q => ∃ ρ h k, Rel G h H ∧ EvR H ρ σ ∧ f ρ h k ∧ Post G H k Q
def tIT (f : WT) : TT := fun σ H Q => ∃ ρ h k, Rel G h H ∧ EvR H ρ σ ∧ f ρ h k ∧ PostB G H k Q
def tIA (f : WA) : TA := fun σ H Q => ∃ ρ h k, Rel G h H ∧ EvR H ρ σ ∧ f ρ h k ∧ PostL G H k Q
structure PostS (H : Hp) (E : En) (D : Ends) : Prop where
  nx : PostN G H E.nx D.nx
  rt : Post G H E.rt D.rt
  bk : PostN G H E.bk D.bk
  ct : PostN G H E.ct D.ct
def tIS (f : WS) : TS := fun D σ H => ∃ ρ h E, Rel G h H ∧ EvR H ρ σ ∧ f E ρ h ∧ PostS G H E D
def tIG (g : WG) : TG := fun v σ H Q => ∃ d ρ h k, Rel G h H ∧ EvR H ρ σ ∧ DV H d v ∧ g d ρ h k ∧ PostN G H k Q
end
section
variable {G : Sc} {H H' : Hp} {k : K1} {Q : VK}
theorem Post.per (q : Post G H k Q) (p : Per H H') : Post G H' k Q := fun d h' v H2 a b c e => q d h' v H2 a b (p.trans c) e
theorem PostB.per {k : KB} {Q : Bool → Hp → Prop} (q : PostB G H k Q) (p : Per H H') : PostB G H' k Q := fun d h' H2 a b c => q d h' H2 a b (p.trans c)
theorem PostL.per {k : KL} {Q : List V → Hp → Prop} (q : PostL G H k Q) (p : Per H H') : PostL G H' k Q := fun d h' v H2 a b c e => q d h' v H2 a b (p.trans c) e
theorem PostN.per {k : Ev → H3 → Prop} {Q : L2.St → Hp → Prop} (q : PostN G H k Q) (p : Per H H') : PostN G H' k Q := fun d h' v H2 a b c e => q d h' v H2 a b (p.trans c) e
theorem PostS.per {E : En} {D : Ends} (q : PostS G H E D) (p : Per H H') : PostS G H' E D := ⟨q.nx.per p, q.rt.per p, q.bk.per p, q.ct.per p⟩
theorem PostS.with {E : En} {D : Ends} (q : PostS G H E D) {nx : Ev → H3 → Prop} {nx' : L2.St → Hp → Prop} (p : PostN G H nx nx') : PostS G H { E with nx := nx } { D with nx := nx' } := ⟨p, q.rt, q.bk, q.ct⟩
end

/-! ### weakening -/
section
variable {X : Cx} {e : Expr} {es : List Expr} {st : Stmt} {sts : List Stmt}
theorem _root_.L2.PE.weak {t t' : TE} (h : PE X e t) (w : ∀ σ H Q, t' σ H Q → t σ H Q) : PE X e t' := ⟨fun pins s σ H Q I q => h.run pins s σ H Q I (w σ H Q q)⟩
theorem _root_.L2.PT.weak {t t' : TT} (h : PT X e t) (w : ∀ σ H Q, t' σ H Q → t σ H Q) : PT X e t' := ⟨fun pins s σ H Q I q => h.run pins s σ H Q I (w σ H Q q)⟩
theorem _root_.L2.PW.weak {t t' : TT} (h : PW X e t) (w : ∀ σ H Q, t' σ H Q → t σ H Q) : PW X e t' := ⟨fun wh pins s σ H Q I q => h.run wh pins s σ H Q I (w σ H Q q)⟩
theorem _root_.L2.PA.weak {t t' : TA} (h : PA X es t) (w : ∀ σ H Q, t' σ H Q → t σ H Q) : PA X es t' := ⟨fun p pins s σ H Q I q => h.run p pins s σ H Q I (w σ H Q q)⟩
theorem _root_.L2.PS.weak {t t' : TS} (h : PS X st t) (w : ∀ D σ H, t' D σ H → t D σ H) : PS X st t' := ⟨fun pins s σ H D I q => h.run pins s σ H D I (w D σ H q)⟩
theorem _root_.L2.PSs.weak {t t' : TS} (h : PSs X sts t) (w : ∀ D σ H, t' D σ H → t D σ H) : PSs X sts t' := ⟨fun pins s σ H D I q => h.run pins s σ H D I (w D σ H q)⟩
theorem _root_.L2.PG.weak {t t' : TG} (h : PG X e t) (w : ∀ v σ H Q, t' v σ H Q → t v σ H Q) : PG X e t' := ⟨fun pins s σ H v u Q I r q => h.run pins s σ H v u Q I r (w v σ H Q q)⟩
end

/-! ### readings: expressions -/
def wVar (i : Nat) : WE := fun ρ h k => ∃ d, ρ[i]? = some (some d) ∧ k d h
def wC (d : D) : WE := fun _ h k => k d h
def w1 (r : D → H3 → K1 → Prop) (a : WE) : WE := fun ρ h k => a ρ h fun d h1 => r d h1 k
def w2 (r : D → D → H3 → K1 → Prop) (a b : WE) : WE := fun ρ h k => a ρ h fun d h1 => b ρ h1 fun e h2 => r d e h2 k
def wNil : WA := fun _ h k => k [] h
def wCons (a : WE) (t : WA) : WA := fun ρ h k => a ρ h fun d h1 => t ρ h1 fun l h2 => k (d :: l) h2
def wL (r : List D → H3 → K1 → Prop) (t : WA) : WE := fun ρ h k => t ρ h fun l h1 => r l h1 k
def wML (r : D → List D → H3 → K1 → Prop) (a : WE) (t : WA) : WE := fun ρ h k => a ρ h fun d h1 => t ρ h1 fun l h2 => r d l h2 k
def wIf (t : WT) (a b : WE) : WE := fun ρ h k => t ρ h fun c h1 => if c = true then a ρ h1 k else b ρ h1 k
/-- tests -/
def wB (a : WE) : WT := fun ρ h k => a ρ h fun d h1 => ∃ c, d = .bl c ∧ k c h1
def wAnd (a b : WT) : WT := fun ρ h k => a ρ h fun c h1 => if c = true then b ρ h1 k else k false h1
def wOr (a b : WT) : WT := fun ρ h k => a ρ h fun c h1 => if c = true then k true h1 else b ρ h1 k
def wNot (a : WT) : WT := fun ρ h k => a ρ h fun c h1 => k (!c) h1
/-- a test as a value -/
def wV (a : WT) : WE := fun ρ h k => a ρ h fun c h1 => k (.bl c) h1

section
variable {X : Cx} {G : Sc} {a b c e : Expr} {es : List Expr} {f g : WE} {t u : WT} {l : WA} {pos : Pos}
abbrev PE3 (X : Cx) (G : Sc) (e : Expr) (f : WE) : Prop := PE X e (tI G f)
abbrev PT3 (X : Cx) (G : Sc) (e : Expr) (f : WT) : Prop := PT X e (tIT G f)
abbrev PW3 (X : Cx) (G : Sc) (e : Expr) (f : WT) : Prop := PW X e (tIT G f)
abbrev PA3 (X : Cx) (G : Sc) (es : List Expr) (f : WA) : Prop := PA X es (tIA G f)
abbrev PS3 (X : Cx) (G : Sc) (st : Stmt) (f : WS) : Prop := PS X st (tIS G f)
abbrev PSs3 (X : Cx) (G : Sc) (st : List Stmt) (f : WS) : Prop := PSs X st (tIS G f)
abbrev PG3 (X : Cx) (G : Sc) (e : Expr) (f : WG) : Prop := PG X e (tIG G f)

theorem i_var (i : Nat) {x : Str} {pos : Pos} (hN : X.N[i]? = some x := by rfl) (hv : Vis X.env.scope x := by first | exact .inl rfl | exact .inr (.inl rfl) | exact .inr (.inr rfl)) (hd : (x == ("__debug__" : Str)) = false := by decide) (hcd : (x == ("__classdict__" : Str)) = false := by decide) :
    PE3 X G (.Name x pos) (wVar i) := by
  refine (pe_var (i := i) hN hv hd hcd).weak fun σ H Q ⟨ρ, h, k, rel, ev, ⟨d, e, q⟩, post⟩ => ?_
  obtain ⟨v, e', r⟩ := ev.2 i d e
  exact ⟨v, e', post d h v H q rel (Per.refl H) r⟩
theorem i_c {d : D} {v : V} (h : PE X e (tC v)) (r : ∀ H, DV H d v) : PE3 X G e (wC d) := h.weak fun σ H Q ⟨ρ, h, k, rel, ev, q, post⟩ => post d h v H q rel (Per.refl H) (r H)
theorem i_int {i j pos} : PE3 X G (.Constant (.int i) j pos) (wC (.int i)) := i_c pe_int fun H => .int i
theorem i_bl {b j pos} : PE3 X G (.Constant (.bool b) j pos) (wC (.bl b)) := i_c pe_bl fun H => .bl b
theorem i_non {j pos} : PE3 X G (.Constant .none j pos) (wC .non) := i_c pe_non fun H => .non
theorem i_str {x j pos} : PE3 X G (.Constant (.str x) j pos) (wC (.str x)) := i_c pe_str fun H => .str x

/-- r is refined by R -/
def Rf1 (G : Sc) (R : V → Hp → VK → Prop) (r : D → H3 → K1 → Prop) : Prop := ∀ d x h H k Q, Rel G h H → DV H d x → r d h k → Post G H k Q → R x H Q
def Rf2 (G : Sc) (R : V → V → Hp → VK → Prop) (r : D → D → H3 → K1 → Prop) : Prop := ∀ d e x y h H k Q, Rel G h H → DV H d x → DV H e y → r d e h k → Post G H k Q → R x y H Q
def RfL (G : Sc) (R : List V → Hp → VK → Prop) (r : List D → H3 → K1 → Prop) : Prop := ∀ l vs h H k Q, Rel G h H → DVs H l vs → r l h k → Post G H k Q → R vs H Q
def RfM (G : Sc) (R : V → List V → Hp → VK → Prop) (r : D → List D → H3 → K1 → Prop) : Prop := ∀ d l x vs h H k Q, Rel G h H → DV H d x → DVs H l vs → r d l h k → Post G H k Q → R x vs H Q

theorem lift1 {R : V → Hp → VK → Prop} {r : D → H3 → K1 → Prop} (rf : Rf1 G R r) {σ : L2.St} {H : Hp} {Q : VK} (q : tI G (w1 r f) σ H Q) : tI G f σ H fun x H1 => R x H1 Q := by
  obtain ⟨ρ, h, k, rel, ev, q, post⟩ := q
  exact ⟨ρ, h, _, rel, ev, q, fun d h1 v H1 q1 rel1 per1 dv1 => rf d v h1 H1 k Q rel1 dv1 q1 (post.per per1)⟩
theorem lift2 {R : V → V → Hp → VK → Prop} {r : D → D → H3 → K1 → Prop} (rf : Rf2 G R r) {σ : L2.St} {H : Hp} {Q : VK} (q : tI G (w2 r f g) σ H Q) : tI G f σ H fun x H1 => tI G g σ H1 fun y H2 => R x y H2 Q := by
  obtain ⟨ρ, h, k, rel, ev, q, post⟩ := q
  refine ⟨ρ, h, _, rel, ev, q, fun d h1 v H1 q1 rel1 per1 dv1 => ⟨ρ, h1, _, rel1, ev.per per1, q1, fun e h2 v2 H2 q2 rel2 per2 dv2 => ?_⟩⟩
  exact rf d e v v2 h2 H2 k Q rel2 (dv1.per per2) dv2 q2 (post.per (per1.trans per2))
theorem liftL {R : List V → Hp → VK → Prop} {r : List D → H3 → K1 → Prop} (rf : RfL G R r) {σ : L2.St} {H : Hp} {Q : VK} (q : tI G (wL r l) σ H Q) : tIA G l σ H fun x H1 => R x H1 Q := by
  obtain ⟨ρ, h, k, rel, ev, q, post⟩ := q
  exact ⟨ρ, h, _, rel, ev, q, fun d h1 v H1 q1 rel1 per1 dv1 => rf d v h1 H1 k Q rel1 dv1 q1 (post.per per1)⟩
theorem liftM {R : V → List V → Hp → VK → Prop} {r : D → List D → H3 → K1 → Prop} (rf : RfM G R r) {σ : L2.St} {H : Hp} {Q : VK} (q : tI G (wML r f l) σ H Q) : tI G f σ H fun x H1 => tIA G l σ H1 fun vs H2 => R x vs H2 Q := by
  obtain ⟨ρ, h, k, rel, ev, q, post⟩ := q
  refine ⟨ρ, h, _, rel, ev, q, fun d h1 v H1 q1 rel1 per1 dv1 => ⟨ρ, h1, _, rel1, ev.per per1, q1, fun e h2 v2 H2 q2 rel2 per2 dv2 => ?_⟩⟩
  exact rf d e v v2 h2 H2 k Q rel2 (dv1.per per2) dv2 q2 (post.per (per1.trans per2))

/-- any rule that serves -/
def U2 (X : Cx) (F : Value → Value → Sem Value) : R2 := fun x y H Q => ∃ r, OpR X F r ∧ r x y H Q
theorem U2.ok {F : Value → Value → Sem Value} : OpR X F (U2 X F) := fun pins s σ H x y v u Q I rx ry ⟨r, hr, q⟩ => hr pins s σ H x y v u Q I rx ry q
def U1 (X : Cx) (F : Value → Sem Value) : V → Hp → VK → Prop := fun x H Q => ∃ r, UnR X F r ∧ r x H Q
theorem U1.ok {F : Value → Sem Value} : UnR X F (U1 X F) := fun pins s σ H x v Q I rx ⟨r, hr, q⟩ => hr pins s σ H x v Q I rx q
def UC (X : Cx) (F : Value) : List V → Hp → VK → Prop := fun xs H Q => ∃ r, CallR X F r ∧ r xs H Q
theorem UC.ok {F : Value} : CallR X F (UC X F) := fun pins s σ H x v Q I rx ⟨r, hr, q⟩ => hr pins s σ H x v Q I rx q
def UX (X : Cx) : R2 := fun x y H Q => ∃ r, IxR X r ∧ r x y H Q
theorem UX.ok : IxR X (UX X) := fun value slice pins s σ H x y v u Q I rx ry ⟨r, hr, q⟩ hs => hr value slice pins s σ H x y v u Q I rx ry q hs
def UM (X : Cx) (id : String) : V → List V → Hp → VK → Prop := fun x xs H Q => ∃ r, MtR X id r ∧ r x xs H Q
theorem UM.ok {id : String} : MtR X id (UM X id) := fun pins s σ H x xs v us Q I rx rs ⟨r, hr, q⟩ => hr pins s σ H x xs v us Q I rx rs q
def US (X : Cx) : V → Option Int → Option Int → Hp → VK → Prop := fun x lo hi H Q => ∃ r, SlR X r ∧ r x lo hi H Q
theorem US.ok : SlR X (US X) := fun pins s σ H x v vl vu lo hi sl Q I rx hs pl pu ⟨r, hr, q⟩ => hr pins s σ H x v vl vu lo hi sl Q I rx hs pl pu q
def UP (X : Cx) : TSet := fun o i v H Q => ∃ r, PSet X r ∧ r o i v H Q
theorem UP.ok : PSet X (UP X) := fun pins s σ H o i v ov iv u Q I ro ri rv ⟨r, hr, q⟩ => hr pins s σ H o i v ov iv u Q I ro ri rv q

theorem i_bin {op : Operator} {r : D → D → H3 → K1 → Prop} (rf : Rf2 G (U2 X (binaryOp op)) r) (ha : PE3 X G a f) (hb : PE3 X G b g) : PE3 X G (.BinOp a op b pos) (w2 r f g) := (pe_op U2.ok ha hb).weak fun σ H Q q => lift2 rf q
theorem i_un {op : UnaryOp} {r : D → H3 → K1 → Prop} (rf : Rf1 G (U1 X (unaryOp op)) r) (ha : PE3 X G a f) : PE3 X G (.UnaryOp op a pos) (w1 r f) := (pe_un U1.ok ha).weak fun σ H Q q => lift1 rf q
theorem i_cmp {op : CmpOp} {r : D → D → H3 → K1 → Prop} (rf : Rf2 G (U2 X (compareOp op)) r) (ha : PE3 X G a f) (hb : PE3 X G b g) (hm : behindInMarks op b = false := by first | exact nomark _ | rfl) : PE3 X G (.Compare a [op] [b] pos) (w2 r f g) := (pe_cmpR U2.ok ha hb hm).weak fun σ H Q q => lift2 rf q
theorem tTest_of {σ : L2.St} {H : Hp} {Q : Bool → Hp → Prop} (q : tIT G (wB f) σ H Q) : tI G f σ H fun x H' => ∃ k, x = .bl k ∧ Q k H' := by
  obtain ⟨ρ, h, k, rel, ev, q, post⟩ := q
  refine ⟨ρ, h, _, rel, ev, q, fun d h1 v H1 q1 rel1 per1 dv1 => ?_⟩
  obtain ⟨c, rfl, q1⟩ := q1
  cases dv1
  exact ⟨c, rfl, post c h1 H1 q1 rel1 per1⟩
theorem it_cmp {op : CmpOp} {r : D → D → H3 → K1 → Prop} (rf : Rf2 G (U2 X (compareOp op)) r) (ha : PE3 X G a f) (hb : PE3 X G b g) (hm : behindInMarks op b = false := by first | exact nomark _ | rfl) : PT3 X G (.Compare a [op] [b] pos) (wB (w2 r f g)) := by
  refine (pt_cmpR U2.ok ha hb hm).weak fun σ H Q q => ?_
  exact lift2 (f := f) (g := g) (R := U2 X (compareOp op)) (Q := fun x H' => ∃ k, x = .bl k ∧ Q k H') rf (tTest_of q)
/-- an expression that gives True or False, as a test -/
theorem it_val (h : PE3 X G e f) (he : ∀ whole, isTrue e X.env whole = (do let v ← whole; standAt e.pos; holding [v] (truthy v)) := by intro _; rfl) : PT3 X G e (wB f) := (pt_val h he).weak fun σ H Q q => tTest_of q
theorem it_not (h : PT3 X G a t) : PT3 X G (.UnaryOp .Not a pos) (wNot t) := by
  refine (pt_not h).weak fun σ H Q ⟨ρ, h, k, rel, ev, q, post⟩ => ?_
  exact ⟨ρ, h, _, rel, ev, q, fun c h1 H1 q1 rel1 per1 => post (!c) h1 H1 q1 rel1 per1⟩
variable {rest : List Expr}
theorem iw_and1 (h : PT3 X G a t) : PW3 X G (.BoolOp .And [a] pos) t := pw_and1 h
theorem iw_or1 (h : PT3 X G a t) : PW3 X G (.BoolOp .Or [a] pos) t := pw_or1 h
theorem iw_and (ha : PT3 X G a t) (hb : PW3 X G (.BoolOp .And (b :: rest) pos) u) : PW3 X G (.BoolOp .And (a :: b :: rest) pos) (wAnd t u) := by
  refine (pw_and ha hb).weak fun σ H Q ⟨ρ, h, k, rel, ev, q, post⟩ => ?_
  refine ⟨ρ, h, _, rel, ev, q, fun c h1 H1 q1 rel1 per1 => ?_⟩
  cases c with
  | true => exact ⟨ρ, h1, k, rel1, ev.per per1, q1, post.per per1⟩
  | false => exact post false h1 H1 q1 rel1 per1
theorem iw_or (ha : PT3 X G a t) (hb : PW3 X G (.BoolOp .Or (b :: rest) pos) u) : PW3 X G (.BoolOp .Or (a :: b :: rest) pos) (wOr t u) := by
  refine (pw_or ha hb).weak fun σ H Q ⟨ρ, h, k, rel, ev, q, post⟩ => ?_
  refine ⟨ρ, h, _, rel, ev, q, fun c h1 H1 q1 rel1 per1 => ?_⟩
  cases c with
  | true => exact post true h1 H1 q1 rel1 per1
  | false => exact ⟨ρ, h1, k, rel1, ev.per per1, q1, post.per per1⟩
theorem it_w (h : PW3 X G a t) : PT3 X G a t := h.pt
theorem i_if (ht : PT3 X G c t) (ha : PE3 X G a f) (hb : PE3 X G b g) : PE3 X G (.IfExp c a b pos) (wIf t f g) := by
  refine (pe_ifExp ht ha hb).weak fun σ H Q ⟨ρ, h, k, rel, ev, q, post⟩ => ?_
  refine ⟨ρ, h, _, rel, ev, q, fun c h1 H1 q1 rel1 per1 => ?_⟩
  cases c with
  | true => exact ⟨ρ, h1, k, rel1, ev.per per1, q1, post.per per1⟩
  | false => exact ⟨ρ, h1, k, rel1, ev.per per1, q1, post.per per1⟩
theorem ia_nil : PA3 X G [] wNil := pa_nil.weak fun σ H Q ⟨ρ, h, k, rel, ev, q, post⟩ => post [] h [] H q rel (Per.refl H) .nil
theorem ia_cons (ha : PE3 X G a f) (hr : PA3 X G es l) (hs : starEach (a :: es) X.env = (false, eval a X.env) :: starEach es X.env := by rfl) : PA3 X G (a :: es) (wCons f l) := by
  refine (pa_cons ha hr hs).weak fun σ H Q ⟨ρ, h, k, rel, ev, q, post⟩ => ?_
  refine ⟨ρ, h, _, rel, ev, q, fun d h1 v H1 q1 rel1 per1 dv1 => ⟨ρ, h1, _, rel1, ev.per per1, q1, fun e h2 v2 H2 q2 rel2 per2 dv2 => ?_⟩⟩
  exact post _ h2 _ H2 q2 rel2 (per1.trans per2) (.cons (dv1.per per2) dv2)

/-! displays -/
def rTup : List D → H3 → K1 → Prop := fun l h k => l.length ≤ 16777216 ∧ k (.tup l) h
def rLst : List D → H3 → K1 → Prop := fun l h k => l.length ≤ 16777216 ∧ ∀ p, h p = none → k (.ref p) (up h p (.lst l))
theorem Rel.newTup {h : H3} {H : Hp} {p : Addr} {l : List D} {vs : List V} (rel : Rel G h H) (n : H p = Option.none) (d : DVs H l vs) : Rel G h (upd H p (.tup vs)) ∧ Per H (upd H p (.tup vs)) ∧ DV (upd H p (.tup vs)) (.tup l) (.ref p) :=
  ⟨rel.new0 n, Per.new n, .tup upd_same (d.per (Per.new n))⟩
theorem i_tup {x1} (h : PA3 X G es l) : PE3 X G (.Tuple es x1 pos) (wL rTup l) := by
  refine (pe_tup (x1 := x1) h).weak fun σ H Q q => liftL (R := fun xs H1 Q => xs.length ≤ sizeLine ∧ ∀ p, H1 p = none → Q (.ref p) (upd H1 p (.tup xs))) (fun l vs h H k Q rel dv q post => ?_) q
  refine ⟨by rw [← dv.length]; exact q.1, fun p np => ?_⟩
  obtain ⟨r1, p1, d1⟩ := rel.newTup np dv
  exact post _ h _ _ q.2 r1 p1 d1
theorem i_lst (h : PA3 X G es l) : PE3 X G (.List es pos) (wL rLst l) := by
  refine (pe_lst h).weak fun σ H Q q => liftL (R := fun xs H1 Q => xs.length ≤ sizeLine ∧ ∀ p, H1 p = none → Q (.ref p) (upd H1 p (.lst xs))) (fun l vs h H k Q rel dv q post => ?_) q
  exact ⟨by rw [← dv.length]; exact q.1, fun p np => post _ _ _ _ (q.2 p (rel.none np)) (rel.newLst np dv) (Per.new np) (.ref p)⟩
end

/-! ### readings: statements -/
def wNext : WS := fun E ρ h => E.nx ρ h
def wSeq (t u : WS) : WS := fun E ρ h => t { E with nx := u E } ρ h
def wBreak : WS := fun E ρ h => E.bk ρ h
def wCont : WS := fun E ρ h => E.ct ρ h
def wDrop (a : WE) : WS := fun E ρ h => a ρ h fun _ h1 => E.nx ρ h1
def wRet (a : WE) : WS := fun E ρ h => a ρ h E.rt
def wRetN : WS := fun E _ h => E.rt .non h
def wIfS (t : WT) (a b : WS) : WS := fun E ρ h => t ρ h fun c h1 => if c = true then a E ρ h1 else b E ρ h1
def wNever : WS := fun _ _ _ => False
/-- targets -/
def gN (i : Nat) : WG := fun d ρ h k => k (ρ.set i (some d)) h
def gT : List WG → WG := fun gs d ρ h k => ∃ l, d = .tup l ∧ l.length = gs.length ∧ go gs l ρ h k
where go : List WG → List D → Ev → H3 → (Ev → H3 → Prop) → Prop
  | [], _, ρ, h, k => k ρ h
  | g :: gs, l, ρ, h, k => ∃ d r, l = d :: r ∧ g d ρ h fun ρ1 h1 => go gs r ρ1 h1 k
def wAsg (a : WE) (g : WG) : WS := fun E ρ h => a ρ h fun d h1 => g d ρ h1 E.nx
section
variable {X : Cx} {G : Sc} {st : Stmt} {sts : List Stmt} {e c tg : Expr} {f : WE} {t : WT} {s u : WS} {g : WG} {pos : Pos}
theorem is_nil : PSs3 X G [] wNext := pss_nil.weak fun D σ H ⟨ρ, h, E, rel, ev, q, post⟩ => post.nx ρ h σ H q rel (Per.refl H) ev
theorem is_cons (h1 : PS3 X G st s) (h2 : PSs3 X G sts u) : PSs3 X G (st :: sts) (wSeq s u) := by
  refine (pss_cons h1 h2).weak fun D σ H ⟨ρ, h, E, rel, ev, q, post⟩ => ?_
  refine ⟨ρ, h, _, rel, ev, q, post.with fun ρ' h' σ' H' q' rel' per' ev' => ?_⟩
  exact ⟨ρ', h', E, rel', ev', q', post.per per'⟩
theorem is_one (h1 : PS3 X G st s) : PSs3 X G [st] s := pss_one h1
theorem is_pass : PS3 X G (.Pass pos) wNext := ps_pass.weak fun D σ H ⟨ρ, h, E, rel, ev, q, post⟩ => post.nx ρ h σ H q rel (Per.refl H) ev
theorem is_break : PS3 X G (.Break pos) wBreak := ps_break.weak fun D σ H ⟨ρ, h, E, rel, ev, q, post⟩ => post.bk ρ h σ H q rel (Per.refl H) ev
theorem is_cont : PS3 X G (.Continue pos) wCont := ps_continue.weak fun D σ H ⟨ρ, h, E, rel, ev, q, post⟩ => post.ct ρ h σ H q rel (Per.refl H) ev
theorem is_doc {x j pos pos'} : PS3 X G (.Expr (.Constant (.str x) j pos) pos') wNext := ps_doc.weak fun D σ H ⟨ρ, h, E, rel, ev, q, post⟩ => post.nx ρ h σ H q rel (Per.refl H) ev
theorem is_expr (he : PE3 X G e f) (hs : swapsWith e none pos.line X.env = pure false := by rfl) : PS3 X G (.Expr e pos) (wDrop f) := by
  refine (ps_expr he hs).weak fun D σ H ⟨ρ, h, E, rel, ev, q, post⟩ => ?_
  exact ⟨ρ, h, _, rel, ev, q, fun d h1 v H1 q1 rel1 per1 dv1 => post.nx ρ h1 σ H1 q1 rel1 per1 (ev.per per1)⟩
theorem is_ret (he : PE3 X G e f) : PS3 X G (.Return (some e) pos) (wRet f) := by
  refine (ps_ret he).weak fun D σ H ⟨ρ, h, E, rel, ev, q, post⟩ => ?_
  exact ⟨ρ, h, _, rel, ev, q, post.rt⟩
theorem is_retN : PS3 X G (.Return none pos) wRetN := ps_retN.weak fun D σ H ⟨ρ, h, E, rel, ev, q, post⟩ => post.rt .non h .non H q rel (Per.refl H) .non
theorem is_if {a b : List Stmt} (ht : PT3 X G c t) (ha : PSs3 X G a s) (hb : PSs3 X G b u) : PS3 X G (.If c a b pos) (wIfS t s u) := by
  refine (ps_if ht ha hb).weak fun D σ H ⟨ρ, h, E, rel, ev, q, post⟩ => ?_
  refine ⟨ρ, h, _, rel, ev, q, fun c h1 H1 q1 rel1 per1 => ?_⟩
  cases c with
  | true => exact ⟨ρ, h1, E, rel1, ev.per per1, q1, post.per per1⟩
  | false => exact ⟨ρ, h1, E, rel1, ev.per per1, q1, post.per per1⟩
theorem ig_name (i : Nat) {x : Str} (hN : X.N.Nodup) (hi : X.N[i]? = some x := by rfl) (hx : Loc X.env.scope x := by first | exact .inl rfl | exact .inr rfl) (hf : X.fn x = true ∨ X.env.scope.names.lookup x = some .local := by first | exact .inl rfl | exact .inr rfl | assumption) : PG3 X G (.Name x pos) (gN i) := by
  refine (pg_name (i := i) hN hi hx hf).weak fun v σ H Q ⟨d, ρ, h, k, rel, ev, dv, q, post⟩ => ?_
  exact post _ _ _ _ q rel (Per.refl H) (ev.set dv i)
/-- several targets -/
structure PGs3 (X : Cx) (G : Sc) (es : List Expr) (gs : List WG) : Prop where
  ok : PGs X es fun vs σ H Q => ∃ l ρ h k, Rel G h H ∧ EvR H ρ σ ∧ DVs H l vs ∧ l.length = gs.length ∧ gT.go gs l ρ h k ∧ PostN G H k Q
  len : es.length = gs.length
theorem _root_.L2.PGs.weak {es : List Expr} {t t' : TGs} (h : PGs X es t) (w : ∀ vs σ H Q, t' vs σ H Q → t vs σ H Q) : PGs X es t' := ⟨fun pins s σ H v u Q I r q => h.run pins s σ H v u Q I r (w v σ H Q q)⟩
theorem igs_nil : PGs3 X G [] [] := ⟨pgs_nil.weak fun vs σ H Q ⟨l, ρ, h, k, rel, ev, dv, hl, q, post⟩ => by
  have e : l = [] := List.length_eq_zero_iff.mp hl
  subst e
  exact ⟨by cases dv; rfl, post ρ h σ H q rel (Per.refl H) ev⟩, rfl⟩
theorem igs_cons {es : List Expr} {gs : List WG} (h1 : PG3 X G e g) (h2 : PGs3 X G es gs) (hs : (assignEach (e :: es) X.env).map (·.2) = assign e X.env :: (assignEach es X.env).map (·.2) := by rfl) : PGs3 X G (e :: es) (g :: gs) := by
  refine ⟨(pgs_cons h1 h2.ok hs).weak fun vs σ H Q ⟨l, ρ, h, k, rel, ev, dv, hl, ⟨d, r, el, q⟩, post⟩ => ?_, by simp [h2.len]⟩
  subst el
  cases dv with
  | cons dv dvs =>
    refine ⟨_, _, rfl, d, ρ, h, _, rel, ev, dv, q, fun ρ1 h1 σ1 H1 q1 rel1 per1 ev1 => ?_⟩
    exact ⟨r, ρ1, h1, k, rel1, ev1, dvs.per per1, by simpa using hl, q1, post.per per1⟩
theorem ig_tup {es : List Expr} {k : Nat} {gs : List WG} (hc : X.calm = true) (h : PGs3 X G es gs) (hn : (assignEach es X.env).length = gs.length := by rfl) (hst : (assignEach es X.env).findIdx? (·.1) = none := by rfl) : PG3 X G (.Tuple es k pos) (gT gs) := by
  refine (pg_tup hc h.ok hn hst).weak fun v σ H Q ⟨d, ρ, hh, kk, rel, ev, dv, ⟨l, el, hl, q⟩, post⟩ => ?_
  subst el
  cases dv with
  | tup e r => exact ⟨_, _, rfl, .of e, by rw [← r.length]; exact hl, l, ρ, hh, kk, rel, ev, r, hl, q, post⟩
theorem is_asg (he : PE3 X G e f) (hg : PG3 X G tg g) (hs : swapsWithSole [tg] e pos.line X.env = pure false := by rfl) (hw : swappedStores [tg] e X.env = pure none := by rfl)
    (h1 : (assignEach [tg] X.env).map (·.2) = [assign tg X.env] := by rfl) : PS3 X G (.Assign [tg] e pos) (wAsg f g) := by
  refine (ps_asg he hg hs hw h1).weak fun D σ H ⟨ρ, h, E, rel, ev, q, post⟩ => ?_
  refine ⟨ρ, h, _, rel, ev, q, fun d h1 v H1 q1 rel1 per1 dv1 => ?_⟩
  exact ⟨d, ρ, h1, _, rel1, ev.per per1, dv1, q1, post.nx.per per1⟩
end
end T3
end
-- T3Ops
section
set_option maxRecDepth 100000
set_option maxHeartbeats 4000000
/-! T3Ops: operators by what stands there. -/
namespace T3
open PySem PySem.Spec PyProof.Rows L2

/-! ### data read -/
mutual
/-- d stands, in h, for the plain datum p -/
inductive Rs (h : H3) : D → PyData → Prop
  | non : Rs h .non .none
  | bl (b : Bool) : Rs h (.bl b) (.bool b)
  | int (i : Int) : Rs h (.int i) (.int i)
  | str (x : Str) : PyData.strOk x = true → Rs h (.str x) (.str x)
  | tup {l : List D} {ps : List PyData} : RsL h l ps → Rs h (.tup l) (.tuple ps)
  | lst {a : Addr} {l : List D} {ps : List PyData} : h a = some (.lst l) → RsL h l ps → Rs h (.ref a) (.list ps)
inductive RsL (h : H3) : List D → List PyData → Prop
  | nil : RsL h [] []
  | cons {d : D} {l : List D} {p : PyData} {ps : List PyData} : Rs h d p → RsL h l ps → RsL h (d :: l) (p :: ps)
end
section
variable {h : H3} {p : PyData} {ps : List PyData} {l : List D}
@[simp] theorem rs_non : Rs h .non p ↔ p = .none := ⟨fun e => by cases e; rfl, fun e => e ▸ .non⟩
@[simp] theorem rs_bl {b : Bool} : Rs h (.bl b) p ↔ p = .bool b := ⟨fun e => by cases e; rfl, fun e => e ▸ .bl b⟩
@[simp] theorem rs_int {b : Int} : Rs h (.int b) p ↔ p = .int b := ⟨fun e => by cases e; rfl, fun e => e ▸ .int b⟩
@[simp] theorem rs_str {b : Str} : Rs h (.str b) p ↔ PyData.strOk b = true ∧ p = .str b := ⟨fun e => by cases e with | str _ z => exact ⟨z, rfl⟩, fun ⟨z, e⟩ => e ▸ .str b z⟩
@[simp] theorem rs_tup : Rs h (.tup l) p ↔ ∃ ps, RsL h l ps ∧ p = .tuple ps := ⟨fun e => by cases e with | tup r => exact ⟨_, r, rfl⟩, fun ⟨_, r, e⟩ => e ▸ .tup r⟩
theorem rs_ref {a : Addr} : Rs h (.ref a) p ↔ ∃ l ps, h a = some (.lst l) ∧ RsL h l ps ∧ p = .list ps := ⟨fun e => by cases e with | lst z r => exact ⟨_, _, z, r, rfl⟩, fun ⟨_, _, z, r, e⟩ => e ▸ .lst z r⟩
@[simp] theorem rsl_nil : RsL h [] ps ↔ ps = [] := ⟨fun e => by cases e; rfl, fun e => e ▸ .nil⟩
@[simp] theorem rsl_cons {d : D} : RsL h (d :: l) ps ↔ ∃ p qs, Rs h d p ∧ RsL h l qs ∧ ps = p :: qs := ⟨fun e => by cases e with | cons r t => exact ⟨_, _, r, t, rfl⟩, fun ⟨_, _, r, t, e⟩ => e ▸ .cons r t⟩
end
mutual
theorem Rs.lay {h : H3} : ∀ {d : D} {p : PyData}, Rs h d p → p.canLay0 = true
  | _, _, .non => rfl
  | _, _, .bl _ => rfl
  | _, _, .int _ => rfl
  | _, _, .str _ z => by simpa [PyData.canLay0] using z
  | _, _, .tup r => by simpa [PyData.canLay0] using RsL.lay r
  | _, _, .lst _ r => by simpa [PyData.canLay0] using RsL.lay r
theorem RsL.lay {h : H3} : ∀ {l : List D} {ps : List PyData}, RsL h l ps → PyData.canLayAll0 ps = true
  | _, _, .nil => rfl
  | _, _, .cons r t => by simp [PyData.canLayAll0, Rs.lay r, RsL.lay t]
end
mutual
theorem Rs.dp {G : Sc} {K : PySem.W.Frag} {h : H3} {H : Hp} (rel : Rel G h H) : ∀ {d : D} {p : PyData} {v : V}, Rs h d p → DV H d v → Dp K H v p
  | _, _, _, .non, r => by cases r; exact .non
  | _, _, _, .bl _, r => by cases r; exact .bl _
  | _, _, _, .int _, r => by cases r; exact .int _
  | _, _, _, .str _ _, r => by cases r; exact .str _
  | _, _, _, .tup q, r => by
    cases r with
    | tup e z => exact .tup (SqT.of e) (RsL.dp rel q z)
  | _, _, _, .lst z q, r => by
    cases r
    obtain ⟨vs, e, dv⟩ := rel.lst z
    exact .lst (SqL.of e) (RsL.dp rel q dv)
theorem RsL.dp {G : Sc} {K : PySem.W.Frag} {h : H3} {H : Hp} (rel : Rel G h H) : ∀ {l : List D} {ps : List PyData} {vs : List V}, RsL h l ps → DVs H l vs → DpAll K H vs ps
  | _, _, _, .nil, r => by cases r; exact .nil
  | _, _, _, .cons q t, r => by
    cases r with
    | cons z w => exact .cons (Rs.dp rel q z) (RsL.dp rel t w)
end

/-! ### the operators' readings -/
def rAdd : D → D → H3 → K1 → Prop := fun x y h k => match x, y with
  | .int i, .int j => k (.int (i + j)) h
  | .str a, .str b => a.length + b.length ≤ 16777216 ∧ k (.str (a ++ b)) h
  | .tup l, .tup m => l.length + m.length ≤ 16777216 ∧ k (.tup (l ++ m)) h
  | .ref a, .ref b => ∃ l m, h a = some (.lst l) ∧ h b = some (.lst m) ∧ l.length + m.length ≤ 16777216 ∧ ∀ p, h p = none → k (.ref p) (up h p (.lst (l ++ m)))
  | _, _ => False
def rInt (c : Int → Int → Prop) (g : Int → Int → Int) : D → D → H3 → K1 → Prop := fun x y h k => match x, y with
  | .int i, .int j => c i j ∧ k (.int (g i j)) h
  | _, _ => False
abbrev rSub := rInt (fun _ _ => True) fun i j => i - j
abbrev rMulI := rInt (fun i j => (-18446744073709551616 < i ∧ i < 18446744073709551616) ∨ (-18446744073709551616 < j ∧ j < 18446744073709551616)) fun i j => i * j
abbrev rDiv := rInt (fun _ j => 0 < j ∧ (j < 1073741824 ∨ j.natAbs.log2 < 9000)) fun i j => i / j
abbrev rMod := rInt (fun _ j => 0 < j) fun i j => i % j
abbrev rAndI := rInt (fun _ _ => True) Builtin.bitAnd
abbrev rOrI := rInt (fun _ _ => True) Builtin.bitOr
abbrev rXorI := rInt (fun _ _ => True) Builtin.bitXor
abbrev rShl := rInt (fun i j => 0 ≤ j ∧ ((j ≤ 1000000 ∧ -18446744073709551616 < i ∧ i < 18446744073709551616) ∨ CShl i j)) fun i j => i * 2 ^ j.toNat
abbrev rShr := rInt (fun _ j => 0 ≤ j) fun i j => i / 2 ^ j.toNat
/-- a list, a tuple times an int -/
def rMul : D → D → H3 → K1 → Prop := fun x y h k => match x, y with
  | .ref a, .int n => ∃ l, h a = some (.lst l) ∧ -(2 ^ 63) ≤ n ∧ n < 2 ^ 63 ∧ l.length * n.toNat ≤ 16777216 ∧ ∀ p, h p = none → k (.ref p) (up h p (.lst (List.replicate n.toNat l).flatten))
  | .str z, .int n => PySem.MulOk z n ∧ k (.str (PySem.Txt.mul z n)) h
  | x, y => rMulI x y h k
def rCmpI (g : Int → Int → Bool) : D → D → H3 → K1 → Prop := fun x y h k => match x, y with
  | .int i, .int j => k (.bl (g i j)) h
  | _, _ => False
def rLt : D → D → H3 → K1 → Prop := fun x y h k => match x, y with
  | .int i, .int j => k (.bl (decide (i < j))) h
  | .str i, .str j => k (.bl (decide (i.cps.toList < j.cps.toList))) h
  | _, _ => False
abbrev rLe := rCmpI fun i j => decide (i ≤ j)
abbrev rGt := rCmpI fun i j => decide (j < i)
abbrev rGe := rCmpI fun i j => decide (j ≤ i)
def rEqN (neg : Bool) : D → D → H3 → K1 → Prop := fun x y h k => match x, y with
  | .int i, .int j => k (.bl (decide (i = j) != neg)) h
  | .str i, .str j => k (.bl (decide (i = j) != neg)) h
  | x, y => ∃ p q, Rs h x p ∧ Rs h y q ∧ min p.depth q.depth ≤ 64 ∧ k (.bl (PyData.eqv p q != neg)) h
abbrev rEq := rEqN false
abbrev rNe := rEqN true
def D.isN : D → Bool
  | .non => true
  | _ => false
def rIsN (neg : Bool) : D → H3 → K1 → Prop := fun x h k => k (.bl (x.isN != neg)) h
def rIn (neg : Bool) : D → D → H3 → K1 → Prop := fun x y h k => match y with
  | .str z => ∃ c, x = .str ⟨#[c]⟩ ∧ k (.bl (decide (c ∈ z.cps.toList) != neg)) h
  | .tup l => ∃ p ps, Rs h x p ∧ RsL h l ps ∧ min (PyData.depthAll ps) p.depth ≤ 64 ∧ k (.bl (ps.any (fun z => PyData.eqv z p) != neg)) h
  | .ref a => ∃ l p ps, h a = some (.lst l) ∧ Rs h x p ∧ RsL h l ps ∧ min (PyData.depthAll ps) p.depth ≤ 64 ∧ k (.bl (ps.any (fun z => PyData.eqv z p) != neg)) h
  | _ => False

section
variable {X : Cx} {G : Sc}
theorem post_int {H : Hp} {h : H3} {k : K1} {Q : VK} {i : Int} (post : Post G H k Q) (rel : Rel G h H) (q : k (.int i) h) : Q (.int i) H := post _ _ _ _ q rel (Per.refl H) (.int i)
theorem post_bl {H : Hp} {h : H3} {k : K1} {Q : VK} {i : Bool} (post : Post G H k Q) (rel : Rel G h H) (q : k (.bl i) h) : Q (.bl i) H := post _ _ _ _ q rel (Per.refl H) (.bl i)
theorem post_str {H : Hp} {h : H3} {k : K1} {Q : VK} {i : Str} (post : Post G H k Q) (rel : Rel G h H) (q : k (.str i) h) : Q (.str i) H := post _ _ _ _ q rel (Per.refl H) (.str i)
theorem post_lst {H : Hp} {h : H3} {k : K1} {Q : VK} {l : List D} {vs : List V} {p : Addr} (post : Post G H k Q) (rel : Rel G h H) (dv : DVs H l vs) (q : ∀ p, h p = none → k (.ref p) (up h p (.lst l))) (np : H p = none) : Q (.ref p) (upd H p (.lst vs)) :=
  post _ _ _ _ (q p (rel.none np)) (rel.newLst np dv) (Per.new np) (.ref p)
theorem post_tup {H : Hp} {h : H3} {k : K1} {Q : VK} {l : List D} {vs : List V} {p : Addr} (post : Post G H k Q) (rel : Rel G h H) (dv : DVs H l vs) (q : k (.tup l) h) (np : H p = none) : Q (.ref p) (upd H p (.tup vs)) := by
  obtain ⟨r1, p1, d1⟩ := rel.newTup np dv
  exact post _ _ _ _ q r1 p1 d1
theorem rf_int {op : Operator} {C C' : Int → Int → Prop} {g : Int → Int → Int} (o : OpR X (binaryOp op) (rI C' fun i j => .int (g i j))) (hc : ∀ i j, C i j → C' i j) : Rf2 G (U2 X (binaryOp op)) (rInt C g) := by
  intro d e x y h H k Q rel dx dy q post
  unfold rInt at q
  split at q
  · rename_i i j
    cases dx; cases dy
    exact ⟨_, o, i, j, rfl, rfl, hc _ _ q.1, post_int post rel q.2⟩
  · exact q.elim
theorem rf_int0 {op : Operator} {g : Int → Int → Int} (o : OpR X (binaryOp op) (rI0 fun i j => .int (g i j))) : Rf2 G (U2 X (binaryOp op)) (rInt (fun _ _ => True) g) := by
  intro d e x y h H k Q rel dx dy q post
  unfold rInt at q
  split at q
  · rename_i i j
    cases dx; cases dy
    exact ⟨_, o, i, j, rfl, rfl, post_int post rel q.2⟩
  · exact q.elim
theorem rf_sub : Rf2 G (U2 X (binaryOp .Sub)) rSub := rf_int0 op_sub
theorem rf_mod : Rf2 G (U2 X (binaryOp .Mod)) rMod := rf_int op_mod fun _ _ h => h
theorem rf_and : Rf2 G (U2 X (binaryOp .BitAnd)) rAndI := rf_int0 op_and
theorem rf_or : Rf2 G (U2 X (binaryOp .BitOr)) rOrI := rf_int0 op_or
theorem rf_xor : Rf2 G (U2 X (binaryOp .BitXor)) rXorI := rf_int0 op_xor
theorem rf_shr : Rf2 G (U2 X (binaryOp .RShift)) rShr := rf_int op_shr fun _ _ h => h
theorem rI_or {F : Value → Value → Sem Value} {C1 C2 : Int → Int → Prop} {g : Int → Int → V} (a : OpR X F (rI C1 g)) (b : OpR X F (rI C2 g)) : OpR X F (rI (fun i j => C1 i j ∨ C2 i j) g) := by
  intro pins s σ H x y v u Q I rx ry ⟨i, j, e1, e2, c, q⟩
  rcases c with c | c
  · exact a pins s σ H x y v u Q I rx ry ⟨i, j, e1, e2, c, q⟩
  · exact b pins s σ H x y v u Q I rx ry ⟨i, j, e1, e2, c, q⟩
theorem rf_div : Rf2 G (U2 X (binaryOp .FloorDiv)) rDiv := rf_int (rI_or op_fdiv op_fdivW) fun _ _ h => h.2.elim (fun z => .inl ⟨h.1, z⟩) fun z => .inr ⟨h.1, z⟩
theorem natAbs64 {i : Int} (h : -18446744073709551616 < i ∧ i < 18446744073709551616) : i.natAbs < 2 ^ 64 := by
  have e : (2 ^ 64 : Nat) = 18446744073709551616 := rfl
  omega
theorem rf_shl : Rf2 G (U2 X (binaryOp .LShift)) rShl := rf_int (rI_or op_shl op_shlW) fun _ _ h => h.2.elim (fun z => .inl ⟨h.1, z.1, natAbs64 z.2⟩) fun z => .inr z
theorem rf_mulI : Rf2 G (U2 X (binaryOp .Mult)) rMulI := rf_int op_mul fun _ _ h => h
theorem op_mulS : OpR X (binaryOp .Mult) (fun x y H Q => ∃ z n, x = .str z ∧ y = .int n ∧ PySem.MulOk z n ∧ Q (.str (PySem.Txt.mul z n)) H) := by
  intro pins s σ H x y v u Q I rx ry h
  obtain ⟨z, n, rfl, rfl, hok, q⟩ := h
  obtain ⟨t, rfl⟩ := rx
  obtain ⟨t', rfl⟩ := ry
  exact PySem.SB.mul hok fun t' tk => ⟨.str (PySem.Txt.mul z n), H, I.tok _, ⟨_, rfl⟩, q⟩
theorem rf_mul : Rf2 G (U2 X (binaryOp .Mult)) rMul := by
  intro d e x y h H k Q rel dx dy q post
  unfold rMul at q
  split at q
  · rename_i a n
    cases dx; cases dy
    obtain ⟨l, ha, h1, h2, hz, q⟩ := q
    obtain ⟨vs, e, dv⟩ := rel.lst ha
    exact ⟨_, op_rep, a, n, vs, rfl, rfl, e, h1, h2, by rw [← dv.length]; exact hz, fun p np => post_lst post rel (dv.rep _) q np⟩
  · rename_i z n
    cases dx; cases dy
    exact ⟨_, op_mulS, z, n, rfl, rfl, q.1, post_str post rel q.2⟩
  · exact rf_mulI d e x y h H k Q rel dx dy q post
theorem rf_add : Rf2 G (U2 X (binaryOp .Add)) rAdd := by
  intro d e x y h H k Q rel dx dy q post
  unfold rAdd at q
  split at q
  · rename_i i j
    cases dx; cases dy
    exact ⟨_, op_add, i, j, rfl, rfl, post_int post rel q⟩
  · rename_i i j
    cases dx; cases dy
    exact ⟨_, op_add_str, i, j, rfl, rfl, q.1, post_str post rel q.2⟩
  · rename_i l m
    cases dx with
    | tup e1 r1 =>
      cases dy with
      | tup e2 r2 =>
        refine ⟨_, op_catA, _, _, _, _, rfl, rfl, .of e1, .of e2, by rw [← r1.length, ← r2.length]; exact q.1, fun z => ?_, fun _ z => ?_, fun _ _ p np => post_tup post rel (r1.append r2) q.2 np⟩
        · have z' := r1.nil_iff.mp z
          subst z'
          exact post _ _ _ _ q.2 rel (Per.refl H) (.tup e2 r2)
        · have z' := r2.nil_iff.mp z
          subst z'
          have q2 := q.2
          rw [List.append_nil] at q2
          exact post _ _ _ _ q2 rel (Per.refl H) (.tup e1 r1)
  · rename_i a b
    cases dx; cases dy
    obtain ⟨l, m, ha, hb, hz, q⟩ := q
    obtain ⟨vs, e1, d1⟩ := rel.lst ha
    obtain ⟨ws, e2, d2⟩ := rel.lst hb
    exact ⟨_, op_cat, a, b, vs, ws, rfl, rfl, e1, e2, by rw [← d1.length, ← d2.length]; exact hz, fun p np => post_lst post rel (d1.append d2) q np⟩
  · exact q.elim
theorem rf_neg : Rf1 G (U1 X (unaryOp .USub)) (fun x h k => match x with | .int i => k (.int (-i)) h | _ => False) := by
  intro d x h H k Q rel dx q post
  split at q
  · cases dx
    exact ⟨_, un_neg, _, rfl, post_int post rel q⟩
  · exact q.elim
theorem rf_cmpI {op : CmpOp} {g : Int → Int → Bool} (o : OpR X (compareOp op) (rI0 fun i j => .bl (g i j))) : Rf2 G (U2 X (compareOp op)) (rCmpI g) := by
  intro d e x y h H k Q rel dx dy q post
  unfold rCmpI at q
  split at q
  · rename_i i j
    cases dx; cases dy
    exact ⟨_, o, i, j, rfl, rfl, post_bl post rel q⟩
  · exact q.elim
theorem rf_le : Rf2 G (U2 X (compareOp .LtE)) rLe := rf_cmpI op_le
theorem rf_gt : Rf2 G (U2 X (compareOp .Gt)) rGt := rf_cmpI op_gt
theorem rf_ge : Rf2 G (U2 X (compareOp .GtE)) rGe := rf_cmpI op_ge
theorem rf_lt : Rf2 G (U2 X (compareOp .Lt)) rLt := by
  intro d e x y h H k Q rel dx dy q post
  unfold rLt at q
  split at q
  · cases dx; cases dy
    exact ⟨_, op_lt, _, _, rfl, rfl, post_bl post rel q⟩
  · cases dx; cases dy
    exact ⟨_, op_lt_str, _, _, rfl, rfl, post_bl post rel q⟩
  · exact q.elim
/-- == of read data -/
def rEqM (K : PySem.W.Frag) (neg : Bool) : R2 := fun x y H Q => ∃ d e, Dp K H x d ∧ Dp K H y e ∧ d.canLay0 = true ∧ e.canLay0 = true ∧ min d.depth e.depth ≤ 64 ∧ Q (.bl (PyData.eqv d e != neg)) H
theorem op_eqM (hu : X.A.units + 64 < cLine) : OpR X (compareOp .Eq) (rEqM X.K false) := by
  intro pins s σ H x y v u Q I rx ry ⟨d, e, hd, he, sd, se, hm, q⟩
  obtain ⟨as, r1⟩ := Dp.reads I d x v hd rx
  obtain ⟨bs, r2⟩ := Dp.reads I e y u he ry
  exact SeqAt.compareEq_reads r1 r2 sd se (by omega) ⟨.bl _, H, I, rfl, by simpa using q⟩
theorem op_neM (hu : X.A.units + 64 < cLine) : OpR X (compareOp .NotEq) (rEqM X.K true) := by
  intro pins s σ H x y v u Q I rx ry ⟨d, e, hd, he, sd, se, hm, q⟩
  obtain ⟨as, r1⟩ := Dp.reads I d x v hd rx
  obtain ⟨bs, r2⟩ := Dp.reads I e y u he ry
  exact SeqAt.compareNe_reads r1 r2 sd se (by omega) ⟨.bl _, H, I, rfl, by simpa using q⟩
theorem rf_eqN {op : CmpOp} {neg : Bool} (o : OpR X (compareOp op) (rEqM X.K neg)) (o2 : OpR X (compareOp op) (fun x y H Q => scal x y = true ∧ Q (.bl (decide (x = y) != neg)) H)) : Rf2 G (U2 X (compareOp op)) (rEqN neg) := by
  intro d e x y h H k Q rel dx dy q0 post
  unfold rEqN at q0
  split at q0
  · cases dx; cases dy
    exact ⟨_, o2, rfl, post_bl post rel (by simpa using q0)⟩
  · cases dx; cases dy
    exact ⟨_, o2, rfl, post_bl post rel (by simpa using q0)⟩
  obtain ⟨p, q, rp, rq, hm, kq⟩ := q0
  exact ⟨_, o, p, q, rp.dp rel dx, rq.dp rel dy, rp.lay, rq.lay, hm, post_bl post rel kq⟩
theorem rf_eq (hu : X.A.units + 64 < cLine) : Rf2 G (U2 X (compareOp .Eq)) rEq := rf_eqN (op_eqM hu) (by rw [show (fun (x y : V) (H : Hp) (Q : VK) => scal x y = true ∧ Q (.bl (decide (x = y) != false)) H) = L2.rEq from by funext x y H Q; simp [L2.rEq]]; exact op_eq)
theorem rf_ne (hu : X.A.units + 64 < cLine) : Rf2 G (U2 X (compareOp .NotEq)) rNe := rf_eqN (op_neM hu) (by rw [show (fun (x y : V) (H : Hp) (Q : VK) => scal x y = true ∧ Q (.bl (decide (x = y) != true)) H) = L2.rNe from by funext x y H Q; simp [L2.rNe]]; exact op_ne)
/-- in, over read data -/
def rInM (K : PySem.W.Frag) (neg : Bool) : R2 := fun x y H Q => ∃ d ds, Dp K H x d ∧ (Dp K H y (.list ds) ∨ Dp K H y (.tuple ds)) ∧ d.canLay0 = true ∧ PyData.canLayAll0 ds = true ∧ min (PyData.depthAll ds) d.depth ≤ 64 ∧ Q (.bl (ds.any (fun z => PyData.eqv z d) != neg)) H
theorem op_inM (hu : X.A.units + 65 < cLine) : OpR X (compareOp .In) (rInM X.K false) := by
  intro pins s σ H x y v u Q I rx ry ⟨d, ds, hd, he, sd, se, hm, q⟩
  obtain ⟨as, r1⟩ := Dp.reads I d x v hd rx
  rcases he with he | he
  · obtain ⟨bs, r2⟩ := Dp.reads I (.list ds) y u he ry
    exact SeqAt.in_list_reads r2 r1 (by simpa [PyData.canLay0] using se) sd (by omega) ⟨.bl _, H, I, rfl, by simpa using q⟩
  · obtain ⟨bs, r2⟩ := Dp.reads I (.tuple ds) y u he ry
    exact SeqAt.in_tuple_reads r2 r1 (by simpa [PyData.canLay0] using se) sd (by omega) ⟨.bl _, H, I, rfl, by simpa using q⟩
theorem op_notInM (hu : X.A.units + 65 < cLine) : OpR X (compareOp .NotIn) (rInM X.K true) := by
  intro pins s σ H x y v u Q I rx ry ⟨d, ds, hd, he, sd, se, hm, q⟩
  obtain ⟨as, r1⟩ := Dp.reads I d x v hd rx
  rcases he with he | he
  · obtain ⟨bs, r2⟩ := Dp.reads I (.list ds) y u he ry
    exact SeqAt.notIn_list_reads r2 r1 (by simpa [PyData.canLay0] using se) sd (by omega) ⟨.bl _, H, I, rfl, by simpa using q⟩
  · obtain ⟨bs, r2⟩ := Dp.reads I (.tuple ds) y u he ry
    exact SeqAt.notIn_tuple_reads r2 r1 (by simpa [PyData.canLay0] using se) sd (by omega) ⟨.bl _, H, I, rfl, by simpa using q⟩
theorem rf_inN {op : CmpOp} {neg : Bool} (o : OpR X (compareOp op) (rInM X.K neg)) (o2 : OpR X (compareOp op) (fun x y H Q => ∃ (c : Nat) (z : Str), x = .str ⟨#[c]⟩ ∧ y = .str z ∧ Q (.bl (decide (c ∈ z.cps.toList) != neg)) H)) : Rf2 G (U2 X (compareOp op)) (rIn neg) := by
  intro d e x y h H k Q rel dx dy q post
  unfold rIn at q
  split at q
  · obtain ⟨c, rfl, q⟩ := q
    cases dx; cases dy
    exact ⟨_, o2, c, _, rfl, rfl, post_bl post rel q⟩
  · obtain ⟨p, ps, rp, rq, hm, kq⟩ := q
    exact ⟨_, o, p, ps, rp.dp rel dx, .inr ((Rs.tup rq).dp rel dy), rp.lay, rq.lay, hm, post_bl post rel kq⟩
  · obtain ⟨l, p, ps, ha, rp, rq, hm, kq⟩ := q
    exact ⟨_, o, p, ps, rp.dp rel dx, .inl ((Rs.lst ha rq).dp rel dy), rp.lay, rq.lay, hm, post_bl post rel kq⟩
  · exact q.elim
theorem rf_in (hu : X.A.units + 65 < cLine) : Rf2 G (U2 X (compareOp .In)) (rIn false) := rf_inN (op_inM hu) (by simpa using op_in_sign)
theorem rf_notIn (hu : X.A.units + 65 < cLine) : Rf2 G (U2 X (compareOp .NotIn)) (rIn true) := rf_inN (op_notInM hu) (by simpa using op_notIn_sign)
theorem isN_of {H : Hp} {d : D} {v : V} (r : DV H d v) : decide (v = .non) = d.isN := by
  cases r <;> rfl
variable {a b c e : Expr} {f g : WE} {pos : Pos}
theorem i_isN {j p2} (ha : PE3 X G a f) : PE3 X G (.Compare a [.Is] [.Constant .none j p2] pos) (w1 (rIsN false) f) := by
  refine (pe_cmp (pc_isN ha) rfl).weak fun σ H Q q => lift1 (f := f) (R := fun x H1 Q => Q (.bl (decide (x = .non))) H1) (fun d x h H k Q rel dx q post => ?_) q
  unfold rIsN at q
  exact post_bl post rel (by rw [isN_of dx]; simpa using q)
theorem i_notN {j p2} (ha : PE3 X G a f) : PE3 X G (.Compare a [.IsNot] [.Constant .none j p2] pos) (w1 (rIsN true) f) := by
  refine (pe_cmp (pc_notN ha) rfl).weak fun σ H Q q => lift1 (f := f) (R := fun x H1 Q => Q (.bl (!decide (x = .non))) H1) (fun d x h H k Q rel dx q post => ?_) q
  unfold rIsN at q
  exact post_bl post rel (by rw [isN_of dx]; simpa using q)
end
end T3
end
-- T3Seq
section
set_option maxRecDepth 100000
set_option maxHeartbeats 4000000
/-! T3Seq: subscripts, slices, built-in calls, methods of lists, loops, comprehensions. -/
namespace T3
open PySem PySem.Spec PyProof.Rows L2

/-! ### subscripts -/
def rIx : D → D → H3 → K1 → Prop := fun x y h k => match x, y with
  | .tup l, .int i => ∃ d, atI l i = some d ∧ k d h
  | .ref a, .int i => ∃ l d, h a = some (.lst l) ∧ atI l i = some d ∧ k d h
  | .str z, .int i => z.length ≤ 16777216 ∧ ∃ c, atI z.cps.toList i = some c ∧ k (.str ⟨#[c]⟩) h
  | _, _ => False
def cutD (xs : List D) (lo hi : Option Int) : List D := (xs.drop (HT.sIx xs.length 0 lo)).take (HT.sIx xs.length xs.length hi - HT.sIx xs.length 0 lo)
def rSl (x : D) (lo hi : Option Int) (h : H3) (k : K1) : Prop := match x with
  | .tup l => k (.tup (cutD l lo hi)) h
  | .ref a => ∃ l, h a = some (.lst l) ∧ ∀ p, h p = none → k (.ref p) (up h p (.lst (cutD l lo hi)))
  | .str z => z.length ≤ 16777216 ∧ k (.str (cutS z lo hi)) h
  | _ => False
theorem DVs.atI {H : Hp} {l : List D} {vs : List V} {i : Int} {d : D} (r : DVs H l vs) (e : atI l i = some d) : ∃ v, L2.atI vs i = some v ∧ DV H d v := by
  unfold L2.atI at e ⊢
  rw [← r.length]
  cases q : ixN l.length i with
  | none => rw [q] at e; cases e
  | some j =>
    rw [q] at e
    exact r.get (by simpa using e)
theorem DVs.cut {H : Hp} {l : List D} {vs : List V} (r : DVs H l vs) (lo hi : Option Int) : DVs H (cutD l lo hi) (cutV vs lo hi) := by
  unfold cutD cutV
  rw [← r.length]
  exact (r.drop _).take _
theorem cutD_whole {l : List D} {lo hi : Option Int} (w : HT.sIx l.length 0 lo = 0 ∧ HT.sIx l.length l.length hi = l.length) : cutD l lo hi = l := by
  unfold cutD
  rw [w.1, w.2, List.drop_zero, Nat.sub_zero, List.take_length]
abbrev WO := Ev → H3 → (Option Int → H3 → Prop) → Prop
def oNone : WO := fun _ h k => k none h
def oSome (a : WE) : WO := fun ρ h k => a ρ h fun d h1 => ∃ i, d = .int i ∧ k (some i) h1
def wSl (a : WE) (lo hi : WO) : WE := fun ρ h k => a ρ h fun d h1 => lo ρ h1 fun l h2 => hi ρ h2 fun u h3 => rSl d l u h3 k
section
variable {X : Cx} {G : Sc} {a b e : Expr} {es : List Expr} {f g : WE} {t : WA} {pos p2 : Pos}
theorem rf_ix : Rf2 G (UX X) rIx := by
  intro d e x y h H k Q rel dx dy q post
  unfold rIx at q
  split at q
  · obtain ⟨d', e', q⟩ := q
    cases dy
    cases dx with
    | tup e1 r1 =>
      obtain ⟨v, e2, dv⟩ := r1.atI e'
      exact ⟨_, ix_tup, _, _, _, _, rfl, rfl, .of e1, e2, post _ _ _ _ q rel (Per.refl H) dv⟩
  · obtain ⟨l, d', ha, e', q⟩ := q
    cases dx; cases dy
    obtain ⟨vs, e1, r1⟩ := rel.lst ha
    obtain ⟨v, e2, dv⟩ := r1.atI e'
    exact ⟨_, ix_list, _, _, _, _, rfl, rfl, .of e1, e2, post _ _ _ _ q rel (Per.refl H) dv⟩
  · obtain ⟨hz, c, e', q⟩ := q
    cases dx; cases dy
    exact ⟨_, ix_str, _, _, _, rfl, rfl, hz, e', post_str post rel q⟩
  · exact q.elim
theorem i_ix (ha : PE3 X G a f) (hb : PE3 X G b g) (hs : PlainIx b := by exact fun _ _ => rfl) : PE3 X G (.Subscript a b pos) (w2 rIx f g) := (pe_ix UX.ok ha hb hs).weak fun σ H Q q => lift2 rf_ix q
def tIO (G : Sc) (f : WO) : TO := fun σ H Q => ∃ ρ h k, Rel G h H ∧ EvR H ρ σ ∧ f ρ h k ∧ ∀ o h' H', k o h' → Rel G h' H' → Per H H' → Q o H'
theorem PO.weak {e : Option Expr} {t t' : TO} (h : PO X e t) (w : ∀ σ H Q, t' σ H Q → t σ H Q) : PO X e t' := ⟨fun pins s σ H Q I q => h.run pins s σ H Q I (w σ H Q q)⟩
theorem io_none : PO X none (tIO G oNone) := PO.weak po_none fun σ H Q ⟨ρ, h, k, rel, ev, q, post⟩ => post none h H q rel (Per.refl H)
theorem io_some (h : PE3 X G e f) : PO X (some e) (tIO G (oSome f)) := by
  refine PO.weak (po_some h) fun σ H Q ⟨ρ, h, k, rel, ev, q, post⟩ => ?_
  refine ⟨ρ, h, _, rel, ev, q, fun d h1 v H1 q1 rel1 per1 dv1 => ?_⟩
  obtain ⟨i, rfl, q1⟩ := q1
  cases dv1
  exact ⟨i, rfl, post (some i) h1 H1 q1 rel1 per1⟩
theorem i_sl {lo hi : Option Expr} {ol oh : WO} (ha : PE3 X G a f) (hl : PO X lo (tIO G ol)) (hh : PO X hi (tIO G oh)) : PE3 X G (.Subscript a (.Slice lo hi none p2) pos) (wSl f ol oh) := by
  refine (pe_slice US.ok ha hl hh).weak fun σ H Q ⟨ρ, h, k, rel, ev, q, post⟩ => ?_
  refine ⟨ρ, h, _, rel, ev, q, fun d h1 v H1 q1 rel1 per1 dv1 => ⟨ρ, h1, _, rel1, ev.per per1, q1, fun l h2 H2 q2 rel2 per2 => ⟨ρ, h2, _, rel2, ev.per (per1.trans per2), q2, fun u h3 H3 q3 rel3 per3 => ?_⟩⟩⟩
  have dv3 := dv1.per (per2.trans per3)
  have post3 := post.per (per1.trans (per2.trans per3))
  unfold rSl at q3
  split at q3
  · cases dv3 with
    | tup e1 r1 =>
      refine ⟨_, sl_tupA, _, _, rfl, .of e1, fun w => ?_, fun _ p np => post_tup post3 rel3 (r1.cut l u) q3 np⟩
      rw [← r1.length] at w
      have e : cutD _ l u = _ := cutD_whole w
      rw [e] at q3
      exact post3 _ _ _ _ q3 rel3 (Per.refl H3) (.tup e1 r1)
  · cases dv3
    obtain ⟨l0, ha, q3⟩ := q3
    obtain ⟨vs, e1, r1⟩ := rel3.lst ha
    exact ⟨_, sl_list, _, _, rfl, .of e1, fun p np => post_lst post3 rel3 (r1.cut l u) q3 np⟩
  · cases dv3
    exact ⟨_, sl_str, _, rfl, q3.1, post_str post3 rel3 q3.2⟩
  · exact q3.elim

/-! ### built-in calls -/
theorem i_callB {id : String} {r : List D → H3 → K1 → Prop} {x : Str} {p : Pos} (rf : RfL G (UC X (.builtin id)) r) (hg : Gl X x) (hm : X.mg x = none) (hv : bootBuiltins x = some (.builtin id)) (ha : PA3 X G (e :: es) t) (hn : x ≠ "__name__" := by decide) (hdb : (x == ("__debug__" : Str)) = false := by decide)
    (he : starEach (e :: es) X.env = (false, eval e X.env) :: starEach es X.env := by rfl) (hpl : (backTo pos (starEach es X.env)).any (·.1) = false := by rfl) : PE3 X G (.Call (.Name x p) (e :: es) [] pos) (wL r t) :=
  (pe_callB UC.ok hg hm hv ha hn hdb he hpl).weak fun σ H Q q => liftL rf q
theorem i_callT {T : String} {r : List D → H3 → K1 → Prop} {x : Str} {p : Pos} (rf : RfL G (UC X (.type T)) r) (hg : Gl X x) (hm : X.mg x = none) (hv : bootBuiltins x = some (.type T)) (ha : PA3 X G (e :: es) t) (hn : x ≠ "__name__" := by decide) (hdb : (x == ("__debug__" : Str)) = false := by decide)
    (he : starEach (e :: es) X.env = (false, eval e X.env) :: starEach es X.env := by rfl) (hpl : (backTo pos (starEach es X.env)).any (·.1) = false := by rfl) : PE3 X G (.Call (.Name x p) (e :: es) [] pos) (wL r t) :=
  (pe_callTy UC.ok hg hm hv ha hn hdb he hpl).weak fun σ H Q q => liftL rf q
def rLen : List D → H3 → K1 → Prop := fun l h k => ∃ d, l = [d] ∧ match d with
  | .str z => z.length ≤ 16777216 ∧ k (.int z.length) h
  | .tup l => k (.int l.length) h
  | .ref a => ∃ l, h a = some (.lst l) ∧ k (.int l.length) h
  | _ => False
theorem rf_len : RfL G (UC X (.builtin "len")) rLen := by
  intro l vs h H k Q rel dv ⟨d, el, q⟩ post
  subst el
  cases dv with
  | cons d1 t1 =>
    cases t1
    split at q
    · cases d1
      exact ⟨_, call_len_str, _, rfl, q.1, post_int post rel q.2⟩
    · cases d1 with
      | tup e1 r1 => exact ⟨_, call_len_seq, _, _, rfl, .inr (.of e1), by rw [← r1.length]; exact post_int post rel q⟩
    · cases d1
      obtain ⟨l, ha, q⟩ := q
      obtain ⟨vs, e1, r1⟩ := rel.lst ha
      exact ⟨_, call_len_seq, _, _, rfl, .inl (.of e1), by rw [← r1.length]; exact post_int post rel q⟩
    · exact q.elim
def rI1 (g : Int → Int) : List D → H3 → K1 → Prop := fun l h k => ∃ i, l = [.int i] ∧ k (.int (g i)) h
def rI2 (g : Int → Int → Int) : List D → H3 → K1 → Prop := fun l h k => ∃ i j, l = [.int i, .int j] ∧ k (.int (g i j)) h
abbrev rAbs := rI1 fun i => if i < 0 then -i else i
abbrev rMax2 := rI2 fun i j => if j > i then j else i
abbrev rMin2 := rI2 fun i j => if j < i then j else i
theorem rf_abs : RfL G (UC X (.builtin "abs")) rAbs := by
  intro l vs h H k Q rel dv ⟨i, el, q⟩ post
  subst el
  cases dv with
  | cons d1 t1 =>
    cases t1; cases d1
    exact ⟨_, call_abs, i, rfl, post_int post rel q⟩
theorem rf_max2 (hc : X.calm = true) : RfL G (UC X (.builtin "max")) rMax2 := by
  intro l vs h H k Q rel dv ⟨i, j, el, q⟩ post
  subst el
  cases dv with
  | cons d1 t1 =>
    cases t1 with
    | cons d2 t2 =>
      cases t2; cases d1; cases d2
      exact ⟨_, call_max2 hc, i, j, rfl, post_int post rel q⟩
theorem rf_min2 (hc : X.calm = true) : RfL G (UC X (.builtin "min")) rMin2 := by
  intro l vs h H k Q rel dv ⟨i, j, el, q⟩ post
  subst el
  cases dv with
  | cons d1 t1 =>
    cases t1 with
    | cons d2 t2 =>
      cases t2; cases d1; cases d2
      exact ⟨_, call_min2 hc, i, j, rfl, post_int post rel q⟩
def rToInt : List D → H3 → K1 → Prop := fun l h k => ∃ d, l = [d] ∧ match d with
  | .int i => k (.int i) h
  | .bl b => k (.int (if b then 1 else 0)) h
  | _ => False
theorem rf_int1 : RfL G (UC X (.type "int")) rToInt := by
  intro l vs h H k Q rel dv ⟨d, el, q⟩ post
  subst el
  cases dv with
  | cons d1 t1 =>
    cases t1
    split at q
    · cases d1
      exact ⟨_, call_int1, .inl ⟨_, rfl, post_int post rel q⟩⟩
    · cases d1
      exact ⟨_, call_int1, .inr ⟨_, rfl, post_int post rel q⟩⟩
    · exact q.elim
def rTupleOf : List D → H3 → K1 → Prop := fun l h k => ∃ d, l = [d] ∧ match d with
  | .tup l => k (.tup l) h
  | .ref a => ∃ l, h a = some (.lst l) ∧ k (.tup l) h
  | _ => False
theorem rf_tupleOf : RfL G (UC X (.type "tuple")) rTupleOf := by
  intro l vs h H k Q rel dv ⟨d, el, q⟩ post
  subst el
  cases dv with
  | cons d1 t1 =>
    cases t1
    split at q
    · cases d1 with
      | tup e1 r1 => exact ⟨_, call_tuple_of, _, _, rfl, .inr ⟨.of e1, post _ _ _ _ q rel (Per.refl H) (.tup e1 r1)⟩⟩
    · cases d1
      obtain ⟨l, ha, q⟩ := q
      obtain ⟨vs, e1, r1⟩ := rel.lst ha
      exact ⟨_, call_tuple_of, _, _, rfl, .inl ⟨.of e1, fun p np => post_tup post rel r1 q np⟩⟩
    · exact q.elim
def rListOf : List D → H3 → K1 → Prop := fun l h k => ∃ d, l = [d] ∧ match d with
  | .tup l => ∀ p, h p = none → k (.ref p) (up h p (.lst l))
  | .ref a => ∃ l, h a = some (.lst l) ∧ ∀ p, h p = none → k (.ref p) (up h p (.lst l))
  | _ => False
theorem rf_listOf : RfL G (UC X (.type "list")) rListOf := by
  intro l vs h H k Q rel dv ⟨d, el, q⟩ post
  subst el
  cases dv with
  | cons d1 t1 =>
    cases t1
    split at q
    · cases d1 with
      | tup e1 r1 => exact ⟨_, call_list_of, _, _, rfl, .inr (.of e1), fun p np => post_lst post rel r1 q np⟩
    · cases d1
      obtain ⟨l, ha, q⟩ := q
      obtain ⟨vs, e1, r1⟩ := rel.lst ha
      exact ⟨_, call_list_of, _, _, rfl, .inl (.of e1), fun p np => post_lst post rel r1 q np⟩
    · exact q.elim
/-- all, any of a list of truths -/
def rAllB : List D → H3 → K1 → Prop := fun l h k => ∃ (a : Addr) (bs : List Bool), l = [.ref a] ∧ h a = some (.lst (bs.map D.bl)) ∧ k (.bl (bs.all id)) h
def rAnyB : List D → H3 → K1 → Prop := fun l h k => ∃ (a : Addr) (bs : List Bool), l = [.ref a] ∧ h a = some (.lst (bs.map D.bl)) ∧ k (.bl (bs.any id)) h
theorem DVs.bls {H : Hp} : ∀ {bs : List Bool} {vs : List V}, DVs H (bs.map D.bl) vs → vs = bs.map V.bl
  | [], _, h => by cases h; rfl
  | b :: bs, _, h => by
    cases h with
    | cons r t => cases r; rw [DVs.bls t]; rfl
theorem DVs.ints {H : Hp} : ∀ {bs : List Int} {vs : List V}, DVs H (bs.map D.int) vs → vs = bs.map V.int
  | [], _, h => by cases h; rfl
  | b :: bs, _, h => by
    cases h with
    | cons r t => cases r; rw [DVs.ints t]; rfl
theorem DVs.strs {H : Hp} : ∀ {bs : List Str} {vs : List V}, DVs H (bs.map D.str) vs → vs = bs.map V.str
  | [], _, h => by cases h; rfl
  | b :: bs, _, h => by
    cases h with
    | cons r t => cases r; rw [DVs.strs t]; rfl
theorem rf_all (hc : X.calm = true) : RfL G (UC X (.builtin "all")) rAllB := by
  intro l vs h H k Q rel dv ⟨a, bs, el, ha, q⟩ post
  subst el
  cases dv with
  | cons d1 t1 =>
    cases t1; cases d1
    obtain ⟨vs, e1, r1⟩ := rel.lst ha
    rw [r1.bls] at e1
    exact ⟨_, cr_all hc, a, bs, rfl, .of e1, post_bl post rel q⟩
theorem rf_any (hc : X.calm = true) : RfL G (UC X (.builtin "any")) rAnyB := by
  intro l vs h H k Q rel dv ⟨a, bs, el, ha, q⟩ post
  subst el
  cases dv with
  | cons d1 t1 =>
    cases t1; cases d1
    obtain ⟨vs, e1, r1⟩ := rel.lst ha
    rw [r1.bls] at e1
    exact ⟨_, cr_any hc, a, bs, rfl, .of e1, post_bl post rel q⟩

/-! ### methods of lists -/
def rAppend3 : D → List D → H3 → K1 → Prop := fun x l h k => ∃ a xs d, x = .ref a ∧ l = [d] ∧ h a = some (.lst xs) ∧ xs.length < 16777216 ∧ k .non (up h a (.lst (xs ++ [d])))
theorem i_append {apos cpos : Pos} (ho : PE3 X G a f) (ha : PA3 X G (e :: es) t) (hbase : attributeBase a "append" X.env (eval a X.env) = eval a X.env := by rfl)
    (hfew : ((backTo cpos (starEach (e :: es) X.env)).all (fun x => !x.1) && (backToKw cpos (keywordEach [] X.env)).all (fun x => x.1.isSome)
      && decide ((e :: es).length + ([] : List Keyword).length + (if ([] : List Keyword).isEmpty then 0 else 1) < 30)) = true := by rfl)
    (hline : (apos.endLine == cpos.line) = true := by rfl) (hs : starEach (e :: es) X.env = (false, eval e X.env) :: starEach es X.env := by rfl) (hplain : (backTo cpos (starEach es X.env)).any (·.1) = false := by rfl) :
    PE3 X G (.Call (.Attribute a "append" apos) (e :: es) [] cpos) (fun ρ h k => f ρ h fun x h1 => ∃ p xs, x = .ref p ∧ h1 p = some (.lst xs) ∧ t ρ h1 fun l h2 => rAppend3 x l h2 k) := by
  refine (pe_bm PySem.F.plainAttrs_list PySem.F.slot_list_append PySem.F.type_list_append mt_append ho ha hbase hfew hline hs hplain).weak fun σ H Q ⟨ρ, h, k, rel, ev, q, post⟩ => ?_
  refine ⟨ρ, h, _, rel, ev, q, fun d h1 v H1 q1 rel1 per1 dv1 => ?_⟩
  obtain ⟨p, xs, rfl, hp, q1⟩ := q1
  cases dv1
  obtain ⟨vs, e1, r1⟩ := rel1.lst hp
  refine ⟨.inl ⟨rfl, _, .of e1⟩, ρ, h1, _, rel1, ev.per per1, q1, fun l h2 ws H2 q2 rel2 per2 dv2 => ?_⟩
  obtain ⟨a', xs', d', e', rfl, ha', hz, q2⟩ := q2
  cases e'
  cases dv2 with
  | cons d1 t1 =>
    cases t1
    obtain ⟨vs', e2, r2⟩ := rel2.lst ha'
    refine ⟨_, _, _, rfl, rfl, e2, by rw [← r2.length]; exact hz, ?_⟩
    exact post _ _ _ _ q2 (rel2.setLst ha' (r2.append (.cons d1 .nil))) ((per1.trans per2).trans (Per.mut (rel2.mut ha'))) .non
end
/-- o[i] = v -/
def rSetIx : D → D → D → H3 → (H3 → Prop) → Prop := fun o i d h k => ∃ a n l j, o = .ref a ∧ i = .int n ∧ h a = some (.lst l) ∧ ixN l.length n = some j ∧ k (up h a (.lst (l.set j d)))
def gIx (o i : WE) : WG := fun d ρ h k => o ρ h fun x h1 => i ρ h1 fun y h2 => rSetIx x y d h2 fun h3 => k ρ h3
section
variable {X : Cx} {G : Sc} {o i : Expr} {f g : WE} {pos : Pos}
theorem ig_ix (ho : PE3 X G o f) (hi : PE3 X G i g) (ha : ∀ v, assign (.Subscript o i pos) X.env v = (do
      let ov ← holding [v] (eval o X.env)
      let iv ← holding [v, ov] (eval i X.env)
      standAt pos
      holding [v, ov, iv] (setItem ov iv v)
      release [v, ov, iv] []) := by intro _; rfl) : PG3 X G (.Subscript o i pos) (gIx f g) := by
  refine (pg_sub ho hi set_list ha).weak fun v σ H Q ⟨d, ρ, h, k, rel, ev, dv, q, post⟩ => ?_
  refine ⟨ρ, h, _, rel, ev, q, fun x h1 xv H1 q1 rel1 per1 dv1 => ⟨ρ, h1, _, rel1, ev.per per1, q1, fun y h2 yv H2 q2 rel2 per2 dv2 => ?_⟩⟩
  obtain ⟨a, n, l, j, rfl, rfl, ha, hj, q2⟩ := q2
  have dv1' := dv1.per per2
  cases dv1'; cases dv2
  obtain ⟨vs, e1, r1⟩ := rel2.lst ha
  refine ⟨_, _, _, j, rfl, rfl, e1, by rw [← r1.length]; exact hj, ?_⟩
  have p3 := (per1.trans per2).trans (Per.mut (o := .lst (vs.set j v)) (rel2.mut ha))
  exact post _ _ _ _ q2 (rel2.setLst ha (DVs.set (dv.per (per1.trans per2)) j r1)) p3 (ev.per p3)
end

/-! ### what is walked -/
inductive Src where
  | fix (l : List D) | lst (a : Addr)
abbrev WI := Ev → H3 → (Src → H3 → Prop) → Prop
def Src.at_ : Src → H3 → Nat → D → Prop
  | .fix l, _, i, d => l[i]? = some d
  | .lst a, h, i, d => ∃ l, h a = some (.lst l) ∧ l[i]? = some d
def Src.done : Src → H3 → Nat → Prop
  | .fix l, _, i => l.length ≤ i
  | .lst a, h, i => ∃ l, h a = some (.lst l) ∧ l.length ≤ i
structure ItOk (G : Sc) (J : It) (H1 : Hp) (s : Src) : Prop where
  go : ∀ i H h d, Per H1 H → Rel G h H → s.at_ h i d → J.go i H
  yld : ∀ i H h d x H', Per H1 H → Rel G h H → s.at_ h i d → J.yld i H x H' → Rel G h H' ∧ Per H H' ∧ DV H' d x
  stop : ∀ i H h, Per H1 H → Rel G h H → s.done h i → J.stop i H
def tII (G : Sc) (f : WI) : TI := fun σ H R => ∃ ρ h k, Rel G h H ∧ EvR H ρ σ ∧ f ρ h k ∧ ∀ s J h' H', k s h' → Rel G h' H' → Per H H' → ItOk G J H' s → R J H'
abbrev PI3 (X : Cx) (G : Sc) (tg e : Expr) (f : WI) : Prop := PI X tg e (tII G f)
theorem _root_.L2.PI.weak {X : Cx} {tg e : Expr} {t t' : TI} (h : PI X tg e t) (w : ∀ σ H Q, t' σ H Q → t σ H Q) : PI X tg e t' := ⟨fun pins s σ H Q I q => h.run pins s σ H Q I (w σ H Q q)⟩
/-- a list, a tuple -/
def wIter (a : WE) : WI := fun ρ h k => a ρ h fun d h1 => match d with
  | .tup l => k (.fix l) h1
  | .ref a => (∃ l, h1 a = some (.lst l)) ∧ k (.lst a) h1
  | .str z => k (.fix (z.cps.toList.map fun c => .str ⟨#[c]⟩)) h1
  | _ => False
def rgD (lo : Int) (n : Nat) : List D := (List.range n).map fun (i : Nat) => D.int (lo + i)
def wRg1 (t : WA) : WI := fun ρ h k => t ρ h fun l h1 => ∃ j : Int, l = [.int j] ∧ -4611686018427387904 ≤ j ∧ j < 4611686018427387904 ∧ k (.fix (rgD 0 j.toNat)) h1
def wRg2 (t : WA) : WI := fun ρ h k => t ρ h fun l h1 => ∃ i j : Int, l = [.int i, .int j] ∧ (-4611686018427387904 ≤ i ∧ i < 4611686018427387904 ∧ -4611686018427387904 ≤ j ∧ j < 4611686018427387904) ∧ k (.fix (rgD i (j - i).toNat)) h1
theorem it_tup {G : Sc} {K : PySem.W.Frag} {H1 : Hp} {a : Addr} {l : List D} {vs : List V} (e : H1 a = some (.tup vs)) (r : DVs H1 l vs) : ItOk G (Itt K a) H1 (.fix l) := by
  refine ⟨fun i H h d per rel q => ?_, fun i H h d x H' per rel q y => ?_, fun i H h per rel q => ?_⟩
  · obtain ⟨v, ev, dv⟩ := r.get q
    exact ⟨vs, v, .of (per.tups _ _ e), ev⟩
  · obtain ⟨v, ev, dv⟩ := r.get q
    obtain ⟨rfl, y⟩ := y
    have e2 := y vs (.of (per.tups _ _ e))
    rw [ev] at e2
    cases e2
    exact ⟨rel, Per.refl _, dv.per per⟩
  · exact ⟨vs, .of (per.tups _ _ e), by rw [← r.length]; exact q⟩
theorem it_lst {G : Sc} {K : PySem.W.Frag} {H1 : Hp} {a : Addr} : ItOk G (Itl K a) H1 (.lst a) := by
  refine ⟨fun i H h d per rel ⟨l, ha, q⟩ => ?_, fun i H h d x H' per rel ⟨l, ha, q⟩ y => ?_, fun i H h per rel ⟨l, ha, q⟩ => ?_⟩
  · obtain ⟨vs, e, r⟩ := rel.lst ha
    obtain ⟨v, ev, dv⟩ := r.get q
    exact ⟨vs, v, .of e, ev⟩
  · obtain ⟨vs, e, r⟩ := rel.lst ha
    obtain ⟨v, ev, dv⟩ := r.get q
    obtain ⟨rfl, y⟩ := y
    have e2 := y vs (.of e)
    rw [ev] at e2
    cases e2
    exact ⟨rel, Per.refl _, dv⟩
  · obtain ⟨vs, e, r⟩ := rel.lst ha
    exact ⟨vs, .of e, by rw [← r.length]; exact q⟩
theorem it_str {G : Sc} {H1 : Hp} {z : Str} : ItOk G (Its z) H1 (.fix (z.cps.toList.map fun c => .str ⟨#[c]⟩)) := by
  refine ⟨fun i H h d per rel q => ?_, fun i H h d x H' per rel q y => ?_, fun i H h per rel q => ?_⟩
  · have q' : (z.cps.toList.map fun c => D.str ⟨#[c]⟩)[i]? = some d := q
    have := (List.getElem?_eq_some_iff.mp q').1
    show i < z.cps.size
    simpa using this
  · have q' : (z.cps.toList.map fun c => D.str ⟨#[c]⟩)[i]? = some d := q
    obtain ⟨rfl, c, ec, rfl⟩ := y
    rw [List.getElem?_map, Array.getElem?_toList, ec] at q'
    cases q'
    exact ⟨rel, Per.refl _, .str _⟩
  · have q' : (z.cps.toList.map fun c => D.str ⟨#[c]⟩).length ≤ i := q
    have : z.cps.size ≤ i := by simpa using q'
    exact this
theorem it_rng {G : Sc} {H1 : Hp} {lo : Int} {n : Nat} : ItOk G (Itr lo n) H1 (.fix (rgD lo n)) := by
  refine ⟨fun i H h d per rel q => ?_, fun i H h d x H' per rel q y => ?_, fun i H h per rel q => ?_⟩
  · have q' : (rgD lo n)[i]? = some d := q
    have := (List.getElem?_eq_some_iff.mp q').1
    show i < n
    simpa [rgD] using this
  · have q' : (rgD lo n)[i]? = some d := q
    obtain ⟨rfl, rfl⟩ := y
    have hi := (List.getElem?_eq_some_iff.mp q').1
    have hn : i < n := by simpa [rgD] using hi
    unfold rgD at q'
    rw [List.getElem?_map, List.getElem?_range hn] at q'
    cases q'
    exact ⟨rel, Per.refl _, .int _⟩
  · have q' : (rgD lo n).length ≤ i := q
    have : n ≤ i := by simpa [rgD] using q'
    exact this
section
variable {X : Cx} {G : Sc} {a b tg e : Expr} {es : List Expr} {f g : WE} {t : WA} {pos p : Pos}
/-- a list, a tuple, a text: whichever stands there -/
theorem ii_any (ha : PE3 X G e f) : PI3 X G tg e (wIter f) := by
  refine ⟨fun pins s σ H R I ⟨ρ, h, k, rel, ev, q, post⟩ => ?_⟩
  -- the three walks share the value
  refine thn (ha.run pins s σ H (fun v H1 => ∃ d h1, DV H1 d v ∧ Rel G h1 H1 ∧ Per H H1 ∧ (match d with
    | .tup l => k (.fix l) h1
    | .ref a => (∃ l, h1 a = some (.lst l)) ∧ k (.lst a) h1
    | .str z => k (.fix (z.cps.toList.map fun c => .str ⟨#[c]⟩)) h1
    | _ => False)) I ⟨ρ, h, _, rel, ev, q, fun d h1 v H1 q1 rel1 per1 dv1 => ⟨d, h1, dv1, rel1, per1, q1⟩⟩) fun u s1 ⟨x, H1, I1, r1, d, h1, dv1, rel1, per1, q1⟩ => ?_
  split at q1
  · cases dv1 with
    | tup e1 dr =>
      cases r1
      obtain ⟨its, rv, ⟨o, ho, hc, n, hd⟩, hz⟩ := I1.tuple (.of e1)
      refine wpAny_pyIter_tuple ⟨o, ho, hc, n, hd⟩ ?_
      exact ⟨s1.heap.objs.size, [s1.heap.objs.size], _, _, H1, rfl, I1.kept (t' := s1.toks) fun b o e => Heap.get?_push_of_some _ e, turn_tuple _ _, ⟨_, Heap.get?_push_size _ rfl, rfl, rfl⟩, fun b hb => by
        have e : b = s1.heap.objs.size := by simpa using hb
        subst e
        exact I1.fpOk (Nat.le_refl _) (I1.hok.fresh (Nat.le_refl _)), post _ _ _ _ q1 rel1 per1 (it_tup (K := X.K) e1 dr)⟩
  · cases dv1
    cases r1
    obtain ⟨⟨l, hl⟩, q1⟩ := q1
    obtain ⟨vs, e1, dr⟩ := rel1.lst hl
    obtain ⟨its, rv, p, hz⟩ := I1.list (.of e1)
    refine wpAny_pyIter_list p.isList ?_
    exact ⟨s1.heap.objs.size, [s1.heap.objs.size], _, _, H1, rfl, I1.kept (t' := s1.toks) fun b o e => Heap.get?_push_of_some _ e, turn_list _ _, ⟨_, Heap.get?_push_size _ rfl, rfl, rfl⟩, fun b hb => by
      have e : b = s1.heap.objs.size := by simpa using hb
      subst e
      exact I1.fpOk (Nat.le_refl _) (I1.hok.fresh (Nat.le_refl _)), post _ _ _ _ q1 rel1 per1 (it_lst (K := X.K))⟩
  · rename_i x
    cases dv1
    obtain ⟨t, rfl⟩ := r1
    cases ha : x.cps.all (· < 128)
    · exact wpAny_pyIter_wide ha (pi_one (tk := s1.toks) I1 _ (turn_str _ x t "str_iterator" (.inr rfl)) ⟨_, Heap.get?_push_size _ rfl, rfl, rfl⟩ (post _ _ _ _ q1 rel1 per1 it_str))
    · exact wpAny_pyIter_ascii ha (pi_one (tk := s1.toks) I1 _ (turn_str _ x t "str_ascii_iterator" (.inl rfl)) ⟨_, Heap.get?_push_size _ rfl, rfl, rfl⟩ (post _ _ _ _ q1 rel1 per1 it_str))
  · exact q1.elim
theorem ii_rg1 (hg : Gl X "range") (hm : X.mg "range" = none) (ha : PA3 X G [a] t) (hs : starEach [a] X.env = [(false, eval a X.env)] := by rfl) : PI3 X G tg (.Call (.Name "range" p) [a] [] pos) (wRg1 t) := by
  refine (pi_range1 hg hm ha hs).weak fun σ H R ⟨ρ, h, k, rel, ev, q, post⟩ => ?_
  refine ⟨ρ, h, _, rel, ev, q, fun l h1 vs H1 q1 rel1 per1 dv1 => ?_⟩
  obtain ⟨j, rfl, h1', h2', q1⟩ := q1
  cases dv1 with
  | cons d1 t1 =>
    cases t1; cases d1
    exact ⟨j, rfl, h1', h2', post _ _ _ _ q1 rel1 per1 it_rng⟩
theorem ii_rg2 (hg : Gl X "range") (hm : X.mg "range" = none) (ha : PA3 X G [a, b] t) (hs : starEach [a, b] X.env = [(false, eval a X.env), (false, eval b X.env)] := by rfl) (hs2 : starEach [b] X.env = [(false, eval b X.env)] := by rfl) : PI3 X G tg (.Call (.Name "range" p) [a, b] [] pos) (wRg2 t) := by
  refine (pi_range2 hg hm ha hs hs2).weak fun σ H R ⟨ρ, h, k, rel, ev, q, post⟩ => ?_
  refine ⟨ρ, h, _, rel, ev, q, fun l h1 vs H1 q1 rel1 per1 dv1 => ?_⟩
  obtain ⟨i, j, rfl, hb, q1⟩ := q1
  cases dv1 with
  | cons d1 t1 =>
    cases t1 with
    | cons d2 t2 =>
      cases t2; cases d1; cases d2
      exact ⟨i, j, rfl, hb, post _ _ _ _ q1 rel1 per1 it_rng⟩
end

/-! ### for -/
def forW (chk : H3 → Prop) (g : WG) (body : WS) (E : En) : List D → Ev → H3 → Prop
  | [], ρ, h => chk h ∧ E.nx ρ h
  | x :: r, ρ, h => chk h ∧ g x ρ h fun ρ1 h1 => body { nx := fun ρ2 h2 => ∃ h3, Sub h3 h2 ∧ forW chk g body E r ρ2 h3, ct := fun ρ2 h2 => ∃ h3, Sub h3 h2 ∧ forW chk g body E r ρ2 h3, bk := E.nx, rt := E.rt } ρ1 h1
def wFor (it : WI) (g : WG) (body : WS) : WS := fun E ρ h => it ρ h fun s h1 => match s with
  | .fix l => forW (fun _ => True) g body E l ρ h1
  | .lst a => ∃ l, h1 a = some (.lst l) ∧ forW (fun h => h a = some (.lst l)) g body E l ρ h1
theorem for_ok {G : Sc} {J : It} {H1 : Hp} {s : Src} {g : WG} {body : WS} {E : En} {D : Ends} {l : List T3.D} {chk : H3 → Prop} {ρ : Ev} {h : H3} {σ : L2.St} {H0 : Hp}
    (ok : ItOk G J H1 s) (p0 : Per H0 H1) (at_ : ∀ i h d, chk h → l[i]? = some d → s.at_ h i d) (done : ∀ i h, chk h → l.length ≤ i → s.done h i)
    (rel : Rel G h H1) (ev : EvR H1 ρ σ) (q : forW chk g body E l ρ h) (post : PostS G H0 E D) :
    ∃ W : Nat → Nat → L2.St → Hp → Prop, (∃ m, W 0 m σ H1) ∧ ∀ i m σ H, W i m σ H →
  (J.stop i H ∧ D.nx σ H) ∨ (J.go i H ∧ ∃ N : L2.St → Hp → Prop, (∀ σ' H', N σ' H' → ∃ m', m' < m ∧ W (i + 1) m' σ' H') ∧ ∀ x H', J.yld i H x H' → tIG G g x σ H' fun σ2 H2 => tIS G body { D with nx := N, ct := N, bk := D.nx } σ2 H2) := by
  refine ⟨fun i m σ H => ∃ ρ h, i + m = l.length ∧ Rel G h H ∧ EvR H ρ σ ∧ Per H1 H ∧ forW chk g body E (l.drop i) ρ h, ⟨l.length, ρ, h, by omega, rel, ev, Per.refl _, by simpa using q⟩, ?_⟩
  rintro i m σ H ⟨ρ, h, em, rel, ev, per, q⟩
  by_cases hi : i < l.length
  · have e : l[i]? = some l[i] := List.getElem?_eq_getElem hi
    rw [List.drop_eq_getElem_cons hi] at q
    obtain ⟨hc, q⟩ := q
    have sat := at_ i h _ hc e
    refine .inr ⟨ok.go i H h _ per rel sat, fun σ' H' => ∃ ρ h, Rel G h H' ∧ EvR H' ρ σ' ∧ Per H1 H' ∧ forW chk g body E (l.drop (i + 1)) ρ h, fun σ' H' ⟨ρ', h', a, b, c, d⟩ => ⟨m - 1, by omega, ρ', h', by omega, a, b, c, d⟩, fun x H' y => ?_⟩
    obtain ⟨rel', per', dv⟩ := ok.yld i H h _ x H' per rel sat y
    refine ⟨_, ρ, h, _, rel', ev.per per', dv, q, fun ρ1 h1 σ1 H2 q1 rel1 per1 ev1 => ?_⟩
    refine ⟨ρ1, h1, _, rel1, ev1, q1, ?_⟩
    have pp : Per H0 H2 := p0.trans (per.trans (per'.trans per1))
    have stp : PostN G H2 (fun ρ2 h2 => ∃ h3, Sub h3 h2 ∧ forW chk g body E (l.drop (i + 1)) ρ2 h3) fun σ' H' => ∃ ρ h, Rel G h H' ∧ EvR H' ρ σ' ∧ Per H1 H' ∧ forW chk g body E (l.drop (i + 1)) ρ h :=
      fun ρ2 h2 σ2 H3 ⟨h3, sub, q3⟩ rel2 per2 ev2 => ⟨ρ2, h3, rel2.sub sub, ev2, per.trans (per'.trans (per1.trans per2)), q3⟩
    exact ⟨stp, post.rt.per pp, post.nx.per pp, stp⟩
  · have e : l.drop i = [] := List.drop_eq_nil_iff.mpr (by omega)
    rw [e] at q
    obtain ⟨hc, q⟩ := q
    exact .inl ⟨ok.stop i H h per rel (done i h hc (by omega)), post.nx ρ h σ H q rel (p0.trans per) ev⟩
section
variable {X : Cx} {G : Sc} {tg iter : Expr} {body : List Stmt} {it : WI} {g : WG} {b : WS} {pos : Pos}
theorem is_for (hp : PassesOwn (model X.prog X.w) X.A X.env X.xe) (hc : X.calm = true) (hi : PI3 X G tg iter it) (hg : PG3 X G tg g) (hb : PSs3 X G body b)
    (hs : ∀ x, foldedSetIterable iter X.env x = pure x := by intro _; rfl) : PS3 X G (.For tg iter body [] pos) (wFor it g b) := by
  refine (ps_for hp hc hi hg hb hs).weak fun D σ H ⟨ρ, h, E, rel, ev, q, post⟩ => ?_
  refine ⟨ρ, h, _, rel, ev, q, fun s J h1 H1 q1 rel1 per1 ok => ?_⟩
  split at q1
  · exact for_ok ok per1 (fun i h d _ e => e) (fun i h _ e => e) rel1 (ev.per per1) q1 post
  · obtain ⟨l, hl, q1⟩ := q1
    exact for_ok ok per1 (fun i h d c e => ⟨l, c, e⟩) (fun i h c e => ⟨l, c, e⟩) rel1 (ev.per per1) q1 post
end

/-! ### while -/
def whileW (t : WT) (body : WS) (E : En) : Nat → Ev → H3 → Prop
  | 0, _, _ => False
  | n + 1, ρ, h => t ρ h fun c h1 => if c = true then body { nx := fun ρ2 h2 => ∃ h3, Sub h3 h2 ∧ whileW t body E n ρ2 h3, ct := fun ρ2 h2 => ∃ h3, Sub h3 h2 ∧ whileW t body E n ρ2 h3, bk := E.nx, rt := E.rt } ρ h1 else E.nx ρ h1
def wWhile (t : WT) (body : WS) : WS := fun E ρ h => ∃ n, whileW t body E n ρ h
section
variable {X : Cx} {G : Sc} {c : Expr} {body : List Stmt} {t : WT} {b : WS} {pos : Pos}
theorem is_while (hp : PassesOwn (model X.prog X.w) X.A X.env X.xe) (hc : PT3 X G c t) (hb : PSs3 X G body b) : PS3 X G (.While c body [] pos) (wWhile t b) := by
  refine (ps_while hp hc hb).weak fun D σ H ⟨ρ, h, E, rel, ev, ⟨n, q⟩, post⟩ => ?_
  refine ⟨fun m σ' H' => ∃ ρ h, Rel G h H' ∧ EvR H' ρ σ' ∧ Per H H' ∧ whileW t b E m ρ h, ⟨n, ρ, h, rel, ev, Per.refl _, q⟩, ?_⟩
  rintro m σ' H' ⟨ρ, h, rel, ev, per, q⟩
  cases m with
  | zero => exact q.elim
  | succ m =>
    refine ⟨ρ, h, _, rel, ev, q, fun c h1 H1 q1 rel1 per1 => ?_⟩
    cases c with
    | true =>
      refine ⟨fun σ'' H'' => ∃ ρ h, Rel G h H'' ∧ EvR H'' ρ σ'' ∧ Per H H'' ∧ whileW t b E m ρ h, fun σ'' H'' w => ⟨m, by omega, w⟩, ρ, h1, _, rel1, ev.per per1, q1, ?_⟩
      have pp : Per H H1 := per.trans per1
      have stp : PostN G H1 (fun ρ2 h2 => ∃ h3, Sub h3 h2 ∧ whileW t b E m ρ2 h3) fun σ'' H'' => ∃ ρ h, Rel G h H'' ∧ EvR H'' ρ σ'' ∧ Per H H'' ∧ whileW t b E m ρ h :=
        fun ρ2 h2 σ2 H3 ⟨h3, sub, q3⟩ rel2 per2 ev2 => ⟨ρ2, h3, rel2.sub sub, ev2, pp.trans per2, q3⟩
      exact ⟨stp, post.rt.per pp, post.nx.per pp, stp⟩
    | false => exact post.nx ρ h1 σ' H1 q1 rel1 (per.trans per1) (ev.per per1)
end

/-! ### list comprehensions with one target -/
def lcW (chk : H3 → Prop) (i : Nat) (t : WT) (e : WE) (p : Addr) (ρ : Ev) (k : K1) : List D → H3 → Prop
  | [], h => chk h ∧ k (.ref p) h
  | x :: r, h => chk h ∧ t (ρ.set i (some x)) h fun b h1 => if b = true then e (ρ.set i (some x)) h1 fun d h2 => ∃ acc, h2 p = some (.lst acc) ∧ acc.length < 16777216 ∧ ∃ h3, Sub h3 (up h2 p (.lst (acc ++ [d]))) ∧ lcW chk i t e p ρ k r h3
      else ∃ h3, Sub h3 h1 ∧ lcW chk i t e p ρ k r h3
def wLc (it : WI) (i : Nat) (t : WT) (e : WE) : WE := fun ρ h k => it ρ h fun s h1 => ∀ p, h1 p = none → match s with
  | .fix l => lcW (fun _ => True) i t e p ρ k l (up h1 p (.lst []))
  | .lst a => ∃ l, h1 a = some (.lst l) ∧ lcW (fun h => h a = some (.lst l)) i t e p ρ k l (up h1 p (.lst []))
def wYes : WT := fun _ h k => k true h
theorem wipe_set {σ : L2.St} {i : Nat} {v : Option V} : wipe ((wipe σ [i]).set i v) [i] = wipe σ [i] := by
  show (((σ.set i none).set i v).set i none) = σ.set i none
  rw [List.set_set, List.set_set]
theorem EvR.wip {H : Hp} {ρ : Ev} {σ : L2.St} {d : D} {v : V} (e : EvR H ρ σ) (r : DV H d v) (i : Nat) : EvR H (ρ.set i (some d)) ((wipe σ [i]).set i (some v)) := by
  show EvR H (ρ.set i (some d)) ((σ.set i none).set i (some v))
  rw [List.set_set]
  exact e.set r i
theorem lc_ok {G : Sc} {J : It} {H1 : Hp} {s : Src} {i : Nat} {t : WT} {e : WE} {Q : VK} {k : K1} {l : List T3.D} {chk : H3 → Prop} {ρ : Ev} {h : H3} {σ : L2.St} {H0 : Hp} {p : Addr}
    (ok : ItOk G J H1 s) (p0 : Per H0 H1) (at_ : ∀ i h d, chk h → l[i]? = some d → s.at_ h i d) (done : ∀ i h, chk h → l.length ≤ i → s.done h i)
    (rel : Rel G h H1) (ev : EvR H1 ρ σ) (np : H1 p = none) (q : lcW chk i t e p ρ k l (up h p (.lst []))) (post : Post G H0 k Q) :
    ∃ W : Nat → Nat → Hp → Prop, (∃ m, W 0 m (upd H1 p (.lst []))) ∧ ∀ j m H, W j m H →
  (J.stop j H ∧ Q (.ref p) H) ∨ (J.go j H ∧ ∃ Nx : Hp → Prop, (∀ H', Nx H' → ∃ m', m' < m ∧ W (j + 1) m' H') ∧ ∀ x H', J.yld j H x H' → gName i x (wipe σ [i]) H' fun σ2 H2 => wipe σ2 [i] = wipe σ [i] ∧ tIT G t σ2 H2 fun b H3 =>
    if b = true then tI G e σ2 H3 fun y H4 => ∃ acc, H4 p = some (.lst acc) ∧ acc.length < sizeLine ∧ Nx (upd H4 p (.lst (acc ++ [y]))) else Nx H3) := by
  refine ⟨fun j m H => ∃ h, j + m = l.length ∧ Rel G h H ∧ Per H1 H ∧ lcW chk i t e p ρ k (l.drop j) h, ⟨l.length, _, by omega, rel.newLst np .nil, Per.new np, by simpa using q⟩, ?_⟩
  rintro j m H ⟨h, em, rel, per, q⟩
  by_cases hj : j < l.length
  · have e : l[j]? = some l[j] := List.getElem?_eq_getElem hj
    rw [List.drop_eq_getElem_cons hj] at q
    obtain ⟨hc, q⟩ := q
    have sat := at_ j h _ hc e
    refine .inr ⟨ok.go j H h _ per rel sat, fun H' => ∃ h, Rel G h H' ∧ Per H1 H' ∧ lcW chk i t _ p ρ k (l.drop (j + 1)) h, fun H' ⟨h', a, b, c⟩ => ⟨m - 1, by omega, h', by omega, a, b, c⟩, fun x H' y => ?_⟩
    obtain ⟨rel', per', dv⟩ := ok.yld j H h _ x H' per rel sat y
    refine ⟨wipe_set, ρ.set i (some l[j]), h, _, rel', (ev.per (per.trans per')).wip dv i, q, fun b h1 H2 q1 rel1 per1 => ?_⟩
    cases b with
    | true =>
      rw [if_pos rfl] at q1
      rw [if_pos rfl]
      refine ⟨ρ.set i (some l[j]), h1, _, rel1, (ev.per ((per.trans per').trans per1)).wip (dv.per per1) i, q1, fun d h2 v H3 q2 rel2 per2 dv2 => ?_⟩
      obtain ⟨acc, hacc, hz, h3, sub, q3⟩ := q2
      obtain ⟨vs, e1, r1⟩ := rel2.lst hacc
      refine ⟨vs, e1, by rw [← r1.length]; exact hz, h3, (rel2.setLst hacc (r1.append (.cons dv2 .nil))).sub sub, ?_, q3⟩
      exact ((per.trans per').trans per1).trans (per2.trans (Per.mut (rel2.mut hacc)))
    | false =>
      obtain ⟨h3, sub, q3⟩ := q1
      rw [if_neg Bool.false_ne_true]
      exact ⟨h3, rel1.sub sub, (per.trans per').trans per1, q3⟩
  · have e : l.drop j = [] := List.drop_eq_nil_iff.mpr (by omega)
    rw [e] at q
    obtain ⟨hc, q⟩ := q
    exact .inl ⟨ok.stop j H h per rel (done j h hc (by omega)), post _ h _ H q rel (p0.trans per) (.ref p)⟩
theorem lc_lift {G : Sc} {it : WI} {i : Nat} {t : WT} {e : WE} {σ : L2.St} {H : Hp} {Q : VK} (q : tI G (wLc it i t e) σ H Q) : tLc (tII G it) (gName i) (tIT G t) (tI G e) [i] σ H Q := by
  obtain ⟨ρ, h, k, rel, ev, q, post⟩ := q
  refine ⟨ρ, h, _, rel, ev, q, fun s J h1 H1 q1 rel1 per1 ok p np => ?_⟩
  have q1 := q1 p (rel1.none np)
  split at q1
  · exact lc_ok ok per1 (fun i h d _ e => e) (fun i h _ e => e) rel1 (ev.per per1) np q1 post
  · obtain ⟨l, hl, q1⟩ := q1
    exact lc_ok ok per1 (fun i h d c e => ⟨l, c, e⟩) (fun i h c e => ⟨l, c, e⟩) rel1 (ev.per per1) np q1 post
section
variable {X : Cx} {G : Sc} {elt iter c : Expr} {ifs : List Expr} {scope : Scope} {pos pos' : Pos} {it : WI} {t : WT} {e : WE} {x : Str}
theorem PTs.weak {ifs : List Expr} {t t' : TT} (h : PTs X ifs t) (w : ∀ σ H Q, t' σ H Q → t σ H Q) : PTs X ifs t' := ⟨fun pins s σ H Q I q => h.run pins s σ H Q I (w σ H Q q)⟩
theorem its_nil : PTs X [] (tIT G wYes) := PTs.weak pts_nil fun σ H Q ⟨ρ, h, k, rel, ev, q, post⟩ => post true h H q rel (Per.refl H)
theorem its_one (h : PT3 X G c t) : PTs X [c] (tIT G t) := pts_one h
theorem i_lc (i : Nat) (hc : X.calm = true) (hN : X.N.Nodup) (ok : BlkOk X.N X.env.scope scope [(x, i)]) (hi : PI3 X G (.Name x pos') iter it)
    (hg : ∀ (s : Shared) (H : Hp) (C : Addr) (cl : List (Str × Addr)) (fp : List Addr), PG (X.blk s H scope (compEnvC scope cl C X.env) fp) (.Name x pos') (gName i)) (ht : ∀ (s : Shared) (H : Hp) (C : Addr) (cl : List (Str × Addr)) (fp : List Addr), PTs (X.blk s H scope (compEnvC scope cl C X.env) fp) ifs (tIT G t))
    (he : ∀ (s : Shared) (H : Hp) (C : Addr) (cl : List (Str × Addr)) (fp : List Addr), PE (X.blk s H scope (compEnvC scope cl C X.env) fp) elt (tI G e)) (hs : ∀ x, foldedSetIterable iter X.env x = pure x := by intro _; rfl) :
    PE3 X G (.ListComp elt [⟨.Name x pos', iter, ifs, 0⟩] scope pos) (wLc it i t e) :=
  (pe_lc (own := [(x, i)]) hc hN hi ok hg ht he hs).weak fun σ H Q q => lc_lift q
theorem is_setLc (j : Nat) {y : Str} {py spos : Pos} (i : Nat) (hc : X.calm = true) (hN : X.N.Nodup) (hsw : swapsWith (.ListComp elt [⟨.Name x pos', iter, ifs, 0⟩] scope pos) (some (.Name y py)) spos.line X.env = pure true) (ok : BlkOk X.N X.env.scope scope [(x, i)]) (hi : PI3 X G (.Name x pos') iter it)
    (hg : ∀ (s : Shared) (H : Hp) (C : Addr) (cl : List (Str × Addr)) (fp : List Addr), PG (X.blk s H scope (compEnvC scope cl C X.env) fp) (.Name x pos') (gName i)) (ht : ∀ (s : Shared) (H : Hp) (C : Addr) (cl : List (Str × Addr)) (fp : List Addr), PTs (X.blk s H scope (compEnvC scope cl C X.env) fp) ifs (tIT G t))
    (he : ∀ (s : Shared) (H : Hp) (C : Addr) (cl : List (Str × Addr)) (fp : List Addr), PE (X.blk s H scope (compEnvC scope cl C X.env) fp) elt (tI G e)) (hs : ∀ x, foldedSetIterable iter X.env x = pure x := by intro _; rfl)
    (hy : X.N[j]? = some y := by rfl) (hyl : X.env.scope.names.lookup y = some .local := by rfl) :
    PS3 X G (.Assign [.Name y py] (.ListComp elt [⟨.Name x pos', iter, ifs, 0⟩] scope pos) spos) (wAsg (wLc it i t e) (gN j)) := by
  refine (ps_setLc (i := j) (own := [(x, i)]) hc hN hy hyl hsw hi ok hg ht he hs).weak fun D σ H ⟨ρ, h, E, rel, ev, q, post⟩ => ?_
  refine lc_lift ⟨ρ, h, _, rel, ev, q, fun d h1 v H1 q1 rel1 per1 dv1 => ?_⟩
  exact post.nx _ _ _ _ q1 rel1 per1 ((ev.per per1).set dv1 j)
end
end T3
end
-- T3Call
section
set_option maxRecDepth 100000
set_option maxHeartbeats 4000000
/-! T3Call: dicts, isinstance, chains, fields, calls of defs, the rule for a def. -/
namespace T3
open PySem PySem.Spec PyProof.Rows L2

/-! ### dicts -/
section
variable {κ : Type} [DecidableEq κ]
def valD (kvs : List (κ × D)) (k : κ) : Option D := (kvs.find? fun kv => decide (kv.1 = k)).map (·.2)
def putD (kvs : List (κ × D)) (k : κ) (v : D) : List (κ × D) :=
  if (kvs.any fun kv => decide (kv.1 = k)) = true then kvs.map (fun kv => if kv.1 = k then (kv.1, v) else kv) else kvs ++ [(k, v)]
def dropD (kvs : List (κ × D)) (k : κ) : List (κ × D) := kvs.filter fun kv => decide (kv.1 ≠ k)
theorem valD_nil {k : κ} : valD ([] : List (κ × D)) k = none := rfl
theorem valD_cons {a : κ} {v : D} {r : List (κ × D)} {k : κ} : valD ((a, v) :: r) k = if a = k then some v else valD r k := by
  unfold valD
  by_cases h : a = k
  · simp [h]
  · simp [h]
theorem valD_any (k : κ) : ∀ kvs : List (κ × D), (kvs.any fun kv => decide (kv.1 = k)) = (valD kvs k).isSome
  | [] => rfl
  | (a, v) :: r => by
    rw [valD_cons, List.any_cons, valD_any k r]
    by_cases h : a = k <;> simp [h]
theorem valD_put (k j : κ) (v : D) : ∀ kvs : List (κ × D), valD (putD kvs k v) j = if j = k then some v else valD kvs j := by
  have m : ∀ kvs : List (κ × D), valD (kvs.map fun kv => if kv.1 = k then (kv.1, v) else kv) j = if j = k then (valD kvs k).map (fun _ => v) else valD kvs j := by
    intro kvs
    induction kvs with
    | nil => simp [valD_nil]
    | cons p r ih =>
      obtain ⟨a, w⟩ := p
      rw [List.map_cons]
      by_cases h : a = k
      · subst h
        rw [if_pos rfl, valD_cons, valD_cons, valD_cons, ih]
        by_cases hj : j = a
        · subst hj; simp
        · simp [hj, Ne.symm hj]
      · rw [if_neg h, valD_cons, valD_cons, valD_cons, ih]
        by_cases hj : j = k
        · subst hj; simp [h]
        · simp [hj]
  have s : ∀ kvs : List (κ × D), valD kvs k = none → valD (kvs ++ [(k, v)]) j = if j = k then some v else valD kvs j := by
    intro kvs
    induction kvs with
    | nil =>
      intro _
      rw [List.nil_append, valD_cons, valD_nil]
      by_cases hj : j = k
      · subst hj; simp
      · simp [hj, Ne.symm hj]
    | cons p r ih =>
      obtain ⟨a, w⟩ := p
      intro h
      rw [valD_cons] at h
      by_cases ha : a = k
      · rw [if_pos ha] at h; cases h
      · rw [if_neg ha] at h
        rw [List.cons_append, valD_cons, valD_cons, ih h]
        by_cases hj : j = k
        · subst hj; simp [ha]
        · simp [hj]
  intro kvs
  unfold putD
  rw [valD_any]
  by_cases h : (valD kvs k).isSome = true
  · rw [if_pos h, m]
    obtain ⟨x, e⟩ := Option.isSome_iff_exists.mp h
    rw [e]; rfl
  · rw [if_neg h]
    exact s kvs (by simpa using h)
theorem valD_drop (k j : κ) : ∀ kvs : List (κ × D), valD (dropD kvs k) j = if j = k then none else valD kvs j
  | [] => by simp [dropD, valD_nil]
  | (a, v) :: r => by
    have ih := valD_drop k j r
    unfold dropD at ih ⊢
    rw [List.filter_cons]
    by_cases h : a = k
    · subst h
      rw [if_neg (by simp), ih, valD_cons]
      by_cases hj : j = a
      · simp [hj]
      · simp [hj, Ne.symm hj]
    · rw [if_pos (by simpa using h), valD_cons, valD_cons, ih]
      by_cases hj : j = k
      · subst hj; simp [h]
      · simp [hj]
theorem KVs.val {H : Hp} (k : κ) : ∀ {kvs : List (κ × D)} {vs : List (κ × V)}, KVs H kvs vs → (valD kvs k = none ∧ valV vs k = none) ∨ ∃ d v, valD kvs k = some d ∧ valV vs k = some v ∧ DV H d v
  | [], _, h => by cases h; exact .inl ⟨rfl, rfl⟩
  | (a, d) :: r, _, h => by
    cases h with
    | cons z t =>
      obtain ⟨e, dv⟩ := z
      rename_i p ps
      obtain ⟨b, v⟩ := p
      have e' : a = b := e
      subst e'
      rw [valD_cons]
      by_cases h : a = k
      · exact .inr ⟨d, v, by rw [if_pos h], by rw [valV_pos (p := (a, v)) h], dv⟩
      · rw [if_neg h, valV_neg (p := (a, v)) h]
        exact KVs.val k t
theorem KVs.any {H : Hp} (k : κ) {kvs : List (κ × D)} {vs : List (κ × V)} (r : KVs H kvs vs) : (kvs.any fun kv => decide (kv.1 = k)) = vs.any fun kv => decide (kv.1 = k) := by
  rw [valD_any, valV_any]
  rcases r.val k with ⟨a, b⟩ | ⟨d, v, a, b, _⟩ <;> rw [a, b] <;> rfl
theorem KVs.length {H : Hp} {kvs : List (κ × D)} {vs : List (κ × V)} (r : KVs H kvs vs) : kvs.length = vs.length := Paired.length r
theorem KVs.app {H : Hp} : ∀ {l m : List (κ × D)} {vs ws : List (κ × V)}, KVs H l vs → KVs H m ws → KVs H (l ++ m) (vs ++ ws)
  | [], _, _, _, h, s => by cases h; exact s
  | _ :: _, _, _, _, h, s => by
    cases h with
    | cons r t => exact .cons r (KVs.app t s)
theorem KVs.repl {H : Hp} (k : κ) {d : D} {v : V} (dv : DV H d v) : ∀ {kvs : List (κ × D)} {vs : List (κ × V)}, KVs H kvs vs → KVs H (kvs.map fun kv => if kv.1 = k then (kv.1, d) else kv) (vs.map fun kv => if kv.1 = k then (kv.1, v) else kv)
  | [], _, h => by cases h; exact .nil
  | (a, x) :: r, _, h => by
    cases h with
    | cons z t =>
      obtain ⟨e, dz⟩ := z
      rename_i p ps
      obtain ⟨b, y⟩ := p
      have e' : a = b := e
      subst e'
      rw [List.map_cons, List.map_cons]
      by_cases h : a = k
      · rw [if_pos h, if_pos h]; exact .cons ⟨rfl, dv⟩ (KVs.repl k dv t)
      · rw [if_neg h, if_neg h]; exact .cons ⟨rfl, dz⟩ (KVs.repl k dv t)
theorem KVs.put {H : Hp} (k : κ) {d : D} {v : V} (dv : DV H d v) {kvs : List (κ × D)} {vs : List (κ × V)} (r : KVs H kvs vs) : KVs H (putD kvs k d) (putK vs k v) := by
  unfold putD putK
  rw [r.any k]
  split
  · exact r.repl k dv
  · exact r.app (.cons ⟨rfl, dv⟩ .nil)
theorem KVs.drop {H : Hp} (k : κ) : ∀ {kvs : List (κ × D)} {vs : List (κ × V)}, KVs H kvs vs → KVs H (dropD kvs k) (dropK vs k)
  | [], _, h => by cases h; exact .nil
  | (a, x) :: r, _, h => by
    cases h with
    | cons z t =>
      obtain ⟨e, dz⟩ := z
      rename_i p ps
      obtain ⟨b, y⟩ := p
      have e' : a = b := e
      subst e'
      have ih := KVs.drop k t
      unfold dropD dropK at ih ⊢
      rw [List.filter_cons, List.filter_cons]
      by_cases h : a = k
      · rw [if_neg (by simp [h]), if_neg (by simp [h])]; exact ih
      · rw [if_pos (by simpa using h), if_pos (by simpa using h)]; exact .cons ⟨rfl, dz⟩ ih
end
def kD : Key → D
  | .inl i => .int i
  | .inr x => .str x
def keyOf : D → Option Key
  | .int i => some (.inl i)
  | .str x => some (.inr x)
  | _ => none
@[simp] theorem keyOf_int {i : Int} : keyOf (.int i) = some (.inl i) := rfl
@[simp] theorem keyOf_str {i : Str} : keyOf (.str i) = some (.inr i) := rfl
def keysL : List D → Option (List Key)
  | [] => some []
  | d :: l => match keyOf d, keysL l with
    | some k, some ks => some (k :: ks)
    | _, _ => none
def keysOf : D → Option (List Key)
  | .tup l => keysL l
  | _ => none
theorem key_v {H : Hp} {d : D} {v : V} {k : Key} (r : DV H d v) (e : keyOf d = some k) : v = kV k := by
  cases r <;> first | (cases e; done) | (cases e; rfl)
theorem keys_v {H : Hp} : ∀ {l : List D} {vs : List V} {ks : List Key}, DVs H l vs → keysL l = some ks → vs = ks.map kV
  | [], _, _, h, e => by cases h; cases e; rfl
  | d :: l, _, ks, h, e => by
    cases h with
    | cons r t =>
      unfold keysL at e
      cases q1 : keyOf d with
      | none => rw [q1] at e; cases e
      | some k =>
        rw [q1] at e
        cases q2 : keysL l with
        | none => rw [q2] at e; cases e
        | some ks' =>
          rw [q2] at e
          cases e
          rw [key_v r q1, keys_v t q2]; rfl
/-- what the dict at a holds at y -/
def DG (h : H3) (a : Addr) (y : D) (o : Option D) : Prop :=
  (∃ kvs k, h a = some (.dK kvs) ∧ keyOf y = some k ∧ o = valD kvs k) ∨ ∃ kvs k, h a = some (.dT kvs) ∧ keysOf y = some k ∧ o = valD kvs k
/-- .. behind a store -/
def DPt (h : H3) (a : Addr) (y v : D) (h' : H3) : Prop :=
  (∃ kvs k, h a = some (.dK kvs) ∧ keyOf y = some k ∧ kvs.length < 16777216 ∧ h' = up h a (.dK (putD kvs k v))) ∨
  ∃ kvs k, h a = some (.dT kvs) ∧ keysOf y = some k ∧ kvs.length < 16777216 ∧ h' = up h a (.dT (putD kvs k v))
theorem Rel.dK {G : Sc} {h : H3} {H : Hp} {a : Addr} {kvs : List (Key × D)} (r : Rel G h H) (e : h a = some (.dK kvs)) : ∃ vs, H a = some (.dK vs) ∧ KVs H kvs vs := r.at_ _ _ e
theorem Rel.dT {G : Sc} {h : H3} {H : Hp} {a : Addr} {kvs : List (List Key × D)} (r : Rel G h H) (e : h a = some (.dT kvs)) : ∃ vs, H a = some (.dT vs) ∧ KVs H kvs vs := r.at_ _ _ e
theorem keysOf_v {H : Hp} {y : D} {v : V} {k : List Key} (r : DV H y v) (e : keysOf y = some k) : ∃ b, v = .ref b ∧ H b = some (.tup (k.map kV)) := by
  cases r with
  | tup q t => exact ⟨_, rfl, by rw [q, keys_v t e]⟩
  | _ => cases e
theorem DG.to {G : Sc} {h : H3} {H : Hp} {a : Addr} {y : D} {v : V} {o : Option D} (rel : Rel G h H) (r : DV H y v) (g : DG h a y o) :
    ∃ o', DGet H a v o' ∧ ((o = none ∧ o' = none) ∨ ∃ d w, o = some d ∧ o' = some w ∧ DV H d w) := by
  rcases g with ⟨kvs, k, ha, ek, rfl⟩ | ⟨kvs, k, ha, ek, rfl⟩
  · obtain ⟨vs, e, kv⟩ := rel.dK ha
    exact ⟨valV vs k, .inl ⟨vs, k, .inl e, key_v r ek, rfl⟩, kv.val k⟩
  · obtain ⟨vs, e, kv⟩ := rel.dT ha
    obtain ⟨b, rfl, hb⟩ := keysOf_v r ek
    exact ⟨valV vs k, .inr ⟨vs, k, b, .inl e, rfl, hb, rfl⟩, kv.val k⟩
theorem DPt.to {G : Sc} {h h' : H3} {H : Hp} {a : Addr} {y d : D} {v w : V} (rel : Rel G h H) (ry : DV H y v) (rd : DV H d w) (g : DPt h a y d h') :
    ∃ H', DPut H a v w H' ∧ Rel G h' H' ∧ Per H H' := by
  rcases g with ⟨kvs, k, ha, ek, hz, rfl⟩ | ⟨kvs, k, ha, ek, hz, rfl⟩
  · obtain ⟨vs, e, kv⟩ := rel.dK ha
    refine ⟨_, .inl ⟨vs, k, e, key_v ry ek, by rw [← kv.length]; exact hz, rfl⟩, rel.write ha ⟨_, upd_same, ?_⟩, Per.mut (rel.mut ha)⟩
    exact (kv.put k rd).per (Per.mut (rel.mut ha))
  · obtain ⟨vs, e, kv⟩ := rel.dT ha
    obtain ⟨b, rfl, hb⟩ := keysOf_v ry ek
    refine ⟨_, .inr ⟨vs, k, b, e, rfl, hb, by rw [← kv.length]; exact hz, rfl⟩, rel.write ha ⟨_, upd_same, ?_⟩, Per.mut (rel.mut ha)⟩
    exact (kv.put k rd).per (Per.mut (rel.mut ha))
def rDGet : D → D → H3 → K1 → Prop := fun x y h k => ∃ a v, x = .ref a ∧ DG h a y (some v) ∧ k v h
def rDIn (neg : Bool) : D → D → H3 → K1 → Prop := fun y x h k => ∃ a o, x = .ref a ∧ DG h a y o ∧ k (.bl (o.isSome != neg)) h
section
variable {X : Cx} {G : Sc} {a b c e : Expr} {f g t3 : WE} {pos apos cpos : Pos}
theorem i_dget (hu : X.A.units + 1 < cLine) (ho : PE3 X G a f) (hi : PE3 X G b g) (hs : NoSl b := by exact fun _ _ => rfl) : PE3 X G (.Subscript a b pos) (w2 rDGet f g) := by
  refine (pe_dget hu ho hi hs).weak fun σ H Q q => lift2 (R := fun x y H2 Q => ∃ a v, x = .ref a ∧ DGet H2 a y (some v) ∧ Q v H2) (fun d e x y h H k Q rel dx dy ⟨a, v, ed, g, q⟩ post => ?_) q
  subst ed
  cases dx
  obtain ⟨o', g', r⟩ := g.to rel dy
  rcases r with ⟨z, _⟩ | ⟨d, w, e1, rfl, dv⟩
  · cases z
  · cases e1
    exact ⟨a, w, rfl, g', post _ _ _ _ q rel (Per.refl H) dv⟩
theorem i_din (hu : X.A.units + 1 < cLine) (hi : PE3 X G a f) (ho : PE3 X G b g) (h1 : behindInMarks .In b = false := by rfl) : PE3 X G (.Compare a [.In] [b] pos) (w2 (rDIn false) f g) := by
  refine (pe_cmp (pc_din hu hi ho) h1).weak fun σ H Q q => lift2 (f := f) (g := g) (R := fun y x H2 Q => ∃ a o, x = .ref a ∧ DGet H2 a y o ∧ Q (.bl o.isSome) H2) (fun d e x y h H k Q rel dx dy ⟨a, o, ed, g, q⟩ post => ?_) q
  subst ed
  cases dy
  obtain ⟨o', g', r⟩ := g.to rel dx
  refine ⟨a, o', rfl, g', post_bl post rel ?_⟩
  rcases r with ⟨rfl, rfl⟩ | ⟨d, w, rfl, rfl, dv⟩ <;> simpa using q
theorem i_dnotin (hu : X.A.units + 1 < cLine) (hi : PE3 X G a f) (ho : PE3 X G b g) (h1 : behindInMarks .NotIn b = false := by rfl) : PE3 X G (.Compare a [.NotIn] [b] pos) (w2 (rDIn true) f g) := by
  refine (pe_cmp (pc_dnotin hu hi ho) h1).weak fun σ H Q q => lift2 (f := f) (g := g) (R := fun y x H2 Q => ∃ a o, x = .ref a ∧ DGet H2 a y o ∧ Q (.bl (!o.isSome)) H2) (fun d e x y h H k Q rel dx dy ⟨a, o, ed, g, q⟩ post => ?_) q
  subst ed
  cases dy
  obtain ⟨o', g', r⟩ := g.to rel dx
  refine ⟨a, o', rfl, g', post_bl post rel ?_⟩
  rcases r with ⟨rfl, rfl⟩ | ⟨d, w, rfl, rfl, dv⟩ <;> simpa using q
def wDPut (v o i : WE) : WS := fun E ρ h => v ρ h fun d h1 => o ρ h1 fun x h2 => i ρ h2 fun y h3 => ∃ a h4, x = .ref a ∧ DPt h3 a y d h4 ∧ E.nx ρ h4
theorem is_dput {pos' : Pos} (hu : X.A.units + 1 < cLine) (hv : PE3 X G c t3) (ho : PE3 X G a f) (hi : PE3 X G b g) (hs : swapsWith c (some (.Subscript a b pos')) pos.line X.env = pure false := by rfl) : PS3 X G (.Assign [.Subscript a b pos'] c pos) (wDPut t3 f g) := by
  refine (ps_dput hu ho hi hv hs).weak fun D σ H ⟨ρ, h, E, rel, ev, q, post⟩ => ?_
  refine ⟨ρ, h, _, rel, ev, q, fun d h1 v H1 q1 rel1 per1 dv1 => ⟨ρ, h1, _, rel1, ev.per per1, q1, fun x h2 xv H2 q2 rel2 per2 dv2 => ⟨ρ, h2, _, rel2, ev.per (per1.trans per2), q2, fun y h3 yv H3 q3 rel3 per3 dv3 => ?_⟩⟩⟩
  obtain ⟨a, h4, rfl, g, q3⟩ := q3
  cases dv2
  obtain ⟨H4, p, rel4, per4⟩ := g.to rel3 dv3 (dv1.per (per2.trans per3))
  have pp := per1.trans (per2.trans (per3.trans per4))
  exact ⟨a, H4, rfl, p, post.nx _ _ _ _ q3 rel4 pp (ev.per pp)⟩
/-- {} -/
def wDNewK : WE := fun _ h k => ∀ p, h p = none → k (.ref p) (up h p (.dK []))
def wDNewT : WE := fun _ h k => ∀ p, h p = none → k (.ref p) (up h p (.dT []))
theorem i_dnewK : PE3 X G (.Dict [] [] pos) wDNewK := pe_dnewK.weak fun σ H Q ⟨ρ, h, k, rel, ev, q, post⟩ p np =>
  post _ _ _ _ (q p (rel.none np)) (rel.new np ⟨[], upd_same, .nil⟩) (Per.new np) (.ref p)
theorem i_dnewT : PE3 X G (.Dict [] [] pos) wDNewT := pe_dnewT.weak fun σ H Q ⟨ρ, h, k, rel, ev, q, post⟩ p np =>
  post _ _ _ _ (q p (rel.none np)) (rel.new np ⟨[], upd_same, .nil⟩) (Per.new np) (.ref p)
/-- d.get(y), d.get(y, z): the dict, the arguments -/
def IsD3 (h : H3) (a : Addr) : Prop := (∃ kvs, h a = some (.dK kvs)) ∨ ∃ kvs, h a = some (.dT kvs)
theorem IsD3.to {h : H3} {H : Hp} {a : Addr} (d : IsD3 h a) (rel : Rel G h H) : IsD H a := by
  rcases d with ⟨kvs, e⟩ | ⟨kvs, e⟩
  · obtain ⟨vs, e, _⟩ := rel.dK e; exact .inl ⟨vs, .inl e⟩
  · obtain ⟨vs, e, _⟩ := rel.dT e; exact .inr ⟨vs, .inl e⟩
def wDGet1 (o i : WE) : WE := fun ρ h k => o ρ h fun x h1 => ∃ a, x = .ref a ∧ IsD3 h1 a ∧ i ρ h1 fun y h2 => ∃ o, DG h2 a y o ∧ k (o.getD .non) h2
def wDGet2 (o i z : WE) : WE := fun ρ h k => o ρ h fun x h1 => ∃ a, x = .ref a ∧ IsD3 h1 a ∧ i ρ h1 fun y h2 => z ρ h2 fun d h3 => ∃ o, DG h3 a y o ∧ k (o.getD d) h3
def wDPop (o i : WE) : WE := fun ρ h k => o ρ h fun x h1 => ∃ a, x = .ref a ∧ IsD3 h1 a ∧ i ρ h1 fun y h2 => ∃ kvs q v, h2 a = some (.dK kvs) ∧ keyOf y = some q ∧ valD kvs q = some v ∧ k v (up h2 a (.dK (dropD kvs q)))
def wDSetd (o i z : WE) : WE := fun ρ h k => o ρ h fun x h1 => ∃ a, x = .ref a ∧ IsD3 h1 a ∧ i ρ h1 fun y h2 => z ρ h2 fun d h3 => ∃ kvs q, h3 a = some (.dK kvs) ∧ keyOf y = some q ∧ kvs.length < 16777216 ∧
  (∀ v, valD kvs q = some v → k v h3) ∧ (valD kvs q = none → k d (up h3 a (.dK (putD kvs q d))))
theorem i_dget1 (hu : X.A.units + 1 < cLine) (ho : PE3 X G a f) (hi : PE3 X G b g) (m : M1 X a "get" apos b cpos := by exact ⟨rfl, rfl, rfl, rfl⟩) : PE3 X G (.Call (.Attribute a "get" apos) [b] [] cpos) (wDGet1 f g) := by
  refine (pe_dget1 hu ho hi m).weak fun σ H Q ⟨ρ, h, k, rel, ev, q, post⟩ => ?_
  refine ⟨ρ, h, _, rel, ev, q, fun x h1 v H1 q1 rel1 per1 dv1 => ?_⟩
  obtain ⟨a, rfl, isd, q1⟩ := q1
  cases dv1
  refine ⟨a, rfl, isd.to rel1, ρ, h1, _, rel1, ev.per per1, q1, fun y h2 yv H2 q2 rel2 per2 dv2 => ?_⟩
  obtain ⟨o, g, q2⟩ := q2
  obtain ⟨o', g', r⟩ := g.to rel2 dv2
  refine ⟨o', g', post _ _ _ _ q2 rel2 (per1.trans per2) ?_⟩
  rcases r with ⟨rfl, rfl⟩ | ⟨d, w, rfl, rfl, dv⟩
  · exact .non
  · exact dv
theorem i_dget2 (hu : X.A.units + 1 < cLine) (ho : PE3 X G a f) (hi : PE3 X G b g) (hz : PE3 X G c t3) (m : M2 X a "get" apos b c cpos := by exact ⟨rfl, rfl, rfl, rfl⟩) : PE3 X G (.Call (.Attribute a "get" apos) [b, c] [] cpos) (wDGet2 f g t3) := by
  refine (pe_dget2 hu ho hi hz m).weak fun σ H Q ⟨ρ, h, k, rel, ev, q, post⟩ => ?_
  refine ⟨ρ, h, _, rel, ev, q, fun x h1 v H1 q1 rel1 per1 dv1 => ?_⟩
  obtain ⟨a, rfl, isd, q1⟩ := q1
  cases dv1
  refine ⟨a, rfl, isd.to rel1, ρ, h1, _, rel1, ev.per per1, q1, fun y h2 yv H2 q2 rel2 per2 dv2 => ⟨ρ, h2, _, rel2, ev.per (per1.trans per2), q2, fun z h3 zv H3 q3 rel3 per3 dv3 => ?_⟩⟩
  obtain ⟨o, g, q3⟩ := q3
  obtain ⟨o', g', r⟩ := g.to rel3 (dv2.per per3)
  refine ⟨o', g', post _ _ _ _ q3 rel3 (per1.trans (per2.trans per3)) ?_⟩
  rcases r with ⟨rfl, rfl⟩ | ⟨d, w, rfl, rfl, dv⟩
  · exact dv3
  · exact dv
theorem i_dpop (ho : PE3 X G a f) (hi : PE3 X G b g) (m : M1 X a "pop" apos b cpos := by exact ⟨rfl, rfl, rfl, rfl⟩) : PE3 X G (.Call (.Attribute a "pop" apos) [b] [] cpos) (wDPop f g) := by
  refine (pe_dpop1 ho hi m).weak fun σ H Q ⟨ρ, h, k, rel, ev, q, post⟩ => ?_
  refine ⟨ρ, h, _, rel, ev, q, fun x h1 v H1 q1 rel1 per1 dv1 => ?_⟩
  obtain ⟨a, rfl, isd, q1⟩ := q1
  cases dv1
  refine ⟨a, rfl, isd.to rel1, ρ, h1, _, rel1, ev.per per1, q1, fun y h2 yv H2 q2 rel2 per2 dv2 => ?_⟩
  obtain ⟨kvs, q, v, ha, ek, ev', q2⟩ := q2
  obtain ⟨vs, e, kv⟩ := rel2.dK ha
  rcases kv.val q with ⟨z, _⟩ | ⟨d, w, e1, e2, dv⟩
  · rw [ev'] at z; cases z
  · rw [ev'] at e1; cases e1
    have pm := Per.mut (o := .dK (dropK vs q)) (rel2.mut ha)
    exact ⟨vs, q, w, e, key_v dv2 ek, e2, post _ _ _ _ q2 (rel2.write ha ⟨_, upd_same, (kv.drop q).per pm⟩) ((per1.trans per2).trans pm) (dv.per pm)⟩
theorem i_dsetd (ho : PE3 X G a f) (hi : PE3 X G b g) (hz : PE3 X G c t3) (m : M2 X a "setdefault" apos b c cpos := by exact ⟨rfl, rfl, rfl, rfl⟩) : PE3 X G (.Call (.Attribute a "setdefault" apos) [b, c] [] cpos) (wDSetd f g t3) := by
  refine (pe_dsetd ho hi hz m).weak fun σ H Q ⟨ρ, h, k, rel, ev, q, post⟩ => ?_
  refine ⟨ρ, h, _, rel, ev, q, fun x h1 v H1 q1 rel1 per1 dv1 => ?_⟩
  obtain ⟨a, rfl, isd, q1⟩ := q1
  cases dv1
  refine ⟨a, rfl, isd.to rel1, ρ, h1, _, rel1, ev.per per1, q1, fun y h2 yv H2 q2 rel2 per2 dv2 => ⟨ρ, h2, _, rel2, ev.per (per1.trans per2), q2, fun z h3 zv H3 q3 rel3 per3 dv3 => ?_⟩⟩
  obtain ⟨kvs, q, ha, ek, hl, q3, q4⟩ := q3
  obtain ⟨vs, e, kv⟩ := rel3.dK ha
  refine ⟨vs, q, e, key_v (dv2.per per3) ek, by rw [← kv.length]; exact hl, fun w hw => ?_, fun hn => ?_⟩
  · rcases kv.val q with ⟨_, z⟩ | ⟨d, w', e1, e2, dv⟩
    · rw [hw] at z; cases z
    · rw [hw] at e2; cases e2
      exact post _ _ _ _ (q3 d e1) rel3 (per1.trans (per2.trans per3)) dv
  · rcases kv.val q with ⟨z, _⟩ | ⟨d, w', e1, e2, dv⟩
    · have pm := Per.mut (o := .dK (putK vs q zv)) (rel3.mut ha)
      exact post _ _ _ _ (q4 z) (rel3.write ha ⟨_, upd_same, (kv.put q dv3).per pm⟩) ((per1.trans (per2.trans per3)).trans pm) (dv3.per pm)
    · rw [hn] at e2; cases e2

/-! ### isinstance of one written class -/
inductive Ty where
  | int | bool | str | tuple | list
def Ty.name : Ty → String
  | .int => "int" | .bool => "bool" | .str => "str" | .tuple => "tuple" | .list => "list"
def D.isTy : D → Ty → Bool
  | .int _, .int => true
  | .bl _, .int => true
  | .bl _, .bool => true
  | .str _, .str => true
  | .tup _, .tuple => true
  | _, _ => false
def rIsi (T : Ty) : D → H3 → K1 → Prop := fun x h k => match x with
  | .ref a => ((∃ l, h a = some (.lst l)) ∧ k (.bl (match T with | .list => true | _ => false)) h) ∨ (IsD3 h a ∧ k (.bl false) h)
  | x => k (.bl (x.isTy T)) h
theorem isi_kit {K : PySem.W.Frag} {H : Hp} {d : D} {v : V} (T : Ty) (r : DV H d v) (h : ∀ a, d ≠ .ref a) : ∃ t, TyX K H v t ∧ PySem.W.kitOne K t (.type T.name) = some (d.isTy T) := by
  cases r with
  | non => cases T <;> exact ⟨_, .base .non, kit_ty (by first | (show kitB _ _ = some true; decide +kernel) | (show kitB _ _ = some false; decide +kernel))⟩
  | bl b => cases T <;> exact ⟨_, .base (.bl b), kit_ty (by first | (show kitB _ _ = some true; decide +kernel) | (show kitB _ _ = some false; decide +kernel))⟩
  | int b => cases T <;> exact ⟨_, .base (.int b), kit_ty (by first | (show kitB _ _ = some true; decide +kernel) | (show kitB _ _ = some false; decide +kernel))⟩
  | str b => cases T <;> exact ⟨_, .base (.str b), kit_ty (by first | (show kitB _ _ = some true; decide +kernel) | (show kitB _ _ = some false; decide +kernel))⟩
  | tup e _ => cases T <;> exact ⟨_, .base (.tup e), kit_ty (by first | (show kitB _ _ = some true; decide +kernel) | (show kitB _ _ = some false; decide +kernel))⟩
  | ref a => exact absurd rfl (h a)
theorem i_isi (T : Ty) {x y : Str} {p p2 : Pos} (hg : Gl X x) (hm : X.mg x = none) (hv : bootBuiltins x = some (.builtin "isinstance")) (hgy : Gl X y) (hmy : X.mg y = none) (hvy : bootBuiltins y = some (.type T.name)) (ha : PE3 X G a f)
    (hn : x ≠ "__name__" := by decide) (hdb : (x == ("__debug__" : Str)) = false := by decide) (hny : y ≠ "__name__" := by decide) (hdy : (y == ("__debug__" : Str)) = false := by decide)
    (hs1 : starEach [a, .Name y p2] X.env = (false, eval a X.env) :: starEach [.Name y p2] X.env := by rfl) (hs2 : starEach [.Name y p2] X.env = (false, eval (.Name y p2) X.env) :: starEach [] X.env := by rfl)
    (hpl : (backTo pos (starEach [.Name y p2] X.env)).any (·.1) = false := by rfl) : PE3 X G (.Call (.Name x p) [a, .Name y p2] [] pos) (w1 (rIsi T) f) := by
  have hy : PE X (.Name y p2) (tC (.ty T.name)) := pe_bltn hgy hmy hvy rfl hny hdy
  refine (pe_callB call_isi hg hm hv (pa_cons ha (pa_cons hy pa_nil hs2) hs1) hn hdb hs1 hpl).weak fun σ H Q q => ?_
  refine lift1 (f := f) (R := fun v H1 Q => L2.rIsi X.K [v, .ty T.name] H1 Q) (fun d x h H k Q rel dx q post => ?_) q
  unfold rIsi at q
  split at q
  · cases dx
    rcases q with ⟨⟨l, hl⟩, q⟩ | ⟨d, q⟩
    · obtain ⟨vs, e, _⟩ := rel.lst hl
      refine ⟨_, _, _, .type T.name, _, rfl, .ty _, .base (.lst e), ?_, post_bl post rel q⟩
      cases T <;> exact kit_ty (by decide +kernel)
    · rcases d with ⟨kvs, e⟩ | ⟨kvs, e⟩
      · obtain ⟨vs, e, _⟩ := rel.dK e
        refine ⟨_, _, _, .type T.name, _, rfl, .ty _, .base (.dK e), ?_, post_bl post rel q⟩
        cases T <;> exact kit_ty (by decide +kernel)
      · obtain ⟨vs, e, _⟩ := rel.dT e
        refine ⟨_, _, _, .type T.name, _, rfl, .ty _, .base (.dT e), ?_, post_bl post rel q⟩
        cases T <;> exact kit_ty (by decide +kernel)
  · rename_i hno
    obtain ⟨t, ty, e⟩ := isi_kit (K := X.K) T dx (fun a z => hno a z)
    exact ⟨_, _, t, .type T.name, _, rfl, .ty _, ty, e, post_bl post rel q⟩
end
end T3
end
-- T3Def
section
set_option maxRecDepth 100000
set_option maxHeartbeats 4000000
/-! T3Def: chains, fields, augmented stores, calls of defs and methods, the rule for a def. -/
namespace T3
open PySem PySem.Spec PyProof.Rows L2

/-! ### a op b op c -/
def wChain (r r' : D → D → H3 → K1 → Prop) (a b c : WE) : WE := fun ρ h k => a ρ h fun x h1 => b ρ h1 fun y h2 => r x y h2 fun z h3 => ∃ q, z = .bl q ∧
  (if q = true then c ρ h3 fun w h4 => r' y w h4 k else k (.bl false) h3)
section
variable {X : Cx} {G : Sc} {a b c e o value : Expr} {es : List Expr} {f g t3 : WE} {l : WA} {pos pos' tpos apos cpos : Pos}
theorem chain_lift {op op' : CmpOp} {r r' : D → D → H3 → K1 → Prop} (rf : Rf2 G (U2 X (compareOp op)) r) (rf' : Rf2 G (U2 X (compareOp op')) r') {σ : L2.St} {H : Hp} {Q : VK} (q : tI G (wChain r r' f g t3) σ H Q) :
    tChain (U2 X (compareOp op)) (U2 X (compareOp op')) (tI G f) (tI G g) (tI G t3) σ H Q := by
  obtain ⟨ρ, h, k, rel, ev, q, post⟩ := q
  refine ⟨ρ, h, _, rel, ev, q, fun x h1 xv H1 q1 rel1 per1 dv1 => ⟨ρ, h1, _, rel1, ev.per per1, q1, fun y h2 yv H2 q2 rel2 per2 dv2 => ?_⟩⟩
  refine rf x y xv yv h2 H2 _ _ rel2 (dv1.per per2) dv2 q2 fun z h3 zv H3 q3 rel3 per3 dv3 => ?_
  obtain ⟨qq, rfl, q3⟩ := q3
  cases dv3
  refine ⟨qq, rfl, ?_⟩
  cases qq with
  | true =>
    rw [if_pos rfl] at q3 ⊢
    refine ⟨ρ, h3, _, rel3, ev.per (per1.trans (per2.trans per3)), q3, fun w h4 wv H4 q4 rel4 per4 dv4 => ?_⟩
    exact rf' y w yv wv h4 H4 _ _ rel4 (dv2.per (per3.trans per4)) dv4 q4 (post.per (per1.trans (per2.trans (per3.trans per4))))
  | false =>
    rw [if_neg Bool.false_ne_true] at q3 ⊢
    exact post _ _ _ _ q3 rel3 (per1.trans (per2.trans per3)) (.bl false)
theorem i_chain {op op' : CmpOp} {r r' : D → D → H3 → K1 → Prop} (rf : Rf2 G (U2 X (compareOp op)) r) (rf' : Rf2 G (U2 X (compareOp op')) r') (ha : PE3 X G a f) (hb : PE3 X G b g) (hc : PE3 X G c t3)
    (hm : lastMarks [op, op'] [b, c] = false := by with_unfolding_all rfl) : PE3 X G (.Compare a [op, op'] [b, c] pos) (wChain r r' f g t3) :=
  (pe_chain U2.ok U2.ok ha hb hc hm).weak fun σ H Q q => chain_lift rf rf' q
theorem it_chain {op op' : CmpOp} {r r' : D → D → H3 → K1 → Prop} (rf : Rf2 G (U2 X (compareOp op)) r) (rf' : Rf2 G (U2 X (compareOp op')) r') (ha : PE3 X G a f) (hb : PE3 X G b g) (hc : PE3 X G c t3)
    (hm : lastMarks [op, op'] [b, c] = false := by with_unfolding_all rfl) : PT3 X G (.Compare a [op, op'] [b, c] pos) (wB (wChain r r' f g t3)) :=
  (pt_chain U2.ok U2.ok ha hb hc hm).weak fun σ H Q q => chain_lift (Q := fun x H' => ∃ k, x = .bl k ∧ Q k H') rf rf' (tTest_of q)

/-! ### fields -/
structure Cl3 (K : PySem.W.Frag) (C : Addr) (N : List Str) : Prop where
  cl : Cls K C
  no : ∀ f ∈ N, NoAttr K C f
  nd : N.Nodup
  few : N.length < 1000
def putAtD (vs : List D) (j : Nat) (d : D) : List D := if j < vs.length then vs.set j d else vs ++ [d]
theorem lookup_at {N : List Str} : ∀ {fs : List (Str × V)} {j : Nat} {f : Str}, fs.map (·.1) = N → N.Nodup → N[j]? = some f → ∃ v, fs.lookup f = some v ∧ (fs.map (·.2))[j]? = some v := by
  induction N with
  | nil => intro fs j f _ _ e; simp at e
  | cons n r ih =>
    intro fs j f h nd e
    cases fs with
    | nil => simp at h
    | cons p q =>
      obtain ⟨a, w⟩ := p
      simp only [List.map_cons, List.cons.injEq] at h
      obtain ⟨h1, h2⟩ := h
      have h1 : a = n := h1
      subst h1
      rw [List.nodup_cons] at nd
      cases j with
      | zero =>
        simp at e
        subst e
        exact ⟨w, by simp [List.lookup], rfl⟩
      | succ j =>
        have e' : r[j]? = some f := by simpa using e
        obtain ⟨v, l1, l2⟩ := ih h2 nd.2 e'
        have hne : ¬ f = a := fun z => by
          subst z
          exact nd.1 (List.mem_of_getElem? e')
        refine ⟨v, ?_, by simpa using l2⟩
        rw [List.lookup_cons, beq_eq_false_iff_ne.mpr hne]
        exact l1
theorem putF_at {N : List Str} : ∀ {fs : List (Str × V)} {j : Nat} {f : Str} {v : V}, fs.map (·.1) = N → N.Nodup → N[j]? = some f → (putF f v fs).map (·.1) = N ∧ (putF f v fs).map (·.2) = (fs.map (·.2)).set j v := by
  induction N with
  | nil => intro fs j f _ _ _ e; simp at e
  | cons n r ih =>
    intro fs j f v h nd e
    cases fs with
    | nil => simp at h
    | cons p q =>
      obtain ⟨a, w⟩ := p
      simp only [List.map_cons, List.cons.injEq] at h
      obtain ⟨h1, h2⟩ := h
      have h1 : a = n := h1
      subst h1
      rw [List.nodup_cons] at nd
      cases j with
      | zero =>
        simp at e
        subst e
        have e0 : putF a v ((a, w) :: q) = (a, v) :: q := by unfold putF; rw [if_pos rfl]
        rw [e0]
        exact ⟨by simp [h2], rfl⟩
      | succ j =>
        have e' : r[j]? = some f := by simpa using e
        have hne : ¬ a = f := fun z => by
          subst z
          exact nd.1 (List.mem_of_getElem? e')
        obtain ⟨l1, l2⟩ := ih (v := v) h2 nd.2 e'
        unfold putF
        rw [if_neg hne]
        exact ⟨by simp [l1], by simp [l2]⟩
theorem putF_new {f : Str} {v : V} : ∀ {fs : List (Str × V)}, f ∉ fs.map (·.1) → putF f v fs = fs ++ [(f, v)]
  | [], _ => rfl
  | (a, w) :: r, h => by
    simp only [List.map_cons, List.mem_cons, not_or] at h
    unfold putF
    rw [if_neg (Ne.symm h.1), putF_new h.2]; rfl
def wFld (C : Addr) (N : List Str) (j : Nat) (o : WE) : WE := fun ρ h k => o ρ h fun x h1 => ∃ a vs d, x = .ref a ∧ h1 a = some (.ins C N vs) ∧ vs[j]? = some d ∧ k d h1
def wSetF (C : Addr) (N : List Str) (j : Nat) (o e : WE) : WS := fun E ρ h => e ρ h fun d h1 => o ρ h1 fun x h2 => ∃ a vs, x = .ref a ∧ h2 a = some (.ins C N vs) ∧ j ≤ vs.length ∧ E.nx ρ (up h2 a (.ins C N (putAtD vs j d)))
def wAugF (C : Addr) (N : List Str) (j : Nat) (r : D → D → H3 → K1 → Prop) (o e : WE) : WS := fun E ρ h => o ρ h fun x h1 => ∃ a vs v, x = .ref a ∧ h1 a = some (.ins C N vs) ∧ vs[j]? = some v ∧
  e ρ h1 fun y h2 => r v y h2 fun z h3 => ∃ vs', h3 a = some (.ins C N vs') ∧ j < vs'.length ∧ E.nx ρ (up h3 a (.ins C N (vs'.set j z)))
theorem Rel.ins {h : H3} {H : Hp} {a C : Addr} {N : List Str} {vs : List D} (r : Rel G h H) (e : h a = some (.ins C N vs)) : ∃ dx fs, H a = some (.ins C dx fs) ∧ fs.map (·.1) = N.take vs.length ∧ vs.length ≤ N.length ∧ DVs H vs (fs.map (·.2)) := r.at_ _ _ e
theorem take_get {N : List Str} {j n : Nat} {f : Str} (h : N[j]? = some f) (hj : j < n) : (N.take n)[j]? = some f := by rw [List.getElem?_take, if_pos hj]; exact h
theorem nd_take {N : List Str} {n : Nat} (h : N.Nodup) : (N.take n).Nodup := (List.take_sublist n N).nodup h
theorem i_fld (C : Addr) (N : List Str) (j : Nat) {nm : Str} (T : Cl3 X.K C N) (ha : PE3 X G e f) (hj : N[j]? = some nm := by rfl) (hb : attributeBase e nm X.env (eval e X.env) = eval e X.env := by rfl) : PE3 X G (.Attribute e nm pos) (wFld C N j f) := by
  refine (pe_fld ha hb).weak fun σ H Q ⟨ρ, h, k, rel, ev, q, post⟩ => ?_
  refine ⟨ρ, h, _, rel, ev, q, fun x h1 v H1 q1 rel1 per1 dv1 => ?_⟩
  obtain ⟨a, vs, d, rfl, ha, hd, q1⟩ := q1
  cases dv1
  obtain ⟨dx, fs, e1, e2, e3, r⟩ := rel1.ins ha
  have hl : j < vs.length := (List.getElem?_eq_some_iff.mp hd).1
  obtain ⟨v, l1, l2⟩ := lookup_at e2 (nd_take T.nd) (take_get hj hl)
  obtain ⟨v', l3, dv⟩ := r.get hd
  rw [l2] at l3
  cases l3
  exact ⟨a, C, dx, fs, v, rfl, e1, T.cl, T.no _ (List.mem_of_getElem? hj), l1, post _ _ _ _ q1 rel1 per1 dv⟩
theorem ins_put {C : Addr} {N : List Str} {vs : List D} {j : Nat} {nm : Str} {h : H3} {H : Hp} {a dx : Addr} {fs : List (Str × V)} {d : D} {v : V} (T : Cl3 X.K C N) (rel : Rel G h H) (ha : h a = some (.ins C N vs)) (hj : N[j]? = some nm) (hl : j ≤ vs.length)
    (e1 : H a = some (.ins C dx fs)) (e2 : fs.map (·.1) = N.take vs.length) (e3 : vs.length ≤ N.length) (r : DVs H vs (fs.map (·.2))) (dv : DV H d v) :
    Rel G (up h a (.ins C N (putAtD vs j d))) (upd H a (.ins C dx (putF nm v fs))) := by
  have pm := Per.mut (o := .ins C dx (putF nm v fs)) (rel.mut ha)
  have hjN : j < N.length := (List.getElem?_eq_some_iff.mp hj).1
  refine rel.write ha ⟨dx, putF nm v fs, upd_same, ?_⟩
  unfold putAtD
  by_cases h1 : j < vs.length
  · rw [if_pos h1]
    obtain ⟨p1, p2⟩ := putF_at (v := v) e2 (nd_take T.nd) (take_get hj h1)
    rw [List.length_set, p1, p2]
    exact ⟨rfl, e3, (DVs.set dv j r).per pm⟩
  · rw [if_neg h1]
    have ej : j = vs.length := by omega
    subst ej
    have hn : nm ∉ fs.map (·.1) := fun z => by
      rw [e2] at z
      obtain ⟨i, hi⟩ := List.getElem?_of_mem z
      have hi' : i < vs.length := by
        have q := (List.getElem?_eq_some_iff.mp hi).1
        rw [List.length_take] at q
        omega
      rw [List.getElem?_take, if_pos hi'] at hi
      have := L2.nodup_ix T.nd hi hj
      omega
    have r2 := (r.append (.cons dv .nil)).per pm
    refine ⟨?_, by simp; omega, ?_⟩
    · rw [putF_new hn, List.map_append, List.length_append, e2]
      show _ ++ [nm] = N.take (vs.length + 1)
      rw [List.take_add_one, hj]; rfl
    · have e0 : (putF nm v fs).map (·.2) = fs.map (·.2) ++ [v] := by rw [putF_new hn, List.map_append]; rfl
      rw [e0]
      exact r2
theorem is_setF (C : Addr) (N : List Str) (j : Nat) {nm : Str} (T : Cl3 X.K C N) (ha : PE3 X G o f) (hv : PE3 X G value g) (hj : N[j]? = some nm := by rfl) (hs : swapsWith value (some (.Attribute o nm pos')) pos.line X.env = pure false := by rfl) : PS3 X G (.Assign [.Attribute o nm pos'] value pos) (wSetF C N j f g) := by
  refine (ps_fld ha hv hs).weak fun D σ H ⟨ρ, h, E, rel, ev, q, post⟩ => ?_
  refine ⟨ρ, h, _, rel, ev, q, fun d h1 v H1 q1 rel1 per1 dv1 => ⟨ρ, h1, _, rel1, ev.per per1, q1, fun x h2 xv H2 q2 rel2 per2 dv2 => ?_⟩⟩
  obtain ⟨a, vs, rfl, ha, hl, q2⟩ := q2
  cases dv2
  obtain ⟨dx, fs, e1, e2, e3, r⟩ := rel2.ins ha
  have len : fs.length = vs.length := by
    have := r.length
    simpa using this.symm
  have pp := (per1.trans per2).trans (Per.mut (o := .ins C dx (putF nm v fs)) (rel2.mut ha))
  exact ⟨a, C, dx, fs, rfl, e1, T.cl, T.no _ (List.mem_of_getElem? hj), by have := T.few; omega, post.nx _ _ _ _ q2 (ins_put T rel2 ha hj hl e1 e2 e3 r (dv1.per per2)) pp (ev.per pp)⟩
theorem is_augF (C : Addr) (N : List Str) (j : Nat) {nm : Str} {op : Operator} {r : D → D → H3 → K1 → Prop} {rd : V → V → Hp → VK → Prop} (hop : InOp X op rd) (rf : Rf2 G rd r) (T : Cl3 X.K C N) (ha : PE3 X G o f) (hv : PE3 X G value g) (hj : N[j]? = some nm := by rfl) :
    PS3 X G (.AugAssign (.Attribute o nm tpos) op value pos) (wAugF C N j r f g) := by
  refine (ps_fldaug ha hv hop).weak fun D σ H ⟨ρ, h, E, rel, ev, q, post⟩ => ?_
  refine ⟨ρ, h, _, rel, ev, q, fun x h1 xv H1 q1 rel1 per1 dv1 => ?_⟩
  obtain ⟨a, vs, w, rfl, ha, hw, q1⟩ := q1
  cases dv1
  obtain ⟨dx, fs, e1, e2, e3, r⟩ := rel1.ins ha
  have hl : j < vs.length := (List.getElem?_eq_some_iff.mp hw).1
  obtain ⟨v, l1, l2⟩ := lookup_at e2 (nd_take T.nd) (take_get hj hl)
  obtain ⟨v', l3, dv⟩ := r.get hw
  rw [l2] at l3
  cases l3
  refine ⟨a, C, dx, fs, v, rfl, e1, T.cl, T.no _ (List.mem_of_getElem? hj), l1, ρ, h1, _, rel1, ev.per per1, q1, fun y h2 yv H2 q2 rel2 per2 dv2 => ?_⟩
  refine rf _ _ _ _ _ _ _ _ rel2 (dv.per per2) dv2 q2 fun z h3 zv H3 q3 rel3 per3 dv3 => ?_
  obtain ⟨vs', ha', hl', q3⟩ := q3
  obtain ⟨dx', fs', e1', e2', e3', r'⟩ := rel3.ins ha'
  have len : fs'.length = vs'.length := by
    have := r'.length
    simpa using this.symm
  have pp := (per1.trans (per2.trans per3)).trans (Per.mut (o := .ins C dx' (putF nm zv fs')) (rel3.mut ha'))
  refine ⟨dx', fs', e1', by have := T.few; omega, post.nx _ _ _ _ ?_ (ins_put (d := z) T rel3 ha' hj (Nat.le_of_lt hl') e1' e2' e3' r' dv3) pp (ev.per pp)⟩
  unfold putAtD
  rw [if_pos hl']
  exact q3
abbrev rAddI := rInt (fun _ _ => True) fun i j => i + j
theorem rf_inAdd : Rf2 G L2.rAdd rAddI := by
  intro d e x y h H k Q rel dx dy q post
  unfold rAddI rInt at q
  split at q
  · cases dx; cases dy
    exact ⟨_, _, rfl, rfl, post_int post rel q.2⟩
  · exact q.elim
theorem rf_ipI {g : Int → Int → Int} : Rf2 G (ipI g) (rInt (fun _ _ => True) g) := by
  intro d e x y h H k Q rel dx dy q post
  unfold rInt at q
  split at q
  · cases dx; cases dy
    exact ⟨_, _, rfl, rfl, post_int post rel q.2⟩
  · exact q.elim
/-- name op= e -/
def wAug (i : Nat) (r : D → D → H3 → K1 → Prop) (e : WE) : WS := fun E ρ h => ∃ x, ρ[i]? = some (some x) ∧ e ρ h fun y h1 => r x y h1 fun z h2 => E.nx (ρ.set i (some z)) h2
theorem is_aug (i : Nat) {x : Str} {op : Operator} {ti : TIp} {r : D → D → H3 → K1 → Prop} (ho : PIp X op ti) (rf : Rf2 G ti r) (hN : X.N.Nodup) (he : PE3 X G e f) (hi : X.N[i]? = some x := by rfl) (hx : Loc X.env.scope x := by first | exact .inl rfl | exact .inr rfl)
    (hf : X.fn x = true ∨ X.env.scope.names.lookup x = some .local := by first | exact .inl rfl | exact .inr rfl | assumption) : PS3 X G (.AugAssign (.Name x pos') op e pos) (wAug i r f) := by
  refine (ps_aug (i := i) hN hi hx he ho hf).weak fun D σ H ⟨ρ, h, E, rel, ev, ⟨d, ed, q⟩, post⟩ => ?_
  obtain ⟨v, e1, dv⟩ := ev.2 i d ed
  refine ⟨v, e1, ρ, h, _, rel, ev, q, fun y h1 yv H1 q1 rel1 per1 dv1 => ?_⟩
  refine rf _ _ _ _ _ _ _ _ rel1 (dv.per per1) dv1 q1 fun z h2 zv H2 q2 rel2 per2 dv2 => ?_
  exact post.nx _ _ _ _ q2 rel2 (per1.trans per2) ((ev.per (per1.trans per2)).set dv2 i)
/-- d[k] += e -/
def wDAug (r : D → D → H3 → K1 → Prop) (o i v : WE) : WS := fun E ρ h => o ρ h fun x h1 => i ρ h1 fun y h2 => ∃ a w, x = .ref a ∧ DG h2 a y (some w) ∧ v ρ h2 fun d h3 => r w d h3 fun z h4 => ∃ h5, DPt h4 a y z h5 ∧ E.nx ρ h5
theorem is_daug {op : Operator} {r : D → D → H3 → K1 → Prop} {rd : V → V → Hp → VK → Prop} (hop : InOp X op rd) (rf : Rf2 G rd r) (hu : X.A.units + 1 < cLine) (ho : PE3 X G o f) (hi : PE3 X G e g) (hv : PE3 X G value t3)
    (ha : ∀ ov iv new, augStore e ov iv new = (do holding [new, ov, iv] (setItem ov iv new); release [new, ov, iv] []; pure .next) := by intro _ _ _; rfl) : PS3 X G (.AugAssign (.Subscript o e tpos) op value pos) (wDAug r f g t3) := by
  refine (ps_daug hu ho hi hv hop ha).weak fun D σ H ⟨ρ, h, E, rel, ev, q, post⟩ => ?_
  refine ⟨ρ, h, _, rel, ev, q, fun x h1 xv H1 q1 rel1 per1 dv1 => ⟨ρ, h1, _, rel1, ev.per per1, q1, fun y h2 yv H2 q2 rel2 per2 dv2 => ?_⟩⟩
  obtain ⟨a, w, rfl, g, q2⟩ := q2
  cases dv1
  obtain ⟨o', g', rr⟩ := g.to rel2 dv2
  rcases rr with ⟨z, _⟩ | ⟨d, w', e1, rfl, dv⟩
  · cases z
  · cases e1
    refine ⟨a, w', rfl, g', ρ, h2, _, rel2, ev.per (per1.trans per2), q2, fun v h3 vv H3 q3 rel3 per3 dv3 => ?_⟩
    refine rf _ _ _ _ _ _ _ _ rel3 (dv.per per3) dv3 q3 fun z h4 zv H4 q4 rel4 per4 dv4 => ?_
    obtain ⟨h5, g5, q5⟩ := q4
    obtain ⟨H5, p, rel5, per5⟩ := g5.to rel4 (dv2.per (per3.trans per4)) dv4
    have pp := per1.trans (per2.trans (per3.trans (per4.trans per5)))
    exact ⟨H5, p, post.nx _ _ _ _ q5 rel5 pp (ev.per pp)⟩
end

/-! ### calls -/
/-- a promise over T3, as HandS's -/
def spI (G : Sc) (sp : Sp3) : Sp := fun vs H Q _ => ∃ l h k, Rel G h H ∧ DVs H l vs ∧ sp l h k ∧ Post G H k Q
/-- the def at the module's name x keeps sp -/
def Fd (P : Program) (w : World) (K : PySem.W.Frag) (mg : Str → Option Value) (base : Heap) (G : Sc) (x : Str) (k : Nat) (sp : Sp3) : Prop :=
  ∃ f fd ps, FnOk P w K mg base CX0 k f fd ps (spI G sp) ∧ mg x = some (.ref f) ∧ PySem.W.keepIn K (.ref f) = true ∧ Binds K fd ps []
/-- the method m of the class at C -/
def Md (P : Program) (w : World) (K : PySem.W.Frag) (mg : Str → Option Value) (base : Heap) (G : Sc) (C : Addr) (m : Str) (k : Nat) (sp : Sp3) : Prop :=
  ∃ f fd ps, FnOk P w K mg base CX0 k f fd ps (spI G sp) ∧ Meth K C m f ∧ Cls K C ∧ Binds K fd ps []
/-- the class at the module's name x, its __init__ -/
def Kd (P : Program) (w : World) (K : PySem.W.Frag) (mg : Str → Option Value) (base : Heap) (G : Sc) (x : Str) (C : Addr) (k : Nat) (sp : Sp3) : Prop :=
  ∃ f fd ps, FnOk P w K mg base CX0 k f fd ps (spI G sp) ∧ Mk K C f ∧ mg x = some (.ref C) ∧ Binds K fd ps []
theorem Fd.mono {P : Program} {w : World} {K : PySem.W.Frag} {mg : Str → Option Value} {base : Heap} {G : Sc} {x : Str} {j k : Nat} {sp : Sp3} (F : Fd P w K mg base G x j sp) (h : j ≤ k) : Fd P w K mg base G x k sp :=
  let ⟨f, fd, ps, a, b⟩ := F
  ⟨f, fd, ps, a.mono h, b⟩
section
variable {X : Cx} {G : Sc} {e o : Expr} {es : List Expr} {f : WE} {l : WA} {p pos apos : Pos} {x m : Str} {C : Addr} {k : Nat} {sp : Sp3}
/-- a promise is used: no exceptions -/
theorem spI_of {t : TA} {σ : L2.St} {H : Hp} {Q : VK} {sp : Sp3} (q : tI G (wL sp l) σ H Q) : tIA G l σ H fun vs H1 => spI G sp (vs ++ []) H1 Q E0 := by
  refine liftL (R := fun vs H1 Q => spI G sp (vs ++ []) H1 Q E0) (fun l vs h H k Q rel dv q post => ?_) q
  show spI G sp (vs ++ []) H Q E0
  rw [List.append_nil]
  exact ⟨l, h, k, rel, dv, q, post⟩
theorem i_call (F : Fd X.prog X.w X.K X.mg X.base G x k sp) (hr : Room k X.A) (ha : PA3 X G (e :: es) l) (hg : Gl X x := by rfl)
    (hdb : (x == ("__debug__" : Str)) = false := by decide) (he : starEach (e :: es) X.env = (false, eval e X.env) :: starEach es X.env := by rfl) (hpl : (backTo pos (starEach es X.env)).any (·.1) = false := by rfl) : PE3 X G (.Call (.Name x p) (e :: es) [] pos) (wL sp l) := by
  obtain ⟨f, fd, ps, F, hm, hk, hb⟩ := F
  exact (pe_call F hr hg hm hk hb .nil pass0 ha hdb he hpl).weak fun σ H Q q => spI_of (t := tNil) q
theorem i_call0 (F : Fd X.prog X.w X.K X.mg X.base G x k sp) (hr : Room k X.A) (hg : Gl X x := by rfl) (hdb : (x == ("__debug__" : Str)) = false := by decide) : PE3 X G (.Call (.Name x p) [] [] pos) (wL sp wNil) := by
  obtain ⟨f, fd, ps, F, hm, hk, hb⟩ := F
  refine (pe_call0 F hr hg hm hk hb .nil pass0 hdb).weak fun σ H Q ⟨ρ, h, k, rel, ev, q, post⟩ => ?_
  exact ⟨[], h, k, rel, .nil, q, post⟩
/-- o.m(..): the receiver first -/
def wMeth (sp : Sp3) (o : WE) (l : WA) : WE := fun ρ h k => o ρ h fun x h1 => ∃ a C N vs, x = .ref a ∧ h1 a = some (.ins C N vs) ∧ l ρ h1 fun ds h2 => sp (x :: ds) h2 k
def wMethC (C : Addr) (N : List Str) (sp : Sp3) (o : WE) (l : WA) : WE := fun ρ h k => o ρ h fun x h1 => ∃ a vs, x = .ref a ∧ h1 a = some (.ins C N vs) ∧ l ρ h1 fun ds h2 => sp (x :: ds) h2 k
theorem no_look {N : List Str} {m : Str} (hm : m ∉ N) {fs : List (Str × V)} {n : Nat} (e : fs.map (·.1) = N.take n) : fs.lookup m = none := by
  have hn : m ∉ fs.map (·.1) := fun z => by rw [e] at z; exact hm (List.mem_of_mem_take z)
  clear e
  induction fs with
  | nil => rfl
  | cons q r ih =>
    obtain ⟨a, v⟩ := q
    simp only [List.map_cons, List.mem_cons, not_or] at hn
    rw [List.lookup_cons, beq_eq_false_iff_ne.mpr hn.1]
    exact ih hn.2
theorem i_meth (N : List Str) {pl : Sem Bool} (F : Md X.prog X.w X.K X.mg X.base G C m k sp) (hr : Room k X.A) (ho : PE3 X G o f) (ha : PA3 X G (e :: es) l) (hm : m ∉ N := by decide)
    (hst : starEach (e :: es) X.env = (false, eval e X.env) :: starEach es X.env := by rfl) (hpl : (backTo pos (starEach es X.env)).any (·.1) = false := by rfl)
    (ht : eval (.Call (.Attribute o m apos) (e :: es) [] pos) X.env = (do
      let ov ← eval o X.env
      standAt apos.atName
      let (f, first) ← holding [ov] (getMethod ov m pl)
      callWith pos f first (backTo pos (starEach (e :: es) X.env)) (backToKw pos (keywordEach [] X.env))) := by rfl) : PE3 X G (.Call (.Attribute o m apos) (e :: es) [] pos) (wMethC C N sp f l) := by
  obtain ⟨fa, fd, ps, F, M, c, hb⟩ := F
  refine (pe_meth ho c M F hr hb .nil pass0 ha hst hpl ht).weak fun σ H Q ⟨ρ, h, k, rel, ev, q, post⟩ => ?_
  refine ⟨ρ, h, _, rel, ev, q, fun d h1 v H1 q1 rel1 per1 dv1 => ?_⟩
  obtain ⟨a, vs, rfl, hi, q1⟩ := q1
  cases dv1
  obtain ⟨dx, fs, e1, e2, _, _⟩ := rel1.ins hi
  refine ⟨a, dx, fs, rfl, e1, no_look hm e2, ρ, h1, _, rel1, ev.per per1, q1, fun ds h2 ws H2 q2 rel2 per2 dv2 => ?_⟩
  show spI G sp (V.ref a :: (ws ++ [])) H2 Q E0
  rw [List.append_nil]
  exact ⟨_, h2, k, rel2, .cons (.ref a) dv2, q2, post.per (per1.trans per2)⟩
theorem i_meth0 (N : List Str) {pl : Sem Bool} (F : Md X.prog X.w X.K X.mg X.base G C m k sp) (hr : Room k X.A) (ho : PE3 X G o f) (hm : m ∉ N := by decide)
    (ht : eval (.Call (.Attribute o m apos) [] [] pos) X.env = (do
      let ov ← eval o X.env
      standAt apos.atName
      let (f, first) ← holding [ov] (getMethod ov m pl)
      callWith pos f first (backTo pos (starEach [] X.env)) (backToKw pos (keywordEach [] X.env))) := by rfl) : PE3 X G (.Call (.Attribute o m apos) [] [] pos) (wMethC C N sp f wNil) := by
  obtain ⟨fa, fd, ps, F, M, c, hb⟩ := F
  refine (pe_meth0 ho c M F hr hb .nil pass0 ht).weak fun σ H Q ⟨ρ, h, k, rel, ev, q, post⟩ => ?_
  refine ⟨ρ, h, _, rel, ev, q, fun d h1 v H1 q1 rel1 per1 dv1 => ?_⟩
  obtain ⟨a, vs, rfl, hi, q1⟩ := q1
  cases dv1
  obtain ⟨dx, fs, e1, e2, _, _⟩ := rel1.ins hi
  refine ⟨a, dx, fs, rfl, e1, no_look hm e2, ?_⟩
  exact ⟨_, h1, k, rel1, .cons (.ref a) .nil, q1, post.per per1⟩
/-- C(..) -/
def wMake (C : Addr) (N : List Str) (sp : Sp3) (l : WA) : WE := fun ρ h k => l ρ h fun ds h1 => ∀ x, h1 x = none → sp (.ref x :: ds) (up h1 x (.ins C N [])) fun d h2 => d = .non ∧ k (.ref x) h2
theorem i_make (N : List Str) (F : Kd X.prog X.w X.K X.mg X.base G x C k sp) (hr : Room (k + 1) X.A) (ha : PA3 X G (e :: es) l) (hg : Gl X x := by rfl)
    (hdb : (x == ("__debug__" : Str)) = false := by decide) (he : starEach (e :: es) X.env = (false, eval e X.env) :: starEach es X.env := by rfl) (hpl : (backTo pos (starEach es X.env)).any (·.1) = false := by rfl) : PE3 X G (.Call (.Name x p) (e :: es) [] pos) (wMake C N sp l) := by
  obtain ⟨f, fd, ps, F, M, hm, hb⟩ := F
  refine (pe_make M F hr hg hm hb .nil pass0 ha hdb he hpl).weak fun σ H Q ⟨ρ, h, k, rel, ev, q, post⟩ => ?_
  refine ⟨ρ, h, _, rel, ev, q, fun ds h1 ws H1 q1 rel1 per1 dv1 x dx nx ndx ne => ?_⟩
  rw [List.append_nil]
  have p1 : Per H1 (upd H1 dx (.own x)) := Per.new ndx
  have nx' : (upd H1 dx (.own x)) x = none := by rw [upd_ne (Ne.symm ne)]; exact nx
  have p2 := Per.new (o := .ins C dx []) nx'
  have rel2 : Rel G (up h1 x (.ins C N [])) (upd (upd H1 dx (.own x)) x (.ins C dx [])) := (rel1.new0 ndx).new nx' ⟨dx, [], upd_same, rfl, Nat.zero_le _, .nil⟩
  refine ⟨_, _, _, rel2, .cons (.ref x) (dv1.per (p1.trans p2)), q1 x (rel1.none nx), fun d h2 v H2 q2 rel3 per3 dv3 => ?_⟩
  obtain ⟨rfl, q2⟩ := q2
  cases dv3
  exact ⟨rfl, post _ _ _ _ q2 rel3 (per1.trans ((p1.trans p2).trans per3)) (.ref x)⟩
end

/-! ### the rule for a def -/
/-- the context of a def's body -/
abbrev CXF (P : Program) (w : World) (K : PySem.W.Frag) (mg : Str → Option Value) (base : Heap) (N : List Str) (qual : Str) (st : Stmt) (f : Addr) (cdv : Value) (A : Around) (outer : List Env) (s : Shared) (H : Hp) (E : XK) : Cx :=
  (cxOf CX0 P w K mg base N qual (defScope st) f cdv A outer s H E).nox
/-- what a body is to reach, so that k: what it made may be forgotten -/
def en (k : K1) : En := { nx := fun _ h' => ∃ h'', Sub h'' h' ∧ k .non h'', rt := fun d h' => ∃ h'', Sub h'' h' ∧ k d h'' }
def ev0 (N : List Str) (l : List D) : Ev := l.map some ++ List.replicate (N.length - l.length) none
theorem evr0 {H : Hp} {N : List Str} {l : List D} {vs : List V} (r : DVs H l vs) : EvR H (ev0 N l) (L2.start N vs) := by
  unfold ev0 L2.start
  refine ⟨by simp [r.length], fun i d e => ?_⟩
  rw [← r.length]
  by_cases hi : i < l.length
  · rw [List.getElem?_append_left (by simpa using hi)] at e
    rw [List.getElem?_map] at e
    cases q : l[i]? with
    | none => rw [q] at e; cases e
    | some x =>
      rw [q] at e
      cases e
      obtain ⟨v, ev, dv⟩ := r.get q
      refine ⟨v, ?_, dv⟩
      rw [List.getElem?_append_left (by rw [List.length_map, ← r.length]; exact hi), List.getElem?_map, ev]; rfl
  · rw [List.getElem?_append_right (by simpa using hi)] at e
    have e' := List.mem_of_getElem? e
    rw [List.mem_replicate] at e'
    cases e'.2
section
variable {P : Program} {w : World} {K : PySem.W.Frag} {mg : Str → Option Value} {base : Heap} {G : Sc}
theorem fn3 {x qual : Str} {st : Stmt} {f : Addr} {fd : FuncData} {N ps : List Str} {k : Nat} {sp : Sp3} {W : WS} (F : Fun K x qual st f fd) (S : FnScope N ps (defScope st))
    (walk : ∀ (cdv : Value) (A : Around) (outer : List Env) (s : Shared) (H : Hp) (E : XK), Room k (A.deeper (envOfC qual (defScope st) s.heap.objs.size f cdv)) → PSs3 (CXF P w K mg base N qual st f cdv A outer s H E) G (defBody st) W)
    (len : ∀ l h k, sp l h k → l.length = ps.length) (ok : ∀ l h k, sp l h k → W (en k) (ev0 N l) h) : FnOk P w K mg base CX0 (k + 1) f fd ps (spI G sp) := by
  refine F.ok S (fun vs H Q E ⟨l, h, k, rel, dv, q, post⟩ => by rw [← dv.length]; exact len l h k q) (fun cdv A outer s H vs Q E hr ⟨l, h, k, rel, dv, q, post⟩ => ?_)
  refine ⟨_, walk cdv A outer s H E hr, ev0 N l, h, en k, rel, evr0 dv, ok l h k q, ?_⟩
  refine ⟨fun ρ h' σ H' ⟨h'', sub, q'⟩ rel' per' _ => post _ _ _ _ q' (rel'.sub sub) per' .non, fun d h' v H' ⟨h'', sub, q'⟩ rel' per' dv' => post _ _ _ _ q' (rel'.sub sub) per' dv', fun _ _ _ _ q' => q'.elim, fun _ _ _ _ q' => q'.elim⟩
end
end T3
end
-- T3More
section
set_option maxRecDepth 100000
set_option maxHeartbeats 4000000
/-! T3More: dict displays, truths as values, the script, pop. -/
namespace T3
open PySem PySem.Spec PyProof.Rows L2

theorem room65 {k : Nat} {A : Around} (r : Room k A) : A.units + 65 < cLine := by have := r.un; omega
theorem b_len : bootBuiltins "len" = some (.builtin "len") := PySem.boot_len
theorem b_abs : bootBuiltins "abs" = some (.builtin "abs") := by decide +kernel
theorem b_all : bootBuiltins "all" = some (.builtin "all") := by decide +kernel
theorem b_any : bootBuiltins "any" = some (.builtin "any") := by decide +kernel
theorem b_min : bootBuiltins "min" = some (.builtin "min") := by decide +kernel
theorem b_max : bootBuiltins "max" = some (.builtin "max") := by decide +kernel
theorem b_repr : bootBuiltins "repr" = some (.builtin "repr") := by decide +kernel
theorem b_sorted : bootBuiltins "sorted" = some (.builtin "sorted") := by decide +kernel
theorem b_isinstance : bootBuiltins "isinstance" = some (.builtin "isinstance") := by decide +kernel
theorem b_int : bootBuiltins "int" = some (.type "int") := by decide +kernel
theorem b_bool : bootBuiltins "bool" = some (.type "bool") := by decide +kernel
theorem b_str : bootBuiltins "str" = some (.type "str") := by decide +kernel
theorem b_tuple : bootBuiltins "tuple" = some (.type "tuple") := by decide +kernel
theorem b_list : bootBuiltins "list" = some (.type "list") := by decide +kernel
theorem b_set : bootBuiltins "set" = some (.type "set") := by decide +kernel

def rNeg : D → H3 → K1 → Prop := fun x h k => match x with | .int i => k (.int (-i)) h | _ => False
def wNotV (a : WE) : WE := fun ρ h k => a ρ h fun d h1 => ∃ c, d = .bl c ∧ k (.bl (!c)) h1
def wAndV (a b : WE) : WE := fun ρ h k => a ρ h fun d h1 => ∃ c, d = .bl c ∧ if c = true then b ρ h1 k else k (.bl false) h1
def wOrV (a b : WE) : WE := fun ρ h k => a ρ h fun d h1 => ∃ c, d = .bl c ∧ if c = true then k (.bl true) h1 else b ρ h1 k
def wAppend (a : WE) (t : WA) : WE := fun ρ h k => a ρ h fun x h1 => ∃ p xs, x = .ref p ∧ h1 p = some (.lst xs) ∧ t ρ h1 fun l h2 => rAppend3 x l h2 k
def wPop (a : WE) : WE := fun ρ h k => a ρ h fun x h1 => ∃ p xs d, x = .ref p ∧ h1 p = some (.lst xs) ∧ xs[xs.length - 1]? = some d ∧ k d (up h1 p (.lst xs.dropLast))
theorem DVs.dropLast {H : Hp} {l : List D} {vs : List V} (r : DVs H l vs) : DVs H l.dropLast vs.dropLast := by
  rw [List.dropLast_eq_take, List.dropLast_eq_take, ← r.length]
  exact r.take _
section
variable {X : Cx} {G : Sc} {a b e o : Expr} {es : List Expr} {f g : WE} {t : WA} {pos apos cpos : Pos} {rest : List Expr}
theorem rf_neg' : Rf1 G (U1 X (unaryOp .USub)) rNeg := by
  intro d x h H k Q rel dx q post
  unfold rNeg at q
  split at q
  · cases dx
    exact ⟨_, un_neg, _, rfl, post_int post rel q⟩
  · exact q.elim
theorem i_one {op} (h : PE3 X G a f) : PE3 X G (.BoolOp op [a] pos) f := pe_one h
theorem i_and (ha : PE3 X G a f) (hb : PE3 X G (.BoolOp .And (b :: rest) pos) g) : PE3 X G (.BoolOp .And (a :: b :: rest) pos) (wAndV f g) := by
  refine (pe_and ha hb).weak fun σ H Q ⟨ρ, h, k, rel, ev, q, post⟩ => ?_
  refine ⟨ρ, h, _, rel, ev, q, fun d h1 v H1 q1 rel1 per1 dv1 => ?_⟩
  obtain ⟨c, rfl, q1⟩ := q1
  cases dv1
  refine ⟨c, rfl, ?_⟩
  cases c with
  | true => exact ⟨ρ, h1, k, rel1, ev.per per1, q1, post.per per1⟩
  | false => exact post _ _ _ _ q1 rel1 per1 (.bl false)
theorem i_or (ha : PE3 X G a f) (hb : PE3 X G (.BoolOp .Or (b :: rest) pos) g) : PE3 X G (.BoolOp .Or (a :: b :: rest) pos) (wOrV f g) := by
  refine (pe_or ha hb).weak fun σ H Q ⟨ρ, h, k, rel, ev, q, post⟩ => ?_
  refine ⟨ρ, h, _, rel, ev, q, fun d h1 v H1 q1 rel1 per1 dv1 => ?_⟩
  obtain ⟨c, rfl, q1⟩ := q1
  cases dv1
  refine ⟨c, rfl, ?_⟩
  cases c with
  | true => exact post _ _ _ _ q1 rel1 per1 (.bl true)
  | false => exact ⟨ρ, h1, k, rel1, ev.per per1, q1, post.per per1⟩
theorem i_not (ha : PE3 X G a f) : PE3 X G (.UnaryOp .Not a pos) (wNotV f) := by
  refine (pe_not ha).weak fun σ H Q ⟨ρ, h, k, rel, ev, q, post⟩ => ?_
  refine ⟨ρ, h, _, rel, ev, q, fun d h1 v H1 q1 rel1 per1 dv1 => ?_⟩
  obtain ⟨c, rfl, q1⟩ := q1
  cases dv1
  exact ⟨c, rfl, post _ _ _ _ q1 rel1 per1 (.bl _)⟩
theorem i_pop (ho : PE3 X G a f) (hbase : attributeBase a "pop" X.env (eval a X.env) = eval a X.env := by rfl) (hline : (apos.endLine == cpos.line) = true := by rfl) : PE3 X G (.Call (.Attribute a "pop" apos) [] [] cpos) (wPop f) := by
  refine (pe_bm0 PySem.F.plainAttrs_list PySem.F.slot_list_pop PySem.F.type_list_pop mt_pop ho hbase hline).weak fun σ H Q ⟨ρ, h, k, rel, ev, q, post⟩ => ?_
  refine ⟨ρ, h, _, rel, ev, q, fun x h1 v H1 q1 rel1 per1 dv1 => ?_⟩
  obtain ⟨p, xs, d, rfl, hp, hd, q1⟩ := q1
  cases dv1
  obtain ⟨vs, e1, r1⟩ := rel1.lst hp
  obtain ⟨w, ew, dw⟩ := r1.get hd
  have pm := Per.mut (o := .lst vs.dropLast) (rel1.mut hp)
  exact ⟨.inl ⟨rfl, _, .of e1⟩, _, vs, w, rfl, rfl, e1, by rw [← r1.length]; exact ew, post _ _ _ _ q1 (rel1.setLst hp r1.dropLast) (per1.trans pm) (dw.per pm)⟩
/-! a display of a dict -/
def wPairs : List (WE × WE) → Ev → H3 → (List (D × D) → H3 → Prop) → Prop
  | [], _, h, k => k [] h
  | (f, g) :: r, ρ, h, k => f ρ h fun x h1 => g ρ h1 fun y h2 => wPairs r ρ h2 fun ps h3 => k ((x, y) :: ps) h3
def keyed : List (D × D) → Option (List (Key × D))
  | [] => some []
  | (x, y) :: r => match keyOf x, keyed r with
    | some k, some l => some ((k, y) :: l)
    | _, _ => none
def mergeD (kvs more : List (Key × D)) : List (Key × D) := more.foldl (fun acc kv => putD acc kv.1 kv.2) kvs
def wDisp (l : List (WE × WE)) : WE := fun ρ h k => ∀ p, h p = none → wPairs l ρ (up h p (.dK [])) fun ps h2 => h2 p = some (.dK []) ∧ ∃ kvs, keyed ps = some kvs ∧ kvs.length ≤ 15 ∧ k (.ref p) (up h2 p (.dK (mergeD [] kvs)))
abbrev ppsNil : List (WE × WE) := []
abbrev ppsCons (f g : WE) (l : List (WE × WE)) : List (WE × WE) := (f, g) :: l
abbrev PP3 (X : Cx) (G : Sc) (pos : Pos) (keys : List (Option Expr)) (values : List Expr) (l : List (WE × WE)) : Prop := PPs X pos keys values (l.map fun p => (tI G p.1, tI G p.2))
theorem ipps_nil : PP3 X G pos [] [] ppsNil := pps_nil
theorem ipps_cons {k v : Expr} {ks : List (Option Expr)} {vs : List Expr} {l : List (WE × WE)} (hk : PE3 X G k f) (hv : PE3 X G v g) (hr : PP3 X G pos ks vs l) : PP3 X G pos (some k :: ks) (v :: vs) (ppsCons f g l) := pps_cons hk hv hr
theorem pairs_lift {ρ : Ev} {σ : L2.St} : ∀ {l : List (WE × WE)} {h : H3} {H : Hp} {k : List (D × D) → H3 → Prop} {Q : List (V × V) → Hp → Prop}, Rel G h H → EvR H ρ σ → wPairs l ρ h k →
    (∀ ps h' vs H', k ps h' → Rel G h' H' → Per H H' → Paired (fun (p : D × D) (q : V × V) => DV H' p.1 q.1 ∧ DV H' p.2 q.2) ps vs → Q vs H') → tPairs (l.map fun p => (tI G p.1, tI G p.2)) σ H Q
  | [], h, H, k, Q, rel, ev, q, post => post [] h [] H q rel (Per.refl H) .nil
  | (f, g) :: r, h, H, k, Q, rel, ev, q, post => by
    refine ⟨ρ, h, _, rel, ev, q, fun x h1 xv H1 q1 rel1 per1 dv1 => ⟨ρ, h1, _, rel1, ev.per per1, q1, fun y h2 yv H2 q2 rel2 per2 dv2 => ?_⟩⟩
    refine pairs_lift rel2 (ev.per (per1.trans per2)) q2 fun ps h3 vs H3 q3 rel3 per3 pv => ?_
    exact post _ h3 _ H3 q3 rel3 (per1.trans (per2.trans per3)) (.cons ⟨dv1.per (per2.trans per3), dv2.per per3⟩ pv)
theorem keyed_v {H : Hp} : ∀ {ps : List (D × D)} {vs : List (V × V)} {kvs : List (Key × D)}, Paired (fun (p : D × D) (q : V × V) => DV H p.1 q.1 ∧ DV H p.2 q.2) ps vs → keyed ps = some kvs → ∃ kv' : List (Key × V), vs = kv'.map (fun kv => (kV kv.1, kv.2)) ∧ KVs H kvs kv'
  | [], _, _, h, e => by cases h; cases e; exact ⟨[], rfl, .nil⟩
  | (x, y) :: r, _, _, h, e => by
    cases h with
    | cons z t =>
      rename_i p ps
      obtain ⟨a, b⟩ := p
      unfold keyed at e
      cases q1 : keyOf x with
      | none => rw [q1] at e; cases e
      | some k =>
        rw [q1] at e
        cases q2 : keyed r with
        | none => rw [q2] at e; cases e
        | some l =>
          rw [q2] at e
          cases e
          obtain ⟨kv', e1, e2⟩ := keyed_v t q2
          refine ⟨(k, b) :: kv', ?_, .cons ⟨rfl, z.2⟩ e2⟩
          have e3 : a = kV k := key_v z.1 q1
          rw [e3, e1]; rfl
theorem merge_kv {H : Hp} : ∀ {more : List (Key × D)} {ms : List (Key × V)} {kvs : List (Key × D)} {vs : List (Key × V)}, KVs H more ms → KVs H kvs vs → KVs H (mergeD kvs more) (mergeK vs ms)
  | [], _, _, _, h, s => by cases h; exact s
  | (k, d) :: r, _, _, _, h, s => by
    cases h with
    | cons z t =>
      rename_i p ps
      obtain ⟨k', v⟩ := p
      have e : k = k' := z.1
      subst e
      have q := merge_kv (more := r) (ms := ps) t (s.put k z.2)
      exact q
theorem i_disp {keys : List (Option Expr)} {values : List Expr} {l : List (WE × WE)} (h : PP3 X G pos keys values l) (hall : keys.all (·.isSome) = true := by rfl) (hl : keys.length = values.length := by rfl) (h0 : keys ≠ [] := by exact fun z => nomatch z) (h15 : keys.length ≤ 15 := by decide) : PE3 X G (.Dict keys values pos) (wDisp l) := by
  refine (pe_disp h hall hl h0 h15).weak fun σ H Q ⟨ρ, h, k, rel, ev, q, post⟩ p np => ?_
  have rel0 := rel.new (o := .dK []) np ⟨[], upd_same, .nil⟩
  refine pairs_lift rel0 (ev.per (Per.new np)) (q p (rel.none np)) fun ps h2 vs H2 q2 rel2 per2 pv => ?_
  obtain ⟨hp, kvs, ek, hz, q2⟩ := q2
  obtain ⟨kv', e1, e2⟩ := keyed_v pv ek
  obtain ⟨v0, e0, kv0⟩ := rel2.dK hp
  have ev0 : v0 = [] := by cases kv0; rfl
  subst ev0
  have pm := Per.mut (o := .dK (mergeK [] kv')) (rel2.mut hp)
  exact ⟨e0, kv', e1, by rw [← e2.length]; exact hz, post _ _ _ _ q2 (rel2.write hp ⟨_, upd_same, (merge_kv e2 .nil).per pm⟩) (((Per.new np).trans per2).trans pm) (.ref p)⟩
/-! the script -/
def wScript (G : Sc) (i : Nat) : WI := fun ρ h k => ρ[i]? = some (some (.ref G.a)) ∧ k (.fix (G.ns.map .int)) h
theorem scr_sq {H1 : Hp} (hK : G.K = X.K) (sc : Ro G.K H1 G.a (G.ns.map V.int)) : SqL X.K H1 G.a (G.ns.map V.int) := by
  rw [← hK]
  rcases sc with ⟨o, e⟩ | r
  · exact .inl (.inr ⟨o, e⟩)
  · exact .inr r
theorem it_scr {H1 : Hp} (hK : G.K = X.K) : ItOk G (Itl X.K G.a) H1 (.fix (G.ns.map .int)) := by
  refine ⟨fun i H h d per rel q => ?_, fun i H h d x H' per rel q y => ?_, fun i H h per rel q => ?_⟩
  · have q' : (G.ns.map D.int)[i]? = some d := q
    have hi : i < G.ns.length := by simpa using (List.getElem?_eq_some_iff.mp q').1
    exact ⟨_, .int G.ns[i], scr_sq hK rel.sc, by simp [hi]⟩
  · have q' : (G.ns.map D.int)[i]? = some d := q
    have hi : i < G.ns.length := by simpa using (List.getElem?_eq_some_iff.mp q').1
    obtain ⟨rfl, y⟩ := y
    have e := y _ (scr_sq hK rel.sc)
    rw [List.getElem?_map, List.getElem?_eq_getElem hi] at e q'
    cases e; cases q'
    exact ⟨rel, Per.refl _, .int _⟩
  · have q' : (G.ns.map D.int).length ≤ i := q
    exact ⟨_, scr_sq hK rel.sc, by simpa using q'⟩
theorem ii_script {tg : Expr} (i : Nat) {x : Str} {p : Pos} (hK : G.K = X.K) (hN : X.N[i]? = some x := by rfl) (hv : Vis X.env.scope x := by first | exact .inl rfl | exact .inr (.inl rfl) | exact .inr (.inr rfl)) (hd : (x == ("__debug__" : Str)) = false := by decide) (hcd : (x == ("__classdict__" : Str)) = false := by decide) :
    PI3 X G tg (.Name x p) (wScript G i) := by
  refine (pi_list (pe_var (i := i) hN hv hd hcd)).weak fun σ H R ⟨ρ, h, k, rel, ev, ⟨e, q⟩, post⟩ => ?_
  obtain ⟨v, e1, dv⟩ := ev.2 i _ e
  cases dv
  exact ⟨_, e1, G.a, rfl, ⟨_, scr_sq hK rel.sc⟩, post _ _ _ _ q rel (Per.refl H) (it_scr hK)⟩
/-! tests by is, in -/
variable {c : Expr}
theorem tB_of {σ : L2.St} {H : Hp} {Q : Bool → Hp → Prop} (q : tIT G (wB f) σ H Q) : tI G f σ H fun x H' => ∃ k, x = .bl k ∧ Q k H' := tTest_of q
theorem it_isN {j p2} (ha : PE3 X G a f) : PT3 X G (.Compare a [.Is] [.Constant .none j p2] pos) (wB (w1 (rIsN false) f)) := by
  refine (pt_cmp (pc_isN ha) rfl).weak fun σ H Q q => lift1 (f := f) (R := fun x H1 Q => Q (.bl (decide (x = .non))) H1) (Q := fun x H1 => ∃ c, x = .bl c ∧ Q c H1) (fun d x h H k Q rel dx q post => ?_) (tTest_of q)
  unfold rIsN at q
  exact post_bl post rel (by rw [isN_of dx]; simpa using q)
theorem it_notN {j p2} (ha : PE3 X G a f) : PT3 X G (.Compare a [.IsNot] [.Constant .none j p2] pos) (wB (w1 (rIsN true) f)) := by
  refine (pt_cmp (pc_notN ha) rfl).weak fun σ H Q q => lift1 (f := f) (R := fun x H1 Q => Q (.bl (!decide (x = .non))) H1) (Q := fun x H1 => ∃ c, x = .bl c ∧ Q c H1) (fun d x h H k Q rel dx q post => ?_) (tTest_of q)
  unfold rIsN at q
  exact post_bl post rel (by rw [isN_of dx]; simpa using q)
theorem it_din (hu : X.A.units + 1 < cLine) (hi : PE3 X G a f) (ho : PE3 X G b g) (h1 : behindInMarks .In b = false := by rfl) : PT3 X G (.Compare a [.In] [b] pos) (wB (w2 (rDIn false) f g)) := by
  refine (pt_cmp (pc_din hu hi ho) h1).weak fun σ H Q q => lift2 (f := f) (g := g) (R := fun y x H2 Q => ∃ a o, x = .ref a ∧ DGet H2 a y o ∧ Q (.bl o.isSome) H2) (Q := fun x H1 => ∃ c, x = .bl c ∧ Q c H1) (fun d e x y h H k Q rel dx dy ⟨a, o, ed, g, q⟩ post => ?_) (tTest_of q)
  subst ed
  cases dy
  obtain ⟨o', g', r⟩ := g.to rel dx
  refine ⟨a, o', rfl, g', post_bl post rel ?_⟩
  rcases r with ⟨rfl, rfl⟩ | ⟨d, w, rfl, rfl, dv⟩ <;> simpa using q
theorem it_dnotin (hu : X.A.units + 1 < cLine) (hi : PE3 X G a f) (ho : PE3 X G b g) (h1 : behindInMarks .NotIn b = false := by rfl) : PT3 X G (.Compare a [.NotIn] [b] pos) (wB (w2 (rDIn true) f g)) := by
  refine (pt_cmp (pc_dnotin hu hi ho) h1).weak fun σ H Q q => lift2 (f := f) (g := g) (R := fun y x H2 Q => ∃ a o, x = .ref a ∧ DGet H2 a y o ∧ Q (.bl (!o.isSome)) H2) (Q := fun x H1 => ∃ c, x = .bl c ∧ Q c H1) (fun d e x y h H k Q rel dx dy ⟨a, o, ed, g, q⟩ post => ?_) (tTest_of q)
  subst ed
  cases dy
  obtain ⟨o', g', r⟩ := g.to rel dx
  refine ⟨a, o', rfl, g', post_bl post rel ?_⟩
  rcases r with ⟨rfl, rfl⟩ | ⟨d, w, rfl, rfl, dv⟩ <;> simpa using q
/-! in a module's tuple of texts -/
/-- the module's name x is a tuple of these texts -/
def KTup (K : PySem.W.Frag) (mg : Str → Option Value) (x : Str) (l : List Str) : Prop := ∃ a, mg x = some (.ref a) ∧ ∀ H, SqT K H a (l.map V.str)
def rInK (neg : Bool) (l : List Str) : D → H3 → K1 → Prop := fun d h k => ∃ z, d = .str z ∧ k (.bl (decide (z ∈ l) != neg)) h
theorem inV_strs {z : Str} : ∀ {l : List Str}, inV (.str z) (l.map V.str) = decide (z ∈ l)
  | [] => rfl
  | x :: l => by
    show (eqV (.str x) (.str z) || inV (.str z) (l.map V.str)) = _
    rw [inV_strs]
    show ((x == z) || _) = _
    by_cases h : x = z
    · subst h; simp
    · have h' : ¬ z = x := fun e => h e.symm
      simp [h, h']
theorem flat_strs : ∀ {l : List Str}, (l.map V.str).all flatV = true
  | [] => rfl
  | x :: l => by rw [List.map_cons, List.all_cons, flat_strs]; rfl
theorem inK_lift {op : CmpOp} {neg : Bool} {l : List Str} {tp : Addr} (hT : ∀ H, SqT X.K H tp (l.map V.str)) (o : OpR X (compareOp op) (L2.rIn X.K neg)) {σ : L2.St} {H : Hp} {Q : VK} (q : tI G (w1 (rInK neg l) f) σ H Q) :
    tOp (L2.rIn X.K neg) (tI G f) (tC (.ref tp)) σ H Q := by
  refine lift1 (f := f) (R := fun x H1 Q => L2.rIn X.K neg x (.ref tp) H1 Q) (fun d x h H k Q rel dx q post => ?_) q
  obtain ⟨z, rfl, q⟩ := q
  cases dx
  refine ⟨tp, _, rfl, .inr (hT H), rfl, flat_strs, post_bl post rel ?_⟩
  rw [inV_strs]
  cases neg <;> simpa using q
theorem it_inK {x : Str} {p : Pos} {l : List Str} (hT : KTup X.K X.mg x l) (ha : PE3 X G a f) (hg : Gl X x := by rfl) (hd : (x == ("__debug__" : Str)) = false := by decide) (hm : behindInMarks .In (.Name x p) = false := by rfl) : PT3 X G (.Compare a [.In] [.Name x p] pos) (wB (w1 (rInK false l) f)) := by
  obtain ⟨tp, hmg, hT⟩ := hT
  exact (pt_cmpR op_in_seq ha (pe_glob (v := .ref tp) hg hmg rfl hd) hm).weak fun σ H Q q => inK_lift hT op_in_seq (tTest_of q)
theorem it_notinK {x : Str} {p : Pos} {l : List Str} (hT : KTup X.K X.mg x l) (ha : PE3 X G a f) (hg : Gl X x := by rfl) (hd : (x == ("__debug__" : Str)) = false := by decide) (hm : behindInMarks .NotIn (.Name x p) = false := by rfl) : PT3 X G (.Compare a [.NotIn] [.Name x p] pos) (wB (w1 (rInK true l) f)) := by
  obtain ⟨tp, hmg, hT⟩ := hT
  exact (pt_cmpR op_notIn_seq ha (pe_glob (v := .ref tp) hg hmg rfl hd) hm).weak fun σ H Q q => inK_lift hT op_notIn_seq (tTest_of q)
theorem i_inK {x : Str} {p : Pos} {l : List Str} (hT : KTup X.K X.mg x l) (ha : PE3 X G a f) (hg : Gl X x := by rfl) (hd : (x == ("__debug__" : Str)) = false := by decide) (hm : behindInMarks .In (.Name x p) = false := by rfl) : PE3 X G (.Compare a [.In] [.Name x p] pos) (w1 (rInK false l) f) := by
  obtain ⟨tp, hmg, hT⟩ := hT
  exact (pe_cmpR op_in_seq ha (pe_glob (v := .ref tp) hg hmg rfl hd) hm).weak fun σ H Q q => inK_lift hT op_in_seq q
end
end T3
end
-- T3Simp
section
set_option maxRecDepth 100000
set_option maxHeartbeats 4000000
/-! T3Simp: the readings at known values, for simp. -/
namespace T3
open PySem PySem.Spec PyProof.Rows L2
def asB (d : D) (f : Bool → Prop) : Prop := match d with | .bl c => f c | _ => False
@[simp] theorem asB_bl {c : Bool} {f : Bool → Prop} : asB (.bl c) f ↔ f c := Iff.rfl
theorem asB_iff {d : D} {f : Bool → Prop} : (∃ c, d = .bl c ∧ f c) ↔ asB d f := by
  constructor
  · rintro ⟨c, rfl, q⟩; exact q
  · intro q
    unfold asB at q
    split at q
    · exact ⟨_, rfl, q⟩
    · exact q.elim
section
variable {ρ : Ev} {h : H3} {k : K1} {kb : KB} {kl : KL} {E : En} {a b c : WE} {t u : WT} {l : WA} {s s' : WS} {g : WG} {d e : D}
@[simp] theorem s_var {i : Nat} : wVar i ρ h k ↔ ∃ d, ρ[i]? = some (some d) ∧ k d h := Iff.rfl
@[simp] theorem s_c : wC d ρ h k ↔ k d h := Iff.rfl
@[simp] theorem s_w1 {r : D → H3 → K1 → Prop} : w1 r a ρ h k ↔ a ρ h fun d h1 => r d h1 k := Iff.rfl
@[simp] theorem s_w2 {r : D → D → H3 → K1 → Prop} : w2 r a b ρ h k ↔ a ρ h fun d h1 => b ρ h1 fun e h2 => r d e h2 k := Iff.rfl
@[simp] theorem s_nil : wNil ρ h kl ↔ kl [] h := Iff.rfl
@[simp] theorem s_cons : wCons a l ρ h kl ↔ a ρ h fun d h1 => l ρ h1 fun x h2 => kl (d :: x) h2 := Iff.rfl
@[simp] theorem s_L {r : List D → H3 → K1 → Prop} : wL r l ρ h k ↔ l ρ h fun x h1 => r x h1 k := Iff.rfl
@[simp] theorem s_if : wIf t a b ρ h k ↔ t ρ h fun c h1 => if c = true then a ρ h1 k else b ρ h1 k := Iff.rfl
@[simp] theorem s_B : wB a ρ h kb ↔ a ρ h fun d h1 => asB d fun c => kb c h1 := by simp only [wB, asB_iff]
@[simp] theorem s_and : wAnd t u ρ h kb ↔ t ρ h fun c h1 => if c = true then u ρ h1 kb else kb false h1 := Iff.rfl
@[simp] theorem s_or : wOr t u ρ h kb ↔ t ρ h fun c h1 => if c = true then kb true h1 else u ρ h1 kb := Iff.rfl
@[simp] theorem s_not : wNot t ρ h kb ↔ t ρ h fun c h1 => kb (!c) h1 := Iff.rfl
@[simp] theorem s_andV : wAndV a b ρ h k ↔ a ρ h fun d h1 => asB d fun c => if c = true then b ρ h1 k else k (.bl false) h1 := by simp only [wAndV, asB_iff]
@[simp] theorem s_orV : wOrV a b ρ h k ↔ a ρ h fun d h1 => asB d fun c => if c = true then k (.bl true) h1 else b ρ h1 k := by simp only [wOrV, asB_iff]
@[simp] theorem s_notV : wNotV a ρ h k ↔ a ρ h fun d h1 => asB d fun c => k (.bl (!c)) h1 := by simp only [wNotV, asB_iff]
@[simp] theorem s_tup {x : List D} : rTup x h k ↔ x.length ≤ 16777216 ∧ k (.tup x) h := Iff.rfl
@[simp] theorem s_lst {x : List D} : rLst x h k ↔ x.length ≤ 16777216 ∧ ∀ p, h p = none → k (.ref p) (up h p (.lst x)) := Iff.rfl
@[simp] theorem s_next : wNext E ρ h ↔ E.nx ρ h := Iff.rfl
@[simp] theorem s_seq : wSeq s s' E ρ h ↔ s { E with nx := s' E } ρ h := Iff.rfl
@[simp] theorem s_break : wBreak E ρ h ↔ E.bk ρ h := Iff.rfl
@[simp] theorem s_cont : wCont E ρ h ↔ E.ct ρ h := Iff.rfl
@[simp] theorem s_drop : wDrop a E ρ h ↔ a ρ h fun _ h1 => E.nx ρ h1 := Iff.rfl
@[simp] theorem s_ret : wRet a E ρ h ↔ a ρ h E.rt := Iff.rfl
@[simp] theorem s_retN : wRetN E ρ h ↔ E.rt .non h := Iff.rfl
@[simp] theorem s_ifS : wIfS t s s' E ρ h ↔ t ρ h fun c h1 => if c = true then s E ρ h1 else s' E ρ h1 := Iff.rfl
@[simp] theorem s_asg : wAsg a g E ρ h ↔ a ρ h fun d h1 => g d ρ h1 E.nx := Iff.rfl
@[simp] theorem s_gN {i : Nat} {kn : Ev → H3 → Prop} : gN i d ρ h kn ↔ kn (ρ.set i (some d)) h := Iff.rfl
@[simp] theorem s_gIx {kn : Ev → H3 → Prop} : gIx a b d ρ h kn ↔ a ρ h fun x h1 => b ρ h1 fun y h2 => rSetIx x y d h2 fun h3 => kn ρ h3 := Iff.rfl
@[simp] theorem s_gT {gs : List WG} {kn : Ev → H3 → Prop} {m : List D} : gT gs (.tup m) ρ h kn ↔ m.length = gs.length ∧ gT.go gs m ρ h kn := by
  constructor
  · rintro ⟨l, e, q⟩; cases e; exact q
  · intro q; exact ⟨m, rfl, q⟩
@[simp] theorem s_go_nil {m : List D} {kn : Ev → H3 → Prop} : gT.go [] m ρ h kn ↔ kn ρ h := Iff.rfl
@[simp] theorem s_go_cons {gs : List WG} {m : List D} {kn : Ev → H3 → Prop} : gT.go (g :: gs) (d :: m) ρ h kn ↔ g d ρ h fun ρ1 h1 => gT.go gs m ρ1 h1 kn := by
  constructor
  · rintro ⟨x, r, e, q⟩; cases e; exact q
  · intro q; exact ⟨d, m, rfl, q⟩
@[simp] theorem s_setIx {p : Addr} {n : Int} {kh : H3 → Prop} : rSetIx (.ref p) (.int n) d h kh ↔ ∃ l j, h p = some (.lst l) ∧ ixN l.length n = some j ∧ kh (up h p (.lst (l.set j d))) := by
  constructor
  · rintro ⟨_, _, l, j, e1, e2, q⟩; cases e1; cases e2; exact ⟨l, j, q⟩
  · rintro ⟨l, j, q⟩; exact ⟨p, n, l, j, rfl, rfl, q⟩
@[simp] theorem s_add_ii {i j : Int} : rAdd (.int i) (.int j) h k ↔ k (.int (i + j)) h := Iff.rfl
@[simp] theorem s_add_ss {i j : Str} : rAdd (.str i) (.str j) h k ↔ i.length + j.length ≤ 16777216 ∧ k (.str (i ++ j)) h := Iff.rfl
@[simp] theorem s_add_tt {i j : List D} : rAdd (.tup i) (.tup j) h k ↔ i.length + j.length ≤ 16777216 ∧ k (.tup (i ++ j)) h := Iff.rfl
@[simp] theorem s_add_ll {i j : Addr} : rAdd (.ref i) (.ref j) h k ↔ ∃ l m, h i = some (.lst l) ∧ h j = some (.lst m) ∧ l.length + m.length ≤ 16777216 ∧ ∀ p, h p = none → k (.ref p) (up h p (.lst (l ++ m))) := Iff.rfl
@[simp] theorem s_int {i j : Int} {C : Int → Int → Prop} {f : Int → Int → Int} : rInt C f (.int i) (.int j) h k ↔ C i j ∧ k (.int (f i j)) h := Iff.rfl
@[simp] theorem s_mul {i j : Int} : rMul (.int i) (.int j) h k ↔ ((-18446744073709551616 < i ∧ i < 18446744073709551616) ∨ (-18446744073709551616 < j ∧ j < 18446744073709551616)) ∧ k (.int (i * j)) h := Iff.rfl
@[simp] theorem s_mul_l {p : Addr} {n : Int} : rMul (.ref p) (.int n) h k ↔ ∃ l, h p = some (.lst l) ∧ -(2 ^ 63) ≤ n ∧ n < 2 ^ 63 ∧ l.length * n.toNat ≤ 16777216 ∧ ∀ p, h p = none → k (.ref p) (up h p (.lst (List.replicate n.toNat l).flatten)) := Iff.rfl
@[simp] theorem s_mul_s {z : Str} {n : Int} : rMul (.str z) (.int n) h k ↔ PySem.MulOk z n ∧ k (.str (PySem.Txt.mul z n)) h := Iff.rfl
@[simp] theorem s_neg {i : Int} : rNeg (.int i) h k ↔ k (.int (-i)) h := Iff.rfl
@[simp] theorem s_cmpI {i j : Int} {f : Int → Int → Bool} : rCmpI f (.int i) (.int j) h k ↔ k (.bl (f i j)) h := Iff.rfl
@[simp] theorem s_lt_ii {i j : Int} : rLt (.int i) (.int j) h k ↔ k (.bl (decide (i < j))) h := Iff.rfl
@[simp] theorem s_lt_ss {i j : Str} : rLt (.str i) (.str j) h k ↔ k (.bl (decide (i.cps.toList < j.cps.toList))) h := Iff.rfl
@[simp] theorem s_eq_ii {i j : Int} {n : Bool} : rEqN n (.int i) (.int j) h k ↔ k (.bl (decide (i = j) != n)) h := Iff.rfl
@[simp] theorem s_eq_ss {i j : Str} {n : Bool} : rEqN n (.str i) (.str j) h k ↔ k (.bl (decide (i = j) != n)) h := Iff.rfl
@[simp] theorem s_isN {n : Bool} : rIsN n d h k ↔ k (.bl (d.isN != n)) h := Iff.rfl
@[simp] theorem isN_non : D.isN .non = true := rfl
@[simp] theorem isN_bl {x : Bool} : D.isN (.bl x) = false := rfl
@[simp] theorem isN_int {x : Int} : D.isN (.int x) = false := rfl
@[simp] theorem isN_str {x : Str} : D.isN (.str x) = false := rfl
@[simp] theorem isN_tup {x : List D} : D.isN (.tup x) = false := rfl
@[simp] theorem isN_ref {x : Addr} : D.isN (.ref x) = false := rfl
@[simp] theorem s_ix_t {m : List D} {i : Int} : rIx (.tup m) (.int i) h k ↔ ∃ d, atI m i = some d ∧ k d h := Iff.rfl
@[simp] theorem s_ix_l {p : Addr} {i : Int} : rIx (.ref p) (.int i) h k ↔ ∃ l d, h p = some (.lst l) ∧ atI l i = some d ∧ k d h := Iff.rfl
@[simp] theorem s_ix_s {z : Str} {i : Int} : rIx (.str z) (.int i) h k ↔ z.length ≤ 16777216 ∧ ∃ c, atI z.cps.toList i = some c ∧ k (.str ⟨#[c]⟩) h := Iff.rfl
@[simp] theorem s_len_s {z : Str} : rLen [.str z] h k ↔ z.length ≤ 16777216 ∧ k (.int z.length) h := by
  constructor
  · rintro ⟨x, e, q⟩; cases e; exact q
  · intro q; exact ⟨_, rfl, q⟩
@[simp] theorem s_len_t {m : List D} : rLen [.tup m] h k ↔ k (.int m.length) h := by
  constructor
  · rintro ⟨x, e, q⟩; cases e; exact q
  · intro q; exact ⟨_, rfl, q⟩
@[simp] theorem s_len_l {p : Addr} : rLen [.ref p] h k ↔ ∃ l, h p = some (.lst l) ∧ k (.int l.length) h := by
  constructor
  · rintro ⟨x, e, q⟩; cases e; exact q
  · intro q; exact ⟨_, rfl, q⟩
theorem dg_dK {p : Addr} {kvs : List (Key × D)} {y : D} {o : Option D} (e : h p = some (.dK kvs)) : DG h p y o ↔ ∃ k, keyOf y = some k ∧ o = valD kvs k := by
  constructor
  · rintro (⟨kv, k, e', ek, q⟩ | ⟨kv, k, e', _⟩)
    · rw [e] at e'; cases e'; exact ⟨k, ek, q⟩
    · rw [e] at e'; cases e'
  · rintro ⟨k, ek, q⟩; exact .inl ⟨kvs, k, e, ek, q⟩
@[simp] theorem s_I1 {f : Int → Int} {i : Int} : rI1 f [.int i] h k ↔ k (.int (f i)) h := by
  constructor
  · rintro ⟨x, e, q⟩; cases e; exact q
  · intro q; exact ⟨i, rfl, q⟩
@[simp] theorem s_I2 {f : Int → Int → Int} {i j : Int} : rI2 f [.int i, .int j] h k ↔ k (.int (f i j)) h := by
  constructor
  · rintro ⟨x, y, e, q⟩; cases e; exact q
  · intro q; exact ⟨i, j, rfl, q⟩
@[simp] theorem s_toInt_i {i : Int} : rToInt [.int i] h k ↔ k (.int i) h := by
  constructor
  · rintro ⟨x, e, q⟩; cases e; exact q
  · intro q; exact ⟨_, rfl, q⟩
@[simp] theorem s_toInt_b {i : Bool} : rToInt [.bl i] h k ↔ k (.int (if i then 1 else 0)) h := by
  constructor
  · rintro ⟨x, e, q⟩; cases e; exact q
  · intro q; exact ⟨_, rfl, q⟩
@[simp] theorem s_tupOf_t {m : List D} : rTupleOf [.tup m] h k ↔ k (.tup m) h := by
  constructor
  · rintro ⟨x, e, q⟩; cases e; exact q
  · intro q; exact ⟨_, rfl, q⟩
@[simp] theorem s_tupOf_l {p : Addr} : rTupleOf [.ref p] h k ↔ ∃ l, h p = some (.lst l) ∧ k (.tup l) h := by
  constructor
  · rintro ⟨x, e, q⟩; cases e; exact q
  · intro q; exact ⟨_, rfl, q⟩
@[simp] theorem s_lstOf_t {m : List D} : rListOf [.tup m] h k ↔ ∀ p, h p = none → k (.ref p) (up h p (.lst m)) := by
  constructor
  · rintro ⟨x, e, q⟩; cases e; exact q
  · intro q; exact ⟨_, rfl, q⟩
@[simp] theorem s_lstOf_l {p : Addr} : rListOf [.ref p] h k ↔ ∃ l, h p = some (.lst l) ∧ ∀ p, h p = none → k (.ref p) (up h p (.lst l)) := by
  constructor
  · rintro ⟨x, e, q⟩; cases e; exact q
  · intro q; exact ⟨_, rfl, q⟩
@[simp] theorem s_dget {p : Addr} {y : D} : rDGet (.ref p) y h k ↔ ∃ v, DG h p y (some v) ∧ k v h := by
  constructor
  · rintro ⟨a, v, e, q⟩; cases e; exact ⟨v, q⟩
  · rintro ⟨v, q⟩; exact ⟨p, v, rfl, q⟩
@[simp] theorem s_fld {C : Addr} {N : List Str} {j : Nat} : wFld C N j a ρ h k ↔ a ρ h fun x h1 => ∃ p vs d, x = .ref p ∧ h1 p = some (.ins C N vs) ∧ vs[j]? = some d ∧ k d h1 := Iff.rfl
@[simp] theorem s_sl {lo hi : WO} : wSl a lo hi ρ h k ↔ a ρ h fun d h1 => lo ρ h1 fun x h2 => hi ρ h2 fun y h3 => rSl d x y h3 k := Iff.rfl
@[simp] theorem s_oNone {ko : Option Int → H3 → Prop} : oNone ρ h ko ↔ ko none h := Iff.rfl
@[simp] theorem s_oSome {ko : Option Int → H3 → Prop} : oSome a ρ h ko ↔ a ρ h fun d h1 => ∃ i, d = .int i ∧ ko (some i) h1 := Iff.rfl
@[simp] theorem s_sl_t {m : List D} {lo hi : Option Int} : rSl (.tup m) lo hi h k ↔ k (.tup (cutD m lo hi)) h := Iff.rfl
@[simp] theorem s_sl_l {p : Addr} {lo hi : Option Int} : rSl (.ref p) lo hi h k ↔ ∃ l, h p = some (.lst l) ∧ ∀ p, h p = none → k (.ref p) (up h p (.lst (cutD l lo hi))) := Iff.rfl
end
@[simp] theorem atI_lit {α : Type} {l : List α} {n : Nat} : atI l (no_index (OfNat.ofNat n : Int)) = l[n]? := by
  have e : (OfNat.ofNat n : Int) = (n : Int) := rfl
  rw [e]
  cases q : l[n]? with
  | some v => exact atI_nat q
  | none =>
    unfold atI ixN
    have hn : l.length ≤ n := List.getElem?_eq_none_iff.mp q
    rw [if_pos (by omega), if_neg (by omega)]; rfl
@[simp] theorem ixN_lit {m n : Nat} : ixN m (no_index (OfNat.ofNat n : Int)) = if n < m then some n else none := by
  have e : (OfNat.ofNat n : Int) = (n : Int) := rfl
  rw [e]
  unfold ixN
  rw [if_pos (by omega)]
  by_cases h : n < m
  · rw [if_pos (by omega), if_pos h]; rfl
  · rw [if_neg (by omega), if_neg h]
@[simp] theorem ev0_nil {N : List Str} : ev0 N [] = List.replicate N.length none := by simp [ev0]
theorem ofString_inj {a b : String} (h : Str.ofString a = Str.ofString b) : a = b := by
  have e1 := PyProof.Rows.signs_ofString a
  have e2 := PyProof.Rows.signs_ofString b
  rw [h] at e1
  have e : a.toList.map Char.toNat = b.toList.map Char.toNat := e1.symm.trans e2
  have inj : ∀ {l m : List Char}, l.map Char.toNat = m.map Char.toNat → l = m := by
    intro l
    induction l with
    | nil => intro m h; cases m with | nil => rfl | cons _ _ => simp at h
    | cons x l ih =>
      intro m h
      cases m with
      | nil => simp at h
      | cons y m =>
        simp only [List.map_cons, List.cons.injEq] at h
        have hx : x = y := Char.ext (UInt32.toNat_inj.mp h.1)
        rw [hx, ih h.2]
  exact String.ext_iff.mpr (inj e)
@[simp] theorem ofString_iff {a b : String} : Str.ofString a = Str.ofString b ↔ a = b := ⟨ofString_inj, fun e => by rw [e]⟩
/-! plain data -/
mutual
def D.py : D → PyData
  | .non => .none
  | .bl b => .bool b
  | .int i => .int i
  | .str x => .str x
  | .tup l => .tuple (D.pyL l)
  | .ref _ => .none
def D.pyL : List D → List PyData
  | [] => []
  | d :: l => d.py :: D.pyL l
end
mutual
/-- no list, no dict; its texts are texts -/
def D.ok : D → Bool
  | .str x => PyData.strOk x
  | .tup l => D.okL l
  | .ref _ => false
  | _ => true
def D.okL : List D → Bool
  | [] => true
  | d :: l => d.ok && D.okL l
end
mutual
theorem rs_py {h : H3} : ∀ {d : D}, d.ok = true → Rs h d d.py
  | .non, _ => .non
  | .bl b, _ => .bl b
  | .int i, _ => .int i
  | .str x, z => .str x z
  | .tup l, z => .tup (rsl_py (by simpa [D.ok] using z))
  | .ref _, z => by simp [D.ok] at z
theorem rsl_py {h : H3} : ∀ {l : List D}, D.okL l = true → RsL h l (D.pyL l)
  | [], _ => .nil
  | d :: l, z => by
    simp only [D.okL, Bool.and_eq_true] at z
    exact .cons (rs_py z.1) (rsl_py z.2)
end
theorem okL_iff : ∀ {l : List D}, D.okL l = true ↔ ∀ d ∈ l, d.ok = true
  | [] => by simp [D.okL]
  | d :: l => by simp [D.okL, okL_iff (l := l)]
theorem rEq_of {x y : D} {h : H3} {k : K1} {p q : PyData} {n : Bool} (hx : Rs h x p) (hy : Rs h y q) (hm : min p.depth q.depth ≤ 64) (qq : k (.bl (PyData.eqv p q != n)) h) : rEqN n x y h k := by
  unfold rEqN
  split
  · cases hx; cases hy
    simpa [PyData.eqv, Bool.beq_eq_decide_eq] using qq
  · cases hx; cases hy
    simpa [PyData.eqv, Bool.beq_eq_decide_eq] using qq
  · exact ⟨p, q, hx, hy, hm, qq⟩
theorem rEq_py {x y : D} {h : H3} {k : K1} {n : Bool} (hx : x.ok = true) (hy : y.ok = true) (hm : min x.py.depth y.py.depth ≤ 64) (qq : k (.bl (PyData.eqv x.py y.py != n)) h) : rEqN n x y h k := rEq_of (rs_py hx) (rs_py hy) hm qq
theorem rEq_nil {l : List D} {h : H3} {k : K1} {n : Bool} (hl : D.okL l = true) (qq : k (.bl (l.isEmpty != n)) h) : rEqN n (.tup l) (.tup []) h k := by
  refine rEq_of (.tup (rsl_py hl)) (.tup .nil) (Nat.le_trans (Nat.min_le_right _ _) (by decide)) ?_
  cases l with
  | nil => simpa [D.pyL, PyData.eqv, PyData.eqvAll] using qq
  | cons d l => simpa [D.pyL, PyData.eqv, PyData.eqvAll] using qq
theorem rEq_nilL {a b : Addr} {l : List D} {h : H3} {k : K1} {n : Bool} (ha : h a = some (.lst l)) (hb : h b = some (.lst [])) (hl : D.okL l = true) (qq : k (.bl (l.isEmpty != n)) h) : rEqN n (.ref a) (.ref b) h k := by
  refine rEq_of (.lst ha (rsl_py hl)) (.lst hb .nil) (Nat.le_trans (Nat.min_le_right _ _) (by decide)) ?_
  cases l <;> exact qq
end T3
end
-- T3Sort
section
set_option maxRecDepth 100000
set_option maxHeartbeats 4000000
/-! T3Sort: sorted. -/
namespace T3
open PySem PySem.Spec PySem.Calls PyProof.Rows PySem.W L2
/-- two rows of data that < can compare: alike up to the first place where they differ -/
def tOk : List PyData → List PyData → Prop
  | x :: xs, y :: ys => alike x y = true ∧ x ≠ .none ∧ (PyData.eqv x y = true → tOk xs ys)
  | _, _ => True
section
variable {prog : Program} {w : World} {A : Around} {s : Shared}
theorem depthAll_cons {x : PyData} {xs : List PyData} : x.depth ≤ PyData.depthAll (x :: xs) ∧ PyData.depthAll xs ≤ PyData.depthAll (x :: xs) := by
  simp only [PyData.depthAll]; omega
theorem katLex_tok {b fin : Bool} {Q : Bool → Shared → Prop} (hu : A.units + 64 < cLine) : ∀ (xs ys : List PyData) (i : Nat) (vs ws : List Value) (as bs : List Addr), ReadsAll s.heap vs xs as → ReadsAll s.heap ws ys bs → tOk xs ys →
    PyData.depthAll xs ≤ 64 → (b = true → i = 0 → ∀ x r t, xs = x :: r → x ≠ .tuple t) → fin = decide (xs.length < ys.length) → Q (PyProof.Rows.lexLt itemOrd (keyToksAll xs) (keyToksAll ys)) s → KatLex prog w A b fin Q (vs.zip ws) i s
  | [], [], i, _, _, _, _, ra, rb, _, _, _, hf, hq => by
    cases ra
    cases rb
    have e : fin = false := by rw [hf]; rfl
    subst e
    rw [lex_irrefl] at hq
    exact kat_nil hq
  | [], y :: ys, i, _, _, _, _, ra, rb, _, _, _, hf, hq => by
    cases ra
    have e : fin = true := by rw [hf]; exact decide_eq_true (Nat.succ_pos _)
    subst e
    rw [toks_all_cons] at hq
    simp only [keyToksAll] at hq
    rw [lex_diff (O := itemOrd) (by simp)] at hq
    rw [List.zip_nil_left]
    exact kat_nil (by simpa [itemLt] using hq)
  | x :: xs, [], i, _, _, _, _, ra, rb, _, _, _, hf, hq => by
    cases rb
    have e : fin = false := by rw [hf]; exact decide_eq_false (Nat.not_lt_zero _)
    subst e
    rw [toks_all_cons] at hq
    simp only [keyToksAll] at hq
    rw [lex_diff (O := itemOrd) (by simp)] at hq
    rw [List.zip_nil_right]
    exact kat_nil (by simpa [itemLt] using hq)
  | x :: xs, y :: ys, i, _, _, _, _, ra, rb, h, hd, hb, hf, hq => by
    obtain ⟨h1, hn, h2⟩ := h
    have hf' : fin = decide (xs.length < ys.length) := by
      rw [hf]
      simp only [List.length_cons, Nat.add_lt_add_iff_right]
    have hdx := depthAll_cons (x := x) (xs := xs)
    have hroom : A.units + min x.depth y.depth < cLine := by have := Nat.min_le_left x.depth y.depth; omega
    cases ra with
    | cons r rs =>
      cases rb with
      | cons r' rs' =>
        rw [List.zip_cons_cons]
        refine kat_cons (eqAt_alike x y A s _ _ _ _ r r' h1 hroom prog w _ _ ?_)
        cases hx : PyData.eqv x y with
        | true =>
          rw [dataLt_all_yes h1 hx] at hq
          exact kat_yes (katLex_tok hu xs ys (i + 1) _ _ _ _ rs rs' (h2 hx) (by omega) (fun _ hi => absurd hi (Nat.succ_ne_zero i)) hf' hq)
        | false =>
          rw [dataLt_all_no h1 hx] at hq
          refine kat_no (oneLt_alike (fun hbi t => ?_) r r' h1 hn hroom hq)
          rw [Bool.and_eq_true] at hbi
          exact hb hbi.1 (by simpa using hbi.2) x xs t rfl
/-- rows that sorted takes: tuples whose first items are of one type, or no tuples at all -/
def Srtb (ps : List PyData) : Prop :=
  (∃ T : Value, (T == T) = true ∧ (∀ p ∈ ps, ∃ x r, p = .tuple (x :: r) ∧ dataType x = T) ∧ ∀ xs ys, .tuple xs ∈ ps → .tuple ys ∈ ps → tOk xs ys) ∨
  (AllAlike ps ∧ ∀ p ∈ ps, p ≠ .none ∧ ∀ xs, p ≠ .tuple xs)
theorem swo_data {α : Type} (f : α → PyData) : SrtO.Swo fun x y => dataLt (f x) (f y) := by
  refine ⟨fun x y h => ?_, fun x y z h1 h2 => ?_⟩
  · cases e : dataLt (f y) (f x) with
    | false => rfl
    | true =>
      have := lex_trans (O := itemOrd) _ _ _ h e
      rw [lex_irrefl] at this; cases this
  · cases e : dataLt (f z) (f x) with
    | false => rfl
    | true =>
      rcases lex_negTrans (O := itemOrd) (keyToks (f z)) (keyToks (f y)) (keyToks (f x)) e with q | q
      · exact absurd (q.symm.trans h2) (by decide)
      · exact absurd (q.symm.trans h1) (by decide)
theorem sortable_data {h0 : Heap} {a : Addr} {vs : List Value} {f : Value → PyData} (h2 : 2 ≤ vs.length) (keep : ∀ b o, h0.get? b = some o → b ≠ a ∧ s.heap.get? b = some o)
    (hr : ∀ v ∈ vs, ∃ as, Reads h0 v (f v) as) (hd : ∀ v ∈ vs, (f v).depth ≤ 64) (hs : Srtb (vs.map f)) (hu : A.units + 64 < cLine) : SrtO.SortableO prog w A s a vs fun v u => dataLt (f v) (f u) := by
  intro h' kp
  have hr' : ∀ v ∈ vs, ∃ as, Reads h' v (f v) as := fun v hv => by
    obtain ⟨as, r⟩ := hr v hv
    exact ⟨as, PyProof.Rows.Reads.keeps (fun b o e => kp b o (keep b o e).1 (keep b o e).2) r⟩
  rcases hs with ⟨T, hT, ht, hok⟩ | ⟨hal, hn⟩
  · refine ⟨tuples' (T != Value.type "tuple"), fun Q E hq => ?_, ?_⟩
    · have e : EachIs (fun v d => ∃ as, Reads h' v d as) vs (vs.map f) := by
        clear hok ht hd hr h2
        induction vs with
        | nil => exact .nil
        | cons v vs ih => exact .cons (hr' v List.mem_cons_self) (ih fun u hu => hr' u (List.mem_cons_of_mem _ hu))
      obtain ⟨fs, t1, t2, t3⟩ := each_katTups e fun d hd => by
        obtain ⟨x, r, e, _⟩ := ht d hd
        exact ⟨x, r, e⟩
      refine kat_kind (T := T) t1 (by omega) (fun g hg => ?_) hT hq
      obtain ⟨x, r, as, m1, m2⟩ := t3 g hg
      obtain ⟨x', r', e', eT⟩ := ht _ m1
      cases e'
      rw [← eT]
      exact looks_reads m2
    · intro p q hp hq
      have hp' : f p.1 ∈ vs.map f := List.mem_map_of_mem hp
      have hq' : f q.1 ∈ vs.map f := List.mem_map_of_mem hq
      obtain ⟨as, ra⟩ := hr' _ hp
      obtain ⟨bs, rb⟩ := hr' _ hq
      have hdp := hd _ hp
      show wpAny (model prog w) A (keyLt' _ p.1 q.1) (fun r s' => s' = _ ∧ r = dataLt (f p.1) (f q.1)) _ _
      generalize f p.1 = dp at *
      generalize f q.1 = dq at *
      obtain ⟨x1, r1, rfl, e1⟩ := ht _ hp'
      obtain ⟨x2, r2, rfl, e2⟩ := ht _ hq'
      rw [dataLt_tuple]
      generalize p.1 = u at *
      generalize q.1 = v at *
      cases ra with
      | @tuple l o xs n _ _ k1 k2 k3 k4 =>
        cases rb with
        | @tuple l' o' xs' n' _ _ j1 j2 j3 j4 =>
          have n1 : xs.size = (x1 :: r1).length := by simpa using SeqAt.ReadsAll.length _ _ _ k4
          have n2 : xs'.size = (x2 :: r2).length := by simpa using SeqAt.ReadsAll.length _ _ _ j4
          refine kat_lt k1 k3 j1 j3 (katLex_tok hu (x1 :: r1) (x2 :: r2) 0 _ _ _ _ k4 j4 (hok _ _ hp' hq') ?_ (fun hb _ x r t ex => ?_) (by rw [n1, n2]) ⟨rfl, rfl⟩)
          · have : (PyData.tuple (x1 :: r1)).depth = PyData.depthAll (x1 :: r1) + 1 := by simp [PyData.depth]
            omega
          · obtain ⟨rfl, rfl⟩ := List.cons.inj ex
            rw [← e1] at hb
            exact dataType_tuple hb t
  · obtain ⟨v0, vr, rfl⟩ : ∃ v0 vr, vs = v0 :: vr := by
      cases vs with
      | nil => simp at h2
      | cons v0 vr => exact ⟨_, _, rfl⟩
    have m0 : f v0 ∈ (v0 :: vr).map f := List.mem_map_of_mem List.mem_cons_self
    refine ⟨oneType', fun Q E hq => ?_, ?_⟩
    · refine kas_kind (T := dataType (f v0)) h2 (fun v hv => ?_) (dataType_other (hn _ m0).2) (beq_self_eq_true _) hq
      obtain ⟨as, r⟩ := hr' v hv
      rw [← dataType_alike (hal _ (List.mem_map_of_mem hv) _ m0)]
      exact looks_reads r
    · intro p q hp hq
      obtain ⟨as, ra⟩ := hr' _ hp
      obtain ⟨bs, rb⟩ := hr' _ hq
      have hdp := hd _ hp
      show wpAny (model prog w) A (keyLt' _ p.1 q.1) (fun r s' => s' = _ ∧ r = dataLt (f p.1) (f q.1)) _ _
      rw [keyLt'_oneType]
      exact oneLt_alike (fun _ => (hn _ (List.mem_map_of_mem hp)).2) ra rb (hal _ (List.mem_map_of_mem hp) _ (List.mem_map_of_mem hq)) (hn _ (List.mem_map_of_mem hp)).1 (by have := Nat.min_le_left (f p.1).depth (f q.1).depth; omega) ⟨rfl, rfl⟩
end
/-- a value back to a V -/
def bk3 : Value → V
  | .ref a => .ref a
  | .int i _ => .int i
  | .str x _ => .str x
  | .bool b => .bl b
  | .bytes b _ => .byt b
  | .float b _ => .flt b
  | .type n => .ty n
  | _ => .non
theorem bk3_of {x : V} {u : Value} (r : RelV x u) : bk3 u = x := by
  cases x with
  | non => cases (show u = Value.none from r); rfl
  | bl b => cases (show u = Value.bool b from r); rfl
  | int i => obtain ⟨t, rfl⟩ := (show ∃ t, u = Value.int i t from r); rfl
  | str i => obtain ⟨t, rfl⟩ := (show ∃ t, u = Value.str i t from r); rfl
  | byt i => obtain ⟨t, rfl⟩ := (show ∃ t, u = Value.bytes i t from r); rfl
  | flt i => obtain ⟨t, rfl⟩ := (show ∃ t, u = Value.float i t from r); rfl
  | ref a => cases (show u = Value.ref a from r); rfl
  | ty n => cases (show u = Value.type n from r); rfl
theorem bk3_all : ∀ {xs : List V} {us : List Value}, Vals xs us → us.map bk3 = xs ∧ ∀ u ∈ us, RelV (bk3 u) u
  | _, _, .nil => ⟨rfl, fun u h => nomatch h⟩
  | _, _, .cons r t => by
    obtain ⟨h1, h2⟩ := bk3_all t
    refine ⟨by rw [List.map_cons, h1, bk3_of r], fun u hu => ?_⟩
    rcases List.mem_cons.mp hu with rfl | hu
    · rw [bk3_of r]; exact r
    · exact h2 u hu
theorem bk3_vals : ∀ {us : List Value}, (∀ u ∈ us, RelV (bk3 u) u) → Vals (us.map bk3) us
  | [], _ => .nil
  | u :: us, h => .cons (h u List.mem_cons_self) (bk3_vals fun v hv => h v (List.mem_cons_of_mem _ hv))
def rSortedV (K : PySem.W.Frag) : List V → Hp → VK → Prop := fun vs H Q => ∃ (a : Addr) (xs : List V) (f : V → PyData), vs = [V.ref a] ∧ SqL K H a xs ∧ (∀ x ∈ xs, Dp K H x (f x) ∧ (f x).depth ≤ 64) ∧ Srtb (xs.map f) ∧
  ∀ ys p, SrtO.Srtd (fun x y => dataLt (f x) (f y)) ys → ys.Perm xs → H p = none → Q (.ref p) (upd H p (.lst ys))
section
variable {X : Cx}
theorem cr_sortedV (hu : X.A.units + 70 < cLine) : CallR X (.builtin "sorted") (rSortedV X.K) := by
  intro pins s σ H vs us Q I r h
  obtain ⟨a, xs, f, rfl, hs, hx, hsb, q⟩ := h
  obtain ⟨its, rv, hl, hz⟩ := I.list hs
  obtain ⟨u, rfl, ru⟩ := vals1 r
  obtain rfl : u = Value.ref a := ru
  obtain ⟨e1, e2⟩ := bk3_all rv
  have hm : ∀ v ∈ its, bk3 v ∈ xs := fun v hv => by rw [← e1]; exact List.mem_map_of_mem hv
  refine SrtO.sorted_ord (ltv := fun v u => dataLt (f (bk3 v)) (f (bk3 u))) (swo_data _) hl.isList (by rw [← rv.length]; exact hz) (fun h2 h₁ a' ha' kp => ?_) fun out h1 h2 => ?_
  · refine sortable_data (h0 := s.heap) (f := fun v => f (bk3 v)) h2 kp (fun v hv => ?_) (fun v hv => (hx _ (hm v hv)).2) ?_ (by show X.A.units + 1 + 1 + 64 < cLine; omega)
    · exact Dp.reads I _ _ _ (hx _ (hm v hv)).1 (e2 v hv)
    · rw [show its.map (fun v => f (bk3 v)) = xs.map f by rw [← e1, List.map_map]; rfl]
      exact hsb
  · obtain ⟨c, hc⟩ := sortedAll_at s.heap its out.toArray
    have hd : s.heap.objs.size ≤ s.heap.objs.size + 1 := Nat.le_succ _
    have h3 : ∀ u ∈ out, RelV (bk3 u) u := fun u hu => e2 u (h2.perm.mem_iff.mp hu)
    have hb : (out.map bk3).Perm xs := by rw [← e1]; exact h2.perm.map _
    refine ⟨.ref (s.heap.objs.size + 1), upd H (s.heap.objs.size + 1) (.lst (out.map bk3)), I.laid (t' := s.toks) (fun _ _ => sortedAll_old) hd ⟨?_, out, c, bk3_vals h3, hc⟩, rfl, q _ _ (SrtO.srtd_map h1) hb (I.hok.fresh hd)⟩
    rw [hb.length_eq]
    exact hz
end
mutual
theorem DV.det {H : Hp} : ∀ {d e : D} {v : V}, d.ok = true → e.ok = true → DV H d v → DV H e v → d = e
  | .non, e, _, _, he, h1, h2 => by cases h1; cases h2; rfl
  | .bl b, e, _, _, he, h1, h2 => by cases h1; cases h2; rfl
  | .int b, e, _, _, he, h1, h2 => by cases h1; cases h2; rfl
  | .str b, e, _, _, he, h1, h2 => by cases h1; cases h2; rfl
  | .ref a, e, _, hd, he, h1, h2 => by simp [D.ok] at hd
  | .tup l, e, _, hd, he, h1, h2 => by
    cases h1 with
    | tup a1 r1 =>
      cases h2 with
      | ref => simp [D.ok] at he
      | tup a2 r2 =>
        rw [a1] at a2; cases a2
        rw [DVs.det (by simpa [D.ok] using hd) (by simpa [D.ok] using he) r1 r2]
theorem DVs.det {H : Hp} : ∀ {d e : List D} {v : List V}, D.okL d = true → D.okL e = true → DVs H d v → DVs H e v → d = e
  | [], _, _, _, _, h1, h2 => by cases h1; cases h2; rfl
  | d :: l, _, _, hd, he, h1, h2 => by
    cases h1 with
    | cons a1 r1 =>
      cases h2 with
      | cons a2 r2 =>
        simp only [D.okL, Bool.and_eq_true] at hd he
        rw [DV.det hd.1 he.1 a1 a2, DVs.det hd.2 he.2 r1 r2]
end
def ltD (x y : D) : Bool := dataLt x.py y.py
def rSorted : List D → H3 → K1 → Prop := fun as h k => ∃ a l, as = [.ref a] ∧ h a = some (.lst l) ∧ (∀ d ∈ l, d.ok = true ∧ d.py.depth ≤ 64) ∧ Srtb (l.map D.py) ∧
  ∀ ys p, ys.Perm l → ys.Pairwise (fun x y => ltD y x = false) → h p = none → k (.ref p) (up h p (.lst ys))
section
variable {X : Cx} {G : Sc}
open Classical in
noncomputable def unD (H : Hp) (v : V) : D := if q : ∃ d : D, d.ok = true ∧ DV H d v then q.choose else .non
theorem unD_of {H : Hp} {d : D} {v : V} (h : d.ok = true) (r : DV H d v) : unD H v = d := by
  have q : ∃ d : D, d.ok = true ∧ DV H d v := ⟨d, h, r⟩
  unfold unD
  rw [dif_pos q]
  exact DV.det q.choose_spec.1 h q.choose_spec.2 r
theorem unD_all {H : Hp} : ∀ {l : List D} {vs : List V}, (∀ d ∈ l, d.ok = true) → DVs H l vs → vs.map (unD H) = l ∧ ∀ v ∈ vs, DV H (unD H v) v ∧ unD H v ∈ l
  | _, _, _, .nil => ⟨rfl, fun v h => nomatch h⟩
  | d :: l, v :: vs, h, .cons r t => by
    obtain ⟨h1, h2⟩ := unD_all (fun e he => h e (List.mem_cons_of_mem _ he)) t
    have e := unD_of (h d List.mem_cons_self) r
    refine ⟨by rw [List.map_cons, h1, e], fun u hu => ?_⟩
    rcases List.mem_cons.mp hu with rfl | hu
    · rw [e]; exact ⟨r, List.mem_cons_self⟩
    · exact ⟨(h2 u hu).1, List.mem_cons_of_mem _ (h2 u hu).2⟩
theorem unD_back {H : Hp} : ∀ {vs : List V}, (∀ v ∈ vs, DV H (unD H v) v) → DVs H (vs.map (unD H)) vs
  | [], _ => .nil
  | v :: vs, h => .cons (h v List.mem_cons_self) (unD_back fun u hu => h u (List.mem_cons_of_mem _ hu))
theorem rf_sorted (hu : X.A.units + 70 < cLine) : RfL G (UC X (.builtin "sorted")) rSorted := by
  intro l vs h H k Q rel dv ⟨a, m, el, ha, hok, hs, q⟩ post
  subst el
  cases dv with
  | cons d1 t1 =>
    cases t1
    cases d1
    obtain ⟨ws, e1, r1⟩ := rel.lst ha
    obtain ⟨u1, u2⟩ := unD_all (fun d hd => (hok d hd).1) r1
    refine ⟨_, cr_sortedV hu, a, ws, fun v => (unD H v).py, rfl, .of e1, fun x hx => ?_, ?_, fun ys p hsrt hp np => ?_⟩
    · obtain ⟨z1, z2⟩ := u2 x hx
      exact ⟨(rs_py (hok _ z2).1).dp rel z1, (hok _ z2).2⟩
    · rw [show ws.map (fun v => (unD H v).py) = m.map D.py by rw [← u1, List.map_map]; rfl]
      exact hs
    · have dvs : DVs H (ys.map (unD H)) ys := unD_back fun v hv => (u2 v (hp.mem_iff.mp hv)).1
      refine post_lst post rel dvs (fun p np => q _ p ?_ ?_ np) np
      · rw [← u1]; exact hp.map _
      · exact List.pairwise_map.mpr hsrt
end
theorem room70 {k : Nat} {A : Around} (r : Room k A) : A.units + 70 < cLine := by have := r.un; omega
end T3
end
-- T3Ast
section
set_option maxRecDepth 100000
set_option maxHeartbeats 4000000
/-! T3Ast: the small programs as data of my own. -/
namespace T3
open PySem L2
inductive Ex where
  | int (n : Int) | var (v : Int) | cell (a : Str) (e : Ex) | one (o : Str) (e : Ex) | two (o : Str) (e f : Ex)
inductive Sm where
  | set (v : Int) (e : Ex) | take (v : Int) | put (e : Ex) | store (a : Str) (e f : Ex) | assert (k : Int) (e : Ex) | call (v : Int) (p : Str) (es : List Ex)
inductive Nd where
  | go (l : Int) | iff (e : Ex) (l m : Int) | ret (e : Ex)
structure Bk where
  label : Int
  body : List Sm
  nd : Nd
structure Pr where
  name : Str
  params : Int
  blocks : List Bk
structure Pg where
  w : Int
  arrays : List (Str × Int)
  procs : List Pr
def Ex.toD : Ex → D
  | .int n => .tup [.str "int", .int n]
  | .var v => .tup [.str "var", .int v]
  | .cell a e => .tup [.str "cell", .str a, e.toD]
  | .one o e => .tup [.str o, e.toD]
  | .two o e f => .tup [.str o, e.toD, f.toD]
def Sm.toD : Sm → D
  | .set v e => .tup [.str "set", .int v, e.toD]
  | .take v => .tup [.str "take", .int v]
  | .put e => .tup [.str "put", e.toD]
  | .store a e f => .tup [.str "store", .str a, e.toD, f.toD]
  | .assert k e => .tup [.str "assert", .int k, e.toD]
  | .call v p es => .tup [.str "call", .int v, .str p, .tup (es.map Ex.toD)]
def Nd.toD : Nd → D
  | .go l => .tup [.str "go", .int l]
  | .iff e l m => .tup [.str "if", e.toD, .int l, .int m]
  | .ret e => .tup [.str "return", e.toD]
def Bk.toD (b : Bk) : D := .tup [.int b.label, .tup (b.body.map Sm.toD), b.nd.toD]
def Pr.toD (p : Pr) : D := .tup [.str p.name, .int p.params, .tup (p.blocks.map Bk.toD)]
def arD (a : Str × Int) : D := .tup [.str a.1, .int a.2]
def Pg.toD (p : Pg) : D := .tup [.int p.w, .tup (p.arrays.map arD), .tup (p.procs.map Pr.toD)]
def pairOps : List Str := ["add", "sub", "mul", "and", "or", "xor", "shl", "shr", "less", "equal"]
def singleOps : List Str := ["not", "neg"]
/-- an expression, nested at most n deep, of words below top, over arrays -/
def Ex.Wf (top : Int) (ars : List (Str × Int)) : Nat → Ex → Prop
  | 0, _ => False
  | _ + 1, .int n => 0 ≤ n ∧ n < top
  | _ + 1, .var v => 0 ≤ v ∧ v ≤ 39
  | n + 1, .cell a e => (∃ z, (a, z) ∈ ars) ∧ e.Wf top ars n
  | n + 1, .one o e => o ∈ singleOps ∧ e.Wf top ars n
  | n + 1, .two o e f => o ∈ pairOps ∧ e.Wf top ars n ∧ f.Wf top ars n
theorem Ex.Wf.mono {top : Int} {ars : List (Str × Int)} : ∀ {n m : Nat} {e : Ex}, e.Wf top ars n → n ≤ m → e.Wf top ars m
  | 0, _, _, h, _ => h.elim
  | n + 1, m, e, h, hm => by
    obtain ⟨m, rfl⟩ : ∃ k, m = k + 1 := ⟨m - 1, by omega⟩
    have hm : n ≤ m := by omega
    cases e with
    | int => exact h
    | var => exact h
    | cell a e => exact ⟨h.1, h.2.mono hm⟩
    | one o e => exact ⟨h.1, h.2.mono hm⟩
    | two o e f => exact ⟨h.1, h.2.1.mono hm, h.2.2.mono hm⟩
def Sm.Wf (top : Int) (ars : List (Str × Int)) (others : List (Str × Int)) : Sm → Prop
  | .set v e => (0 ≤ v ∧ v ≤ 39) ∧ e.Wf top ars 5
  | .take v => 0 ≤ v ∧ v ≤ 39
  | .put e => e.Wf top ars 5
  | .store a e f => (∃ z, (a, z) ∈ ars) ∧ e.Wf top ars 5 ∧ f.Wf top ars 5
  | .assert k e => (0 ≤ k ∧ k ≤ 99) ∧ e.Wf top ars 5
  | .call v p es => (0 ≤ v ∧ v ≤ 39) ∧ (p, (es.length : Int)) ∈ others ∧ ∀ e ∈ es, e.Wf top ars 5
def Nd.Wf (top : Int) (ars : List (Str × Int)) (labels : List Int) : Nd → Prop
  | .go l => l ∈ labels
  | .iff e l m => e.Wf top ars 5 ∧ l ∈ labels ∧ m ∈ labels
  | .ret e => e.Wf top ars 5
end T3
end
-- T3Gen
section
set_option maxRecDepth 100000
set_option maxHeartbeats 4000000
/-! T3Gen: the promises of the laws' drawing defs. -/
namespace T3
open PySem PySem.Spec L2
theorem en_rt {k : K1} {d : D} {h : H3} (q : k d h) : (en k).rt d h := ⟨h, Sub.refl h, q⟩
theorem en_rt' {k : K1} {d : D} {h h' : H3} (q : k d h) (s : Sub h h') : (en k).rt d h' := ⟨h, s, q⟩
theorem atI_pos {α : Type} {l : List α} {i : Int} (h0 : 0 ≤ i) (h1 : i < l.length) : atI l i = some (l[i.toNat]'(by omega)) := by
  obtain ⟨n, rfl⟩ := Int.eq_ofNat_of_zero_le h0
  have hn : n < l.length := by omega
  exact atI_nat (List.getElem?_eq_getElem hn)
theorem atI_in {α : Type} {l : List α} {i : Int} (h0 : 0 ≤ i) (h1 : i < l.length) : ∃ x ∈ l, atI l i = some x := ⟨_, List.getElem_mem _, atI_pos h0 h1⟩
/-- the draw at dr -/
def Drw (h : H3) (dr : Addr) : Prop := ∃ (c : Addr) (ns : List Int) (i q s : Int), h dr = some (.lst [.ref c, .int i, .int q, .int s]) ∧ h c = some (.lst (ns.map .int)) ∧ -1 ≤ i ∧ 0 ≤ q ∧ 0 ≤ s ∧ ∀ n ∈ ns, 0 ≤ n
theorem Drw.ne {h : H3} {dr c : Addr} {ns : List Int} {i q s : Int} (hd : h dr = some (.lst [.ref c, .int i, .int q, .int s])) (hc : h c = some (.lst (ns.map .int))) : c ≠ dr := fun z => by
  subst z; rw [hd] at hc
  have := congrArg (fun o => match o with | some (O.lst (D.ref _ :: _)) => true | _ => false) hc
  cases ns <;> simp at this
theorem Drw.mk' {h : H3} {dr c : Addr} {ns : List Int} {i' q' s' : Int} (hcd : c ≠ dr) (hc : h c = some (.lst (ns.map .int))) (hi : -1 ≤ i') (hq : 0 ≤ q') (hs : 0 ≤ s') (hn : ∀ n ∈ ns, 0 ≤ n) : Drw (up h dr (.lst [.ref c, .int i', .int q', .int s'])) dr :=
  ⟨c, ns, i', q', s', up_same, by rw [up_ne hcd]; exact hc, hi, hq, hs, hn⟩
theorem Drw.some {h : H3} {dr : Addr} (d : Drw h dr) : h dr ≠ none := by
  obtain ⟨c, ns, i, q, s, e, _⟩ := d
  rw [e]; exact fun z => nomatch z
/-- h' is h but for the draw, and what was made since -/
structure Grow (dr : Addr) (h h' : H3) : Prop where
  keep : ∀ a o, a ≠ dr → h a = some o → h' a = some o
  drw : Drw h' dr
  same : ∀ c r, h dr = some (.lst (.ref c :: r)) → ∃ r', h' dr = some (.lst (.ref c :: r'))
theorem Grow.upd {dr c : Addr} {h : H3} {r r' : List D} (e : h dr = some (.lst (.ref c :: r))) (d : Drw (up h dr (.lst (.ref c :: r'))) dr) : Grow dr h (T3.up h dr (.lst (.ref c :: r'))) :=
  ⟨fun a u n e => by rw [up_ne n]; exact e, d, fun c' r0 e' => by rw [e] at e'; cases e'; exact ⟨r', up_same⟩⟩
theorem Grow.refl {dr : Addr} {h : H3} (d : Drw h dr) : Grow dr h h := ⟨fun _ _ _ e => e, d, fun _ r e => ⟨r, e⟩⟩
theorem Grow.trans {dr : Addr} {h h1 h2 : H3} (a : Grow dr h h1) (b : Grow dr h1 h2) : Grow dr h h2 := ⟨fun c o n e => b.keep c o n (a.keep c o n e), b.drw, fun c r e => let ⟨_, e'⟩ := a.same c r e; b.same c _ e'⟩
theorem Drw.new {h : H3} {dr p : Addr} {o : O} (d : Drw h dr) (n : h p = none) : Drw (T3.up h p o) dr := by
  obtain ⟨c, ns, i, q, s, e, e2, r⟩ := d
  have h1 : dr ≠ p := fun z => by subst z; rw [n] at e; cases e
  have h2 : c ≠ p := fun z => by subst z; rw [n] at e2; cases e2
  exact ⟨c, ns, i, q, s, by rw [up_ne h1]; exact e, by rw [up_ne h2]; exact e2, r⟩
/-- something new -/
theorem Grow.new {dr p : Addr} {h h' : H3} {o : O} (g : Grow dr h h') (n : h' p = none) : Grow dr h (T3.up h' p o) :=
  ⟨fun a u ha e => by
    have e' := g.keep a u ha e
    have hp : a ≠ p := fun z => by subst z; rw [n] at e'; cases e'
    rw [up_ne hp]; exact e', g.drw.new n, fun c r e => by
    obtain ⟨r', e'⟩ := g.same c r e
    have hp : dr ≠ p := fun z => by subst z; rw [n] at e'; cases e'
    exact ⟨r', by rw [up_ne hp]; exact e'⟩⟩
/-- a thing of ours, newer than h, is written -/
theorem Grow.write {dr p : Addr} {h h' : H3} {o : O} (g : Grow dr h h') (d : Drw h dr) (n : h p = none) : Grow dr h (T3.up h' p o) := by
  obtain ⟨c, ns, i, q, s, e, e2, r⟩ := d
  have hdp : dr ≠ p := fun z => by subst z; rw [n] at e; cases e
  have hcp : c ≠ p := fun z => by subst z; rw [n] at e2; cases e2
  have hcd := Drw.ne e e2
  refine ⟨fun a u ha e => ?_, ?_, fun c' r' e' => ?_⟩
  · have hp : a ≠ p := fun z => by subst z; rw [n] at e; cases e
    rw [up_ne hp]; exact g.keep a u ha e
  · obtain ⟨c', ns', i', q', s', e', e2', r'⟩ := g.drw
    obtain ⟨r0, e0⟩ := g.same c _ e
    rw [e0] at e'
    cases e'
    exact ⟨c, ns', i', q', s', by rw [up_ne hdp]; exact e0, by rw [up_ne hcp]; exact e2', r'⟩
  · obtain ⟨r0, e0⟩ := g.same c' r' e'
    exact ⟨r0, by rw [up_ne hdp]; exact e0⟩
theorem Drw.fresh {h : H3} {dr p : Addr} (d : Drw h dr) (n : h p = none) : p ≠ dr := fun z => by subst z; exact d.some n
theorem Grow.born {dr p : Addr} {h h' : H3} {o : O} (d : Drw h dr) (n : h p = none) (g : Grow dr (T3.up h p o) h') : Grow dr h h' ∧ h' p = some o :=
  ⟨((Grow.refl d).new n).trans g, g.keep p _ (d.fresh n) up_same⟩
def p2 (n : Int) : Int := 2 ^ n.toNat
theorem p2_pos {n : Int} : 0 < p2 n := Int.pow_pos (by decide)
theorem p2_le {n m : Int} (h : n ≤ m) : p2 n ≤ p2 m := by
  unfold p2
  have : (2 : Nat) ^ n.toNat ≤ 2 ^ m.toNat := Nat.pow_le_pow_right (by decide) (by omega)
  have e : ∀ k : Nat, (2 : Int) ^ k = ((2 ^ k : Nat) : Int) := fun k => by simp
  rw [e, e]; omega
theorem p2_16 {n : Int} (h : n ≤ 16) : p2 n ≤ 65536 := p2_le (m := 16) h
/-! promises -/
def sp_take : Sp3 := fun l h k => ∃ (dr : Addr) (many : Int), l = [.ref dr, .int many] ∧ Drw h dr ∧ 0 < many ∧ (many < 1073741824 ∨ many.natAbs.log2 < 9000) ∧ ∀ r h', 0 ≤ r → r < many → Grow dr h h' → k (.int r) h'
def sp_top : Sp3 := fun l h k => ∃ w : Int, l = [.int w] ∧ 0 ≤ w ∧ w ≤ 1000 ∧ k (.int (p2 w - 1)) h
def sp_ops : Sp3 := fun l h k => l = [] ∧ ∀ p, h p = none → k (.ref p) (up h p (.lst (pairOps.map .str)))
def sp_variable : Sp3 := fun l h k => ∃ dr : Addr, l = [.ref dr] ∧ Drw h dr ∧ ∀ r h', 0 ≤ r → r ≤ 39 → Grow dr h h' → k (.int r) h'
def sp_word : Sp3 := fun l h k => ∃ (dr : Addr) (w : Int), l = [.ref dr, .int w] ∧ Drw h dr ∧ 1 ≤ w ∧ w ≤ 16 ∧ ∀ r h', 0 ≤ r → r < p2 w → Grow dr h h' → k (.int r) h'
/-- what is drawn for -/
structure PAt (h : H3) (p dr : Addr) (w : Int) (ars : List (Str × Int)) : Prop where
  at_ : h p = some (.dK [(.inr "draw", .ref dr), (.inr "width", .int w), (.inr "arrays", .tup (ars.map arD))])
  w1 : 1 ≤ w
  w2 : w ≤ 16
  few : ars.length ≤ 3
  sz : ∀ a ∈ ars, 1 ≤ a.2 ∧ a.2 ≤ 8
  okn : ∀ a ∈ ars, PyData.strOk a.1 = true
theorem PAt.grow {h h' : H3} {p dr : Addr} {w : Int} {ars : List (Str × Int)} (x : PAt h p dr w ars) (g : Grow dr h h') (d : Drw h dr) : PAt h' p dr w ars :=
  ⟨g.keep _ _ (fun z => by
    obtain ⟨c, ns, i, q, s, e, _⟩ := d
    have := x.at_
    rw [z, e] at this; cases this) x.at_, x.w1, x.w2, x.few, x.sz, x.okn⟩
theorem PAt.okL {h : H3} {p dr : Addr} {w : Int} {ars : List (Str × Int)} (x : PAt h p dr w ars) : D.okL (ars.map arD) = true := by
  rw [okL_iff]
  intro d hd
  obtain ⟨a, ha, rfl⟩ := List.mem_map.mp hd
  simp [arD, D.ok, D.okL, x.okn a ha]
def sp_expression (n : Nat) : Sp3 := fun l h k => ∃ (p dr : Addr) (w : Int) (ars : List (Str × Int)) (depth : Int), l = [.ref p, .int depth] ∧ (0 ≤ depth ∧ depth < n) ∧ Drw h dr ∧ PAt h p dr w ars ∧
  ∀ (e : Ex) h', e.Wf (p2 w) ars (n + 2) → Grow dr h h' → k e.toD h'
def sp_index (n : Nat) : Sp3 := fun l h k => ∃ (p dr : Addr) (w : Int) (ars : List (Str × Int)) (size depth : Int), l = [.ref p, .int size, .int depth] ∧ 1 ≤ size ∧ size ≤ 8 ∧ (0 ≤ depth ∧ depth < n) ∧ Drw h dr ∧ PAt h p dr w ars ∧
  ∀ (e : Ex) h', e.Wf (p2 w) ars (n + 2) → Grow dr h h' → k e.toD h'
def othD (a : Str × Int) : D := .tup [.str a.1, .int a.2]
def sp_row : Sp3 := fun l h k => ∃ (p dr oa : Addr) (w : Int) (ars others : List (Str × Int)), l = [.ref p, .ref oa] ∧ Drw h dr ∧ PAt h p dr w ars ∧ h oa = some (.lst (others.map othD)) ∧ others.length ≤ 2 ∧ (∀ o ∈ others, (0 ≤ o.2 ∧ o.2 ≤ 3) ∧ PyData.strOk o.1 = true) ∧
  ∀ (e : Sm) h', e.Wf (p2 w) ars others → Grow dr h h' → k e.toD h'
/-- a comprehension that draws -/
theorem lc_grow {dr p : Addr} {i : Nat} {e : WE} {ρ : Ev} {k : K1} {h0 : H3} {P : D → Prop} (hd : Drw h0 dr) (np : h0 p = none) {l : List D} (hl : l.length ≤ 1000)
    (step : ∀ h x, x ∈ l → Grow dr h0 h → ∀ K : K1, (∀ d h2, P d → Grow dr h h2 → K d h2) → e (ρ.set i (some x)) h K)
    (done : ∀ m h', m.length = l.length → (∀ d ∈ m, P d) → Grow dr h0 h' → h' p = some (.lst m) → k (.ref p) h') :
    lcW (fun _ => True) i wYes e p ρ k l (up h0 p (.lst [])) := by
  have gen : ∀ (r : List D) (acc : List D) (h : H3), (∀ x ∈ r, x ∈ l) → acc.length + r.length = l.length → (∀ d ∈ acc, P d) → Grow dr h0 h → h p = some (.lst acc) → lcW (fun _ => True) i wYes e p ρ k r h := by
    intro r
    induction r with
    | nil =>
      intro acc h _ hlen ha g e0
      exact ⟨trivial, done acc h (by simpa using hlen) ha g e0⟩
    | cons x r ih =>
      intro acc h hx hlen ha g e0
      refine ⟨trivial, ?_⟩
      simp only [wYes, if_true]
      refine step h x (hx x List.mem_cons_self) g _ fun d h2 pd g2 => ?_
      have hpd : p ≠ dr := hd.fresh np
      have e2 := g2.keep p _ hpd e0
      simp only [List.length_cons] at hlen
      refine ⟨acc, e2, by omega, _, Sub.refl _, ?_⟩
      refine ih (acc ++ [d]) _ (fun y hy => hx y (List.mem_cons_of_mem _ hy)) (by simp; omega) (fun y hy => ?_) ((g.trans g2).write hd np) up_same
      rcases List.mem_append.mp hy with hy | hy
      · exact ha y hy
      · rw [List.mem_singleton.mp hy]; exact pd
  exact gen l [] _ (fun x hx => hx) (by simp) (fun _ h => nomatch h) ((Grow.refl hd).new np) up_same
@[simp] theorem lcs_rg1 {t : WA} {i : Nat} {tt : WT} {e : WE} {ρ : Ev} {h : H3} {k : K1} : wLc (wRg1 t) i tt e ρ h k ↔ t ρ h fun l h1 => ∃ j : Int, l = [.int j] ∧ -4611686018427387904 ≤ j ∧ j < 4611686018427387904 ∧ ∀ p, h1 p = none → lcW (fun _ => True) i tt e p ρ k (rgD 0 j.toNat) (up h1 p (.lst [])) := Iff.rfl
def lcD (i : Nat) (tt : WT) (e : WE) (ρ : Ev) (k : K1) : D → H3 → Prop
  | .tup l, h1 => ∀ p, h1 p = none → lcW (fun _ => True) i tt e p ρ k l (up h1 p (.lst []))
  | .ref a, h1 => (∃ l, h1 a = some (.lst l)) ∧ ∀ p, h1 p = none → ∃ l, h1 a = some (.lst l) ∧ lcW (fun h => h a = some (.lst l)) i tt e p ρ k l (up h1 p (.lst []))
  | .str z, h1 => ∀ p, h1 p = none → lcW (fun _ => True) i tt e p ρ k (z.cps.toList.map fun c => .str ⟨#[c]⟩) (up h1 p (.lst []))
  | _, _ => False
@[simp] theorem lcs_it {a : WE} {i : Nat} {tt : WT} {e : WE} {ρ : Ev} {h : H3} {k : K1} : wLc (wIter a) i tt e ρ h k ↔ a ρ h (lcD i tt e ρ k) := by
  refine Iff.of_eq (congrArg (a ρ h) ?_)
  funext d h1
  cases d <;> rfl
@[simp] theorem lcD_tup {i : Nat} {tt : WT} {e : WE} {ρ : Ev} {k : K1} {l : List D} {h1 : H3} : lcD i tt e ρ k (.tup l) h1 ↔ ∀ p, h1 p = none → lcW (fun _ => True) i tt e p ρ k l (up h1 p (.lst [])) := Iff.rfl
@[simp] theorem lcD_ref {i : Nat} {tt : WT} {e : WE} {ρ : Ev} {k : K1} {a : Addr} {h1 : H3} : lcD i tt e ρ k (.ref a) h1 ↔ (∃ l, h1 a = some (.lst l)) ∧ ∀ p, h1 p = none → ∃ l, h1 a = some (.lst l) ∧ lcW (fun h => h a = some (.lst l)) i tt e p ρ k l (up h1 p (.lst [])) := Iff.rfl
/-- a comprehension of no effect, over a list that stays -/
theorem lc_pure {chk : H3 → Prop} {p : Addr} {i : Nat} {tt : WT} {e : WE} {ρ : Ev} {k : K1} {h0 : H3} {l : List D} (t : D → Bool) (f : D → D) (hl : l.length < 16777216)
    (hc : ∀ o h, Sub (up h0 p o) h → chk h)
    (tst : ∀ x ∈ l, ∀ o h, Sub (up h0 p o) h → ∀ K : Bool → H3 → Prop, (∀ h2, Sub h h2 → K (t x) h2) → tt (ρ.set i (some x)) h K)
    (step : ∀ x ∈ l, t x = true → ∀ o h, Sub (up h0 p o) h → ∀ K : K1, (∀ h2, Sub h h2 → K (f x) h2) → e (ρ.set i (some x)) h K)
    (done : k (.ref p) (up h0 p (.lst ((l.filter t).map f)))) : lcW chk i tt e p ρ k l (up h0 p (.lst [])) := by
  have gen : ∀ (r a : List D), a ++ r = l → lcW chk i tt e p ρ k r (up h0 p (.lst ((a.filter t).map f))) := by
    intro r
    induction r with
    | nil =>
      intro a e0
      simp only [List.append_nil] at e0
      subst e0
      exact ⟨hc _ _ (Sub.refl _), done⟩
    | cons x r ih =>
      intro a e0
      have hx : x ∈ l := by rw [← e0]; exact List.mem_append_right _ List.mem_cons_self
      have ih' := ih (a ++ [x]) (by simpa using e0)
      have hlen := congrArg List.length e0
      simp only [List.length_append, List.length_cons] at hlen
      refine ⟨hc _ _ (Sub.refl _), tst x hx _ _ (Sub.refl _) _ fun h1 s1 => ?_⟩
      have hfl : ((a.filter t).map f).length ≤ a.length := by rw [List.length_map]; exact List.length_filter_le _ _
      cases hb : t x with
      | true =>
        simp only [if_true]
        refine step x hx hb _ _ s1 _ fun h2 s2 => ?_
        refine ⟨_, s2 _ _ (s1 _ _ up_same), by omega, _, ?_, ih'⟩
        have e1 : ((a ++ [x]).filter t).map f = (a.filter t).map f ++ [f x] := by simp [List.filter_append, hb]
        rw [e1]
        intro b u eb
        by_cases hbp : b = p
        · subst hbp; rw [up_same] at eb ⊢; exact eb
        · rw [up_ne hbp] at eb ⊢; exact s2 _ _ (s1 _ _ (by rw [up_ne hbp]; exact eb))
      | false =>
        refine ⟨_, s1, ?_⟩
        have e1 : ((a ++ [x]).filter t).map f = (a.filter t).map f := by simp [List.filter_append, hb]
        rw [e1] at ih'
        exact ih'
  exact gen l [] rfl
theorem lc_map {chk : H3 → Prop} {p : Addr} {i : Nat} {e : WE} {ρ : Ev} {k : K1} {h0 : H3} {l : List D} (f : D → D) (hl : l.length < 16777216)
    (hc : ∀ o h, Sub (up h0 p o) h → chk h)
    (step : ∀ x ∈ l, ∀ o h, Sub (up h0 p o) h → ∀ K : K1, (∀ h2, Sub h h2 → K (f x) h2) → e (ρ.set i (some x)) h K)
    (done : k (.ref p) (up h0 p (.lst (l.map f)))) : lcW chk i wYes e p ρ k l (up h0 p (.lst [])) := by
  refine lc_pure (fun _ => true) f hl hc (fun _ _ _ _ _ _ q => q _ (Sub.refl _)) (fun x hx _ => step x hx) ?_
  rw [List.filter_eq_self.mpr (fun _ _ => rfl)]; exact done
/-- over range(n) -/
theorem lc_rg {chk : H3 → Prop} {p : Addr} {i : Nat} {e : WE} {ρ : Ev} {k : K1} {h0 : H3} {n : Nat} (f : Nat → D) (hl : n < 16777216)
    (hc : ∀ o h, Sub (up h0 p o) h → chk h)
    (step : ∀ x, x < n → ∀ o h, Sub (up h0 p o) h → ∀ K : K1, (∀ h2, Sub h h2 → K (f x) h2) → e (ρ.set i (some (.int x))) h K)
    (done : k (.ref p) (up h0 p (.lst ((List.range n).map f)))) : lcW chk i wYes e p ρ k (rgD 0 n) (up h0 p (.lst [])) := by
  refine lc_map (fun d => match d with | .int j => f j.toNat | _ => .non) (by simpa [rgD] using hl) hc (fun x hx => ?_) ?_
  · simp [rgD] at hx
    obtain ⟨j, hj, rfl⟩ := hx
    exact step j hj
  · rw [show (rgD 0 n).map _ = (List.range n).map f by simp [rgD]]; exact done
@[simp] theorem fors_rg1 {t : WA} {g : WG} {body : WS} {E : En} {ρ : Ev} {h : H3} : wFor (wRg1 t) g body E ρ h ↔ t ρ h fun l h1 => ∃ j : Int, l = [.int j] ∧ -4611686018427387904 ≤ j ∧ j < 4611686018427387904 ∧ forW (fun _ => True) g body E (rgD 0 j.toNat) ρ h1 := Iff.rfl
def forD (g : WG) (body : WS) (E : En) (ρ : Ev) : D → H3 → Prop
  | .tup l, h1 => forW (fun _ => True) g body E l ρ h1
  | .ref a, h1 => (∃ l, h1 a = some (.lst l)) ∧ ∃ l, h1 a = some (.lst l) ∧ forW (fun h => h a = some (.lst l)) g body E l ρ h1
  | .str z, h1 => forW (fun _ => True) g body E (z.cps.toList.map fun c => .str ⟨#[c]⟩) ρ h1
  | _, _ => False
@[simp] theorem fors_it {a : WE} {g : WG} {body : WS} {E : En} {ρ : Ev} {h : H3} : wFor (wIter a) g body E ρ h ↔ a ρ h (forD g body E ρ) := by
  refine Iff.of_eq (congrArg (a ρ h) ?_)
  funext d h1
  cases d <;> rfl
@[simp] theorem forD_tup {g : WG} {body : WS} {E : En} {ρ : Ev} {l : List D} {h1 : H3} : forD g body E ρ (.tup l) h1 ↔ forW (fun _ => True) g body E l ρ h1 := Iff.rfl
@[simp] theorem forD_ref {g : WG} {body : WS} {E : En} {ρ : Ev} {a : Addr} {h1 : H3} : forD g body E ρ (.ref a) h1 ↔ (∃ l, h1 a = some (.lst l)) ∧ ∃ l, h1 a = some (.lst l) ∧ forW (fun h => h a = some (.lst l)) g body E l ρ h1 := Iff.rfl
@[simp] theorem forD_str {g : WG} {body : WS} {E : En} {ρ : Ev} {z : Str} {h1 : H3} : forD g body E ρ (.str z) h1 ↔ forW (fun _ => True) g body E (z.cps.toList.map fun c => .str ⟨#[c]⟩) ρ h1 := Iff.rfl
/-- a for with an invariant -/
theorem for_inv {chk : H3 → Prop} {g : WG} {body : WS} {E : En} {l : List D} {ρ : Ev} {h : H3} (I : Nat → Ev → H3 → Prop)
    (hc : ∀ j ρ h, j ≤ l.length → I j ρ h → chk h) (h0 : I 0 ρ h)
    (step : ∀ j x ρ h, l[j]? = some x → I j ρ h → ∀ N : Ev → H3 → Prop, (∀ ρ2 h2, I (j + 1) ρ2 h2 → N ρ2 h2) → g x ρ h fun ρ1 h1 => body { nx := N, ct := N, bk := E.nx, rt := E.rt } ρ1 h1)
    (done : ∀ ρ h, I l.length ρ h → E.nx ρ h) : forW chk g body E l ρ h := by
  have gen : ∀ (r : List D) (j : Nat), j ≤ l.length → l.drop j = r → ∀ ρ h, I j ρ h → forW chk g body E r ρ h := by
    intro r
    induction r with
    | nil =>
      intro j hj ej ρ h q
      have : j = l.length := by have := congrArg List.length ej; simp at this; omega
      subst this
      exact ⟨hc _ _ _ hj q, done _ _ q⟩
    | cons x r ih =>
      intro j hj ej ρ h q
      have hx : l[j]? = some x := by have z := List.getElem?_drop (xs := l) (i := j) (j := 0); rw [ej] at z; simpa using z.symm
      have hlt : j < l.length := by
        rcases Nat.lt_or_ge j l.length with z | z
        · exact z
        · rw [List.getElem?_eq_none z] at hx; cases hx
      refine ⟨hc _ _ _ hj q, step j x ρ h hx q _ fun ρ2 h2 q2 => ⟨h2, Sub.refl _, ih (j + 1) (by omega) ?_ _ _ q2⟩⟩
      rw [← List.drop_drop, ej]; rfl
  exact gen l 0 (by omega) rfl ρ h h0
def lbl (gap : Int) (k : Nat) : Int := (5 + gap * k) % 17
def Bk.Wf (top : Int) (ars others : List (Str × Int)) (labels : List Int) (b : Bk) : Prop := b.label ∈ labels ∧ (b.body.length ≤ 4 ∧ ∀ s ∈ b.body, s.Wf top ars others) ∧ b.nd.Wf top ars labels.tail
structure BksWf (top : Int) (ars others : List (Str × Int)) (bs : List Bk) : Prop where
  lab : ∃ (gap : Int) (n : Nat), 1 ≤ gap ∧ gap ≤ 3 ∧ 1 ≤ n ∧ n ≤ 6 ∧ bs.map Bk.label = (List.range n).map (lbl gap)
  each : ∀ b ∈ bs, b.Wf top ars others (bs.map Bk.label)
def sp_blocks : Sp3 := fun l h k => ∃ (p dr oa : Addr) (w : Int) (ars others : List (Str × Int)) (blocks rows : Int), l = [.ref p, .ref oa, .int blocks, .int rows] ∧ 1 ≤ blocks ∧ blocks ≤ 6 ∧ 1 ≤ rows ∧ rows ≤ 4 ∧ Drw h dr ∧ PAt h p dr w ars ∧ h oa = some (.lst (others.map othD)) ∧ others.length ≤ 2 ∧ (∀ o ∈ others, (0 ≤ o.2 ∧ o.2 ≤ 3) ∧ PyData.strOk o.1 = true) ∧
  ∀ (bs : List Bk) h', BksWf (p2 w) ars others bs → Grow dr h h' → k (.tup (bs.map Bk.toD)) h'
end T3
end
-- T3Super
section
set_option maxRecDepth 100000
set_option maxHeartbeats 4000000
/-! T3Super: an own error below ValueError whose __init__ says super().__init__(at) and self.at = at. -/
namespace T3
open PySem PySem.Spec PySem.Calls PyProof.Rows PySem.W L2
section
variable {P : Program} {w : World} {K : PySem.W.Frag} {mg : Str → Option Value} {base : Heap}
/-- what the class at C, its __init__ at f, and the module show -/
structure SupC (P : Program) (K : PySem.W.Frag) (f C cc cda : Addr) (fd : FuncData) (scope : Scope) (a1 : Arg) : Prop where
  hp : (fd.params.posonlyargs ++ fd.params.args).head? = some a1
  hc : ∃ vs file tf ccl cdd ccs, K.lookup cda = some ⟨ccl, cdd, .fields vs, ccs⟩ ∧ vs[2]? = some (.str file tf) ∧ ((P.main.file : Str) == file) = true
  hcell : ∃ cl cld csl, K.lookup cc = some ⟨cl, cld, .cell (some (.ref C)), csl⟩
  hsub : PySem.W.mroIn K C (.ref C) = some true
  hks : scope.names.lookup ("super" : Str) = some .globalImplicit
  hkc : scope.names.lookup ("__class__" : Str) = some .free
  hka : scope.names.lookup a1.arg = some .local
  hk : scope.kind = .function
  htop : (P.main.scope.names.lookup ("super" : Str)).isSome = false
/-- how super().__init__(an) is evaluated -/
def SupEv (q : Str) (scope : Scope) (L f cc cda : Addr) (an : Str) (p0 p1 p2 ap pos : Pos) : Prop := ∃ pl : Sem Bool,
  eval (.Call (.Attribute (.Call (.Name "super" p0) [] [] p1) "__init__" p2) [.Name an ap] [] pos) (ksEnv q scope L f (.ref cda) cc) = (do
      let ov ← attributeBase (.Call (.Name "super" p0) [] [] p1) "__init__" (ksEnv q scope L f (.ref cda) cc) (eval (.Call (.Name "super" p0) [] [] p1) (ksEnv q scope L f (.ref cda) cc))
      standAt p2.atName
      let (f', first) ← holding [ov] (getMethod ov "__init__" pl)
      callWith pos f' first (backTo pos (starEach [.Name an ap] (ksEnv q scope L f (.ref cda) cc))) [])
/-- super().__init__(e), at the heap -/
theorem super_init {A : Around} {E : Value → Shared → Prop} {s : Shared} {body : List Stmt} {q : Str} {scope : Scope} {L f C cc cda x t1 : Addr} {fd : FuncData} {a1 : Arg} {oc : Value} {od : Option Addr} {osl : Array (Option Value)}
    {p0 p1 p2 pos : Pos} {an : Str} {ap : Pos} {u : Value} {m : Str → Option Value} {Q : Value → Shared → Prop}
    (hev : SupEv q scope L f cc cda an p0 p1 p2 ap pos) (T : SupC P K f C cc cda fd scope a1) (O : OexC K C) (KX : K.In s.heap) (hf : K.lookup f = some ⟨oc, od, .func fd, osl⟩) (hns : s.heap.Ns L m) (hv : m a1.arg = some (.ref x)) (hu : m an = some u) (hlu : scope.names.lookup an = some .local) (hda : (an == ("__debug__" : Str)) = false)
    (gl : s.heap.Ns mainGlobals mg) (gn : mg "super" = none) (bl : ∃ mb, s.heap.Ns builtinsNs mb ∧ ∀ x : Str, x ≠ "__name__" → mb x = bootBuiltins x)
    (ho : nsIn K cStatics "thirdparty.any" = some none) (hB : subIn K (.ref C) (.type "ValueError") = some true) (hm : ks_superIn K C C "__init__" = some (some (.builtin "ValueError.__init__")))
    (hx : s.heap.get? x = some ({ cls := .ref C, dict := none, data := .fields #[.ref t1, .none, .none, .none, .bool false, .none] } : Obj))
    (h : ∀ h' tk t2, (∀ b o, b ≠ x → s.heap.get? b = some o → h'.get? b = some o) → h'.get? x = some ({ cls := .ref C, dict := none, data := .fields #[.ref t2, .none, .none, .none, .bool false, .none] } : Obj) → Q .none { s with heap := h', toks := tk }) :
    _root_.PySem.wpAt (model P w) A (.func body (ksEnv q scope L f (.ref cda) cc)) (eval (.Call (.Attribute (.Call (.Name "super" p0) [] [] p1) "__init__" p2) [.Name an ap] [] pos) (ksEnv q scope L f (.ref cda) cc)) Q E s := by
  obtain ⟨vs, file, tf, ccl, cdd, ccs, hcode, hvs, hfile⟩ := T.hc
  obtain ⟨cl, cld, csl, hcell⟩ := T.hcell
  obtain ⟨nm, qn, N, bs, bm, sn, sub, ab, col, dd, k0, k1, k2, k3, k5, hC, hbm⟩ := O.cls
  have hcl : PySem.W.clsIn K C = some { name := nm, bases := bs, mro := .ref C :: bm, ns := N, qualname := qn, hasDict := true, slotNames := sn, subclasses := sub, abstract := ab, collection := col, hasDel := false } := by unfold PySem.W.clsIn; rw [hC] <;> rfl
  obtain ⟨pl, hev⟩ := hev
  refine ks_wpAt_MethodCall (pl := pl) ?_ hev
  obtain ⟨hh, g, d, t, os⟩ := s
  have oC := KX _ _ hC
  refine ks_wpAt_super_base (env := ksEnv q scope L f (.ref cda) cc) T.hks T.hkc (by decide) rfl (KX _ _ hf) rfl T.hp rfl (KX _ _ hcode) rfl hvs hfile T.htop ?_
  obtain ⟨mb, b1, b2⟩ := bl
  refine ks_loadName_global T.hk T.hks (loadGlobal_builtin (env := ksEnv q scope L f (.ref cda) cc) gl gn b1 ((b2 "super" (by decide)).trans (by decide +kernel)) ⟨rfl, ?_⟩)
  refine wpAny_loadName_free T.hk T.hkc rfl ⟨_, KX _ _ hcell, rfl⟩ ?_
  refine wpAny_loadName_local T.hk T.hka hns hv ?_
  refine ks_wpAny_isType_cls oC rfl ⟨rfl, ?_⟩
  refine ks_wpAny_call_super oC rfl hx rfl (fun c e => by cases e) (looks_mroIn KX T.hsub) (fun h1 e1 k1 => ?_)
  have KX1 : K.In h1 := KX.keeps k1
  have hI : Looks (model P w) h1 (isInstance (.ref x) (.type "ValueError")) true := (InstAt.type (C := C) (od := none) ⟨k1 _ _ hx, rfl, rfl, trivial⟩).andThen (looks_subIn KX1 hB)
  unfold ks_superIn at hm
  rw [hcl] at hm
  have hxC : x ≠ C := fun z => by
    have y := k1 _ _ hx
    rw [z] at y
    have y2 := KX1 _ _ hC
    rw [y2] at y
    cases y
  refine kxs_getMethod kxs_ValueError e1 (looks_opaque KX1 ho) (l₀ := .ref C :: bm) ?_ rfl KX1 hm hI hxC (by decide) ?_
  · exact fun A Q E s k q => wpAny_bind ((looks_clsIn KX1 hcl) A _ E s k (wpAny_pure q))
  have hw1 : (h1.push (kxs_mw "ValueError.__init__" x)).get? h1.objs.size = some (kxs_mw "ValueError.__init__" x) := Heap.get?_push_at rfl rfl
  have k2 : ∀ b o, hh.get? b = some o → (h1.push (kxs_mw "ValueError.__init__" x)).get? b = some o := fun b o e => Heap.get?_push_of_some _ (k1 b o e)
  have KX2 : K.In (h1.push (kxs_mw "ValueError.__init__" x)) := KX.keeps k2
  have hst : starEach [.Name an ap] (ksEnv q scope L f (.ref cda) cc) = (false, eval (.Name an ap) (ksEnv q scope L f (.ref cda) cc)) :: starEach [] (ksEnv q scope L f (.ref cda) cc) := by rfl
  have step : wpAny (model P w) A (spliced (backTo pos (starEach [.Name an ap] (ksEnv q scope L f (.ref cda) cc)))) (fun vs s₁ => KxsAt "ValueError.__init__" h1.objs.size x s₁.heap ∧ wpAny (model P w) A (call (.ref h1.objs.size) ([] ++ vs)) Q E s₁) E ⟨h1.push (kxs_mw "ValueError.__init__" x), g, d, t + 1, os⟩ := by
    refine spliced_more ?_ hst
    refine wpAny_Name (wpAny_loadName_local T.hk hlu (hns.keeps k2) hu ?_) hda
    refine spliced_none ⟨hw1, ?_⟩
    show wpAny _ _ (call (.ref h1.objs.size) [u]) _ _ _
    refine wpAny_call (codeAny_of_tree ?_)
    show wpAny _ A.in1 (callAny (.ref h1.objs.size) ⟨[u], []⟩) _ _ _
    simp only [callAny]
    refine wpAny_bind (wpAny_load hw1 ?_)
    simp only [kxs_mw, show (Value.type "method-wrapper" == Value.type "method" || Value.type "method-wrapper" == Value.type "builtin_function_or_method" || Value.type "method-wrapper" == Value.type "method-wrapper") = true by decide, if_true]
    refine KFB.if_so (by decide) ?_
    refine wpAny_bind (check_bound_init F.excBase_ValueError.toExcCallFacts (KX2 _ _ hC) (k2 _ _ hx) rfl ?_)
    refine wpAny_bind (wpAny_pure (wpAny_pure ?_))
    refine ⟨plainId_quiet F.excBase_ValueError.init.plain _, codeAny_builtin F.excBase_ValueError.initEntry ?_⟩
    refine exc_init_tree (cls := .ref C) (t0 := t1) (dv := none) (c2 := .none) (c3 := .none) (b4 := .bool false) (k2 _ _ hx) (by simp [sizeLine]) fun h3 e3 x3 _ => ?_
    exact h h3 _ _ (fun b o hb e => e3 b o hb (k2 b o e)) x3
  show wpAny _ _ (callWith pos (.ref h1.objs.size) [] (backTo pos (starEach [.Name an ap] (ksEnv q scope L f (.ref cda) cc))) []) _ _ _
  rw [hst] at step ⊢
  exact kxs_callWith (i := "ValueError.__init__") (x := x) rfl (evalArgs_plain step)
/-- the promise of that __init__ -/
def spSup (C : Addr) (fld : Str) : Sp := fun vs H Q _ => ∃ (a : Addr) (y : V), vs = [.ref a, y] ∧ H a = some (exo a C none) ∧ ∀ dx, H dx = none → dx ≠ a → Q .non (upd (upd H dx (exd dx [(fld, y)])) a (exo a C (some dx)))
theorem fn_sup {CX : CXT} {k : Nat} {f C cc cda : Addr} {name qual : Str} {params : Arguments} {scope : Scope} {dV kV doc pm ct oc : Value} {anD od : Option Addr} {osl : Array (Option Value)} {a1 : Arg} {an fld : Str}
    {p0 p1 p2 pos ap sp ep tp vp xp : Pos}
    (lk : K.lookup f = some ⟨oc, od, .func (ksFn name qual params [.Expr (.Call (.Attribute (.Call (.Name "super" p0) [] [] p1) "__init__" p2) [.Name an ap] [] pos) ep, .Assign [.Attribute (.Name a1.arg tp) fld vp] (.Name an xp) sp] scope dV kV doc pm anD (.ref cda) ct cc), osl⟩)
    (hcd : PySem.W.codeIn K (.ref cda) qual = true)
    (hev : ∀ L, SupEv qual scope L f cc cda an p0 p1 p2 ap pos) (T : SupC P K f C cc cda (ksFn name qual params [.Expr (.Call (.Attribute (.Call (.Name "super" p0) [] [] p1) "__init__" p2) [.Name an ap] [] pos) ep, .Assign [.Attribute (.Name a1.arg tp) fld vp] (.Name an xp) sp] scope dV kV doc pm anD (.ref cda) ct cc) scope a1) (O : OexC K C)
    (hne : a1.arg ≠ an) (hlu : scope.names.lookup an = some .local) (hda : (an == ("__debug__" : Str)) = false) (hda1 : (a1.arg == ("__debug__" : Str)) = false) (hcda : (an == ("__classdict__" : Str)) = false) (hcda1 : (a1.arg == ("__classdict__" : Str)) = false)
    (hkinds : ∀ x ∈ scope.names, x.2 ≠ .cell ∧ (x.2 = .free → x.1 = "__class__"))
    (gn : mg "super" = none) (ho : nsIn K cStatics "thirdparty.any" = some none) (hB : subIn K (.ref C) (.type "ValueError") = some true) (hm : ks_superIn K C C "__init__" = some (some (.builtin "ValueError.__init__")))
    (hfl : PySem.W.findIn K (.ref C) fld = some none)
    (hin : ∀ L, interactive (ksEnv qual scope L f (.ref cda) cc) = false) (hsw : ∀ L, swapsWith (.Call (.Attribute (.Call (.Name "super" p0) [] [] p1) "__init__" p2) [.Name an ap] [] pos) none ep.line (ksEnv qual scope L f (.ref cda) cc) = pure false)
    (hsw2 : ∀ L, swapsWith (.Name an xp) (some (.Attribute (.Name a1.arg tp) fld vp)) sp.line (ksEnv qual scope L f (.ref cda) cc) = pure false)
    (hco : scope.isCoroutine = false) (hgen : scope.isGenerator = false) :
    FnOk P w K mg base CX (k + 1) f (ksFn name qual params [.Expr (.Call (.Attribute (.Call (.Name "super" p0) [] [] p1) "__init__" p2) [.Name an ap] [] pos) ep, .Assign [.Attribute (.Name a1.arg tp) fld vp] (.Name an xp) sp] scope dV kV doc pm anD (.ref cda) ct cc) [a1.arg, an] (spSup C fld) := by
  refine ⟨fun vs H Q E ⟨a, y, e, _⟩ => by rw [e]; rfl, fun A outer s H args us vs Q E hr e0 hb r hsp => ?_⟩
  obtain ⟨a, y, rfl, ha, q⟩ := hsp
  obtain ⟨u0, u1, rfl, r0, r1⟩ := vals2 r
  obtain rfl : u0 = Value.ref a := r0
  have KX : K.In s.heap := e0.mod.kin.keeps fun b o e => (e0.bs b o e).1
  have lim : s.heap.NoLimit := e0.mod.nolimit.keeps fun b o e => (e0.bs b o e).1
  refine ks_codeAny_call_defAt (binds := [(a1.arg, .ref a), (an, u1)]) hr.depth (KX _ _ lk) rfl lim (codeRec_of KX hcd) rfl hb (fun x hx => (hkinds x hx).1) (fun x hx => ?_) (fun h₁ hns hk₁ => ?_) hco hgen T.hk
  · simp only [List.mem_cons, List.not_mem_nil, or_false] at hx
    rcases hx with rfl | rfl
    · exact T.hka
    · exact hlu
  generalize hL : s.heap.objs.size = L at hns
  have m1 : (fun x => List.lookup x [(a1.arg, Value.ref a), (an, u1)].reverse) a1.arg = some (.ref a) := by
    show List.lookup a1.arg [(an, u1), (a1.arg, Value.ref a)] = _
    have e : (a1.arg == an) = false := beq_eq_false_iff_ne.mpr hne
    simp [List.lookup, e]
  have m2 : (fun x => List.lookup x [(a1.arg, Value.ref a), (an, u1)].reverse) an = some u1 := by
    show List.lookup an [(an, u1), (a1.arg, Value.ref a)] = _
    simp [List.lookup]
  obtain ⟨t1, hx0⟩ := exo_at e0.hok ha
  obtain ⟨cl, cld, csl, hcell⟩ := T.hcell
  let X : Cx := Cx.mk P w K mg base (A.deeper (ksEnv qual scope L f (.ref cda) cc)) [a1.arg, an] s H (ksEnv qual scope L f (.ref cda) cc) outer (ksEnv qual scope L f (.ref cda) cc :: outer) [] (fun _ => false) true []
    (fun e s' => wpAny (model P w) (A.deeper (ksEnv qual scope L f (.ref cda) cc)) (leaving (ksEnv qual scope L f (.ref cda) cc) e) (fun _ s'' => CX outer H s E e s'') (fun e' s'' => CX outer H s E e' s'') s')
  have hcc : ∀ {x : Str} {c : Addr}, (ksEnv qual scope L f (.ref cda) cc).cells.lookup x = some c → x = "__class__" ∧ c = cc := fun {x c} h => by
    have h : List.lookup x [("__class__", cc)] = some c := h
    simp only [List.lookup] at h
    split at h
    · rename_i e
      exact ⟨by simpa using e, by cases h; rfl⟩
    · cases h
  have Hcc : H cc = none := (e0.bs cc _ (e0.mod.kin _ _ hcell)).2
  have mem_of : ∀ {x : Str} {kd : NameKind}, scope.names.lookup x = some kd → (x, kd) ∈ scope.names := fun h => PySem.mem_of_lookup h
  have I : Inv X [] [some (.ref a), some y] H { s with heap := h₁, toks := s.toks + 2 } := by
    refine ⟨⟨e0.mod, T.hk, rfl, rfl, Nat.le_of_eq hL, fun x z c h1 h2 => (hcc h1).1.trans (hcc h2).1.symm, fun x hx => ?_, fun x c h _ => (by cases h), fun _ => hr.hd, Around.frames_deeper e0.frames, .inr ⟨rfl, rfl⟩, fun b z => (by cases z), e0.bs, e0.bsz, fun b _ _ z => (by cases z), fun b z => (by cases z), e0.funs, e0.frf⟩,
      rfl, e0.bare, Un.kept hk₁, ⟨_, hns, fun i x v h1 h2 h3 => ?_⟩, fun x c h => ?_, e0.hok.fresh (Nat.le_of_eq hL), fun x c h => ?_, fun p hp => (by cases hp), e0.hok.kept hk₁, rfl⟩
    · rcases hx with hx | hx
      · exact absurd rfl (hkinds _ (mem_of hx)).1
      · have := (hkinds _ (mem_of hx)).2 rfl
        have e : x = "__class__" := this
        subst e
        exact ⟨cc, by show List.lookup (Str.ofString "__class__") [(Str.ofString "__class__", cc)] = some cc; simp [List.lookup]⟩
    · match i, h1, h2 with
      | 0, h1, h2 =>
        obtain rfl : a1.arg = x := Option.some.inj h1
        obtain rfl : V.ref a = v := Option.some.inj (Option.some.inj h2)
        exact ⟨.ref a, rfl, .inl ⟨T.hka, m1⟩⟩
      | 1, h1, h2 =>
        obtain rfl : an = x := Option.some.inj h1
        obtain rfl : y = v := Option.some.inj (Option.some.inj h2)
        exact ⟨u1, r1, .inl ⟨hlu, m2⟩⟩
      | i + 2, h1, h2 => cases h1
    · rw [(hcc h).2]
      exact ⟨_, _, hk₁ _ _ (KX _ _ hcell), rfl⟩
    · rw [(hcc h).2]; exact Hcc
  have fin : ∀ {σ' : L2.St} {H' : Hp} {v : V} {u : Value} {s' : Shared}, Inv X [] σ' H' s' → RelV v u → Q v H' → CE outer P w H s Q u s' :=
    fun {σ' H' v u s'} J rv q => ⟨v, H', J.os, J.bare, J.base, J.hok, rv, q⟩
  refine ks_wpAt_execs_cons (ks_wpAt_Expr_any ?_ (hin L) (hsw L))
  have bl := e0.mod.blt
  refine super_init (mg := mg) (hev L) T O (KX.keeps hk₁) lk hns m1 m2 hlu hda (e0.mod.glob.keeps fun b o e => hk₁ b o (e0.bs b o e).1) gn (by
    obtain ⟨mb, b1, b2⟩ := bl
    exact ⟨mb, b1.keeps fun b o e => hk₁ b o (e0.bs b o e).1, b2⟩) ho hB hm (hk₁ _ _ hx0) (fun h' tk t2 k3 x3 => ?_)
  refine wpAt_of_wpAny ?_
  have J : Inv X [] [some (.ref a), some y] H { s with heap := h', toks := tk } := by
    have J := I.write (t' := tk) (x := a) (e := a) (o := exo a C none) (h' := h') (by rw [ha]; exact True.intro) (.inl rfl) k3 ⟨_, x3⟩ (exo_ok x3)
    have eu : upd H a (exo a C none) = H := by
      funext b
      by_cases hb : b = a
      · rw [hb, upd_same, ha]
      · rw [upd_ne hb]
    rw [eu] at J
    exact J
  have hps : PSs X [.Assign [.Attribute (.Name a1.arg tp) fld vp] (.Name an xp) sp] (tOst K fld (tVar 0) (tVar 1)) :=
    pss_one (ps_ost (X := X) (pe_var (i := 0) rfl (.inl T.hka) hda1 hcda1) (pe_var (i := 1) rfl (.inl hlu) hda hcda) (hsw2 L))
  refine wpAny_mono (hps.run [] _ _ H { nx := fun _ H' => Q .non H', rt := Q } J ⟨y, rfl, .ref a, rfl, a, C, rfl, O, hfl, .inl ⟨ha, fun dx n ne => q dx n ne⟩⟩) (fun fl s' hs => ?_) fun e s' hs => hs
  cases fl with
  | ret u =>
    obtain ⟨v, σ', H', J, rv, q⟩ := hs
    exact fin J rv q
  | next =>
    obtain ⟨σ', H', J, q⟩ := hs
    exact fin (v := V.non) (u := Value.none) J rfl q
  | brk =>
    obtain ⟨_, _, _, q⟩ := hs
    exact False.elim q
  | cont =>
    obtain ⟨_, _, _, q⟩ := hs
    exact False.elim q
end
end T3
end
-- T3Exc
section
set_option maxRecDepth 100000
set_option maxHeartbeats 4000000
/-! T3Exc: an own error with one field, raised through defs. -/
namespace T3
open PySem PySem.Spec PyProof.Rows L2
theorem inv_per {X : Cx} {pins : List (Addr × Obj)} {σ : L2.St} {H : Hp} {s : Shared} (I : Inv X pins σ H s) : Per X.H_0 H := ⟨I.base.tups, I.base.frzs⟩
/-- ex is what is wanted of the error's field and the heap behind it -/
def PostX (G : Sc) (C : Addr) (fld : Str) (H0 : Hp) (ex : D → H3 → Prop) (E : XK) : Prop := ∀ v h' x H' d, ex v h' → Rel G h' H' → Per H0 H' → DV H' v x → H' d = some (.xd [(fld, x)]) → E (.ref C) (some d) H'
theorem PostX.per {G : Sc} {C : Addr} {fld : Str} {H H' : Hp} {ex : D → H3 → Prop} {E : XK} (q : PostX G C fld H ex E) (p : Per H H') : PostX G C fld H' ex E := fun v h' x H2 d a b c e f => q v h' x H2 d a b (p.trans c) e f
/-- the context's wish, that may know the names -/
def XF (X : Cx) (G : Sc) (C : Addr) (fld : Str) (ex : Ev → D → H3 → Prop) : Prop := ∃ W : WX, Takes X W ∧ ∀ ρ v h' x H' d σ, ex ρ v h' → Rel G h' H' → Per X.H_0 H' → EvR H' ρ σ → DV H' v x → H' d = some (.xd [(fld, x)]) → W (.ref C) (some d) σ H'
/-- a def's wish -/
def XF0 (X : Cx) (G : Sc) (C : Addr) (fld : Str) (ex : D → H3 → Prop) : Prop := ∃ W : WX, Takes X W ∧ ∀ v h' x H' d σ, ex v h' → Rel G h' H' → Per X.H_0 H' → DV H' v x → H' d = some (.xd [(fld, x)]) → W (.ref C) (some d) σ H'
theorem XF0.xf {X : Cx} {G : Sc} {C : Addr} {fld : Str} {ex : D → H3 → Prop} (h : XF0 X G C fld ex) : XF X G C fld fun _ => ex :=
  let ⟨W, tk, q⟩ := h
  ⟨W, tk, fun _ v h' x H' d σ a b c _ e f => q v h' x H' d σ a b c e f⟩
abbrev XS3 := (D → H3 → Prop) → Sp3
def spX (G : Sc) (C : Addr) (fld : Str) (sp : XS3) : Sp := fun vs H Q E => ∃ l h k ex, Rel G h H ∧ DVs H l vs ∧ sp ex l h k ∧ Post G H k Q ∧ PostX G C fld H ex E
def FdX (P : Program) (w : World) (K : PySem.W.Frag) (mg : Str → Option Value) (base : Heap) (G : Sc) (C : Addr) (fld : Str) (x : Str) (k : Nat) (sp : XS3) : Prop :=
  ∃ f fd ps, FnOk P w K mg base (L2.CX P w) k f fd ps (spX G C fld sp) ∧ mg x = some (.ref f) ∧ PySem.W.keepIn K (.ref f) = true ∧ Binds K fd ps []
def MdX (P : Program) (w : World) (K : PySem.W.Frag) (mg : Str → Option Value) (base : Heap) (G : Sc) (C : Addr) (fld : Str) (C2 : Addr) (m : Str) (k : Nat) (sp : XS3) : Prop :=
  ∃ f fd ps, FnOk P w K mg base (L2.CX P w) k f fd ps (spX G C fld sp) ∧ Meth K C2 m f ∧ Cls K C2 ∧ Binds K fd ps []
/-- the error's class -/
def KdX (P : Program) (w : World) (K : PySem.W.Frag) (mg : Str → Option Value) (base : Heap) (C : Addr) (fld : Str) (x : Str) (k : Nat) : Prop :=
  ∃ f fd ps, FnOk P w K mg base CX0 k f fd ps (spSup C fld) ∧ OexC K C ∧ PySem.W.findIn K (.ref C) "__init__" = some (some (.ref f)) ∧ PySem.W.typeIn K (.ref f) = some (.type "function") ∧ mg x = some (.ref C) ∧ Binds K fd ps []
section
variable {X : Cx} {G : Sc} {C C2 : Addr} {fld x m : Str} {k : Nat} {sp : XS3} {ex : Ev → D → H3 → Prop} {ex0 : D → H3 → Prop} {e o : Expr} {es : List Expr} {f : WE} {l : WA} {p pos pos' apos : Pos}
theorem perw {t t' : TE} (h : PE X e t) (w : ∀ σ H Q, Per X.H_0 H → t' σ H Q → t σ H Q) : PE X e t' := ⟨fun pins s σ H Q I q => h.run pins s σ H Q I (w σ H Q (inv_per I) q)⟩
theorem perwS {st : Stmt} {t t' : TS} (h : PS X st t) (w : ∀ D σ H, Per X.H_0 H → t' D σ H → t D σ H) : PS X st t' := ⟨fun pins s σ H D I q => h.run pins s σ H D I (w D σ H (inv_per I) q)⟩
def wLX (sp : XS3) (ex : Ev → D → H3 → Prop) (l : WA) : WE := fun ρ h k => l ρ h fun ds h1 => sp (ex ρ) ds h1 k
theorem i_callX (hx : XF X G C fld ex) (F : FdX X.prog X.w X.K X.mg X.base G C fld x k sp) (hr : Room k X.A) (ha : PA3 X G (e :: es) l) (hg : Gl X x := by rfl)
    (hdb : (x == ("__debug__" : Str)) = false := by decide) (he : starEach (e :: es) X.env = (false, eval e X.env) :: starEach es X.env := by rfl) (hpl : (backTo pos (starEach es X.env)).any (·.1) = false := by rfl) : PE3 X G (.Call (.Name x p) (e :: es) [] pos) (wLX sp ex l) := by
  obtain ⟨fa, fd, ps, F, hm, hk, hb⟩ := F
  obtain ⟨W, tk, hW⟩ := hx
  refine perw (pe_callS (E := L2.WE W) F hr hg hm hk hb (fun σ => passAt tk σ) ha hdb he hpl) fun σ H Q hp ⟨ρ, h, k, rel, ev, q, post⟩ => ?_
  refine ⟨ρ, h, _, rel, ev, q, fun ds h1 vs H1 q1 rel1 per1 dvs => ⟨ds, h1, k, ex ρ, rel1, dvs, q1, post.per per1, fun v h' x H' d e1 r1 p1 d1 hd => ?_⟩⟩
  exact hW ρ v h' x H' d σ e1 r1 ((hp.trans per1).trans p1) (ev.per (per1.trans p1)) d1 hd
def wMethX (C : Addr) (N : List Str) (sp : XS3) (ex : D → H3 → Prop) (o : WE) (l : WA) : WE := fun ρ h k => o ρ h fun x h1 => ∃ a vs, x = .ref a ∧ h1 a = some (.ins C N vs) ∧ l ρ h1 fun ds h2 => sp ex (x :: ds) h2 k
theorem i_methX (N : List Str) {pl : Sem Bool} (hx : XF0 X G C fld ex0) (F : MdX X.prog X.w X.K X.mg X.base G C fld C2 m k sp) (hr : Room k X.A) (ho : PE3 X G o f) (ha : PA3 X G (e :: es) l) (hm : m ∉ N := by decide)
    (hst : starEach (e :: es) X.env = (false, eval e X.env) :: starEach es X.env := by rfl) (hpl : (backTo pos (starEach es X.env)).any (·.1) = false := by rfl)
    (ht : eval (.Call (.Attribute o m apos) (e :: es) [] pos) X.env = (do
      let ov ← eval o X.env
      standAt apos.atName
      let (f, first) ← holding [ov] (getMethod ov m pl)
      callWith pos f first (backTo pos (starEach (e :: es) X.env)) (backToKw pos (keywordEach [] X.env))) := by rfl) : PE3 X G (.Call (.Attribute o m apos) (e :: es) [] pos) (wMethX C2 N sp ex0 f l) := by
  obtain ⟨fa, fd, ps, F, M, c, hb⟩ := F
  obtain ⟨W, tk, hW⟩ := hx
  refine perw (pe_meth (E := fun cls d H => ∀ σ, W cls d σ H) ho c M F hr hb .nil (passes_call tk fun cls d σ H h => h σ) ha hst hpl ht) fun σ H Q hp ⟨ρ, h, k, rel, ev, q, post⟩ => ?_
  refine ⟨ρ, h, _, rel, ev, q, fun d h1 v H1 q1 rel1 per1 dv1 => ?_⟩
  obtain ⟨a, vs, rfl, hi, q1⟩ := q1
  cases dv1
  obtain ⟨dx, fs, e1, e2, _, _⟩ := rel1.ins hi
  refine ⟨a, dx, fs, rfl, e1, no_look hm e2, ρ, h1, _, rel1, ev.per per1, q1, fun ds h2 ws H2 q2 rel2 per2 dv2 => ?_⟩
  show spX G C fld sp (V.ref a :: (ws ++ [])) H2 Q _
  rw [List.append_nil]
  exact ⟨_, h2, k, ex0, rel2, .cons (.ref a) dv2, q2, post.per (per1.trans per2), fun v h' x H' d e1 r1 p1 d1 hd σ => hW v h' x H' d σ e1 r1 (((hp.trans per1).trans per2).trans p1) d1 hd⟩
theorem i_methX0 (N : List Str) {pl : Sem Bool} (hx : XF0 X G C fld ex0) (F : MdX X.prog X.w X.K X.mg X.base G C fld C2 m k sp) (hr : Room k X.A) (ho : PE3 X G o f) (hm : m ∉ N := by decide)
    (ht : eval (.Call (.Attribute o m apos) [] [] pos) X.env = (do
      let ov ← eval o X.env
      standAt apos.atName
      let (f, first) ← holding [ov] (getMethod ov m pl)
      callWith pos f first (backTo pos (starEach [] X.env)) (backToKw pos (keywordEach [] X.env))) := by rfl) : PE3 X G (.Call (.Attribute o m apos) [] [] pos) (wMethX C2 N sp ex0 f wNil) := by
  obtain ⟨fa, fd, ps, F, M, c, hb⟩ := F
  obtain ⟨W, tk, hW⟩ := hx
  refine perw (pe_meth0 (E := fun cls d H => ∀ σ, W cls d σ H) ho c M F hr hb .nil (passes_call tk fun cls d σ H h => h σ) ht) fun σ H Q hp ⟨ρ, h, k, rel, ev, q, post⟩ => ?_
  refine ⟨ρ, h, _, rel, ev, q, fun d h1 v H1 q1 rel1 per1 dv1 => ?_⟩
  obtain ⟨a, vs, rfl, hi, q1⟩ := q1
  cases dv1
  obtain ⟨dx, fs, e1, e2, _, _⟩ := rel1.ins hi
  exact ⟨a, dx, fs, rfl, e1, no_look hm e2, _, h1, k, ex0, rel1, .cons (.ref a) .nil, q1, post.per per1, fun v h' x H' d e1 r1 p1 d1 hd σ => hW v h' x H' d σ e1 r1 ((hp.trans per1).trans p1) d1 hd⟩
/-- raise C(e) -/
def wRaise (ex : Ev → D → H3 → Prop) (a : WE) : WS := fun _ ρ h => a ρ h fun v h1 => ex ρ v h1
theorem is_raise (hx : XF X G C fld ex) (F : KdX X.prog X.w X.K X.mg X.base C fld x k) (hc : X.calm = true) (hr : Room (k + 1) X.A) (he : PE3 X G e f) (hg : Gl X x := by rfl)
    (hdb : (x == ("__debug__" : Str)) = false := by decide) (hst : starEach [e] X.env = (false, eval e X.env) :: starEach [] X.env := by rfl) (hpl : (backTo pos (starEach [] X.env)).any (·.1) = false := by rfl) :
    PS3 X G (.Raise (some (.Call (.Name x p) [e] [] pos)) none pos') (wRaise ex f) := by
  obtain ⟨fa, fd, ps, F, T, iC, tI, hm, hb⟩ := F
  obtain ⟨W, tk, hW⟩ := hx
  refine perwS (ps_raise hc tk (pmk_oex T iC tI F hr hb .nil pass0 hg hm (ia_cons he ia_nil hst) hdb hst hpl)) fun D σ H hp ⟨ρ, h, E, rel, ev, q, post⟩ => ?_
  refine ⟨ρ, h, fun l h1 => match l with | [v] => ex ρ v h1 | _ => False, rel, ev, q, fun l h1 vs H1 q1 rel1 per1 dvs => ?_⟩
  match l, q1, dvs with
  | [v], q1, dvs =>
    cases dvs with
    | cons d1 t1 =>
      cases t1
      rename_i y
      refine ⟨by simp, fun a na => ⟨a, y, rfl, upd_same, fun dx nd nda => ⟨rfl, dx, [(fld, y)], upd_same, ?_, ?_, ?_⟩⟩⟩
      · rw [upd_ne nda, upd_same]
      · rw [upd_ne nda] at nd; exact nd
      · rw [upd_ne nda] at nd
        have e1 : upd (del (upd (upd (upd H1 a (exo a C none)) dx (exd dx [(fld, y)])) a (exo a C (some dx))) a) dx (.xd [(fld, y)]) = upd H1 dx (.xd [(fld, y)]) := by
          funext b
          by_cases hb : b = dx
          · rw [hb, upd_same, upd_same]
          · rw [upd_ne hb, upd_ne hb]
            by_cases hba : b = a
            · rw [hba, del_same, na]
            · rw [del_ne hba, upd_ne hba, upd_ne hb, upd_ne hba]
        rw [e1]
        exact hW ρ v h1 y _ dx σ q1 (rel1.new0 nd) ((hp.trans per1).trans (Per.new nd)) (ev.per (per1.trans (Per.new nd))) (d1.per (Per.new nd)) upd_same
end
section
variable {P : Program} {w : World} {K : PySem.W.Frag} {mg : Str → Option Value} {base : Heap} {G : Sc} {C : Addr} {fld : Str}
/-- a raising def's context -/
abbrev CXX (P : Program) (w : World) (K : PySem.W.Frag) (mg : Str → Option Value) (base : Heap) (N : List Str) (qual : Str) (st : Stmt) (f : Addr) (cdv : Value) (A : Around) (outer : List Env) (s : Shared) (H : Hp) (E : XK) : Cx :=
  cxOf (L2.CX P w) P w K mg base N qual (defScope st) f cdv A outer s H E
theorem xf_of {N : List Str} {qual : Str} {st : Stmt} {f : Addr} {cdv : Value} {A : Around} {outer : List Env} {s : Shared} {H : Hp} {E : XK} {ex : D → H3 → Prop} (q : PostX G C fld H ex E) : XF0 (CXX P w K mg base N qual st f cdv A outer s H E) G C fld ex :=
  ⟨_, takes_of rfl rfl rfl rfl, fun v h' x H' d σ a b c e f => q v h' x H' d a b c e f⟩
theorem fnX {x qual : Str} {st : Stmt} {f : Addr} {fd : FuncData} {N ps : List Str} {k : Nat} {sp : XS3} {W : (D → H3 → Prop) → WS} (F : Fun K x qual st f fd) (S : FnScope N ps (defScope st))
    (walk : ∀ (ex : D → H3 → Prop) (cdv : Value) (A : Around) (outer : List Env) (s : Shared) (H : Hp) (E : XK), Room k (A.deeper (envOfC qual (defScope st) s.heap.objs.size f cdv)) → XF0 (CXX P w K mg base N qual st f cdv A outer s H E) G C fld ex → PSs3 (CXX P w K mg base N qual st f cdv A outer s H E) G (defBody st) (W ex))
    (len : ∀ ex l h k, sp ex l h k → l.length = ps.length) (ok : ∀ ex l h k, sp ex l h k → W ex (en k) (ev0 N l) h) : FnOk P w K mg base (L2.CX P w) (k + 1) f fd ps (spX G C fld sp) := by
  refine F.okX S (fun vs H Q E ⟨l, h, k, ex, rel, dv, q, post, _⟩ => by rw [← dv.length]; exact len ex l h k q) (fun cdv A outer s H vs Q E hr ⟨l, h, k, ex, rel, dv, q, post, px⟩ => ?_)
  refine ⟨_, walk ex cdv A outer s H E hr (xf_of px), ev0 N l, h, en k, rel, evr0 dv, ok ex l h k q, ?_⟩
  refine ⟨fun ρ h' σ H' ⟨h'', sub, q'⟩ rel' per' _ => post _ _ _ _ q' (rel'.sub sub) per' .non, fun d h' v H' ⟨h'', sub, q'⟩ rel' per' dv' => post _ _ _ _ q' (rel'.sub sub) per' dv', fun _ _ _ _ q' => q'.elim, fun _ _ _ _ q' => q'.elim⟩
end
end T3
end
-- T3Misc
section
set_option maxRecDepth 100000
set_option maxHeartbeats 4000000
/-! T3Misc: range(n) of any n; extend, index, join, repr. -/
namespace T3
open PySem PySem.Spec PySem.Calls PyProof.Rows L2
theorem turn_long {P : Program} {w : World} {K : PySem.W.Frag} {tg : Expr} (it : Addr) (lo : Int) (n : Nat) : Turn P w K tg (Itr lo n) [it] it (fun i h => IsLongIter h it (lo + (i : Nat) * 1) ((n : Int) - (i : Nat)) 1) where
  mem := by simp
  obj := fun i h st b hb => by
    have e : b = it := by simpa using hb
    subst e
    exact ⟨_, st, fun v z => by
      have z' : Data.fields _ = Data.cell v := z
      cases z'⟩
  keep := fun i h h' st k => k it (by simp) _ st
  item := by
    intro X hP hw hK hc i pins s σ H E I hf st hg
    subst hP hw hK
    obtain ⟨f0, f1, f2, f3, f4, f5⟩ := hf it (by simp)
    have W := Walks.longrange (prog := X.prog) (w := X.w) (I.ok.hd hc) it lo 1 n
    refine W.item i s _ _ hg st fun v h' tk hv st' kk => ?_
    obtain ⟨t, rfl⟩ := hv
    have I1 : Inv X pins σ H { s with heap := h', toks := tk } := I.turned (fun b o hb e => kk b o (by simpa using hb) e) f0 f1 f3 f4 f5
    refine ⟨_, rfl, go_of (s := { s with heap := h', toks := tk }) (n := "longrange_iterator") st' rfl rfl (by decide) ⟨.int (lo + i), H, I1, ⟨t, ?_⟩, ⟨rfl, rfl⟩, st', fun b hb => (hf b hb).1⟩⟩
    rw [Int.mul_one]
  done := by
    intro X hP hw hK hc i pins s σ H E I hf st hg
    subst hP hw hK
    obtain ⟨f0, f1, f2, f3, f4, f5⟩ := hf it (by simp)
    exact wpAny_pyNext_long_end (I.ok.hd hc) st (by have : n ≤ i := hg; omega) fun h' eb => ⟨rfl, I.turned (t' := s.toks) (fun b o hb e => eb b o hb e) f0 f1 f3 f4 f5⟩
  self := fun _ _ _ _ _ st h => wpAny_pyIter_longiter st h
section
variable {X : Cx} {tg : Expr}
theorem range_any {pins : List (Addr × Obj)} {σ : L2.St} {H : Hp} {s : Shared} {R : It → Hp → Prop} {E : Value → Shared → Prop} {hi : Int} {t u v : Tok} {tk : Nat} (I : Inv X pins σ H s)
    (q : R (Itr 0 hi.toNat) H) : wpAny (model X.prog X.w) X.A (pyIter (.ref s.heap.objs.size)) (PIE X pins σ tg R) E { s with heap := s.heap.push { cls := .type "range", data := .fields #[.int 0 t, .int hi u, .int 1 v] }, toks := tk } := by
  have e2 : Builtin.Range.rangeSize 0 hi 1 = ((hi.toNat : Nat) : Int) - ((0 : Nat) : Int) := by rw [rangeSize_one]; split <;> omega
  cases hs : Builtin.Range.small 0 hi 1 with
  | true =>
    refine wpAny_pyIter_range (IsRange.new ..) hs ?_
    have I1 : Inv X pins σ H { s with heap := s.heap.push { cls := .type "range", data := .fields #[.int 0 t, .int hi u, .int 1 v] }, toks := tk } := I.kept fun b o e => Heap.get?_push_of_some _ e
    refine ⟨(s.heap.push { cls := .type "range", data := .fields #[.int 0 t, .int hi u, .int 1 v] }).objs.size, [(s.heap.push { cls := .type "range", data := .fields #[.int 0 t, .int hi u, .int 1 v] }).objs.size], _, _, H, rfl,
      I1.kept (t' := tk) fun b o e => Heap.get?_push_of_some _ e, turn_range _ 0 hi.toNat, ?_, fun b hb => ?_, q⟩
    · have e1 : (0 : Int) + ((0 : Nat) : Int) * 1 = 0 := by simp
      show IsRangeIter _ _ ((0 : Int) + ((0 : Nat) : Int) * 1) (((hi.toNat : Nat) : Int) - ((0 : Nat) : Int)) 1
      rw [e1, ← e2]
      exact Heap.get?_push_size _ rfl
    · have e : b = (s.heap.push { cls := .type "range", data := .fields #[.int 0 t, .int hi u, .int 1 v] }).objs.size := by simpa using hb
      subst e
      exact I1.fpOk (Nat.le_refl _) (I1.hok.fresh (Nat.le_refl _))
  | false =>
    refine wpAny_pyIter_longrange (IsRange.new ..) hs ?_
    have I1 : Inv X pins σ H { s with heap := s.heap.push { cls := .type "range", data := .fields #[.int 0 t, .int hi u, .int 1 v] }, toks := tk } := I.kept fun b o e => Heap.get?_push_of_some _ e
    refine ⟨(s.heap.push { cls := .type "range", data := .fields #[.int 0 t, .int hi u, .int 1 v] }).objs.size, [(s.heap.push { cls := .type "range", data := .fields #[.int 0 t, .int hi u, .int 1 v] }).objs.size], _, _, H, rfl,
      I1.kept (t' := tk) fun b o e => Heap.get?_push_of_some _ e, turn_long _ 0 hi.toNat, ?_, fun b hb => ?_, q⟩
    · have e1 : (0 : Int) + ((0 : Nat) : Int) * 1 = 0 := by simp
      show IsLongIter _ _ ((0 : Int) + ((0 : Nat) : Int) * 1) (((hi.toNat : Nat) : Int) - ((0 : Nat) : Int)) 1
      rw [e1, ← e2]
      exact Heap.get?_push_size _ rfl
    · have e : b = (s.heap.push { cls := .type "range", data := .fields #[.int 0 t, .int hi u, .int 1 v] }).objs.size := by simpa using hb
      subst e
      exact I1.fpOk (Nat.le_refl _) (I1.hok.fresh (Nat.le_refl _))
def iRngA (ta : TA) : TI := fun σ H R => ta σ H fun vs H1 => ∃ j : Int, vs = [.int j] ∧ R (Itr 0 j.toNat) H1
theorem pi_rangeA {a : Expr} {ta : TA} {p pos : Pos} (hg : Gl X "range") (hm : X.mg "range" = none) (ha : PA X [a] ta) (hs : starEach [a] X.env = [(false, eval a X.env)] := by rfl) : PI X tg (.Call (.Name "range" p) [a] [] pos) (iRngA ta) := by
  refine ⟨fun pins s σ H R I h => ?_⟩
  refine Call_ (ld_blt I hg hm boot_range (PyProof.Rows.callWith_type1 (thn (ha.run pos pins s σ H _ I h) fun us s1 ⟨vs, H1, I1, r1, q1⟩ => ?_) hs rfl))
  obtain ⟨j, e, q⟩ := q1
  subst e
  cases r1 with
  | cons r rr =>
    cases rr
    obtain ⟨t, rfl⟩ := r
    exact call_range_1 (range_any I1 q)
end
section
variable {X : Cx} {G : Sc} {tg a : Expr} {t : WA} {p pos : Pos}
/-- range(n), whatever n -/
def wRgA (t : WA) : WI := fun ρ h k => t ρ h fun l h1 => ∃ j : Int, l = [.int j] ∧ k (.fix (rgD 0 j.toNat)) h1
theorem ii_rgA (hg : Gl X "range") (hm : X.mg "range" = none) (ha : PA3 X G [a] t) (hs : starEach [a] X.env = [(false, eval a X.env)] := by rfl) : PI3 X G tg (.Call (.Name "range" p) [a] [] pos) (wRgA t) := by
  refine (pi_rangeA hg hm ha hs).weak fun σ H R ⟨ρ, h, k, rel, ev, q, post⟩ => ?_
  refine ⟨ρ, h, _, rel, ev, q, fun l h1 vs H1 q1 rel1 per1 dv1 => ?_⟩
  obtain ⟨j, rfl, q1⟩ := q1
  cases dv1 with
  | cons d1 t1 =>
    cases t1; cases d1
    exact ⟨j, rfl, post _ _ _ _ q1 rel1 per1 it_rng⟩
theorem fors_rgA {t : WA} {g : WG} {body : WS} {E : En} {ρ : Ev} {h : H3} : wFor (wRgA t) g body E ρ h ↔ t ρ h fun l h1 => ∃ j : Int, l = [.int j] ∧ forW (fun _ => True) g body E (rgD 0 j.toNat) ρ h1 := Iff.rfl
end
section
variable {X : Cx} {G : Sc}
/-- repr of a tuple of data -/
def rReprV (K : PySem.W.Frag) : List V → Hp → VK → Prop := fun vs H Q => ∃ (x : Addr) (d : PyData), vs = [V.ref x] ∧ Dp K H (.ref x) d ∧ d.canLay0 = true ∧ d.showable = true ∧ d.depth ≤ 64 ∧ d.shown.length ≤ sizeLine ∧ Q (.str d.shown) H
theorem cr_reprV (hu : X.A.units + 70 < cLine) (hgd : X.A.guards = some []) : CallR X (.builtin "repr") (rReprV X.K) := by
  intro pins s σ H vs us Q I r h
  obtain ⟨x, d, rfl, hd, hc, hs, hdp, hz, q⟩ := h
  obtain ⟨u, rfl, ru⟩ := vals1 r
  obtain rfl : u = Value.ref x := ru
  obtain ⟨as, ra⟩ := Dp.reads I d _ _ hd rfl
  refine repr_of_reads' ra hs (fun h => by rw [PyData.hasDict_of_canLay d hc] at h; cases h) hgd (by omega) (fun _ _ e => e) (fun h' u tk hk => ?_) hz
  exact ⟨.str _, H, I.kept hk, ⟨_, rfl⟩, q⟩
def rRepr : List D → H3 → K1 → Prop := fun as h k => ∃ (l : List D) (p : PyData), as = [.tup l] ∧ Rs h (.tup l) p ∧ p.showable = true ∧ p.depth ≤ 64 ∧ p.shown.length ≤ 16777216 ∧ k (.str p.shown) h
theorem rf_repr (hu : X.A.units + 70 < cLine) (hgd : X.A.guards = some []) : RfL G (UC X (.builtin "repr")) rRepr := by
  intro l vs h H k Q rel dv ⟨m, p, el, hr, hs, hdp, hz, q⟩ post
  subst el
  cases dv with
  | cons d1 t1 =>
    cases t1
    cases d1 with
    | tup e1 r1 => exact ⟨_, cr_reprV hu hgd, _, p, rfl, hr.dp rel (.tup e1 r1), hr.lay, hs, hdp, hz, post _ _ _ _ q rel (Per.refl H) (.str _)⟩
variable {e o : Expr} {es : List Expr} {f : WE} {t : WA} {apos cpos : Pos}
/-- xs.extend(a list) -/
def wExtend (o : WE) (t : WA) : WE := fun ρ h k => o ρ h fun x h1 => ∃ p xs, x = .ref p ∧ h1 p = some (.lst xs) ∧ t ρ h1 fun l h2 => ∃ b ys zs, l = [.ref b] ∧ h2 p = some (.lst ys) ∧ h2 b = some (.lst zs) ∧ ys.length + zs.length ≤ 16777216 ∧ k .non (up h2 p (.lst (ys ++ zs)))
theorem i_extend (ho : PE3 X G o f) (ha : PA3 X G (e :: es) t) (hbase : attributeBase o "extend" X.env (eval o X.env) = eval o X.env := by rfl)
    (hfew : ((backTo cpos (starEach (e :: es) X.env)).all (fun x => !x.1) && (backToKw cpos (keywordEach [] X.env)).all (fun x => x.1.isSome)
      && decide ((e :: es).length + ([] : List Keyword).length + (if ([] : List Keyword).isEmpty then 0 else 1) < 30)) = true := by rfl)
    (hline : (apos.endLine == cpos.line) = true := by rfl) (hs : starEach (e :: es) X.env = (false, eval e X.env) :: starEach es X.env := by rfl) (hplain : (backTo cpos (starEach es X.env)).any (·.1) = false := by rfl) :
    PE3 X G (.Call (.Attribute o "extend" apos) (e :: es) [] cpos) (wExtend f t) := by
  refine (pe_bm PySem.F.plainAttrs_list PySem.F.slot_list_extend PySem.F.type_list_extend mt_extend ho ha hbase hfew hline hs hplain).weak fun σ H Q ⟨ρ, h, k, rel, ev, q, post⟩ => ?_
  refine ⟨ρ, h, _, rel, ev, q, fun d h1 v H1 q1 rel1 per1 dv1 => ?_⟩
  obtain ⟨p, xs, rfl, hp, q1⟩ := q1
  cases dv1
  obtain ⟨vs, e1, r1⟩ := rel1.lst hp
  refine ⟨.inl ⟨rfl, _, .of e1⟩, ρ, h1, _, rel1, ev.per per1, q1, fun l h2 ws H2 q2 rel2 per2 dv2 => ?_⟩
  obtain ⟨b, ys, zs, rfl, hy, hzs, hz, q2⟩ := q2
  cases dv2 with
  | cons d1 t1 =>
    cases t1
    cases d1
    obtain ⟨vs', e2, r2⟩ := rel2.lst hy
    obtain ⟨vz, e3, r3⟩ := rel2.lst hzs
    refine ⟨p, b, _, _, rfl, rfl, e2, e3, by rw [← r2.length, ← r3.length]; exact hz, ?_⟩
    exact post _ _ _ _ q2 (rel2.setLst hy (r2.append r3)) ((per1.trans per2).trans (Per.mut (rel2.mut hy))) .non
/-- text.index(sign), where it stands -/
def wSIndex (o : WE) (t : WA) : WE := fun ρ h k => o ρ h fun x h1 => ∃ a, x = .str a ∧ t ρ h1 fun l h2 => ∃ b i rest, l = [.str b] ∧ Builtin.Str.occurrences a b 0 a.length 1 = i :: rest ∧ k (.int (i : Nat)) h2
theorem i_sindex (ho : PE3 X G o f) (ha : PA3 X G (e :: es) t) (hbase : attributeBase o "index" X.env (eval o X.env) = eval o X.env := by rfl)
    (hfew : ((backTo cpos (starEach (e :: es) X.env)).all (fun x => !x.1) && (backToKw cpos (keywordEach [] X.env)).all (fun x => x.1.isSome)
      && decide ((e :: es).length + ([] : List Keyword).length + (if ([] : List Keyword).isEmpty then 0 else 1) < 30)) = true := by rfl)
    (hline : (apos.endLine == cpos.line) = true := by rfl) (hs : starEach (e :: es) X.env = (false, eval e X.env) :: starEach es X.env := by rfl) (hplain : (backTo cpos (starEach es X.env)).any (·.1) = false := by rfl) :
    PE3 X G (.Call (.Attribute o "index" apos) (e :: es) [] cpos) (wSIndex f t) := by
  refine (pe_bm PySem.F.plainAttrs_str PySem.F.slot_str_index PySem.F.type_str_index mt_sindex ho ha hbase hfew hline hs hplain).weak fun σ H Q ⟨ρ, h, k, rel, ev, q, post⟩ => ?_
  refine ⟨ρ, h, _, rel, ev, q, fun d h1 v H1 q1 rel1 per1 dv1 => ?_⟩
  obtain ⟨a, rfl, q1⟩ := q1
  cases dv1
  refine ⟨rfl, ρ, h1, _, rel1, ev.per per1, q1, fun l h2 ws H2 q2 rel2 per2 dv2 => ?_⟩
  obtain ⟨b, i, rest, rfl, hoc, q2⟩ := q2
  cases dv2 with
  | cons d1 t1 =>
    cases t1
    cases d1
    exact ⟨a, b, i, rest, rfl, rfl, hoc, post _ _ _ _ q2 rel2 (per1.trans per2) (.int _)⟩
/-- xs.index(x), xs and x of none, truths, ints -/
def wLIndex (o : WE) (t : WA) : WE := fun ρ h k => o ρ h fun x h1 => ∃ p xs, x = .ref p ∧ h1 p = some (.lst xs) ∧ t ρ h1 fun l h2 => ∃ d ys j, l = [d] ∧ h2 p = some (.lst ys) ∧ d.ok = true ∧ D.okL ys = true ∧ SeqAt.shaped (.list (D.pyL ys)) = true ∧ SeqAt.shaped d.py = true ∧
  (∃ z, (D.pyL ys)[j]? = some z ∧ PyData.eqv z d.py = true) ∧ (∀ (m : Nat) (z' : PyData), m < j → (D.pyL ys)[m]? = some z' → PyData.eqv z' d.py = false) ∧ k (.int (j : Nat)) h2
theorem i_lindex (hu : X.A.units + 65 < cLine) (ho : PE3 X G o f) (ha : PA3 X G (e :: es) t) (hbase : attributeBase o "index" X.env (eval o X.env) = eval o X.env := by rfl)
    (hfew : ((backTo cpos (starEach (e :: es) X.env)).all (fun x => !x.1) && (backToKw cpos (keywordEach [] X.env)).all (fun x => x.1.isSome)
      && decide ((e :: es).length + ([] : List Keyword).length + (if ([] : List Keyword).isEmpty then 0 else 1) < 30)) = true := by rfl)
    (hline : (apos.endLine == cpos.line) = true := by rfl) (hs : starEach (e :: es) X.env = (false, eval e X.env) :: starEach es X.env := by rfl) (hplain : (backTo cpos (starEach es X.env)).any (·.1) = false := by rfl) :
    PE3 X G (.Call (.Attribute o "index" apos) (e :: es) [] cpos) (wLIndex f t) := by
  refine (pe_bm PySem.F.plainAttrs_list PySem.F.slot_list_index PySem.F.type_list_index (mt_indexD hu) ho ha hbase hfew hline hs hplain).weak fun σ H Q ⟨ρ, h, k, rel, ev, q, post⟩ => ?_
  refine ⟨ρ, h, _, rel, ev, q, fun d h1 v H1 q1 rel1 per1 dv1 => ?_⟩
  obtain ⟨p, xs, rfl, hp, q1⟩ := q1
  cases dv1
  obtain ⟨vs, e1, r1⟩ := rel1.lst hp
  refine ⟨.inl ⟨rfl, _, .of e1⟩, ρ, h1, _, rel1, ev.per per1, q1, fun l h2 ws H2 q2 rel2 per2 dv2 => ?_⟩
  obtain ⟨d, ys, j, rfl, hy, hd, hys, s1, s2, ⟨z, hz, hze⟩, hno, q2⟩ := q2
  cases dv2 with
  | cons d1 t1 =>
    cases t1
    obtain ⟨vs', e2, r2⟩ := rel2.lst hy
    exact ⟨p, _, d.py, D.pyL ys, j, z, rfl, rfl, (Rs.lst hy (rsl_py hys)).dp rel2 (.ref p), (rs_py hd).dp rel2 d1, s1, s2, hz, hze, hno, post _ _ _ _ q2 rel2 (per1.trans per2) (.int _)⟩
/-- sep.join(a list of texts) -/
def wJoin (o a : WE) : WE := fun ρ h k => o ρ h fun x h1 => ∃ s, x = .str s ∧ a ρ h1 fun y h2 => ∃ p ys, y = .ref p ∧ h2 p = some (.lst (ys.map D.str)) ∧ (ys.map (·.length)).sum + ys.length * s.length ≤ 16777216 ∧ k (.str (Txt.join s ys)) h2
theorem i_join {g : WE} (ho : PE3 X G o f) (he : PE3 X G e g) (hs : starEach [e] X.env = [(false, eval e X.env)] := by rfl) (hbase : attributeBase o "join" X.env (eval o X.env) = eval o X.env := by rfl) (hline : (apos.endLine == cpos.line) = true := by rfl) :
    PE3 X G (.Call (.Attribute o "join" apos) [e] [] cpos) (wJoin f g) := by
  refine (pe_join ho he hs hbase hline).weak fun σ H Q ⟨ρ, h, k, rel, ev, q, post⟩ => ?_
  refine ⟨ρ, h, _, rel, ev, q, fun d h1 v H1 q1 rel1 per1 dv1 => ?_⟩
  obtain ⟨s, rfl, q1⟩ := q1
  cases dv1
  refine ⟨⟨_, rfl⟩, ρ, h1, _, rel1, ev.per per1, q1, fun y h2 w H2 q2 rel2 per2 dv2 => ?_⟩
  obtain ⟨p, ys, rfl, hy, hz, q2⟩ := q2
  cases dv2
  obtain ⟨vs', e2, r2⟩ := rel2.lst hy
  rw [DVs.strs r2] at e2
  exact ⟨s, p, ys, rfl, rfl, .inl (.of e2), hz, post _ _ _ _ q2 rel2 (per1.trans per2) (.str _)⟩
end
/-! x is True, x is False -/
section
variable {X : Cx} {G : Sc} {a : Expr} {f : WE} {pos : Pos}
def rIsBv (b : Bool) : R2 := fun x y H Q => y = .bl b ∧ Q (.bl (decide (x = .bl b))) H
theorem op_isBv (b : Bool) : OpR X (compareOp .Is) (rIsBv b) := by
  intro pins s σ H x y v u Q I rx ry ⟨ey, q⟩
  subst ey
  cases (show u = Value.bool b from ry)
  have other : ∀ w : Value, plainIs w (.bool b) = true → w ≠ .bool b → x ≠ .bl b → v = w → wpAny (model X.prog X.w) X.A (compareOp .Is v (.bool b)) (EP X pins σ Q) X.xe s := fun w hp hw hx e => by
    subst e
    exact wpAny_is_other hp hw ⟨.bl false, H, I, rfl, by simpa [hx] using q⟩
  cases x with
  | non => exact other .none rfl (fun z => by cases z) (fun z => by cases z) rx
  | bl c =>
    cases (show v = Value.bool c from rx)
    by_cases e : c = b
    · subst e
      exact wpAny_is_self rfl ⟨.bl true, H, I, rfl, by simpa using q⟩
    · exact wpAny_is_other rfl (fun z => e (Value.bool.inj z)) ⟨.bl false, H, I, rfl, by simpa [e] using q⟩
  | int i => obtain ⟨t, e⟩ := (show ∃ t, v = Value.int i t from rx); exact other _ rfl (fun z => by cases z) (fun z => by cases z) e
  | str i => obtain ⟨t, e⟩ := (show ∃ t, v = Value.str i t from rx); exact other _ rfl (fun z => by cases z) (fun z => by cases z) e
  | byt i => obtain ⟨t, e⟩ := (show ∃ t, v = Value.bytes i t from rx); exact other _ rfl (fun z => by cases z) (fun z => by cases z) e
  | flt i => obtain ⟨t, e⟩ := (show ∃ t, v = Value.float i t from rx); exact other _ rfl (fun z => by cases z) (fun z => by cases z) e
  | ref i => exact other _ rfl (fun z => by cases z) (fun z => by cases z) rx
  | ty i => exact other _ rfl (fun z => by cases z) (fun z => by cases z) rx
def _root_.T3.D.isB (b : Bool) : D → Bool
  | .bl c => c == b
  | _ => false
theorem isB_of {H : Hp} {b : Bool} {d : D} {v : V} (r : DV H d v) : d.isB b = decide (v = .bl b) := by
  cases r with
  | bl c => simp only [D.isB]; cases c <;> cases b <;> decide
  | _ => simp [D.isB]
def rIsB (b : Bool) : D → H3 → K1 → Prop := fun x h k => k (.bl (x.isB b)) h
def rIsY : D → D → H3 → K1 → Prop := fun x y h k => match y with
  | .bl c => rIsB c x h k
  | _ => False
theorem rf_isY : Rf2 G (U2 X (compareOp .Is)) rIsY := by
  intro d e x y h H k Q rel dx dy q post
  unfold rIsY at q
  split at q
  · rename_i c
    cases dy
    exact ⟨_, op_isBv c, rfl, post_bl post rel (by rw [← isB_of dx]; exact q)⟩
  · exact q.elim
theorem i_isB {b : Bool} {j p2} (ha : PE3 X G a f) : PE3 X G (.Compare a [.Is] [.Constant (.bool b) j p2] pos) (w1 (rIsB b) f) := i_cmp rf_isY ha i_bl rfl
theorem it_isB {b : Bool} {j p2} (ha : PE3 X G a f) : PT3 X G (.Compare a [.Is] [.Constant (.bool b) j p2] pos) (wB (w1 (rIsB b) f)) := it_cmp rf_isY ha i_bl rfl
end
end T3
end
-- T3BoolIx
section
set_option maxRecDepth 100000
set_option maxHeartbeats 4000000
/-! T3BoolIx: a list at a truth. -/
namespace T3
open PySem PySem.Spec PySem.Calls PyProof.Rows L2
section
variable {prog : Program} {w : World} {M : Model} {A : Around} {E : Value → Shared → Prop} {s : Shared}
theorem bool_index : typeLookup (.type "bool") "__index__" = typeLookup (.type "int") "__index__" := by
  rw [typeLookup_type, typeLookup_type, builtinLookup_eq_fast]; kernel_rfl
theorem subscript_bool {b : Bool} {Q : Option Int → Shared → Prop} (h : Q (some (if b = true then 1 else 0)) s) : wpAny M A (Builtin.List.listSubscript? (.bool b)) Q E s := by
  unfold Builtin.List.listSubscript?
  refine wpAny_bind (wpAny_specialOf (T := "bool") rfl (bool_index.trans int_index) ?_)
  show wpAny M A (asIndex (.bool b) >>= _) Q E s
  refine wpAny_bind (wpAny_of_eq (a := if b = true then 1 else 0) (by cases b <;> rfl) ?_)
  cases b
  · exact wpAny_pure h
  · exact wpAny_pure h
theorem getItem_bool {l : Addr} {items : Array Value} {b : Bool} {x : Value} {Q : Value → Shared → Prop} (hl : s.heap.IsList l items)
    (hx : items[if b = true then 1 else 0]? = some x) (h : Q x s) : wpAny (model prog w) A (getItem (.ref l) (.bool b)) Q E s := by
  obtain ⟨o, ho, hc, ne, hd⟩ := id hl
  unfold getItem
  try with_reducible refine wpAny_holding ?_
  first | refine wpAny_bind (wpAny_pure ?_) | skip
  refine wpAny_bind (wpAny_sequenceKey hl.typeIs (by decide) ?_)
  refine wpAny_bind (wpAny_callSpecial?_slot (name := Str.ofString "__getitem__") hl.typeIs slot_list_getitem
    (wpAny_call_entry slot_list_getitem hl.typeIs entry_list_getitem ?_ (args_list_getitem _ _)))
  show wpAny _ _ (Builtin.List.listSubscript? (.bool b) >>= _) _ _ s
  refine wpAny_bind (subscript_bool ?_)
  cases b
  · show wpAny _ _ ((seqItemAt l 0 >>= fun r => pure (r.map (0, ·))) >>= _) _ _ s
    refine wpAny_bind (wpAny_bind (wpAny_seqItemAt ho hd (wpAny_pure ?_)))
    have hx' : items[0]? = some x := hx
    rw [hx']
    first
      | exact wpAny_bind (wpAny_pure (wpAny_pure ⟨x, rfl, wpAny_pure h⟩))
      | exact wpAny_pure ⟨x, rfl, wpAny_pure h⟩
  · show wpAny _ _ ((seqItemAt l 1 >>= fun r => pure (r.map (1, ·))) >>= _) _ _ s
    refine wpAny_bind (wpAny_bind (wpAny_seqItemAt ho hd (wpAny_pure ?_)))
    have hx' : items[1]? = some x := hx
    rw [hx']
    first
      | exact wpAny_bind (wpAny_pure (wpAny_pure ⟨x, rfl, wpAny_pure h⟩))
      | exact wpAny_pure ⟨x, rfl, wpAny_pure h⟩
end
section
variable {X : Cx} {G : Sc} {a b : Expr} {f g : WE} {pos : Pos}
def rIxBV (K : PySem.W.Frag) : R2 := fun x y H Q => ∃ p xs c v, x = .ref p ∧ y = .bl c ∧ SqL K H p xs ∧ xs[if c = true then 1 else 0]? = some v ∧ Q v H
theorem ix_boolV : IxR X (rIxBV X.K) := by
  intro value slice pins s σ H x y v u Q I rx ry h hs
  obtain ⟨p, xs, c, z, rfl, rfl, hq, he, q⟩ := h
  cases rx
  cases (show u = Value.bool c from ry)
  obtain ⟨its, r, pl, hz⟩ := I.list hq
  obtain ⟨w, ew, rw'⟩ := r.get he
  exact subscriptTail_builtinR (x := w) pl.isList.typeIs slot_list_getitem.lookup
    (getItem_bool (Q := fun r s' => r = w ∧ EP X pins σ Q r s') pl.isList (by simpa using ew) ⟨rfl, z, H, I, rw', q⟩) hs
/-- a list at a truth -/
def rIxB : D → D → H3 → K1 → Prop := fun x y h k => match x, y with
  | .ref a, .bl c => ∃ l d, h a = some (.lst l) ∧ l[if c = true then 1 else 0]? = some d ∧ k d h
  | _, _ => False
theorem rf_ixB : Rf2 G (UX X) rIxB := by
  intro d e x y h H k Q rel dx dy q post
  unfold rIxB at q
  split at q
  · rename_i p c
    cases dx; cases dy
    obtain ⟨l, d, ha, hd, q⟩ := q
    obtain ⟨vs, e1, r1⟩ := rel.lst ha
    obtain ⟨v, ev, dv⟩ := r1.get hd
    exact ⟨_, ix_boolV, p, vs, c, v, rfl, rfl, .of e1, ev, post _ _ _ _ q rel (Per.refl H) dv⟩
  · exact q.elim
theorem i_ixB (ha : PE3 X G a f) (hb : PE3 X G b g) (hs : PlainIx b := by exact fun _ _ => rfl) : PE3 X G (.Subscript a b pos) (w2 rIxB f g) := (pe_ix UX.ok ha hb hs).weak fun σ H Q q => lift2 rf_ixB q
end
end T3
end
-- Lk06
section
set_option maxRecDepth 100000
set_option maxHeartbeats 4000000
namespace Lk06
open PySem PySem.Spec PyProof.Rows L2 T3
def top (i : Nat) : Stmt := PySem.Challenge.pw_inputways_k06_packing.main.body.getD i (.Pass ⟨0, 0, 0, 0⟩)
abbrev n_PackError : List Str := ["at"]
abbrev n_Reader : List Str := ["data", "at"]
/-- the module's names: what is still built in; the constants -/
structure Mg (mg : Str → Option Value) : Prop where
  len : mg "len" = none
  isinstance : mg "isinstance" = none
  int : mg "int" = none
  str : mg "str" = none
  tuple : mg "tuple" = none
  range : mg "range" = none
  list : mg "list" = none
  abs : mg "abs" = none
  min : mg "min" = none
  max : mg "max" = none
  sorted : mg "sorted" = none
  c_LETTERS : ∃ t, mg "LETTERS" = some (.str "abcdefghijklmnopqrstuvwxyz0123456789_" t)
  c_DEEPEST : ∃ t, mg "DEEPEST" = some (.int 60 t)
section
variable {P : Program} {w : World} {K : PySem.W.Frag} {mg : Str → Option Value} {base : Heap} {G : Sc}
/-! ### size_bytes -/
abbrev s_size_bytes : Stmt := top 6
abbrev N_size_bytes : List Str := ["n", "row"]
theorem sc_size_bytes : FnScope N_size_bytes ["n"] (defScope s_size_bytes) := ⟨rfl, rfl, rfl, by decide +kernel, rfl, by decide +kernel, by decide +kernel⟩
theorem nd_size_bytes : N_size_bytes.Nodup := sc_size_bytes.nd
def W_size_bytes   : WS := wSeq (wAsg (wL rLst (wNil)) (gN 1)) (wSeq (wWhile (wB (w2 rGe (wVar 0) (wC (.int 128)))) (wSeq (wDrop (wAppend (wVar 1) (wCons (w2 rAdd (w2 rAndI (wVar 0) (wC (.int 127))) (wC (.int 128))) (wNil)))) (wAsg (w2 rShr (wVar 0) (wC (.int 7))) (gN 0)))) (wSeq (wDrop (wAppend (wVar 1) (wCons (wVar 0) (wNil)))) (wRet (wVar 1))))
theorem walk_size_bytes {C_s : Unit}   {k : Nat} (T : Mg mg)  {f : Addr} (cdv : Value) (A : Around) (outer : List Env) (s : Shared) (H : Hp) (E : XK) (hr : Room (k + 1) (A.deeper (envOfC "size_bytes" (defScope s_size_bytes) s.heap.objs.size f cdv)))  :
    PSs3 (CXF P w K mg base N_size_bytes "size_bytes" s_size_bytes f cdv A outer s H E) G (defBody s_size_bytes) (W_size_bytes ) := by
  unfold W_size_bytes
  exact is_cons (is_asg (i_lst (ia_nil)) (ig_name 1 nd_size_bytes)) (is_cons (is_while PassesOwn.never (it_cmp rf_ge (i_var 0) (i_int)) (is_cons (is_expr (i_append (i_var 1) (ia_cons (i_bin rf_add (i_bin rf_and (i_var 0) (i_int)) (i_int)) (ia_nil)))) (is_one (is_asg (i_bin rf_shr (i_var 0) (i_int)) (ig_name 0 nd_size_bytes))))) (is_cons (is_expr (i_append (i_var 1) (ia_cons (i_var 0) (ia_nil)))) (is_one (is_ret (i_var 1)))))
/-! ### text_bytes -/
abbrev s_text_bytes : Stmt := top 7
abbrev N_text_bytes : List Str := ["text", "row", "sign"]
theorem sc_text_bytes : FnScope N_text_bytes ["text"] (defScope s_text_bytes) := ⟨rfl, rfl, rfl, by decide +kernel, rfl, by decide +kernel, by decide +kernel⟩
theorem nd_text_bytes : N_text_bytes.Nodup := sc_text_bytes.nd
def W_text_bytes  (p_size_bytes : Sp3) (xw : D → H3 → Prop) : WS := wSeq (wAsg (w2 rAdd (wL rLst (wCons (wC (.int 5)) (wNil))) (wL p_size_bytes (wCons (wL rLen (wCons (wVar 0) (wNil))) (wNil)))) (gN 1)) (wSeq (wFor (wIter (wVar 0)) (gN 2) (wSeq (wIfS (wB (w2 (rIn true) (wVar 2) (wC (.str "abcdefghijklmnopqrstuvwxyz0123456789_")))) (wRaise (fun _ => xw) (w1 rNeg (wC (.int 1)))) (wNext)) (wDrop (wAppend (wVar 1) (wCons (wSIndex (wC (.str "abcdefghijklmnopqrstuvwxyz0123456789_")) (wCons (wVar 2) (wNil))) (wNil)))))) (wRet (wVar 1)))
theorem walk_text_bytes {C_s : Unit}  {C_PackError : Addr} {xw : D → H3 → Prop} {p_size_bytes : Sp3} {k : Nat} (T : Mg mg)  {f : Addr} (cdv : Value) (A : Around) (outer : List Env) (s : Shared) (H : Hp) (E : XK) (hr : Room (k + 1) (A.deeper (envOfC "text_bytes" (defScope s_text_bytes) s.heap.objs.size f cdv))) (hx : XF0 (CXX P w K mg base N_text_bytes "text_bytes" s_text_bytes f cdv A outer s H E) G C_PackError "at" xw) (F_size_bytes : Fd P w K mg base G "size_bytes" (k + 1) p_size_bytes) (K_PackError : KdX P w K mg base C_PackError "at" "PackError" k) :
    PSs3 (CXX P w K mg base N_text_bytes "text_bytes" s_text_bytes f cdv A outer s H E) G (defBody s_text_bytes) (W_text_bytes p_size_bytes xw) := by
  unfold W_text_bytes
  exact is_cons (is_asg (i_bin rf_add (i_lst (ia_cons (i_int) (ia_nil))) (i_call F_size_bytes hr (ia_cons (i_callB rf_len rfl T.len b_len (ia_cons (i_var 0) (ia_nil))) (ia_nil)))) (ig_name 1 nd_text_bytes)) (is_cons (is_for (passes_of rfl) rfl (ii_any (i_var 0)) (ig_name 2 nd_text_bytes) (is_cons (is_if (it_cmp (rf_notIn (room65 hr)) (i_var 2) (i_c (pe_glob (v := .str "abcdefghijklmnopqrstuvwxyz0123456789_") rfl T.c_LETTERS.choose_spec ⟨_, rfl⟩) (fun _ => .str _))) (is_one (is_raise hx.xf K_PackError rfl hr (i_un rf_neg' (i_int)))) (is_nil)) (is_one (is_expr (i_append (i_var 1) (ia_cons (i_sindex (i_c (pe_glob (v := .str "abcdefghijklmnopqrstuvwxyz0123456789_") rfl T.c_LETTERS.choose_spec ⟨_, rfl⟩) (fun _ => .str _)) (ia_cons (i_var 2) (ia_nil))) (ia_nil))))))) (is_one (is_ret (i_var 1))))
/-! ### value_bytes -/
abbrev s_value_bytes : Stmt := top 8
abbrev N_value_bytes : List Str := ["value", "depth", "row", "part"]
theorem sc_value_bytes : FnScope N_value_bytes ["value", "depth"] (defScope s_value_bytes) := ⟨rfl, rfl, rfl, by decide +kernel, rfl, by decide +kernel, by decide +kernel⟩
theorem nd_value_bytes : N_value_bytes.Nodup := sc_value_bytes.nd
def W_value_bytes  (p_size_bytes : Sp3) (p_text_bytes : XS3) (p_value_bytes : XS3) (xw : D → H3 → Prop) : WS := wSeq (wIfS (wB (w1 (rIsN false) (wVar 0))) (wRet (wL rLst (wCons (wC (.int 0)) (wNil)))) (wNext)) (wSeq (wIfS (wB (w1 (rIsB false) (wVar 0))) (wRet (wL rLst (wCons (wC (.int 1)) (wNil)))) (wNext)) (wSeq (wIfS (wB (w1 (rIsB true) (wVar 0))) (wRet (wL rLst (wCons (wC (.int 2)) (wNil)))) (wNext)) (wSeq (wIfS (wB (w1 (rIsi .int) (wVar 0))) (wRet (wIf (wB (w2 rGe (wVar 0) (wC (.int 0)))) (w2 rAdd (wL rLst (wCons (wC (.int 3)) (wNil))) (wL p_size_bytes (wCons (wVar 0) (wNil)))) (w2 rAdd (wL rLst (wCons (wC (.int 4)) (wNil))) (wL p_size_bytes (wCons (w2 rSub (w1 rNeg (wC (.int 1))) (wVar 0)) (wNil)))))) (wNext)) (wSeq (wIfS (wB (w1 (rIsi .str) (wVar 0))) (wRet (wLX p_text_bytes (fun _ => xw) (wCons (wVar 0) (wNil)))) (wNext)) (wSeq (wIfS (wOr (wNot (wB (w1 (rIsi .tuple) (wVar 0)))) (wB (w2 rGe (wVar 1) (wC (.int 60))))) (wRaise (fun _ => xw) (w1 rNeg (wC (.int 1)))) (wNext)) (wSeq (wAsg (w2 rAdd (wL rLst (wCons (wC (.int 6)) (wNil))) (wL p_size_bytes (wCons (wL rLen (wCons (wVar 0) (wNil))) (wNil)))) (gN 2)) (wSeq (wFor (wIter (wVar 0)) (gN 3) (wDrop (wExtend (wVar 2) (wCons (wLX p_value_bytes (fun _ => xw) (wCons (wVar 3) (wCons (w2 rAdd (wVar 1) (wC (.int 1))) (wNil)))) (wNil))))) (wRet (wVar 2)))))))))
theorem walk_value_bytes {C_s : Unit}  {C_PackError : Addr} {xw : D → H3 → Prop} {p_size_bytes : Sp3} {p_text_bytes : XS3} {p_value_bytes : XS3} {k : Nat} (T : Mg mg)  {f : Addr} (cdv : Value) (A : Around) (outer : List Env) (s : Shared) (H : Hp) (E : XK) (hr : Room (k + 1) (A.deeper (envOfC "value_bytes" (defScope s_value_bytes) s.heap.objs.size f cdv))) (hx : XF0 (CXX P w K mg base N_value_bytes "value_bytes" s_value_bytes f cdv A outer s H E) G C_PackError "at" xw) (F_size_bytes : Fd P w K mg base G "size_bytes" (k + 1) p_size_bytes) (F_text_bytes : FdX P w K mg base G C_PackError "at" "text_bytes" (k + 1) p_text_bytes) (K_PackError : KdX P w K mg base C_PackError "at" "PackError" k) (F_value_bytes : FdX P w K mg base G C_PackError "at" "value_bytes" (k + 1) p_value_bytes) :
    PSs3 (CXX P w K mg base N_value_bytes "value_bytes" s_value_bytes f cdv A outer s H E) G (defBody s_value_bytes) (W_value_bytes p_size_bytes p_text_bytes p_value_bytes xw) := by
  unfold W_value_bytes
  exact is_cons (is_if (it_isN (i_var 0)) (is_one (is_ret (i_lst (ia_cons (i_int) (ia_nil))))) (is_nil)) (is_cons (is_if (it_isB (i_var 0)) (is_one (is_ret (i_lst (ia_cons (i_int) (ia_nil))))) (is_nil)) (is_cons (is_if (it_isB (i_var 0)) (is_one (is_ret (i_lst (ia_cons (i_int) (ia_nil))))) (is_nil)) (is_cons (is_if (it_val (i_isi .int rfl T.isinstance b_isinstance rfl T.int b_int (i_var 0))) (is_one (is_ret (i_if (it_cmp rf_ge (i_var 0) (i_int)) (i_bin rf_add (i_lst (ia_cons (i_int) (ia_nil))) (i_call F_size_bytes hr (ia_cons (i_var 0) (ia_nil)))) (i_bin rf_add (i_lst (ia_cons (i_int) (ia_nil))) (i_call F_size_bytes hr (ia_cons (i_bin rf_sub (i_un rf_neg' (i_int)) (i_var 0)) (ia_nil))))))) (is_nil)) (is_cons (is_if (it_val (i_isi .str rfl T.isinstance b_isinstance rfl T.str b_str (i_var 0))) (is_one (is_ret (i_callX hx.xf F_text_bytes hr (ia_cons (i_var 0) (ia_nil))))) (is_nil)) (is_cons (is_if (it_w (iw_or (it_not (it_val (i_isi .tuple rfl T.isinstance b_isinstance rfl T.tuple b_tuple (i_var 0)))) (iw_or1 (it_cmp rf_ge (i_var 1) (i_c (pe_glob (v := .int 60) rfl T.c_DEEPEST.choose_spec ⟨_, rfl⟩) (fun _ => .int _)))))) (is_one (is_raise hx.xf K_PackError rfl hr (i_un rf_neg' (i_int)))) (is_nil)) (is_cons (is_asg (i_bin rf_add (i_lst (ia_cons (i_int) (ia_nil))) (i_call F_size_bytes hr (ia_cons (i_callB rf_len rfl T.len b_len (ia_cons (i_var 0) (ia_nil))) (ia_nil)))) (ig_name 2 nd_value_bytes)) (is_cons (is_for (passes_of rfl) rfl (ii_any (i_var 0)) (ig_name 3 nd_value_bytes) (is_one (is_expr (i_extend (i_var 2) (ia_cons (i_callX hx.xf F_value_bytes hr (ia_cons (i_var 3) (ia_cons (i_bin rf_add (i_var 1) (i_int)) (ia_nil)))) (ia_nil)))))) (is_one (is_ret (i_var 2))))))))))
/-! ### pack -/
abbrev s_pack : Stmt := top 9
abbrev N_pack : List Str := ["value"]
theorem sc_pack : FnScope N_pack ["value"] (defScope s_pack) := ⟨rfl, rfl, rfl, by decide +kernel, rfl, by decide +kernel, by decide +kernel⟩
theorem nd_pack : N_pack.Nodup := sc_pack.nd
def W_pack  (p_value_bytes : XS3) (xw : D → H3 → Prop) : WS := wRet (wLX p_value_bytes (fun _ => xw) (wCons (wVar 0) (wCons (wC (.int 0)) (wNil))))
theorem walk_pack {C_s : Unit}  {C_PackError : Addr} {xw : D → H3 → Prop} {p_value_bytes : XS3} {k : Nat} (T : Mg mg)  {f : Addr} (cdv : Value) (A : Around) (outer : List Env) (s : Shared) (H : Hp) (E : XK) (hr : Room (k + 1) (A.deeper (envOfC "pack" (defScope s_pack) s.heap.objs.size f cdv))) (hx : XF0 (CXX P w K mg base N_pack "pack" s_pack f cdv A outer s H E) G C_PackError "at" xw) (F_value_bytes : FdX P w K mg base G C_PackError "at" "value_bytes" (k + 1) p_value_bytes) :
    PSs3 (CXX P w K mg base N_pack "pack" s_pack f cdv A outer s H E) G (defBody s_pack) (W_pack p_value_bytes xw) := by
  unfold W_pack
  exact is_one (is_ret (i_callX hx.xf F_value_bytes hr (ia_cons (i_var 0) (ia_cons (i_int) (ia_nil)))))
/-! ### Reader.__init__ -/
abbrev s_Reader_init : Stmt := inClass (top 10) 0
abbrev N_Reader_init : List Str := ["self", "data"]
theorem sc_Reader_init : FnScope N_Reader_init ["self", "data"] (defScope s_Reader_init) := ⟨rfl, rfl, rfl, by decide +kernel, rfl, by decide +kernel, by decide +kernel⟩
theorem nd_Reader_init : N_Reader_init.Nodup := sc_Reader_init.nd
def W_Reader_init (C_Reader : Addr)  : WS := wSeq (wSetF C_Reader n_Reader 0 (wVar 0) (wVar 1)) (wSetF C_Reader n_Reader 1 (wVar 0) (wC (.int 0)))
theorem walk_Reader_init {C_s : Unit} {C_Reader : Addr}  {k : Nat} (T : Mg mg) (T_Reader : Cl3 K C_Reader n_Reader) {f : Addr} (cdv : Value) (A : Around) (outer : List Env) (s : Shared) (H : Hp) (E : XK) (hr : Room (k + 1) (A.deeper (envOfC "Reader.__init__" (defScope s_Reader_init) s.heap.objs.size f cdv)))  :
    PSs3 (CXF P w K mg base N_Reader_init "Reader.__init__" s_Reader_init f cdv A outer s H E) G (defBody s_Reader_init) (W_Reader_init C_Reader) := by
  unfold W_Reader_init
  exact is_cons (is_setF C_Reader n_Reader 0 T_Reader (i_var 0) (i_var 1)) (is_one (is_setF C_Reader n_Reader 1 T_Reader (i_var 0) (i_int)))
/-! ### Reader.byte -/
abbrev s_Reader_byte : Stmt := inClass (top 10) 1
abbrev N_Reader_byte : List Str := ["self"]
theorem sc_Reader_byte : FnScope N_Reader_byte ["self"] (defScope s_Reader_byte) := ⟨rfl, rfl, rfl, by decide +kernel, rfl, by decide +kernel, by decide +kernel⟩
theorem nd_Reader_byte : N_Reader_byte.Nodup := sc_Reader_byte.nd
def W_Reader_byte (C_Reader : Addr)  (xw : D → H3 → Prop) : WS := wSeq (wIfS (wB (w2 rGe (wFld C_Reader n_Reader 1 (wVar 0)) (wL rLen (wCons (wFld C_Reader n_Reader 0 (wVar 0)) (wNil))))) (wRaise (fun _ => xw) (wL rLen (wCons (wFld C_Reader n_Reader 0 (wVar 0)) (wNil)))) (wNext)) (wSeq (wAugF C_Reader n_Reader 1 rAddI (wVar 0) (wC (.int 1))) (wRet (w2 rIx (wFld C_Reader n_Reader 0 (wVar 0)) (w2 rSub (wFld C_Reader n_Reader 1 (wVar 0)) (wC (.int 1))))))
theorem walk_Reader_byte {C_s : Unit} {C_Reader : Addr} {C_PackError : Addr} {xw : D → H3 → Prop}  {k : Nat} (T : Mg mg) (T_Reader : Cl3 K C_Reader n_Reader) {f : Addr} (cdv : Value) (A : Around) (outer : List Env) (s : Shared) (H : Hp) (E : XK) (hr : Room (k + 1) (A.deeper (envOfC "Reader.byte" (defScope s_Reader_byte) s.heap.objs.size f cdv))) (hx : XF0 (CXX P w K mg base N_Reader_byte "Reader.byte" s_Reader_byte f cdv A outer s H E) G C_PackError "at" xw) (K_PackError : KdX P w K mg base C_PackError "at" "PackError" k) :
    PSs3 (CXX P w K mg base N_Reader_byte "Reader.byte" s_Reader_byte f cdv A outer s H E) G (defBody s_Reader_byte) (W_Reader_byte C_Reader xw) := by
  unfold W_Reader_byte
  exact is_cons (is_if (it_cmp rf_ge (i_fld C_Reader n_Reader 1 T_Reader (i_var 0)) (i_callB rf_len rfl T.len b_len (ia_cons (i_fld C_Reader n_Reader 0 T_Reader (i_var 0)) (ia_nil)))) (is_one (is_raise hx.xf K_PackError rfl hr (i_callB rf_len rfl T.len b_len (ia_cons (i_fld C_Reader n_Reader 0 T_Reader (i_var 0)) (ia_nil))))) (is_nil)) (is_cons (is_augF C_Reader n_Reader 1 in_add rf_inAdd T_Reader (i_var 0) (i_int)) (is_one (is_ret (i_ix (i_fld C_Reader n_Reader 0 T_Reader (i_var 0)) (i_bin rf_sub (i_fld C_Reader n_Reader 1 T_Reader (i_var 0)) (i_int))))))
/-! ### Reader.size -/
abbrev s_Reader_size : Stmt := inClass (top 10) 2
abbrev N_Reader_size : List Str := ["self", "first", "n", "shift", "digit"]
theorem sc_Reader_size : FnScope N_Reader_size ["self"] (defScope s_Reader_size) := ⟨rfl, rfl, rfl, by decide +kernel, rfl, by decide +kernel, by decide +kernel⟩
theorem nd_Reader_size : N_Reader_size.Nodup := sc_Reader_size.nd
def W_Reader_size (C_Reader : Addr) (p_Reader_byte : XS3) (xw : D → H3 → Prop) : WS := wSeq (wAsg (wFld C_Reader n_Reader 1 (wVar 0)) (gN 1)) (wSeq (wAsg (wC (.int 0)) (gN 2)) (wSeq (wAsg (wC (.int 0)) (gN 3)) (wSeq (wAsg (wMethX C_Reader n_Reader p_Reader_byte xw (wVar 0) wNil) (gN 4)) (wSeq (wWhile (wB (w2 rGe (wVar 4) (wC (.int 128)))) (wSeq (wAsg (w2 rOrI (wVar 2) (w2 rShl (w2 rSub (wVar 4) (wC (.int 128))) (wVar 3))) (gN 2)) (wSeq (wAug 3 rAddI (wC (.int 7))) (wAsg (wMethX C_Reader n_Reader p_Reader_byte xw (wVar 0) wNil) (gN 4))))) (wSeq (wIfS (wAnd (wB (w2 rEq (wVar 4) (wC (.int 0)))) (wB (w2 rGt (w2 rSub (wFld C_Reader n_Reader 1 (wVar 0)) (wC (.int 1))) (wVar 1)))) (wRaise (fun _ => xw) (w2 rSub (wFld C_Reader n_Reader 1 (wVar 0)) (wC (.int 1)))) (wNext)) (wRet (w2 rOrI (wVar 2) (w2 rShl (wVar 4) (wVar 3)))))))))
theorem walk_Reader_size {C_s : Unit} {C_Reader : Addr} {C_PackError : Addr} {xw : D → H3 → Prop} {p_Reader_byte : XS3} {k : Nat} (T : Mg mg) (T_Reader : Cl3 K C_Reader n_Reader) {f : Addr} (cdv : Value) (A : Around) (outer : List Env) (s : Shared) (H : Hp) (E : XK) (hr : Room (k + 1) (A.deeper (envOfC "Reader.size" (defScope s_Reader_size) s.heap.objs.size f cdv))) (hx : XF0 (CXX P w K mg base N_Reader_size "Reader.size" s_Reader_size f cdv A outer s H E) G C_PackError "at" xw) (F_Reader_byte : MdX P w K mg base G C_PackError "at" C_Reader "byte" (k + 1) p_Reader_byte) (K_PackError : KdX P w K mg base C_PackError "at" "PackError" k) :
    PSs3 (CXX P w K mg base N_Reader_size "Reader.size" s_Reader_size f cdv A outer s H E) G (defBody s_Reader_size) (W_Reader_size C_Reader p_Reader_byte xw) := by
  unfold W_Reader_size
  exact is_cons (is_asg (i_fld C_Reader n_Reader 1 T_Reader (i_var 0)) (ig_name 1 nd_Reader_size)) (is_cons (is_asg (i_int) (ig_name 2 nd_Reader_size)) (is_cons (is_asg (i_int) (ig_name 3 nd_Reader_size)) (is_cons (is_asg (i_methX0 n_Reader hx F_Reader_byte hr (i_var 0)) (ig_name 4 nd_Reader_size)) (is_cons (is_while (passes_of rfl) (it_cmp rf_ge (i_var 4) (i_int)) (is_cons (is_asg (i_bin rf_or (i_var 2) (i_bin rf_shl (i_bin rf_sub (i_var 4) (i_int)) (i_var 3))) (ig_name 2 nd_Reader_size)) (is_cons (is_aug 3 ip_add rf_ipI nd_Reader_size (i_int)) (is_one (is_asg (i_methX0 n_Reader hx F_Reader_byte hr (i_var 0)) (ig_name 4 nd_Reader_size)))))) (is_cons (is_if (it_w (iw_and (it_cmp (rf_eq hr.units) (i_var 4) (i_int)) (iw_and1 (it_cmp rf_gt (i_bin rf_sub (i_fld C_Reader n_Reader 1 T_Reader (i_var 0)) (i_int)) (i_var 1))))) (is_one (is_raise hx.xf K_PackError rfl hr (i_bin rf_sub (i_fld C_Reader n_Reader 1 T_Reader (i_var 0)) (i_int)))) (is_nil)) (is_one (is_ret (i_bin rf_or (i_var 2) (i_bin rf_shl (i_var 4) (i_var 3))))))))))
/-! ### Reader.text -/
abbrev s_Reader_text : Stmt := inClass (top 10) 3
abbrev N_Reader_text : List Str := ["self", "signs", "turn", "code"]
theorem sc_Reader_text : FnScope N_Reader_text ["self"] (defScope s_Reader_text) := ⟨rfl, rfl, rfl, by decide +kernel, rfl, by decide +kernel, by decide +kernel⟩
theorem nd_Reader_text : N_Reader_text.Nodup := sc_Reader_text.nd
def W_Reader_text (C_Reader : Addr) (p_Reader_size : XS3) (p_Reader_byte : XS3) (xw : D → H3 → Prop) : WS := wSeq (wAsg (wL rLst (wNil)) (gN 1)) (wSeq (wFor (wRgA (wCons (wMethX C_Reader n_Reader p_Reader_size xw (wVar 0) wNil) (wNil))) (gN 2) (wSeq (wAsg (wMethX C_Reader n_Reader p_Reader_byte xw (wVar 0) wNil) (gN 3)) (wSeq (wIfS (wB (w2 rGe (wVar 3) (wL rLen (wCons (wC (.str "abcdefghijklmnopqrstuvwxyz0123456789_")) (wNil))))) (wRaise (fun _ => xw) (w2 rSub (wFld C_Reader n_Reader 1 (wVar 0)) (wC (.int 1)))) (wNext)) (wDrop (wAppend (wVar 1) (wCons (w2 rIx (wC (.str "abcdefghijklmnopqrstuvwxyz0123456789_")) (wVar 3)) (wNil))))))) (wRet (wJoin (wC (.str "")) (wVar 1))))
theorem walk_Reader_text {C_s : Unit} {C_Reader : Addr} {C_PackError : Addr} {xw : D → H3 → Prop} {p_Reader_size : XS3} {p_Reader_byte : XS3} {k : Nat} (T : Mg mg) (T_Reader : Cl3 K C_Reader n_Reader) {f : Addr} (cdv : Value) (A : Around) (outer : List Env) (s : Shared) (H : Hp) (E : XK) (hr : Room (k + 1) (A.deeper (envOfC "Reader.text" (defScope s_Reader_text) s.heap.objs.size f cdv))) (hx : XF0 (CXX P w K mg base N_Reader_text "Reader.text" s_Reader_text f cdv A outer s H E) G C_PackError "at" xw) (F_Reader_size : MdX P w K mg base G C_PackError "at" C_Reader "size" (k + 1) p_Reader_size) (F_Reader_byte : MdX P w K mg base G C_PackError "at" C_Reader "byte" (k + 1) p_Reader_byte) (K_PackError : KdX P w K mg base C_PackError "at" "PackError" k) :
    PSs3 (CXX P w K mg base N_Reader_text "Reader.text" s_Reader_text f cdv A outer s H E) G (defBody s_Reader_text) (W_Reader_text C_Reader p_Reader_size p_Reader_byte xw) := by
  unfold W_Reader_text
  exact is_cons (is_asg (i_lst (ia_nil)) (ig_name 1 nd_Reader_text)) (is_cons (is_for (passes_of rfl) rfl (ii_rgA rfl T.range (ia_cons (i_methX0 n_Reader hx F_Reader_size hr (i_var 0)) (ia_nil))) (ig_name 2 nd_Reader_text) (is_cons (is_asg (i_methX0 n_Reader hx F_Reader_byte hr (i_var 0)) (ig_name 3 nd_Reader_text)) (is_cons (is_if (it_cmp rf_ge (i_var 3) (i_callB rf_len rfl T.len b_len (ia_cons (i_c (pe_glob (v := .str "abcdefghijklmnopqrstuvwxyz0123456789_") rfl T.c_LETTERS.choose_spec ⟨_, rfl⟩) (fun _ => .str _)) (ia_nil)))) (is_one (is_raise hx.xf K_PackError rfl hr (i_bin rf_sub (i_fld C_Reader n_Reader 1 T_Reader (i_var 0)) (i_int)))) (is_nil)) (is_one (is_expr (i_append (i_var 1) (ia_cons (i_ix (i_c (pe_glob (v := .str "abcdefghijklmnopqrstuvwxyz0123456789_") rfl T.c_LETTERS.choose_spec ⟨_, rfl⟩) (fun _ => .str _)) (i_var 3)) (ia_nil)))))))) (is_one (is_ret (i_join (i_str) (i_var 1)))))
/-! ### Reader.value -/
abbrev s_Reader_value : Stmt := inClass (top 10) 4
abbrev N_Reader_value : List Str := ["self", "depth", "place", "code", "n", "parts", "turn"]
theorem sc_Reader_value : FnScope N_Reader_value ["self", "depth"] (defScope s_Reader_value) := ⟨rfl, rfl, rfl, by decide +kernel, rfl, by decide +kernel, by decide +kernel⟩
theorem nd_Reader_value : N_Reader_value.Nodup := sc_Reader_value.nd
def W_Reader_value (C_Reader : Addr) (p_Reader_byte : XS3) (p_Reader_text : XS3) (p_Reader_size : XS3) (p_Reader_value : XS3) (xw : D → H3 → Prop) : WS := wSeq (wAsg (wFld C_Reader n_Reader 1 (wVar 0)) (gN 2)) (wSeq (wAsg (wMethX C_Reader n_Reader p_Reader_byte xw (wVar 0) wNil) (gN 3)) (wSeq (wIfS (wOr (wB (w2 rGt (wVar 3) (wC (.int 6)))) (wAnd (wB (w2 rEq (wVar 3) (wC (.int 6)))) (wB (w2 rGe (wVar 1) (wC (.int 60)))))) (wRaise (fun _ => xw) (wVar 2)) (wNext)) (wSeq (wIfS (wB (w2 rLt (wVar 3) (wC (.int 3)))) (wRet (w2 rIx (wL rTup (wCons (wC .non) (wCons (wC (.bl false)) (wCons (wC (.bl true)) (wNil))))) (wVar 3))) (wNext)) (wSeq (wIfS (wB (w2 rEq (wVar 3) (wC (.int 5)))) (wRet (wMethX C_Reader n_Reader p_Reader_text xw (wVar 0) wNil)) (wNext)) (wSeq (wAsg (wMethX C_Reader n_Reader p_Reader_size xw (wVar 0) wNil) (gN 4)) (wSeq (wIfS (wB (w2 rEq (wVar 3) (wC (.int 3)))) (wRet (wVar 4)) (wNext)) (wSeq (wIfS (wB (w2 rEq (wVar 3) (wC (.int 4)))) (wRet (w2 rSub (w1 rNeg (wC (.int 1))) (wVar 4))) (wNext)) (wSeq (wAsg (wL rLst (wNil)) (gN 5)) (wSeq (wFor (wRgA (wCons (wVar 4) (wNil))) (gN 6) (wDrop (wAppend (wVar 5) (wCons (wMethX C_Reader n_Reader p_Reader_value xw (wVar 0) (wCons (w2 rAdd (wVar 1) (wC (.int 1))) (wNil))) (wNil))))) (wRet (wL rTupleOf (wCons (wVar 5) (wNil)))))))))))))
theorem walk_Reader_value {C_s : Unit} {C_Reader : Addr} {C_PackError : Addr} {xw : D → H3 → Prop} {p_Reader_byte : XS3} {p_Reader_text : XS3} {p_Reader_size : XS3} {p_Reader_value : XS3} {k : Nat} (T : Mg mg) (T_Reader : Cl3 K C_Reader n_Reader) {f : Addr} (cdv : Value) (A : Around) (outer : List Env) (s : Shared) (H : Hp) (E : XK) (hr : Room (k + 1) (A.deeper (envOfC "Reader.value" (defScope s_Reader_value) s.heap.objs.size f cdv))) (hx : XF0 (CXX P w K mg base N_Reader_value "Reader.value" s_Reader_value f cdv A outer s H E) G C_PackError "at" xw) (F_Reader_byte : MdX P w K mg base G C_PackError "at" C_Reader "byte" (k + 1) p_Reader_byte) (K_PackError : KdX P w K mg base C_PackError "at" "PackError" k) (F_Reader_text : MdX P w K mg base G C_PackError "at" C_Reader "text" (k + 1) p_Reader_text) (F_Reader_size : MdX P w K mg base G C_PackError "at" C_Reader "size" (k + 1) p_Reader_size) (F_Reader_value : MdX P w K mg base G C_PackError "at" C_Reader "value" (k + 1) p_Reader_value) :
    PSs3 (CXX P w K mg base N_Reader_value "Reader.value" s_Reader_value f cdv A outer s H E) G (defBody s_Reader_value) (W_Reader_value C_Reader p_Reader_byte p_Reader_text p_Reader_size p_Reader_value xw) := by
  unfold W_Reader_value
  exact is_cons (is_asg (i_fld C_Reader n_Reader 1 T_Reader (i_var 0)) (ig_name 2 nd_Reader_value)) (is_cons (is_asg (i_methX0 n_Reader hx F_Reader_byte hr (i_var 0)) (ig_name 3 nd_Reader_value)) (is_cons (is_if (it_w (iw_or (it_cmp rf_gt (i_var 3) (i_int)) (iw_or1 (it_w (iw_and (it_cmp (rf_eq hr.units) (i_var 3) (i_int)) (iw_and1 (it_cmp rf_ge (i_var 1) (i_c (pe_glob (v := .int 60) rfl T.c_DEEPEST.choose_spec ⟨_, rfl⟩) (fun _ => .int _))))))))) (is_one (is_raise hx.xf K_PackError rfl hr (i_var 2))) (is_nil)) (is_cons (is_if (it_cmp rf_lt (i_var 3) (i_int)) (is_one (is_ret (i_ix (i_tup (ia_cons (i_non) (ia_cons (i_bl) (ia_cons (i_bl) (ia_nil))))) (i_var 3)))) (is_nil)) (is_cons (is_if (it_cmp (rf_eq hr.units) (i_var 3) (i_int)) (is_one (is_ret (i_methX0 n_Reader hx F_Reader_text hr (i_var 0)))) (is_nil)) (is_cons (is_asg (i_methX0 n_Reader hx F_Reader_size hr (i_var 0)) (ig_name 4 nd_Reader_value)) (is_cons (is_if (it_cmp (rf_eq hr.units) (i_var 3) (i_int)) (is_one (is_ret (i_var 4))) (is_nil)) (is_cons (is_if (it_cmp (rf_eq hr.units) (i_var 3) (i_int)) (is_one (is_ret (i_bin rf_sub (i_un rf_neg' (i_int)) (i_var 4)))) (is_nil)) (is_cons (is_asg (i_lst (ia_nil)) (ig_name 5 nd_Reader_value)) (is_cons (is_for (passes_of rfl) rfl (ii_rgA rfl T.range (ia_cons (i_var 4) (ia_nil))) (ig_name 6 nd_Reader_value) (is_one (is_expr (i_append (i_var 5) (ia_cons (i_methX n_Reader hx F_Reader_value hr (i_var 0) (ia_cons (i_bin rf_add (i_var 1) (i_int)) (ia_nil))) (ia_nil)))))) (is_one (is_ret (i_callT rf_tupleOf rfl T.tuple b_tuple (ia_cons (i_var 5) (ia_nil))))))))))))))
/-! ### unpack -/
abbrev s_unpack : Stmt := top 11
abbrev N_unpack : List Str := ["data", "reader", "value"]
theorem sc_unpack : FnScope N_unpack ["data"] (defScope s_unpack) := ⟨rfl, rfl, rfl, by decide +kernel, rfl, by decide +kernel, by decide +kernel⟩
theorem nd_unpack : N_unpack.Nodup := sc_unpack.nd
def W_unpack (C_Reader : Addr) (p_Reader_init : Sp3) (p_Reader_value : XS3) (xw : D → H3 → Prop) : WS := wSeq (wAsg (wMake C_Reader n_Reader p_Reader_init (wCons (wL rListOf (wCons (wVar 0) (wNil))) (wNil))) (gN 1)) (wSeq (wAsg (wMethX C_Reader n_Reader p_Reader_value xw (wVar 1) (wCons (wC (.int 0)) (wNil))) (gN 2)) (wSeq (wIfS (wB (w2 rLt (wFld C_Reader n_Reader 1 (wVar 1)) (wL rLen (wCons (wFld C_Reader n_Reader 0 (wVar 1)) (wNil))))) (wRaise (fun _ => xw) (wFld C_Reader n_Reader 1 (wVar 1))) (wNext)) (wRet (wVar 2))))
theorem walk_unpack {C_s : Unit} {C_Reader : Addr} {C_PackError : Addr} {xw : D → H3 → Prop} {p_Reader_init : Sp3} {p_Reader_value : XS3} {k : Nat} (T : Mg mg) (T_Reader : Cl3 K C_Reader n_Reader) {f : Addr} (cdv : Value) (A : Around) (outer : List Env) (s : Shared) (H : Hp) (E : XK) (hr : Room (k + 1) (A.deeper (envOfC "unpack" (defScope s_unpack) s.heap.objs.size f cdv))) (hx : XF0 (CXX P w K mg base N_unpack "unpack" s_unpack f cdv A outer s H E) G C_PackError "at" xw) (K_Reader : Kd P w K mg base G "Reader" C_Reader k p_Reader_init) (F_Reader_value : MdX P w K mg base G C_PackError "at" C_Reader "value" (k + 1) p_Reader_value) (K_PackError : KdX P w K mg base C_PackError "at" "PackError" k) :
    PSs3 (CXX P w K mg base N_unpack "unpack" s_unpack f cdv A outer s H E) G (defBody s_unpack) (W_unpack C_Reader p_Reader_init p_Reader_value xw) := by
  unfold W_unpack
  exact is_cons (is_asg (i_make n_Reader K_Reader hr (ia_cons (i_callT rf_listOf rfl T.list b_list (ia_cons (i_var 0) (ia_nil))) (ia_nil))) (ig_name 1 nd_unpack)) (is_cons (is_asg (i_methX n_Reader hx F_Reader_value hr (i_var 1) (ia_cons (i_int) (ia_nil))) (ig_name 2 nd_unpack)) (is_cons (is_if (it_cmp rf_lt (i_fld C_Reader n_Reader 1 T_Reader (i_var 1)) (i_callB rf_len rfl T.len b_len (ia_cons (i_fld C_Reader n_Reader 0 T_Reader (i_var 1)) (ia_nil)))) (is_one (is_raise hx.xf K_PackError rfl hr (i_fld C_Reader n_Reader 1 T_Reader (i_var 1)))) (is_nil)) (is_one (is_ret (i_var 2)))))
/-! ### _law_draw -/
abbrev s_l_draw : Stmt := top 13
abbrev N_l_draw : List Str := ["script", "seed", "cell"]
theorem sc_l_draw : FnScope N_l_draw ["script"] (defScope s_l_draw) := ⟨rfl, rfl, rfl, by decide +kernel, rfl, by decide +kernel, by decide +kernel⟩
theorem nd_l_draw : N_l_draw.Nodup := sc_l_draw.nd
def W_l_draw (G : Sc)   : WS := wSeq (wAsg (wC (.int 7)) (gN 1)) (wSeq (wFor (wScript G 0) (gN 2) (wAsg (w2 rMod (wL rToInt (wCons (w2 rAdd (w2 rAdd (w2 rMul (wVar 1) (wC (.int 48271))) (w2 rMod (wL rAbs (wCons (wL rToInt (wCons (wVar 2) (wNil))) (wNil))) (wC (.int 65521)))) (wC (.int 1))) (wNil))) (wC (.int 2147483647))) (gN 1))) (wRet (wL rLst (wCons (wLc (wScript G 0) 2 (wYes) (wL rAbs (wCons (wL rToInt (wCons (wVar 2) (wNil))) (wNil)))) (wCons (w1 rNeg (wC (.int 1))) (wCons (wC (.int 0)) (wCons (wVar 1) (wNil))))))))
theorem walk_l_draw {C_s : Unit}   {k : Nat} (T : Mg mg)  {f : Addr} (cdv : Value) (A : Around) (outer : List Env) (s : Shared) (H : Hp) (E : XK) (hr : Room (k + 1) (A.deeper (envOfC "_law_draw" (defScope s_l_draw) s.heap.objs.size f cdv))) (hGK : G.K = K) :
    PSs3 (CXF P w K mg base N_l_draw "_law_draw" s_l_draw f cdv A outer s H E) G (defBody s_l_draw) (W_l_draw G) := by
  unfold W_l_draw
  exact is_cons (is_asg (i_int) (ig_name 1 nd_l_draw)) (is_cons (is_for PassesOwn.never rfl (ii_script 0 hGK) (ig_name 2 nd_l_draw) (is_one (is_asg (i_bin rf_mod (i_callT rf_int1 rfl T.int b_int (ia_cons (i_bin rf_add (i_bin rf_add (i_bin rf_mul (i_var 1) (i_int)) (i_bin rf_mod (i_callB rf_abs rfl T.abs b_abs (ia_cons (i_callT rf_int1 rfl T.int b_int (ia_cons (i_var 2) (ia_nil))) (ia_nil))) (i_int))) (i_int)) (ia_nil))) (i_int)) (ig_name 1 nd_l_draw)))) (is_one (is_ret (i_lst (ia_cons (i_lc 2 rfl nd_l_draw (blkOk_by (N := N_l_draw) (sc := defScope s_l_draw) (by decide +kernel)) (ii_script 0 hGK) (fun _ _ _ _ _ => pg_name (i := 2) nd_l_draw rfl (Or.inl rfl)) (fun _ _ _ _ _ => its_nil) (fun _ _ _ _ _ => i_callB rf_abs rfl T.abs b_abs (ia_cons (i_callT rf_int1 rfl T.int b_int (ia_cons (i_var 2) (ia_nil))) (ia_nil)))) (ia_cons (i_un rf_neg' (i_int)) (ia_cons (i_int) (ia_cons (i_var 1) (ia_nil)))))))))
/-! ### _law_take -/
abbrev s_l_take : Stmt := top 14
abbrev N_l_take : List Str := ["draw", "many", "found"]
theorem sc_l_take : FnScope N_l_take ["draw", "many"] (defScope s_l_take) := ⟨rfl, rfl, rfl, by decide +kernel, rfl, by decide +kernel, by decide +kernel⟩
theorem nd_l_take : N_l_take.Nodup := sc_l_take.nd
def W_l_take   : WS := wSeq (wIfS (wB (w2 rEq (w2 rIx (wVar 0) (wC (.int 2))) (wC (.int 0)))) (wSeq (wAsg (w2 rAdd (w2 rIx (wVar 0) (wC (.int 1))) (wC (.int 1))) (gIx (wVar 0) (wC (.int 1)))) (wSeq (wIfS (wB (w2 rLt (w2 rIx (wVar 0) (wC (.int 1))) (wL rLen (wCons (w2 rIx (wVar 0) (wC (.int 0))) (wNil))))) (wAsg (w2 rIx (w2 rIx (wVar 0) (wC (.int 0))) (w2 rIx (wVar 0) (wC (.int 1)))) (gIx (wVar 0) (wC (.int 2)))) (wNext)) (wIfS (wB (w2 rEq (w2 rIx (wVar 0) (wC (.int 2))) (wC (.int 0)))) (wSeq (wAsg (w2 rMod (wL rToInt (wCons (w2 rAdd (w2 rMul (w2 rIx (wVar 0) (wC (.int 3))) (wC (.int 48271))) (wC (.int 11))) (wNil))) (wC (.int 2147483647))) (gIx (wVar 0) (wC (.int 3)))) (wAsg (w2 rIx (wVar 0) (wC (.int 3))) (gIx (wVar 0) (wC (.int 2))))) (wNext)))) (wNext)) (wSeq (wAsg (w2 rMod (wL rToInt (wCons (w2 rIx (wVar 0) (wC (.int 2))) (wNil))) (wVar 1)) (gN 2)) (wSeq (wAsg (w2 rDiv (w2 rIx (wVar 0) (wC (.int 2))) (wVar 1)) (gIx (wVar 0) (wC (.int 2)))) (wRet (wVar 2))))
theorem walk_l_take {C_s : Unit}   {k : Nat} (T : Mg mg)  {f : Addr} (cdv : Value) (A : Around) (outer : List Env) (s : Shared) (H : Hp) (E : XK) (hr : Room (k + 1) (A.deeper (envOfC "_law_take" (defScope s_l_take) s.heap.objs.size f cdv)))  :
    PSs3 (CXF P w K mg base N_l_take "_law_take" s_l_take f cdv A outer s H E) G (defBody s_l_take) (W_l_take ) := by
  unfold W_l_take
  exact is_cons (is_if (it_cmp (rf_eq hr.units) (i_ix (i_var 0) (i_int)) (i_int)) (is_cons (is_asg (i_bin rf_add (i_ix (i_var 0) (i_int)) (i_int)) (ig_ix (i_var 0) (i_int))) (is_cons (is_if (it_cmp rf_lt (i_ix (i_var 0) (i_int)) (i_callB rf_len rfl T.len b_len (ia_cons (i_ix (i_var 0) (i_int)) (ia_nil)))) (is_one (is_asg (i_ix (i_ix (i_var 0) (i_int)) (i_ix (i_var 0) (i_int))) (ig_ix (i_var 0) (i_int)))) (is_nil)) (is_one (is_if (it_cmp (rf_eq hr.units) (i_ix (i_var 0) (i_int)) (i_int)) (is_cons (is_asg (i_bin rf_mod (i_callT rf_int1 rfl T.int b_int (ia_cons (i_bin rf_add (i_bin rf_mul (i_ix (i_var 0) (i_int)) (i_int)) (i_int)) (ia_nil))) (i_int)) (ig_ix (i_var 0) (i_int))) (is_one (is_asg (i_ix (i_var 0) (i_int)) (ig_ix (i_var 0) (i_int))))) (is_nil))))) (is_nil)) (is_cons (is_asg (i_bin rf_mod (i_callT rf_int1 rfl T.int b_int (ia_cons (i_ix (i_var 0) (i_int)) (ia_nil))) (i_var 1)) (ig_name 2 nd_l_take)) (is_cons (is_asg (i_bin rf_div (i_ix (i_var 0) (i_int)) (i_var 1)) (ig_ix (i_var 0) (i_int))) (is_one (is_ret (i_var 2)))))
/-! ### _law_top -/
abbrev s_l_top : Stmt := top 15
abbrev N_l_top : List Str := ["w"]
theorem sc_l_top : FnScope N_l_top ["w"] (defScope s_l_top) := ⟨rfl, rfl, rfl, by decide +kernel, rfl, by decide +kernel, by decide +kernel⟩
theorem nd_l_top : N_l_top.Nodup := sc_l_top.nd
def W_l_top   : WS := wRet (w2 rSub (w2 rShl (wC (.int 1)) (wVar 0)) (wC (.int 1)))
theorem walk_l_top {C_s : Unit}   {k : Nat} (T : Mg mg)  {f : Addr} (cdv : Value) (A : Around) (outer : List Env) (s : Shared) (H : Hp) (E : XK) (hr : Room (k + 1) (A.deeper (envOfC "_law_top" (defScope s_l_top) s.heap.objs.size f cdv)))  :
    PSs3 (CXF P w K mg base N_l_top "_law_top" s_l_top f cdv A outer s H E) G (defBody s_l_top) (W_l_top ) := by
  unfold W_l_top
  exact is_one (is_ret (i_bin rf_sub (i_bin rf_shl (i_int) (i_var 0)) (i_int)))
/-! ### _law_word -/
abbrev s_l_word : Stmt := top 17
abbrev N_l_word : List Str := ["draw", "w"]
theorem sc_l_word : FnScope N_l_word ["draw", "w"] (defScope s_l_word) := ⟨rfl, rfl, rfl, by decide +kernel, rfl, by decide +kernel, by decide +kernel⟩
theorem nd_l_word : N_l_word.Nodup := sc_l_word.nd
def W_l_word  (p_l_take : Sp3) (p_l_top : Sp3) : WS := wRet (w2 rAndI (w2 rIx (wL rLst (wCons (wC (.int 0)) (wCons (wC (.int 1)) (wCons (wC (.int 2)) (wCons (wL p_l_top (wCons (wVar 1) (wNil))) (wCons (wL p_l_take (wCons (wVar 0) (wCons (w2 rShl (wC (.int 1)) (wVar 1)) (wNil)))) (wNil))))))) (wL p_l_take (wCons (wVar 0) (wCons (wC (.int 5)) (wNil))))) (wL p_l_top (wCons (wVar 1) (wNil))))
theorem walk_l_word {C_s : Unit}  {p_l_take : Sp3} {p_l_top : Sp3} {k : Nat} (T : Mg mg)  {f : Addr} (cdv : Value) (A : Around) (outer : List Env) (s : Shared) (H : Hp) (E : XK) (hr : Room (k + 1) (A.deeper (envOfC "_law_word" (defScope s_l_word) s.heap.objs.size f cdv))) (F_l_take : Fd P w K mg base G "_law_take" (k + 1) p_l_take) (F_l_top : Fd P w K mg base G "_law_top" (k + 1) p_l_top) :
    PSs3 (CXF P w K mg base N_l_word "_law_word" s_l_word f cdv A outer s H E) G (defBody s_l_word) (W_l_word p_l_take p_l_top) := by
  unfold W_l_word
  exact is_one (is_ret (i_bin rf_and (i_ix (i_lst (ia_cons (i_int) (ia_cons (i_int) (ia_cons (i_int) (ia_cons (i_call F_l_top hr (ia_cons (i_var 1) (ia_nil))) (ia_cons (i_call F_l_take hr (ia_cons (i_var 0) (ia_cons (i_bin rf_shl (i_int) (i_var 1)) (ia_nil)))) (ia_nil))))))) (i_call F_l_take hr (ia_cons (i_var 0) (ia_cons (i_int) (ia_nil))))) (i_call F_l_top hr (ia_cons (i_var 1) (ia_nil)))))
/-! ### _law_ops -/
abbrev s_l_ops : Stmt := top 18
abbrev N_l_ops : List Str := []
theorem sc_l_ops : FnScope N_l_ops [] (defScope s_l_ops) := ⟨rfl, rfl, rfl, by decide +kernel, rfl, by decide +kernel, by decide +kernel⟩
theorem nd_l_ops : N_l_ops.Nodup := sc_l_ops.nd
def W_l_ops   : WS := wRet (wL rLst (wCons (wC (.str "add")) (wCons (wC (.str "sub")) (wCons (wC (.str "mul")) (wCons (wC (.str "and")) (wCons (wC (.str "or")) (wCons (wC (.str "xor")) (wCons (wC (.str "shl")) (wCons (wC (.str "shr")) (wCons (wC (.str "less")) (wCons (wC (.str "equal")) (wNil))))))))))))
theorem walk_l_ops {C_s : Unit}   {k : Nat} (T : Mg mg)  {f : Addr} (cdv : Value) (A : Around) (outer : List Env) (s : Shared) (H : Hp) (E : XK) (hr : Room (k + 1) (A.deeper (envOfC "_law_ops" (defScope s_l_ops) s.heap.objs.size f cdv)))  :
    PSs3 (CXF P w K mg base N_l_ops "_law_ops" s_l_ops f cdv A outer s H E) G (defBody s_l_ops) (W_l_ops ) := by
  unfold W_l_ops
  exact is_one (is_ret (i_lst (ia_cons (i_str) (ia_cons (i_str) (ia_cons (i_str) (ia_cons (i_str) (ia_cons (i_str) (ia_cons (i_str) (ia_cons (i_str) (ia_cons (i_str) (ia_cons (i_str) (ia_cons (i_str) (ia_nil)))))))))))))
/-! ### _law_variable -/
abbrev s_l_variable : Stmt := top 19
abbrev N_l_variable : List Str := ["draw"]
theorem sc_l_variable : FnScope N_l_variable ["draw"] (defScope s_l_variable) := ⟨rfl, rfl, rfl, by decide +kernel, rfl, by decide +kernel, by decide +kernel⟩
theorem nd_l_variable : N_l_variable.Nodup := sc_l_variable.nd
def W_l_variable  (p_l_take : Sp3) : WS := wRet (w2 rIx (wL rLst (wCons (wC (.int 0)) (wCons (wC (.int 1)) (wCons (wC (.int 2)) (wCons (wC (.int 3)) (wCons (wC (.int 0)) (wCons (wC (.int 1)) (wCons (wC (.int 2)) (wCons (wC (.int 39)) (wNil)))))))))) (wL p_l_take (wCons (wVar 0) (wCons (wC (.int 8)) (wNil)))))
theorem walk_l_variable {C_s : Unit}  {p_l_take : Sp3} {k : Nat} (T : Mg mg)  {f : Addr} (cdv : Value) (A : Around) (outer : List Env) (s : Shared) (H : Hp) (E : XK) (hr : Room (k + 1) (A.deeper (envOfC "_law_variable" (defScope s_l_variable) s.heap.objs.size f cdv))) (F_l_take : Fd P w K mg base G "_law_take" (k + 1) p_l_take) :
    PSs3 (CXF P w K mg base N_l_variable "_law_variable" s_l_variable f cdv A outer s H E) G (defBody s_l_variable) (W_l_variable p_l_take) := by
  unfold W_l_variable
  exact is_one (is_ret (i_ix (i_lst (ia_cons (i_int) (ia_cons (i_int) (ia_cons (i_int) (ia_cons (i_int) (ia_cons (i_int) (ia_cons (i_int) (ia_cons (i_int) (ia_cons (i_int) (ia_nil)))))))))) (i_call F_l_take hr (ia_cons (i_var 0) (ia_cons (i_int) (ia_nil))))))
/-! ### _law_expression -/
abbrev s_l_expression : Stmt := top 20
abbrev N_l_expression : List Str := ["p", "depth", "draw", "k", "name", "size"]
theorem sc_l_expression : FnScope N_l_expression ["p", "depth"] (defScope s_l_expression) := ⟨rfl, rfl, rfl, by decide +kernel, rfl, by decide +kernel, by decide +kernel⟩
theorem nd_l_expression : N_l_expression.Nodup := sc_l_expression.nd
def W_l_expression  (p_l_take : Sp3) (p_l_word : Sp3) (p_l_variable : Sp3) (p_l_index : Sp3) (p_l_expression : Sp3) (p_l_ops : Sp3) : WS := wSeq (wAsg (w2 rDGet (wVar 0) (wC (.str "draw"))) (gN 2)) (wSeq (wAsg (wL p_l_take (wCons (wVar 2) (wCons (wC (.int 9)) (wNil)))) (gN 3)) (wSeq (wIfS (wOr (wB (w2 rLt (wVar 3) (wC (.int 2)))) (wAnd (wB (w2 rLt (wVar 1) (wC (.int 1)))) (wB (w2 rGt (wVar 3) (wC (.int 5)))))) (wRet (wL rTup (wCons (wC (.str "int")) (wCons (wL p_l_word (wCons (wVar 2) (wCons (w2 rDGet (wVar 0) (wC (.str "width"))) (wNil)))) (wNil))))) (wNext)) (wSeq (wIfS (wOr (wB (w2 rLt (wVar 3) (wC (.int 4)))) (wB (w2 rLt (wVar 1) (wC (.int 1))))) (wRet (wL rTup (wCons (wC (.str "var")) (wCons (wL p_l_variable (wCons (wVar 2) (wNil))) (wNil))))) (wNext)) (wSeq (wIfS (wAnd (wB (w2 rEq (wVar 3) (wC (.int 4)))) (wB (w2 rNe (w2 rDGet (wVar 0) (wC (.str "arrays"))) (wL rTup (wNil))))) (wSeq (wAsg (w2 rIx (w2 rDGet (wVar 0) (wC (.str "arrays"))) (wL p_l_take (wCons (wVar 2) (wCons (wL rLen (wCons (w2 rDGet (wVar 0) (wC (.str "arrays"))) (wNil))) (wNil))))) (gT [gN 4, gN 5])) (wRet (wL rTup (wCons (wC (.str "cell")) (wCons (wVar 4) (wCons (wL p_l_index (wCons (wVar 0) (wCons (wVar 5) (wCons (w2 rSub (wVar 1) (wC (.int 1))) (wNil))))) (wNil))))))) (wNext)) (wSeq (wIfS (wB (w2 rEq (wVar 3) (wC (.int 5)))) (wRet (wL rTup (wCons (w2 rIx (wL rLst (wCons (wC (.str "not")) (wCons (wC (.str "neg")) (wNil)))) (wL p_l_take (wCons (wVar 2) (wCons (wC (.int 2)) (wNil))))) (wCons (wL p_l_expression (wCons (wVar 0) (wCons (w2 rSub (wVar 1) (wC (.int 1))) (wNil)))) (wNil))))) (wNext)) (wRet (wL rTup (wCons (w2 rIx (wL p_l_ops wNil) (wL p_l_take (wCons (wVar 2) (wCons (wC (.int 10)) (wNil))))) (wCons (wL p_l_expression (wCons (wVar 0) (wCons (w2 rSub (wVar 1) (wC (.int 1))) (wNil)))) (wCons (wL p_l_expression (wCons (wVar 0) (wCons (w2 rSub (wVar 1) (wC (.int 1))) (wNil)))) (wNil)))))))))))
theorem walk_l_expression {C_s : Unit}  {p_l_take : Sp3} {p_l_word : Sp3} {p_l_variable : Sp3} {p_l_index : Sp3} {p_l_expression : Sp3} {p_l_ops : Sp3} {k : Nat} (T : Mg mg)  {f : Addr} (cdv : Value) (A : Around) (outer : List Env) (s : Shared) (H : Hp) (E : XK) (hr : Room (k + 1) (A.deeper (envOfC "_law_expression" (defScope s_l_expression) s.heap.objs.size f cdv))) (F_l_take : Fd P w K mg base G "_law_take" (k + 1) p_l_take) (F_l_word : Fd P w K mg base G "_law_word" (k + 1) p_l_word) (F_l_variable : Fd P w K mg base G "_law_variable" (k + 1) p_l_variable) (F_l_index : Fd P w K mg base G "_law_index" (k + 1) p_l_index) (F_l_expression : Fd P w K mg base G "_law_expression" (k + 1) p_l_expression) (F_l_ops : Fd P w K mg base G "_law_ops" (k + 1) p_l_ops) :
    PSs3 (CXF P w K mg base N_l_expression "_law_expression" s_l_expression f cdv A outer s H E) G (defBody s_l_expression) (W_l_expression p_l_take p_l_word p_l_variable p_l_index p_l_expression p_l_ops) := by
  unfold W_l_expression
  exact is_cons (is_asg (i_dget (hu_of hr) (i_var 0) (i_str)) (ig_name 2 nd_l_expression)) (is_cons (is_asg (i_call F_l_take hr (ia_cons (i_var 2) (ia_cons (i_int) (ia_nil)))) (ig_name 3 nd_l_expression)) (is_cons (is_if (it_w (iw_or (it_cmp rf_lt (i_var 3) (i_int)) (iw_or1 (it_w (iw_and (it_cmp rf_lt (i_var 1) (i_int)) (iw_and1 (it_cmp rf_gt (i_var 3) (i_int)))))))) (is_one (is_ret (i_tup (ia_cons (i_str) (ia_cons (i_call F_l_word hr (ia_cons (i_var 2) (ia_cons (i_dget (hu_of hr) (i_var 0) (i_str)) (ia_nil)))) (ia_nil)))))) (is_nil)) (is_cons (is_if (it_w (iw_or (it_cmp rf_lt (i_var 3) (i_int)) (iw_or1 (it_cmp rf_lt (i_var 1) (i_int))))) (is_one (is_ret (i_tup (ia_cons (i_str) (ia_cons (i_call F_l_variable hr (ia_cons (i_var 2) (ia_nil))) (ia_nil)))))) (is_nil)) (is_cons (is_if (it_w (iw_and (it_cmp (rf_eq hr.units) (i_var 3) (i_int)) (iw_and1 (it_cmp (rf_ne hr.units) (i_dget (hu_of hr) (i_var 0) (i_str)) (i_tup (ia_nil)))))) (is_cons (is_asg (i_ix (i_dget (hu_of hr) (i_var 0) (i_str)) (i_call F_l_take hr (ia_cons (i_var 2) (ia_cons (i_callB rf_len rfl T.len b_len (ia_cons (i_dget (hu_of hr) (i_var 0) (i_str)) (ia_nil))) (ia_nil))))) (ig_tup rfl (igs_cons (ig_name 4 nd_l_expression) (igs_cons (ig_name 5 nd_l_expression) (igs_nil))))) (is_one (is_ret (i_tup (ia_cons (i_str) (ia_cons (i_var 4) (ia_cons (i_call F_l_index hr (ia_cons (i_var 0) (ia_cons (i_var 5) (ia_cons (i_bin rf_sub (i_var 1) (i_int)) (ia_nil))))) (ia_nil)))))))) (is_nil)) (is_cons (is_if (it_cmp (rf_eq hr.units) (i_var 3) (i_int)) (is_one (is_ret (i_tup (ia_cons (i_ix (i_lst (ia_cons (i_str) (ia_cons (i_str) (ia_nil)))) (i_call F_l_take hr (ia_cons (i_var 2) (ia_cons (i_int) (ia_nil))))) (ia_cons (i_call F_l_expression hr (ia_cons (i_var 0) (ia_cons (i_bin rf_sub (i_var 1) (i_int)) (ia_nil)))) (ia_nil)))))) (is_nil)) (is_one (is_ret (i_tup (ia_cons (i_ix (i_call0 F_l_ops hr) (i_call F_l_take hr (ia_cons (i_var 2) (ia_cons (i_int) (ia_nil))))) (ia_cons (i_call F_l_expression hr (ia_cons (i_var 0) (ia_cons (i_bin rf_sub (i_var 1) (i_int)) (ia_nil)))) (ia_cons (i_call F_l_expression hr (ia_cons (i_var 0) (ia_cons (i_bin rf_sub (i_var 1) (i_int)) (ia_nil)))) (ia_nil))))))))))))
/-! ### _law_index -/
abbrev s_l_index : Stmt := top 21
abbrev N_l_index : List Str := ["p", "size", "depth", "most"]
theorem sc_l_index : FnScope N_l_index ["p", "size", "depth"] (defScope s_l_index) := ⟨rfl, rfl, rfl, by decide +kernel, rfl, by decide +kernel, by decide +kernel⟩
theorem nd_l_index : N_l_index.Nodup := sc_l_index.nd
def W_l_index  (p_l_take : Sp3) (p_l_expression : Sp3) (p_l_top : Sp3) (p_l_variable : Sp3) : WS := wSeq (wIfS (wB (w2 rEq (wL p_l_take (wCons (w2 rDGet (wVar 0) (wC (.str "draw"))) (wCons (wC (.int 3)) (wNil)))) (wC (.int 0)))) (wRet (wL p_l_expression (wCons (wVar 0) (wCons (wVar 2) (wNil))))) (wNext)) (wSeq (wAsg (wL rMin2 (wCons (w2 rSub (wVar 1) (wC (.int 1))) (wCons (wL p_l_top (wCons (w2 rDGet (wVar 0) (wC (.str "width"))) (wNil))) (wNil)))) (gN 3)) (wSeq (wIfS (wB (w2 rEq (wL p_l_take (wCons (w2 rDGet (wVar 0) (wC (.str "draw"))) (wCons (wC (.int 2)) (wNil)))) (wC (.int 0)))) (wRet (wL rTup (wCons (wC (.str "int")) (wCons (wL p_l_take (wCons (w2 rDGet (wVar 0) (wC (.str "draw"))) (wCons (w2 rAdd (wVar 3) (wC (.int 1))) (wNil)))) (wNil))))) (wNext)) (wRet (wL rTup (wCons (wC (.str "and")) (wCons (wL rTup (wCons (wC (.str "var")) (wCons (wL p_l_variable (wCons (w2 rDGet (wVar 0) (wC (.str "draw"))) (wNil))) (wNil)))) (wCons (wL rTup (wCons (wC (.str "int")) (wCons (w2 rIx (wL rLst (wCons (wC (.int 0)) (wCons (wC (.int 1)) (wCons (wC (.int 1)) (wCons (wC (.int 3)) (wCons (wC (.int 3)) (wCons (wC (.int 3)) (wCons (wC (.int 3)) (wCons (wC (.int 7)) (wNil)))))))))) (wL rMin2 (wCons (wVar 3) (wCons (wC (.int 7)) (wNil))))) (wNil)))) (wNil))))))))
theorem walk_l_index {C_s : Unit}  {p_l_take : Sp3} {p_l_expression : Sp3} {p_l_top : Sp3} {p_l_variable : Sp3} {k : Nat} (T : Mg mg)  {f : Addr} (cdv : Value) (A : Around) (outer : List Env) (s : Shared) (H : Hp) (E : XK) (hr : Room (k + 1) (A.deeper (envOfC "_law_index" (defScope s_l_index) s.heap.objs.size f cdv))) (F_l_take : Fd P w K mg base G "_law_take" (k + 1) p_l_take) (F_l_expression : Fd P w K mg base G "_law_expression" (k + 1) p_l_expression) (F_l_top : Fd P w K mg base G "_law_top" (k + 1) p_l_top) (F_l_variable : Fd P w K mg base G "_law_variable" (k + 1) p_l_variable) :
    PSs3 (CXF P w K mg base N_l_index "_law_index" s_l_index f cdv A outer s H E) G (defBody s_l_index) (W_l_index p_l_take p_l_expression p_l_top p_l_variable) := by
  unfold W_l_index
  exact is_cons (is_if (it_cmp (rf_eq hr.units) (i_call F_l_take hr (ia_cons (i_dget (hu_of hr) (i_var 0) (i_str)) (ia_cons (i_int) (ia_nil)))) (i_int)) (is_one (is_ret (i_call F_l_expression hr (ia_cons (i_var 0) (ia_cons (i_var 2) (ia_nil)))))) (is_nil)) (is_cons (is_asg (i_callB (rf_min2 rfl) rfl T.min b_min (ia_cons (i_bin rf_sub (i_var 1) (i_int)) (ia_cons (i_call F_l_top hr (ia_cons (i_dget (hu_of hr) (i_var 0) (i_str)) (ia_nil))) (ia_nil)))) (ig_name 3 nd_l_index)) (is_cons (is_if (it_cmp (rf_eq hr.units) (i_call F_l_take hr (ia_cons (i_dget (hu_of hr) (i_var 0) (i_str)) (ia_cons (i_int) (ia_nil)))) (i_int)) (is_one (is_ret (i_tup (ia_cons (i_str) (ia_cons (i_call F_l_take hr (ia_cons (i_dget (hu_of hr) (i_var 0) (i_str)) (ia_cons (i_bin rf_add (i_var 3) (i_int)) (ia_nil)))) (ia_nil)))))) (is_nil)) (is_one (is_ret (i_tup (ia_cons (i_str) (ia_cons (i_tup (ia_cons (i_str) (ia_cons (i_call F_l_variable hr (ia_cons (i_dget (hu_of hr) (i_var 0) (i_str)) (ia_nil))) (ia_nil)))) (ia_cons (i_tup (ia_cons (i_str) (ia_cons (i_ix (i_lst (ia_cons (i_int) (ia_cons (i_int) (ia_cons (i_int) (ia_cons (i_int) (ia_cons (i_int) (ia_cons (i_int) (ia_cons (i_int) (ia_cons (i_int) (ia_nil)))))))))) (i_callB (rf_min2 rfl) rfl T.min b_min (ia_cons (i_var 3) (ia_cons (i_int) (ia_nil))))) (ia_nil)))) (ia_nil)))))))))
/-! ### _law_row -/
abbrev s_l_row : Stmt := top 22
abbrev N_l_row : List Str := ["p", "others", "draw", "k", "name", "size", "params", "j"]
theorem sc_l_row : FnScope N_l_row ["p", "others"] (defScope s_l_row) := ⟨rfl, rfl, rfl, by decide +kernel, rfl, by decide +kernel, by decide +kernel⟩
theorem nd_l_row : N_l_row.Nodup := sc_l_row.nd
def W_l_row  (p_l_take : Sp3) (p_l_expression : Sp3) (p_l_variable : Sp3) (p_l_index : Sp3) : WS := wSeq (wAsg (w2 rDGet (wVar 0) (wC (.str "draw"))) (gN 2)) (wSeq (wAsg (wL p_l_take (wCons (wVar 2) (wCons (wC (.int 12)) (wNil)))) (gN 3)) (wSeq (wIfS (wB (w2 rLt (wVar 3) (wC (.int 4)))) (wRet (wL rTup (wCons (wC (.str "set")) (wCons (wL p_l_variable (wCons (wVar 2) (wNil))) (wCons (wL p_l_expression (wCons (wVar 0) (wCons (wC (.int 2)) (wNil)))) (wNil)))))) (wNext)) (wSeq (wIfS (wB (w2 rLt (wVar 3) (wC (.int 7)))) (wRet (wL rTup (wCons (wC (.str "take")) (wCons (wL p_l_variable (wCons (wVar 2) (wNil))) (wNil))))) (wNext)) (wSeq (wIfS (wB (w2 rLt (wVar 3) (wC (.int 9)))) (wRet (wL rTup (wCons (wC (.str "put")) (wCons (wL p_l_expression (wCons (wVar 0) (wCons (wC (.int 1)) (wNil)))) (wNil))))) (wNext)) (wSeq (wIfS (wAnd (wB (w2 rEq (wVar 3) (wC (.int 9)))) (wB (w2 rNe (w2 rDGet (wVar 0) (wC (.str "arrays"))) (wL rTup (wNil))))) (wSeq (wAsg (w2 rIx (w2 rDGet (wVar 0) (wC (.str "arrays"))) (wL p_l_take (wCons (wVar 2) (wCons (wL rLen (wCons (w2 rDGet (wVar 0) (wC (.str "arrays"))) (wNil))) (wNil))))) (gT [gN 4, gN 5])) (wRet (wL rTup (wCons (wC (.str "store")) (wCons (wVar 4) (wCons (wL p_l_index (wCons (wVar 0) (wCons (wVar 5) (wCons (wC (.int 1)) (wNil))))) (wCons (wL p_l_expression (wCons (wVar 0) (wCons (wC (.int 1)) (wNil)))) (wNil)))))))) (wNext)) (wSeq (wIfS (wAnd (wB (w2 rEq (wVar 3) (wC (.int 10)))) (wB (w2 rNe (wVar 1) (wL rLst (wNil))))) (wSeq (wAsg (w2 rIx (wVar 1) (wL p_l_take (wCons (wVar 2) (wCons (wL rLen (wCons (wVar 1) (wNil))) (wNil))))) (gT [gN 4, gN 6])) (wRet (wL rTup (wCons (wC (.str "call")) (wCons (wL p_l_variable (wCons (wVar 2) (wNil))) (wCons (wVar 4) (wCons (wL rTupleOf (wCons (wLc (wRg1 (wCons (wVar 6) (wNil))) 7 (wYes) (wL p_l_expression (wCons (wVar 0) (wCons (wC (.int 1)) (wNil))))) (wNil))) (wNil)))))))) (wNext)) (wSeq (wIfS (wB (w2 rEq (wVar 3) (wC (.int 11)))) (wRet (wL rTup (wCons (wC (.str "assert")) (wCons (wL p_l_take (wCons (wVar 2) (wCons (wC (.int 4)) (wNil)))) (wCons (wL p_l_expression (wCons (wVar 0) (wCons (wC (.int 2)) (wNil)))) (wNil)))))) (wNext)) (wRet (wL rTup (wCons (wC (.str "set")) (wCons (wL p_l_variable (wCons (wVar 2) (wNil))) (wCons (wL p_l_expression (wCons (wVar 0) (wCons (wC (.int 1)) (wNil)))) (wNil)))))))))))))
theorem walk_l_row {C_s : Unit}  {p_l_take : Sp3} {p_l_expression : Sp3} {p_l_variable : Sp3} {p_l_index : Sp3} {k : Nat} (T : Mg mg)  {f : Addr} (cdv : Value) (A : Around) (outer : List Env) (s : Shared) (H : Hp) (E : XK) (hr : Room (k + 1) (A.deeper (envOfC "_law_row" (defScope s_l_row) s.heap.objs.size f cdv))) (F_l_take : Fd P w K mg base G "_law_take" (k + 1) p_l_take) (F_l_expression : Fd P w K mg base G "_law_expression" (k + 1) p_l_expression) (F_l_variable : Fd P w K mg base G "_law_variable" (k + 1) p_l_variable) (F_l_index : Fd P w K mg base G "_law_index" (k + 1) p_l_index) :
    PSs3 (CXF P w K mg base N_l_row "_law_row" s_l_row f cdv A outer s H E) G (defBody s_l_row) (W_l_row p_l_take p_l_expression p_l_variable p_l_index) := by
  unfold W_l_row
  exact is_cons (is_asg (i_dget (hu_of hr) (i_var 0) (i_str)) (ig_name 2 nd_l_row)) (is_cons (is_asg (i_call F_l_take hr (ia_cons (i_var 2) (ia_cons (i_int) (ia_nil)))) (ig_name 3 nd_l_row)) (is_cons (is_if (it_cmp rf_lt (i_var 3) (i_int)) (is_one (is_ret (i_tup (ia_cons (i_str) (ia_cons (i_call F_l_variable hr (ia_cons (i_var 2) (ia_nil))) (ia_cons (i_call F_l_expression hr (ia_cons (i_var 0) (ia_cons (i_int) (ia_nil)))) (ia_nil))))))) (is_nil)) (is_cons (is_if (it_cmp rf_lt (i_var 3) (i_int)) (is_one (is_ret (i_tup (ia_cons (i_str) (ia_cons (i_call F_l_variable hr (ia_cons (i_var 2) (ia_nil))) (ia_nil)))))) (is_nil)) (is_cons (is_if (it_cmp rf_lt (i_var 3) (i_int)) (is_one (is_ret (i_tup (ia_cons (i_str) (ia_cons (i_call F_l_expression hr (ia_cons (i_var 0) (ia_cons (i_int) (ia_nil)))) (ia_nil)))))) (is_nil)) (is_cons (is_if (it_w (iw_and (it_cmp (rf_eq hr.units) (i_var 3) (i_int)) (iw_and1 (it_cmp (rf_ne hr.units) (i_dget (hu_of hr) (i_var 0) (i_str)) (i_tup (ia_nil)))))) (is_cons (is_asg (i_ix (i_dget (hu_of hr) (i_var 0) (i_str)) (i_call F_l_take hr (ia_cons (i_var 2) (ia_cons (i_callB rf_len rfl T.len b_len (ia_cons (i_dget (hu_of hr) (i_var 0) (i_str)) (ia_nil))) (ia_nil))))) (ig_tup rfl (igs_cons (ig_name 4 nd_l_row) (igs_cons (ig_name 5 nd_l_row) (igs_nil))))) (is_one (is_ret (i_tup (ia_cons (i_str) (ia_cons (i_var 4) (ia_cons (i_call F_l_index hr (ia_cons (i_var 0) (ia_cons (i_var 5) (ia_cons (i_int) (ia_nil))))) (ia_cons (i_call F_l_expression hr (ia_cons (i_var 0) (ia_cons (i_int) (ia_nil)))) (ia_nil))))))))) (is_nil)) (is_cons (is_if (it_w (iw_and (it_cmp (rf_eq hr.units) (i_var 3) (i_int)) (iw_and1 (it_cmp (rf_ne hr.units) (i_var 1) (i_lst (ia_nil)))))) (is_cons (is_asg (i_ix (i_var 1) (i_call F_l_take hr (ia_cons (i_var 2) (ia_cons (i_callB rf_len rfl T.len b_len (ia_cons (i_var 1) (ia_nil))) (ia_nil))))) (ig_tup rfl (igs_cons (ig_name 4 nd_l_row) (igs_cons (ig_name 6 nd_l_row) (igs_nil))))) (is_one (is_ret (i_tup (ia_cons (i_str) (ia_cons (i_call F_l_variable hr (ia_cons (i_var 2) (ia_nil))) (ia_cons (i_var 4) (ia_cons (i_callT rf_tupleOf rfl T.tuple b_tuple (ia_cons (i_lc 7 rfl nd_l_row (blkOk_by (N := N_l_row) (sc := defScope s_l_row) (by decide +kernel)) (ii_rg1 rfl T.range (ia_cons (i_var 6) (ia_nil))) (fun _ _ _ _ _ => pg_name (i := 7) nd_l_row rfl (Or.inl rfl)) (fun _ _ _ _ _ => its_nil) (fun _ _ _ _ _ => i_call F_l_expression hr (ia_cons (i_var 0) (ia_cons (i_int) (ia_nil))))) (ia_nil))) (ia_nil))))))))) (is_nil)) (is_cons (is_if (it_cmp (rf_eq hr.units) (i_var 3) (i_int)) (is_one (is_ret (i_tup (ia_cons (i_str) (ia_cons (i_call F_l_take hr (ia_cons (i_var 2) (ia_cons (i_int) (ia_nil)))) (ia_cons (i_call F_l_expression hr (ia_cons (i_var 0) (ia_cons (i_int) (ia_nil)))) (ia_nil))))))) (is_nil)) (is_one (is_ret (i_tup (ia_cons (i_str) (ia_cons (i_call F_l_variable hr (ia_cons (i_var 2) (ia_nil))) (ia_cons (i_call F_l_expression hr (ia_cons (i_var 0) (ia_cons (i_int) (ia_nil)))) (ia_nil))))))))))))))
/-! ### _law_blocks -/
abbrev s_l_blocks : Stmt := top 23
abbrev N_l_blocks : List Str := ["p", "others", "blocks", "rows", "draw", "gap", "labels", "found", "k", "body", "rest", "kind", "end", "onward", "first", "second", "j"]
theorem sc_l_blocks : FnScope N_l_blocks ["p", "others", "blocks", "rows"] (defScope s_l_blocks) := ⟨rfl, rfl, rfl, by decide +kernel, rfl, by decide +kernel, by decide +kernel⟩
theorem nd_l_blocks : N_l_blocks.Nodup := sc_l_blocks.nd
def W_l_blocks  (p_l_take : Sp3) (p_l_row : Sp3) (p_l_expression : Sp3) : WS := wSeq (wAsg (w2 rDGet (wVar 0) (wC (.str "draw"))) (gN 4)) (wSeq (wAsg (w2 rAdd (wC (.int 1)) (wL p_l_take (wCons (wVar 4) (wCons (wC (.int 3)) (wNil))))) (gN 5)) (wSeq (wAsg (wLc (wRg1 (wCons (w2 rAdd (wC (.int 1)) (wL p_l_take (wCons (wVar 4) (wCons (wVar 2) (wNil))))) (wNil))) 8 (wYes) (w2 rMod (wL rToInt (wCons (w2 rAdd (wC (.int 5)) (w2 rMul (wVar 5) (wVar 8))) (wNil))) (wC (.int 17)))) (gN 6)) (wSeq (wAsg (wL rLst (wNil)) (gN 7)) (wSeq (wFor (wRg1 (wCons (wL rLen (wCons (wVar 6) (wNil))) (wNil))) (gN 8) (wSeq (wAsg (wL rTupleOf (wCons (wLc (wRg1 (wCons (wL p_l_take (wCons (wVar 4) (wCons (w2 rAdd (wVar 3) (wC (.int 1))) (wNil)))) (wNil))) 16 (wYes) (wL p_l_row (wCons (wVar 0) (wCons (wVar 1) (wNil))))) (wNil))) (gN 9)) (wSeq (wAsg (wSl (wVar 6) (oSome (wC (.int 1))) (oNone)) (gN 10)) (wSeq (wAsg (wL p_l_take (wCons (wVar 4) (wCons (wC (.int 5)) (wNil)))) (gN 11)) (wSeq (wIfS (wOr (wB (w2 rEq (wVar 10) (wL rLst (wNil)))) (wB (w2 rEq (wVar 11) (wC (.int 0))))) (wAsg (wL rTup (wCons (wC (.str "return")) (wCons (wL p_l_expression (wCons (wVar 0) (wCons (wC (.int 1)) (wNil)))) (wNil)))) (gN 12)) (wSeq (wAsg (wIf (wB (w2 rNe (wSl (wVar 6) (oSome (w2 rAdd (wVar 8) (wC (.int 1)))) (oNone)) (wL rLst (wNil)))) (wSl (wVar 6) (oSome (w2 rAdd (wVar 8) (wC (.int 1)))) (oNone)) (wVar 10)) (gN 13)) (wSeq (wAsg (w2 rIx (wVar 13) (wL p_l_take (wCons (wVar 4) (wCons (wL rLen (wCons (wVar 13) (wNil))) (wNil))))) (gN 14)) (wSeq (wAsg (w2 rIx (wVar 10) (wL p_l_take (wCons (wVar 4) (wCons (wL rLen (wCons (wVar 10) (wNil))) (wNil))))) (gN 15)) (wAsg (wIf (wB (w2 rEq (wVar 11) (wC (.int 1)))) (wL rTup (wCons (wC (.str "go")) (wCons (wVar 14) (wNil)))) (wL rTup (wCons (wC (.str "if")) (wCons (wL p_l_expression (wCons (wVar 0) (wCons (wC (.int 2)) (wNil)))) (wCons (wVar 14) (wCons (wVar 15) (wNil))))))) (gN 12)))))) (wDrop (wAppend (wVar 7) (wCons (wL rTup (wCons (w2 rIx (wVar 6) (wVar 8)) (wCons (wVar 9) (wCons (wVar 12) (wNil))))) (wNil))))))))) (wRet (wL rTupleOf (wCons (wVar 7) (wNil))))))))
theorem walk_l_blocks {C_s : Unit}  {p_l_take : Sp3} {p_l_row : Sp3} {p_l_expression : Sp3} {k : Nat} (T : Mg mg)  {f : Addr} (cdv : Value) (A : Around) (outer : List Env) (s : Shared) (H : Hp) (E : XK) (hr : Room (k + 1) (A.deeper (envOfC "_law_blocks" (defScope s_l_blocks) s.heap.objs.size f cdv))) (F_l_take : Fd P w K mg base G "_law_take" (k + 1) p_l_take) (F_l_row : Fd P w K mg base G "_law_row" (k + 1) p_l_row) (F_l_expression : Fd P w K mg base G "_law_expression" (k + 1) p_l_expression) :
    PSs3 (CXF P w K mg base N_l_blocks "_law_blocks" s_l_blocks f cdv A outer s H E) G (defBody s_l_blocks) (W_l_blocks p_l_take p_l_row p_l_expression) := by
  unfold W_l_blocks
  exact is_cons (is_asg (i_dget (hu_of hr) (i_var 0) (i_str)) (ig_name 4 nd_l_blocks)) (is_cons (is_asg (i_bin rf_add (i_int) (i_call F_l_take hr (ia_cons (i_var 4) (ia_cons (i_int) (ia_nil))))) (ig_name 5 nd_l_blocks)) (is_cons (is_setLc 6 8 rfl nd_l_blocks (sw_true rfl rfl rfl (by decide +kernel)) (blkOk_by (N := N_l_blocks) (sc := defScope s_l_blocks) (by decide +kernel)) (ii_rg1 rfl T.range (ia_cons (i_bin rf_add (i_int) (i_call F_l_take hr (ia_cons (i_var 4) (ia_cons (i_var 2) (ia_nil))))) (ia_nil))) (fun _ _ _ _ _ => pg_name (i := 8) nd_l_blocks rfl (Or.inl rfl)) (fun _ _ _ _ _ => its_nil) (fun _ _ _ _ _ => i_bin rf_mod (i_callT rf_int1 rfl T.int b_int (ia_cons (i_bin rf_add (i_int) (i_bin rf_mul (i_var 5) (i_var 8))) (ia_nil))) (i_int))) (is_cons (is_asg (i_lst (ia_nil)) (ig_name 7 nd_l_blocks)) (is_cons (is_for PassesOwn.never rfl (ii_rg1 rfl T.range (ia_cons (i_callB rf_len rfl T.len b_len (ia_cons (i_var 6) (ia_nil))) (ia_nil))) (ig_name 8 nd_l_blocks) (is_cons (is_asg (i_callT rf_tupleOf rfl T.tuple b_tuple (ia_cons (i_lc 16 rfl nd_l_blocks (blkOk_by (N := N_l_blocks) (sc := defScope s_l_blocks) (by decide +kernel)) (ii_rg1 rfl T.range (ia_cons (i_call F_l_take hr (ia_cons (i_var 4) (ia_cons (i_bin rf_add (i_var 3) (i_int)) (ia_nil)))) (ia_nil))) (fun _ _ _ _ _ => pg_name (i := 16) nd_l_blocks rfl (Or.inl rfl)) (fun _ _ _ _ _ => its_nil) (fun _ _ _ _ _ => i_call F_l_row hr (ia_cons (i_var 0) (ia_cons (i_var 1) (ia_nil))))) (ia_nil))) (ig_name 9 nd_l_blocks)) (is_cons (is_asg (i_sl (i_var 6) (io_some (i_int)) (io_none)) (ig_name 10 nd_l_blocks)) (is_cons (is_asg (i_call F_l_take hr (ia_cons (i_var 4) (ia_cons (i_int) (ia_nil)))) (ig_name 11 nd_l_blocks)) (is_cons (is_if (it_w (iw_or (it_cmp (rf_eq hr.units) (i_var 10) (i_lst (ia_nil))) (iw_or1 (it_cmp (rf_eq hr.units) (i_var 11) (i_int))))) (is_one (is_asg (i_tup (ia_cons (i_str) (ia_cons (i_call F_l_expression hr (ia_cons (i_var 0) (ia_cons (i_int) (ia_nil)))) (ia_nil)))) (ig_name 12 nd_l_blocks))) (is_cons (is_asg (i_if (it_cmp (rf_ne hr.units) (i_sl (i_var 6) (io_some (i_bin rf_add (i_var 8) (i_int))) (io_none)) (i_lst (ia_nil))) (i_sl (i_var 6) (io_some (i_bin rf_add (i_var 8) (i_int))) (io_none)) (i_var 10)) (ig_name 13 nd_l_blocks)) (is_cons (is_asg (i_ix (i_var 13) (i_call F_l_take hr (ia_cons (i_var 4) (ia_cons (i_callB rf_len rfl T.len b_len (ia_cons (i_var 13) (ia_nil))) (ia_nil))))) (ig_name 14 nd_l_blocks)) (is_cons (is_asg (i_ix (i_var 10) (i_call F_l_take hr (ia_cons (i_var 4) (ia_cons (i_callB rf_len rfl T.len b_len (ia_cons (i_var 10) (ia_nil))) (ia_nil))))) (ig_name 15 nd_l_blocks)) (is_one (is_asg (i_if (it_cmp (rf_eq hr.units) (i_var 11) (i_int)) (i_tup (ia_cons (i_str) (ia_cons (i_var 14) (ia_nil)))) (i_tup (ia_cons (i_str) (ia_cons (i_call F_l_expression hr (ia_cons (i_var 0) (ia_cons (i_int) (ia_nil)))) (ia_cons (i_var 14) (ia_cons (i_var 15) (ia_nil))))))) (ig_name 12 nd_l_blocks))))))) (is_one (is_expr (i_append (i_var 7) (ia_cons (i_tup (ia_cons (i_ix (i_var 6) (i_var 8)) (ia_cons (i_var 9) (ia_cons (i_var 12) (ia_nil))))) (ia_nil)))))))))) (is_one (is_ret (i_callT rf_tupleOf rfl T.tuple b_tuple (ia_cons (i_var 7) (ia_nil)))))))))
/-! ### _law_program -/
abbrev s_l_program : Stmt := top 24
abbrev N_l_program : List Str := ["draw", "w", "blocks", "rows", "arrays", "p", "told", "made", "first", "procedures", "name", "params"]
theorem sc_l_program : FnScope N_l_program ["draw", "w", "blocks", "rows"] (defScope s_l_program) := ⟨rfl, rfl, rfl, by decide +kernel, rfl, by decide +kernel, by decide +kernel⟩
theorem nd_l_program : N_l_program.Nodup := sc_l_program.nd
def W_l_program  (p_l_take : Sp3) (p_l_blocks : Sp3) (p_l_variable : Sp3) : WS := wSeq (wAsg (w2 rIx (wL rLst (wCons (wL rTup (wNil)) (wCons (wL rTup (wNil)) (wCons (wL rTup (wCons (wL rTup (wCons (wC (.str "mem")) (wCons (w2 rAdd (wC (.int 1)) (wL p_l_take (wCons (wVar 0) (wCons (wC (.int 5)) (wNil))))) (wNil)))) (wNil))) (wCons (wL rTup (wCons (wL rTup (wCons (wC (.str "a")) (wCons (wC (.int 2)) (wNil)))) (wCons (wL rTup (wCons (wC (.str "mem")) (wCons (w2 rAdd (wC (.int 1)) (wL p_l_take (wCons (wVar 0) (wCons (wC (.int 3)) (wNil))))) (wNil)))) (wNil)))) (wCons (wL rTup (wCons (wL rTup (wCons (wC (.str "a")) (wCons (wC (.int 8)) (wNil)))) (wCons (wL rTup (wCons (wC (.str "b_2")) (wCons (wC (.int 3)) (wNil)))) (wCons (wL rTup (wCons (wC (.str "mem")) (wCons (w2 rAdd (wC (.int 1)) (wL p_l_take (wCons (wVar 0) (wCons (wC (.int 8)) (wNil))))) (wNil)))) (wNil))))) (wNil))))))) (wL p_l_take (wCons (wVar 0) (wCons (wC (.int 5)) (wNil))))) (gN 4)) (wSeq (wAsg (wDisp (ppsCons (wC (.str "draw")) (wVar 0) (ppsCons (wC (.str "width")) (wVar 1) (ppsCons (wC (.str "arrays")) (wVar 4) (ppsNil))))) (gN 5)) (wSeq (wAsg (w2 rIx (wL rLst (wCons (wL rLst (wNil)) (wCons (wL rLst (wNil)) (wCons (wL rLst (wCons (wL rTup (wCons (wC (.str "aid")) (wCons (wC (.int 1)) (wNil)))) (wNil))) (wCons (wL rLst (wCons (wL rTup (wCons (wC (.str "aid")) (wCons (wC (.int 2)) (wNil)))) (wCons (wL rTup (wCons (wC (.str "zig")) (wCons (wC (.int 0)) (wNil)))) (wNil)))) (wCons (wL rLst (wCons (wL rTup (wCons (wC (.str "aid")) (wCons (wC (.int 3)) (wNil)))) (wCons (wL rTup (wCons (wC (.str "zig")) (wCons (wC (.int 1)) (wNil)))) (wNil)))) (wNil))))))) (wL p_l_take (wCons (wVar 0) (wCons (wC (.int 5)) (wNil))))) (gN 6)) (wSeq (wAsg (wL p_l_blocks (wCons (wVar 5) (wCons (wVar 6) (wCons (wVar 2) (wCons (wVar 3) (wNil)))))) (gN 7)) (wSeq (wIfS (wB (w2 rGt (wL p_l_take (wCons (wVar 0) (wCons (wC (.int 3)) (wNil)))) (wC (.int 0)))) (wSeq (wAsg (wL rTup (wCons (w2 rIx (w2 rIx (wVar 7) (wC (.int 0))) (wC (.int 0))) (wCons (w2 rAdd (wL rTup (wCons (wL rTup (wCons (wC (.str "take")) (wCons (wC (.int 0)) (wNil)))) (wCons (wL rTup (wCons (wC (.str "take")) (wCons (wL p_l_variable (wCons (wVar 0) (wNil))) (wNil)))) (wNil)))) (w2 rIx (w2 rIx (wVar 7) (wC (.int 0))) (wC (.int 1)))) (wCons (w2 rIx (w2 rIx (wVar 7) (wC (.int 0))) (wC (.int 2))) (wNil))))) (gN 8)) (wAsg (w2 rAdd (wL rTup (wCons (wVar 8) (wNil))) (wSl (wVar 7) (oSome (wC (.int 1))) (oNone))) (gN 7))) (wNext)) (wSeq (wAsg (wL rLst (wCons (wL rTup (wCons (wC (.str "main")) (wCons (wC (.int 0)) (wCons (wVar 7) (wNil))))) (wNil))) (gN 9)) (wSeq (wFor (wIter (wVar 6)) (gT [gN 10, gN 11]) (wDrop (wAppend (wVar 9) (wCons (wL rTup (wCons (wVar 10) (wCons (wVar 11) (wCons (wL p_l_blocks (wCons (wVar 5) (wCons (wVar 6) (wCons (wL rMax2 (wCons (wC (.int 1)) (wCons (w2 rSub (wVar 2) (wC (.int 2))) (wNil)))) (wCons (wL rMax2 (wCons (wC (.int 1)) (wCons (w2 rSub (wVar 3) (wC (.int 1))) (wNil)))) (wNil)))))) (wNil))))) (wNil))))) (wRet (wL rTup (wCons (wVar 1) (wCons (wVar 4) (wCons (wL rTupleOf (wCons (wL rSorted (wCons (wVar 9) (wNil))) (wNil))) (wNil))))))))))))
theorem walk_l_program {C_s : Unit}  {p_l_take : Sp3} {p_l_blocks : Sp3} {p_l_variable : Sp3} {k : Nat} (T : Mg mg)  {f : Addr} (cdv : Value) (A : Around) (outer : List Env) (s : Shared) (H : Hp) (E : XK) (hr : Room (k + 1) (A.deeper (envOfC "_law_program" (defScope s_l_program) s.heap.objs.size f cdv))) (F_l_take : Fd P w K mg base G "_law_take" (k + 1) p_l_take) (F_l_blocks : Fd P w K mg base G "_law_blocks" (k + 1) p_l_blocks) (F_l_variable : Fd P w K mg base G "_law_variable" (k + 1) p_l_variable) :
    PSs3 (CXF P w K mg base N_l_program "_law_program" s_l_program f cdv A outer s H E) G (defBody s_l_program) (W_l_program p_l_take p_l_blocks p_l_variable) := by
  unfold W_l_program
  exact is_cons (is_asg (i_ix (i_lst (ia_cons (i_tup (ia_nil)) (ia_cons (i_tup (ia_nil)) (ia_cons (i_tup (ia_cons (i_tup (ia_cons (i_str) (ia_cons (i_bin rf_add (i_int) (i_call F_l_take hr (ia_cons (i_var 0) (ia_cons (i_int) (ia_nil))))) (ia_nil)))) (ia_nil))) (ia_cons (i_tup (ia_cons (i_tup (ia_cons (i_str) (ia_cons (i_int) (ia_nil)))) (ia_cons (i_tup (ia_cons (i_str) (ia_cons (i_bin rf_add (i_int) (i_call F_l_take hr (ia_cons (i_var 0) (ia_cons (i_int) (ia_nil))))) (ia_nil)))) (ia_nil)))) (ia_cons (i_tup (ia_cons (i_tup (ia_cons (i_str) (ia_cons (i_int) (ia_nil)))) (ia_cons (i_tup (ia_cons (i_str) (ia_cons (i_int) (ia_nil)))) (ia_cons (i_tup (ia_cons (i_str) (ia_cons (i_bin rf_add (i_int) (i_call F_l_take hr (ia_cons (i_var 0) (ia_cons (i_int) (ia_nil))))) (ia_nil)))) (ia_nil))))) (ia_nil))))))) (i_call F_l_take hr (ia_cons (i_var 0) (ia_cons (i_int) (ia_nil))))) (ig_name 4 nd_l_program)) (is_cons (is_asg (i_disp (ipps_cons (i_str) (i_var 0) (ipps_cons (i_str) (i_var 1) (ipps_cons (i_str) (i_var 4) (ipps_nil))))) (ig_name 5 nd_l_program)) (is_cons (is_asg (i_ix (i_lst (ia_cons (i_lst (ia_nil)) (ia_cons (i_lst (ia_nil)) (ia_cons (i_lst (ia_cons (i_tup (ia_cons (i_str) (ia_cons (i_int) (ia_nil)))) (ia_nil))) (ia_cons (i_lst (ia_cons (i_tup (ia_cons (i_str) (ia_cons (i_int) (ia_nil)))) (ia_cons (i_tup (ia_cons (i_str) (ia_cons (i_int) (ia_nil)))) (ia_nil)))) (ia_cons (i_lst (ia_cons (i_tup (ia_cons (i_str) (ia_cons (i_int) (ia_nil)))) (ia_cons (i_tup (ia_cons (i_str) (ia_cons (i_int) (ia_nil)))) (ia_nil)))) (ia_nil))))))) (i_call F_l_take hr (ia_cons (i_var 0) (ia_cons (i_int) (ia_nil))))) (ig_name 6 nd_l_program)) (is_cons (is_asg (i_call F_l_blocks hr (ia_cons (i_var 5) (ia_cons (i_var 6) (ia_cons (i_var 2) (ia_cons (i_var 3) (ia_nil)))))) (ig_name 7 nd_l_program)) (is_cons (is_if (it_cmp rf_gt (i_call F_l_take hr (ia_cons (i_var 0) (ia_cons (i_int) (ia_nil)))) (i_int)) (is_cons (is_asg (i_tup (ia_cons (i_ix (i_ix (i_var 7) (i_int)) (i_int)) (ia_cons (i_bin rf_add (i_tup (ia_cons (i_tup (ia_cons (i_str) (ia_cons (i_int) (ia_nil)))) (ia_cons (i_tup (ia_cons (i_str) (ia_cons (i_call F_l_variable hr (ia_cons (i_var 0) (ia_nil))) (ia_nil)))) (ia_nil)))) (i_ix (i_ix (i_var 7) (i_int)) (i_int))) (ia_cons (i_ix (i_ix (i_var 7) (i_int)) (i_int)) (ia_nil))))) (ig_name 8 nd_l_program)) (is_one (is_asg (i_bin rf_add (i_tup (ia_cons (i_var 8) (ia_nil))) (i_sl (i_var 7) (io_some (i_int)) (io_none))) (ig_name 7 nd_l_program)))) (is_nil)) (is_cons (is_asg (i_lst (ia_cons (i_tup (ia_cons (i_str) (ia_cons (i_int) (ia_cons (i_var 7) (ia_nil))))) (ia_nil))) (ig_name 9 nd_l_program)) (is_cons (is_for PassesOwn.never rfl (ii_any (i_var 6)) (ig_tup rfl (igs_cons (ig_name 10 nd_l_program) (igs_cons (ig_name 11 nd_l_program) (igs_nil)))) (is_one (is_expr (i_append (i_var 9) (ia_cons (i_tup (ia_cons (i_var 10) (ia_cons (i_var 11) (ia_cons (i_call F_l_blocks hr (ia_cons (i_var 5) (ia_cons (i_var 6) (ia_cons (i_callB (rf_max2 rfl) rfl T.max b_max (ia_cons (i_int) (ia_cons (i_bin rf_sub (i_var 2) (i_int)) (ia_nil)))) (ia_cons (i_callB (rf_max2 rfl) rfl T.max b_max (ia_cons (i_int) (ia_cons (i_bin rf_sub (i_var 3) (i_int)) (ia_nil)))) (ia_nil)))))) (ia_nil))))) (ia_nil)))))) (is_one (is_ret (i_tup (ia_cons (i_var 1) (ia_cons (i_var 4) (ia_cons (i_callT rf_tupleOf rfl T.tuple b_tuple (ia_cons (i_callB (rf_sorted (room70 hr)) rfl T.sorted b_sorted (ia_cons (i_var 9) (ia_nil))) (ia_nil))) (ia_nil)))))))))))))
/-! ### _law_size -/
abbrev s_l_size : Stmt := top 27
abbrev N_l_size : List Str := ["n", "row"]
theorem sc_l_size : FnScope N_l_size ["n"] (defScope s_l_size) := ⟨rfl, rfl, rfl, by decide +kernel, rfl, by decide +kernel, by decide +kernel⟩
theorem nd_l_size : N_l_size.Nodup := sc_l_size.nd
def W_l_size   : WS := wSeq (wAsg (wL rLst (wNil)) (gN 1)) (wSeq (wWhile (wB (w2 rGe (wVar 0) (wC (.int 128)))) (wSeq (wDrop (wAppend (wVar 1) (wCons (w2 rAdd (w2 rMod (wL rToInt (wCons (wVar 0) (wNil))) (wC (.int 128))) (wC (.int 128))) (wNil)))) (wAsg (w2 rDiv (wVar 0) (wC (.int 128))) (gN 0)))) (wRet (w2 rAdd (wVar 1) (wL rLst (wCons (wVar 0) (wNil))))))
theorem walk_l_size {C_s : Unit}   {k : Nat} (T : Mg mg)  {f : Addr} (cdv : Value) (A : Around) (outer : List Env) (s : Shared) (H : Hp) (E : XK) (hr : Room (k + 1) (A.deeper (envOfC "_law_size" (defScope s_l_size) s.heap.objs.size f cdv)))  :
    PSs3 (CXF P w K mg base N_l_size "_law_size" s_l_size f cdv A outer s H E) G (defBody s_l_size) (W_l_size ) := by
  unfold W_l_size
  exact is_cons (is_asg (i_lst (ia_nil)) (ig_name 1 nd_l_size)) (is_cons (is_while PassesOwn.never (it_cmp rf_ge (i_var 0) (i_int)) (is_cons (is_expr (i_append (i_var 1) (ia_cons (i_bin rf_add (i_bin rf_mod (i_callT rf_int1 rfl T.int b_int (ia_cons (i_var 0) (ia_nil))) (i_int)) (i_int)) (ia_nil)))) (is_one (is_asg (i_bin rf_div (i_var 0) (i_int)) (ig_name 0 nd_l_size))))) (is_one (is_ret (i_bin rf_add (i_var 1) (i_lst (ia_cons (i_var 0) (ia_nil)))))))
/-! ### _law_signs -/
abbrev s_l_signs : Stmt := top 28
abbrev N_l_signs : List Str := []
theorem sc_l_signs : FnScope N_l_signs [] (defScope s_l_signs) := ⟨rfl, rfl, rfl, by decide +kernel, rfl, by decide +kernel, by decide +kernel⟩
theorem nd_l_signs : N_l_signs.Nodup := sc_l_signs.nd
def W_l_signs   : WS := wRet (wC (.str "abcdefghijklmnopqrstuvwxyz0123456789_"))
theorem walk_l_signs {C_s : Unit}   {k : Nat} (T : Mg mg)  {f : Addr} (cdv : Value) (A : Around) (outer : List Env) (s : Shared) (H : Hp) (E : XK) (hr : Room (k + 1) (A.deeper (envOfC "_law_signs" (defScope s_l_signs) s.heap.objs.size f cdv)))  :
    PSs3 (CXF P w K mg base N_l_signs "_law_signs" s_l_signs f cdv A outer s H E) G (defBody s_l_signs) (W_l_signs ) := by
  unfold W_l_signs
  exact is_one (is_ret (i_str))
/-! ### _law_bytes -/
abbrev s_l_bytes : Stmt := top 29
abbrev N_l_bytes : List Str := ["value", "depth", "row", "part", "inner", "sign"]
theorem sc_l_bytes : FnScope N_l_bytes ["value", "depth"] (defScope s_l_bytes) := ⟨rfl, rfl, rfl, by decide +kernel, rfl, by decide +kernel, by decide +kernel⟩
theorem nd_l_bytes : N_l_bytes.Nodup := sc_l_bytes.nd
def W_l_bytes  (p_l_size : Sp3) (p_l_signs : Sp3) (p_l_bytes : Sp3) : WS := wSeq (wIfS (wOr (wB (w1 (rIsN false) (wVar 0))) (wOr (wB (w1 (rIsB false) (wVar 0))) (wB (w1 (rIsB true) (wVar 0))))) (wRet (wL rLst (wCons (wLIndex (wL rLst (wCons (wC .non) (wCons (wC (.bl false)) (wCons (wC (.bl true)) (wNil))))) (wCons (wVar 0) (wNil))) (wNil)))) (wNext)) (wSeq (wIfS (wB (w1 (rIsi .int) (wVar 0))) (wRet (wIf (wB (w2 rGe (wVar 0) (wC (.int 0)))) (w2 rAdd (wL rLst (wCons (wC (.int 3)) (wNil))) (wL p_l_size (wCons (wVar 0) (wNil)))) (w2 rAdd (wL rLst (wCons (wC (.int 4)) (wNil))) (wL p_l_size (wCons (w2 rSub (w1 rNeg (wC (.int 1))) (wVar 0)) (wNil)))))) (wNext)) (wSeq (wIfS (wB (w1 (rIsi .str) (wVar 0))) (wSeq (wIfS (wB (w2 rNe (wLc (wIter (wVar 0)) 5 (wB (w2 (rIn true) (wVar 5) (wL p_l_signs wNil))) (wVar 5)) (wL rLst (wNil)))) (wRet (wC .non)) (wNext)) (wRet (w2 rAdd (w2 rAdd (wL rLst (wCons (wC (.int 5)) (wNil))) (wL p_l_size (wCons (wL rLen (wCons (wVar 0) (wNil))) (wNil)))) (wLc (wIter (wVar 0)) 5 (wYes) (wSIndex (wL p_l_signs wNil) (wCons (wVar 5) (wNil))))))) (wNext)) (wSeq (wIfS (wOr (wNot (wB (w1 (rIsi .tuple) (wVar 0)))) (wB (w2 rEq (wVar 1) (wC (.int 60))))) (wRet (wC .non)) (wNext)) (wSeq (wAsg (w2 rAdd (wL rLst (wCons (wC (.int 6)) (wNil))) (wL p_l_size (wCons (wL rLen (wCons (wVar 0) (wNil))) (wNil)))) (gN 2)) (wSeq (wFor (wIter (wVar 0)) (gN 3) (wSeq (wAsg (wL p_l_bytes (wCons (wVar 3) (wCons (w2 rAdd (wVar 1) (wC (.int 1))) (wNil)))) (gN 4)) (wSeq (wIfS (wB (w1 (rIsN false) (wVar 4))) (wRet (wC .non)) (wNext)) (wAsg (w2 rAdd (wVar 2) (wVar 4)) (gN 2))))) (wRet (wVar 2)))))))
theorem walk_l_bytes {C_s : Unit}  {p_l_size : Sp3} {p_l_signs : Sp3} {p_l_bytes : Sp3} {k : Nat} (T : Mg mg)  {f : Addr} (cdv : Value) (A : Around) (outer : List Env) (s : Shared) (H : Hp) (E : XK) (hr : Room (k + 1) (A.deeper (envOfC "_law_bytes" (defScope s_l_bytes) s.heap.objs.size f cdv))) (F_l_size : Fd P w K mg base G "_law_size" (k + 1) p_l_size) (F_l_signs : Fd P w K mg base G "_law_signs" (k + 1) p_l_signs) (F_l_bytes : Fd P w K mg base G "_law_bytes" (k + 1) p_l_bytes) :
    PSs3 (CXF P w K mg base N_l_bytes "_law_bytes" s_l_bytes f cdv A outer s H E) G (defBody s_l_bytes) (W_l_bytes p_l_size p_l_signs p_l_bytes) := by
  unfold W_l_bytes
  exact is_cons (is_if (it_w (iw_or (it_isN (i_var 0)) (iw_or (it_isB (i_var 0)) (iw_or1 (it_isB (i_var 0)))))) (is_one (is_ret (i_lst (ia_cons (i_lindex (room65 hr) (i_lst (ia_cons (i_non) (ia_cons (i_bl) (ia_cons (i_bl) (ia_nil))))) (ia_cons (i_var 0) (ia_nil))) (ia_nil))))) (is_nil)) (is_cons (is_if (it_val (i_isi .int rfl T.isinstance b_isinstance rfl T.int b_int (i_var 0))) (is_one (is_ret (i_if (it_cmp rf_ge (i_var 0) (i_int)) (i_bin rf_add (i_lst (ia_cons (i_int) (ia_nil))) (i_call F_l_size hr (ia_cons (i_var 0) (ia_nil)))) (i_bin rf_add (i_lst (ia_cons (i_int) (ia_nil))) (i_call F_l_size hr (ia_cons (i_bin rf_sub (i_un rf_neg' (i_int)) (i_var 0)) (ia_nil))))))) (is_nil)) (is_cons (is_if (it_val (i_isi .str rfl T.isinstance b_isinstance rfl T.str b_str (i_var 0))) (is_cons (is_if (it_cmp (rf_ne hr.units) (i_lc 5 rfl nd_l_bytes (blkOk_by (N := N_l_bytes) (sc := defScope s_l_bytes) (by decide +kernel)) (ii_any (i_var 0)) (fun _ _ _ _ _ => pg_name (i := 5) nd_l_bytes rfl (Or.inl rfl)) (fun _ _ _ _ _ => its_one (it_cmp (rf_notIn (room65 hr)) (i_var 5) (i_call0 F_l_signs hr))) (fun _ _ _ _ _ => i_var 5)) (i_lst (ia_nil))) (is_one (is_ret (i_non))) (is_nil)) (is_one (is_ret (i_bin rf_add (i_bin rf_add (i_lst (ia_cons (i_int) (ia_nil))) (i_call F_l_size hr (ia_cons (i_callB rf_len rfl T.len b_len (ia_cons (i_var 0) (ia_nil))) (ia_nil)))) (i_lc 5 rfl nd_l_bytes (blkOk_by (N := N_l_bytes) (sc := defScope s_l_bytes) (by decide +kernel)) (ii_any (i_var 0)) (fun _ _ _ _ _ => pg_name (i := 5) nd_l_bytes rfl (Or.inl rfl)) (fun _ _ _ _ _ => its_nil) (fun _ _ _ _ _ => i_sindex (i_call0 F_l_signs hr) (ia_cons (i_var 5) (ia_nil)))))))) (is_nil)) (is_cons (is_if (it_w (iw_or (it_not (it_val (i_isi .tuple rfl T.isinstance b_isinstance rfl T.tuple b_tuple (i_var 0)))) (iw_or1 (it_cmp (rf_eq hr.units) (i_var 1) (i_int))))) (is_one (is_ret (i_non))) (is_nil)) (is_cons (is_asg (i_bin rf_add (i_lst (ia_cons (i_int) (ia_nil))) (i_call F_l_size hr (ia_cons (i_callB rf_len rfl T.len b_len (ia_cons (i_var 0) (ia_nil))) (ia_nil)))) (ig_name 2 nd_l_bytes)) (is_cons (is_for PassesOwn.never rfl (ii_any (i_var 0)) (ig_name 3 nd_l_bytes) (is_cons (is_asg (i_call F_l_bytes hr (ia_cons (i_var 3) (ia_cons (i_bin rf_add (i_var 1) (i_int)) (ia_nil)))) (ig_name 4 nd_l_bytes)) (is_cons (is_if (it_isN (i_var 4)) (is_one (is_ret (i_non))) (is_nil)) (is_one (is_asg (i_bin rf_add (i_var 2) (i_var 4)) (ig_name 2 nd_l_bytes)))))) (is_one (is_ret (i_var 2))))))))
/-! ### _law_plain -/
abbrev s_l_plain : Stmt := top 30
abbrev N_l_plain : List Str := ["draw", "depth", "k", "n", "value", "turn", "j"]
theorem sc_l_plain : FnScope N_l_plain ["draw", "depth"] (defScope s_l_plain) := ⟨rfl, rfl, rfl, by decide +kernel, rfl, by decide +kernel, by decide +kernel⟩
theorem nd_l_plain : N_l_plain.Nodup := sc_l_plain.nd
def W_l_plain  (p_l_take : Sp3) (p_l_plain : Sp3) : WS := wSeq (wAsg (wL p_l_take (wCons (wVar 0) (wCons (wC (.int 12)) (wNil)))) (gN 2)) (wSeq (wIfS (wB (w2 rLt (wVar 2) (wC (.int 3)))) (wRet (w2 rIx (wL rLst (wCons (wC .non) (wCons (wC (.bl true)) (wCons (wC (.bl false)) (wNil))))) (wVar 2))) (wNext)) (wSeq (wIfS (wB (w2 rLt (wVar 2) (wC (.int 5)))) (wSeq (wAsg (w2 rIx (wL rLst (wCons (wL p_l_take (wCons (wVar 0) (wCons (wC (.int 300)) (wNil)))) (wCons (wC (.int 127)) (wCons (wC (.int 128)) (wCons (wC (.int 16383)) (wCons (wC (.int 16384)) (wCons (w2 rAdd (w2 rShl (wC (.int 1)) (wL p_l_take (wCons (wVar 0) (wCons (wC (.int 130)) (wNil))))) (wL p_l_take (wCons (wVar 0) (wCons (wC (.int 9)) (wNil))))) (wNil)))))))) (wL p_l_take (wCons (wVar 0) (wCons (wC (.int 6)) (wNil))))) (gN 3)) (wRet (w2 rIx (wL rLst (wCons (wVar 3) (wCons (w2 rSub (w1 rNeg (wVar 3)) (wC (.int 1))) (wCons (w1 rNeg (wVar 3)) (wNil))))) (wL p_l_take (wCons (wVar 0) (wCons (wC (.int 3)) (wNil))))))) (wNext)) (wSeq (wIfS (wB (w2 rLt (wVar 2) (wC (.int 7)))) (wRet (w2 rIx (wL rLst (wCons (wC (.str "")) (wCons (wC (.str "put")) (wCons (wC (.str "a0_z9")) (wCons (w2 rMul (wC (.str "x")) (wL p_l_take (wCons (wVar 0) (wCons (wC (.int 140)) (wNil))))) (wCons (wC (.str "_")) (wCons (wC (.str "A")) (wCons (wC (.str "two words")) (wNil))))))))) (wL p_l_take (wCons (wVar 0) (wCons (w2 rIx (wL rLst (wCons (wC (.int 5)) (wCons (wC (.int 5)) (wCons (wC (.int 5)) (wCons (wC (.int 7)) (wNil)))))) (wL p_l_take (wCons (wVar 0) (wCons (wC (.int 4)) (wNil))))) (wNil)))))) (wNext)) (wSeq (wIfS (wAnd (wB (w2 rEq (wVar 2) (wC (.int 7)))) (wB (w2 rGt (wVar 1) (wC (.int 3))))) (wSeq (wAsg (wC (.int 5)) (gN 4)) (wSeq (wFor (wRg1 (wCons (w2 rIx (wL rLst (wCons (wC (.int 3)) (wCons (wC (.int 59)) (wCons (wC (.int 60)) (wCons (wC (.int 61)) (wNil)))))) (wL p_l_take (wCons (wVar 0) (wCons (wC (.int 4)) (wNil))))) (wNil))) (gN 5) (wAsg (wL rTup (wCons (wVar 4) (wNil))) (gN 4))) (wRet (wVar 4)))) (wNext)) (wSeq (wIfS (wAnd (wB (w2 rEq (wVar 2) (wC (.int 8)))) (wB (w2 rEq (wL p_l_take (wCons (wVar 0) (wCons (wC (.int 6)) (wNil)))) (wC (.int 0))))) (wRet (w2 rIx (wL rLst (wCons (wL rLst (wCons (wC (.int 1)) (wNil))) (wCons (wDNewK) (wNil)))) (wL p_l_take (wCons (wVar 0) (wCons (wC (.int 2)) (wNil)))))) (wNext)) (wSeq (wIfS (wB (w2 rLt (wVar 1) (wC (.int 1)))) (wRet (wL p_l_take (wCons (wVar 0) (wCons (wC (.int 10)) (wNil))))) (wNext)) (wRet (wL rTupleOf (wCons (wLc (wRg1 (wCons (wL p_l_take (wCons (wVar 0) (wCons (wC (.int 4)) (wNil)))) (wNil))) 6 (wYes) (wL p_l_plain (wCons (wVar 0) (wCons (w2 rSub (wVar 1) (wC (.int 1))) (wNil))))) (wNil))))))))))
theorem walk_l_plain {C_s : Unit}  {p_l_take : Sp3} {p_l_plain : Sp3} {k : Nat} (T : Mg mg)  {f : Addr} (cdv : Value) (A : Around) (outer : List Env) (s : Shared) (H : Hp) (E : XK) (hr : Room (k + 1) (A.deeper (envOfC "_law_plain" (defScope s_l_plain) s.heap.objs.size f cdv))) (F_l_take : Fd P w K mg base G "_law_take" (k + 1) p_l_take) (F_l_plain : Fd P w K mg base G "_law_plain" (k + 1) p_l_plain) :
    PSs3 (CXF P w K mg base N_l_plain "_law_plain" s_l_plain f cdv A outer s H E) G (defBody s_l_plain) (W_l_plain p_l_take p_l_plain) := by
  unfold W_l_plain
  exact is_cons (is_asg (i_call F_l_take hr (ia_cons (i_var 0) (ia_cons (i_int) (ia_nil)))) (ig_name 2 nd_l_plain)) (is_cons (is_if (it_cmp rf_lt (i_var 2) (i_int)) (is_one (is_ret (i_ix (i_lst (ia_cons (i_non) (ia_cons (i_bl) (ia_cons (i_bl) (ia_nil))))) (i_var 2)))) (is_nil)) (is_cons (is_if (it_cmp rf_lt (i_var 2) (i_int)) (is_cons (is_asg (i_ix (i_lst (ia_cons (i_call F_l_take hr (ia_cons (i_var 0) (ia_cons (i_int) (ia_nil)))) (ia_cons (i_int) (ia_cons (i_int) (ia_cons (i_int) (ia_cons (i_int) (ia_cons (i_bin rf_add (i_bin rf_shl (i_int) (i_call F_l_take hr (ia_cons (i_var 0) (ia_cons (i_int) (ia_nil))))) (i_call F_l_take hr (ia_cons (i_var 0) (ia_cons (i_int) (ia_nil))))) (ia_nil)))))))) (i_call F_l_take hr (ia_cons (i_var 0) (ia_cons (i_int) (ia_nil))))) (ig_name 3 nd_l_plain)) (is_one (is_ret (i_ix (i_lst (ia_cons (i_var 3) (ia_cons (i_bin rf_sub (i_un rf_neg' (i_var 3)) (i_int)) (ia_cons (i_un rf_neg' (i_var 3)) (ia_nil))))) (i_call F_l_take hr (ia_cons (i_var 0) (ia_cons (i_int) (ia_nil)))))))) (is_nil)) (is_cons (is_if (it_cmp rf_lt (i_var 2) (i_int)) (is_one (is_ret (i_ix (i_lst (ia_cons (i_str) (ia_cons (i_str) (ia_cons (i_str) (ia_cons (i_bin rf_mul (i_str) (i_call F_l_take hr (ia_cons (i_var 0) (ia_cons (i_int) (ia_nil))))) (ia_cons (i_str) (ia_cons (i_str) (ia_cons (i_str) (ia_nil))))))))) (i_call F_l_take hr (ia_cons (i_var 0) (ia_cons (i_ix (i_lst (ia_cons (i_int) (ia_cons (i_int) (ia_cons (i_int) (ia_cons (i_int) (ia_nil)))))) (i_call F_l_take hr (ia_cons (i_var 0) (ia_cons (i_int) (ia_nil))))) (ia_nil))))))) (is_nil)) (is_cons (is_if (it_w (iw_and (it_cmp (rf_eq hr.units) (i_var 2) (i_int)) (iw_and1 (it_cmp rf_gt (i_var 1) (i_int))))) (is_cons (is_asg (i_int) (ig_name 4 nd_l_plain)) (is_cons (is_for PassesOwn.never rfl (ii_rg1 rfl T.range (ia_cons (i_ix (i_lst (ia_cons (i_int) (ia_cons (i_int) (ia_cons (i_int) (ia_cons (i_int) (ia_nil)))))) (i_call F_l_take hr (ia_cons (i_var 0) (ia_cons (i_int) (ia_nil))))) (ia_nil))) (ig_name 5 nd_l_plain) (is_one (is_asg (i_tup (ia_cons (i_var 4) (ia_nil))) (ig_name 4 nd_l_plain)))) (is_one (is_ret (i_var 4))))) (is_nil)) (is_cons (is_if (it_w (iw_and (it_cmp (rf_eq hr.units) (i_var 2) (i_int)) (iw_and1 (it_cmp (rf_eq hr.units) (i_call F_l_take hr (ia_cons (i_var 0) (ia_cons (i_int) (ia_nil)))) (i_int))))) (is_one (is_ret (i_ix (i_lst (ia_cons (i_lst (ia_cons (i_int) (ia_nil))) (ia_cons (i_dnewK) (ia_nil)))) (i_call F_l_take hr (ia_cons (i_var 0) (ia_cons (i_int) (ia_nil))))))) (is_nil)) (is_cons (is_if (it_cmp rf_lt (i_var 1) (i_int)) (is_one (is_ret (i_call F_l_take hr (ia_cons (i_var 0) (ia_cons (i_int) (ia_nil)))))) (is_nil)) (is_one (is_ret (i_callT rf_tupleOf rfl T.tuple b_tuple (ia_cons (i_lc 6 rfl nd_l_plain (blkOk_by (N := N_l_plain) (sc := defScope s_l_plain) (by decide +kernel)) (ii_rg1 rfl T.range (ia_cons (i_call F_l_take hr (ia_cons (i_var 0) (ia_cons (i_int) (ia_nil)))) (ia_nil))) (fun _ _ _ _ _ => pg_name (i := 6) nd_l_plain rfl (Or.inl rfl)) (fun _ _ _ _ _ => its_nil) (fun _ _ _ _ _ => i_call F_l_plain hr (ia_cons (i_var 0) (ia_cons (i_bin rf_sub (i_var 1) (i_int)) (ia_nil))))) (ia_nil)))))))))))
/-! ### _law_number -/
abbrev s_l_number : Stmt := top 31
abbrev N_l_number : List Str := ["data", "at", "n", "k"]
theorem sc_l_number : FnScope N_l_number ["data", "at"] (defScope s_l_number) := ⟨rfl, rfl, rfl, by decide +kernel, rfl, by decide +kernel, by decide +kernel⟩
theorem nd_l_number : N_l_number.Nodup := sc_l_number.nd
def W_l_number   : WS := wSeq (wAsg (wC (.int 0)) (gN 2)) (wSeq (wAsg (wC (.int 0)) (gN 3)) (wWhile (wB (wC (.bl true))) (wSeq (wIfS (wB (w2 rGe (w2 rAdd (wVar 1) (wVar 3)) (wL rLen (wCons (wVar 0) (wNil))))) (wRet (wL rTup (wCons (wC (.int 0)) (wCons (wC (.int 0)) (wCons (wL rLen (wCons (wVar 0) (wNil))) (wNil)))))) (wNext)) (wSeq (wAsg (w2 rAdd (wVar 2) (w2 rMul (w2 rMod (wL rToInt (wCons (w2 rIx (wVar 0) (w2 rAdd (wVar 1) (wVar 3))) (wNil))) (wC (.int 128))) (w2 rShl (wC (.int 1)) (w2 rMul (wC (.int 7)) (wVar 3))))) (gN 2)) (wSeq (wIfS (wB (w2 rLt (w2 rIx (wVar 0) (w2 rAdd (wVar 1) (wVar 3))) (wC (.int 128)))) (wSeq (wIfS (wAnd (wB (w2 rEq (w2 rIx (wVar 0) (w2 rAdd (wVar 1) (wVar 3))) (wC (.int 0)))) (wB (w2 rGt (wVar 3) (wC (.int 0))))) (wRet (wL rTup (wCons (wC (.int 0)) (wCons (wC (.int 0)) (wCons (w2 rAdd (wVar 1) (wVar 3)) (wNil)))))) (wNext)) (wRet (wL rTup (wCons (wVar 2) (wCons (w2 rAdd (w2 rAdd (wVar 1) (wVar 3)) (wC (.int 1))) (wCons (w1 rNeg (wC (.int 1))) (wNil))))))) (wNext)) (wAsg (w2 rAdd (wVar 3) (wC (.int 1))) (gN 3)))))))
theorem walk_l_number {C_s : Unit}   {k : Nat} (T : Mg mg)  {f : Addr} (cdv : Value) (A : Around) (outer : List Env) (s : Shared) (H : Hp) (E : XK) (hr : Room (k + 1) (A.deeper (envOfC "_law_number" (defScope s_l_number) s.heap.objs.size f cdv)))  :
    PSs3 (CXF P w K mg base N_l_number "_law_number" s_l_number f cdv A outer s H E) G (defBody s_l_number) (W_l_number ) := by
  unfold W_l_number
  exact is_cons (is_asg (i_int) (ig_name 2 nd_l_number)) (is_cons (is_asg (i_int) (ig_name 3 nd_l_number)) (is_one (is_while PassesOwn.never (it_val (i_bl)) (is_cons (is_if (it_cmp rf_ge (i_bin rf_add (i_var 1) (i_var 3)) (i_callB rf_len rfl T.len b_len (ia_cons (i_var 0) (ia_nil)))) (is_one (is_ret (i_tup (ia_cons (i_int) (ia_cons (i_int) (ia_cons (i_callB rf_len rfl T.len b_len (ia_cons (i_var 0) (ia_nil))) (ia_nil))))))) (is_nil)) (is_cons (is_asg (i_bin rf_add (i_var 2) (i_bin rf_mul (i_bin rf_mod (i_callT rf_int1 rfl T.int b_int (ia_cons (i_ix (i_var 0) (i_bin rf_add (i_var 1) (i_var 3))) (ia_nil))) (i_int)) (i_bin rf_shl (i_int) (i_bin rf_mul (i_int) (i_var 3))))) (ig_name 2 nd_l_number)) (is_cons (is_if (it_cmp rf_lt (i_ix (i_var 0) (i_bin rf_add (i_var 1) (i_var 3))) (i_int)) (is_cons (is_if (it_w (iw_and (it_cmp (rf_eq hr.units) (i_ix (i_var 0) (i_bin rf_add (i_var 1) (i_var 3))) (i_int)) (iw_and1 (it_cmp rf_gt (i_var 3) (i_int))))) (is_one (is_ret (i_tup (ia_cons (i_int) (ia_cons (i_int) (ia_cons (i_bin rf_add (i_var 1) (i_var 3)) (ia_nil))))))) (is_nil)) (is_one (is_ret (i_tup (ia_cons (i_var 2) (ia_cons (i_bin rf_add (i_bin rf_add (i_var 1) (i_var 3)) (i_int)) (ia_cons (i_un rf_neg' (i_int)) (ia_nil)))))))) (is_nil)) (is_one (is_asg (i_bin rf_add (i_var 3) (i_int)) (ig_name 3 nd_l_number)))))))))
/-! ### _law_read -/
abbrev s_l_read : Stmt := top 32
abbrev N_l_read : List Str := ["data", "at", "depth", "code", "n", "behind", "wrong", "parts", "part"]
theorem sc_l_read : FnScope N_l_read ["data", "at", "depth"] (defScope s_l_read) := ⟨rfl, rfl, rfl, by decide +kernel, rfl, by decide +kernel, by decide +kernel⟩
theorem nd_l_read : N_l_read.Nodup := sc_l_read.nd
def W_l_read  (p_l_number : Sp3) (p_l_read : Sp3) (p_l_signs : Sp3) : WS := wSeq (wIfS (wB (w2 rGe (wVar 1) (wL rLen (wCons (wVar 0) (wNil))))) (wRet (wL rTup (wCons (wC .non) (wCons (wC (.int 0)) (wCons (wL rLen (wCons (wVar 0) (wNil))) (wNil)))))) (wNext)) (wSeq (wAsg (w2 rIx (wVar 0) (wVar 1)) (gN 3)) (wSeq (wIfS (wOr (wB (w2 rGt (wVar 3) (wC (.int 6)))) (wAnd (wB (w2 rEq (wVar 3) (wC (.int 6)))) (wB (w2 rEq (wVar 2) (wC (.int 60)))))) (wRet (wL rTup (wCons (wC .non) (wCons (wC (.int 0)) (wCons (wVar 1) (wNil)))))) (wNext)) (wSeq (wIfS (wB (w2 rLt (wVar 3) (wC (.int 3)))) (wRet (wL rTup (wCons (w2 rIx (wL rLst (wCons (wC .non) (wCons (wC (.bl false)) (wCons (wC (.bl true)) (wNil))))) (wVar 3)) (wCons (w2 rAdd (wVar 1) (wC (.int 1))) (wCons (w1 rNeg (wC (.int 1))) (wNil)))))) (wNext)) (wSeq (wAsg (wL p_l_number (wCons (wVar 0) (wCons (w2 rAdd (wVar 1) (wC (.int 1))) (wNil)))) (gT [gN 4, gN 5, gN 6])) (wSeq (wIfS (wOr (wB (w2 rGe (wVar 6) (wC (.int 0)))) (wB (w2 rLt (wVar 3) (wC (.int 5))))) (wRet (wL rTup (wCons (w2 rIxB (wL rLst (wCons (wVar 4) (wCons (w2 rSub (w1 rNeg (wC (.int 1))) (wVar 4)) (wNil)))) (w2 rEq (wVar 3) (wC (.int 4)))) (wCons (wVar 5) (wCons (wVar 6) (wNil)))))) (wNext)) (wSeq (wAsg (wL rLst (wNil)) (gN 7)) (wSeq (wWhile (wB (w2 rLt (wL rLen (wCons (wVar 7) (wNil))) (wVar 4))) (wSeq (wIfS (wB (w2 rEq (wVar 3) (wC (.int 6)))) (wAsg (wL p_l_read (wCons (wVar 0) (wCons (wVar 5) (wCons (w2 rAdd (wVar 2) (wC (.int 1))) (wNil))))) (gT [gN 8, gN 5, gN 6])) (wIfS (wB (w2 rGe (wVar 5) (wL rLen (wCons (wVar 0) (wNil))))) (wAsg (wL rLen (wCons (wVar 0) (wNil))) (gN 6)) (wIfS (wB (w2 rGe (w2 rIx (wVar 0) (wVar 5)) (wC (.int 37)))) (wAsg (wVar 5) (gN 6)) (wSeq (wAsg (w2 rIx (wL p_l_signs wNil) (w2 rIx (wVar 0) (wVar 5))) (gN 8)) (wAsg (w2 rAdd (wVar 5) (wC (.int 1))) (gN 5)))))) (wSeq (wIfS (wB (w2 rGe (wVar 6) (wC (.int 0)))) (wRet (wL rTup (wCons (wC .non) (wCons (wC (.int 0)) (wCons (wVar 6) (wNil)))))) (wNext)) (wDrop (wAppend (wVar 7) (wCons (wVar 8) (wNil))))))) (wRet (wL rTup (wCons (wIf (wB (w2 rEq (wVar 3) (wC (.int 5)))) (wJoin (wC (.str "")) (wVar 7)) (wL rTupleOf (wCons (wVar 7) (wNil)))) (wCons (wVar 5) (wCons (w1 rNeg (wC (.int 1))) (wNil)))))))))))))
theorem walk_l_read {C_s : Unit}  {p_l_number : Sp3} {p_l_read : Sp3} {p_l_signs : Sp3} {k : Nat} (T : Mg mg)  {f : Addr} (cdv : Value) (A : Around) (outer : List Env) (s : Shared) (H : Hp) (E : XK) (hr : Room (k + 1) (A.deeper (envOfC "_law_read" (defScope s_l_read) s.heap.objs.size f cdv))) (F_l_number : Fd P w K mg base G "_law_number" (k + 1) p_l_number) (F_l_read : Fd P w K mg base G "_law_read" (k + 1) p_l_read) (F_l_signs : Fd P w K mg base G "_law_signs" (k + 1) p_l_signs) :
    PSs3 (CXF P w K mg base N_l_read "_law_read" s_l_read f cdv A outer s H E) G (defBody s_l_read) (W_l_read p_l_number p_l_read p_l_signs) := by
  unfold W_l_read
  exact is_cons (is_if (it_cmp rf_ge (i_var 1) (i_callB rf_len rfl T.len b_len (ia_cons (i_var 0) (ia_nil)))) (is_one (is_ret (i_tup (ia_cons (i_non) (ia_cons (i_int) (ia_cons (i_callB rf_len rfl T.len b_len (ia_cons (i_var 0) (ia_nil))) (ia_nil))))))) (is_nil)) (is_cons (is_asg (i_ix (i_var 0) (i_var 1)) (ig_name 3 nd_l_read)) (is_cons (is_if (it_w (iw_or (it_cmp rf_gt (i_var 3) (i_int)) (iw_or1 (it_w (iw_and (it_cmp (rf_eq hr.units) (i_var 3) (i_int)) (iw_and1 (it_cmp (rf_eq hr.units) (i_var 2) (i_int)))))))) (is_one (is_ret (i_tup (ia_cons (i_non) (ia_cons (i_int) (ia_cons (i_var 1) (ia_nil))))))) (is_nil)) (is_cons (is_if (it_cmp rf_lt (i_var 3) (i_int)) (is_one (is_ret (i_tup (ia_cons (i_ix (i_lst (ia_cons (i_non) (ia_cons (i_bl) (ia_cons (i_bl) (ia_nil))))) (i_var 3)) (ia_cons (i_bin rf_add (i_var 1) (i_int)) (ia_cons (i_un rf_neg' (i_int)) (ia_nil))))))) (is_nil)) (is_cons (is_asg (i_call F_l_number hr (ia_cons (i_var 0) (ia_cons (i_bin rf_add (i_var 1) (i_int)) (ia_nil)))) (ig_tup rfl (igs_cons (ig_name 4 nd_l_read) (igs_cons (ig_name 5 nd_l_read) (igs_cons (ig_name 6 nd_l_read) (igs_nil)))))) (is_cons (is_if (it_w (iw_or (it_cmp rf_ge (i_var 6) (i_int)) (iw_or1 (it_cmp rf_lt (i_var 3) (i_int))))) (is_one (is_ret (i_tup (ia_cons (i_ixB (i_lst (ia_cons (i_var 4) (ia_cons (i_bin rf_sub (i_un rf_neg' (i_int)) (i_var 4)) (ia_nil)))) (i_cmp (rf_eq hr.units) (i_var 3) (i_int))) (ia_cons (i_var 5) (ia_cons (i_var 6) (ia_nil))))))) (is_nil)) (is_cons (is_asg (i_lst (ia_nil)) (ig_name 7 nd_l_read)) (is_cons (is_while PassesOwn.never (it_cmp rf_lt (i_callB rf_len rfl T.len b_len (ia_cons (i_var 7) (ia_nil))) (i_var 4)) (is_cons (is_if (it_cmp (rf_eq hr.units) (i_var 3) (i_int)) (is_one (is_asg (i_call F_l_read hr (ia_cons (i_var 0) (ia_cons (i_var 5) (ia_cons (i_bin rf_add (i_var 2) (i_int)) (ia_nil))))) (ig_tup rfl (igs_cons (ig_name 8 nd_l_read) (igs_cons (ig_name 5 nd_l_read) (igs_cons (ig_name 6 nd_l_read) (igs_nil))))))) (is_one (is_if (it_cmp rf_ge (i_var 5) (i_callB rf_len rfl T.len b_len (ia_cons (i_var 0) (ia_nil)))) (is_one (is_asg (i_callB rf_len rfl T.len b_len (ia_cons (i_var 0) (ia_nil))) (ig_name 6 nd_l_read))) (is_one (is_if (it_cmp rf_ge (i_ix (i_var 0) (i_var 5)) (i_int)) (is_one (is_asg (i_var 5) (ig_name 6 nd_l_read))) (is_cons (is_asg (i_ix (i_call0 F_l_signs hr) (i_ix (i_var 0) (i_var 5))) (ig_name 8 nd_l_read)) (is_one (is_asg (i_bin rf_add (i_var 5) (i_int)) (ig_name 5 nd_l_read))))))))) (is_cons (is_if (it_cmp rf_ge (i_var 6) (i_int)) (is_one (is_ret (i_tup (ia_cons (i_non) (ia_cons (i_int) (ia_cons (i_var 6) (ia_nil))))))) (is_nil)) (is_one (is_expr (i_append (i_var 7) (ia_cons (i_var 8) (ia_nil)))))))) (is_one (is_ret (i_tup (ia_cons (i_if (it_cmp (rf_eq hr.units) (i_var 3) (i_int)) (i_join (i_str) (i_var 7)) (i_callT rf_tupleOf rfl T.tuple b_tuple (ia_cons (i_var 7) (ia_nil)))) (ia_cons (i_var 5) (ia_cons (i_un rf_neg' (i_int)) (ia_nil))))))))))))))
/-! ### _law_due -/
abbrev s_l_due : Stmt := top 34
abbrev N_l_due : List Str := ["data", "value", "behind", "wrong"]
theorem sc_l_due : FnScope N_l_due ["data"] (defScope s_l_due) := ⟨rfl, rfl, rfl, by decide +kernel, rfl, by decide +kernel, by decide +kernel⟩
theorem nd_l_due : N_l_due.Nodup := sc_l_due.nd
def W_l_due  (p_l_read : Sp3) : WS := wSeq (wAsg (wL p_l_read (wCons (wVar 0) (wCons (wC (.int 0)) (wCons (wC (.int 0)) (wNil))))) (gT [gN 1, gN 2, gN 3])) (wSeq (wIfS (wB (w2 rGe (wVar 3) (wC (.int 0)))) (wRet (wL rTup (wCons (wC (.str "at")) (wCons (wVar 3) (wNil))))) (wNext)) (wSeq (wIfS (wB (w2 rLt (wVar 2) (wL rLen (wCons (wVar 0) (wNil))))) (wRet (wL rTup (wCons (wC (.str "at")) (wCons (wVar 2) (wNil))))) (wNext)) (wRet (wL rTup (wCons (wC (.str "value")) (wCons (wVar 1) (wNil)))))))
theorem walk_l_due {C_s : Unit}  {p_l_read : Sp3} {k : Nat} (T : Mg mg)  {f : Addr} (cdv : Value) (A : Around) (outer : List Env) (s : Shared) (H : Hp) (E : XK) (hr : Room (k + 1) (A.deeper (envOfC "_law_due" (defScope s_l_due) s.heap.objs.size f cdv))) (F_l_read : Fd P w K mg base G "_law_read" (k + 1) p_l_read) :
    PSs3 (CXF P w K mg base N_l_due "_law_due" s_l_due f cdv A outer s H E) G (defBody s_l_due) (W_l_due p_l_read) := by
  unfold W_l_due
  exact is_cons (is_asg (i_call F_l_read hr (ia_cons (i_var 0) (ia_cons (i_int) (ia_cons (i_int) (ia_nil))))) (ig_tup rfl (igs_cons (ig_name 1 nd_l_due) (igs_cons (ig_name 2 nd_l_due) (igs_cons (ig_name 3 nd_l_due) (igs_nil)))))) (is_cons (is_if (it_cmp rf_ge (i_var 3) (i_int)) (is_one (is_ret (i_tup (ia_cons (i_str) (ia_cons (i_var 3) (ia_nil)))))) (is_nil)) (is_cons (is_if (it_cmp rf_lt (i_var 2) (i_callB rf_len rfl T.len b_len (ia_cons (i_var 0) (ia_nil)))) (is_one (is_ret (i_tup (ia_cons (i_str) (ia_cons (i_var 2) (ia_nil)))))) (is_nil)) (is_one (is_ret (i_tup (ia_cons (i_str) (ia_cons (i_var 1) (ia_nil))))))))
/-! ### _law_changed -/
abbrev s_l_changed : Stmt := top 35
abbrev N_l_changed : List Str := ["draw", "data", "k", "at", "byte"]
theorem sc_l_changed : FnScope N_l_changed ["draw", "data"] (defScope s_l_changed) := ⟨rfl, rfl, rfl, by decide +kernel, rfl, by decide +kernel, by decide +kernel⟩
theorem nd_l_changed : N_l_changed.Nodup := sc_l_changed.nd
def W_l_changed  (p_l_take : Sp3) : WS := wSeq (wAsg (wL p_l_take (wCons (wVar 0) (wCons (wC (.int 5)) (wNil)))) (gN 2)) (wSeq (wAsg (wL p_l_take (wCons (wVar 0) (wCons (w2 rAdd (wL rLen (wCons (wVar 1) (wNil))) (wC (.int 1))) (wNil)))) (gN 3)) (wSeq (wAsg (w2 rIx (wL rLst (wCons (wC (.int 0)) (wCons (wC (.int 1)) (wCons (wC (.int 2)) (wCons (wC (.int 3)) (wCons (wC (.int 4)) (wCons (wC (.int 5)) (wCons (wC (.int 6)) (wCons (wC (.int 7)) (wCons (wC (.int 36)) (wCons (wC (.int 37)) (wCons (wC (.int 127)) (wCons (wC (.int 128)) (wCons (wC (.int 255)) (wNil))))))))))))))) (wL p_l_take (wCons (wVar 0) (wCons (wC (.int 13)) (wNil))))) (gN 4)) (wSeq (wIfS (wB (w2 rEq (wVar 2) (wC (.int 0)))) (wRet (wSl (wVar 1) (oNone) (oSome (wVar 3)))) (wNext)) (wSeq (wIfS (wB (w2 rEq (wVar 2) (wC (.int 1)))) (wRet (w2 rAdd (w2 rAdd (wSl (wVar 1) (oNone) (oSome (wVar 3))) (wL rLst (wCons (wVar 4) (wNil)))) (wSl (wVar 1) (oSome (wVar 3)) (oNone)))) (wNext)) (wSeq (wIfS (wB (w2 rEq (wVar 2) (wC (.int 2)))) (wRet (w2 rAdd (wSl (wVar 1) (oNone) (oSome (wVar 3))) (wSl (wVar 1) (oSome (w2 rAdd (wVar 3) (wC (.int 1)))) (oNone)))) (wNext)) (wSeq (wIfS (wB (w2 rEq (wVar 2) (wC (.int 3)))) (wRet (w2 rIx (wL rLst (wCons (w2 rAdd (w2 rMul (wL rLst (wCons (wC (.int 6)) (wCons (wC (.int 1)) (wNil)))) (wL p_l_take (wCons (wVar 0) (wCons (wC (.int 63)) (wNil))))) (wL rLst (wCons (wC (.int 3)) (wCons (wC (.int 5)) (wNil))))) (wCons (wL rLst (wCons (wC (.int 3)) (wCons (wC (.int 128)) (wCons (wC (.int 0)) (wNil))))) (wCons (wL rLst (wCons (wC (.int 4)) (wCons (wC (.int 255)) (wCons (wC (.int 1)) (wNil))))) (wCons (wL rLst (wCons (wC (.int 5)) (wCons (wC (.int 2)) (wCons (wC (.int 0)) (wCons (wC (.int 37)) (wNil)))))) (wCons (wL rLst (wCons (wC (.int 5)) (wCons (wC (.int 128)) (wCons (wC (.int 1)) (wCons (wC (.int 0)) (wNil)))))) (wCons (wL rLst (wNil)) (wNil)))))))) (wL p_l_take (wCons (wVar 0) (wCons (wC (.int 6)) (wNil)))))) (wNext)) (wRet (w2 rAdd (w2 rAdd (wSl (wVar 1) (oNone) (oSome (wVar 3))) (wL rLst (wCons (wVar 4) (wNil)))) (wSl (wVar 1) (oSome (w2 rAdd (wVar 3) (wC (.int 1)))) (oNone))))))))))
theorem walk_l_changed {C_s : Unit}  {p_l_take : Sp3} {k : Nat} (T : Mg mg)  {f : Addr} (cdv : Value) (A : Around) (outer : List Env) (s : Shared) (H : Hp) (E : XK) (hr : Room (k + 1) (A.deeper (envOfC "_law_changed" (defScope s_l_changed) s.heap.objs.size f cdv))) (F_l_take : Fd P w K mg base G "_law_take" (k + 1) p_l_take) :
    PSs3 (CXF P w K mg base N_l_changed "_law_changed" s_l_changed f cdv A outer s H E) G (defBody s_l_changed) (W_l_changed p_l_take) := by
  unfold W_l_changed
  exact is_cons (is_asg (i_call F_l_take hr (ia_cons (i_var 0) (ia_cons (i_int) (ia_nil)))) (ig_name 2 nd_l_changed)) (is_cons (is_asg (i_call F_l_take hr (ia_cons (i_var 0) (ia_cons (i_bin rf_add (i_callB rf_len rfl T.len b_len (ia_cons (i_var 1) (ia_nil))) (i_int)) (ia_nil)))) (ig_name 3 nd_l_changed)) (is_cons (is_asg (i_ix (i_lst (ia_cons (i_int) (ia_cons (i_int) (ia_cons (i_int) (ia_cons (i_int) (ia_cons (i_int) (ia_cons (i_int) (ia_cons (i_int) (ia_cons (i_int) (ia_cons (i_int) (ia_cons (i_int) (ia_cons (i_int) (ia_cons (i_int) (ia_cons (i_int) (ia_nil))))))))))))))) (i_call F_l_take hr (ia_cons (i_var 0) (ia_cons (i_int) (ia_nil))))) (ig_name 4 nd_l_changed)) (is_cons (is_if (it_cmp (rf_eq hr.units) (i_var 2) (i_int)) (is_one (is_ret (i_sl (i_var 1) (io_none) (io_some (i_var 3))))) (is_nil)) (is_cons (is_if (it_cmp (rf_eq hr.units) (i_var 2) (i_int)) (is_one (is_ret (i_bin rf_add (i_bin rf_add (i_sl (i_var 1) (io_none) (io_some (i_var 3))) (i_lst (ia_cons (i_var 4) (ia_nil)))) (i_sl (i_var 1) (io_some (i_var 3)) (io_none))))) (is_nil)) (is_cons (is_if (it_cmp (rf_eq hr.units) (i_var 2) (i_int)) (is_one (is_ret (i_bin rf_add (i_sl (i_var 1) (io_none) (io_some (i_var 3))) (i_sl (i_var 1) (io_some (i_bin rf_add (i_var 3) (i_int))) (io_none))))) (is_nil)) (is_cons (is_if (it_cmp (rf_eq hr.units) (i_var 2) (i_int)) (is_one (is_ret (i_ix (i_lst (ia_cons (i_bin rf_add (i_bin rf_mul (i_lst (ia_cons (i_int) (ia_cons (i_int) (ia_nil)))) (i_call F_l_take hr (ia_cons (i_var 0) (ia_cons (i_int) (ia_nil))))) (i_lst (ia_cons (i_int) (ia_cons (i_int) (ia_nil))))) (ia_cons (i_lst (ia_cons (i_int) (ia_cons (i_int) (ia_cons (i_int) (ia_nil))))) (ia_cons (i_lst (ia_cons (i_int) (ia_cons (i_int) (ia_cons (i_int) (ia_nil))))) (ia_cons (i_lst (ia_cons (i_int) (ia_cons (i_int) (ia_cons (i_int) (ia_cons (i_int) (ia_nil)))))) (ia_cons (i_lst (ia_cons (i_int) (ia_cons (i_int) (ia_cons (i_int) (ia_cons (i_int) (ia_nil)))))) (ia_cons (i_lst (ia_nil)) (ia_nil)))))))) (i_call F_l_take hr (ia_cons (i_var 0) (ia_cons (i_int) (ia_nil))))))) (is_nil)) (is_one (is_ret (i_bin rf_add (i_bin rf_add (i_sl (i_var 1) (io_none) (io_some (i_var 3))) (i_lst (ia_cons (i_var 4) (ia_nil)))) (i_sl (i_var 1) (io_some (i_bin rf_add (i_var 3) (i_int))) (io_none)))))))))))
end
end Lk06
end
-- GS
section
set_option maxRecDepth 100000
set_option maxHeartbeats 4000000
namespace Lk06
open PySem PySem.Spec PyProof.Rows L2 T3
theorem ok_take : ∀ l h k, sp_take l h k → W_l_take (en k) (ev0 N_l_take l) h := by
  rintro l h k ⟨dr, many, rfl, ⟨c, ns, i, q, s, hd, hc, hi, hq, hs, hn⟩, hm, hb, post⟩
  have hcd := Drw.ne hd hc
  have fin : ∀ (i' q' s' : Int), -1 ≤ i' → 0 ≤ q' → 0 ≤ s' → 0 < many ∧ (0 < many ∧ (many < 1073741824 ∨ many.natAbs.log2 < 9000)) ∧ (en k).rt (.int (q' % many)) (up h dr (.lst [.ref c, .int i', .int (q' / many), .int s'])) := fun i' q' s' hi' hq' hs' =>
    ⟨hm, ⟨hm, hb⟩, en_rt (post _ _ (Int.emod_nonneg _ (by omega)) (Int.emod_lt_of_pos _ hm) (Grow.upd hd (Drw.mk' hcd hc hi' (Int.ediv_nonneg hq' (by omega)) hs' hn)))⟩
  have hs' : 0 ≤ (s * 48271 + 11) % 2147483647 := Int.emod_nonneg _ (by omega)
  simp [W_l_take, ev0, hd, up_ne hcd, hc]
  split
  · split
    · rename_i h0 h1
      have hx := atI_pos (l := ns.map D.int) (i := i + 1) (by omega) (by simpa using h1)
      have hpos : 0 ≤ ns[(i+1).toNat]'(by omega) := hn _ (List.getElem_mem _)
      simp [hx]
      split
      · exact fin _ _ _ (by omega) hs' hs'
      · exact fin _ _ _ (by omega) hpos hs
    · exact fin _ _ _ (by omega) hs' hs'
  · exact fin _ _ _ hi hq hs
theorem ok_top : ∀ l h k, sp_top l h k → W_l_top (en k) (ev0 N_l_top l) h := by
  rintro l h k ⟨w, rfl, h0, h1, post⟩
  simp [W_l_top, ev0]
  exact ⟨⟨h0, .inl (by omega)⟩, en_rt (by simpa [p2] using post)⟩
theorem ok_ops : ∀ l h k, sp_ops l h k → W_l_ops (en k) (ev0 N_l_ops l) h := by
  rintro l h k ⟨rfl, post⟩
  simp [W_l_ops]
  exact fun p hp => en_rt (post p hp)
theorem ok_variable : ∀ l h k, sp_variable l h k → W_l_variable sp_take (en k) (ev0 N_l_variable l) h := by
  rintro l h k ⟨dr, rfl, hd, post⟩
  simp [W_l_variable, ev0]
  intro p hp
  refine ⟨dr, 8, rfl, hd.new hp, by decide, .inl (by decide), fun r h' r0 r8 g => ?_⟩
  obtain ⟨g', e⟩ := g.born hd hp
  obtain ⟨x, hx, ex⟩ := atI_in (l := [D.int 0, D.int 1, D.int 2, D.int 3, D.int 0, D.int 1, D.int 2, D.int 39]) r0 r8
  simp [e, ex]
  simp at hx
  rcases hx with rfl | rfl | rfl | rfl | rfl | rfl | rfl | rfl <;> exact en_rt (post _ _ (by decide) (by decide) g')
theorem mask {x w : Int} (h0 : 0 ≤ x) : 0 ≤ Builtin.bitAnd x (p2 w - 1) ∧ Builtin.bitAnd x (p2 w - 1) < p2 w := by
  have e := Bits.bitAnd_mask (x := x) w.toNat h0
  unfold p2
  rw [e]
  exact ⟨Int.emod_nonneg _ (by have := p2_pos (n := w); unfold p2 at this; omega), Int.emod_lt_of_pos _ (by have := p2_pos (n := w); unfold p2 at this; omega)⟩
theorem ok_word : ∀ l h k, sp_word l h k → W_l_word sp_take sp_top (en k) (ev0 N_l_word l) h := by
  rintro l h k ⟨dr, w, rfl, hd, h1, h2, post⟩
  simp [W_l_word, ev0]
  refine ⟨w, rfl, by omega, by omega, ⟨by omega, .inl (by omega)⟩, ?_⟩
  have hp := p2_16 h2
  have hp0 := p2_pos (n := w)
  refine ⟨dr, _, rfl, hd, hp0, .inl (by show p2 w < _; omega), fun r h' r0 r1 g p np => ?_⟩
  refine ⟨dr, 5, rfl, g.drw.new np, by decide, .inl (by decide), fun r' h'' r0' r1' g2 => ?_⟩
  obtain ⟨g3, e⟩ := g2.born g.drw np
  obtain ⟨x, hx, ex⟩ := atI_in (l := [D.int 0, D.int 1, D.int 2, D.int (p2 w - 1), D.int r]) r0' r1'
  simp [e, ex]
  have fin : ∀ y, 0 ≤ y → sp_top [D.int w] h'' fun e h2 => rAndI (.int y) e h2 (en k).rt := fun y hy => by
    refine ⟨w, rfl, by omega, by omega, ?_⟩
    simp
    exact en_rt (post _ _ (mask hy).1 (mask hy).2 (g.trans g3))
  simp at hx
  rcases hx with rfl | rfl | rfl | rfl | rfl
  · exact fin 0 (by decide)
  · exact fin 1 (by decide)
  · exact fin 2 (by decide)
  · exact fin _ (by omega)
  · exact fin _ r0
theorem and_tab : ∀ m : Int, 0 ≤ m → m < 8 → ∃ x, atI [D.int 0, .int 1, .int 1, .int 3, .int 3, .int 3, .int 3, .int 7] m = some (.int x) ∧ 0 ≤ x ∧ x ≤ m := by
  intro m h0 h1
  have : m = 0 ∨ m = 1 ∨ m = 2 ∨ m = 3 ∨ m = 4 ∨ m = 5 ∨ m = 6 ∨ m = 7 := by omega
  rcases this with rfl | rfl | rfl | rfl | rfl | rfl | rfl | rfl <;> exact ⟨_, by simp <;> rfl, by decide, by decide⟩
theorem ok_index (n : Nat) : ∀ l h k, sp_index n l h k → W_l_index sp_take (sp_expression n) sp_top sp_variable (en k) (ev0 N_l_index l) h := by
  rintro l h k ⟨p, dr, w, ars, size, depth, rfl, hs1, hs8, hn, hd, hp, post⟩
  simp [W_l_index, ev0, dg_dK hp.at_, valD_cons]
  refine ⟨dr, 3, rfl, hd, by decide, .inl (by decide), fun r h1 r0 r9 g1 => ?_⟩
  have hd1 := g1.drw
  have hp1 := hp.grow g1 hd
  have hp0 := p2_pos (n := w)
  have hp16 := p2_16 hp.w2
  simp [dg_dK hp1.at_, valD_cons]
  split
  · exact ⟨p, dr, w, ars, depth, rfl, hn, hd1, hp1, fun e h2 we g2 => en_rt (post e h2 we (g1.trans g2))⟩
  · refine ⟨w, rfl, by have := hp.w1; omega, by have := hp.w2; omega, ?_⟩
    simp [dg_dK hp1.at_, valD_cons]
    have hw2 : 2 ≤ p2 w := by have := p2_le hp.w1; simpa [p2] using this
    have hm : ∃ m : Int, (if p2 w < size then p2 w - 1 else size - 1) = m ∧ 0 ≤ m ∧ m ≤ 7 ∧ m < p2 w := ⟨_, rfl, by split <;> omega, by split <;> omega, by split <;> omega⟩
    obtain ⟨m, em, hm0, hm7, hmw⟩ := hm
    refine ⟨dr, 2, rfl, hd1, by decide, .inl (by decide), fun r h2 r0 r9 g2 => ?_⟩
    have hp2 := hp1.grow g2 hd1
    simp [dg_dK hp2.at_, valD_cons]
    split
    · refine ⟨dr, _, rfl, g2.drw, by omega, .inl (by omega), fun r h3 r0 r9 g3 => ?_⟩
      exact en_rt (post (.int r) h3 ⟨r0, by omega⟩ (g1.trans (g2.trans g3)))
    · refine ⟨dr, rfl, g2.drw, fun v h3 v0 v9 g3 q nq => ?_⟩
      have e7 : (if 7 < m then 7 else m) = m := by split <;> omega
      obtain ⟨x, ex, x0, x1⟩ := and_tab m hm0 (by omega)
      simp only [em, e7]
      simp [ex]
      exact en_rt (post (.two "and" (.var v) (.int x)) _ ⟨by decide, ⟨v0, v9⟩, ⟨x0, by omega⟩⟩ (g1.trans (g2.trans (g3.new nq))))
theorem sub_lt {depth : Int} {n : Nat} (h : 0 ≤ depth ∧ depth < n) (h1 : ¬ depth < 1) : 0 ≤ depth - 1 ∧ depth - 1 < ((n - 1 : Nat) : Int) := by omega
theorem ok_expression (n : Nat) : ∀ l h k, sp_expression n l h k → W_l_expression sp_take sp_word sp_variable (sp_index (n - 1)) (sp_expression (n - 1)) sp_ops (en k) (ev0 N_l_expression l) h := by
  rintro l h k ⟨p, dr, w, ars, depth, rfl, hn, hd, hp, post⟩
  simp [W_l_expression, ev0, dg_dK hp.at_, valD_cons]
  refine ⟨dr, 9, rfl, hd, by decide, .inl (by decide), fun r h1 r0 r9 g1 => ?_⟩
  have hd1 := g1.drw
  have hp1 := hp.grow g1 hd
  have hint : sp_word [.ref dr, .int w] h1 fun d h1 => (en k).rt (.tup [.str "int", d]) h1 := ⟨dr, w, rfl, hd1, hp.w1, hp.w2, fun r h2 r0 r1 g2 => en_rt (post (.int r) h2 ⟨r0, r1⟩ (g1.trans g2))⟩
  have hvar : sp_variable [.ref dr] h1 fun d h1 => (en k).rt (.tup [.str "var", d]) h1 := ⟨dr, rfl, hd1, fun r h2 r0 r1 g2 => en_rt (post (.var r) h2 ⟨r0, r1⟩ (g1.trans g2))⟩
  have hone : 1 ≤ depth → ∀ q : Addr, h1 q = none → sp_take [.ref dr, .int 2] (up h1 q (.lst [.str "not", .str "neg"])) fun e h2 => rIx (.ref q) e h2 fun d h1 =>
      sp_expression (n - 1) [.ref p, .int (depth - 1)] h1 fun x h1 => (en k).rt (.tup [d, x]) h1 := fun hd1' q nq => by
    refine ⟨dr, 2, rfl, hd1.new nq, by decide, .inl (by decide), fun r' h2 r0' r1' g2 => ?_⟩
    obtain ⟨g3, e⟩ := g2.born hd1 nq
    obtain ⟨x, hx, ex⟩ := atI_in (l := [D.str "not", D.str "neg"]) r0' r1'
    simp only [s_ix_l]
    refine ⟨_, x, e, ex, p, dr, w, ars, depth - 1, rfl, by omega, g3.drw, hp1.grow g3 hd1, fun e h3 we g4 => ?_⟩
    simp at hx
    rcases hx with rfl | rfl <;> exact en_rt (post (.one _ e) h3 ⟨by decide, we.mono (by omega)⟩ (g1.trans (g3.trans g4)))
  have htwo : 1 ≤ depth → sp_ops [] h1 fun d h1 => sp_take [.ref dr, .int 10] h1 fun e h2 => rIx d e h2 fun d h1 =>
      sp_expression (n - 1) [.ref p, .int (depth - 1)] h1 fun x h1 => sp_expression (n - 1) [.ref p, .int (depth - 1)] h1 fun y h1 => (en k).rt (.tup [d, x, y]) h1 := fun hd1' => by
    refine ⟨rfl, fun q nq => ⟨dr, 10, rfl, hd1.new nq, by decide, .inl (by decide), fun r' h2 r0' r1' g2 => ?_⟩⟩
    obtain ⟨g3, e⟩ := g2.born hd1 nq
    obtain ⟨x, hx, ex⟩ := atI_in (l := pairOps.map D.str) r0' r1'
    simp only [s_ix_l]
    refine ⟨_, x, e, ex, p, dr, w, ars, depth - 1, rfl, by omega, g3.drw, hp1.grow g3 hd1, fun e h3 we g4 => ?_⟩
    refine ⟨p, dr, w, ars, depth - 1, rfl, by omega, g4.drw, (hp1.grow g3 hd1).grow g4 g3.drw, fun f h4 wf g5 => ?_⟩
    obtain ⟨o, ho, rfl⟩ := List.mem_map.mp hx
    exact en_rt (post (.two o e f) h4 ⟨ho, we.mono (by omega), wf.mono (by omega)⟩ (g1.trans (g3.trans (g4.trans g5))))
  simp [dg_dK hp1.at_, valD_cons, hint, hvar]
  intro h2r
  split
  · intro _ _ _; omega
  · intro h4 hd1'
    split
    · refine rEq_nil hp1.okL ?_
      simp
      split
      · first
          | exact htwo hd1'
          | (split
             · exact hone hd1'
             · exact htwo hd1')
      · rename_i hars
        have hlen : 0 < ars.length := List.length_pos_iff.mpr hars
        simp [dg_dK hp1.at_, valD_cons]
        refine ⟨dr, _, rfl, hd1, by omega, .inl (by have := hp.few; omega), fun r' h2 r0' r1' g2 => ?_⟩
        obtain ⟨x, hx, ex⟩ := atI_in (l := ars.map arD) r0' (by simpa using r1')
        obtain ⟨a, ha, rfl⟩ := List.mem_map.mp hx
        simp [ex, arD]
        refine ⟨p, dr, w, ars, a.2, depth - 1, rfl, (hp.sz a ha).1, (hp.sz a ha).2, sub_lt hn (by omega), g2.drw, hp1.grow g2 hd1, fun e h3 we g3 => ?_⟩
        exact en_rt (post (.cell a.1 e) h3 ⟨⟨a.2, ha⟩, we.mono (by omega)⟩ (g1.trans (g2.trans g3)))
    · split
      · exact hone hd1'
      · exact htwo hd1'
theorem ok_row : ∀ l h k, sp_row l h k → W_l_row sp_take (sp_expression 3) sp_variable (sp_index 2) (en k) (ev0 N_l_row l) h := by
  rintro l h k ⟨p, dr, oa, w, ars, others, rfl, hd, hp, ho, hol, hos, post⟩
  simp [W_l_row, ev0, dg_dK hp.at_, valD_cons]
  refine ⟨dr, 12, rfl, hd, by decide, .inl (by decide), fun r h1 r0 r9 g1 => ?_⟩
  have hd1 := g1.drw
  have hp1 := hp.grow g1 hd
  have hoa : oa ≠ dr := by
    rintro rfl
    obtain ⟨c, ns, i, q, s, e, _⟩ := hd
    rw [ho] at e
    have := congrArg List.length (O.lst.inj (Option.some.inj e))
    simp at this; omega
  have ho1 := g1.keep oa _ hoa ho
  have hset : ∀ n : Int, 0 ≤ n ∧ n < 3 → sp_variable [.ref dr] h1 fun d h1 => sp_expression 3 [.ref p, .int n] h1 fun x h1 => (en k).rt (.tup [.str "set", d, x]) h1 := fun n hn => by
    refine ⟨dr, rfl, hd1, fun v h2 v0 v9 g2 => ⟨p, dr, w, ars, n, rfl, hn, g2.drw, hp1.grow g2 hd1, fun e h3 we g3 => ?_⟩⟩
    exact en_rt (post (.set v e) h3 ⟨⟨v0, v9⟩, we⟩ (g1.trans (g2.trans g3)))
  have htake : sp_variable [.ref dr] h1 fun d h1 => (en k).rt (.tup [.str "take", d]) h1 := by
    refine ⟨dr, rfl, hd1, fun v h2 v0 v9 g2 => ?_⟩
    exact en_rt (post (.take v) h2 ⟨v0, v9⟩ (g1.trans g2))
  have hput : sp_expression 3 [.ref p, .int 1] h1 fun d h1 => (en k).rt (.tup [.str "put", d]) h1 := by
    refine ⟨p, dr, w, ars, 1, rfl, by decide, hd1, hp1, fun e h3 we g3 => ?_⟩
    exact en_rt (post (.put e) h3 we (g1.trans g3))
  have hass : sp_take [.ref dr, .int 4] h1 fun d h1 => sp_expression 3 [.ref p, .int 2] h1 fun x h1 => (en k).rt (.tup [.str "assert", d, x]) h1 := by
    refine ⟨dr, 4, rfl, hd1, by decide, .inl (by decide), fun v h2 v0 v9 g2 => ⟨p, dr, w, ars, 2, rfl, by decide, g2.drw, hp1.grow g2 hd1, fun e h3 we g3 => ?_⟩⟩
    exact en_rt (post (.assert v e) h3 ⟨⟨v0, by omega⟩, we⟩ (g1.trans (g2.trans g3)))
  simp [dg_dK hp1.at_, valD_cons, hset 2 (by decide), hset 1 (by decide), htake, hput, hass]
  intro h4 h7 h9
  split
  · rename_i e9
    subst e9
    refine rEq_nil hp1.okL ?_
    simp [hset 1 (by decide)]
    intro hars
    have hlen : 0 < ars.length := List.length_pos_iff.mpr hars
    simp [dg_dK hp1.at_, valD_cons]
    refine ⟨dr, _, rfl, hd1, by omega, .inl (by have := hp.few; omega), fun r' h2 r0' r1' g2 => ?_⟩
    obtain ⟨x, hx, ex⟩ := atI_in (l := ars.map arD) r0' (by simpa using r1')
    obtain ⟨a, ha, rfl⟩ := List.mem_map.mp hx
    simp [ex, arD]
    refine ⟨p, dr, w, ars, a.2, 1, rfl, (hp.sz a ha).1, (hp.sz a ha).2, by decide, g2.drw, hp1.grow g2 hd1, fun e h3 we g3 => ?_⟩
    refine ⟨p, dr, w, ars, 1, rfl, by decide, g3.drw, (hp1.grow g2 hd1).grow g3 g2.drw, fun f h4 wf g4 => ?_⟩
    exact en_rt (post (.store a.1 e f) h4 ⟨⟨a.2, ha⟩, we.mono (by omega), wf⟩ (g1.trans (g2.trans (g3.trans g4))))
  · intro e10 q nq
    subst e10
    have hqo : oa ≠ q := by rintro rfl; rw [ho1] at nq; cases nq
    have gq : Grow dr h1 (up h1 q (.lst [])) := (Grow.refl hd1).new nq
    have ho2 : (up h1 q (.lst [])) oa = some (.lst (others.map othD)) := by rw [up_ne hqo]; exact ho1
    refine rEq_nilL ho2 up_same (by rw [okL_iff]; intro d hd; obtain ⟨a, ha, rfl⟩ := List.mem_map.mp hd; simp [othD, D.ok, D.okL, (hos a ha).2]) ?_
    have hset' : sp_variable [.ref dr] (up h1 q (.lst [])) fun d h1 => sp_expression 3 [.ref p, .int 1] h1 fun x h1 => (en k).rt (.tup [.str "set", d, x]) h1 := by
      refine ⟨dr, rfl, gq.drw, fun v h2 v0 v9 g2 => ⟨p, dr, w, ars, 1, rfl, by decide, g2.drw, (hp1.grow gq hd1).grow g2 gq.drw, fun e h3 we g3 => ?_⟩⟩
      exact en_rt (post (.set v e) h3 ⟨⟨v0, v9⟩, we⟩ (g1.trans (gq.trans (g2.trans g3))))
    simp [hset', ho2]
    intro hn
    have hlen : 0 < others.length := List.length_pos_iff.mpr hn
    refine ⟨dr, _, rfl, gq.drw, by omega, .inl (by omega), fun r' h2 r0' r1' g2 => ?_⟩
    obtain ⟨x, hx, ex⟩ := atI_in (l := others.map othD) r0' (by simpa using r1')
    obtain ⟨a, ha, rfl⟩ := List.mem_map.mp hx
    have ho3 := g2.keep oa _ hoa ho2
    simp [ho3, ex, othD]
    refine ⟨dr, rfl, g2.drw, fun v h3 v0 v9 g3 => ?_⟩
    have h3d := g3.drw
    have hp3 := (((hp1.grow gq hd1).grow g2 gq.drw).grow g3 g2.drw)
    have hb := (hos a ha).1
    simp
    refine ⟨by omega, by omega, fun z nz => ?_⟩
    refine lc_grow (P := fun d => ∃ e : Ex, e.Wf (p2 w) ars 5 ∧ d = e.toD) h3d nz ?_ ?_ ?_
    · simp [rgD]; omega
    · intro h4 x hx g4 K hK
      simp
      refine ⟨p, dr, w, ars, 1, rfl, by decide, g4.drw, hp3.grow g4 h3d, fun e h5 we g5 => hK _ _ ⟨e, we, rfl⟩ g5⟩
    · intro m h4 hm hP g4 e4
      simp [e4]
      obtain ⟨es, rfl, hes⟩ : ∃ es : List Ex, m = es.map Ex.toD ∧ ∀ e ∈ es, e.Wf (p2 w) ars 5 := by
        clear e4 hm
        induction m with
        | nil => exact ⟨[], rfl, fun _ h => nomatch h⟩
        | cons d m ih =>
          obtain ⟨e, we, rfl⟩ := hP d List.mem_cons_self
          obtain ⟨es, rfl, hes⟩ := ih fun d hd => hP d (List.mem_cons_of_mem _ hd)
          exact ⟨e :: es, rfl, fun x hx => by
            rcases List.mem_cons.mp hx with rfl | hx
            · exact we
            · exact hes x hx⟩
      refine en_rt (post (.call v a.1 es) h4 ⟨⟨v0, v9⟩, ?_, hes⟩ (g1.trans (gq.trans (g2.trans (g3.trans g4)))))
      have : (es.length : Int) = a.2 := by simp [rgD] at hm; omega
      rw [this]; exact ha
end Lk06
end
-- GS2
section
set_option maxRecDepth 100000
set_option maxHeartbeats 4000000
namespace Lk06
open PySem PySem.Spec PyProof.Rows L2 T3
theorem cut_from {l : List D} {i : Int} {n : Nat} (e : i = n) : T3.cutD l (some i) none = l.drop n := by
  subst e
  unfold T3.cutD
  have e1 : HT.sIx l.length 0 (some (n : Int)) = min n l.length := by
    unfold HT.sIx
    simp
    try omega
  have e2 : HT.sIx l.length l.length none = l.length := by unfold HT.sIx; simp
  rw [e1, e2, List.take_of_length_le (by simp)]
  rcases Nat.le_total n l.length with z | z
  · rw [Nat.min_eq_left z]
  · rw [Nat.min_eq_right z, List.drop_of_length_le z, List.drop_of_length_le (Nat.le_refl _)]
theorem ok_blocks : ∀ l h k, sp_blocks l h k → W_l_blocks sp_take sp_row (sp_expression 3) (en k) (ev0 N_l_blocks l) h := by
  rintro l h k ⟨p, dr, oa, w, ars, others, blocks, rows, rfl, hb1, hb6, hr1, hr4, hd, hp, ho, hol, hos, post⟩
  have hoa : oa ≠ dr := by
    rintro rfl
    obtain ⟨c, ns, i, q, s, e, _⟩ := hd
    rw [ho] at e
    have := congrArg List.length (O.lst.inj (Option.some.inj e))
    simp at this; omega
  simp [W_l_blocks, ev0, dg_dK hp.at_, valD_cons]
  refine ⟨dr, 3, rfl, hd, by decide, .inl (by decide), fun r h1 r0 r9 g1 => ?_⟩
  have hd1 := g1.drw
  simp
  refine ⟨dr, _, rfl, hd1, by omega, .inl (by omega), fun r' h2 r0' r9' g2 => ?_⟩
  have hd2 := g2.drw
  simp
  refine ⟨by omega, by omega, fun lp nlp => ?_⟩
  obtain ⟨n, rfl⟩ := Int.eq_ofNat_of_zero_le r0'
  have en1 : (1 + (n : Int)).toNat = n + 1 := by omega
  rw [en1]
  refine lc_rg (fun j => .int (lbl (1 + r) j)) (by omega) (fun _ _ _ => trivial) ?_ ?_
  · intro j hj o hh hs K hK
    simp
    exact ⟨.inl ⟨by omega, by omega⟩, hK _ (Sub.refl _)⟩
  · rw [show (List.range (n + 1)).map (fun j => D.int (lbl (1 + r) j)) = ((List.range (n + 1)).map (lbl (1 + r))).map D.int by simp]
    generalize hL : (List.range (n + 1)).map (lbl (1 + r)) = L
    have hLn : L.length = n + 1 := by rw [← hL]; simp
    intro fp nfp
    have g3 : Grow dr h2 (up h2 lp (.lst (L.map D.int))) := (Grow.refl hd2).new nlp
    have hd3 := g3.drw
    have gb := g1.trans (g2.trans g3)
    have hpb := ((hp.grow g1 hd).grow g2 hd1).grow g3 hd2
    have hob := g3.keep oa _ hoa (g2.keep oa _ hoa (g1.keep oa _ hoa ho))
    have hlb : (up h2 lp (.lst (L.map D.int))) lp = some (.lst (L.map D.int)) := up_same
    have hlpd : lp ≠ dr := (hd2.fresh nlp)
    revert nfp g3 hd3 gb hpb hob hlb
    generalize up h2 lp (.lst (L.map D.int)) = hb
    intro nfp g3 hd3 gb hpb hob hlb
    have hlf : lp ≠ fp := by rintro rfl; rw [hlb] at nfp; cases nfp
    simp [up_ne hlf, hlb, hLn]
    refine ⟨by omega, ?_⟩
    refine for_inv (fun j ρ h => (∃ x8 x9 x10 x11 x12 x13 x14 x15 x16 : Option D, ρ = [some (.ref p), some (.ref oa), some (.int blocks), some (.int rows), some (.ref dr), some (.int (1 + r)), some (.ref lp), some (.ref fp), x8, x9, x10, x11, x12, x13, x14, x15, x16]) ∧
      Grow dr hb h ∧ ∃ bs : List Bk, bs.length = j ∧ h fp = some (.lst (bs.map Bk.toD)) ∧ bs.map Bk.label = L.take j ∧ ∀ b ∈ bs, b.Wf (p2 w) ars others L) (fun _ _ _ _ _ => trivial) ?_ ?_ ?_
    · exact ⟨⟨_, _, _, _, _, _, _, _, _, rfl⟩, (Grow.refl hd3).new nfp, [], rfl, up_same, by simp, fun _ h => nomatch h⟩
    · rintro j x ρ h3 hx ⟨⟨x8, x9, x10, x11, x12, x13, x14, x15, x16, rfl⟩, g4, bs, hbj, hfp, hlab, hwf⟩ N hN
      have hjn : j < n + 1 := by
        rcases Nat.lt_or_ge j (n + 1) with z | z
        · exact z
        · rw [List.getElem?_eq_none (by simpa [rgD] using z)] at hx; cases hx
      have hxj : x = .int j := by simpa [rgD, hjn] using hx.symm
      subst hxj
      have hd4 := g4.drw
      have hp4 := hpb.grow g4 hd3
      have ho4 := g4.keep oa _ hoa hob
      have hfpd : fp ≠ dr := hd3.fresh nfp
      have hl4 := g4.keep lp _ hlpd hlb
      have hjL : j < L.length := by omega
      have fin : ∀ (h5 : H3) (x10 x11 x13 x14 x15 x16 : Option D) (body : List Sm) (nd : Nd), Grow dr h3 h5 → (body.length ≤ 4 ∧ ∀ s ∈ body, s.Wf (p2 w) ars others) → nd.Wf (p2 w) ars L.tail →
          wAppend (wVar 7) (wCons (wL rTup (wCons (w2 T3.rIx (wVar 6) (wVar 8)) (wCons (wVar 9) (wCons (wVar 12) wNil)))) wNil)
            [some (D.ref p), some (D.ref oa), some (D.int blocks), some (D.int rows), some (D.ref dr), some (D.int (1 + r)), some (D.ref lp), some (D.ref fp), some (D.int ↑j), some (.tup (body.map Sm.toD)), x10, x11, some nd.toD, x13, x14, x15, x16] h5 fun x h1 =>
            N [some (D.ref p), some (D.ref oa), some (D.int blocks), some (D.int rows), some (D.ref dr), some (D.int (1 + r)), some (D.ref lp), some (D.ref fp), some (D.int ↑j), some (.tup (body.map Sm.toD)), x10, x11, some nd.toD, x13, x14, x15, x16] h1 := by
        intro h5 x10 x11 x13 x14 x15 x16 body nd g5 hbody hnd
        have hl5 := g5.keep lp _ hlpd hl4
        have hf5 := g5.keep fp _ hfpd hfp
        have hix : atI (L.map D.int) (j : Int) = some (.int L[j]) := atI_nat (by simp [hjL])
        simp [wAppend, hl5, hf5, hix]
        refine ⟨fp, _, _, rfl, rfl, hf5, by simp; omega, hN _ _ ⟨⟨_, _, _, _, _, _, _, _, _, rfl⟩, (g4.trans g5).write hd3 nfp, bs ++ [⟨L[j], body, nd⟩], by simp [hbj], by simp [Bk.toD], ?_, ?_⟩⟩
        · simp [hlab]
        · intro b hb
          rcases List.mem_append.mp hb with hb | hb
          · exact hwf b hb
          · rw [List.mem_singleton.mp hb]
            exact ⟨List.getElem_mem _, hbody, hnd⟩
      simp
      refine ⟨dr, _, rfl, hd4, by omega, .inl (by omega), fun m h4 m0 m9 g5 => ?_⟩
      have hd5 := g5.drw
      have hp5 := hp4.grow g5 hd4
      have ho5 := g5.keep oa _ hoa ho4
      refine ⟨m, rfl, by omega, by omega, fun z nz => ?_⟩
      refine lc_grow (P := fun d => ∃ s : Sm, s.Wf (p2 w) ars others ∧ d = s.toD) hd5 nz (by simp [rgD]; omega) ?_ ?_
      · intro h6 x hx g6 K hK
        simp
        refine ⟨p, dr, oa, w, ars, others, rfl, g6.drw, hp5.grow g6 hd5, g6.keep oa _ hoa ho5, hol, hos, fun s h7 ws g7 => hK _ _ ⟨s, ws, rfl⟩ g7⟩
      · intro ms h6 hms hP g6 e6
        obtain ⟨ss, rfl, hss⟩ : ∃ ss : List Sm, ms = ss.map Sm.toD ∧ ∀ s ∈ ss, s.Wf (p2 w) ars others := by
          clear e6 hms
          induction ms with
          | nil => exact ⟨[], rfl, fun _ h => nomatch h⟩
          | cons d m ih =>
            obtain ⟨e, we, rfl⟩ := hP d List.mem_cons_self
            obtain ⟨es, rfl, hes⟩ := ih fun d hd => hP d (List.mem_cons_of_mem _ hd)
            exact ⟨e :: es, rfl, fun x hx => by
              rcases List.mem_cons.mp hx with rfl | hx
              · exact we
              · exact hes x hx⟩
        have hb4 : ss.length ≤ 4 := by simp [rgD] at hms; omega
        have g56 := g5.trans g6
        have hl6 := g56.keep lp _ hlpd hl4
        simp [e6, hl6]
        have c1 : T3.cutD (L.map D.int) (some 1) none = L.tail.map D.int := by
          rw [cut_from (i := 1) (n := 1) rfl]; simp
        have c2 : T3.cutD (L.map D.int) (some ((j : Int) + 1)) none = (L.drop (j + 1)).map D.int := by
          rw [cut_from (n := j + 1) (by omega)]; simp
        simp only [c1]
        intro rp nrp
        have hd6 := g6.drw
        have gr : Grow dr h6 (up h6 rp (.lst (L.tail.map D.int))) := (Grow.refl hd6).new nrp
        refine ⟨dr, 5, rfl, gr.drw, by decide, .inl (by decide), fun kd h7 k0 k9 g7 => ?_⟩
        obtain ⟨g7', e7⟩ := g7.born hd6 nrp
        intro q nq
        have hd7 := g7.drw
        have gq : Grow dr h7 (up h7 q (.lst [])) := (Grow.refl hd7).new nq
        have hrq : rp ≠ q := by rintro rfl; rw [e7] at nq; cases nq
        have hrd : rp ≠ dr := hd6.fresh nrp
        have er := gq.keep rp _ hrd e7
        have g3q : Grow dr h3 (up h7 q (.lst [])) := g56.trans (g7'.trans gq)
        have hpq := hp4.grow g3q hd4
        have hlq := g3q.keep lp _ hlpd hl4
        have hret : ∀ x13 x14 x15 x16 : Option D, sp_expression 3 [D.ref p, D.int 1] (up h7 q (.lst [])) fun d_3 h1 =>
          wAppend (wVar 7) (wCons (wL rTup (wCons (w2 T3.rIx (wVar 6) (wVar 8)) (wCons (wVar 9) (wCons (wVar 12) wNil)))) wNil)
            [some (D.ref p), some (D.ref oa), some (D.int blocks), some (D.int rows), some (D.ref dr), some (D.int (1 + r)), some (D.ref lp), some (D.ref fp), some (D.int ↑j), some (.tup (ss.map Sm.toD)), some (.ref rp), some (.int kd), some (D.tup [D.str (Str.ofString "return"), d_3]), x13, x14, x15, x16] h1 fun x h1 =>
            N [some (D.ref p), some (D.ref oa), some (D.int blocks), some (D.int rows), some (D.ref dr), some (D.int (1 + r)), some (D.ref lp), some (D.ref fp), some (D.int ↑j), some (.tup (ss.map Sm.toD)), some (.ref rp), some (.int kd), some (D.tup [D.str (Str.ofString "return"), d_3]), x13, x14, x15, x16] h1 := by
          intro x13 x14 x15 x16
          refine ⟨p, dr, w, ars, 1, rfl, by decide, gq.drw, hpq, fun e h8 we g8 => ?_⟩
          exact fin h8 _ _ _ _ _ _ ss (.ret e) (g3q.trans g8) ⟨hb4, hss⟩ we
        refine rEq_nilL er up_same (by rw [okL_iff]; intro d hd; obtain ⟨a, ha, rfl⟩ := List.mem_map.mp hd; rfl) ?_
        simp [hret, hlq, c2]
        intro hLt hkd
        have hLt' : L.tail ≠ [] := by intro z; rw [← List.map_tail, z] at hLt; exact hLt rfl
        have hend : ∀ (h8 : H3) (op : Addr) (OL : List Int) (x16 : Option D), Grow dr h3 h8 → h8 op = some (.lst (OL.map D.int)) → op ≠ dr → OL ≠ [] → OL.length ≤ 9 → (∀ x ∈ OL, x ∈ L.tail) → h8 rp = some (.lst (L.tail.map D.int)) →
            sp_take [D.ref dr, D.int ↑((OL.map D.int).length)] h8 fun e h2 => T3.rIx (D.ref op) e h2 fun d h1 => ∃ l, h1 rp = some (O.lst l) ∧ sp_take [D.ref dr, D.int ↑l.length] h1 fun e h2 => T3.rIx (D.ref rp) e h2 fun d_1 h1 =>
            if kd = 1 then wAppend (wVar 7) (wCons (wL rTup (wCons (w2 T3.rIx (wVar 6) (wVar 8)) (wCons (wVar 9) (wCons (wVar 12) wNil)))) wNil)
            [some (D.ref p), some (D.ref oa), some (D.int blocks), some (D.int rows), some (D.ref dr), some (D.int (1 + r)), some (D.ref lp), some (D.ref fp), some (D.int ↑j), some (D.tup (List.map Sm.toD ss)), some (D.ref rp), some (D.int kd), some (D.tup [D.str (Str.ofString "go"), d]), some (D.ref op), some d, some d_1, x16] h1 fun x h1 => N [some (D.ref p), some (D.ref oa), some (D.int blocks), some (D.int rows), some (D.ref dr), some (D.int (1 + r)), some (D.ref lp), some (D.ref fp), some (D.int ↑j), some (D.tup (List.map Sm.toD ss)), some (D.ref rp), some (D.int kd), some (D.tup [D.str (Str.ofString "go"), d]), some (D.ref op), some d, some d_1, x16] h1
            else sp_expression 3 [D.ref p, D.int 2] h1 fun d_2 h1 => wAppend (wVar 7) (wCons (wL rTup (wCons (w2 T3.rIx (wVar 6) (wVar 8)) (wCons (wVar 9) (wCons (wVar 12) wNil)))) wNil)
            [some (D.ref p), some (D.ref oa), some (D.int blocks), some (D.int rows), some (D.ref dr), some (D.int (1 + r)), some (D.ref lp), some (D.ref fp), some (D.int ↑j), some (D.tup (List.map Sm.toD ss)), some (D.ref rp), some (D.int kd), some (D.tup [D.str (Str.ofString "if"), d_2, d, d_1]), some (D.ref op), some d, some d_1, x16] h1 fun x h1 => N [some (D.ref p), some (D.ref oa), some (D.int blocks), some (D.int rows), some (D.ref dr), some (D.int (1 + r)), some (D.ref lp), some (D.ref fp), some (D.int ↑j), some (D.tup (List.map Sm.toD ss)), some (D.ref rp), some (D.int kd), some (D.tup [D.str (Str.ofString "if"), d_2, d, d_1]), some (D.ref op), some d, some d_1, x16] h1 := by
          intro h8 op OL x16 g8 eop hopd hO hO9 hsub er8
          have hlenO : 0 < OL.length := List.length_pos_iff.mpr hO
          have hlenL : 0 < L.tail.length := List.length_pos_iff.mpr hLt'
          have hlL : L.tail.length ≤ 6 := by simp; omega
          refine ⟨dr, _, rfl, g8.drw, by simp; omega, .inl (by simp; omega), fun a h9 a0 a9 g9 => ?_⟩
          obtain ⟨x, hx, ex⟩ := atI_in (l := OL.map D.int) a0 a9
          obtain ⟨x, hx', rfl⟩ := List.mem_map.mp hx
          have eop9 := g9.keep op _ hopd eop
          have er9 := g9.keep rp _ hrd er8
          simp only [s_ix_l]
          refine ⟨_, _, eop9, ex, _, er9, ?_⟩
          refine ⟨dr, _, rfl, g9.drw, by simp; simp at hlenL; omega, .inl (by simp; omega), fun b h10 b0 b9 g10 => ?_⟩
          obtain ⟨y, hy, ey⟩ := atI_in (l := L.tail.map D.int) b0 b9
          obtain ⟨y, hy', rfl⟩ := List.mem_map.mp hy
          have er10 := g10.keep rp _ hrd er9
          simp only [s_ix_l]
          refine ⟨_, _, er10, ey, ?_⟩
          have gg := g8.trans (g9.trans g10)
          split
          · exact fin h10 _ _ _ _ _ _ ss (.go x) gg ⟨hb4, hss⟩ (hsub x hx')
          · refine ⟨p, dr, w, ars, 2, rfl, by decide, gg.drw, hp4.grow gg hd4, fun e h11 we g11 => ?_⟩
            exact fin h11 _ _ _ _ _ _ ss (.iff e x y) (gg.trans g11) ⟨hb4, hss⟩ ⟨we, hsub x hx', hy'⟩
        intro a na b nb
        have ga := (Grow.refl gq.drw).new (o := .lst (List.drop (j + 1) (List.map D.int L))) na
        have gb2 := ga.new (o := .lst []) nb
        have hab : a ≠ b := by rintro rfl; rw [up_same] at nb; cases nb
        have g3b := g3q.trans gb2
        have hrb := gb2.keep rp _ hrd er
        have hlb2 := gb2.keep lp _ hlpd hlq
        refine rEq_nilL (by rw [up_ne hab]; exact up_same) up_same (by rw [okL_iff, ← List.map_drop]; intro d hd; obtain ⟨a, ha, rfl⟩ := List.mem_map.mp hd; rfl) ?_
        simp only [D.ok, asB]
        have hnL : L.length ≤ 9 := by omega
        split
        · rename_i hne
          have hdne : L.drop (j + 1) ≠ [] := by
            intro z
            rw [← List.map_drop, z] at hne
            simp at hne
          refine ⟨_, hlb2, fun c nc => ?_⟩
          rw [c2]
          have gc := (Grow.refl g3b.drw).new (o := .lst ((L.drop (j + 1)).map D.int)) nc
          refine hend _ c (L.drop (j + 1)) x16 (g3b.trans gc) up_same (g3b.drw.fresh nc) hdne (by simp; omega) (fun x hx => ?_) (gc.keep rp _ hrd hrb)
          have e : L.drop (j + 1) = L.tail.drop j := by rw [← List.drop_one, List.drop_drop, Nat.add_comm]
          rw [e] at hx
          exact List.mem_of_mem_drop hx
        · refine ⟨_, hrb, ?_⟩
          exact hend _ rp L.tail x16 g3b hrb hrd hLt' (by simp; omega) (fun x hx => hx) hrb
    · rintro ρ h3 ⟨⟨x8, x9, x10, x11, x12, x13, x14, x15, x16, rfl⟩, g4, bs, hbj, hfp, hlab, hwf⟩
      have hll : (rgD 0 (n + 1)).length = n + 1 := by simp [rgD]
      rw [hll] at hbj hlab
      rw [List.take_of_length_le (by omega)] at hlab
      simp [hfp]
      refine en_rt (post bs h3 ⟨⟨1 + r, n + 1, by omega, by omega, by omega, by omega, by rw [hlab, hL]⟩, fun b hb => by rw [hlab]; exact hwf b hb⟩ (gb.trans g4))
end Lk06
end
-- T3Wf
section
set_option maxRecDepth 100000
set_option maxHeartbeats 4000000
/-! T3Wf: programs as data: readable, shallow, sorted. -/
namespace T3
open PySem PySem.Spec PySem.W L2
theorem py_tup {l : List D} : (D.tup l).py = .tuple (D.pyL l) := by simp [D.py]
theorem pyL_map {α : Type} {f : α → D} : ∀ {l : List α}, D.pyL (l.map f) = l.map fun x => (f x).py
  | [] => by simp [D.pyL]
  | x :: l => by simp [D.pyL, pyL_map (l := l)]
theorem depthAll_le {n : Nat} : ∀ {l : List PyData}, (∀ x ∈ l, x.depth ≤ n) → PyData.depthAll l ≤ n
  | [], _ => by simp [PyData.depthAll]
  | x :: l, h => by
    have h1 := h x List.mem_cons_self
    have h2 := depthAll_le (l := l) fun y hy => h y (List.mem_cons_of_mem _ hy)
    simp only [PyData.depthAll]; omega
theorem Ex.Wf.dep {top : Int} {ars : List (Str × Int)} : ∀ {n : Nat} {e : Ex}, e.Wf top ars n → e.toD.py.depth ≤ n
  | 0, _, h => h.elim
  | n + 1, .int _, _ => by simp [Ex.toD, D.py, D.pyL, PyData.depth, PyData.depthAll]
  | n + 1, .var _, _ => by simp [Ex.toD, D.py, D.pyL, PyData.depth, PyData.depthAll]
  | n + 1, .cell a e, h => by
    have := Ex.Wf.dep h.2
    simp [Ex.toD, D.py, D.pyL, PyData.depth, PyData.depthAll]; omega
  | n + 1, .one a e, h => by
    have := Ex.Wf.dep h.2
    simp [Ex.toD, D.py, D.pyL, PyData.depth, PyData.depthAll]; omega
  | n + 1, .two a e f, h => by
    have := Ex.Wf.dep h.2.1
    have := Ex.Wf.dep h.2.2
    simp [Ex.toD, D.py, D.pyL, PyData.depth, PyData.depthAll]; omega
theorem Ex.Wf.ok {top : Int} {ars : List (Str × Int)} (ho : ∀ a ∈ ars, PyData.strOk a.1 = true) : ∀ {n : Nat} {e : Ex}, e.Wf top ars n → e.toD.ok = true
  | 0, _, h => h.elim
  | n + 1, .int _, _ => by simp [Ex.toD, D.ok, D.okL]; decide +kernel
  | n + 1, .var _, _ => by simp [Ex.toD, D.ok, D.okL]; decide +kernel
  | n + 1, .cell a e, h => by
    obtain ⟨⟨z, hz⟩, h2⟩ := h
    have h1 : PyData.strOk "cell" = true := by decide +kernel
    simp [Ex.toD, D.ok, D.okL, Ex.Wf.ok ho h2, ho _ hz, h1]
  | n + 1, .one a e, h => by
    have h1 : PyData.strOk a = true := by
      have := h.1
      simp only [singleOps, List.mem_cons, List.not_mem_nil, or_false] at this
      rcases this with rfl | rfl <;> decide +kernel
    simp [Ex.toD, D.ok, D.okL, Ex.Wf.ok ho h.2, h1]
  | n + 1, .two a e f, h => by
    have h1 : PyData.strOk a = true := by
      have := h.1
      simp only [pairOps, List.mem_cons, List.not_mem_nil, or_false] at this
      rcases this with rfl | rfl | rfl | rfl | rfl | rfl | rfl | rfl | rfl | rfl <;> decide +kernel
    simp [Ex.toD, D.ok, D.okL, Ex.Wf.ok ho h.2.1, Ex.Wf.ok ho h.2.2, h1]
section
variable {top : Int} {ars others : List (Str × Int)}
theorem Sm.Wf.dep {s : Sm} (h : s.Wf top ars others) : s.toD.py.depth ≤ 8 := by
  cases s with
  | set v e => have := h.2.dep; simp [Sm.toD, D.py, D.pyL, PyData.depth, PyData.depthAll]; omega
  | take v => simp [Sm.toD, D.py, D.pyL, PyData.depth, PyData.depthAll]
  | put e => have := Ex.Wf.dep h; simp [Sm.toD, D.py, D.pyL, PyData.depth, PyData.depthAll]; omega
  | store a e f => have := h.2.1.dep; have := h.2.2.dep; simp [Sm.toD, D.py, D.pyL, PyData.depth, PyData.depthAll]; omega
  | assert k e => have := h.2.dep; simp [Sm.toD, D.py, D.pyL, PyData.depth, PyData.depthAll]; omega
  | call v p es =>
    have : PyData.depthAll (D.pyL (es.map Ex.toD)) ≤ 5 := by
      rw [pyL_map]
      exact depthAll_le fun x hx => by
        obtain ⟨e, he, rfl⟩ := List.mem_map.mp hx
        exact (h.2.2 e he).dep
    simp [Sm.toD, D.py, D.pyL, PyData.depth, PyData.depthAll]; omega
theorem Sm.Wf.ok (ho : ∀ a ∈ ars, PyData.strOk a.1 = true) (hq : ∀ a ∈ others, PyData.strOk a.1 = true) {s : Sm} (h : s.Wf top ars others) : s.toD.ok = true := by
  have c1 : PyData.strOk "set" = true := by decide +kernel
  have c2 : PyData.strOk "take" = true := by decide +kernel
  have c3 : PyData.strOk "put" = true := by decide +kernel
  have c4 : PyData.strOk "store" = true := by decide +kernel
  have c5 : PyData.strOk "assert" = true := by decide +kernel
  have c6 : PyData.strOk "call" = true := by decide +kernel
  cases s with
  | set v e => simp [Sm.toD, D.ok, D.okL, h.2.ok ho, c1]
  | take v => simp [Sm.toD, D.ok, D.okL, c2]
  | put e => simp [Sm.toD, D.ok, D.okL, Ex.Wf.ok ho h, c3]
  | store a e f =>
    obtain ⟨⟨z, hz⟩, h1, h2⟩ := h
    simp [Sm.toD, D.ok, D.okL, h1.ok ho, h2.ok ho, ho _ hz, c4]
  | assert k e => simp [Sm.toD, D.ok, D.okL, h.2.ok ho, c5]
  | call v p es =>
    have : D.okL (es.map Ex.toD) = true := by
      rw [okL_iff]
      intro d hd
      obtain ⟨e, he, rfl⟩ := List.mem_map.mp hd
      exact (h.2.2 e he).ok ho
    have hp := hq _ h.2.1
    simp [Sm.toD, D.ok, D.okL, c6, this]
    exact hp
theorem Nd.Wf.dep {L : List Int} {n : Nd} (h : n.Wf top ars L) : n.toD.py.depth ≤ 8 := by
  cases n with
  | go l => simp [Nd.toD, D.py, D.pyL, PyData.depth, PyData.depthAll]
  | iff e l m => have := h.1.dep; simp [Nd.toD, D.py, D.pyL, PyData.depth, PyData.depthAll]; omega
  | ret e => have := Ex.Wf.dep h; simp [Nd.toD, D.py, D.pyL, PyData.depth, PyData.depthAll]; omega
theorem Nd.Wf.ok (ho : ∀ a ∈ ars, PyData.strOk a.1 = true) {L : List Int} {n : Nd} (h : n.Wf top ars L) : n.toD.ok = true := by
  have c1 : PyData.strOk "go" = true := by decide +kernel
  have c2 : PyData.strOk "if" = true := by decide +kernel
  have c3 : PyData.strOk "return" = true := by decide +kernel
  cases n with
  | go l => simp [Nd.toD, D.ok, D.okL, c1]
  | iff e l m => simp [Nd.toD, D.ok, D.okL, h.1.ok ho, c2]
  | ret e => simp [Nd.toD, D.ok, D.okL, Ex.Wf.ok ho h, c3]
end
/-- a procedure's blocks: at most eight rows each -/
structure BlWf (top : Int) (ars others : List (Str × Int)) (bs : List Bk) : Prop where
  lab : ∃ (gap : Int) (n : Nat), 1 ≤ gap ∧ gap ≤ 3 ∧ 1 ≤ n ∧ n ≤ 6 ∧ bs.map Bk.label = (List.range n).map (lbl gap)
  few : ∀ b ∈ bs, b.body.length ≤ 6
  sms : ∀ b ∈ bs, ∀ s ∈ b.body, s.Wf top ars others
  nds : ∀ b ∈ bs, b.nd.Wf top ars (bs.map Bk.label).tail
theorem BksWf.bl {top : Int} {ars others : List (Str × Int)} {bs : List Bk} (h : BksWf top ars others bs) : BlWf top ars others bs :=
  ⟨h.lab, fun b hb => Nat.le_trans (h.each b hb).2.1.1 (by decide), fun b hb => (h.each b hb).2.1.2, fun b hb => (h.each b hb).2.2⟩
theorem BlWf.pos {top : Int} {ars others : List (Str × Int)} {bs : List Bk} (h : BlWf top ars others bs) : 0 < bs.length ∧ bs.length ≤ 6 := by
  obtain ⟨_, n, _, _, h1, h6, e⟩ := h.lab
  have := congrArg List.length e
  simp at this; omega
theorem Bk.dep {top : Int} {ars others : List (Str × Int)} {bs : List Bk} (h : BlWf top ars others bs) {b : Bk} (hb : b ∈ bs) : b.toD.py.depth ≤ 10 := by
  have h1 := (h.nds b hb).dep
  have h2 : PyData.depthAll (D.pyL (b.body.map Sm.toD)) ≤ 8 := by
    rw [pyL_map]
    exact depthAll_le fun x hx => by
      obtain ⟨e, he, rfl⟩ := List.mem_map.mp hx
      exact (h.sms b hb e he).dep
  simp [Bk.toD, D.py, D.pyL, PyData.depth, PyData.depthAll]; omega
theorem Bk.ok {top : Int} {ars others : List (Str × Int)} (ho : ∀ a ∈ ars, PyData.strOk a.1 = true) (hq : ∀ a ∈ others, PyData.strOk a.1 = true) {bs : List Bk} (h : BlWf top ars others bs) {b : Bk} (hb : b ∈ bs) : b.toD.ok = true := by
  have h2 : D.okL (b.body.map Sm.toD) = true := by
    rw [okL_iff]
    intro d hd
    obtain ⟨e, he, rfl⟩ := List.mem_map.mp hd
    exact (h.sms b hb e he).ok ho hq
  simp [Bk.toD, D.ok, D.okL, (h.nds b hb).ok ho, h2]
theorem Pr.dep {top : Int} {ars others : List (Str × Int)} {p : Pr} (h : BlWf top ars others p.blocks) : p.toD.py.depth ≤ 12 := by
  have h2 : PyData.depthAll (D.pyL (p.blocks.map Bk.toD)) ≤ 10 := by
    rw [pyL_map]
    exact depthAll_le fun x hx => by
      obtain ⟨e, he, rfl⟩ := List.mem_map.mp hx
      exact Bk.dep h he
  simp [Pr.toD, D.py, D.pyL, PyData.depth, PyData.depthAll]; omega
theorem Pr.ok {top : Int} {ars others : List (Str × Int)} (ho : ∀ a ∈ ars, PyData.strOk a.1 = true) (hq : ∀ a ∈ others, PyData.strOk a.1 = true) {p : Pr} (hn : PyData.strOk p.name = true) (h : BlWf top ars others p.blocks) : p.toD.ok = true := by
  have h2 : D.okL (p.blocks.map Bk.toD) = true := by
    rw [okL_iff]
    intro d hd
    obtain ⟨e, he, rfl⟩ := List.mem_map.mp hd
    exact Bk.ok ho hq h he
  simp [Pr.toD, D.ok, D.okL, hn, h2]
/-! sorting -/
theorem sorted_uniq {α : Type} {r : α → α → Prop} : ∀ {l m : List α}, m.Perm l → m.Pairwise r → l.Pairwise r → (∀ x ∈ l, ∀ y ∈ l, r x y → r y x → x = y) → m = l
  | [], m, p, _, _, _ => p.eq_nil
  | x :: l, [], p, _, _, _ => absurd p.length_eq (by simp)
  | x :: l, y :: m, p, hm, hl, ha => by
    have hy : y ∈ x :: l := p.mem_iff.mp List.mem_cons_self
    have hx : x ∈ y :: m := p.mem_iff.mpr List.mem_cons_self
    have e : y = x := by
      rcases List.mem_cons.mp hx with e | hx'
      · exact e.symm
      · rcases List.mem_cons.mp hy with e | hy'
        · exact e
        · exact ha y hy x List.mem_cons_self ((List.pairwise_cons.mp hm).1 x hx') ((List.pairwise_cons.mp hl).1 y hy')
    subst e
    rw [sorted_uniq (p.cons_inv) (List.pairwise_cons.mp hm).2 (List.pairwise_cons.mp hl).2 fun a ha' b hb => ha a (List.mem_cons_of_mem _ ha') b (List.mem_cons_of_mem _ hb)]
mutual
theorem alike_py : ∀ {d : D}, d.ok = true → alike d.py d.py = true
  | .non, _ => rfl
  | .bl _, _ => rfl
  | .int _, _ => rfl
  | .str _, _ => rfl
  | .ref _, h => by simp [D.ok] at h
  | .tup l, h => by simp only [D.py, alike]; exact alikeL_py (by simpa [D.ok] using h)
theorem alikeL_py : ∀ {l : List D}, D.okL l = true → alikeAll (D.pyL l) (D.pyL l) = true
  | [], _ => by simp [D.pyL, alikeAll]
  | d :: l, h => by
    simp only [D.okL, Bool.and_eq_true] at h
    simp [D.pyL, alikeAll, alike_py h.1, alikeL_py h.2]
end
theorem tOk_self : ∀ {l : List D}, D.okL l = true → (∀ d ∈ l, d.py ≠ .none) → tOk (D.pyL l) (D.pyL l)
  | [], _, _ => by simp [D.pyL, tOk]
  | d :: l, h, hn => by
    simp only [D.okL, Bool.and_eq_true] at h
    simp only [D.pyL, tOk]
    exact ⟨alike_py h.1, hn d List.mem_cons_self, fun _ => tOk_self h.2 fun e he => hn e (List.mem_cons_of_mem _ he)⟩
theorem eqv_str {x y : Str} : PyData.eqv (.str x) (.str y) = decide (x = y) := by simp [PyData.eqv, Bool.beq_eq_decide_eq]
theorem ltD_pr {p q : Pr} (h : p.name ≠ q.name) : ltD p.toD q.toD = decide (p.name.cps.toList < q.name.cps.toList) := by
  unfold ltD
  simp only [Pr.toD, D.py, D.pyL, dataLt_tuple]
  rw [dataLt_all_no rfl (by rw [eqv_str]; exact decide_eq_false h), dataLt_str]
abbrev ent (x : Str) (n : Int) : Str × Int := (x, n)
def ArsOk (l : List (Str × Int)) : Prop := l = [] ∨ (∃ n : Int, 1 ≤ n ∧ n ≤ 5 ∧ l = [ent "mem" n]) ∨ (∃ n : Int, 1 ≤ n ∧ n ≤ 3 ∧ l = [ent "a" 2, ent "mem" n]) ∨ ∃ n : Int, 1 ≤ n ∧ n ≤ 8 ∧ l = [ent "a" 8, ent "b_2" 3, ent "mem" n]
def OthOk (l : List (Str × Int)) : Prop := l = [] ∨ l = [ent "aid" 1] ∨ l = [ent "aid" 2, ent "zig" 0] ∨ l = [ent "aid" 3, ent "zig" 1]
def withMain : List (Str × Int) → List (Str × Int)
  | [] => [ent "main" 0]
  | a :: r => a :: ent "main" 0 :: r
structure PgWf (w : Int) (others : List (Str × Int)) (pg : Pg) : Prop where
  wd : pg.w = w
  ars : ArsOk pg.arrays
  oth : OthOk others
  prs : pg.procs.map (fun p => ent p.name p.params) = withMain others
  bls : ∀ p ∈ pg.procs, BlWf (p2 w) pg.arrays others p.blocks
theorem ArsOk.ok {l : List (Str × Int)} (h : ArsOk l) : ∀ a ∈ l, PyData.strOk a.1 = true := by
  have c1 : PyData.strOk "mem" = true := by decide +kernel
  have c2 : PyData.strOk "a" = true := by decide +kernel
  have c3 : PyData.strOk "b_2" = true := by decide +kernel
  rcases h with rfl | ⟨n, _, _, rfl⟩ | ⟨n, _, _, rfl⟩ | ⟨n, _, _, rfl⟩ <;> intro a ha <;> simp at ha
  · rw [ha]; exact c1
  · rcases ha with rfl | rfl
    · exact c2
    · exact c1
  · rcases ha with rfl | rfl | rfl
    · exact c2
    · exact c3
    · exact c1
theorem ArsOk.sz {l : List (Str × Int)} (h : ArsOk l) : l.length ≤ 3 ∧ ∀ a ∈ l, 1 ≤ a.2 ∧ a.2 ≤ 8 := by
  rcases h with rfl | ⟨n, h1, h2, rfl⟩ | ⟨n, h1, h2, rfl⟩ | ⟨n, h1, h2, rfl⟩ <;> refine ⟨by simp, fun a ha => ?_⟩ <;> simp at ha
  · rw [ha]; exact ⟨h1, by show n ≤ 8; omega⟩
  · rcases ha with rfl | rfl
    · exact ⟨by decide, by decide⟩
    · exact ⟨h1, by show n ≤ 8; omega⟩
  · rcases ha with rfl | rfl | rfl
    · exact ⟨by decide, by decide⟩
    · exact ⟨by decide, by decide⟩
    · exact ⟨h1, by show n ≤ 8; omega⟩
theorem OthOk.ok {l : List (Str × Int)} (h : OthOk l) : l.length ≤ 2 ∧ ∀ a ∈ l, (0 ≤ a.2 ∧ a.2 ≤ 3) ∧ PyData.strOk a.1 = true := by
  have c1 : PyData.strOk "aid" = true := by decide +kernel
  have c2 : PyData.strOk "zig" = true := by decide +kernel
  rcases h with rfl | rfl | rfl | rfl <;> refine ⟨by simp, fun a ha => ?_⟩ <;> simp at ha
  · rw [ha]; exact ⟨⟨by decide, by decide⟩, c1⟩
  · rcases ha with rfl | rfl
    · exact ⟨⟨by decide, by decide⟩, c1⟩
    · exact ⟨⟨by decide, by decide⟩, c2⟩
  · rcases ha with rfl | rfl
    · exact ⟨⟨by decide, by decide⟩, c1⟩
    · exact ⟨⟨by decide, by decide⟩, c2⟩
def sp_program : Sp3 := fun l h k => ∃ (dr : Addr) (w blocks rows : Int), l = [.ref dr, .int w, .int blocks, .int rows] ∧ 1 ≤ w ∧ w ≤ 16 ∧ 1 ≤ blocks ∧ blocks ≤ 6 ∧ 1 ≤ rows ∧ rows ≤ 4 ∧ Drw h dr ∧
  ∀ (pg : Pg) (others : List (Str × Int)) h', PgWf w others pg → Grow dr h h' → k pg.toD h'
theorem lt_ne {a b : Str} (h : a.cps.toList < b.cps.toList) : a ≠ b := fun e => by subst e; exact absurd h (List.lt_irrefl _)
theorem tri_by {t : List Pr} (hs : t.Pairwise fun p q => p.name.cps.toList < q.name.cps.toList) : ∀ p ∈ t, ∀ q ∈ t, p = q ∨ p.name.cps.toList < q.name.cps.toList ∨ q.name.cps.toList < p.name.cps.toList := by
  induction t with
  | nil => intro p hp; cases hp
  | cons a t ih =>
    obtain ⟨ha, ht⟩ := List.pairwise_cons.mp hs
    intro p hp q hq
    rcases List.mem_cons.mp hp with e | hp
    · rcases List.mem_cons.mp hq with e' | hq
      · exact .inl (e.trans e'.symm)
      · rw [e]; exact .inr (.inl (ha q hq))
    · rcases List.mem_cons.mp hq with e' | hq
      · rw [e']; exact .inr (.inr (ha p hp))
      · exact ih ht p hp q hq
theorem srt_by {l t : List Pr} (hp : t.Perm l) (hs : t.Pairwise fun p q => p.name.cps.toList < q.name.cps.toList) {ys : List D} (h1 : ys.Perm (l.map Pr.toD)) (h2 : ys.Pairwise fun x y => ltD y x = false) : ys = t.map Pr.toD := by
  have tri := tri_by hs
  refine sorted_uniq (h1.trans (hp.map _).symm) h2 (List.pairwise_map.mpr (hs.imp fun {p q} h => ?_)) ?_
  · rw [ltD_pr (lt_ne h).symm]
    exact decide_eq_false (List.lt_asymm h)
  · intro x hx y hy e1 e2
    obtain ⟨p, hp, rfl⟩ := List.mem_map.mp hx
    obtain ⟨q, hq, rfl⟩ := List.mem_map.mp hy
    rcases tri p hp q hq with rfl | h | h
    · rfl
    · rw [ltD_pr (lt_ne h), decide_eq_true h] at e2; cases e2
    · rw [ltD_pr (lt_ne h), decide_eq_true h] at e1; cases e1
theorem srt_ex {others : List (Str × Int)} (ho : OthOk others) {l : List Pr} (hl : l.map (fun p => ent p.name p.params) = ent "main" 0 :: others) :
    ∃ t : List Pr, t.Perm l ∧ (t.Pairwise fun p q => p.name.cps.toList < q.name.cps.toList) ∧ t.map (fun p => ent p.name p.params) = withMain others := by
  have c1 : ("aid" : Str).cps.toList < ("main" : Str).cps.toList := by decide +kernel
  have c2 : ("aid" : Str).cps.toList < ("zig" : Str).cps.toList := by decide +kernel
  have c3 : ("main" : Str).cps.toList < ("zig" : Str).cps.toList := by decide +kernel
  have hlen := congrArg List.length hl
  rcases ho with rfl | rfl | rfl | rfl <;> simp only [List.length_map, List.length_cons, List.length_nil] at hlen
  · exact ⟨l, .refl _, by
      obtain ⟨m, rfl⟩ : ∃ m, l = [m] := by
        match l, hlen with
        | [m], _ => exact ⟨m, rfl⟩
      simp, hl⟩
  · obtain ⟨m, a, rfl⟩ : ∃ m a, l = [m, a] := by
      match l, hlen with
      | [m, a], _ => exact ⟨m, a, rfl⟩
    simp only [List.map_cons, List.map_nil, List.cons.injEq, and_true] at hl
    obtain ⟨e1, e2⟩ := hl
    refine ⟨[a, m], List.Perm.swap _ _ _, ?_, by simp only [List.map_cons, List.map_nil, e1, e2, withMain]⟩
    simp only [List.pairwise_cons, List.mem_cons, List.not_mem_nil, or_false, forall_eq, false_implies, implies_true, and_true, List.Pairwise.nil, (Prod.mk.inj e1).1, (Prod.mk.inj e2).1]
    exact c1
  all_goals
    obtain ⟨m, a, z, rfl⟩ : ∃ m a z, l = [m, a, z] := by
      match l, hlen with
      | [m, a, z], _ => exact ⟨m, a, z, rfl⟩
    simp only [List.map_cons, List.map_nil, List.cons.injEq, and_true] at hl
    obtain ⟨e1, e2, e3⟩ := hl
    refine ⟨[a, m, z], List.Perm.swap _ _ _, ?_, by simp only [List.map_cons, List.map_nil, e1, e2, e3, withMain]⟩
    simp only [List.pairwise_cons, List.mem_cons, List.not_mem_nil, or_false, forall_eq_or_imp, forall_eq, false_implies, implies_true, and_true, List.Pairwise.nil, (Prod.mk.inj e1).1, (Prod.mk.inj e2).1, (Prod.mk.inj e3).1]
    exact ⟨⟨c1, c2⟩, c3⟩
/-- sorted, of procedures in the order main, told -/
theorem sort_prs {top : Int} {ars others : List (Str × Int)} (hr : ArsOk ars) (ho : OthOk others) {l : List Pr} (hl : l.map (fun p => ent p.name p.params) = ent "main" 0 :: others) (hb : ∀ p ∈ l, BlWf top ars others p.blocks) :
    (∀ d ∈ l.map Pr.toD, d.ok = true ∧ d.py.depth ≤ 64) ∧ Srtb ((l.map Pr.toD).map D.py) ∧
    ∀ ys : List D, ys.Perm (l.map Pr.toD) → ys.Pairwise (fun x y => ltD y x = false) → ∃ m : List Pr, ys = m.map Pr.toD ∧ m.map (fun p => ent p.name p.params) = withMain others ∧ ∀ p ∈ m, BlWf top ars others p.blocks := by
  have cm : PyData.strOk "main" = true := by decide +kernel
  have hnames : ∀ p ∈ l, PyData.strOk p.name = true := by
    intro p hp
    have : ent p.name p.params ∈ ent "main" 0 :: others := by rw [← hl]; exact List.mem_map_of_mem (f := fun p : Pr => ent p.name p.params) hp
    rcases List.mem_cons.mp this with e | e
    · rw [(Prod.mk.inj e).1]; exact cm
    · exact (ho.ok.2 _ e).2
  have hok : ∀ p ∈ l, p.toD.ok = true := fun p hp => Pr.ok hr.ok (fun a ha => (ho.ok.2 a ha).2) (hnames p hp) (hb p hp)
  obtain ⟨t, ht1, ht2, ht3⟩ := srt_ex ho hl
  refine ⟨fun d hd => ?_, ?_, ?_⟩
  · obtain ⟨p, hp, rfl⟩ := List.mem_map.mp hd
    exact ⟨hok p hp, by have := Pr.dep (hb p hp); omega⟩
  · refine .inl ⟨.type "str", by decide, fun d hd => ?_, fun xs ys hx hy => ?_⟩
    · rw [List.map_map] at hd
      obtain ⟨p, hp, rfl⟩ := List.mem_map.mp hd
      exact ⟨.str p.name, [.int p.params, (D.tup (p.blocks.map Bk.toD)).py], by simp only [Function.comp, Pr.toD, D.py, D.pyL], rfl⟩
    · rw [List.map_map] at hx hy
      obtain ⟨p, hp, ep⟩ := List.mem_map.mp hx
      obtain ⟨q, hq, eq⟩ := List.mem_map.mp hy
      simp only [Function.comp, Pr.toD, py_tup] at ep eq
      injection ep with ep; injection eq with eq
      have dist : p = q ∨ p.name ≠ q.name := by
        rcases tri_by ht2 p (ht1.mem_iff.mpr hp) q (ht1.mem_iff.mpr hq) with h | h | h
        · exact .inl h
        · exact .inr (lt_ne h)
        · exact .inr (lt_ne h).symm
      rcases dist with rfl | hne
      · rw [← ep, ← eq]
        refine tOk_self (by simpa [Pr.toD, D.ok] using hok p hp) fun d hd => ?_
        simp at hd
        rcases hd with rfl | rfl | rfl <;> simp [D.py]
      · rw [← ep, ← eq]
        simp only [D.pyL, D.py, tOk]
        refine ⟨rfl, by simp, fun e => ?_⟩
        rw [eqv_str] at e
        exact absurd (of_decide_eq_true e) hne
  · intro ys h1 h2
    exact ⟨t, srt_by ht1 ht2 h1 h2, ht3, fun p hp => hb p (ht1.mem_iff.mp hp)⟩
end T3
end
-- GS3
section
set_option maxRecDepth 100000
set_option maxHeartbeats 4000000
namespace Lk06
open PySem PySem.Spec PyProof.Rows L2 T3
theorem ars_pick {n5 n3 n8 : Int} (h5 : 0 ≤ n5 ∧ n5 < 5) (h3 : 0 ≤ n3 ∧ n3 < 3) (h8 : 0 ≤ n8 ∧ n8 < 8) {x : D} (hx : x ∈ [D.tup [], D.tup [], D.tup [D.tup [D.str "mem", .int (1 + n5)]], D.tup [D.tup [D.str "a", D.int 2], D.tup [D.str "mem", .int (1 + n3)]], D.tup [D.tup [D.str "a", D.int 8], D.tup [D.str "b_2", D.int 3], D.tup [D.str "mem", .int (1 + n8)]]]) :
    ∃ ars, ArsOk ars ∧ x = .tup (ars.map arD) := by
  simp only [List.mem_cons, List.not_mem_nil, or_false] at hx
  rcases hx with rfl | rfl | rfl | rfl | rfl
  · exact ⟨[], .inl rfl, rfl⟩
  · exact ⟨[], .inl rfl, rfl⟩
  · exact ⟨[ent "mem" (1 + n5)], .inr (.inl ⟨_, by omega, by omega, rfl⟩), rfl⟩
  · exact ⟨[ent "a" 2, ent "mem" (1 + n3)], .inr (.inr (.inl ⟨_, by omega, by omega, rfl⟩)), rfl⟩
  · exact ⟨[ent "a" 8, ent "b_2" 3, ent "mem" (1 + n8)], .inr (.inr (.inr ⟨_, by omega, by omega, rfl⟩)), rfl⟩
theorem ok_program : ∀ l h k, sp_program l h k → W_l_program sp_take sp_blocks sp_variable (en k) (ev0 N_l_program l) h := by
  rintro l h k ⟨dr, w, blocks, rows, rfl, hw1, hw2, hb1, hb6, hr1, hr4, hd, post⟩
  simp [W_l_program, ev0]
  refine ⟨dr, 5, rfl, hd, by decide, .inl (by decide), fun n5 h1 n50 n51 g1 => ?_⟩
  simp
  refine ⟨dr, 3, rfl, g1.drw, by decide, .inl (by decide), fun n3 h2 n30 n31 g2 => ?_⟩
  simp
  refine ⟨dr, 8, rfl, g2.drw, by decide, .inl (by decide), fun n8 h3 n80 n81 g3 => ?_⟩
  simp
  intro lp nlp
  refine ⟨dr, 5, rfl, g3.drw.new nlp, by decide, .inl (by decide), fun r4 h4 r40 r41 g4 => ?_⟩
  obtain ⟨g4', e4⟩ := g4.born g3.drw nlp
  obtain ⟨x, hx, ex⟩ := atI_in (l := [D.tup [], D.tup [], D.tup [D.tup [D.str "mem", .int (1 + n5)]], D.tup [D.tup [D.str "a", D.int 2], D.tup [D.str "mem", .int (1 + n3)]], D.tup [D.tup [D.str "a", D.int 8], D.tup [D.str "b_2", D.int 3], D.tup [D.str "mem", .int (1 + n8)]]]) r40 r41
  obtain ⟨ars, hars, rfl⟩ := ars_pick ⟨n50, n51⟩ ⟨n30, n31⟩ ⟨n80, n81⟩ hx
  have gA := g1.trans (g2.trans (g3.trans g4'))
  have hdA := gA.drw
  simp only [s_ix_l]
  refine ⟨_, _, e4, ex, ?_⟩
  clear e4 ex hx g4
  simp [wDisp, wPairs]
  intro pp npp
  refine ⟨_, rfl, by simp, ?_⟩
  have em : mergeD [] [((.inr "draw" : Key), D.ref dr), ((.inr "width" : Key), D.int w), ((.inr "arrays" : Key), D.tup (ars.map arD))] = [((.inr "draw" : Key), D.ref dr), ((.inr "width" : Key), D.int w), ((.inr "arrays" : Key), D.tup (ars.map arD))] := by
    simp [mergeD, putD]
  rw [em]
  have hp0 : PAt (up h4 pp (.dK [((.inr "draw" : Key), D.ref dr), ((.inr "width" : Key), D.int w), ((.inr "arrays" : Key), D.tup (ars.map arD))])) pp dr w ars := ⟨up_same, hw1, hw2, hars.sz.1, hars.sz.2, hars.ok⟩
  have gB := (Grow.refl hdA).new (o := .dK [((.inr "draw" : Key), D.ref dr), ((.inr "width" : Key), D.int w), ((.inr "arrays" : Key), D.tup (ars.map arD))]) npp
  have gA2 := gA.trans gB
  have hdB := gB.drw
  clear em gB npp hdA gA
  revert hp0 gA2 hdB
  generalize up h4 pp (.dK [((.inr "draw" : Key), D.ref dr), ((.inr "width" : Key), D.int w), ((.inr "arrays" : Key), D.tup (ars.map arD))]) = hB
  intro hp0 gA2 hdB a1 n1 a2 n2 a3 n3 a4 n4 a5 n5 a6 n6
  have d1 := hdB.new (o := .lst []) n1
  have d2 := d1.new (o := .lst []) n2
  have d3 := d2.new (o := .lst [D.tup [D.str "aid", D.int 1]]) n3
  have d4 := d3.new (o := .lst [D.tup [D.str "aid", D.int 2], D.tup [D.str "zig", D.int 0]]) n4
  have d5 := d4.new (o := .lst [D.tup [D.str "aid", D.int 3], D.tup [D.str "zig", D.int 1]]) n5
  have d6 := d5.new (o := .lst [D.ref a1, D.ref a2, D.ref a3, D.ref a4, D.ref a5]) n6
  refine ⟨dr, 5, rfl, d6, by decide, .inl (by decide), fun r5 h5 r50 r51 g5 => ?_⟩
  obtain ⟨k5, e6⟩ := g5.born d5 n6
  obtain ⟨k4, e5⟩ := k5.born d4 n5
  obtain ⟨k3, e4⟩ := k4.born d3 n4
  obtain ⟨k2, e3⟩ := k3.born d2 n3
  obtain ⟨k1, e2⟩ := k2.born d1 n2
  obtain ⟨k0, e1⟩ := k1.born hdB n1
  obtain ⟨x, hx, ex⟩ := atI_in (l := [D.ref a1, D.ref a2, D.ref a3, D.ref a4, D.ref a5]) r50 r51
  simp only [s_ix_l]
  refine ⟨_, _, e6, ex, ?_⟩
  obtain ⟨oa, others, rfl, hoth, eoa⟩ : ∃ oa others, x = D.ref oa ∧ OthOk others ∧ h5 oa = some (.lst (others.map othD)) := by
    simp only [List.mem_cons, List.not_mem_nil, or_false] at hx
    rcases hx with rfl | rfl | rfl | rfl | rfl
    · exact ⟨_, [], rfl, .inl rfl, e1⟩
    · exact ⟨_, [], rfl, .inl rfl, e2⟩
    · exact ⟨_, [ent "aid" 1], rfl, .inr (.inl rfl), e3⟩
    · exact ⟨_, [ent "aid" 2, ent "zig" 0], rfl, .inr (.inr (.inl rfl)), e4⟩
    · exact ⟨_, [ent "aid" 3, ent "zig" 1], rfl, .inr (.inr (.inr rfl)), e5⟩
  have hd5 := k0.drw
  have hp5 := hp0.grow k0 hdB
  have g05 := gA2.trans k0
  clear ex hx e1 e2 e3 e4 e5 e6 k1 k2 k3 k4 k5 g5 d1 d2 d3 d4 d5 d6 n6 n5 n4 n3 n2 n1 a1 a2 a3 a4 a5 a6 k0 hp0 gA2 hdB
  refine ⟨pp, dr, oa, w, ars, others, blocks, rows, rfl, hb1, hb6, hr1, hr4, hd5, hp5, eoa, hoth.ok.1, hoth.ok.2, fun bs h6 wbs g6 => ?_⟩
  have hd6 := g6.drw
  have hp6 := hp5.grow g6 hd5
  refine ⟨dr, 3, rfl, hd6, by decide, .inl (by decide), fun r7 h7 r70 r71 g7 => ?_⟩
  have hoa : oa ≠ dr := by
    rintro rfl
    obtain ⟨c, ns, i, q, s, e, _⟩ := hd5
    rw [eoa] at e
    have := congrArg List.length (O.lst.inj (Option.some.inj e))
    simp at this
    have := hoth.ok.1
    omega
  have eo6 := g6.keep oa _ hoa eoa
  have htail : ∀ (bs' : List Bk) (x8 : Option D) (h8 : H3), BlWf (p2 w) ars others bs' → Grow dr h6 h8 → ∀ p, h8 p = none →
      (∃ l, up h8 p (O.lst [D.tup [D.str "main", D.int 0, D.tup (bs'.map Bk.toD)]]) oa = some (O.lst l)) ∧
      ∃ l, up h8 p (O.lst [D.tup [D.str "main", D.int 0, D.tup (bs'.map Bk.toD)]]) oa = some (O.lst l) ∧
        forW (fun h => h oa = some (O.lst l)) (gT [gN 10, gN 11])
          (wDrop (wAppend (wVar 9) (wCons (wL rTup (wCons (wVar 10) (wCons (wVar 11) (wCons (wL sp_blocks (wCons (wVar 5) (wCons (wVar 6) (wCons (wL rMax2 (wCons (wC (D.int 1)) (wCons (w2 T3.rSub (wVar 2) (wC (D.int 2))) wNil)))
            (wCons (wL rMax2 (wCons (wC (D.int 1)) (wCons (w2 T3.rSub (wVar 3) (wC (D.int 1))) wNil))) wNil))))) wNil)))) wNil)))
          { nx := wRet (wL rTup (wCons (wVar 1) (wCons (wVar 4) (wCons (wL rTupleOf (wCons (wL T3.rSorted (wCons (wVar 9) wNil)) wNil)) wNil)))) (en k), rt := (en k).rt, bk := (en k).bk, ct := (en k).ct }
          l [some (D.ref dr), some (D.int w), some (D.int blocks), some (D.int rows), some (D.tup (List.map arD ars)), some (D.ref pp), some (D.ref oa), some (D.tup (bs'.map Bk.toD)), x8, some (D.ref p), none, none]
          (up h8 p (O.lst [D.tup [D.str "main", D.int 0, D.tup (bs'.map Bk.toD)]])) := by
    intro bs' x8 h8 wbs' g8 p np
    have hd8 := g8.drw
    have gp : Grow dr h8 (up h8 p (O.lst [D.tup [D.str "main", D.int 0, D.tup (bs'.map Bk.toD)]])) := (Grow.refl hd8).new np
    have eo8 := g8.keep oa _ hoa eo6
    have eop := gp.keep oa _ hoa eo8
    have hp8 := hp6.grow g8 hd6
    refine ⟨⟨_, eop⟩, _, eop, ?_⟩
    refine for_inv (fun j ρ h => (∃ x10 x11 : Option D, ρ = [some (D.ref dr), some (D.int w), some (D.int blocks), some (D.int rows), some (D.tup (List.map arD ars)), some (D.ref pp), some (D.ref oa), some (D.tup (bs'.map Bk.toD)), x8, some (D.ref p), x10, x11]) ∧
      Grow dr h8 h ∧ ∃ ps : List Pr, h p = some (.lst (ps.map Pr.toD)) ∧ ps.map (fun p => ent p.name p.params) = ent "main" 0 :: others.take j ∧ ∀ p ∈ ps, BlWf (p2 w) ars others p.blocks) (fun j ρ h _ i => i.2.1.keep oa _ hoa eo8) ?_ ?_ ?_
    · refine ⟨⟨_, _, rfl⟩, gp, [⟨"main", 0, bs'⟩], up_same, by simp, fun q hq => ?_⟩
      rw [List.mem_singleton.mp hq]; exact wbs'
    · rintro j x ρ h9 hx ⟨⟨x10, x11, rfl⟩, g9, ps, e9, hn, hw⟩ N hN
      have hj : j < others.length := by
        rcases Nat.lt_or_ge j others.length with z | z
        · exact z
        · rw [List.getElem?_eq_none (by simpa using z)] at hx; cases hx
      have hxj : x = othD others[j] := by simpa [hj] using hx.symm
      subst hxj
      have hd9 := g9.drw
      have hp9 := hp8.grow g9 hd8
      have eo9 := g9.keep oa _ hoa eo8
      simp [othD, wAppend]
      refine ⟨⟨_, e9⟩, pp, dr, oa, w, ars, others, _, _, rfl, ?_, ?_, ?_, ?_, hd9, hp9, eo9, hoth.ok.1, hoth.ok.2, fun bs2 h10 wb2 g10 => ?_⟩
      · split <;> omega
      · split <;> omega
      · split <;> omega
      · split <;> omega
      · have gg := g9.trans g10
        have e10 := g10.keep p _ (hd8.fresh np) e9
        have hl : ps.length ≤ 3 := by
          have := congrArg List.length hn
          simp at this
          have := hoth.ok.1
          omega
        refine ⟨p, _, _, rfl, rfl, e10, by simp; omega, hN _ _ ⟨⟨_, _, rfl⟩, gg.write hd8 np, ps ++ [⟨others[j].1, others[j].2, bs2⟩], by simp [Pr.toD], ?_, fun q hq => ?_⟩⟩
        · simp [hn]
          exact (List.take_append_getElem hj)
        · rcases List.mem_append.mp hq with hq | hq
          · exact hw q hq
          · rw [List.mem_singleton.mp hq]; exact wb2.bl
    · rintro ρ h9 ⟨⟨x10, x11, rfl⟩, g9, ps, e9, hn, hw⟩
      have hn' : ps.map (fun p => ent p.name p.params) = ent "main" 0 :: others := by
        rw [hn, List.take_of_length_le (by simp)]
      obtain ⟨s1, s2, s3⟩ := sort_prs hars hoth hn' hw
      simp
      refine ⟨p, _, rfl, e9, s1, s2, fun ys q hperm hpw nq => ?_⟩
      obtain ⟨m, rfl, hm1, hm2⟩ := s3 ys hperm hpw
      simp
      have gfin := (g05.trans (g6.trans (g8.trans g9))).new (o := .lst (m.map Pr.toD)) nq
      exact en_rt (post ⟨w, ars, m⟩ others _ ⟨rfl, hars, hoth, hm1, hm2⟩ gfin)
  simp
  have hbs := wbs.bl
  split
  · obtain ⟨b0, br, rfl⟩ : ∃ b0 br, bs = b0 :: br := by
      cases bs with
      | nil => have := hbs.pos; simp at this
      | cons b0 br => exact ⟨_, _, rfl⟩
    have c1 : T3.cutD ((b0 :: br).map Bk.toD) (some 1) none = br.map Bk.toD := by
      rw [cut_from (i := 1) (n := 1) rfl]; rfl
    have hbr : br.length ≤ 6 := by have := hbs.pos; simp at this; omega
    rw [c1]
    simp [Bk.toD]
    refine ⟨dr, rfl, g7.drw, fun v h8 v0 v9 g8 => ?_⟩
    have hfew : b0.body.length ≤ 4 := (wbs.each b0 List.mem_cons_self).2.1.1
    have hlab := hbs.lab
    simp only [List.map_cons] at hlab
    refine ⟨by omega, by omega, fun p np => ?_⟩
    refine htail (⟨b0.label, .take 0 :: .take v :: b0.body, b0.nd⟩ :: br) _ h8 ⟨?_, ?_, ?_, ?_⟩ (g7.trans g8) p np
    · simp only [List.map_cons]; exact hlab
    · intro b hb
      rcases List.mem_cons.mp hb with rfl | hb
      · simp; omega
      · exact hbs.few b (List.mem_cons_of_mem _ hb)
    · intro b hb
      rcases List.mem_cons.mp hb with rfl | hb
      · intro s hs
        rcases List.mem_cons.mp hs with rfl | hs
        · exact ⟨by decide, by decide⟩
        · rcases List.mem_cons.mp hs with rfl | hs
          · exact ⟨v0, v9⟩
          · exact hbs.sms b0 List.mem_cons_self s hs
      · exact hbs.sms b (List.mem_cons_of_mem _ hb)
    · intro b hb
      rcases List.mem_cons.mp hb with rfl | hb
      · exact hbs.nds b0 List.mem_cons_self
      · exact hbs.nds b (List.mem_cons_of_mem _ hb)
  · intro p np
    exact htail bs none h7 hbs g7 p np
end Lk06
end
-- GS4
section
set_option maxRecDepth 100000
set_option maxHeartbeats 4000000
namespace T3
open PySem PySem.Spec L2
theorem fors_scr {G : Sc} {i : Nat} {g : WG} {body : WS} {E : En} {ρ : Ev} {h : H3} : wFor (wScript G i) g body E ρ h ↔ ρ[i]? = some (some (.ref G.a)) ∧ forW (fun _ => True) g body E (G.ns.map .int) ρ h := Iff.rfl
theorem lcs_scr {G : Sc} {j i : Nat} {tt : WT} {e : WE} {ρ : Ev} {h : H3} {k : K1} : wLc (wScript G j) i tt e ρ h k ↔ ρ[j]? = some (some (.ref G.a)) ∧ ∀ p, h p = none → lcW (fun _ => True) i tt e p ρ k (G.ns.map .int) (up h p (.lst [])) := Iff.rfl
def sp_draw (G : Sc) : Sp3 := fun l h k => l = [.ref G.a] ∧ ∀ dr h', Drw h' dr → h dr = none → (∀ a o, h a = some o → h' a = some o) → k (.ref dr) h'
end T3
namespace Lk06
open PySem PySem.Spec PyProof.Rows L2 T3
theorem ok_draw (G : Sc) (hG : G.ns.length ≤ 1000) : ∀ l h k, sp_draw G l h k → W_l_draw G (en k) (ev0 N_l_draw l) h := by
  rintro l h0 k ⟨rfl, post⟩
  simp [W_l_draw, ev0, fors_scr]
  refine for_inv (fun j ρ h' => ∃ (s : Int) (x : Option D), ρ = [some (.ref G.a), some (.int s), x] ∧ 0 ≤ s ∧ h' = h0) (fun _ _ _ _ _ => trivial) ⟨7, none, rfl, by decide, rfl⟩ ?_ ?_
  · rintro j x ρ _ hx ⟨s, y, rfl, hs, rfl⟩ N hN
    obtain ⟨n, hn, rfl⟩ : ∃ n : Int, n ∈ G.ns ∧ x = .int n := by
      have := List.mem_of_getElem? hx
      obtain ⟨n, hn, e⟩ := List.mem_map.mp this
      exact ⟨n, hn, e.symm⟩
    simp
    exact hN _ _ ⟨_, _, rfl, Int.emod_nonneg _ (by decide), rfl⟩
  · rintro ρ h ⟨s, y, rfl, hs, e0⟩
    subst e0
    simp [lcs_scr]
    intro c nc
    refine lc_map (fun d => match d with | .int i => .int (if i < 0 then -i else i) | _ => .non) (by simp; omega) (fun _ _ _ => trivial) ?_ ?_
    · intro x hx o hh hs K hK
      obtain ⟨n, hn, rfl⟩ := List.mem_map.mp hx
      simp
      exact hK _ (Sub.refl _)
    · intro dr ndr
      have hcd : c ≠ dr := by rintro rfl; rw [up_same] at ndr; cases ndr
      have e1 : (G.ns.map D.int).map (fun d => match d with | .int i => .int (if i < 0 then -i else i) | _ => .non) = (G.ns.map fun i => if i < 0 then -i else i).map D.int := by
        simp [Function.comp_def]
      rw [e1] at ndr ⊢
      have hnd : h dr = none := by rw [up_ne hcd.symm] at ndr; exact ndr
      refine en_rt (post dr _ (Drw.mk' (q' := 0) hcd up_same (by decide) (by decide) hs fun n hn => ?_) hnd fun a o ha => ?_)
      · obtain ⟨m, _, rfl⟩ := List.mem_map.mp hn
        split <;> omega
      · have h1 : a ≠ c := by rintro rfl; rw [nc] at ha; cases ha
        have h2 : a ≠ dr := by rintro rfl; rw [hnd] at ha; cases ha
        rw [up_ne h2, up_ne h1]; exact ha
end Lk06
end
-- T3End
section
set_option maxRecDepth 100000
set_option maxHeartbeats 4000000
/-! T3End: the law's own call, at the place where the claim makes it (so that what is under repr is known). -/
namespace T3
open PySem PySem.Spec PySem.W PyProof.Rows L2
section
variable {P : Program} {w : World} {K : Frag} {mg mb : Str → Option Value} {base : Heap} {k : Nat} {f : Addr} {fd : FuncData} {x qual : Str} {st : Stmt} {N ps : List Str} {G : Sc}
/-- the call of a def at A, from its body's reading at A -/
theorem call_at {A : Around} {outer : List Env} {s : Shared} {H : Hp} {args : Args} {us : List Value} {vs : List V} {Q : VK} {W : WS} {l : List D} {h : H3} {kk : K1}
    (F : Fun K x qual st f fd) (S : FnScope N ps (defScope st)) (room : Room (k + 1) A) (e0 : Env0 P w K mg base A outer s H) (bnd : BindsTo s fd args (ps.zip us)) (vals : Vals vs us) (lenV : vs.length = ps.length)
    (walk : ∀ (cdv : Value) (E : XK), Room k (A.deeper (envOfC qual (defScope st) s.heap.objs.size f cdv)) → PSs3 (CXF P w K mg base N qual st f cdv A outer s H E) G (defBody st) W)
    (rel : Rel G h H) (dv : DVs H l vs) (ok : W (en kk) (ev0 N l) h) (post : Post G H kk Q) :
    codeAny (model P w) A (.call (.ref f) args) (CR CX0 outer P w H s Q E0) s := by
  obtain ⟨oc, od, kV, doc, pm, an, cdv, ct, osl, rfl, lk, hcd⟩ := F.ex
  have kept : ∀ (b : Addr) (o : Obj), base.get? b = some o → s.heap.get? b = some o := fun b o q => (e0.bs b o q).1
  have Kin := e0.mod.kin.keeps kept
  have loc : ∀ y ∈ ps.zip us, (defScope st).names.lookup y.1 = some .local ∨ ((defScope st).names.lookup y.1 = some .cell ∧ ((cellsFrom (s.heap.objs.size + 1) (defScope st).names []).lookup y.1).isSome = true) := by
    rintro ⟨n, v⟩ hy
    refine (S.par n (List.of_mem_zip hy).1).imp id fun q => ⟨q, cellsFrom_some _ _ _ (.inl q)⟩
  refine codeAny_call_function room.depth (Kin _ _ lk) rfl S.co S.gen rfl (codeRec_of Kin hcd) (bnd _ _ _ _ (wpAny_newFunctionEnv_cells S.kind loc ?_))
  rintro env rfl s1 inC
  refine ⟨(e0.mod.nolimit.keeps kept).keeps inC.toInCall.keep, codeAny_func ?_⟩
  have I0 : Inv (cxOf CX0 P w K mg base N qual (defScope st) f cdv A outer s H E0) [] (L2.start N vs) H s1 := inv_start S room.hd e0 lenV vals inC
  have go := ((walk cdv E0 (room.deeper _)).nox).run [] s1 (L2.start N vs) H ⟨fun _ H' => Q .non H', Q, fun _ _ => False, fun _ _ => False⟩ I0 ⟨ev0 N l, h, en kk, rel, evr0 dv, ok, ?_⟩
  · refine wpAny_mono go (fun fl s' q => ?_) fun e s' q => q
    match fl, q with
    | .ret u, ⟨v, σ', H', J, rv, q⟩ => exact ⟨v, H', J.os, J.bare, J.base, J.hok, rv, q⟩
    | .next, ⟨σ', H', J, q⟩ => exact ⟨V.non, H', J.os, J.bare, J.base, J.hok, rfl, q⟩
    | .brk, ⟨_, _, _, q⟩ => exact q.elim
    | .cont, ⟨_, _, _, q⟩ => exact q.elim
  · exact ⟨fun ρ h' σ H' ⟨_, sub, q⟩ r p _ => post _ _ _ _ q (r.sub sub) p .non, fun d h' v H' ⟨_, sub, q⟩ r p dv => post _ _ _ _ q (r.sub sub) p dv, fun _ _ _ _ q => q.elim, fun _ _ _ _ q => q.elim⟩
theorem ns_hid {h : Heap} {H : Hp} (noDict : ∀ b o es ep, h.get? b = some o → o.data = .dict es ep → H b = none) {b : Addr} {m : Str → Option Value} (q : h.Ns b m) : (hidT h H).Ns b m := by
  obtain ⟨o, es, ep, e, d, r⟩ := q
  exact ⟨o, es, ep, hidT_get e (noDict _ _ _ _ e d), d, r⟩
/-- the claim's call of the law -/
theorem law_at {fa a : Addr} {s₁ : Shared} {vs : List Value} {ns : List Int} (inK : K.In s₁.heap) (gl : s₁.heap.Ns mainGlobals mg) (bl : s₁.heap.Ns builtinsNs mb) (bz : ∀ y : Str, y ≠ "__name__" → mb y = bootBuiltins y) (nolim : s₁.heap.NoLimit) (gens : s₁.gens = #[])
    (script : s₁.heap.get? a = some { cls := .type "list", data := .seq vs.toArray }) (isI : IntsAre vs ns) (few : ns.length ≤ sizeLine)
    (go : ∀ (base : Heap) (H : Hp), K.In base → base.Ns mainGlobals mg → Ro K H a (ns.map V.int) → Env0 P w K mg base callerA [] s₁ H →
      codeAny (model P w) callerA (.call (.ref fa) ⟨[.ref a], []⟩) (CR CX0 [] P w H s₁ (fun v _ => v = .bl true) E0) s₁) :
    codeAny (model P w) callerA (.call (.ref fa) ⟨[.ref a], []⟩) (fun r s' => r = .ok (.ret (.bool true)) ∧ OldK s₁.heap s'.heap ∧ s'.os = s₁.os ∧ AllBare s'.gens) s₁ := by
  -- what is told of the script: the module's own object, or an object that nobody writes
  obtain ⟨H, hro, hok, at_, old, alien⟩ : ∃ H : Hp, Ro K H a (ns.map V.int) ∧ HOk P w H s₁.heap ∧ (∀ b, H b ≠ none → b = a) ∧ (∀ b, H b = none ∨ ∃ o xs, H b = some (.frz o (.lst xs))) ∧ (H a ≠ none → K.lookup a = none) := by
    have rv := vals_ints isI
    cases hk : K.lookup a with
    | some o =>
      have e : some o = some _ := (inK a o hk).symm.trans script
      cases e
      exact ⟨fun _ => none, .inr ⟨_, vs.toArray, _, hk, rfl, rfl, rfl, by simpa [isI.length] using few, by simpa using rv⟩, fun b u z => (nomatch z), fun b z => absurd rfl z, fun _ => .inl rfl, fun z => absurd rfl z⟩
    | none =>
      let ob : Obj := { cls := .type "list", data := .seq vs.toArray }
      let H : Hp := fun b => if b = a then some (.frz ob (.lst (ns.map V.int))) else none
      have Ha : H a = some (.frz ob (.lst (ns.map V.int))) := if_pos rfl
      have Hb : ∀ b, b ≠ a → H b = none := fun b z => if_neg z
      refine ⟨H, .inl ⟨ob, Ha⟩, fun b u z => ?_, fun b z => Decidable.byContradiction fun y => z (Hb b y), fun b => ?_, fun _ => rfl⟩
      · by_cases y : b = a
        · subst y
          rw [Ha] at z
          cases z
          exact ⟨script, by rw [List.length_map]; exact few, vs, _, rv, script⟩
        · rw [Hb b y] at z; cases z
      · by_cases y : b = a
        · subst y; exact .inr ⟨_, _, Ha⟩
        · exact .inl (Hb b y)
  have noDict : ∀ b o es ep, s₁.heap.get? b = some o → o.data = .dict es ep → H b = none := fun b o es ep e d => by
    refine Decidable.byContradiction fun z => ?_
    rw [at_ b z, script] at e
    cases e
    cases (show Data.seq vs.toArray _ = Data.dict es ep from d)
  have inB : K.In (hidT s₁.heap H) := fun b o e => hidT_get (inK b o e) (Decidable.byContradiction fun z => by
    have y := at_ b z
    subst y
    rw [alien z] at e
    cases e)
  obtain ⟨mc, l1, l2⟩ := nolim
  have envs : Env0 P w K mg (hidT s₁.heap H) callerA [] s₁ H :=
    { frames := rfl, mod := ⟨inB, ns_hid noDict gl, ⟨mb, ns_hid noDict bl, bz⟩, ⟨mc, ns_hid noDict l1, l2⟩⟩, bs := fun b o => of_hidT, bsz := Nat.le_of_eq (hidT_size _ _), funs := trivial, frf := fun b z => (nomatch z), hok := hok, bare := .of_eq gens }
  refine codeAny_mono (go _ H inB (ns_hid noDict gl) hro envs) fun r s' q => ?_
  match r, q with
  | .error e, q => exact (show False from q).elim
  | .ok (.ret u), ⟨v, H', os, bare, un, hok', rv, (e : v = .bl true)⟩ =>
    subst e
    have e2 : u = Value.bool true := rv
    subst e2
    refine ⟨rfl, .of_keep fun b o e => ?_, os, bare⟩
    rcases old b with z | ⟨ob, xs, z⟩
    · exact un.keep b o e z (by simp [frs]) (by simp)
    · have y1 := (hok b _ z).1
      have y2 := (hok' b _ (un.frzs b ob _ z)).1
      rw [e] at y1
      cases y1
      exact y2
  | .ok .next, q => exact (show False from q).elim
  | .ok .brk, q => exact (show False from q).elim
  | .ok .cont, q => exact (show False from q).elim
end
end T3
end
-- T3Join
section
set_option maxRecDepth 100000
set_option maxHeartbeats 4000000
/-! T3Join: from what the module's top has left to the promises of its defs. -/
namespace T3
open PySem PySem.Spec PySem.W PyProof.Rows L2
/-- the def at the module's name x -/
def At (K : Frag) (mg : Str → Option Value) (x : Str) (st : Stmt) : Prop := ∃ f fd, mg x = some (.ref f) ∧ Fun K x x st f fd
/-- the method m of the class at C -/
def AtM (K : Frag) (C : Addr) (m qual : Str) (st : Stmt) : Prop := ∃ f fd, Meth K C m f ∧ Fun K m qual st f fd
section
variable {P : Program} {w : World} {K : Frag} {mg : Str → Option Value} {base h : Heap} {G : Sc} {x m qual : Str} {st : Stmt} {f C C2 : Addr} {N ps : List Str} {j k : Nat} {fld : Str}
theorem at_mk {oc : Value} {od an : Option Addr} {osl : Array (Option Value)} {kV doc pm cdv ct : Value} (inK : K.In h) (gl : h.Ns mainGlobals mg) (a : nsIn K mainGlobals x = some (some (.ref f)))
    (l : K.lookup f = some ⟨oc, od, .func (fnOf x x (defArgs st) (defBody st) (defScope st) .none kV doc pm an cdv ct), osl⟩) (c : codeIn K cdv x = true) (kp : keepIn K (.ref f) = true) : At K mg x st := ⟨f, _, mg_of inK gl a, fun_mk l c kp⟩
theorem atm_mk {oc : Value} {od an : Option Addr} {osl : Array (Option Value)} {kV doc pm cdv ct : Value} (a : findIn K (.ref C) m = some (some (.ref f))) (i : isFn K (.ref f) = true)
    (l : K.lookup f = some ⟨oc, od, .func (fnOf m qual (defArgs st) (defBody st) (defScope st) .none kV doc pm an cdv ct), osl⟩) (c : codeIn K cdv qual = true) (kp : keepIn K (.ref f) = true) : AtM K C m qual st := ⟨f, _, ⟨a, i, kp⟩, fun_mk l c kp⟩
theorem cls_mk (pg : plainGet K C Str.empty = true) (hd : hasDictIn K C = true) (po : plainOver K C = true) (sa : findIn K (.ref C) "__setattr__" = some (some (.builtin "object.__setattr__"))) : Cls K C := ⟨pg, hd, po, sa⟩
/-- how its arguments bind -/
abbrev Bnd (K : Frag) (x qual : Str) (st : Stmt) (ps : List Str) : Prop := ∀ (f : Addr) (fd : FuncData), Fun K x qual st f fd → Binds K fd ps []
theorem mkFd {sp : Sp3} {W : WS} (D : At K mg x st) (S : FnScope N ps (defScope st)) (b : Bnd K x x st ps)
    (walk : ∀ (f : Addr) (cdv : Value) (A : Around) (outer : List Env) (s : Shared) (H : Hp) (E : XK), Room k (A.deeper (envOfC x (defScope st) s.heap.objs.size f cdv)) → PSs3 (CXF P w K mg base N x st f cdv A outer s H E) G (defBody st) W)
    (len : ∀ l h k, sp l h k → l.length = ps.length) (ok : ∀ l h k, sp l h k → W (en k) (ev0 N l) h) : Fd P w K mg base G x (k + 1) sp := by
  obtain ⟨f, fd, hm, F⟩ := D
  exact ⟨f, fd, ps, fn3 F S (walk f) len ok, hm, F.kp, b f fd F⟩
theorem mkMd {sp : Sp3} {W : WS} (D : AtM K C m qual st) (c : Cls K C) (S : FnScope N ps (defScope st)) (b : Bnd K m qual st ps)
    (walk : ∀ (f : Addr) (cdv : Value) (A : Around) (outer : List Env) (s : Shared) (H : Hp) (E : XK), Room k (A.deeper (envOfC qual (defScope st) s.heap.objs.size f cdv)) → PSs3 (CXF P w K mg base N qual st f cdv A outer s H E) G (defBody st) W)
    (len : ∀ l h k, sp l h k → l.length = ps.length) (ok : ∀ l h k, sp l h k → W (en k) (ev0 N l) h) : Md P w K mg base G C m (k + 1) sp := by
  obtain ⟨f, fd, hm, F⟩ := D
  exact ⟨f, fd, ps, fn3 F S (walk f) len ok, hm, c, b f fd F⟩
theorem mkKd {sp : Sp3} {W : WS} (D : AtM K C "__init__" qual st) (mk : makesIn K C = true) (kc : keepIn K (.ref C) = true) (hx : mg x = some (.ref C)) (S : FnScope N ps (defScope st)) (b : Bnd K "__init__" qual st ps)
    (walk : ∀ (f : Addr) (cdv : Value) (A : Around) (outer : List Env) (s : Shared) (H : Hp) (E : XK), Room k (A.deeper (envOfC qual (defScope st) s.heap.objs.size f cdv)) → PSs3 (CXF P w K mg base N qual st f cdv A outer s H E) G (defBody st) W)
    (len : ∀ l h k, sp l h k → l.length = ps.length) (ok : ∀ l h k, sp l h k → W (en k) (ev0 N l) h) : Kd P w K mg base G x C (k + 1) sp := by
  obtain ⟨f, fd, hm, F⟩ := D
  exact ⟨f, fd, ps, fn3 F S (walk f) len ok, ⟨mk, hm.at_, hm.fn, kc⟩, hx, b f fd F⟩
/-- a wish for an error, whatever was made since -/
def exS (ex : D → H3 → Prop) : D → H3 → Prop := fun v h' => ∃ h'', Sub h'' h' ∧ ex v h''
theorem PostX.exS {H0 : Hp} {ex : D → H3 → Prop} {E : XK} (q : PostX G C fld H0 ex E) : PostX G C fld H0 (T3.exS ex) E := fun v h' x H' d ⟨h'', sub, e⟩ r p dv hd => q v h'' x H' d e (r.sub sub) p dv hd
theorem fnXS {fd : FuncData} {sp : XS3} {W : (D → H3 → Prop) → WS} (F : Fun K x qual st f fd) (S : FnScope N ps (defScope st))
    (walk : ∀ (ex : D → H3 → Prop) (cdv : Value) (A : Around) (outer : List Env) (s : Shared) (H : Hp) (E : XK), Room k (A.deeper (envOfC qual (defScope st) s.heap.objs.size f cdv)) → XF0 (CXX P w K mg base N qual st f cdv A outer s H E) G C fld ex → PSs3 (CXX P w K mg base N qual st f cdv A outer s H E) G (defBody st) (W ex))
    (len : ∀ ex l h k, sp ex l h k → l.length = ps.length) (ok : ∀ ex l h k, sp ex l h k → W (exS ex) (en k) (ev0 N l) h) : FnOk P w K mg base (L2.CX P w) (k + 1) f fd ps (spX G C fld sp) := by
  refine F.okX S (fun vs H Q E ⟨l, h, k, ex, rel, dv, q, post, _⟩ => by rw [← dv.length]; exact len ex l h k q) (fun cdv A outer s H vs Q E hr ⟨l, h, k, ex, rel, dv, q, post, px⟩ => ?_)
  refine ⟨_, walk (exS ex) cdv A outer s H E hr (xf_of px.exS), ev0 N l, h, en k, rel, evr0 dv, ok ex l h k q, ?_⟩
  exact ⟨fun ρ h' σ H' ⟨_, sub, q'⟩ r p _ => post _ _ _ _ q' (r.sub sub) p .non, fun d h' v H' ⟨_, sub, q'⟩ r p dv' => post _ _ _ _ q' (r.sub sub) p dv', fun _ _ _ _ q' => q'.elim, fun _ _ _ _ q' => q'.elim⟩
theorem mkFdX {sp : XS3} {W : (D → H3 → Prop) → WS} (D : At K mg x st) (S : FnScope N ps (defScope st)) (b : Bnd K x x st ps)
    (walk : ∀ (f : Addr) (ex : T3.D → H3 → Prop) (cdv : Value) (A : Around) (outer : List Env) (s : Shared) (H : Hp) (E : XK), Room k (A.deeper (envOfC x (defScope st) s.heap.objs.size f cdv)) → XF0 (CXX P w K mg base N x st f cdv A outer s H E) G C fld ex → PSs3 (CXX P w K mg base N x st f cdv A outer s H E) G (defBody st) (W ex))
    (len : ∀ ex l h k, sp ex l h k → l.length = ps.length) (ok : ∀ ex l h k, sp ex l h k → W (exS ex) (en k) (ev0 N l) h) : FdX P w K mg base G C fld x (k + 1) sp := by
  obtain ⟨f, fd, hm, F⟩ := D
  exact ⟨f, fd, ps, fnXS F S (walk f) len ok, hm, F.kp, b f fd F⟩
theorem mkMdX {sp : XS3} {W : (D → H3 → Prop) → WS} (D : AtM K C2 m qual st) (c : Cls K C2) (S : FnScope N ps (defScope st)) (b : Bnd K m qual st ps)
    (walk : ∀ (f : Addr) (ex : T3.D → H3 → Prop) (cdv : Value) (A : Around) (outer : List Env) (s : Shared) (H : Hp) (E : XK), Room k (A.deeper (envOfC qual (defScope st) s.heap.objs.size f cdv)) → XF0 (CXX P w K mg base N qual st f cdv A outer s H E) G C fld ex → PSs3 (CXX P w K mg base N qual st f cdv A outer s H E) G (defBody st) (W ex))
    (len : ∀ ex l h k, sp ex l h k → l.length = ps.length) (ok : ∀ ex l h k, sp ex l h k → W (exS ex) (en k) (ev0 N l) h) : MdX P w K mg base G C fld C2 m (k + 1) sp := by
  obtain ⟨f, fd, hm, F⟩ := D
  exact ⟨f, fd, ps, fnXS F S (walk f) len ok, hm, c, b f fd F⟩
theorem Fd.no {sp : Sp3} (D : At K mg x st) (b : Bnd K x x st ps) (no : ∀ l h k, ¬ sp l h k) : Fd P w K mg base G x k sp := by
  obtain ⟨f, fd, hm, F⟩ := D
  exact ⟨f, fd, ps, ⟨fun vs H Q E ⟨l, h, k, _, _, q, _⟩ => (no _ _ _ q).elim, fun A outer s H args us vs Q E _ _ _ _ ⟨l, h, k, _, _, q, _⟩ => (no _ _ _ q).elim⟩, hm, F.kp, b f fd F⟩
theorem FdX.no {sp : XS3} (D : At K mg x st) (b : Bnd K x x st ps) (no : ∀ ex l h k, ¬ sp ex l h k) : FdX P w K mg base G C fld x k sp := by
  obtain ⟨f, fd, hm, F⟩ := D
  exact ⟨f, fd, ps, ⟨fun vs H Q E ⟨l, h, k, ex, _, _, q, _⟩ => (no _ _ _ _ q).elim, fun A outer s H args us vs Q E _ _ _ _ ⟨l, h, k, ex, _, _, q, _⟩ => (no _ _ _ _ q).elim⟩, hm, F.kp, b f fd F⟩
theorem MdX.no {sp : XS3} (D : AtM K C2 m qual st) (c : Cls K C2) (b : Bnd K m qual st ps) (no : ∀ ex l h k, ¬ sp ex l h k) : MdX P w K mg base G C fld C2 m k sp := by
  obtain ⟨f, fd, hm, F⟩ := D
  exact ⟨f, fd, ps, ⟨fun vs H Q E ⟨l, h, k, ex, _, _, q, _⟩ => (no _ _ _ _ q).elim, fun A outer s H args us vs Q E _ _ _ _ ⟨l, h, k, ex, _, _, q, _⟩ => (no _ _ _ _ q).elim⟩, hm, c, b f fd F⟩
theorem Md.mono {sp : Sp3} (F : Md P w K mg base G C m j sp) (h : j ≤ k) : Md P w K mg base G C m k sp := let ⟨f, fd, ps, a, b⟩ := F; ⟨f, fd, ps, a.mono h, b⟩
theorem Kd.mono {sp : Sp3} (F : Kd P w K mg base G x C j sp) (h : j ≤ k) : Kd P w K mg base G x C k sp := let ⟨f, fd, ps, a, b⟩ := F; ⟨f, fd, ps, a.mono h, b⟩
theorem FdX.mono {sp : XS3} (F : FdX P w K mg base G C fld x j sp) (h : j ≤ k) : FdX P w K mg base G C fld x k sp := let ⟨f, fd, ps, a, b⟩ := F; ⟨f, fd, ps, a.mono h, b⟩
theorem MdX.mono {sp : XS3} (F : MdX P w K mg base G C fld C2 m j sp) (h : j ≤ k) : MdX P w K mg base G C fld C2 m k sp := let ⟨f, fd, ps, a, b⟩ := F; ⟨f, fd, ps, a.mono h, b⟩
theorem KdX.mono (F : KdX P w K mg base C fld x j) (h : j ≤ k) : KdX P w K mg base C fld x k := let ⟨f, fd, ps, a, b⟩ := F; ⟨f, fd, ps, a.mono h, b⟩
end
end T3
end
-- P06
section
set_option maxRecDepth 100000
set_option maxHeartbeats 4000000
/-! P06: packing, as plain functions: what the bytes of a value are; what a row of bytes is read as. -/
namespace P06
open PySem T3
/-- a number's bytes, seven bits each, the last below 128 -/
def sizeB (n : Nat) : List Int := if n < 128 then [(n : Int)] else ((n % 128 + 128 : Nat) : Int) :: sizeB (n / 128)
termination_by n
decreasing_by omega
theorem sizeB_lt {n : Nat} (h : n < 128) : sizeB n = [(n : Int)] := by rw [sizeB, if_pos h]
theorem sizeB_ge {n : Nat} (h : ¬ n < 128) : sizeB n = ((n % 128 + 128 : Nat) : Int) :: sizeB (n / 128) := by rw [sizeB, if_neg h]
def letters : List Nat := ("abcdefghijklmnopqrstuvwxyz0123456789_" : Str).cps.toList
def signB (c : Nat) : Option Int := (letters.findIdx? (· == c)).map fun i => ((i : Nat) : Int)
def signsB : List Nat → Option (List Int)
  | [] => some []
  | c :: r => match signB c, signsB r with
    | some b, some l => some (b :: l)
    | _, _ => none
mutual
/-- a value's bytes, at a depth -/
def enc : D → Nat → Option (List Int)
  | .non, _ => some [0]
  | .bl false, _ => some [1]
  | .bl true, _ => some [2]
  | .int i, _ => some (if 0 ≤ i then 3 :: sizeB i.toNat else 4 :: sizeB (-1 - i).toNat)
  | .str x, _ => match signsB x.cps.toList with
    | some l => some (5 :: sizeB x.cps.size ++ l)
    | none => none
  | .tup l, depth => if depth < 60 then match encL l (depth + 1) with
      | some bs => some (6 :: sizeB l.length ++ bs)
      | none => none
    else none
  | .ref _, _ => none
def encL : List D → Nat → Option (List Int)
  | [], _ => some []
  | d :: l, depth => match enc d depth, encL l depth with
    | some a, some b => some (a ++ b)
    | _, _ => none
end
/-- an error's place, or what was read and where it goes on -/
abbrev Rd (α : Type) := Except Int (α × Nat)
/-- a number: the digits read so far are n, shift bits; first is where it began -/
def numR (bs : List Int) : (fuel : Nat) → (at_ first : Nat) → (n : Nat) → (shift : Nat) → Rd Nat
  | 0, _, _, _, _ => .error bs.length
  | f + 1, at_, first, n, shift => match bs[at_]? with
    | none => .error bs.length
    | some b => if 128 ≤ b then numR bs f (at_ + 1) first (n + (b - 128).toNat * 2 ^ shift) (shift + 7)
      else if b = 0 ∧ first < at_ then .error at_ else .ok (n + b.toNat * 2 ^ shift, at_ + 1)
def num (bs : List Int) (at_ : Nat) : Rd Nat := numR bs (bs.length + 1 - at_) at_ at_ 0 0
/-- n times f, one behind the other -/
def many {α : Type} (f : Nat → Rd α) : Nat → Nat → Rd (List α)
  | 0, at_ => .ok ([], at_)
  | n + 1, at_ => match f at_ with
    | .error e => .error e
    | .ok (v, a) => match many f n a with
      | .error e => .error e
      | .ok (l, b) => .ok (v :: l, b)
def sign (bs : List Int) (at_ : Nat) : Rd Nat := match bs[at_]? with
  | none => .error bs.length
  | some b => if 37 ≤ b then .error at_ else .ok (letters.getD b.toNat 0, at_ + 1)
/-- a value; lvl = 60 - depth -/
def dec (bs : List Int) : (lvl : Nat) → (at_ : Nat) → Rd D
  | lvl, at_ => match bs[at_]? with
    | none => .error bs.length
    | some c =>
      if 6 < c ∨ (c = 6 ∧ lvl = 0) then .error at_
      else if c = 0 then .ok (.non, at_ + 1) else if c = 1 then .ok (.bl false, at_ + 1) else if c = 2 then .ok (.bl true, at_ + 1)
      else match num bs (at_ + 1) with
        | .error e => .error e
        | .ok (n, a) =>
          if c = 3 then .ok (.int n, a) else if c = 4 then .ok (.int (-1 - n), a)
          else if c = 5 then match many (sign bs) n a with
            | .error e => .error e
            | .ok (l, b) => .ok (.str ⟨l.toArray⟩, b)
          else match lvl with
            | 0 => .error at_
            | lvl + 1 => match many (dec bs lvl) n a with
              | .error e => .error e
              | .ok (l, b) => .ok (.tup l, b)
/-- the whole row -/
def decAll (bs : List Int) : Except Int D := match dec bs 60 0 with
  | .error e => .error e
  | .ok (v, a) => if a < bs.length then .error a else .ok v
/-! packing is undone -/
theorem get_app {pre x post : List Int} {i : Nat} {b : Int} (h : x[i]? = some b) : (pre ++ x ++ post)[pre.length + i]? = some b := by
  have hi := (List.getElem?_eq_some_iff.mp h).1
  rw [List.append_assoc, List.getElem?_append_right (by omega), Nat.add_sub_cancel_left, List.getElem?_append_left hi, h]
theorem num_size : ∀ (n : Nat) (pre post : List Int) (f first acc shift : Nat), (first < pre.length → n ≠ 0) → (sizeB n).length ≤ f →
    numR (pre ++ sizeB n ++ post) f pre.length first acc shift = .ok (acc + n * 2 ^ shift, pre.length + (sizeB n).length) := by
  intro n
  induction n using Nat.strongRecOn with
  | ind n ih =>
    intro pre post f first acc shift hz hf
    cases f with
    | zero =>
      rw [sizeB] at hf
      split at hf <;> simp at hf
    | succ f =>
      by_cases h : n < 128
      · have hg : (pre ++ sizeB n ++ post)[pre.length]? = some (n : Int) := get_app (i := 0) (by rw [sizeB_lt h]; rfl)
        simp only [numR, hg]
        rw [if_neg (by omega), if_neg (by
          rintro ⟨h0, h1⟩
          exact hz h1 (by omega))]
        rw [sizeB_lt h]
        simp
      · have hs := sizeB_ge h
        have hg : (pre ++ sizeB n ++ post)[pre.length]? = some (((n % 128 + 128 : Nat) : Int)) := get_app (i := 0) (by rw [hs]; rfl)
        simp only [numR, hg]
        rw [if_pos (by omega)]
        have e : pre ++ sizeB n ++ post = (pre ++ [((n % 128 + 128 : Nat) : Int)]) ++ sizeB (n / 128) ++ post := by rw [hs]; simp
        have hl : (pre ++ [((n % 128 + 128 : Nat) : Int)]).length = pre.length + 1 := by simp
        rw [e]
        have := ih (n / 128) (by omega) (pre ++ [((n % 128 + 128 : Nat) : Int)]) post f first (acc + ((((n % 128 + 128 : Nat) : Int) - 128).toNat) * 2 ^ shift) (shift + 7) (fun _ => by omega) (by rw [hs] at hf; simp at hf; omega)
        rw [hl] at this
        rw [this]
        congr 2
        · have e1 : (((n % 128 + 128 : Nat) : Int) - 128).toNat = n % 128 := by omega
          rw [e1, Nat.pow_add, Nat.add_assoc, show 2 ^ 7 = 128 from rfl]
          congr 1
          have : n = n % 128 + 128 * (n / 128) := (Nat.mod_add_div n 128).symm
          calc n % 128 * 2 ^ shift + n / 128 * (2 ^ shift * 128) = (n % 128 + 128 * (n / 128)) * 2 ^ shift := by rw [Nat.add_mul]; congr 1; rw [Nat.mul_comm (2 ^ shift) 128, ← Nat.mul_assoc, Nat.mul_comm (n / 128) 128]
            _ = n * 2 ^ shift := by rw [← this]
        · rw [hs]; simp; omega
theorem sizeB_pos (n : Nat) : 0 < (sizeB n).length := by rw [sizeB]; split <;> simp
theorem num_enc {n : Nat} {pre post : List Int} : num (pre ++ sizeB n ++ post) pre.length = .ok (n, pre.length + (sizeB n).length) := by
  unfold num
  rw [num_size n pre post _ _ 0 0 (fun h => absurd h (Nat.lt_irrefl _)) (by simp; omega)]
  simp
theorem signB_spec {c : Nat} {b : Int} (h : signB c = some b) : 0 ≤ b ∧ b < 37 ∧ letters.getD b.toNat 0 = c := by
  unfold signB at h
  cases e : letters.findIdx? (· == c) with
  | none => rw [e] at h; cases h
  | some i =>
    rw [e] at h
    obtain rfl : ((i : Nat) : Int) = b := Option.some.inj h
    obtain ⟨hi, h1, h2⟩ := List.findIdx?_eq_some_iff_getElem.mp e
    have hl : letters.length = 37 := by decide +kernel
    refine ⟨by omega, by omega, ?_⟩
    simp at h1
    simp [List.getD, hi, h1]
theorem many_signs : ∀ (cs : List Nat) (e pre post : List Int), signsB cs = some e → many (sign (pre ++ e ++ post)) cs.length pre.length = .ok (cs, pre.length + e.length)
  | [], e, pre, post, h => by
    simp only [signsB, Option.some.injEq] at h
    subst h
    simp [many]
  | c :: r, e, pre, post, h => by
    simp only [signsB] at h
    split at h
    · rename_i b l hb hl
      obtain rfl := Option.some.inj h
      obtain ⟨h0, h1, h2⟩ := signB_spec hb
      have hg : (pre ++ (b :: l) ++ post)[pre.length]? = some b := get_app (i := 0) rfl
      have e1 : pre ++ (b :: l) ++ post = (pre ++ [b]) ++ l ++ post := by simp
      have ih := many_signs r l (pre ++ [b]) post hl
      rw [← e1] at ih
      have hlen : (pre ++ [b]).length = pre.length + 1 := by simp
      rw [hlen] at ih
      simp only [List.length_cons, many, sign, hg]
      rw [if_neg (by omega)]
      simp only [ih, h2]
      congr 2
      omega
    · cases h
mutual
theorem dec_enc : ∀ (d : D) (depth : Nat) (e pre post : List Int), enc d depth = some e → depth ≤ 60 → dec (pre ++ e ++ post) (60 - depth) pre.length = .ok (d, pre.length + e.length)
  | .non, depth, e, pre, post, h, _ => by
    simp only [enc, Option.some.injEq] at h
    subst h
    have hg : (pre ++ [0] ++ post)[pre.length]? = some (0 : Int) := get_app (i := 0) rfl
    unfold dec; simp [hg]
  | .bl false, depth, e, pre, post, h, _ => by
    simp only [enc, Option.some.injEq] at h
    subst h
    have hg : (pre ++ [1] ++ post)[pre.length]? = some (1 : Int) := get_app (i := 0) rfl
    unfold dec; simp [hg]
  | .bl true, depth, e, pre, post, h, _ => by
    simp only [enc, Option.some.injEq] at h
    subst h
    have hg : (pre ++ [2] ++ post)[pre.length]? = some (2 : Int) := get_app (i := 0) rfl
    unfold dec; simp [hg]
  | .int i, depth, e, pre, post, h, _ => by
    simp only [enc, Option.some.injEq] at h
    by_cases hi : 0 ≤ i
    · rw [if_pos hi] at h
      subst h
      have hg : (pre ++ (3 :: sizeB i.toNat) ++ post)[pre.length]? = some (3 : Int) := get_app (i := 0) rfl
      have e1 : pre ++ (3 :: sizeB i.toNat) ++ post = (pre ++ [3]) ++ sizeB i.toNat ++ post := by simp
      have hn := num_enc (n := i.toNat) (pre := pre ++ [3]) (post := post)
      rw [← e1, show (pre ++ [(3 : Int)]).length = pre.length + 1 by simp] at hn
      unfold dec; simp only [hg, hn]
      simp
      constructor <;> omega
    · rw [if_neg hi] at h
      subst h
      have hg : (pre ++ (4 :: sizeB (-1 - i).toNat) ++ post)[pre.length]? = some (4 : Int) := get_app (i := 0) rfl
      have e1 : pre ++ (4 :: sizeB (-1 - i).toNat) ++ post = (pre ++ [4]) ++ sizeB (-1 - i).toNat ++ post := by simp
      have hn := num_enc (n := (-1 - i).toNat) (pre := pre ++ [4]) (post := post)
      rw [← e1, show (pre ++ [(4 : Int)]).length = pre.length + 1 by simp] at hn
      unfold dec; simp only [hg, hn]
      simp
      constructor <;> omega
  | .str x, depth, e, pre, post, h, _ => by
    simp only [enc] at h
    split at h
    · rename_i l hl
      obtain rfl := Option.some.inj h
      have hg : (pre ++ (5 :: sizeB x.cps.size ++ l) ++ post)[pre.length]? = some (5 : Int) := get_app (i := 0) rfl
      have e1 : pre ++ (5 :: sizeB x.cps.size ++ l) ++ post = (pre ++ [5]) ++ sizeB x.cps.size ++ (l ++ post) := by simp
      have e2 : pre ++ (5 :: sizeB x.cps.size ++ l) ++ post = (pre ++ 5 :: sizeB x.cps.size) ++ l ++ post := by simp
      have hn := num_enc (n := x.cps.size) (pre := pre ++ [5]) (post := l ++ post)
      rw [← e1, show (pre ++ [(5 : Int)]).length = pre.length + 1 by simp] at hn
      have hm := many_signs x.cps.toList l (pre ++ 5 :: sizeB x.cps.size) post hl
      rw [← e2, show (pre ++ (5 : Int) :: sizeB x.cps.size).length = pre.length + 1 + (sizeB x.cps.size).length by simp; omega, Array.length_toList] at hm
      unfold dec; simp only [hg, hn, hm]
      simp
      omega
    · cases h
  | .tup l, depth, e, pre, post, h, hd => by
    simp only [enc] at h
    split at h
    · rename_i hlt
      split at h
      · rename_i bs hbs
        obtain rfl := Option.some.inj h
        have hg : (pre ++ (6 :: sizeB l.length ++ bs) ++ post)[pre.length]? = some (6 : Int) := get_app (i := 0) rfl
        have e1 : pre ++ (6 :: sizeB l.length ++ bs) ++ post = (pre ++ [6]) ++ sizeB l.length ++ (bs ++ post) := by simp
        have e2 : pre ++ (6 :: sizeB l.length ++ bs) ++ post = (pre ++ 6 :: sizeB l.length) ++ bs ++ post := by simp
        have hn := num_enc (n := l.length) (pre := pre ++ [6]) (post := bs ++ post)
        rw [← e1, show (pre ++ [(6 : Int)]).length = pre.length + 1 by simp] at hn
        have hm := many_enc l (depth + 1) bs (pre ++ 6 :: sizeB l.length) post hbs (by omega)
        rw [← e2, show (pre ++ (6 : Int) :: sizeB l.length).length = pre.length + 1 + (sizeB l.length).length by simp; omega] at hm
        obtain ⟨m, hm60⟩ : ∃ m, 60 - depth = m + 1 := ⟨60 - depth - 1, by omega⟩
        rw [show 60 - (depth + 1) = m by omega] at hm
        rw [hm60]
        unfold dec; simp only [hg, hn, hm]
        simp
        omega
      · cases h
    · cases h
  | .ref _, _, _, _, _, h, _ => by simp [enc] at h
theorem many_enc : ∀ (l : List D) (depth : Nat) (e pre post : List Int), encL l depth = some e → depth ≤ 60 → many (dec (pre ++ e ++ post) (60 - depth)) l.length pre.length = .ok (l, pre.length + e.length)
  | [], depth, e, pre, post, h, _ => by
    simp only [encL, Option.some.injEq] at h
    subst h
    simp [many]
  | d :: l, depth, e, pre, post, h, hd => by
    simp only [encL] at h
    split at h
    · rename_i a b ha hb
      obtain rfl := Option.some.inj h
      have h1 := dec_enc d depth a pre (b ++ post) ha hd
      have h2 := many_enc l depth b (pre ++ a) post hb hd
      have e1 : pre ++ (a ++ b) ++ post = pre ++ a ++ (b ++ post) := by simp
      have e2 : pre ++ (a ++ b) ++ post = pre ++ a ++ b ++ post := by simp
      rw [← e1] at h1
      rw [← e2, show (pre ++ a).length = pre.length + a.length by simp] at h2
      simp only [List.length_cons, many, h1, h2]
      simp
      omega
    · cases h
end
/-- what is packed is read again -/
theorem decAll_enc {d : D} {e : List Int} (h : enc d 0 = some e) : decAll e = .ok d := by
  have := dec_enc d 0 e [] [] h (by decide)
  simp at this
  unfold decAll
  rw [this]
  simp
end P06
end
-- GP
section
set_option maxRecDepth 100000
set_option maxHeartbeats 4000000
namespace T3
open PySem PySem.Spec L2
/-- a while with an invariant that a number goes down in -/
theorem while_inv {t : WT} {body : WS} {E : En} {ρ : Ev} {h : H3} (I : Nat → Ev → H3 → Prop) {m : Nat} (h0 : I m ρ h)
    (step : ∀ m ρ h, I m ρ h → ∀ N : Ev → H3 → Prop, (∀ m' ρ2 h2, m' < m → I m' ρ2 h2 → N ρ2 h2) → t ρ h fun c h1 => if c = true then body { nx := N, ct := N, bk := E.nx, rt := E.rt } ρ h1 else E.nx ρ h1) : wWhile t body E ρ h := by
  have gen : ∀ n m ρ h, m < n → I m ρ h → whileW t body E n ρ h := by
    intro n
    induction n with
    | zero => intro m ρ h hm; omega
    | succ n ih =>
      intro m ρ h hm q
      exact step m ρ h q _ fun m' ρ2 h2 hm' q' => ⟨h2, Sub.refl _, ih m' ρ2 h2 (by omega) q'⟩
  exact ⟨m + 1, gen _ m ρ h (Nat.lt_succ_self _) h0⟩
@[simp] theorem s_app3 {p : Addr} {d : D} {h : H3} {k : K1} : rAppend3 (.ref p) [d] h k ↔ ∃ xs, h p = some (.lst xs) ∧ xs.length < 16777216 ∧ k .non (up h p (.lst (xs ++ [d]))) := by
  constructor
  · rintro ⟨a, xs, d', e1, e2, r⟩; cases e1; cases e2; exact ⟨xs, r⟩
  · rintro ⟨xs, r⟩; exact ⟨p, xs, d, rfl, rfl, r⟩
theorem and127 {x : Int} (h0 : 0 ≤ x) : Builtin.bitAnd x 127 = x % 128 := Bits.bitAnd_mask (x := x) 7 h0
end T3
namespace Lk06
open PySem PySem.Spec PyProof.Rows L2 T3 P06
def sp_size : Sp3 := fun l h k => ∃ n : Int, l = [.int n] ∧ 0 ≤ n ∧ (sizeB n.toNat).length < 16777216 ∧ ∀ p, h p = none → k (.ref p) (up h p (.lst ((sizeB n.toNat).map D.int)))
theorem ok_size_bytes : ∀ l h k, sp_size l h k → W_size_bytes (en k) (ev0 N_size_bytes l) h := by
  rintro l h k ⟨n, rfl, hn, hlen, post⟩
  simp [W_size_bytes, ev0]
  intro p np
  refine while_inv (fun m ρ h' => ∃ (n1 : Nat) (acc : List Int), m = n1 ∧ ρ = [some (.int n1), some (.ref p)] ∧ h' = up h p (.lst (acc.map D.int)) ∧ acc ++ sizeB n1 = sizeB n.toNat) (m := n.toNat) ⟨n.toNat, [], rfl, by rw [Int.toNat_of_nonneg hn], rfl, rfl⟩ ?_
  rintro m ρ h' ⟨n1, acc, rfl, rfl, rfl, e⟩ N hN
  have hal := congrArg List.length e
  rw [List.length_append] at hal
  simp
  split
  · rename_i h128
    have h128 : ¬ m < 128 := by omega
    have hs := sizeB_ge h128
    simp [wAppend]
    refine ⟨by omega, hN _ _ _ (by omega) ⟨m / 128, acc ++ [((m % 128 + 128 : Nat) : Int)], rfl, by simp, ?_, by rw [← e, hs]; simp⟩⟩
    rw [and127 (by omega)]
    simp
  · rename_i h128
    have h128 : m < 128 := by omega
    rw [sizeB_lt h128] at e
    simp [wAppend]
    refine ⟨by rw [sizeB_lt h128] at hal; simp at hal; omega, en_rt ?_⟩
    have := post p np
    rw [← e] at this
    simpa using this
theorem occ_all : ∀ c ∈ letters, Builtin.Str.occurrences ("abcdefghijklmnopqrstuvwxyz0123456789_" : Str) ⟨#[c]⟩ 0 ("abcdefghijklmnopqrstuvwxyz0123456789_" : Str).length 1 = [letters.idxOf c] ∧ signB c = some ((letters.idxOf c : Nat) : Int) := by decide +kernel
theorem signB_none {c : Nat} (h : c ∉ letters) : signB c = none := by
  unfold signB
  rw [List.findIdx?_eq_none_iff.mpr fun x hx => by simp; rintro rfl; exact h hx]
  rfl
theorem signsB_none : ∀ {cs : List Nat} {c : Nat}, c ∈ cs → c ∉ letters → signsB cs = none
  | c0 :: r, c, hc, hn => by
    simp only [signsB]
    rcases List.mem_cons.mp hc with rfl | hc
    · rw [signB_none hn]
    · rw [signsB_none hc hn]
      cases signB c0 <;> rfl
theorem signsB_snoc : ∀ {cs : List Nat} {c : Nat} {a : List Int} {b : Int}, signsB cs = some a → signB c = some b → signsB (cs ++ [c]) = some (a ++ [b])
  | [], c, a, b, h1, h2 => by
    simp only [signsB, Option.some.injEq] at h1
    subst h1
    simp [signsB, h2]
  | c0 :: r, c, a, b, h1, h2 => by
    simp only [signsB] at h1
    split at h1
    · rename_i x l hx hl
      obtain rfl := Option.some.inj h1
      simp only [List.cons_append, signsB, hx, signsB_snoc hl h2]
    · cases h1
theorem signsB_len : ∀ {cs : List Nat} {a : List Int}, signsB cs = some a → a.length = cs.length
  | [], a, h => by simp only [signsB, Option.some.injEq] at h; subst h; rfl
  | c :: r, a, h => by
    simp only [signsB] at h
    split at h
    · rename_i x l hx hl
      obtain rfl := Option.some.inj h
      simp [signsB_len hl]
    · cases h
def sp_text : XS3 := fun ex l h k => ∃ x : Str, l = [.str x] ∧ x.cps.size < 1000000 ∧ (sizeB x.cps.size).length < 1000000 ∧ (signsB x.cps.toList = none → ex (.int (-1)) h) ∧
  ∀ bs, signsB x.cps.toList = some bs → ∀ p, h p = none → k (.ref p) (up h p (.lst ((5 :: sizeB x.cps.size ++ bs).map D.int)))
theorem ok_text_bytes : ∀ ex l h k, sp_text ex l h k → W_text_bytes sp_size (exS ex) (en k) (ev0 N_text_bytes l) h := by
  rintro ex l h k ⟨x, rfl, hx, hsz, hno, post⟩
  simp [W_text_bytes, ev0]
  intro p0 n0
  have ne_of : ∀ {a b : Addr} {g : H3} {o : O}, up g b o a = none → a ≠ b ∧ g a = none := fun {a b g o} e => by
    have hne : a ≠ b := by rintro rfl; rw [up_same] at e; cases e
    rw [up_ne hne] at e
    exact ⟨hne, e⟩
  refine ⟨by show x.cps.size ≤ _; omega, (x.cps.size : Int), rfl, by omega, by rw [Int.toNat_natCast]; omega, fun p1 n1 => ?_⟩
  obtain ⟨h10, n1'⟩ := ne_of n1
  rw [Int.toNat_natCast]
  simp [up_ne h10.symm]
  refine ⟨by omega, fun p2 n2 => ?_⟩
  obtain ⟨h21, n2'⟩ := ne_of n2
  obtain ⟨h20, n2''⟩ := ne_of n2'
  have hsub : Sub h (up (up h p0 (.lst [D.int 5])) p1 (.lst ((sizeB x.cps.size).map D.int))) := ((Sub.refl h).up n0).up n1'
  generalize up (up h p0 (.lst [D.int 5])) p1 (.lst ((sizeB x.cps.size).map D.int)) = hb at hsub n2
  generalize hcs : x.cps.toList = cs at *
  have hcl : cs.length = x.cps.size := by rw [← hcs]; simp
  refine for_inv (fun j ρ h' => ∃ (y : Option D) (acc : List Int), ρ = [some (.str x), some (.ref p2), y] ∧ signsB (cs.take j) = some acc ∧ h' = up hb p2 (.lst ((5 :: sizeB x.cps.size ++ acc).map D.int))) (fun _ _ _ _ _ => trivial) ⟨none, [], rfl, rfl, by simp⟩ ?_ ?_
  · rintro j d ρ h' hd ⟨y, acc, rfl, ha, rfl⟩ N hN
    obtain ⟨c, hc, rfl⟩ : ∃ c, cs[j]? = some c ∧ d = .str ⟨#[c]⟩ := by
      rw [List.getElem?_map] at hd
      cases e : cs[j]? with
      | none => rw [e] at hd; cases hd
      | some c => rw [e] at hd; cases hd; exact ⟨c, rfl, rfl⟩
    have hj : j < cs.length := (List.getElem?_eq_some_iff.mp hc).1
    have hmem : c ∈ cs := List.mem_of_getElem? hc
    have hlet : ("abcdefghijklmnopqrstuvwxyz0123456789_" : Str).cps.toList = letters := rfl
    simp
    refine ⟨c, rfl, ?_⟩
    by_cases hl : c ∈ letters
    · obtain ⟨o1, o2⟩ := occ_all c hl
      have hlt : acc.length ≤ cs.length := by rw [signsB_len ha]; simp; omega
      have hdec : decide (c ∈ ("abcdefghijklmnopqrstuvwxyz0123456789_" : Str).cps.toList) = true := decide_eq_true hl
      have hlA : acc.length ≤ cs.length := hlt
      rw [hdec]
      simp [wAppend, wSIndex]
      refine ⟨_, ⟨_, o1⟩, by omega, hN _ _ ⟨_, acc ++ [((letters.idxOf c : Nat) : Int)], rfl, ?_, by simp⟩⟩
      rw [List.take_add_one, hc]
      exact signsB_snoc ha o2
    · have hdec : decide (c ∈ ("abcdefghijklmnopqrstuvwxyz0123456789_" : Str).cps.toList) = false := decide_eq_false hl
      show asB (D.bl (decide (c ∈ ("abcdefghijklmnopqrstuvwxyz0123456789_" : Str).cps.toList) != true)) _
      rw [hdec]
      simp [wRaise]
      exact ⟨h, hsub.up n2'', hno (signsB_none hmem hl)⟩
  · rintro ρ h' ⟨y, acc, rfl, ha, rfl⟩
    rw [List.length_map, List.take_of_length_le (by omega)] at ha
    simp
    refine en_rt' (post acc ha p2 n2'') ?_
    simpa using Sub.up_up hsub
end Lk06
end
-- GP2
section
set_option maxRecDepth 100000
set_option maxHeartbeats 4000000
namespace Lk06
open PySem PySem.Spec PyProof.Rows L2 T3 P06
/-- a list or a dict stands there -/
def RefOk (h : H3) (a : Addr) : Prop := (∃ l, h a = some (.lst l)) ∨ IsD3 h a
mutual
def RefsOk (h : H3) : D → Prop
  | .ref a => RefOk h a
  | .tup l => RefsOkL h l
  | _ => True
def RefsOkL (h : H3) : List D → Prop
  | [] => True
  | d :: l => RefsOk h d ∧ RefsOkL h l
end
theorem RefOk.mono {h h' : H3} {a : Addr} (s : Sub h h') : RefOk h a → RefOk h' a
  | .inl ⟨l, e⟩ => .inl ⟨l, s _ _ e⟩
  | .inr q => .inr (by
    rcases q with ⟨kv, e⟩ | ⟨kv, e⟩
    · exact .inl ⟨kv, s _ _ e⟩
    · exact .inr ⟨kv, s _ _ e⟩)
mutual
theorem RefsOk.mono {h h' : H3} (s : Sub h h') : ∀ {d : D}, RefsOk h d → RefsOk h' d
  | .ref a, q => RefOk.mono s q
  | .tup l, q => RefsOkL.mono s (l := l) q
  | .non, _ => trivial
  | .bl _, _ => trivial
  | .int _, _ => trivial
  | .str _, _ => trivial
theorem RefsOkL.mono {h h' : H3} (s : Sub h h') : ∀ {l : List D}, RefsOkL h l → RefsOkL h' l
  | [], _ => trivial
  | d :: l, q => ⟨RefsOk.mono s q.1, RefsOkL.mono s q.2⟩
end
theorem RefsOkL.get {h : H3} : ∀ {l : List D}, RefsOkL h l → ∀ d ∈ l, RefsOk h d
  | d :: l, q, x, hx => by
    rcases List.mem_cons.mp hx with rfl | hx
    · exact q.1
    · exact q.2.get x hx
mutual
/-- how many bytes a value takes -/
def elen : D → Nat
  | .int i => 1 + (if 0 ≤ i then (sizeB i.toNat).length else (sizeB (-1 - i).toNat).length)
  | .str x => 1 + (sizeB x.cps.size).length + x.cps.size
  | .tup l => 1 + (sizeB l.length).length + elenL l
  | _ => 1
def elenL : List D → Nat
  | [] => 0
  | d :: l => elen d + elenL l
end
theorem elen_pos : ∀ d : D, 1 ≤ elen d
  | .non => by simp [elen]
  | .bl _ => by simp [elen]
  | .int _ => by simp [elen]
  | .str _ => by simp [elen]; omega
  | .tup _ => by simp [elen]; omega
  | .ref _ => by simp [elen]
theorem elenL_len : ∀ l : List D, l.length ≤ elenL l
  | [] => by simp
  | d :: l => by have := elenL_len l; have := elen_pos d; simp [elenL]; omega
theorem elenL_mem : ∀ {l : List D} {d : D}, d ∈ l → elen d ≤ elenL l
  | x :: l, d, h => by
    rcases List.mem_cons.mp h with rfl | h
    · simp [elenL]
    · have := elenL_mem h; simp [elenL]; omega
mutual
theorem enc_len : ∀ {d : D} {k : Nat} {e : List Int}, enc d k = some e → e.length = elen d
  | .non, _, e, h => by simp only [enc, Option.some.injEq] at h; subst h; simp [elen]
  | .bl false, _, e, h => by simp only [enc, Option.some.injEq] at h; subst h; simp [elen]
  | .bl true, _, e, h => by simp only [enc, Option.some.injEq] at h; subst h; simp [elen]
  | .int i, _, e, h => by
    simp only [enc, Option.some.injEq] at h
    subst h
    simp only [elen]
    split <;> simp <;> omega
  | .str x, _, e, h => by
    simp only [enc] at h
    split at h
    · rename_i l hl
      obtain rfl := Option.some.inj h
      have := signsB_len hl
      simp [elen] at this ⊢
      omega
    · cases h
  | .tup l, k, e, h => by
    simp only [enc] at h
    split at h
    · split at h
      · rename_i bs hbs
        obtain rfl := Option.some.inj h
        have := encL_len hbs
        simp [elen]
        omega
      · cases h
    · cases h
  | .ref _, _, _, h => by simp [enc] at h
theorem encL_len : ∀ {l : List D} {k : Nat} {e : List Int}, encL l k = some e → e.length = elenL l
  | [], _, e, h => by simp only [encL, Option.some.injEq] at h; subst h; simp [elenL]
  | d :: l, k, e, h => by
    simp only [encL] at h
    split at h
    · rename_i a b ha hb
      obtain rfl := Option.some.inj h
      have := enc_len ha
      have := encL_len hb
      simp [elenL]
      omega
    · cases h
end
theorem encL_snoc : ∀ {l : List D} {d : D} {k : Nat} {a b : List Int}, encL l k = some a → enc d k = some b → encL (l ++ [d]) k = some (a ++ b)
  | [], d, k, a, b, h1, h2 => by
    simp only [encL, Option.some.injEq] at h1
    subst h1
    simp [encL, h2]
  | x :: l, d, k, a, b, h1, h2 => by
    simp only [encL] at h1
    split at h1
    · rename_i u v hu hv
      obtain rfl := Option.some.inj h1
      simp only [List.cons_append, encL, hu, encL_snoc hv h2, List.append_assoc]
    · cases h1
theorem elenL_take : ∀ {l : List D} {j : Nat} {x : D}, l[j]? = some x → elenL (l.take j) + elen x ≤ elenL l
  | d :: l, 0, x, h => by
    simp at h
    subst h
    simp [elenL]
  | d :: l, j + 1, x, h => by
    have := elenL_take (l := l) (j := j) (x := x) (by simpa using h)
    simp [elenL]
    omega
theorem encL_none : ∀ {l : List D} {d : D} {k : Nat}, d ∈ l → enc d k = none → encL l k = none
  | x :: l, d, k, hd, hn => by
    simp only [encL]
    rcases List.mem_cons.mp hd with rfl | hd
    · rw [hn]
    · rw [encL_none hd hn]
      cases enc x k <;> rfl
def sp_vb (m : Nat) : XS3 := fun ex l h k => ∃ (d : D) (depth : Nat), l = [d, .int depth] ∧ depth ≤ 60 ∧ 60 - depth < m ∧ RefsOk h d ∧ elen d ≤ 1000000 ∧ (enc d depth = none → ex (.int (-1)) h) ∧
  ∀ bs, enc d depth = some bs → ∀ p, h p = none → k (.ref p) (up h p (.lst (bs.map D.int)))
@[simp] theorem s_isB {b : Bool} {d : D} {h : H3} {k : K1} : T3.rIsB b d h k ↔ k (.bl (d.isB b)) h := Iff.rfl
@[simp] theorem s_isi_non {T : Ty} {h : H3} {k : K1} : T3.rIsi T .non h k ↔ k (.bl (D.isTy .non T)) h := Iff.rfl
@[simp] theorem s_isi_bl {T : Ty} {b : Bool} {h : H3} {k : K1} : T3.rIsi T (.bl b) h k ↔ k (.bl (D.isTy (.bl b) T)) h := Iff.rfl
@[simp] theorem s_isi_int {T : Ty} {b : Int} {h : H3} {k : K1} : T3.rIsi T (.int b) h k ↔ k (.bl (D.isTy (.int b) T)) h := Iff.rfl
@[simp] theorem s_isi_str {T : Ty} {b : Str} {h : H3} {k : K1} : T3.rIsi T (.str b) h k ↔ k (.bl (D.isTy (.str b) T)) h := Iff.rfl
@[simp] theorem s_isi_tup {T : Ty} {b : List D} {h : H3} {k : K1} : T3.rIsi T (.tup b) h k ↔ k (.bl (D.isTy (.tup b) T)) h := Iff.rfl
theorem isi_ref {T : Ty} {a : Addr} {h : H3} {k : K1} (hr : RefOk h a) (hT : T = .int ∨ T = .str ∨ T = .tuple) (q : k (.bl false) h) : T3.rIsi T (.ref a) h k := by
  rcases hr with hl | hd
  · refine .inl ⟨hl, ?_⟩
    rcases hT with rfl | rfl | rfl <;> exact q
  · exact .inr ⟨hd, q⟩
theorem new_sub {h h' : H3} {a : Addr} {o : O} (s : Sub h h') (e : h' a = some o) : Sub (up h a o) h' := fun b u q => by
  by_cases hb : b = a
  · subst hb; rw [up_same] at q; cases q; exact e
  · rw [up_ne hb] at q; exact s b u q
theorem up_none {a b : Addr} {g : H3} {o : O} (e : up g b o a = none) : a ≠ b ∧ g a = none := by
  have hne : a ≠ b := by rintro rfl; rw [up_same] at e; cases e
  rw [up_ne hne] at e
  exact ⟨hne, e⟩
theorem ok_value_bytes (m : Nat) : ∀ ex l h k, sp_vb m ex l h k → W_value_bytes sp_size sp_text (sp_vb (m - 1)) (exS ex) (en k) (ev0 N_value_bytes l) h := by
  rintro ex l h k ⟨d, depth, rfl, hdp, hm, hr, hsz, hno, post⟩
  simp [W_value_bytes, ev0]
  -- a head and a number's bytes
  have head : ∀ (c : Int) (n : Nat) (p0 : Addr), h p0 = none → (sizeB n).length < 10000000 → ∀ (kk : K1), (∀ p2 hb, h p2 = none → hb p2 = none → Sub h hb → kk (.ref p2) (up hb p2 (.lst ((c :: sizeB n).map D.int)))) →
      sp_size [.int n] (up h p0 (.lst [.int c])) fun e h2 => T3.rAdd (.ref p0) e h2 kk := by
    intro c n p0 n0 hl kk q
    refine ⟨(n : Int), rfl, by omega, by rw [Int.toNat_natCast]; omega, fun p1 n1 => ?_⟩
    obtain ⟨h10, n1'⟩ := up_none n1
    rw [Int.toNat_natCast]
    simp [up_ne h10.symm]
    refine ⟨by omega, fun p2 n2 => ?_⟩
    obtain ⟨h21, n2'⟩ := up_none n2
    obtain ⟨h20, n2''⟩ := up_none n2'
    have := q p2 _ n2'' n2 (((Sub.refl h).up n0).up n1')
    simpa using this
  cases d with
  | non =>
    simp
    exact fun p np => en_rt (by simpa using post [0] (by simp [enc]) p np)
  | bl b =>
    cases b <;> simp [D.isB]
    · exact fun p np => en_rt (by simpa using post [1] (by simp [enc]) p np)
    · exact fun p np => en_rt (by simpa using post [2] (by simp [enc]) p np)
  | int i =>
    simp [D.isB, D.isTy]
    simp only [elen] at hsz
    split
    · rename_i h0
      intro p0 n0
      rw [if_pos h0] at hsz
      have := head 3 i.toNat p0 n0 (by omega) (en k).rt fun p2 hb n2 _ s => en_rt' (post _ (by simp only [enc]; rw [if_pos h0]) p2 n2) (Sub.up_up s)
      rwa [Int.toNat_of_nonneg h0] at this
    · rename_i h0
      intro p0 n0
      rw [if_neg h0] at hsz
      have := head 4 (-1 - i).toNat p0 n0 (by omega) (en k).rt fun p2 hb n2 _ s => en_rt' (post _ (by simp only [enc]; rw [if_neg h0]) p2 n2) (Sub.up_up s)
      rwa [Int.toNat_of_nonneg (by omega)] at this
  | str x =>
    simp [D.isB, D.isTy, wLX]
    simp only [elen] at hsz
    refine ⟨x, rfl, by omega, by omega, fun h0 => ⟨h, Sub.refl h, hno (by simp only [enc, h0])⟩, fun bs hbs p np => ?_⟩
    exact en_rt (post _ (by simp only [enc, hbs]) p np)
  | ref a =>
    simp [D.isB]
    have hr' : RefOk h a := hr
    refine isi_ref hr' (.inl rfl) ?_
    simp
    refine isi_ref hr' (.inr (.inl rfl)) ?_
    simp
    refine isi_ref hr' (.inr (.inr rfl)) ?_
    simp [wRaise]
    exact ⟨h, Sub.refl h, hno (by simp [enc])⟩
  | tup l =>
    simp [D.isB, D.isTy]
    simp only [elen] at hsz
    have hll := elenL_len l
    split
    · rename_i h60
      simp [wRaise]
      exact ⟨h, Sub.refl h, hno (by simp only [enc]; rw [if_neg (by omega)])⟩
    · rename_i h60
      have h60 : depth < 60 := by omega
      intro p0 n0
      refine head 6 l.length p0 n0 (by omega) _ fun p2 hb n2 n2b s => ?_
      simp
      refine for_inv (fun j ρ h' => ∃ (y : Option D) (acc : List Int), ρ = [some (.tup l), some (.int depth), some (.ref p2), y] ∧ encL (l.take j) (depth + 1) = some acc ∧ h' p2 = some (.lst ((6 :: sizeB l.length ++ acc).map D.int)) ∧ Sub h h') (fun _ _ _ _ _ => trivial) ⟨none, [], rfl, rfl, by simp, s.up n2⟩ ?_ ?_
      · rintro j x ρ h' hx ⟨y, acc, rfl, ha, hp2, hs⟩ N hN
        have hmem := List.mem_of_getElem? hx
        have hel := elenL_mem hmem
        simp [wExtend, hp2, wLX]
        refine ⟨x, depth + 1, by simp, by omega, by omega, (RefsOkL.get hr x hmem).mono hs, by omega, fun h0 => ⟨h, hs, hno ?_⟩, fun bs hbs p np => ?_⟩
        · simp only [enc]; rw [if_pos h60, encL_none hmem h0]
        · have hne : p2 ≠ p := by rintro rfl; rw [hp2] at np; cases np
          have hl1 := encL_len ha
          have hl2 := enc_len hbs
          have hel2 : elenL (l.take j) + elen x ≤ elenL l := by
            have := elenL_take (l := l) (j := j) hx
            omega
          refine ⟨p, rfl, _, by rw [up_ne hne]; exact hp2, _, up_same, by simp; omega, hN _ _ ⟨_, acc ++ bs, rfl, ?_, ?_, ?_⟩⟩
          · rw [List.take_add_one, hx]
            exact encL_snoc ha hbs
          · simp
          · exact (hs.up (show h p = none by
              cases e : h p with
              | none => rfl
              | some o => have := hs _ _ e; rw [np] at this; cases this)).up n2
      · rintro ρ h' ⟨y, acc, rfl, ha, hp2, hs⟩
        rw [List.take_of_length_le (Nat.le_refl _)] at ha
        simp
        refine en_rt' (post _ (by simp only [enc]; rw [if_pos h60, ha]) p2 n2) (new_sub hs hp2)
end Lk06
end
-- GP3
section
set_option maxRecDepth 100000
set_option maxHeartbeats 4000000
namespace Lk06
open PySem PySem.Spec PyProof.Rows L2 T3 P06
/-- h without what stands at a -/
def wo (h : H3) (a : Addr) : H3 := fun x => if x = a then none else h x
theorem wo_sub {h : H3} {a : Addr} : Sub (wo h a) h := fun x o e => by
  unfold wo at e
  split at e
  · cases e
  · exact e
theorem wo_up {h : H3} {a : Addr} {o : O} : wo (up h a o) a = wo h a := by
  funext x
  unfold wo
  split
  · rfl
  · rename_i hx; rw [up_ne hx]
/-- the reader at a, on the bytes bs at b, at the place at_ -/
structure RdAt (C a b : Addr) (bs : List Int) (at_ : Nat) (h : H3) : Prop where
  ob : h a = some (.ins C n_Reader [.ref b, .int at_])
  li : h b = some (.lst (bs.map D.int))
theorem RdAt.ne {C a b : Addr} {bs : List Int} {at_ : Nat} {h : H3} (r : RdAt C a b bs at_ h) : b ≠ a := fun z => by
  have := r.ob
  rw [← z, r.li] at this; cases this
def rdO (C b : Addr) (at_ : Nat) : O := .ins C n_Reader [.ref b, .int at_]
theorem RdAt.move {C a b : Addr} {bs : List Int} {at_ at' : Nat} {h : H3} (r : RdAt C a b bs at_ h) : RdAt C a b bs at' (up h a (rdO C b at')) := ⟨up_same, by rw [up_ne r.ne]; exact r.li⟩
/-- a method that reads: what it does by f, from the place where the reader stands -/
def sp_rd {α : Type} (C : Addr) (f : List Int → Nat → Rd α) (toD : α → D) : XS3 := fun ex l h k => ∃ (a b : Addr) (bs : List Int) (at_ : Nat), l = [.ref a] ∧ RdAt C a b bs at_ h ∧ at_ ≤ bs.length ∧ bs.length ≤ 140000 ∧ (∀ x ∈ bs, 0 ≤ x ∧ x < 256) ∧
  match f bs at_ with
  | .error e => ex (.int e) (wo h a)
  | .ok (v, at') => k (toD v) (up h a (rdO C b at'))
def byteF (bs : List Int) (at_ : Nat) : Rd Int := match bs[at_]? with
  | none => .error bs.length
  | some b => .ok (b, at_ + 1)
theorem ok_byte (C : Addr) : ∀ ex l h k, sp_rd C byteF D.int ex l h k → W_Reader_byte C (exS ex) (en k) (ev0 N_Reader_byte l) h := by
  rintro ex l h k ⟨a, b, bs, at_, rfl, r, ha, hl, hb, post⟩
  have ho := r.ob
  have hli := r.li
  have hab := r.ne
  simp [W_Reader_byte, ev0, ho, hli, n_Reader]
  unfold byteF at post
  split
  · rename_i hge
    rw [List.getElem?_eq_none hge] at post
    simp [wRaise, ho, hli, n_Reader]
    exact ⟨_, wo_sub, post⟩
  · rename_i hlt
    have hlt : at_ < bs.length := by omega
    rw [List.getElem?_eq_getElem hlt] at post
    simp [wAugF, ho, hli, n_Reader, up_ne hab]
    have hix : atI (bs.map D.int) (at_ : Int) = some (.int bs[at_]) := atI_nat (by simp [hlt])
    exact ⟨_, hix, en_rt (by simpa [rdO, n_Reader] using post)⟩
theorem ok_size (C : Addr) : ∀ ex l h k, sp_rd C num (fun n => .int (n : Nat)) ex l h k → W_Reader_size C (sp_rd C byteF D.int) (exS ex) (en k) (ev0 N_Reader_size l) h := by
  rintro ex l h k ⟨a, b, bs, first, rfl, r, ha, hl, hb, post⟩
  have ho := r.ob
  have hli := r.li
  have hab := r.ne
  have hun : up h a (rdO C b first) = h := by
    funext x
    by_cases hx : x = a
    · rw [hx, up_same, ho]; rfl
    · rw [up_ne hx]
  -- a byte read at a place
  have byte : ∀ (at_ : Nat) (kk : K1), at_ ≤ bs.length → (bs[at_]? = none → ex (.int bs.length) (wo h a)) → (∀ v, bs[at_]? = some v → kk (.int v) (up h a (rdO C b (at_ + 1)))) →
      sp_rd C byteF D.int (exS ex) [.ref a] (up h a (rdO C b at_)) kk := by
    intro at_ kk hle h1 h2
    refine ⟨a, b, bs, at_, rfl, r.move, hle, hl, hb, ?_⟩
    unfold byteF
    cases e : bs[at_]? with
    | none => exact ⟨wo h a, by rw [wo_up]; exact Sub.refl _, h1 e⟩
    | some v => simpa using h2 v e
  generalize hV : num bs first = V at post
  unfold num at hV
  simp [W_Reader_size, ev0, ho, wMethX, n_Reader]
  -- the digit at p was read, V is still what the number is
  have unr : ∀ (p n shift f : Nat), numR bs (f + 1) p first n shift = (match bs[p]? with
    | none => .error bs.length
    | some b => if 128 ≤ b then numR bs f (p + 1) first (n + (b - 128).toNat * 2 ^ shift) (shift + 7)
      else if b = 0 ∧ first < p then .error p else .ok (n + b.toNat * 2 ^ shift, p + 1)) := fun p n shift f => rfl
  have b0 := fun kk => byte first kk ha
  rw [hun] at b0
  refine b0 _ (fun hno => ?_) (fun v hv => ?_)
  · rw [show bs.length + 1 - first = (bs.length - first) + 1 by omega, unr, hno] at hV
    subst hV
    exact post
  refine while_inv (fun m ρ h' => ∃ (p n shift : Nat) (digit : Int), m = bs.length - p ∧ ρ = [some (.ref a), some (.int first), some (.int n), some (.int shift), some (.int digit)] ∧ h' = up h a (rdO C b (p + 1)) ∧ bs[p]? = some digit ∧
    first ≤ p ∧ shift = 7 * (p - first) ∧ n < 2 ^ shift ∧ numR bs (bs.length + 1 - p) p first n shift = V) (m := bs.length - first) ⟨first, 0, 0, v, rfl, rfl, rfl, hv, Nat.le_refl _, by simp, by simp, hV⟩ ?_
  rintro m ρ h' ⟨p, n, shift, digit, rfl, rfl, rfl, hdg, hfp, hsh, hn, hV'⟩ N hN
  have hp : p < bs.length := (List.getElem?_eq_some_iff.mp hdg).1
  have hdb := hb digit (List.mem_of_getElem? hdg)
  rw [show bs.length + 1 - p = (bs.length - p) + 1 by omega, unr, hdg] at hV'
  dsimp only at hV'
  have hbit : ∀ x : Int, 0 ≤ x → Builtin.bitOr (n : Int) (x * 2 ^ shift) = ((n + x.toNat * 2 ^ shift : Nat) : Int) := fun x hx => by
    rw [Bits.bitOr_join (by omega) (by exact_mod_cast hn) hx]
    push_cast
    rw [Int.toNat_of_nonneg hx]
  have hs6 : shift ≤ 1000000 := by omega
  simp
  split
  · rename_i hge
    rw [if_pos hge] at hV'
    refine ⟨.inl ⟨by omega, by omega, by omega⟩, ?_⟩
    rw [hbit _ (by omega)]
    simp [wAug, wMethX, n_Reader]
    refine ⟨⟨_, rfl⟩, byte (p + 1) _ (by omega) (fun hno => ?_) (fun v hv => ?_)⟩
    · have hpl : bs.length ≤ p + 1 := List.getElem?_eq_none_iff.mp hno
      rw [show bs.length - p = 0 + 1 by omega, unr, hno] at hV'
      subst hV'
      exact post
    · have hlt2 : p + 1 < bs.length := (List.getElem?_eq_some_iff.mp hv).1
      refine hN _ _ _ (show bs.length - (p + 1) < _ by omega) ⟨p + 1, n + (digit - 128).toNat * 2 ^ shift, shift + 7, v, rfl, by simp, rfl, hv, by omega, by omega, ?_, ?_⟩
      · have h1 : (digit - 128).toNat ≤ 127 := by omega
        have h2 := Nat.mul_le_mul_right (2 ^ shift) h1
        rw [Nat.pow_add]
        omega
      · rw [show bs.length + 1 - (p + 1) = bs.length - p by omega]
        exact hV'
  · rename_i hlt
    rw [if_neg hlt] at hV'
    simp [rdO, n_Reader]
    have fin : ∀ h', h' = up h a (rdO C b (p + 1)) → ¬ (digit = 0 ∧ first < p) → ((shift : Int) ≤ 1000000 ∧ -18446744073709551616 < digit ∧ digit < 18446744073709551616 ∨ CShl digit shift) ∧ (en k).rt (D.int (Builtin.bitOr (n : Int) (digit * 2 ^ shift))) h' := fun h' e hno => by
      refine ⟨.inl ⟨by omega, by omega, by omega⟩, en_rt ?_⟩
      rw [hbit _ (by omega), e]
      rw [if_neg hno] at hV'
      subst hV'
      exact post
    split
    · rename_i h0
      split
      · rename_i hfp2
        rw [if_pos ⟨h0, hfp2⟩] at hV'
        subst hV'
        simp [wRaise, n_Reader]
        exact ⟨wo h a, fun x o e => by
          have e2 := wo_sub _ _ e
          unfold wo at e
          split at e
          · cases e
          · rename_i hx; rw [up_ne hx]; exact e2, post⟩
      · rename_i hfp2
        exact fin _ (by simp [rdO, n_Reader]) (fun z => hfp2 z.2)
    · rename_i h0
      exact fin _ (by simp [rdO, n_Reader]) (fun z => h0 z.1)
end Lk06
end
-- GP4
section
set_option maxRecDepth 100000
set_option maxHeartbeats 4000000
namespace P06
open PySem T3
variable {α : Type} {f : Nat → Rd α}
theorem many_snoc : ∀ {j a p q : Nat} {acc : List α} {v : α}, many f j a = .ok (acc, p) → f p = .ok (v, q) → many f (j + 1) a = .ok (acc ++ [v], q)
  | 0, a, p, q, acc, v, h1, h2 => by
    simp only [many, Except.ok.injEq, Prod.mk.injEq] at h1
    obtain ⟨rfl, rfl⟩ := h1
    simp [many, h2]
  | j + 1, a, p, q, acc, v, h1, h2 => by
    rw [many] at h1 ⊢
    split at h1
    · cases h1
    · rename_i w b hw
      split at h1
      · cases h1
      · rename_i l c hl
        simp only [Except.ok.injEq, Prod.mk.injEq] at h1
        obtain ⟨rfl, rfl⟩ := h1
        rw [many_snoc hl h2]
        simp
theorem many_err : ∀ {j n a p : Nat} {acc : List α} {e : Int}, many f j a = .ok (acc, p) → f p = .error e → j < n → many f n a = .error e
  | 0, n, a, p, acc, e, h1, h2, hn => by
    simp only [many, Except.ok.injEq, Prod.mk.injEq] at h1
    obtain ⟨rfl, rfl⟩ := h1
    obtain ⟨m, rfl⟩ : ∃ m, n = m + 1 := ⟨n - 1, by omega⟩
    simp [many, h2]
  | j + 1, n, a, p, acc, e, h1, h2, hn => by
    obtain ⟨m, rfl⟩ : ∃ m, n = m + 1 := ⟨n - 1, by omega⟩
    rw [many] at h1 ⊢
    split at h1
    · cases h1
    · rename_i w b hw
      split at h1
      · cases h1
      · rename_i l c hl
        simp only [Except.ok.injEq, Prod.mk.injEq] at h1
        obtain ⟨rfl, rfl⟩ := h1
        rw [many_err hl h2 (by omega)]
theorem many_len : ∀ {j a p : Nat} {acc : List α}, many f j a = .ok (acc, p) → acc.length = j
  | 0, a, p, acc, h1 => by
    simp only [many, Except.ok.injEq, Prod.mk.injEq] at h1
    obtain ⟨rfl, rfl⟩ := h1
    rfl
  | j + 1, a, p, acc, h1 => by
    rw [many] at h1
    split at h1
    · cases h1
    · split at h1
      · cases h1
      · rename_i l c hl
        simp only [Except.ok.injEq, Prod.mk.injEq] at h1
        obtain ⟨rfl, rfl⟩ := h1
        simp [many_len hl]
/-- a text -/
def textF (bs : List Int) (at_ : Nat) : Rd Str := match num bs at_ with
  | .error e => .error e
  | .ok (n, a) => match many (sign bs) n a with
    | .error e => .error e
    | .ok (l, b) => .ok (⟨l.toArray⟩, b)
theorem numR_le {bs : List Int} : ∀ {f p first n shift v q : Nat}, numR bs f p first n shift = .ok (v, q) → p < q ∧ q ≤ bs.length
  | 0, _, _, _, _, _, _, h => by simp [numR] at h
  | f + 1, p, first, n, shift, v, q, h => by
    simp only [numR] at h
    split at h
    · cases h
    · rename_i b hb
      have hp := (List.getElem?_eq_some_iff.mp hb).1
      split at h
      · have := numR_le h; omega
      · split at h
        · cases h
        · simp only [Except.ok.injEq, Prod.mk.injEq] at h
          omega
theorem num_le {bs : List Int} {a v q : Nat} (h : num bs a = .ok (v, q)) : a < q ∧ q ≤ bs.length := numR_le h
theorem sign_le {bs : List Int} {p q v : Nat} (h : sign bs p = .ok (v, q)) : q = p + 1 ∧ q ≤ bs.length := by
  unfold sign at h
  split at h
  · cases h
  · rename_i b hb
    have hp := (List.getElem?_eq_some_iff.mp hb).1
    split at h
    · cases h
    · simp only [Except.ok.injEq, Prod.mk.injEq] at h
      omega
theorem many_sign_at {bs : List Int} : ∀ {j a p : Nat} {acc : List Nat}, many (sign bs) j a = .ok (acc, p) → p = a + j
  | 0, a, p, acc, h1 => by
    simp only [many, Except.ok.injEq, Prod.mk.injEq] at h1
    obtain ⟨rfl, rfl⟩ := h1
    rfl
  | j + 1, a, p, acc, h1 => by
    rw [many] at h1
    split at h1
    · cases h1
    · rename_i w b hw
      split at h1
      · cases h1
      · rename_i l c hl
        simp only [Except.ok.injEq, Prod.mk.injEq] at h1
        obtain ⟨rfl, rfl⟩ := h1
        have := sign_le hw
        have := many_sign_at hl
        omega
theorem joinL_signs : ∀ l : List Nat, TL.joinL [] (l.map fun c => [c]) = l
  | [] => rfl
  | [c] => rfl
  | c :: d :: r => by
    have := joinL_signs (d :: r)
    show [c] ++ ([] ++ TL.joinL [] ((d :: r).map fun c => [c])) = _
    rw [this]; rfl
theorem join_signs (l : List Nat) : Txt.join (⟨#[]⟩ : Str) (l.map fun c => (⟨#[c]⟩ : Str)) = ⟨l.toArray⟩ := by
  rw [TL.join_eq]
  refine PySem.W.str_of_cps ?_
  have := TL.tl_join (⟨#[]⟩ : Str) (l.map fun c => (⟨#[c]⟩ : Str))
  rw [List.map_map] at this
  exact this.trans (joinL_signs l)
end P06
namespace Lk06
open PySem PySem.Spec PyProof.Rows L2 T3 P06
theorem ok_text (C : Addr) : ∀ ex l h k, sp_rd C textF D.str ex l h k → W_Reader_text C (sp_rd C num (fun n => .int (n : Nat))) (sp_rd C byteF D.int) (exS ex) (en k) (ev0 N_Reader_text l) h := by
  rintro ex l h k ⟨a, b, bs, at0, rfl, r, ha, hl, hb, post⟩
  have ho := r.ob
  have hli := r.li
  have hab := r.ne
  unfold textF at post
  simp [W_Reader_text, ev0, wMethX, fors_rgA]
  intro sp ns
  have hsa : a ≠ sp := by rintro rfl; rw [ho] at ns; cases ns
  have hsb : b ≠ sp := by rintro rfl; rw [hli] at ns; cases ns
  refine ⟨⟨_, by rw [up_ne hsa]; exact ho⟩, a, b, bs, at0, rfl, ⟨by rw [up_ne hsa]; exact ho, by rw [up_ne hsb]; exact hli⟩, ha, hl, hb, ?_⟩
  have wsub : ∀ (h' : H3), (∀ x o, x ≠ a → h x = some o → h' x = some o) → Sub (wo h a) h' := fun h' q x o e => by
    have e2 := wo_sub _ _ e
    unfold wo at e
    split at e
    · cases e
    · rename_i hx; exact q x o hx e2
  cases hn : num bs at0 with
  | error e =>
    rw [hn] at post
    refine ⟨wo h a, fun x o e => ?_, post⟩
    have e2 := wo_sub _ _ e
    unfold wo at e ⊢
    split at e
    · cases e
    · rename_i hx
      rw [if_neg hx, up_ne (by rintro rfl; rw [ns] at e2; cases e2)]
      exact e2
  | ok vq =>
    obtain ⟨n, q⟩ := vq
    rw [hn] at post
    have hq := num_le hn
    simp
    simp at post
    generalize hV : many (sign bs) n q = V at post
    have sub2 : ∀ h' : H3, (∀ x o, x ≠ a → h x = some o → h' x = some o) → Sub (wo h a) (wo h' a) := fun h' kp x o e => by
      have e2 := wo_sub _ _ e
      unfold wo at e ⊢
      split at e
      · cases e
      · rename_i hx; rw [if_neg hx]; exact kp x o hx e2
    have hln : ("abcdefghijklmnopqrstuvwxyz0123456789_" : Str).length = 37 := by decide +kernel
    refine for_inv (fun j ρ h' => ∃ (y z : Option D) (acc : List Nat) (p : Nat), ρ = [some (.ref a), some (.ref sp), y, z] ∧ many (sign bs) j q = .ok (acc, p) ∧ p ≤ bs.length ∧ h' a = some (rdO C b p) ∧ h' sp = some (.lst (acc.map fun c => D.str ⟨#[c]⟩)) ∧
      ∀ x o, x ≠ a → h x = some o → h' x = some o) (fun _ _ _ _ _ => trivial) ⟨none, none, [], q, rfl, rfl, hq.2, up_same, by rw [up_ne hsa.symm]; exact up_same, fun x o hx e => by
        rw [up_ne hx, up_ne (by rintro rfl; rw [ns] at e; cases e)]; exact e⟩ ?_ ?_
    · rintro j d ρ h' hd ⟨y, z, acc, p, rfl, hm, hpl, hoa, hos, kp⟩ N hN
      have hj : j < n := by
        rcases Nat.lt_or_ge j n with z | z
        · exact z
        · rw [List.getElem?_eq_none (by simpa [rgD] using z)] at hd; cases hd
      have hacc := many_len hm
      have hpa := many_sign_at hm
      simp [wMethX, hoa]
      refine ⟨⟨_, rfl⟩, a, b, bs, p, rfl, ⟨hoa, kp b _ hab hli⟩, hpl, hl, hb, ?_⟩
      unfold byteF
      cases e : bs[p]? with
      | none =>
        have := many_err hm (show sign bs p = .error bs.length by unfold sign; rw [e]) hj
        rw [hV] at this
        subst this
        exact ⟨wo h a, sub2 _ kp, post⟩
      | some v =>
        have hvb := hb v (List.mem_of_getElem? e)
        have hplt := (List.getElem?_eq_some_iff.mp e).1
        simp [hln]
        split
        · rename_i hge
          have := many_err hm (show sign bs p = .error p by unfold sign; rw [e]; simp [hge]) hj
          rw [hV] at this
          subst this
          simp [wRaise, rdO]
          exact ⟨wo h a, wsub _ (fun x o hx e => by rw [up_ne hx]; exact kp x o hx e), post⟩
        · rename_i hge
          have hsg : sign bs p = .ok (letters.getD v.toNat 0, p + 1) := by unfold sign; rw [e]; simp [hge]
          have hlt : v.toNat < letters.length := by
            have : letters.length = 37 := by decide +kernel
            omega
          have hix : atI ("abcdefghijklmnopqrstuvwxyz0123456789_" : Str).cps.toList v = some (letters.getD v.toNat 0) := by
            show atI letters v = _
            rw [atI_pos (by omega) (by omega)]
            simp [List.getD, hlt]
          simp [wAppend, up_ne hsa.symm, hos, hln, hix]
          refine ⟨by omega, hN _ _ ⟨_, _, acc ++ [letters.getD v.toNat 0], p + 1, rfl, many_snoc hm hsg, hplt, by rw [up_ne hsa]; exact up_same, by simp, fun x o hx e => ?_⟩⟩
          rw [up_ne (by rintro rfl; rw [ns] at e; cases e), up_ne hx]
          exact kp x o hx e
    · rintro ρ h' ⟨y, z, acc, p, rfl, hm, hpl, hoa, hos, kp⟩
      rw [show (rgD 0 n).length = n by simp [rgD]] at hm
      rw [hV] at hm
      subst hm
      have hacc := many_len hV
      have hpa := many_sign_at hV
      have hsum : ∀ l : List Nat, ((l.map fun c => (⟨#[c]⟩ : Str)).map fun x => x.length).sum = l.length := fun l => by
        induction l with
        | nil => rfl
        | cons c l ih => simp only [List.map_cons, List.sum_cons, ih, List.length_cons]; show 1 + _ = _; omega
      simp [wJoin]
      refine ⟨acc.map fun c => (⟨#[c]⟩ : Str), by rw [hos]; simp [Function.comp_def], ?_, en_rt' ?_ (show Sub (up h a (rdO C b p)) h' from fun x o e => ?_)⟩
      · rw [hsum]
        show _ + _ * 0 ≤ _
        omega
      · rw [show Txt.join (Str.ofString "") (acc.map fun c => (⟨#[c]⟩ : Str)) = ⟨acc.toArray⟩ from join_signs acc]
        exact post
      · by_cases hx : x = a
        · subst hx; rw [up_same] at e; cases e; exact hoa
        · rw [up_ne hx] at e; exact kp x o hx e
end Lk06
end
-- GP5
section
set_option maxRecDepth 100000
set_option maxHeartbeats 4000000
namespace P06
open PySem T3
theorem many_le {α : Type} {f : Nat → Rd α} {L : Nat} (hf : ∀ p v q, f p = .ok (v, q) → p < q ∧ q ≤ L) : ∀ {j a p : Nat} {acc : List α}, many f j a = .ok (acc, p) → a ≤ L → a + j ≤ p ∧ p ≤ L
  | 0, a, p, acc, h1, ha => by
    simp only [many, Except.ok.injEq, Prod.mk.injEq] at h1
    obtain ⟨rfl, rfl⟩ := h1
    omega
  | j + 1, a, p, acc, h1, ha => by
    rw [many] at h1
    split at h1
    · cases h1
    · rename_i w b hw
      split at h1
      · cases h1
      · rename_i l c hl
        simp only [Except.ok.injEq, Prod.mk.injEq] at h1
        obtain ⟨rfl, rfl⟩ := h1
        have h2 := hf _ _ _ hw
        have := many_le hf hl h2.2
        omega
theorem dec_le' {bs : List Int} (lvl : Nat) (ih : ∀ m, lvl = m + 1 → ∀ p v q, dec bs m p = .ok (v, q) → p < q ∧ q ≤ bs.length) : ∀ p v q, dec bs lvl p = .ok (v, q) → p < q ∧ q ≤ bs.length := by
  intro p v q h
  unfold dec at h
  split at h
  · cases h
  rename_i c hc
  have hp := (List.getElem?_eq_some_iff.mp hc).1
  split at h
  · cases h
  split at h
  · simp only [Except.ok.injEq, Prod.mk.injEq] at h; omega
  split at h
  · simp only [Except.ok.injEq, Prod.mk.injEq] at h; omega
  split at h
  · simp only [Except.ok.injEq, Prod.mk.injEq] at h; omega
  split at h
  · cases h
  rename_i n a hn
  have hn := num_le hn
  split at h
  · simp only [Except.ok.injEq, Prod.mk.injEq] at h; omega
  split at h
  · simp only [Except.ok.injEq, Prod.mk.injEq] at h; omega
  split at h
  · split at h
    · cases h
    · rename_i l b hm
      have := many_le (L := bs.length) (fun p v q h => by have := sign_le h; omega) hm hn.2
      simp only [Except.ok.injEq, Prod.mk.injEq] at h; omega
  split at h
  · cases h
  rename_i m
  split at h
  · cases h
  rename_i l b hm
  have := many_le (L := bs.length) (ih _ rfl) hm hn.2
  simp only [Except.ok.injEq, Prod.mk.injEq] at h; omega
theorem dec_le {bs : List Int} : ∀ (lvl p : Nat) (v : D) (q : Nat), dec bs lvl p = .ok (v, q) → p < q ∧ q ≤ bs.length
  | 0 => dec_le' 0 fun m h => by omega
  | lvl + 1 => dec_le' (lvl + 1) fun m h => by
    have : m = lvl := by omega
    subst this
    exact dec_le m
end P06
namespace Lk06
open PySem PySem.Spec PyProof.Rows L2 T3 P06
def sp_rv (C : Addr) (m : Nat) : XS3 := fun ex l h k => ∃ (a b : Addr) (bs : List Int) (at_ depth : Nat), l = [.ref a, .int depth] ∧ depth ≤ 60 ∧ 60 - depth < m ∧ RdAt C a b bs at_ h ∧ at_ ≤ bs.length ∧ bs.length ≤ 140000 ∧ (∀ x ∈ bs, 0 ≤ x ∧ x < 256) ∧
  match dec bs (60 - depth) at_ with
  | .error e => ex (.int e) (wo h a)
  | .ok (v, at') => k v (up h a (rdO C b at'))
theorem ok_value (C : Addr) (m : Nat) : ∀ ex l h k, sp_rv C m ex l h k → W_Reader_value C (sp_rd C byteF D.int) (sp_rd C textF D.str) (sp_rd C num (fun n => .int (n : Nat))) (sp_rv C (m - 1)) (exS ex) (en k) (ev0 N_Reader_value l) h := by
  rintro ex l h k ⟨a, b, bs, at0, depth, rfl, hdp, hm, r, ha, hl, hb, post⟩
  have ho := r.ob
  have hli := r.li
  have hab := r.ne
  have subA : ∀ h' : H3, (∀ x o, x ≠ a → h x = some o → h' x = some o) → Sub (wo h a) (wo h' a) := fun h' kp x o e => by
    have e2 := wo_sub _ _ e
    unfold wo at e ⊢
    split at e
    · cases e
    · rename_i hx; rw [if_neg hx]; exact kp x o hx e2
  have subB : ∀ h' : H3, (∀ x o, x ≠ a → h x = some o → h' x = some o) → Sub (wo h a) h' := fun h' kp => (subA h' kp).trans wo_sub
  simp [W_Reader_value, ev0, wMethX, ho, n_Reader]
  refine ⟨a, b, bs, at0, rfl, r, ha, hl, hb, ?_⟩
  unfold byteF
  unfold dec at post
  cases hc : bs[at0]? with
  | none =>
    rw [hc] at post
    exact ⟨wo h a, Sub.refl _, post⟩
  | some c =>
    rw [hc] at post
    dsimp only at post
    have hcb := hb c (List.mem_of_getElem? hc)
    have hat := (List.getElem?_eq_some_iff.mp hc).1
    have raise_ : 6 < c ∨ (c = 6 ∧ 60 - depth = 0) → ex (.int at0) (wo h a) := fun hq => by
      rw [if_pos hq] at post
      exact post
    have keep1 : ∀ (p : Nat), ∀ x o, x ≠ a → h x = some o → (up h a (rdO C b p)) x = some o := fun p x o hx e => by rw [up_ne hx]; exact e
    have r1 : RdAt C a b bs (at0 + 1) (up h a (rdO C b (at0 + 1))) := r.move
    simp only [List.set_cons_zero, List.set_cons_succ]
    by_cases hbad : 6 < c ∨ (c = 6 ∧ 60 - depth = 0)
    · have hw := raise_ hbad
      have hex : exS ex (.int at0) (up h a (rdO C b (at0 + 1))) := ⟨wo h a, subB _ (keep1 _), hw⟩
      rcases hbad with h6 | ⟨h6, h60⟩
      · simp [h6, wRaise]
        exact hex
      · have : (60 : Int) ≤ depth := by omega
        simp [h6, this, wRaise]
        exact hex
    · rw [if_neg hbad] at post
      have hn6 : ¬ 6 < c := fun z => hbad (.inl z)
      have hun2 : ∀ p, up (up h a (rdO C b (at0 + 1))) a (rdO C b p) = up h a (rdO C b p) := fun p => up_up
      -- a number behind the code
      have size : ∀ (kk : K1), (∀ e, num bs (at0 + 1) = .error e → ex (.int e) (wo h a)) → (∀ n q, num bs (at0 + 1) = .ok (n, q) → kk (.int (n : Nat)) (up h a (rdO C b q))) →
          sp_rd C num (fun n => .int (n : Nat)) (exS ex) [.ref a] (up h a (rdO C b (at0 + 1))) kk := fun kk q1 q2 => by
        refine ⟨a, b, bs, at0 + 1, rfl, r1, hat, hl, hb, ?_⟩
        cases e : num bs (at0 + 1) with
        | error e' => exact ⟨wo h a, by rw [wo_up]; exact Sub.refl _, q1 _ e⟩
        | ok v => obtain ⟨n, q⟩ := v; simpa using q2 n q e
      have hcs : c = 0 ∨ c = 1 ∨ c = 2 ∨ c = 3 ∨ c = 4 ∨ c = 5 ∨ c = 6 := by omega
      rcases hcs with rfl | rfl | rfl | rfl | rfl | rfl | rfl
      · simp at post
        simp
        exact en_rt post
      · simp at post
        simp
        exact en_rt post
      · simp at post
        simp
        exact en_rt post
      · simp at post
        simp [wMethX, n_Reader]
        refine ⟨⟨_, rfl⟩, size _ (fun e he => ?_) (fun n q hq => ?_)⟩
        · rw [he] at post; exact post
        · rw [hq] at post; exact en_rt (by simpa using post)
      · simp at post
        simp [wMethX, n_Reader]
        refine ⟨⟨_, rfl⟩, size _ (fun e he => ?_) (fun n q hq => ?_)⟩
        · rw [he] at post; exact post
        · rw [hq] at post; simp; exact en_rt (by simpa using post)
      · simp at post
        simp [wMethX, n_Reader]
        refine ⟨⟨_, rfl⟩, a, b, bs, at0 + 1, rfl, r1, hat, hl, hb, ?_⟩
        unfold textF
        cases hn : num bs (at0 + 1) with
        | error e =>
          rw [hn] at post
          exact ⟨wo h a, by rw [wo_up]; exact Sub.refl _, post⟩
        | ok nq =>
          obtain ⟨n, q⟩ := nq
          rw [hn] at post
          dsimp only at post ⊢
          cases hmn : many (sign bs) n q with
          | error e =>
            rw [hmn] at post
            exact ⟨wo h a, by rw [wo_up]; exact Sub.refl _, post⟩
          | ok lp =>
            obtain ⟨l, p⟩ := lp
            rw [hmn] at post
            dsimp only at post ⊢
            rw [hun2]
            exact en_rt post
      · have hd60 : depth < 60 := by
          rcases Nat.lt_or_ge depth 60 with z | z
          · exact z
          · exact absurd (.inr ⟨rfl, by omega⟩) hbad
        obtain ⟨lvl, hlvl⟩ : ∃ lvl, 60 - depth = lvl + 1 := ⟨60 - depth - 1, by omega⟩
        have hd60' : ¬ (60 : Int) ≤ depth := by omega
        rw [hlvl] at post
        simp at post
        simp [hd60', wMethX, n_Reader]
        refine ⟨⟨_, rfl⟩, size _ (fun e he => ?_) (fun n q hq => ?_)⟩
        · rw [he] at post; exact post
        rw [hq] at post
        dsimp only at post
        have hqb := num_le hq
        simp [fors_rgA]
        intro sp ns
        obtain ⟨hsa, ns'⟩ := up_none ns
        generalize hV : many (dec bs lvl) n q = V at post
        refine for_inv (fun j ρ h' => ∃ (y : Option D) (acc : List D) (p : Nat), ρ = [some (.ref a), some (.int depth), some (.int at0), some (.int 6), some (.int n), some (.ref sp), y] ∧ many (dec bs lvl) j q = .ok (acc, p) ∧ p ≤ bs.length ∧ h' a = some (rdO C b p) ∧ h' sp = some (.lst acc) ∧
          ∀ x o, x ≠ a → h x = some o → h' x = some o) (fun _ _ _ _ _ => trivial) ⟨none, [], q, rfl, rfl, hqb.2, by rw [up_ne hsa.symm]; exact up_same, up_same, fun x o hx e => by
            rw [up_ne (by rintro rfl; rw [ns'] at e; cases e), up_ne hx]; exact e⟩ ?_ ?_
        · rintro j d ρ h' hd ⟨y, acc, p, rfl, hmj, hpl, hoa, hos, kp⟩ N hN
          have hj : j < n := by
            rcases Nat.lt_or_ge j n with z | z
            · exact z
            · rw [List.getElem?_eq_none (by simpa [rgD] using z)] at hd; cases hd
          have hacc := many_len hmj
          have hle := many_le (L := bs.length) (dec_le lvl) hmj hqb.2
          simp [wAppend, wMethX, hoa, hos]
          refine ⟨⟨_, rfl⟩, a, b, bs, p, depth + 1, by simp, by omega, by omega, ⟨hoa, kp b _ hab hli⟩, hpl, hl, hb, ?_⟩
          rw [show 60 - (depth + 1) = lvl by omega]
          cases e : dec bs lvl p with
          | error er =>
            have := many_err hmj e hj
            rw [hV] at this
            subst this
            exact ⟨wo h a, subA _ kp, post⟩
          | ok vp =>
            obtain ⟨v, p'⟩ := vp
            have hp' := dec_le lvl _ _ _ e
            simp [up_ne hsa, hos]
            refine ⟨by omega, hN _ _ ⟨_, acc ++ [v], p', rfl, many_snoc hmj e, hp'.2, by rw [up_ne hsa.symm]; exact up_same, up_same, fun x o hx e => ?_⟩⟩
            rw [up_ne (by rintro rfl; rw [ns'] at e; cases e), up_ne hx]
            exact kp x o hx e
        · rintro ρ h' ⟨y, acc, p, rfl, hmj, hpl, hoa, hos, kp⟩
          rw [show (rgD 0 n).length = n by simp [rgD]] at hmj
          rw [hV] at hmj
          subst hmj
          simp [hos]
          refine en_rt' post (fun x o e => ?_)
          by_cases hx : x = a
          · subst hx; rw [up_same] at e; cases e; exact hoa
          · rw [up_ne hx] at e; exact kp x o hx e
end Lk06
end
-- GP6
section
set_option maxRecDepth 100000
set_option maxHeartbeats 4000000
namespace Lk06
open PySem PySem.Spec PyProof.Rows L2 T3 P06
def sp_init (C : Addr) : Sp3 := fun l h k => ∃ x b : Addr, l = [.ref x, .ref b] ∧ h x = some (.ins C n_Reader []) ∧ k .non (up h x (rdO C b 0))
theorem ok_init (C : Addr) : ∀ l h k, sp_init C l h k → W_Reader_init C (en k) (ev0 N_Reader_init l) h := by
  rintro l h k ⟨x, b, rfl, hx, post⟩
  simp [W_Reader_init, ev0, wSetF, hx]
  exact ⟨by simp [putAtD], ⟨_, Sub.refl _, post⟩⟩
def sp_unpack : XS3 := fun ex l h k => ∃ (d : Addr) (bs : List Int), l = [.ref d] ∧ h d = some (.lst (bs.map D.int)) ∧ bs.length ≤ 140000 ∧ (∀ x ∈ bs, 0 ≤ x ∧ x < 256) ∧
  match decAll bs with
  | .error e => ex (.int e) h
  | .ok v => k v h
theorem ok_unpack (C : Addr) (m : Nat) (hm : 60 < m) : ∀ ex l h k, sp_unpack ex l h k → W_unpack C (sp_init C) (sp_rv C m) (exS ex) (en k) (ev0 N_unpack l) h := by
  rintro ex l h k ⟨d, bs, rfl, hd, hl, hb, post⟩
  simp [W_unpack, ev0, hd, wMake, wMethX]
  intro b nb x nx
  obtain ⟨hxb, nx'⟩ := up_none nx
  refine ⟨x, b, rfl, up_same, rfl, ?_⟩
  simp
  have hbx : b ≠ x := hxb.symm
  have hsub : ∀ p, Sub h (up (up (up h b (.lst (bs.map D.int))) x (rdO C b 0)) x (rdO C b p)) := fun p y o e => by
    have h1 : y ≠ x := by rintro rfl; rw [nx'] at e; cases e
    have h2 : y ≠ b := by rintro rfl; rw [nb] at e; cases e
    rw [up_ne h1, up_ne h1, up_ne h2]; exact e
  refine ⟨⟨_, rfl⟩, x, b, bs, 0, 0, rfl, by omega, by omega, ⟨up_same, by rw [up_ne hbx]; exact up_same⟩, Nat.zero_le _, hl, hb, ?_⟩
  unfold decAll at post
  show match dec bs 60 0 with
    | .error e => _
    | .ok (v, at') => _
  cases e : dec bs 60 0 with
  | error er =>
    rw [e] at post
    refine ⟨h, fun y o e => ?_, post⟩
    have h1 : y ≠ x := by rintro rfl; rw [nx'] at e; cases e
    have h2 : y ≠ b := by rintro rfl; rw [nb] at e; cases e
    unfold wo
    rw [if_neg h1, up_ne h1, up_ne h2]; exact e
  | ok vq =>
    obtain ⟨v, q⟩ := vq
    rw [e] at post
    dsimp only at post
    have hsubq := hsub q
    rw [up_up] at hsubq
    simp [rdO, up_ne hbx]
    split
    · rename_i hlt
      rw [if_pos hlt] at post
      simp [wRaise]
      exact ⟨h, hsubq, post⟩
    · rename_i hlt
      rw [if_neg hlt] at post
      exact en_rt' post hsubq
def sp_pack : XS3 := fun ex l h k => ∃ d : D, l = [d] ∧ RefsOk h d ∧ elen d ≤ 1000000 ∧ (enc d 0 = none → ex (.int (-1)) h) ∧
  ∀ bs, enc d 0 = some bs → ∀ p, h p = none → k (.ref p) (up h p (.lst (bs.map D.int)))
theorem ok_pack (m : Nat) (hm : 60 < m) : ∀ ex l h k, sp_pack ex l h k → W_pack (sp_vb m) (exS ex) (en k) (ev0 N_pack l) h := by
  rintro ex l h k ⟨d, rfl, hr, he, hno, post⟩
  simp [W_pack, ev0, wLX]
  exact ⟨d, 0, rfl, by omega, by omega, hr, he, fun h0 => ⟨h, Sub.refl _, hno h0⟩, fun bs hbs p np => en_rt (post bs hbs p np)⟩
end Lk06
end
-- GP7
section
set_option maxRecDepth 100000
set_option maxHeartbeats 4000000
namespace Lk06
open PySem PySem.Spec PyProof.Rows L2 T3 P06
theorem ok_lsize : ∀ l h k, sp_size l h k → W_l_size (en k) (ev0 N_l_size l) h := by
  rintro l h k ⟨n, rfl, hn, hlen, post⟩
  simp [W_l_size, ev0]
  intro p np
  refine while_inv (fun m ρ h' => ∃ (n1 : Nat) (acc : List Int), m = n1 ∧ ρ = [some (.int n1), some (.ref p)] ∧ h' = up h p (.lst (acc.map D.int)) ∧ acc ++ sizeB n1 = sizeB n.toNat) (m := n.toNat) ⟨n.toNat, [], rfl, by rw [Int.toNat_of_nonneg hn], rfl, rfl⟩ ?_
  rintro m ρ h' ⟨n1, acc, rfl, rfl, rfl, e⟩ N hN
  have hal := congrArg List.length e
  rw [List.length_append] at hal
  simp
  split
  · rename_i h128
    have h128 : ¬ m < 128 := by omega
    have hs := sizeB_ge h128
    simp [wAppend]
    exact ⟨by omega, hN _ _ _ (by omega) ⟨m / 128, acc ++ [((m % 128 + 128 : Nat) : Int)], rfl, by simp, by simp, by rw [← e, hs]; simp⟩⟩
  · rename_i h128
    have h128 : m < 128 := by omega
    rw [sizeB_lt h128] at e
    intro p1 n1
    obtain ⟨h10, n1'⟩ := up_none n1
    refine ⟨_, by rw [up_ne h10.symm]; exact up_same, by simp; rw [sizeB_lt h128] at hal; simp at hal; omega, fun p2 n2 => ?_⟩
    obtain ⟨h21, n2'⟩ := up_none n2
    obtain ⟨h20, n2''⟩ := up_none n2'
    have := post p2 n2''
    rw [← e] at this
    refine en_rt' this ?_
    have hs : Sub h (up (up h p (.lst (acc.map D.int))) p1 (.lst [D.int m])) := ((Sub.refl h).up np).up n1'
    simpa using Sub.up_up hs
def sp_signs : Sp3 := fun l h k => l = [] ∧ k (.str "abcdefghijklmnopqrstuvwxyz0123456789_") h
theorem ok_lsigns : ∀ l h k, sp_signs l h k → W_l_signs (en k) (ev0 N_l_signs l) h := by
  rintro l h k ⟨rfl, post⟩
  simp [W_l_signs]
  exact en_rt post
/-- the law's reading of a number: (n, behind, -1) or (0, 0, wrong) -/
def numD : Rd Nat → D
  | .error e => .tup [.int 0, .int 0, .int e]
  | .ok (n, q) => .tup [.int (n : Nat), .int q, .int (-1)]
def sp_num : Sp3 := fun l h k => ∃ (d : Addr) (bs : List Int) (at_ : Nat), l = [.ref d, .int at_] ∧ h d = some (.lst (bs.map D.int)) ∧ at_ ≤ bs.length ∧ bs.length ≤ 140000 ∧ (∀ x ∈ bs, 0 ≤ x ∧ x < 256) ∧ k (numD (num bs at_)) h
theorem ok_lnumber : ∀ l h k, sp_num l h k → W_l_number (en k) (ev0 N_l_number l) h := by
  rintro l h k ⟨d, bs, first, rfl, hd, ha, hl, hb, post⟩
  simp [W_l_number, ev0]
  generalize hV : num bs first = V at post
  unfold num at hV
  refine while_inv (fun m ρ h' => ∃ (j n : Nat), m = bs.length + 1 - (first + j) ∧ ρ = [some (.ref d), some (.int first), some (.int n), some (.int j)] ∧ h' = h ∧ first + j ≤ bs.length ∧ numR bs (bs.length + 1 - (first + j)) (first + j) first n (7 * j) = V) (m := bs.length + 1 - first) ⟨0, 0, rfl, rfl, rfl, ha, hV⟩ ?_
  rintro m ρ h' ⟨j, n, rfl, rfl, rfl, hj, hV'⟩ N hN
  rw [show bs.length + 1 - (first + j) = (bs.length - (first + j)) + 1 by omega] at hV'
  simp only [numR] at hV'
  simp [hd]
  split
  · rename_i hge
    rw [List.getElem?_eq_none (by omega)] at hV'
    dsimp only at hV'
    subst hV'
    exact en_rt post
  · rename_i hlt
    have hlt : first + j < bs.length := by omega
    rw [List.getElem?_eq_getElem hlt] at hV'
    dsimp only at hV'
    have hix : atI (bs.map D.int) ((first : Int) + j) = some (.int bs[first + j]) := by
      rw [show ((first : Int) + j) = ((first + j : Nat) : Int) by push_cast; rfl]
      exact atI_nat (by simp [hlt])
    have hbb := hb bs[first + j] (List.getElem_mem _)
    generalize bs[first + j] = b at hV' hix hbb
    have h7 : (7 * (j : Int)).toNat = 7 * j := by omega
    simp [hix, hd, h7]
    refine ⟨⟨by omega, .inl (by omega)⟩, .inl ⟨by omega, by omega⟩, ?_⟩
    have low : b < 128 → ((n : Int) + b % 128 * 2 ^ (7 * j)) = ((n + b.toNat * 2 ^ (7 * j) : Nat) : Int) := fun h => by
      push_cast
      rw [Int.toNat_of_nonneg hbb.1, Int.emod_eq_of_lt hbb.1 h]
    have high : 128 ≤ b → ((n : Int) + b % 128 * 2 ^ (7 * j)) = ((n + (b - 128).toNat * 2 ^ (7 * j) : Nat) : Int) := fun h => by
      push_cast
      rw [Int.toNat_of_nonneg (by omega), show b % 128 = b - 128 by omega]
    have fin : b < 128 → ¬ (b = 0 ∧ first < first + j) → (en k).rt (D.tup [D.int ((n : Int) + b % 128 * 2 ^ (7 * j)), D.int (first + j + 1), D.int (-1)]) h' := fun h1 h2 => by
      rw [if_neg (by omega), if_neg h2] at hV'
      subst hV'
      rw [low h1]
      exact en_rt (by simpa [numD] using post)
    split
    · rename_i h128
      split
      · rename_i h0
        split
        · rename_i hj0
          rw [if_neg (by omega), if_pos ⟨h0, by omega⟩] at hV'
          subst hV'
          exact en_rt (by simpa [numD] using post)
        · rename_i hj0
          exact fin h128 (fun z => hj0 (by omega))
      · rename_i h0
        exact fin h128 (fun z => h0 z.1)
    · rename_i h128
      have h128 : 128 ≤ b := by omega
      rw [if_pos h128] at hV'
      rw [high h128]
      refine hN _ _ _ (show bs.length + 1 - (first + (j + 1)) < _ by omega) ⟨j + 1, n + (b - 128).toNat * 2 ^ (7 * j), rfl, by simp, rfl, by omega, ?_⟩
      rw [show bs.length + 1 - (first + (j + 1)) = bs.length - (first + j) by omega, show first + (j + 1) = first + j + 1 by omega, show 7 * (j + 1) = 7 * j + 7 by omega]
      exact hV'
end Lk06
end
-- GP8
section
set_option maxRecDepth 100000
set_option maxHeartbeats 4000000
namespace P06
open PySem T3
theorem numR_err {bs : List Int} : ∀ {f p first n shift : Nat} {e : Int}, numR bs f p first n shift = .error e → 0 ≤ e
  | 0, _, _, _, _, _, h => by simp only [numR, Except.error.injEq] at h; omega
  | f + 1, p, first, n, shift, e, h => by
    simp only [numR] at h
    split at h
    · simp only [Except.error.injEq] at h; omega
    · split at h
      · exact numR_err h
      · split at h
        · simp only [Except.error.injEq] at h; omega
        · cases h
theorem num_err {bs : List Int} {a : Nat} {e : Int} (h : num bs a = .error e) : 0 ≤ e := numR_err h
theorem sign_err {bs : List Int} {a : Nat} {e : Int} (h : sign bs a = .error e) : 0 ≤ e := by
  unfold sign at h
  split at h
  · simp only [Except.error.injEq] at h; omega
  · split at h
    · simp only [Except.error.injEq] at h; omega
    · cases h
theorem many_errN {α : Type} {f : Nat → Rd α} (hf : ∀ p e, f p = .error e → 0 ≤ e) : ∀ {n a : Nat} {e : Int}, many f n a = .error e → 0 ≤ e
  | 0, a, e, h => by simp [many] at h
  | n + 1, a, e, h => by
    rw [many] at h
    split at h
    · rename_i e' he
      simp only [Except.error.injEq] at h
      have := hf _ _ he
      omega
    · split at h
      · rename_i e' he
        simp only [Except.error.injEq] at h
        have := many_errN hf he
        omega
      · cases h
theorem dec_err' {bs : List Int} (lvl : Nat) (ih : ∀ m, lvl = m + 1 → ∀ p e, dec bs m p = .error e → 0 ≤ e) : ∀ p e, dec bs lvl p = .error e → 0 ≤ e := by
  intro p e h
  unfold dec at h
  split at h
  · simp only [Except.error.injEq] at h; omega
  split at h
  · simp only [Except.error.injEq] at h; omega
  split at h
  · cases h
  split at h
  · cases h
  split at h
  · cases h
  split at h
  · rename_i e' he
    simp only [Except.error.injEq] at h
    have := num_err he
    omega
  split at h
  · cases h
  split at h
  · cases h
  split at h
  · split at h
    · rename_i e' he
      simp only [Except.error.injEq] at h
      have := many_errN (fun _ _ => sign_err) he
      omega
    · cases h
  split at h
  · simp only [Except.error.injEq] at h; omega
  split at h
  · rename_i e' he
    simp only [Except.error.injEq] at h
    have := many_errN (ih _ rfl) he
    omega
  · cases h
theorem dec_err {bs : List Int} : ∀ (lvl p : Nat) (e : Int), dec bs lvl p = .error e → 0 ≤ e
  | 0 => dec_err' 0 fun m h => by omega
  | lvl + 1 => dec_err' (lvl + 1) fun m h => by
    have : m = lvl := by omega
    subst this
    exact dec_err m
end P06
namespace Lk06
open PySem PySem.Spec PyProof.Rows L2 T3 P06
def sp_lread (m : Nat) : Sp3 := fun l h k => ∃ (d : Addr) (bs : List Int) (at_ depth : Nat), l = [.ref d, .int at_, .int depth] ∧ depth ≤ 60 ∧ 60 - depth < m ∧ h d = some (.lst (bs.map D.int)) ∧ at_ ≤ bs.length ∧ bs.length ≤ 140000 ∧ (∀ x ∈ bs, 0 ≤ x ∧ x < 256) ∧
  match dec bs (60 - depth) at_ with
  | .error e => ∀ x y, k (.tup [x, y, .int e]) h
  | .ok (v, q) => k (.tup [v, .int q, .int (-1)]) h
theorem ok_lread (m : Nat) : ∀ l h k, sp_lread m l h k → W_l_read sp_num (sp_lread (m - 1)) sp_signs (en k) (ev0 N_l_read l) h := by
  rintro l h k ⟨d, bs, at0, depth, rfl, hdp, hm, hd, ha, hl, hb, post⟩
  simp [W_l_read, ev0, hd]
  unfold dec at post
  split
  · rename_i hge
    rw [List.getElem?_eq_none (by omega)] at post
    exact en_rt (post _ _)
  rename_i hlt
  have hlt : at0 < bs.length := by omega
  rw [List.getElem?_eq_getElem hlt] at post
  dsimp only at post
  have hix : atI (bs.map D.int) (at0 : Int) = some (.int bs[at0]) := atI_nat (by simp [hlt])
  have hcb := hb bs[at0] (List.getElem_mem _)
  generalize bs[at0] = c at post hix hcb
  simp [hix]
  by_cases hbad : 6 < c ∨ (c = 6 ∧ 60 - depth = 0)
  · rw [if_pos hbad] at post
    have hex : (en k).rt (.tup [.non, .int 0, .int at0]) h := en_rt (post _ _)
    rcases hbad with h6 | ⟨h6, h60⟩
    · simp [h6]
      exact hex
    · have : (depth : Int) = 60 := by omega
      simp [h6, this]
      exact hex
  · rw [if_neg hbad] at post
    have hcs : c = 0 ∨ c = 1 ∨ c = 2 ∨ c = 3 ∨ c = 4 ∨ c = 5 ∨ c = 6 := by omega
    have hnum : ∀ kk : K1, kk (numD (num bs (at0 + 1))) h → sp_num [.ref d, .int ((at0 : Int) + 1)] h kk := fun kk q =>
      ⟨d, bs, at0 + 1, by simp, hd, hlt, hl, hb, q⟩
    have hd60 : c = 6 → ¬ (depth : Int) = 60 := fun z w => hbad (.inr ⟨z, by omega⟩)
    rcases hcs with rfl | rfl | rfl | rfl | rfl | rfl | rfl
    · simp at post ⊢
      intro p np
      exact en_rt' post ((Sub.refl h).up np)
    · simp at post ⊢
      intro p np
      exact en_rt' post ((Sub.refl h).up np)
    · simp at post ⊢
      intro p np
      exact en_rt' post ((Sub.refl h).up np)
    · simp at post ⊢
      refine hnum _ ?_
      cases hn : num bs (at0 + 1) with
      | error e =>
        rw [hn] at post
        have he := num_err hn
        simp [numD, he, rIxB]
        intro p np
        exact en_rt' (post _ _) ((Sub.refl h).up np)
      | ok nq =>
        obtain ⟨n, q⟩ := nq
        rw [hn] at post
        simp [numD, rIxB]
        intro p np
        exact en_rt' post ((Sub.refl h).up np)
    · simp at post ⊢
      refine hnum _ ?_
      cases hn : num bs (at0 + 1) with
      | error e =>
        rw [hn] at post
        have he := num_err hn
        simp [numD, he, rIxB]
        intro p np
        exact en_rt' (post _ _) ((Sub.refl h).up np)
      | ok nq =>
        obtain ⟨n, q⟩ := nq
        rw [hn] at post
        simp [numD, rIxB]
        intro p np
        exact en_rt' post ((Sub.refl h).up np)
    · simp at post ⊢
      refine hnum _ ?_
      cases hn : num bs (at0 + 1) with
      | error e =>
        rw [hn] at post
        have he := num_err hn
        simp [numD, he, rIxB]
        intro p np
        exact en_rt' (post _ _) ((Sub.refl h).up np)
      | ok nq =>
        obtain ⟨n, q⟩ := nq
        rw [hn] at post
        dsimp only at post
        simp [numD]
        have hqb := num_le hn
        intro sp ns
        have hds : d ≠ sp := by rintro rfl; rw [hd] at ns; cases ns
        generalize hV : many (sign bs) n q = V at post
        refine while_inv (fun m ρ h' => ∃ (j : Nat) (acc : List Nat) (p : Nat) (y : Option D), m = n - j ∧ ρ = [some (.ref d), some (.int at0), some (.int depth), some (.int 5), some (.int n), some (.int p), some (.int (-1)), some (.ref sp), y] ∧
          many (sign bs) j q = .ok (acc, p) ∧ j ≤ n ∧ p ≤ bs.length ∧ h' = up h sp (.lst (acc.map fun c => D.str ⟨#[c]⟩))) (m := n) ⟨0, [], q, none, rfl, rfl, rfl, Nat.zero_le _, hqb.2, rfl⟩ ?_
        rintro m' ρ h' ⟨j, acc, p, y, rfl, rfl, hmj, hjn, hpl, rfl⟩ N hN
        have hacc := many_len hmj
        have hpa := many_sign_at hmj
        have hln : ("abcdefghijklmnopqrstuvwxyz0123456789_" : Str).length = 37 := by decide +kernel
        simp [hacc]
        split
        · rename_i hlt2
          simp [up_ne hds, hd]
          split
          · rename_i hge
            have hno : bs[p]? = none := List.getElem?_eq_none hge
            have := many_err hmj (show sign bs p = .error bs.length by unfold sign; rw [hno]) hlt2
            rw [hV] at this
            subst this
            exact en_rt' (post _ _) ((Sub.refl h).up ns)
          · rename_i hge
            have hplt : p < bs.length := by omega
            have hixp : atI (bs.map D.int) (p : Int) = some (.int bs[p]) := atI_nat (by simp [hplt])
            have hgp : bs[p]? = some bs[p] := List.getElem?_eq_getElem hplt
            have hvb := hb bs[p] (List.getElem_mem _)
            generalize bs[p] = v at hixp hgp hvb
            simp [hixp]
            split
            · rename_i h37
              have := many_err hmj (show sign bs p = .error p by unfold sign; rw [hgp]; simp [h37]) hlt2
              rw [hV] at this
              subst this
              exact en_rt' (post _ _) ((Sub.refl h).up ns)
            · rename_i h37
              have hsg : sign bs p = .ok (letters.getD v.toNat 0, p + 1) := by unfold sign; rw [hgp]; simp [h37]
              have hltv : v.toNat < letters.length := by
                have : letters.length = 37 := by decide +kernel
                omega
              have hixl : atI ("abcdefghijklmnopqrstuvwxyz0123456789_" : Str).cps.toList v = some (letters.getD v.toNat 0) := by
                show atI letters v = _
                rw [atI_pos (by omega) (by omega)]
                simp [List.getD, hltv]
              refine ⟨rfl, ?_⟩
              simp [up_ne hds, hd, hixp, hln, hixl, wAppend]
              exact ⟨by omega, hN _ _ _ (show n - (j + 1) < n - j by omega) ⟨j + 1, acc ++ [letters.getD v.toNat 0], p + 1, some (.str ⟨#[letters[v.toNat]?.getD 0]⟩), rfl, by simp, many_snoc hmj hsg, by omega, by omega, by simp⟩⟩
        · rename_i hlt2
          have hjn2 : j = n := by omega
          subst hjn2
          rw [hV] at hmj
          subst hmj
          simp [wJoin]
          have hsum : ∀ l : List Nat, ((l.map fun c => (⟨#[c]⟩ : Str)).map fun x => x.length).sum = l.length := fun l => by
            induction l with
            | nil => rfl
            | cons c l ih => simp only [List.map_cons, List.sum_cons, ih, List.length_cons]; show 1 + _ = _; omega
          refine ⟨acc.map fun c => (⟨#[c]⟩ : Str), ?_, ?_, en_rt' (by rw [show Txt.join (Str.ofString "") (acc.map fun c => (⟨#[c]⟩ : Str)) = ⟨acc.toArray⟩ from join_signs acc]; exact post) ((Sub.refl h).up ns)⟩
          · first
              | (rw [List.map_map]; rfl)
              | (simp [Function.comp_def])
          · rw [hsum]
            show _ + _ * 0 ≤ _
            omega
    · simp at post ⊢
      have hdd := hd60 rfl
      simp [hdd]
      obtain ⟨lvl, hlv⟩ : ∃ lvl, 60 - depth = lvl + 1 := ⟨59 - depth, by omega⟩
      rw [hlv] at post
      refine hnum _ ?_
      cases hn : num bs (at0 + 1) with
      | error e =>
        rw [hn] at post
        have he := num_err hn
        simp [numD, he, rIxB]
        intro p np
        exact en_rt' (post _ _) ((Sub.refl h).up np)
      | ok nq =>
        obtain ⟨n, q⟩ := nq
        rw [hn] at post
        dsimp only at post
        simp [numD]
        have hqb := num_le hn
        intro sp ns
        have hds : d ≠ sp := by rintro rfl; rw [hd] at ns; cases ns
        generalize hV : many (dec bs lvl) n q = V at post
        refine while_inv (fun m ρ h' => ∃ (j : Nat) (acc : List D) (p : Nat) (y : Option D), m = n - j ∧ ρ = [some (.ref d), some (.int at0), some (.int depth), some (.int 6), some (.int n), some (.int p), some (.int (-1)), some (.ref sp), y] ∧
          many (dec bs lvl) j q = .ok (acc, p) ∧ j ≤ n ∧ p ≤ bs.length ∧ h' = up h sp (.lst acc)) (m := n) ⟨0, [], q, none, rfl, rfl, rfl, Nat.zero_le _, hqb.2, rfl⟩ ?_
        rintro m' ρ h' ⟨j, acc, p, y, rfl, rfl, hmj, hjn, hpl, rfl⟩ N hN
        have hacc := many_len hmj
        have hpa := (many_le (L := bs.length) (dec_le lvl) hmj hqb.2).1
        simp [hacc]
        split
        · rename_i hlt2
          refine ⟨d, bs, p, depth + 1, by simp, by omega, by omega, by rw [up_ne hds]; exact hd, hpl, hl, hb, ?_⟩
          rw [show 60 - (depth + 1) = lvl by omega]
          cases hdv : dec bs lvl p with
          | error e =>
            have := many_err hmj hdv hlt2
            rw [hV] at this
            subst this
            have he := dec_err _ _ _ hdv
            intro x y
            simp [he]
            exact en_rt' (post _ _) ((Sub.refl h).up ns)
          | ok vq =>
            obtain ⟨v, q2⟩ := vq
            have hle := dec_le lvl p v q2 hdv
            simp [wAppend]
            exact ⟨by omega, hN _ _ _ (show n - (j + 1) < n - j by omega) ⟨j + 1, acc ++ [v], q2, some v, rfl, by simp, many_snoc hmj hdv, by omega, hle.2, by simp⟩⟩
        · rename_i hlt2
          have hjn2 : j = n := by omega
          subst hjn2
          rw [hV] at hmj
          subst hmj
          exact en_rt' post ((Sub.refl h).up ns)
end Lk06
end
-- GP9
section
set_option maxRecDepth 100000
set_option maxHeartbeats 4000000
namespace Lk06
open PySem PySem.Spec PyProof.Rows L2 T3 P06
/-- what _law_due answers -/
def dueD (bs : List Int) : D := match decAll bs with
  | .error e => .tup [.str "at", .int e]
  | .ok v => .tup [.str "value", v]
def sp_ldue : Sp3 := fun l h k => ∃ (d : Addr) (bs : List Int), l = [.ref d] ∧ h d = some (.lst (bs.map D.int)) ∧ bs.length ≤ 140000 ∧ (∀ x ∈ bs, 0 ≤ x ∧ x < 256) ∧ k (dueD bs) h
theorem ok_ldue (m : Nat) (hm : 60 < m) : ∀ l h k, sp_ldue l h k → W_l_due (sp_lread m) (en k) (ev0 N_l_due l) h := by
  rintro l h k ⟨d, bs, rfl, hd, hl, hb, post⟩
  simp [W_l_due, ev0, hd]
  refine ⟨d, bs, 0, 0, rfl, by omega, by omega, hd, Nat.zero_le _, hl, hb, ?_⟩
  unfold dueD decAll at post
  show match dec bs 60 0 with
    | .error e => _
    | .ok (v, q) => _
  cases e : dec bs 60 0 with
  | error er =>
    rw [e] at post
    have he := dec_err _ _ _ e
    intro x y
    simp [he]
    exact en_rt post
  | ok vq =>
    obtain ⟨v, q⟩ := vq
    rw [e] at post
    dsimp only at post
    simp [hd]
    split
    · rename_i hlt
      rw [if_pos hlt] at post
      exact en_rt post
    · rename_i hlt
      rw [if_neg hlt] at post
      exact en_rt post
end Lk06
end
-- GP10
section
set_option maxRecDepth 100000
set_option maxHeartbeats 4000000
namespace P06
open PySem T3
theorem signsB_all : ∀ (cs : List Nat), (∀ c ∈ cs, c ∈ letters) → signsB cs = some (cs.map fun c => ((letters.idxOf c : Nat) : Int))
  | [], _ => rfl
  | c :: cs, h => by
    have h1 := (Lk06.occ_all c (h c (by simp))).2
    have h2 := signsB_all cs fun x hx => h x (by simp [hx])
    simp [signsB, h1, h2]
mutual
/-- every sign of every string is one of Python's -/
def StrsOk : D → Prop
  | .str x => ∀ c ∈ x.cps.toList, PyData.strOk ⟨#[c]⟩ = true
  | .tup l => StrsOkL l
  | .non => True
  | .bl _ => True
  | .int _ => True
  | .ref _ => True
def StrsOkL : List D → Prop
  | [] => True
  | d :: l => StrsOk d ∧ StrsOkL l
end
theorem StrsOkL.get : ∀ {l : List D}, StrsOkL l → ∀ x ∈ l, StrsOk x
  | d :: l, h, x, hx => by
    simp only [StrsOkL] at h
    rcases List.mem_cons.mp hx with rfl | hx
    · exact h.1
    · exact StrsOkL.get h.2 x hx
theorem okL_of : ∀ {l : List D}, (∀ d ∈ l, d.ok = true) → D.okL l = true
  | [], _ => rfl
  | d :: l, h => by
    simp only [D.okL, Bool.and_eq_true]
    exact ⟨h d (by simp), okL_of fun x hx => h x (by simp [hx])⟩
end P06
namespace Lk06
open PySem PySem.Spec PyProof.Rows L2 T3 P06
def sp_lbytes (m : Nat) : Sp3 := fun l h k => ∃ (d : D) (depth : Nat), l = [d, .int depth] ∧ depth ≤ 60 ∧ 60 - depth < m ∧ RefsOk h d ∧ StrsOk d ∧ elen d ≤ 1000000 ∧ (enc d depth = none → ∀ h', Sub h h' → k .non h') ∧
  ∀ bs, enc d depth = some bs → ∀ p h', Sub h h' → h p = none → h' p = some (.lst (bs.map D.int)) → k (.ref p) h'
theorem head_bytes {h : H3} (c : Int) (n : Nat) (p0 : Addr) (n0 : h p0 = none) (hl : (sizeB n).length < 10000000) (kk : K1) (q : ∀ (p2 : Addr) (hb : H3), h p2 = none → hb p2 = none → Sub h hb → kk (.ref p2) (up hb p2 (.lst ((c :: sizeB n).map D.int)))) :
      sp_size [.int n] (up h p0 (.lst [.int c])) fun e h2 => T3.rAdd (.ref p0) e h2 kk := by
  refine ⟨(n : Int), rfl, by omega, by rw [Int.toNat_natCast]; omega, fun p1 n1 => ?_⟩
  obtain ⟨h10, n1'⟩ := up_none n1
  rw [Int.toNat_natCast]
  simp [up_ne h10.symm]
  refine ⟨by omega, fun p2 n2 => ?_⟩
  obtain ⟨h21, n2'⟩ := up_none n2
  obtain ⟨h20, n2''⟩ := up_none n2'
  have := q p2 _ n2'' n2 (((Sub.refl h).up n0).up n1')
  simpa using this
theorem ok_lbytes (m : Nat) : ∀ l h k, sp_lbytes m l h k → W_l_bytes sp_size sp_signs (sp_lbytes (m - 1)) (en k) (ev0 N_l_bytes l) h := by
  rintro l h k ⟨d, depth, rfl, hdp, hm, hr, hst, hsz, hno, post⟩
  simp [W_l_bytes, ev0]
  -- a head and a number's bytes
  have head : ∀ (c : Int) (n : Nat) (p0 : Addr), h p0 = none → (sizeB n).length < 10000000 → ∀ (kk : K1), (∀ p2 hb, h p2 = none → hb p2 = none → Sub h hb → kk (.ref p2) (up hb p2 (.lst ((c :: sizeB n).map D.int)))) →
      sp_size [.int n] (up h p0 (.lst [.int c])) fun e h2 => T3.rAdd (.ref p0) e h2 kk := by
    intro c n p0 n0 hl kk q
    refine ⟨(n : Int), rfl, by omega, by rw [Int.toNat_natCast]; omega, fun p1 n1 => ?_⟩
    obtain ⟨h10, n1'⟩ := up_none n1
    rw [Int.toNat_natCast]
    simp [up_ne h10.symm]
    refine ⟨by omega, fun p2 n2 => ?_⟩
    obtain ⟨h21, n2'⟩ := up_none n2
    obtain ⟨h20, n2''⟩ := up_none n2'
    have := q p2 _ n2'' n2 (((Sub.refl h).up n0).up n1')
    simpa using this
  cases d with
  | non =>
    simp [wLIndex]
    intro p np
    refine ⟨by first | rfl | decide +kernel, by first | rfl | decide +kernel, by first | rfl | decide +kernel, by first | rfl | decide +kernel, 0, ⟨_, rfl, by first | rfl | decide +kernel⟩, fun m z hm => absurd hm (Nat.not_lt_zero _), fun q nq => ?_⟩
    obtain ⟨_, nq'⟩ := up_none nq
    exact en_rt (post [0] (by simp [enc]) q _ (((Sub.refl h).up np).up nq') nq' up_same)
  | bl b =>
    cases b
    · simp [wLIndex, D.isB]
      intro p np
      refine ⟨by first | rfl | decide +kernel, by first | rfl | decide +kernel, by first | rfl | decide +kernel, by first | rfl | decide +kernel, 1, ⟨_, rfl, by first | rfl | decide +kernel⟩, fun m z hm hz => ?_, fun q nq => ?_⟩
      · obtain rfl : m = 0 := by omega
        cases hz
        first | rfl | decide +kernel
      · obtain ⟨_, nq'⟩ := up_none nq
        exact en_rt (post [1] (by simp [enc]) q _ (((Sub.refl h).up np).up nq') nq' up_same)
    · simp [wLIndex, D.isB]
      intro p np
      refine ⟨by first | rfl | decide +kernel, by first | rfl | decide +kernel, by first | rfl | decide +kernel, by first | rfl | decide +kernel, 2, ⟨_, rfl, by first | rfl | decide +kernel⟩, fun m z hm hz => ?_, fun q nq => ?_⟩
      · obtain rfl | rfl : m = 0 ∨ m = 1 := by omega
        · cases hz
          first | rfl | decide +kernel
        · cases hz
          first | rfl | decide +kernel
      · obtain ⟨_, nq'⟩ := up_none nq
        exact en_rt (post [2] (by simp [enc]) q _ (((Sub.refl h).up np).up nq') nq' up_same)
  | int i =>
    simp [D.isB, D.isTy]
    simp only [elen] at hsz
    split
    · rename_i h0
      intro p0 n0
      rw [if_pos h0] at hsz
      have := head 3 i.toNat p0 n0 (by omega) (en k).rt fun p2 hb n2 nb s => en_rt (post _ (by simp only [enc]; rw [if_pos h0]) p2 _ (s.up n2) n2 up_same)
      rwa [Int.toNat_of_nonneg h0] at this
    · rename_i h0
      intro p0 n0
      rw [if_neg h0] at hsz
      have := head 4 (-1 - i).toNat p0 n0 (by omega) (en k).rt fun p2 hb n2 nb s => en_rt (post _ (by simp only [enc]; rw [if_neg h0]) p2 _ (s.up n2) n2 up_same)
      rwa [Int.toNat_of_nonneg (by omega)] at this
  | str x =>
    simp [D.isB, D.isTy]
    simp only [elen] at hsz
    intro p0 n0
    have hlet : ("abcdefghijklmnopqrstuvwxyz0123456789_" : Str).cps.toList = letters := rfl
    generalize hcs : x.cps.toList = cs at *
    have hcl : cs.length = x.cps.size := by rw [← hcs]; simp
    refine lc_pure (fun d => match d with | .str z => decide (z.cps.toList.headD 0 ∉ letters) | _ => false) id (by simp; omega) (fun _ _ _ => trivial) ?_ ?_ ?_
    · intro d hd o h1 s1 K q
      obtain ⟨c, hc, rfl⟩ := List.mem_map.mp hd
      simp
      refine ⟨rfl, c, rfl, ?_⟩
      have q2 := q h1 (Sub.refl _)
      show asB (D.bl (decide (c ∈ letters) != true)) _
      simp
      simpa using q2
    · intro d hd _ o h1 s1 K q
      simp
      exact q _ (Sub.refl _)
    · by_cases hall : ∀ c ∈ cs, c ∈ letters
      · have hf : ((cs.map fun c => D.str ⟨#[c]⟩).filter fun d => match d with | .str z => decide (z.cps.toList.headD 0 ∉ letters) | _ => false) = [] := by
          simp [List.filter_eq_nil_iff]
          intro c hc
          exact decide_eq_true (hall c hc)
        rw [hf]
        intro p1 n1
        have hne := (up_none n1).1
        refine rEq_nilL (l := []) (by rw [up_ne hne.symm]; exact up_same) up_same rfl ?_
        simp
        have hs0 : Sub h (up (up h p0 (.lst [])) p1 (.lst [])) := ((Sub.refl h).up n0).up (up_none n1).2
        generalize up (up h p0 (.lst [])) p1 (.lst []) = hB at hs0
        intro p2 n2
        refine ⟨by show x.cps.size ≤ _; omega, head_bytes 5 x.cps.size p2 n2 (by omega) _ fun p3 hb n3 n3b s => ?_⟩
        intro p4 n4
        rw [hcs]
        obtain ⟨h43, n4b⟩ := up_none n4
        refine lc_pure (fun _ => true) (fun d => match d with | .str z => .int ((letters.idxOf (z.cps.toList.headD 0) : Nat) : Int) | d => d) (by simp; omega) (fun _ _ _ => trivial) ?_ ?_ ?_
        · intro d hd o h1 s1 K q
          exact q _ (Sub.refl _)
        · intro d hd _ o h1 s1 K q
          obtain ⟨c, hc, rfl⟩ := List.mem_map.mp hd
          simp [wSIndex]
          have q2 := q h1 (Sub.refl _)
          exact ⟨rfl, _, rfl, _, ⟨_, (occ_all c (hall c hc)).1⟩, by simpa using q2⟩
        · have hfm : (((cs.map fun c => D.str ⟨#[c]⟩).filter fun _ => true).map fun d => match d with | .str z => D.int ((letters.idxOf (z.cps.toList.headD 0) : Nat) : Int) | d => d) = (cs.map fun c => ((letters.idxOf c : Nat) : Int)).map D.int := by
            rw [List.filter_eq_self.mpr fun _ _ => rfl, List.map_map, List.map_map]
            rfl
          rw [hfm]
          have hs1 : Sub h hb := hs0.trans s
          have nn : ∀ {g : H3} {a : Addr}, Sub h g → g a = none → h a = none := fun {g a} sg e => by
            cases e2 : h a with
            | none => rfl
            | some o => have := sg _ _ e2; rw [e] at this; cases this
          have hen : enc (.str x) depth = some (5 :: sizeB x.cps.size ++ cs.map fun c => ((letters.idxOf c : Nat) : Int)) := by
            simp only [enc]; rw [hcs, signsB_all cs hall]
          have hs2 := (hs1.up (o := .lst ((5 :: sizeB x.cps.size).map D.int)) (nn hs1 n3b))
          have hs3 := (hs2.up (o := .lst ((cs.map fun c => ((letters.idxOf c : Nat) : Int)).map D.int)) (nn hs2 n4))
          have fin := fun p5 (n5 : _ = none) => en_rt (post _ hen p5 _ (hs3.up (nn hs3 n5)) (nn hs3 n5) up_same)
          simp [up_ne h43.symm]
          refine ⟨by omega, fun p5 n5 => ?_⟩
          simpa using fin p5 (by simpa using n5)
      · obtain ⟨c, hc, hcl2⟩ : ∃ c, c ∈ cs ∧ c ∉ letters := by
          simpa using hall
        intro p1 n1
        have hne := (up_none n1).1
        refine rEq_nilL (by rw [up_ne hne.symm]; exact up_same) up_same (okL_of ?_) ?_
        · intro d hd
          simp only [List.map_id] at hd
          obtain ⟨hd, _⟩ := List.mem_filter.mp hd
          obtain ⟨c, hc, rfl⟩ := List.mem_map.mp hd
          exact hst c (by rw [hcs]; exact hc)
        · have : ((((cs.map fun c => D.str ⟨#[c]⟩).filter fun d => match d with | .str z => decide (z.cps.toList.headD 0 ∉ letters) | _ => false).map id).isEmpty) = false := by
            cases e : ((cs.map fun c => D.str ⟨#[c]⟩).filter fun d => match d with | .str z => decide (z.cps.toList.headD 0 ∉ letters) | _ => false) with
            | nil =>
              have := List.filter_eq_nil_iff.mp e (.str ⟨#[c]⟩) (List.mem_map.mpr ⟨c, hc, rfl⟩)
              simp at this
              exact absurd this hcl2
            | cons a l => rfl
          rw [this]
          simp
          have hen : enc (.str x) depth = none := by simp only [enc]; rw [hcs, signsB_none hc hcl2]
          exact en_rt (hno hen _ ((Sub.refl h).up n0 |>.up (up_none n1).2))
  | ref a =>
    simp [D.isB]
    have hr' : RefOk h a := hr
    refine isi_ref hr' (.inl rfl) ?_
    simp
    refine isi_ref hr' (.inr (.inl rfl)) ?_
    simp
    refine isi_ref hr' (.inr (.inr rfl)) ?_
    simp
    exact en_rt (hno (by simp [enc]) _ (Sub.refl h))
  | tup l =>
    simp [D.isB, D.isTy]
    simp only [elen] at hsz
    have hll := elenL_len l
    split
    · rename_i h60
      exact en_rt (hno (by simp only [enc]; rw [if_neg (by omega)]) _ (Sub.refl h))
    · rename_i h60
      have h60 : depth < 60 := by omega
      intro p0 n0
      refine head 6 l.length p0 n0 (by omega) _ fun p2 hb n2 n2b s => ?_
      simp
      refine for_inv (fun j ρ h' => ∃ (y z w : Option D) (q : Addr) (acc : List Int), ρ = [some (.tup l), some (.int depth), some (.ref q), y, z, w] ∧ encL (l.take j) (depth + 1) = some acc ∧ h q = none ∧ h' q = some (.lst ((6 :: sizeB l.length ++ acc).map D.int)) ∧ Sub h h') (fun _ _ _ _ _ => trivial) ⟨none, none, none, p2, [], rfl, rfl, n2, by simp, s.up n2⟩ ?_ ?_
      · rintro j x ρ h' hx ⟨y, z, w, q, acc, rfl, ha, nq, hp2, hs⟩ N hN
        have hmem := List.mem_of_getElem? hx
        have hel := elenL_mem hmem
        simp
        refine ⟨x, depth + 1, by simp, by omega, by omega, (RefsOkL.get hr x hmem).mono hs, StrsOkL.get hst x hmem, by omega, fun h0 g gs => ?_, fun bs hbs p g gs np gp => ?_⟩
        · simp
          exact en_rt (hno (by simp only [enc]; rw [if_pos h60, encL_none hmem h0]) _ (hs.trans gs))
        · have hl1 := encL_len ha
          have hl2 := enc_len hbs
          have hel2 : elenL (l.take j) + elen x ≤ elenL l := by
            have := elenL_take (l := l) (j := j) hx
            omega
          have hq2 := gs _ _ hp2
          simp [hq2, gp]
          have gn : ∀ a, g a = none → h a = none := fun a e => by
            cases e2 : h a with
            | none => rfl
            | some o => have := (hs.trans gs) _ _ e2; rw [e] at this; cases this
          exact ⟨by omega, fun p1 n1 => hN _ _ ⟨_, _, _, p1, acc ++ bs, rfl, by rw [List.take_add_one, hx]; exact encL_snoc ha hbs, gn _ n1, by simp, (hs.trans gs).up (gn _ n1)⟩⟩
      · rintro ρ h' ⟨y, z, w, q, acc, rfl, ha, nq, hp2, hs⟩
        rw [List.take_of_length_le (Nat.le_refl _)] at ha
        simp
        exact en_rt (post _ (by simp only [enc]; rw [if_pos h60, ha]) q _ hs nq hp2)
end Lk06
end
-- Cap
section
/-! Cap: no stretch of a row of bytes has many more great bytes than small ones allow. -/
namespace P06
def wt (x : Int) : Int := if 128 ≤ x then 1 else -18
def ws : List Int → Int
  | [] => 0
  | x :: l => wt x + ws l
theorem ws_app : ∀ (a b : List Int), ws (a ++ b) = ws a + ws b
  | [], b => by simp [ws]
  | x :: a, b => by simp [ws, ws_app a b]; omega
theorem wt_le (x : Int) : wt x ≤ 1 := by unfold wt; split <;> omega
theorem wt_ge (x : Int) : -18 ≤ wt x := by unfold wt; split <;> omega
def Cap (B : Int) (bs : List Int) : Prop := ∀ a s c, bs = a ++ s ++ c → ws s ≤ B
theorem Cap.nonneg {B : Int} {bs : List Int} (h : Cap B bs) : 0 ≤ B := h [] [] bs (by simp)
theorem Cap.mono {B C : Int} {bs : List Int} (h : Cap B bs) (e : B ≤ C) : Cap C bs := fun a s c q => Int.le_trans (h a s c q) e
theorem Cap.pre {B : Int} {x y : List Int} (h : Cap B (x ++ y)) : Cap B x := fun a s c q => h a s (c ++ y) (by rw [q]; simp)
theorem Cap.suf {B : Int} {x y : List Int} (h : Cap B (x ++ y)) : Cap B y := fun a s c q => h (x ++ a) s c (by rw [q]; simp)
theorem Cap.one {m : List Int} (h : m.length ≤ 1) : ∀ a s c, m = a ++ s ++ c → ws s ≤ 1 := by
  intro a s c e
  match s with
  | [] => simp [ws]
  | [x] => have := wt_le x; simp [ws]; omega
  | x :: y :: l => have := congrArg List.length e; simp at this; omega
theorem Cap.splice {B : Int} {x y m o : List Int} (h : Cap B (x ++ o ++ y)) (hm : m.length ≤ 1) (ho : o.length ≤ 1) : Cap (B + 19) (x ++ m ++ y) := by
  have h0 := h.nonneg
  have hx : Cap B x := h.pre.pre
  have hy : Cap B y := h.suf
  have hoo : -18 ≤ ws o := by
    match o, ho with
    | [], _ => simp [ws]
    | [z], _ => have := wt_ge z; simp [ws]; omega
  intro a s c e
  rw [List.append_assoc, List.append_eq_append_iff] at e
  rcases e with ⟨t, e1, e2⟩ | ⟨t, e1, e2⟩
  · -- a ++ s = x ++ t
    rw [List.append_eq_append_iff] at e1
    rcases e1 with ⟨r, e3, e4⟩ | ⟨r, e3, e4⟩
    · -- x = a ++ r, s = r ++ t
      subst e4
      have hr := hx a r [] (by simpa using e3)
      rw [List.append_eq_append_iff] at e2
      rcases e2 with ⟨u, e5, e6⟩ | ⟨u, e5, e6⟩
      · subst e5
        have h1 := h a (r ++ o ++ u) c (by rw [e3, e6]; simp)
        have h2 := Cap.one hm [] m [] (by simp)
        simp only [ws_app] at h1 ⊢
        omega
      · have := Cap.one hm [] t u (by simpa using e5)
        rw [ws_app]; omega
    · -- a = x ++ r, t = r ++ s
      subst e4
      rw [List.append_eq_append_iff] at e2
      rcases e2 with ⟨u, e5, e6⟩ | ⟨u, e5, e6⟩
      · -- r ++ s = m ++ u
        rw [List.append_eq_append_iff] at e5
        rcases e5 with ⟨z, e7, e8⟩ | ⟨z, e7, e8⟩
        · subst e8
          have h1 := Cap.one hm r z [] (by simpa using e7)
          have h2 := hy [] u c (by simpa using e6)
          rw [ws_app]; omega
        · subst e8
          have := hy z s c (by rw [e6])
          omega
      · have := Cap.one hm r s u (by rw [e5])
        omega
  · have := hx a s t e1
    omega
/-- never more than 18 great bytes in a row, c of them just ahead -/
def Run : Nat → List Int → Prop
  | _, [] => True
  | c, x :: l => if 128 ≤ x then c + 1 ≤ 18 ∧ Run (c + 1) l else Run 0 l
theorem Run.pre : ∀ {l a b : List Int} {c : Nat}, c ≤ 18 → Run c l → l = a ++ b → ws a ≤ 18 - c
  | _, [], _, c, hc, _, _ => by simp [ws]; omega
  | [], _ :: _, _, _, _, _, e => by simp at e
  | y :: l, x :: a, b, c, hc, h, e => by
    simp only [List.cons_append, List.cons.injEq] at e
    obtain ⟨rfl, e⟩ := e
    unfold Run at h
    split at h
    · rename_i hy
      have := Run.pre h.1 h.2 e
      simp [ws, wt, hy]; omega
    · rename_i hy
      have := Run.pre (Nat.zero_le _) h e
      simp [ws, wt, hy]; omega
theorem Run.low : ∀ {l : List Int} {c : Nat}, Run c l → Run 0 l
  | [], _, _ => trivial
  | x :: l, c, h => by
    have aux : ∀ {l : List Int} {c d : Nat}, d ≤ c → Run c l → Run d l := by
      intro l
      induction l with
      | nil => intros; trivial
      | cons y l ih =>
        intro c d hd h
        unfold Run at h ⊢
        split
        · rename_i hy; rw [if_pos hy] at h; exact ⟨by omega, ih (by omega) h.2⟩
        · rename_i hy; rw [if_neg hy] at h; exact h
    exact aux (Nat.zero_le _) h
theorem Run.tail : ∀ {a b : List Int} {c : Nat}, Run c (a ++ b) → Run 0 b
  | [], _, _, h => h.low
  | x :: a, b, c, h => by
    rw [List.cons_append] at h
    unfold Run at h
    split at h
    · exact Run.tail h.2
    · exact Run.tail h
theorem Run.cap {l : List Int} (h : Run 0 l) : Cap 18 l := fun a s c e => by
  rw [List.append_assoc] at e
  rw [e] at h
  have := Run.pre (Nat.zero_le _) h.tail (rfl : s ++ c = s ++ c)
  omega
end P06
end
-- GP11
section
set_option maxRecDepth 100000
set_option maxHeartbeats 4000000
namespace Lk06
open PySem PySem.Spec PyProof.Rows L2 T3 P06
theorem _root_.T3.Grow.none {dr p : Addr} {h h' : H3} (g : Grow dr h h') (n : h' p = none) : h p = none := by
  cases e : h p with
  | none => rfl
  | some o =>
    by_cases hp : p = dr
    · subst hp; exact absurd n g.drw.some
    · have := g.keep p o hp e; rw [n] at this; cases this
theorem cut_take {bs : List Int} {q : Int} (h0 : 0 ≤ q) (h1 : q ≤ bs.length) : T3.cutD (bs.map D.int) none (some q) = (bs.take q.toNat).map D.int := by
  simp [T3.cutD, HT.sIx]
  have : ¬ q < 0 := by omega
  simp [this, List.map_take]
theorem cut_drop {bs : List Int} {q : Int} (h0 : 0 ≤ q) (h1 : q ≤ bs.length) : T3.cutD (bs.map D.int) (some q) none = (bs.drop q.toNat).map D.int := by
  simp [T3.cutD, HT.sIx]
  have : ¬ q < 0 := by omega
  simp [this, List.map_drop]
  rw [show min q.toNat bs.length = q.toNat by omega, List.take_of_length_le (by simp)]
/-- what one change does to the stretches of great bytes -/
def Chg (bs bs' : List Int) : Prop := ∀ B, 18 ≤ B → Cap B bs → Cap (B + 19) bs'
theorem Chg.pre {bs : List Int} (q : Nat) : Chg bs (bs.take q) := fun B _ h => by
  rw [← List.take_append_drop q bs] at h
  exact (Cap.pre h).mono (by omega)
theorem Chg.ins {bs : List Int} (q : Nat) (v : Int) : Chg bs (bs.take q ++ [v] ++ bs.drop q) := fun B _ h => by
  refine Cap.splice (o := []) (m := [v]) ?_ (by simp) (by simp)
  simpa using h
theorem split1 {bs : List Int} (q : Nat) : bs = bs.take q ++ (bs.drop q).take 1 ++ bs.drop (q + 1) := by
  have e : (bs.drop q).take 1 ++ bs.drop (q + 1) = bs.drop q := by
    rw [show bs.drop (q + 1) = (bs.drop q).drop 1 by rw [List.drop_drop], List.take_append_drop]
  rw [List.append_assoc, e, List.take_append_drop]
theorem Chg.del {bs : List Int} (q : Nat) : Chg bs (bs.take q ++ bs.drop (q + 1)) := fun B _ h => by
  rw [split1 (bs := bs) q] at h
  have := Cap.splice (m := []) h (by simp) (by simp; omega)
  simpa using this
theorem Chg.rep {bs : List Int} (q : Nat) (v : Int) : Chg bs (bs.take q ++ [v] ++ bs.drop (q + 1)) := fun B _ h => by
  rw [split1 (bs := bs) q] at h
  exact Cap.splice (m := [v]) h (by simp) (by simp; omega)
theorem _root_.P06.Run.small : ∀ {l : List Int}, (∀ x ∈ l, x < 128) → P06.Run 0 l
  | [], _ => trivial
  | x :: l, h => by
    have := h x (by simp)
    unfold P06.Run
    rw [if_neg (by omega)]
    exact P06.Run.small fun y hy => h y (by simp [hy])
theorem Chg.own {bs bs' : List Int} (h : P06.Run 0 bs') : Chg bs bs' := fun B hB _ => h.cap.mono (by omega)
theorem six {n : Nat} {x : Int} (h : x ∈ (List.replicate n [6, 1]).flatten ++ [3, 5]) : x = 6 ∨ x = 1 ∨ x = 3 ∨ x = 5 := by
  rcases List.mem_append.mp h with h | h
  · obtain ⟨l, hl, hx⟩ := List.mem_flatten.mp h
    rw [List.eq_of_mem_replicate hl] at hx
    simp at hx
    omega
  · simp at h
    omega
/-- _law_changed: a list of bytes, of at most one byte more, or a short one of its own -/
def sp_lchanged : Sp3 := fun l h k => ∃ (dr d : Addr) (bs : List Int), l = [.ref dr, .ref d] ∧ Drw h dr ∧ dr ≠ d ∧ h d = some (.lst (bs.map D.int)) ∧ bs.length ≤ 140000 ∧ (∀ x ∈ bs, 0 ≤ x ∧ x < 256) ∧
  ∀ (bs' : List Int) (p : Addr) (h' : H3), (bs'.length ≤ bs.length + 1 ∨ bs'.length ≤ 128) → Chg bs bs' → (∀ x ∈ bs', 0 ≤ x ∧ x < 256) → Grow dr h h' → h p = none → h' p = some (.lst (bs'.map D.int)) → k (.ref p) h'
theorem ok_lchanged : ∀ l h k, sp_lchanged l h k → W_l_changed sp_take (en k) (ev0 N_l_changed l) h := by
  rintro l h k ⟨dr, d, bs, rfl, hdr, hne, hd, hl, hb, post⟩
  simp [W_l_changed, ev0]
  refine ⟨dr, 5, rfl, hdr, by omega, .inl (by omega), fun r h1 r0 r5 g1 => ?_⟩
  simp
  have hd1 := g1.keep d _ hne.symm hd
  refine ⟨_, hd1, dr, (bs.length : Int) + 1, by simp, g1.drw, by omega, .inl (by omega), fun q h2 q0 q1 g2 => ?_⟩
  intro p3 n3
  have g12 := g1.trans g2
  refine ⟨dr, 13, rfl, g12.drw.new n3, by omega, .inl (by omega), fun b h4 b0 b1 g3 => ?_⟩
  obtain ⟨g4, hp3⟩ := Grow.born g12.drw n3 g3
  have g14 := g12.trans g4
  have hd4 := g14.keep d _ hne.symm hd
  have hby : ∃ v : Int, atI ([0, 1, 2, 3, 4, 5, 6, 7, 36, 37, 127, 128, 255].map D.int) b = some (.int v) ∧ 0 ≤ v ∧ v < 256 := by
    obtain rfl | rfl | rfl | rfl | rfl | rfl | rfl | rfl | rfl | rfl | rfl | rfl | rfl : b = 0 ∨ b = 1 ∨ b = 2 ∨ b = 3 ∨ b = 4 ∨ b = 5 ∨ b = 6 ∨ b = 7 ∨ b = 8 ∨ b = 9 ∨ b = 10 ∨ b = 11 ∨ b = 12 := by omega
    all_goals exact ⟨_, rfl, by decide, by decide⟩
  obtain ⟨v, hv, hv0⟩ := hby
  simp at hv
  simp [hp3, hv, hd4]
  split
  · intro p np
    rw [cut_take q0 (by omega)]
    exact en_rt (post _ p _ (.inl (by simp; omega)) (Chg.pre _) (fun x hx => hb x (List.mem_of_mem_take hx)) (g14.new np) (g14.none np) up_same)
  · split
    · intro p np p1 n1
      obtain ⟨h1p, n1'⟩ := up_none n1
      have ga := (g14.new (o := .lst (T3.cutD (bs.map D.int) none (some q))) np).new (o := .lst [D.int v]) n1
      refine ⟨_, by rw [up_ne h1p.symm]; exact up_same, by rw [cut_take q0 (by omega)]; simp; omega, fun p2 n2 => ?_⟩
      refine ⟨_, (ga.new n2).keep d _ hne.symm hd, fun p5 n5 => ?_⟩
      obtain ⟨h52, n5'⟩ := up_none n5
      have gb := (ga.new n2).new (o := .lst (T3.cutD (bs.map D.int) (some q) none)) n5
      refine ⟨_, by rw [up_ne h52.symm]; exact up_same, by rw [cut_take q0 (by omega), cut_drop q0 (by omega)]; simp; omega, fun p6 n6 => ?_⟩
      refine en_rt (post (bs.take q.toNat ++ [v] ++ bs.drop q.toNat) p6 _ (.inl (by simp; omega)) (Chg.ins _ _) (fun x hx => ?_) (gb.new n6) (gb.none n6) (by rw [up_same, cut_take q0 (by omega), cut_drop q0 (by omega)]; simp))
      simp at hx
      rcases hx with hx | rfl | hx
      · exact hb x (List.mem_of_mem_take hx)
      · exact hv0
      · exact hb x (List.mem_of_mem_drop hx)
    · have hdr1 : T3.cutD (bs.map D.int) (some (q + 1)) none = (bs.drop (q.toNat + 1)).map D.int := by
        rw [cut_from (n := q.toNat + 1) (by omega), List.map_drop]
      split
      · intro p np
        have ga := g14.new (o := .lst (T3.cutD (bs.map D.int) none (some q))) np
        refine ⟨_, ga.keep d _ hne.symm hd, fun p5 n5 => ?_⟩
        obtain ⟨h52, n5'⟩ := up_none n5
        have gb := ga.new (o := .lst (T3.cutD (bs.map D.int) (some (q + 1)) none)) n5
        refine ⟨_, by rw [up_ne h52.symm]; exact up_same, by rw [cut_take q0 (by omega), hdr1]; simp; omega, fun p6 n6 => ?_⟩
        refine en_rt (post (bs.take q.toNat ++ bs.drop (q.toNat + 1)) p6 _ (.inl (by simp; omega)) (Chg.del _) (fun x hx => ?_) (gb.new n6) (gb.none n6) (by rw [up_same, cut_take q0 (by omega), hdr1]; simp))
        simp at hx
        rcases hx with hx | hx
        · exact hb x (List.mem_of_mem_take hx)
        · exact hb x (List.mem_of_mem_drop hx)
      · split
        · intro p np
          refine ⟨dr, 63, rfl, g14.drw.new np, by omega, .inl (by omega), fun n h5 n0 n1 g5 => ?_⟩
          obtain ⟨g5', hp5⟩ := Grow.born g14.drw np g5
          have ga := g14.trans g5'
          refine ⟨_, hp5, by omega, by omega, by simp; omega, fun p6 n6 => ?_⟩
          intro p7 n7
          obtain ⟨h76, n7'⟩ := up_none n7
          have gb := (ga.new (o := .lst (List.replicate n.toNat [D.int 6, D.int 1]).flatten) n6).new (o := .lst [D.int 3, D.int 5]) n7
          refine ⟨_, _, by rw [up_ne h76.symm]; exact up_same, up_same, by simp; omega, fun p8 n8 => ?_⟩
          intro q1 m1 q2 m2 q3 m3 q4 m4 q5 m5 q6 m6
          have gc := ((((((gb.new n8).new m1).new m2).new m3).new m4).new m5).new (o := .lst [.ref p8, .ref q1, .ref q2, .ref q3, .ref q4, .ref q5]) m6
          have dc := gc.drw
          have y8 := gb.none n8
          have y1 := (gb.new n8).none m1
          have y2 := ((gb.new n8).new m1).none m2
          have y3 := (((gb.new n8).new m1).new m2).none m3
          have y4 := ((((gb.new n8).new m1).new m2).new m3).none m4
          have y5 := (((((gb.new n8).new m1).new m2).new m3).new m4).none m5
          have y6 := ((((((gb.new n8).new m1).new m2).new m3).new m4).new m5).none m6
          refine ⟨dr, 6, rfl, dc, by omega, .inl (by omega), fun j h16 j0 j1 g16 => ?_⟩
          have gd := gc.trans g16
          have ne : ∀ {a : Addr}, h a = none → a ≠ dr := fun e => hdr.fresh e
          obtain ⟨e18, _⟩ := up_none m1
          obtain ⟨e21, m2'⟩ := up_none m2
          obtain ⟨e28, _⟩ := up_none m2'
          obtain ⟨e32, m3'⟩ := up_none m3
          obtain ⟨e31, m3''⟩ := up_none m3'
          obtain ⟨e38, _⟩ := up_none m3''
          obtain ⟨e43, m4'⟩ := up_none m4
          obtain ⟨e42, m4''⟩ := up_none m4'
          obtain ⟨e41, m4'''⟩ := up_none m4''
          obtain ⟨e48, _⟩ := up_none m4'''
          obtain ⟨e54, m5'⟩ := up_none m5
          obtain ⟨e53, m5''⟩ := up_none m5'
          obtain ⟨e52, m5'''⟩ := up_none m5''
          obtain ⟨e51, m5v⟩ := up_none m5'''
          obtain ⟨e58, _⟩ := up_none m5v
          obtain ⟨e65, m6'⟩ := up_none m6
          obtain ⟨e64, m6''⟩ := up_none m6'
          obtain ⟨e63, m6'''⟩ := up_none m6''
          obtain ⟨e62, m6v⟩ := up_none m6'''
          obtain ⟨e61, m6w⟩ := up_none m6v
          obtain ⟨e68, _⟩ := up_none m6w
          have f6 := g16.keep q6 _ (ne y6) up_same
          have f5 := g16.keep q5 _ (ne y5) (by rw [up_ne e65.symm]; exact up_same)
          have f4 := g16.keep q4 _ (ne y4) (by rw [up_ne e64.symm, up_ne e54.symm]; exact up_same)
          have f3 := g16.keep q3 _ (ne y3) (by rw [up_ne e63.symm, up_ne e53.symm, up_ne e43.symm]; exact up_same)
          have f2 := g16.keep q2 _ (ne y2) (by rw [up_ne e62.symm, up_ne e52.symm, up_ne e42.symm, up_ne e32.symm]; exact up_same)
          have f1 := g16.keep q1 _ (ne y1) (by rw [up_ne e61.symm, up_ne e51.symm, up_ne e41.symm, up_ne e31.symm, up_ne e21.symm]; exact up_same)
          have f8 := g16.keep p8 _ (ne y8) (by rw [up_ne e68.symm, up_ne e58.symm, up_ne e48.symm, up_ne e38.symm, up_ne e28.symm, up_ne e18.symm]; exact up_same)
          have fin : ∀ (l : List Int) (p : Addr), l.length ≤ 128 → (∀ x ∈ l, x < 128) ∨ P06.Run 0 l → (∀ x ∈ l, 0 ≤ x ∧ x < 256) → h p = none → h16 p = some (.lst (l.map D.int)) → (en k).rt (.ref p) h16 := by
            intro l p hl hr hb y f
            refine en_rt (post l p h16 (.inr hl) (Chg.own ?_) hb gd y f)
            rcases hr with hr | hr
            · exact P06.Run.small hr
            · exact hr
          simp only [s_ix_l]
          obtain rfl | rfl | rfl | rfl | rfl | rfl : j = 0 ∨ j = 1 ∨ j = 2 ∨ j = 3 ∨ j = 4 ∨ j = 5 := by omega
          · refine ⟨_, _, f6, rfl, fin ((List.replicate n.toNat [6, 1]).flatten ++ [3, 5]) _ (by simp; omega) (.inl ?_) ?_ y8 (by rw [f8]; simp)⟩
            · intro x hx
              rcases six hx with rfl | rfl | rfl | rfl <;> decide
            · intro x hx
              rcases six hx with rfl | rfl | rfl | rfl <;> decide
          · exact ⟨_, _, f6, rfl, fin [3, 128, 0] _ (by decide) (.inr (by simp [P06.Run])) (by decide) y1 f1⟩
          · exact ⟨_, _, f6, rfl, fin [4, 255, 1] _ (by decide) (.inr (by simp [P06.Run])) (by decide) y2 f2⟩
          · exact ⟨_, _, f6, rfl, fin [5, 2, 0, 37] _ (by decide) (.inr (by simp [P06.Run])) (by decide) y3 f3⟩
          · exact ⟨_, _, f6, rfl, fin [5, 128, 1, 0] _ (by decide) (.inr (by simp [P06.Run])) (by decide) y4 f4⟩
          · exact ⟨_, _, f6, rfl, fin [] _ (by decide) (.inr (by simp [P06.Run])) (by decide) y5 f5⟩
        · intro p np p1 n1
          obtain ⟨h1p, n1'⟩ := up_none n1
          have ga := (g14.new (o := .lst (T3.cutD (bs.map D.int) none (some q))) np).new (o := .lst [D.int v]) n1
          refine ⟨_, by rw [up_ne h1p.symm]; exact up_same, by rw [cut_take q0 (by omega)]; simp; omega, fun p2 n2 => ?_⟩
          refine ⟨_, (ga.new n2).keep d _ hne.symm hd, fun p5 n5 => ?_⟩
          obtain ⟨h52, n5'⟩ := up_none n5
          have gb := (ga.new n2).new (o := .lst (T3.cutD (bs.map D.int) (some (q + 1)) none)) n5
          refine ⟨_, by rw [up_ne h52.symm]; exact up_same, by rw [cut_take q0 (by omega), hdr1]; simp; omega, fun p6 n6 => ?_⟩
          refine en_rt (post (bs.take q.toNat ++ [v] ++ bs.drop (q.toNat + 1)) p6 _ (.inl (by simp; omega)) (Chg.rep _ _) (fun x hx => ?_) (gb.new n6) (gb.none n6) (by rw [up_same, cut_take q0 (by omega), hdr1]; simp))
          simp at hx
          rcases hx with hx | rfl | hx
          · exact hb x (List.mem_of_mem_take hx)
          · exact hv0
          · exact hb x (List.mem_of_mem_drop hx)
end Lk06
end
-- GP12
section
set_option maxRecDepth 100000
set_option maxHeartbeats 4000000
namespace P06
open PySem T3
mutual
/-- ints of at most 132 bits -/
def NumB : D → Prop
  | .int i => -(2 ^ 132) ≤ i ∧ i ≤ 2 ^ 132
  | .tup l => NumBL l
  | .non => True
  | .bl _ => True
  | .str _ => True
  | .ref _ => True
def NumBL : List D → Prop
  | [] => True
  | d :: l => NumB d ∧ NumBL l
end
theorem NumBL.of : ∀ {l : List D}, (∀ d ∈ l, NumB d) → NumBL l
  | [], _ => trivial
  | d :: l, h => ⟨h d (by simp), NumBL.of fun x hx => h x (by simp [hx])⟩
theorem StrsOkL.of : ∀ {l : List D}, (∀ d ∈ l, StrsOk d) → StrsOkL l
  | [], _ => trivial
  | d :: l, h => ⟨h d (by simp), StrsOkL.of fun x hx => h x (by simp [hx])⟩
end P06
namespace Lk06
open PySem PySem.Spec PyProof.Rows L2 T3 P06
theorem RefsOkL.of {h : H3} : ∀ {l : List D}, (∀ d ∈ l, RefsOk h d) → RefsOkL h l
  | [], _ => trivial
  | d :: l, q => ⟨q d (by simp), RefsOkL.of fun x hx => q x (by simp [hx])⟩
theorem elenL_le {b : Nat} : ∀ {l : List D}, (∀ d ∈ l, elen d ≤ b) → elenL l ≤ l.length * b
  | [], _ => by simp [elenL]
  | d :: l, h => by
    have h1 := h d (by simp)
    have h2 := elenL_le (l := l) fun x hx => h x (by simp [hx])
    simp [elenL, Nat.add_mul]; omega
/-- what is a list or a dict stays one -/
def Kp (h h' : H3) : Prop := ∀ a, RefOk h a → RefOk h' a
theorem Kp.trans {h h1 h2 : H3} (a : Kp h h1) (b : Kp h1 h2) : Kp h h2 := fun x q => b x (a x q)
theorem Kp.refl {h : H3} : Kp h h := fun x q => q
mutual
theorem RefsOk.kp {h h' : H3} (s : Kp h h') : ∀ {d : D}, RefsOk h d → RefsOk h' d
  | .ref a, q => s a q
  | .tup l, q => RefsOkL.kp s (l := l) q
  | .non, _ => trivial
  | .bl _, _ => trivial
  | .int _, _ => trivial
  | .str _, _ => trivial
theorem RefsOkL.kp {h h' : H3} (s : Kp h h') : ∀ {l : List D}, RefsOkL h l → RefsOkL h' l
  | [], _ => trivial
  | d :: l, q => ⟨RefsOk.kp s q.1, RefsOkL.kp s q.2⟩
end
theorem _root_.T3.Grow.kp {dr : Addr} {h h' : H3} (g : Grow dr h h') : Kp h h' := fun a q => by
  by_cases ha : a = dr
  · subst ha
    obtain ⟨c, ns, i, q, s, e, _⟩ := g.drw
    exact .inl ⟨_, e⟩
  · rcases q with ⟨l, e⟩ | ⟨l, e⟩ | ⟨l, e⟩
    · exact .inl ⟨l, g.keep a _ ha e⟩
    · exact .inr (.inl ⟨l, g.keep a _ ha e⟩)
    · exact .inr (.inr ⟨l, g.keep a _ ha e⟩)
theorem Kp.lst {h : H3} {p : Addr} {l : List D} : Kp h (up h p (.lst l)) := fun a q => by
  by_cases ha : a = p
  · subst ha; exact .inl ⟨l, up_same⟩
  · rcases q with ⟨l, e⟩ | ⟨l, e⟩ | ⟨l, e⟩
    · exact .inl ⟨l, by rw [up_ne ha]; exact e⟩
    · exact .inr (.inl ⟨l, by rw [up_ne ha]; exact e⟩)
    · exact .inr (.inr ⟨l, by rw [up_ne ha]; exact e⟩)
/-- a comprehension that draws, of values with references -/
theorem lc_growR {dr p : Addr} {i : Nat} {e : WE} {ρ : Ev} {k : K1} {h0 : H3} {P : D → Prop} (hd : Drw h0 dr) (np : h0 p = none) {l : List D} (hl : l.length ≤ 1000)
    (step : ∀ h x, x ∈ l → Grow dr h0 h → ∀ K : K1, (∀ d h2, P d → RefsOk h2 d → Grow dr h h2 → K d h2) → e (ρ.set i (some x)) h K)
    (done : ∀ m h', m.length = l.length → (∀ d ∈ m, P d ∧ RefsOk h' d) → Grow dr h0 h' → h' p = some (.lst m) → k (.ref p) h') :
    lcW (fun _ => True) i wYes e p ρ k l (up h0 p (.lst [])) := by
  have gen : ∀ (r : List D) (acc : List D) (h : H3), (∀ x ∈ r, x ∈ l) → acc.length + r.length = l.length → (∀ d ∈ acc, P d ∧ RefsOk h d) → Grow dr h0 h → h p = some (.lst acc) → lcW (fun _ => True) i wYes e p ρ k r h := by
    intro r
    induction r with
    | nil =>
      intro acc h _ hlen ha g e0
      exact ⟨trivial, done acc h (by simpa using hlen) ha g e0⟩
    | cons x r ih =>
      intro acc h hx hlen ha g e0
      refine ⟨trivial, ?_⟩
      simp only [wYes, if_true]
      refine step h x (hx x List.mem_cons_self) g _ fun d h2 pd rd g2 => ?_
      have hpd : p ≠ dr := hd.fresh np
      have e2 := g2.keep p _ hpd e0
      simp only [List.length_cons] at hlen
      refine ⟨acc, e2, by omega, _, Sub.refl _, ?_⟩
      refine ih (acc ++ [d]) _ (fun y hy => hx y (List.mem_cons_of_mem _ hy)) (by simp; omega) (fun y hy => ?_) ((g.trans g2).write hd np) up_same
      rcases List.mem_append.mp hy with hy | hy
      · exact ⟨(ha y hy).1, RefsOk.kp (g2.kp.trans Kp.lst) (ha y hy).2⟩
      · rw [List.mem_singleton.mp hy]; exact ⟨pd, RefsOk.kp Kp.lst rd⟩
  exact gen l [] _ (fun x hx => hx) (by simp) (fun _ h => nomatch h) ((Grow.refl hd).new np) up_same
def nest : Nat → D
  | 0 => .int 5
  | n + 1 => .tup [nest n]
structure PlOk (b : Nat) (d : D) : Prop where
  st : StrsOk d
  nb : NumB d
  el : elen d + 1 ≤ b
def sp_plain (m : Nat) : Sp3 := fun l h k => ∃ (dr : Addr) (depth : Int), l = [.ref dr, .int depth] ∧ (0 ≤ depth ∧ depth < m) ∧ Drw h dr ∧ ∀ d h', PlOk (143 * 3 ^ m) d → RefsOk h' d → Grow dr h h' → k d h'
theorem sizeB_small {n : Nat} (h : n < 128) : (sizeB n).length = 1 := by rw [sizeB_lt h]; rfl
theorem sizeB_pow : ∀ (k n : Nat), n < 2 ^ (7 * (k + 1)) → (sizeB n).length ≤ k + 1 := by
  intro k
  induction k with
  | zero => intro n h; rw [sizeB_small (by simpa using h)]; omega
  | succ k ih =>
    intro n h
    by_cases h1 : n < 128
    · rw [sizeB_small h1]; omega
    · rw [sizeB_ge h1]
      have : n / 128 < 2 ^ (7 * (k + 1)) := by
        rw [Nat.div_lt_iff_lt_mul (by decide)]
        rw [show 7 * (k + 1 + 1) = 7 * (k + 1) + 7 by omega, Nat.pow_add] at h
        exact h
      have := ih _ this
      simp; omega
theorem elen_int {i : Int} (h : NumB (.int i)) : elen (.int i) ≤ 20 := by
  simp only [NumB] at h
  simp only [elen]
  have e : (2 : Nat) ^ 132 < 2 ^ (7 * (18 + 1)) := by decide
  split
  · have := sizeB_pow 18 i.toNat (by omega); omega
  · have := sizeB_pow 18 (-1 - i).toNat (by omega); omega
theorem nest_ok : ∀ n, StrsOk (nest n) ∧ NumB (nest n) ∧ elen (nest n) ≤ 2 * n + 2 ∧ ∀ h, RefsOk h (nest n)
  | 0 => ⟨trivial, ⟨by decide, by decide⟩, by have := sizeB_small (n := 5) (by decide); simp [nest, elen, this], fun _ => trivial⟩
  | n + 1 => by
    obtain ⟨h1, h2, h3, h4⟩ := nest_ok n
    have := sizeB_small (n := 1) (by decide)
    refine ⟨⟨h1, trivial⟩, ⟨h2, trivial⟩, ?_, fun h => ⟨h4 h, trivial⟩⟩
    simp [nest, elen, elenL, this]; omega
theorem tk {dr : Addr} {h0 : H3} {n : Int} {K : K1} (hd : Drw h0 dr) (q : ∀ r h', 0 ≤ r → r < n → Grow dr h0 h' → K (.int r) h') (h0n : 0 < n := by omega) (hn : n < 1073741824 := by omega) : sp_take [.ref dr, .int n] h0 K :=
  ⟨dr, n, rfl, hd, h0n, .inl hn, q⟩
theorem pl_int {i : Int} (h : NumB (.int i)) : PlOk 143 (.int i) := ⟨trivial, h, by have := elen_int h; omega⟩
theorem pl_str {x : Str} (h : ∀ c ∈ x.cps.toList, PyData.strOk ⟨#[c]⟩ = true) (hl : x.cps.size ≤ 139) : PlOk 143 (.str x) := ⟨h, trivial, by
  simp only [elen]
  have := sizeB_pow 1 x.cps.size (by omega)
  omega⟩
theorem rep_fold {a : Array Nat} : ∀ (k : Nat) (b : Array Nat), ((List.replicate k a).foldl (· ++ ·) b).toList = b.toList ++ (List.replicate k a.toList).flatten
  | 0, b => by simp
  | k + 1, b => by rw [List.replicate_succ, List.foldl_cons, rep_fold k, List.replicate_succ]; simp
theorem mul_x {n : Int} (h0 : 0 ≤ n) (h1 : n < 140) : MulOk "x" n ∧ (∀ c ∈ (Txt.mul "x" n).cps.toList, PyData.strOk ⟨#[c]⟩ = true) ∧ (Txt.mul "x" n).cps.size ≤ 139 := by
  have ex : ("x" : Str) = ⟨#[120]⟩ := by decide +kernel
  have e : (Txt.mul "x" n).cps.toList = List.replicate n.toNat 120 := by
    rw [ex]
    unfold Txt.mul
    split
    · rw [show n.toNat = 0 by omega]; rfl
    · split
      · rename_i h
        have : n = 1 := by simpa [Str.length] using h
        subst this; rfl
      · simp only [rep_fold]
        simp
  refine ⟨⟨by simp; omega, fun a b => ?_, fun a b => ?_⟩, fun c hc => ?_, ?_⟩
  · rw [ex]
    have : 1 ≤ ((2 : Int) ^ 63 - 1) / n := by rw [Int.le_ediv_iff_mul_le (by omega)]; omega
    show ¬ ((1 : Nat) : Int) > _
    omega
  · rw [ex]
    show Builtin.Str.tooLong (1 * n.toNat) = false
    unfold Builtin.Str.tooLong
    exact decide_eq_false (by rw [sizeLine_eq]; omega)
  · rw [e] at hc
    rw [List.eq_of_mem_replicate hc]
    decide +kernel
  · have := congrArg List.length e
    simp at this
    omega
theorem ok_lplain (m : Nat) : ∀ l h k, sp_plain m l h k → W_l_plain sp_take (sp_plain (m - 1)) (en k) (ev0 N_l_plain l) h := by
  rintro l h k ⟨dr, depth, rfl, hm, hdr, post⟩
  simp [W_l_plain, ev0]
  refine tk hdr fun r h1 r0 r12 g1 => ?_
  have hd1 := g1.drw
  have fin : ∀ d h', PlOk 143 d → RefsOk h' d → Grow dr h h' → (en k).rt d h' := fun d h' p q g => en_rt (post d h' ⟨p.st, p.nb, by
    have := p.el
    have : 1 ≤ 3 ^ m := Nat.one_le_pow _ _ (by decide)
    omega⟩ q g)
  simp
  split
  · intro p np
    obtain rfl | rfl | rfl : r = 0 ∨ r = 1 ∨ r = 2 := by omega
    all_goals exact ⟨_, rfl, fin _ _ ⟨trivial, trivial, by simp [elen]⟩ trivial (g1.new np)⟩
  split
  · refine tk hd1 fun a h2 a0 a1 g2 => tk g2.drw fun b h3 b0 b1 g3 => ?_
    simp
    refine ⟨⟨b0, .inl (by omega)⟩, ?_⟩
    refine tk g3.drw fun c h4 c0 c1 g4 => ?_
    simp
    intro p np
    have ga := g1.trans (g2.trans (g3.trans g4))
    refine tk (ga.drw.new np) fun e h5 e0 e1 g5 => ?_
    obtain ⟨g5', hp5⟩ := Grow.born ga.drw np g5
    have gb := ga.trans g5'
    have hb2 : (2 : Int) ^ b.toNat ≤ 2 ^ 129 := p2_le (n := b) (m := 129) (by omega)
    have hb3 : 0 < (2 : Int) ^ b.toNat := p2_pos (n := b)
    have big : (1000000 : Int) < 2 ^ 129 ∧ (2 : Int) ^ 129 + 1000000 ≤ 2 ^ 131 := by decide
    have hn : ∃ n : Int, atI [D.int a, D.int 127, D.int 128, D.int 16383, D.int 16384, D.int (2 ^ b.toNat + c)] e = some (.int n) ∧ 0 ≤ n ∧ n ≤ 2 ^ 131 := by
      obtain rfl | rfl | rfl | rfl | rfl | rfl : e = 0 ∨ e = 1 ∨ e = 2 ∨ e = 3 ∨ e = 4 ∨ e = 5 := by omega
      all_goals exact ⟨_, rfl, by omega, by omega⟩
    obtain ⟨n, hn, n0, n1⟩ := hn
    simp [hp5, hn]
    intro p2 np2
    refine tk (gb.drw.new np2) fun f h6 f0 f1 g6 => ?_
    obtain ⟨g6', hp6⟩ := Grow.born gb.drw np2 g6
    have gc := gb.trans g6'
    simp [hp6]
    have b2 : (2 : Int) ^ 131 + 1 ≤ 2 ^ 132 := by decide
    obtain rfl | rfl | rfl : f = 0 ∨ f = 1 ∨ f = 2 := by omega
    all_goals exact ⟨_, rfl, fin _ _ (pl_int ⟨by omega, by omega⟩) trivial gc⟩
  split
  · refine tk hd1 fun a h2 a0 a1 g2 => ?_
    obtain ⟨x1, x2, x3⟩ := mul_x a0 a1
    have ga := g1.trans g2
    simp
    refine ⟨x1, fun p np p2 np2 => ?_⟩
    obtain ⟨e21, np2'⟩ := up_none np2
    have gb := ga.new (o := .lst [D.str (Str.ofString ""), D.str (Str.ofString "put"), D.str (Str.ofString "a0_z9"), .str (Txt.mul "x" a), D.str (Str.ofString "_"), D.str (Str.ofString "A"), D.str (Str.ofString "two words")]) np
    refine tk (gb.drw.new np2) fun b h3 b0 b1 g3 => ?_
    obtain ⟨g3', hp3⟩ := Grow.born gb.drw np2 g3
    have hp := g3'.keep p _ (ga.drw.fresh np) up_same
    have gc := gb.trans g3'
    simp [hp3]
    have hq : ∃ q : Int, atI [D.int 5, D.int 5, D.int 5, D.int 7] b = some (.int q) ∧ 5 ≤ q ∧ q ≤ 7 := by
      obtain rfl | rfl | rfl | rfl : b = 0 ∨ b = 1 ∨ b = 2 ∨ b = 3 := by omega
      all_goals exact ⟨_, rfl, by decide, by decide⟩
    obtain ⟨q, hq, q0, q1⟩ := hq
    refine ⟨_, hq, ?_⟩
    refine tk gc.drw fun c h4 c0 c1 g4 => ?_
    have hp4 := g4.keep p _ (ga.drw.fresh np) hp
    have gd := gc.trans g4
    simp [hp4]
    obtain rfl | rfl | rfl | rfl | rfl | rfl | rfl : c = 0 ∨ c = 1 ∨ c = 2 ∨ c = 3 ∨ c = 4 ∨ c = 5 ∨ c = 6 := by omega
    · exact ⟨_, rfl, fin _ _ (pl_str (by decide +kernel) (by decide +kernel)) trivial gd⟩
    · exact ⟨_, rfl, fin _ _ (pl_str (by decide +kernel) (by decide +kernel)) trivial gd⟩
    · exact ⟨_, rfl, fin _ _ (pl_str (by decide +kernel) (by decide +kernel)) trivial gd⟩
    · exact ⟨_, rfl, fin _ _ (pl_str x2 x3) trivial gd⟩
    · exact ⟨_, rfl, fin _ _ (pl_str (by decide +kernel) (by decide +kernel)) trivial gd⟩
    · exact ⟨_, rfl, fin _ _ (pl_str (by decide +kernel) (by decide +kernel)) trivial gd⟩
    · exact ⟨_, rfl, fin _ _ (pl_str (by decide +kernel) (by decide +kernel)) trivial gd⟩
  have comp : ∀ h2, Grow dr h h2 → if depth < 1 then sp_take [D.ref dr, D.int 10] h2 (en k).rt
    else
      sp_take [D.ref dr, D.int 4] h2 fun d h1 =>
        ∃ j,
          d = D.int j ∧
            -4611686018427387904 ≤ j ∧
              j < 4611686018427387904 ∧
                ∀ (p : Addr),
                  h1 p = none →
                    lcW (fun x => True) 6 wYes
                      (wL (sp_plain (m - 1)) (wCons (wVar 0) (wCons (w2 T3.rSub (wVar 1) (wC (D.int 1))) wNil))) p
                      [some (D.ref dr), some (D.int depth), some (D.int r), none, none, none, none]
                      (fun d h1 => rTupleOf [d] h1 (en k).rt) (rgD 0 j.toNat) (up h1 p (O.lst [])) := by
    intro h2 g2
    split
    · exact tk g2.drw fun a h3 a0 a1 g3 => fin _ _ (pl_int ⟨by omega, by omega⟩) trivial (g2.trans g3)
    · refine tk g2.drw fun a h3 a0 a1 g3 => ⟨a, rfl, by omega, by omega, fun p np => ?_⟩
      have ga := g2.trans g3
      refine lc_growR (dr := dr) (P := PlOk (143 * 3 ^ (m - 1))) ga.drw np (by simp [rgD]; omega) (fun h4 x hx g4 K hK => ?_) fun ds h4 hl hds g4 hp => ?_
      · simp
        exact ⟨dr, depth - 1, rfl, by omega, g4.drw, fun d h5 pd rd g5 => hK d h5 pd rd g5⟩
      · simp [hp]
        have hl : ds.length ≤ 3 := by simp [rgD] at hl; omega
        refine en_rt (post _ _ ⟨StrsOkL.of fun x hx => (hds x hx).1.st, NumBL.of fun x hx => (hds x hx).1.nb, ?_⟩ (RefsOkL.of fun x hx => (hds x hx).2) (ga.trans g4))
        have h1 := elenL_le (l := ds) (b := 143 * 3 ^ (m - 1) - 1) fun x hx => by have := (hds x hx).1.el; omega
        have h2 := sizeB_small (n := ds.length) (by omega)
        have h3 : ds.length * (143 * 3 ^ (m - 1) - 1) ≤ 3 * (143 * 3 ^ (m - 1) - 1) := Nat.mul_le_mul_right _ hl
        have h4 : 1 ≤ 3 ^ (m - 1) := Nat.one_le_pow _ _ (by decide)
        have h5 : 3 ^ m = 3 ^ (m - 1) * 3 := by
          rw [← Nat.pow_succ, show (m - 1).succ = m by omega]
        simp only [elen]
        omega
  split
  · split
    · intro p np
      refine tk (hd1.new np) fun a h2 a0 a1 g2 => ?_
      obtain ⟨g2', hp2⟩ := Grow.born hd1 np g2
      simp [hp2]
      have hq : ∃ q : Nat, atI [D.int 3, D.int 59, D.int 60, D.int 61] a = some (.int q) ∧ q ≤ 61 := by
        obtain rfl | rfl | rfl | rfl : a = 0 ∨ a = 1 ∨ a = 2 ∨ a = 3 := by omega
        · exact ⟨3, rfl, by decide⟩
        · exact ⟨59, rfl, by decide⟩
        · exact ⟨60, rfl, by decide⟩
        · exact ⟨61, rfl, by decide⟩
      obtain ⟨q, hq, q1⟩ := hq
      refine ⟨_, hq, _, rfl, by omega, by omega, ?_⟩
      refine for_inv (fun j ρ h' => ∃ x : Option D, ρ = [some (D.ref dr), some (D.int depth), some (D.int r), none, some (nest j), x, none] ∧ h' = h2) (fun _ _ _ _ _ => trivial) ⟨none, rfl, rfl⟩ ?_ ?_
      · rintro j x ρ _ hx ⟨y, rfl, rfl⟩ N hN
        simp
        exact hN _ _ ⟨_, rfl, rfl⟩
      · rintro ρ _ ⟨y, rfl, rfl⟩
        simp
        obtain ⟨n1, n2, n3, n4⟩ := nest_ok q
        have : (rgD 0 q).length = q := by simp [rgD]
        rw [this]
        exact fin _ _ ⟨n1, n2, by omega⟩ (n4 _) (g1.trans g2')
    · have := comp h1 g1
      simpa [*] using this
  · split
    · refine tk hd1 fun a h2 a0 a1 g2 => ?_
      have ga := g1.trans g2
      simp
      split
      · intro p np p2 np2
        intro p3 np3
        obtain ⟨e21, np2'⟩ := up_none np2
        obtain ⟨e32, np3'⟩ := up_none np3
        obtain ⟨e31, np3''⟩ := up_none np3'
        have gb := (ga.new (o := .lst [D.int 1]) np).new (o := .dK []) np2
        refine tk (gb.drw.new np3) fun b h3 b0 b1 g3 => ?_
        obtain ⟨g3', hp3⟩ := Grow.born gb.drw np3 g3
        have gc := gb.trans g3'
        have f1 := g3'.keep p _ (ga.drw.fresh np) (by rw [up_ne e21.symm]; exact up_same)
        have f2 := g3'.keep p2 _ (ga.drw.fresh np2') up_same
        simp [hp3]
        obtain rfl | rfl : b = 0 ∨ b = 1 := by omega
        · exact ⟨_, rfl, fin _ _ ⟨trivial, trivial, by simp [elen]⟩ (.inl ⟨_, f1⟩) gc⟩
        · exact ⟨_, rfl, fin _ _ ⟨trivial, trivial, by simp [elen]⟩ (.inr (.inl ⟨_, f2⟩)) gc⟩
      · have := comp h2 ga
        simpa [*] using this
    · exact comp h1 g1
end Lk06
end
-- P07
section
set_option maxRecDepth 100000
set_option maxHeartbeats 4000000
/-! P07: what is read off a row of bytes can be shown: its numbers, its depth, its text's length. -/
namespace P06
open PySem T3
theorem sizeB_rng : ∀ (n : Nat), ∀ x ∈ sizeB n, 0 ≤ x ∧ x < 256 := by
  intro n
  induction n using Nat.strongRecOn with
  | ind n ih =>
    intro x hx
    by_cases h : n < 128
    · rw [sizeB_lt h] at hx; simp at hx; omega
    · rw [sizeB_ge h] at hx
      rcases List.mem_cons.mp hx with rfl | hx
      · omega
      · exact ih (n / 128) (by omega) x hx
theorem sizeB_run : ∀ (n c : Nat) (r : List Int), c + (sizeB n).length ≤ 19 → P06.Run 0 r → P06.Run c (sizeB n ++ r) := by
  intro n
  induction n using Nat.strongRecOn with
  | ind n ih =>
    intro c r hc hr
    by_cases h : n < 128
    · rw [sizeB_lt h]
      show P06.Run c ((n : Int) :: r)
      unfold P06.Run
      rw [if_neg (by omega)]
      exact hr
    · rw [sizeB_ge h] at hc ⊢
      rw [List.cons_append]
      unfold P06.Run
      rw [if_pos (by omega)]
      have := sizeB_pos (n / 128)
      simp at hc
      exact ⟨by omega, ih (n / 128) (by omega) (c + 1) r (by omega) hr⟩
theorem run_small {x : Int} {l : List Int} (h : x < 128) (r : P06.Run 0 l) : P06.Run 0 (x :: l) := by
  unfold P06.Run
  rw [if_neg (by omega)]
  exact r
/-- bytes, no long stretch of great ones -/
def Nice (bs : List Int) : Prop := (∀ x ∈ bs, 0 ≤ x ∧ x < 256) ∧ ∀ r, P06.Run 0 r → P06.Run 0 (bs ++ r)
theorem Nice.nil : Nice [] := ⟨fun _ h => (nomatch h), fun r h => h⟩
theorem Nice.app {a b : List Int} (x : Nice a) (y : Nice b) : Nice (a ++ b) := ⟨fun z hz => (List.mem_append.mp hz).elim (x.1 z) (y.1 z), fun r h => by rw [List.append_assoc]; exact x.2 _ (y.2 r h)⟩
theorem Nice.cons {a : Int} {b : List Int} (h0 : 0 ≤ a) (h1 : a < 128) (y : Nice b) : Nice (a :: b) := ⟨fun z hz => (List.mem_cons.mp hz).elim (fun e => by subst e; omega) (y.1 z), fun r h => run_small h1 (y.2 r h)⟩
theorem Nice.size {n : Nat} (h : (sizeB n).length ≤ 19) : Nice (sizeB n) := ⟨sizeB_rng n, fun r q => sizeB_run n 0 r (by omega) q⟩
theorem Nice.cap {bs : List Int} (h : Nice bs) : Cap 18 bs := by
  have := h.2 [] trivial
  rw [List.append_nil] at this
  exact this.cap
theorem nice_signs : ∀ {cs : List Nat} {l : List Int}, signsB cs = some l → Nice l
  | [], l, h => by simp only [signsB, Option.some.injEq] at h; subst h; exact .nil
  | c :: cs, l, h => by
    simp only [signsB] at h
    split at h
    · rename_i b l' hb hl
      simp only [Option.some.injEq] at h
      subst h
      obtain ⟨h0, h1, _⟩ := signB_spec hb
      exact .cons h0 (by omega) (nice_signs hl)
    · cases h
theorem size_few {n : Nat} (h : n ≤ 1000000) : (sizeB n).length ≤ 3 := Lk06.sizeB_pow 2 n (by omega)
mutual
theorem enc_nice : ∀ {d : D} {k : Nat} {bs : List Int}, enc d k = some bs → NumB d → Lk06.elen d ≤ 1000000 → Nice bs
  | .non, _, bs, h, _, _ => by simp only [enc, Option.some.injEq] at h; subst h; exact .cons (by decide) (by decide) .nil
  | .bl false, _, bs, h, _, _ => by simp only [enc, Option.some.injEq] at h; subst h; exact .cons (by decide) (by decide) .nil
  | .bl true, _, bs, h, _, _ => by simp only [enc, Option.some.injEq] at h; subst h; exact .cons (by decide) (by decide) .nil
  | .int i, _, bs, h, hn, _ => by
    have he := Lk06.elen_int hn
    simp only [Lk06.elen] at he
    simp only [enc, Option.some.injEq] at h
    subst h
    split
    · rename_i hi; rw [if_pos hi] at he; exact .cons (by decide) (by decide) (.size (by omega))
    · rename_i hi; rw [if_neg hi] at he; exact .cons (by decide) (by decide) (.size (by omega))
  | .str x, _, bs, h, _, he => by
    simp only [enc] at h
    split at h
    · rename_i l hl
      simp only [Option.some.injEq] at h
      subst h
      simp only [Lk06.elen] at he
      have := size_few (n := x.cps.size) (by omega)
      rw [List.cons_append]
      exact .cons (by decide) (by decide) (.app (.size (by omega)) (nice_signs hl))
    · cases h
  | .tup l, k, bs, h, hn, he => by
    simp only [enc] at h
    split at h
    · split at h
      · rename_i e hl
        simp only [Option.some.injEq] at h
        subst h
        simp only [Lk06.elen] at he
        have h1 := Lk06.elenL_len l
        have := size_few (n := l.length) (by omega)
        rw [List.cons_append]
        exact .cons (by decide) (by decide) (.app (.size (by omega)) (encL_nice hl hn (by omega)))
      · cases h
    · cases h
  | .ref _, _, bs, h, _, _ => by simp [enc] at h
theorem encL_nice : ∀ {l : List D} {k : Nat} {bs : List Int}, encL l k = some bs → NumBL l → Lk06.elenL l ≤ 1000000 → Nice bs
  | [], _, bs, h, _, _ => by simp only [encL, Option.some.injEq] at h; subst h; exact .nil
  | d :: l, k, bs, h, hn, he => by
    simp only [encL] at h
    split at h
    · rename_i a b ha hb
      simp only [Option.some.injEq] at h
      subst h
      simp only [Lk06.elenL] at he
      exact .app (enc_nice ha hn.1 (by omega)) (encL_nice hb hn.2 (by omega))
    · cases h
end
/-- a number read: how great, how many great bytes -/
theorem numR_lt {bs : List Int} (hb : ∀ x ∈ bs, 0 ≤ x ∧ x < 256) : ∀ (f at_ first n shift : Nat) (v a : Nat), numR bs f at_ first n shift = .ok (v, a) → n < 2 ^ shift →
    at_ < a ∧ a ≤ bs.length ∧ v < 2 ^ (shift + 7 * (a - at_)) ∧ ws ((bs.drop at_).take (a - at_ - 1)) = ((a - at_ - 1 : Nat) : Int) := by
  intro f
  induction f with
  | zero => intro at_ first n shift v a h; simp [numR] at h
  | succ f ih =>
    intro at_ first n shift v a h hn
    rw [numR] at h
    split at h
    · cases h
    rename_i b hget
    have hlt := (List.getElem?_eq_some_iff.mp hget).1
    have hr := hb b (List.mem_of_getElem? hget)
    split at h
    · rename_i hbig
      have hn' : n + (b - 128).toNat * 2 ^ shift < 2 ^ (shift + 7) := by
        have h1 : (b - 128).toNat ≤ 127 := by omega
        have h2 : (b - 128).toNat * 2 ^ shift ≤ 127 * 2 ^ shift := Nat.mul_le_mul_right _ h1
        rw [Nat.pow_add]
        omega
      obtain ⟨h1, h2, h3, h4⟩ := ih _ _ _ _ _ _ h hn'
      refine ⟨by omega, h2, ?_, ?_⟩
      · rw [show shift + 7 * (a - at_) = shift + 7 + 7 * (a - (at_ + 1)) by omega]; exact h3
      · have e1 : bs.drop at_ = b :: bs.drop (at_ + 1) := by
          rw [List.drop_eq_getElem_cons hlt]
          congr 1
          exact (List.getElem?_eq_some_iff.mp hget).2
        rw [e1, show a - at_ - 1 = (a - (at_ + 1) - 1) + 1 by omega, List.take_succ_cons]
        simp only [ws, wt, if_pos hbig, h4]
        omega
    · split at h
      · cases h
      · simp only [Except.ok.injEq, Prod.mk.injEq] at h
        obtain ⟨rfl, rfl⟩ := h
        refine ⟨by omega, by omega, ?_, by simp [ws]⟩
        have h1 : b.toNat ≤ 127 := by omega
        have h2 : b.toNat * 2 ^ shift ≤ 127 * 2 ^ shift := Nat.mul_le_mul_right _ h1
        rw [show at_ + 1 - at_ = 1 by omega, Nat.pow_add]
        omega
theorem num_lt {bs : List Int} (hb : ∀ x ∈ bs, 0 ≤ x ∧ x < 256) (hc : Cap 132 bs) {at_ v a : Nat} (h : num bs at_ = .ok (v, a)) : at_ < a ∧ a ≤ bs.length ∧ v < 2 ^ (7 * (a - at_)) ∧ a - at_ ≤ 133 := by
  obtain ⟨h1, h2, h3, h4⟩ := numR_lt hb _ _ _ _ _ _ _ h (by decide)
  refine ⟨h1, h2, by simpa using h3, ?_⟩
  have e : bs = bs.take at_ ++ (bs.drop at_).take (a - at_ - 1) ++ (bs.drop at_).drop (a - at_ - 1) := by
    rw [List.append_assoc, List.take_append_drop, List.take_append_drop]
  have := hc _ _ _ e
  rw [h4] at this
  omega
theorem letters_small (i : Nat) : letters.getD i 0 < 128 := by
  have h : ∀ c ∈ letters, c < 128 := by decide +kernel
  by_cases hi : i < letters.length
  · rw [List.getD_eq_getElem?_getD, List.getElem?_eq_getElem hi]
    exact h _ (List.getElem_mem hi)
  · rw [List.getD_eq_getElem?_getD, List.getElem?_eq_none (by omega)]
    decide
theorem many_sum {α : Type} {f : Nat → Rd α} {P : α → Prop} {w : α → Nat} {L : Nat} (hf : ∀ p v q, f p = .ok (v, q) → p < q ∧ q ≤ L ∧ P v ∧ w v ≤ 10 * (q - p)) : ∀ {n at_ b : Nat} {l : List α}, many f n at_ = .ok (l, b) → at_ ≤ L →
    at_ ≤ b ∧ b ≤ L ∧ (∀ v ∈ l, P v) ∧ l.length = n ∧ (l.map w).sum ≤ 10 * (b - at_)
  | 0, at_, b, l, h, ha => by
    simp only [many, Except.ok.injEq, Prod.mk.injEq] at h
    obtain ⟨rfl, rfl⟩ := h
    exact ⟨Nat.le_refl _, ha, fun _ h => (nomatch h), rfl, by simp⟩
  | n + 1, at_, b, l, h, ha => by
    rw [many] at h
    split at h
    · cases h
    · rename_i v c hv
      split at h
      · cases h
      · rename_i l' b' hl
        simp only [Except.ok.injEq, Prod.mk.injEq] at h
        obtain ⟨rfl, rfl⟩ := h
        obtain ⟨h1, h2, h3, h4⟩ := hf _ _ _ hv
        obtain ⟨i1, i2, i3, i4, i5⟩ := many_sum hf hl h2
        refine ⟨by omega, i2, fun x hx => ?_, by simp [i4], by simp; omega⟩
        rcases List.mem_cons.mp hx with rfl | hx
        · exact h3
        · exact i3 x hx
theorem shown_int {i : Int} {k : Nat} (hk : 0 < k) (h : i.natAbs < 2 ^ k) : (Str.ofString (toString i)).length ≤ k + 1 := by
  have h1 := int_text_length_le (a := i) hk (by
    by_cases h0 : i.natAbs = 0
    · rw [h0]; exact hk
    · exact (Nat.log2_lt h0).mpr h)
  rw [ofString_length]
  exact h1
theorem tupleText_le (ts : List Str) : (tupleText ts).length ≤ piled ts + 3 := by
  unfold tupleText
  rw [strLen_append, strLen_append]
  have e1 : ((("(" : String) : Str)).length = 1 := rfl
  have e3 : (((if ts.length == 1 then ",)" else ")" : String) : Str)).length ≤ 2 := by split <;> decide
  by_cases h : ts = []
  · subst h; simp; decide
  · have := join_length_add ts h
    rw [e1]; omega
/-- what can be shown, in so many bytes -/
structure Shw (lvl : Nat) (d : D) : Prop where
  ok : d.ok = true
  sh : d.py.showable = true
  dp : d.py.depth ≤ lvl
theorem shwL {lvl : Nat} : ∀ {l : List D}, (∀ v ∈ l, Shw lvl v) → D.okL l = true ∧ PyData.showableAll (D.pyL l) = true ∧ PyData.depthAll (D.pyL l) ≤ lvl
  | [], _ => ⟨rfl, by simp [D.pyL, PyData.showableAll], by simp [D.pyL, PyData.depthAll]⟩
  | d :: l, h => by
    have h1 := h d (by simp)
    obtain ⟨h2, h3, h4⟩ := shwL (l := l) fun v hv => h v (by simp [hv])
    refine ⟨by simp [D.okL, h1.ok, h2], by simp [D.pyL, PyData.showableAll, h1.sh, h3], ?_⟩
    have := h1.dp
    simp [D.pyL, PyData.depthAll]; omega
theorem piled_shown : ∀ (l : List D), piled (PyData.shownAll (D.pyL l)) = (l.map fun d => d.py.shown.length + 2).sum
  | [] => by simp [D.pyL, PyData.shownAll, piled]
  | d :: l => by simp only [D.pyL, PyData.shownAll, piled_cons, piled_shown l, List.map_cons, List.sum_cons]
theorem strOk_small {l : List Nat} (h : ∀ c ∈ l, c < 128) : PyData.strOk ⟨l.toArray⟩ = true := by
  unfold PyData.strOk
  simp
  intro c hc
  have := h c hc
  omega
theorem dec_shown' {bs : List Int} (hb : ∀ x ∈ bs, 0 ≤ x ∧ x < 256) (hc : Cap 132 bs) (lvl : Nat) (ih : ∀ m, lvl = m + 1 → ∀ p v q, dec bs m p = .ok (v, q) → p < q ∧ q ≤ bs.length ∧ Shw m v ∧ v.py.shown.length + 2 ≤ 10 * (q - p)) :
    ∀ p v q, dec bs lvl p = .ok (v, q) → p < q ∧ q ≤ bs.length ∧ Shw lvl v ∧ v.py.shown.length + 2 ≤ 10 * (q - p) := by
  intro p v q h
  have hle := dec_le _ _ _ _ h
  refine ⟨hle.1, hle.2, ?_⟩
  unfold dec at h
  split at h
  · cases h
  rename_i c hget
  have hp := (List.getElem?_eq_some_iff.mp hget).1
  have few : ∀ x : Str, x.length ≤ 8 → x.length + 2 ≤ 10 * (q - p) := fun x hx => by omega
  split at h
  · cases h
  split at h
  · simp only [Except.ok.injEq, Prod.mk.injEq] at h
    obtain ⟨rfl, rfl⟩ := h
    exact ⟨⟨rfl, by simp [D.py, PyData.showable], by simp [D.py, PyData.depth]⟩, few _ (by simp only [D.py, PyData.shown]; decide)⟩
  split at h
  · simp only [Except.ok.injEq, Prod.mk.injEq] at h
    obtain ⟨rfl, rfl⟩ := h
    exact ⟨⟨rfl, by simp [D.py, PyData.showable], by simp [D.py, PyData.depth]⟩, few _ (by simp only [D.py, PyData.shown]; decide)⟩
  split at h
  · simp only [Except.ok.injEq, Prod.mk.injEq] at h
    obtain ⟨rfl, rfl⟩ := h
    exact ⟨⟨rfl, by simp [D.py, PyData.showable], by simp [D.py, PyData.depth]⟩, few _ (by simp only [D.py, PyData.shown]; decide)⟩
  split at h
  · cases h
  rename_i n a hn
  obtain ⟨n1, n2, n3, n4⟩ := num_lt hb hc hn
  have nbig : (2 : Nat) ^ (7 * (a - (p + 1))) ≤ 2 ^ 931 := Nat.pow_le_pow_right (by decide) (by omega)
  have int : ∀ i : Int, i.natAbs ≤ 2 ^ (7 * (a - (p + 1))) → Shw lvl (.int i) ∧ (D.int i).py.shown.length + 2 ≤ 10 * (a - p) := fun i hi => by
    refine ⟨⟨rfl, ?_, by simp [D.py, PyData.depth]⟩, ?_⟩
    · simp only [D.py, PyData.showable]
      refine decide_eq_true ?_
      by_cases h0 : i.natAbs = 0
      · rw [h0]; decide
      · refine (Nat.log2_lt h0).mpr (Nat.lt_of_le_of_lt (Nat.le_trans hi nbig) (Nat.pow_lt_pow_right (by decide) (by decide)))
    · simp only [D.py, PyData.shown]
      have := shown_int (i := i) (k := 7 * (a - (p + 1)) + 1) (by omega) (Nat.lt_of_le_of_lt hi (Nat.pow_lt_pow_right (by decide) (by omega)))
      omega
  split at h
  · simp only [Except.ok.injEq, Prod.mk.injEq] at h
    obtain ⟨rfl, rfl⟩ := h
    exact int _ (by omega)
  split at h
  · simp only [Except.ok.injEq, Prod.mk.injEq] at h
    obtain ⟨rfl, rfl⟩ := h
    exact int _ (by omega)
  split at h
  · split at h
    · cases h
    · rename_i l b hm
      simp only [Except.ok.injEq, Prod.mk.injEq] at h
      obtain ⟨rfl, rfl⟩ := h
      have := many_sum (f := sign bs) (P := fun c => c < 128) (w := fun _ => 10) (L := bs.length) (fun p v q h => by
        have h1 := sign_le h
        refine ⟨by omega, by omega, ?_, by omega⟩
        unfold sign at h
        split at h
        · cases h
        · split at h
          · cases h
          · simp only [Except.ok.injEq, Prod.mk.injEq] at h
            rw [← h.1]
            exact letters_small _) hm n2
      obtain ⟨m1, m2, m3, m4, m5⟩ := this
      have hs : ∀ cs : List Nat, (cs.map fun _ => 10).sum = 10 * cs.length := by
        intro cs
        induction cs with
        | nil => rfl
        | cons c cs ih => simp [ih]; omega
      rw [hs] at m5
      refine ⟨⟨strOk_small m3, by simp [D.py, PyData.showable], by simp [D.py, PyData.depth]⟩, ?_⟩
      simp only [D.py, PyData.shown]
      have := StrLaws.reprText_len ⟨l.toArray⟩ fun c hc => by
        have := m3 c (by simpa using hc)
        omega
      have e : (Str.mk l.toArray).length = l.length := by simp [Str.length]
      rw [e] at this
      omega
  split at h
  · cases h
  split at h
  · cases h
  rename_i l b hm
  simp only [Except.ok.injEq, Prod.mk.injEq] at h
  obtain ⟨rfl, rfl⟩ := h
  obtain ⟨m1, m2, m3, m4, m5⟩ := many_sum (w := fun d : D => d.py.shown.length + 2) (L := bs.length) (ih _ rfl) hm n2
  obtain ⟨l1, l2, l3⟩ := shwL m3
  refine ⟨⟨by simpa [D.ok] using l1, by simpa [D.py, PyData.showable] using l2, by simp [D.py, PyData.depth]; omega⟩, ?_⟩
  simp only [D.py, PyData.shown]
  have := tupleText_le (PyData.shownAll (D.pyL l))
  rw [piled_shown] at this
  omega
theorem dec_shown {bs : List Int} (hb : ∀ x ∈ bs, 0 ≤ x ∧ x < 256) (hc : Cap 132 bs) : ∀ (lvl p : Nat) (v : D) (q : Nat), dec bs lvl p = .ok (v, q) → p < q ∧ q ≤ bs.length ∧ Shw lvl v ∧ v.py.shown.length + 2 ≤ 10 * (q - p)
  | 0 => dec_shown' hb hc 0 fun m h => by omega
  | lvl + 1 => dec_shown' hb hc (lvl + 1) fun m h => by
    have : m = lvl := by omega
    subst this
    exact dec_shown hb hc m
theorem decAll_shown {bs : List Int} (hb : ∀ x ∈ bs, 0 ≤ x ∧ x < 256) (hc : Cap 132 bs) {v : D} (h : decAll bs = .ok v) : Shw 60 v ∧ v.py.shown.length + 2 ≤ 10 * bs.length := by
  unfold decAll at h
  split at h
  · cases h
  · rename_i v' a hd
    split at h
    · cases h
    · simp only [Except.ok.injEq] at h
      subst h
      obtain ⟨h1, h2, h3, h4⟩ := dec_shown hb hc _ _ _ _ hd
      exact ⟨h3, by omega⟩
end P06
end
-- GP13
section
set_option maxRecDepth 100000
set_option maxHeartbeats 4000000
namespace Lk06
open PySem PySem.Spec PyProof.Rows L2 T3 P06
mutual
theorem ok_strs : ∀ {d : D}, d.ok = true → StrsOk d ∧ ∀ h, RefsOk h d
  | .non, _ => ⟨trivial, fun _ => trivial⟩
  | .bl _, _ => ⟨trivial, fun _ => trivial⟩
  | .int _, _ => ⟨trivial, fun _ => trivial⟩
  | .str x, h => ⟨fun c hc => by
      simp only [D.ok, PyData.strOk, Array.all_eq_true] at h ⊢
      simp
      obtain ⟨i, hi, e⟩ := List.mem_iff_getElem.mp hc
      have := h i (by simpa using hi)
      simp at this e
      omega, fun _ => trivial⟩
  | .tup l, h => by
    obtain ⟨a, b⟩ := okL_strs (l := l) (by simpa [D.ok] using h)
    exact ⟨a, b⟩
  | .ref _, h => by simp [D.ok] at h
theorem okL_strs : ∀ {l : List D}, D.okL l = true → StrsOkL l ∧ ∀ h, RefsOkL h l
  | [], _ => ⟨trivial, fun _ => trivial⟩
  | d :: l, h => by
    simp only [D.okL, Bool.and_eq_true] at h
    obtain ⟨a, b⟩ := ok_strs h.1
    obtain ⟨c, e⟩ := okL_strs h.2
    exact ⟨⟨a, c⟩, fun hh => ⟨b hh, e hh⟩⟩
end
theorem el_str {x : Str} {n : Nat} (h : x.cps.size ≤ n) (hn : n < 128) : elen (.str x) ≤ 2 + n := by
  have := sizeB_small (n := x.cps.size) (by omega)
  simp only [elen]; omega
theorem el_tup {l : List D} (h : l.length < 128) : elen (.tup l) = 2 + elenL l := by
  have := sizeB_small (n := l.length) h
  simp only [elen]; omega
theorem el_int {i : Int} (h0 : 0 ≤ i) (h1 : i < 128) : elen (.int i) = 2 := by
  have := sizeB_small (n := i.toNat) (by omega)
  simp only [elen]; rw [if_pos h0]; omega
theorem el_int3 {i : Int} (h0 : 0 ≤ i) (h1 : i < 2097152) : elen (.int i) ≤ 4 := by
  have := sizeB_pow 2 i.toNat (by omega)
  simp only [elen]; rw [if_pos h0]; omega
theorem nb_int {i : Int} (h0 : 0 ≤ i) (h1 : i < 2097152) : NumB (.int i) := ⟨by omega, by omega⟩
structure Small (top : Int) (ars others : List (Str × Int)) : Prop where
  t : top ≤ 65536
  a : ∀ x ∈ ars, x.1.cps.size ≤ 4
  o : ∀ x ∈ others, x.1.cps.size ≤ 4 ∧ x.2 ≤ 3
theorem ops_few : ∀ o ∈ pairOps ++ singleOps, o.cps.size ≤ 5 := by decide +kernel
theorem el_ex {top : Int} {ars others : List (Str × Int)} (S : Small top ars others) : ∀ {n : Nat} {e : Ex}, e.Wf top ars n → elen e.toD + 9 ≤ 11 * 2 ^ n ∧ NumB e.toD
  | 0, _, h => h.elim
  | n + 1, .int i, h => by
    have h1 := el_int3 h.1 (by have := S.t; have := h.2; omega)
    have h2 := el_str (x := "int") (n := 3) (by decide +kernel) (by decide)
    have h3 := el_tup (l := [.str "int", .int i]) (by simp)
    simp only [elenL] at h3
    have h4 : 1 ≤ 2 ^ n := Nat.one_le_pow _ _ (by decide)
    refine ⟨by simp only [Ex.toD, Nat.pow_succ]; omega, trivial, nb_int h.1 (by have := S.t; have := h.2; omega), trivial⟩
  | n + 1, .var i, h => by
    have h1 := el_int h.1 (by have := h.2; omega)
    have h2 := el_str (x := "var") (n := 3) (by decide +kernel) (by decide)
    have h3 := el_tup (l := [.str "var", .int i]) (by simp)
    simp only [elenL] at h3
    have h4 : 1 ≤ 2 ^ n := Nat.one_le_pow _ _ (by decide)
    refine ⟨by simp only [Ex.toD, Nat.pow_succ]; omega, trivial, nb_int h.1 (by have := h.2; omega), trivial⟩
  | n + 1, .cell a e, h => by
    obtain ⟨⟨z, hz⟩, h2⟩ := h
    obtain ⟨i1, i2⟩ := el_ex S h2
    have h1 := el_str (x := a) (n := 4) (S.a _ hz) (by decide)
    have h2 := el_str (x := "cell") (n := 4) (by decide +kernel) (by decide)
    have h3 := el_tup (l := [.str "cell", .str a, e.toD]) (by simp)
    simp only [elenL] at h3
    have h4 : 2 ≤ 2 ^ n := by
      cases n with
      | zero => exact (‹Ex.Wf top ars 0 e›).elim
      | succ n => have := Nat.one_le_pow n 2 (by decide); rw [Nat.pow_succ]; omega
    refine ⟨by simp only [Ex.toD, Nat.pow_succ]; omega, trivial, trivial, i2, trivial⟩
  | n + 1, .one a e, h => by
    obtain ⟨i1, i2⟩ := el_ex S h.2
    have h1 := el_str (x := a) (n := 5) (ops_few a (List.mem_append_right _ h.1)) (by decide)
    have h3 := el_tup (l := [.str a, e.toD]) (by simp)
    simp only [elenL] at h3
    have h4 : 2 ≤ 2 ^ n := by
      cases n with
      | zero => exact h.2.elim
      | succ n => have := Nat.one_le_pow n 2 (by decide); rw [Nat.pow_succ]; omega
    refine ⟨by simp only [Ex.toD, Nat.pow_succ]; omega, trivial, i2, trivial⟩
  | n + 1, .two a e f, h => by
    obtain ⟨i1, i2⟩ := el_ex S h.2.1
    obtain ⟨j1, j2⟩ := el_ex S h.2.2
    have h1 := el_str (x := a) (n := 5) (ops_few a (List.mem_append_left _ h.1)) (by decide)
    have h3 := el_tup (l := [.str a, e.toD, f.toD]) (by simp)
    simp only [elenL] at h3
    refine ⟨by simp only [Ex.toD, Nat.pow_succ]; omega, trivial, i2, j2, trivial⟩
theorem mapL {α : Type} {f : α → D} {b : Nat} {l : List α} (h : ∀ x ∈ l, elen (f x) ≤ b ∧ NumB (f x)) : elenL (l.map f) ≤ l.length * b ∧ NumBL (l.map f) := by
  refine ⟨?_, NumBL.of fun d hd => ?_⟩
  · have := elenL_le (l := l.map f) (b := b) fun d hd => by
      obtain ⟨x, hx, rfl⟩ := List.mem_map.mp hd
      exact (h x hx).1
    simpa using this
  · obtain ⟨x, hx, rfl⟩ := List.mem_map.mp hd
    exact (h x hx).2
theorem el_ex5 {top : Int} {ars others : List (Str × Int)} (S : Small top ars others) {e : Ex} (h : e.Wf top ars 5) : elen e.toD ≤ 343 ∧ NumB e.toD := by
  obtain ⟨a, b⟩ := el_ex S h
  exact ⟨by omega, b⟩
theorem el_sm {top : Int} {ars others : List (Str × Int)} (S : Small top ars others) {s : Sm} (h : s.Wf top ars others) : elen s.toD ≤ 1050 ∧ NumB s.toD := by
  cases s with
  | set v e =>
    obtain ⟨h1, h2⟩ := h
    obtain ⟨i1, i2⟩ := el_ex5 S h2
    have h3 := el_int h1.1 (by omega)
    have h4 := el_str (x := "set") (n := 3) (by decide +kernel) (by decide)
    have h5 := el_tup (l := [.str "set", .int v, e.toD]) (by simp)
    simp only [elenL] at h5
    exact ⟨by simp only [Sm.toD]; omega, trivial, nb_int h1.1 (by omega), i2, trivial⟩
  | take v =>
    have h1 : 0 ≤ v ∧ v ≤ 39 := h
    have h3 := el_int h1.1 (by omega)
    have h4 := el_str (x := "take") (n := 4) (by decide +kernel) (by decide)
    have h5 := el_tup (l := [.str "take", .int v]) (by simp)
    simp only [elenL] at h5
    exact ⟨by simp only [Sm.toD]; omega, trivial, nb_int h1.1 (by omega), trivial⟩
  | put e =>
    obtain ⟨i1, i2⟩ := el_ex5 (others := others) S h
    have h4 := el_str (x := "put") (n := 3) (by decide +kernel) (by decide)
    have h5 := el_tup (l := [.str "put", e.toD]) (by simp)
    simp only [elenL] at h5
    exact ⟨by simp only [Sm.toD]; omega, trivial, i2, trivial⟩
  | store a e f =>
    obtain ⟨⟨z, hz⟩, h1, h2⟩ := h
    obtain ⟨i1, i2⟩ := el_ex5 S h1
    obtain ⟨j1, j2⟩ := el_ex5 S h2
    have h3 := el_str (x := a) (n := 4) (S.a _ hz) (by decide)
    have h4 := el_str (x := "store") (n := 5) (by decide +kernel) (by decide)
    have h5 := el_tup (l := [.str "store", .str a, e.toD, f.toD]) (by simp)
    simp only [elenL] at h5
    exact ⟨by simp only [Sm.toD]; omega, trivial, trivial, i2, j2, trivial⟩
  | assert k e =>
    obtain ⟨h1, h2⟩ := h
    obtain ⟨i1, i2⟩ := el_ex5 S h2
    have h3 := el_int h1.1 (by omega)
    have h4 := el_str (x := "assert") (n := 6) (by decide +kernel) (by decide)
    have h5 := el_tup (l := [.str "assert", .int k, e.toD]) (by simp)
    simp only [elenL] at h5
    exact ⟨by simp only [Sm.toD]; omega, trivial, nb_int h1.1 (by omega), i2, trivial⟩
  | call v p es =>
    obtain ⟨h1, h2, h6⟩ := h
    obtain ⟨o1, o2⟩ := S.o _ h2
    have o2 : es.length ≤ 3 := by simp at o2; omega
    have h3 := el_int h1.1 (by omega)
    have h4 := el_str (x := "call") (n := 4) (by decide +kernel) (by decide)
    have h7 := el_str (x := p) (n := 4) o1 (by decide)
    obtain ⟨i1, i2⟩ := mapL (f := Ex.toD) (b := 343) fun e he => el_ex5 S (h6 e he)
    have h8 := el_tup (l := es.map Ex.toD) (by simp; omega)
    have h5 := el_tup (l := [.str "call", .int v, .str p, .tup (es.map Ex.toD)]) (by simp)
    simp only [elenL] at h5
    have h9 : es.length * 343 ≤ 3 * 343 := Nat.mul_le_mul_right _ o2
    exact ⟨by simp only [Sm.toD]; omega, trivial, nb_int h1.1 (by omega), trivial, i2, trivial⟩
theorem el_nd {top : Int} {ars others : List (Str × Int)} (S : Small top ars others) {L : List Int} (hL : ∀ x ∈ L, 0 ≤ x ∧ x < 128) {n : Nd} (h : n.Wf top ars L) : elen n.toD ≤ 357 ∧ NumB n.toD := by
  cases n with
  | go l =>
    have hl := hL l h
    have h3 := el_int hl.1 hl.2
    have h4 := el_str (x := "go") (n := 2) (by decide +kernel) (by decide)
    have h5 := el_tup (l := [.str "go", .int l]) (by simp)
    simp only [elenL] at h5
    exact ⟨by simp only [Nd.toD]; omega, trivial, nb_int hl.1 (by omega), trivial⟩
  | iff e l m =>
    obtain ⟨h1, h2, h6⟩ := h
    have hl := hL l h2
    have hm := hL m h6
    obtain ⟨i1, i2⟩ := el_ex5 (others := others) S h1
    have h3 := el_int hl.1 hl.2
    have h7 := el_int hm.1 hm.2
    have h4 := el_str (x := "if") (n := 2) (by decide +kernel) (by decide)
    have h5 := el_tup (l := [.str "if", e.toD, .int l, .int m]) (by simp)
    simp only [elenL] at h5
    exact ⟨by simp only [Nd.toD]; omega, trivial, i2, nb_int hl.1 (by omega), nb_int hm.1 (by omega), trivial⟩
  | ret e =>
    obtain ⟨i1, i2⟩ := el_ex5 (others := others) S h
    have h4 := el_str (x := "return") (n := 6) (by decide +kernel) (by decide)
    have h5 := el_tup (l := [.str "return", e.toD]) (by simp)
    simp only [elenL] at h5
    exact ⟨by simp only [Nd.toD]; omega, trivial, i2, trivial⟩
theorem lbl_rng (gap : Int) (k : Nat) : 0 ≤ lbl gap k ∧ lbl gap k < 128 := by unfold lbl; omega
theorem el_bks {top : Int} {ars others : List (Str × Int)} (S : Small top ars others) {bs : List Bk} (h : BlWf top ars others bs) : elen (.tup (bs.map Bk.toD)) ≤ 40000 ∧ NumB (.tup (bs.map Bk.toD)) := by
  have hL : ∀ x ∈ bs.map Bk.label, 0 ≤ x ∧ x < 128 := by
    obtain ⟨gap, n, _, _, _, _, e⟩ := h.lab
    rw [e]
    intro x hx
    obtain ⟨k, _, rfl⟩ := List.mem_map.mp hx
    exact lbl_rng gap k
  have one : ∀ b ∈ bs, elen b.toD ≤ 6666 ∧ NumB b.toD := fun b hb => by
    obtain ⟨i1, i2⟩ := mapL (f := Sm.toD) (b := 1050) fun s hs => el_sm S (h.sms b hb s hs)
    have hf := h.few b hb
    have h8 := el_tup (l := b.body.map Sm.toD) (by simp; omega)
    have hl := hL b.label (List.mem_map_of_mem hb)
    obtain ⟨j1, j2⟩ := el_nd S (fun x hx => hL x (List.mem_of_mem_tail hx)) (h.nds b hb)
    have h3 := el_int hl.1 hl.2
    have h5 := el_tup (l := [.int b.label, .tup (b.body.map Sm.toD), b.nd.toD]) (by simp)
    simp only [elenL] at h5
    have h9 : b.body.length * 1050 ≤ 6 * 1050 := Nat.mul_le_mul_right _ hf
    exact ⟨by simp only [Bk.toD]; omega, nb_int hl.1 (by omega), i2, j2, trivial⟩
  obtain ⟨i1, i2⟩ := mapL one
  have hp := h.pos
  have h8 := el_tup (l := bs.map Bk.toD) (by simp; omega)
  have h9 : bs.length * 6666 ≤ 6 * 6666 := Nat.mul_le_mul_right _ hp.2
  exact ⟨by omega, i2⟩
theorem oth_small {l : List (Str × Int)} (h : OthOk l) : ∀ x ∈ ent "main" 0 :: l, x.1.cps.size ≤ 4 ∧ (0 ≤ x.2 ∧ x.2 ≤ 3) ∧ PyData.strOk x.1 = true := by
  rcases h with rfl | rfl | rfl | rfl <;> decide +kernel
theorem ars_small {l : List (Str × Int)} (h : ArsOk l) : ∀ x ∈ l, x.1.cps.size ≤ 4 := by
  have h1 : ("mem" : Str).cps.size ≤ 4 ∧ ("a" : Str).cps.size ≤ 4 ∧ ("b_2" : Str).cps.size ≤ 4 := by decide +kernel
  rcases h with rfl | ⟨n, _, _, rfl⟩ | ⟨n, _, _, rfl⟩ | ⟨n, _, _, rfl⟩ <;> intro x hx <;> simp at hx
  · rw [hx]; exact h1.1
  · rcases hx with rfl | rfl
    · exact h1.2.1
    · exact h1.1
  · rcases hx with rfl | rfl | rfl
    · exact h1.2.1
    · exact h1.2.2
    · exact h1.1
theorem withMain_mem {l : List (Str × Int)} {x : Str × Int} (h : x ∈ withMain l) : x ∈ ent "main" 0 :: l := by
  cases l with
  | nil => exact h
  | cons a r =>
    simp [withMain] at h ⊢
    rcases h with h | h | h
    · exact .inr (.inl h)
    · exact .inl h
    · exact .inr (.inr h)
theorem withMain_len (l : List (Str × Int)) : (withMain l).length = l.length + 1 := by
  cases l <;> simp [withMain]
theorem pg_ok {w : Int} (h0 : 1 ≤ w) (h1 : w ≤ 16) {others : List (Str × Int)} {pg : Pg} (h : PgWf w others pg) : pg.toD.ok = true ∧ NumB pg.toD ∧ elen pg.toD ≤ 121000 := by
  have S : Small (p2 w) pg.arrays others := ⟨p2_16 h1, ars_small h.ars, fun x hx => by have := oth_small h.oth x (List.mem_cons_of_mem _ hx); exact ⟨this.1, this.2.1.2⟩⟩
  have nm : ∀ p ∈ pg.procs, ent p.name p.params ∈ ent "main" 0 :: others := fun p hp => withMain_mem (by rw [← h.prs]; exact List.mem_map_of_mem (f := fun p : Pr => ent p.name p.params) hp)
  have hlen : pg.procs.length ≤ 3 := by
    have := congrArg List.length h.prs
    rw [withMain_len] at this
    have := h.oth.ok.1
    simp at *; omega
  have hal := h.ars.sz
  have pr : ∀ p ∈ pg.procs, elen p.toD ≤ 40012 ∧ NumB p.toD := fun p hp => by
    obtain ⟨i1, i2⟩ := el_bks S (h.bls p hp)
    obtain ⟨n1, n2, n3⟩ := oth_small h.oth _ (nm p hp)
    have n1 : p.name.cps.size ≤ 4 := n1
    have n2 : 0 ≤ p.params ∧ p.params ≤ 3 := n2
    have h3 := el_int n2.1 (by omega)
    have h4 := el_str (x := p.name) (n := 4) n1 (by decide)
    have h5 := el_tup (l := [.str p.name, .int p.params, .tup (p.blocks.map Bk.toD)]) (by simp)
    simp only [elenL] at h5
    exact ⟨by simp only [Pr.toD]; omega, trivial, nb_int n2.1 (by omega), i2, trivial⟩
  have ar : ∀ a ∈ pg.arrays, elen (arD a) ≤ 10 ∧ NumB (arD a) := fun a ha => by
    have h3 := el_int (i := a.2) (by have := hal.2 a ha; omega) (by have := hal.2 a ha; omega)
    have h4 := el_str (x := a.1) (n := 4) (ars_small h.ars a ha) (by decide)
    have h5 := el_tup (l := [.str a.1, .int a.2]) (by simp)
    simp only [elenL] at h5
    exact ⟨by simp only [arD]; omega, trivial, nb_int (by have := hal.2 a ha; omega) (by have := hal.2 a ha; omega), trivial⟩
  obtain ⟨i1, i2⟩ := mapL pr
  obtain ⟨j1, j2⟩ := mapL ar
  have hw := h.wd
  have h3 := el_int (i := pg.w) (by omega) (by omega)
  have h8 := el_tup (l := pg.procs.map Pr.toD) (by simp; omega)
  have h7 := el_tup (l := pg.arrays.map arD) (by simp; omega)
  have h5 := el_tup (l := [.int pg.w, .tup (pg.arrays.map arD), .tup (pg.procs.map Pr.toD)]) (by simp)
  simp only [elenL] at h5
  have h9 : pg.procs.length * 40012 ≤ 3 * 40012 := Nat.mul_le_mul_right _ hlen
  have h10 : pg.arrays.length * 10 ≤ 3 * 10 := Nat.mul_le_mul_right _ hal.1
  refine ⟨?_, ⟨nb_int (by omega) (by omega), j2, i2, trivial⟩, by simp only [Pg.toD]; omega⟩
  have o1 : D.okL (pg.arrays.map arD) = true := by
    rw [okL_iff]
    intro d hd
    obtain ⟨a, ha, rfl⟩ := List.mem_map.mp hd
    simp [arD, D.ok, D.okL, h.ars.ok a ha]
  have o2 : D.okL (pg.procs.map Pr.toD) = true := by
    rw [okL_iff]
    intro d hd
    obtain ⟨p, hp, rfl⟩ := List.mem_map.mp hd
    exact Pr.ok h.ars.ok (fun a ha => (h.oth.ok.2 a ha).2) (oth_small h.oth _ (nm p hp)).2.2 (h.bls p hp)
  simp [Pg.toD, D.ok, D.okL, o1, o2]
end Lk06
end
-- T3Try
section
set_option maxRecDepth 100000
set_option maxHeartbeats 4000000
/-! T3Try: try: (return e | x = e) except Own as n: return e2. -/
namespace T3
open PySem PySem.Spec PyProof.Rows L2
/-- an expression that may raise: W is what is wanted of the error -/
def tIX (G : Sc) (C : Addr) (fld : Str) (f : (Ev → D → H3 → Prop) → WE) (W : WX) : TE := fun σ H Q => ∃ ρ h k ex, Rel G h H ∧ EvR H ρ σ ∧ f ex ρ h k ∧ Post G H k Q ∧
  ∀ ρ v h' x H' d σ, ex ρ v h' → Rel G h' H' → Per H H' → EvR H' ρ σ → DV H' v x → H' d = some (.xd [(fld, x)]) → W (.ref C) (some d) σ H'
section
variable {X : Cx} {G : Sc} {C : Addr} {fld x n : Str} {k : Nat} {sp : XS3} {e e2 tg : Expr} {es : List Expr} {l : WA} {W : WX} {f : (Ev → D → H3 → Prop) → WE} {g : Ev → D → H3 → K1 → Prop} {gt : WG} {i : Nat} {p np pos pos' rp rp2 : Pos} {ts : Addr → Value → Option Addr → TE}
theorem ix_call (tk : Takes X W) (F : FdX X.prog X.w X.K X.mg X.base G C fld x k sp) (hr : Room k X.A) (ha : PA3 X G (e :: es) l) (hg : Gl X x := by rfl)
    (hdb : (x == ("__debug__" : Str)) = false := by decide) (he : starEach (e :: es) X.env = (false, eval e X.env) :: starEach es X.env := by rfl) (hpl : (backTo pos (starEach es X.env)).any (·.1) = false := by rfl) :
    PE X (.Call (.Name x p) (e :: es) [] pos) (tIX G C fld (fun ex => wLX sp ex l) W) := by
  obtain ⟨fa, fd, ps, F, hm, hk, hb⟩ := F
  refine (pe_callS (E := L2.WE W) F hr hg hm hk hb (fun σ => passAt tk σ) ha hdb he hpl).weak fun σ H Q ⟨ρ, h, k, ex, rel, ev, q, post, px⟩ => ?_
  refine ⟨ρ, h, _, rel, ev, q, fun ds h1 vs H1 q1 rel1 per1 dvs => ⟨ds, h1, k, ex ρ, rel1, dvs, q1, post.per per1, fun v h' x H' d e1 r1 p1 d1 hd => ?_⟩⟩
  exact px ρ v h' x H' d σ e1 r1 (per1.trans p1) (ev.per (per1.trans p1)) d1 hd
/-- (text, e) -/
theorem ix_pair {s : Str} {j : Nat} {x1 : Nat} (he : PE X e (tIX G C fld f W)) (hst : starEach [.Constant (.str s) j p, e] X.env = (false, eval (.Constant (.str s) j p) X.env) :: starEach [e] X.env := by rfl) (hst2 : starEach [e] X.env = (false, eval e X.env) :: starEach [] X.env := by rfl) :
    PE X (.Tuple [.Constant (.str s) j p, e] x1 pos) (tIX G C fld (fun ex ρ h k => f ex ρ h fun d h1 => k (.tup [.str s, d]) h1) W) := by
  refine (pe_tup (x1 := x1) (pa_cons pe_str (pa_cons he pa_nil hst2) hst)).weak fun σ H Q ⟨ρ, h, k, ex, rel, ev, q, post, px⟩ => ?_
  refine ⟨ρ, h, _, ex, rel, ev, q, fun d h1 v H1 q1 rel1 per1 dv1 => ?_, px⟩
  refine ⟨by show 2 ≤ sizeLine; decide, fun p np => ?_⟩
  obtain ⟨r1, p1, d1⟩ := rel1.newTup np (DVs.cons (.str s) (.cons dv1 .nil))
  exact post _ h1 _ _ q1 r1 (per1.trans p1) d1
/-- what is read in the suite -/
def Suite (G : Sc) (C : Addr) (fld : Str) (i : Nat) (g : Ev → D → H3 → K1 → Prop) (ts : Addr → Value → Option Addr → TE) : Prop :=
  ∀ a d ρ v h k σ H x Q, Rel G h H → EvR H ρ σ → DV H v x → H d = some (.xd [(fld, x)]) → H a = none → g ρ v h k → Post G H k Q → ts a (.ref C) (some d) (σ.set i (some (.ref a))) H Q
def wTryR (f : (Ev → D → H3 → Prop) → WE) (g : Ev → D → H3 → K1 → Prop) : WS := fun E ρ h => f (fun ρ' v h' => g ρ' v h' E.rt) ρ h E.rt
def wTryA (f : (Ev → D → H3 → Prop) → WE) (gt : WG) (g : Ev → D → H3 → K1 → Prop) : WS := fun E ρ h => f (fun ρ' v h' => g ρ' v h' E.rt) ρ h fun d h1 => gt d ρ h1 E.nx
theorem is_tryR (i : Nat) (hN : X.N.Nodup) (hc : Names X x (.ref C)) (tm : PySem.W.exmOne X.K (.ref C) (.ref C) = some true)
    (he : ∀ (W : WX) (pn : List (Addr × Obj)) (xe : Value → Shared → Prop), Takes (X.tr pn xe) W → PE (X.tr pn xe) e (tIX G C fld f W))
    (hsu : ∀ (a : Addr) (oe : Obj) (cls : Value) (d : Option Addr) (pn : List (Addr × Obj)), Zc cls d oe → (∃ vs, oe.data = .fields vs) → PE (X.suite a ((a, oe) :: pn)) e2 (ts a cls d)) (sem : Suite G C fld i g ts)
    (hs : X.stack = X.env :: X.outer := by rfl) (hf : X.env.frame = some X.env.locals := by rfl) (hi : X.N[i]? = some n := by rfl) (hln : X.env.kindOf n = some .local := by rfl) :
    PS3 X G (.Try [.Return (some e) rp] [.ExceptHandler (some (.Name x np)) (some n) [.Return (some e2) rp2] pos'] [] [] pos) (wTryR f g) := by
  have base := ps_try_as (X := X) (i := i) (x := x) (n := n) (c := .ref C) (np := np) (pos := pos) (pos' := pos') (tb := fun W => tRet (tIX G C fld f W)) (ts := fun a cls d => tRet (ts a cls d)) (Wout := fun _ _ _ _ => False) hs hf hN hi hln hc takes0
    (fun W pn xe tk _ => pss_one (ps_ret (pos := rp) (he W pn xe tk))) (fun a oe cls d pn hz hf => pss_one (ps_ret (pos := rp2) (hsu a oe cls d pn hz hf)))
  refine base.weak fun D σ H ⟨ρ, h, E, rel, ev, q, post⟩ => ?_
  refine ⟨ρ, h, _, _, rel, ev, q, post.rt, fun ρ' v h' x H' d σ' e1 r1 p1 ev1 d1 hd => ⟨true, tm, fun _ a na => ?_, fun z => Bool.noConfusion z⟩⟩
  exact sem a d ρ' v h' _ σ' H' x _ r1 ev1 d1 hd na e1 (post.rt.per p1)
theorem is_tryA (i : Nat) (hN : X.N.Nodup) (hc : Names X x (.ref C)) (tm : PySem.W.exmOne X.K (.ref C) (.ref C) = some true)
    (he : ∀ (W : WX) (pn : List (Addr × Obj)) (xe : Value → Shared → Prop), Takes (X.tr pn xe) W → PS (X.tr pn xe) (.Assign [tg] e rp) (tAsg (tIX G C fld f W) (tIG G gt)))
    (hsu : ∀ (a : Addr) (oe : Obj) (cls : Value) (d : Option Addr) (pn : List (Addr × Obj)), Zc cls d oe → (∃ vs, oe.data = .fields vs) → PE (X.suite a ((a, oe) :: pn)) e2 (ts a cls d)) (sem : Suite G C fld i g ts)
    (hs : X.stack = X.env :: X.outer := by rfl) (hf : X.env.frame = some X.env.locals := by rfl) (hi : X.N[i]? = some n := by rfl) (hln : X.env.kindOf n = some .local := by rfl) :
    PS3 X G (.Try [.Assign [tg] e rp] [.ExceptHandler (some (.Name x np)) (some n) [.Return (some e2) rp2] pos'] [] [] pos) (wTryA f gt g) := by
  have base := ps_try_as (X := X) (i := i) (x := x) (n := n) (c := .ref C) (np := np) (pos := pos) (pos' := pos') (tb := fun W => tAsg (tIX G C fld f W) (tIG G gt)) (ts := fun a cls d => tRet (ts a cls d)) (Wout := fun _ _ _ _ => False) hs hf hN hi hln hc takes0
    (fun W pn xe tk _ => pss_one (he W pn xe tk)) (fun a oe cls d pn hz hf => pss_one (ps_ret (pos := rp2) (hsu a oe cls d pn hz hf)))
  refine base.weak fun D σ H ⟨ρ, h, E, rel, ev, q, post⟩ => ?_
  refine ⟨ρ, h, _, _, rel, ev, q, fun d h1 v H1 q1 rel1 per1 dv1 => ?_, fun ρ' v h' x H' d σ' e1 r1 p1 ev1 d1 hd => ⟨true, tm, fun _ a na => ?_, fun z => Bool.noConfusion z⟩⟩
  · exact ⟨d, ρ, h1, _, rel1, ev.per per1, dv1, q1, post.nx.per per1⟩
  · exact sem a d ρ' v h' _ σ' H' x _ r1 ev1 d1 hd na e1 (post.rt.per p1)
end
end T3
end
-- Lk06b
section
set_option maxRecDepth 100000
set_option maxHeartbeats 4000000
namespace Lk06
open PySem PySem.Spec PyProof.Rows L2 T3
/-- what the module has of its error, for except and error.at -/
structure ErrC (K : PySem.W.Frag) (mg : Str → Option Value) (C : Addr) : Prop where
  gm : mg "PackError" = some (.ref C)
  xf : XfC K C
  no : PySem.W.findIn K (.ref C) "at" = some none
  tm : PySem.W.exmOne K (.ref C) (.ref C) = some true
theorem room70 {k : Nat} {A : Around} (r : Room k A) : A.units + 70 < cLine := by have := r.un; omega
section
variable {P : Program} {w : World} {K : PySem.W.Frag} {mg : Str → Option Value} {base : Heap} {G : Sc}
/-! ### _law_told -/
abbrev s_l_told : Stmt := top 33
abbrev N_l_told : List Str := ["data", "error"]
theorem sc_l_told : FnScope N_l_told ["data"] (defScope s_l_told) := ⟨rfl, rfl, rfl, by decide +kernel, rfl, by decide +kernel, by decide +kernel⟩
def W_l_told (p_unpack : XS3) : WS := wTryR (fun ex ρ h k => wLX p_unpack ex (wCons (wL rListOf (wCons (wVar 0) wNil)) wNil) ρ h fun d h1 => k (.tup [.str "value", d]) h1) (fun ρ v h k => 1 < ρ.length ∧ k (.tup [.str "at", v]) h)
theorem sem_told {C : Addr} : Suite G C "at" 1 (fun ρ v h k => 1 < ρ.length ∧ k (.tup [.str "at", v]) h) (fun a cls d => tTup (tCons (tC (.str "at")) (tCons (tXf a cls d C "at" (tVar 1)) tNil))) := by
  intro a d ρ v h k σ H x Q rel ev dv hd na q post
  have e1 : (σ.set 1 (some (V.ref a)))[1]? = some (some (V.ref a)) := List.getElem?_set_self (by rw [← ev.1]; exact q.1)
  refine ⟨.ref a, e1, rfl, rfl, d, _, x, rfl, hd, by simp [List.lookup], by show 2 ≤ sizeLine; decide, fun p np => ?_⟩
  obtain ⟨r1, p1, d1⟩ := rel.newTup np (DVs.cons (.str "at") (.cons dv .nil))
  exact post _ h _ _ q.2 r1 p1 d1
theorem walk_l_told {C : Addr} {p_unpack : XS3} {k : Nat} (T : Mg mg) (R : ErrC K mg C) {f : Addr} (cdv : Value) (A : Around) (outer : List Env) (s : Shared) (H : Hp) (E : XK) (hr : Room (k + 1) (A.deeper (envOfC "_law_told" (defScope s_l_told) s.heap.objs.size f cdv)))
    (F_unpack : FdX P w K mg base G C "at" "unpack" (k + 1) p_unpack) :
    PSs3 (CXF P w K mg base N_l_told "_law_told" s_l_told f cdv A outer s H E) G (defBody s_l_told) (W_l_told p_unpack) := by
  unfold W_l_told
  exact is_one (is_tryR 1 sc_l_told.nd ⟨rfl, by decide, .inl R.gm⟩ R.tm
    (fun W pn xe tk => ix_pair (ix_call tk F_unpack hr (ia_cons (i_callT rf_listOf rfl T.list b_list (ia_cons (i_var 0) ia_nil)) ia_nil)))
    (fun a oe cls d pn hz hf => pe_tup (pa_cons pe_str (pa_cons (pe_xf R.xf R.no hz hf (pv 1)) pa_nil))) sem_told)
/-! ### law -/
abbrev s_law : Stmt := top 36
abbrev N_law : List Str := ["script", "draw", "value", "due", "data", "error", "turn"]
theorem sc_law : FnScope N_law ["script"] (defScope s_law) := ⟨rfl, rfl, rfl, by decide +kernel, rfl, by decide +kernel, by decide +kernel⟩
abbrev g_law : Ev → D → H3 → K1 → Prop := fun ρ v h k => 5 < ρ.length ∧ ρ[3]? = some (some .non) ∧ v = .int (-1) ∧ k (.bl true) h
def W_law (p_draw p_take p_program p_plain p_bytes : Sp3) (p_pack : XS3) (p_told p_changed p_due : Sp3) : WS :=
  wSeq (wAsg (wL p_draw (wCons (wVar 0) wNil)) (gN 1))
  (wSeq (wAsg (wIf (wB (w2 T3.rEq (wL p_take (wCons (wVar 1) (wCons (wC (.int 4)) wNil))) (wC (.int 0)))) (wL p_program (wCons (wVar 1) (wCons (wC (.int 3)) (wCons (wC (.int 3)) (wCons (wC (.int 3)) wNil))))) (wL p_plain (wCons (wVar 1) (wCons (wC (.int 4)) wNil)))) (gN 2))
  (wSeq (wAsg (wL p_bytes (wCons (wVar 2) (wCons (wC (.int 0)) wNil))) (gN 3))
  (wSeq (wTryA (fun ex => wLX p_pack ex (wCons (wVar 2) wNil)) (gN 4) g_law)
  (wSeq (wIfS (wOr (wB (w1 (T3.rIsN false) (wVar 3))) (wOr (wB (w2 T3.rNe (wVar 4) (wVar 3))) (wOr (wNot (wB (w1 (T3.rIsi .list) (wVar 4)))) (wB (w2 T3.rNe (wL rRepr (wCons (wL p_told (wCons (wVar 4) wNil)) wNil)) (wL rRepr (wCons (wL T3.rTup (wCons (wC (.str "value")) (wCons (wVar 2) wNil))) wNil))))))) (wRet (wC (.bl false))) wNext)
  (wSeq (wFor (wRg1 (wCons (wC (.int 6)) wNil)) (gN 6) (wSeq (wAsg (wL p_changed (wCons (wVar 1) (wCons (wVar 4) wNil))) (gN 4))
    (wIfS (wB (w2 T3.rNe (wL rRepr (wCons (wL p_told (wCons (wVar 4) wNil)) wNil)) (wL rRepr (wCons (wL p_due (wCons (wVar 4) wNil)) wNil)))) (wRet (wC (.bl false))) wNext)))
  (wRet (wC (.bl true))))))))
theorem sem_law {C : Addr} : Suite G C "at" 5 g_law (fun a cls d => tAndV (tIsN (tVar 3)) (tOp L2.rEq (tXf a cls d C "at" (tVar 5)) (tUn (rU fun i => .int (-i)) (tC (.int 1))))) := by
  intro a d ρ v h k σ H x Q rel ev dv hd na ⟨q1, q2, q3, q⟩ post
  subst q3
  cases dv
  obtain ⟨u, e3, r3⟩ := ev.2 3 _ q2
  cases r3
  have e1 : (σ.set 5 (some (V.ref a)))[5]? = some (some (V.ref a)) := List.getElem?_set_self (by rw [← ev.1]; exact q1)
  refine ⟨.non, by rw [List.getElem?_set_ne (by decide)]; exact e3, true, by simp, ?_⟩
  refine ⟨.ref a, e1, rfl, rfl, d, _, .int (-1), rfl, hd, by simp [List.lookup], 1, rfl, ?_⟩
  exact ⟨rfl, post_bl post rel q⟩
theorem walk_law {C : Addr} {p_draw p_take p_program p_plain p_bytes p_told p_changed p_due : Sp3} {p_pack : XS3} {k : Nat} (T : Mg mg) (hrepr : mg "repr" = none) (R : ErrC K mg C) {f : Addr} (cdv : Value) (A : Around) (hgd : A.guards = some []) (outer : List Env) (s : Shared) (H : Hp) (E : XK) (hr : Room (k + 1) (A.deeper (envOfC "law" (defScope s_law) s.heap.objs.size f cdv)))
    (F_draw : Fd P w K mg base G "_law_draw" (k + 1) p_draw) (F_take : Fd P w K mg base G "_law_take" (k + 1) p_take) (F_program : Fd P w K mg base G "_law_program" (k + 1) p_program) (F_plain : Fd P w K mg base G "_law_plain" (k + 1) p_plain) (F_bytes : Fd P w K mg base G "_law_bytes" (k + 1) p_bytes)
    (F_pack : FdX P w K mg base G C "at" "pack" (k + 1) p_pack) (F_told : Fd P w K mg base G "_law_told" (k + 1) p_told) (F_changed : Fd P w K mg base G "_law_changed" (k + 1) p_changed) (F_due : Fd P w K mg base G "_law_due" (k + 1) p_due) :
    PSs3 (CXF P w K mg base N_law "law" s_law f cdv A outer s H E) G (defBody s_law) (W_law p_draw p_take p_program p_plain p_bytes p_pack p_told p_changed p_due) := by
  unfold W_law
  exact is_cons (is_asg (i_call F_draw hr (ia_cons (i_var 0) ia_nil)) (ig_name 1 sc_law.nd))
    (is_cons (is_asg (i_if (it_cmp (rf_eq hr.units) (i_call F_take hr (ia_cons (i_var 1) (ia_cons i_int ia_nil))) i_int) (i_call F_program hr (ia_cons (i_var 1) (ia_cons i_int (ia_cons i_int (ia_cons i_int ia_nil))))) (i_call F_plain hr (ia_cons (i_var 1) (ia_cons i_int ia_nil)))) (ig_name 2 sc_law.nd))
    (is_cons (is_asg (i_call F_bytes hr (ia_cons (i_var 2) (ia_cons i_int ia_nil))) (ig_name 3 sc_law.nd))
    (is_cons (is_tryA 5 sc_law.nd ⟨rfl, by decide, .inl R.gm⟩ R.tm (fun W pn xe tk => ps_asg (ix_call tk F_pack hr (ia_cons (i_var 2) ia_nil)) (ig_name 4 sc_law.nd))
      (fun a oe cls d pn hz hf => pe_and (pe_cmp (pc_isN (pv 3))) (pe_one (pe_cmpR op_eq (pe_xf R.xf R.no hz hf (pv 5)) (pe_un un_neg pe_int) rfl))) sem_law)
    (is_cons (is_if (it_w (iw_or (it_isN (i_var 3)) (iw_or (it_cmp (rf_ne hr.units) (i_var 4) (i_var 3)) (iw_or (it_not (it_val (i_isi .list rfl T.isinstance b_isinstance rfl T.list b_list (i_var 4))))
        (iw_or1 (it_cmp (rf_ne hr.units) (i_callB (rf_repr (room70 hr) hgd) rfl hrepr b_repr (ia_cons (i_call F_told hr (ia_cons (i_var 4) ia_nil)) ia_nil)) (i_callB (rf_repr (room70 hr) hgd) rfl hrepr b_repr (ia_cons (i_tup (ia_cons i_str (ia_cons (i_var 2) ia_nil))) ia_nil)))))))) (is_one (is_ret i_bl)) is_nil)
    (is_cons (is_for PassesOwn.never rfl (ii_rg1 rfl T.range (ia_cons i_int ia_nil)) (ig_name 6 sc_law.nd)
      (is_cons (is_asg (i_call F_changed hr (ia_cons (i_var 1) (ia_cons (i_var 4) ia_nil))) (ig_name 4 sc_law.nd))
        (is_one (is_if (it_cmp (rf_ne hr.units) (i_callB (rf_repr (room70 hr) hgd) rfl hrepr b_repr (ia_cons (i_call F_told hr (ia_cons (i_var 4) ia_nil)) ia_nil)) (i_callB (rf_repr (room70 hr) hgd) rfl hrepr b_repr (ia_cons (i_call F_due hr (ia_cons (i_var 4) ia_nil)) ia_nil))) (is_one (is_ret i_bl)) is_nil))))
    (is_one (is_ret i_bl)))))))
end
end Lk06
end
-- GP14
section
set_option maxRecDepth 100000
set_option maxHeartbeats 4000000
namespace P06
open PySem T3
theorem get_lt {bs : List Int} {p : Nat} {b : Int} (h : bs[p]? = some b) : p < bs.length := (List.getElem?_eq_some_iff.mp h).1
theorem numR_lee {bs : List Int} : ∀ {f p first n shift : Nat} {e : Int}, numR bs f p first n shift = .error e → e ≤ bs.length
  | 0, _, _, _, _, _, h => by simp only [numR, Except.error.injEq] at h; omega
  | f + 1, p, first, n, shift, e, h => by
    simp only [numR] at h
    split at h
    · simp only [Except.error.injEq] at h; omega
    · rename_i b hb
      have := get_lt hb
      split at h
      · exact numR_lee h
      · split at h
        · simp only [Except.error.injEq] at h; omega
        · cases h
theorem sign_lee {bs : List Int} {a : Nat} {e : Int} (h : sign bs a = .error e) : e ≤ bs.length := by
  unfold sign at h
  split at h
  · simp only [Except.error.injEq] at h; omega
  · rename_i b hb
    have := get_lt hb
    split at h
    · simp only [Except.error.injEq] at h; omega
    · cases h
theorem many_lee {α : Type} {L : Int} {f : Nat → Rd α} (hf : ∀ p e, f p = .error e → e ≤ L) : ∀ {n a : Nat} {e : Int}, many f n a = .error e → e ≤ L
  | 0, a, e, h => by simp [many] at h
  | n + 1, a, e, h => by
    rw [many] at h
    split at h
    · rename_i e' he
      simp only [Except.error.injEq] at h
      have := hf _ _ he
      omega
    · split at h
      · rename_i e' he
        simp only [Except.error.injEq] at h
        have := many_lee hf he
        omega
      · cases h
theorem dec_lee' {bs : List Int} (lvl : Nat) (ih : ∀ m, lvl = m + 1 → ∀ p e, dec bs m p = .error e → e ≤ bs.length) : ∀ p e, dec bs lvl p = .error e → e ≤ bs.length := by
  intro p e h
  unfold dec at h
  split at h
  · simp only [Except.error.injEq] at h; omega
  rename_i b hb
  have hp := get_lt hb
  split at h
  · simp only [Except.error.injEq] at h; omega
  split at h
  · cases h
  split at h
  · cases h
  split at h
  · cases h
  split at h
  · rename_i e' he
    simp only [Except.error.injEq] at h
    have := numR_lee he
    omega
  split at h
  · cases h
  split at h
  · cases h
  split at h
  · split at h
    · rename_i e' he
      simp only [Except.error.injEq] at h
      have := many_lee (fun _ _ => sign_lee) he
      omega
    · cases h
  split at h
  · simp only [Except.error.injEq] at h; omega
  split at h
  · rename_i e' he
    simp only [Except.error.injEq] at h
    have := many_lee (ih _ rfl) he
    omega
  · cases h
theorem dec_lee {bs : List Int} : ∀ (lvl p : Nat) (e : Int), dec bs lvl p = .error e → e ≤ bs.length
  | 0 => dec_lee' 0 fun m h => by omega
  | lvl + 1 => dec_lee' (lvl + 1) fun m h => by
    have : m = lvl := by omega
    subst this
    exact dec_lee m
theorem decAll_err {bs : List Int} {e : Int} (h : decAll bs = .error e) : 0 ≤ e ∧ e ≤ bs.length := by
  unfold decAll at h
  split at h
  · rename_i e' he
    simp only [Except.error.injEq] at h
    have := dec_err _ _ _ he
    have := dec_lee _ _ _ he
    omega
  · rename_i v a he
    have := dec_le _ _ _ _ he
    split at h
    · simp only [Except.error.injEq] at h; omega
    · cases h
/-- a pair that repr shows -/
theorem shown_pair {s : Str} {d : D} (hs : PyData.strOk s = true) (hl : s.length ≤ 10) (h : Shw 60 d) (hn : d.py.shown.length ≤ 2000000) : (D.tup [.str s, d]).ok = true ∧ (D.tup [.str s, d]).py.showable = true ∧ (D.tup [.str s, d]).py.depth ≤ 64 ∧ (D.tup [.str s, d]).py.shown.length ≤ 16777216 := by
  refine ⟨by simp [D.ok, D.okL, hs, h.ok], by simp [D.py, D.pyL, PyData.showable, PyData.showableAll, h.sh], ?_, ?_⟩
  · have := h.dp
    simp [D.py, D.pyL, PyData.depth, PyData.depthAll]; omega
  · have h1 := tupleText_le (PyData.shownAll (D.pyL [.str s, d]))
    rw [piled_shown] at h1
    have h2 := StrLaws.reprText_len s fun c hc => by
      simp only [PyData.strOk, Array.all_eq_true] at hs
      obtain ⟨i, hi, e⟩ := List.mem_iff_getElem.mp hc
      have := hs i (by simpa using hi)
      simp at this e
      omega
    simp only [D.py, PyData.shown]
    simp [D.py, PyData.shown] at h1
    simp [D.pyL, D.py] at h1 ⊢
    omega
end P06
namespace Lk06
open PySem PySem.Spec PyProof.Rows L2 T3 P06
theorem due_shown {bs : List Int} (hl : bs.length ≤ 140000) (hb : ∀ x ∈ bs, 0 ≤ x ∧ x < 256) (hc : Cap 132 bs) : ∃ l, dueD bs = .tup l ∧ (D.tup l).ok = true ∧ (D.tup l).py.showable = true ∧ (D.tup l).py.depth ≤ 64 ∧ (D.tup l).py.shown.length ≤ 16777216 := by
  have c1 : PyData.strOk "at" = true := by decide +kernel
  have c2 : PyData.strOk "value" = true := by decide +kernel
  unfold dueD
  cases e : decAll bs with
  | error i =>
    obtain ⟨h0, h1⟩ := decAll_err e
    have hi : i.natAbs < 2 ^ 18 := by omega
    refine ⟨_, rfl, shown_pair c1 (by decide +kernel) ⟨rfl, ?_, by simp [D.py, PyData.depth]⟩ ?_⟩
    · simp only [D.py, PyData.showable]
      refine decide_eq_true ?_
      by_cases h0 : i.natAbs = 0
      · rw [h0]; decide
      · exact (Nat.log2_lt h0).mpr (Nat.lt_trans hi (Nat.pow_lt_pow_right (by decide) (by decide)))
    · simp only [D.py, PyData.shown]
      have := shown_int (i := i) (k := 18) (by decide) hi
      omega
  | ok v =>
    obtain ⟨h1, h2⟩ := decAll_shown hb hc e
    exact ⟨_, rfl, shown_pair c2 (by decide +kernel) h1 (by omega)⟩
theorem repr_due {bs : List Int} {h : H3} {k : K1} (hl : bs.length ≤ 140000) (hb : ∀ x ∈ bs, 0 ≤ x ∧ x < 256) (hc : Cap 132 bs) (q : k (.str (dueD bs).py.shown) h) : rRepr [dueD bs] h k := by
  obtain ⟨l, e, h1, h2, h3, h4⟩ := due_shown hl hb hc
  rw [e] at q ⊢
  exact ⟨l, _, rfl, rs_py h1, h2, h3, h4, q⟩
/-- _law_told promises as _law_due -/
theorem ok_told : ∀ l h k, sp_ldue l h k → W_l_told sp_unpack (en k) (ev0 N_l_told l) h := by
  rintro l h k ⟨d, bs, rfl, hd, hl, hb, post⟩
  simp [W_l_told, wTryR, wLX, ev0, hd]
  intro p np
  refine ⟨p, bs, rfl, up_same, hl, hb, ?_⟩
  unfold dueD at post
  cases e : decAll bs with
  | error i =>
    rw [e] at post
    exact en_rt' post ((Sub.refl h).up np)
  | ok v =>
    rw [e] at post
    exact en_rt' post ((Sub.refl h).up np)
theorem rsl_ints {h : H3} : ∀ (bs : List Int), RsL h (bs.map D.int) (bs.map PyData.int)
  | [] => .nil
  | b :: bs => .cons (.int b) (rsl_ints bs)
def sp_law (G : Sc) : Sp3 := fun l h k => l = [.ref G.a] ∧ ∀ h', k (.bl true) h'
theorem Drw.lst {h : H3} {dr : Addr} (d : Drw h dr) : ∃ l, h dr = some (.lst l) ∧ ∀ bs : List Int, l ≠ bs.map D.int := by
  obtain ⟨c, ns, i, q, s, e, _⟩ := d
  refine ⟨_, e, fun bs z => ?_⟩
  cases bs with
  | nil => cases z
  | cons b bs => simp at z
theorem Drw.sub {h h' : H3} {dr : Addr} (s : Sub h h') (d : Drw h dr) : Drw h' dr := by
  obtain ⟨c, ns, i, q, s', e1, e2, r⟩ := d
  exact ⟨c, ns, i, q, s', s _ _ e1, s _ _ e2, r⟩
theorem eqv_ints (bs : List Int) : PyData.eqv (.list (bs.map .int)) (.list (bs.map .int)) = true := by
  have h : ∀ bs : List Int, PyData.eqvAll (bs.map .int) (bs.map .int) = true := by
    intro bs
    induction bs with
    | nil => simp [PyData.eqvAll]
    | cons b bs ih => simp [PyData.eqvAll, PyData.eqv, ih]
  simp [PyData.eqv, h]
theorem depth_ints (bs : List Int) : min (PyData.list (bs.map .int)).depth (PyData.list (bs.map .int)).depth ≤ 64 := by
  have h : PyData.depthAll (bs.map .int) ≤ 0 := depthAll_le fun x hx => by
    obtain ⟨b, _, rfl⟩ := List.mem_map.mp hx
    simp [PyData.depth]
  simp [PyData.depth]; omega
theorem rNe_same {s : Str} {h : H3} {kb : KB} (q : kb false h) : T3.rNe (.str s) (.str s) h fun d h1 => asB d fun c => kb c h1 := by
  simp
  exact q
theorem ok_law (G : Sc) : ∀ l h k, sp_law G l h k → W_law (sp_draw G) sp_take sp_program (sp_plain 5) (sp_lbytes 61) sp_pack sp_ldue sp_lchanged sp_ldue (en k) (ev0 N_law l) h := by
  rintro l h k ⟨rfl, post⟩
  simp [W_law, ev0]
  refine ⟨rfl, fun dr h1 d1 n1 keep1 => ?_⟩
  have loop : ∀ (v u : Option D) (q : Addr) (bs : List Int) (h3 : H3), Drw h3 dr → h3 q = some (.lst (bs.map D.int)) → bs.length ≤ 121000 → (∀ x ∈ bs, 0 ≤ x ∧ x < 256) → Cap 18 bs →
      wSeq (wFor (wRg1 (wCons (wC (D.int 6)) wNil)) (gN 6) (wSeq (wAsg (wL sp_lchanged (wCons (wVar 1) (wCons (wVar 4) wNil))) (gN 4))
        (wIfS (wB (w2 T3.rNe (wL rRepr (wCons (wL sp_ldue (wCons (wVar 4) wNil)) wNil)) (wL rRepr (wCons (wL sp_ldue (wCons (wVar 4) wNil)) wNil)))) (wRet (wC (D.bl false))) wNext)))
        (wRet (wC (D.bl true))) (en k) [some (.ref G.a), some (.ref dr), v, u, some (.ref q), none, none] h3 := by
    intro v u q bs h3 d3 hq hl hb hc
    simp
    refine for_inv (fun j ρ h' => ∃ (q : Addr) (bs : List Int) (x : Option D), ρ = [some (.ref G.a), some (.ref dr), v, u, some (.ref q), none, x] ∧ j ≤ 6 ∧ Drw h' dr ∧ h' q = some (.lst (bs.map D.int)) ∧ bs.length ≤ 121000 + j ∧ (∀ x ∈ bs, 0 ≤ x ∧ x < 256) ∧ Cap (18 + 19 * (j : Int)) bs)
      (fun _ _ _ _ _ => trivial) ⟨q, bs, none, rfl, by omega, d3, hq, by omega, hb, by simpa using hc⟩ ?_ ?_
    · rintro j x ρ h4 hx ⟨q, bs, y, rfl, hj, d4, hq, hl, hb, hc⟩ N hN
      have hj6 : j < 6 := by
        have := (List.getElem?_eq_some_iff.mp hx).1
        simpa [rgD] using this
      simp
      have hne : dr ≠ q := by
        rintro rfl
        obtain ⟨l, e, z⟩ := Drw.lst d4
        rw [hq] at e
        cases e
        exact z bs rfl
      refine ⟨dr, q, bs, rfl, d4, hne, hq, by omega, hb, fun bs' p h5 hl' hch hb' g5 np hp => ?_⟩
      have hc' := hch _ (by omega) hc
      have hlen : bs'.length ≤ 121000 + (j + 1) := by omega
      have cap : Cap 132 bs' := hc'.mono (by omega)
      simp
      refine ⟨p, bs', rfl, hp, by omega, hb', ?_⟩
      refine repr_due (by omega) hb' cap ?_
      refine ⟨p, bs', rfl, hp, by omega, hb', ?_⟩
      refine repr_due (by omega) hb' cap ?_
      simp
      refine hN _ _ ⟨p, bs', _, rfl, by omega, g5.drw, hp, hlen, hb', ?_⟩
      have e : (18 + 19 * ((j + 1 : Nat) : Int)) = 18 + 19 * (j : Int) + 19 := by omega
      rw [e]
      exact hc'
    · rintro ρ h4 ⟨q, bs, y, rfl, hj, d4, _⟩
      simp
      exact en_rt (post _)
  have rest : ∀ (d : D) (h2 : H3), Drw h2 dr → StrsOk d → NumB d → elen d ≤ 121000 → RefsOk h2 d → sp_lbytes 61 [d, .int 0] h2 fun d_4 h1 =>
      wSeq (wTryA (fun ex => wLX sp_pack ex (wCons (wVar 2) wNil)) (gN 4) g_law)
                        (wSeq
                          (wIfS
                            (wOr (wB (w1 (rIsN false) (wVar 3)))
                              (wOr (wB (w2 T3.rNe (wVar 4) (wVar 3)))
                                (wOr (T3.wNot (wB (w1 (T3.rIsi Ty.list) (wVar 4))))
                                  (wB
                                    (w2 T3.rNe (wL rRepr (wCons (wL sp_ldue (wCons (wVar 4) wNil)) wNil))
                                      (wL rRepr
                                        (wCons
                                          (wL rTup (wCons (wC (D.str (Str.ofString "value"))) (wCons (wVar 2) wNil)))
                                          wNil)))))))
                            (wRet (wC (D.bl false))) wNext)
                          (wSeq
                            (wFor (wRg1 (wCons (wC (D.int 6)) wNil)) (gN 6)
                              (wSeq (wAsg (wL sp_lchanged (wCons (wVar 1) (wCons (wVar 4) wNil))) (gN 4))
                                (wIfS
                                  (wB
                                    (w2 T3.rNe (wL rRepr (wCons (wL sp_ldue (wCons (wVar 4) wNil)) wNil))
                                      (wL rRepr (wCons (wL sp_ldue (wCons (wVar 4) wNil)) wNil))))
                                  (wRet (wC (D.bl false))) wNext)))
                            (wRet (wC (D.bl true))))) (en k) [some (D.ref G.a), some (.ref dr), some d, some d_4, none, none, none] h1 := by
    intro d h2 d2 hst hnb hel hrf
    refine ⟨d, 0, rfl, by omega, by omega, hrf, hst, by omega, fun hno h3 s3 => ?_, fun bs hbs p h3 s3 np hp => ?_⟩
    · -- no bytes: pack raises
      simp [wTryA, wLX]
      refine ⟨d, rfl, hrf.mono s3, by omega, fun _ => ?_, fun bs hbs => ?_⟩
      · exact ⟨by simp, by simp, rfl, en_rt (post _)⟩
      · rw [hno] at hbs; cases hbs
    · simp [wTryA, wLX]
      refine ⟨d, rfl, hrf.mono s3, by omega, fun hno => ?_, fun bs' hbs' q nq => ?_⟩
      · rw [hno] at hbs; cases hbs
      · rw [hbs] at hbs'
        cases hbs'
        have hqp : q ≠ p := by rintro rfl; rw [hp] at nq; cases nq
        have nice := enc_nice hbs hnb (by omega)
        have hlen := enc_len hbs
        have hq : (up h3 q (.lst (bs.map D.int))) q = some (.lst (bs.map D.int)) := up_same
        have hp' : (up h3 q (.lst (bs.map D.int))) p = some (.lst (bs.map D.int)) := by rw [up_ne hqp.symm]; exact hp
        have d3 : Drw (up h3 q (.lst (bs.map D.int))) dr := (Drw.sub s3 d2).new nq
        have fin := loop (some d) (some (.ref p)) q bs _ d3 hq (by omega) nice.1 nice.cap
        have hdec : dueD bs = .tup [.str "value", d] := by unfold dueD; rw [decAll_enc hbs]
        refine ⟨.list (bs.map .int), .list (bs.map .int), .lst hq (rsl_ints bs), .lst hp' (rsl_ints bs), depth_ints bs, ?_⟩
        rw [eqv_ints]
        simp
        refine .inl ⟨⟨_, hq⟩, ?_⟩
        simp
        refine ⟨q, bs, rfl, hq, by omega, nice.1, ?_⟩
        have cap : Cap 132 bs := nice.cap.mono (by omega)
        refine repr_due (by omega) nice.1 cap ?_
        rw [← hdec]
        refine repr_due (by omega) nice.1 cap ?_
        simp
        simpa using fin
  refine ⟨dr, 4, rfl, d1, by omega, .inl (by omega), fun r h2 r0 r4 g2 => ?_⟩
  simp
  split
  · refine ⟨dr, 3, 3, 3, rfl, by omega, by omega, by omega, by omega, by omega, by omega, g2.drw, fun pg others h3 wf g3 => ?_⟩
    obtain ⟨o1, o2, o3⟩ := pg_ok (by omega) (by omega) wf
    obtain ⟨s1, s2⟩ := ok_strs o1
    exact rest _ h3 g3.drw s1 o2 o3 (s2 _)
  · refine ⟨dr, 4, rfl, by omega, g2.drw, fun d h3 pl rf g3 => ?_⟩
    have := pl.el
    exact rest d h3 g3.drw pl.st pl.nb (by simp at this; omega) rf
end Lk06
end
-- J06
section
set_option maxRecDepth 100000
set_option maxHeartbeats 4000000
namespace Lk06
open PySem PySem.Spec PyProof.Rows L2 T3 P06
/-- what the module's top has left -/
structure Top (P : Program) (w : World) (K : PySem.W.Frag) (mg : Str → Option Value) (base : Heap) (C_Reader C_E : Addr) : Prop where
  T : Mg mg
  repr : mg "repr" = none
  R : ErrC K mg C_E
  kd : KdX P w K mg base C_E "at" "PackError" 1
  T_Reader : Cl3 K C_Reader n_Reader
  mk_Reader : PySem.W.makesIn K C_Reader = true
  kp_Reader : PySem.W.keepIn K (.ref C_Reader) = true
  g_Reader : mg "Reader" = some (.ref C_Reader)
  d_size_bytes : At K mg "size_bytes" s_size_bytes
  d_text_bytes : At K mg "text_bytes" s_text_bytes
  d_value_bytes : At K mg "value_bytes" s_value_bytes
  d_pack : At K mg "pack" s_pack
  m_Reader_init : AtM K C_Reader "__init__" "Reader.__init__" s_Reader_init
  m_Reader_byte : AtM K C_Reader "byte" "Reader.byte" s_Reader_byte
  m_Reader_size : AtM K C_Reader "size" "Reader.size" s_Reader_size
  m_Reader_text : AtM K C_Reader "text" "Reader.text" s_Reader_text
  m_Reader_value : AtM K C_Reader "value" "Reader.value" s_Reader_value
  d_unpack : At K mg "unpack" s_unpack
  d_l_draw : At K mg "_law_draw" s_l_draw
  d_l_take : At K mg "_law_take" s_l_take
  d_l_top : At K mg "_law_top" s_l_top
  d_l_word : At K mg "_law_word" s_l_word
  d_l_ops : At K mg "_law_ops" s_l_ops
  d_l_variable : At K mg "_law_variable" s_l_variable
  d_l_expression : At K mg "_law_expression" s_l_expression
  d_l_index : At K mg "_law_index" s_l_index
  d_l_row : At K mg "_law_row" s_l_row
  d_l_blocks : At K mg "_law_blocks" s_l_blocks
  d_l_program : At K mg "_law_program" s_l_program
  d_l_size : At K mg "_law_size" s_l_size
  d_l_signs : At K mg "_law_signs" s_l_signs
  d_l_bytes : At K mg "_law_bytes" s_l_bytes
  d_l_plain : At K mg "_law_plain" s_l_plain
  d_l_number : At K mg "_law_number" s_l_number
  d_l_read : At K mg "_law_read" s_l_read
  d_l_due : At K mg "_law_due" s_l_due
  d_l_told : At K mg "_law_told" s_l_told
  d_l_changed : At K mg "_law_changed" s_l_changed
  law : At K mg "law" s_law
section
variable {P : Program} {w : World} {K : PySem.W.Frag} {mg : Str → Option Value} {base : Heap} {G : Sc} {C_Reader C_E : Addr} (X : Top P w K mg base C_Reader C_E)
include X
theorem J_size_bytes : Fd P w K mg base G "size_bytes" 2 (sp_size) :=
  mkFd X.d_size_bytes sc_size_bytes (fun f fd F => F.binds (ps := ["n"]) fun _ _ _ _ _ _ us hl => match us, hl with | [_], _ => rfl)
    (fun f cdv A outer s H E hr => walk_size_bytes (C_s := ()) (k := 0) X.T cdv A outer s H E hr )
    (by intro l h k q; repeat (first | (obtain ⟨rfl, _⟩ := q; rfl) | (obtain rfl := q; rfl) | (obtain ⟨_, q⟩ := q))) (ok_size_bytes)
theorem J_text_bytes : FdX P w K mg base G C_E "at" "text_bytes" 3 (sp_text) :=
  mkFdX X.d_text_bytes sc_text_bytes (fun f fd F => F.binds (ps := ["text"]) fun _ _ _ _ _ _ us hl => match us, hl with | [_], _ => rfl)
    (fun f ex cdv A outer s H E hr hx => walk_text_bytes (C_s := ()) (k := 1) X.T cdv A outer s H E hr hx ((J_size_bytes X).mono (by decide)) (X.kd.mono (by decide)))
    (by intro ex l h k q; repeat (first | (obtain ⟨rfl, _⟩ := q; rfl) | (obtain rfl := q; rfl) | (obtain ⟨_, q⟩ := q))) (ok_text_bytes)
theorem J_value_bytes : ∀ m : Nat, FdX P w K mg base G C_E "at" "value_bytes" (4 + m) (sp_vb m)
  | 0 => FdX.no X.d_value_bytes (fun f fd F => F.binds (ps := ["value", "depth"]) fun _ _ _ _ _ _ us hl => match us, hl with | [_, _], _ => rfl) (by rintro ex l h k ⟨d, depth, _, _, z, _⟩; omega)
  | m + 1 => (mkFdX (k := 4 + m) X.d_value_bytes sc_value_bytes (fun f fd F => F.binds (ps := ["value", "depth"]) fun _ _ _ _ _ _ us hl => match us, hl with | [_, _], _ => rfl)
    (fun f ex cdv A outer s H E hr hx => walk_value_bytes (C_s := ()) (k := 3 + m) X.T cdv A outer s H E (hr.mono (by omega)) hx ((J_size_bytes X).mono (by omega)) ((J_text_bytes X).mono (by omega)) (X.kd.mono (by omega)) ((J_value_bytes m).mono (by omega)))
    (by intro ex l h k q; repeat (first | (obtain ⟨rfl, _⟩ := q; rfl) | (obtain rfl := q; rfl) | (obtain ⟨_, q⟩ := q))) (ok_value_bytes (m + 1)))
theorem J_pack : FdX P w K mg base G C_E "at" "pack" 70 sp_pack :=
  mkFdX X.d_pack sc_pack (fun f fd F => F.binds (ps := ["value"]) fun _ _ _ _ _ _ us hl => match us, hl with | [_], _ => rfl)
    (fun f ex cdv A outer s H E hr hx => walk_pack (C_s := ()) (k := 68) X.T cdv A outer s H E hr hx ((J_value_bytes X 61).mono (by decide)))
    (by intro ex l h k q; repeat (first | (obtain ⟨rfl, _⟩ := q; rfl) | (obtain rfl := q; rfl) | (obtain ⟨_, q⟩ := q))) (ok_pack 61 (by decide))
theorem J_Reader_init : Kd P w K mg base G "Reader" C_Reader 2 (sp_init C_Reader) :=
  mkKd X.m_Reader_init X.mk_Reader X.kp_Reader X.g_Reader sc_Reader_init (fun f fd F => F.binds (ps := ["self", "data"]) fun _ _ _ _ _ _ us hl => match us, hl with | [_, _], _ => rfl)
    (fun f cdv A outer s H E hr => walk_Reader_init (C_s := ()) (k := 0) X.T X.T_Reader cdv A outer s H E hr )
    (by intro l h k q; repeat (first | (obtain ⟨rfl, _⟩ := q; rfl) | (obtain rfl := q; rfl) | (obtain ⟨_, q⟩ := q))) (ok_init C_Reader)
theorem J_Reader_byte : MdX P w K mg base G C_E "at" C_Reader "byte" 3 (sp_rd C_Reader byteF D.int) :=
  mkMdX X.m_Reader_byte X.T_Reader.cl sc_Reader_byte (fun f fd F => F.binds (ps := ["self"]) fun _ _ _ _ _ _ us hl => match us, hl with | [_], _ => rfl)
    (fun f ex cdv A outer s H E hr hx => walk_Reader_byte (C_s := ()) (k := 1) X.T X.T_Reader cdv A outer s H E hr hx (X.kd.mono (by decide)))
    (by intro ex l h k q; repeat (first | (obtain ⟨rfl, _⟩ := q; rfl) | (obtain rfl := q; rfl) | (obtain ⟨_, q⟩ := q))) (ok_byte C_Reader)
theorem J_Reader_size : MdX P w K mg base G C_E "at" C_Reader "size" 4 (sp_rd C_Reader num (fun n => .int (n : Nat))) :=
  mkMdX X.m_Reader_size X.T_Reader.cl sc_Reader_size (fun f fd F => F.binds (ps := ["self"]) fun _ _ _ _ _ _ us hl => match us, hl with | [_], _ => rfl)
    (fun f ex cdv A outer s H E hr hx => walk_Reader_size (C_s := ()) (k := 2) X.T X.T_Reader cdv A outer s H E hr hx ((J_Reader_byte X).mono (by decide)) (X.kd.mono (by decide)))
    (by intro ex l h k q; repeat (first | (obtain ⟨rfl, _⟩ := q; rfl) | (obtain rfl := q; rfl) | (obtain ⟨_, q⟩ := q))) (ok_size C_Reader)
theorem J_Reader_text : MdX P w K mg base G C_E "at" C_Reader "text" 5 (sp_rd C_Reader textF D.str) :=
  mkMdX X.m_Reader_text X.T_Reader.cl sc_Reader_text (fun f fd F => F.binds (ps := ["self"]) fun _ _ _ _ _ _ us hl => match us, hl with | [_], _ => rfl)
    (fun f ex cdv A outer s H E hr hx => walk_Reader_text (C_s := ()) (k := 3) X.T X.T_Reader cdv A outer s H E hr hx ((J_Reader_size X).mono (by decide)) ((J_Reader_byte X).mono (by decide)) (X.kd.mono (by decide)))
    (by intro ex l h k q; repeat (first | (obtain ⟨rfl, _⟩ := q; rfl) | (obtain rfl := q; rfl) | (obtain ⟨_, q⟩ := q))) (ok_text C_Reader)
theorem J_Reader_value : ∀ m : Nat, MdX P w K mg base G C_E "at" C_Reader "value" (5 + m) (sp_rv C_Reader m)
  | 0 => MdX.no X.m_Reader_value X.T_Reader.cl (fun f fd F => F.binds (ps := ["self", "depth"]) fun _ _ _ _ _ _ us hl => match us, hl with | [_, _], _ => rfl) (by rintro ex l h k ⟨a, b, bs, at_, depth, _, _, z, _⟩; omega)
  | m + 1 => (mkMdX (k := 5 + m) X.m_Reader_value X.T_Reader.cl sc_Reader_value (fun f fd F => F.binds (ps := ["self", "depth"]) fun _ _ _ _ _ _ us hl => match us, hl with | [_, _], _ => rfl)
    (fun f ex cdv A outer s H E hr hx => walk_Reader_value (C_s := ()) (k := 4 + m) X.T X.T_Reader cdv A outer s H E (hr.mono (by omega)) hx ((J_Reader_byte X).mono (by omega)) (X.kd.mono (by omega)) ((J_Reader_text X).mono (by omega)) ((J_Reader_size X).mono (by omega)) ((J_Reader_value m).mono (by omega)))
    (by intro ex l h k q; repeat (first | (obtain ⟨rfl, _⟩ := q; rfl) | (obtain rfl := q; rfl) | (obtain ⟨_, q⟩ := q))) (ok_value C_Reader (m + 1)))
theorem J_unpack : FdX P w K mg base G C_E "at" "unpack" 70 sp_unpack :=
  mkFdX X.d_unpack sc_unpack (fun f fd F => F.binds (ps := ["data"]) fun _ _ _ _ _ _ us hl => match us, hl with | [_], _ => rfl)
    (fun f ex cdv A outer s H E hr hx => walk_unpack (C_s := ()) (k := 68) X.T X.T_Reader cdv A outer s H E hr hx ((J_Reader_init X).mono (by decide)) ((J_Reader_value X 61).mono (by decide)) (X.kd.mono (by decide)))
    (by intro ex l h k q; repeat (first | (obtain ⟨rfl, _⟩ := q; rfl) | (obtain rfl := q; rfl) | (obtain ⟨_, q⟩ := q))) (ok_unpack C_Reader 61 (by decide))
section
variable (hGK : G.K = K) (hGn : G.ns.length ≤ 1000)
include hGK hGn in
theorem J_l_draw : Fd P w K mg base G "_law_draw" 2 (sp_draw G) :=
  mkFd X.d_l_draw sc_l_draw (fun f fd F => F.binds (ps := ["script"]) fun _ _ _ _ _ _ us hl => match us, hl with | [_], _ => rfl)
    (fun f cdv A outer s H E hr => walk_l_draw (C_s := ()) (k := 0) X.T cdv A outer s H E hr hGK)
    (by rintro l h k ⟨rfl, _⟩; rfl) (ok_draw G hGn)
end
theorem J_l_take : Fd P w K mg base G "_law_take" 2 (sp_take) :=
  mkFd X.d_l_take sc_l_take (fun f fd F => F.binds (ps := ["draw", "many"]) fun _ _ _ _ _ _ us hl => match us, hl with | [_, _], _ => rfl)
    (fun f cdv A outer s H E hr => walk_l_take (C_s := ()) (k := 0) X.T cdv A outer s H E hr )
    (by intro l h k q; repeat (first | (obtain ⟨rfl, _⟩ := q; rfl) | (obtain rfl := q; rfl) | (obtain ⟨_, q⟩ := q))) (ok_take)
theorem J_l_top : Fd P w K mg base G "_law_top" 2 (sp_top) :=
  mkFd X.d_l_top sc_l_top (fun f fd F => F.binds (ps := ["w"]) fun _ _ _ _ _ _ us hl => match us, hl with | [_], _ => rfl)
    (fun f cdv A outer s H E hr => walk_l_top (C_s := ()) (k := 0) X.T cdv A outer s H E hr )
    (by intro l h k q; repeat (first | (obtain ⟨rfl, _⟩ := q; rfl) | (obtain rfl := q; rfl) | (obtain ⟨_, q⟩ := q))) (ok_top)
theorem J_l_word : Fd P w K mg base G "_law_word" 3 (sp_word) :=
  mkFd X.d_l_word sc_l_word (fun f fd F => F.binds (ps := ["draw", "w"]) fun _ _ _ _ _ _ us hl => match us, hl with | [_, _], _ => rfl)
    (fun f cdv A outer s H E hr => walk_l_word (C_s := ()) (k := 1) X.T cdv A outer s H E hr ((J_l_take X).mono (by decide)) ((J_l_top X).mono (by decide)))
    (by intro l h k q; repeat (first | (obtain ⟨rfl, _⟩ := q; rfl) | (obtain rfl := q; rfl) | (obtain ⟨_, q⟩ := q))) (ok_word)
theorem J_l_ops : Fd P w K mg base G "_law_ops" 2 (sp_ops) :=
  mkFd X.d_l_ops sc_l_ops (fun f fd F => F.binds (ps := []) fun _ _ _ _ _ _ us hl => match us, hl with | [], _ => rfl)
    (fun f cdv A outer s H E hr => walk_l_ops (C_s := ()) (k := 0) X.T cdv A outer s H E hr )
    (by intro l h k q; repeat (first | (obtain ⟨rfl, _⟩ := q; rfl) | (obtain rfl := q; rfl) | (obtain ⟨_, q⟩ := q))) (ok_ops)
theorem J_l_variable : Fd P w K mg base G "_law_variable" 3 (sp_variable) :=
  mkFd X.d_l_variable sc_l_variable (fun f fd F => F.binds (ps := ["draw"]) fun _ _ _ _ _ _ us hl => match us, hl with | [_], _ => rfl)
    (fun f cdv A outer s H E hr => walk_l_variable (C_s := ()) (k := 1) X.T cdv A outer s H E hr ((J_l_take X).mono (by decide)))
    (by intro l h k q; repeat (first | (obtain ⟨rfl, _⟩ := q; rfl) | (obtain rfl := q; rfl) | (obtain ⟨_, q⟩ := q))) (ok_variable)
/-- an expression, an index: at each level -/
theorem J_expr : ∀ n : Nat, Fd P w K mg base G "_law_expression" (4 + 2 * n) (sp_expression n) ∧ Fd P w K mg base G "_law_index" (5 + 2 * n) (sp_index n) := by
  have ix : ∀ n : Nat, Fd P w K mg base G "_law_expression" (4 + 2 * n) (sp_expression n) → Fd P w K mg base G "_law_index" (5 + 2 * n) (sp_index n) := fun n E => by
    have := mkFd (k := 4 + 2 * n) X.d_l_index sc_l_index (fun f fd F => F.binds (ps := ["p", "size", "depth"]) fun _ _ _ _ _ _ us hl => match us, hl with | [_, _, _], _ => rfl)
      (fun f cdv A outer s H E' hr => walk_l_index (C_s := ()) (k := 3 + 2 * n) X.T cdv A outer s H E' (hr.mono (by omega)) ((J_l_take X).mono (by omega)) (E.mono (by omega)) ((J_l_top X).mono (by omega)) ((J_l_variable X).mono (by omega)))
      (by intro l h k q; repeat (first | (obtain ⟨rfl, _⟩ := q; rfl) | (obtain rfl := q; rfl) | (obtain ⟨_, q⟩ := q))) (ok_index n)
    exact this.mono (by omega)
  intro n
  induction n with
  | zero =>
    have z : Fd P w K mg base G "_law_expression" (4 + 2 * 0) (sp_expression 0) := Fd.no X.d_l_expression (fun f fd F => F.binds (ps := ["p", "depth"]) fun _ _ _ _ _ _ us hl => match us, hl with | [_, _], _ => rfl) (by rintro l h k ⟨p, dr, w, ars, depth, _, z, _⟩; omega)
    exact ⟨z, ix 0 z⟩
  | succ n ih =>
    have e : Fd P w K mg base G "_law_expression" (4 + 2 * (n + 1)) (sp_expression (n + 1)) := by
      have := mkFd (k := 5 + 2 * n) X.d_l_expression sc_l_expression (fun f fd F => F.binds (ps := ["p", "depth"]) fun _ _ _ _ _ _ us hl => match us, hl with | [_, _], _ => rfl)
        (fun f cdv A outer s H E' hr => walk_l_expression (C_s := ()) (k := 4 + 2 * n) X.T cdv A outer s H E' (hr.mono (by omega)) ((J_l_take X).mono (by omega)) ((J_l_word X).mono (by omega)) ((J_l_variable X).mono (by omega)) (ih.2.mono (by omega)) (ih.1.mono (by omega)) ((J_l_ops X).mono (by omega)))
        (by intro l h k q; repeat (first | (obtain ⟨rfl, _⟩ := q; rfl) | (obtain rfl := q; rfl) | (obtain ⟨_, q⟩ := q))) (ok_expression (n + 1))
      exact this.mono (by omega)
    exact ⟨e, ix _ e⟩
theorem J_l_expression : Fd P w K mg base G "_law_expression" 10 (sp_expression 3) := (J_expr X 3).1
theorem J_l_index : Fd P w K mg base G "_law_index" 9 (sp_index 2) := (J_expr X 2).2
theorem J_l_row : Fd P w K mg base G "_law_row" 11 (sp_row) :=
  mkFd X.d_l_row sc_l_row (fun f fd F => F.binds (ps := ["p", "others"]) fun _ _ _ _ _ _ us hl => match us, hl with | [_, _], _ => rfl)
    (fun f cdv A outer s H E hr => walk_l_row (C_s := ()) (k := 9) X.T cdv A outer s H E hr ((J_l_take X).mono (by decide)) ((J_l_expression X).mono (by decide)) ((J_l_variable X).mono (by decide)) ((J_l_index X).mono (by decide)))
    (by intro l h k q; repeat (first | (obtain ⟨rfl, _⟩ := q; rfl) | (obtain rfl := q; rfl) | (obtain ⟨_, q⟩ := q))) (ok_row)
theorem J_l_blocks : Fd P w K mg base G "_law_blocks" 12 (sp_blocks) :=
  mkFd X.d_l_blocks sc_l_blocks (fun f fd F => F.binds (ps := ["p", "others", "blocks", "rows"]) fun _ _ _ _ _ _ us hl => match us, hl with | [_, _, _, _], _ => rfl)
    (fun f cdv A outer s H E hr => walk_l_blocks (C_s := ()) (k := 10) X.T cdv A outer s H E hr ((J_l_take X).mono (by decide)) ((J_l_row X).mono (by decide)) ((J_l_expression X).mono (by decide)))
    (by intro l h k q; repeat (first | (obtain ⟨rfl, _⟩ := q; rfl) | (obtain rfl := q; rfl) | (obtain ⟨_, q⟩ := q))) (ok_blocks)
theorem J_l_program : Fd P w K mg base G "_law_program" 13 (sp_program) :=
  mkFd X.d_l_program sc_l_program (fun f fd F => F.binds (ps := ["draw", "w", "blocks", "rows"]) fun _ _ _ _ _ _ us hl => match us, hl with | [_, _, _, _], _ => rfl)
    (fun f cdv A outer s H E hr => walk_l_program (C_s := ()) (k := 11) X.T cdv A outer s H E hr ((J_l_take X).mono (by decide)) ((J_l_blocks X).mono (by decide)) ((J_l_variable X).mono (by decide)))
    (by intro l h k q; repeat (first | (obtain ⟨rfl, _⟩ := q; rfl) | (obtain rfl := q; rfl) | (obtain ⟨_, q⟩ := q))) (ok_program)
theorem J_l_size : Fd P w K mg base G "_law_size" 2 (sp_size) :=
  mkFd X.d_l_size sc_l_size (fun f fd F => F.binds (ps := ["n"]) fun _ _ _ _ _ _ us hl => match us, hl with | [_], _ => rfl)
    (fun f cdv A outer s H E hr => walk_l_size (C_s := ()) (k := 0) X.T cdv A outer s H E hr )
    (by intro l h k q; repeat (first | (obtain ⟨rfl, _⟩ := q; rfl) | (obtain rfl := q; rfl) | (obtain ⟨_, q⟩ := q))) (ok_lsize)
theorem J_l_signs : Fd P w K mg base G "_law_signs" 2 (sp_signs) :=
  mkFd X.d_l_signs sc_l_signs (fun f fd F => F.binds (ps := []) fun _ _ _ _ _ _ us hl => match us, hl with | [], _ => rfl)
    (fun f cdv A outer s H E hr => walk_l_signs (C_s := ()) (k := 0) X.T cdv A outer s H E hr )
    (by intro l h k q; repeat (first | (obtain ⟨rfl, _⟩ := q; rfl) | (obtain rfl := q; rfl) | (obtain ⟨_, q⟩ := q))) (ok_lsigns)
theorem J_l_bytes : ∀ m : Nat, Fd P w K mg base G "_law_bytes" (4 + m) (sp_lbytes m)
  | 0 => Fd.no X.d_l_bytes (fun f fd F => F.binds (ps := ["value", "depth"]) fun _ _ _ _ _ _ us hl => match us, hl with | [_, _], _ => rfl) (by rintro l h k ⟨d, depth, _, _, z, _⟩; omega)
  | m + 1 => (mkFd (k := 4 + m) X.d_l_bytes sc_l_bytes (fun f fd F => F.binds (ps := ["value", "depth"]) fun _ _ _ _ _ _ us hl => match us, hl with | [_, _], _ => rfl)
    (fun f cdv A outer s H E hr => walk_l_bytes (C_s := ()) (k := 3 + m) X.T cdv A outer s H E (hr.mono (by omega)) ((J_l_size X).mono (by omega)) ((J_l_signs X).mono (by omega)) ((J_l_bytes m).mono (by omega)))
    (by intro l h k q; repeat (first | (obtain ⟨rfl, _⟩ := q; rfl) | (obtain rfl := q; rfl) | (obtain ⟨_, q⟩ := q))) (ok_lbytes (m + 1)))
theorem J_l_plain : ∀ m : Nat, Fd P w K mg base G "_law_plain" (4 + m) (sp_plain m)
  | 0 => Fd.no X.d_l_plain (fun f fd F => F.binds (ps := ["draw", "depth"]) fun _ _ _ _ _ _ us hl => match us, hl with | [_, _], _ => rfl) (by rintro l h k ⟨dr, depth, _, z, _⟩; omega)
  | m + 1 => (mkFd (k := 4 + m) X.d_l_plain sc_l_plain (fun f fd F => F.binds (ps := ["draw", "depth"]) fun _ _ _ _ _ _ us hl => match us, hl with | [_, _], _ => rfl)
    (fun f cdv A outer s H E hr => walk_l_plain (C_s := ()) (k := 3 + m) X.T cdv A outer s H E (hr.mono (by omega)) ((J_l_take X).mono (by omega)) ((J_l_plain m).mono (by omega)))
    (by intro l h k q; repeat (first | (obtain ⟨rfl, _⟩ := q; rfl) | (obtain rfl := q; rfl) | (obtain ⟨_, q⟩ := q))) (ok_lplain (m + 1)))
theorem J_l_number : Fd P w K mg base G "_law_number" 2 (sp_num) :=
  mkFd X.d_l_number sc_l_number (fun f fd F => F.binds (ps := ["data", "at"]) fun _ _ _ _ _ _ us hl => match us, hl with | [_, _], _ => rfl)
    (fun f cdv A outer s H E hr => walk_l_number (C_s := ()) (k := 0) X.T cdv A outer s H E hr )
    (by intro l h k q; repeat (first | (obtain ⟨rfl, _⟩ := q; rfl) | (obtain rfl := q; rfl) | (obtain ⟨_, q⟩ := q))) (ok_lnumber)
theorem J_l_read : ∀ m : Nat, Fd P w K mg base G "_law_read" (4 + m) (sp_lread m)
  | 0 => Fd.no X.d_l_read (fun f fd F => F.binds (ps := ["data", "at", "depth"]) fun _ _ _ _ _ _ us hl => match us, hl with | [_, _, _], _ => rfl) (by rintro l h k ⟨d, bs, at_, depth, _, _, z, _⟩; omega)
  | m + 1 => (mkFd (k := 4 + m) X.d_l_read sc_l_read (fun f fd F => F.binds (ps := ["data", "at", "depth"]) fun _ _ _ _ _ _ us hl => match us, hl with | [_, _, _], _ => rfl)
    (fun f cdv A outer s H E hr => walk_l_read (C_s := ()) (k := 3 + m) X.T cdv A outer s H E (hr.mono (by omega)) ((J_l_number X).mono (by omega)) ((J_l_read m).mono (by omega)) ((J_l_signs X).mono (by omega)))
    (by intro l h k q; repeat (first | (obtain ⟨rfl, _⟩ := q; rfl) | (obtain rfl := q; rfl) | (obtain ⟨_, q⟩ := q))) (ok_lread (m + 1)))
theorem J_l_due : Fd P w K mg base G "_law_due" 70 sp_ldue :=
  mkFd X.d_l_due sc_l_due (fun f fd F => F.binds (ps := ["data"]) fun _ _ _ _ _ _ us hl => match us, hl with | [_], _ => rfl)
    (fun f cdv A outer s H E hr => walk_l_due (C_s := ()) (k := 68) X.T cdv A outer s H E hr ((J_l_read X 61).mono (by decide)))
    (by intro l h k q; repeat (first | (obtain ⟨rfl, _⟩ := q; rfl) | (obtain rfl := q; rfl) | (obtain ⟨_, q⟩ := q))) (ok_ldue 61 (by decide))
theorem J_l_told : Fd P w K mg base G "_law_told" 72 sp_ldue :=
  mkFd X.d_l_told sc_l_told (fun f fd F => F.binds (ps := ["data"]) fun _ _ _ _ _ _ us hl => match us, hl with | [_], _ => rfl)
    (fun f cdv A outer s H E hr => walk_l_told (k := 70) X.T X.R cdv A outer s H E hr ((J_unpack X).mono (by decide)))
    (by intro l h k q; repeat (first | (obtain ⟨rfl, _⟩ := q; rfl) | (obtain rfl := q; rfl) | (obtain ⟨_, q⟩ := q))) ok_told
theorem J_l_changed : Fd P w K mg base G "_law_changed" 3 (sp_lchanged) :=
  mkFd X.d_l_changed sc_l_changed (fun f fd F => F.binds (ps := ["draw", "data"]) fun _ _ _ _ _ _ us hl => match us, hl with | [_, _], _ => rfl)
    (fun f cdv A outer s H E hr => walk_l_changed (C_s := ()) (k := 1) X.T cdv A outer s H E hr ((J_l_take X).mono (by decide)))
    (by intro l h k q; repeat (first | (obtain ⟨rfl, _⟩ := q; rfl) | (obtain rfl := q; rfl) | (obtain ⟨_, q⟩ := q))) (ok_lchanged)
end
end Lk06
end
-- E06
section
set_option maxRecDepth 100000
set_option maxHeartbeats 4000000
namespace Lk06
open PySem PySem.Spec PySem.W PyProof.Rows L2 T3 P06
abbrev s_err : Stmt := inClass (top 2) 0
/-- the error's class, its __init__ -/
theorem kd06 {P : Program} {w : World} {K : Frag} {mg : Str → Option Value} {base h : Heap} {C f cc cda : Addr} (inK : K.In h) (gl : h.Ns mainGlobals mg) (hP : P = PySem.Challenge.pw_inputways_k06_packing)
    {oc doc pm ct : Value} {od anD : Option Addr} {osl : Array (Option Value)} (a : nsIn K mainGlobals "PackError" = some (some (.ref C))) (fi : findIn K (.ref C) "__init__" = some (some (.ref f))) (ft : typeIn K (.ref f) = some (.type "function"))
    (lk : K.lookup f = some ⟨oc, od, .func (ksFn "__init__" "PackError.__init__" (defArgs s_err) (defBody s_err) (defScope s_err) .none .none doc pm anD (.ref cda) ct cc), osl⟩) (hcd : codeIn K (.ref cda) "PackError.__init__" = true)
    {vs : Array Value} {ccl : Value} {cdd : Option Addr} {ccs : Array (Option Value)} (lc : K.lookup cda = some ⟨ccl, cdd, .fields vs, ccs⟩) (lf : ∃ tf, vs[2]? = some (.str "/claim/cut.py" tf))
    {cl : Value} {cld : Option Addr} {csl : Array (Option Value)} (lcell : K.lookup cc = some ⟨cl, cld, .cell (some (.ref C)), csl⟩) (hsub : mroIn K C (.ref C) = some true)
    {nm q : Str} {N : Addr} {bs bm : List Value} {sn : List Str} {sub : List Value} {ab : Bool} {col : Option Bool} {dd : Option Addr} {m0 m1 m2 m3 m5 : Option Value}
    (xL : K.lookup C = some (excClassObj nm q C N bs bm true sn sub ab col dd m0 m1 m2 m3 m5 "ValueError.__new__")) (hbm : PySem.HandSPX.refsVE bm = true)
    (sa : findIn K (.ref C) "__setattr__" = some (some (.builtin "object.__setattr__"))) (exC : subIn K (.ref C) (.type "BaseException") = some true) (tyC : typeIn K (.ref C) = some (.type "type")) (kC : keepIn K (.ref C) = true)
    (gn : nsIn K mainGlobals "super" = some none) (ho : nsIn K cStatics "thirdparty.any" = some none) (hB : subIn K (.ref C) (.type "ValueError") = some true) (hm : ks_superIn K C C "__init__" = some (some (.builtin "ValueError.__init__"))) (hfl : findIn K (.ref C) "at" = some none) :
    KdX P w K mg base C "at" "PackError" 1 := by
  subst hP
  obtain ⟨tf, lf⟩ := lf
  have O : OexC K C := ⟨⟨nm, q, N, bs, bm, sn, sub, ab, col, dd, m0, m1, m2, m3, m5, xL, hbm⟩, sa, exC, tyC, kC⟩
  refine ⟨f, _, ["self", "at"], fn_sup (k := 0) (name := "__init__") (qual := "PackError.__init__") (params := defArgs s_err) (scope := defScope s_err) (a1 := ⟨"self", none, ⟨6, 17, 6, 21⟩⟩) (an := "at") (fld := "at") lk hcd (fun L => ⟨_, rfl⟩)
    ⟨rfl, ⟨vs, _, tf, ccl, cdd, ccs, lc, lf, by decide +kernel⟩, ⟨cl, cld, csl, lcell⟩, hsub, rfl, rfl, rfl, rfl, rfl⟩ O (by decide) rfl (by decide) (by decide) (by decide) (by decide) (by decide +kernel) (mg_none_of inK gl gn) ho hB hm hfl
    (fun L => rfl) (fun L => rfl) (fun L => rfl) rfl rfl, O, fi, ft, mg_of inK gl a, ?_⟩
  exact .all fun us hl => match us, hl with | [_, _], _ => rfl
theorem exm_mk {K : Frag} {C : Addr} (h1 : subIn K (.ref C) (.type "BaseException") = some true) (h2 : isClsIn K C = true) (h3 : typeIn K (.ref C) = some (.type "type")) (h4 : subIn K (.ref C) (.ref C) = some true) : exmOne K (.ref C) (.ref C) = some true := by
  unfold isClsIn at h2
  simp [exmOne, kitCls, h1, h2, h3, h4]
theorem strK {K : Frag} {mg : Str → Option Value} {h : Heap} {x s : Str} {t : Tok} (inK : K.In h) (gl : h.Ns mainGlobals mg) (e : nsIn K mainGlobals x = some (some (.str s t))) : ∃ t, mg x = some (.str s t) := ⟨t, mg_of inK gl e⟩
theorem intK {K : Frag} {mg : Str → Option Value} {h : Heap} {x : Str} {i : Int} {t : Tok} (inK : K.In h) (gl : h.Ns mainGlobals mg) (e : nsIn K mainGlobals x = some (some (.int i t))) : ∃ t, mg x = some (.int i t) := ⟨t, mg_of inK gl e⟩
theorem room73 : Room 73 callerA := ⟨rfl, by decide, by decide⟩
theorem walk06 {q : Program} {loose : List Str} {XP : (Str → Option Value) → Heap → Prop} {YP : World → Heap → Prop} {d : DefRec} {K : Params → Frag} (hdf : d.params.defaults = []) (hname : d.name = "law")
    (hY : ∀ (w : World) (h : Heap), YP w h → (K w.params).In h)
    (F : ∀ (w : World) (mg : Str → Option Value) (h : Heap), (K w.params).In h → h.Ns mainGlobals mg → ∃ C_Reader C_E, ∀ base, Top PySem.Challenge.pw_inputways_k06_packing w (K w.params) mg base C_Reader C_E) :
    WalkO q loose XP YP PySem.Challenge.rw_inputways_k06_packing.row.toRowW d [] (fun f vs => PySem.call f vs) := by
  refine Att.attach_call (l := PySem.Challenge.rw_inputways_k06_packing) (n := 63) rfl hdf fun w s₀ s₁ mg mb fa o pm cd doc a vs ns Gr Y ho hd hcd hmg hobj hints hlen hg => ?_
  have KX := hY w _ Y
  obtain ⟨CR, CE, F⟩ := F w mg _ KX Gr.T.g
  refine law_at KX Gr.T.g Gr.T.b Gr.T.builtins Gr.T.nolimit hg hobj hints (Nat.le_trans hlen (by decide)) fun base H inB gl ro e0 => ?_
  have X := F base
  obtain ⟨f, fd, hm, Fl⟩ := X.law
  rw [hname] at hmg
  have e : f = fa := by
    have z := hm.symm.trans hmg
    cases z; rfl
  subst e
  have few : (⟨K w.params, a, ns⟩ : Sc).ns.length ≤ 1000 := Nat.le_trans hlen (by decide)
  refine call_at (k := 72) (G := ⟨K w.params, a, ns⟩) (l := [.ref a]) (vs := [V.ref a]) (us := [.ref a]) (kk := fun d _ => d = .bl true) (h := fun _ => none) Fl sc_law room73 e0 ?_ (.cons rfl .nil) rfl
    (fun cdv E hr => walk_law (k := 71) X.T X.repr X.R cdv callerA rfl [] s₁ H E hr ((J_l_draw X rfl few).mono (by decide)) ((J_l_take X).mono (by decide)) ((J_l_program X).mono (by decide)) ((J_l_plain X 5).mono (by decide)) ((J_l_bytes X 61).mono (by decide)) ((J_pack X).mono (by decide)) ((J_l_told X).mono (by decide)) ((J_l_changed X).mono (by decide)) ((J_l_due X).mono (by decide)))
    ⟨fun _ _ e => (nomatch e), ro⟩ (.cons (.ref a) .nil) (ok_law _ _ _ _ ⟨rfl, fun _ => rfl⟩) (fun d h' v H' e _ _ dv => by subst e; cases dv; rfl)
  exact (Fl.binds (ps := ["script"]) fun _ _ _ _ _ _ us hl => match us, hl with | [_], _ => rfl) s₁ [.ref a] KX rfl
end Lk06
end
-- M06
section
end
open PySem PySem.W PyProof.Rows
set_option maxRecDepth 100000 in
set_option maxHeartbeats 0 in
theorem PySem.Challenge.cw_inputways_k06_packing_holds : PySem.Challenge.rw_inputways_k06_packing.Holds := by
  w_on; o_law; k_head; (case hw => w_witness2)
  k_fill
  refine Lk06.walk06 rfl rfl (fun w h Y => PySem.W.kIn_of Y) ?F
  intro w mg h KX G
  refine' ⟨?CR, ?CE, fun base => ⟨?T, ?repr, ?R, ?kd, ?T_Reader, ?mk_Reader, ?kp_Reader, ?g_Reader, ?d_size_bytes, ?d_text_bytes, ?d_value_bytes, ?d_pack, ?m_Reader_init, ?m_Reader_byte, ?m_Reader_size, ?m_Reader_text, ?m_Reader_value, ?d_unpack, ?d_l_draw, ?d_l_take, ?d_l_top, ?d_l_word, ?d_l_ops, ?d_l_variable, ?d_l_expression, ?d_l_index, ?d_l_row, ?d_l_blocks, ?d_l_program, ?d_l_size, ?d_l_signs, ?d_l_bytes, ?d_l_plain, ?d_l_number, ?d_l_read, ?d_l_due, ?d_l_told, ?d_l_changed, ?law⟩⟩
  (case g_Reader => refine' PySem.W.mg_of KX G ?a; (case a => k_is))
  (case T => refine' ⟨PySem.W.mg_none_of KX G ?len_, PySem.W.mg_none_of KX G ?isinstance_, PySem.W.mg_none_of KX G ?int_, PySem.W.mg_none_of KX G ?str_, PySem.W.mg_none_of KX G ?tuple_, PySem.W.mg_none_of KX G ?range_, PySem.W.mg_none_of KX G ?list_, PySem.W.mg_none_of KX G ?abs_, PySem.W.mg_none_of KX G ?min_, PySem.W.mg_none_of KX G ?max_, PySem.W.mg_none_of KX G ?sorted_, Lk06.strK KX G ?LETTERS_, Lk06.intK KX G ?DEEPEST_⟩; (case len_ => k_is); (case isinstance_ => k_is); (case int_ => k_is); (case str_ => k_is); (case tuple_ => k_is); (case range_ => k_is); (case list_ => k_is); (case abs_ => k_is); (case min_ => k_is); (case max_ => k_is); (case sorted_ => k_is); (case LETTERS_ => k_is); (case DEEPEST_ => k_is))
  (case repr => exact PySem.W.mg_none_of KX G (by k_is))
  (case R => exact ⟨PySem.W.mg_of KX G (by k_is), ⟨by k_is, by k_is, by k_is, by k_is⟩, by k_is, Lk06.exm_mk (by k_is) (by k_is) (by k_is) (by first | rfl | k_is)⟩)
  (case kd =>
    refine' Lk06.kd06 KX G rfl ?a ?fi ?ft ?lk ?hcd ?lc ?lf ?lcell ?hsub ?xL ?hbm ?sa ?exC ?tyC ?kC ?gn ?ho ?hB ?hm ?hfl
    (case a => k_is); (case fi => k_is); (case ft => k_is); (case lk => k_is); (case hcd => k_is); (case lc => k_is); (case lf => exact ⟨_, rfl⟩); (case lcell => k_is); (case hsub => k_is); (case xL => k_is); (case hbm => decide +kernel)
    (case sa => k_is); (case exC => k_is); (case tyC => k_is); (case kC => k_is); (case gn => k_is); (case ho => k_is); (case hB => k_is); (case hm => ks_is); (case hfl => k_is))
  (case T_Reader => exact ⟨T3.cls_mk (by k_is) (by k_is) (by k_is) (by k_is), by intro f hf; simp at hf; rcases hf with rfl | rfl <;> (show PySem.W.findIn _ _ _ = _; k_is), by decide, by decide⟩)
  (case mk_Reader => k_is)
  (case kp_Reader => k_is)
  (case d_size_bytes => refine' T3.at_mk KX G ?a ?l ?c ?k; (case a => k_is); (case l => k_is); (case c => k_is); (case k => k_is))
  (case d_text_bytes => refine' T3.at_mk KX G ?a ?l ?c ?k; (case a => k_is); (case l => k_is); (case c => k_is); (case k => k_is))
  (case d_value_bytes => refine' T3.at_mk KX G ?a ?l ?c ?k; (case a => k_is); (case l => k_is); (case c => k_is); (case k => k_is))
  (case d_pack => refine' T3.at_mk KX G ?a ?l ?c ?k; (case a => k_is); (case l => k_is); (case c => k_is); (case k => k_is))
  (case m_Reader_init => refine' T3.atm_mk ?a ?i ?l ?c ?k; (case a => k_is); (case i => k_is); (case l => k_is); (case c => k_is); (case k => k_is))
  (case m_Reader_byte => refine' T3.atm_mk ?a ?i ?l ?c ?k; (case a => k_is); (case i => k_is); (case l => k_is); (case c => k_is); (case k => k_is))
  (case m_Reader_size => refine' T3.atm_mk ?a ?i ?l ?c ?k; (case a => k_is); (case i => k_is); (case l => k_is); (case c => k_is); (case k => k_is))
  (case m_Reader_text => refine' T3.atm_mk ?a ?i ?l ?c ?k; (case a => k_is); (case i => k_is); (case l => k_is); (case c => k_is); (case k => k_is))
  (case m_Reader_value => refine' T3.atm_mk ?a ?i ?l ?c ?k; (case a => k_is); (case i => k_is); (case l => k_is); (case c => k_is); (case k => k_is))
  (case d_unpack => refine' T3.at_mk KX G ?a ?l ?c ?k; (case a => k_is); (case l => k_is); (case c => k_is); (case k => k_is))
  (case d_l_draw => refine' T3.at_mk KX G ?a ?l ?c ?k; (case a => k_is); (case l => k_is); (case c => k_is); (case k => k_is))
  (case d_l_take => refine' T3.at_mk KX G ?a ?l ?c ?k; (case a => k_is); (case l => k_is); (case c => k_is); (case k => k_is))
  (case d_l_top => refine' T3.at_mk KX G ?a ?l ?c ?k; (case a => k_is); (case l => k_is); (case c => k_is); (case k => k_is))
  (case d_l_word => refine' T3.at_mk KX G ?a ?l ?c ?k; (case a => k_is); (case l => k_is); (case c => k_is); (case k => k_is))
  (case d_l_ops => refine' T3.at_mk KX G ?a ?l ?c ?k; (case a => k_is); (case l => k_is); (case c => k_is); (case k => k_is))
  (case d_l_variable => refine' T3.at_mk KX G ?a ?l ?c ?k; (case a => k_is); (case l => k_is); (case c => k_is); (case k => k_is))
  (case d_l_expression => refine' T3.at_mk KX G ?a ?l ?c ?k; (case a => k_is); (case l => k_is); (case c => k_is); (case k => k_is))
  (case d_l_index => refine' T3.at_mk KX G ?a ?l ?c ?k; (case a => k_is); (case l => k_is); (case c => k_is); (case k => k_is))
  (case d_l_row => refine' T3.at_mk KX G ?a ?l ?c ?k; (case a => k_is); (case l => k_is); (case c => k_is); (case k => k_is))
  (case d_l_blocks => refine' T3.at_mk KX G ?a ?l ?c ?k; (case a => k_is); (case l => k_is); (case c => k_is); (case k => k_is))
  (case d_l_program => refine' T3.at_mk KX G ?a ?l ?c ?k; (case a => k_is); (case l => k_is); (case c => k_is); (case k => k_is))
  (case d_l_size => refine' T3.at_mk KX G ?a ?l ?c ?k; (case a => k_is); (case l => k_is); (case c => k_is); (case k => k_is))
  (case d_l_signs => refine' T3.at_mk KX G ?a ?l ?c ?k; (case a => k_is); (case l => k_is); (case c => k_is); (case k => k_is))
  (case d_l_bytes => refine' T3.at_mk KX G ?a ?l ?c ?k; (case a => k_is); (case l => k_is); (case c => k_is); (case k => k_is))
  (case d_l_plain => refine' T3.at_mk KX G ?a ?l ?c ?k; (case a => k_is); (case l => k_is); (case c => k_is); (case k => k_is))
  (case d_l_number => refine' T3.at_mk KX G ?a ?l ?c ?k; (case a => k_is); (case l => k_is); (case c => k_is); (case k => k_is))
  (case d_l_read => refine' T3.at_mk KX G ?a ?l ?c ?k; (case a => k_is); (case l => k_is); (case c => k_is); (case k => k_is))
  (case d_l_due => refine' T3.at_mk KX G ?a ?l ?c ?k; (case a => k_is); (case l => k_is); (case c => k_is); (case k => k_is))
  (case d_l_told => refine' T3.at_mk KX G ?a ?l ?c ?k; (case a => k_is); (case l => k_is); (case c => k_is); (case k => k_is))
  (case d_l_changed => refine' T3.at_mk KX G ?a ?l ?c ?k; (case a => k_is); (case l => k_is); (case c => k_is); (case k => k_is))
  (case law => refine' T3.at_mk KX G ?a ?l ?c ?k; (case a => k_is); (case l => k_is); (case c => k_is); (case k => k_is))
