import PyProof.Rows.All
import Wide.All
import OpenK.AllK
import Wide.FinOn
import HandS.Base
import HandS.Call
import HandS.List
import HandS.Comp
import HandS.Ends
import HandS.Dict
import HandS.Iter
import HandS.Text
import HandS.Words
import HandS.WordsList
import HandS.WordsDict
import HandS.Exc
import HandS.TryOnly
import HandS.ExcOwn
import HandS.WordsExc
import HandS.Lambda
import KE.KDictWalk
import KE.GoesEnum
import KE.GoesMore
import HandS.Zip
import HandS.DictTup
import HandS.Wide
import HandS.IsInst
import HandS.TupAny
import HandS.TupMul
import HandS.TupLen
import HandS.Conv
import KE.SortData
import KE.DataMinMax
import KE.DataCmp
import HandS.DictComp
import KE.KDictDisplayH
import KE.KDictCopyH
import KE.KDictPairs
import HandS.ExcIs
import HandS.TupLe
import HandS.EndOwn
import KE.DatumOrd
import KE.IntBitsLaws
import PySem.Challenge.RW_everyroot_k22_even_handed_polynomials
set_option Elab.async false
set_option linter.all false
set_option maxRecDepth 100000
/-! L3Core: values as data; local lists and dicts as owned slots, locked when they escape; the relation between a def's pure state and its slots and heap. -/
namespace L3
open PySem PySem.Spec PyProof.Rows L2 LamX

def keyD : Key → PyData
  | .inl i => .int i
  | .inr x => .str x

/-- a list that never changes again -/
def FzL (K : PySem.W.Frag) (H : Hp) (a : Addr) (xs : List V) : Prop :=
  (∃ o, H a = some (.frz o (.lst xs))) ∨
    ∃ (o : Obj) (its : Array Value) (n : Nat), K.lookup a = some o ∧ o.cls = .type "list" ∧ o.dict = none ∧ o.data = .seq its n ∧ its.size ≤ sizeLine ∧ Vals xs its.toList
theorem FzL.seq {K : PySem.W.Frag} {H : Hp} {a : Addr} {xs : List V} (h : FzL K H a xs) : SqL K H a xs := by
  rcases h with h | h
  · exact .inl (.inr h)
  · exact .inr h

/-- all of them tuples -/
def tts : List PyData → Bool
  | [] => true
  | .tuple _ :: r => tts r
  | _ => false
/-- a tuple that stands: one that holds only tuples is told with its object (dict() of it must see that it has no dict of its own), any other one may be a dict's key -/
def TupAt (H : Hp) : Bool → Addr → List V → Prop
  | false, a, xs => H a = some (.tup xs)
  | true, a, xs => ∃ o : Obj, o.dict = none ∧ H a = some (.frz o (.tup xs))
theorem TupAt.sq {K : PySem.W.Frag} {H : Hp} {b : Bool} {a : Addr} {xs : List V} (h : TupAt H b a xs) : SqT K H a xs := by
  cases b with
  | false => exact .of h
  | true => obtain ⟨o, _, h⟩ := h; exact .inl (.inr ⟨o, h⟩)

mutual
/-- v is the data d, and stays so -/
def Fz (K : PySem.W.Frag) (H : Hp) : PyData → V → Prop
  | .none, v => v = .non
  | .bool b, v => v = .bl b
  | .int i, v => v = .int i
  | .str x, v => v = .str x
  | .tuple ds, v => ∃ a xs, v = .ref a ∧ TupAt H (tts ds) a xs ∧ FzAll K H ds xs
  | .list ds, v => ∃ a xs, v = .ref a ∧ FzL K H a xs ∧ FzAll K H ds xs
  | .dict kvs, v => ∃ a o ks, v = .ref a ∧ H a = some (.frz o (.dT ks)) ∧ FzKV K H kvs ks
def FzAll (K : PySem.W.Frag) (H : Hp) : List PyData → List V → Prop
  | [], xs => xs = []
  | d :: ds, xs => ∃ y ys, xs = y :: ys ∧ Fz K H d y ∧ FzAll K H ds ys
def FzKV (K : PySem.W.Frag) (H : Hp) : List (PyData × PyData) → List (List Key × V) → Prop
  | [], ks => ks = []
  | (k, d) :: r, ks => ∃ k' v ks', ks = (k', v) :: ks' ∧ (k' ≠ [] ∧ k = .tuple (k'.map keyD)) ∧ Fz K H d v ∧ FzKV K H r ks'
end

/-- what never changes is kept -/
structure Ext (H H' : Hp) : Prop where
  tup : ∀ a xs, H a = some (.tup xs) → H' a = some (.tup xs)
  frz : ∀ a o u, H a = some (.frz o u) → H' a = some (.frz o u)
theorem Ext.refl (H : Hp) : Ext H H := ⟨fun _ _ h => h, fun _ _ _ h => h⟩
theorem Ext.trans {H H1 H2 : Hp} (a : Ext H H1) (b : Ext H1 H2) : Ext H H2 := ⟨fun c x h => b.tup c x (a.tup c x h), fun c o x h => b.frz c o x (a.frz c o x h)⟩
theorem TupAt.ext {H H' : Hp} {b : Bool} {a : Addr} {xs : List V} (e : Ext H H') (h : TupAt H b a xs) : TupAt H' b a xs := by
  cases b with
  | false => exact e.tup _ _ h
  | true => obtain ⟨o, n, h⟩ := h; exact ⟨o, n, e.frz _ _ _ h⟩
theorem Ext.sqT {K : PySem.W.Frag} {H H' : Hp} {a : Addr} {xs : List V} (e : Ext H H') (h : SqT K H a xs) : SqT K H' a xs := by
  rcases h with (h | ⟨o, h⟩) | h
  · exact .inl (.inl (e.tup _ _ h))
  · exact .inl (.inr ⟨o, e.frz _ _ _ h⟩)
  · exact .inr h
theorem Ext.fzL {K : PySem.W.Frag} {H H' : Hp} {a : Addr} {xs : List V} (e : Ext H H') (h : FzL K H a xs) : FzL K H' a xs := by
  rcases h with ⟨o, h⟩ | h
  · exact .inl ⟨o, e.frz _ _ _ h⟩
  · exact .inr h
mutual
theorem Fz.ext {K : PySem.W.Frag} {H H' : Hp} (e : Ext H H') : ∀ (d : PyData) (v : V), Fz K H d v → Fz K H' d v
  | .none, v, h => h
  | .bool b, v, h => h
  | .int i, v, h => h
  | .str x, v, h => h
  | .tuple ds, v, h => by
    simp only [Fz] at h ⊢
    obtain ⟨a, xs, e1, e2, e3⟩ := h
    exact ⟨a, xs, e1, e2.ext e, FzAll.ext e ds xs e3⟩
  | .list ds, v, h => by
    simp only [Fz] at h ⊢
    obtain ⟨a, xs, e1, e2, e3⟩ := h
    exact ⟨a, xs, e1, e.fzL e2, FzAll.ext e ds xs e3⟩
  | .dict kvs, v, h => by
    simp only [Fz] at h ⊢
    obtain ⟨a, o, ks, e1, e2, e3⟩ := h
    exact ⟨a, o, ks, e1, e.frz _ _ _ e2, FzKV.ext e kvs ks e3⟩
theorem FzAll.ext {K : PySem.W.Frag} {H H' : Hp} (e : Ext H H') : ∀ (ds : List PyData) (vs : List V), FzAll K H ds vs → FzAll K H' ds vs
  | [], vs, h => h
  | d :: ds, vs, h => by
    simp only [FzAll] at h ⊢
    obtain ⟨y, ys, e1, e2, e3⟩ := h
    exact ⟨y, ys, e1, Fz.ext e d y e2, FzAll.ext e ds ys e3⟩
theorem FzKV.ext {K : PySem.W.Frag} {H H' : Hp} (e : Ext H H') : ∀ (kvs : List (PyData × PyData)) (ks : List (List Key × V)), FzKV K H kvs ks → FzKV K H' kvs ks
  | [], ks, h => h
  | (k, d) :: r, ks, h => by
    simp only [FzKV] at h ⊢
    obtain ⟨k', v, ks', e1, e2, e3, e4⟩ := h
    exact ⟨k', v, ks', e1, e2, Fz.ext e d v e3, FzKV.ext e r ks' e4⟩
end

/-- an own list or dict: it may be changed, its items are data that stays -/
def OwnAt (K : PySem.W.Frag) (H : Hp) (a : Addr) : PyData → Prop
  | .list ds => ∃ xs, H a = some (.lst xs) ∧ FzAll K H ds xs
  | .dict kvs => ∃ ks, H a = some (.dT ks) ∧ FzKV K H kvs ks
  | _ => False
/-- a tracked thing that may be written by us -/
def Ours (u : HO) : Prop := (∃ xs, u = .lst xs) ∨ ∃ ks, u = .dT ks
theorem OwnAt.ours {K : PySem.W.Frag} {H : Hp} {a : Addr} {d : PyData} (h : OwnAt K H a d) : ∃ u, H a = some u ∧ Ours u := by
  cases d with
  | list ds => obtain ⟨xs, e, _⟩ := h; exact ⟨_, e, .inl ⟨_, rfl⟩⟩
  | dict kvs => obtain ⟨ks, e, _⟩ := h; exact ⟨_, e, .inr ⟨_, rfl⟩⟩
  | _ => exact False.elim h
theorem OwnAt.ext {K : PySem.W.Frag} {H H' : Hp} {a : Addr} {d : PyData} (e : Ext H H') (s : ∀ u, H a = some u → H' a = some u) (h : OwnAt K H a d) : OwnAt K H' a d := by
  cases d with
  | list ds => obtain ⟨xs, e1, e2⟩ := h; exact ⟨xs, s _ e1, FzAll.ext e _ _ e2⟩
  | dict kvs => obtain ⟨ks, e1, e2⟩ := h; exact ⟨ks, s _ e1, FzKV.ext e _ _ e2⟩
  | _ => exact False.elim h

/-- a value that an expression hands back: data that stays, or a new own thing that nobody else holds -/
inductive Vl where
  | fz (d : PyData)
  | ow (d : PyData)
/-- a slot: not known, data, an own thing, the caller's own thing -/
inductive Sl where
  | emp
  | fz (d : PyData)
  | ow (d : PyData)
  | io (d : PyData)
abbrev En := List Sl

/-- not tracked, or a table of code objects -/
def Bn (H : Hp) (a : Addr) : Prop := ∀ u, H a = some u → ∃ ps, u = .tbl ps
theorem Bn.of {H : Hp} {a : Addr} (h : H a = none) : Bn H a := fun u z => by rw [h] at z; cases z
theorem Ours.ntbl {u : HO} (h : Ours u) : ∀ ps, u ≠ .tbl ps := fun ps z => by
  rcases h with ⟨_, h⟩ | ⟨_, h⟩ <;> (rw [h] at z; cases z)
/-! ### changes of the heap -/
/-- one address is written: it was free, or ours -/
structure Chg (H H' : Hp) (a : Addr) (o : HO) : Prop where
  eq : H' = upd H a o
  was : H a = none ∨ ((∃ u, H a = some u ∧ Ours u) ∧ ∀ ps, o ≠ .tbl ps)
theorem Chg.ext {H H' : Hp} {a : Addr} {o : HO} (c : Chg H H' a o) : Ext H H' := by
  obtain ⟨rfl, w⟩ := c
  refine ⟨fun b xs h => ?_, fun b q u h => ?_⟩
  · rw [upd_ne]
    · exact h
    · intro z
      subst z
      rcases w with w | ⟨⟨u, w, r⟩, _⟩
      · rw [w] at h; cases h
      · rw [w] at h; cases h
        rcases r with ⟨_, r⟩ | ⟨_, r⟩ <;> cases r
  · rw [upd_ne]
    · exact h
    · intro z
      subst z
      rcases w with w | ⟨⟨u, w, r⟩, _⟩
      · rw [w] at h; cases h
      · rw [w] at h; cases h
        rcases r with ⟨_, r⟩ | ⟨_, r⟩ <;> cases r
theorem Chg.tabs {T : List (Addr × Str)} {H H' : Hp} {a : Addr} {o : HO} (c : Chg H H' a o) (t : Tabs T H) : Tabs T H' := by
  obtain ⟨rfl, w⟩ := c
  intro p hp
  obtain ⟨ps, h1, h2, h3⟩ := t p hp
  have ne : ∀ b u, H b = some u → (∀ xs, u ≠ .lst xs) → (∀ ks, u ≠ .dT ks) → b ≠ a := fun b u h n1 n2 z => by
    subst z
    rcases w with w | ⟨⟨u', w, r⟩, _⟩
    · rw [w] at h; cases h
    · rw [w] at h; cases h
      rcases r with ⟨_, r⟩ | ⟨_, r⟩
      · exact n1 _ r
      · exact n2 _ r
  refine ⟨ps, by rw [upd_ne (ne _ _ h1 (fun _ z => by cases z) (fun _ z => by cases z))]; exact h1, h2, fun pos cv hc => ?_⟩
  obtain ⟨c', e1, e2⟩ := h3 pos cv hc
  refine ⟨c', e1, ?_⟩
  rw [upd_ne (ne _ _ e2 (fun _ z => by unfold CodeO at z; cases z) (fun _ z => by unfold CodeO at z; cases z))]
  exact e2
theorem Chg.fresh {H : Hp} {a : Addr} (o : HO) (h : H a = none) : Chg H (upd H a o) a o := ⟨rfl, .inl h⟩
theorem Chg.own {H : Hp} {a : Addr} {u : HO} (o : HO) (h : H a = some u) (r : Ours u) (n : ∀ ps, o ≠ .tbl ps := by intro _ z; cases z) : Chg H (upd H a o) a o := ⟨rfl, .inr ⟨⟨u, h, r⟩, n⟩⟩
theorem Chg.off {H H' : Hp} {a b : Addr} {o : HO} (c : Chg H H' a o) (h : b ≠ a) : H' b = H b := by
  obtain ⟨rfl, _⟩ := c
  exact upd_ne h
theorem Chg.at {H H' : Hp} {a : Addr} {o : HO} (c : Chg H H' a o) : H' a = some o := by
  obtain ⟨rfl, _⟩ := c
  exact upd_same

/-- behind a call, or from a def's entry on: all is kept but the thing at x, tables may grow -/
structure Fr (T : List (Addr × Str)) (x : Option Addr) (H H' : Hp) : Prop where
  ext : Ext H H'
  keep : ∀ (a : Addr) (u : HO), H a = some u → x ≠ some a → (∀ ps, u ≠ .tbl ps) → H' a = some u
  th : ∀ a : Addr, Bn H' a → Bn H a
  tab : Tabs T H'
theorem Fr.refl {T : List (Addr × Str)} (x : Option Addr) {H : Hp} (t : Tabs T H) : Fr T x H H := ⟨Ext.refl H, fun _ _ h _ _ => h, fun _ h => h, t⟩
theorem Fr.trans {T : List (Addr × Str)} {x : Option Addr} {H H1 H2 : Hp} (a : Fr T x H H1) (b : Fr T x H1 H2) : Fr T x H H2 :=
  ⟨a.ext.trans b.ext, fun c u h n t => b.keep c u (a.keep c u h n t) n t, fun c h => a.th c (b.th c h), b.tab⟩
theorem Chg.th {H H' : Hp} {a : Addr} {o : HO} (c : Chg H H' a o) : ∀ b : Addr, Bn H' b → Bn H b := fun b h u hu => by
  by_cases z : b = a
  · subst z
    rcases c.was with w | ⟨_, n⟩
    · rw [w] at hu; cases hu
    · obtain ⟨ps, q⟩ := h o c.at
      exact absurd q (n ps)
  · exact h u (by rw [c.off z]; exact hu)

/-! ### the state of a def, and its slots and heap -/
/-- B: what was tracked at the def's entry (callers' things: kept, but for the thing at ex); P: own things that are held by no slot -/
structure Sim (K : PySem.W.Frag) (T : List (Addr × Str)) (ex : Option Addr) (B : Hp) (P : List (Addr × PyData)) (e : En) (σ : L2.St) (H : Hp) : Prop where
  len : e.length = σ.length
  fz : ∀ (i : Nat) (d : PyData), e[i]? = some (.fz d) → ∃ v, σ[i]? = some (some v) ∧ Fz K H d v
  ow : ∀ (i : Nat) (d : PyData), e[i]? = some (.ow d) → ∃ a, σ[i]? = some (some (.ref a)) ∧ OwnAt K H a d ∧ Bn B a
  io : ∀ (i : Nat) (d : PyData), e[i]? = some (.io d) → ∃ a, σ[i]? = some (some (.ref a)) ∧ OwnAt K H a d ∧ ex = some a ∧ ¬ Bn B a
  pd : ∀ p ∈ P, OwnAt K H p.1 p.2 ∧ Bn B p.1
  d1 : ∀ (i j : Nat) (a : Addr) (d d' : PyData), e[i]? = some (.ow d) → e[j]? = some (.ow d') → σ[i]? = some (some (.ref a)) → σ[j]? = some (some (.ref a)) → i = j
  d2 : ∀ (i : Nat) (a : Addr) (d : PyData) (p : Addr × PyData), e[i]? = some (.ow d) → σ[i]? = some (some (.ref a)) → p ∈ P → p.1 ≠ a
  d3 : (P.map (·.1)).Nodup
  d4 : ∀ (i j : Nat) (d d' : PyData), e[i]? = some (.io d) → e[j]? = some (.io d') → i = j
  fr : Fr T ex B H

section
variable {K : PySem.W.Frag} {T : List (Addr × Str)} {ex : Option Addr} {B : Hp} {P : List (Addr × PyData)} {e : En} {σ : L2.St} {H H' : Hp}

/-- where an address that is written is none of the state's own things -/
theorem Sim.chg {a : Addr} {o : HO} (s : Sim K T ex B P e σ H) (c : Chg H H' a o) (n1 : ∀ (i : Nat) (d : PyData), e[i]? = some (.ow d) → σ[i]? ≠ some (some (.ref a))) (n2 : ∀ p ∈ P, p.1 ≠ a)
    (n3 : ∀ (i : Nat) (d : PyData), e[i]? = some (.io d) → σ[i]? ≠ some (some (.ref a))) (nB : Bn B a ∨ ex = some a) : Sim K T ex B P e σ H' where
  len := s.len
  fz := fun i d h => by
    obtain ⟨v, e1, e2⟩ := s.fz i d h
    exact ⟨v, e1, Fz.ext c.ext _ _ e2⟩
  ow := fun i d h => by
    obtain ⟨b, e1, e2, e3⟩ := s.ow i d h
    refine ⟨b, e1, e2.ext c.ext fun u hu => ?_, e3⟩
    rw [c.off fun z => n1 i d h (by rw [e1, z])]
    exact hu
  io := fun i d h => by
    obtain ⟨b, e1, e2, e3⟩ := s.io i d h
    refine ⟨b, e1, e2.ext c.ext fun u hu => ?_, e3⟩
    rw [c.off fun z => n3 i d h (by rw [e1, z])]
    exact hu
  pd := fun p hp => by
    obtain ⟨e2, e3⟩ := s.pd p hp
    refine ⟨e2.ext c.ext fun u hu => ?_, e3⟩
    rw [c.off (n2 p hp)]
    exact hu
  d1 := s.d1
  d2 := s.d2
  d3 := s.d3
  d4 := s.d4
  fr := ⟨s.fr.ext.trans c.ext, fun b u h1 h2 h3 => by
    rw [c.off fun z => ?_]
    · exact s.fr.keep b u h1 h2 h3
    · subst z
      rcases nB with nB | nB
      · obtain ⟨ps, z⟩ := nB u h1
        exact h3 ps z
      · exact h2 nB, fun b h => s.fr.th b (c.th b h), c.tabs s.fr.tab⟩
theorem OwnAt.nbn {a : Addr} {d : PyData} (h : OwnAt K H a d) : ¬ Bn H a := fun z => by
  obtain ⟨u, q, r⟩ := h.ours
  obtain ⟨ps, e⟩ := z u q
  exact r.ntbl ps e
/-- an address that is free -/
theorem Sim.nfree {a : Addr} (s : Sim K T ex B P e σ H) (h : Bn H a) : (∀ (i : Nat) (d : PyData), e[i]? = some (.ow d) → σ[i]? ≠ some (some (.ref a))) ∧ (∀ p ∈ P, p.1 ≠ a) ∧
    (∀ (i : Nat) (d : PyData), e[i]? = some (.io d) → σ[i]? ≠ some (some (.ref a))) ∧ Bn B a := by
  refine ⟨fun i d q z => ?_, fun p hp z => ?_, fun i d q z => ?_, s.fr.th a h⟩
  · obtain ⟨b, e1, e2, _⟩ := s.ow i d q
    rw [e1] at z; cases z
    exact e2.nbn h
  · rw [← z] at h
    exact (s.pd p hp).1.nbn h
  · obtain ⟨b, e1, e2, _⟩ := s.io i d q
    rw [e1] at z; cases z
    exact e2.nbn h
/-- a new thing -/
theorem Sim.new {a : Addr} (s : Sim K T ex B P e σ H) (h : H a = none) (o : HO) : Sim K T ex B P e σ (upd H a o) :=
  let ⟨n1, n2, n3, n4⟩ := s.nfree (Bn.of h)
  s.chg (Chg.fresh o h) n1 n2 n3 (.inl n4)
/-- behind a call -/
theorem Sim.called (s : Sim K T ex B P e σ H) (f : Fr T none H H') : Sim K T ex B P e σ H' where
  len := s.len
  fz := fun i d h => by
    obtain ⟨v, e1, e2⟩ := s.fz i d h
    exact ⟨v, e1, Fz.ext f.ext _ _ e2⟩
  ow := fun i d h => by
    obtain ⟨b, e1, e2, e3⟩ := s.ow i d h
    obtain ⟨u, q, r⟩ := e2.ours
    refine ⟨b, e1, e2.ext f.ext fun u' hu => f.keep b u' hu (by simp) fun ps z => ?_, e3⟩
    rw [q] at hu; cases hu
    rcases r with ⟨_, r⟩ | ⟨_, r⟩ <;> (rw [r] at z; cases z)
  io := fun i d h => by
    obtain ⟨b, e1, e2, e3⟩ := s.io i d h
    obtain ⟨u, q, r⟩ := e2.ours
    refine ⟨b, e1, e2.ext f.ext fun u' hu => f.keep b u' hu (by simp) fun ps z => ?_, e3⟩
    rw [q] at hu; cases hu
    rcases r with ⟨_, r⟩ | ⟨_, r⟩ <;> (rw [r] at z; cases z)
  pd := fun p hp => by
    obtain ⟨e2, e3⟩ := s.pd p hp
    obtain ⟨u, q, r⟩ := e2.ours
    refine ⟨e2.ext f.ext fun u' hu => f.keep p.1 u' hu (by simp) fun ps z => ?_, e3⟩
    rw [q] at hu; cases hu
    rcases r with ⟨_, r⟩ | ⟨_, r⟩ <;> (rw [r] at z; cases z)
  d1 := s.d1
  d2 := s.d2
  d3 := s.d3
  d4 := s.d4
  fr := ⟨s.fr.ext.trans f.ext, fun b u h1 h2 h3 => f.keep b u (s.fr.keep b u h1 h2 h3) (by simp) h3, fun b h => s.fr.th b (f.th b h), f.tab⟩
/-- what a value is, beside the state -/
def VRep (K : PySem.W.Frag) (B : Hp) (P : List (Addr × PyData)) (e : En) (σ : L2.St) (H : Hp) (y : V) : Vl → Prop
  | .fz d => Fz K H d y
  | .ow d => ∃ a, y = .ref a ∧ OwnAt K H a d ∧ Bn B a ∧ (∀ (i : Nat) (d' : PyData), e[i]? = some (.ow d') → σ[i]? ≠ some (some (.ref a))) ∧ ∀ p ∈ P, p.1 ≠ a
/-- a slot is stored: data -/
theorem Sim.setFz {i : Nat} {d : PyData} {v : V} (s : Sim K T ex B P e σ H) (hv : Fz K H d v) : Sim K T ex B P (e.set i (.fz d)) (σ.set i (some v)) H where
  len := by simp [s.len]
  fz := fun j d' h => by
    by_cases z : i = j
    · subst z
      have hl : i < e.length := by
        have := List.getElem?_eq_some_iff.mp h
        obtain ⟨q, _⟩ := this
        simpa using q
      rw [List.getElem?_set_self hl] at h
      cases h
      exact ⟨v, by rw [List.getElem?_set_self (by rw [← s.len]; exact hl)], hv⟩
    · rw [List.getElem?_set_ne z] at h ⊢
      exact s.fz j d' h
  ow := fun j d' h => by
    by_cases z : i = j
    · subst z
      by_cases hl : i < e.length
      · rw [List.getElem?_set_self hl] at h; cases h
      · rw [List.getElem?_eq_none (by simpa using hl)] at h; cases h
    · rw [List.getElem?_set_ne z] at h ⊢
      exact s.ow j d' h
  io := fun j d' h => by
    by_cases z : i = j
    · subst z
      by_cases hl : i < e.length
      · rw [List.getElem?_set_self hl] at h; cases h
      · rw [List.getElem?_eq_none (by simpa using hl)] at h; cases h
    · rw [List.getElem?_set_ne z] at h ⊢
      exact s.io j d' h
  pd := s.pd
  d1 := fun j k a d1 d2 h1 h2 h3 h4 => by
    have ne : ∀ (j : Nat) (d1 : PyData), (e.set i (.fz d))[j]? = some (.ow d1) → i ≠ j := fun j d1 h z => by
      subst z
      by_cases hl : i < e.length
      · rw [List.getElem?_set_self hl] at h; cases h
      · rw [List.getElem?_eq_none (by simpa using hl)] at h; cases h
    have z1 := ne j d1 h1
    have z2 := ne k d2 h2
    rw [List.getElem?_set_ne z1] at h1 h3
    rw [List.getElem?_set_ne z2] at h2 h4
    exact s.d1 j k a d1 d2 h1 h2 h3 h4
  d2 := fun j a d1 p h1 h2 hp => by
    have z1 : i ≠ j := fun z => by
      subst z
      by_cases hl : i < e.length
      · rw [List.getElem?_set_self hl] at h1; cases h1
      · rw [List.getElem?_eq_none (by simpa using hl)] at h1; cases h1
    rw [List.getElem?_set_ne z1] at h1 h2
    exact s.d2 j a d1 p h1 h2 hp
  d3 := s.d3
  d4 := fun j k d1 d2 h1 h2 => by
    have ne : ∀ (j : Nat) (d1 : PyData), (e.set i (.fz d))[j]? = some (.io d1) → i ≠ j := fun j d1 h z => by
      subst z
      by_cases hl : i < e.length
      · rw [List.getElem?_set_self hl] at h; cases h
      · rw [List.getElem?_eq_none (by simpa using hl)] at h; cases h
    rw [List.getElem?_set_ne (ne j d1 h1)] at h1
    rw [List.getElem?_set_ne (ne k d2 h2)] at h2
    exact s.d4 j k d1 d2 h1 h2
  fr := s.fr
theorem set_at {e : En} {i j : Nat} {x y : Sl} (h : (e.set i x)[j]? = some y) : (i = j ∧ x = y ∧ i < e.length) ∨ (i ≠ j ∧ e[j]? = some y) := by
  by_cases z : i = j
  · subst z
    by_cases hl : i < e.length
    · rw [List.getElem?_set_self hl] at h
      exact .inl ⟨rfl, Option.some.inj h, hl⟩
    · rw [List.getElem?_eq_none (by simpa using hl)] at h; cases h
  · rw [List.getElem?_set_ne z] at h
    exact .inr ⟨z, h⟩
/-- .. a new own thing -/
theorem Sim.setOw {i : Nat} {d : PyData} {v : V} (s : Sim K T ex B P e σ H) (hv : VRep K B P e σ H v (.ow d)) : Sim K T ex B P (e.set i (.ow d)) (σ.set i (some v)) H := by
  obtain ⟨a, rfl, ho, hB, n1, n2⟩ := hv
  have ne : ∀ {j : Nat}, i ≠ j → (σ.set i (some (.ref a)))[j]? = σ[j]? := fun {j} z => List.getElem?_set_ne z
  have at_ : i < e.length → (σ.set i (some (V.ref a)))[i]? = some (some (.ref a)) := fun hl => List.getElem?_set_self (by rw [← s.len]; exact hl)
  refine ⟨by simp [s.len], fun j d' h => ?_, fun j d' h => ?_, fun j d' h => ?_, s.pd, fun j k b d1 d2 h1 h2 h3 h4 => ?_, fun j b d1 p h1 h2 hp => ?_, s.d3, fun j k d1 d2 h1 h2 => ?_, s.fr⟩
  · rcases set_at h with ⟨_, q, _⟩ | ⟨z, q⟩
    · cases q
    · rw [ne z]; exact s.fz j d' q
  · rcases set_at h with ⟨z, q, hl⟩ | ⟨z, q⟩
    · subst z; cases q
      exact ⟨a, at_ hl, ho, hB⟩
    · rw [ne z]; exact s.ow j d' q
  · rcases set_at h with ⟨_, q, _⟩ | ⟨z, q⟩
    · cases q
    · rw [ne z]; exact s.io j d' q
  · rcases set_at h1 with ⟨z1, q1, hl⟩ | ⟨z1, q1⟩ <;> rcases set_at h2 with ⟨z2, q2, _⟩ | ⟨z2, q2⟩
    · rw [← z1, ← z2]
    · subst z1; cases q1
      rw [at_ hl] at h3; cases h3
      rw [ne z2] at h4
      exact absurd h4 (n1 k d2 q2)
    · rename_i hl
      subst z2; cases q2
      rw [at_ hl] at h4; cases h4
      rw [ne z1] at h3
      exact absurd h3 (n1 j d1 q1)
    · rw [ne z1] at h3
      rw [ne z2] at h4
      exact s.d1 j k b d1 d2 q1 q2 h3 h4
  · rcases set_at h1 with ⟨z1, q1, hl⟩ | ⟨z1, q1⟩
    · subst z1; cases q1
      rw [at_ hl] at h2; cases h2
      exact n2 p hp
    · rw [ne z1] at h2
      exact s.d2 j b d1 p q1 h2 hp
  · rcases set_at h1 with ⟨_, q1, _⟩ | ⟨z1, q1⟩
    · cases q1
    · rcases set_at h2 with ⟨_, q2, _⟩ | ⟨z2, q2⟩
      · cases q2
      · exact s.d4 j k d1 d2 q1 q2
/-- an own slot's thing is written (its slot stays) -/
theorem Sim.write {i : Nat} {a : Addr} {d : PyData} {o : HO} {x : Sl} (s : Sim K T ex B P e σ H) (hi : e[i]? = some (.ow d)) (hσ : σ[i]? = some (some (.ref a))) (c : Chg H H' a o)
    (hx : (∃ d', x = .fz d' ∧ Fz K H' d' (.ref a)) ∨ ∃ d', x = .ow d' ∧ OwnAt K H' a d') : Sim K T ex B P (e.set i x) σ H' := by
  obtain ⟨a', e1, e2, hB⟩ := s.ow i d hi
  rw [hσ] at e1; cases e1
  have n1 : ∀ (j : Nat) (d' : PyData), i ≠ j → e[j]? = some (.ow d') → σ[j]? ≠ some (some (.ref a)) := fun j d' z q w => z (s.d1 i j a d d' hi q hσ w)
  have n2 : ∀ p ∈ P, p.1 ≠ a := fun p hp => s.d2 i a d p hi hσ hp
  have n3 : ∀ (j : Nat) (d' : PyData), e[j]? = some (.io d') → σ[j]? ≠ some (some (.ref a)) := fun j d' q w => by
    obtain ⟨b, f1, _, _, f2⟩ := s.io j d' q
    rw [w] at f1; cases f1
    exact f2 hB
  refine ⟨by simp [s.len], fun j d' h => ?_, fun j d' h => ?_, fun j d' h => ?_, fun p hp => ?_, fun j k b d1 d2 h1 h2 h3 h4 => ?_, fun j b d1 p h1 h2 hp => ?_, s.d3, fun j k d1 d2 h1 h2 => ?_,
    ⟨s.fr.ext.trans c.ext, fun b u h1 h2 h3 => ?_, fun b h => s.fr.th b (c.th b h), c.tabs s.fr.tab⟩⟩
  · rcases set_at h with ⟨z, q, _⟩ | ⟨z, q⟩
    · subst z; subst q
      rcases hx with ⟨d2, e3, e4⟩ | ⟨d2, e3, _⟩ <;> cases e3
      exact ⟨_, hσ, e4⟩
    · obtain ⟨v, f1, f2⟩ := s.fz j d' q
      exact ⟨v, f1, Fz.ext c.ext _ _ f2⟩
  · rcases set_at h with ⟨z, q, _⟩ | ⟨z, q⟩
    · subst z; subst q
      rcases hx with ⟨d2, e3, _⟩ | ⟨d2, e3, e4⟩ <;> cases e3
      exact ⟨_, hσ, e4, hB⟩
    · obtain ⟨b, f1, f2, f3⟩ := s.ow j d' q
      refine ⟨b, f1, f2.ext c.ext fun u hu => ?_, f3⟩
      rw [c.off fun w => n1 j d' z q (by rw [f1, w])]
      exact hu
  · rcases set_at h with ⟨z, q, _⟩ | ⟨z, q⟩
    · subst q
      rcases hx with ⟨d2, e3, _⟩ | ⟨d2, e3, _⟩ <;> cases e3
    · obtain ⟨b, f1, f2, f3⟩ := s.io j d' q
      refine ⟨b, f1, f2.ext c.ext fun u hu => ?_, f3⟩
      rw [c.off fun w => n3 j d' q (by rw [f1, w])]
      exact hu
  · obtain ⟨f1, f2⟩ := s.pd p hp
    refine ⟨f1.ext c.ext fun u hu => ?_, f2⟩
    rw [c.off (n2 p hp)]
    exact hu
  · have old : ∀ {j : Nat} {d1 : PyData}, (e.set i x)[j]? = some (.ow d1) → ∃ d2, e[j]? = some (.ow d2) := fun {j d1} h => by
      rcases set_at h with ⟨z, _, _⟩ | ⟨_, q⟩
      · subst z; exact ⟨d, hi⟩
      · exact ⟨_, q⟩
    obtain ⟨_, q1⟩ := old h1
    obtain ⟨_, q2⟩ := old h2
    exact s.d1 j k b _ _ q1 q2 h3 h4
  · rcases set_at h1 with ⟨z, _, _⟩ | ⟨_, q⟩
    · subst z
      exact s.d2 i b d p hi h2 hp
    · exact s.d2 j b d1 p q h2 hp
  · rcases set_at h1 with ⟨_, q1, _⟩ | ⟨z1, q1⟩
    · subst q1
      rcases hx with ⟨d2, e3, _⟩ | ⟨d2, e3, _⟩ <;> cases e3
    · rcases set_at h2 with ⟨_, q2, _⟩ | ⟨z2, q2⟩
      · subst q2
        rcases hx with ⟨d2, e3, _⟩ | ⟨d2, e3, _⟩ <;> cases e3
      · exact s.d4 j k d1 d2 q1 q2
  · rw [c.off fun z => ?_]
    · exact s.fr.keep b u h1 h2 h3
    · subst z
      obtain ⟨ps, z⟩ := hB u h1
      exact h3 ps z
/-- the caller's own thing is written -/
theorem Sim.writeIo {i : Nat} {a : Addr} {d d' : PyData} (s : Sim K T ex B P e σ H) (hi : e[i]? = some (.io d)) (hσ : σ[i]? = some (some (.ref a))) (f : Fr T (some a) H H') (ho : OwnAt K H' a d') :
    Sim K T ex B P (e.set i (.io d')) σ H' := by
  obtain ⟨a', e1, e2, hex, hB⟩ := s.io i d hi
  rw [hσ] at e1; cases e1
  have kp : ∀ {b : Addr} {d1 : PyData}, OwnAt K H b d1 → b ≠ a → OwnAt K H' b d1 := fun {b d1} q z => by
    obtain ⟨u, q1, r⟩ := q.ours
    refine q.ext f.ext fun u' hu => f.keep b u' hu (fun w => z (Option.some.inj w).symm) fun ps w => ?_
    rw [q1] at hu; cases hu
    rcases r with ⟨_, r⟩ | ⟨_, r⟩ <;> (rw [r] at w; cases w)
  refine ⟨by simp [s.len], fun j d1 h => ?_, fun j d1 h => ?_, fun j d1 h => ?_, fun p hp => ?_, fun j k b d1 d2 h1 h2 h3 h4 => ?_, fun j b d1 p h1 h2 hp => ?_, s.d3, fun j k d1 d2 h1 h2 => ?_, ?_⟩
  · rcases set_at h with ⟨_, q, _⟩ | ⟨z, q⟩
    · cases q
    · obtain ⟨v, f1, f2⟩ := s.fz j d1 q
      exact ⟨v, f1, Fz.ext f.ext _ _ f2⟩
  · rcases set_at h with ⟨_, q, _⟩ | ⟨z, q⟩
    · cases q
    · obtain ⟨b, f1, f2, f3⟩ := s.ow j d1 q
      exact ⟨b, f1, kp f2 fun w => by rw [w] at f3; exact hB f3, f3⟩
  · rcases set_at h with ⟨z, q, _⟩ | ⟨z, q⟩
    · subst z; cases q
      exact ⟨a, hσ, ho, hex, hB⟩
    · exact absurd (s.d4 i j d d1 hi q) z
  · obtain ⟨f1, f2⟩ := s.pd p hp
    exact ⟨kp f1 fun w => by rw [w] at f2; exact hB f2, f2⟩
  · rcases set_at h1 with ⟨_, q1, _⟩ | ⟨z1, q1⟩
    · cases q1
    · rcases set_at h2 with ⟨_, q2, _⟩ | ⟨z2, q2⟩
      · cases q2
      · exact s.d1 j k b d1 d2 q1 q2 h3 h4
  · rcases set_at h1 with ⟨_, q1, _⟩ | ⟨z1, q1⟩
    · cases q1
    · exact s.d2 j b d1 p q1 h2 hp
  · have old : ∀ {j : Nat} {d1 : PyData}, (e.set i (.io d'))[j]? = some (.io d1) → ∃ d2, e[j]? = some (.io d2) := fun {j d1} h => by
      rcases set_at h with ⟨z, _, _⟩ | ⟨_, q⟩
      · subst z; exact ⟨d, hi⟩
      · exact ⟨_, q⟩
    obtain ⟨_, q1⟩ := old h1
    obtain ⟨_, q2⟩ := old h2
    exact s.d4 j k _ _ q1 q2
  · refine ⟨s.fr.ext.trans f.ext, fun b u h1 h2 h3 => f.keep b u (s.fr.keep b u h1 h2 h3) (fun w => h2 (by rw [hex, w])) h3, fun b h => s.fr.th b (f.th b h), f.tab⟩
/-- an own slot's thing is written by a call -/
theorem Sim.writeCall {i : Nat} {a : Addr} {d d' : PyData} (s : Sim K T ex B P e σ H) (hi : e[i]? = some (.ow d)) (hσ : σ[i]? = some (some (.ref a))) (f : Fr T (some a) H H') (ho : OwnAt K H' a d') :
    Sim K T ex B P (e.set i (.ow d')) σ H' := by
  obtain ⟨a', e1, e2, hB⟩ := s.ow i d hi
  rw [hσ] at e1; cases e1
  have kp : ∀ {b : Addr} {d1 : PyData}, OwnAt K H b d1 → b ≠ a → OwnAt K H' b d1 := fun {b d1} q z => by
    obtain ⟨u, q1, r⟩ := q.ours
    refine q.ext f.ext fun u' hu => f.keep b u' hu (fun w => z (Option.some.inj w).symm) fun ps w => ?_
    rw [q1] at hu; cases hu
    rcases r with ⟨_, r⟩ | ⟨_, r⟩ <;> (rw [r] at w; cases w)
  refine ⟨by simp [s.len], fun j d1 h => ?_, fun j d1 h => ?_, fun j d1 h => ?_, fun p hp => ?_, fun j k b d1 d2 h1 h2 h3 h4 => ?_, fun j b d1 p h1 h2 hp => ?_, s.d3, fun j k d1 d2 h1 h2 => ?_, ?_⟩
  · rcases set_at h with ⟨_, q, _⟩ | ⟨z, q⟩
    · cases q
    · obtain ⟨v, f1, f2⟩ := s.fz j d1 q
      exact ⟨v, f1, Fz.ext f.ext _ _ f2⟩
  · rcases set_at h with ⟨z, q, _⟩ | ⟨z, q⟩
    · subst z; cases q
      exact ⟨a, hσ, ho, hB⟩
    · obtain ⟨b, f1, f2, f3⟩ := s.ow j d1 q
      exact ⟨b, f1, kp f2 fun w => z (s.d1 i j a d d1 hi q hσ (by rw [f1, w])), f3⟩
  · rcases set_at h with ⟨_, q, _⟩ | ⟨z, q⟩
    · cases q
    · obtain ⟨b, f1, f2, f3, f4⟩ := s.io j d1 q
      exact ⟨b, f1, kp f2 fun w => by rw [w] at f4; exact f4 hB, f3, f4⟩
  · obtain ⟨f1, f2⟩ := s.pd p hp
    exact ⟨kp f1 (s.d2 i a d p hi hσ hp), f2⟩
  · have old : ∀ {j : Nat} {d1 : PyData}, (e.set i (.ow d'))[j]? = some (.ow d1) → ∃ d2, e[j]? = some (.ow d2) := fun {j d1} h => by
      rcases set_at h with ⟨z, _, _⟩ | ⟨_, q⟩
      · subst z; exact ⟨d, hi⟩
      · exact ⟨_, q⟩
    obtain ⟨_, q1⟩ := old h1
    obtain ⟨_, q2⟩ := old h2
    exact s.d1 j k b _ _ q1 q2 h3 h4
  · rcases set_at h1 with ⟨z, _, _⟩ | ⟨_, q⟩
    · subst z
      exact s.d2 i b d p hi h2 hp
    · exact s.d2 j b d1 p q h2 hp
  · rcases set_at h1 with ⟨_, q1, _⟩ | ⟨z1, q1⟩
    · cases q1
    · rcases set_at h2 with ⟨_, q2, _⟩ | ⟨z2, q2⟩
      · cases q2
      · exact s.d4 j k d1 d2 q1 q2
  · refine ⟨s.fr.ext.trans f.ext, fun b u h1 h2 h3 => f.keep b u (s.fr.keep b u h1 h2 h3) (fun w => ?_) h3, fun b h => s.fr.th b (f.th b h), f.tab⟩
    cases w
    obtain ⟨ps, z⟩ := hB u h1
    exact h3 ps z
/-- a new own thing, held by no slot yet -/
theorem Sim.push {a : Addr} {d : PyData} (s : Sim K T ex B P e σ H) (hv : VRep K B P e σ H (.ref a) (.ow d)) : Sim K T ex B ((a, d) :: P) e σ H := by
  obtain ⟨a', q, ho, hB, n1, n2⟩ := hv
  cases q
  refine ⟨s.len, s.fz, s.ow, s.io, fun p hp => ?_, s.d1, fun i b d1 p h1 h2 hp => ?_, ?_, s.d4, s.fr⟩
  · rcases List.mem_cons.mp hp with rfl | hp
    · exact ⟨ho, hB⟩
    · exact s.pd p hp
  · rcases List.mem_cons.mp hp with rfl | hp
    · exact fun z => n1 i d1 h1 (by rw [h2, show b = a from z.symm])
    · exact s.d2 i b d1 p h1 h2 hp
  · rw [List.map_cons, List.nodup_cons]
    refine ⟨fun z => ?_, s.d3⟩
    obtain ⟨p, hp, e1⟩ := List.mem_map.mp z
    exact n2 p hp e1
theorem Sim.pop {a : Addr} {d : PyData} (s : Sim K T ex B ((a, d) :: P) e σ H) : Sim K T ex B P e σ H ∧ VRep K B P e σ H (.ref a) (.ow d) := by
  have n := s.d3
  rw [List.map_cons, List.nodup_cons] at n
  refine ⟨⟨s.len, s.fz, s.ow, s.io, fun p hp => s.pd p (List.mem_cons_of_mem _ hp), s.d1, fun i b d1 p h1 h2 hp => s.d2 i b d1 p h1 h2 (List.mem_cons_of_mem _ hp), n.2, s.d4, s.fr⟩,
    a, rfl, (s.pd _ List.mem_cons_self).1, (s.pd _ List.mem_cons_self).2, fun i d' h z => s.d2 i a d' (a, d) h z List.mem_cons_self rfl, fun p hp z => ?_⟩
  exact n.1 (List.mem_map.mpr ⟨p, hp, z⟩)
/-- the thing held by no slot is written -/
theorem Sim.writeP {a : Addr} {d d' : PyData} {o : HO} (s : Sim K T ex B ((a, d) :: P) e σ H) (c : Chg H H' a o) (ho : OwnAt K H' a d') : Sim K T ex B ((a, d') :: P) e σ H' := by
  obtain ⟨s0, a', q, h1, h2, n1, n2⟩ := s.pop
  cases q
  have n3 : ∀ (j : Nat) (d' : PyData), e[j]? = some (.io d') → σ[j]? ≠ some (some (.ref a)) := fun j d' q w => by
    obtain ⟨b, f1, _, _, f2⟩ := s.io j d' q
    rw [w] at f1; cases f1
    exact f2 h2
  exact (s0.chg c n1 n2 n3 (.inl h2)).push ⟨a, rfl, ho, h2, n1, n2⟩
/-- a value is kept when the heap is written elsewhere -/
theorem VRep.fz_ext {y : V} {d : PyData} (x : Ext H H') (h : VRep K B P e σ H y (.fz d)) : VRep K B P e σ H' y (.fz d) := Fz.ext x _ _ h
end
end L3
set_option Elab.async false
set_option linter.all false
set_option maxRecDepth 100000
/-! L3Expr: expressions as functions of a def's pure state, and that the machine does the same. -/
namespace L3
open PySem PySem.Spec PyProof.Rows L2 LamX

/-- what an expression does: a value and the state behind it (own things may have been locked), an own exception, or nothing that is told -/
inductive R where
  | ok (v : Vl) (e : En)
  | exn (c : Str) (e : En)
  | bad
/-- its value as data -/
def R.bnd (r : R) (k : PyData → En → R) : R := match r with
  | .ok (.fz d) e => k d e
  | .ok (.ow d) e => k d e
  | .exn c e => .exn c e
  | .bad => .bad
def R.lift (o : Option PyData) (e : En) : R := match o with
  | some d => .ok (.fz d) e
  | none => .bad

section
variable (K : PySem.W.Frag) (mg : Str → Option Value) (W : WX) (T : List (Addr × Str)) (ex : Option Addr) (B : Hp) (P : List (Addr × PyData)) (σ : L2.St)
def PostE (H0 : Hp) (Q : VK) : R → Prop
  | .ok v e => ∀ y H', Ext H0 H' → Sim K T ex B P e σ H' → VRep K B P e σ H' y v → Q y H'
  | .exn c e => ∀ cls H', mg c = some cls → Ext H0 H' → Sim K T ex B P e σ H' → W cls none σ H'
  | .bad => False
def PostD (H0 : Hp) (Q : VK) : R → Prop
  | .ok (.fz d) e => ∀ y H', Ext H0 H' → Sim K T ex B P e σ H' → Fz K H' d y → Q y H'
  | .ok (.ow d) e => ∀ y H', Ext H0 H' → Sim K T ex B P e σ H' → Fz K H' d y → Q y H'
  | .exn c e => ∀ cls H', mg c = some cls → Ext H0 H' → Sim K T ex B P e σ H' → W cls none σ H'
  | .bad => False
end
/-- a reading does what f says -/
def RdE (K : PySem.W.Frag) (mg : Str → Option Value) (W : WX) (T : List (Addr × Str)) (t : TE) (f : En → R) : Prop := ∀ ex B P e σ H Q, Sim K T ex B P e σ H → PostE K mg W T ex B P σ H Q (f e) → t σ H Q
def RdD (K : PySem.W.Frag) (mg : Str → Option Value) (W : WX) (T : List (Addr × Str)) (t : TE) (f : En → R) : Prop := ∀ ex B P e σ H Q, Sim K T ex B P e σ H → PostD K mg W T ex B P σ H Q (f e) → t σ H Q
/-- the machine does at x what f says -/
def SndE {ι : Type} (X : ι → Cx) (K : PySem.W.Frag) (mg : Str → Option Value) (W : WX) (T : List (Addr × Str)) (x : Expr) (f : En → R) : Prop := ∃ t, (∀ i, PE (X i) x t) ∧ RdE K mg W T t f
/-- .. its value being locked -/
def SndD {ι : Type} (X : ι → Cx) (K : PySem.W.Frag) (mg : Str → Option Value) (W : WX) (T : List (Addr × Str)) (x : Expr) (f : En → R) : Prop := ∃ t, (∀ i, PE (X i) x t) ∧ RdD K mg W T t f

/-! ### a thing is locked -/
def tFrz (t : TE) : TE := fun σ H Q => t σ H fun v H1 => Q v H1 ∨ ∃ a u, v = .ref a ∧ H1 a = some u ∧ Ours u ∧ ∀ o, Q v (upd H1 a (.frz o u))
theorem Ours.mut {u : HO} (h : Ours u) : Mut (some u) := by
  rcases h with ⟨_, rfl⟩ | ⟨_, rfl⟩ <;> trivial
theorem pe_frz {X : Cx} {x : Expr} {t : TE} (h : PE X x t) : PE X x (tFrz t) := by
  refine ⟨fun pins s σ H Q I hw => ?_⟩
  refine thn (h.run pins s σ H _ I hw) fun v s1 ⟨y, H1, I1, r, q⟩ => ?_
  rcases q with q | ⟨a, u, e, hu, ou, q⟩
  · exact ⟨y, H1, I1, r, q⟩
  · obtain ⟨od, I2⟩ := I1.lock hu ou.mut
    exact ⟨y, _, I2, r, q od⟩
theorem OwnAt.lock {K : PySem.W.Frag} {H : Hp} {a : Addr} {d : PyData} {u : HO} (h : OwnAt K H a d) (hu : H a = some u) (o : Obj) : Fz K (upd H a (.frz o u)) d (.ref a) := by
  have ou : Ours u := by
    obtain ⟨u', e, r⟩ := h.ours
    rw [hu] at e; cases e; exact r
  have ce := (Chg.own (.frz o u) hu ou).ext
  cases d with
  | list ds =>
    obtain ⟨xs, e1, e2⟩ := h
    rw [hu] at e1; cases e1
    simp only [Fz]
    exact ⟨a, xs, rfl, .inl ⟨o, upd_same⟩, FzAll.ext ce _ _ e2⟩
  | dict kvs =>
    obtain ⟨ks, e1, e2⟩ := h
    rw [hu] at e1; cases e1
    simp only [Fz]
    exact ⟨a, o, ks, rfl, upd_same, FzKV.ext ce _ _ e2⟩
  | _ => exact False.elim h
section
variable {ι : Type} {X : ι → Cx} {K : PySem.W.Frag} {mg : Str → Option Value} {W : WX} {T : List (Addr × Str)} {x : Expr} {f : En → R}
theorem Sim.temp {K : PySem.W.Frag} {ex : Option Addr} {B : Hp} {P : List (Addr × PyData)} {e : En} {σ : L2.St} {H : Hp} {d : PyData} {a : Addr} {u o : HO} (s : Sim K T ex B P e σ H) (hv : VRep K B P e σ H (.ref a) (.ow d)) (hu : H a = some u) (ou : Ours u) (n : ∀ ps, o ≠ .tbl ps := by intro _ z; cases z) :
    Sim K T ex B P e σ (upd H a o) := by
  obtain ⟨a', q, ho, hB, n1, n2⟩ := hv
  cases q
  refine s.chg (Chg.own o hu ou n) n1 n2 (fun i d' h z => ?_) (.inl hB)
  obtain ⟨b, f1, _, _, f2⟩ := s.io i d' h
  rw [z] at f1; cases f1
  exact f2 hB
theorem SndE.d (h : SndE X K mg W T x f) : SndD X K mg W T x f := by
  obtain ⟨t, hp, hr⟩ := h
  refine ⟨_, fun j => pe_frz (hp j), fun ex B P e σ H Q s q => hr ex B P e σ H _ s ?_⟩
  cases hf : f e with
  | ok v e' =>
    rw [hf] at q
    cases v with
    | fz d => exact fun y H' x' s' r => .inl (q y H' x' s' r)
    | ow d =>
      intro y H' x' s' r
      obtain ⟨a, rfl, ho, hB, n1, n2⟩ := id r
      obtain ⟨u, hu, ou⟩ := ho.ours
      exact .inr ⟨a, u, rfl, hu, ou, fun o => q _ _ (x'.trans (Chg.own _ hu ou).ext) (s'.temp r hu ou) (ho.lock hu o)⟩
  | exn c e' =>
    rw [hf] at q
    exact q
  | bad =>
    rw [hf] at q
    exact q
end

/-! ### what a value is at a moment: data, or an own thing -/
def RepB (K : PySem.W.Frag) (H : Hp) (v : V) (d : PyData) : Prop := Fz K H d v ∨ ∃ a, v = .ref a ∧ OwnAt K H a d
def slD : Option Sl → Option PyData
  | some (.fz d) => some d
  | some (.ow d) => some d
  | some (.io d) => some d
  | _ => none
theorem Sim.slot {K : PySem.W.Frag} {T : List (Addr × Str)} {ex : Option Addr} {B : Hp} {P : List (Addr × PyData)} {e : En} {σ : L2.St} {H : Hp} (s : Sim K T ex B P e σ H) {i : Nat} {d : PyData} (h : slD e[i]? = some d) : ∃ v, σ[i]? = some (some v) ∧ RepB K H v d := by
  cases q : e[i]? with
  | none => rw [q] at h; cases h
  | some y =>
    rw [q] at h
    cases y with
    | emp => cases h
    | fz d' =>
      cases h
      obtain ⟨v, e1, e2⟩ := s.fz i d q
      exact ⟨v, e1, .inl e2⟩
    | ow d' =>
      cases h
      obtain ⟨a, e1, e2, _⟩ := s.ow i d q
      exact ⟨_, e1, .inr ⟨a, rfl, e2⟩⟩
    | io d' =>
      cases h
      obtain ⟨a, e1, e2, _⟩ := s.io i d q
      exact ⟨_, e1, .inr ⟨a, rfl, e2⟩⟩
theorem RepB.list {K : PySem.W.Frag} {H : Hp} {v : V} {ds : List PyData} (h : RepB K H v (.list ds)) : ∃ a xs, v = .ref a ∧ SqL K H a xs ∧ FzAll K H ds xs := by
  rcases h with h | ⟨a, rfl, xs, e1, e2⟩
  · simp only [Fz] at h
    obtain ⟨a, xs, e1, e2, e3⟩ := h
    exact ⟨a, xs, e1, e2.seq, e3⟩
  · exact ⟨a, xs, rfl, .of e1, e2⟩
theorem RepB.tuple {K : PySem.W.Frag} {H : Hp} {v : V} {ds : List PyData} (h : RepB K H v (.tuple ds)) : ∃ a xs, v = .ref a ∧ TupAt H (tts ds) a xs ∧ FzAll K H ds xs := by
  rcases h with h | ⟨a, rfl, h⟩
  · simpa only [Fz] using h
  · exact False.elim h
theorem RepB.dict {K : PySem.W.Frag} {H : Hp} {v : V} {kvs : List (PyData × PyData)} (h : RepB K H v (.dict kvs)) : ∃ a ks, v = .ref a ∧ Rd H a (.dT ks) ∧ FzKV K H kvs ks := by
  rcases h with h | ⟨a, rfl, ks, e1, e2⟩
  · simp only [Fz] at h
    obtain ⟨a, o, ks, e1, e2, e3⟩ := h
    exact ⟨a, ks, e1, .inr ⟨o, e2⟩, e3⟩
  · exact ⟨a, ks, rfl, .inl e1, e2⟩
theorem RepB.int {K : PySem.W.Frag} {H : Hp} {v : V} {i : Int} (h : RepB K H v (.int i)) : v = .int i := by
  rcases h with h | ⟨a, rfl, h⟩
  · simpa only [Fz] using h
  · exact False.elim h
theorem RepB.bool {K : PySem.W.Frag} {H : Hp} {v : V} {b : Bool} (h : RepB K H v (.bool b)) : v = .bl b := by
  rcases h with h | ⟨a, rfl, h⟩
  · simpa only [Fz] using h
  · exact False.elim h
theorem RepB.str {K : PySem.W.Frag} {H : Hp} {v : V} {b : Str} (h : RepB K H v (.str b)) : v = .str b := by
  rcases h with h | ⟨a, rfl, h⟩
  · simpa only [Fz] using h
  · exact False.elim h
theorem RepB.none {K : PySem.W.Frag} {H : Hp} {v : V} (h : RepB K H v .none) : v = .non := by
  rcases h with h | ⟨a, rfl, h⟩
  · simpa only [Fz] using h
  · exact False.elim h

/-- the value d comes, the heap being as it was or with one new thing -/
def NewV (K : PySem.W.Frag) (H : Hp) (d : PyData) (Q : VK) : Prop := ∀ z H', (H' = H ∨ ∃ p o, H p = none ∧ H' = upd H p o) → Fz K H' d z → Q z H'
theorem NewV.here {K : PySem.W.Frag} {H : Hp} {d : PyData} {Q : VK} (h : NewV K H d Q) {z : V} (r : Fz K H d z) : Q z H := h z H (.inl rfl) r
theorem NewV.int {K : PySem.W.Frag} {H : Hp} {i : Int} {Q : VK} (h : NewV K H (.int i) Q) : Q (.int i) H := h.here (by simp only [Fz])
theorem NewV.bool {K : PySem.W.Frag} {H : Hp} {i : Bool} {Q : VK} (h : NewV K H (.bool i) Q) : Q (.bl i) H := h.here (by simp only [Fz])
theorem Sim.newV {K : PySem.W.Frag} {T : List (Addr × Str)} {ex : Option Addr} {B : Hp} {P : List (Addr × PyData)} {e : En} {σ : L2.St} {H : Hp} (s : Sim K T ex B P e σ H) {d : PyData} {Q : VK}
    (q : ∀ y H', Ext H H' → Sim K T ex B P e σ H' → Fz K H' d y → Q y H') : NewV K H d Q := by
  intro z H' hh r
  rcases hh with rfl | ⟨p, o, hp, rfl⟩
  · exact q z _ (Ext.refl _) s r
  · exact q z _ (Chg.fresh o hp).ext (s.new hp o) r

/-! ### names, constants -/
def evName (i : Nat) : En → R := fun e => match e[i]? with
  | some (.fz d) => .ok (.fz d) e
  | some (.ow d) => .ok (.fz d) (e.set i (.fz d))
  | _ => .bad
def evC (d : PyData) : En → R := fun e => .ok (.fz d) e
section
variable {ι : Type} {X : ι → Cx} {K : PySem.W.Frag} {mg : Str → Option Value} {W : WX} {T : List (Addr × Str)}
theorem snd_name {i : Nat} {x : Str} {pos : Pos} (h : ∀ j, PE (X j) (.Name x pos) (tVar i)) : SndE X K mg W T (.Name x pos) (evName i) := by
  refine ⟨_, fun j => pe_frz (h j), fun ex B P e σ H Q s q => ?_⟩
  unfold evName at q
  cases hi : e[i]? with
  | none => rw [hi] at q; exact False.elim q
  | some y =>
    rw [hi] at q
    cases y with
    | emp => exact False.elim q
    | io d => exact False.elim q
    | fz d =>
      obtain ⟨v, e1, e2⟩ := s.fz i d hi
      exact ⟨v, e1, .inl (q v H (Ext.refl _) s e2)⟩
    | ow d =>
      obtain ⟨a, e1, e2, e3⟩ := s.ow i d hi
      obtain ⟨u, hu, ou⟩ := e2.ours
      refine ⟨_, e1, .inr ⟨a, u, rfl, hu, ou, fun o => ?_⟩⟩
      have c := Chg.own (.frz o u) hu ou
      exact q _ _ c.ext (s.write hi e1 c (.inl ⟨d, rfl, e2.lock hu o⟩)) (e2.lock hu o)
theorem snd_c {x : Expr} {v : V} {d : PyData} (h : ∀ j, PE (X j) x (tC v)) (hv : ∀ K H, Fz K H d v) : SndE X K mg W T x (evC d) :=
  ⟨_, h, fun ex B P e σ H Q s q => q v H (Ext.refl _) s (hv _ _)⟩
theorem snd_int {i j pos} : SndE X K mg W T (.Constant (.int i) j pos) (evC (.int i)) := snd_c (fun _ => pe_int) fun _ _ => by simp only [Fz]
theorem snd_bool {i j pos} : SndE X K mg W T (.Constant (.bool i) j pos) (evC (.bool i)) := snd_c (fun _ => pe_bl) fun _ _ => by simp only [Fz]
theorem snd_none {j pos} : SndE X K mg W T (.Constant .none j pos) (evC .none) := snd_c (fun _ => pe_non) fun _ _ => by simp only [Fz]
theorem snd_str {i j pos} : SndE X K mg W T (.Constant (.str i) j pos) (evC (.str i)) := snd_c (fun _ => pe_str) fun _ _ => by simp only [Fz]
theorem snd_gint {x : Str} {pos : Pos} {i : Int} {t : Tok} (hg : ∀ j, Gl (X j) x) (hm : ∀ j, (X j).mg x = some (.int i t)) (hd : (x == ("__debug__" : Str)) = false := by decide) : SndE X K mg W T (.Name x pos) (evC (.int i)) :=
  snd_c (fun j => pe_glob (v := .int i) (hg j) (hm j) ⟨t, rfl⟩ hd) fun _ _ => by simp only [Fz]

/-! ### operators -/
/-- r, by data: g -/
def OpF (K : PySem.W.Frag) (r : R2) (g : PyData → PyData → Option PyData) : Prop :=
  ∀ (x y : V) (dx dy d : PyData) (H : Hp) (Q : VK), RepB K H x dx → RepB K H y dy → g dx dy = some d → NewV K H d Q → r x y H Q
def ev2 (g : PyData → PyData → Option PyData) (fa fb : En → R) : En → R := fun e => (fa e).bnd fun d1 e1 => (fb e1).bnd fun d2 e2 => R.lift (g d1 d2) e2
def ev1 (g : PyData → Option PyData) (fa : En → R) : En → R := fun e => (fa e).bnd fun d1 e1 => R.lift (g d1) e1
/-- the left one a name that is not locked -/
def ev2L (g : PyData → PyData → Option PyData) (i : Nat) (fb : En → R) : En → R := fun e => match slD e[i]? with
  | none => .bad
  | some _ => (fb e).bnd fun d2 e2 => match slD e2[i]? with
    | some d1 => R.lift (g d1 d2) e2
    | none => .bad
def ev2R (g : PyData → PyData → Option PyData) (fa : En → R) (i : Nat) : En → R := fun e => (fa e).bnd fun d1 e1 => match slD e1[i]? with
    | some d2 => R.lift (g d1 d2) e1
    | none => .bad
theorem PostD.of_bnd {ex : Option Addr} {B : Hp} {P : List (Addr × PyData)} {σ : L2.St} {H0 H1 : Hp} {Q Q' : VK} {r : R} {k : PyData → En → R} (x : Ext H0 H1) (h : PostE K mg W T ex B P σ H0 Q (r.bnd k))
    (hk : ∀ d e, r = .ok (.fz d) e ∨ r = .ok (.ow d) e → PostE K mg W T ex B P σ H0 Q (k d e) → ∀ y H', Ext H1 H' → Sim K T ex B P e σ H' → Fz K H' d y → Q' y H') : PostD K mg W T ex B P σ H1 Q' r := by
  cases r with
  | ok v e =>
    cases v with
    | fz d => exact hk d e (.inl rfl) h
    | ow d => exact hk d e (.inr rfl) h
  | exn c e => exact fun cls H' hc x' s' => h cls H' hc (x.trans x') s'
  | bad => exact h
theorem PostE.lift {ex : Option Addr} {B : Hp} {P : List (Addr × PyData)} {σ : L2.St} {H0 H1 : Hp} {Q : VK} {o : Option PyData} {e : En} (h : PostE K mg W T ex B P σ H0 Q (R.lift o e)) (x : Ext H0 H1) (s : Sim K T ex B P e σ H1) : ∃ d, o = some d ∧ NewV K H1 d Q := by
  cases o with
  | none => exact False.elim h
  | some d => exact ⟨d, rfl, s.newV fun y H' x' s' r => h y H' (x.trans x') s' r⟩
theorem rd2 {ta tb : TE} {r : R2} {g : PyData → PyData → Option PyData} {fa fb : En → R} (hf : OpF K r g) (ra : RdD K mg W T ta fa) (rb : RdD K mg W T tb fb) : RdE K mg W T (tOp r ta tb) (ev2 g fa fb) := by
  refine fun ex B P e σ H Q s q => ra ex B P e σ H _ s (PostD.of_bnd (Ext.refl _) q fun d1 e1 _ q1 y1 H1 x1 s1 r1 => ?_)
  refine rb ex B P e1 σ H1 _ s1 (PostD.of_bnd x1 q1 fun d2 e2 _ q2 y2 H2 x2 s2 r2 => ?_)
  obtain ⟨d, hg, hn⟩ := q2.lift (x1.trans x2) s2
  exact hf y1 y2 d1 d2 d H2 Q (.inl (Fz.ext x2 _ _ r1)) (.inl r2) hg hn
theorem rd2L {tb : TE} {r : R2} {g : PyData → PyData → Option PyData} {i : Nat} {fb : En → R} (hf : OpF K r g) (rb : RdD K mg W T tb fb) : RdE K mg W T (tOp r (tVar i) tb) (ev2L g i fb) := by
  refine fun ex B P e σ H Q s q => ?_
  unfold ev2L at q
  cases h0 : slD e[i]? with
  | none => rw [h0] at q; exact False.elim q
  | some d0 =>
    rw [h0] at q
    obtain ⟨v, hv, _⟩ := s.slot h0
    refine ⟨v, hv, rb ex B P e σ H _ s (PostD.of_bnd (Ext.refl _) q fun d2 e2 _ q2 y2 H2 x2 s2 r2 => ?_)⟩
    cases h1 : slD e2[i]? with
    | none => rw [h1] at q2; exact False.elim q2
    | some d1 =>
      rw [h1] at q2
      obtain ⟨v', hv', rv⟩ := s2.slot h1
      rw [hv] at hv'; cases hv'
      obtain ⟨d, hg, hn⟩ := q2.lift x2 s2
      exact hf v y2 d1 d2 d H2 Q rv (.inl r2) hg hn
theorem rd2R {ta : TE} {r : R2} {g : PyData → PyData → Option PyData} {i : Nat} {fa : En → R} (hf : OpF K r g) (ra : RdD K mg W T ta fa) : RdE K mg W T (tOp r ta (tVar i)) (ev2R g fa i) := by
  refine fun ex B P e σ H Q s q => ra ex B P e σ H _ s (PostD.of_bnd (Ext.refl _) q fun d1 e1 _ q1 y1 H1 x1 s1 r1 => ?_)
  cases h1 : slD e1[i]? with
  | none => rw [h1] at q1; exact False.elim q1
  | some d2 =>
    rw [h1] at q1
    obtain ⟨v', hv', rv⟩ := s1.slot h1
    obtain ⟨d, hg, hn⟩ := q1.lift x1 s1
    exact ⟨v', hv', hf y1 v' d1 d2 d H1 Q (.inl r1) rv hg hn⟩
def UnF (K : PySem.W.Frag) (r : V → Hp → VK → Prop) (g : PyData → Option PyData) : Prop :=
  ∀ (x : V) (dx d : PyData) (H : Hp) (Q : VK), RepB K H x dx → g dx = some d → NewV K H d Q → r x H Q
theorem rd1 {ta : TE} {r : V → Hp → VK → Prop} {g : PyData → Option PyData} {fa : En → R} (hf : UnF K r g) (ra : RdD K mg W T ta fa) : RdE K mg W T (tUn r ta) (ev1 g fa) := by
  refine fun ex B P e σ H Q s q => ra ex B P e σ H _ s (PostD.of_bnd (Ext.refl _) q fun d1 e1 _ q1 y1 H1 x1 s1 r1 => ?_)
  obtain ⟨d, hg, hn⟩ := q1.lift x1 s1
  exact hf y1 d1 d H1 Q (.inl r1) hg hn
theorem snd2 {a b c : Expr} {r : R2} {g : PyData → PyData → Option PyData} {fa fb : En → R} (hf : OpF K r g) (ha : SndD X K mg W T a fa) (hb : SndD X K mg W T b fb) (mk : ∀ j ta tb, PE (X j) a ta → PE (X j) b tb → PE (X j) c (tOp r ta tb)) : SndE X K mg W T c (ev2 g fa fb) :=
  let ⟨_, pa, ra⟩ := ha
  let ⟨_, pb, rb⟩ := hb
  ⟨_, fun j => mk j _ _ (pa j) (pb j), rd2 hf ra rb⟩
theorem snd2L {x b c : Expr} {r : R2} {g : PyData → PyData → Option PyData} {i : Nat} {fb : En → R} (hf : OpF K r g) (hx : ∀ j, PE (X j) x (tVar i)) (hb : SndD X K mg W T b fb) (mk : ∀ j ta tb, PE (X j) x ta → PE (X j) b tb → PE (X j) c (tOp r ta tb)) : SndE X K mg W T c (ev2L g i fb) :=
  let ⟨_, pb, rb⟩ := hb
  ⟨_, fun j => mk j _ _ (hx j) (pb j), rd2L hf rb⟩
theorem snd2R {x a c : Expr} {r : R2} {g : PyData → PyData → Option PyData} {i : Nat} {fa : En → R} (hf : OpF K r g) (ha : SndD X K mg W T a fa) (hx : ∀ j, PE (X j) x (tVar i)) (mk : ∀ j ta tb, PE (X j) a ta → PE (X j) x tb → PE (X j) c (tOp r ta tb)) : SndE X K mg W T c (ev2R g fa i) :=
  let ⟨_, pa, ra⟩ := ha
  ⟨_, fun j => mk j _ _ (pa j) (hx j), rd2R hf ra⟩
theorem snd1 {a c : Expr} {r : V → Hp → VK → Prop} {g : PyData → Option PyData} {fa : En → R} (hf : UnF K r g) (ha : SndD X K mg W T a fa) (mk : ∀ j ta, PE (X j) a ta → PE (X j) c (tUn r ta)) : SndE X K mg W T c (ev1 g fa) :=
  let ⟨_, pa, ra⟩ := ha
  ⟨_, fun j => mk j _ (pa j), rd1 hf ra⟩

/-! ### tests -/
section
variable (K : PySem.W.Frag) (mg : Str → Option Value) (W : WX) (T : List (Addr × Str)) (ex : Option Addr) (B : Hp) (P : List (Addr × PyData)) (σ : L2.St)
def PostT (H0 : Hp) (Q : Bool → Hp → Prop) : R → Prop
  | .ok (.fz (.bool b)) e => ∀ H', Ext H0 H' → Sim K T ex B P e σ H' → Q b H'
  | .exn c e => ∀ cls H', mg c = some cls → Ext H0 H' → Sim K T ex B P e σ H' → W cls none σ H'
  | _ => False
end
def RdT (K : PySem.W.Frag) (mg : Str → Option Value) (W : WX) (T : List (Addr × Str)) (t : TT) (f : En → R) : Prop := ∀ ex B P e σ H Q, Sim K T ex B P e σ H → PostT K mg W T ex B P σ H Q (f e) → t σ H Q
def SndT {ι : Type} (X : ι → Cx) (K : PySem.W.Frag) (mg : Str → Option Value) (W : WX) (T : List (Addr × Str)) (x : Expr) (f : En → R) : Prop := ∃ t, (∀ i, PT (X i) x t) ∧ RdT K mg W T t f
def SndW {ι : Type} (X : ι → Cx) (K : PySem.W.Frag) (mg : Str → Option Value) (W : WX) (T : List (Addr × Str)) (x : Expr) (f : En → R) : Prop := ∃ t, (∀ i, PW (X i) x t) ∧ RdT K mg W T t f
theorem SndW.t {x : Expr} {f : En → R} (h : SndW X K mg W T x f) : SndT X K mg W T x f := let ⟨t, a, b⟩ := h; ⟨t, fun j => (a j).pt, b⟩
theorem rd_test {t : TE} {f : En → R} (h : RdE K mg W T t f) : RdT K mg W T (tTest t) f := by
  refine fun ex B P e σ H Q s q => h ex B P e σ H _ s ?_
  cases hf : f e with
  | bad => rw [hf] at q; exact q
  | exn c e' => rw [hf] at q; exact q
  | ok v e' =>
    rw [hf] at q
    cases v with
    | ow d => exact False.elim q
    | fz d =>
      cases d with
      | bool b =>
        intro y H' x' s' r
        have r : Fz K H' (.bool b) y := r
        simp only [Fz] at r
        exact ⟨b, r, q H' x' s'⟩
      | _ => exact False.elim q
theorem sndT_val {x : Expr} {f : En → R} (h : SndE X K mg W T x f) (he : ∀ j whole, isTrue x (X j).env whole = (do let v ← whole; standAt x.pos; holding [v] (truthy v)) := by intro _ _; rfl) : SndT X K mg W T x f := by
  obtain ⟨t, p, r⟩ := h
  exact ⟨_, fun j => pt_val (p j) (he j), rd_test r⟩
theorem sndT_cmp {a b : Expr} {op : CmpOp} {pos : Pos} {r : R2} {g : PyData → PyData → Option PyData} {fa fb : En → R} (hf : OpF K r g) (ho : ∀ j, OpR (X j) (compareOp op) r) (ha : SndD X K mg W T a fa) (hb : SndD X K mg W T b fb) (hm : behindInMarks op b = false) :
    SndT X K mg W T (.Compare a [op] [b] pos) (ev2 g fa fb) :=
  let ⟨_, pa, ra⟩ := ha
  let ⟨_, pb, rb⟩ := hb
  ⟨_, fun j => pt_cmpR (ho j) (pa j) (pb j) hm, rd_test (rd2 hf ra rb)⟩
theorem sndT_cmpL {x b : Expr} {op : CmpOp} {pos : Pos} {r : R2} {g : PyData → PyData → Option PyData} {i : Nat} {fb : En → R} (hf : OpF K r g) (ho : ∀ j, OpR (X j) (compareOp op) r) (hx : ∀ j, PE (X j) x (tVar i)) (hb : SndD X K mg W T b fb) (hm : behindInMarks op b = false) :
    SndT X K mg W T (.Compare x [op] [b] pos) (ev2L g i fb) :=
  let ⟨_, pb, rb⟩ := hb
  ⟨_, fun j => pt_cmpR (ho j) (hx j) (pb j) hm, rd_test (rd2L hf rb)⟩
theorem sndT_cmpR {a x : Expr} {op : CmpOp} {pos : Pos} {r : R2} {g : PyData → PyData → Option PyData} {i : Nat} {fa : En → R} (hf : OpF K r g) (ho : ∀ j, OpR (X j) (compareOp op) r) (ha : SndD X K mg W T a fa) (hx : ∀ j, PE (X j) x (tVar i)) (hm : behindInMarks op x = false) :
    SndT X K mg W T (.Compare a [op] [x] pos) (ev2R g fa i) :=
  let ⟨_, pa, ra⟩ := ha
  ⟨_, fun j => pt_cmpR (ho j) (pa j) (hx j) hm, rd_test (rd2R hf ra)⟩
def evNot (f : En → R) : En → R := fun e => (f e).bnd fun d e1 => match d with
  | .bool b => .ok (.fz (.bool (!b))) e1
  | _ => .bad
def evAnd (f g : En → R) : En → R := fun e => (f e).bnd fun d e1 => match d with
  | .bool true => g e1
  | .bool false => .ok (.fz (.bool false)) e1
  | _ => .bad
def evOr (f g : En → R) : En → R := fun e => (f e).bnd fun d e1 => match d with
  | .bool true => .ok (.fz (.bool true)) e1
  | .bool false => g e1
  | _ => .bad
def evIf (c f g : En → R) : En → R := fun e => (c e).bnd fun d e1 => match d with
  | .bool true => f e1
  | .bool false => g e1
  | _ => .bad
/-- what is wanted of a bool's two ways -/
theorem PostT.of_bnd {ex : Option Addr} {B : Hp} {P : List (Addr × PyData)} {σ : L2.St} {H0 H1 : Hp} {Q Q' : Bool → Hp → Prop} {r : R} {k : PyData → En → R} (x : Ext H0 H1) (h : PostT K mg W T ex B P σ H0 Q (r.bnd k))
    (hk0 : ∀ d e, (∀ b, d ≠ .bool b) → PostT K mg W T ex B P σ H0 Q (k d e) → False) (hb : ∀ d e, r ≠ .ok (.ow d) e)
    (hk : ∀ b e, PostT K mg W T ex B P σ H0 Q (k (.bool b) e) → ∀ H', Ext H1 H' → Sim K T ex B P e σ H' → Q' b H') : PostT K mg W T ex B P σ H1 Q' r := by
  cases r with
  | ok v e =>
    cases v with
    | fz d =>
      cases d with
      | bool b => exact hk b e h
      | _ => exact hk0 _ e (fun b z => by cases z) h
    | ow d => exact absurd rfl (hb d e)
  | exn c e => exact fun cls H' hc x' s' => h cls H' hc (x.trans x') s'
  | bad => exact h
theorem PostT.shift {ex : Option Addr} {B : Hp} {P : List (Addr × PyData)} {σ : L2.St} {H0 H1 : Hp} {Q : Bool → Hp → Prop} {r : R} (x : Ext H0 H1) (h : PostT K mg W T ex B P σ H0 Q r) : PostT K mg W T ex B P σ H1 Q r := by
  cases r with
  | bad => exact h
  | exn c e => exact fun cls H' hc x' s' => h cls H' hc (x.trans x') s'
  | ok v e =>
    cases v with
    | ow d => exact h
    | fz d =>
      cases d with
      | bool b => exact fun H' x' s' => h H' (x.trans x') s'
      | _ => exact h
theorem PostE.shift {ex : Option Addr} {B : Hp} {P : List (Addr × PyData)} {σ : L2.St} {H0 H1 : Hp} {Q : VK} {r : R} (x : Ext H0 H1) (h : PostE K mg W T ex B P σ H0 Q r) : PostE K mg W T ex B P σ H1 Q r := by
  cases r with
  | bad => exact h
  | exn c e => exact fun cls H' hc x' s' => h cls H' hc (x.trans x') s'
  | ok v e => exact fun y H' x' s' => h y H' (x.trans x') s'
/-- the test's answers are data -/
def TestF (f : En → R) : Prop := ∀ e d e', f e ≠ .ok (.ow d) e'
theorem rdT_and {t u : TT} {f g : En → R} (h : RdT K mg W T t f) (h' : RdT K mg W T u g) (n : TestF f) : RdT K mg W T (tAnd t u) (evAnd f g) := by
  refine fun ex B P e σ H Q s q => h ex B P e σ H _ s (PostT.of_bnd (Ext.refl _) q (fun d e1 nb z => ?_) (n e) fun b e1 q1 H1 x1 s1 => ?_)
  · cases d with
    | bool b => exact nb b rfl
    | _ => exact z
  · cases b with
    | true => exact h' ex B P e1 σ H1 Q s1 (q1.shift x1)
    | false => exact q1 H1 x1 s1
theorem rdT_or {t u : TT} {f g : En → R} (h : RdT K mg W T t f) (h' : RdT K mg W T u g) (n : TestF f) : RdT K mg W T (tOr t u) (evOr f g) := by
  refine fun ex B P e σ H Q s q => h ex B P e σ H _ s (PostT.of_bnd (Ext.refl _) q (fun d e1 nb z => ?_) (n e) fun b e1 q1 H1 x1 s1 => ?_)
  · cases d with
    | bool b => exact nb b rfl
    | _ => exact z
  · cases b with
    | false => exact h' ex B P e1 σ H1 Q s1 (q1.shift x1)
    | true => exact q1 H1 x1 s1
theorem rdT_not {t : TT} {f : En → R} (h : RdT K mg W T t f) (n : TestF f) : RdT K mg W T (tNot t) (evNot f) := by
  refine fun ex B P e σ H Q s q => h ex B P e σ H _ s (PostT.of_bnd (Ext.refl _) q (fun d e1 nb z => ?_) (n e) fun b e1 q1 H1 x1 s1 => ?_)
  · cases d with
    | bool b => exact nb b rfl
    | _ => exact z
  · exact q1 H1 x1 s1
def NoOw (r : R) : Prop := ∀ d e, r ≠ .ok (.ow d) e
theorem NoOw.bnd {r : R} {k : PyData → En → R} (h : ∀ d e, NoOw (k d e)) : NoOw (r.bnd k) := by
  cases r with
  | ok v e => cases v <;> exact h _ _
  | exn c e => exact fun _ _ z => by cases z
  | bad => exact fun _ _ z => by cases z
theorem NoOw.lift {o : Option PyData} {e : En} : NoOw (R.lift o e) := by
  cases o <;> exact fun _ _ z => by cases z
theorem NoOw.bad : NoOw .bad := fun _ _ z => by cases z
theorem NoOw.fz {d : PyData} {e : En} : NoOw (.ok (.fz d) e) := fun _ _ z => by cases z
theorem testF_2 {g : PyData → PyData → Option PyData} {fa fb : En → R} : TestF (ev2 g fa fb) := fun e => NoOw.bnd fun _ _ => NoOw.bnd fun _ _ => NoOw.lift
theorem noOw_slot {g : PyData → R} (o : Option PyData) (h : ∀ d, NoOw (g d)) : NoOw (match o with | some d => g d | none => .bad) := by
  cases o with
  | none => exact NoOw.bad
  | some d => exact h d
theorem testF_2L {g : PyData → PyData → Option PyData} {i : Nat} {fb : En → R} : TestF (ev2L g i fb) := fun e => by
  show NoOw (ev2L g i fb e)
  unfold ev2L
  cases slD e[i]? with
  | none => exact NoOw.bad
  | some d => exact NoOw.bnd fun d2 e2 => noOw_slot _ fun _ => NoOw.lift
theorem testF_2R {g : PyData → PyData → Option PyData} {i : Nat} {fa : En → R} : TestF (ev2R g fa i) := fun e => NoOw.bnd fun d2 e2 => noOw_slot _ fun _ => NoOw.lift
theorem testF_name {i : Nat} : TestF (evName i) := fun e d e' z => by
  unfold evName at z
  split at z <;> cases z
theorem noOw_bool {f g : En → R} {k : Bool → R} (d : PyData) (h : ∀ b, NoOw (k b)) : NoOw (match d with | .bool b => k b | _ => .bad) := by
  cases d with
  | bool b => exact h b
  | _ => exact NoOw.bad
theorem testF_not {f : En → R} : TestF (evNot f) := fun e => NoOw.bnd fun d e1 => by
  cases d with
  | bool b => exact NoOw.fz
  | _ => exact NoOw.bad
theorem testF_and {f g : En → R} (n : TestF g) : TestF (evAnd f g) := fun e => NoOw.bnd fun d e1 => by
  cases d with
  | bool b =>
    cases b with
    | true => exact n e1
    | false => exact NoOw.fz
  | _ => exact NoOw.bad
theorem testF_or {f g : En → R} (n : TestF g) : TestF (evOr f g) := fun e => NoOw.bnd fun d e1 => by
  cases d with
  | bool b =>
    cases b with
    | false => exact n e1
    | true => exact NoOw.fz
  | _ => exact NoOw.bad
/-- a test whose value would be an own thing falls -/
def evT (f : En → R) : En → R := fun e => match f e with
  | .ok (.ow _) _ => .bad
  | r => r
theorem testF_t {f : En → R} : TestF (evT f) := fun e d e' z => by
  unfold evT at z
  split at z
  · cases z
  · rename_i h
    exact h _ _ z
theorem RdT.t {t : TT} {f : En → R} (h : RdT K mg W T t f) : RdT K mg W T t (evT f) := by
  refine fun ex B P e σ H Q s q => h ex B P e σ H Q s ?_
  unfold evT at q
  split at q
  · exact False.elim q
  · exact q
theorem sndT_not {a : Expr} {pos : Pos} {f : En → R} (h : SndT X K mg W T a f) (n : TestF f) : SndT X K mg W T (.UnaryOp .Not a pos) (evNot f) := let ⟨_, p, r⟩ := h; ⟨_, fun j => pt_not (p j), rdT_not r n⟩
theorem sndW_and {a b : Expr} {rest : List Expr} {pos : Pos} {f g : En → R} (h : SndT X K mg W T a f) (h' : SndW X K mg W T (.BoolOp .And (b :: rest) pos) g) (n : TestF f) : SndW X K mg W T (.BoolOp .And (a :: b :: rest) pos) (evAnd f g) :=
  let ⟨_, p, r⟩ := h
  let ⟨_, p', r'⟩ := h'
  ⟨_, fun j => pw_and (p j) (p' j), rdT_and r r' n⟩
theorem sndW_or {a b : Expr} {rest : List Expr} {pos : Pos} {f g : En → R} (h : SndT X K mg W T a f) (h' : SndW X K mg W T (.BoolOp .Or (b :: rest) pos) g) (n : TestF f) : SndW X K mg W T (.BoolOp .Or (a :: b :: rest) pos) (evOr f g) :=
  let ⟨_, p, r⟩ := h
  let ⟨_, p', r'⟩ := h'
  ⟨_, fun j => pw_or (p j) (p' j), rdT_or r r' n⟩
theorem sndW_and1 {a : Expr} {pos : Pos} {f : En → R} (h : SndT X K mg W T a f) : SndW X K mg W T (.BoolOp .And [a] pos) f := let ⟨_, p, r⟩ := h; ⟨_, fun j => pw_and1 (p j), r⟩
theorem sndW_or1 {a : Expr} {pos : Pos} {f : En → R} (h : SndT X K mg W T a f) : SndW X K mg W T (.BoolOp .Or [a] pos) f := let ⟨_, p, r⟩ := h; ⟨_, fun j => pw_or1 (p j), r⟩
/-! .. as values -/
theorem snd_and {a b : Expr} {rest : List Expr} {pos : Pos} {f g : En → R} (h : SndD X K mg W T a f) (h' : SndE X K mg W T (.BoolOp .And (b :: rest) pos) g) : SndE X K mg W T (.BoolOp .And (a :: b :: rest) pos) (evAnd f g) := by
  obtain ⟨_, p, r⟩ := h
  obtain ⟨_, p', r'⟩ := h'
  refine ⟨_, fun j => pe_and (p j) (p' j), fun ex B P e σ H Q s q => r ex B P e σ H _ s (PostD.of_bnd (Ext.refl _) q fun d1 e1 _ q1 y1 H1 x1 s1 r1 => ?_)⟩
  cases d1 with
  | bool b =>
    simp only [Fz] at r1
    cases b with
    | true => exact ⟨true, r1, r' ex B P e1 σ H1 Q s1 (PostE.shift x1 q1)⟩
    | false => exact ⟨false, r1, q1 (.bl false) H1 x1 s1 (by simp only [VRep, Fz])⟩
  | _ => exact False.elim q1
theorem snd_or {a b : Expr} {rest : List Expr} {pos : Pos} {f g : En → R} (h : SndD X K mg W T a f) (h' : SndE X K mg W T (.BoolOp .Or (b :: rest) pos) g) : SndE X K mg W T (.BoolOp .Or (a :: b :: rest) pos) (evOr f g) := by
  obtain ⟨_, p, r⟩ := h
  obtain ⟨_, p', r'⟩ := h'
  refine ⟨_, fun j => pe_or (p j) (p' j), fun ex B P e σ H Q s q => r ex B P e σ H _ s (PostD.of_bnd (Ext.refl _) q fun d1 e1 _ q1 y1 H1 x1 s1 r1 => ?_)⟩
  cases d1 with
  | bool b =>
    simp only [Fz] at r1
    cases b with
    | false => exact ⟨false, r1, r' ex B P e1 σ H1 Q s1 (PostE.shift x1 q1)⟩
    | true => exact ⟨true, r1, q1 (.bl true) H1 x1 s1 (by simp only [VRep, Fz])⟩
  | _ => exact False.elim q1
theorem snd_one {op : BoolOp} {a : Expr} {pos : Pos} {f : En → R} (h : SndE X K mg W T a f) : SndE X K mg W T (.BoolOp op [a] pos) f := let ⟨_, p, r⟩ := h; ⟨_, fun j => pe_one (p j), r⟩
theorem snd_not {a : Expr} {pos : Pos} {f : En → R} (h : SndD X K mg W T a f) : SndE X K mg W T (.UnaryOp .Not a pos) (evNot f) := by
  obtain ⟨_, p, r⟩ := h
  refine ⟨_, fun j => pe_not (p j), fun ex B P e σ H Q s q => r ex B P e σ H _ s (PostD.of_bnd (Ext.refl _) q fun d1 e1 _ q1 y1 H1 x1 s1 r1 => ?_)⟩
  cases d1 with
  | bool b =>
    simp only [Fz] at r1
    exact ⟨b, r1, q1 (.bl (!b)) H1 x1 s1 (by simp only [VRep, Fz])⟩
  | _ => exact False.elim q1
theorem snd_if {c a b : Expr} {pos : Pos} {k f g : En → R} (hc : SndT X K mg W T c k) (n : TestF k) (ha : SndE X K mg W T a f) (hb : SndE X K mg W T b g) : SndE X K mg W T (.IfExp c a b pos) (evIf k f g) := by
  obtain ⟨_, p, r⟩ := hc
  obtain ⟨_, pa, ra⟩ := ha
  obtain ⟨_, pb, rb⟩ := hb
  refine ⟨_, fun j => pe_ifExp (p j) (pa j) (pb j), fun ex B P e σ H Q s q => r ex B P e σ H _ s ?_⟩
  cases hk : k e with
  | bad => rw [evIf, hk] at q; exact q
  | exn c' e' => rw [evIf, hk] at q; exact q
  | ok v e1 =>
    cases v with
    | ow d => exact absurd hk (n e d e1)
    | fz d =>
      rw [evIf, hk] at q
      cases d with
      | bool w =>
        intro H1 x1 s1
        cases w with
        | true => exact ra ex B P e1 σ H1 Q s1 (PostE.shift x1 q)
        | false => exact rb ex B P e1 σ H1 Q s1 (PostE.shift x1 q)
      | _ => exact False.elim q
end
end L3
set_option Elab.async false
set_option linter.all false
set_option maxRecDepth 100000
/-! L3Call: arguments, displays, calls, subscripts, dicts. -/
namespace L3
open PySem PySem.Spec PyProof.Rows L2 LamX

theorem FzAll.length {K : PySem.W.Frag} {H : Hp} : ∀ {ds : List PyData} {xs : List V}, FzAll K H ds xs → ds.length = xs.length
  | [], xs, h => by simp only [FzAll] at h; subst h; rfl
  | d :: ds, xs, h => by
    simp only [FzAll] at h
    obtain ⟨y, ys, rfl, _, h⟩ := h
    simp [FzAll.length h]
theorem FzAll.nil {K : PySem.W.Frag} {H : Hp} : FzAll K H [] [] := by simp only [FzAll]
theorem FzAll.cons {K : PySem.W.Frag} {H : Hp} {d : PyData} {ds : List PyData} {x : V} {xs : List V} (h : Fz K H d x) (t : FzAll K H ds xs) : FzAll K H (d :: ds) (x :: xs) := by
  simp only [FzAll]
  exact ⟨x, xs, rfl, h, t⟩
theorem FzAll.append {K : PySem.W.Frag} {H : Hp} : ∀ {ds ds' : List PyData} {xs xs' : List V}, FzAll K H ds xs → FzAll K H ds' xs' → FzAll K H (ds ++ ds') (xs ++ xs')
  | [], ds', xs, xs', h, h' => by simp only [FzAll] at h; subst h; exact h'
  | d :: ds, ds', xs, xs', h, h' => by
    simp only [FzAll] at h
    obtain ⟨y, ys, rfl, h1, h⟩ := h
    exact .cons h1 (h.append h')
theorem FzAll.get {K : PySem.W.Frag} {H : Hp} : ∀ {ds : List PyData} {xs : List V} {i : Nat} {d : PyData}, FzAll K H ds xs → ds[i]? = some d → ∃ x, xs[i]? = some x ∧ Fz K H d x
  | [], xs, i, d, h, e => by simp at e
  | d :: ds, xs, i, d', h, e => by
    simp only [FzAll] at h
    obtain ⟨y, ys, rfl, h1, h⟩ := h
    cases i with
    | zero => simp at e; subst e; exact ⟨y, rfl, h1⟩
    | succ i =>
      obtain ⟨x, e1, e2⟩ := FzAll.get h (i := i) (by simpa using e)
      exact ⟨x, by simpa using e1, e2⟩
theorem FzAll.drop {K : PySem.W.Frag} {H : Hp} : ∀ {ds : List PyData} {xs : List V} (n : Nat), FzAll K H ds xs → FzAll K H (ds.drop n) (xs.drop n)
  | ds, xs, 0, h => h
  | [], xs, n + 1, h => by simp only [FzAll] at h; subst h; exact .nil
  | d :: ds, xs, n + 1, h => by
    simp only [FzAll] at h
    obtain ⟨y, ys, rfl, h1, h⟩ := h
    exact FzAll.drop n h
theorem FzAll.take {K : PySem.W.Frag} {H : Hp} : ∀ {ds : List PyData} {xs : List V} (n : Nat), FzAll K H ds xs → FzAll K H (ds.take n) (xs.take n)
  | ds, xs, 0, h => by rw [List.take_zero, List.take_zero]; exact .nil
  | [], xs, n + 1, h => by simp only [FzAll] at h; subst h; exact .nil
  | d :: ds, xs, n + 1, h => by
    simp only [FzAll] at h
    obtain ⟨y, ys, rfl, h1, h⟩ := h
    exact .cons h1 (FzAll.take n h)
theorem FzAll.set {K : PySem.W.Frag} {H : Hp} {d : PyData} {x : V} (hd : Fz K H d x) : ∀ {ds : List PyData} {xs : List V} (i : Nat), FzAll K H ds xs → FzAll K H (ds.set i d) (xs.set i x)
  | [], xs, i, h => by simp only [FzAll] at h; subst h; exact .nil
  | d :: ds, xs, i, h => by
    simp only [FzAll] at h
    obtain ⟨y, ys, rfl, h1, h⟩ := h
    cases i with
    | zero => exact .cons hd h
    | succ i => exact .cons h1 (FzAll.set hd i h)
theorem FzAll.reverse {K : PySem.W.Frag} {H : Hp} : ∀ {ds : List PyData} {xs : List V}, FzAll K H ds xs → FzAll K H ds.reverse xs.reverse
  | [], xs, h => by simp only [FzAll] at h; subst h; exact .nil
  | d :: ds, xs, h => by
    simp only [FzAll] at h
    obtain ⟨y, ys, rfl, h1, h⟩ := h
    rw [List.reverse_cons, List.reverse_cons]
    exact (FzAll.reverse h).append (.cons h1 .nil)
theorem FzAll.atI {K : PySem.W.Frag} {H : Hp} {ds : List PyData} {xs : List V} {i : Int} {d : PyData} (h : FzAll K H ds xs) (e : L2.atI ds i = some d) : ∃ x, L2.atI xs i = some x ∧ Fz K H d x := by
  unfold L2.atI at e ⊢
  rw [h.length] at e
  cases q : L2.ixN xs.length i with
  | none => rw [q] at e; cases e
  | some j =>
    rw [q] at e
    obtain ⟨x, e1, e2⟩ := h.get (i := j) (d := d) e
    exact ⟨x, e1, e2⟩

/-! ### arguments -/
inductive RA where
  | ok (ds : List PyData) (e : En)
  | exn (c : Str) (e : En)
  | bad
def R.bndA (r : R) (k : PyData → En → RA) : RA := match r with
  | .ok (.fz d) e => k d e
  | .ok (.ow d) e => k d e
  | .exn c e => .exn c e
  | .bad => .bad
def RA.bnd (r : RA) (k : List PyData → En → R) : R := match r with
  | .ok ds e => k ds e
  | .exn c e => .exn c e
  | .bad => .bad
def RA.bndA (r : RA) (k : List PyData → En → RA) : RA := match r with
  | .ok ds e => k ds e
  | .exn c e => .exn c e
  | .bad => .bad
def PostA (K : PySem.W.Frag) (mg : Str → Option Value) (W : WX) (T : List (Addr × Str)) (ex : Option Addr) (B : Hp) (P : List (Addr × PyData)) (σ : L2.St) (H0 : Hp) (Q : List V → Hp → Prop) : RA → Prop
  | .ok ds e => ∀ ys H', Ext H0 H' → Sim K T ex B P e σ H' → FzAll K H' ds ys → Q ys H'
  | .exn c e => ∀ cls H', mg c = some cls → Ext H0 H' → Sim K T ex B P e σ H' → W cls none σ H'
  | .bad => False
def RdA (K : PySem.W.Frag) (mg : Str → Option Value) (W : WX) (T : List (Addr × Str)) (t : TA) (f : En → RA) : Prop := ∀ ex B P e σ H Q, Sim K T ex B P e σ H → PostA K mg W T ex B P σ H Q (f e) → t σ H Q
def SndA {ι : Type} (X : ι → Cx) (K : PySem.W.Frag) (mg : Str → Option Value) (W : WX) (T : List (Addr × Str)) (es : List Expr) (f : En → RA) : Prop := ∃ t, (∀ i, PA (X i) es t) ∧ RdA K mg W T t f
def evNil : En → RA := fun e => .ok [] e
def evCons (f : En → R) (g : En → RA) : En → RA := fun e => (f e).bndA fun d e1 => (g e1).bndA fun ds e2 => .ok (d :: ds) e2
section
variable {ι : Type} {X : ι → Cx} {K : PySem.W.Frag} {mg : Str → Option Value} {W : WX} {T : List (Addr × Str)}
theorem snda_nil : SndA X K mg W T [] evNil := ⟨_, fun _ => pa_nil, fun ex B P e σ H Q s q => q [] H (Ext.refl _) s .nil⟩
theorem snda_cons {a : Expr} {es : List Expr} {f : En → R} {g : En → RA} (ha : SndD X K mg W T a f) (hr : SndA X K mg W T es g) (hs : ∀ j, starEach (a :: es) (X j).env = (false, eval a (X j).env) :: starEach es (X j).env := by intro _; rfl) : SndA X K mg W T (a :: es) (evCons f g) := by
  obtain ⟨t, p, r⟩ := ha
  obtain ⟨u, p', r'⟩ := hr
  refine ⟨_, fun j => pa_cons (p j) (p' j) (hs j), fun ex B P e σ H Q s q => r ex B P e σ H _ s ?_⟩
  unfold evCons at q
  have step : ∀ d e1, PostA K mg W T ex B P σ H Q ((g e1).bndA fun ds e2 => .ok (d :: ds) e2) → ∀ y H', Ext H H' → Sim K T ex B P e1 σ H' → Fz K H' d y → u σ H' fun xs H2 => Q (y :: xs) H2 := fun d e1 q y H1 x1 s1 r1 => by
    refine r' ex B P e1 σ H1 _ s1 ?_
    cases hg : g e1 with
    | bad => rw [hg] at q; exact q
    | exn c e2 => rw [hg] at q; exact fun cls H' hc x' s' => q cls H' hc (x1.trans x') s'
    | ok ds e2 =>
      rw [hg] at q
      exact fun ys H' x' s' r2 => q (y :: ys) H' (x1.trans x') s' (.cons (Fz.ext x' _ _ r1) r2)
  cases hf : f e with
  | bad => rw [hf] at q; exact q
  | exn c e' => rw [hf] at q; exact q
  | ok v e1 =>
    rw [hf] at q
    cases v with
    | fz d => exact step d e1 q
    | ow d => exact step d e1 q
theorem PostA.of_bnd {ex : Option Addr} {B : Hp} {P : List (Addr × PyData)} {σ : L2.St} {H0 : Hp} {Q : VK} {Q' : List V → Hp → Prop} {r : RA} {k : List PyData → En → R} (h : PostE K mg W T ex B P σ H0 Q (r.bnd k))
    (hk : ∀ ds e, PostE K mg W T ex B P σ H0 Q (k ds e) → ∀ ys H', Ext H0 H' → Sim K T ex B P e σ H' → FzAll K H' ds ys → Q' ys H') : PostA K mg W T ex B P σ H0 Q' r := by
  cases r with
  | ok ds e => exact hk ds e h
  | exn c e => exact h
  | bad => exact h

/-! ### displays -/
/-- a new tuple: told as one that may be a key, or with its object -/
def TupQ (Q : VK) (H : Hp) (xs : List V) : Prop := (∀ p, H p = none → Q (.ref p) (upd H p (.tup xs))) ∨ (∀ p (o : Obj), H p = none → o.dict = none → Q (.ref p) (upd H p (.frz o (.tup xs))))
theorem tupQ {Q : VK} {H : Hp} {xs : List V} (b : Bool) (h : ∀ p o, H p = none → TupAt (upd H p o) b p xs → Q (.ref p) (upd H p o)) : TupQ Q H xs := by
  cases b with
  | false => exact .inl fun p hp => h p _ hp upd_same
  | true => exact .inr fun p o hp hd => h p _ hp ⟨o, hd, upd_same⟩
/-- a tuple just laid -/
theorem TupQ.laid {X : Cx} {pins : List (Addr × Obj)} {σ : L2.St} {H : Hp} {s : Shared} {Q : VK} {xs : List V} {us : List Value} {h' : Heap} {t' : Nat} {d : Addr} {o : Obj} (I : Inv X pins σ H s) (q : TupQ Q H xs) (hk : ∀ b u, s.heap.get? b = some u → h'.get? b = some u) (hd : s.heap.objs.size ≤ d)
    (z : xs.length ≤ sizeLine) (r : Vals xs us) (ho : h'.get? d = some o) (hc : o.cls = .type "tuple") (hn : o.dict = none) {n : Nat} (hs : o.data = .seq us.toArray n) : EP X pins σ Q (.ref d) { s with heap := h', toks := t' } := by
  have hf : H d = none := I.hok.fresh hd
  rcases q with q | q
  · exact ⟨.ref d, upd H d (.tup xs), I.laid (t' := t') hk hd ⟨z, us, r, ⟨o, ho, hc, n, hs⟩⟩, rfl, q d hf⟩
  · exact ⟨.ref d, upd H d (.frz o (.tup xs)), I.laid (t' := t') hk hd ⟨ho, z, us, r, ⟨o, ho, hc, n, hs⟩⟩, rfl, q d o hf hn⟩
def tTup2 (t : TA) : TE := fun σ H Q => t σ H fun xs H1 => xs.length ≤ sizeLine ∧ TupQ Q H1 xs
theorem pe_tup2 {X : Cx} {es : List Expr} {t : TA} {pos : Pos} {x1} (h : PA X es t) : PE X (.Tuple es x1 pos) (tTup2 t) := by
  refine ⟨fun pins s σ H Q I hq => ?_⟩
  refine wpAny_Tuple_spliced (thn (h.run pos pins s σ H _ I hq) fun us s1 ⟨xs, H1, I1, r, z, q⟩ => ⟨by rw [← r.length]; exact z, ?_⟩)
  exact q.laid (t' := s1.toks) I1 (fun b u e => Heap.get?_push_of_some _ e) (Nat.le_refl _) z r (Heap.get?_push_size _ rfl) rfl rfl (n := 0) rfl
def evTup (f : En → RA) : En → R := fun e => (f e).bnd fun ds e1 => if ds.length ≤ 16777216 then .ok (.fz (.tuple ds)) e1 else .bad
def evLst (f : En → RA) : En → R := fun e => (f e).bnd fun ds e1 => if ds.length ≤ 16777216 then .ok (.ow (.list ds)) e1 else .bad
def evDict0 : En → R := fun e => .ok (.ow (.dict [])) e
theorem VRep.new {K : PySem.W.Frag} {ex : Option Addr} {B : Hp} {P : List (Addr × PyData)} {e : En} {σ : L2.St} {H H' : Hp} {p : Addr} {d : PyData} (s : Sim K T ex B P e σ H) (hp : Bn H p) (h : OwnAt K H' p d) : VRep K B P e σ H' (.ref p) (.ow d) :=
  let ⟨n1, n2, _, n4⟩ := s.nfree hp
  ⟨p, rfl, h, n4, n1, n2⟩
theorem line_ok {n : Nat} (h : n ≤ 16777216) : n ≤ sizeLine := by rw [sizeLine_eq]; exact h
theorem line_lt {n : Nat} (h : n < 16777216) : n < sizeLine := by rw [sizeLine_eq]; exact h
theorem snd_tup {es : List Expr} {f : En → RA} {x1} {pos : Pos} (h : SndA X K mg W T es f) : SndE X K mg W T (.Tuple es x1 pos) (evTup f) := by
  obtain ⟨t, p, r⟩ := h
  refine ⟨_, fun j => pe_tup2 (p j), fun ex B P e σ H Q s q => r ex B P e σ H _ s (PostA.of_bnd q fun ds e1 q1 ys H1 x1 s1 r1 => ?_)⟩
  by_cases hl : ds.length ≤ 16777216
  · rw [if_pos hl] at q1
    refine ⟨by rw [← r1.length]; exact line_ok hl, tupQ (tts ds) fun a o ha ht => q1 _ _ (x1.trans (Chg.fresh _ ha).ext) (s1.new ha _) ?_⟩
    simp only [VRep, Fz]
    exact ⟨a, ys, rfl, ht, FzAll.ext (Chg.fresh _ ha).ext _ _ r1⟩
  · rw [if_neg hl] at q1; exact False.elim q1
theorem snd_lst {es : List Expr} {f : En → RA} {pos : Pos} (h : SndA X K mg W T es f) : SndE X K mg W T (.List es pos) (evLst f) := by
  obtain ⟨t, p, r⟩ := h
  refine ⟨_, fun j => pe_lst (p j), fun ex B P e σ H Q s q => r ex B P e σ H _ s (PostA.of_bnd q fun ds e1 q1 ys H1 x1 s1 r1 => ?_)⟩
  by_cases hl : ds.length ≤ 16777216
  · rw [if_pos hl] at q1
    refine ⟨by rw [← r1.length]; exact line_ok hl, fun a ha => q1 _ _ (x1.trans (Chg.fresh _ ha).ext) (s1.new ha _) ?_⟩
    exact VRep.new s1 (Bn.of ha) ⟨ys, upd_same, FzAll.ext (Chg.fresh _ ha).ext _ _ r1⟩
  · rw [if_neg hl] at q1; exact False.elim q1
theorem snd_dict0 {pos : Pos} : SndE X K mg W T (.Dict [] [] pos) evDict0 := by
  refine ⟨_, fun _ => pe_dnewT, fun ex B P e σ H Q s q p hp => q _ _ (Chg.fresh _ hp).ext (s.new hp _) ?_⟩
  exact VRep.new s (Bn.of hp) ⟨[], upd_same, by simp only [FzKV]⟩

/-! ### calls of the program's own defs -/
inductive FRes where
  | ok (v : Vl)
  | exn (c : Str)
  | bad
/-- what a def's function promises -/
def PostF (K : PySem.W.Frag) (mg : Str → Option Value) (T : List (Addr × Str)) (x : Option Addr) (H : Hp) (Q : VK) (E : XK) (Z : Hp → Prop) : FRes → Prop
  | .ok (.fz d) => ∀ y H', Fr T x H H' → Z H' → Fz K H' d y → Q y H'
  | .ok (.ow d) => ∀ a H', Fr T x H H' → Z H' → OwnAt K H' a d → Bn H a → Q (.ref a) H'
  | .exn c => ∀ cls H', mg c = some cls → Fr T x H H' → Z H' → E cls none H'
  | .bad => False
def spF (K : PySem.W.Frag) (mg : Str → Option Value) (T : List (Addr × Str)) (n : Nat) (F : List PyData → FRes) : Sp := fun vs H Q E =>
  ∃ ds, ds.length = n ∧ FzAll K H ds vs ∧ Tabs T H ∧ PostF K mg T none H Q E (fun _ => True) (F ds)
/-- the first argument an own thing of the caller's: F tells what it is behind the call -/
def spIO (K : PySem.W.Frag) (mg : Str → Option Value) (T : List (Addr × Str)) (n : Nat) (F : PyData → List PyData → FRes × PyData) : Sp := fun vs H Q E =>
  ∃ a d vs' ds, vs = .ref a :: vs' ∧ OwnAt K H a d ∧ ds.length = n ∧ FzAll K H ds vs' ∧ Tabs T H ∧ PostF K mg T (some a) H Q E (fun H' => OwnAt K H' a (F d ds).2) (F d ds).1
def evCall (F : List PyData → FRes) (f : En → RA) : En → R := fun e => (f e).bnd fun ds e1 => match F ds with
  | .ok v => .ok v e1
  | .exn c => .exn c e1
  | .bad => .bad
theorem VRep.fz {K : PySem.W.Frag} {B : Hp} {P : List (Addr × PyData)} {e : En} {σ : L2.St} {H : Hp} {y : V} {d : PyData} (h : Fz K H d y) : VRep K B P e σ H y (.fz d) := h
theorem snd_call {n : Nat} {F : List PyData → FRes} {c : Expr} {es : List Expr} {fa : En → RA} (ha : SndA X K mg W T es fa) (mk : ∀ j t, PA (X j) es t → PE (X j) c (tCallS (spF K mg T n F) (WE W) t)) (hlen : ∀ e ds e', fa e = .ok ds e' → ds.length = n) :
    SndE X K mg W T c (evCall F fa) := by
  obtain ⟨t, pa, r⟩ := ha
  refine ⟨_, fun j => mk j _ (pa j), fun ex B P e σ H Q s q => r ex B P e σ H _ s ?_⟩
  unfold evCall at q
  cases hf : fa e with
  | bad => rw [hf] at q; exact q
  | exn c e' => rw [hf] at q; exact q
  | ok ds e1 =>
    rw [hf] at q
    intro ys H1 x1 s1 r1
    refine ⟨ds, hlen e ds e1 hf, r1, s1.fr.tab, ?_⟩
    have q : PostE K mg W T ex B P σ H Q (match F ds with | .ok v => .ok v e1 | .exn c => .exn c e1 | .bad => .bad) := q
    cases hF : F ds with
    | bad => rw [hF] at q; exact q
    | exn c =>
      rw [hF] at q
      exact fun cls H' hc fr _ => q cls H' hc (x1.trans fr.ext) (s1.called fr)
    | ok v =>
      rw [hF] at q
      cases v with
      | fz d => exact fun y H' fr _ ry => q y H' (x1.trans fr.ext) (s1.called fr) ry
      | ow d => exact fun b H' fr _ ho hb' => q _ H' (x1.trans fr.ext) (s1.called fr) (VRep.new s1 hb' ho)

/-! ### calls of built-in functions and types -/
def CallF (K : PySem.W.Frag) (r : List V → Hp → VK → Prop) (g : List PyData → Option PyData) : Prop :=
  ∀ (vs : List V) (ds : List PyData) (d : PyData) (H : Hp) (Q : VK), FzAll K H ds vs → g ds = some d → NewV K H d Q → r vs H Q
/-- .. that make an own thing -/
def CallO (K : PySem.W.Frag) (r : List V → Hp → VK → Prop) (g : List PyData → Option PyData) : Prop :=
  ∀ (vs : List V) (ds : List PyData) (d : PyData) (H : Hp) (Q : VK), FzAll K H ds vs → g ds = some d → (∀ p o, H p = none → OwnAt K (upd H p o) p d → Q (.ref p) (upd H p o)) → r vs H Q
def evB (g : List PyData → Option PyData) (f : En → RA) : En → R := fun e => (f e).bnd fun ds e1 => R.lift (g ds) e1
def evBO (g : List PyData → Option PyData) (f : En → RA) : En → R := fun e => (f e).bnd fun ds e1 => match g ds with
  | some d => .ok (.ow d) e1
  | none => .bad
theorem rd_b {t : TA} {r : List V → Hp → VK → Prop} {g : List PyData → Option PyData} {f : En → RA} (h : CallF K r g) (ra : RdA K mg W T t f) : RdE K mg W T (tCB r t) (evB g f) := by
  refine fun ex B P e σ H Q s q => ra ex B P e σ H _ s (PostA.of_bnd q fun ds e1 q1 ys H1 x1 s1 r1 => ?_)
  obtain ⟨d, hg, hn⟩ := q1.lift x1 s1
  exact h ys ds d H1 Q r1 hg hn
theorem rd_bo {t : TA} {r : List V → Hp → VK → Prop} {g : List PyData → Option PyData} {f : En → RA} (h : CallO K r g) (ra : RdA K mg W T t f) : RdE K mg W T (tCB r t) (evBO g f) := by
  refine fun ex B P e σ H Q s q => ra ex B P e σ H _ s (PostA.of_bnd q fun ds e1 q1 ys H1 x1 s1 r1 => ?_)
  cases hg : g ds with
  | none => rw [hg] at q1; exact False.elim q1
  | some d =>
    rw [hg] at q1
    exact h ys ds d H1 Q r1 hg fun p o hp ho => q1 _ _ (x1.trans (Chg.fresh o hp).ext) (s1.new hp o) (VRep.new s1 (Bn.of hp) ho)
theorem snd_b {es : List Expr} {c : Expr} {r : List V → Hp → VK → Prop} {g : List PyData → Option PyData} {f : En → RA} (h : CallF K r g) (ha : SndA X K mg W T es f) (mk : ∀ j t, PA (X j) es t → PE (X j) c (tCB r t)) : SndE X K mg W T c (evB g f) :=
  let ⟨_, p, ra⟩ := ha
  ⟨_, fun j => mk j _ (p j), rd_b h ra⟩
theorem snd_bo {es : List Expr} {c : Expr} {r : List V → Hp → VK → Prop} {g : List PyData → Option PyData} {f : En → RA} (h : CallO K r g) (ha : SndA X K mg W T es f) (mk : ∀ j t, PA (X j) es t → PE (X j) c (tCB r t)) : SndE X K mg W T c (evBO g f) :=
  let ⟨_, p, ra⟩ := ha
  ⟨_, fun j => mk j _ (p j), rd_bo h ra⟩
/-- .. of a name that is not locked -/
def evBN (g : PyData → Option PyData) (i : Nat) : En → R := fun e => match slD e[i]? with
  | some d => R.lift (g d) e
  | none => .bad
theorem snd_bn {x c : Expr} {r : List V → Hp → VK → Prop} {g : PyData → Option PyData} {i : Nat} (h : ∀ (v : V) (d d' : PyData) (H : Hp) (Q : VK), RepB K H v d → g d = some d' → NewV K H d' Q → r [v] H Q) (hx : ∀ j, PE (X j) x (tVar i))
    (mk : ∀ j t, PA (X j) [x] t → PE (X j) c (tCB r t)) (hs : ∀ j, starEach [x] (X j).env = (false, eval x (X j).env) :: starEach [] (X j).env := by intro _; rfl) : SndE X K mg W T c (evBN g i) := by
  refine ⟨_, fun j => mk j _ (pa_cons (hx j) pa_nil (hs j)), fun ex B P e σ H Q s q => ?_⟩
  unfold evBN at q
  cases h0 : slD e[i]? with
  | none => rw [h0] at q; exact False.elim q
  | some d0 =>
    rw [h0] at q
    obtain ⟨v, hv, rv⟩ := s.slot h0
    obtain ⟨d, hg, hn⟩ := q.lift (Ext.refl _) s
    exact ⟨v, hv, h v d0 d H Q rv hg hn⟩
end
end L3
set_option Elab.async false
set_option linter.all false
set_option maxRecDepth 100000
/-! L3Stmt: statements, targets, loops. -/
namespace L3
open PySem PySem.Spec PyProof.Rows L2 LamX

inductive O where
  | nx (e : En)
  | ret (v : Vl) (e : En)
  | brk (e : En)
  | cnt (e : En)
  | exn (c : Str) (e : En)
  | bad
section
variable (K : PySem.W.Frag) (mg : Str → Option Value) (W : WX) (T : List (Addr × Str)) (ex : Option Addr) (B : Hp)
def PostS (H0 : Hp) (D : Ends) : O → Prop
  | .nx e => ∀ σ' H', Ext H0 H' → Sim K T ex B [] e σ' H' → D.nx σ' H'
  | .ret v e => ∀ y σ' H', Ext H0 H' → Sim K T ex B [] e σ' H' → VRep K B [] e σ' H' y v → D.rt y H'
  | .brk e => ∀ σ' H', Ext H0 H' → Sim K T ex B [] e σ' H' → D.bk σ' H'
  | .cnt e => ∀ σ' H', Ext H0 H' → Sim K T ex B [] e σ' H' → D.ct σ' H'
  | .exn c e => ∀ cls σ' H', mg c = some cls → Ext H0 H' → Sim K T ex B [] e σ' H' → W cls none σ' H'
  | .bad => False
end
def RdS (K : PySem.W.Frag) (mg : Str → Option Value) (W : WX) (T : List (Addr × Str)) (t : TS) (f : En → O) : Prop := ∀ ex B e σ H D, Sim K T ex B [] e σ H → PostS K mg W T ex B H D (f e) → t D σ H
def SndS {ι : Type} (X : ι → Cx) (K : PySem.W.Frag) (mg : Str → Option Value) (W : WX) (T : List (Addr × Str)) (st : Stmt) (f : En → O) : Prop := ∃ t, (∀ i, PS (X i) st t) ∧ RdS K mg W T t f
def SndSs {ι : Type} (X : ι → Cx) (K : PySem.W.Frag) (mg : Str → Option Value) (W : WX) (T : List (Addr × Str)) (sts : List Stmt) (f : En → O) : Prop := ∃ t, (∀ i, PSs (X i) sts t) ∧ RdS K mg W T t f
def evNx : En → O := fun e => .nx e
def evSeq (f g : En → O) : En → O := fun e => match f e with
  | .nx e1 => g e1
  | o => o
def R.bndO (r : R) (k : PyData → En → O) : O := match r with
  | .ok (.fz d) e => k d e
  | .ok (.ow d) e => k d e
  | .exn c e => .exn c e
  | .bad => .bad
section
variable {ι : Type} {X : ι → Cx} {K : PySem.W.Frag} {mg : Str → Option Value} {W : WX} {T : List (Addr × Str)}
theorem PostS.shift {ex : Option Addr} {B H0 H1 : Hp} {D : Ends} {o : O} (x : Ext H0 H1) (h : PostS K mg W T ex B H0 D o) : PostS K mg W T ex B H1 D o := by
  cases o with
  | nx e => exact fun σ' H' x' s' => h σ' H' (x.trans x') s'
  | ret v e => exact fun y σ' H' x' s' => h y σ' H' (x.trans x') s'
  | brk e => exact fun σ' H' x' s' => h σ' H' (x.trans x') s'
  | cnt e => exact fun σ' H' x' s' => h σ' H' (x.trans x') s'
  | exn c e => exact fun cls σ' H' hc x' s' => h cls σ' H' hc (x.trans x') s'
  | bad => exact h
theorem snds_nil : SndSs X K mg W T [] evNx := ⟨_, fun _ => pss_nil, fun ex B e σ H D s q => q σ H (Ext.refl _) s⟩
theorem snds_cons {st : Stmt} {sts : List Stmt} {f g : En → O} (h : SndS X K mg W T st f) (h' : SndSs X K mg W T sts g) : SndSs X K mg W T (st :: sts) (evSeq f g) := by
  obtain ⟨t, p, r⟩ := h
  obtain ⟨u, p', r'⟩ := h'
  refine ⟨_, fun j => pss_cons (p j) (p' j), fun ex B e σ H D s q => r ex B e σ H _ s ?_⟩
  unfold evSeq at q
  cases hf : f e with
  | nx e1 => rw [hf] at q; exact fun σ' H' x' s' => r' ex B e1 σ' H' D s' (PostS.shift x' q)
  | ret v e1 => rw [hf] at q; exact q
  | brk e1 => rw [hf] at q; exact q
  | cnt e1 => rw [hf] at q; exact q
  | exn c e1 => rw [hf] at q; exact q
  | bad => rw [hf] at q; exact q
theorem snds_one {st : Stmt} {f : En → O} (h : SndS X K mg W T st f) : SndSs X K mg W T [st] f := by
  obtain ⟨t, p, r⟩ := h
  exact ⟨_, fun j => pss_one (p j), r⟩
theorem snds_pass {pos} : SndS X K mg W T (.Pass pos) evNx := ⟨_, fun _ => ps_pass, fun ex B e σ H D s q => q σ H (Ext.refl _) s⟩
def evBrk : En → O := fun e => .brk e
def evCnt : En → O := fun e => .cnt e
theorem snds_break {pos} : SndS X K mg W T (.Break pos) evBrk := ⟨_, fun _ => ps_break, fun ex B e σ H D s q => q σ H (Ext.refl _) s⟩
theorem snds_continue {pos} : SndS X K mg W T (.Continue pos) evCnt := ⟨_, fun _ => ps_continue, fun ex B e σ H D s q => q σ H (Ext.refl _) s⟩

/-! ### return, expressions, if -/
def evRet (f : En → R) : En → O := fun e => match f e with
  | .ok v e1 => .ret v e1
  | .exn c e1 => .exn c e1
  | .bad => .bad
theorem snds_ret {x : Expr} {f : En → R} {pos : Pos} (h : SndE X K mg W T x f) : SndS X K mg W T (.Return (some x) pos) (evRet f) := by
  obtain ⟨t, p, r⟩ := h
  refine ⟨_, fun j => ps_ret (p j), fun ex B e σ H D s q => r ex B [] e σ H _ s ?_⟩
  unfold evRet at q
  cases hf : f e with
  | ok v e1 => rw [hf] at q; exact fun y H' x' s' ry => q y σ H' x' s' ry
  | exn c e1 => rw [hf] at q; exact fun cls H' hc x' s' => q cls σ H' hc x' s'
  | bad => rw [hf] at q; exact q
def evRetN : En → O := fun e => .ret (.fz .none) e
theorem snds_retN {pos : Pos} : SndS X K mg W T (.Return none pos) evRetN := ⟨_, fun _ => ps_retN, fun ex B e σ H D s q => q .non σ H (Ext.refl _) s (by simp only [VRep, Fz])⟩
def evDrop (f : En → R) : En → O := fun e => match f e with
  | .ok _ e1 => .nx e1
  | .exn c e1 => .exn c e1
  | .bad => .bad
theorem snds_expr {x : Expr} {f : En → R} {pos : Pos} (h : SndE X K mg W T x f) (hs : ∀ j, swapsWith x none pos.line (X j).env = pure false := by intro _; rfl) : SndS X K mg W T (.Expr x pos) (evDrop f) := by
  obtain ⟨t, p, r⟩ := h
  refine ⟨_, fun j => ps_expr (p j) (hs j), fun ex B e σ H D s q => r ex B [] e σ H _ s ?_⟩
  unfold evDrop at q
  cases hf : f e with
  | ok v e1 => rw [hf] at q; exact fun y H' x' s' ry => q σ H' x' s'
  | exn c e1 => rw [hf] at q; exact fun cls H' hc x' s' => q cls σ H' hc x' s'
  | bad => rw [hf] at q; exact q
def evIfS (c : En → R) (f g : En → O) : En → O := fun e => match c e with
  | .ok (.fz (.bool true)) e1 => f e1
  | .ok (.fz (.bool false)) e1 => g e1
  | .exn c e1 => .exn c e1
  | _ => .bad
theorem snds_if {c : Expr} {a b : List Stmt} {k : En → R} {f g : En → O} {pos : Pos} (hc : SndT X K mg W T c k) (ha : SndSs X K mg W T a f) (hb : SndSs X K mg W T b g) : SndS X K mg W T (.If c a b pos) (evIfS k f g) := by
  obtain ⟨t, p, r⟩ := hc
  obtain ⟨_, pa, ra⟩ := ha
  obtain ⟨_, pb, rb⟩ := hb
  refine ⟨_, fun j => ps_if (p j) (pa j) (pb j), fun ex B e σ H D s q => r ex B [] e σ H _ s ?_⟩
  unfold evIfS at q
  cases hk : k e with
  | bad => rw [hk] at q; exact q
  | exn c' e' => rw [hk] at q; exact fun cls H' hc x' s' => q cls σ H' hc x' s'
  | ok v e1 =>
    rw [hk] at q
    cases v with
    | ow d => exact False.elim q
    | fz d =>
      cases d with
      | bool w =>
        intro H1 x1 s1
        cases w with
        | true => exact ra ex B e1 σ H1 D s1 (PostS.shift x1 q)
        | false => exact rb ex B e1 σ H1 D s1 (PostS.shift x1 q)
      | _ => exact False.elim q

/-! ### targets -/
def SndG {ι : Type} (X : ι → Cx) (K : PySem.W.Frag) (tg : Expr) (st : PyData → En → Option En) (is : List Nat) : Prop :=
  ∃ g, (∀ i, PG (X i) tg g) ∧ ∀ T ex B P e σ H v d k, Sim K T ex B P e σ H → Fz K H d v →
    (∃ e', st d e = some e' ∧ ∀ σ', Sim K T ex B P e' σ' H → (∀ j, j ∉ is → σ'[j]? = σ[j]?) → σ'.length = σ.length → k σ' H) → g v σ H k
def SndGs {ι : Type} (X : ι → Cx) (K : PySem.W.Frag) (ts : List Expr) (st : List PyData → En → Option En) (is : List Nat) : Prop :=
  ∃ g, (∀ i, PGs (X i) ts g) ∧ ∀ T ex B P e σ H vs ds k, Sim K T ex B P e σ H → FzAll K H ds vs →
    (∃ e', st ds e = some e' ∧ ∀ σ', Sim K T ex B P e' σ' H → (∀ j, j ∉ is → σ'[j]? = σ[j]?) → σ'.length = σ.length → k σ' H) → g vs σ H k
def stName (i : Nat) : PyData → En → Option En := fun d e => some (e.set i (.fz d))
def stNil : List PyData → En → Option En := fun ds e => match ds with
  | [] => some e
  | _ => none
def stCons (f : PyData → En → Option En) (g : List PyData → En → Option En) : List PyData → En → Option En := fun ds e => match ds with
  | d :: r => (f d e).bind (g r)
  | [] => none
def stTup (n : Nat) (f : List PyData → En → Option En) : PyData → En → Option En := fun d e => match d with
  | .tuple ds => if ds.length = n then f ds e else none
  | _ => none
theorem sndg_name {i : Nat} {x : Str} {pos : Pos} (mk : ∀ j, PG (X j) (.Name x pos) (gName i)) :
    SndG X K (.Name x pos) (stName i) [i] := by
  refine ⟨_, mk, fun T ex B P e σ H v d k s r q => ?_⟩
  obtain ⟨e', h, q⟩ := q
  cases h
  refine q _ (s.setFz r) (fun j hj => ?_) (by simp)
  rw [List.getElem?_set_ne (fun z => hj (by simp [z]))]
theorem sndgs_nil : SndGs X K [] stNil [] := by
  refine ⟨_, fun _ => pgs_nil, fun T ex B P e σ H vs ds k s r q => ?_⟩
  obtain ⟨e', h, q⟩ := q
  cases ds with
  | cons d ds => cases h
  | nil =>
    cases h
    simp only [FzAll] at r
    exact ⟨r, q σ s (fun _ _ => rfl) rfl⟩
theorem sndgs_cons {x : Expr} {es : List Expr} {f : PyData → En → Option En} {g : List PyData → En → Option En} {is js : List Nat} (h : SndG X K x f is) (h' : SndGs X K es g js)
    (hs : ∀ j, (assignEach (x :: es) (X j).env).map (·.2) = assign x (X j).env :: (assignEach es (X j).env).map (·.2) := by intro _; rfl) : SndGs X K (x :: es) (stCons f g) (is ++ js) := by
  obtain ⟨t, p, r⟩ := h
  obtain ⟨u, p', r'⟩ := h'
  refine ⟨_, fun j => pgs_cons (p j) (p' j) (hs j), fun T ex B P e σ H vs ds k s rv q => ?_⟩
  obtain ⟨e', hst, q⟩ := q
  cases ds with
  | nil => cases hst
  | cons d ds =>
    simp only [FzAll] at rv
    obtain ⟨y, ys, rfl, r1, rv⟩ := rv
    have hst : (f d e).bind (g ds) = some e' := hst
    cases hf : f d e with
    | none => rw [hf] at hst; cases hst
    | some e1 =>
      rw [hf] at hst
      refine ⟨y, ys, rfl, r T ex B P e σ H y d _ s r1 ⟨e1, hf, fun σ1 s1 o1 l1 => ?_⟩⟩
      refine r' T ex B P e1 σ1 H ys ds _ s1 rv ⟨e', hst, fun σ2 s2 o2 l2 => q σ2 s2 (fun j hj => ?_) (l2.trans l1)⟩
      rw [List.mem_append, not_or] at hj
      rw [o2 j hj.2, o1 j hj.1]
theorem sndg_tup {es : List Expr} {k : Nat} {n : Nat} {pos : Pos} {f : List PyData → En → Option En} {is : List Nat} (hK : ∀ j, (X j).K = K) (hc : ∀ j, (X j).calm = true) (h : SndGs X K es f is) (hn : ∀ j, (assignEach es (X j).env).length = n := by intro _; rfl) (hst : ∀ j, (assignEach es (X j).env).findIdx? (·.1) = none := by intro _; rfl) :
    SndG X K (.Tuple es k pos) (stTup n f) is := by
  obtain ⟨t, p, r⟩ := h
  refine ⟨gTup K n t, fun j => by have q := pg_tup (pos := pos) (k := k) (hc j) (p j) (hn j) (hst j); rw [hK j] at q; exact q, fun T ex B P e σ H v d k s rv q => ?_⟩
  obtain ⟨e', hst', q⟩ := q
  cases d with
  | tuple ds =>
    simp only [Fz] at rv
    obtain ⟨a, xs, rfl, h1, h2⟩ := rv
    by_cases hl : ds.length = n
    · have hst' : (if ds.length = n then f ds e else none) = some e' := hst'
      rw [if_pos hl] at hst'
      exact ⟨a, xs, rfl, h1.sq, by rw [← h2.length]; exact hl, r T ex B P e σ H xs ds k s h2 ⟨e', hst', q⟩⟩
    · have hst' : (if ds.length = n then f ds e else none) = some e' := hst'
      rw [if_neg hl] at hst'; cases hst'
  | _ => cases hst'

/-! ### assignments -/
def evSet (i : Nat) (f : En → R) : En → O := fun e => match f e with
  | .ok (.fz d) e1 => .nx (e1.set i (.fz d))
  | .ok (.ow d) e1 => .nx (e1.set i (.ow d))
  | .exn c e1 => .exn c e1
  | .bad => .bad
theorem rd_set {i : Nat} {t : TE} {f : En → R} (r : RdE K mg W T t f) : RdS K mg W T (tAsg t (gName i)) (evSet i f) := by
  refine fun ex B e σ H D s q => r ex B [] e σ H _ s ?_
  unfold evSet at q
  cases hf : f e with
  | bad => rw [hf] at q; exact q
  | exn c e1 => rw [hf] at q; exact fun cls H' hc x' s' => q cls σ H' hc x' s'
  | ok v e1 =>
    rw [hf] at q
    cases v with
    | fz d => exact fun y H' x' s' ry => q _ H' x' (s'.setFz ry)
    | ow d => exact fun y H' x' s' ry => q _ H' x' (s'.setOw ry)
theorem snds_set {i : Nat} {st : Stmt} {a : Expr} {f : En → R} (h : SndE X K mg W T a f) (mk : ∀ j t, PE (X j) a t → PS (X j) st (tAsg t (gName i))) : SndS X K mg W T st (evSet i f) := by
  obtain ⟨t, p, r⟩ := h
  exact ⟨_, fun j => mk j _ (p j), rd_set r⟩
/-- a target of several names, from a tuple that is one value -/
def evAsg (st : PyData → En → Option En) (f : En → R) : En → O := fun e => (f e).bndO fun d e1 => match st d e1 with
  | some e2 => .nx e2
  | none => .bad
theorem snds_asg {tg a : Expr} {pos : Pos} {st : PyData → En → Option En} {is : List Nat} {f : En → R} (hg : SndG X K tg st is) (h : SndD X K mg W T a f) (hs : ∀ j, swapsWithSole [tg] a pos.line (X j).env = pure false := by intro _; rfl) (hw : ∀ j, swappedStores [tg] a (X j).env = pure none := by intro _; rfl)
    (h1 : ∀ j, (assignEach [tg] (X j).env).map (·.2) = [assign tg (X j).env] := by intro _; rfl) : SndS X K mg W T (.Assign [tg] a pos) (evAsg st f) := by
  obtain ⟨t, p, r⟩ := h
  obtain ⟨g, pg, rg⟩ := hg
  refine ⟨_, fun j => ps_asg (p j) (pg j) (hs j) (hw j) (h1 j), fun ex B e σ H D s q => r ex B [] e σ H _ s ?_⟩
  have step : ∀ d e1, PostS K mg W T ex B H D (match st d e1 with | some e2 => .nx e2 | none => .bad) → ∀ y H', Ext H H' → Sim K T ex B [] e1 σ H' → Fz K H' d y → g y σ H' D.nx := fun d e1 q y H1 x1 s1 r1 => by
    cases hst : st d e1 with
    | none => rw [hst] at q; exact False.elim q
    | some e2 =>
      rw [hst] at q
      exact rg T ex B [] e1 σ H1 y d _ s1 r1 ⟨e2, hst, fun σ' s' _ _ => q σ' H1 x1 s'⟩
  unfold evAsg at q
  cases hf : f e with
  | bad => rw [hf] at q; exact q
  | exn c e1 => rw [hf] at q; exact fun cls H' hc x' s' => q cls σ H' hc x' s'
  | ok v e1 =>
    rw [hf] at q
    cases v with
    | fz d => exact step d e1 q
    | ow d => exact step d e1 q
def slOf : Vl → Sl
  | .fz d => .fz d
  | .ow d => .ow d
/-- a, b = x, y -/
def evPar (i j : Nat) (f g : En → R) : En → O := fun e => match f e with
  | .ok v e1 => (match g e1 with
    | .ok w e2 => .nx ((e2.set i (slOf v)).set j (slOf w))
    | .exn c e2 => .exn c e2
    | .bad => .bad)
  | .exn c e1 => .exn c e1
  | .bad => .bad
theorem Sim.setV {K : PySem.W.Frag} {ex : Option Addr} {B : Hp} {P : List (Addr × PyData)} {e : En} {σ : L2.St} {H : Hp} {i : Nat} {v : V} {d : Vl} (s : Sim K T ex B P e σ H) (hv : VRep K B P e σ H v d) : Sim K T ex B P (e.set i (slOf d)) (σ.set i (some v)) H := by
  cases d with
  | fz d => exact s.setFz hv
  | ow d => exact s.setOw hv
/-- two values, the first one held by no slot while the second one comes -/
theorem rd_par {i j : Nat} {t u : TE} {f g : En → R} (hij : i ≠ j) (r : RdE K mg W T t f) (r' : RdE K mg W T u g) : RdS K mg W T (tPar i j (tCons t (tCons u tNil))) (evPar i j f g) := by
  refine fun ex B e σ H D s q => r ex B [] e σ H _ s ?_
  unfold evPar at q
  cases hf : f e with
  | bad => rw [hf] at q; exact q
  | exn c e1 => rw [hf] at q; exact fun cls H' hc x' s' => q cls σ H' hc x' s'
  | ok v e1 =>
    rw [hf] at q
    intro y H1 x1 s1 r1
    show u σ H1 fun x H2 => (∃ v_1 w, [y, x] = [v_1, w] ∧ D.nx ((σ.set i (some v_1)).set j (some w)) H2)
    have q : PostS K mg W T ex B H D (match g e1 with | .ok w e2 => .nx ((e2.set i (slOf v)).set j (slOf w)) | .exn c e2 => .exn c e2 | .bad => .bad) := q
    cases v with
    | fz d =>
      refine r' ex B [] e1 σ H1 _ s1 ?_
      cases hg : g e1 with
      | bad => rw [hg] at q; exact q
      | exn c e2 => rw [hg] at q; exact fun cls H' hc x' s' => q cls σ H' hc (x1.trans x') s'
      | ok w e2 =>
        rw [hg] at q
        intro z H2 x2 s2 r2
        refine ⟨y, z, rfl, q _ H2 (x1.trans x2) ?_⟩
        have sA : Sim K T ex B [] (e2.set i (.fz d)) (σ.set i (some y)) H2 := s2.setFz (Fz.ext x2 _ _ r1)
        refine sA.setV ?_
        cases w with
        | fz d2 => exact r2
        | ow d2 =>
          obtain ⟨a, rfl, ho, hB, n1, n2⟩ := r2
          refine ⟨a, rfl, ho, hB, fun k d' hk => ?_, n2⟩
          rcases set_at hk with ⟨_, z, _⟩ | ⟨z, hk⟩
          · cases z
          · rw [List.getElem?_set_ne z]; exact n1 k d' hk
    | ow d =>
      obtain ⟨a, rfl, _⟩ := id r1
      have sP := s1.push r1
      refine r' ex B [(a, d)] e1 σ H1 _ sP ?_
      cases hg : g e1 with
      | bad => rw [hg] at q; exact q
      | exn c e2 => rw [hg] at q; exact fun cls H' hc x' s' => q cls σ H' hc (x1.trans x') s'.pop.1
      | ok w e2 =>
        rw [hg] at q
        intro z H2 x2 s2 r2
        obtain ⟨s3, rA⟩ := s2.pop
        refine ⟨_, z, rfl, q _ H2 (x1.trans x2) ?_⟩
        have sA : Sim K T ex B [] (e2.set i (.ow d)) (σ.set i (some (.ref a))) H2 := s3.setOw rA
        refine sA.setV ?_
        cases w with
        | fz d2 => exact r2
        | ow d2 =>
          obtain ⟨b, rfl, ho, hB, n1, n2⟩ := r2
          refine ⟨b, rfl, ho, hB, fun k d' hk z => ?_, fun p hp => absurd hp (by simp)⟩
          rcases set_at hk with ⟨e0, q0, hl⟩ | ⟨e0, hk⟩
          · subst e0
            rw [List.getElem?_set_self (by rw [← s3.len]; exact hl)] at z
            cases z
            exact n2 (_, d) List.mem_cons_self rfl
          · rw [List.getElem?_set_ne e0] at z
            exact n1 k d' hk z
theorem snds_par {i j : Nat} {a b : Expr} {f g : En → R} {st : Stmt} (hij : i ≠ j) (ha : SndE X K mg W T a f) (hb : SndE X K mg W T b g) (mk : ∀ k t, PA (X k) [a, b] t → PS (X k) st (tPar i j t))
    (h1 : ∀ k, starEach [a, b] (X k).env = (false, eval a (X k).env) :: starEach [b] (X k).env := by intro _; rfl) (h2 : ∀ k, starEach [b] (X k).env = (false, eval b (X k).env) :: starEach [] (X k).env := by intro _; rfl) :
    SndS X K mg W T st (evPar i j f g) := by
  obtain ⟨t, p, r⟩ := ha
  obtain ⟨u, p', r'⟩ := hb
  exact ⟨_, fun k => mk k _ (pa_cons (p k) (pa_cons (p' k) pa_nil (h2 k)) (h1 k)), rd_par hij r r'⟩
/-- x op= e -/
def evAug (i : Nat) (g : PyData → PyData → Option PyData) (f : En → R) : En → O := fun e => match e[i]? with
  | some (.fz d) => (f e).bndO fun d2 e1 => match g d d2 with
    | some d3 => .nx (e1.set i (.fz d3))
    | none => .bad
  | _ => .bad
theorem snds_aug {i : Nat} {a : Expr} {st : Stmt} {r : R2} {g : PyData → PyData → Option PyData} {f : En → R} (h : SndD X K mg W T a f) (hf : OpF K r g) (mk : ∀ j t, PE (X j) a t → PS (X j) st (tAug i t r)) : SndS X K mg W T st (evAug i g f) := by
  obtain ⟨t, p, rd⟩ := h
  refine ⟨_, fun j => mk j _ (p j), fun ex B e σ H D s q => ?_⟩
  unfold evAug at q
  cases he : e[i]? with
  | none => rw [he] at q; exact False.elim q
  | some y =>
    rw [he] at q
    cases y with
    | emp => exact False.elim q
    | ow d => exact False.elim q
    | io d => exact False.elim q
    | fz d =>
      obtain ⟨v, hv, rv⟩ := s.fz i d he
      have step : ∀ d2 e1, PostS K mg W T ex B H D (match g d d2 with | some d3 => .nx (e1.set i (.fz d3)) | none => .bad) → ∀ y H', Ext H H' → Sim K T ex B [] e1 σ H' → Fz K H' d2 y → r v y H' fun z H2 => D.nx (σ.set i (some z)) H2 := fun d2 e1 q y H1 x1 s1 r1 => by
        cases hg : g d d2 with
        | none => rw [hg] at q; exact False.elim q
        | some d3 =>
          rw [hg] at q
          exact hf v y d d2 d3 H1 _ (.inl (Fz.ext x1 _ _ rv)) (.inl r1) hg (s1.newV fun z H2 x2 s2 r2 => q _ H2 (x1.trans x2) (s2.setFz r2))
      refine ⟨v, hv, rd ex B [] e σ H _ s ?_⟩
      have q : PostS K mg W T ex B H D ((f e).bndO fun d2 e1 => match g d d2 with | some d3 => .nx (e1.set i (.fz d3)) | none => .bad) := q
      cases hf' : f e with
      | bad => rw [hf'] at q; exact q
      | exn c e1 => rw [hf'] at q; exact fun cls H' hc x' s' => q cls σ H' hc x' s'
      | ok w e1 =>
        rw [hf'] at q
        cases w with
        | fz d2 => exact step d2 e1 q
        | ow d2 => exact step d2 e1 q

/-! ### loops -/
/-- J hands out the items, one a turn, from H1 on -/
def ItOf (K : PySem.W.Frag) (J : It) (H1 : Hp) (items : List PyData) : Prop := ∀ H, Ext H1 H → ∀ i : Nat,
  (∀ d, items[i]? = some d → J.go i H ∧ ∀ x H', J.yld i H x H' → (H' = H ∨ ∃ p o, H p = none ∧ H' = upd H p o) ∧ Fz K H' d x) ∧ (items.length ≤ i → J.stop i H)
def PostI (K : PySem.W.Frag) (mg : Str → Option Value) (W : WX) (T : List (Addr × Str)) (ex : Option Addr) (B : Hp) (P : List (Addr × PyData)) (σ : L2.St) (H0 : Hp) (Q : It → Hp → Prop) : RA → Prop
  | .ok items e => ∀ J H', Ext H0 H' → Sim K T ex B P e σ H' → ItOf K J H' items → Q J H'
  | .exn c e => ∀ cls H', mg c = some cls → Ext H0 H' → Sim K T ex B P e σ H' → W cls none σ H'
  | .bad => False
def RdI (K : PySem.W.Frag) (mg : Str → Option Value) (W : WX) (T : List (Addr × Str)) (wi : TI) (f : En → RA) : Prop := ∀ ex B P e σ H Q, Sim K T ex B P e σ H → PostI K mg W T ex B P σ H Q (f e) → wi σ H Q
def SndI {ι : Type} (X : ι → Cx) (K : PySem.W.Frag) (mg : Str → Option Value) (W : WX) (T : List (Addr × Str)) (tg iter : Expr) (f : En → RA) : Prop := ∃ wi, (∀ i, PI (X i) tg iter wi) ∧ RdI K mg W T wi f
def evLoop (st : PyData → En → Option En) (body : En → O) : List PyData → En → O
  | [], e => .nx e
  | d :: r, e => match st d e with
    | none => .bad
    | some e1 => match body e1 with
      | .nx e2 => evLoop st body r e2
      | .cnt e2 => evLoop st body r e2
      | .brk e2 => .nx e2
      | .ret v e2 => .ret v e2
      | .exn c e2 => .exn c e2
      | .bad => .bad
def evFor (f : En → RA) (st : PyData → En → Option En) (body : En → O) : En → O := fun e => match f e with
  | .ok items e1 => evLoop st body items e1
  | .exn c e1 => .exn c e1
  | .bad => .bad
theorem Sim.yield {K : PySem.W.Frag} {ex : Option Addr} {B : Hp} {P : List (Addr × PyData)} {e : En} {σ : L2.St} {H H' : Hp} (s : Sim K T ex B P e σ H) (h : H' = H ∨ ∃ p o, H p = none ∧ H' = upd H p o) : Ext H H' ∧ Sim K T ex B P e σ H' := by
  rcases h with rfl | ⟨p, xs, hp, rfl⟩
  · exact ⟨Ext.refl _, s⟩
  · exact ⟨(Chg.fresh _ hp).ext, s.new hp _⟩
theorem snds_for {tg iter : Expr} {body : List Stmt} {pos : Pos} {f : En → RA} {st : PyData → En → Option En} {is : List Nat} {b : En → O} (hp : ∀ j, PassesOwn (model (X j).prog (X j).w) (X j).A (X j).env (X j).xe) (hc : ∀ j, (X j).calm = true) (hi : SndI X K mg W T tg iter f) (hg : SndG X K tg st is) (hb : SndSs X K mg W T body b)
    (hs : ∀ j x, foldedSetIterable iter (X j).env x = pure x := by intro _ _; rfl) : SndS X K mg W T (.For tg iter body [] pos) (evFor f st b) := by
  obtain ⟨wi, pi, ri⟩ := hi
  obtain ⟨g, pg, rg⟩ := hg
  obtain ⟨tb, pb, rb⟩ := hb
  refine ⟨_, fun j => ps_for (hp j) (hc j) (pi j) (pg j) (pb j) (hs j), fun ex B e σ H D s q => ri ex B [] e σ H _ s ?_⟩
  unfold evFor at q
  cases hf : f e with
  | bad => rw [hf] at q; exact q
  | exn c e1 => rw [hf] at q; exact fun cls H' hc x' s' => q cls σ H' hc x' s'
  | ok items e1 =>
    rw [hf] at q
    intro J H1 x1 s1 it
    refine ⟨fun i m σ' H' => m = items.length - i ∧ ∃ e', Ext H1 H' ∧ Sim K T ex B [] e' σ' H' ∧ PostS K mg W T ex B H' D (evLoop st b (items.drop i) e'), ⟨items.length, rfl, e1, Ext.refl _, s1, PostS.shift x1 q⟩, ?_⟩
    rintro i m σ2 H2 ⟨rfl, e2, x2, s2, q2⟩
    cases hd : items[i]? with
    | none =>
      have hl : items.length ≤ i := List.getElem?_eq_none_iff.mp hd
      rw [List.drop_eq_nil_of_le hl] at q2
      exact .inl ⟨(it H2 x2 i).2 hl, q2 σ2 H2 (Ext.refl _) s2⟩
    | some d =>
      obtain ⟨hl, hget⟩ := List.getElem?_eq_some_iff.mp hd
      have hdrop : items.drop i = d :: items.drop (i + 1) := by rw [List.drop_eq_getElem_cons hl, hget]
      rw [hdrop] at q2
      obtain ⟨go, yl⟩ := (it H2 x2 i).1 d hd
      refine .inr ⟨go, fun σ' H' => ∃ e', Ext H1 H' ∧ Sim K T ex B [] e' σ' H' ∧ PostS K mg W T ex B H' D (evLoop st b (items.drop (i + 1)) e'), fun σ' H' h => ⟨items.length - (i + 1), by omega, rfl, h⟩, fun x H3 y => ?_⟩
      obtain ⟨y1, y2⟩ := yl x H3 y
      obtain ⟨x3, s3⟩ := s2.yield y1
      have q2 : PostS K mg W T ex B H2 D (match st d e2 with
        | none => .bad
        | some e1 => match b e1 with
          | .nx e2 => evLoop st b (items.drop (i + 1)) e2
          | .cnt e2 => evLoop st b (items.drop (i + 1)) e2
          | .brk e2 => .nx e2
          | .ret v e2 => .ret v e2
          | .exn c e2 => .exn c e2
          | .bad => .bad) := q2
      cases hst : st d e2 with
      | none => rw [hst] at q2; exact False.elim q2
      | some e3 =>
        rw [hst] at q2
        refine rg T ex B [] e2 σ2 H3 x d _ s3 y2 ⟨e3, hst, fun σ4 s4 _ _ => rb ex B e3 σ4 H3 _ s4 ?_⟩
        have q2 : PostS K mg W T ex B H2 D (match b e3 with
          | .nx e2 => evLoop st b (items.drop (i + 1)) e2
          | .cnt e2 => evLoop st b (items.drop (i + 1)) e2
          | .brk e2 => .nx e2
          | .ret v e2 => .ret v e2
          | .exn c e2 => .exn c e2
          | .bad => .bad) := q2
        cases hb : b e3 with
        | nx e4 => rw [hb] at q2; exact fun σ' H' x' s' => ⟨e4, (x2.trans x3).trans x', s', PostS.shift (x3.trans x') q2⟩
        | cnt e4 => rw [hb] at q2; exact fun σ' H' x' s' => ⟨e4, (x2.trans x3).trans x', s', PostS.shift (x3.trans x') q2⟩
        | brk e4 => rw [hb] at q2; exact fun σ' H' x' s' => q2 σ' H' (x3.trans x') s'
        | ret v e4 => rw [hb] at q2; exact fun y σ' H' x' s' => q2 y σ' H' (x3.trans x') s'
        | exn c e4 => rw [hb] at q2; exact fun cls σ' H' hc x' s' => q2 cls σ' H' hc (x3.trans x') s'
        | bad => rw [hb] at q2; exact q2
/-- a while of at most so many turns -/
def evWhile (c : En → R) (body : En → O) : Nat → En → O
  | 0, _ => .bad
  | n + 1, e => match c e with
    | .ok (.fz (.bool true)) e1 => (match body e1 with
      | .nx e2 => evWhile c body n e2
      | .cnt e2 => evWhile c body n e2
      | .brk e2 => .nx e2
      | .ret v e2 => .ret v e2
      | .exn c e2 => .exn c e2
      | .bad => .bad)
    | .ok (.fz (.bool false)) e1 => .nx e1
    | .exn c e1 => .exn c e1
    | _ => .bad
theorem snds_while {c : Expr} {body : List Stmt} {pos : Pos} {k : En → R} {b : En → O} (n : Nat) (hp : ∀ j, PassesOwn (model (X j).prog (X j).w) (X j).A (X j).env (X j).xe) (hc : SndT X K mg W T c k) (hb : SndSs X K mg W T body b) : SndS X K mg W T (.While c body [] pos) (evWhile k b n) := by
  obtain ⟨t, p, r⟩ := hc
  obtain ⟨tb, pb, rb⟩ := hb
  refine ⟨_, fun j => ps_while (hp j) (p j) (pb j), fun ex B e σ H D s q => ?_⟩
  refine ⟨fun m σ' H' => ∃ e', Sim K T ex B [] e' σ' H' ∧ PostS K mg W T ex B H' D (evWhile k b m e'), ⟨n, e, s, q⟩, ?_⟩
  rintro m σ1 H1 ⟨e1, s1, q1⟩
  refine r ex B [] e1 σ1 H1 _ s1 ?_
  cases m with
  | zero => exact False.elim q1
  | succ m =>
    unfold evWhile at q1
    cases hk : k e1 with
    | bad => rw [hk] at q1; exact q1
    | exn c' e' => rw [hk] at q1; exact fun cls H' hc x' s' => q1 cls σ1 H' hc x' s'
    | ok v e2 =>
      rw [hk] at q1
      cases v with
      | ow d => exact False.elim q1
      | fz d =>
        cases d with
        | bool w =>
          intro H2 x2 s2
          cases w with
          | false => exact q1 σ1 H2 x2 s2
          | true =>
            refine ⟨fun σ' H' => ∃ e', Sim K T ex B [] e' σ' H' ∧ PostS K mg W T ex B H' D (evWhile k b m e'), fun σ' H' h => ⟨m, Nat.lt_succ_self m, h⟩, rb ex B e2 σ1 H2 _ s2 ?_⟩
            have q1 : PostS K mg W T ex B H1 D (match b e2 with
              | .nx e2 => evWhile k b m e2
              | .cnt e2 => evWhile k b m e2
              | .brk e2 => .nx e2
              | .ret v e2 => .ret v e2
              | .exn c e2 => .exn c e2
              | .bad => .bad) := q1
            cases hb : b e2 with
            | nx e4 => rw [hb] at q1; exact fun σ' H' x' s' => ⟨e4, s', PostS.shift (x2.trans x') q1⟩
            | cnt e4 => rw [hb] at q1; exact fun σ' H' x' s' => ⟨e4, s', PostS.shift (x2.trans x') q1⟩
            | brk e4 => rw [hb] at q1; exact fun σ' H' x' s' => q1 σ' H' (x2.trans x') s'
            | ret v e4 => rw [hb] at q1; exact fun y σ' H' x' s' => q1 y σ' H' (x2.trans x') s'
            | exn c e4 => rw [hb] at q1; exact fun cls σ' H' hc x' s' => q1 cls σ' H' hc (x2.trans x') s'
            | bad => rw [hb] at q1; exact q1
        | _ => exact False.elim q1
end
end L3
set_option Elab.async false
set_option linter.all false
set_option maxRecDepth 100000
/-! L3Def: a def's function from its body's, calls that write the caller's own thing. -/
namespace L3
open PySem PySem.Spec PyProof.Rows L2 LamX

def env0 (m : Nat) (ds : List PyData) : En := ds.map Sl.fz ++ List.replicate (m - ds.length) Sl.emp
def outF : O → FRes
  | .nx _ => .ok (.fz .none)
  | .ret v _ => .ok v
  | .exn c _ => .exn c
  | _ => .bad
def runDef (m : Nat) (b : En → O) (ds : List PyData) : FRes := outF (b (env0 m ds))
def envIO (m : Nat) (d : PyData) (ds : List PyData) : En := Sl.io d :: (ds.map Sl.fz ++ List.replicate (m - 1 - ds.length) Sl.emp)
def slIO : Option Sl → Option PyData
  | some (.io d) => some d
  | _ => none
theorem slIO_some {o : Option Sl} {d : PyData} (h : slIO o = some d) : o = some (.io d) := by
  unfold slIO at h
  split at h
  · cases h; rfl
  · cases h
def withIO (r : FRes) : Option PyData → FRes × PyData
  | some d => (r, d)
  | none => (.bad, .none)
def outIO : O → FRes × PyData
  | .nx e => withIO (.ok (.fz .none)) (slIO e[0]?)
  | .ret v e => withIO (.ok v) (slIO e[0]?)
  | .exn c e => withIO (.exn c) (slIO e[0]?)
  | _ => (.bad, .none)
theorem outIO_nx (e : En) : outIO (.nx e) = withIO (.ok (.fz .none)) (slIO e[0]?) := rfl
theorem outIO_ret (v : Vl) (e : En) : outIO (.ret v e) = withIO (.ok v) (slIO e[0]?) := rfl
theorem outIO_exn (c : Str) (e : En) : outIO (.exn c e) = withIO (.exn c) (slIO e[0]?) := rfl
def runIO (m : Nat) (b : En → O) (d : PyData) (ds : List PyData) : FRes × PyData := outIO (b (envIO m d ds))

theorem FzAll.slot {K : PySem.W.Frag} {H : Hp} : ∀ {ds : List PyData} {vs : List V} {i : Nat} {d : PyData}, FzAll K H ds vs → (ds.map Sl.fz)[i]? = some (.fz d) → ∃ v, (vs.map some)[i]? = some (some v) ∧ Fz K H d v := fun {ds vs i d} h e => by
  rw [List.getElem?_map] at e
  cases q : ds[i]? with
  | none => rw [q] at e; cases e
  | some d' =>
    rw [q] at e
    have e : some (Sl.fz d') = some (Sl.fz d) := e
    cases e
    obtain ⟨x, e1, e2⟩ := h.get q
    exact ⟨x, by rw [List.getElem?_map, e1]; rfl, e2⟩
theorem env0_fz {m : Nat} {ds : List PyData} {i : Nat} {y : Sl} (h : (env0 m ds)[i]? = some y) : (y = .emp) ∨ (i < ds.length ∧ (ds.map Sl.fz)[i]? = some y ∧ ∃ d, y = .fz d) := by
  unfold env0 at h
  by_cases hi : i < ds.length
  · rw [List.getElem?_append_left (by simpa using hi)] at h
    refine .inr ⟨hi, h, ?_⟩
    rw [List.getElem?_map] at h
    cases q : ds[i]? with
    | none => rw [q] at h; cases h
    | some d =>
      rw [q] at h
      have h : some (Sl.fz d) = some y := h
      cases h
      exact ⟨d, rfl⟩
  · rw [List.getElem?_append_right (by simpa using hi)] at h
    have := List.mem_of_getElem? h
    exact .inl (List.eq_of_mem_replicate this)
section
variable {K : PySem.W.Frag} {T : List (Addr × Str)}
theorem sim_start {N : List Str} {ds : List PyData} {vs : List V} {H : Hp} (h : FzAll K H ds vs) (ht : Tabs T H) (hl : ds.length ≤ N.length) : Sim K T none H [] (env0 N.length ds) (L2.start N vs) H where
  len := by
    have := h.length
    simp [env0, L2.start]
    omega
  fz := fun i d e => by
    rcases env0_fz e with z | ⟨hi, e', _⟩
    · cases z
    · obtain ⟨v, e1, e2⟩ := h.slot e'
      refine ⟨v, ?_, e2⟩
      unfold L2.start
      rw [List.getElem?_append_left (by rw [List.length_map, ← h.length]; exact hi)]
      exact e1
  ow := fun i d e => by rcases env0_fz e with z | ⟨_, _, _, z⟩ <;> cases z
  io := fun i d e => by rcases env0_fz e with z | ⟨_, _, _, z⟩ <;> cases z
  pd := fun p hp => absurd hp (by simp)
  d1 := fun i j a d d' e => by rcases env0_fz e with z | ⟨_, _, _, z⟩ <;> cases z
  d2 := fun i a d p e => by rcases env0_fz e with z | ⟨_, _, _, z⟩ <;> cases z
  d3 := by simp
  d4 := fun i j d d' e => by rcases env0_fz e with z | ⟨_, _, _, z⟩ <;> cases z
  fr := Fr.refl _ ht
theorem envIO_at {m : Nat} {d0 : PyData} {ds : List PyData} {i : Nat} {y : Sl} (h : (envIO m d0 ds)[i]? = some y) : (i = 0 ∧ y = .io d0) ∨ (∃ j, i = j + 1 ∧ (env0 (m - 1) ds)[j]? = some y) := by
  unfold envIO at h
  cases i with
  | zero => simp at h; exact .inl ⟨rfl, h.symm⟩
  | succ j => exact .inr ⟨j, rfl, by simpa [env0] using h⟩
theorem sim_startIO {N : List Str} {d0 : PyData} {ds : List PyData} {a : Addr} {vs : List V} {H : Hp} (ho : OwnAt K H a d0) (h : FzAll K H ds vs) (ht : Tabs T H) (hl : ds.length + 1 ≤ N.length) : Sim K T (some a) H [] (envIO N.length d0 ds) (L2.start N (.ref a :: vs)) H where
  len := by
    have := h.length
    simp [envIO, L2.start]
    omega
  fz := fun i d e => by
    rcases envIO_at e with ⟨_, z⟩ | ⟨j, rfl, e⟩
    · cases z
    · rcases env0_fz e with z | ⟨hi, e', _⟩
      · cases z
      · obtain ⟨v, e1, e2⟩ := h.slot e'
        refine ⟨v, ?_, e2⟩
        unfold L2.start
        rw [List.map_cons, List.cons_append, List.getElem?_cons_succ, List.getElem?_append_left (by rw [List.length_map, ← h.length]; exact hi)]
        exact e1
  ow := fun i d e => by
    rcases envIO_at e with ⟨_, z⟩ | ⟨j, rfl, e⟩
    · cases z
    · rcases env0_fz e with z | ⟨_, _, _, z⟩ <;> cases z
  io := fun i d e => by
    rcases envIO_at e with ⟨rfl, z⟩ | ⟨j, rfl, e⟩
    · cases z
      exact ⟨a, by simp [L2.start], ho, rfl, ho.nbn⟩
    · rcases env0_fz e with z | ⟨_, _, _, z⟩ <;> cases z
  pd := fun p hp => absurd hp (by simp)
  d1 := fun i j a d d' e => by
    rcases envIO_at e with ⟨_, z⟩ | ⟨j, rfl, e⟩
    · cases z
    · rcases env0_fz e with z | ⟨_, _, _, z⟩ <;> cases z
  d2 := fun i a d p e => by
    rcases envIO_at e with ⟨_, z⟩ | ⟨j, rfl, e⟩
    · cases z
    · rcases env0_fz e with z | ⟨_, _, _, z⟩ <;> cases z
  d3 := by simp
  d4 := fun i j d d' e1 e2 => by
    rcases envIO_at e1 with ⟨rfl, _⟩ | ⟨_, rfl, e1⟩
    · rcases envIO_at e2 with ⟨rfl, _⟩ | ⟨_, rfl, e2⟩
      · rfl
      · rcases env0_fz e2 with z | ⟨_, _, _, z⟩ <;> cases z
    · rcases env0_fz e1 with z | ⟨_, _, _, z⟩ <;> cases z
  fr := Fr.refl _ ht
end
section
variable {P : Program} {w : World} {K : PySem.W.Frag} {mg : Str → Option Value} {base : Heap} {T : List (Addr × Str)}
abbrev WD (E : XK) : WX := fun cls d _ H' => E cls d H'
abbrev cxF (P : Program) (w : World) (K : PySem.W.Frag) (mg : Str → Option Value) (base : Heap) (N : List Str) (qual : Str) (scope : Scope) (f : Addr) (cd : Value) (A : Around) (outer : List Env) (s : Shared) (H : Hp) (E : XK) : Cx := cxOf (L2.CX P w) P w K mg base N qual scope f cd A outer s H E
section
variable {N : List Str} {qual : Str} {scope : Scope} {f : Addr} {cd : Value} {A : Around} {outer : List Env} {s : Shared} {H : Hp} {E : XK}
theorem cxF_takes : Takes (cxF P w K mg base N qual scope f cd A outer s H E) (WD E) := takes_of rfl rfl rfl rfl
theorem cxF_passes : PassesOwn (model P w) (cxF P w K mg base N qual scope f cd A outer s H E).A (cxF P w K mg base N qual scope f cd A outer s H E).env (cxF P w K mg base N qual scope f cd A outer s H E).xe := passes_of (X := cxF P w K mg base N qual scope f cd A outer s H E) rfl
end
theorem fn_F {x qual : Str} {st : Stmt} {f : Addr} {fd : FuncData} {N ps : List Str} {k : Nat} {b : En → O} (F : Fun K x qual st f fd) (S : FnScope N ps (defScope st)) (hN : ps.length ≤ N.length)
    (hb : ∀ (cdv : Value) (A : Around) (outer : List Env) (s : Shared) (H : Hp) (E : XK), Room k (A.deeper (envOfC qual (defScope st) s.heap.objs.size f cdv)) → SndSs (fun _ : Unit => cxF P w K mg base N qual (defScope st) f cdv A outer s H E) K mg (WD E) T (defBody st) b) :
    FnOk P w K mg base (L2.CX P w) (k + 1) f fd ps (spF K mg T ps.length (runDef N.length b)) := by
  refine F.okX S (fun vs H Q E h => ?_) (fun cdv A outer s H vs Q E hr h => ?_)
  · obtain ⟨ds, hl, hf, _⟩ := h
    rw [← hf.length, hl]
  · obtain ⟨t, p, r⟩ := hb cdv A outer s H E hr
    obtain ⟨ds, hl, hf, ht, hp⟩ := h
    refine ⟨t, p (), r none H (env0 N.length ds) (L2.start N vs) H _ (sim_start hf ht (by omega)) ?_⟩
    unfold runDef at hp
    cases q : b (env0 N.length ds) with
    | nx e => rw [q] at hp; exact fun σ' H' x' s' => hp .non H' s'.fr trivial (by simp only [Fz])
    | ret v e =>
      rw [q] at hp
      intro y σ' H' x' s' ry
      cases v with
      | fz d => exact hp y H' s'.fr trivial ry
      | ow d =>
        obtain ⟨a, rfl, ho, hB, _⟩ := ry
        exact hp a H' s'.fr trivial ho hB
    | exn c e => rw [q] at hp; exact fun cls σ' H' hc x' s' => hp cls H' hc s'.fr trivial
    | brk e => rw [q] at hp; exact False.elim hp
    | cnt e => rw [q] at hp; exact False.elim hp
    | bad => rw [q] at hp; exact False.elim hp
theorem fn_IO {x qual : Str} {st : Stmt} {f : Addr} {fd : FuncData} {N ps : List Str} {k n : Nat} {b : En → O} (F : Fun K x qual st f fd) (S : FnScope N ps (defScope st)) (hN : ps.length ≤ N.length) (hn : n + 1 = ps.length)
    (hb : ∀ (cdv : Value) (A : Around) (outer : List Env) (s : Shared) (H : Hp) (E : XK), Room k (A.deeper (envOfC qual (defScope st) s.heap.objs.size f cdv)) → SndSs (fun _ : Unit => cxF P w K mg base N qual (defScope st) f cdv A outer s H E) K mg (WD E) T (defBody st) b) :
    FnOk P w K mg base (L2.CX P w) (k + 1) f fd ps (spIO K mg T n (runIO N.length b)) := by
  refine F.okX S (fun vs H Q E h => ?_) (fun cdv A outer s H vs Q E hr h => ?_)
  · obtain ⟨a, d, vs', ds, rfl, _, hl, hf, _⟩ := h
    rw [List.length_cons, ← hf.length, hl, hn]
  · obtain ⟨t, p, r⟩ := hb cdv A outer s H E hr
    obtain ⟨a, d, vs', ds, rfl, ho, hl, hf, ht, hp⟩ := h
    refine ⟨t, p (), r (some a) H (envIO N.length d ds) (L2.start N (.ref a :: vs')) H _ (sim_startIO ho hf ht (by omega)) ?_⟩
    unfold runIO at hp
    have fin : ∀ {e : En} {σ' : L2.St} {H' : Hp} {d' : PyData}, Sim K T (some a) H [] e σ' H' → e[0]? = some (.io d') → OwnAt K H' a d' := fun {e σ' H' d'} s' h0 => by
      obtain ⟨a', _, h1, h2, _⟩ := s'.io 0 d' h0
      cases h2
      exact h1
    cases q : b (envIO N.length d ds) with
    | nx e =>
      rw [q] at hp
      rw [outIO_nx] at hp
      intro σ' H' x' s'
      cases h0 : slIO e[0]? with
      | none => rw [h0] at hp; exact False.elim hp
      | some d' => rw [h0] at hp; exact hp .non H' s'.fr (fin s' (slIO_some h0)) (by simp only [Fz])
    | ret v e =>
      rw [q] at hp
      rw [outIO_ret] at hp
      intro y σ' H' x' s' ry
      cases h0 : slIO e[0]? with
      | none => rw [h0] at hp; exact False.elim hp
      | some d' =>
        rw [h0] at hp
        cases v with
        | fz d2 => exact hp y H' s'.fr (fin s' (slIO_some h0)) ry
        | ow d2 =>
          obtain ⟨a2, rfl, ho2, hB, _⟩ := ry
          exact hp a2 H' s'.fr (fin s' (slIO_some h0)) ho2 hB
    | exn c e =>
      rw [q] at hp
      rw [outIO_exn] at hp
      intro cls σ' H' hc x' s'
      cases h0 : slIO e[0]? with
      | none => rw [h0] at hp; exact False.elim hp
      | some d' => rw [h0] at hp; exact hp cls H' hc s'.fr (fin s' (slIO_some h0))
    | brk e => rw [q] at hp; exact False.elim hp
    | cnt e => rw [q] at hp; exact False.elim hp
    | bad => rw [q] at hp; exact False.elim hp
end

/-! ### a call that writes the thing of a slot -/
def evCallIO (F : PyData → List PyData → FRes × PyData) (i : Nat) (f : En → RA) : En → R := fun e => match e[i]? with
  | some (.ow _) => (f e).bnd fun ds e1 => (match e1[i]? with
    | some (.ow d) => (match (F d ds).1 with
      | .ok v => .ok v (e1.set i (.ow (F d ds).2))
      | .exn c => .exn c (e1.set i (.ow (F d ds).2))
      | .bad => .bad)
    | _ => .bad)
  | some (.io _) => (f e).bnd fun ds e1 => (match e1[i]? with
    | some (.io d) => (match (F d ds).1 with
      | .ok v => .ok v (e1.set i (.io (F d ds).2))
      | .exn c => .exn c (e1.set i (.io (F d ds).2))
      | .bad => .bad)
    | _ => .bad)
  | _ => .bad
section
variable {ι : Type} {X : ι → Cx} {K : PySem.W.Frag} {mg : Str → Option Value} {W : WX} {T : List (Addr × Str)}
theorem VRep.newIO {K : PySem.W.Frag} {B : Hp} {P : List (Addr × PyData)} {e e' : En} {σ : L2.St} {H H' : Hp} {ex : Option Addr} {b a : Addr} {d : PyData} {i : Nat} {x : Sl} (s : Sim K T ex B P e σ H) (hb : Bn H b) (ho : OwnAt K H' b d) (hi : σ[i]? = some (some (.ref a))) (ha : ¬ Bn H a) : VRep K B P (e.set i x) σ H' (.ref b) (.ow d) := by
  obtain ⟨n1, n2, _, n4⟩ := s.nfree hb
  refine ⟨b, rfl, ho, n4, fun j d' h z => ?_, n2⟩
  rcases set_at h with ⟨e0, _, _⟩ | ⟨e0, h⟩
  · subst e0
    rw [hi] at z; cases z
    exact ha hb
  · exact n1 j d' h z
theorem snd_callIO {n i : Nat} {F : PyData → List PyData → FRes × PyData} {c a : Expr} {es : List Expr} {fa : En → RA} (hx : ∀ j, PE (X j) a (tVar i)) (ha : SndA X K mg W T es fa) (mk : ∀ j t, PA (X j) (a :: es) t → PE (X j) c (tCallS (spIO K mg T n F) (WE W) t))
    (hlen : ∀ e ds e', fa e = .ok ds e' → ds.length = n) (he : ∀ j, starEach (a :: es) (X j).env = (false, eval a (X j).env) :: starEach es (X j).env := by intro _; rfl) :
    SndE X K mg W T c (evCallIO F i fa) := by
  obtain ⟨t, pa, r⟩ := ha
  refine ⟨_, fun j => mk j _ (pa_cons (hx j) (pa j) (he j)), fun ex B P e σ H Q s q => ?_⟩
  unfold evCallIO at q
  cases h0 : e[i]? with
  | none => rw [h0] at q; exact False.elim q
  | some y =>
    rw [h0] at q
    cases y with
    | emp => exact False.elim q
    | fz d => exact False.elim q
    | ow d0 =>
      obtain ⟨b, hb1, _⟩ := s.ow i d0 h0
      refine ⟨_, hb1, r ex B P e σ H _ s ?_⟩
      cases hf : fa e with
      | bad => rw [hf] at q; exact q
      | exn c e' => rw [hf] at q; exact q
      | ok ds e1 =>
        rw [hf] at q
        intro ys H1 x1 s1 r1
        have q : PostE K mg W T ex B P σ H Q (match e1[i]? with
          | some (.ow d) => (match (F d ds).1 with
            | .ok v => .ok v (e1.set i (.ow (F d ds).2))
            | .exn c => .exn c (e1.set i (.ow (F d ds).2))
            | .bad => .bad)
          | _ => .bad) := q
        cases h1 : e1[i]? with
        | none => rw [h1] at q; exact False.elim q
        | some y =>
          rw [h1] at q
          cases y with
          | emp => exact False.elim q
          | fz d => exact False.elim q
          | io d => exact False.elim q
          | ow d =>
            obtain ⟨b', hb2, ho, hB⟩ := s1.ow i d h1
            rw [hb1] at hb2; cases hb2
            refine ⟨b, d, ys, ds, rfl, ho, hlen e ds e1 hf, r1, s1.fr.tab, ?_⟩
            have q : PostE K mg W T ex B P σ H Q (match (F d ds).1 with
            | .ok v => .ok v (e1.set i (.ow (F d ds).2))
            | .exn c => .exn c (e1.set i (.ow (F d ds).2))
            | .bad => .bad) := q
            cases hF : (F d ds).1 with
            | bad => rw [hF] at q; exact q
            | exn c => rw [hF] at q; exact fun cls H' hc fr ho' => q cls H' hc (x1.trans fr.ext) (s1.writeCall h1 hb1 fr ho')
            | ok v =>
              rw [hF] at q
              cases v with
              | fz d2 => exact fun y H' fr ho' ry => q y H' (x1.trans fr.ext) (s1.writeCall h1 hb1 fr ho') ry
              | ow d2 => exact fun b2 H' fr ho' ho2 hb2 => q _ H' (x1.trans fr.ext) (s1.writeCall h1 hb1 fr ho') (VRep.newIO (e' := e) s1 hb2 ho2 hb1 ho.nbn)
    | io d0 =>
      obtain ⟨b, hb1, _⟩ := s.io i d0 h0
      refine ⟨_, hb1, r ex B P e σ H _ s ?_⟩
      cases hf : fa e with
      | bad => rw [hf] at q; exact q
      | exn c e' => rw [hf] at q; exact q
      | ok ds e1 =>
        rw [hf] at q
        intro ys H1 x1 s1 r1
        have q : PostE K mg W T ex B P σ H Q (match e1[i]? with
          | some (.io d) => (match (F d ds).1 with
            | .ok v => .ok v (e1.set i (.io (F d ds).2))
            | .exn c => .exn c (e1.set i (.io (F d ds).2))
            | .bad => .bad)
          | _ => .bad) := q
        cases h1 : e1[i]? with
        | none => rw [h1] at q; exact False.elim q
        | some y =>
          rw [h1] at q
          cases y with
          | emp => exact False.elim q
          | fz d => exact False.elim q
          | ow d => exact False.elim q
          | io d =>
            obtain ⟨b', hb2, ho, hB⟩ := s1.io i d h1
            rw [hb1] at hb2; cases hb2
            refine ⟨b, d, ys, ds, rfl, ho, hlen e ds e1 hf, r1, s1.fr.tab, ?_⟩
            have q : PostE K mg W T ex B P σ H Q (match (F d ds).1 with
            | .ok v => .ok v (e1.set i (.io (F d ds).2))
            | .exn c => .exn c (e1.set i (.io (F d ds).2))
            | .bad => .bad) := q
            cases hF : (F d ds).1 with
            | bad => rw [hF] at q; exact q
            | exn c => rw [hF] at q; exact fun cls H' hc fr ho' => q cls H' hc (x1.trans fr.ext) (s1.writeIo h1 hb1 fr ho')
            | ok v =>
              rw [hF] at q
              cases v with
              | fz d2 => exact fun y H' fr ho' ry => q y H' (x1.trans fr.ext) (s1.writeIo h1 hb1 fr ho') ry
              | ow d2 => exact fun b2 H' fr ho' ho2 hb2 => q _ H' (x1.trans fr.ext) (s1.writeIo h1 hb1 fr ho') (VRep.newIO (e' := e) s1 hb2 ho2 hb1 ho.nbn)
end
end L3
set_option Elab.async false
set_option linter.all false
set_option maxRecDepth 100000
/-! L3Comp: list comprehensions with one and two fors. -/
namespace L3
open PySem PySem.Spec PyProof.Rows L2 LamX

abbrev W0 : WX := fun _ _ _ _ => False
/-- the contexts of a comprehension's block -/
abbrev BlkI (ι : Type) : Type := ι × Shared × Hp × Addr × List (Str × Addr) × List Addr
abbrev blkF {ι : Type} (X : ι → Cx) (scope : Scope) : BlkI ι → Cx := fun p => (X p.1).blk p.2.1 p.2.2.1 scope (compEnvC scope p.2.2.2.2.1 p.2.2.2.1 (X p.1).env) p.2.2.2.2.2
def wipeE (e : En) : List Nat → En
  | [] => e
  | v :: vs => (wipeE e vs).set v .emp
def keepFz : Option Sl → Sl
  | some (.fz d) => .fz d
  | _ => .emp
/-- behind a block: its own names' slots as they were (own things in them are forgotten) -/
def restE (e0 : En) : List Nat → En → En
  | [], e => e
  | v :: vs, e => (restE e0 vs e).set v (keepFz e0[v]?)
section
variable {K : PySem.W.Frag} {T : List (Addr × Str)} {ex : Option Addr} {B : Hp} {P : List (Addr × PyData)} {e : En} {σ : L2.St} {H : Hp}
theorem Sim.setEmp {i : Nat} {x : Option V} (s : Sim K T ex B P e σ H) : Sim K T ex B P (e.set i .emp) (σ.set i x) H := by
  have ne : ∀ {j : Nat}, i ≠ j → (σ.set i x)[j]? = σ[j]? := fun {j} z => List.getElem?_set_ne z
  have at_ : ∀ {j : Nat} {y : Sl}, (e.set i .emp)[j]? = some y → y ≠ .emp → i ≠ j ∧ e[j]? = some y := fun {j y} h n => by
    rcases set_at h with ⟨_, q, _⟩ | q
    · exact absurd q.symm n
    · exact q
  refine ⟨by simp [s.len], fun j d h => ?_, fun j d h => ?_, fun j d h => ?_, s.pd, fun j k b d1 d2 h1 h2 h3 h4 => ?_, fun j b d1 p h1 h2 hp => ?_, s.d3, fun j k d1 d2 h1 h2 => ?_, s.fr⟩
  · obtain ⟨z, q⟩ := at_ h (by simp)
    rw [ne z]; exact s.fz j d q
  · obtain ⟨z, q⟩ := at_ h (by simp)
    rw [ne z]; exact s.ow j d q
  · obtain ⟨z, q⟩ := at_ h (by simp)
    rw [ne z]; exact s.io j d q
  · obtain ⟨z1, q1⟩ := at_ h1 (by simp)
    obtain ⟨z2, q2⟩ := at_ h2 (by simp)
    rw [ne z1] at h3
    rw [ne z2] at h4
    exact s.d1 j k b d1 d2 q1 q2 h3 h4
  · obtain ⟨z1, q1⟩ := at_ h1 (by simp)
    rw [ne z1] at h2
    exact s.d2 j b d1 p q1 h2 hp
  · exact s.d4 j k d1 d2 (at_ h1 (by simp)).2 (at_ h2 (by simp)).2
theorem Sim.wipe (s : Sim K T ex B P e σ H) : ∀ vs : List Nat, Sim K T ex B P (wipeE e vs) (L2.wipe σ vs) H
  | [] => s
  | _ :: vs => (s.wipe vs).setEmp
theorem wipe_off {σ : L2.St} {j : Nat} : ∀ {vs : List Nat}, j ∉ vs → (L2.wipe σ vs)[j]? = σ[j]?
  | [], _ => rfl
  | v :: vs, h => by
    rw [List.mem_cons, not_or] at h
    show ((L2.wipe σ vs).set v none)[j]? = _
    rw [List.getElem?_set_ne (Ne.symm h.1)]
    exact wipe_off h.2
theorem wipe_in {σ : L2.St} {j : Nat} : ∀ {vs : List Nat}, j ∈ vs → (L2.wipe σ vs)[j]? = if j < σ.length then some none else none
  | v :: vs, h => by
    show ((L2.wipe σ vs).set v none)[j]? = _
    by_cases z : v = j
    · subst z
      by_cases hl : v < σ.length
      · rw [List.getElem?_set_self (by rw [L2.wipe_length]; exact hl), if_pos hl]
      · rw [List.getElem?_eq_none (by rw [List.length_set, L2.wipe_length]; omega), if_neg hl]
    · rw [List.getElem?_set_ne z]
      rcases List.mem_cons.mp h with q | q
      · exact absurd q.symm z
      · exact wipe_in q
theorem wipe_eq {σ σ' : L2.St} {vs : List Nat} (h : ∀ j, j ∉ vs → σ'[j]? = σ[j]?) (hl : σ'.length = σ.length) : L2.wipe σ' vs = L2.wipe σ vs := by
  apply List.ext_getElem?
  intro j
  by_cases hj : j ∈ vs
  · rw [wipe_in hj, wipe_in hj, hl]
  · rw [wipe_off hj, wipe_off hj, h j hj]
theorem wipe_wipe {σ : L2.St} {vs vs1 : List Nat} (h : ∀ i ∈ vs1, i ∈ vs) : L2.wipe (L2.wipe σ vs1) vs = L2.wipe σ vs :=
  wipe_eq (fun j hj => wipe_off fun z => hj (h j z)) (L2.wipe_length _ _)
theorem restE_at {e0 : En} {j : Nat} {y : Sl} : ∀ {vs : List Nat} {e : En}, (restE e0 vs e)[j]? = some y → (j ∈ vs ∧ y = keepFz e0[j]?) ∨ (j ∉ vs ∧ e[j]? = some y)
  | [], e, h => .inr ⟨by simp, h⟩
  | v :: vs, e, h => by
    rcases set_at (e := restE e0 vs e) h with ⟨q1, q2, _⟩ | ⟨q1, q2⟩
    · subst q1; exact .inl ⟨List.mem_cons_self, q2.symm⟩
    · rcases restE_at q2 with ⟨q3, q4⟩ | ⟨q3, q4⟩
      · exact .inl ⟨List.mem_cons_of_mem _ q3, q4⟩
      · exact .inr ⟨by rw [List.mem_cons, not_or]; exact ⟨Ne.symm q1, q3⟩, q4⟩
theorem restE_length {e0 : En} : ∀ {vs : List Nat} {e : En}, (restE e0 vs e).length = e.length
  | [], e => rfl
  | v :: vs, e => by unfold restE; rw [List.length_set, restE_length]
theorem keepFz_fz {o : Option Sl} {d : PyData} (h : .fz d = keepFz o) : o = some (.fz d) := by
  unfold keepFz at h
  split at h
  · cases h; rfl
  · cases h
theorem keepFz_no {o : Option Sl} : (∀ d, Sl.ow d ≠ keepFz o) ∧ ∀ d, Sl.io d ≠ keepFz o := by
  unfold keepFz
  split <;> exact ⟨fun _ z => (by cases z), fun _ z => (by cases z)⟩
/-- back from a block -/
theorem Sim.rest {e0 : En} {H0 : Hp} {P0 : List (Addr × PyData)} {vs : List Nat} (s0 : Sim K T ex B P0 e0 σ H0) (x : Ext H0 H) (s : Sim K T ex B P e (L2.wipe σ vs) H) : Sim K T ex B P (restE e0 vs e) σ H := by
  have off : ∀ {j : Nat}, j ∉ vs → (L2.wipe σ vs)[j]? = σ[j]? := fun h => wipe_off h
  refine ⟨by rw [restE_length, s.len, L2.wipe_length], fun j d h => ?_, fun j d h => ?_, fun j d h => ?_, s.pd, fun j k b d1 d2 h1 h2 h3 h4 => ?_, fun j b d1 p h1 h2 hp => ?_, s.d3, fun j k d1 d2 h1 h2 => ?_, s.fr⟩
  · rcases restE_at h with ⟨_, q⟩ | ⟨z, q⟩
    · obtain ⟨v, f1, f2⟩ := s0.fz j d (keepFz_fz q)
      exact ⟨v, f1, Fz.ext x _ _ f2⟩
    · rw [← off z]; exact s.fz j d q
  · rcases restE_at h with ⟨_, q⟩ | ⟨z, q⟩
    · exact absurd q (keepFz_no.1 d)
    · rw [← off z]; exact s.ow j d q
  · rcases restE_at h with ⟨_, q⟩ | ⟨z, q⟩
    · exact absurd q (keepFz_no.2 d)
    · rw [← off z]; exact s.io j d q
  · rcases restE_at h1 with ⟨_, q⟩ | ⟨z1, q1⟩
    · exact absurd q (keepFz_no.1 d1)
    · rcases restE_at h2 with ⟨_, q⟩ | ⟨z2, q2⟩
      · exact absurd q (keepFz_no.1 d2)
      · rw [← off z1] at h3
        rw [← off z2] at h4
        exact s.d1 j k b d1 d2 q1 q2 h3 h4
  · rcases restE_at h1 with ⟨_, q⟩ | ⟨z1, q1⟩
    · exact absurd q (keepFz_no.1 d1)
    · rw [← off z1] at h2
      exact s.d2 j b d1 p q1 h2 hp
  · rcases restE_at h1 with ⟨_, q⟩ | ⟨z1, q1⟩
    · exact absurd q (keepFz_no.2 d1)
    · rcases restE_at h2 with ⟨_, q⟩ | ⟨z2, q2⟩
      · exact absurd q (keepFz_no.2 d2)
      · exact s.d4 j k d1 d2 q1 q2
end

/-! ### the loop -/
def evCLoop (vs : List Nat) (st : PyData → En → Option En) (tt elt : En → R) : List PyData → List PyData → En → RA
  | [], acc, e => .ok acc e
  | d :: r, acc, e => match st d e with
    | none => .bad
    | some e1 => match tt e1 with
      | .ok (.fz (.bool true)) e2 => (match elt e2 with
        | .ok (.fz v) e3 => if acc.length < 16777216 then evCLoop vs st tt elt r (acc ++ [v]) (wipeE e3 vs) else .bad
        | .ok (.ow v) e3 => if acc.length < 16777216 then evCLoop vs st tt elt r (acc ++ [v]) (wipeE e3 vs) else .bad
        | _ => .bad)
      | .ok (.fz (.bool false)) e2 => evCLoop vs st tt elt r acc (wipeE e2 vs)
      | _ => .bad
def evComp (f : En → RA) (vs : List Nat) (st : PyData → En → Option En) (tt elt : En → R) : En → R := fun e => match f e with
  | .ok items e1 => (match evCLoop vs st tt elt items [] (wipeE e1 vs) with
    | .ok acc e2 => .ok (.ow (.list acc)) (restE e1 vs e2)
    | _ => .bad)
  | .exn c e1 => .exn c e1
  | .bad => .bad
def RdG (K : PySem.W.Frag) (g : TG) (st : PyData → En → Option En) (is : List Nat) : Prop := ∀ T ex B P e σ H v d k, Sim K T ex B P e σ H → Fz K H d v →
    (∃ e', st d e = some e' ∧ ∀ σ', Sim K T ex B P e' σ' H → (∀ j, j ∉ is → σ'[j]? = σ[j]?) → σ'.length = σ.length → k σ' H) → g v σ H k
section
variable {K : PySem.W.Frag} {mg : Str → Option Value} {W : WX} {T : List (Addr × Str)}
/-- the loop of a comprehension that puts its items behind those of D -/
theorem rd_cloop {J : It} {g : TG} {tt : TT} {te : TE} {vs is : List Nat} {st : PyData → En → Option En} {ft fe : En → R} {items : List PyData} {ex : Option Addr} {B : Hp} {P : List (Addr × PyData)} {σ : L2.St} {H1 : Hp} {D : Addr} {Qd : Hp → Prop}
    (rg : RdG K g st is) (his : ∀ i ∈ is, i ∈ vs) (rt : RdT K mg W0 T tt ft) (re : RdD K mg W0 T te fe) (it : ItOf K J H1 items) (acc0 : List PyData) (e0 : En) (H2 : Hp) (x2 : Ext H1 H2) (s2 : Sim K T ex B ((D, .list acc0) :: P) e0 (L2.wipe σ vs) H2)
    (hq : ∃ acc e, evCLoop vs st ft fe items acc0 e0 = .ok acc e ∧ ∀ H, Ext H1 H → Sim K T ex B ((D, .list acc) :: P) e (L2.wipe σ vs) H → Qd H) :
    ∃ W : Nat → Nat → Hp → Prop, (∃ m, W 0 m H2) ∧ ∀ i m H, W i m H → (J.stop i H ∧ Qd H) ∨ (J.go i H ∧ ∃ Nx : Hp → Prop, (∀ H', Nx H' → ∃ m', m' < m ∧ W (i + 1) m' H') ∧ ∀ x H', J.yld i H x H' → g x (L2.wipe σ vs) H' fun σ2 H2 => L2.wipe σ2 vs = L2.wipe σ vs ∧ tt σ2 H2 fun b H3 =>
      if b = true then te σ2 H3 fun y H4 => ∃ acc, H4 D = some (.lst acc) ∧ acc.length < sizeLine ∧ Nx (upd H4 D (.lst (acc ++ [y]))) else Nx H3) := by
  obtain ⟨accF, eF, hF, hQ⟩ := hq
  refine ⟨fun i m H => m = items.length - i ∧ ∃ acc e, Ext H1 H ∧ Sim K T ex B ((D, .list acc) :: P) e (L2.wipe σ vs) H ∧ evCLoop vs st ft fe (items.drop i) acc e = .ok accF eF, ⟨items.length, rfl, acc0, e0, x2, s2, hF⟩, ?_⟩
  rintro i m H ⟨rfl, acc, e, x, s, hev⟩
  cases hd : items[i]? with
  | none =>
    have hl : items.length ≤ i := List.getElem?_eq_none_iff.mp hd
    rw [List.drop_eq_nil_of_le hl] at hev
    have hev : RA.ok acc e = .ok accF eF := hev
    cases hev
    exact .inl ⟨(it H x i).2 hl, hQ H x s⟩
  | some d =>
    obtain ⟨hl, hget⟩ := List.getElem?_eq_some_iff.mp hd
    have hdrop : items.drop i = d :: items.drop (i + 1) := by rw [List.drop_eq_getElem_cons hl, hget]
    rw [hdrop] at hev
    obtain ⟨go, yl⟩ := (it H x i).1 d hd
    refine .inr ⟨go, fun H' => ∃ acc e, Ext H1 H' ∧ Sim K T ex B ((D, .list acc) :: P) e (L2.wipe σ vs) H' ∧ evCLoop vs st ft fe (items.drop (i + 1)) acc e = .ok accF eF, fun H' h => ⟨items.length - (i + 1), by omega, rfl, h⟩, fun y H3 hy => ?_⟩
    obtain ⟨y1, y2⟩ := yl y H3 hy
    obtain ⟨x3, s3⟩ := s.yield y1
    unfold evCLoop at hev
    cases hst : st d e with
    | none => rw [hst] at hev; cases hev
    | some e1 =>
      rw [hst] at hev
      refine rg T ex B _ e _ H3 y d _ s3 y2 ⟨e1, hst, fun σ4 s4 o4 l4 => ?_⟩
      have hw : L2.wipe σ4 vs = L2.wipe σ vs := by
        rw [wipe_eq (σ := L2.wipe σ vs) (fun j hj => o4 j fun z => hj (his j z)) l4]
        exact wipe_wipe fun _ h => h
      refine ⟨hw, rt ex B _ e1 σ4 H3 _ s4 ?_⟩
      have back : ∀ {e : En} {P : List (Addr × PyData)} {H : Hp}, Sim K T ex B P e σ4 H → Sim K T ex B P (wipeE e vs) (L2.wipe σ vs) H := fun {e P H} s => by
        have q := s.wipe vs
        rw [hw] at q
        exact q
      have hev : (match ft e1 with
      | .ok (.fz (.bool true)) e2 => (match fe e2 with
        | .ok (.fz v) e3 => if acc.length < 16777216 then evCLoop vs st ft fe (items.drop (i + 1)) (acc ++ [v]) (wipeE e3 vs) else .bad
        | .ok (.ow v) e3 => if acc.length < 16777216 then evCLoop vs st ft fe (items.drop (i + 1)) (acc ++ [v]) (wipeE e3 vs) else .bad
        | _ => .bad)
      | .ok (.fz (.bool false)) e2 => evCLoop vs st ft fe (items.drop (i + 1)) acc (wipeE e2 vs)
      | _ => .bad) = RA.ok accF eF := hev
      cases ht : ft e1 with
      | bad => rw [ht] at hev; cases hev
      | exn c e2 => rw [ht] at hev; cases hev
      | ok v e2 =>
        rw [ht] at hev
        cases v with
        | ow d => cases hev
        | fz d =>
          cases d with
          | bool b =>
            intro H4 x4 s5
            cases b with
            | false =>
              rw [if_neg Bool.false_ne_true]
              exact ⟨acc, _, (x.trans x3).trans x4, back s5, hev⟩
            | true =>
              rw [if_pos rfl]
              have put : ∀ (v : PyData) (e3 : En), (if acc.length < 16777216 then evCLoop vs st ft fe (items.drop (i + 1)) (acc ++ [v]) (wipeE e3 vs) else .bad) = RA.ok accF eF → ∀ y H5, Ext H4 H5 → Sim K T ex B ((D, .list acc) :: P) e3 σ4 H5 → Fz K H5 v y →
                  ∃ xs, H5 D = some (.lst xs) ∧ xs.length < sizeLine ∧ ∃ acc e, Ext H1 (upd H5 D (.lst (xs ++ [y]))) ∧ Sim K T ex B ((D, .list acc) :: P) e (L2.wipe σ vs) (upd H5 D (.lst (xs ++ [y]))) ∧ evCLoop vs st ft fe (items.drop (i + 1)) acc e = .ok accF eF := fun v e3 hev y H5 x5 s6 ry => by
                by_cases hl2 : acc.length < 16777216
                · rw [if_pos hl2] at hev
                  obtain ⟨xs, hD, hxs⟩ := (s6.pd (D, .list acc) List.mem_cons_self).1
                  have c := Chg.own (.lst (xs ++ [y])) hD (.inl ⟨_, rfl⟩)
                  refine ⟨xs, hD, by rw [← hxs.length]; exact line_lt hl2, acc ++ [v], _, (((x.trans x3).trans x4).trans x5).trans c.ext, back (s6.writeP c ⟨_, upd_same, ?_⟩), hev⟩
                  exact (FzAll.ext c.ext _ _ hxs).append (.cons (Fz.ext c.ext _ _ ry) .nil)
                · rw [if_neg hl2] at hev; cases hev
              refine re ex B _ e2 σ4 H4 _ s5 ?_
              have hev : (match fe e2 with
        | .ok (.fz v) e3 => if acc.length < 16777216 then evCLoop vs st ft fe (items.drop (i + 1)) (acc ++ [v]) (wipeE e3 vs) else .bad
        | .ok (.ow v) e3 => if acc.length < 16777216 then evCLoop vs st ft fe (items.drop (i + 1)) (acc ++ [v]) (wipeE e3 vs) else .bad
        | _ => .bad) = RA.ok accF eF := hev
              cases he : fe e2 with
              | bad => rw [he] at hev; cases hev
              | exn c e3 => rw [he] at hev; cases hev
              | ok w e3 =>
                rw [he] at hev
                cases w with
                | fz v => exact put v e3 hev
                | ow v => exact put v e3 hev
          | _ => cases hev
theorem rd_lc {wi : TI} {g : TG} {tt : TT} {te : TE} {vs is : List Nat} {f : En → RA} {st : PyData → En → Option En} {ft fe : En → R} (ri : RdI K mg W T wi f) (rg : RdG K g st is) (his : ∀ i ∈ is, i ∈ vs) (rt : RdT K mg W0 T tt ft) (re : RdD K mg W0 T te fe) :
    RdE K mg W T (tLc wi g tt te vs) (evComp f vs st ft fe) := by
  refine fun ex B P e σ H Q s q => ri ex B P e σ H _ s ?_
  unfold evComp at q
  cases hf : f e with
  | bad => rw [hf] at q; exact q
  | exn c e1 => rw [hf] at q; exact q
  | ok items e1 =>
    rw [hf] at q
    have q : PostE K mg W T ex B P σ H Q (match evCLoop vs st ft fe items [] (wipeE e1 vs) with
    | .ok acc e2 => .ok (.ow (.list acc)) (restE e1 vs e2)
    | _ => .bad) := q
    intro J H1 x1 s1 it D hD
    have sN := (s1.new hD (.lst [])).push (a := D) (d := .list []) (VRep.new s1 (Bn.of hD) ⟨[], upd_same, .nil⟩)
    cases hl : evCLoop vs st ft fe items [] (wipeE e1 vs) with
    | bad => rw [hl] at q; exact False.elim q
    | exn c e2 => rw [hl] at q; exact False.elim q
    | ok acc e2 =>
      rw [hl] at q
      refine rd_cloop rg his rt re it [] (wipeE e1 vs) (upd H1 D (.lst [])) (Chg.fresh _ hD).ext (sN.wipe vs) ⟨acc, e2, hl, fun H2 x2 s2 => ?_⟩
      obtain ⟨s3, r3⟩ := (s1.rest x2 s2).pop
      exact q _ H2 (x1.trans x2) s3 r3

/-! ### two fors -/
def evCLoop2 (vs vs1 : List Nat) (st : PyData → En → Option En) (tt : En → R) (f1 : En → RA) (st1 : PyData → En → Option En) (tt1 elt : En → R) : List PyData → List PyData → En → RA
  | [], acc, e => .ok acc e
  | d :: r, acc, e => match st d e with
    | none => .bad
    | some e1 => match tt e1 with
      | .ok (.fz (.bool true)) e2 => (match f1 e2 with
        | .ok items1 e3 => (match evCLoop vs1 st1 tt1 elt items1 acc (wipeE e3 vs1) with
          | .ok acc' e4 => evCLoop2 vs vs1 st tt f1 st1 tt1 elt r acc' (wipeE e4 vs)
          | _ => .bad)
        | _ => .bad)
      | .ok (.fz (.bool false)) e2 => evCLoop2 vs vs1 st tt f1 st1 tt1 elt r acc (wipeE e2 vs)
      | _ => .bad
def evComp2 (f : En → RA) (vs vs1 : List Nat) (st : PyData → En → Option En) (tt : En → R) (f1 : En → RA) (st1 : PyData → En → Option En) (tt1 elt : En → R) : En → R := fun e => match f e with
  | .ok items e1 => (match evCLoop2 vs vs1 st tt f1 st1 tt1 elt items [] (wipeE e1 vs) with
    | .ok acc e2 => .ok (.ow (.list acc)) (restE e1 vs e2)
    | _ => .bad)
  | .exn c e1 => .exn c e1
  | .bad => .bad
theorem rd_lc2 {wi wi1 : TI} {g g1 : TG} {tt tt1 : TT} {te : TE} {vs vs1 is is1 : List Nat} {f f1 : En → RA} {st st1 : PyData → En → Option En} {ft ft1 fe : En → R} (hv : ∀ i ∈ vs1, i ∈ vs) (ri : RdI K mg W T wi f) (rg : RdG K g st is) (his : ∀ i ∈ is, i ∈ vs) (rt : RdT K mg W0 T tt ft)
    (ri1 : RdI K mg W0 T wi1 f1) (rg1 : RdG K g1 st1 is1) (his1 : ∀ i ∈ is1, i ∈ vs1) (rt1 : RdT K mg W0 T tt1 ft1) (re : RdD K mg W0 T te fe) :
    RdE K mg W T (tLc2 wi g tt wi1 g1 tt1 te vs vs1) (evComp2 f vs vs1 st ft f1 st1 ft1 fe) := by
  refine fun ex B P e σ H Q s q => ri ex B P e σ H _ s ?_
  unfold evComp2 at q
  cases hf : f e with
  | bad => rw [hf] at q; exact q
  | exn c e1 => rw [hf] at q; exact q
  | ok items e1 =>
    rw [hf] at q
    have q : PostE K mg W T ex B P σ H Q (match evCLoop2 vs vs1 st ft f1 st1 ft1 fe items [] (wipeE e1 vs) with
    | .ok acc e2 => .ok (.ow (.list acc)) (restE e1 vs e2)
    | _ => .bad) := q
    intro J H1 x1 s1 it D hD
    have sN := (s1.new hD (.lst [])).push (a := D) (d := .list []) (VRep.new s1 (Bn.of hD) ⟨[], upd_same, .nil⟩)
    cases hl : evCLoop2 vs vs1 st ft f1 st1 ft1 fe items [] (wipeE e1 vs) with
    | bad => rw [hl] at q; exact False.elim q
    | exn c e2 => rw [hl] at q; exact False.elim q
    | ok accF eF =>
      rw [hl] at q
      refine ⟨fun i m H => m = items.length - i ∧ ∃ acc e, Ext H1 H ∧ Sim K T ex B ((D, .list acc) :: P) e (L2.wipe σ vs) H ∧ evCLoop2 vs vs1 st ft f1 st1 ft1 fe (items.drop i) acc e = .ok accF eF, ⟨items.length, rfl, [], _, (Chg.fresh _ hD).ext, sN.wipe vs, hl⟩, ?_⟩
      rintro i m H ⟨rfl, acc, e, x, s, hev⟩
      cases hd : items[i]? with
      | none =>
        have hl : items.length ≤ i := List.getElem?_eq_none_iff.mp hd
        rw [List.drop_eq_nil_of_le hl] at hev
        have hev : RA.ok acc e = .ok accF eF := hev
        cases hev
        obtain ⟨s3, r3⟩ := (s1.rest x s).pop
        exact .inl ⟨(it H x i).2 hl, q _ H (x1.trans x) s3 r3⟩
      | some d =>
        obtain ⟨hl, hget⟩ := List.getElem?_eq_some_iff.mp hd
        have hdrop : items.drop i = d :: items.drop (i + 1) := by rw [List.drop_eq_getElem_cons hl, hget]
        rw [hdrop] at hev
        obtain ⟨go, yl⟩ := (it H x i).1 d hd
        refine .inr ⟨go, fun H' => ∃ acc e, Ext H1 H' ∧ Sim K T ex B ((D, .list acc) :: P) e (L2.wipe σ vs) H' ∧ evCLoop2 vs vs1 st ft f1 st1 ft1 fe (items.drop (i + 1)) acc e = .ok accF eF, fun H' h => ⟨items.length - (i + 1), by omega, rfl, h⟩, fun y H3 hy => ?_⟩
        obtain ⟨y1, y2⟩ := yl y H3 hy
        obtain ⟨x3, s3⟩ := s.yield y1
        unfold evCLoop2 at hev
        cases hst : st d e with
        | none => rw [hst] at hev; cases hev
        | some e1 =>
          rw [hst] at hev
          refine rg T ex B _ e _ H3 y d _ s3 y2 ⟨e1, hst, fun σ4 s4 o4 l4 => ?_⟩
          have hw : L2.wipe σ4 vs = L2.wipe σ vs := by
            rw [wipe_eq (σ := L2.wipe σ vs) (fun j hj => o4 j fun z => hj (his j z)) l4]
            exact wipe_wipe fun _ h => h
          refine ⟨hw, rt ex B _ e1 σ4 H3 _ s4 ?_⟩
          have hev : (match ft e1 with
          | .ok (.fz (.bool true)) e2 => (match f1 e2 with
            | .ok items1 e3 => (match evCLoop vs1 st1 ft1 fe items1 acc (wipeE e3 vs1) with
              | .ok acc' e4 => evCLoop2 vs vs1 st ft f1 st1 ft1 fe (items.drop (i + 1)) acc' (wipeE e4 vs)
              | _ => .bad)
            | _ => .bad)
          | .ok (.fz (.bool false)) e2 => evCLoop2 vs vs1 st ft f1 st1 ft1 fe (items.drop (i + 1)) acc (wipeE e2 vs)
          | _ => .bad) = RA.ok accF eF := hev
          cases ht : ft e1 with
          | bad => rw [ht] at hev; cases hev
          | exn c e2 => rw [ht] at hev; cases hev
          | ok v e2 =>
            rw [ht] at hev
            cases v with
            | ow d => cases hev
            | fz d =>
              cases d with
              | bool b =>
                intro H4 x4 s5
                cases b with
                | false =>
                  rw [if_neg Bool.false_ne_true]
                  refine ⟨acc, _, (x.trans x3).trans x4, ?_, hev⟩
                  have q := s5.wipe vs
                  rw [hw] at q
                  exact q
                | true =>
                  rw [if_pos rfl]
                  have hev : (match f1 e2 with
            | .ok items1 e3 => (match evCLoop vs1 st1 ft1 fe items1 acc (wipeE e3 vs1) with
              | .ok acc' e4 => evCLoop2 vs vs1 st ft f1 st1 ft1 fe (items.drop (i + 1)) acc' (wipeE e4 vs)
              | _ => .bad)
            | _ => .bad) = RA.ok accF eF := hev
                  refine ri1 ex B _ e2 σ4 H4 _ s5 ?_
                  cases hf1 : f1 e2 with
                  | bad => rw [hf1] at hev; cases hev
                  | exn c e3 => rw [hf1] at hev; cases hev
                  | ok items1 e3 =>
                    rw [hf1] at hev
                    have hev : (match evCLoop vs1 st1 ft1 fe items1 acc (wipeE e3 vs1) with
              | .ok acc' e4 => evCLoop2 vs vs1 st ft f1 st1 ft1 fe (items.drop (i + 1)) acc' (wipeE e4 vs)
              | _ => .bad) = RA.ok accF eF := hev
                    intro J1 H5 x5 s6 it1
                    cases hl1 : evCLoop vs1 st1 ft1 fe items1 acc (wipeE e3 vs1) with
                    | bad => rw [hl1] at hev; cases hev
                    | exn c e4 => rw [hl1] at hev; cases hev
                    | ok acc' e4 =>
                      rw [hl1] at hev
                      refine rd_cloop rg1 his1 rt1 re it1 acc (wipeE e3 vs1) H5 (Ext.refl _) (s6.wipe vs1) ⟨acc', e4, hl1, fun H6 x6 s7 => ⟨acc', _, (((x.trans x3).trans x4).trans x5).trans x6, ?_, hev⟩⟩
                      have q := s7.wipe vs
                      rw [wipe_wipe hv, hw] at q
                      exact q
              | _ => cases hev
end
/-! ### the rules -/
def SndPT {ι : Type} (X : ι → Cx) (K : PySem.W.Frag) (mg : Str → Option Value) (T : List (Addr × Str)) (ifs : List Expr) (f : En → R) : Prop := ∃ t, (∀ j, PTs (X j) ifs t) ∧ RdT K mg W0 T t f
section
variable {ι : Type} {X : ι → Cx} {K : PySem.W.Frag} {mg : Str → Option Value} {W : WX} {T : List (Addr × Str)}
theorem snd_pts0 : SndPT X K mg T [] (evC (.bool true)) := ⟨_, fun _ => pts_nil, fun ex B P e σ H Q s q => q H (Ext.refl _) s⟩
theorem snd_pts1 {c : Expr} {f : En → R} (h : SndT X K mg W0 T c f) : SndPT X K mg T [c] f := let ⟨_, p, r⟩ := h; ⟨_, fun j => pts_one (p j), r⟩
theorem snd_lc {elt tg iter : Expr} {ifs : List Expr} {scope : Scope} {c : Expr} {own : List (Str × Nat)} {is : List Nat} {f : En → RA} {st : PyData → En → Option En} {ft fe : En → R} (hi : SndI X K mg W T tg iter f) (hg : SndG (blkF X scope) K tg st is) (ht : SndPT (blkF X scope) K mg T ifs ft) (he : SndD (blkF X scope) K mg W0 T elt fe)
    (his : ∀ i ∈ is, i ∈ own.map (·.2)) (mk : ∀ j wi g tt te, PI (X j) tg iter wi → (∀ s H C cl fp, PG ((X j).blk s H scope (compEnvC scope cl C (X j).env) fp) tg g) → (∀ s H C cl fp, PTs ((X j).blk s H scope (compEnvC scope cl C (X j).env) fp) ifs tt) → (∀ s H C cl fp, PE ((X j).blk s H scope (compEnvC scope cl C (X j).env) fp) elt te) → PE (X j) c (tLc wi g tt te (own.map (·.2)))) :
    SndE X K mg W T c (evComp f (own.map (·.2)) st ft fe) := by
  obtain ⟨wi, pi, ri⟩ := hi
  obtain ⟨g, pg, rg⟩ := hg
  obtain ⟨tt, pt, rt⟩ := ht
  obtain ⟨te, pe, re⟩ := he
  exact ⟨_, fun j => mk j wi g tt te (pi j) (fun s H C cl fp => pg (j, s, H, C, cl, fp)) (fun s H C cl fp => pt (j, s, H, C, cl, fp)) (fun s H C cl fp => pe (j, s, H, C, cl, fp)), rd_lc ri rg his rt re⟩
/-- y = [..] -/
theorem snds_setLc {elt tg iter : Expr} {ifs : List Expr} {scope : Scope} {sm : Stmt} {own : List (Str × Nat)} {i : Nat} {is : List Nat} {f : En → RA} {st : PyData → En → Option En} {ft fe : En → R} (hi : SndI X K mg W T tg iter f) (hg : SndG (blkF X scope) K tg st is) (ht : SndPT (blkF X scope) K mg T ifs ft) (he : SndD (blkF X scope) K mg W0 T elt fe)
    (his : ∀ i ∈ is, i ∈ own.map (·.2)) (mk : ∀ j wi g tt te, PI (X j) tg iter wi → (∀ s H C cl fp, PG ((X j).blk s H scope (compEnvC scope cl C (X j).env) fp) tg g) → (∀ s H C cl fp, PTs ((X j).blk s H scope (compEnvC scope cl C (X j).env) fp) ifs tt) → (∀ s H C cl fp, PE ((X j).blk s H scope (compEnvC scope cl C (X j).env) fp) elt te) → PS (X j) sm (tAsg (tLc wi g tt te (own.map (·.2))) (gName i))) :
    SndS X K mg W T sm (evSet i (evComp f (own.map (·.2)) st ft fe)) := by
  obtain ⟨wi, pi, ri⟩ := hi
  obtain ⟨g, pg, rg⟩ := hg
  obtain ⟨tt, pt, rt⟩ := ht
  obtain ⟨te, pe, re⟩ := he
  exact ⟨_, fun j => mk j wi g tt te (pi j) (fun s H C cl fp => pg (j, s, H, C, cl, fp)) (fun s H C cl fp => pt (j, s, H, C, cl, fp)) (fun s H C cl fp => pe (j, s, H, C, cl, fp)), rd_set (rd_lc ri rg his rt re)⟩
end
end L3
set_option Elab.async false
set_option linter.all false
set_option maxRecDepth 100000
/-! L3Iter: what loops walk: lists, tuples, ranges, the keys and items of a dict, zip, enumerate. -/
namespace L3
open PySem PySem.Spec PyProof.Rows L2 LamX

/-! ### new iterators: the items of a locked dict of tuple keys, enumerate of a tuple -/
/-- the pairs, each a new tuple of the key's own tuple and the value -/
def ItiT (d : Addr) (o : Obj) (kvs : List (List Key × V)) : It :=
  ⟨fun i H => H d = some (.frz o (.dT kvs)) ∧ i < kvs.length, fun i H x H' => ∃ T k v q, kvs[i]? = some (k, v) ∧ x = .ref T ∧ H T = none ∧ H q = some (.tup (k.map kV)) ∧ H' = upd H T (.tup [.ref q, v]), fun i H => H d = some (.frz o (.dT kvs)) ∧ kvs.length ≤ i⟩
section
variable {X : Cx} {pins : List (Addr × Obj)} {σ : L2.St} {H : Hp} {s : Shared} {d : Addr} {o : Obj}
theorem frzT2 {kvs : List (List Key × V)} (I : Inv X pins σ H s) (h : H d = some (.frz o (.dT kvs))) :
    (d == sysModules) = false ∧ s.heap.get? d = some o ∧ o.ExactDict ∧ ∃ (es : Array DictEntry) (ep : Nat), o.data = .dict es ep ∧ es.size = kvs.length ∧
      ∀ (i : Nat) (k : List Key) (v : V), kvs[i]? = some (k, v) → ∃ (en : DictEntry) (q : Addr), es[i]? = some en ∧ en.key = .ref q ∧ H q = some (.tup (k.map kV)) ∧ RelV v en.val := by
  obtain ⟨hd, z, hs, xs, pr, o', es, ep, ho, hx, hdt, he, _⟩ := I.hok d _ h
  rw [hd] at ho
  cases ho
  refine ⟨hs, hd, hx, es, ep, hdt, ?_, fun i k v e => ?_⟩
  · have l1 : es.size = xs.length := size_of_entries he
    have l2 : kvs.length = xs.length := Paired.length pr
    omega
  · obtain ⟨b, hb, e1, e2, e3⟩ := paired_get pr e
    have q := entry_at he i
    rw [hb] at q
    exact ⟨_, b.2.1, q, rfl, e2, e3⟩
end
section
variable {P : Program} {w : World} {K : PySem.W.Frag} {tg : Expr} {d : Addr} {o : Obj} {es : Array DictEntry} {ep : Nat}
theorem turn_itemsT {kvs : List (List Key × V)} {elts : List Expr} {kk : Nat} {tpos : Pos} (it : Addr) (hod : o.data = .dict es ep) :
    Turn P w K (.Tuple elts kk tpos) (ItiT d o kvs) [it] it (fun i h => ∃ ok ov, IsItemIter h it d i kvs.length ep ok ov) where
  mem := by simp
  obj := fun i h st b hb => by
    have e : b = it := by simpa using hb
    subst e
    obtain ⟨ok, ov, e⟩ := st
    exact ⟨_, e, fun v z => nomatch z⟩
  keep := fun i h h' st k => let ⟨ok, ov, e⟩ := st; ⟨ok, ov, k it (by simp) _ e⟩
  item := by
    intro X hP hw hK hc i pins s σ H E I hf st hg
    subst hP hw hK
    obtain ⟨hd, hi⟩ := hg
    obtain ⟨hs, hgd, hx, es', ep', hdt, hsz, ent⟩ := frzT2 I hd
    obtain ⟨rfl, rfl⟩ := dict_ep hod hdt
    obtain ⟨⟨k, v⟩, hkv⟩ : ∃ p, kvs[i]? = some p := ⟨kvs[i], List.getElem?_eq_getElem hi⟩
    obtain ⟨en, q, hen, hkey, hq, ru⟩ := ent i k v hkv
    obtain ⟨ok, ov, he⟩ := st
    rw [← hsz] at he
    have hlt : it < s.heap.objs.size := Heap.lt_size he
    have hie : i < es'.size := by omega
    obtain ⟨_, hget⟩ := Array.getElem?_eq_some_iff.mp hen
    refine wpAny_pyNext_items_item_raw he ⟨_, hgd, hx, hdt⟩ hie fun h' ho hT hz hk => ?_
    rw [hget, hkey] at hT ho
    refine ⟨_, rfl, wpAny_letOwnedTupleGo_items (s := { s with heap := h' }) ho fun h'' he' sb => ?_⟩
    have hT2 : h''.get? s.heap.objs.size = some { cls := .type "tuple", data := .seq #[.ref q, en.val] } := (sb.2 _ (Nat.ne_of_gt hlt)).trans hT
    have new : ObjOk X.prog X.w (upd H s.heap.objs.size (.tup [.ref q, v])) h'' s.heap.objs.size (.tup [.ref q, v]) :=
      ⟨by show 2 ≤ sizeLine; decide, [.ref q, en.val], .cons rfl (.cons ru .nil), ⟨_, hT2, rfl, _, rfl⟩⟩
    have I1 : Inv X pins σ (upd H s.heap.objs.size (.tup [.ref q, v])) { s with heap := h'' } :=
      I.turnedNew (t' := s.toks) (ch := [it]) (fun b ob hb e => (sb.2 b (by simpa using hb)).trans (hk b ob (by simpa using hb) e)) hf (Nat.le_refl _) new
    refine ⟨.ref s.heap.objs.size, _, I1, rfl, ⟨_, k, v, q, hkv, rfl, I.hok.fresh (Nat.le_refl _), hq, rfl⟩, ⟨.ref q, en.val, ?_⟩, fun b hb => ?_⟩
    · rw [← hsz]; exact he'
    · have e : b = it := by simpa using hb
      rw [e, upd_ne (Nat.ne_of_lt hlt)]
      exact (hf it (by simp)).1
  done := by
    intro X hP hw hK hc i pins s σ H E I hf st hg
    subst hP hw hK
    obtain ⟨hd, hi⟩ := hg
    obtain ⟨f0, f1, f2, f3, f4, f5⟩ := hf it (by simp)
    obtain ⟨hs, hgd, hx, es', ep', hdt, hsz, ent⟩ := frzT2 I hd
    obtain ⟨rfl, rfl⟩ := dict_ep hod hdt
    obtain ⟨ok, ov, he⟩ := st
    rw [← hsz] at he
    exact wpAny_pyNext_items_end_raw (I.ok.hd hc) he ⟨_, hgd, hx, hdt⟩ (by omega) fun h' eb => ⟨rfl, I.turned (t' := s.toks) (fun b ob hb e => eb b ob hb e) f0 f1 f3 f4 f5⟩
  self := fun A i s Q E st h => let ⟨_, _, e⟩ := st; PySem.W.kcp_self e h
end
def iItemsT (td : TE) : TI := fun σ H R => td σ H fun x H1 => ∃ d o kvs, x = .ref d ∧ H1 d = some (.frz o (.dT kvs)) ∧ R (ItiT d o kvs) H1
section
variable {X : Cx} {tg e : Expr} {td : TE} {apos cpos : Pos}
theorem pi_itemsT {elts : List Expr} {kk : Nat} {tpos : Pos} (he : PE X e td) (hbase : attributeBase e "items" X.env (eval e X.env) = eval e X.env := by rfl) (hline : (apos.endLine == cpos.line) = true := by rfl) :
    PI X (.Tuple elts kk tpos) (.Call (.Attribute e "items" apos) [] [] cpos) (iItemsT td) := by
  refine ⟨fun pins s σ H R I h => ?_⟩
  refine wpAny_Call_method (T := "dict") (id := "dict.items") hbase rfl hline F.plainAttrs_dict F.slot_dict_items F.type_dict_items (thn (he.run pins s σ H _ I h) fun u s1 ⟨x, H1, I1, rx, d, o, kvs, ex, hd, q⟩ => ?_)
  subst ex
  obtain rfl : u = Value.ref d := rx
  obtain ⟨hs, hgd, hx, es, ep, hdt, hsz, ent⟩ := frzT2 I1 hd
  have raw : s1.heap.DictRaw d es ep := ⟨_, hgd, hx, hdt⟩
  refine ⟨raw.typeIs, ?_, ?_⟩
  · intro a e
    cases e
    exact ⟨_, hgd, hx.2.1⟩
  have I2 : Inv X pins σ H1 { s1 with heap := s1.heap.push { cls := .type "dict_items", data := .fields #[.ref d] } } := I1.kept (t' := s1.toks) fun b ob q => Heap.get?_push_of_some _ q
  have fin : wpAny (model X.prog X.w) X.A (pyIter (.ref s1.heap.objs.size)) (PIE X pins σ (.Tuple elts kk tpos) R) X.xe { s1 with heap := s1.heap.push { cls := .type "dict_items", data := .fields #[.ref d] } } := by
    refine wpAny_pyIter_items_raw (d := d) (es := es) (ep := ep) ⟨_, Heap.get?_push_size _ rfl, rfl, rfl⟩ (raw.at fun _ e => Heap.get?_push_of_some _ e) (pi_one (tk := s1.toks) I2 _ (turn_itemsT _ hdt) ⟨.none, .none, ?_⟩ q)
    rw [← hsz]
    exact Heap.get?_push_size _ rfl
  show wpAny _ _ (callWith cpos (.builtin "dict.items") [.ref d] [] []) _ X.xe s1
  exact method_meetsIn F.slot_dict_items F.entry_dict_items rfl (PySem.evalArgs_none ⟨rfl, raw.typeIs, F.args_dict_items_1 _, _, meets_dict_items_raw d hs, ⟨es, ep, raw⟩, fin⟩)
end

/-! ### enumerate(tuple) -/
set_option maxHeartbeats 1000000 in
theorem meets_enum_newB1 {v : Value} {o : Obj} {H : Heap → Prop} (B : Begins v o H) :
    Meets (Builtin.«enumerate.__new__» ⟨[.type "enumerate", v], []⟩) (fun _ R s => H s.heap ∧
      R (.ok (.ret (.ref (s.heap.push o).objs.size))) { s with heap := (s.heap.push o).push { cls := .type "enumerate", data := .fields #[.none, .bool false, .ref s.heap.objs.size, rawInt 0, .none, .none] } }) :=
  .of_wp fun prog w A R s h => by
    obtain ⟨hp, g, d, tk, os⟩ := s; obtain ⟨h1, h⟩ := h
    have hsub := sub_enumerate
    have q1 : ∀ {A' : Around} {E : Value → Shared → Prop} {Q : Value → Shared → Prop}, Q (.ref hp.objs.size) ⟨hp.push o, g, d, tk, os⟩ → wpAny (model prog w) A' (pyIter v) Q E ⟨hp, g, d, tk, os⟩ :=
      fun q => B.iter prog w _ _ ⟨hp, g, d, tk, os⟩ _ h1 q
    wp_walk using q1
    refine wpAny_stack_any fun st => wpAny_pure ?_
    split
    · rename_i c _ _ _ _ _
      cases (c == Value.type "enumerate")
      · wp_walk using q1
        exact ⟨_, rfl, h⟩
      · wp_walk using q1
        exact ⟨_, rfl, h⟩
    · wp_walk using q1
      exact ⟨_, rfl, h⟩
theorem enum_begins1 {prog : Program} {w : World} {A : Around} {E : Value → Shared → Prop} {s : Shared} {v : Value} {o : Obj} {H : Heap → Prop} {Q : Value → Shared → Prop} (B : Begins v o H) (h1 : H s.heap)
    (h : ∀ h', IsEnum h' (s.heap.objs.size + 1) s.heap.objs.size 0 .none → h'.get? s.heap.objs.size = some o → h'.objs.size = s.heap.objs.size + 2 →
      (∀ b o, s.heap.get? b = some o → h'.get? b = some o) → Q (.ref (s.heap.objs.size + 1)) { s with heap := h' }) :
    wpAny (model prog w) A (call (.type "enumerate") [v]) Q E s := by
  refine callType_new F.called_enumerate (by decide) (F.typeCall_enumerate_1 _) (F.newCall_enumerate_1 _) (fun obj => F.args_object_init_2 obj _) F.entry_enumerate_new
    (meets_enum_newB1 B) ⟨h1, ?_⟩
  have hz : (s.heap.push o).objs.size = s.heap.objs.size + 1 := Heap.size_push ..
  show _ ∧ _
  rw [hz]
  have he : IsEnum ((s.heap.push o).push { cls := .type "enumerate", data := .fields #[.none, .bool false, .ref s.heap.objs.size, rawInt 0, .none, .none] }) (s.heap.objs.size + 1) s.heap.objs.size 0 .none := by
    have := Heap.get?_push_size (s.heap.push o) (o := { cls := .type "enumerate", data := .fields #[.none, .bool false, .ref s.heap.objs.size, rawInt 0, .none, .none] }) rfl
    rw [hz] at this; exact this
  refine ⟨⟨_, he, rfl⟩, h _ he (Heap.get?_push_of_some _ (Heap.get?_push_size _ B.free)) (by rw [Heap.size_push, hz]) fun b o x => Heap.get?_push_of_some _ (Heap.get?_push_of_some _ x)⟩
def IteT (K : PySem.W.Frag) (a : Addr) : It :=
  ⟨fun i H => ∃ (xs : List V) (x : V), SqT K H a xs ∧ xs[i]? = some x, fun i H v H' => ∃ T x, v = .ref T ∧ H T = none ∧ H' = upd H T (.tup [.int (i : Nat), x]) ∧ ∀ xs, SqT K H a xs → xs[i]? = some x, fun i H => ∃ xs : List V, SqT K H a xs ∧ xs.length ≤ i⟩
theorem turn_enumT {P : Program} {w : World} {K : PySem.W.Frag} {elts : List Expr} {kk : Nat} {tpos : Pos} (a e it : Addr) (he1 : e ≠ it) (he2 : e ≠ a) (he3 : a ≠ it) :
    Turn P w K (.Tuple elts kk tpos) (IteT K a) [e, it] e (fun i h => (∃ old, IsEnum h e it ((i : Nat) : Int) old) ∧ h.IsTupleIter it a i) where
  mem := by simp
  obj := fun i h st b hb => by
    obtain ⟨⟨old, he⟩, ⟨o, ho, hc, hd⟩⟩ := st
    have e' : b = e ∨ b = it := by simpa using hb
    rcases e' with z | z
    · rw [z]; exact ⟨_, he, fun v q => nomatch q⟩
    · rw [z]; exact ⟨o, ho, fun v q => by rw [hd] at q; cases q⟩
  keep := fun i h h' st k => let ⟨⟨old, he⟩, hi⟩ := st; ⟨⟨old, k e (by simp) _ he⟩, hi.at fun o q => k it (by simp) o q⟩
  item := by
    intro X hP hw hK hc i pins s σ H E I hf st hg
    subst hP hw hK
    obtain ⟨⟨old, he⟩, hit⟩ := st
    obtain ⟨xs, x, hq, hx⟩ := hg
    obtain ⟨its, rv, p, hz⟩ := I.tuple hq
    obtain ⟨u, hu, ru⟩ := rv.get hx
    have hel : e < s.heap.objs.size := Heap.lt_size he
    have hil : it < s.heap.objs.size := by obtain ⟨_, q, _⟩ := hit; exact Heap.lt_size q
    have hlt : i < its.toArray.size := by
      obtain ⟨q, _⟩ := List.getElem?_eq_some_iff.mp hu
      simpa using q
    have D := Draws.tuple (prog := X.prog) (w := X.w) (A := X.A.in1) (I.ok.hd hc) it a he3 its.toArray
    refine wpAny_pyNext_enum_itemD D he ⟨hit, p⟩ hlt he1 (by simp [he1, he2]) fun y h' tk hPy ho hst' hT hsz hk => ?_
    have hy : y = u := by
      have q : its.toArray[i]? = some y := hPy
      rw [show its.toArray[i]? = some u by simpa using hu] at q
      exact (Option.some.inj q).symm
    subst hy
    refine ⟨_, rfl, wpAny_letOwnedTupleGo_enum (s := { s with heap := h', toks := tk + 1 }) ho fun h'' he' sb => ?_⟩
    have hT2 : h''.get? s.heap.objs.size = some { cls := .type "tuple", data := .seq #[.int i tk, y] } := (sb.2 _ (Nat.ne_of_gt hel)).trans hT
    have new : ObjOk X.prog X.w (upd H s.heap.objs.size (.tup [.int (i : Nat), x])) h'' s.heap.objs.size (.tup [.int (i : Nat), x]) :=
      ⟨by show 2 ≤ sizeLine; decide, [.int i tk, y], .cons ⟨_, rfl⟩ (.cons ru .nil), ⟨_, hT2, rfl, _, rfl⟩⟩
    have I1 : Inv X pins σ (upd H s.heap.objs.size (.tup [.int (i : Nat), x])) { s with heap := h'', toks := tk + 1 } :=
      I.turnedNew (ch := [e, it]) (fun b ob hb q => (sb.2 b (fun z => hb (by simp [z]))).trans (hk b ob (fun z => hb (by simp [z])) (fun z => hb (by simp [z])) q)) hf (Nat.le_refl _) new
    refine ⟨.ref s.heap.objs.size, _, I1, rfl, ⟨_, x, rfl, I.hok.fresh (Nat.le_refl _), rfl, fun ys hy => by rw [I.tuple_inj hy hq]; exact hx⟩, ⟨⟨y, ?_⟩, hst'.1.at fun o q => (sb.2 it (Ne.symm he1)).trans q⟩, fun b hb => ?_⟩
    · have e1 : ((i + 1 : Nat) : Int) = (i : Int) + 1 := by omega
      rw [e1]; exact he'
    · have hb' : b < s.heap.objs.size := by
        have e' : b = e ∨ b = it := by simpa using hb
        rcases e' with z | z
        · rw [z]; exact hel
        · rw [z]; exact hil
      rw [upd_ne (Nat.ne_of_lt hb')]
      exact (hf b hb).1
  done := by
    intro X hP hw hK hc i pins s σ H E I hf st hg
    subst hP hw hK
    obtain ⟨⟨old, he⟩, hit⟩ := st
    obtain ⟨xs, hq, hx⟩ := hg
    obtain ⟨its, rv, p, hz⟩ := I.tuple hq
    obtain ⟨f0, f1, f2, f3, f4, f5⟩ := hf it (by simp)
    have hl := rv.length
    have hn : its.toArray[i]? = none := by simp; omega
    unfold pyNext
    have hT : s.TypeIs (.ref e) "enumerate" := ⟨_, he, rfl⟩
    refine wpAny_bind (wpAny_attempt (wpAny_callSpecial?_slot (name := Str.ofString "__next__") hT F.slot_enumerate_next
      (wpAny_call_entry F.slot_enumerate_next hT F.entry_enumerate_next ?_ (F.args_enumerate_next_1 _))))
    show wpAny _ _ (field (.ref e) 2 >>= _) _ _ _
    refine wpAny_bind (wpAny_field he rfl (x := .ref it) rfl ?_)
    refine wpAny_bind (wpAny_nextOf_tuple_end (I.ok.hd hc) hit p hn fun h' x he' hx' => ?_)
    obtain ⟨o, ho, hc⟩ := hx'
    refine wpAny_bind (wpAny_isInstance (T := "StopIteration") (b := true) ⟨o, ho, hc⟩ isSubtype_stop ?_)
    exact wpAny_pure ⟨rfl, I.turned (t' := s.toks) (fun b o hb q => he' b o hb q) f0 f1 f3 f4 f5⟩
  self := fun A i s Q E st h => let ⟨⟨_, he⟩, _⟩ := st; wpAny_pyIter_enum he h
def iEnumT (K : PySem.W.Frag) (ta : TA) : TI := fun σ H R => ta σ H fun vs H1 => ∃ a xs, vs = [.ref a] ∧ SqT K H1 a xs ∧ R (IteT K a) H1
theorem pi_enumT {X : Cx} {e : Expr} {ta : TA} {p pos tpos : Pos} {elts : List Expr} {kk : Nat} (hg : Gl X "enumerate") (hm : X.mg "enumerate" = none) (ha : PA X [e] ta) (hs : starEach [e] X.env = [(false, eval e X.env)] := by rfl) :
    PI X (.Tuple elts kk tpos) (.Call (.Name "enumerate" p) [e] [] pos) (iEnumT X.K ta) := by
  refine ⟨fun pins s σ H R I h => ?_⟩
  refine Call_ (ld_blt I hg hm boot_enumerate (PyProof.Rows.callWith_type1 (thn (ha.run pos pins s σ H _ I h) fun us s1 ⟨vs, H1, I1, r1, q1⟩ => ?_) hs rfl))
  obtain ⟨a, xs, ex, hq, q⟩ := q1
  subst ex
  cases r1 with
  | cons r rr =>
    cases rr
    cases r
    obtain ⟨its, rv, p', hz⟩ := I1.tuple hq
    have hal : a < s1.heap.objs.size := by obtain ⟨_, q, _⟩ := id p'; exact Heap.lt_size q
    refine enum_begins1 (begins_tuple a its.toArray) (show s1.heap.IsTuple a its.toArray from p') fun h' he hit hsz hk => wpAny_pyIter_enum he ?_
    have I2 : Inv X pins σ H1 { s1 with heap := h' } := I1.kept (t' := s1.toks) hk
    refine ⟨s1.heap.objs.size + 1, [s1.heap.objs.size + 1, s1.heap.objs.size], _, _, H1, rfl, I2, turn_enumT a (s1.heap.objs.size + 1) s1.heap.objs.size (Nat.succ_ne_self _) (Nat.ne_of_gt (Nat.lt_succ_of_lt hal)) (Nat.ne_of_lt hal), ⟨⟨.none, he⟩, ⟨_, hit, rfl, rfl⟩⟩, fun b hb => ?_, q⟩
    have e' : b = s1.heap.objs.size + 1 ∨ b = s1.heap.objs.size := by simpa using hb
    have hle : s1.heap.objs.size ≤ b := by
      rcases e' with z | z
      · rw [z]; exact Nat.le_add_right _ _
      · rw [z]; exact Nat.le_refl _
    exact I1.fpOk hle (I1.hok.fresh hle)

/-! ### the rules -/
section
variable {K : PySem.W.Frag}
theorem itOf_list {H1 : Hp} {a : Addr} {xs : List V} {ds : List PyData} (h : FzL K H1 a xs) (hd : FzAll K H1 ds xs) : ItOf K (Itl K a) H1 ds := fun H x i => by
  have q : SqL K H a xs := (x.fzL h).seq
  refine ⟨fun d e => ?_, fun hl => ⟨xs, q, by rw [← hd.length]; exact hl⟩⟩
  obtain ⟨y, e1, e2⟩ := (FzAll.ext x _ _ hd).get e
  refine ⟨⟨xs, y, q, e1⟩, fun z H' hy => ?_⟩
  obtain ⟨rfl, hz⟩ := hy
  have := hz xs q
  rw [e1] at this; cases this
  exact ⟨.inl rfl, e2⟩
theorem itOf_tup {b : Bool} {H1 : Hp} {a : Addr} {xs : List V} {ds : List PyData} (h : TupAt H1 b a xs) (hd : FzAll K H1 ds xs) : ItOf K (Itt K a) H1 ds := fun H x i => by
  have q : SqT K H a xs := (h.ext x).sq
  refine ⟨fun d e => ?_, fun hl => ⟨xs, q, by rw [← hd.length]; exact hl⟩⟩
  obtain ⟨y, e1, e2⟩ := (FzAll.ext x _ _ hd).get e
  refine ⟨⟨xs, y, q, e1⟩, fun z H' hy => ?_⟩
  obtain ⟨rfl, hz⟩ := hy
  have := hz xs q
  rw [e1] at this; cases this
  exact ⟨.inl rfl, e2⟩
def rngD (lo : Int) (n : Nat) : List PyData := (List.range n).map fun i => PyData.int (lo + (i : Nat))
theorem rngD_length {lo : Int} {n : Nat} : (rngD lo n).length = n := by simp [rngD]
theorem itOf_rng {H1 : Hp} {lo : Int} {n : Nat} : ItOf K (Itr lo n) H1 (rngD lo n) := fun H x i => by
  refine ⟨fun d e => ?_, fun hl => ?_⟩
  · unfold rngD at e
    rw [List.getElem?_map] at e
    by_cases hi : i < n
    · rw [List.getElem?_range hi] at e
      have e : some (PyData.int (lo + (i : Nat))) = some d := e
      cases e
      refine ⟨hi, fun z H' hy => ?_⟩
      obtain ⟨rfl, rfl⟩ := hy
      exact ⟨.inl rfl, by simp only [Fz]⟩
    · rw [List.getElem?_eq_none (by simpa using hi)] at e; cases e
  · rw [rngD_length] at hl
    exact hl
theorem FzKV.get {H : Hp} : ∀ {kvs : List (PyData × PyData)} {ks : List (List Key × V)} {i : Nat} {p : PyData × PyData}, FzKV K H kvs ks → kvs[i]? = some p → ∃ k v, ks[i]? = some (k, v) ∧ (k ≠ [] ∧ p.1 = .tuple (k.map keyD)) ∧ Fz K H p.2 v
  | [], ks, i, p, h, e => by simp at e
  | (k, d) :: r, ks, i, p, h, e => by
    simp only [FzKV] at h
    obtain ⟨k', v, ks', rfl, e1, e2, h⟩ := h
    cases i with
    | zero => simp at e; subst e; exact ⟨k', v, rfl, e1, e2⟩
    | succ i =>
      obtain ⟨k2, v2, q1, q2, q3⟩ := FzKV.get h (i := i) (by simpa using e)
      exact ⟨k2, v2, by simpa using q1, q2, q3⟩
theorem FzKV.length {H : Hp} : ∀ {kvs : List (PyData × PyData)} {ks : List (List Key × V)}, FzKV K H kvs ks → kvs.length = ks.length
  | [], ks, h => by simp only [FzKV] at h; subst h; rfl
  | (k, d) :: r, ks, h => by
    simp only [FzKV] at h
    obtain ⟨k', v, ks', rfl, e1, e2, h⟩ := h
    simp [FzKV.length h]
theorem fz_key {H : Hp} (k : Key) : Fz K H (keyD k) (kV k) := by
  cases k <;> simp only [keyD, Fz, kV]
theorem fzAll_keys {H : Hp} : ∀ k : List Key, FzAll K H (k.map keyD) (k.map kV)
  | [] => .nil
  | x :: k => .cons (fz_key x) (fzAll_keys k)
theorem tts_key {k : List Key} (n : k ≠ []) : tts (k.map keyD) = false := by
  cases k with
  | nil => exact absurd rfl n
  | cons x r => cases x <;> rfl
theorem fz_keyT {H : Hp} {q : Addr} {k : List Key} (n : k ≠ []) (h : H q = some (.tup (k.map kV))) : Fz K H (.tuple (k.map keyD)) (.ref q) := by
  simp only [Fz]
  rw [tts_key n]
  exact ⟨q, _, rfl, h, fzAll_keys k⟩
/-- a tuple that holds only tuples -/
def ttsT : PyData → Bool
  | .tuple ds => tts ds
  | _ => false
theorem itOf_keys {H1 : Hp} {d : Addr} {o : Obj} {ks : List (List Key × V)} {kvs : List (PyData × PyData)} (h : H1 d = some (.frz o (.dT ks))) (hd : FzKV K H1 kvs ks) : ItOf K (Itkt d o ks) H1 (kvs.map (·.1)) := fun H x i => by
  have q := x.frz _ _ _ h
  refine ⟨fun y e => ?_, fun hl => ⟨q, by rw [← hd.length]; simpa using hl⟩⟩
  rw [List.getElem?_map] at e
  cases hp : kvs[i]? with
  | none => rw [hp] at e; cases e
  | some p =>
    rw [hp] at e
    have e : some p.1 = some y := e
    cases e
    obtain ⟨k, v, e1, e2, e3⟩ := hd.get hp
    refine ⟨⟨q, (List.getElem?_eq_some_iff.mp e1).1⟩, fun z H' hy => ?_⟩
    obtain ⟨rfl, k', v', a, f1, rfl, f2⟩ := hy
    rw [e1] at f1; cases f1
    exact ⟨.inl rfl, by rw [e2.2]; exact fz_keyT e2.1 f2⟩
theorem itOf_items {H1 : Hp} {d : Addr} {o : Obj} {ks : List (List Key × V)} {kvs : List (PyData × PyData)} (hn : kvs.all (fun p => !ttsT (.tuple [p.1, p.2])) = true) (h : H1 d = some (.frz o (.dT ks))) (hd : FzKV K H1 kvs ks) : ItOf K (ItiT d o ks) H1 (kvs.map fun p => .tuple [p.1, p.2]) := fun H x i => by
  have q := x.frz _ _ _ h
  refine ⟨fun y e => ?_, fun hl => ⟨q, by rw [← hd.length]; simpa using hl⟩⟩
  rw [List.getElem?_map] at e
  cases hp : kvs[i]? with
  | none => rw [hp] at e; cases e
  | some p =>
    rw [hp] at e
    have e : some (PyData.tuple [p.1, p.2]) = some y := e
    cases e
    obtain ⟨k, v, e1, e2, e3⟩ := (FzKV.ext x _ _ hd).get hp
    refine ⟨⟨q, (List.getElem?_eq_some_iff.mp e1).1⟩, fun z H' hy => ?_⟩
    obtain ⟨T, k', v', a, f1, rfl, hT, f2, rfl⟩ := hy
    rw [e1] at f1; cases f1
    have c := (Chg.fresh (H := H) (.tup [.ref a, v]) hT).ext
    refine ⟨.inr ⟨T, _, hT, rfl⟩, ?_⟩
    have hn1 : tts [p.1, p.2] = false := by
      have := List.all_eq_true.mp hn p (List.mem_of_getElem? hp)
      simpa [ttsT] using this
    simp only [Fz]
    rw [hn1]
    refine ⟨T, _, rfl, upd_same, .cons ?_ (.cons (Fz.ext c _ _ e3) .nil)⟩
    rw [e2.2]
    exact fz_keyT e2.1 (c.tup _ _ f2)
def enumD : Nat → List PyData → List PyData
  | _, [] => []
  | n, d :: r => .tuple [.int (n : Nat), d] :: enumD (n + 1) r
theorem enumD_length : ∀ {n : Nat} {ds : List PyData}, (enumD n ds).length = ds.length
  | n, [] => rfl
  | n, d :: r => by simp [enumD, enumD_length]
theorem enumD_get : ∀ {n : Nat} {ds : List PyData} {i : Nat} {y : PyData}, (enumD n ds)[i]? = some y → ∃ d, ds[i]? = some d ∧ y = .tuple [.int ((n + i : Nat) : Int), d]
  | n, [], i, y, h => by simp [enumD] at h
  | n, d :: r, 0, y, h => by simp [enumD] at h; exact ⟨d, rfl, h.symm⟩
  | n, d :: r, i + 1, y, h => by
    obtain ⟨d', e1, e2⟩ := enumD_get (n := n + 1) (ds := r) (i := i) (by simpa [enumD] using h)
    exact ⟨d', by simpa using e1, by rw [e2, show n + 1 + i = n + (i + 1) by omega]⟩
theorem pair_new {H : Hp} {T : Addr} {u v : V} {d1 d2 : PyData} (hn : tts [d1, d2] = false) (hT : H T = none) (h1 : Fz K H d1 u) (h2 : Fz K H d2 v) : Fz K (upd H T (.tup [u, v])) (.tuple [d1, d2]) (.ref T) := by
  have c := (Chg.fresh (H := H) (.tup [u, v]) hT).ext
  simp only [Fz]
  rw [hn]
  exact ⟨T, _, rfl, upd_same, .cons (Fz.ext c _ _ h1) (.cons (Fz.ext c _ _ h2) .nil)⟩
theorem itOf_enum {H1 : Hp} {a : Addr} {xs : List V} {ds : List PyData} (h : FzL K H1 a xs) (hd : FzAll K H1 ds xs) : ItOf K (Ite K a) H1 (enumD 0 ds) := fun H x i => by
  have q : SqL K H a xs := (x.fzL h).seq
  refine ⟨fun d e => ?_, fun hl => ⟨xs, q, by rw [← hd.length]; rw [enumD_length] at hl; exact hl⟩⟩
  obtain ⟨d', f1, rfl⟩ := enumD_get e
  obtain ⟨y, e1, e2⟩ := (FzAll.ext x _ _ hd).get f1
  refine ⟨⟨xs, y, q, e1⟩, fun z H' hy => ?_⟩
  obtain ⟨T, x', rfl, hT, rfl, hz⟩ := hy
  have := hz xs q
  rw [e1] at this; cases this
  exact ⟨.inr ⟨T, _, hT, rfl⟩, pair_new rfl hT (by simp [Fz]) e2⟩
theorem itOf_enumT {b : Bool} {H1 : Hp} {a : Addr} {xs : List V} {ds : List PyData} (h : TupAt H1 b a xs) (hd : FzAll K H1 ds xs) : ItOf K (IteT K a) H1 (enumD 0 ds) := fun H x i => by
  have q : SqT K H a xs := (h.ext x).sq
  refine ⟨fun d e => ?_, fun hl => ⟨xs, q, by rw [← hd.length]; rw [enumD_length] at hl; exact hl⟩⟩
  obtain ⟨d', f1, rfl⟩ := enumD_get e
  obtain ⟨y, e1, e2⟩ := (FzAll.ext x _ _ hd).get f1
  refine ⟨⟨xs, y, q, e1⟩, fun z H' hy => ?_⟩
  obtain ⟨T, x', rfl, hT, rfl, hz⟩ := hy
  have := hz xs q
  rw [e1] at this; cases this
  exact ⟨.inr ⟨T, _, hT, rfl⟩, pair_new rfl hT (by simp [Fz]) e2⟩
def zipD : List PyData → List PyData → List PyData
  | d :: r, d' :: r' => .tuple [d, d'] :: zipD r r'
  | _, _ => []
theorem zipD_get : ∀ {ds es : List PyData} {i : Nat} {y : PyData}, (zipD ds es)[i]? = some y → ∃ d e, ds[i]? = some d ∧ es[i]? = some e ∧ y = .tuple [d, e]
  | [], es, i, y, h => by simp [zipD] at h
  | d :: r, [], i, y, h => by simp [zipD] at h
  | d :: r, d' :: r', 0, y, h => by simp [zipD] at h; exact ⟨d, d', rfl, rfl, h.symm⟩
  | d :: r, d' :: r', i + 1, y, h => by
    obtain ⟨a, b, e1, e2, e3⟩ := zipD_get (ds := r) (es := r') (i := i) (by simpa [zipD] using h)
    exact ⟨a, b, by simpa using e1, by simpa using e2, e3⟩
theorem zipD_length : ∀ {ds es : List PyData}, (zipD ds es).length = min ds.length es.length
  | [], es => by simp [zipD]
  | d :: r, [] => by simp [zipD]
  | d :: r, d' :: r' => by simp [zipD, zipD_length]
theorem itOf_zipT {H1 : Hp} {c c' : Bool} {a b : Addr} {xs ys : List V} {ds es : List PyData} (hn : (zipD ds es).all (fun d => !ttsT d) = true) (h : TupAt H1 c a xs) (h' : TupAt H1 c' b ys) (hd : FzAll K H1 ds xs) (he : FzAll K H1 es ys) : ItOf K (RZ.ItzT K a b) H1 (zipD ds es) := fun H x i => by
  have q : SqT K H a xs := (h.ext x).sq
  have q' : SqT K H b ys := (h'.ext x).sq
  refine ⟨fun d e => ?_, fun hl => ⟨xs, ys, q, q', ?_⟩⟩
  · obtain ⟨d1, d2, f1, f2, rfl⟩ := zipD_get e
    obtain ⟨y, e1, e2⟩ := (FzAll.ext x _ _ hd).get f1
    obtain ⟨z, e3, e4⟩ := (FzAll.ext x _ _ he).get f2
    refine ⟨⟨xs, ys, y, z, q, q', e1, e3⟩, fun v H' hy => ?_⟩
    obtain ⟨T, x', y', rfl, hT, rfl, h1, h2⟩ := hy
    have := h1 xs q
    rw [e1] at this; cases this
    have := h2 ys q'
    rw [e3] at this; cases this
    have hn1 : tts [d1, d2] = false := by
      have := List.all_eq_true.mp hn _ (List.mem_of_getElem? e)
      simpa [ttsT] using this
    exact ⟨.inr ⟨T, _, hT, rfl⟩, pair_new hn1 hT e2 e4⟩
  · have e1 := hd.length
    have e2 := he.length
    rw [zipD_length] at hl
    omega
end
def R.bndI (r : R) (k : PyData → En → RA) : RA := match r with
  | .ok (.fz d) e => k d e
  | .ok (.ow d) e => k d e
  | .exn c e => .exn c e
  | .bad => .bad
def liftA (o : Option (List PyData)) (e : En) : RA := match o with
  | some ds => .ok ds e
  | none => .bad
def listOf : PyData → Option (List PyData) | .list ds => some ds | _ => none
def tupOf : PyData → Option (List PyData) | .tuple ds => some ds | _ => none
def keysOf : PyData → Option (List PyData) | .dict kvs => some (kvs.map (·.1)) | _ => none
def itemsOf : PyData → Option (List PyData) | .dict kvs => if kvs.all (fun p => !ttsT (.tuple [p.1, p.2])) = true then some (kvs.map fun p => .tuple [p.1, p.2]) else none | _ => none
def enumLOf : List PyData → Option (List PyData) | [.list ds] => some (enumD 0 ds) | _ => none
def enumTOf : List PyData → Option (List PyData) | [.tuple ds] => some (enumD 0 ds) | _ => none
def zipTOf : List PyData → Option (List PyData) | [.tuple ds, .tuple es] => if (zipD ds es).all (fun d => !ttsT d) = true then some (zipD ds es) else none | _ => none
def rng1Of : List PyData → Option (List PyData)
  | [.int j] => if -(2 ^ 62) ≤ j ∧ j < 2 ^ 62 then some (rngD 0 j.toNat) else none
  | _ => none
def rng2Of : List PyData → Option (List PyData)
  | [.int i, .int j] => if -(2 ^ 62) ≤ i ∧ i < 2 ^ 62 ∧ -(2 ^ 62) ≤ j ∧ j < 2 ^ 62 then some (rngD i (j - i).toNat) else none
  | _ => none
/-- what is walked, from one value, from several -/
def evI (g : PyData → Option (List PyData)) (f : En → R) : En → RA := fun e => (f e).bndI fun d e1 => liftA (g d) e1
def evIA (g : List PyData → Option (List PyData)) (f : En → RA) : En → RA := fun e => (f e).bndA fun ds e1 => liftA (g ds) e1
section
variable {ι : Type} {X : ι → Cx} {K : PySem.W.Frag} {mg : Str → Option Value} {W : WX} {T : List (Addr × Str)}
theorem PostI.of_bnd {ex : Option Addr} {B : Hp} {P : List (Addr × PyData)} {σ : L2.St} {H0 : Hp} {Q : It → Hp → Prop} {Q' : VK} {r : R} {g : PyData → Option (List PyData)} (h : PostI K mg W T ex B P σ H0 Q (r.bndI fun d e1 => liftA (g d) e1))
    (hk : ∀ d e items, g d = some items → ∀ y H', Ext H0 H' → Sim K T ex B P e σ H' → Fz K H' d y → (∀ J, ItOf K J H' items → Q J H') → Q' y H') : PostD K mg W T ex B P σ H0 Q' r := by
  have step : ∀ d e, PostI K mg W T ex B P σ H0 Q (liftA (g d) e) → ∀ y H', Ext H0 H' → Sim K T ex B P e σ H' → Fz K H' d y → Q' y H' := fun d e h y H' x s r => by
    cases hg : g d with
    | none => rw [hg] at h; exact False.elim h
    | some items => rw [hg] at h; exact hk d e items hg y H' x s r fun J hJ => h J H' x s hJ
  cases r with
  | ok v e =>
    cases v with
    | fz d => exact step d e h
    | ow d => exact step d e h
  | exn c e => exact h
  | bad => exact h
theorem PostI.of_bndA {ex : Option Addr} {B : Hp} {P : List (Addr × PyData)} {σ : L2.St} {H0 : Hp} {Q : It → Hp → Prop} {Q' : List V → Hp → Prop} {r : RA} {g : List PyData → Option (List PyData)} (h : PostI K mg W T ex B P σ H0 Q (r.bndA fun d e1 => liftA (g d) e1))
    (hk : ∀ ds e items, g ds = some items → ∀ ys H', Ext H0 H' → Sim K T ex B P e σ H' → FzAll K H' ds ys → (∀ J, ItOf K J H' items → Q J H') → Q' ys H') : PostA K mg W T ex B P σ H0 Q' r := by
  cases r with
  | ok ds e =>
    intro ys H' x s rr
    have h : PostI K mg W T ex B P σ H0 Q (liftA (g ds) e) := h
    cases hg : g ds with
    | none => rw [hg] at h; exact False.elim h
    | some items => rw [hg] at h; exact hk ds e items hg ys H' x s rr fun J hJ => h J H' x s hJ
  | exn c e => exact h
  | bad => exact h
theorem FzAll.one {H : Hp} {d : PyData} {ys : List V} (h : FzAll K H [d] ys) : ∃ y, ys = [y] ∧ Fz K H d y := by
  simp only [FzAll] at h
  obtain ⟨y, ys', rfl, h1, rfl⟩ := h
  exact ⟨y, rfl, h1⟩
theorem FzAll.two {H : Hp} {d d' : PyData} {ys : List V} (h : FzAll K H [d, d'] ys) : ∃ y z, ys = [y, z] ∧ Fz K H d y ∧ Fz K H d' z := by
  simp only [FzAll] at h
  obtain ⟨y, ys', rfl, h1, z, zs, rfl, h2, rfl⟩ := h
  exact ⟨y, z, rfl, h1, h2⟩
theorem sndi_list {tg l : Expr} {f : En → R} (hK : ∀ j, (X j).K = K) (h : SndD X K mg W T l f) : SndI X K mg W T tg l (evI listOf f) := by
  obtain ⟨t, p, r⟩ := h
  refine ⟨iList K t, fun j => by have q := pi_list (tg := tg) (p j); rw [hK j] at q; exact q, fun ex B P e σ H Q s q => r ex B P e σ H _ s (PostI.of_bnd q fun d e1 items hg y H1 x1 s1 r1 hJ => ?_)⟩
  cases d with
  | list ds =>
    cases hg
    simp only [Fz] at r1
    obtain ⟨a, xs, rfl, h1, h2⟩ := r1
    exact ⟨a, rfl, ⟨xs, h1.seq⟩, hJ _ (itOf_list h1 h2)⟩
  | _ => cases hg
theorem sndi_tup {tg l : Expr} {f : En → R} (hK : ∀ j, (X j).K = K) (h : SndD X K mg W T l f) : SndI X K mg W T tg l (evI tupOf f) := by
  obtain ⟨t, p, r⟩ := h
  refine ⟨iTup K t, fun j => by have q := pi_tup (tg := tg) (p j); rw [hK j] at q; exact q, fun ex B P e σ H Q s q => r ex B P e σ H _ s (PostI.of_bnd q fun d e1 items hg y H1 x1 s1 r1 hJ => ?_)⟩
  cases d with
  | tuple ds =>
    cases hg
    simp only [Fz] at r1
    obtain ⟨a, xs, rfl, h1, h2⟩ := r1
    exact ⟨a, rfl, ⟨xs, h1.sq⟩, hJ _ (itOf_tup h1 h2)⟩
  | _ => cases hg
theorem sndi_keys {tg l : Expr} {f : En → R} (h : SndD X K mg W T l f) : SndI X K mg W T tg l (evI keysOf f) := by
  obtain ⟨t, p, r⟩ := h
  refine ⟨iKeys t, fun j => pi_keys (p j), fun ex B P e σ H Q s q => r ex B P e σ H _ s (PostI.of_bnd q fun d e1 items hg y H1 x1 s1 r1 hJ => ?_)⟩
  cases d with
  | dict kvs =>
    cases hg
    simp only [Fz] at r1
    obtain ⟨a, o, ks, rfl, h1, h2⟩ := r1
    exact ⟨a, o, rfl, .inr ⟨ks, h1, hJ _ (itOf_keys h1 h2)⟩⟩
  | _ => cases hg
theorem sndi_items {elts : List Expr} {kk : Nat} {tpos apos cpos : Pos} {l : Expr} {f : En → R} (h : SndD X K mg W T l f) (hbase : ∀ j, attributeBase l "items" (X j).env (eval l (X j).env) = eval l (X j).env := by intro _; rfl) (hline : (apos.endLine == cpos.line) = true := by rfl) :
    SndI X K mg W T (.Tuple elts kk tpos) (.Call (.Attribute l "items" apos) [] [] cpos) (evI itemsOf f) := by
  obtain ⟨t, p, r⟩ := h
  refine ⟨iItemsT t, fun j => pi_itemsT (p j) (hbase j) hline, fun ex B P e σ H Q s q => r ex B P e σ H _ s (PostI.of_bnd q fun d e1 items hg y H1 x1 s1 r1 hJ => ?_)⟩
  cases d with
  | dict kvs =>
    have hg : (if kvs.all (fun p => !ttsT (.tuple [p.1, p.2])) = true then some (kvs.map fun p => PyData.tuple [p.1, p.2]) else none) = some items := hg
    split at hg
    · rename_i hn
      cases hg
      simp only [Fz] at r1
      obtain ⟨a, o, ks, rfl, h1, h2⟩ := r1
      exact ⟨a, o, ks, rfl, h1, hJ _ (itOf_items hn h1 h2)⟩
    · cases hg
  | _ => cases hg
theorem sndi_rng1 {tg a : Expr} {p pos : Pos} {f : En → RA} (hg : ∀ j, Gl (X j) "range") (hm : ∀ j, (X j).mg "range" = none) (h : SndA X K mg W T [a] f) (hs : ∀ j, starEach [a] (X j).env = [(false, eval a (X j).env)] := by intro _; rfl) :
    SndI X K mg W T tg (.Call (.Name "range" p) [a] [] pos) (evIA rng1Of f) := by
  obtain ⟨t, pa, r⟩ := h
  refine ⟨iRng1 t, fun j => pi_range1 (hg j) (hm j) (pa j) (hs j), fun ex B P e σ H Q s q => r ex B P e σ H _ s (PostI.of_bndA q fun ds e1 items hg ys H1 x1 s1 r1 hJ => ?_)⟩
  unfold rng1Of at hg
  split at hg
  · rename_i j
    split at hg
    · rename_i hb
      cases hg
      obtain ⟨y, rfl, ry⟩ := r1.one
      simp only [Fz] at ry
      subst ry
      exact ⟨j, rfl, hb.1, hb.2, hJ _ itOf_rng⟩
    · cases hg
  · cases hg
theorem sndi_rng2 {tg a b : Expr} {p pos : Pos} {f : En → RA} (hg : ∀ j, Gl (X j) "range") (hm : ∀ j, (X j).mg "range" = none) (h : SndA X K mg W T [a, b] f) (hs : ∀ j, starEach [a, b] (X j).env = [(false, eval a (X j).env), (false, eval b (X j).env)] := by intro _; rfl)
    (hs2 : ∀ j, starEach [b] (X j).env = [(false, eval b (X j).env)] := by intro _; rfl) : SndI X K mg W T tg (.Call (.Name "range" p) [a, b] [] pos) (evIA rng2Of f) := by
  obtain ⟨t, pa, r⟩ := h
  refine ⟨iRng2 t, fun j => pi_range2 (hg j) (hm j) (pa j) (hs j) (hs2 j), fun ex B P e σ H Q s q => r ex B P e σ H _ s (PostI.of_bndA q fun ds e1 items hg ys H1 x1 s1 r1 hJ => ?_)⟩
  unfold rng2Of at hg
  split at hg
  · rename_i i j
    split at hg
    · rename_i hb
      cases hg
      obtain ⟨y, z, rfl, ry, rz⟩ := r1.two
      simp only [Fz] at ry rz
      subst ry rz
      exact ⟨i, j, rfl, hb, hJ _ itOf_rng⟩
    · cases hg
  · cases hg
theorem sndi_enumL {elts : List Expr} {kk : Nat} {a : Expr} {p pos tpos : Pos} {f : En → RA} (hK : ∀ j, (X j).K = K) (hg : ∀ j, Gl (X j) "enumerate") (hm : ∀ j, (X j).mg "enumerate" = none) (h : SndA X K mg W T [a] f) (hs : ∀ j, starEach [a] (X j).env = [(false, eval a (X j).env)] := by intro _; rfl) :
    SndI X K mg W T (.Tuple elts kk tpos) (.Call (.Name "enumerate" p) [a] [] pos) (evIA enumLOf f) := by
  obtain ⟨t, pa, r⟩ := h
  refine ⟨iEnum K t, fun j => by have q := pi_enum (p := p) (pos := pos) (tpos := tpos) (elts := elts) (kk := kk) (hg j) (hm j) (pa j) (hs j); rw [hK j] at q; exact q, fun ex B P e σ H Q s q => r ex B P e σ H _ s (PostI.of_bndA q fun ds e1 items hg ys H1 x1 s1 r1 hJ => ?_)⟩
  unfold enumLOf at hg
  split at hg
  · cases hg
    obtain ⟨y, rfl, ry⟩ := r1.one
    simp only [Fz] at ry
    obtain ⟨a, xs, rfl, h1, h2⟩ := ry
    exact ⟨a, xs, rfl, h1.seq, hJ _ (itOf_enum h1 h2)⟩
  · cases hg
theorem sndi_enumT {elts : List Expr} {kk : Nat} {a : Expr} {p pos tpos : Pos} {f : En → RA} (hK : ∀ j, (X j).K = K) (hg : ∀ j, Gl (X j) "enumerate") (hm : ∀ j, (X j).mg "enumerate" = none) (h : SndA X K mg W T [a] f) (hs : ∀ j, starEach [a] (X j).env = [(false, eval a (X j).env)] := by intro _; rfl) :
    SndI X K mg W T (.Tuple elts kk tpos) (.Call (.Name "enumerate" p) [a] [] pos) (evIA enumTOf f) := by
  obtain ⟨t, pa, r⟩ := h
  refine ⟨iEnumT K t, fun j => by have q := pi_enumT (p := p) (pos := pos) (tpos := tpos) (elts := elts) (kk := kk) (hg j) (hm j) (pa j) (hs j); rw [hK j] at q; exact q, fun ex B P e σ H Q s q => r ex B P e σ H _ s (PostI.of_bndA q fun ds e1 items hg ys H1 x1 s1 r1 hJ => ?_)⟩
  unfold enumTOf at hg
  split at hg
  · cases hg
    obtain ⟨y, rfl, ry⟩ := r1.one
    simp only [Fz] at ry
    obtain ⟨a, xs, rfl, h1, h2⟩ := ry
    exact ⟨a, xs, rfl, h1.sq, hJ _ (itOf_enumT h1 h2)⟩
  · cases hg
theorem sndi_zipT {elts : List Expr} {kk : Nat} {a b : Expr} {p pos tpos : Pos} {f : En → RA} (hK : ∀ j, (X j).K = K) (hg : ∀ j, Gl (X j) "zip") (hm : ∀ j, (X j).mg "zip" = none) (h : SndA X K mg W T [a, b] f) (hs : ∀ j, starEach [a, b] (X j).env = (false, eval a (X j).env) :: starEach [b] (X j).env := by intro _; rfl)
    (hpl : ∀ j, (backTo pos (starEach [b] (X j).env)).any (·.1) = false := by intro _; rfl) : SndI X K mg W T (.Tuple elts kk tpos) (.Call (.Name "zip" p) [a, b] [] pos) (evIA zipTOf f) := by
  obtain ⟨t, pa, r⟩ := h
  refine ⟨RZ.iZipA K t, fun j => by have q := RZ.pi_zipA (p := p) (pos := pos) (tpos := tpos) (elts := elts) (kk := kk) (hg j) (hm j) (pa j) (hs j) (hpl j); rw [hK j] at q; exact q, fun ex B P e σ H Q s q => r ex B P e σ H _ s (PostI.of_bndA q fun ds e1 items hg ys H1 x1 s1 r1 hJ => ?_)⟩
  unfold zipTOf at hg
  split at hg
  · split at hg
    · rename_i hn
      cases hg
      obtain ⟨y, z, rfl, ry, rz⟩ := r1.two
      simp only [Fz] at ry rz
      obtain ⟨a, xs, rfl, h1, h2⟩ := ry
      obtain ⟨b, ys, rfl, h3, h4⟩ := rz
      exact ⟨a, b, xs, ys, rfl, .inr ⟨h1.sq, h3.sq, hJ _ (itOf_zipT hn h1 h3 h2 h4)⟩⟩
    · cases hg
  · cases hg
end
end L3
set_option Elab.async false
set_option linter.all false
set_option maxRecDepth 100000
/-! L3Ops: operators, comparisons, subscripts, calls of built-ins, by data. -/
namespace L3
open PySem PySem.Spec PyProof.Rows L2 LamX

section
variable {K : PySem.W.Frag}
def gI (g : Int → Int → Int) : PyData → PyData → Option PyData
  | .int i, .int j => some (.int (g i j))
  | _, _ => none
def gIc (c : Int → Int → Bool) (g : Int → Int → Int) : PyData → PyData → Option PyData
  | .int i, .int j => if c i j = true then some (.int (g i j)) else none
  | _, _ => none
def gB (g : Int → Int → Bool) : PyData → PyData → Option PyData
  | .int i, .int j => some (.bool (g i j))
  | _, _ => none
theorem opf_I0 {g : Int → Int → Int} : OpF K (rI0 fun i j => .int (g i j)) (gI g) := by
  intro x y dx dy d H Q rx ry hg hn
  unfold gI at hg
  split at hg
  · cases hg; exact ⟨_, _, rx.int, ry.int, hn.int⟩
  · cases hg
theorem opf_I {C : Int → Int → Prop} {c : Int → Int → Bool} {g : Int → Int → Int} (h : ∀ i j, c i j = true → C i j) : OpF K (rI C fun i j => .int (g i j)) (gIc c g) := by
  intro x y dx dy d H Q rx ry hg hn
  unfold gIc at hg
  split at hg
  · split at hg
    · rename_i hc
      cases hg; exact ⟨_, _, rx.int, ry.int, h _ _ hc, hn.int⟩
    · cases hg
  · cases hg
theorem opf_B0 {g : Int → Int → Bool} : OpF K (rI0 fun i j => .bl (g i j)) (gB g) := by
  intro x y dx dy d H Q rx ry hg hn
  unfold gB at hg
  split at hg
  · cases hg; exact ⟨_, _, rx.int, ry.int, hn.bool⟩
  · cases hg
def gAdd := gI (· + ·)
def gSub := gI (· - ·)
def gMul := gIc (fun i j => decide (i.natAbs.log2 + j.natAbs.log2 < 100000000)) (· * ·)
/-- * of two factors of together less than a hundred million bits -/
def CMulX (i j : Int) : Prop := i.natAbs.log2 + j.natAbs.log2 < 100000000
theorem CMulX.ok {i j : Int} (h : CMulX i j) : IntMulOk i j := by
  have len : ∀ x : Int, Builtin.Int.intBits x ≤ x.natAbs.log2 + 1 := fun x => by
    unfold Builtin.Int.intBits
    split <;> omega
  have n1 := len i
  have n2 := len j
  have n3 : i.natAbs.log2 + j.natAbs.log2 < 100000000 := h
  have line : bitsLine = 134217728 := by decide
  intro z
  rw [Bool.and_eq_true] at z
  have big := z.2
  unfold Builtin.Int.intTooBig at big
  have big2 := of_decide_eq_true big
  rw [line] at big2
  omega
theorem op_mulX {X : Cx} : OpR X (binaryOp .Mult) (rI CMulX fun i j => .int (i * j)) := opI fun _ _ _ _ _ _ _ hc q => mul_int q hc.ok
def gDiv := gIc (fun _ j => decide (0 < j) && decide (j.natAbs.log2 < 9000)) (· / ·)
def gMod := gIc (fun _ j => decide (0 < j)) (· % ·)
def gShr := gIc (fun _ j => decide (0 ≤ j)) (fun i j => i / 2 ^ j.toNat)
def gShl := gIc (fun i j => decide (0 ≤ j) && (decide (j ≤ 1000000) && decide (i.natAbs < 2 ^ 64))) (fun i j => i * 2 ^ j.toNat)
def gAnd := gI Builtin.bitAnd
theorem opf_mul : OpF K (rI CMulX fun i j => .int (i * j)) gMul := opf_I fun i j h => (of_decide_eq_true h : i.natAbs.log2 + j.natAbs.log2 < 100000000)
theorem opf_div : OpF K (rI CDivW fun i j => .int (i / j)) gDiv := opf_I fun i j h => by
  rw [Bool.and_eq_true] at h
  exact ⟨of_decide_eq_true h.1, of_decide_eq_true h.2⟩
theorem opf_mod : OpF K (rI (fun _ j => 0 < j) fun i j => .int (i % j)) gMod := opf_I fun i j h => of_decide_eq_true h
theorem opf_shr : OpF K (rI (fun _ j => 0 ≤ j) fun i j => .int (i / 2 ^ j.toNat)) gShr := opf_I fun i j h => of_decide_eq_true h
theorem opf_shl : OpF K (rI CPow fun i j => .int (i * 2 ^ j.toNat)) gShl := opf_I fun i j h => by
  rw [Bool.and_eq_true, Bool.and_eq_true] at h
  exact ⟨of_decide_eq_true h.1, of_decide_eq_true h.2.1, of_decide_eq_true h.2.2⟩

/-! ### == and != -/
def gEqS : PyData → PyData → Option PyData
  | .int i, .int j => some (.bool (decide (i = j)))
  | .none, .int _ => some (.bool false)
  | .int _, .none => some (.bool false)
  | _, _ => none
def gNeS : PyData → PyData → Option PyData
  | .int i, .int j => some (.bool (!decide (i = j)))
  | .none, .int _ => some (.bool true)
  | .int _, .none => some (.bool true)
  | _, _ => none
theorem opf_eqS : OpF K rEq gEqS := by
  intro x y dx dy d H Q rx ry hg hn
  unfold gEqS at hg
  split at hg
  · cases hg
    rename_i i j
    rw [rx.int, ry.int]
    exact ⟨rfl, by have q := hn.bool; rwa [show decide (V.int i = V.int j) = decide (i = j) by simp]⟩
  · cases hg
    rename_i j
    rw [rx.none, ry.int]
    exact ⟨rfl, hn.bool⟩
  · cases hg
    rename_i j
    rw [rx.int, ry.none]
    exact ⟨rfl, hn.bool⟩
  · cases hg
theorem opf_neS : OpF K rNe gNeS := by
  intro x y dx dy d H Q rx ry hg hn
  unfold gNeS at hg
  split at hg
  · cases hg
    rename_i i j
    rw [rx.int, ry.int]
    exact ⟨rfl, by have q := hn.bool; rwa [show decide (V.int i = V.int j) = decide (i = j) by simp]⟩
  · cases hg
    rename_i j
    rw [rx.none, ry.int]
    exact ⟨rfl, hn.bool⟩
  · cases hg
    rename_i j
    rw [rx.int, ry.none]
    exact ⟨rfl, hn.bool⟩
  · cases hg
mutual
theorem Fz.dp {H : Hp} : ∀ (d : PyData) (v : V), d.canLay0 = true → Fz K H d v → Dp K H v d
  | .none, v, _, h => by simp only [Fz] at h; subst h; exact .non
  | .bool b, v, _, h => by simp only [Fz] at h; subst h; exact .bl b
  | .int b, v, _, h => by simp only [Fz] at h; subst h; exact .int b
  | .str b, v, _, h => by simp only [Fz] at h; subst h; exact .str b
  | .tuple ds, v, c, h => by
    simp only [Fz] at h
    obtain ⟨a, xs, rfl, e1, e2⟩ := h
    exact .tup e1.sq (FzAll.dp ds xs (by simpa [PyData.canLay0] using c) e2)
  | .list ds, v, c, h => by
    simp only [Fz] at h
    obtain ⟨a, xs, rfl, e1, e2⟩ := h
    exact .lst e1.seq (FzAll.dp ds xs (by simpa [PyData.canLay0] using c) e2)
  | .dict _, v, c, h => by simp [PyData.canLay0] at c
theorem FzAll.dp {H : Hp} : ∀ (ds : List PyData) (vs : List V), PyData.canLayAll0 ds = true → FzAll K H ds vs → DpAll K H vs ds
  | [], vs, _, h => by simp only [FzAll] at h; subst h; exact .nil
  | d :: ds, vs, c, h => by
    simp only [FzAll] at h
    obtain ⟨y, ys, rfl, h1, h2⟩ := h
    rw [PyData.canLayAll0, Bool.and_eq_true] at c
    exact .cons (Fz.dp d y c.1 h1) (FzAll.dp ds ys c.2 h2)
end
theorem RepB.dp {H : Hp} {d : PyData} {v : V} (h : RepB K H v d) (c : d.canLay0 = true) : Dp K H v d := by
  rcases h with h | ⟨a, rfl, h⟩
  · exact h.dp _ _ c
  · cases d with
    | list ds =>
      obtain ⟨xs, e1, e2⟩ := h
      exact .lst (.of e1) (FzAll.dp ds xs (by simpa [PyData.canLay0] using c) e2)
    | dict kvs => simp [PyData.canLay0] at c
    | _ => exact False.elim h
def gEqD (d e : PyData) : Option PyData := if (SeqAt.shaped d && SeqAt.shaped e) = true then some (.bool (PyData.eqv d e)) else none
def gNeD (d e : PyData) : Option PyData := if (SeqAt.shaped d && SeqAt.shaped e) = true then some (.bool (!PyData.eqv d e)) else none
theorem opf_eqD : OpF K (rEqD K) gEqD := by
  intro x y dx dy d H Q rx ry hg hn
  unfold gEqD at hg
  split at hg
  · rename_i hs
    rw [Bool.and_eq_true] at hs
    cases hg
    exact ⟨dx, dy, rx.dp (SeqAt.canLay_of_shaped hs.1), ry.dp (SeqAt.canLay_of_shaped hs.2), hs.1, hs.2, hn.bool⟩
  · cases hg
theorem opf_neD : OpF K (rNeD K) gNeD := by
  intro x y dx dy d H Q rx ry hg hn
  unfold gNeD at hg
  split at hg
  · rename_i hs
    rw [Bool.and_eq_true] at hs
    cases hg
    exact ⟨dx, dy, rx.dp (SeqAt.canLay_of_shaped hs.1), ry.dp (SeqAt.canLay_of_shaped hs.2), hs.1, hs.2, hn.bool⟩
  · cases hg
/-- x <= y of tuples of ints -/
def rLeD (K : PySem.W.Frag) : R2 := fun x y H Q => ∃ d e, Dp K H x d ∧ Dp K H y e ∧ PySem.W.alike d e = true ∧ d ≠ .none ∧ d.depth ≤ 64 ∧ Q (.bl (!PySem.W.dataLt e d)) H
theorem op_leD {X : Cx} (hu : X.A.units + 64 < cLine) : OpR X (compareOp .LtE) (rLeD X.K) := by
  intro pins s σ H x y v u Q I rx ry h
  obtain ⟨d, e, hd, he, al, nn, hdp, q⟩ := h
  obtain ⟨as, r1⟩ := Dp.reads I d x v hd rx
  obtain ⟨bs, r2⟩ := Dp.reads I e y u he ry
  exact PySem.W.le_data r1 r2 al nn (by have := Nat.min_le_left d.depth e.depth; omega) ⟨.bl _, H, I, rfl, q⟩
def gLeD (d e : PyData) : Option PyData := if (PySem.W.alike d e && (d.canLay0 && (e.canLay0 && decide (d.depth ≤ 64)))) = true then
  (match d with | .none => none | _ => some (.bool (!PySem.W.dataLt e d))) else none
theorem opf_leD : OpF K (rLeD K) gLeD := by
  intro x y dx dy d H Q rx ry hg hn
  unfold gLeD at hg
  split at hg
  · rename_i hs
    rw [Bool.and_eq_true, Bool.and_eq_true, Bool.and_eq_true] at hs
    obtain ⟨h1, h2, h3, h4⟩ := hs
    split at hg
    · cases hg
    · rename_i hnn
      cases hg
      exact ⟨dx, dy, rx.dp h2, ry.dp h3, h1, fun z => hnn z, of_decide_eq_true h4, hn.bool⟩
  · cases hg

/-! ### subscripts -/
def gIx : PyData → PyData → Option PyData
  | .list ds, .int i => L2.atI ds i
  | .tuple ds, .int i => L2.atI ds i
  | _, _ => none
theorem opf_ix : OpF K (rIx K) gIx := by
  intro x y dx dy d H Q rx ry hg hn
  unfold gIx at hg
  split at hg
  · obtain ⟨a, xs, rfl, h1, h2⟩ := rx.list
    obtain ⟨v, e1, e2⟩ := h2.atI hg
    exact .inl ⟨a, xs, _, v, rfl, ry.int, h1, e1, hn.here e2⟩
  · obtain ⟨a, xs, rfl, h1, h2⟩ := rx.tuple
    obtain ⟨v, e1, e2⟩ := h2.atI hg
    exact .inr (.inl ⟨a, xs, _, v, rfl, ry.int, h1.sq, e1, hn.here e2⟩)
  · cases hg
theorem NewV.new {H : Hp} {d : PyData} {Q : VK} (h : NewV K H d Q) {p : Addr} {o : HO} {z : V} (hp : H p = none) (r : Fz K (upd H p o) d z) : Q z (upd H p o) := h z _ (.inr ⟨p, o, hp, rfl⟩) r
theorem fz_tup_new {H : Hp} {p : Addr} {ds : List PyData} {xs : List V} {o : HO} (hp : H p = none) (ht : TupAt (upd H p o) (tts ds) p xs) (h : FzAll K H ds xs) : Fz K (upd H p o) (.tuple ds) (.ref p) := by
  simp only [Fz]
  exact ⟨p, xs, rfl, ht, FzAll.ext (Chg.fresh _ hp).ext _ _ h⟩
theorem fz_tup {H : Hp} {a : Addr} {ds : List PyData} {xs : List V} (h1 : TupAt H (tts ds) a xs) (h2 : FzAll K H ds xs) : Fz K H (.tuple ds) (.ref a) := by
  simp only [Fz]
  exact ⟨a, xs, rfl, h1, h2⟩
theorem NewV.tupQ {H : Hp} {ds : List PyData} {xs : List V} {Q : VK} (h : NewV K H (.tuple ds) Q) (hf : FzAll K H ds xs) : TupQ Q H xs := L3.tupQ (tts ds) fun p o hp ht => h.new hp (fz_tup_new hp ht hf)
/-- t + u of tuples -/
def gCat : PyData → PyData → Option PyData
  | .tuple ds, .tuple es => if ds.length + es.length ≤ 16777216 ∧ (ds = [] ∨ es = [] ∨ tts (ds ++ es) = false) then some (.tuple (ds ++ es)) else none
  | _, _ => none
theorem FzAll.isNil {H : Hp} {ds : List PyData} {xs : List V} (h : FzAll K H ds xs) : xs = [] ↔ ds = [] := by
  have := h.length
  constructor
  · intro z; subst z; exact List.eq_nil_of_length_eq_zero this
  · intro z; subst z; exact List.eq_nil_of_length_eq_zero this.symm
theorem opf_cat : OpF K (rCatA K) gCat := by
  intro x y dx dy d H Q rx ry hg hn
  unfold gCat at hg
  split at hg
  · rename_i ds es
    split at hg
    · rename_i hl
      cases hg
      obtain ⟨a, xs, rfl, h1, h2⟩ := rx.tuple
      obtain ⟨b, ys, rfl, h3, h4⟩ := ry.tuple
      refine ⟨a, b, xs, ys, rfl, rfl, h1.sq, h3.sq, by rw [← h2.length, ← h4.length]; exact line_ok hl.1, fun z => ?_, fun z z' => ?_, fun z z' p hp => ?_⟩
      · rw [h2.isNil] at z
        subst z
        exact hn.here (fz_tup h3 h4)
      · rw [h4.isNil] at z'
        subst z'
        refine hn.here ?_
        rw [List.append_nil]
        exact fz_tup h1 h2
      · have ht : tts (ds ++ es) = false := by
          rcases hl.2 with q | q | q
          · exact absurd (h2.isNil.mpr q) z
          · exact absurd (h4.isNil.mpr q) z'
          · exact q
        exact hn.new hp (fz_tup_new hp (by rw [ht]; exact upd_same) (h2.append h4))
    · cases hg
  · cases hg
/-- a slice of a tuple: the whole is itself, else a new one -/
def rSlQ (K : PySem.W.Frag) : V → Option Int → Option Int → Hp → VK → Prop := fun x lo hi H Q => ∃ a xs, x = .ref a ∧ SqT K H a xs ∧
  (HT.sIx xs.length 0 lo = 0 ∧ HT.sIx xs.length xs.length hi = xs.length → Q (.ref a) H) ∧ (¬ (HT.sIx xs.length 0 lo = 0 ∧ HT.sIx xs.length xs.length hi = xs.length) → TupQ Q H (cutV xs lo hi))
theorem sl_tupQ {X : Cx} : SlR X (rSlQ X.K) := by
  intro pins s σ H x v vl vu lo hi sl Q I rx hs pl pu h
  obtain ⟨a, xs, rfl, hx, q1, q2⟩ := h
  cases rx
  obtain ⟨its, r, ht, hz⟩ := I.tuple hx
  have hlen : its.toArray.size = xs.length := by rw [List.size_toArray]; exact r.length.symm
  refine ⟨"tuple", _, PyProof.Rows.slot_tuple_getitem.lookup, ht.typeIs, ?_⟩
  by_cases hw : HT.sIx xs.length 0 lo = 0 ∧ HT.sIx xs.length xs.length hi = xs.length
  · exact L2.getItem_tuple_whole ht hs pl pu (by rw [hlen]; exact hw) ⟨.ref a, H, I, rfl, q1 hw⟩
  · refine HT.getItem_tuple_cut ht hs pl pu (by rw [hlen]; exact hw) ?_ (by rw [hlen]; exact hz)
    rw [hlen]
    exact (q2 hw).laid (t' := s.toks) I (fun b ob q => Heap.get?_push_of_some _ q) (Nat.le_refl _) (Nat.le_trans (cutV_length xs lo hi) hz) ((r.drop (HT.sIx xs.length 0 lo)).take (HT.sIx xs.length xs.length hi - HT.sIx xs.length 0 lo)) (Heap.get?_push_size _ rfl) rfl rfl (n := 0) rfl
/-- t[lo:hi] of a tuple -/
def cutD (xs : List PyData) (lo hi : Option Int) : List PyData := (xs.drop (HT.sIx xs.length 0 lo)).take (HT.sIx xs.length xs.length hi - HT.sIx xs.length 0 lo)
theorem cutD_fz {H : Hp} {ds : List PyData} {xs : List V} {lo hi : Option Int} (h : FzAll K H ds xs) : FzAll K H (cutD ds lo hi) (cutV xs lo hi) := by
  unfold cutD cutV
  rw [h.length]
  exact FzAll.take _ (FzAll.drop _ h)
theorem cutD_whole {ds : List PyData} {lo hi : Option Int} (h : HT.sIx ds.length 0 lo = 0 ∧ HT.sIx ds.length ds.length hi = ds.length) : cutD ds lo hi = ds := by
  unfold cutD
  rw [h.1, h.2]
  simp
def rSl2 (K : PySem.W.Frag) (hi : Bool) : R2 := fun x y H Q => ∃ i, y = .int i ∧ (if hi = true then rSlQ K x none (some i) H Q else rSlQ K x (some i) none H Q)
def gSl (hi : Bool) : PyData → PyData → Option PyData
  | .tuple ds, .int i => some (.tuple (if hi = true then cutD ds none (some i) else cutD ds (some i) none))
  | _, _ => none
theorem rSlQ_of {H : Hp} {x : V} {ds : List PyData} {lo hi : Option Int} {Q : VK} (rx : RepB K H x (.tuple ds)) (hn : NewV K H (.tuple (cutD ds lo hi)) Q) : rSlQ K x lo hi H Q := by
  obtain ⟨a, xs, rfl, h1, h2⟩ := rx.tuple
  refine ⟨a, xs, rfl, h1.sq, fun hw => ?_, fun hw => hn.tupQ (cutD_fz h2)⟩
  rw [← h2.length] at hw
  refine hn.here ?_
  rw [cutD_whole hw]
  exact fz_tup h1 h2
theorem opf_sl {hi : Bool} : OpF K (rSl2 K hi) (gSl hi) := by
  intro x y dx dy d H Q rx ry hg hn
  unfold gSl at hg
  split at hg
  · cases hg
    refine ⟨_, ry.int, ?_⟩
    cases hi with
    | true => exact rSlQ_of rx hn
    | false => exact rSlQ_of rx hn
  · cases hg
/-- (..) * n -/
theorem tuple_mul1 (l : Addr) (items : Array Value) (n : Nat) (dd : Option Addr) (sl : Array (Option Value)) (u : Tok) :
    Meets (Builtin.«tuple.__mul__» ⟨[.ref l, .int 1 u], []⟩) (fun _ R s => s.heap.get? l = some { cls := .type "tuple", dict := dd, data := .seq items n, slots := sl } ∧
      R (.ok (.ret (Value.ref l))) s) :=
  .of_wp fun prog w A R s h => by
    obtain ⟨hp, g, d, tk, os⟩ := s
    obtain ⟨hl, h⟩ := h
    have f1 := AutoSeq1.idx_int
    have c1 : (items.isEmpty || (1 : Int) == 1) = true := by simp
    wp_walk using wpAny_loadPart' hl
    first
      | exact ⟨_, rfl, h⟩
      | (refine wpAny_ite_true (by simp) ?_; wp_walk using wpAny_loadPart' hl; exact ⟨_, rfl, h⟩)
end
end L3
set_option Elab.async false
set_option linter.all false
set_option maxRecDepth 100000
/-! L3Blt: calls of built-ins: len, abs, int, sum, all, any, tuple, isinstance; tuple * n; chained comparisons; dicts. -/
namespace L3
open PySem PySem.Spec PyProof.Rows L2 LamX

/-! ### tuple * n -/
def rRepN (K : PySem.W.Frag) : R2 := fun x y H Q => ∃ l k xs, x = .ref l ∧ y = .int k ∧ SqT K H l xs ∧ xs ≠ [] ∧ 1 ≤ k ∧ k ≤ 1000 ∧ xs.length ≤ 1000 ∧ (k = 1 → Q (.ref l) H) ∧ (2 ≤ k → ∀ p, H p = none → Q (.ref p) (upd H p (.tup (List.replicate k.toNat xs).flatten)))
theorem op_repN {X : Cx} : OpR X (binaryOp .Mult) (rRepN X.K) := by
  intro pins s σ H x y v u Q I rx ry h
  obtain ⟨l, k, xs, rfl, rfl, hT, hne, h1, h2, hz, q1, q2⟩ := h
  by_cases hk : k = 1
  · subst hk
    cases rx
    obtain ⟨t, rfl⟩ := ry
    obtain ⟨its, r, ⟨⟨cls, dd, data, sl⟩, ho, hc, n, hd⟩, hs⟩ := I.tuple hT
    simp only at hc hd
    subst hc hd
    exact wpAny_binaryOp_repeat_ref (T := "tuple") (U := "int") (by decide) ⟨_, ho, rfl⟩ (fun s' => typeIs_int s' 1 t) noFill_tuple_mul F.fills_int_mul F.slot_int_rmul repeat_tuple F.slot_int_index.lookup
      (call_meets F.slot_int_rmul (typeIs_int s 1 t) F.entry_int_rmul (F.args_int_rmul_2 _ _) (int_rmul_tuple 1 t l its.toArray n dd sl)
        ⟨ho, rfl, ⟨_, ho, rfl⟩, call_meets F.slot_tuple_mul ⟨_, ho, rfl⟩ F.entry_tuple_mul (F.args_tuple_mul_2 _ _) (tuple_mul1 l its.toArray n dd sl t) ⟨ho, ⟨.ref l, H, I, rfl, q1 rfl⟩⟩⟩)
  · exact op_repT pins s σ H _ _ v u Q I rx ry ⟨l, k, xs, rfl, rfl, hT, hne, by omega, h2, hz, q2 (by omega)⟩
section
variable {K : PySem.W.Frag}
def gRep : PyData → PyData → Option PyData
  | .tuple ds, .int k => if ds ≠ [] ∧ 1 ≤ k ∧ k ≤ 1000 ∧ ds.length ≤ 1000 ∧ tts (List.replicate k.toNat ds).flatten = false then some (.tuple (List.replicate k.toNat ds).flatten) else none
  | _, _ => none
theorem FzAll.rep {H : Hp} {ds : List PyData} {xs : List V} (h : FzAll K H ds xs) : ∀ n : Nat, FzAll K H (List.replicate n ds).flatten (List.replicate n xs).flatten
  | 0 => .nil
  | n + 1 => by
    rw [List.replicate_succ, List.replicate_succ, List.flatten_cons, List.flatten_cons]
    exact h.append (FzAll.rep h n)
theorem opf_rep : OpF K (rRepN K) gRep := by
  intro x y dx dy d H Q rx ry hg hn
  unfold gRep at hg
  split at hg
  · split at hg
    · rename_i hl
      cases hg
      obtain ⟨a, xs, rfl, h1, h2⟩ := rx.tuple
      refine ⟨a, _, xs, rfl, ry.int, h1.sq, fun z => hl.1 (h2.isNil.mp z), hl.2.1, hl.2.2.1, by rw [← h2.length]; exact hl.2.2.2.1, fun z => hn.here ?_, fun z p hp => ?_⟩
      · subst z
        have e : (List.replicate (1 : Int).toNat ‹List PyData›).flatten = ‹List PyData› := by simp
        rw [e]
        exact fz_tup h1 h2
      · exact hn.new hp (fz_tup_new hp (by rw [hl.2.2.2.2]; exact upd_same) (h2.rep _))
    · cases hg
  · cases hg

/-! ### len -/
def lenD : PyData → Option Nat
  | .list ds => some ds.length
  | .tuple ds => some ds.length
  | .dict kvs => some kvs.length
  | _ => none
def rLenA (K : PySem.W.Frag) : List V → Hp → VK → Prop := fun xs H Q => ∃ (p : Addr) (n : Nat), xs = [.ref p] ∧ ((∃ ys, (SqL K H p ys ∨ SqT K H p ys) ∧ n = ys.length) ∨ ∃ ks : List (List Key × V), Rd H p (.dT ks) ∧ n = ks.length) ∧ Q (.int (n : Nat)) H
theorem call_lenA {X : Cx} : CallR X (.builtin "len") (rLenA X.K) := by
  intro pins s σ H xs us Q I r h
  obtain ⟨p, n, rfl, h, q⟩ := h
  rcases h with ⟨ys, h, rfl⟩ | ⟨ks, hp, rfl⟩
  · exact call_len_seq pins s σ H _ us Q I r ⟨p, ys, rfl, h, q⟩
  · obtain ⟨u, rfl, rx⟩ := vals1 r
    obtain rfl : u = .ref p := rx
    obtain ⟨z, hd, ys, rel, dd⟩ := dt_rd I.hok hp
    have hl : ks.length = ys.length := Paired.length rel
    refine call_len_dictH hd dd (by rw [← hl]; rw [sizeLine_eq] at z; omega) ?_
    rw [← hl]
    exact ⟨.int ((ks.length : Nat) : Int), H, I.tok _, ⟨_, rfl⟩, q⟩
def gLen1 (d : PyData) : Option PyData := (lenD d).map fun n => .int (n : Nat)
def gLen : List PyData → Option PyData
  | [d] => gLen1 d
  | _ => none
theorem lenA_of {v : V} {d d' : PyData} {H : Hp} {Q : VK} (r : RepB K H v d) (hg : gLen1 d = some d') (hn : NewV K H d' Q) : rLenA K [v] H Q := by
  unfold gLen1 lenD at hg
  cases d with
  | list ds =>
    cases hg
    obtain ⟨a, xs, rfl, h1, h2⟩ := r.list
    exact ⟨a, _, rfl, .inl ⟨xs, .inl h1, h2.length⟩, hn.int⟩
  | tuple ds =>
    cases hg
    obtain ⟨a, xs, rfl, h1, h2⟩ := r.tuple
    exact ⟨a, _, rfl, .inl ⟨xs, .inr h1.sq, h2.length⟩, hn.int⟩
  | dict ds =>
    cases hg
    obtain ⟨a, xs, rfl, h1, h2⟩ := r.dict
    exact ⟨a, _, rfl, .inr ⟨xs, h1, h2.length⟩, hn.int⟩
  | _ => cases hg
theorem callf_len : CallF K (rLenA K) gLen := by
  intro vs ds d H Q h hg hn
  unfold gLen at hg
  split at hg
  · obtain ⟨y, rfl, ry⟩ := h.one
    exact lenA_of (.inl ry) hg hn
  · cases hg

/-! ### abs, int -/
def gAbs : List PyData → Option PyData
  | [.int i] => some (.int (if i < 0 then -i else i))
  | _ => none
theorem callf_abs : CallF K (fun xs H Q => ∃ i, xs = [.int i] ∧ Q (.int (if i < 0 then -i else i)) H) gAbs := by
  intro vs ds d H Q h hg hn
  unfold gAbs at hg
  split at hg
  · cases hg
    obtain ⟨y, rfl, ry⟩ := h.one
    simp only [Fz] at ry
    subst ry
    exact ⟨_, rfl, hn.int⟩
  · cases hg
def gInt : List PyData → Option PyData
  | [.int i] => some (.int i)
  | [.bool b] => some (.int (if b then 1 else 0))
  | _ => none
theorem callf_int : CallF K (fun xs H Q => (∃ i, xs = [.int i] ∧ Q (.int i) H) ∨ ∃ k, xs = [.bl k] ∧ Q (.int (if k then 1 else 0)) H) gInt := by
  intro vs ds d H Q h hg hn
  unfold gInt at hg
  split at hg
  · cases hg
    obtain ⟨y, rfl, ry⟩ := h.one
    simp only [Fz] at ry
    subst ry
    exact .inl ⟨_, rfl, hn.int⟩
  · cases hg
    obtain ⟨y, rfl, ry⟩ := h.one
    simp only [Fz] at ry
    subst ry
    exact .inr ⟨_, rfl, hn.int⟩
  · cases hg
/-! ### sum of a tuple of ints, all, any of a list of bools -/
def intsOf : List PyData → Option (List Int)
  | [] => some []
  | .int i :: r => (intsOf r).map (i :: ·)
  | _ => none
def boolsOf : List PyData → Option (List Bool)
  | [] => some []
  | .bool i :: r => (boolsOf r).map (i :: ·)
  | _ => none
theorem intsOf_eq : ∀ {ds : List PyData} {ns : List Int}, intsOf ds = some ns → ds = ns.map .int
  | [], ns, h => by cases h; rfl
  | .int i :: ds, ns, h => by
    have h : (intsOf ds).map (i :: ·) = some ns := h
    cases q : intsOf ds with
    | none => rw [q] at h; cases h
    | some ms => rw [q] at h; cases h; rw [intsOf_eq q]; rfl
  | .none :: _, _, h => by cases h
  | .bool _ :: _, _, h => by cases h
  | .str _ :: _, _, h => by cases h
  | .list _ :: _, _, h => by cases h
  | .tuple _ :: _, _, h => by cases h
  | .dict _ :: _, _, h => by cases h
theorem boolsOf_eq : ∀ {ds : List PyData} {ns : List Bool}, boolsOf ds = some ns → ds = ns.map .bool
  | [], ns, h => by cases h; rfl
  | .bool i :: ds, ns, h => by
    have h : (boolsOf ds).map (i :: ·) = some ns := h
    cases q : boolsOf ds with
    | none => rw [q] at h; cases h
    | some ms => rw [q] at h; cases h; rw [boolsOf_eq q]; rfl
  | .none :: _, _, h => by cases h
  | .int _ :: _, _, h => by cases h
  | .str _ :: _, _, h => by cases h
  | .list _ :: _, _, h => by cases h
  | .tuple _ :: _, _, h => by cases h
  | .dict _ :: _, _, h => by cases h
theorem FzAll.ints {H : Hp} : ∀ {ns : List Int} {xs : List V}, FzAll K H (ns.map .int) xs → xs = ns.map V.int
  | [], xs, h => by simp only [List.map_nil, FzAll] at h; exact h
  | n :: ns, xs, h => by
    simp only [List.map_cons, FzAll, Fz] at h
    obtain ⟨y, ys, rfl, rfl, h⟩ := h
    rw [FzAll.ints h]; rfl
theorem FzAll.bools {H : Hp} : ∀ {ns : List Bool} {xs : List V}, FzAll K H (ns.map .bool) xs → xs = ns.map V.bl
  | [], xs, h => by simp only [List.map_nil, FzAll] at h; exact h
  | n :: ns, xs, h => by
    simp only [List.map_cons, FzAll, Fz] at h
    obtain ⟨y, ys, rfl, rfl, h⟩ := h
    rw [FzAll.bools h]; rfl
theorem preSum_getD (ns : List Int) : ∀ n : Nat, preSum (fun i => ns.getD i 0) n = (ns.take n).sum
  | 0 => by simp [preSum]
  | n + 1 => by
    rw [preSum, preSum_getD ns n, List.take_succ]
    cases q : ns[n]? with
    | none => simp [q]
    | some x => simp [q]
def rSumT (K : PySem.W.Frag) : List V → Hp → VK → Prop := fun vs H Q => ∃ (a : Addr) (ns : List Int), vs = [V.ref a] ∧ SqT K H a (ns.map V.int) ∧ Q (.int ns.sum) H
theorem cr_sumT {X : Cx} (hc : X.calm = true) : CallR X (.builtin "sum") (rSumT X.K) := by
  intro pins s σ H vs us Q I r h
  obtain ⟨a, ns, rfl, hs, q⟩ := h
  obtain ⟨its, rv, p, _⟩ := I.tuple hs
  rw [Vals.ref1 r]
  have hi : IntsAre its ns := rv.ints
  have hl : its.length = ns.length := hi.length
  refine call_sum_walkAnyS (PySem.W.iter_tupleW (A := X.A.in1) (I.ok.hd hc) (show s.heap.IsTuple a its.toArray from p) fun s₂ e W st hfp hw hk => ?_)
  refine ⟨_, _, _, _, _, _, _, fun i => ns.getD i 0, rfl, W, st, hfp, fun i v hv => ?_, fun s' t' m => ?_⟩
  · have hv' : its[i]? = some v := by simpa using hv
    exact PyProof.Rows.IntsAre.int_at hi i v hv'
  · obtain ⟨h', tk, rfl, hk'⟩ := PySem.W.moved_old e rfl m
    refine ⟨.int _, H, I.kept (t' := tk) hk', ⟨_, rfl⟩, ?_⟩
    rw [show preSum (fun i => ns.getD i 0) its.toArray.size = ns.sum from ?_]
    · exact q
    · rw [List.size_toArray, hl, preSum_getD, List.take_length]
def gSumT : List PyData → Option PyData
  | [.tuple ds] => (intsOf ds).map fun ns => .int ns.sum
  | _ => none
theorem callf_sumT : CallF K (rSumT K) gSumT := by
  intro vs ds d H Q h hg hn
  unfold gSumT at hg
  split at hg
  · rename_i es
    obtain ⟨y, rfl, ry⟩ := h.one
    cases q : intsOf es with
    | none => rw [q] at hg; cases hg
    | some ns =>
      rw [q] at hg
      cases hg
      have e := intsOf_eq q
      subst e
      simp only [Fz] at ry
      obtain ⟨a, xs, rfl, h1, h2⟩ := ry
      rw [h2.ints] at h1
      exact ⟨a, ns, rfl, h1.sq, hn.int⟩
  · cases hg
def gAll : List PyData → Option PyData
  | [.list ds] => (boolsOf ds).map fun ns => .bool (ns.all id)
  | _ => none
def gAny : List PyData → Option PyData
  | [.list ds] => (boolsOf ds).map fun ns => .bool (ns.any id)
  | _ => none
theorem callf_all : CallF K (rAll K) gAll := by
  intro vs ds d H Q h hg hn
  unfold gAll at hg
  split at hg
  · rename_i es
    obtain ⟨y, rfl, ry⟩ := h.one
    cases q : boolsOf es with
    | none => rw [q] at hg; cases hg
    | some ns =>
      rw [q] at hg
      cases hg
      have e := boolsOf_eq q
      subst e
      simp only [Fz] at ry
      obtain ⟨a, xs, rfl, h1, h2⟩ := ry
      rw [h2.bools] at h1
      exact ⟨a, ns, rfl, h1.seq, hn.bool⟩
  · cases hg
theorem callf_any : CallF K (rAny K) gAny := by
  intro vs ds d H Q h hg hn
  unfold gAny at hg
  split at hg
  · rename_i es
    obtain ⟨y, rfl, ry⟩ := h.one
    cases q : boolsOf es with
    | none => rw [q] at hg; cases hg
    | some ns =>
      rw [q] at hg
      cases hg
      have e := boolsOf_eq q
      subst e
      simp only [Fz] at ry
      obtain ⟨a, xs, rfl, h1, h2⟩ := ry
      rw [h2.bools] at h1
      exact ⟨a, ns, rfl, h1.seq, hn.bool⟩
  · cases hg
/-- tuple(list), tuple(tuple) -/
def rTupA (K : PySem.W.Frag) : List V → Hp → VK → Prop := fun xs H Q => ∃ p ys, xs = [.ref p] ∧ ((SqL K H p ys ∧ TupQ Q H ys) ∨ (SqT K H p ys ∧ Q (.ref p) H))
theorem call_tupA {X : Cx} : CallR X (.type "tuple") (rTupA X.K) := by
  intro pins s σ H xs us Q I r h
  obtain ⟨p, ys, rfl, h⟩ := h
  obtain ⟨u, rfl, rx⟩ := vals1 r
  cases rx
  rcases h with ⟨hq, q⟩ | ⟨hq, q⟩
  · obtain ⟨its, r', pl, hz⟩ := I.list hq
    have hlen := r'.length
    refine call_tuple_list pl.isList (fun h' kp => ?_) (by simp only [List.size_toArray] <;> omega)
    have I1 : Inv X pins σ H { s with heap := h' } := I.kept (t' := s.toks) kp
    exact q.laid (s := { s with heap := h' }) (t' := s.toks) I1 (fun b o e => Heap.get?_push_of_some _ e) (Nat.le_refl _) hz r' (Heap.get?_push_size _ rfl) rfl rfl (n := 0) rfl
  · obtain ⟨its, r', pl, hz⟩ := I.tuple hq
    exact call_tuple_same pl ⟨.ref p, H, I, rfl, q⟩
def gTup : List PyData → Option PyData
  | [.list ds] => some (.tuple ds)
  | [.tuple ds] => some (.tuple ds)
  | _ => none
theorem callf_tup : CallF K (rTupA K) gTup := by
  intro vs ds d H Q h hg hn
  unfold gTup at hg
  split at hg
  · cases hg
    obtain ⟨y, rfl, ry⟩ := h.one
    simp only [Fz] at ry
    obtain ⟨a, xs, rfl, h1, h2⟩ := ry
    exact ⟨a, xs, rfl, .inl ⟨h1.seq, hn.tupQ h2⟩⟩
  · cases hg
    obtain ⟨y, rfl, ry⟩ := h.one
    have ry' := ry
    simp only [Fz] at ry
    obtain ⟨a, xs, rfl, h1, h2⟩ := ry
    exact ⟨a, xs, rfl, .inr ⟨h1.sq, hn.here ry'⟩⟩
  · cases hg

/-! ### isinstance(x, T), T a built-in type -/
def tyOfD : PyData → String
  | .none => "NoneType"
  | .bool _ => "bool"
  | .int _ => "int"
  | .str _ => "str"
  | .list _ => "list"
  | .tuple _ => "tuple"
  | .dict _ => "dict"
def isB (T : String) (d : PyData) : Bool := tyOfD d == T || (T == "int" && tyOfD d == "bool")
def IsOk (T : String) : Prop := kitB "NoneType" T = some (isB T .none) ∧ kitB "bool" T = some (isB T (.bool true)) ∧ kitB "int" T = some (isB T (.int 0)) ∧ kitB "str" T = some (isB T (.str ⟨#[]⟩)) ∧ kitB "list" T = some (isB T (.list [])) ∧ kitB "tuple" T = some (isB T (.tuple []))
theorem isOk_int : IsOk "int" := ⟨by decide +kernel, by decide +kernel, by decide +kernel, by decide +kernel, by decide +kernel, by decide +kernel⟩
theorem isOk_bool : IsOk "bool" := ⟨by decide +kernel, by decide +kernel, by decide +kernel, by decide +kernel, by decide +kernel, by decide +kernel⟩
theorem isOk_str : IsOk "str" := ⟨by decide +kernel, by decide +kernel, by decide +kernel, by decide +kernel, by decide +kernel, by decide +kernel⟩
theorem isOk_list : IsOk "list" := ⟨by decide +kernel, by decide +kernel, by decide +kernel, by decide +kernel, by decide +kernel, by decide +kernel⟩
theorem isOk_tuple : IsOk "tuple" := ⟨by decide +kernel, by decide +kernel, by decide +kernel, by decide +kernel, by decide +kernel, by decide +kernel⟩
def gIsi (T : String) : PyData → Option PyData
  | .dict _ => none
  | d => some (.bool (isB T d))
theorem FzL.ty {H : Hp} {a : Addr} {xs : List V} (h : FzL K H a xs) : TyX K H (.ref a) (.type "list") := by
  rcases h with ⟨o, h⟩ | ⟨o, its, n, h1, h2, _⟩
  · exact .base (.frz h)
  · exact .kList h1 h2
theorem TupAt.ty {H : Hp} {b : Bool} {a : Addr} {xs : List V} (h : TupAt H b a xs) : TyX K H (.ref a) (.type "tuple") := by
  cases b with
  | false => exact .base (.tup h)
  | true => obtain ⟨o, _, h⟩ := h; exact .fTuple h
theorem rIsi_of {T : String} (ok : IsOk T) {v : V} {d d' : PyData} {H : Hp} {Q : VK} (r : RepB K H v d) (hg : gIsi T d = some d') (hn : NewV K H d' Q) : rIsi K [v, .ty T] H Q := by
  obtain ⟨k1, k2, k3, k4, k5, k6⟩ := ok
  cases d with
  | none => cases hg; rw [r.none]; exact ⟨_, _, _, _, _, rfl, .ty T, .base .non, kit_ty k1, hn.bool⟩
  | bool b => cases hg; rw [r.bool]; exact ⟨_, _, _, _, _, rfl, .ty T, .base (.bl b), kit_ty k2, hn.bool⟩
  | int b => cases hg; rw [r.int]; exact ⟨_, _, _, _, _, rfl, .ty T, .base (.int b), kit_ty k3, hn.bool⟩
  | str b => cases hg; rw [r.str]; exact ⟨_, _, _, _, _, rfl, .ty T, .base (.str b), kit_ty k4, hn.bool⟩
  | list ds =>
    cases hg
    rcases r with r | ⟨a, rfl, xs, h1, h2⟩
    · simp only [Fz] at r
      obtain ⟨a, xs, rfl, h1, h2⟩ := r
      exact ⟨_, _, _, _, _, rfl, .ty T, h1.ty, kit_ty k5, hn.bool⟩
    · exact ⟨_, _, _, _, _, rfl, .ty T, .base (.lst h1), kit_ty k5, hn.bool⟩
  | tuple ds =>
    cases hg
    obtain ⟨a, xs, rfl, h1, h2⟩ := r.tuple
    exact ⟨_, _, _, _, _, rfl, .ty T, h1.ty, kit_ty k6, hn.bool⟩
  | dict _ => cases hg
end
/-- isinstance(e, T): e a value that is locked, or a name as it stands -/
def evIsi (T : String) (f : En → R) : En → R := ev1 (gIsi T) f
section
variable {ι : Type} {X : ι → Cx} {K : PySem.W.Frag} {mg : Str → Option Value} {W : WX} {T : List (Addr × Str)}
theorem snd_isi {t : String} {a b c : Expr} {f : En → R} (ok : IsOk t) (ha : SndD X K mg W T a f) (hb : ∀ j, PE (X j) b (tC (.ty t))) (mk : ∀ j ta, PA (X j) [a, b] ta → PE (X j) c (tCB (rIsi K) ta))
    (h1 : ∀ j, starEach [a, b] (X j).env = (false, eval a (X j).env) :: starEach [b] (X j).env := by intro _; rfl) (h2 : ∀ j, starEach [b] (X j).env = (false, eval b (X j).env) :: starEach [] (X j).env := by intro _; rfl) :
    SndE X K mg W T c (evIsi t f) := by
  obtain ⟨ta, p, r⟩ := ha
  refine ⟨_, fun j => mk j _ (pa_cons (p j) (pa_cons (hb j) pa_nil (h2 j)) (h1 j)), fun ex B P e σ H Q s q => r ex B P e σ H _ s (PostD.of_bnd (Ext.refl _) q fun d1 e1 _ q1 y1 H1 x1 s1 r1 => ?_)⟩
  obtain ⟨d, hg, hn⟩ := q1.lift x1 s1
  exact rIsi_of ok (.inl r1) hg hn
/-- a op b op' c of ints -/
def evChain (g g' : Int → Int → Bool) (fa fb fc : En → R) : En → R := fun e => (fa e).bnd fun d1 e1 => (fb e1).bnd fun d2 e2 => match d1, d2 with
  | .int i, .int j => if g i j = true then (fc e2).bnd fun d3 e3 => match d3 with
    | .int k => .ok (.fz (.bool (g' j k))) e3
    | _ => .bad
    else .ok (.fz (.bool false)) e2
  | _, _ => .bad
theorem rd_chain {ta tb tc : TE} {g g' : Int → Int → Bool} {fa fb fc : En → R} (ra : RdD K mg W T ta fa) (rb : RdD K mg W T tb fb) (rc : RdD K mg W T tc fc) :
    RdE K mg W T (tChain (rI0 fun i j => .bl (g i j)) (rI0 fun i j => .bl (g' i j)) ta tb tc) (evChain g g' fa fb fc) := by
  refine fun ex B P e σ H Q s q => ra ex B P e σ H _ s (PostD.of_bnd (Ext.refl _) q fun d1 e1 _ q1 y1 H1 x1 s1 r1 => ?_)
  refine rb ex B P e1 σ H1 _ s1 (PostD.of_bnd x1 q1 fun d2 e2 _ q2 y2 H2 x2 s2 r2 => ?_)
  cases d1 with
  | int i =>
    cases d2 with
    | int j =>
      simp only [Fz] at r1 r2
      subst r1 r2
      refine ⟨i, j, rfl, rfl, _, rfl, ?_⟩
      have q2 : PostE K mg W T ex B P σ H Q (if g i j = true then (fc e2).bnd fun d3 e3 => (match d3 with
        | .int k => .ok (.fz (.bool (g' j k))) e3
        | _ => .bad)
        else .ok (.fz (.bool false)) e2) := q2
      by_cases hg : g i j = true
      · rw [if_pos hg] at q2
        rw [if_pos hg]
        refine rc ex B P e2 σ H2 _ s2 (PostD.of_bnd (x1.trans x2) q2 fun d3 e3 _ q3 y3 H3 x3 s3 r3 => ?_)
        cases d3 with
        | int k =>
          simp only [Fz] at r3
          subst r3
          exact ⟨j, k, rfl, rfl, q3 _ H3 ((x1.trans x2).trans x3) s3 (by simp only [VRep, Fz])⟩
        | _ => exact False.elim q3
      · rw [if_neg hg] at q2
        rw [if_neg hg]
        exact q2 _ H2 (x1.trans x2) s2 (by simp only [VRep, Fz])
    | _ => exact False.elim q2
  | _ => exact False.elim q2
theorem sndT_chain {a b c : Expr} {op op' : CmpOp} {pos : Pos} {g g' : Int → Int → Bool} {fa fb fc : En → R} (ho : ∀ j, OpR (X j) (compareOp op) (rI0 fun i j => .bl (g i j))) (ho' : ∀ j, OpR (X j) (compareOp op') (rI0 fun i j => .bl (g' i j)))
    (ha : SndD X K mg W T a fa) (hb : SndD X K mg W T b fb) (hc : SndD X K mg W T c fc) (hm : lastMarks [op, op'] [b, c] = false) : SndT X K mg W T (.Compare a [op, op'] [b, c] pos) (evChain g g' fa fb fc) :=
  let ⟨_, pa, ra⟩ := ha
  let ⟨_, pb, rb⟩ := hb
  let ⟨_, pc, rc⟩ := hc
  ⟨_, fun j => pt_chain (ho j) (ho' j) (pa j) (pb j) (pc j) hm, rd_test (rd_chain ra rb rc)⟩
end
end L3
set_option Elab.async false
set_option linter.all false
set_option maxRecDepth 100000
/-! L3Dict: dicts with tuple keys read and written; list items set, append. -/
namespace L3
open PySem PySem.Spec PyProof.Rows L2 LamX

def keyOf : PyData → Option Key
  | .int i => some (.inl i)
  | .str x => some (.inr x)
  | _ => none
def keysD : List PyData → Option (List Key)
  | [] => some []
  | d :: r => (keyOf d).bind fun k => (keysD r).map (k :: ·)
def keyOfT : PyData → Option (List Key)
  | .tuple [] => none
  | .tuple ds => keysD ds
  | _ => none
theorem keyOf_eq {d : PyData} {k : Key} (h : keyOf d = some k) : d = keyD k := by
  cases d <;> cases h <;> rfl
theorem keysD_eq : ∀ {ds : List PyData} {k : List Key}, keysD ds = some k → ds = k.map keyD
  | [], k, h => by cases h; rfl
  | d :: r, k, h => by
    unfold keysD at h
    cases q : keyOf d with
    | none => rw [q] at h; cases h
    | some x =>
      rw [q] at h
      have h : (keysD r).map (x :: ·) = some k := h
      cases q2 : keysD r with
      | none => rw [q2] at h; cases h
      | some k' => rw [q2] at h; cases h; rw [keyOf_eq q, keysD_eq q2]; rfl
theorem keyOfT_eq {d : PyData} {k : List Key} (h : keyOfT d = some k) : k ≠ [] ∧ d = .tuple (k.map keyD) := by
  cases d with
  | tuple ds =>
    cases ds with
    | nil => cases h
    | cons x r =>
      have h : keysD (x :: r) = some k := h
      refine ⟨fun z => ?_, by rw [keysD_eq h]⟩
      subst z
      have := keysD_eq h
      cases this
  | _ => cases h
theorem keyOf_keyD (k : Key) : keyOf (keyD k) = some k := by cases k <;> rfl
theorem keysD_map : ∀ k : List Key, keysD (k.map keyD) = some k
  | [] => rfl
  | x :: k => by
    show (keyOf (keyD x)).bind (fun y => (keysD (k.map keyD)).map (y :: ·)) = _
    rw [keyOf_keyD, keysD_map k]; rfl
theorem keyOfT_map {k : List Key} (n : k ≠ []) : keyOfT (.tuple (k.map keyD)) = some k := by
  cases k with
  | nil => exact absurd rfl n
  | cons x r => exact keysD_map (x :: r)
def dGet : List (PyData × PyData) → List Key → Option PyData
  | [], _ => none
  | p :: r, k => if keyOfT p.1 = some k then some p.2 else dGet r k
def dHas (kvs : List (PyData × PyData)) (k : List Key) : Bool := kvs.any fun p => decide (keyOfT p.1 = some k)
def dPut (kvs : List (PyData × PyData)) (k : List Key) (d : PyData) : List (PyData × PyData) :=
  if dHas kvs k = true then kvs.map (fun p => if keyOfT p.1 = some k then (p.1, d) else p) else kvs ++ [(.tuple (k.map keyD), d)]
section
variable {K : PySem.W.Frag} {H : Hp}
theorem FzKV.val : ∀ {kvs : List (PyData × PyData)} {ks : List (List Key × V)} {k : List Key}, FzKV K H kvs ks → (dGet kvs k = none → valV ks k = none) ∧ ∀ d, dGet kvs k = some d → ∃ v, valV ks k = some v ∧ Fz K H d v
  | [], ks, k, h => by
    simp only [FzKV] at h
    subst h
    exact ⟨fun _ => rfl, fun d z => by cases z⟩
  | (k0, d0) :: r, ks, k, h => by
    simp only [FzKV] at h
    obtain ⟨k', v, ks', rfl, ⟨nk, rfl⟩, h1, h2⟩ := h
    unfold dGet
    rw [show keyOfT (PyData.tuple (k'.map keyD), d0).1 = some k' from keyOfT_map nk]
    by_cases e : k' = k
    · rw [if_pos (by rw [e]), valV_pos e]
      exact ⟨fun z => (by cases z), fun d z => (by cases z; exact ⟨v, rfl, h1⟩)⟩
    · rw [if_neg (fun z => e (Option.some.inj z)), valV_neg e]
      exact FzKV.val h2
theorem FzKV.has : ∀ {kvs : List (PyData × PyData)} {ks : List (List Key × V)} {k : List Key}, FzKV K H kvs ks → dHas kvs k = ks.any fun kv => decide (kv.1 = k)
  | [], ks, k, h => by
    simp only [FzKV] at h
    subst h
    rfl
  | (k0, d0) :: r, ks, k, h => by
    simp only [FzKV] at h
    obtain ⟨k', v, ks', rfl, ⟨nk, rfl⟩, h1, h2⟩ := h
    have ih := FzKV.has (k := k) h2
    unfold dHas at ih ⊢
    rw [List.any_cons, List.any_cons, ih, show keyOfT (PyData.tuple (k'.map keyD), d0).1 = some k' from keyOfT_map nk]
    have : decide (some k' = some k) = decide (k' = k) := by simp
    rw [this]
theorem FzKV.mapPut {k : List Key} {d : PyData} {x : V} (hd : Fz K H d x) : ∀ {kvs : List (PyData × PyData)} {ks : List (List Key × V)}, FzKV K H kvs ks → FzKV K H (kvs.map fun p => if keyOfT p.1 = some k then (p.1, d) else p) (ks.map fun kv => if kv.1 = k then (kv.1, x) else kv)
  | [], ks, h => by
    simp only [FzKV] at h
    subst h
    simp only [List.map_nil, FzKV]
  | (k0, d0) :: r, ks, h => by
    simp only [FzKV] at h
    obtain ⟨k', v, ks', rfl, ⟨nk, rfl⟩, h1, h2⟩ := h
    have ih := FzKV.mapPut (k := k) hd h2
    rw [List.map_cons, List.map_cons, show keyOfT (PyData.tuple (k'.map keyD), d0).1 = some k' from keyOfT_map nk]
    by_cases e : k' = k
    · rw [if_pos (by rw [e]), if_pos e]
      simp only [FzKV]
      exact ⟨k', x, _, rfl, ⟨nk, rfl⟩, hd, ih⟩
    · rw [if_neg (fun z => e (Option.some.inj z)), if_neg e]
      simp only [FzKV]
      exact ⟨k', v, _, rfl, ⟨nk, rfl⟩, h1, ih⟩
theorem FzKV.append : ∀ {kvs kvs' : List (PyData × PyData)} {ks ks' : List (List Key × V)}, FzKV K H kvs ks → FzKV K H kvs' ks' → FzKV K H (kvs ++ kvs') (ks ++ ks')
  | [], kvs', ks, ks', h, h' => by
    simp only [FzKV] at h
    subst h
    exact h'
  | (k0, d0) :: r, kvs', ks, ks', h, h' => by
    simp only [FzKV] at h
    obtain ⟨k', v, ks1, rfl, ⟨nk, rfl⟩, h1, h2⟩ := h
    simp only [List.cons_append, FzKV]
    exact ⟨k', v, _, rfl, ⟨nk, rfl⟩, h1, h2.append h'⟩
theorem FzKV.one {k : List Key} {d : PyData} {x : V} (nk : k ≠ []) (hd : Fz K H d x) : FzKV K H [(.tuple (k.map keyD), d)] [(k, x)] := by
  simp only [FzKV]
  exact ⟨k, x, [], rfl, ⟨nk, rfl⟩, hd, rfl⟩
theorem FzKV.put {k : List Key} {d : PyData} {x : V} {kvs : List (PyData × PyData)} {ks : List (List Key × V)} (h : FzKV K H kvs ks) (nk : k ≠ []) (hd : Fz K H d x) : FzKV K H (dPut kvs k d) (putK ks k x) := by
  unfold dPut putK
  rw [h.has]
  by_cases q : (ks.any fun kv => decide (kv.1 = k)) = true
  · rw [if_pos q, if_pos q]
    exact FzKV.mapPut hd h
  · rw [if_neg q, if_neg q]
    exact h.append (FzKV.one nk hd)
/-- a tuple of ints and texts as a key -/
theorem key_at {d : PyData} {k : List Key} {y : V} (hk : keyOfT d = some k) (r : Fz K H d y) : ∃ b, y = .ref b ∧ H b = some (.tup (k.map kV)) := by
  obtain ⟨nk, ek⟩ := keyOfT_eq hk
  rw [ek] at r
  simp only [Fz] at r
  rw [tts_key nk] at r
  obtain ⟨b, xs, rfl, h1, h2⟩ := r
  refine ⟨b, rfl, ?_⟩
  have : xs = k.map kV := by
    clear hk h1 ek nk
    induction k generalizing xs with
    | nil => simp only [List.map_nil, FzAll] at h2; exact h2
    | cons x k ih =>
      simp only [List.map_cons, FzAll] at h2
      obtain ⟨y, ys, rfl, e1, e2⟩ := h2
      rw [ih _ e2]
      cases x with
      | inl i => simp only [keyD, Fz] at e1; rw [e1]; rfl
      | inr i => simp only [keyD, Fz] at e1; rw [e1]; rfl
  rw [← this]
  exact h1
theorem key_rep {d : PyData} {k : List Key} {y : V} (hk : keyOfT d = some k) (r : RepB K H y d) : ∃ b, y = .ref b ∧ H b = some (.tup (k.map kV)) := by
  rcases r with r | ⟨a, rfl, r⟩
  · exact key_at hk r
  · rw [(keyOfT_eq hk).2] at r; exact False.elim r
def rDGet : R2 := fun x y H Q => ∃ a v, x = .ref a ∧ DGet H a y (some v) ∧ Q v H
def gDget : PyData → PyData → Option PyData
  | .dict kvs, d => (keyOfT d).bind (dGet kvs)
  | _, _ => none
theorem opf_dget : OpF K rDGet gDget := by
  intro x y dx dy d H Q rx ry hg hn
  cases dx with
  | dict kvs =>
    have hg : (keyOfT dy).bind (dGet kvs) = some d := hg
    obtain ⟨a, ks, rfl, h1, h2⟩ := rx.dict
    cases hk : keyOfT dy with
    | none => rw [hk] at hg; cases hg
    | some k =>
      rw [hk] at hg
      obtain ⟨b, rfl, hb⟩ := key_rep hk ry
      obtain ⟨v, e1, e2⟩ := (FzKV.val (k := k) h2).2 d hg
      exact ⟨a, v, rfl, .inr ⟨ks, k, b, h1, rfl, hb, e1.symm⟩, hn.here e2⟩
  | _ => cases hg
end
/-- d.get(k), d.get(k, z): d a name as it stands -/
def evGet1 (i : Nat) (fk : En → R) : En → R := fun e => match slD e[i]? with
  | some (.dict _) => (fk e).bnd fun d1 e1 => (match slD e1[i]? with
    | some (.dict kvs) => (match keyOfT d1 with
      | some k => .ok (.fz ((dGet kvs k).getD .none)) e1
      | none => .bad)
    | _ => .bad)
  | _ => .bad
def evGet2 (i : Nat) (fk fz : En → R) : En → R := fun e => match slD e[i]? with
  | some (.dict _) => (fk e).bnd fun d1 e1 => (fz e1).bnd fun d2 e2 => (match slD e2[i]? with
    | some (.dict kvs) => (match keyOfT d1 with
      | some k => .ok (.fz ((dGet kvs k).getD d2)) e2
      | none => .bad)
    | _ => .bad)
  | _ => .bad
theorem slD_dict {o : Option Sl} {k : PyData → R} {z : R} : True := trivial
section
variable {ι : Type} {X : ι → Cx} {K : PySem.W.Frag} {mg : Str → Option Value} {W : WX} {T : List (Addr × Str)}
theorem isD_rep {H : Hp} {v : V} {kvs : List (PyData × PyData)} (r : RepB K H v (.dict kvs)) : ∃ a, v = .ref a ∧ IsD H a := by
  obtain ⟨a, ks, rfl, h1, _⟩ := r.dict
  exact ⟨a, rfl, .inr ⟨ks, h1⟩⟩
theorem dgetD_rep {H : Hp} {v y z : V} {kvs : List (PyData × PyData)} {dk d2 : PyData} {k : List Key} (r : RepB K H v (.dict kvs)) (hk : keyOfT dk = some k) (ry : Fz K H dk y) (rz : Fz K H d2 z) :
    ∃ a o, v = .ref a ∧ DGet H a y o ∧ Fz K H ((dGet kvs k).getD d2) (o.getD z) := by
  obtain ⟨a, ks, rfl, h1, h2⟩ := r.dict
  obtain ⟨b, rfl, hb⟩ := key_at hk ry
  refine ⟨a, _, rfl, .inr ⟨ks, k, b, h1, rfl, hb, rfl⟩, ?_⟩
  obtain ⟨n1, n2⟩ := FzKV.val (k := k) h2
  cases q : dGet kvs k with
  | none => rw [n1 q]; exact rz
  | some d =>
    obtain ⟨v', e1, e2⟩ := n2 d q
    rw [e1]; exact e2
theorem snd_get1 {i : Nat} {o ek : Expr} {apos cpos : Pos} {fk : En → R} (hu : ∀ j, (X j).A.units + 1 < cLine) (ho : ∀ j, PE (X j) o (tVar i)) (hk : SndD X K mg W T ek fk) (m : ∀ j, M1 (X j) o "get" apos ek cpos) :
    SndE X K mg W T (.Call (.Attribute o "get" apos) [ek] [] cpos) (evGet1 i fk) := by
  obtain ⟨t, p, r⟩ := hk
  refine ⟨_, fun j => pe_dget1 (hu j) (ho j) (p j) (m j), fun ex B P e σ H Q s q => ?_⟩
  unfold evGet1 at q
  cases h0 : slD e[i]? with
  | none => rw [h0] at q; exact False.elim q
  | some d0 =>
    rw [h0] at q
    cases d0 with
    | dict kvs0 =>
      obtain ⟨v, hv, rv⟩ := s.slot h0
      obtain ⟨a, rfl, isd⟩ := isD_rep rv
      refine ⟨_, hv, a, rfl, isd, r ex B P e σ H _ s (PostD.of_bnd (Ext.refl _) q fun d1 e1 _ q1 y1 H1 x1 s1 r1 => ?_)⟩
      cases h1 : slD e1[i]? with
      | none => rw [h1] at q1; exact False.elim q1
      | some d2 =>
        rw [h1] at q1
        cases d2 with
        | dict kvs =>
          cases hk : keyOfT d1 with
          | none => rw [hk] at q1; exact False.elim q1
          | some k =>
            rw [hk] at q1
            obtain ⟨v', hv', rv'⟩ := s1.slot h1
            rw [hv] at hv'; cases hv'
            obtain ⟨a', o', e1', g, rr⟩ := dgetD_rep (z := V.non) (d2 := .none) rv' hk r1 (by simp only [Fz])
            cases e1'
            exact ⟨o', g, q1 _ H1 x1 s1 rr⟩
        | _ => exact False.elim q1
    | _ => exact False.elim q
theorem snd_get2 {i : Nat} {o ek ez : Expr} {apos cpos : Pos} {fk fz : En → R} (hu : ∀ j, (X j).A.units + 1 < cLine) (ho : ∀ j, PE (X j) o (tVar i)) (hk : SndD X K mg W T ek fk) (hz : SndD X K mg W T ez fz) (m : ∀ j, M2 (X j) o "get" apos ek ez cpos) :
    SndE X K mg W T (.Call (.Attribute o "get" apos) [ek, ez] [] cpos) (evGet2 i fk fz) := by
  obtain ⟨t, p, r⟩ := hk
  obtain ⟨t', p', r'⟩ := hz
  refine ⟨_, fun j => pe_dget2 (hu j) (ho j) (p j) (p' j) (m j), fun ex B P e σ H Q s q => ?_⟩
  unfold evGet2 at q
  cases h0 : slD e[i]? with
  | none => rw [h0] at q; exact False.elim q
  | some d0 =>
    rw [h0] at q
    cases d0 with
    | dict kvs0 =>
      obtain ⟨v, hv, rv⟩ := s.slot h0
      obtain ⟨a, rfl, isd⟩ := isD_rep rv
      refine ⟨_, hv, a, rfl, isd, r ex B P e σ H _ s (PostD.of_bnd (Ext.refl _) q fun d1 e1 _ q1 y1 H1 x1 s1 r1 => ?_)⟩
      refine r' ex B P e1 σ H1 _ s1 (PostD.of_bnd x1 q1 fun d2 e2 _ q2 y2 H2 x2 s2 r2 => ?_)
      cases h1 : slD e2[i]? with
      | none => rw [h1] at q2; exact False.elim q2
      | some d3 =>
        rw [h1] at q2
        cases d3 with
        | dict kvs =>
          cases hk : keyOfT d1 with
          | none => rw [hk] at q2; exact False.elim q2
          | some k =>
            rw [hk] at q2
            obtain ⟨v', hv', rv'⟩ := s2.slot h1
            rw [hv] at hv'; cases hv'
            obtain ⟨a', o', e1', g, rr⟩ := dgetD_rep rv' hk (Fz.ext x2 _ _ r1) r2
            cases e1'
            exact ⟨o', g, q2 _ H2 (x1.trans x2) s2 rr⟩
        | _ => exact False.elim q2
    | _ => exact False.elim q

/-! ### d[k] = v -/
def evDPut (i : Nat) (fk fv : En → R) : En → O := fun e => (fv e).bndO fun d1 e1 => match e1[i]? with
  | some (.ow (.dict _)) => (fk e1).bndO fun d2 e2 => (match e2[i]? with
    | some (.ow (.dict kvs)) => (match keyOfT d2 with
      | some k => if kvs.length < 16777216 then .nx (e2.set i (.ow (.dict (dPut kvs k d1)))) else .bad
      | none => .bad)
    | _ => .bad)
  | _ => .bad
theorem PostD.of_bndO {ex : Option Addr} {B : Hp} {σ : L2.St} {H0 H1 : Hp} {D : Ends} {Q' : VK} {r : R} {k : PyData → En → O} (x : Ext H0 H1) (h : PostS K mg W T ex B H0 D (r.bndO k))
    (hk : ∀ d e, PostS K mg W T ex B H0 D (k d e) → ∀ y H', Ext H1 H' → Sim K T ex B [] e σ H' → Fz K H' d y → Q' y H') : PostD K mg W T ex B [] σ H1 Q' r := by
  cases r with
  | ok v e =>
    cases v with
    | fz d => exact hk d e h
    | ow d => exact hk d e h
  | exn c e => exact fun cls H' hc x' s' => h cls σ H' hc (x.trans x') s'
  | bad => exact h
theorem snds_dput {i : Nat} {o ek ev : Expr} {pos' pos : Pos} {fk fv : En → R} (hu : ∀ j, (X j).A.units + 1 < cLine) (ho : ∀ j, PE (X j) o (tVar i)) (hk : SndD X K mg W T ek fk) (hv : SndD X K mg W T ev fv)
    (hs : ∀ j, swapsWith ev (some (.Subscript o ek pos')) pos.line (X j).env = pure false := by intro _; rfl) : SndS X K mg W T (.Assign [.Subscript o ek pos'] ev pos) (evDPut i fk fv) := by
  obtain ⟨t, p, r⟩ := hk
  obtain ⟨t', p', r'⟩ := hv
  refine ⟨_, fun j => ps_dput (hu j) (ho j) (p j) (p' j) (hs j), fun ex B e σ H D s q => ?_⟩
  refine r' ex B [] e σ H _ s (PostD.of_bndO (Ext.refl _) q fun d1 e1 q1 y1 H1 x1 s1 r1 => ?_)
  cases h0 : e1[i]? with
  | none => rw [h0] at q1; exact False.elim q1
  | some sl =>
    rw [h0] at q1
    cases sl with
    | ow d0 =>
      cases d0 with
      | dict kvs0 =>
        obtain ⟨a, ha, _, _⟩ := s1.ow i _ h0
        refine ⟨_, ha, r ex B [] e1 σ H1 _ s1 (PostD.of_bndO x1 q1 fun d2 e2 q2 y2 H2 x2 s2 r2 => ?_)⟩
        cases h1 : e2[i]? with
        | none => rw [h1] at q2; exact False.elim q2
        | some sl =>
          rw [h1] at q2
          cases sl with
          | ow d3 =>
            cases d3 with
            | dict kvs =>
              cases hk : keyOfT d2 with
              | none => rw [hk] at q2; exact False.elim q2
              | some k =>
                rw [hk] at q2
                have q2 : PostS K mg W T ex B H D (if kvs.length < 16777216 then .nx (e2.set i (.ow (.dict (dPut kvs k d1)))) else .bad) := q2
                by_cases hl : kvs.length < 16777216
                · rw [if_pos hl] at q2
                  obtain ⟨a', ha', ho', _⟩ := s2.ow i _ h1
                  rw [ha] at ha'; cases ha'
                  obtain ⟨ks, hks, hkv⟩ := ho'
                  obtain ⟨b, rfl, hb⟩ := key_at hk r2
                  have c := Chg.own (.dT (putK ks k y1)) hks (.inr ⟨_, rfl⟩)
                  refine ⟨a, _, rfl, .inr ⟨ks, k, b, hks, rfl, hb, by rw [← hkv.length]; exact line_lt hl, rfl⟩, q2 σ _ ((x1.trans x2).trans c.ext) (s2.write h1 ha c (.inr ⟨_, rfl, _, upd_same, ?_⟩))⟩
                  exact FzKV.put (FzKV.ext c.ext _ _ hkv) (keyOfT_eq hk).1 (Fz.ext (x2.trans c.ext) _ _ r1)
                · rw [if_neg hl] at q2; exact False.elim q2
            | _ => exact False.elim q2
          | _ => exact False.elim q2
      | _ => exact False.elim q1
    | _ => exact False.elim q1

/-! ### xs[k] = v, xs.append(v) -/
def evLSet (i : Nat) (fk fv : En → R) : En → O := fun e => (fv e).bndO fun d1 e1 => match slD e1[i]? with
  | some (.list _) => (fk e1).bndO fun d2 e2 => (match e2[i]?, d2 with
    | some (.ow (.list ds)), .int k => (match L2.ixN ds.length k with
      | some n => .nx (e2.set i (.ow (.list (ds.set n d1))))
      | none => .bad)
    | some (.io (.list ds)), .int k => (match L2.ixN ds.length k with
      | some n => .nx (e2.set i (.io (.list (ds.set n d1))))
      | none => .bad)
    | _, _ => .bad)
  | _ => .bad
theorem Chg.fr {T : List (Addr × Str)} {H H' : Hp} {a : Addr} {o : HO} (c : Chg H H' a o) (t : Tabs T H) : Fr T (some a) H H' :=
  ⟨c.ext, fun b u hb n _ => by rw [c.off fun z => n (by rw [z])]; exact hb, c.th, c.tabs t⟩
theorem snds_lset {i : Nat} {o ek ev : Expr} {pos' pos : Pos} {fk fv : En → R} (ho : ∀ j, PE (X j) o (tVar i)) (hk : SndD X K mg W T ek fk) (hv : SndD X K mg W T ev fv)
    (mk : ∀ j tk tv, PE (X j) ek tk → PE (X j) ev tv → PS (X j) (.Assign [.Subscript o ek pos'] ev pos) (tAsg tv (L2.gSub (tVar i) tk rSetL))) : SndS X K mg W T (.Assign [.Subscript o ek pos'] ev pos) (evLSet i fk fv) := by
  obtain ⟨t, p, r⟩ := hk
  obtain ⟨t', p', r'⟩ := hv
  refine ⟨_, fun j => mk j _ _ (p j) (p' j), fun ex B e σ H D s q => ?_⟩
  refine r' ex B [] e σ H _ s (PostD.of_bndO (Ext.refl _) q fun d1 e1 q1 y1 H1 x1 s1 r1 => ?_)
  cases h0 : slD e1[i]? with
  | none => rw [h0] at q1; exact False.elim q1
  | some d0 =>
    rw [h0] at q1
    cases d0 with
    | list ds0 =>
      obtain ⟨v, hv, _⟩ := s1.slot h0
      refine ⟨v, hv, r ex B [] e1 σ H1 _ s1 (PostD.of_bndO x1 q1 fun d2 e2 q2 y2 H2 x2 s2 r2 => ?_)⟩
      cases h1 : e2[i]? with
      | none => rw [h1] at q2; exact False.elim q2
      | some sl =>
        rw [h1] at q2
        cases d2 with
        | int k =>
          simp only [Fz] at r2
          subst r2
          have done : ∀ ds n xs a, L2.ixN ds.length k = some n → σ[i]? = some (some (.ref a)) → H2 a = some (.lst xs) → FzAll K H2 ds xs → (∀ H3, Ext H2 H3 → Chg H2 H3 a (.lst (xs.set n y1)) → OwnAt K H3 a (.list (ds.set n d1)) → D.nx σ H3) → rSetL v (.int k) y1 H2 fun H6 => D.nx σ H6 := fun ds n xs a hn ha hx hf hq => by
            rw [hv] at ha; cases ha
            have c := Chg.own (.lst (xs.set n y1)) hx (.inl ⟨_, rfl⟩)
            refine ⟨a, xs, k, n, rfl, rfl, hx, by rw [← hf.length]; exact hn, hq _ c.ext c ⟨_, upd_same, ?_⟩⟩
            exact FzAll.set (Fz.ext (x2.trans c.ext) _ _ r1) n (FzAll.ext c.ext _ _ hf)
          cases sl with
          | ow d3 =>
            cases d3 with
            | list ds =>
              obtain ⟨a, ha, ⟨xs, hx, hf⟩, _⟩ := s2.ow i _ h1
              have q2 : PostS K mg W T ex B H D (match L2.ixN ds.length k with | some n => .nx (e2.set i (.ow (.list (ds.set n d1)))) | none => .bad) := q2
              cases hn : L2.ixN ds.length k with
              | none => rw [hn] at q2; exact False.elim q2
              | some n =>
                rw [hn] at q2
                exact done ds n xs a hn ha hx hf fun H3 x3 c o => q2 σ H3 ((x1.trans x2).trans x3) (s2.write h1 ha c (.inr ⟨_, rfl, o⟩))
            | _ => exact False.elim q2
          | io d3 =>
            cases d3 with
            | list ds =>
              obtain ⟨a, ha, ⟨xs, hx, hf⟩, _⟩ := s2.io i _ h1
              have q2 : PostS K mg W T ex B H D (match L2.ixN ds.length k with | some n => .nx (e2.set i (.io (.list (ds.set n d1)))) | none => .bad) := q2
              cases hn : L2.ixN ds.length k with
              | none => rw [hn] at q2; exact False.elim q2
              | some n =>
                rw [hn] at q2
                exact done ds n xs a hn ha hx hf fun H3 x3 c o => q2 σ H3 ((x1.trans x2).trans x3) (s2.writeIo h1 ha (c.fr s2.fr.tab) o)
            | _ => exact False.elim q2
          | emp => exact False.elim q2
          | fz _ => exact False.elim q2
        | _ => first | exact False.elim q2 | (cases sl <;> first | exact False.elim q2 | (rename_i d3; cases d3 <;> exact False.elim q2))
    | _ => exact False.elim q1
def evAppend (i : Nat) (fv : En → R) : En → R := fun e => match e[i]? with
  | some (.ow (.list _)) => (fv e).bnd fun d1 e1 => (match e1[i]? with
    | some (.ow (.list ds)) => if ds.length < 16777216 then .ok (.fz .none) (e1.set i (.ow (.list (ds ++ [d1])))) else .bad
    | _ => .bad)
  | _ => .bad
theorem snd_append {i : Nat} {o ev c : Expr} {fv : En → R} (ho : ∀ j, PE (X j) o (tVar i)) (hv : SndD X K mg W T ev fv) (mk : ∀ j t, PA (X j) [ev] t → PE (X j) c (tBM K "list" rAppend (tVar i) t))
    (hs : ∀ j, starEach [ev] (X j).env = (false, eval ev (X j).env) :: starEach [] (X j).env := by intro _; rfl) : SndE X K mg W T c (evAppend i fv) := by
  obtain ⟨t, p, r⟩ := hv
  refine ⟨_, fun j => mk j _ (pa_cons (p j) pa_nil (hs j)), fun ex B P e σ H Q s q => ?_⟩
  unfold evAppend at q
  cases h0 : e[i]? with
  | none => rw [h0] at q; exact False.elim q
  | some sl =>
    rw [h0] at q
    cases sl with
    | ow d0 =>
      cases d0 with
      | list ds0 =>
        obtain ⟨a, ha, ⟨xs0, hx0, _⟩, _⟩ := s.ow i _ h0
        refine ⟨_, ha, .inl ⟨rfl, xs0, .of hx0⟩, r ex B P e σ H _ s (PostD.of_bnd (Ext.refl _) q fun d1 e1 _ q1 y1 H1 x1 s1 r1 => ?_)⟩
        cases h1 : e1[i]? with
        | none => rw [h1] at q1; exact False.elim q1
        | some sl =>
          rw [h1] at q1
          cases sl with
          | ow d3 =>
            cases d3 with
            | list ds =>
              have q1 : PostE K mg W T ex B P σ H Q (if ds.length < 16777216 then .ok (.fz .none) (e1.set i (.ow (.list (ds ++ [d1])))) else .bad) := q1
              by_cases hl : ds.length < 16777216
              · rw [if_pos hl] at q1
                obtain ⟨a', ha', ⟨xs, hx, hf⟩, _⟩ := s1.ow i _ h1
                rw [ha] at ha'; cases ha'
                have c := Chg.own (.lst (xs ++ [y1])) hx (.inl ⟨_, rfl⟩)
                refine ⟨a, xs, y1, rfl, rfl, hx, by rw [← hf.length]; exact line_lt hl, q1 .non _ (x1.trans c.ext) (s1.write h1 ha c (.inr ⟨_, rfl, _, upd_same, ?_⟩)) (by simp only [VRep, Fz])⟩
                exact (FzAll.ext c.ext _ _ hf).append (.cons (Fz.ext c.ext _ _ r1) .nil)
              · rw [if_neg hl] at q1; exact False.elim q1
            | _ => exact False.elim q1
          | _ => exact False.elim q1
      | _ => exact False.elim q
    | _ => exact False.elim q
end
end L3
set_option Elab.async false
set_option linter.all false
set_option maxRecDepth 100000
/-! L3DComp: a dict comprehension whose keys are tuples (HandS.DictComp's rule, turned to such keys). -/
set_option pp.maxSteps 200
namespace L3
open PySem PySem.Spec PyProof.Rows L2 LamX

theorem d_dictSetT {X : Cx} {pins : List (Addr × Obj)} {σ : L2.St} {H : Hp} {s : Shared} {E : Value → Shared → Prop} {D b : Addr} {kvs : List (List Key × V)} {k : List Key} {v : V} {u r : Value} {Q : Unit → Shared → Prop} (hu : X.A.units + 1 < cLine) (I : Inv X pins σ H s) (hD : H D = some (.dT kvs)) (hl0 : kvs.length < sizeLine)
    (eb : H b = some (.tup (k.map kV))) (ry : RelV (.ref b) u) (rv : RelV v r) (h : ∀ s', Inv X pins σ (upd H D (.dT (putK kvs k v))) s' → Q () s') : wpAny (model X.prog X.w) X.A (dictSet D u r) Q E s := by
  cases (show u = Value.ref b from ry)
  obtain ⟨z, hd, xs, rel, dd⟩ := dt_of I.hok hD
  have hz : xs.length ≤ sizeLine := by rw [← Paired.length rel]; exact z
  have hl : (putK kvs k v).length ≤ sizeLine := by have := length_putK kvs k v; omega
  refine wpAny_dictSet_heap (hsz := hz) (show X.A.units < cLine by omega) (key_of I.hok eb) dd fun h' dd' hs => h _ ?_
  obtain ⟨q, es, ep, hq, h2, h3, h4, _, h5⟩ := dd'
  refine d_write I (by rw [hD]; exact True.intro) hs ⟨q, hq⟩ ⟨hl, hd, _, (rel.put k eb rv).keeps fun c ys ec => ?_, q, es, ep, hq, h2, h3, h4, h5⟩
  rw [upd_ne (ne_of ec hD (fun z => nomatch z))]
  exact ec
section
variable {X : Cx}
/-- {k: v for target in iter if ..}, keys tuples: D the new dict -/
def tDcT (wi : TI) (g : TG) (tt : TT) (tk tv : TE) (vs : List Nat) : TE := fun σ H Q => wi σ H fun J H1 => ∀ D, H1 D = none → ∃ W : Nat → Nat → Hp → Prop, (∃ m, W 0 m (upd H1 D (.dT []))) ∧ ∀ i m H, W i m H →
  (J.stop i H ∧ Q (.ref D) H) ∨ (J.go i H ∧ ∃ Nx : Hp → Prop, (∀ H', Nx H' → ∃ m', m' < m ∧ W (i + 1) m' H') ∧ ∀ x H', J.yld i H x H' → g x (L2.wipe σ vs) H' fun σ2 H2 => L2.wipe σ2 vs = L2.wipe σ vs ∧ tt σ2 H2 fun b H3 =>
    if b = true then tk σ2 H3 fun y H4 => tv σ2 H4 fun z H5 => ∃ kvs k b, y = .ref b ∧ H5 b = some (.tup (k.map kV)) ∧ H5 D = some (.dT kvs) ∧ kvs.length < sizeLine ∧ Nx (upd H5 D (.dT (putK kvs k z))) else Nx H3)
theorem dcT_core {pins : List (Addr × Obj)} {s : Shared} {σ : L2.St} {H : Hp} {Q : VK} {kx vx tg iter : Expr} {ifs : List Expr} {scope : Scope} {own : List (Str × Nat)} {pos pos' : Pos} {wi : TI} {g : TG} {tt : TT} {tk tv : TE} {use : Option (Value → Sem Unit)} {Qf : Value → Shared → Prop}
    (hu : X.A.units + 1 < cLine) (hc : X.calm = true) (hN : X.N.Nodup) (I : Inv X pins σ H s) (hi : PI X tg iter wi) (ok : BlkOk X.N X.env.scope scope own)
    (hg : ∀ (s : Shared) (H : Hp) (C : Addr) (cl : List (Str × Addr)) (fp : List Addr), PG (X.blk s H scope (compEnvC scope cl C X.env) fp) tg g) (ht : ∀ (s : Shared) (H : Hp) (C : Addr) (cl : List (Str × Addr)) (fp : List Addr), PTs (X.blk s H scope (compEnvC scope cl C X.env) fp) ifs tt)
    (hk : ∀ (s : Shared) (H : Hp) (C : Addr) (cl : List (Str × Addr)) (fp : List Addr), PE (X.blk s H scope (compEnvC scope cl C X.env) fp) kx tk)
    (he : ∀ (s : Shared) (H : Hp) (C : Addr) (cl : List (Str × Addr)) (fp : List Addr), PE (X.blk s H scope (compEnvC scope cl C X.env) fp) vx tv) (hs : ∀ x, foldedSetIterable iter X.env x = pure x)
    (h : tDcT wi g tt tk tv (own.map (·.2)) σ H Q)
    (hRR : ∀ D C s' m H', Inv X pins σ H' s' → Q (.ref D) H' → s'.heap.Ns C m → FpOk X pins H' C → compPost (model X.prog X.w) X.A X.xe use Qf (.ref D) C (.ok .next) s') :
    wpAny (model X.prog X.w) X.A (comprehension (.DictComp kx vx [⟨tg, iter, ifs, 0⟩] scope pos) scope X.env pos' newDict false (eval iter X.env) use) Qf X.xe s := by
  have hfree : ∀ y ∈ scope.names, y.2 = .free → ∃ c, X.env.cells.lookup y.1 = some c := fun y hy e => by
    rcases ok.free y hy e with k | k
    · exact I.ok.has _ (.inl k)
    · exact I.ok.has _ (.inr k)
  refine wpAny_comprehension_free (use := use) rfl hs (closure_ok hfree) ok.kind (fun y hy e => by rw [ok.uniq y hy, e])
    (thn (hi.run pins s σ H _ I h) fun xv s1 hx => thn hx fun itv s2 h2 => ?_)
  obtain ⟨it, fp, tn, J, H2, e, I2, T, st2, f2, q⟩ := h2
  subst e
  refine wpAny_newObj_type (newEnv_comp ?_)
  generalize hD : s2.heap.objs.size = D
  have hDn : H2 D = none := I2.hok.fresh (Nat.le_of_eq hD)
  obtain ⟨W, ⟨m0, w0⟩, turn⟩ := q D hDn
  -- the new list
  generalize hs3 : ({ s2 with heap := s2.heap.push { cls := .type "dict", data := .dict #[] } } : Shared) = s3
  have I3 : Inv X pins σ (upd H2 D (.dT [])) s3 := by
    rw [← hs3]
    refine I2.laid (t' := s2.toks) (fun b o e => Heap.get?_push_of_some _ e) (Nat.le_of_eq hD) ?_
    rw [← hD]
    exact dt_empty s2.heap I2.big
  have h3 : s3.heap = s2.heap.push { cls := .type "dict", data := .dict #[] } := by rw [← hs3]
  have sz : ∀ b ∈ fp, b < s2.heap.objs.size := fun b hb => by
    obtain ⟨o, e, _⟩ := T.obj _ _ st2 b hb
    exact Heap.lt_size e
  have f3 : ∀ b ∈ fp, FpOk X pins (upd H2 D (.dT [])) b ∧ b < s3.heap.objs.size := fun b hb => by
    have hlt := sz b hb
    refine ⟨⟨?_, (f2 b hb).2⟩, by rw [h3, Heap.size_push]; exact Nat.lt_succ_of_lt hlt⟩
    rw [upd_ne (by rw [← hD]; exact Nat.ne_of_lt hlt)]
    exact (f2 b hb).1
  have st3 : tn 0 s3.heap := T.keep _ _ _ st2 fun b _ o e => by rw [h3]; exact Heap.get?_push_of_some _ e
  have I4 := block_start I3 ok hN f3
  have pg := hg s3 (upd H2 D (.dT [])) s3.heap.objs.size (cellsFrom (s3.heap.objs.size + 1) scope.names (cloFrom X.env.cells scope.names [])) fp
  have pt := ht s3 (upd H2 D (.dT [])) s3.heap.objs.size (cellsFrom (s3.heap.objs.size + 1) scope.names (cloFrom X.env.cells scope.names [])) fp
  have pk := hk s3 (upd H2 D (.dT [])) s3.heap.objs.size (cellsFrom (s3.heap.objs.size + 1) scope.names (cloFrom X.env.cells scope.names [])) fp
  have pe := he s3 (upd H2 D (.dT [])) s3.heap.objs.size (cellsFrom (s3.heap.objs.size + 1) scope.names (cloFrom X.env.cells scope.names [])) fp
  show codeAny _ _ (.compStart (.DictComp kx vx [⟨tg, iter, ifs, 0⟩] scope pos) 0 (.ref it) (.ref D) (compEnvC scope (cellsFrom (s3.heap.objs.size + 1) scope.names (cloFrom X.env.cells scope.names [])) s3.heap.objs.size X.env)) (compPost (model X.prog X.w) X.A X.xe use Qf (.ref D) s3.heap.objs.size) { s3 with heap := pushCells (s3.heap.push { cls := .type "dict", data := .dict #[] }) scope.names }
  have nfp : ∀ b ∈ fp, (upd H2 D (.dT [])) b = none := fun b hb => (f3 b hb).1.1
  generalize hce : compEnvC scope (cellsFrom (s3.heap.objs.size + 1) scope.names (cloFrom X.env.cells scope.names [])) s3.heap.objs.size X.env = ce at I4 pg pt pk pe ⊢
  have cL : ce.locals = s3.heap.objs.size := by subst hce; rfl
  generalize hH3 : upd H2 D (.dT []) = H3 at I3 I4 pg pt pk pe w0 nfp f3
  generalize hs4 : ({ s3 with heap := pushCells (s3.heap.push { cls := .type "dict", data := .dict #[] }) scope.names } : Shared) = s4 at I4 ⊢
  have st4 : tn 0 s4.heap := T.keep _ _ _ st3 fun b _ o e => by rw [← hs4]; exact pushCells_keeps _ _ _ _ (Heap.get?_push_of_some _ e)
  have stat : ∀ {σ' : L2.St} {H' : Hp} {s' : Shared}, Inv (X.blk s3 H3 scope ce fp) [] σ' H' s' → (∀ b ∈ fp, H' b = none) → ∀ b ∈ fp, FpOk (X.blk s3 H3 scope ce fp) [] H' b := fun {σ' H' s'} I' hn b hb =>
    ⟨hn b hb, (I'.ok.exf b hb).1, I'.ok.exfs b hb, .inl hb, fun x c e => (I'.ok.exf b hb).2 x c e, fun p hp => absurd (show p ∈ ([] : List (Addr × Obj)) ++ [] from hp) (by simp)⟩
  have loop : codeAny (model X.prog X.w) X.A (.compLoop (.DictComp kx vx [⟨tg, iter, ifs, 0⟩] scope pos) 0 (.ref it) (.ref D) ce) (compPost (model X.prog X.w) X.A X.xe use Qf (.ref D) s3.heap.objs.size) s4 := by
    refine compLoop_anyD (fun n s' => ∃ i H', Inv (X.blk s3 H3 scope ce fp) [] (L2.wipe σ (own.map (·.2))) H' s' ∧ tn i s'.heap ∧ (∀ b ∈ fp, H' b = none) ∧ W i n H') ?_ m0 ⟨0, H3, I4, st4, nfp, w0⟩
    rintro n s5 ⟨i, H5, I5, st5, n5, w5⟩
    rcases turn i n H5 w5 with ⟨stop, qq⟩ | ⟨go, Nx, hNx, step⟩
    · have td := T.done (X.blk s3 H3 scope ce fp) rfl rfl rfl hc i [] s5 _ H5 (fun _ _ => False) I5 (stat I5 n5) st5 stop
      refine thnF td fun r s6 ⟨hr, I6⟩ => ?_
      subst hr
      -- back in the def's context
      have I7 : Inv X pins σ H5 s6 := I3.call' (ch := fp) I6.os I6.base I6.hok I6.bare fun b hb => ⟨(f3 b hb).1.2.2.2.1, (f3 b hb).1.2.1, (f3 b hb).1.2.2.2.2.1, (f3 b hb).1.2.2.2.2.2⟩
      have nC : H5 s3.heap.objs.size = none := by
        have z : H5 ce.locals = none := I6.free
        rw [cL] at z
        exact z
      obtain ⟨m, hn, _⟩ := I6.loc
      have hn : s6.heap.Ns ce.locals m := hn
      rw [cL] at hn
      exact hRR D s3.heap.objs.size s6 m H5 I7 qq hn (I3.fpOk (Nat.le_refl _) nC)
    · have ti := T.item (X.blk s3 H3 scope ce fp) rfl rfl rfl hc i [] s5 _ H5 (fun _ _ => False) I5 (stat I5 n5) st5 go
      refine thnF ti fun r s6 ⟨u, hr, h6⟩ => ?_
      subst hr
      refine thnF h6 fun _ s7 ⟨x, H7, I7, r7, y7, st7, n7⟩ => ?_
      have I7' := I7.pinned (stat I7 n7) (T.obj _ _ st7)
      refine thnF (pg.run _ s7 _ H7 x u _ I7' r7 (step x H7 y7)) fun _ s8 ⟨σ8, H8, I8, hw8, q8⟩ => ?_
      refine thnF (pt.run _ s8 σ8 H8 _ I8 q8) fun b s9 ⟨H9, I9, q9⟩ => ?_
      -- the turn's end
      have fin : ∀ {s' : Shared} {H' : Hp}, Inv (X.blk s3 H3 scope ce fp) ([] ++ pinsAt fp s7.heap) σ8 H' s' → Nx H' → ∃ m, m < n ∧ ∃ i H', Inv (X.blk s3 H3 scope ce fp) [] (L2.wipe σ (own.map (·.2))) H' s' ∧ tn i s'.heap ∧ (∀ b ∈ fp, H' b = none) ∧ W i m H' := fun {s' H'} I' nx => by
        obtain ⟨m', hm, w'⟩ := hNx H' nx
        have pin' : ∀ b ∈ fp, ∀ o, s7.heap.get? b = some o → s'.heap.get? b = some o ∧ H' b = none := fun b hb o e =>
          let z := I'.pin (b, o) (List.mem_append_right _ (List.mem_append_right _ (mem_pinsAt hb e)))
          ⟨z.1, z.2.1⟩
        have hl : (L2.wipe σ (own.map (·.2))).length = σ8.length := by rw [← hw8, L2.wipe_length]
        refine ⟨m', hm, i + 1, H', (I'.unpinned (pins := [])).weak hl (fun j v e => ?_), T.keep _ _ _ st7 fun b hb o e => (pin' b hb o e).1, fun b hb => ?_, w'⟩
        · rw [← hw8] at e
          exact (L2.wipe_some e).1
        · obtain ⟨o, e, _⟩ := T.obj _ _ st7 b hb
          exact (pin' b hb o e).2
      cases b with
      | false =>
        simp only [Bool.false_eq_true, if_false] at q9 ⊢
        exact fin I9 q9
      | true =>
        simp only [if_true] at q9 ⊢
        refine thnF (pk.run _ s9 σ8 H9 _ I9 q9) fun z s10 ⟨yk, H10, I10, r10, q10⟩ => ?_
        refine thnF (pe.run _ s10 σ8 H10 _ I10 q10) fun z2 s11 ⟨yv, H11, I11, r11, kvs, k, b, ek, hb11, hD11, hz11, nx⟩ => ?_
        subst ek
        exact d_dictSetT (X := X.blk s3 H3 scope ce fp) hu I11 hD11 hz11 hb11 r10 r11 fun s12 I12 => fin I12 nx
  exact codeAny_compStart_dict loop (T.self X.A 0 _ _ _ st4 loop)
/-- as a value -/
theorem pe_dcT {kx vx tg iter : Expr} {ifs : List Expr} {scope : Scope} {own : List (Str × Nat)} {pos : Pos} {wi : TI} {g : TG} {tt : TT} {tk tv : TE} (hu : X.A.units + 1 < cLine) (hc : X.calm = true) (hN : X.N.Nodup) (hi : PI X tg iter wi) (ok : BlkOk X.N X.env.scope scope own)
    (hg : ∀ (s : Shared) (H : Hp) (C : Addr) (cl : List (Str × Addr)) (fp : List Addr), PG (X.blk s H scope (compEnvC scope cl C X.env) fp) tg g) (ht : ∀ (s : Shared) (H : Hp) (C : Addr) (cl : List (Str × Addr)) (fp : List Addr), PTs (X.blk s H scope (compEnvC scope cl C X.env) fp) ifs tt)
    (hk : ∀ (s : Shared) (H : Hp) (C : Addr) (cl : List (Str × Addr)) (fp : List Addr), PE (X.blk s H scope (compEnvC scope cl C X.env) fp) kx tk)
    (he : ∀ (s : Shared) (H : Hp) (C : Addr) (cl : List (Str × Addr)) (fp : List Addr), PE (X.blk s H scope (compEnvC scope cl C X.env) fp) vx tv) (hs : ∀ x, foldedSetIterable iter X.env x = pure x := by intro _; rfl) :
    PE X (.DictComp kx vx [⟨tg, iter, ifs, 0⟩] scope pos) (tDcT wi g tt tk tv (own.map (·.2))) := by
  refine ⟨fun pins s σ H Q I h => ?_⟩
  rw [arm_eval_DictComp]
  refine dcT_core hu hc hN I hi ok hg ht hk he hs h fun D C s' m H' I' q hn f => ⟨m, hn, fun h'' sb => ?_⟩
  obtain ⟨f0, f1, f2, f3, f4, f5⟩ := f
  exact ⟨.ref D, H', I'.turned (t' := s'.toks) (fun b o hb e => (sb.2 b hb).trans e) f0 f1 f3 f4 f5, rfl, q⟩
end
end L3
set_option Elab.async false
set_option linter.all false
set_option maxRecDepth 100000
/-! L3Dict2: y = {..} comprehensions, {k: v}, as functions of the state. -/
namespace L3
open PySem PySem.Spec PyProof.Rows L2 LamX

section
variable {X : Cx}
theorem sw_trueD {kx vx : Expr} {gs : List Comprehension} {scope : Scope} {pos py : Pos} {y : Str} {l : Nat} {env : Env} (hk : env.scope.kind = .function) (hy : env.scope.names.lookup y = some .local) (hl : (py.line == pos.line) = true)
    (ha : (scope.names.any fun (n, k) => n == y && (k == .local || k == .cell)) = false) : swapsWith (.DictComp kx vx gs scope pos) (some (.Name y py)) l env = pure true := by
  have ky : env.kindOf y = some .local := hy
  have kb : env.blockKind = .function := by unfold Env.blockKind; rw [hk] <;> rfl
  unfold swapsWith
  show pure (env.blockKind == .function && env.kindOf y == some .local && py.line == (Expr.DictComp kx vx gs scope pos).pos.line && !(scope.names.any fun (n, k) => n == y && (k == .local || k == .cell))) = _
  rw [ky, kb, ha, show ((py.line == (Expr.DictComp kx vx gs scope pos).pos.line) = true) from hl]
  rfl
theorem ps_setDcT {i : Nat} {y : Str} {py : Pos} {kx vx tg iter : Expr} {ifs : List Expr} {scope : Scope} {own : List (Str × Nat)} {pos spos : Pos} {wi : TI} {g : TG} {tt : TT} {tk tv : TE} (hu : X.A.units + 1 < cLine) (hc : X.calm = true) (hN : X.N.Nodup) (hy : X.N[i]? = some y) (hyl : X.env.scope.names.lookup y = some .local)
    (hsw : swapsWith (.DictComp kx vx [⟨tg, iter, ifs, 0⟩] scope pos) (some (.Name y py)) spos.line X.env = pure true) (hi : PI X tg iter wi) (ok : BlkOk X.N X.env.scope scope own)
    (hg : ∀ (s : Shared) (H : Hp) (C : Addr) (cl : List (Str × Addr)) (fp : List Addr), PG (X.blk s H scope (compEnvC scope cl C X.env) fp) tg g) (ht : ∀ (s : Shared) (H : Hp) (C : Addr) (cl : List (Str × Addr)) (fp : List Addr), PTs (X.blk s H scope (compEnvC scope cl C X.env) fp) ifs tt)
    (hk : ∀ (s : Shared) (H : Hp) (C : Addr) (cl : List (Str × Addr)) (fp : List Addr), PE (X.blk s H scope (compEnvC scope cl C X.env) fp) kx tk)
    (he : ∀ (s : Shared) (H : Hp) (C : Addr) (cl : List (Str × Addr)) (fp : List Addr), PE (X.blk s H scope (compEnvC scope cl C X.env) fp) vx tv) (hs : ∀ x, foldedSetIterable iter X.env x = pure x := by intro _; rfl) :
    PS X (.Assign [.Name y py] (.DictComp kx vx [⟨tg, iter, ifs, 0⟩] scope pos) spos) (tAsg (tDcT wi g tt tk tv (own.map (·.2))) (gName i)) := by
  refine ⟨fun pins s σ H D I h => ?_⟩
  rw [exec_Assign_Name_used _ _ _ _ hsw]
  refine wpAny_bind (wpAny_standAt (wpAny_bind ?_))
  show wpAny _ X.A (do let _ ← comprehension (.DictComp kx vx [⟨tg, iter, ifs, 0⟩] scope pos) scope X.env (firstIterPos [⟨tg, iter, ifs, 0⟩] pos) newDict false (eval iter X.env) (some (assign (.Name y py) X.env))) _ _ s
  have h : tDcT wi g tt tk tv (own.map (·.2)) σ H (fun x H1 => gName i x σ H1 D.nx) := h
  refine wpAny_bind (thn (dcT_core (Qf := fun _ s' => SP X pins D .next s') hu hc hN I hi ok hg ht hk he hs h fun L C s' m H' I' q hn f => ?_) fun _ s' hq => wpAny_pure (wpAny_pure hq))
  show wpAny _ _ (assign (.Name y py) X.env (.ref L)) _ _ _
  refine wpAny_assign_Name (store_ok2 (v := V.ref L) I' hN hy (.inl hyl) rfl (fun s2 I2 ⟨a, sb, ha⟩ => ?_) (.inr hyl))
  obtain ⟨f0, f1, f2, f3, f4, f5⟩ := f
  have haC : C ≠ a := by
    rcases ha with z | z
    · rw [z]; exact f1
    · exact fun e => f4 y a z e.symm
  refine ⟨m, hn.sameBut sb haC, fun h3 sb3 => ?_⟩
  exact ⟨_, H', I2.turned (t' := s2.toks) (fun b o hb e => (sb3.2 b hb).trans e) f0 f1 f3 f4 f5, q⟩

/-! ### {k: v}, one pair, the key a tuple -/
def tDispT (tk tv : TE) : TE := fun σ H Q => ∀ p, H p = none → tk σ (upd H p (.dT [])) fun y H1 => tv σ H1 fun v H2 => H2 p = some (.dT []) ∧ ∃ k b, y = .ref b ∧ H2 b = some (.tup (k.map kV)) ∧ Q (.ref p) (upd H2 p (.dT [(k, v)]))
theorem pe_dispT {k v : Expr} {pos : Pos} {tk tv : TE} (hu : X.A.units + 1 < cLine) (hk : PE X k tk) (hv : PE X v tv) : PE X (.Dict [some k] [v] pos) (tDispT tk tv) := by
  refine ⟨fun pins s σ H Q I q => ?_⟩
  have hn := I.hok.fresh (Nat.le_refl s.heap.objs.size)
  have I1 := I.laid (a := s.heap.objs.size) (o := .dT []) (h' := s.heap.push { cls := .type "dict", data := .dict #[] }) (t' := s.toks) (fun _ _ q => Heap.get?_push_of_some _ q) (Nat.le_refl _) (dt_empty s.heap I.big)
  have hlen : (pairTrees [some k] [v] X.env pos).length = 1 := pairTrees_length [some k] [v] X.env pos rfl rfl
  rw [arm_eval_Dict, zip_pairTrees [some k] [v] X.env pos rfl rfl, dictDisplay_pairs _ (by intro z; rw [z] at hlen; cases hlen) (by omega)]
  refine wpAny_bind (wpAny_standAt (wpAny_bind (wpAny_subDictH (knd := tupleKind (mixKind X.prog X.w)) (Q := fun d s' => wpAny (model X.prog X.w) X.A (pure (Value.ref d)) (EP X pins σ Q) X.xe s') (show X.A.units < cLine by omega) (by omega) ?_)))
  refine pairTrees_cons_walk (thn (hk.run pins _ σ _ _ I1 (q _ hn)) fun u s1 ⟨y, H1, I2, ry, q1⟩ => thn (hv.run pins s1 σ H1 _ I2 q1) fun r s2 ⟨x, H2, I3, rx, e, k', b, ey, hb, q2⟩ => pairTrees_nil_walk ?_)
  subst ey
  cases (show u = Value.ref b from ry)
  obtain ⟨z, hd, xs, rel, dd⟩ := dt_of I3.hok e
  cases rel
  refine ⟨[(k', b, r)], ⟨rfl, rfl, key_of I3.hok hb, trivial⟩, dd, fun h' tk' dd' hs => wpAny_pure ⟨.ref s.heap.objs.size, upd H2 s.heap.objs.size (.dT [(k', x)]), ?_, rfl, q2⟩⟩
  have dd' : h'.DictOfH (tupleKind (mixKind X.prog X.w)) s.heap.objs.size [(k', b, r)] := dd'
  obtain ⟨oq, es, ep, hq, h2, h3, h4, _, h6⟩ := dd'
  refine d_write I3 (by rw [e]; exact True.intro) hs ⟨oq, hq⟩ ⟨by show 1 ≤ sizeLine; decide, hd, [(k', b, r)], .cons ⟨rfl, ?_, rx⟩ .nil, oq, es, ep, hq, h2, h3, h4, h6⟩
  rw [upd_ne (ne_of hb e (fun z => nomatch z))]
  exact hb
def evDisp1 (fk fv : En → R) : En → R := fun e => (fk e).bnd fun d1 e1 => (fv e1).bnd fun d2 e2 => match keyOfT d1 with
  | some k => .ok (.ow (.dict [(.tuple (k.map keyD), d2)])) e2
  | none => .bad
end
section
variable {ι : Type} {X : ι → Cx} {K : PySem.W.Frag} {mg : Str → Option Value} {W : WX} {T : List (Addr × Str)}
theorem rd_disp1 {tk tv : TE} {fk fv : En → R} (rk : RdD K mg W T tk fk) (rv : RdD K mg W T tv fv) : RdE K mg W T (tDispT tk tv) (evDisp1 fk fv) := by
  intro ex B P e σ H Q s q p hp
  have sN := (s.new hp (.dT [])).push (a := p) (d := .dict []) (VRep.new s (Bn.of hp) ⟨[], upd_same, by simp only [FzKV]⟩)
  have x0 := (Chg.fresh (.dT []) hp).ext
  unfold evDisp1 at q
  have run : ∀ d1 e1, PostE K mg W T ex B P σ H Q ((fv e1).bnd fun d2 e2 => match keyOfT d1 with | some k => .ok (.ow (.dict [(.tuple (k.map keyD), d2)])) e2 | none => .bad) → ∀ y1 H1, Ext (upd H p (.dT [])) H1 → Sim K T ex B ((p, .dict []) :: P) e1 σ H1 → Fz K H1 d1 y1 →
      tv σ H1 fun v H2 => H2 p = some (.dT []) ∧ ∃ k b, y1 = .ref b ∧ H2 b = some (.tup (k.map kV)) ∧ Q (.ref p) (upd H2 p (.dT [(k, v)])) := fun d1 e1 q1 y1 H1 x1 s1 r1 => by
    refine rv ex B _ e1 σ H1 _ s1 ?_
    have fin : ∀ d2 e2, PostE K mg W T ex B P σ H Q (match keyOfT d1 with | some k => .ok (.ow (.dict [(.tuple (k.map keyD), d2)])) e2 | none => .bad) → ∀ y2 H2, Ext H1 H2 → Sim K T ex B ((p, .dict []) :: P) e2 σ H2 → Fz K H2 d2 y2 →
        H2 p = some (.dT []) ∧ ∃ k b, y1 = .ref b ∧ H2 b = some (.tup (k.map kV)) ∧ Q (.ref p) (upd H2 p (.dT [(k, y2)])) := fun d2 e2 q2 y2 H2 x2 s2 r2 => by
      cases hk : keyOfT d1 with
      | none => rw [hk] at q2; exact False.elim q2
      | some k =>
        rw [hk] at q2
        obtain ⟨ks, hks, hkv⟩ := (s2.pd (p, .dict []) List.mem_cons_self).1
        simp only [FzKV] at hkv
        subst hkv
        obtain ⟨b, rfl, hb⟩ := key_at hk (Fz.ext x2 _ _ r1)
        have c := Chg.own (.dT [(k, y2)]) hks (.inr ⟨_, rfl⟩)
        have s3 := s2.writeP (d' := .dict [(.tuple (k.map keyD), d2)]) c ⟨_, upd_same, FzKV.one (keyOfT_eq hk).1 (Fz.ext c.ext _ _ r2)⟩
        obtain ⟨s4, r4⟩ := s3.pop
        exact ⟨hks, k, b, rfl, hb, q2 _ _ (((x0.trans x1).trans x2).trans c.ext) s4 r4⟩
    cases hv : fv e1 with
    | bad => rw [hv] at q1; exact q1
    | exn c e2 => rw [hv] at q1; exact fun cls H' hc x' s' => q1 cls H' hc ((x0.trans x1).trans x') s'.pop.1
    | ok w e2 =>
      rw [hv] at q1
      cases w with
      | fz d2 => exact fin d2 e2 q1
      | ow d2 => exact fin d2 e2 q1
  refine rk ex B _ e σ _ _ sN ?_
  cases hk : fk e with
  | bad => rw [hk] at q; exact q
  | exn c e1 => rw [hk] at q; exact fun cls H' hc x' s' => q cls H' hc (x0.trans x') s'.pop.1
  | ok w e1 =>
    rw [hk] at q
    cases w with
    | fz d1 => exact run d1 e1 q
    | ow d1 => exact run d1 e1 q
theorem snd_disp1 {k v : Expr} {pos : Pos} {fk fv : En → R} (hu : ∀ j, (X j).A.units + 1 < cLine) (hk : SndD X K mg W T k fk) (hv : SndD X K mg W T v fv) : SndE X K mg W T (.Dict [some k] [v] pos) (evDisp1 fk fv) :=
  let ⟨_, pk, rk⟩ := hk
  let ⟨_, pv, rv⟩ := hv
  ⟨_, fun j => pe_dispT (hu j) (pk j) (pv j), rd_disp1 rk rv⟩

/-! ### y = {k: v for ..} -/
def evDLoop (vs : List Nat) (st : PyData → En → Option En) (tt fk fv : En → R) : List PyData → List (PyData × PyData) → En → Option (List (PyData × PyData) × En)
  | [], acc, e => some (acc, e)
  | d :: r, acc, e => match st d e with
    | none => none
    | some e1 => match tt e1 with
      | .ok (.fz (.bool true)) e2 => (match fk e2 with
        | .ok (.fz kd) e3 => (match fv e3 with
          | .ok (.fz vd) e4 => (match keyOfT kd with
            | some k => if acc.length < 16777216 then evDLoop vs st tt fk fv r (dPut acc k vd) (wipeE e4 vs) else none
            | none => none)
          | _ => none)
        | _ => none)
      | .ok (.fz (.bool false)) e2 => evDLoop vs st tt fk fv r acc (wipeE e2 vs)
      | _ => none
def evDComp (f : En → RA) (vs : List Nat) (st : PyData → En → Option En) (tt fk fv : En → R) : En → R := fun e => match f e with
  | .ok items e1 => (match evDLoop vs st tt fk fv items [] (wipeE e1 vs) with
    | some (acc, e2) => .ok (.ow (.dict acc)) (restE e1 vs e2)
    | none => .bad)
  | .exn c e1 => .exn c e1
  | .bad => .bad
theorem rd_dcomp {wi : TI} {g : TG} {tt : TT} {tk tv : TE} {vs is : List Nat} {f : En → RA} {st : PyData → En → Option En} {ft fk fv : En → R} (ri : RdI K mg W T wi f) (rg : RdG K g st is) (his : ∀ i ∈ is, i ∈ vs) (rt : RdT K mg W0 T tt ft) (rk : RdD K mg W0 T tk fk) (rv : RdD K mg W0 T tv fv) :
    RdE K mg W T (tDcT wi g tt tk tv vs) (evDComp f vs st ft fk fv) := by
  refine fun ex B P e σ H Q s q => ri ex B P e σ H _ s ?_
  unfold evDComp at q
  cases hf : f e with
  | bad => rw [hf] at q; exact q
  | exn c e1 => rw [hf] at q; exact q
  | ok items e1 =>
    rw [hf] at q
    have q : PostE K mg W T ex B P σ H Q (match evDLoop vs st ft fk fv items [] (wipeE e1 vs) with
    | some (acc, e2) => .ok (.ow (.dict acc)) (restE e1 vs e2)
    | none => .bad) := q
    intro J H1 x1 s1 it D hD
    have sN := (s1.new hD (.dT [])).push (a := D) (d := .dict []) (VRep.new s1 (Bn.of hD) ⟨[], upd_same, by simp only [FzKV]⟩)
    cases hl : evDLoop vs st ft fk fv items [] (wipeE e1 vs) with
    | none => rw [hl] at q; exact False.elim q
    | some p =>
      obtain ⟨accF, eF⟩ := p
      rw [hl] at q
      refine ⟨fun i m H => m = items.length - i ∧ ∃ acc e, Ext H1 H ∧ Sim K T ex B ((D, .dict acc) :: P) e (L2.wipe σ vs) H ∧ evDLoop vs st ft fk fv (items.drop i) acc e = some (accF, eF), ⟨items.length, rfl, [], _, (Chg.fresh _ hD).ext, sN.wipe vs, hl⟩, ?_⟩
      rintro i m H ⟨rfl, acc, e, x, s, hev⟩
      cases hd : items[i]? with
      | none =>
        have hl : items.length ≤ i := List.getElem?_eq_none_iff.mp hd
        rw [List.drop_eq_nil_of_le hl] at hev
        have hev : some (acc, e) = some (accF, eF) := hev
        cases hev
        obtain ⟨s3, r3⟩ := (s1.rest x s).pop
        exact .inl ⟨(it H x i).2 hl, q _ H (x1.trans x) s3 r3⟩
      | some d =>
        obtain ⟨hl, hget⟩ := List.getElem?_eq_some_iff.mp hd
        have hdrop : items.drop i = d :: items.drop (i + 1) := by rw [List.drop_eq_getElem_cons hl, hget]
        rw [hdrop] at hev
        obtain ⟨go, yl⟩ := (it H x i).1 d hd
        refine .inr ⟨go, fun H' => ∃ acc e, Ext H1 H' ∧ Sim K T ex B ((D, .dict acc) :: P) e (L2.wipe σ vs) H' ∧ evDLoop vs st ft fk fv (items.drop (i + 1)) acc e = some (accF, eF), fun H' h => ⟨items.length - (i + 1), by omega, rfl, h⟩, fun y H3 hy => ?_⟩
        obtain ⟨y1, y2⟩ := yl y H3 hy
        obtain ⟨x3, s3⟩ := s.yield y1
        unfold evDLoop at hev
        cases hst : st d e with
        | none => rw [hst] at hev; cases hev
        | some e1 =>
          rw [hst] at hev
          refine rg T ex B _ e _ H3 y d _ s3 y2 ⟨e1, hst, fun σ4 s4 o4 l4 => ?_⟩
          have hw : L2.wipe σ4 vs = L2.wipe σ vs := by
            rw [wipe_eq (σ := L2.wipe σ vs) (fun j hj => o4 j fun z => hj (his j z)) l4]
            exact wipe_wipe fun _ h => h
          refine ⟨hw, rt ex B _ e1 σ4 H3 _ s4 ?_⟩
          have back : ∀ {e : En} {P : List (Addr × PyData)} {H : Hp}, Sim K T ex B P e σ4 H → Sim K T ex B P (wipeE e vs) (L2.wipe σ vs) H := fun {e P H} s => by
            have q := s.wipe vs
            rw [hw] at q
            exact q
          have hev : (match ft e1 with
            | .ok (.fz (.bool true)) e2 => (match fk e2 with
              | .ok (.fz kd) e3 => (match fv e3 with
                | .ok (.fz vd) e4 => (match keyOfT kd with
                  | some k => if acc.length < 16777216 then evDLoop vs st ft fk fv (items.drop (i + 1)) (dPut acc k vd) (wipeE e4 vs) else none
                  | none => none)
                | _ => none)
              | _ => none)
            | .ok (.fz (.bool false)) e2 => evDLoop vs st ft fk fv (items.drop (i + 1)) acc (wipeE e2 vs)
            | _ => none) = some (accF, eF) := hev
          cases ht : ft e1 with
          | bad => rw [ht] at hev; cases hev
          | exn c e2 => rw [ht] at hev; cases hev
          | ok v e2 =>
            rw [ht] at hev
            cases v with
            | ow d => cases hev
            | fz d =>
              cases d with
              | bool b =>
                intro H4 x4 s5
                cases b with
                | false =>
                  rw [if_neg Bool.false_ne_true]
                  exact ⟨acc, _, (x.trans x3).trans x4, back s5, hev⟩
                | true =>
                  rw [if_pos rfl]
                  have hev : (match fk e2 with
              | .ok (.fz kd) e3 => (match fv e3 with
                | .ok (.fz vd) e4 => (match keyOfT kd with
                  | some k => if acc.length < 16777216 then evDLoop vs st ft fk fv (items.drop (i + 1)) (dPut acc k vd) (wipeE e4 vs) else none
                  | none => none)
                | _ => none)
              | _ => none) = some (accF, eF) := hev
                  refine rk ex B _ e2 σ4 H4 _ s5 ?_
                  cases hk : fk e2 with
                  | bad => rw [hk] at hev; cases hev
                  | exn c e3 => rw [hk] at hev; cases hev
                  | ok w e3 =>
                    rw [hk] at hev
                    cases w with
                    | ow kd => cases hev
                    | fz kd =>
                      have hev : (match fv e3 with
                | .ok (.fz vd) e4 => (match keyOfT kd with
                  | some k => if acc.length < 16777216 then evDLoop vs st ft fk fv (items.drop (i + 1)) (dPut acc k vd) (wipeE e4 vs) else none
                  | none => none)
                | _ => none) = some (accF, eF) := hev
                      intro yk H5 x5 s6 rk5
                      refine rv ex B _ e3 σ4 H5 _ s6 ?_
                      cases hv : fv e3 with
                      | bad => rw [hv] at hev; cases hev
                      | exn c e4 => rw [hv] at hev; cases hev
                      | ok w e4 =>
                        rw [hv] at hev
                        cases w with
                        | ow vd => cases hev
                        | fz vd =>
                          have hev : (match keyOfT kd with
                  | some k => if acc.length < 16777216 then evDLoop vs st ft fk fv (items.drop (i + 1)) (dPut acc k vd) (wipeE e4 vs) else none
                  | none => none) = some (accF, eF) := hev
                          intro yv H6 x6 s7 rv6
                          cases hkk : keyOfT kd with
                          | none => rw [hkk] at hev; cases hev
                          | some k =>
                            rw [hkk] at hev
                            have hev : (if acc.length < 16777216 then evDLoop vs st ft fk fv (items.drop (i + 1)) (dPut acc k vd) (wipeE e4 vs) else none) = some (accF, eF) := hev
                            by_cases hl2 : acc.length < 16777216
                            · rw [if_pos hl2] at hev
                              obtain ⟨ks, hks, hkv⟩ := (s7.pd (D, .dict acc) List.mem_cons_self).1
                              obtain ⟨b, rfl, hb⟩ := key_at hkk (Fz.ext x6 _ _ rk5)
                              have c := Chg.own (.dT (putK ks k yv)) hks (.inr ⟨_, rfl⟩)
                              refine ⟨ks, k, b, rfl, hb, hks, by rw [← hkv.length]; exact line_lt hl2, dPut acc k vd, _, ((((x.trans x3).trans x4).trans x5).trans x6).trans c.ext, back (s7.writeP c ⟨_, upd_same, ?_⟩), hev⟩
                              exact FzKV.put (FzKV.ext c.ext _ _ hkv) (keyOfT_eq hkk).1 (Fz.ext c.ext _ _ rv6)
                            · rw [if_neg hl2] at hev; cases hev
              | _ => cases hev
theorem snds_setDc {kx vx tg iter : Expr} {ifs : List Expr} {scope : Scope} {sm : Stmt} {own : List (Str × Nat)} {i : Nat} {is : List Nat} {f : En → RA} {st : PyData → En → Option En} {ft fk fv : En → R} (hi : SndI X K mg W T tg iter f) (hg : SndG (blkF X scope) K tg st is) (ht : SndPT (blkF X scope) K mg T ifs ft) (hk : SndD (blkF X scope) K mg W0 T kx fk) (he : SndD (blkF X scope) K mg W0 T vx fv)
    (his : ∀ i ∈ is, i ∈ own.map (·.2)) (mk : ∀ j wi g tt tk tv, PI (X j) tg iter wi → (∀ s H C cl fp, PG ((X j).blk s H scope (compEnvC scope cl C (X j).env) fp) tg g) → (∀ s H C cl fp, PTs ((X j).blk s H scope (compEnvC scope cl C (X j).env) fp) ifs tt) → (∀ s H C cl fp, PE ((X j).blk s H scope (compEnvC scope cl C (X j).env) fp) kx tk) → (∀ s H C cl fp, PE ((X j).blk s H scope (compEnvC scope cl C (X j).env) fp) vx tv) → PS (X j) sm (tAsg (tDcT wi g tt tk tv (own.map (·.2))) (gName i))) :
    SndS X K mg W T sm (evSet i (evDComp f (own.map (·.2)) st ft fk fv)) := by
  obtain ⟨wi, pi, ri⟩ := hi
  obtain ⟨g, pg, rg⟩ := hg
  obtain ⟨tt, pt, rt⟩ := ht
  obtain ⟨tk, pk, rk⟩ := hk
  obtain ⟨tv, pv, rv⟩ := he
  exact ⟨_, fun j => mk j wi g tt tk tv (pi j) (fun s H C cl fp => pg (j, s, H, C, cl, fp)) (fun s H C cl fp => pt (j, s, H, C, cl, fp)) (fun s H C cl fp => pk (j, s, H, C, cl, fp)) (fun s H C cl fp => pv (j, s, H, C, cl, fp)), rd_set (rd_dcomp ri rg his rt rk rv)⟩
end
end L3
set_option Elab.async false
set_option linter.all false
set_option maxRecDepth 100000
/-! L3Calls2: dict(..), max(dict), sorted(list), sorted(d.items()). -/
namespace L3
open PySem PySem.Spec PyProof.Rows L2 LamX

/-! ### dict(pairs) -/
/-- a pair as it stands: its own address, the key, the key's address, the value -/
abbrev Pr : Type := Addr × List Key × Addr × V
def PrOk (K : PySem.W.Frag) (H : Hp) (z : Pr) : Prop := SqT K H z.1 [.ref z.2.2.1, z.2.2.2] ∧ H z.2.2.1 = some (.tup (z.2.1.map kV))
def mergeT (acc : List (List Key × V)) (L : List Pr) : List (List Key × V) := L.foldl (fun acc z => putK acc z.2.1 z.2.2.2) acc
theorem length_mergeT : ∀ (L : List Pr) (acc : List (List Key × V)), (mergeT acc L).length ≤ acc.length + L.length
  | [], acc => by show acc.length ≤ acc.length + 0; omega
  | z :: r, acc => by
    have h1 := length_mergeT r (putK acc z.2.1 z.2.2.2)
    have h2 := length_putK acc z.2.1 z.2.2.2
    show (mergeT (putK acc z.2.1 z.2.2.2) r).length ≤ _
    rw [List.length_cons]; omega
/-- the pairs' values, as the machine holds them -/
inductive PrVals : List Pr → List Value → Prop
  | nil : PrVals [] []
  | cons {z : Pr} {u : Value} {L : List Pr} {us : List Value} : RelV z.2.2.2 u → PrVals L us → PrVals (z :: L) (u :: us)
theorem PrVals.get : ∀ {L : List Pr} {us : List Value} {j : Nat} {z : Pr}, PrVals L us → L[j]? = some z → ∃ u, us[j]? = some u ∧ RelV z.2.2.2 u
  | _, _, j, z, .nil, h => by simp at h
  | _, _, 0, z, .cons r t, h => by simp at h; subst h; exact ⟨_, rfl, r⟩
  | _, _, j + 1, z, .cons r t, h => by
    obtain ⟨u, e, q⟩ := PrVals.get (j := j) t (by simpa using h)
    exact ⟨u, by simpa using e, q⟩
theorem PrVals.length : ∀ {L : List Pr} {us : List Value}, PrVals L us → us.length = L.length
  | _, _, .nil => rfl
  | _, _, .cons r t => by rw [List.length_cons, List.length_cons, t.length]
def entsOf : List Pr → List Value → List (List Key × Addr × Value)
  | z :: L, u :: us => (z.2.1, z.2.2.1, u) :: entsOf L us
  | _, _ => []
def valsOf : List Pr → List Value → List (Value × Value)
  | z :: L, u :: us => (.ref z.2.2.1, u) :: valsOf L us
  | _, _ => []
theorem entsOf_get : ∀ {L : List Pr} {us : List Value} {j : Nat} {k v : Value}, (valsOf L us)[j]? = some (k, v) → ∃ z : Pr, L[j]? = some z ∧ us[j]? = some v ∧ k = .ref z.2.2.1 ∧ (entsOf L us)[j]? = some (z.2.1, z.2.2.1, v)
  | [], us, j, k, v, h => by simp [valsOf] at h
  | z :: L, [], j, k, v, h => by simp [valsOf] at h
  | z :: L, u :: us, 0, k, v, h => by
    simp [valsOf] at h
    obtain ⟨rfl, rfl⟩ := h
    exact ⟨z, rfl, rfl, rfl, rfl⟩
  | z :: L, u :: us, j + 1, k, v, h => by
    obtain ⟨z', e1, e2, e3, e4⟩ := entsOf_get (L := L) (us := us) (j := j) (by simpa [valsOf] using h)
    exact ⟨z', by simpa using e1, by simpa using e2, e3, by simpa [entsOf] using e4⟩
theorem entsOf_length : ∀ {L : List Pr} {us : List Value}, us.length = L.length → (entsOf L us).length = L.length ∧ (valsOf L us).length = L.length
  | [], us, h => by simp [entsOf, valsOf]
  | z :: L, [], h => by simp at h
  | z :: L, u :: us, h => by
    obtain ⟨a, b⟩ := entsOf_length (L := L) (us := us) (by simpa using h)
    simp [entsOf, valsOf, a, b]
theorem entsOf_mem : ∀ {L : List Pr} {us : List Value} {x : List Key × Addr × Value}, x ∈ entsOf L us → ∃ z ∈ L, x.1 = z.2.1 ∧ x.2.1 = z.2.2.1
  | [], us, x, h => by simp [entsOf] at h
  | z :: L, [], x, h => by simp [entsOf] at h
  | z :: L, u :: us, x, h => by
    rcases List.mem_cons.mp h with rfl | h
    · exact ⟨z, List.mem_cons_self, rfl, rfl⟩
    · obtain ⟨z', m, e⟩ := entsOf_mem h
      exact ⟨z', List.mem_cons_of_mem _ m, e⟩
theorem KT.merge {H : Hp} : ∀ {L : List Pr} {us : List Value} {acc : List (List Key × V)} {xs : List (List Key × Addr × Value)}, PrVals L us → (∀ z ∈ L, H z.2.2.1 = some (.tup (z.2.1.map kV))) → KT H acc xs → KT H (mergeT acc L) (storedAllH xs (entsOf L us))
  | _, _, acc, xs, .nil, _, h => h
  | _, _, acc, xs, .cons (z := z) (u := u) (L := L) (us := us) r t, hk, h => KT.merge (acc := putK acc z.2.1 z.2.2.2) (xs := storedH xs z.2.1 z.2.2.1 u) t (fun y hy => hk y (List.mem_cons_of_mem _ hy)) (h.put z.2.1 (hk z List.mem_cons_self) r)
section
variable {X : Cx} {pins : List (Addr × Obj)} {σ : L2.St} {H : Hp} {s : Shared}
theorem prVals_of (I : Inv X pins σ H s) : ∀ L : List Pr, (∀ z ∈ L, PrOk X.K H z) → ∃ us, PrVals L us ∧ ∀ (j : Nat) (z : Pr) (u : Value), L[j]? = some z → us[j]? = some u → s.heap.IsTuple z.1 #[.ref z.2.2.1, u]
  | [], _ => ⟨[], .nil, fun j z u h => by simp at h⟩
  | z :: L, h => by
    obtain ⟨us, p, q⟩ := prVals_of I L fun y hy => h y (List.mem_cons_of_mem _ hy)
    obtain ⟨h1, _⟩ := h z List.mem_cons_self
    obtain ⟨its, rv, ht, _⟩ := I.tuple h1
    cases rv with
    | cons r1 rr =>
      cases rr with
      | cons r2 rr =>
        cases rr
        cases r1
        rename_i u _ 
        refine ⟨_ :: us, .cons r2 p, fun j y v hj hv => ?_⟩
        cases j with
        | zero => simp at hj hv; subst hj hv; exact ht
        | succ j => exact q j y v (by simpa using hj) (by simpa using hv)
def rDictP (K : PySem.W.Frag) (seq : Hp → Addr → List V → Prop) : List V → Hp → VK → Prop := fun vs H Q => ∃ (a : Addr) (L : List Pr), vs = [.ref a] ∧ seq H a (L.map fun z => .ref z.1) ∧ (∀ z ∈ L, PrOk K H z) ∧ ∀ p, H p = none → Q (.ref p) (upd H p (.dT (mergeT [] L)))
/-- behind dict(..) of pairs -/
theorem dict_made {Q : VK} (I : Inv X pins σ H s) {L : List Pr} {us : List Value} (p : PrVals L us) (hk : ∀ z ∈ L, PrOk X.K H z) (hz : L.length ≤ sizeLine) (q : ∀ p, H p = none → Q (.ref p) (upd H p (.dT (mergeT [] L)))) {h' : Heap} {tk : Nat}
    (dd : h'.DictOfH (tupleKind (mixKind X.prog X.w)) s.heap.objs.size (storedAllH [] (entsOf L us))) (hs : ∀ b o, s.heap.get? b = some o → h'.get? b = some o) : EP X pins σ Q (.ref s.heap.objs.size) { s with heap := h', toks := tk } := by
  have hm : (s.heap.objs.size == sysModules) = false := beq_eq_false_iff_ne.mpr (Nat.ne_of_gt I.big)
  have hl : (mergeT [] L).length ≤ sizeLine := by
    have := length_mergeT L []
    rw [List.length_nil] at this
    omega
  have kt : KT (upd H s.heap.objs.size (.dT (mergeT [] L))) (mergeT [] L) (storedAllH [] (entsOf L us)) := KT.merge p (fun z hzL => by
    have h0 : H s.heap.objs.size = none := I.hok.fresh (Nat.le_refl _)
    rw [upd_ne fun e => by have := (hk z hzL).2; rw [e, h0] at this; cases this]
    exact (hk z hzL).2) .nil
  obtain ⟨o, es, ep, h1, h2, h3, h4, _, h6⟩ := dd
  exact ⟨.ref s.heap.objs.size, upd H s.heap.objs.size (.dT (mergeT [] L)), I.laid (t' := tk) hs (Nat.le_refl _) ⟨hl, hm, _, kt, o, es, ep, h1, h2, h3, h4, h6⟩, rfl, q _ (I.hok.fresh (Nat.le_refl _))⟩
theorem pairs_args (I : Inv X pins σ H s) {L : List Pr} {us : List Value} {its : List Value} (p : PrVals L us) (hp : ∀ (j : Nat) (z : Pr) (u : Value), L[j]? = some z → us[j]? = some u → s.heap.IsTuple z.1 #[.ref z.2.2.1, u]) (rv : Vals (L.map fun z => V.ref z.1) its) :
    PySem.PairItems s.heap its.toArray (fun j => (L.getD j (0, [], 0, .non)).1) (valsOf L us) := by
  have hl := (entsOf_length p.length).2
  refine ⟨by rw [List.size_toArray, ← rv.length, List.length_map, hl], fun j k v hj => ?_⟩
  obtain ⟨z, e1, e2, rfl, _⟩ := entsOf_get hj
  have ez : (L.getD j (0, [], 0, .non)).1 = z.1 := by rw [List.getD_eq_getElem?_getD, e1]; rfl
  refine ⟨?_, ?_⟩
  · obtain ⟨u, hu, ru⟩ := rv.get (i := j) (x := .ref z.1) (by rw [List.getElem?_map, e1]; rfl)
    cases ru
    show its.toArray[j]? = some (.ref (L.getD j (0, [], 0, .non)).1)
    rw [ez]
    simpa using hu
  · show PySem.PairAt s.heap (L.getD j (0, [], 0, .non)).1 _ _
    rw [ez]
    exact .inl (hp j z v e1 e2)
theorem call_dictL (hu : X.A.units + 3 < cLine) (hc : X.calm = true) : CallR X (.type "dict") (rDictP X.K (SqL X.K)) := by
  intro pins s σ H xs us Q I r h
  obtain ⟨a, L, rfl, hs, hk, q⟩ := h
  obtain ⟨its, rv, hl, hz⟩ := I.list hs
  rw [Vals.ref1 r]
  obtain ⟨ws, pv, hp⟩ := prVals_of I L hk
  have el := entsOf_length pv.length
  rw [List.length_map] at hz
  refine PySem.call_dict_pairsH (knd := tupleKind (mixKind X.prog X.w)) (ps := entsOf L ws) (PairArg.list a its.toArray (fun j => (L.getD j (0, [], 0, .non)).1) (valsOf L ws)) (I.ok.hd hc) (show X.A.in1.in1.units < cLine from by show X.A.units + 1 + 1 < cLine; omega)
    ⟨?_, pairs_args I pv hp rv⟩ ⟨by rw [el.1, el.2], fun i key v hv => ?_⟩ (fun h' hk' x hx => ?_) (by rw [el.2]; exact hz) fun h' tk dd hs' => dict_made I pv hk hz q dd fun b o e => hs' b o (by simp) e
  · obtain ⟨o, n, ho, hc', hdn, hd⟩ := hl
    exact ⟨o, n, ho, hc', hdn, hd⟩
  · obtain ⟨z, e1, e2, rfl, e4⟩ := entsOf_get hv
    exact ⟨_, _, e4, rfl⟩
  · obtain ⟨z, hz', e1, e2⟩ := entsOf_mem hx
    obtain ⟨o, its', n, g1, g2, g3, g4⟩ := (show IsTupleKey (mixKind X.prog X.w) s.heap z.2.1 z.2.2.1 from key_of I.hok (hk z hz').2)
    rw [e1, e2]
    exact ⟨o, its', n, hk' _ _ (Nat.ne_of_lt (Heap.lt_size g1)) (by simp) g1, g2, g3, g4⟩
theorem call_dictT (hu : X.A.units + 3 < cLine) (hc : X.calm = true) : CallR X (.type "dict") (rDictP X.K fun H a xs => TupAt H true a xs) := by
  intro pins s σ H xs us Q I r h
  obtain ⟨a, L, rfl, hs, hk, q⟩ := h
  have hs' : SqT X.K H a (L.map fun z => V.ref z.1) := TupAt.sq (b := true) hs
  obtain ⟨its, rv, hl, hz⟩ := I.tuple hs'
  rw [Vals.ref1 r]
  obtain ⟨ws, pv, hp⟩ := prVals_of I L hk
  have el := entsOf_length pv.length
  rw [List.length_map] at hz
  refine PySem.call_dict_pairsH (knd := tupleKind (mixKind X.prog X.w)) (ps := entsOf L ws) (PairArg.tuple a its.toArray (fun j => (L.getD j (0, [], 0, .non)).1) (valsOf L ws)) (I.ok.hd hc) (show X.A.in1.in1.units < cLine from by show X.A.units + 1 + 1 < cLine; omega)
    ⟨?_, pairs_args I pv hp rv⟩ ⟨by rw [el.1, el.2], fun i key v hv => ?_⟩ (fun h' hk' x hx => ?_) (by rw [el.2]; exact hz) fun h' tk dd hs' => dict_made I pv hk hz q dd fun b o e => hs' b o (by simp) e
  · obtain ⟨o, hd, hf⟩ := hs
    obtain ⟨ho, _⟩ := (show ObjOk X.prog X.w H s.heap a (.frz o (.tup (L.map fun z => V.ref z.1))) from I.hok a _ hf)
    obtain ⟨o', ho', hc', n, hdt⟩ := hl
    rw [ho] at ho'; cases ho'
    exact ⟨o, n, ho, hc', hd, hdt⟩
  · obtain ⟨z, e1, e2, rfl, e4⟩ := entsOf_get hv
    exact ⟨_, _, e4, rfl⟩
  · obtain ⟨z, hz', e1, e2⟩ := entsOf_mem hx
    obtain ⟨o, its', n, g1, g2, g3, g4⟩ := (show IsTupleKey (mixKind X.prog X.w) s.heap z.2.1 z.2.2.1 from key_of I.hok (hk z hz').2)
    rw [e1, e2]
    exact ⟨o, its', n, hk' _ _ (Nat.ne_of_lt (Heap.lt_size g1)) (by simp) g1, g2, g3, g4⟩
end

/-! ### dict(d) -/
def hashK (ns : List Int) : Int := reduceHash (Builtin.Tuple.tupleHashOf (ns.map hashInt))
theorem hash_ints {prog : Program} {w : World} (ns : List Int) : (tupleKind (mixKind prog w)).hash (ns.map .inl) = hashK ns := by
  show reduceHash (Builtin.Tuple.tupleHashOf ((ns.map (Sum.inl (β := Str))).map (keyH w))) = _
  unfold hashK
  rw [List.map_map]
  rfl
theorem call_dict_dictH {prog : Program} {w : World} {K : Type} [DecidableEq K] {knd : HeapKind prog w K} {A : Around} {E : Value → Shared → Prop} {s : Shared} {o : Addr} {more : List (K × Addr × Value)} {Q : Value → Shared → Prop} (hu : knd.room A.in1.in1) (hoS : (o == sysModules) = false)
    (ho : s.heap.DictOfH knd o more) (hty : ∀ x ∈ more, s.TypeIs (.ref x.2.1) "tuple") (hst : knd.Stays) (hap : (more.map fun x => knd.hash x.1).Nodup) (hsz : more.length ≤ sizeLine)
    (h : ∀ h', h'.DictOfH knd s.heap.objs.size (storedAllH [] more) → (∀ b ob, s.heap.get? b = some ob → h'.get? b = some ob) → Q (.ref s.heap.objs.size) { s with heap := h' }) :
    wpAny (model prog w) A (call (.type "dict") [.ref o]) Q E s := by
  refine callType_codes (Q₁ := fun obj s₁ => obj = .ref s.heap.objs.size ∧ s₁ = { s with heap := s.heap.push { cls := .type "dict", data := .dict #[] } }) F.kt_called_dict (F.kt_typeCall_dict_1 _) F.entry_dict_init (kt_code_dict_new _ ⟨rfl, rfl⟩) ?_
  rintro obj s₁ ⟨rfl, rfl⟩
  have hT : Shared.TypeIs { s with heap := s.heap.push { cls := .type "dict", data := .dict #[] } } (.ref s.heap.objs.size) "dict" := ⟨_, Heap.get?_push_size _ rfl, rfl⟩
  refine ⟨hT, F.args_dict_init_2 _ _, ?_⟩
  unfold Builtin.«dict.__init__»
  refine wpAny_bind ?_
  unfold Builtin.Dict.selfAndRest
  refine wpAny_bind (wpAny_notOrdered_dict hT ?_)
  show wpAny _ _ (pure (s.heap.objs.size, [Value.ref o])) _ _ _
  refine wpAny_pure ?_
  obtain ⟨ob, es, ep, h1, h2, h3, h4, h5, h6⟩ := id ho
  have hlt : o < s.heap.objs.size := Heap.lt_size h1
  have kp : ∀ b ob, s.heap.get? b = some ob → (s.heap.push { cls := .type "dict", data := .dict #[] }).get? b = some ob := fun b ob e => Heap.get?_push_of_some _ e
  refine updateFrom_dictH (A := A.in1) (kvs := []) .none hu (Nat.ne_of_gt hlt) hoS (Heap.DictOfH.new s.heap) ⟨ob, es, ep, kp _ _ h1, h2, h3, h4, fun x hx => hst.stays (fun b o' vs m e _ => kp b o' e) (h5 x hx), h6⟩
    (.inr ⟨fun x hx => ?_, hap⟩) (by simpa using hsz) fun h' dd _ hs => ⟨rfl, h h' dd fun b ob e => hs.extBut b ob (Nat.ne_of_lt (Heap.lt_size e)) (kp b ob e)⟩
  obtain ⟨o2, e2, c2⟩ := hty x hx
  exact ⟨o2, kp _ _ e2, c2⟩
def rDictD : List V → Hp → VK → Prop := fun vs H Q => ∃ (a : Addr) (ks : List (List Key × V)), vs = [.ref a] ∧ Rd H a (.dT ks) ∧ (∀ p ∈ ks, ∃ ns : List Int, p.1 = ns.map .inl) ∧ (ks.map fun p => hashK (p.1.map fun k => match k with | .inl i => i | .inr _ => 0)).Nodup ∧ ∀ p, H p = none → Q (.ref p) (upd H p (.dT ks))
theorem map_inl (ns : List Int) : (ns.map (Sum.inl (β := Str))).map (fun k : Key => match k with | .inl i => i | .inr _ => 0) = ns := by
  rw [List.map_map]
  have : ((fun k : Key => match k with | .inl i => i | .inr _ => (0 : Int)) ∘ Sum.inl) = id := rfl
  rw [this, List.map_id]
theorem call_dictDT {X : Cx} (hu : X.A.units + 3 < cLine) (hc : X.calm = true) : CallR X (.type "dict") rDictD := by
  intro pins s σ H xs us Q I r h
  obtain ⟨a, ks, rfl, hd, hi, hn, q⟩ := h
  obtain ⟨z, lo, ys, rel, dd⟩ := dt_rd I.hok hd
  rw [Vals.ref1 r]
  have hl : ks.length = ys.length := Paired.length rel
  have keys : ∀ {l : List (List Key × V)} {m : List (List Key × Addr × Value)}, KT H l m → (∀ p ∈ l, ∃ ns : List Int, p.1 = ns.map .inl) → m.map (fun x => (tupleKind (mixKind X.prog X.w)).hash x.1) = l.map fun p => hashK (p.1.map fun k => match k with | .inl i => i | .inr _ => 0) := by
    intro l m q
    induction q with
    | nil => intro _; rfl
    | cons h t ih =>
      intro hp
      rw [List.map_cons, List.map_cons, ih fun p hp' => hp p (List.mem_cons_of_mem _ hp')]
      obtain ⟨ns, e⟩ := hp _ List.mem_cons_self
      rw [← h.1, e, hash_ints, map_inl]
  have nd : (ys.map (·.1)).Nodup := dd.nodup
  refine call_dict_dictH (knd := tupleKind (mixKind X.prog X.w)) (show X.A.in1.in1.units < cLine from by show X.A.units + 1 + 1 < cLine; omega) lo dd (PySem.keyed_apart tupleKind_stays dd) tupleKind_stays (by rw [keys rel hi]; exact hn) (by rw [← hl]; exact z) fun h' d' hs => ?_
  rw [storedAllH_nil_of_nodup _ nd] at d'
  have hm : (s.heap.objs.size == sysModules) = false := beq_eq_false_iff_ne.mpr (Nat.ne_of_gt I.big)
  obtain ⟨o, es, ep, h1, h2, h3, h4, _, h6⟩ := d'
  refine ⟨.ref s.heap.objs.size, upd H s.heap.objs.size (.dT ks), I.laid (t' := s.toks) hs (Nat.le_refl _) ⟨z, hm, _, rel.keeps fun b ys e => ?_, o, es, ep, h1, h2, h3, h4, h6⟩, rfl, q _ (I.hok.fresh (Nat.le_refl _))⟩
  have h0 : H s.heap.objs.size = none := I.hok.fresh (Nat.le_refl _)
  rw [upd_ne fun w => by rw [w, h0] at e; cases e]
  exact e

/-! ### dict(..) by data -/
def pairsD : List PyData → Option (List (List Key × PyData))
  | [] => some []
  | .tuple [k, v] :: r => (keyOfT k).bind fun k' => (pairsD r).map ((k', v) :: ·)
  | _ => none
def mergeD (acc : List (PyData × PyData)) (ps : List (List Key × PyData)) : List (PyData × PyData) := ps.foldl (fun acc p => dPut acc p.1 p.2) acc
def hashesD : List (PyData × PyData) → Option (List Int)
  | [] => some []
  | p :: r => (match p.1 with | .tuple ds => intsOf ds | _ => none).bind fun ns => (hashesD r).map (hashK ns :: ·)
def gDict : List PyData → Option PyData
  | [.list ds] => (pairsD ds).map fun ps => .dict (mergeD [] ps)
  | [.tuple ds] => if tts ds = true then (pairsD ds).map fun ps => .dict (mergeD [] ps) else none
  | [.dict kvs] => (hashesD kvs).bind fun hs => if hs.Nodup then some (.dict kvs) else none
  | _ => none
def rDictAll (K : PySem.W.Frag) : List V → Hp → VK → Prop := fun vs H Q => rDictP K (SqL K) vs H Q ∨ rDictP K (fun H a xs => TupAt H true a xs) vs H Q ∨ rDictD vs H Q
theorem call_dictAll {X : Cx} (hu : X.A.units + 3 < cLine) (hc : X.calm = true) : CallR X (.type "dict") (rDictAll X.K) := by
  intro pins s σ H xs us Q I r h
  rcases h with h | h | h
  · exact call_dictL hu hc pins s σ H xs us Q I r h
  · exact call_dictT hu hc pins s σ H xs us Q I r h
  · exact call_dictDT hu hc pins s σ H xs us Q I r h
section
variable {K : PySem.W.Frag} {H : Hp}
/-- the pairs as they stand -/
def PrFz (K : PySem.W.Frag) (H : Hp) : List (List Key × PyData) → List Pr → Prop
  | [], L => L = []
  | p :: ps, L => ∃ z L', L = z :: L' ∧ p.1 ≠ [] ∧ z.2.1 = p.1 ∧ PrOk K H z ∧ Fz K H p.2 z.2.2.2 ∧ PrFz K H ps L'
theorem pairs_at : ∀ {ds : List PyData} {xs : List V} {ps : List (List Key × PyData)}, FzAll K H ds xs → pairsD ds = some ps → ∃ L, xs = L.map (fun z => V.ref z.1) ∧ PrFz K H ps L
  | [], xs, ps, h, e => by
    simp only [FzAll] at h
    cases e
    exact ⟨[], h, rfl⟩
  | d :: ds, xs, ps, h, e => by
    simp only [FzAll] at h
    obtain ⟨y, ys, rfl, h1, h2⟩ := h
    unfold pairsD at e
    split at e
    · rename_i hz; cases hz
    · rename_i k v r hz
      cases hz
      cases hk : keyOfT k with
      | none => rw [hk] at e; cases e
      | some k' =>
        rw [hk] at e
        cases hp : pairsD ds with
        | none =>
          rw [Option.bind_some, hp] at e; cases e
        | some ps' =>
          rw [Option.bind_some, hp] at e
          cases e
          obtain ⟨L, rfl, hL⟩ := pairs_at h2 hp
          simp only [Fz] at h1
          obtain ⟨a, zs, rfl, ht, hf⟩ := h1
          obtain ⟨u, w, rfl, hu, hw⟩ := hf.two
          obtain ⟨b, rfl, hb⟩ := key_at hk hu
          exact ⟨(a, k', b, w) :: L, rfl, _, L, rfl, (keyOfT_eq hk).1, rfl, ⟨ht.sq, hb⟩, hw, hL⟩
    · cases e
theorem PrFz.ok : ∀ {ps : List (List Key × PyData)} {L : List Pr}, PrFz K H ps L → ∀ z ∈ L, PrOk K H z
  | [], L, h, z, hz => by simp only [PrFz] at h; subst h; cases hz
  | p :: ps, L, h, z, hz => by
    simp only [PrFz] at h
    obtain ⟨z', L', rfl, _, _, h1, _, h2⟩ := h
    rcases List.mem_cons.mp hz with rfl | hz
    · exact h1
    · exact PrFz.ok h2 z hz
theorem PrFz.merge : ∀ {ps : List (List Key × PyData)} {L : List Pr} {kvs : List (PyData × PyData)} {ks : List (List Key × V)}, PrFz K H ps L → FzKV K H kvs ks → FzKV K H (mergeD kvs ps) (mergeT ks L)
  | [], L, kvs, ks, h, h' => by simp only [PrFz] at h; subst h; exact h'
  | p :: ps, L, kvs, ks, h, h' => by
    simp only [PrFz] at h
    obtain ⟨z', L', rfl, hn, he, h1, h3, h2⟩ := h
    have := PrFz.merge h2 (h'.put (k := p.1) hn h3)
    rw [← he] at this
    show FzKV K H (mergeD (dPut kvs p.1 p.2) ps) (mergeT (putK ks z'.2.1 z'.2.2.2) L')
    rw [← he]
    exact this
theorem hashes_at : ∀ {kvs : List (PyData × PyData)} {ks : List (List Key × V)} {hs : List Int}, FzKV K H kvs ks → hashesD kvs = some hs → (∀ p ∈ ks, ∃ ns : List Int, p.1 = ns.map .inl) ∧ (ks.map fun p => hashK (p.1.map fun k => match k with | .inl i => i | .inr _ => 0)) = hs
  | [], ks, hs, h, e => by
    simp only [FzKV] at h
    subst h
    cases e
    exact ⟨fun p hp => (by cases hp), rfl⟩
  | (k0, d0) :: r, ks, hs, h, e => by
    simp only [FzKV] at h
    obtain ⟨k', v, ks', rfl, ⟨nk, rfl⟩, h1, h2⟩ := h
    have e : (intsOf (k'.map keyD)).bind (fun ns => (hashesD r).map (hashK ns :: ·)) = some hs := e
    cases hi : intsOf (k'.map keyD) with
    | none => rw [hi] at e; cases e
    | some ns =>
      rw [hi] at e
      cases hr : hashesD r with
      | none => rw [Option.bind_some, hr] at e; cases e
      | some hs' =>
        rw [Option.bind_some, hr] at e
        cases e
        obtain ⟨g1, g2⟩ := hashes_at h2 hr
        have ek : k' = ns.map .inl := by
          have q := intsOf_eq hi
          have : ∀ (k : List Key) (ns : List Int), k.map keyD = ns.map PyData.int → k = ns.map .inl := by
            intro k
            induction k with
            | nil => intro ns h; cases ns with | nil => rfl | cons _ _ => cases h
            | cons x k ih =>
              intro ns h
              cases ns with
              | nil => cases h
              | cons n ns =>
                rw [List.map_cons, List.map_cons] at h
                injection h with ha hb
                cases x with
                | inl i => injection ha with ha; rw [List.map_cons, ← ih ns hb, ha]
                | inr i => cases ha
          exact this k' ns q
        refine ⟨fun p hp => ?_, ?_⟩
        · rcases List.mem_cons.mp hp with rfl | hp
          · exact ⟨ns, ek⟩
          · exact g1 p hp
        · rw [List.map_cons, g2]
          subst ek
          rw [map_inl]
theorem callo_dict : CallO K (rDictAll K) gDict := by
  intro vs ds d H Q h hg hq
  unfold gDict at hg
  split at hg
  · rename_i es
    obtain ⟨y, rfl, ry⟩ := h.one
    cases hp : pairsD es with
    | none => rw [hp] at hg; cases hg
    | some ps =>
      rw [hp] at hg
      cases hg
      simp only [Fz] at ry
      obtain ⟨a, xs, rfl, h1, h2⟩ := ry
      obtain ⟨L, rfl, hL⟩ := pairs_at h2 hp
      exact .inl ⟨a, L, rfl, h1.seq, hL.ok, fun p hp => hq p _ hp ⟨_, upd_same, FzKV.ext (Chg.fresh _ hp).ext _ _ (hL.merge (by simp only [FzKV]))⟩⟩
  · rename_i es
    split at hg
    · rename_i ht
      obtain ⟨y, rfl, ry⟩ := h.one
      cases hp : pairsD es with
      | none => rw [hp] at hg; cases hg
      | some ps =>
        rw [hp] at hg
        cases hg
        simp only [Fz] at ry
        rw [ht] at ry
        obtain ⟨a, xs, rfl, h1, h2⟩ := ry
        obtain ⟨L, rfl, hL⟩ := pairs_at h2 hp
        exact .inr (.inl ⟨a, L, rfl, h1, hL.ok, fun p hp => hq p _ hp ⟨_, upd_same, FzKV.ext (Chg.fresh _ hp).ext _ _ (hL.merge (by simp only [FzKV]))⟩⟩)
    · cases hg
  · rename_i kvs
    obtain ⟨y, rfl, ry⟩ := h.one
    cases hp : hashesD kvs with
    | none => rw [hp] at hg; cases hg
    | some hs =>
      rw [hp, Option.bind_some] at hg
      split at hg
      · rename_i hnd
        cases hg
        obtain ⟨a, ks, rfl, h1, h2⟩ := (show RepB K H y (.dict kvs) from .inl ry).dict
        obtain ⟨g1, g2⟩ := hashes_at h2 hp
        exact .inr (.inr ⟨a, ks, rfl, h1, g1, by rw [g2]; exact hnd, fun p hp => hq p _ hp ⟨_, upd_same, FzKV.ext (Chg.fresh _ hp).ext _ _ h2⟩⟩)
      · cases hg
  · cases hg
end
end L3
set_option Elab.async false
set_option linter.all false
set_option maxRecDepth 100000
/-! L3Sort: max(dict), sorted(list), sorted(d.items()). -/
namespace L3
open PySem PySem.Spec PyProof.Rows L2 LamX

/-! ### max(d) -/
section
variable {K : PySem.W.Frag} {H : Hp}
theorem dp_key (k : Key) : Dp K H (kV k) (keyD k) := by
  cases k with
  | inl i => exact .int i
  | inr x => exact .str x
theorem dp_keys : ∀ k : List Key, DpAll K H (k.map kV) (k.map keyD)
  | [] => .nil
  | x :: k => .cons (dp_key x) (dp_keys k)
theorem dp_keyT {b : Addr} {k : List Key} (h : H b = some (.tup (k.map kV))) : Dp K H (.ref b) (.tuple (k.map keyD)) := .tup (.of h) (dp_keys k)
end
def keyDat (p : List Key × V) : PyData := .tuple (p.1.map keyD)
def rMaxT : List V → Hp → VK → Prop := fun vs H Q => ∃ (a : Addr) (ks : List (List Key × V)) (x : PyData) (r : List PyData), vs = [.ref a] ∧ Rd H a (.dT ks) ∧ ks.map keyDat = x :: r ∧ PySem.W.AlikeAll (x :: r) ∧ PyData.depthAll (x :: r) ≤ 60 ∧
  ∀ (q : Addr) (p : List Key × V), p ∈ ks → keyDat p = PySem.W.maxD x r → H q = some (.tup (p.1.map kV)) → Q (.ref q) H
theorem call_maxT {X : Cx} (hu : X.A.units + 64 < cLine) (hc : X.calm = true) : CallR X (.builtin "max") rMaxT := by
  intro pins s σ H vs us Q I rr h
  obtain ⟨a, ks, x, r, rfl, hd, hx, hal, hdep, q⟩ := h
  obtain ⟨z, lo, ys, rel, o, es, ep, h1, h2, h3, h4, h5, h6⟩ := dt_rd I.hok hd
  rw [Vals.ref1 rr]
  have hh : X.A.handled = none := I.ok.hd hc
  have raw : s.heap.DictRaw a es ep := ⟨o, h1, h2, h3⟩
  have hlt : a < s.heap.objs.size := Heap.lt_size h1
  have hl : ks.length = ys.length := Paired.length rel
  have hes : es.size = ys.length := size_of_entries h4
  -- the keys
  have keys : ∀ (l : List (List Key × V)) (m : List (List Key × Addr × Value)), KT H l m → DpAll X.K H (m.map fun y => V.ref y.2.1) (l.map keyDat) := by
    intro l m k
    induction k with
    | nil => exact .nil
    | cons h t ih => exact .cons (dp_keyT h.2.1) ih
  have vals : ∀ (m : List (List Key × Addr × Value)), Vals (m.map fun y => V.ref y.2.1) (m.map fun y => Value.ref y.2.1) := by
    intro m
    induction m with
    | nil => exact .nil
    | cons y m ih => exact .cons rfl ih
  obtain ⟨bs, hr⟩ := Dp.readsAll I _ _ _ (keys ks ys rel) (vals ys)
  rw [hx] at hr
  have ek : ∀ (i : Nat) (hi : i < es.size), ∃ y, ys[i]? = some y ∧ es[i].key = .ref y.2.1 := fun i hi => by
    have hy : i < ys.length := hes ▸ hi
    have e := entry_at h4 i
    rw [Array.getElem?_eq_getElem hi, List.getElem?_eq_getElem hy, Option.map_some] at e
    exact ⟨_, List.getElem?_eq_getElem hy, by rw [Option.some.inj e]; rfl⟩
  have conv : ∀ i v, (∃ hi : i < es.size, v = es[i].key) → (ys.map fun y => Value.ref y.2.1).toArray[i]? = some v := fun i v ⟨hi, e⟩ => by
    obtain ⟨y, e1, e2⟩ := ek i hi
    rw [List.getElem?_toArray, List.getElem?_map, e1, e, e2]
    rfl
  have hn : es.size = r.length + 1 := by
    have := congrArg List.length hx
    rw [List.length_map, List.length_cons] at this
    omega
  have cmp := PySem.W.cmpIn_gt (prog := X.prog) (w := X.w) (A := X.A.in1) (vs := (ys.map fun y => Value.ref y.2.1).toArray) hr hal (show X.A.units + 1 + PyData.depthAll (x :: r) < cLine by omega)
  refine PySem.call_max_walkH ?_
  refine wpAny_pyIter_dict_raw (A := X.A.in1) lo raw ?_
  refine ⟨_, _, _, _, _, _, _, s.heap, _, rfl, (Walks.rawKeys (A := X.A.in1) hh _ a (Nat.ne_of_lt hlt) es ep).toS, ⟨⟨_, Heap.get?_push_size _ rfl, rfl, rfl⟩, raw.at fun _ e => Heap.get?_push_of_some _ e⟩, fun b hb => ?_, by omega, fun b o e hb => ?_, fun b o e => Heap.get?_push_of_some _ e,
    fun i j vi vj s' Q' E' hk hi hj hq => cmp i j vi vj s' Q' E' hk (conv i vi hi) (conv j vj hj) hq, fun v s' hP m => ?_⟩
  · show b < (s.heap.push _).objs.size
    rw [Heap.size_push]
    rcases List.mem_cons.mp hb with rfl | hb
    · exact Nat.lt_succ_self _
    · rcases List.mem_cons.mp hb with rfl | hb
      · exact Nat.lt_succ_of_lt hlt
      · cases hb
  · exact absurd (Heap.lt_size e) ((List.mem_singleton.mp hb) ▸ Nat.lt_irrefl _)
  · obtain ⟨h', tk, rfl, hk'⟩ := PySem.W.moved_old rfl rfl m
    obtain ⟨hi, ev⟩ := hP
    have best := PySem.W.argBest_fold (fun a b => PySem.W.dataLt b a) PyData.none x r r.length (Nat.le_refl _)
    have e1 : es.size - 1 = r.length := by omega
    rw [List.take_length] at best
    generalize hb : argBest (fun i j => PySem.W.dataLt ((x :: r).getD j PyData.none) ((x :: r).getD i PyData.none)) (es.size - 1) = bi at hi ev
    rw [e1] at hb
    rw [hb] at best
    obtain ⟨y, g1, g2⟩ := ek bi hi
    obtain ⟨p, hp, ep1, ep2, ep3⟩ := L2.DX.pget rel g1
    have eD : keyDat p = PySem.W.maxD x r := by
      have := best.2
      rw [← hx, List.getD_eq_getElem?_getD, List.getElem?_map, hp] at this
      exact this
    subst ev
    rw [g2]
    refine ⟨.ref y.2.1, H, I.kept (t' := tk) hk', rfl, q _ p (List.mem_of_getElem? hp) eD ep2⟩

/-! ### sorted(xs) -/
/-- the items with what they are, sorted -/
def sortZ (ds : List PyData) (xs : List V) : List (PyData × V) := (ds.zip xs).mergeSort (PySem.W.dataLe false fun b => b.1)
def sortD (ds : List PyData) : List PyData := ds.mergeSort (PySem.W.dataLe false fun d => d)
theorem sortZ_fst {ds : List PyData} {xs : List V} (h : ds.length = xs.length) : (sortZ ds xs).map (·.1) = sortD ds := by
  unfold sortZ sortD
  rw [List.map_mergeSort (f := fun b : PyData × V => b.1) (s := PySem.W.dataLe false fun d => d) (r := PySem.W.dataLe false fun b : PyData × V => b.1) (fun a _ b _ => rfl), List.map_fst_zip (by omega)]
def rSortD (K : PySem.W.Frag) : List V → Hp → VK → Prop := fun vs H Q => ∃ (a : Addr) (xs : List V) (ds : List PyData), vs = [.ref a] ∧ SqL K H a xs ∧ DpAll K H xs ds ∧ ds.length = xs.length ∧ PySem.W.AllAlike ds ∧ PySem.W.Sortable ds ∧ (∀ d ∈ ds, d.depth ≤ 60) ∧
  ∀ p, H p = none → Q (.ref p) (upd H p (.lst ((sortZ ds xs).map (·.2))))
theorem call_sortD {X : Cx} (hu : X.A.units + 64 < cLine) : CallR X (.builtin "sorted") (rSortD X.K) := by
  intro pins s σ H vs us Q I r h
  obtain ⟨a, xs, ds, rfl, hs, hd, hl, hal, hso, hdp, q⟩ := h
  obtain ⟨its, rv, hp, hz⟩ := I.list hs
  rw [Vals.ref1 r]
  have zip1 : ∀ (ds : List PyData) (xs : List V) (its : List Value), ds.length = xs.length → Vals xs its → PySem.W.EachIs (fun v (b : PyData × V) => RelV b.2 v) its (ds.zip xs) := by
    intro ds
    induction ds with
    | nil => intro xs its hl r; cases xs with | nil => cases r; exact .nil | cons _ _ => simp at hl
    | cons d ds ih =>
      intro xs its hl r
      cases xs with
      | nil => simp at hl
      | cons x xs =>
        cases r with
        | cons r1 r2 => exact .cons r1 (ih xs _ (by simpa using hl) r2)
  have zip2 : ∀ (ds : List PyData) (xs : List V) (its : List Value), DpAll X.K H xs ds → Vals xs its → PySem.W.EachIs (fun v (b : PyData × V) => ∃ as, Reads s.heap v b.1 as) its (ds.zip xs) := by
    intro ds
    induction ds with
    | nil => intro xs its hd r; cases hd; cases r; exact .nil
    | cons d ds ih =>
      intro xs its hd r
      cases hd with
      | cons h1 h2 =>
        cases r with
        | cons r1 r2 => exact .cons (Dp.reads I d _ _ h1 r1) (ih _ _ h2 r2)
  have em : (ds.zip xs).map (·.1) = ds := List.map_fst_zip (by omega)
  have ln : (ds.zip xs).length = xs.length := by rw [List.length_zip]; omega
  refine PySem.W.sorted_data (bs := ds.zip xs) (enc := fun b => b.1) hp.isList (zip1 ds xs its hl rv) (zip2 ds xs its hd rv) (by rw [em]; exact hal) (by rw [em]; exact hso) (by rw [ln]; exact hz)
    (fun b hb => ?_) fun out ho he => ?_
  · have := hdp b.1 (by rw [← em]; exact List.mem_map.mpr ⟨b, hb, rfl⟩)
    omega
  · obtain ⟨ep, he'⟩ := PyProof.Rows.sortedAll_at s.heap its out.toArray
    have rv2 : ∀ (out : List Value) (zs : List (PyData × V)), PySem.W.EachIs (fun v (b : PyData × V) => RelV b.2 v) out zs → Vals (zs.map (·.2)) out := by
      intro out zs e
      induction e with
      | nil => exact .nil
      | cons h t ih => exact .cons h ih
    have hlen : ((sortZ ds xs).map (·.2)).length ≤ sizeLine := by
      rw [List.length_map, sortZ, List.length_mergeSort, ln]; exact hz
    exact ⟨.ref _, upd H (s.heap.objs.size + 1) (.lst ((sortZ ds xs).map (·.2))), I.laid (t' := s.toks) (fun _ _ => PyProof.Rows.sortedAll_old) (Nat.le_succ _) ⟨hlen, out, ep, rv2 _ _ he, he'⟩, rfl, q _ (I.hok.fresh (Nat.le_succ _))⟩

/-! ### sorted(d.items()), the values ints -/
/-- the view d.items() of a dict that is locked or not -/
def rItemsR : V → List V → Hp → VK → Prop := fun x xs H Q => ∃ (a : Addr) (kvs : List (List Key × V)), x = .ref a ∧ xs = [] ∧ Rd H a (.dT kvs) ∧ ∀ p, H p = none → Q (.ref p) (upd H p (DX.itemsO p a))
theorem mt_itemsR {X : Cx} : MtR X "dict.items" rItemsR := by
  intro pins s σ H x xs v us Q I rx rxs h
  obtain ⟨a, kvs, rfl, rfl, ha, q⟩ := h
  cases rx
  cases rxs
  obtain ⟨z, hd, xs', rel, o, es, ep, ho, hx, hdat, _⟩ := dt_rd I.hok ha
  refine DT.callItems (es := es) (ep := ep) hd ⟨o, ho, hx, hdat⟩ ?_
  have hf : H s.heap.objs.size = none := I.hok.fresh (Nat.le_refl _)
  exact ⟨.ref s.heap.objs.size, upd H s.heap.objs.size (DX.itemsO s.heap.objs.size a), I.laid (t' := s.toks) (fun b u e => Heap.get?_push_of_some _ e) (Nat.le_refl _) (DX.itemsO_ok (Heap.get?_push_size _ rfl)), rfl, q _ hf⟩
def intD : V → PyData
  | .int i => .int i
  | _ => .none
def pairDat (p : List Key × V) : PyData := .tuple [.tuple (p.1.map keyD), intD p.2]
def rSortIt : List V → Hp → VK → Prop := fun vs H Q => ∃ (p a : Addr) (ks : List (List Key × V)), vs = [.ref p] ∧ H p = some (DX.itemsO p a) ∧ Rd H a (.dT ks) ∧ (∀ z ∈ ks, ∃ i : Int, z.2 = .int i) ∧ PySem.W.AllAlike (ks.map pairDat) ∧ (∀ z ∈ ks, (pairDat z).depth ≤ 60) ∧
  ∀ (H' : Hp) (l : Addr) (zs : List (Addr × List Key × V)), (∀ b o, H b = some o → H' b = some o) → H l = none → (∀ b, H' b = none → H b = none) → H' l = some (.lst (zs.map fun z => V.ref z.1)) → zs.map (·.2) = ks.mergeSort (PySem.W.dataLe false pairDat) →
    (∀ z ∈ zs, ∃ q, H' z.1 = some (.tup [.ref q, z.2.2]) ∧ H' q = some (.tup (z.2.1.map kV))) → Q (.ref l) H'
theorem reads_key {h : Heap} {k : List Key} {its : List Value} (rv : Vals (k.map kV) its) : ReadsAll h its (k.map keyD) [] := by
  induction k generalizing its with
  | nil => cases rv; exact .nil
  | cons x k ih =>
    cases rv with
    | cons r1 r2 =>
      have e : ∀ (v : Value), RelV (kV x) v → Reads h v (keyD x) [] := fun v r => by
        cases x with
        | inl i => obtain ⟨t, rfl⟩ := r; exact .int i t
        | inr y => obtain ⟨t, rfl⟩ := r; exact .str y t
      exact ReadsAll.cons (as := []) (bs := []) (e _ r1) (ih r2)
theorem each_refs : ∀ {out : List Value} {zs : List (Addr × List Key × V)}, PySem.W.EachIs (fun v (b : Addr × List Key × V) => v = Value.ref b.1) out zs → out = zs.map fun b => Value.ref b.1
  | _, _, .nil => rfl
  | _, _, .cons h t => by rw [h, each_refs t]; rfl
theorem call_sortIt {X : Cx} (hc : X.calm = true) (hu : X.A.units + 128 < cLine) : CallR X (.builtin "sorted") rSortIt := by
  intro pins s σ H xs us Q I r h
  obtain ⟨p, a, ks, rfl, hp, ha, hint, hal, hdp, q⟩ := h
  obtain rfl := Vals.ref1 r
  have view : s.heap.IsItemsView p a := (show ObjOk X.prog X.w H s.heap p (DX.itemsO p a) from I.hok p _ hp).1
  obtain ⟨z, hd, xs', rel, o, es, ep, ho, hx, hdat, hes, his, hn⟩ := dt_rd I.hok ha
  have l1 : ks.length = xs'.length := Paired.length rel
  have l2 : es.size = xs'.length := size_of_entries hes
  have hh : X.A.handled = none := I.ok.hd hc
  refine DT.sortedI (es := es) (ep := ep) hh view ⟨o, ho, hx, hdat⟩ (by omega) fun h' tk as hk hlt hl hG => ?_
  have lak : as.length = ks.length := by omega
  have nd : as.Nodup := List.Pairwise.imp (fun h => Nat.ne_of_lt h) hG.rise
  -- the pairs that were made
  have pr : ∀ (j : Nat) (b : Addr), as[j]? = some b → ∃ (e : List Key × V) (kq : Addr) (u : Value), ks[j]? = some e ∧ H kq = some (.tup (e.1.map kV)) ∧ RelV e.2 u ∧ h'.get? b = some { cls := .type "tuple", data := .seq #[Value.ref kq, u] } := by
    intro j b hj
    obtain ⟨en, he, hg⟩ := hG.pairs j b hj
    rw [entry_at hes j] at he
    cases hxj : xs'[j]? with
    | none =>
      rw [hxj] at he
      exact nomatch (show (none : Option DictEntry) = some en from he)
    | some x =>
      rw [hxj] at he
      have een : entryOfKey (tupleKind (mixKind X.prog X.w)) x = en := Option.some.inj he
      obtain ⟨e0, he0, r1, r2, r3⟩ := DX.pget rel hxj
      refine ⟨e0, x.2.1, x.2.2, he0, r2, r3, ?_⟩
      rw [hg, ← een]
      all_goals rfl
  have hob : (h'.push { cls := .type "list", data := .seq (as.map Value.ref).toArray }).get? h'.objs.size = some (seqObj "list" (as.map Value.ref).toArray 0) := Heap.get?_push_size _ rfl
  have kb : ∀ b o, s.heap.get? b = some o → (h'.push { cls := .type "list", data := .seq (as.map Value.ref).toArray }).get? b = some o := fun b o e => Heap.get?_push_of_some _ (hk b o e)
  have ne0 : ∀ b o, h'.get? b = some o → b ≠ h'.objs.size := fun b o e => Nat.ne_of_lt (Heap.lt_size e)
  generalize hh2 : h'.push { cls := .type "list", data := .seq (as.map Value.ref).toArray } = h2 at hob kb ⊢
  have ka : ∀ b o, h'.get? b = some o → h2.get? b = some o := fun b o e => by rw [← hh2]; exact Heap.get?_push_of_some _ e
  have rd : ∀ (j : Nat) (b : Addr), as[j]? = some b → ∃ e : List Key × V, ks[j]? = some e ∧ Reads h2 (.ref b) (pairDat e) [] := by
    intro j b hj
    obtain ⟨e, kq, u, he, hkq, ru, hg⟩ := pr j b hj
    obtain ⟨_, its, rv, ot, hot, hct, nt, hdt⟩ := (show ObjOk X.prog X.w H s.heap kq (.tup (e.1.map kV)) from I.hok kq _ hkq)
    obtain ⟨i, ei⟩ := hint e (List.mem_of_getElem? he)
    rw [ei] at ru
    obtain ⟨t, rfl⟩ := ru
    refine ⟨e, he, Reads.tuple (as := []) (ka _ _ hg) rfl rfl (ReadsAll.cons (as := []) (bs := []) (Reads.tuple (kb _ _ hot) hct hdt (by simpa using reads_key rv)) (ReadsAll.cons (as := []) (bs := []) ?_ .nil))⟩
    rw [ei]
    exact .int i t
  have eaR : ∀ (as : List Addr) (ks : List (List Key × V)), as.length = ks.length → (∀ (j : Nat) (b : Addr), as[j]? = some b → ∃ e : List Key × V, ks[j]? = some e ∧ Reads h2 (.ref b) (pairDat e) []) →
      PySem.W.EachIs (fun v (b : Addr × List Key × V) => ∃ bs, Reads h2 v (pairDat b.2) bs ∧ h'.objs.size ∉ bs) (as.map Value.ref) (as.zip ks) := by
    intro as
    induction as with
    | nil => intro ks _ _; exact .nil
    | cons a0 as ih =>
      intro ks hl hr
      cases ks with
      | nil => simp at hl
      | cons k0 ks =>
        obtain ⟨e, e1, e2⟩ := hr 0 a0 rfl
        have e1 : some k0 = some e := e1
        cases e1
        exact .cons ⟨[], e2, by simp⟩ (ih ks (by simpa using hl) fun j b hj => by
          obtain ⟨e, f1, f2⟩ := hr (j + 1) b (by simpa using hj)
          exact ⟨e, by simpa using f1, f2⟩)
  have eaI : ∀ (as : List Addr) (ks : List (List Key × V)), as.length = ks.length → PySem.W.EachIs (fun v (b : Addr × List Key × V) => v = Value.ref b.1) (as.map Value.ref) (as.zip ks) := by
    intro as
    induction as with
    | nil => intro ks _; exact .nil
    | cons a0 as ih =>
      intro ks hl
      cases ks with
      | nil => simp at hl
      | cons k0 ks => exact .cons rfl (ih ks (by simpa using hl))
  have em : (as.zip ks).map (fun b => pairDat b.2) = ks.map pairDat := by
    rw [show (fun b : Addr × List Key × V => pairDat b.2) = pairDat ∘ (·.2) from rfl, ← List.map_map, List.map_snd_zip (by omega)]
  have ln : (as.zip ks).length = ks.length := by rw [List.length_zip]; omega
  have hso : PySem.W.Sortable ((as.zip ks).map fun b => pairDat b.2) := by
    rw [em]
    refine .inl fun d hd => ?_
    obtain ⟨e, _, rfl⟩ := List.mem_map.mp hd
    exact ⟨_, _, rfl⟩
  have hdd : ∀ b, b ∈ as.zip ks → X.A.in1.units + 1 + (pairDat b.2).depth < cLine := fun b hb => by
    have := hdp b.2 (by
      obtain ⟨j, hj⟩ := List.mem_iff_getElem?.mp hb
      exact List.mem_of_getElem? (List.getElem?_zip_eq_some.mp hj).2)
    show X.A.units + 1 + 1 + (pairDat b.2).depth < cLine
    omega
  refine PySem.W.list_sort_data (s := { s with heap := h2, toks := tk }) (A := X.A.in1) (bs := as.zip ks) (enc := fun b => pairDat b.2) hob (eaI as ks lak) (eaR as ks lak rd) (by rw [em]; exact hal) hso (by rw [ln]; omega) hdd fun out ho2 he2 => ?_
  show EP X pins σ Q (.ref h'.objs.size) { s with heap := sortedHeap h2 h'.objs.size (as.map Value.ref) (List.toArray out), toks := tk }
  have eo := each_refs he2
  generalize hzs : (as.zip ks).mergeSort (PySem.W.dataLe false fun b => pairDat b.2) = zs at eo
  have idx : ∀ z ∈ zs, ∃ j : Nat, as[j]? = some z.1 ∧ ks[j]? = some z.2 := by
    intro z' hz'
    rw [← hzs, List.mem_mergeSort] at hz'
    obtain ⟨j, hj⟩ := List.mem_iff_getElem?.mp hz'
    exact ⟨j, List.getElem?_zip_eq_some.mp hj⟩
  have e2 : zs.map (·.2) = ks.mergeSort (PySem.W.dataLe false pairDat) := by
    rw [← hzs, List.map_mergeSort (f := fun b : Addr × List Key × V => b.2) (s := PySem.W.dataLe false pairDat) (r := PySem.W.dataLe false fun b : Addr × List Key × V => pairDat b.2) (fun a _ b _ => rfl), List.map_snd_zip (by omega)]
  have kF : ∀ b o, b ≠ h'.objs.size → h2.get? b = some o → (sortedHeap h2 h'.objs.size (as.map Value.ref) (List.toArray out)).get? b = some o := fun b o hb e => (PyProof.Rows.sortedHeap_old hb (Heap.lt_size e)).trans e
  have kS : ∀ b o, s.heap.get? b = some o → (sortedHeap h2 h'.objs.size (as.map Value.ref) (List.toArray out)).get? b = some o := fun b o e => kF b o (ne0 _ _ (hk b o e)) (kb b o e)
  obtain ⟨eF, heF⟩ := PyProof.Rows.sortedHeap_at (vs := as.map Value.ref) (out := List.toArray out) hob
  have I1 : Inv X pins σ H { s with heap := sortedHeap h2 h'.objs.size (as.map Value.ref) (List.toArray out), toks := tk } := I.kept (t' := tk) kS
  have hn0 : H h'.objs.size = none := I.hok.fresh (Nat.le_of_lt hlt)
  have hlen : (zs.map fun z => V.ref z.1).length ≤ sizeLine := by
    have := congrArg List.length e2
    rw [List.length_map, List.length_mergeSort] at this
    rw [List.length_map]
    omega
  have rv : Vals (zs.map fun z => V.ref z.1) out := by
    rw [eo]
    exact vals_maps (fun z : Addr × List Key × V => V.ref z.1) (fun z => Value.ref z.1) zs fun _ _ => rfl
  have I2 : Inv X pins σ (upd H h'.objs.size (.lst (zs.map fun z => V.ref z.1))) { s with heap := sortedHeap h2 h'.objs.size (as.map Value.ref) (List.toArray out), toks := tk } :=
    I1.take (h' := sortedHeap h2 h'.objs.size (as.map Value.ref) (List.toArray out)) (t' := tk) (fun b ob _ e => e) (I.fpOk (Nat.le_of_lt hlt) hn0) ⟨hlen, out, eF, rv, heF⟩
  obtain ⟨H2, I3, g, qt⟩ := DX.takeT (P := fun b vs => ∃ (j : Nat) (e : List Key × V) (kq : Addr), as[j]? = some b ∧ ks[j]? = some e ∧ vs = [.ref kq, e.2] ∧ H kq = some (.tup (e.1.map kV))) I as _ I2 nd fun b hb => by
    obtain ⟨j, hj⟩ := List.mem_iff_getElem?.mp hb
    obtain ⟨e, kq, u, he, hkq, ru, hg⟩ := pr j b hj
    have hbl : s.heap.objs.size ≤ b := Nat.le_of_lt (hG.above b hb)
    refine ⟨hbl, ?_, [.ref kq, e.2], ⟨j, e, kq, hj, he, rfl, hkq⟩, fun H3 => ⟨(by rw [sizeLine_eq]; show 2 ≤ 16777216; omega), [Value.ref kq, u], .cons rfl (.cons ru .nil), ⟨_, kF _ _ (ne0 _ _ hg) (ka _ _ hg), rfl, 0, rfl⟩⟩⟩
    rw [upd_ne (ne0 _ _ hg)]
    exact I.hok.fresh hbl
  have gr : ∀ b o, H b = some o → H2 b = some o := fun b o e => g b o (by rw [upd_ne (ne_of_none e hn0)]; exact e)
  refine ⟨.ref h'.objs.size, H2, I3, rfl, q H2 h'.objs.size zs gr hn0 (fun b hb => ?_) (g _ _ upd_same) e2 fun z' hz' => ?_⟩
  · cases hb2 : H b with
    | none => rfl
    | some o2 => rw [gr b o2 hb2] at hb; cases hb
  · obtain ⟨i, i1, i2⟩ := idx z' hz'
    obtain ⟨vs, ⟨j, e, kq, j1, j2, ev, hkq⟩, hH⟩ := qt z'.1 (List.mem_of_getElem? i1)
    have eij : i = j := (List.getElem?_inj (List.getElem?_eq_some_iff.mp i1).1 nd).mp (i1.trans j1.symm)
    subst eij
    have ee : e = z'.2 := Option.some.inj (j2.symm.trans i2)
    rw [ev, ee] at hH
    rw [ee] at hkq
    exact ⟨kq, hH, gr _ _ hkq⟩
end L3
set_option Elab.async false
set_option linter.all false
set_option maxRecDepth 100000
/-! L3SortD: max(d), sorted(list), sorted(d.items()) by data. -/
namespace L3
open PySem PySem.Spec PyProof.Rows L2 LamX

def alikeB (ds : List PyData) : Bool := ds.all fun x => ds.all fun y => PySem.W.alike x y
theorem alikeB_all {ds : List PyData} (h : alikeB ds = true) : PySem.W.AllAlike ds := fun d hd d' hd' => by
  have := List.all_eq_true.mp (List.all_eq_true.mp h d hd) d' hd'
  exact this
def gMax : PyData → Option PyData
  | .dict kvs => match kvs.map (·.1) with
    | x :: r => if alikeB (x :: r) = true ∧ PyData.depthAll (x :: r) ≤ 60 then some (PySem.W.maxD x r) else none
    | [] => none
  | _ => none
section
variable {K : PySem.W.Frag} {H : Hp}
theorem FzKV.keys : ∀ {kvs : List (PyData × PyData)} {ks : List (List Key × V)}, FzKV K H kvs ks → ks.map keyDat = kvs.map (·.1)
  | [], ks, h => by simp only [FzKV] at h; subst h; rfl
  | (k, d) :: r, ks, h => by
    simp only [FzKV] at h
    obtain ⟨k', v, ks', rfl, ⟨nk, rfl⟩, h1, h2⟩ := h
    rw [List.map_cons, List.map_cons, FzKV.keys h2]; rfl
theorem FzKV.mem : ∀ {kvs : List (PyData × PyData)} {ks : List (List Key × V)} {p : List Key × V}, FzKV K H kvs ks → p ∈ ks → p.1 ≠ []
  | [], ks, p, h, hp => by simp only [FzKV] at h; subst h; cases hp
  | (k, d) :: r, ks, p, h, hp => by
    simp only [FzKV] at h
    obtain ⟨k', v, ks', rfl, ⟨nk, rfl⟩, h1, h2⟩ := h
    rcases List.mem_cons.mp hp with rfl | hp
    · exact nk
    · exact FzKV.mem h2 hp
theorem key_notNone (p : List Key × V) : keyDat p ≠ .none := fun z => by cases z
theorem rMaxT_of {v : V} {d d' : PyData} {Q : VK} (r : RepB K H v d) (hg : gMax d = some d') (hn : NewV K H d' Q) : rMaxT [v] H Q := by
  cases d with
  | dict kvs =>
    obtain ⟨a, ks, rfl, h1, h2⟩ := r.dict
    have hg : (match kvs.map (·.1) with | x :: r => if alikeB (x :: r) = true ∧ PyData.depthAll (x :: r) ≤ 60 then some (PySem.W.maxD x r) else none | [] => none) = some d' := hg
    have ek := h2.keys
    cases hm : kvs.map (·.1) with
    | nil => rw [hm] at hg; cases hg
    | cons x r =>
      rw [hm] at hg ek
      have hg : (if alikeB (x :: r) = true ∧ PyData.depthAll (x :: r) ≤ 60 then some (PySem.W.maxD x r) else none) = some d' := hg
      split at hg
      · rename_i hc
        cases hg
        refine ⟨a, ks, x, r, rfl, h1, ek, ⟨alikeB_all hc.1, fun y hy => ?_⟩, hc.2, fun q p hp he hq => ?_⟩
        · rw [← ek] at hy
          obtain ⟨p, _, rfl⟩ := List.mem_map.mp hy
          exact key_notNone p
        · refine hn.here ?_
          rw [← he]
          exact fz_keyT (h2.mem hp) hq
      · cases hg
  | _ => cases hg

/-! ### sorted -/
def notN : PyData → Bool | .none => false | _ => true
/-- tuples that are not empty, or no tuples at all -/
def isT1 : PyData → Bool | .tuple (_ :: _) => true | _ => false
def sortOk (ds : List PyData) : Bool := alikeB ds && (ds.all (fun d => decide (d.depth ≤ 60)) && (ds.all isT1 && ds.all (·.canLay0)))
theorem sortOk_of {ds : List PyData} (h : sortOk ds = true) : PySem.W.AllAlike ds ∧ (∀ d ∈ ds, d.depth ≤ 60) ∧ PySem.W.Sortable ds ∧ ∀ d ∈ ds, d.canLay0 = true := by
  unfold sortOk at h
  rw [Bool.and_eq_true, Bool.and_eq_true, Bool.and_eq_true] at h
  obtain ⟨h1, h2, h3, h4⟩ := h
  refine ⟨alikeB_all h1, fun d hd => of_decide_eq_true (List.all_eq_true.mp h2 d hd), .inl fun d hd => ?_, fun d hd => List.all_eq_true.mp h4 d hd⟩
  have := List.all_eq_true.mp h3 d hd
  cases d with
  | tuple xs =>
    cases xs with
    | nil => cases this
    | cons x r => exact ⟨x, r, rfl⟩
  | _ => cases this
def gSortL : List PyData → Option PyData
  | [.list ds] => if sortOk ds = true then some (.list (sortD ds)) else none
  | _ => none
theorem FzAll.of_zip : ∀ {zs : List (PyData × V)}, (∀ z ∈ zs, Fz K H z.1 z.2) → FzAll K H (zs.map (·.1)) (zs.map (·.2))
  | [], _ => .nil
  | z :: zs, h => .cons (h z List.mem_cons_self) (FzAll.of_zip fun y hy => h y (List.mem_cons_of_mem _ hy))
theorem FzAll.zip_mem : ∀ {ds : List PyData} {xs : List V} {z : PyData × V}, FzAll K H ds xs → z ∈ ds.zip xs → Fz K H z.1 z.2
  | [], xs, z, h, hz => by simp at hz
  | d :: ds, xs, z, h, hz => by
    simp only [FzAll] at h
    obtain ⟨y, ys, rfl, h1, h2⟩ := h
    rw [List.zip_cons_cons] at hz
    rcases List.mem_cons.mp hz with rfl | hz
    · exact h1
    · exact FzAll.zip_mem h2 hz
theorem canLayAll_of {ds : List PyData} (h : ∀ d ∈ ds, d.canLay0 = true) : PyData.canLayAll0 ds = true := by
  induction ds with
  | nil => rw [PyData.canLayAll0]
  | cons d ds ih =>
    rw [PyData.canLayAll0, h d List.mem_cons_self, ih fun x hx => h x (List.mem_cons_of_mem _ hx)]; rfl
theorem callo_sort : CallO K (rSortD K) gSortL := by
  intro vs ds d H Q h hg hq
  unfold gSortL at hg
  split at hg
  · rename_i es
    split at hg
    · rename_i hc
      cases hg
      obtain ⟨y, rfl, ry⟩ := h.one
      obtain ⟨c1, c2, c3, c4⟩ := sortOk_of hc
      simp only [Fz] at ry
      obtain ⟨a, xs, rfl, h1, h2⟩ := ry
      refine ⟨a, xs, es, rfl, h1.seq, FzAll.dp es xs (canLayAll_of c4) h2, h2.length, c1, c3, c2, fun p hp => hq p _ hp ⟨_, upd_same, ?_⟩⟩
      refine FzAll.ext (Chg.fresh _ hp).ext _ _ ?_
      rw [← sortZ_fst h2.length]
      refine FzAll.of_zip fun z hz => ?_
      unfold sortZ at hz
      rw [List.mem_mergeSort] at hz
      exact FzAll.zip_mem h2 hz
    · cases hg
  · cases hg
def isInt : PyData → Bool | .int _ => true | _ => false
def pairD (p : PyData × PyData) : PyData := .tuple [p.1, p.2]
def gSortIt : PyData → Option PyData
  | .dict kvs => if (kvs.all (fun p => isInt p.2) && sortOk (kvs.map pairD)) = true then some (.list (sortD (kvs.map pairD))) else none
  | _ => none
theorem FzKV.pairs : ∀ {kvs : List (PyData × PyData)} {ks : List (List Key × V)}, FzKV K H kvs ks → kvs.all (fun p => isInt p.2) = true → ks.map pairDat = kvs.map pairD ∧ ∀ z ∈ ks, ∃ i : Int, z.2 = .int i
  | [], ks, h, _ => by simp only [FzKV] at h; subst h; exact ⟨rfl, fun z hz => by cases hz⟩
  | (k, d) :: r, ks, h, hi => by
    simp only [FzKV] at h
    obtain ⟨k', v, ks', rfl, ⟨nk, rfl⟩, h1, h2⟩ := h
    rw [List.all_cons, Bool.and_eq_true] at hi
    obtain ⟨g1, g2⟩ := FzKV.pairs h2 hi.2
    cases d with
    | int i =>
      simp only [Fz] at h1
      subst h1
      refine ⟨by rw [List.map_cons, List.map_cons, g1]; rfl, fun z hz => ?_⟩
      rcases List.mem_cons.mp hz with rfl | hz
      · exact ⟨i, rfl⟩
      · exact g2 z hz
    | _ => cases hi.1
end
/-- sorted(d.items()), d a name of an own dict -/
def evSortIt (i : Nat) : En → R := fun e => match e[i]? with
  | some (.ow d1) => (match gSortIt d1 with
    | some d => .ok (.ow d) e
    | none => .bad)
  | _ => .bad
section
variable {ι : Type} {X : ι → Cx} {K : PySem.W.Frag} {mg : Str → Option Value} {W : WX} {T : List (Addr × Str)}
theorem Fr.more {T : List (Addr × Str)} {H H' : Hp} (t : Tabs T H) (g : ∀ b o, H b = some o → H' b = some o) : Fr T none H H' :=
  ⟨⟨fun a xs h => g a _ h, fun a o u h => g a _ h⟩, fun a u h _ _ => g a u h, fun a h u hu => h u (g a u hu), t.ext g⟩
theorem snd_sortIt {i : Nat} {c : Expr} (mk : ∀ j, PE (X j) c (tCB rSortIt (tCons (tBM0 K "dict" rItemsR (tVar i)) tNil))) : SndE X K mg W T c (evSortIt i) := by
  refine ⟨_, mk, fun ex B P e σ H Q s q => ?_⟩
  unfold evSortIt at q
  cases h0 : e[i]? with
  | none => rw [h0] at q; exact False.elim q
  | some sl =>
    rw [h0] at q
    cases sl with
    | ow d1 =>
      have q : PostE K mg W T ex B P σ H Q (match gSortIt d1 with | some d => .ok (.ow d) e | none => .bad) := q
      cases hg : gSortIt d1 with
      | none => rw [hg] at q; exact False.elim q
      | some d =>
        rw [hg] at q
        obtain ⟨a, ha, ho, hB⟩ := s.ow i _ h0
        cases d1 with
        | dict kvs =>
          have hg : (if (kvs.all (fun p => isInt p.2) && sortOk (kvs.map pairD)) = true then some (PyData.list (sortD (kvs.map pairD))) else none) = some d := hg
          split at hg
          · rename_i hc
            cases hg
            rw [Bool.and_eq_true] at hc
            obtain ⟨ks, hks, hkv⟩ := ho
            obtain ⟨g1, g2⟩ := hkv.pairs hc.1
            obtain ⟨c1, c2, c3, c4⟩ := sortOk_of hc.2
            refine ⟨.ref a, ha, .inr (.inr (.inl ⟨rfl, .inr ⟨ks, hks⟩⟩)), a, ks, rfl, rfl, .inl hks, fun p hp => ?_⟩
            have cp := Chg.fresh (H := H) (DX.itemsO p a) hp
            have s1 := s.new hp (DX.itemsO p a)
            have hpa : a ≠ p := fun z => by rw [z, hp] at hks; cases hks
            refine ⟨p, a, ks, rfl, upd_same, .inl (by rw [upd_ne hpa]; exact hks), g2, by rw [g1]; exact c1, fun z hz => c2 _ (by rw [← g1]; exact List.mem_map.mpr ⟨z, hz, rfl⟩), fun H' l zs gr hl th hlst hm hz => ?_⟩
            have fr : Fr T none (upd H p (DX.itemsO p a)) H' := Fr.more s1.fr.tab gr
            refine q _ H' (cp.ext.trans fr.ext) (s1.called fr) (VRep.new s1 (Bn.of hl) ⟨_, hlst, ?_⟩)
            have e1 : sortD (kvs.map pairD) = zs.map fun z => pairDat z.2 := by
              rw [← g1, show (fun z : Addr × List Key × V => pairDat z.2) = pairDat ∘ (·.2) from rfl, ← List.map_map, hm]
              unfold sortD
              rw [List.map_mergeSort (f := pairDat) (s := PySem.W.dataLe false fun d => d) (r := PySem.W.dataLe false pairDat) (fun a _ b _ => rfl)]
            rw [e1]
            have all : ∀ zs : List (Addr × List Key × V), (∀ z ∈ zs, Fz K H' (pairDat z.2) (.ref z.1)) → FzAll K H' (zs.map fun z => pairDat z.2) (zs.map fun z => V.ref z.1) := by
              intro zs
              induction zs with
              | nil => intro _; exact .nil
              | cons z zs ih => intro h; exact .cons (h z List.mem_cons_self) (ih fun y hy => h y (List.mem_cons_of_mem _ hy))
            refine all zs fun z hzz => ?_
            obtain ⟨q', e2, e3⟩ := hz z hzz
            have hin : z.2 ∈ ks := by
              have : z.2 ∈ zs.map (·.2) := List.mem_map.mpr ⟨z, hzz, rfl⟩
              rw [hm, List.mem_mergeSort] at this
              exact this
            obtain ⟨n, en⟩ := g2 _ hin
            show Fz K H' (.tuple [.tuple (z.2.1.map keyD), intD z.2.2]) _
            rw [en] at e2 ⊢
            simp only [Fz]
            exact ⟨z.1, _, rfl, e2, .cons (fz_keyT (hkv.mem hin) e3) (.cons (by simp only [intD, Fz]) .nil)⟩
          · cases hg
        | _ => cases hg
    | _ => exact False.elim q
end
end L3
set_option Elab.async false
set_option linter.all false
set_option maxRecDepth 100000
/-! L3Rest: what is never reached, not in, two fors, [x] * n, raise, a call that gets a lambda and catches. -/
namespace L3
open PySem PySem.Spec PyProof.Rows L2 LamX

def evNever : En → O := fun _ => .bad
def evNeverE : En → R := fun _ => .bad
def evRaise (c : Str) : En → O := fun e => .exn c e
section
variable {ι : Type} {X : ι → Cx} {K : PySem.W.Frag} {mg : Str → Option Value} {W : WX} {T : List (Addr × Str)}
theorem snds_never {st : Stmt} : SndS X K mg W T st evNever := ⟨_, fun _ => ps_never, fun ex B e σ H D s q => q⟩
theorem pe_never {Y : Cx} {e : Expr} : PE Y e (fun _ _ _ => False) := ⟨fun _ _ _ _ _ _ h => h.elim⟩
theorem snd_never {x : Expr} : SndE X K mg W T x evNeverE := ⟨_, fun _ => pe_never, fun ex B P e σ H D s q => q⟩
theorem snds_raise {c : Str} {C : Addr} {st : Stmt} (hg : mg c = some (.ref C)) (mk : ∀ j, PS (X j) st (fun _ σ H => W (.ref C) none σ H)) : SndS X K mg W T st (evRaise c) :=
  ⟨_, mk, fun ex B e σ H D s q => q (.ref C) σ H hg (Ext.refl _) s⟩
end
/-! ### x not in (ints) -/
section
variable {K : PySem.W.Frag}
def gNotIn : PyData → PyData → Option PyData
  | .int i, .tuple ds => (intsOf ds).map fun ns => .bool (!ns.contains i)
  | _, _ => none
theorem inV_ints (i : Int) : ∀ ns : List Int, inV (.int i) (ns.map V.int) = ns.contains i
  | [] => rfl
  | n :: ns => by
    have ih := inV_ints i ns
    unfold inV at ih ⊢
    rw [List.map_cons, List.any_cons, ih, List.contains_cons]
    have : L2.eqV (V.int n) (.int i) = (i == n) := by
      show (n == i) = (i == n)
      by_cases z : n = i
      · rw [z]
      · rw [beq_eq_false_iff_ne.mpr z, beq_eq_false_iff_ne.mpr (Ne.symm z)]
    rw [this]
theorem opf_notIn : OpF K (rIn K true) gNotIn := by
  intro x y dx dy d H Q rx ry hg hn
  unfold gNotIn at hg
  split at hg
  · rename_i i es
    cases q : intsOf es with
    | none => rw [q] at hg; cases hg
    | some ns =>
      rw [q] at hg
      cases hg
      have e := intsOf_eq q
      subst e
      rw [rx.int]
      obtain ⟨a, xs, rfl, h1, h2⟩ := ry.tuple
      have ex := h2.ints
      subst ex
      refine ⟨a, _, rfl, .inr h1.sq, rfl, ?_, ?_⟩
      · rw [List.all_map]
        exact List.all_eq_true.mpr fun _ _ => rfl
      · rw [if_pos rfl, inV_ints]
        exact hn.bool
  · cases hg
end
/-! ### two fors -/
section
variable {ι : Type} {X : ι → Cx} {K : PySem.W.Frag} {mg : Str → Option Value} {W : WX} {T : List (Addr × Str)}
theorem snds_setLc2 {elt tg iter tg1 iter1 : Expr} {ifs ifs1 : List Expr} {scope : Scope} {sm : Stmt} {own : List (Str × Nat)} {vs1 : List Nat} {i : Nat} {is is1 : List Nat} {f f1 : En → RA} {st st1 : PyData → En → Option En} {ft ft1 fe : En → R} (hv : ∀ i ∈ vs1, i ∈ own.map (·.2)) (hi : SndI X K mg W T tg iter f) (hg : SndG (blkF X scope) K tg st is) (ht : SndPT (blkF X scope) K mg T ifs ft)
    (hi1 : SndI (blkF X scope) K mg W0 T tg1 iter1 f1) (hg1 : SndG (blkF X scope) K tg1 st1 is1) (ht1 : SndPT (blkF X scope) K mg T ifs1 ft1) (he : SndD (blkF X scope) K mg W0 T elt fe)
    (his : ∀ i ∈ is, i ∈ own.map (·.2)) (his1 : ∀ i ∈ is1, i ∈ vs1)
    (mk : ∀ j wi g tt wi1 g1 tt1 te, PI (X j) tg iter wi → (∀ s H C cl fp, PG ((X j).blk s H scope (compEnvC scope cl C (X j).env) fp) tg g) → (∀ s H C cl fp, PTs ((X j).blk s H scope (compEnvC scope cl C (X j).env) fp) ifs tt) →
      (∀ s H C cl fp, PI ((X j).blk s H scope (compEnvC scope cl C (X j).env) fp) tg1 iter1 wi1) → (∀ s H C cl fp, PG ((X j).blk s H scope (compEnvC scope cl C (X j).env) fp) tg1 g1) → (∀ s H C cl fp, PTs ((X j).blk s H scope (compEnvC scope cl C (X j).env) fp) ifs1 tt1) →
      (∀ s H C cl fp, PE ((X j).blk s H scope (compEnvC scope cl C (X j).env) fp) elt te) → PS (X j) sm (tAsg (tLc2 wi g tt wi1 g1 tt1 te (own.map (·.2)) vs1) (gName i))) :
    SndS X K mg W T sm (evSet i (evComp2 f (own.map (·.2)) vs1 st ft f1 st1 ft1 fe)) := by
  obtain ⟨wi, pi, ri⟩ := hi
  obtain ⟨g, pg, rg⟩ := hg
  obtain ⟨tt, pt, rt⟩ := ht
  obtain ⟨wi1, pi1, ri1⟩ := hi1
  obtain ⟨g1, pg1, rg1⟩ := hg1
  obtain ⟨tt1, pt1, rt1⟩ := ht1
  obtain ⟨te, pe, re⟩ := he
  exact ⟨_, fun j => mk j wi g tt wi1 g1 tt1 te (pi j) (fun s H C cl fp => pg (j, s, H, C, cl, fp)) (fun s H C cl fp => pt (j, s, H, C, cl, fp)) (fun s H C cl fp => pi1 (j, s, H, C, cl, fp)) (fun s H C cl fp => pg1 (j, s, H, C, cl, fp)) (fun s H C cl fp => pt1 (j, s, H, C, cl, fp)) (fun s H C cl fp => pe (j, s, H, C, cl, fp)),
    rd_set (rd_lc2 hv ri rg his rt ri1 rg1 his1 rt1 re)⟩

/-! ### [..] * n -/
def evRepL (f g : En → R) : En → R := fun e => match f e with
  | .ok (.ow (.list ds)) e1 => (g e1).bnd fun d2 e2 => (match d2 with
    | .int k => if -(2 ^ 63) ≤ k ∧ k < 2 ^ 63 ∧ ds.length * k.toNat ≤ 16777216 then .ok (.ow (.list (List.replicate k.toNat ds).flatten)) e2 else .bad
    | _ => .bad)
  | .exn c e1 => .exn c e1
  | _ => .bad
theorem snd_repL {a b c : Expr} {f g : En → R} (ha : SndE X K mg W T a f) (hb : SndD X K mg W T b g) (mk : ∀ j ta tb, PE (X j) a ta → PE (X j) b tb → PE (X j) c (tOp rRep ta tb)) : SndE X K mg W T c (evRepL f g) := by
  obtain ⟨ta, pa, ra⟩ := ha
  obtain ⟨tb, pb, rb⟩ := hb
  refine ⟨_, fun j => mk j _ _ (pa j) (pb j), fun ex B P e σ H Q s q => ra ex B P e σ H _ s ?_⟩
  unfold evRepL at q
  cases hf : f e with
  | bad => rw [hf] at q; exact q
  | exn c e1 => rw [hf] at q; exact q
  | ok v e1 =>
    rw [hf] at q
    cases v with
    | fz d => exact False.elim q
    | ow d =>
      cases d with
      | list ds =>
        intro y H1 x1 s1 r1
        obtain ⟨a, rfl, _⟩ := id r1
        have sP := s1.push r1
        have q : PostE K mg W T ex B P σ H Q ((g e1).bnd fun d2 e2 => (match d2 with
          | .int k => if -(2 ^ 63) ≤ k ∧ k < 2 ^ 63 ∧ ds.length * k.toNat ≤ 16777216 then .ok (.ow (.list (List.replicate k.toNat ds).flatten)) e2 else .bad
          | _ => .bad)) := q
        refine rb ex B _ e1 σ H1 _ sP ?_
        have fin : ∀ d2 e2, PostE K mg W T ex B P σ H Q (match d2 with
          | .int k => if -(2 ^ 63) ≤ k ∧ k < 2 ^ 63 ∧ ds.length * k.toNat ≤ 16777216 then .ok (.ow (.list (List.replicate k.toNat ds).flatten)) e2 else .bad
          | _ => .bad) → ∀ y2 H2, Ext H1 H2 → Sim K T ex B ((a, .list ds) :: P) e2 σ H2 → Fz K H2 d2 y2 → rRep (.ref a) y2 H2 Q := fun d2 e2 q2 y2 H2 x2 s2 r2 => by
          cases d2 with
          | int k =>
            simp only [Fz] at r2
            subst r2
            have q2 : PostE K mg W T ex B P σ H Q (if -(2 ^ 63) ≤ k ∧ k < 2 ^ 63 ∧ ds.length * k.toNat ≤ 16777216 then .ok (.ow (.list (List.replicate k.toNat ds).flatten)) e2 else .bad) := q2
            split at q2
            · rename_i hk
              obtain ⟨xs, hx, hf2⟩ := (s2.pd (a, .list ds) List.mem_cons_self).1
              obtain ⟨s3, _⟩ := s2.pop
              refine ⟨a, k, xs, rfl, rfl, hx, hk.1, hk.2.1, by rw [← hf2.length]; exact line_ok hk.2.2, fun p hp => q2 _ _ ((x1.trans x2).trans (Chg.fresh _ hp).ext) (s3.new hp _) (VRep.new s3 (Bn.of hp) ⟨_, upd_same, FzAll.ext (Chg.fresh _ hp).ext _ _ (hf2.rep _)⟩)⟩
            · exact False.elim q2
          | _ => exact False.elim q2
        cases hg : g e1 with
        | bad => rw [hg] at q; exact q
        | exn c e2 => rw [hg] at q; exact fun cls H' hc x' s' => q cls H' hc (x1.trans x') s'.pop.1
        | ok w e2 =>
          rw [hg] at q
          cases w with
          | fz d2 => exact fin d2 e2 q
          | ow d2 => exact fin d2 e2 q
      | _ => exact False.elim q

/-! ### told(lambda: e): try: return (0, read(call())) / except Root as e: return (1, a if isinstance(e, C) else b) -/
/-- what a class of the text is told as -/
def TToldR (K : PySem.W.Frag) (CR CO : Addr) (x1 x2 : Str) (spR : Sp) : (XK → Hp → VK → Prop) → Hp → VK → Prop := fun tl H Q =>
  tl (fun cls d H' => ∃ (D : Addr) (b : Bool), cls = .ref D ∧ d = none ∧ PySem.W.exmOne K (.ref D) (.ref CR) = some true ∧ ExcC K D ∧ PySem.W.kitOne K (.ref D) (.ref CO) = some b ∧ TupQ Q H' [.int 1, .str (if b = true then x1 else x2)]) H
    fun y H1 => spR [y] H1 (fun z H2 => [V.int 0, z].length ≤ sizeLine ∧ TupQ Q H2 [.int 0, z]) (fun _ _ _ => False)
end
section
variable {X : Cx}
theorem toldR_gives {Ng : List Str} {x a q x1 x2 nR nE nRoot nOut : Str} {sg : Scope} {g CR CO fR : Addr} {cdg : Value} {j1 j2 j3 j4 k1 k2 : Nat} {kR : Nat} {fdR : FuncData} {psR : List Str} {spR : Sp} {p1 p2 p3 p4 p5 p6 p7 p8 p9 p10 p11 p12 p13 p14 p15 p16 p17 p18 p19 p20 : Pos}
    (FR : FnOk X.prog X.w X.K X.mg X.base (L2.CX X.prog X.w) kR fR fdR psR spR) (hR : Room (kR + 1) X.A) (hkR : PySem.W.keepIn X.K (.ref fR) = true) (hbR : L2.Binds X.K fdR psR []) (hmR : X.mg nR = some (.ref fR))
    (hmRoot : X.mg nRoot = some (.ref CR)) (hmOut : X.mg nOut = some (.ref CO)) (hmI : X.mg "isinstance" = none)
    (gR : sg.names.lookup nR = some .globalImplicit) (gRoot : sg.names.lookup nRoot = some .globalImplicit) (gOut : sg.names.lookup nOut = some .globalImplicit) (gI : sg.names.lookup ("isinstance" : Str) = some .globalImplicit) (lE : sg.names.lookup nE = some .local)
    (hNg : Ng = [a, nE]) (hne : a ≠ nE) (dR : (nR == ("__debug__" : Str)) = false) (dRoot : (nRoot == ("__debug__" : Str)) = false) (dOut : (nOut == ("__debug__" : Str)) = false) (dE : (nE == ("__debug__" : Str)) = false) (cE : (nE == ("__classdict__" : Str)) = false) :
    GivesTo X Ng x sg g cdg
      [.Try [.Return (some (.Tuple [.Constant (.int 0) j1 p1, .Call (.Name nR p2) [.Call (.Name a p3) [] [] p4] [] p5] k1 p6)) p7]
        [.ExceptHandler (some (.Name nRoot p8)) (some nE) [.Return (some (.Tuple [.Constant (.int 1) j2 p9, .IfExp (.Call (.Name "isinstance" p10) [.Name nE p11, .Name nOut p12] [] p13) (.Constant (.str x1) j3 p14) (.Constant (.str x2) j4 p15) p16] k2 p17)) p18] p19] [] [] p20]
      a q (TToldR X.K CR CO x1 x2 spR) := by
  intro f c' s H Q tl act hc h
  subst hNg
  have hRZ : Room kR (cxOf C8.CX0 X.prog X.w X.K X.mg X.base [a, nE] x sg g cdg X.A X.stack s H C8.E0).A := hR.deeper _
  refine ⟨_, pss_one (ps_try_as (X := (cxOf C8.CX0 X.prog X.w X.K X.mg X.base [a, nE] x sg g cdg X.A X.stack s H C8.E0).nox) (c := .ref CR) (i := 1)
      (tb := fun W D σ H => ∃ Ech : XK, (∀ cls d σ' H', Ech cls d H' → W cls d σ' H') ∧ σ[0]? = some (some (.ref f)) ∧ H c' = some (CodeO c' q) ∧ tl Ech H fun y H1 => spR [y] H1 (fun z H2 => [V.int 0, z].length ≤ sizeLine ∧ TupQ D.rt H2 [.int 0, z]) (fun _ _ _ => False))
      (ts := fun b cls d D σ H => ∃ (D0 : Addr) (bb : Bool), cls = .ref D0 ∧ d = none ∧ ExcC X.K D0 ∧ PySem.W.kitOne X.K (.ref D0) (.ref CO) = some bb ∧ (1 < σ.length → σ[1]? = some (some (.ref b))) ∧ TupQ D.rt H [.int 1, .str (if bb = true then x1 else x2)])
      rfl rfl (by rw [show (cxOf C8.CX0 X.prog X.w X.K X.mg X.base [a, nE] x sg g cdg X.A X.stack s H C8.E0).nox.N = [a, nE] from rfl]; simp [hne]) rfl lE ⟨gRoot, dRoot, .inl hmRoot⟩ LamX.takes0 (fun W pn xe tk _ => ?_) (fun b oe cls d pn hz hf => ?_)), ?_⟩
  · refine ⟨fun pins s' σ H' D I h' => ?_⟩
    obtain ⟨Ech, hW, h1, h2, h3⟩ := h'
    have hp := act W pn xe Ech p3 p4 tk hW
    have hcall := pe_callS (E := WE W0) (X := (cxOf C8.CX0 X.prog X.w X.K X.mg X.base [a, nE] x sg g cdg X.A X.stack s H C8.E0).tr pn xe) (x := nR) (p := p2) (pos := p5) FR hRZ gR hmR hkR hbR (fun σ => passAt LamX.takes0 σ) (pa_cons hp pa_nil) dR
    have hq := pss_one (ps_ret (pos := p7) (pe_tup2 (pos := p6) (x1 := k1) (pa_cons (pe_int (i := 0) (j := j1) (pos := p1)) (pa_cons hcall pa_nil))))
    exact hq.run pins s' σ H' D I ⟨h1, h2, h3⟩
  · refine ⟨fun pins s' σ H' D I h' => ?_⟩
    obtain ⟨D0, bb, rfl, rfl, hE, hk, h1, h2⟩ := h'
    have h0 : PE ((cxOf C8.CX0 X.prog X.w X.K X.mg X.base [a, nE] x sg g cdg X.A X.stack s H C8.E0).nox.suite b ((b, oe) :: pn)) (.Name nE p11) (tVar 1) := pe_var rfl (.inl lE) dE cE
    have hI := pe_callB (X := (cxOf C8.CX0 X.prog X.w X.K X.mg X.base [a, nE] x sg g cdg X.A X.stack s H C8.E0).nox.suite b ((b, oe) :: pn)) (x := "isinstance") (p := p10) (pos := p13) (call_isE (X := (cxOf C8.CX0 X.prog X.w X.K X.mg X.base [a, nE] x sg g cdg X.A X.stack s H C8.E0).nox) hE hz hf) gI hmI PyProof.Rows.boot_isinstance
      (pa_cons h0 (pa_cons (pe_glob (v := .ref CO) (pos := p12) gOut hmOut rfl dOut) pa_nil))
    have hq := pss_one (ps_ret (pos := p18) (pe_tup2 (pos := p17) (x1 := k2) (pa_cons (pe_int (i := 1) (j := j2) (pos := p9)) (pa_cons (pe_ifExp (pos := p16) (pt_val hI) (pe_str (x := x1) (j := j3) (pos := p14)) (pe_str (x := x2) (j := j4) (pos := p15))) pa_nil))))
    have hlen : σ.length = 2 := I.len
    refine hq.run pins s' σ H' D I ⟨_, h1 (by omega), ⟨_, .ref CO, bb, rfl, fun u r => r, hk, bb, rfl, ?_⟩⟩
    cases bb with
    | true => exact ⟨(by decide : 2 ≤ sizeLine), h2⟩
    | false => exact ⟨(by decide : 2 ≤ sizeLine), h2⟩
  · refine ⟨_, fun cls d σ' H' ⟨D0, b, e1, e2, e3, e4, e5, e6⟩ => ⟨true, by rw [e1]; exact e3, fun _ a ha => ⟨D0, b, e1, e2, e4, e5, fun hl => List.getElem?_set_self (by simpa using hl), e6⟩, fun z => by cases z⟩, rfl, hc, h⟩
end

def evTold (told : Str → Option Bool) (x1 x2 : Str) (F : List PyData → FRes) (f : En → R) : En → R := fun e => match f e with
  | .ok (.fz d) e1 => (match F [d] with
    | .ok (.fz d') => .ok (.fz (.tuple [.int 0, d'])) e1
    | _ => .bad)
  | .exn c e1 => (match told c with
    | some b => .ok (.fz (.tuple [.int 1, .str (if b = true then x1 else x2)])) e1
    | none => .bad)
  | _ => .bad
theorem Fr.ofExtN {T : List (Addr × Str)} {H H1 : Hp} (e : ExtN H H1) (t : Tabs T H1) : Fr T none H H1 :=
  ⟨⟨fun a xs h => e a (.tup xs) h (fun ps z => by cases z), fun a o u h => e a (.frz o u) h (fun ps z => by cases z)⟩, fun a u h _ n => e a u h n, fun a hb u hu => Classical.byContradiction fun n => n (hb u (e a u hu fun ps z => n ⟨ps, z⟩)), t⟩
section
variable {ι : Type} {X : ι → Cx} {K : PySem.W.Frag} {mg : Str → Option Value} {W : WX} {T : List (Addr × Str)}
theorem snd_told {c : Expr} {f : En → R} {F : List PyData → FRes} {told : Str → Option Bool} {CR CO : Addr} {x1 x2 : Str} (t : XK → TE) (hr : ∀ E, RdE K mg (WD E) T (t E) f) (mk : ∀ j, PE (X j) c (tLam T (TToldR K CR CO x1 x2 (spF K mg T 1 F)) t))
    (hcls : ∀ (n : Str) (b : Bool), told n = some b → ∃ D : Addr, mg n = some (.ref D) ∧ PySem.W.exmOne K (.ref D) (.ref CR) = some true ∧ ExcC K D ∧ PySem.W.kitOne K (.ref D) (.ref CO) = some b) : SndE X K mg W T c (evTold told x1 x2 F f) := by
  refine ⟨_, mk, fun ex B P e σ H Q s q => ⟨s.fr.tab, fun H1 eN T1 => ?_⟩⟩
  have fr : Fr T none H H1 := Fr.ofExtN eN T1
  have s1 := s.called fr
  refine hr _ ex B P e σ H1 _ s1 ?_
  unfold evTold at q
  cases hf : f e with
  | bad => rw [hf] at q; exact q
  | exn n e1 =>
    rw [hf] at q
    have q : PostE K mg W T ex B P σ H Q (match told n with | some b => .ok (.fz (.tuple [.int 1, .str (if b = true then x1 else x2)])) e1 | none => .bad) := q
    intro cls H' hc x' s'
    cases ht : told n with
    | none => rw [ht] at q; exact False.elim q
    | some b =>
      rw [ht] at q
      obtain ⟨D, g1, g2, g3, g4⟩ := hcls n b ht
      rw [hc] at g1; cases g1
      refine ⟨D, b, rfl, rfl, g2, g3, g4, tupQ false fun p o hp htu => ?_⟩
      refine q _ _ ((fr.ext.trans x').trans (Chg.fresh o hp).ext) (s'.new hp o) ?_
      simp only [VRep, Fz]
      exact ⟨p, _, rfl, htu, .cons (by simp only [Fz]) (.cons (by simp only [Fz]) .nil)⟩
  | ok v e1 =>
    rw [hf] at q
    cases v with
    | ow d => exact False.elim q
    | fz d =>
      have q : PostE K mg W T ex B P σ H Q (match F [d] with | .ok (.fz d') => .ok (.fz (.tuple [.int 0, d'])) e1 | _ => .bad) := q
      intro y H2 x2 s2 r2
      refine ⟨[d], rfl, .cons r2 .nil, s2.fr.tab, ?_⟩
      cases hF : F [d] with
      | bad => rw [hF] at q; exact False.elim q
      | exn n => rw [hF] at q; exact False.elim q
      | ok w =>
        rw [hF] at q
        cases w with
        | ow d' => exact False.elim q
        | fz d' =>
          intro z H3 fr3 _ rz
          refine ⟨(by decide : 2 ≤ sizeLine), tupQ false fun p o hp htu => ?_⟩
          refine q _ _ (((fr.ext.trans x2).trans fr3.ext).trans (Chg.fresh o hp).ext) ((s2.called fr3).new hp o) ?_
          simp only [VRep, Fz]
          exact ⟨p, _, rfl, htu, .cons (by simp only [Fz]) (.cons (Fz.ext (Chg.fresh o hp).ext _ _ rz) .nil)⟩
end
end L3
set_option Elab.async false
set_option linter.all false
set_option maxRecDepth 100000
/-! L3Pre: what the printed derivations name. -/
namespace L3
open PySem PySem.Spec PyProof.Rows L2 LamX

section
variable {K : PySem.W.Frag}
theorem opf_add : OpF K (rI0 fun i j => .int (i + j)) gAdd := opf_I0
theorem opf_sub : OpF K (rI0 fun i j => .int (i - j)) gSub := opf_I0
theorem opf_and : OpF K (rI0 fun i j => .int (Builtin.bitAnd i j)) gAnd := opf_I0
def gLt := gB fun i j => decide (i < j)
def gLe := gB fun i j => decide (i ≤ j)
def gGt := gB fun i j => decide (j < i)
def gGe := gB fun i j => decide (j ≤ i)
theorem opf_lt : OpF K (rI0 fun i j => .bl (decide (i < j))) gLt := opf_B0
theorem opf_le : OpF K (rI0 fun i j => .bl (decide (i ≤ j))) gLe := opf_B0
theorem opf_gt : OpF K (rI0 fun i j => .bl (decide (j < i))) gGt := opf_B0
theorem opf_ge : OpF K (rI0 fun i j => .bl (decide (j ≤ i))) gGe := opf_B0
/-! is None, is True, is False -/
def rIsN : R2 := fun x y H Q => y = .non ∧ Q (.bl (decide (x = .non))) H
def gIsN : PyData → PyData → Option PyData
  | .none, .none => some (.bool true)
  | _, .none => some (.bool false)
  | _, _ => none
def rIsB : R2 := fun x y H Q => ∃ b : Bool, y = .bl b ∧ ((∃ i : Int, x = .int i) ∨ (∃ a : Addr, x = .ref a) ∨ (∃ c : Bool, x = .bl c) ∨ (∃ z : Str, x = .str z) ∨ x = .non) ∧ Q (.bl (decide (x = .bl b))) H
def gIsB : PyData → PyData → Option PyData
  | .bool c, .bool b => some (.bool (decide (c = b)))
  | _, .bool b => some (.bool false)
  | _, _ => none
theorem RepB.shape {H : Hp} {v : V} {d : PyData} (r : RepB K H v d) : (∃ i : Int, v = .int i ∧ d = .int i) ∨ (∃ a : Addr, v = .ref a ∧ d ≠ .none ∧ ∀ c, d ≠ .bool c) ∨ (∃ c : Bool, v = .bl c ∧ d = .bool c) ∨ (∃ z : Str, v = .str z ∧ d = .str z) ∨ (v = .non ∧ d = .none) := by
  cases d with
  | none => exact .inr (.inr (.inr (.inr ⟨r.none, rfl⟩)))
  | bool b => exact .inr (.inr (.inl ⟨b, r.bool, rfl⟩))
  | int i => exact .inl ⟨i, r.int, rfl⟩
  | str x => exact .inr (.inr (.inr (.inl ⟨x, r.str, rfl⟩)))
  | list ds => obtain ⟨a, xs, rfl, _⟩ := r.list; exact .inr (.inl ⟨a, rfl, (fun z => by cases z), fun c z => by cases z⟩)
  | tuple ds => obtain ⟨a, xs, rfl, _⟩ := r.tuple; exact .inr (.inl ⟨a, rfl, (fun z => by cases z), fun c z => by cases z⟩)
  | dict ds => obtain ⟨a, xs, rfl, _⟩ := r.dict; exact .inr (.inl ⟨a, rfl, (fun z => by cases z), fun c z => by cases z⟩)
theorem opf_isN : OpF K rIsN gIsN := by
  intro x y dx dy d H Q rx ry hg hn
  cases dy with
  | none =>
    refine ⟨ry.none, ?_⟩
    rcases rx.shape with ⟨i, rfl, rfl⟩ | ⟨a, rfl, h1, h2⟩ | ⟨c, rfl, rfl⟩ | ⟨z, rfl, rfl⟩ | ⟨rfl, rfl⟩
    · cases hg; exact hn.bool
    · cases dx <;> first | exact absurd rfl h1 | (cases hg; exact hn.bool)
    · cases hg; exact hn.bool
    · cases hg; exact hn.bool
    · cases hg; exact hn.bool
  | _ => cases dx <;> cases hg
theorem opf_isB : OpF K rIsB gIsB := by
  intro x y dx dy d H Q rx ry hg hn
  cases dy with
  | bool b =>
    refine ⟨b, ry.bool, ?_, ?_⟩
    · rcases rx.shape with ⟨i, h, _⟩ | ⟨a, h, _⟩ | ⟨c, h, _⟩ | ⟨z, h, _⟩ | ⟨h, _⟩
      · exact .inl ⟨i, h⟩
      · exact .inr (.inl ⟨a, h⟩)
      · exact .inr (.inr (.inl ⟨c, h⟩))
      · exact .inr (.inr (.inr (.inl ⟨z, h⟩)))
      · exact .inr (.inr (.inr (.inr h)))
    · rcases rx.shape with ⟨i, rfl, rfl⟩ | ⟨a, rfl, h1, h2⟩ | ⟨c, rfl, rfl⟩ | ⟨z, rfl, rfl⟩ | ⟨rfl, rfl⟩
      · cases hg; exact hn.bool
      · cases dx <;> first | exact absurd rfl (h2 _) | (cases hg; exact hn.bool)
      · cases hg
        have q := hn.bool
        rwa [show decide (V.bl c = V.bl b) = decide (c = b) by simp]
      · cases hg; exact hn.bool
      · cases hg; exact hn.bool
  | _ => cases dx <;> cases hg
end
theorem op_isB {X : Cx} : OpR X (compareOp .Is) rIsB := by
  intro pins s σ H x y v u Q I rx ry h
  obtain ⟨b, rfl, hx, q⟩ := h
  cases (show u = Value.bool b from ry)
  rcases hx with ⟨i, rfl⟩ | ⟨a, rfl⟩ | ⟨c, rfl⟩ | ⟨z, rfl⟩ | rfl
  · obtain ⟨t, rfl⟩ := rx
    exact wpAny_is_other rfl (fun z => by cases z) ⟨.bl false, H, I, rfl, by simpa using q⟩
  · cases rx
    exact wpAny_is_other rfl (fun z => by cases z) ⟨.bl false, H, I, rfl, by simpa using q⟩
  · exact L2.op_is_bl pins s σ H _ _ v _ Q I rx ry ⟨c, b, rfl, rfl, by simpa using q⟩
  · obtain ⟨t, rfl⟩ := rx
    exact wpAny_is_other rfl (fun z => by cases z) ⟨.bl false, H, I, rfl, by simpa using q⟩
  · cases rx
    exact wpAny_is_other rfl (fun z => by cases z) ⟨.bl false, H, I, rfl, by simpa using q⟩
theorem op_isN' {X : Cx} : OpR X (compareOp .Is) rIsN := op_isN
/-- so many arguments -/
def LenA (f : En → RA) (n : Nat) : Prop := ∀ e ds e', f e = .ok ds e' → ds.length = n
theorem lena_nil : LenA evNil 0 := fun e ds e' h => by cases h; rfl
theorem lena_cons {f : En → R} {g : En → RA} {n : Nat} (h : LenA g n) : LenA (evCons f g) (n + 1) := fun e ds e' q => by
  unfold evCons at q
  have step : ∀ d e1, ((g e1).bndA fun ds e2 => RA.ok (d :: ds) e2) = .ok ds e' → ds.length = n + 1 := fun d e1 q => by
    cases hg : g e1 with
    | bad => rw [hg] at q; cases q
    | exn c e2 => rw [hg] at q; cases q
    | ok ds1 e2 =>
      rw [hg] at q
      have q : RA.ok (d :: ds1) e2 = .ok ds e' := q
      cases q
      rw [List.length_cons, h e1 ds1 _ hg]
  cases hf : f e with
  | bad => rw [hf] at q; cases q
  | exn c e1 => rw [hf] at q; cases q
  | ok v e1 =>
    rw [hf] at q
    cases v with
    | fz d => exact step d e1 q
    | ow d => exact step d e1 q
theorem roomU1 {k : Nat} {A : Around} (r : Room k A) : A.units + 1 < cLine := by have := r.un; omega
theorem roomU3 {k : Nat} {A : Around} (r : Room k A) : A.units + 3 < cLine := by have := r.un; omega
theorem roomU64 {k : Nat} {A : Around} (r : Room k A) : A.units + 64 < cLine := by have := r.un; omega
theorem roomU128 {k : Nat} {A : Around} (r : Room k A) : A.units + 128 < cLine := by have := r.un; omega
section
variable {ι : Type} {X : ι → Cx} {K : PySem.W.Frag} {mg : Str → Option Value} {W : WX} {T : List (Addr × Str)}
theorem sndT_t {x : Expr} {f : En → R} (h : SndT X K mg W T x f) : SndT X K mg W T x (evT f) := let ⟨t, p, r⟩ := h; ⟨t, p, RdT.t r⟩
/-- as snd_lc, the comprehension named -/
theorem snd_lcE {elt tg iter : Expr} {ifs : List Expr} {scope : Scope} {pos : Pos} {own : List (Str × Nat)} {is : List Nat} {f : En → RA} {st : PyData → En → Option En} {ft fe : En → R} (hi : SndI X K mg W T tg iter f) (hg : SndG (blkF X scope) K tg st is) (ht : SndPT (blkF X scope) K mg T ifs ft) (he : SndD (blkF X scope) K mg W0 T elt fe)
    (his : ∀ i ∈ is, i ∈ own.map (·.2)) (mk : ∀ j wi g tt te, PI (X j) tg iter wi → (∀ s H C cl fp, PG ((X j).blk s H scope (compEnvC scope cl C (X j).env) fp) tg g) → (∀ s H C cl fp, PTs ((X j).blk s H scope (compEnvC scope cl C (X j).env) fp) ifs tt) → (∀ s H C cl fp, PE ((X j).blk s H scope (compEnvC scope cl C (X j).env) fp) elt te) → PE (X j) (.ListComp elt [⟨tg, iter, ifs, 0⟩] scope pos) (tLc wi g tt te (own.map (·.2)))) :
    SndE X K mg W T (.ListComp elt [⟨tg, iter, ifs, 0⟩] scope pos) (evComp f (own.map (·.2)) st ft fe) := snd_lc hi hg ht he his mk
end
/-- where a def of the text stands -/
structure DefAt (K : PySem.W.Frag) (mg : Str → Option Value) (x : Str) (st : Stmt) (ps : List Str) (f : Addr) (fd : FuncData) : Prop where
  fn : Fun K x x st f fd
  m : mg x = some (.ref f)
  k : PySem.W.keepIn K (.ref f) = true
  b : L2.Binds K fd ps []
/-- how the tests of an own class end -/
structure ExcAt (K : PySem.W.Frag) (mg : Str → Option Value) (x : Str) (C : Addr) : Prop where
  m : mg x = some (.ref C)
  k : PySem.W.keepIn K (.ref C) = true
  q : PySem.W.excIn K C [.type "ValueError", .type "Exception", .type "BaseException", .type "object"] "ValueError.__new__" = true
  s1 : PySem.W.subIn K (.ref C) (.type "BaseException") = some true
  s2 : PySem.W.typeIn K (.ref C) = some (.type "type")
end L3
set_option Elab.async false
set_option linter.all false
set_option maxRecDepth 100000
/-! L3Law: the law itself: its list is locked at the entry; a lambda that is told. -/
namespace L3
open PySem PySem.Spec PyProof.Rows L2 LamX

theorem pss_frz {X : Cx} {ss : List Stmt} {t : TS} (h : PSs X ss t) : PSs X ss (fun D σ H => t D σ H ∨ ∃ a u, H a = some u ∧ Ours u ∧ ∀ o, t D σ (upd H a (.frz o u))) := by
  refine ⟨fun pins s σ H D I hw => ?_⟩
  rcases hw with q | ⟨a, u, hu, ou, q⟩
  · exact h.run pins s σ H D I q
  · obtain ⟨od, I2⟩ := I.lock hu ou.mut
    exact h.run pins s σ _ D I2 (q od)
theorem FzAll.of_ints {K : PySem.W.Frag} {H : Hp} : ∀ ns : List Int, FzAll K H (ns.map .int) (ns.map V.int)
  | [] => .nil
  | n :: ns => .cons (by simp only [Fz]) (FzAll.of_ints ns)
def spLaw (K : PySem.W.Frag) (T : List (Addr × Str)) (F : List PyData → FRes) : Sp := fun vs H Q _ =>
  ∃ (a : Addr) (ns : List Int), vs = [.ref a] ∧ SqL K H a (ns.map V.int) ∧ Tabs T H ∧ F [.list (ns.map .int)] = .ok (.fz (.bool true)) ∧ ∀ H', Q (.bl true) H'
section
variable {P : Program} {w : World} {K : PySem.W.Frag} {mg : Str → Option Value} {base : Heap} {T : List (Addr × Str)}
theorem fn_L {x p : Str} {st : Stmt} {f c : Addr} {N : List Str} {k : Nat} {b : En → O} {dV kV doc pm ct oc : Value} {an od : Option Addr} {osl : Array (Option Value)}
    (lk : K.lookup f = some ⟨oc, od, .func (PySem.W.fnOf x x (defArgs st) (defBody st) (defScope st) dV kV doc pm an (.ref c) ct), osl⟩) (hcd : PySem.W.codeIn K (.ref c) x = true) (S : FnScope N [p] (defScope st)) (hN : 1 ≤ N.length)
    (hb : ∀ (A : Around) (outer : List Env) (s : Shared) (H : Hp) (E : XK), Room k (A.deeper (envOfC x (defScope st) s.heap.objs.size f (.ref c))) → SndSs (fun _ : Unit => cxF P w K mg base N x (defScope st) f (.ref c) A outer s H E) K mg (WD E) T (defBody st) b) :
    FnOk P w K mg base (L2.CX P w) (k + 1) f (PySem.W.fnOf x x (defArgs st) (defBody st) (defScope st) dV kV doc pm an (.ref c) ct) [p] (spLaw K T (runDef N.length b)) := by
  refine fn_of lk hcd S (fun vs H Q E h => ?_) fun A outer s H vs Q E hr h => ?_
  · obtain ⟨a, ns, rfl, _⟩ := h
    rfl
  · obtain ⟨t, pp, r⟩ := hb A outer s H E hr
    obtain ⟨a, ns, rfl, hS, ht, hF, hq⟩ := h
    refine ⟨_, pss_frz (pp ()), ?_⟩
    have key : ∀ H1, Tabs T H1 → FzL K H1 a (ns.map V.int) → t { nx := fun _ H' => Q .non H', rt := Q } (L2.start N [.ref a]) H1 := fun H1 t1 f1 => by
      refine r none H1 (env0 N.length [.list (ns.map .int)]) (L2.start N [.ref a]) H1 _ (sim_start (ds := [.list (ns.map .int)]) (.cons ?_ .nil) t1 (by simpa using hN)) ?_
      · simp only [Fz]
        exact ⟨a, _, rfl, f1, FzAll.of_ints ns⟩
      · unfold runDef at hF
        cases q : b (env0 N.length [.list (ns.map .int)]) with
        | nx e => rw [q] at hF; cases hF
        | ret v e =>
          rw [q] at hF
          cases hF
          intro y σ' H' x' s' ry
          have ry : y = .bl true := by simpa only [VRep, Fz] using ry
          rw [ry]
          exact hq H'
        | exn c e => rw [q] at hF; cases hF
        | brk e => rw [q] at hF; cases hF
        | cnt e => rw [q] at hF; cases hF
        | bad => rw [q] at hF; cases hF
    rcases hS with (h1 | ⟨o, h1⟩) | h1
    · exact .inr ⟨a, _, h1, .inl ⟨_, rfl⟩, fun o => key _ ((Chg.own (.frz o _) h1 (.inl ⟨_, rfl⟩)).tabs ht) (.inl ⟨o, upd_same⟩)⟩
    · exact .inl (key H ht (.inl ⟨o, h1⟩))
    · exact .inl (key H ht (.inr h1))
end
/-! ### lambdas -/
abbrev LamI (ι : Type) : Type := ι × Around × List Env × Shared × Hp × Addr × Addr
abbrev LamJ {ι : Type} (X : ι → Cx) (scope : Scope) (k : Nat) : Type := { p : LamI ι // Room k (p.2.1.deeper (lamEnv (X p.1) scope p.2.2.2.1.heap.objs.size p.2.2.2.2.2.1 p.2.2.2.2.2.2)) }
abbrev lamF {ι : Type} (X : ι → Cx) (scope : Scope) (k : Nat) (E : XK) : LamJ X scope k → Cx := fun p => lamCx (X p.1.1) p.1.2.1 p.1.2.2.1 p.1.2.2.2.1 p.1.2.2.2.2.1 E scope p.1.2.2.2.2.2.1 p.1.2.2.2.2.2.2
section
variable {ι : Type} {X : ι → Cx} {K : PySem.W.Frag} {mg : Str → Option Value} {W : WX} {T : List (Addr × Str)}
theorem lamF_takes {scope : Scope} {k : Nat} {E : XK} {i : LamJ X scope k} : Takes (lamF X scope k E i) (WD E) := takes_of rfl rfl rfl rfl
theorem lamF_room {scope : Scope} {k : Nat} {E : XK} {i : LamJ X scope k} : Room k (lamF X scope k E i).A := i.2
theorem snd_lamTold {c body : Expr} {scope : Scope} {k : Nat} {f : En → R} {F : List PyData → FRes} {told : Str → Option Bool} {CR CO : Addr} {x1 x2 : Str} (hf : ∀ E, SndE (lamF X scope k E) K mg (WD E) T body f)
    (mk : ∀ j (t : XK → TE), (∀ (A : Around) (outer : List Env) (s : Shared) (H : Hp) (E : XK) (f c' : Addr), Room k (A.deeper (lamEnv (X j) scope s.heap.objs.size f c')) → PE (lamCx (X j) A outer s H E scope f c') body (t E)) → PE (X j) c (tLam T (TToldR K CR CO x1 x2 (spF K mg T 1 F)) t))
    (hcls : ∀ (n : Str) (b : Bool), told n = some b → ∃ D : Addr, mg n = some (.ref D) ∧ PySem.W.exmOne K (.ref D) (.ref CR) = some true ∧ ExcC K D ∧ PySem.W.kitOne K (.ref D) (.ref CO) = some b) : SndE X K mg W T c (evTold told x1 x2 F f) :=
  snd_told (fun E => (hf E).choose) (fun E => (hf E).choose_spec.2) (fun j => mk j _ fun A outer s H E f c' hr => (hf E).choose_spec.1 ⟨(j, A, outer, s, H, f, c'), hr⟩) hcls
theorem snds_neverL {ss : List Stmt} : SndSs X K mg W T ss evNever := ⟨fun _ _ _ => False, fun _ => ⟨fun _ _ _ _ _ _ h => h.elim⟩, fun _ _ _ _ _ _ _ q => q⟩
end
section
variable {ι : Type} {X : ι → Cx} {K : PySem.W.Frag} {mg : Str → Option Value} {W : WX} {T : List (Addr × Str)}
theorem snd_appendE {i : Nat} {o ev : Expr} {apos cpos : Pos} {fv : En → R} (ho : ∀ j, PE (X j) o (tVar i)) (hv : SndD X K mg W T ev fv) (mk : ∀ j t, PA (X j) [ev] t → PE (X j) (.Call (.Attribute o "append" apos) [ev] [] cpos) (tBM K "list" rAppend (tVar i) t))
    (hs : ∀ j, starEach [ev] (X j).env = (false, eval ev (X j).env) :: starEach [] (X j).env := by intro _; rfl) : SndE X K mg W T (.Call (.Attribute o "append" apos) [ev] [] cpos) (evAppend i fv) := snd_append ho hv mk hs
end
/-! ### -n -/
def gNeg : PyData → Option PyData
  | .int i => some (.int (-i))
  | _ => none
theorem unf_neg {K : PySem.W.Frag} : UnF K (rU fun i => .int (-i)) gNeg := by
  intro x dx d H Q rx hg hn
  unfold gNeg at hg
  split at hg
  · cases hg
    exact ⟨_, rx.int, hn.int⟩
  · cases hg
def gMin2 : List PyData → Option PyData
  | [.int i, .int j] => some (.int (if j < i then j else i))
  | _ => none
theorem callf_min2 {K : PySem.W.Frag} : CallF K (fun xs H Q => ∃ i j, xs = [.int i, .int j] ∧ Q (.int (if j < i then j else i)) H) gMin2 := by
  intro vs ds d H Q h hg hn
  unfold gMin2 at hg
  split at hg
  · cases hg
    obtain ⟨y, z, rfl, ry, rz⟩ := h.two
    simp only [Fz] at ry rz
    subst ry; subst rz
    exact ⟨_, _, rfl, hn.int⟩
  · cases hg
end L3
set_option linter.all false
/-! EPlain: polynomials of some names as lists of exponents and numbers; products of the elementary ones: their leading exponents, that they are even-handed. No program in sight. -/
namespace EP
abbrev Mon := List Int
abbrev Pol := List (Mon × Int)
def keys (p : Pol) : List Mon := p.map (·.1)
def getP : Pol → Mon → Option Int
  | [], _ => none
  | q :: r, k => if q.1 = k then some q.2 else getP r k
def hasP (p : Pol) (k : Mon) : Bool := p.any fun q => decide (q.1 = k)
def putP (p : Pol) (k : Mon) (c : Int) : Pol := if hasP p k = true then p.map (fun q => if q.1 = k then (q.1, c) else q) else p ++ [(k, c)]
def cf (p : Pol) (k : Mon) : Int := (getP p k).getD 0
def addTo (p : Pol) (k : Mon) (c : Int) : Pol := putP p k (cf p k + c)
def addM (x y : Mon) : Mon := List.zipWith (· + ·) x y
def subM (x y : Mon) : Mon := List.zipWith (· - ·) x y
def cleanP (p : Pol) : Pol := p.filter fun q => decide (q.2 ≠ 0)
def mulIn (b : Pol) (q : Mon × Int) (acc : Pol) : Pol := b.foldl (fun acc r => addTo acc (addM q.1 r.1) (q.2 * r.2)) acc
def mulP (a b : Pol) : Pol := a.foldl (fun acc q => mulIn b q acc) []
def scale (c : Int) (p : Pol) : Pol := p.map fun q => (q.1, c * q.2)

theorem hasP_iff {p : Pol} {k : Mon} : hasP p k = true ↔ k ∈ keys p := by
  unfold hasP keys
  rw [List.any_eq_true, List.mem_map]
  constructor
  · rintro ⟨q, h1, h2⟩
    exact ⟨q, h1, of_decide_eq_true h2⟩
  · rintro ⟨q, h1, h2⟩
    exact ⟨q, h1, decide_eq_true h2⟩
theorem getP_none {p : Pol} {k : Mon} : getP p k = none ↔ k ∉ keys p := by
  induction p with
  | nil => simp [getP, keys]
  | cons q r ih =>
    unfold getP keys
    rw [List.map_cons, List.mem_cons]
    by_cases h : q.1 = k
    · simp [h]
    · rw [if_neg h, ih]
      unfold keys
      constructor
      · intro a b
        rcases b with b | b
        · exact h b.symm
        · exact a b
      · exact fun a b => a (.inr b)
theorem getP_mem {p : Pol} {k : Mon} {c : Int} (h : getP p k = some c) : (k, c) ∈ p := by
  induction p with
  | nil => cases h
  | cons q r ih =>
    unfold getP at h
    by_cases z : q.1 = k
    · rw [if_pos z] at h
      cases h
      rw [← z]
      exact List.mem_cons_self
    · rw [if_neg z] at h
      exact List.mem_cons_of_mem _ (ih h)
theorem getP_of_mem {p : Pol} {k : Mon} {c : Int} (nd : (keys p).Nodup) (h : (k, c) ∈ p) : getP p k = some c := by
  induction p with
  | nil => cases h
  | cons q r ih =>
    unfold keys at nd
    rw [List.map_cons, List.nodup_cons] at nd
    unfold getP
    rcases List.mem_cons.mp h with h | h
    · rw [← h]; simp
    · rw [if_neg]
      · exact ih nd.2 h
      · intro z
        exact nd.1 (List.mem_map.mpr ⟨_, h, z.symm⟩)
theorem cf_of_mem {p : Pol} {k : Mon} {c : Int} (nd : (keys p).Nodup) (h : (k, c) ∈ p) : cf p k = c := by unfold cf; rw [getP_of_mem nd h]; rfl
theorem cf_not {p : Pol} {k : Mon} (h : k ∉ keys p) : cf p k = 0 := by unfold cf; rw [getP_none.mpr h]; rfl
theorem mem_of_cf {p : Pol} {k : Mon} (h : cf p k ≠ 0) : (k, cf p k) ∈ p := by
  unfold cf at h ⊢
  cases q : getP p k with
  | none => rw [q] at h; exact absurd rfl h
  | some c => exact getP_mem q
theorem getP_append {p r : Pol} {k : Mon} : getP (p ++ r) k = (getP p k).or (getP r k) := by
  induction p with
  | nil => rfl
  | cons q p ih =>
    rw [List.cons_append]
    show (if q.1 = k then some q.2 else getP (p ++ r) k) = (if q.1 = k then some q.2 else getP p k).or (getP r k)
    by_cases h : q.1 = k
    · rw [if_pos h, if_pos h]; rfl
    · rw [if_neg h, if_neg h, ih]
theorem getP_map {p : Pol} {k x : Mon} {c : Int} : getP (p.map fun q => if q.1 = k then (q.1, c) else q) x = if x = k ∧ hasP p k = true then some c else getP p x := by
  induction p with
  | nil => simp [getP, hasP]
  | cons q r ih =>
    rw [List.map_cons]
    unfold getP
    rw [ih]
    by_cases h : q.1 = k
    · rw [if_pos h]
      by_cases hx : q.1 = x
      · have : hasP (q :: r) k = true := by unfold hasP; rw [List.any_cons, decide_eq_true h]; rfl
        rw [if_pos hx, if_pos ⟨by rw [← hx, h], this⟩]
      · have nx : ¬ x = k := fun z => hx (h.trans z.symm)
        rw [if_neg hx, if_neg hx]
        simp [nx]
    · rw [if_neg h]
      have e : hasP (q :: r) k = hasP r k := by unfold hasP; rw [List.any_cons, decide_eq_false h]; rfl
      rw [e]
      by_cases hx : q.1 = x
      · have nx : ¬ x = k := fun z => h (hx.trans z)
        rw [if_pos hx, if_pos hx]
        simp [nx]
      · rw [if_neg hx, if_neg hx]
theorem getP_put {p : Pol} {k x : Mon} {c : Int} : getP (putP p k c) x = if x = k then some c else getP p x := by
  unfold putP
  split
  · rename_i h
    rw [getP_map, h]
    simp
  · rename_i h
    rw [getP_append]
    by_cases z : x = k
    · subst z
      rw [if_pos rfl, getP_none.mpr (fun m => h (hasP_iff.mpr m))]
      simp [getP]
    · rw [if_neg z]
      have : getP [(k, c)] x = none := by unfold getP; rw [if_neg (fun e => z e.symm)]; rfl
      rw [this]
      cases getP p x <;> rfl
theorem cf_put {p : Pol} {k x : Mon} {c : Int} : cf (putP p k c) x = if x = k then c else cf p x := by
  unfold cf
  rw [getP_put]
  split <;> rfl
theorem cf_add {p : Pol} {k x : Mon} {c : Int} : cf (addTo p k c) x = cf p x + if x = k then c else 0 := by
  unfold addTo
  rw [cf_put]
  split
  · rename_i h; rw [h]
  · omega
theorem keys_put {p : Pol} {k : Mon} {c : Int} : keys (putP p k c) = if hasP p k = true then keys p else keys p ++ [k] := by
  unfold putP keys
  split
  · rw [List.map_map]
    apply List.map_congr_left
    intro q _
    show (if q.1 = k then (q.1, c) else q).1 = q.1
    split <;> rfl
  · rw [List.map_append]; rfl
theorem nodup_put {p : Pol} {k : Mon} {c : Int} (nd : (keys p).Nodup) : (keys (putP p k c)).Nodup := by
  rw [keys_put]
  split
  · exact nd
  · rename_i h
    rw [List.nodup_append]
    refine ⟨nd, by simp, fun a ha b hb => ?_⟩
    rw [List.mem_singleton] at hb
    subst hb
    intro z
    subst z
    exact h (hasP_iff.mpr ha)
theorem nodup_add {p : Pol} {k : Mon} {c : Int} (nd : (keys p).Nodup) : (keys (addTo p k c)).Nodup := nodup_put nd
theorem mem_put {p : Pol} {k : Mon} {c : Int} {q : Mon × Int} (h : q ∈ putP p k c) : q = (k, c) ∨ q ∈ p := by
  unfold putP at h
  split at h
  · obtain ⟨r, h1, h2⟩ := List.mem_map.mp h
    split at h2
    · rename_i z; subst h2; subst z; exact .inl rfl
    · subst h2; exact .inr h1
  · rcases List.mem_append.mp h with h | h
    · exact .inr h
    · exact .inl (List.mem_singleton.mp h)
/-! ### sums -/
def sumL {α : Type} (l : List α) (f : α → Int) : Int := (l.map f).sum
theorem sumL_nil {α : Type} (f : α → Int) : sumL [] f = 0 := rfl
theorem sumL_cons {α : Type} (a : α) (l : List α) (f : α → Int) : sumL (a :: l) f = f a + sumL l f := by unfold sumL; rw [List.map_cons, List.sum_cons]
theorem sumL_append {α : Type} (l m : List α) (f : α → Int) : sumL (l ++ m) f = sumL l f + sumL m f := by
  induction l with
  | nil => rw [List.nil_append, sumL_nil]; omega
  | cons a l ih => rw [List.cons_append, sumL_cons, sumL_cons, ih]; omega
theorem sumL_congr {α : Type} {l : List α} {f g : α → Int} (h : ∀ a ∈ l, f a = g a) : sumL l f = sumL l g := by
  unfold sumL
  rw [List.map_congr_left h]
theorem sumL_perm {α : Type} {l m : List α} {f : α → Int} (h : l.Perm m) : sumL l f = sumL m f := by
  induction h with
  | nil => rfl
  | cons a _ ih => rw [sumL_cons, sumL_cons, ih]
  | swap a b l => rw [sumL_cons, sumL_cons, sumL_cons, sumL_cons]; omega
  | trans _ _ h1 h2 => exact h1.trans h2
theorem sumL_add {α : Type} {l : List α} {f g : α → Int} : sumL l (fun a => f a + g a) = sumL l f + sumL l g := by
  induction l with
  | nil => rfl
  | cons a l ih => rw [sumL_cons, sumL_cons, sumL_cons, ih]; omega
theorem sumL_mul {α : Type} {l : List α} {f : α → Int} (c : Int) : sumL l (fun a => c * f a) = c * sumL l f := by
  induction l with
  | nil => simp [sumL_nil]
  | cons a l ih => rw [sumL_cons, sumL_cons, ih, Int.mul_add]
theorem sumL_zero {α : Type} {l : List α} {f : α → Int} (h : ∀ a ∈ l, f a = 0) : sumL l f = 0 := by
  induction l with
  | nil => rfl
  | cons a l ih => rw [sumL_cons, h a List.mem_cons_self, ih fun b hb => h b (List.mem_cons_of_mem _ hb)]; rfl
theorem sumL_swap {α β : Type} {l : List α} {m : List β} {f : α → β → Int} : sumL l (fun a => sumL m (f a)) = sumL m fun b => sumL l fun a => f a b := by
  induction l with
  | nil => rw [sumL_nil]; exact (sumL_zero fun _ _ => rfl).symm
  | cons a l ih =>
    rw [sumL_cons, ih, ← sumL_add]
    exact sumL_congr fun b _ => (sumL_cons a l (fun a => f a b)).symm
theorem sumL_le {α : Type} {l : List α} {f g : α → Int} (h : ∀ a ∈ l, f a ≤ g a) : sumL l f ≤ sumL l g := by
  induction l with
  | nil => exact Int.le_refl _
  | cons a l ih =>
    rw [sumL_cons, sumL_cons]
    have := h a List.mem_cons_self
    have := ih fun b hb => h b (List.mem_cons_of_mem _ hb)
    omega
theorem sumL_map {α β : Type} {l : List α} {g : α → β} {f : β → Int} : sumL (l.map g) f = sumL l fun a => f (g a) := by
  unfold sumL
  rw [List.map_map]; rfl
/-- one that is named once -/
theorem sumL_one {p : Pol} (nd : (keys p).Nodup) (k : Mon) : sumL p (fun q => if q.1 = k then q.2 else 0) = cf p k := by
  induction p with
  | nil => rfl
  | cons q r ih =>
    unfold keys at nd
    rw [List.map_cons, List.nodup_cons] at nd
    rw [sumL_cons]
    unfold cf getP
    by_cases h : q.1 = k
    · rw [if_pos h, if_pos h, sumL_zero fun a ha => if_neg fun z => nd.1 (List.mem_map.mpr ⟨a, ha, z.trans h.symm⟩)]
      show q.2 + 0 = q.2
      omega
    · rw [if_neg h, if_neg h, ih nd.2]
      unfold cf
      omega
/-! ### products -/
theorem cf_mulIn {b : Pol} {q : Mon × Int} {acc : Pol} {k : Mon} : cf (mulIn b q acc) k = cf acc k + sumL b fun r => if k = addM q.1 r.1 then q.2 * r.2 else 0 := by
  unfold mulIn
  induction b generalizing acc with
  | nil => rw [List.foldl_nil, sumL_nil]; omega
  | cons r b ih => rw [List.foldl_cons, ih, cf_add, sumL_cons]; omega
theorem cf_mulGo {a b : Pol} {acc : Pol} {k : Mon} : cf (a.foldl (fun acc q => mulIn b q acc) acc) k = cf acc k + sumL a fun q => sumL b fun r => if k = addM q.1 r.1 then q.2 * r.2 else 0 := by
  induction a generalizing acc with
  | nil => rw [List.foldl_nil, sumL_nil]; omega
  | cons q a ih => rw [List.foldl_cons, ih, cf_mulIn, sumL_cons]; omega
theorem cf_mulP {a b : Pol} {k : Mon} : cf (mulP a b) k = sumL a fun q => sumL b fun r => if k = addM q.1 r.1 then q.2 * r.2 else 0 := by
  unfold mulP
  rw [cf_mulGo]
  show 0 + _ = _
  omega
theorem nodup_mulIn {b : Pol} {q : Mon × Int} {acc : Pol} (h : (keys acc).Nodup) : (keys (mulIn b q acc)).Nodup := by
  unfold mulIn
  induction b generalizing acc with
  | nil => exact h
  | cons r b ih => rw [List.foldl_cons]; exact ih (nodup_add h)
theorem nodup_mulP {a b : Pol} : (keys (mulP a b)).Nodup := by
  have : ∀ acc : Pol, (keys acc).Nodup → (keys (a.foldl (fun acc q => mulIn b q acc) acc)).Nodup := by
    induction a with
    | nil => exact fun acc h => h
    | cons q a ih => intro acc h; rw [List.foldl_cons]; exact ih _ (nodup_mulIn h)
  exact this [] List.nodup_nil
/-- what is so of all sums, is so of all names of a product -/
theorem mem_mulP {a b : Pol} {P : Mon → Prop} (h : ∀ q ∈ a, ∀ r ∈ b, P (addM q.1 r.1)) : ∀ x ∈ mulP a b, P x.1 := by
  have inn : ∀ (q : Mon × Int) (b : Pol) (acc : Pol), (∀ r ∈ b, P (addM q.1 r.1)) → (∀ x ∈ acc, P x.1) → ∀ x ∈ mulIn b q acc, P x.1 := by
    intro q b
    induction b with
    | nil => exact fun acc _ h2 => h2
    | cons r b ih =>
      intro acc h1 h2
      unfold mulIn
      rw [List.foldl_cons]
      refine ih _ (fun r hr => h1 r (List.mem_cons_of_mem _ hr)) fun x hx => ?_
      rcases mem_put hx with rfl | hx
      · exact h1 r List.mem_cons_self
      · exact h2 x hx
  have out : ∀ (a : Pol) (acc : Pol), (∀ q ∈ a, ∀ r ∈ b, P (addM q.1 r.1)) → (∀ x ∈ acc, P x.1) → ∀ x ∈ a.foldl (fun acc q => mulIn b q acc) acc, P x.1 := by
    intro a
    induction a with
    | nil => exact fun acc _ h2 => h2
    | cons q a ih =>
      intro acc h1 h2
      rw [List.foldl_cons]
      exact ih _ (fun q hq => h1 q (List.mem_cons_of_mem _ hq)) (inn q b acc (h1 q List.mem_cons_self) h2)
  exact out a [] h fun x hx => by cases hx
theorem cf_nonneg {a : Pol} (h : ∀ x ∈ a, 0 < x.2) (k : Mon) : 0 ≤ cf a k := by
  unfold cf
  cases q : getP a k with
  | none => exact Int.le_refl _
  | some c => exact Int.le_of_lt (h _ (getP_mem q))
theorem pos_mulP {a b : Pol} (ha : ∀ x ∈ a, 0 < x.2) (hb : ∀ x ∈ b, 0 < x.2) : ∀ x ∈ mulP a b, 0 < x.2 := by
  have inn : ∀ (q : Mon × Int) (b : Pol) (acc : Pol), 0 < q.2 → (∀ r ∈ b, 0 < r.2) → (∀ x ∈ acc, 0 < x.2) → ∀ x ∈ mulIn b q acc, 0 < x.2 := by
    intro q b
    induction b with
    | nil => exact fun acc _ _ h2 => h2
    | cons r b ih =>
      intro acc h0 h1 h2
      unfold mulIn
      rw [List.foldl_cons]
      refine ih _ h0 (fun r hr => h1 r (List.mem_cons_of_mem _ hr)) fun x hx => ?_
      rcases mem_put hx with rfl | hx
      · have := cf_nonneg h2 (addM q.1 r.1)
        have := Int.mul_pos h0 (h1 r List.mem_cons_self)
        show 0 < cf acc (addM q.1 r.1) + q.2 * r.2
        omega
      · exact h2 x hx
  have out : ∀ (a : Pol) (acc : Pol), (∀ q ∈ a, 0 < q.2) → (∀ x ∈ acc, 0 < x.2) → ∀ x ∈ a.foldl (fun acc q => mulIn b q acc) acc, 0 < x.2 := by
    intro a
    induction a with
    | nil => exact fun acc _ h2 => h2
    | cons q a ih =>
      intro acc h1 h2
      rw [List.foldl_cons]
      exact ih _ (fun q hq => h1 q (List.mem_cons_of_mem _ hq)) (inn q b acc (h1 q List.mem_cons_self) hb h2)
  exact out a [] ha fun x hx => by cases hx
/-! ### times a number -/
theorem keys_scale {c : Int} {p : Pol} : keys (scale c p) = keys p := by unfold keys scale; rw [List.map_map]; rfl
theorem hasP_keys {p r : Pol} {k : Mon} (h : keys p = keys r) : hasP p k = hasP r k := by
  rw [Bool.eq_iff_iff, hasP_iff, hasP_iff, h]
theorem cf_scale {c : Int} {p : Pol} {k : Mon} : cf (scale c p) k = c * cf p k := by
  unfold cf scale
  induction p with
  | nil => simp [getP]
  | cons q r ih =>
    rw [List.map_cons]
    unfold getP
    by_cases h : q.1 = k
    · rw [if_pos h, if_pos h]; rfl
    · rw [if_neg h, if_neg h]; exact ih
theorem scale_put {c d : Int} {p : Pol} {k : Mon} : putP (scale c p) k (c * d) = scale c (putP p k d) := by
  unfold putP
  rw [hasP_keys keys_scale]
  split
  · unfold scale
    rw [List.map_map, List.map_map]
    apply List.map_congr_left
    intro q _
    show (if q.1 = k then (q.1, c * d) else (q.1, c * q.2)) = ((if q.1 = k then (q.1, d) else q).1, c * (if q.1 = k then (q.1, d) else q).2)
    split <;> rfl
  · unfold scale; rw [List.map_append]; rfl
theorem scale_add {c d : Int} {p : Pol} {k : Mon} : addTo (scale c p) k (c * d) = scale c (addTo p k d) := by
  unfold addTo
  rw [cf_scale, ← Int.mul_add, scale_put]
theorem scale_mulIn {c : Int} {b : Pol} {q : Mon × Int} {acc : Pol} : mulIn b (q.1, c * q.2) (scale c acc) = scale c (mulIn b q acc) := by
  unfold mulIn
  induction b generalizing acc with
  | nil => rfl
  | cons r b ih =>
    rw [List.foldl_cons, List.foldl_cons, ← ih]
    show b.foldl _ (addTo (scale c acc) (addM q.1 r.1) (c * q.2 * r.2)) = _
    rw [Int.mul_assoc, scale_add]
theorem scale_mulP {c : Int} {a b : Pol} : mulP (scale c a) b = scale c (mulP a b) := by
  have : ∀ acc : Pol, (scale c a).foldl (fun acc q => mulIn b q acc) (scale c acc) = scale c (a.foldl (fun acc q => mulIn b q acc) acc) := by
    induction a with
    | nil => exact fun acc => rfl
    | cons q a ih =>
      intro acc
      show (scale c a).foldl _ (mulIn b (q.1, c * q.2) (scale c acc)) = _
      rw [scale_mulIn, ih, List.foldl_cons]
  exact this []
theorem cleanP_id {p : Pol} (h : ∀ x ∈ p, x.2 ≠ 0) : cleanP p = p := by
  unfold cleanP
  rw [List.filter_eq_self]
  exact fun x hx => decide_eq_true (h x hx)
theorem keys_clean {p : Pol} (h : (keys p).Nodup) : (keys (cleanP p)).Nodup := by
  unfold keys cleanP at *
  exact List.Nodup.sublist (List.Sublist.map _ List.filter_sublist) h
theorem cf_clean {p : Pol} (nd : (keys p).Nodup) (k : Mon) : cf (cleanP p) k = cf p k := by
  by_cases h : cf p k = 0
  · rw [h]
    refine Classical.byContradiction fun z => ?_
    have m := mem_of_cf z
    have m2 := (List.mem_filter.mp m)
    have := cf_of_mem nd m2.1
    rw [h] at this
    exact z this.symm
  · have m := mem_of_cf h
    exact cf_of_mem (keys_clean nd) (List.mem_filter.mpr ⟨m, decide_eq_true h⟩)
theorem clean_nz {p : Pol} : ∀ x ∈ cleanP p, x.2 ≠ 0 := fun x hx => of_decide_eq_true (List.mem_filter.mp hx).2
/-! ### the order -/
def ltM : Mon → Mon → Bool
  | [], [] => false
  | [], _ :: _ => true
  | _ :: _, [] => false
  | x :: xs, y :: ys => if x = y then ltM xs ys else decide (x < y)
theorem ltM_irrefl : ∀ x : Mon, ltM x x = false
  | [] => rfl
  | x :: xs => by unfold ltM; rw [if_pos rfl]; exact ltM_irrefl xs
theorem ltM_total : ∀ x y : Mon, ltM x y = false → ltM y x = false → x = y
  | [], [], _, _ => rfl
  | [], _ :: _, h, _ => by cases h
  | _ :: _, [], _, h => by cases h
  | x :: xs, y :: ys, h1, h2 => by
    unfold ltM at h1 h2
    by_cases e : x = y
    · subst e
      rw [if_pos rfl] at h1 h2
      rw [ltM_total xs ys h1 h2]
    · rw [if_neg e] at h1
      rw [if_neg fun z => e z.symm] at h2
      have := of_decide_eq_false h1
      have := of_decide_eq_false h2
      omega
theorem ltM_trans : ∀ x y z : Mon, ltM x y = true → ltM y z = true → ltM x z = true
  | [], [], _, h, _ => by cases h
  | [], _ :: _, [], _, h => by cases h
  | [], _ :: _, _ :: _, _, _ => rfl
  | _ :: _, [], _, h, _ => by cases h
  | _ :: _, _ :: _, [], _, h => by cases h
  | x :: xs, y :: ys, z :: zs, h1, h2 => by
    unfold ltM at h1 h2 ⊢
    by_cases e1 : x = y
    · by_cases e2 : y = z
      · rw [if_pos e1] at h1; rw [if_pos e2] at h2; rw [if_pos (e1.trans e2)]
        exact ltM_trans xs ys zs h1 h2
      · rw [if_neg e2] at h2; rw [if_neg (by rw [e1]; exact e2), e1]; exact h2
    · by_cases e2 : y = z
      · rw [if_neg e1] at h1; rw [if_neg (by rw [← e2]; exact e1), ← e2]; exact h1
      · rw [if_neg e1] at h1; rw [if_neg e2] at h2
        have := of_decide_eq_true h1
        have := of_decide_eq_true h2
        rw [if_neg (by omega)]
        exact decide_eq_true (by omega)
theorem ltM_asymm {x y : Mon} (h : ltM x y = true) : ltM y x = false := by
  cases q : ltM y x with
  | false => rfl
  | true => have := ltM_trans x y x h q; rw [ltM_irrefl] at this; cases this
/-- what a sum less a lesser part leaves -/
theorem ltM_sub : ∀ (x y k r : Mon), x.length = y.length → k.length = y.length → r.length = y.length → ltM k (addM x y) = false → ltM y r = false → (ltM (addM x y) k = true ∨ ltM r y = true) → ltM x (subM k r) = true
  | [], [], [], [], _, _, _, _, _, h => by rcases h with h | h <;> cases h
  | [], _ :: _, _, _, h, _, _, _, _, _ => by cases h
  | _ :: _, [], _, _, h, _, _, _, _, _ => by cases h
  | [], [], _ :: _, _, _, h, _, _, _, _ => by cases h
  | [], [], [], _ :: _, _, _, h, _, _, _ => by cases h
  | _ :: _, _ :: _, [], _, _, h, _, _, _, _ => by cases h
  | _ :: _, _ :: _, _ :: _, [], _, _, h, _, _, _ => by cases h
  | x :: xs, y :: ys, k :: ks, r :: rs, h1, h2, h3, h4, h5, h6 => by
    unfold addM subM at *
    rw [List.zipWith_cons_cons] at *
    unfold ltM at h4 h5 h6 ⊢
    simp only [List.length_cons, Nat.add_right_cancel_iff] at h1 h2 h3
    by_cases e1 : k = x + y
    · rw [if_pos e1] at h4
      by_cases e2 : y = r
      · rw [if_pos e2] at h5
        rw [if_pos e1.symm, if_pos e2.symm] at h6
        rw [if_pos (by omega)]
        exact ltM_sub xs ys ks rs h1 h2 h3 h4 h5 h6
      · rw [if_neg e2] at h5
        have := of_decide_eq_false h5
        rw [if_neg (by omega)]
        exact decide_eq_true (by omega)
    · rw [if_neg e1] at h4
      have := of_decide_eq_false h4
      have : r ≤ y := by
        by_cases e2 : y = r
        · omega
        · rw [if_neg e2] at h5
          have := of_decide_eq_false h5
          omega
      rw [if_neg (by omega)]
      exact decide_eq_true (by omega)
theorem addM_length {x y : Mon} {n : Nat} (h1 : x.length = n) (h2 : y.length = n) : (addM x y).length = n := by unfold addM; rw [List.length_zipWith, h1, h2]; exact Nat.min_self n
theorem subM_length {x y : Mon} {n : Nat} (h1 : x.length = n) (h2 : y.length = n) : (subM x y).length = n := by unfold subM; rw [List.length_zipWith, h1, h2]; exact Nat.min_self n
theorem eq_addM : ∀ {k x y : Mon}, k.length = y.length → x.length = y.length → (k = addM x y ↔ x = subM k y)
  | [], [], [], _, _ => by simp [addM, subM]
  | [], _, _ :: _, h, _ => by cases h
  | _ :: _, _, [], h, _ => by cases h
  | [], _ :: _, [], _, h => by cases h
  | _ :: _, [], _ :: _, _, h => by cases h
  | k :: ks, x :: xs, y :: ys, h1, h2 => by
    simp only [List.length_cons, Nat.add_right_cancel_iff] at h1 h2
    have ih := eq_addM h1 h2
    unfold addM subM at *
    rw [List.zipWith_cons_cons, List.zipWith_cons_cons, List.cons.injEq, List.cons.injEq, ih]
    constructor <;> (rintro ⟨a, b⟩; exact ⟨by omega, b⟩)
theorem addM_sum : ∀ {x y : Mon}, x.length = y.length → (addM x y).sum = x.sum + y.sum
  | [], [], _ => rfl
  | [], _ :: _, h => by cases h
  | _ :: _, [], h => by cases h
  | x :: xs, y :: ys, h => by
    simp only [List.length_cons, Nat.add_right_cancel_iff] at h
    have ih := addM_sum h
    unfold addM at *
    rw [List.zipWith_cons_cons, List.sum_cons, List.sum_cons, List.sum_cons, ih]
    omega
theorem addM_nn : ∀ {x y : Mon}, (∀ z ∈ x, 0 ≤ z) → (∀ z ∈ y, 0 ≤ z) → ∀ z ∈ addM x y, 0 ≤ z
  | [], _, _, _, z, hz => by simp [addM] at hz
  | _ :: _, [], _, _, z, hz => by simp [addM] at hz
  | x :: xs, y :: ys, h1, h2, z, hz => by
    unfold addM at hz
    rw [List.zipWith_cons_cons] at hz
    rcases List.mem_cons.mp hz with rfl | hz
    · have := h1 x List.mem_cons_self
      have := h2 y List.mem_cons_self
      omega
    · exact addM_nn (fun z hz => h1 z (List.mem_cons_of_mem _ hz)) (fun z hz => h2 z (List.mem_cons_of_mem _ hz)) z hz
/-! ### exchanges of names -/
def act (s : List Int) (k : Mon) : Mon := s.map fun i => k.getD i.toNat 0
theorem getD_subM : ∀ {k r : Mon} {i : Nat}, k.length = r.length → (subM k r).getD i 0 = k.getD i 0 - r.getD i 0
  | [], [], i, _ => by simp [subM]
  | [], _ :: _, _, h => by cases h
  | _ :: _, [], _, h => by cases h
  | k :: ks, r :: rs, 0, _ => by simp [subM]
  | k :: ks, r :: rs, i + 1, h => by
    simp only [List.length_cons, Nat.add_right_cancel_iff] at h
    have := getD_subM (i := i) h
    unfold subM at *
    rw [List.zipWith_cons_cons]
    simpa using this
theorem act_subM {s : List Int} {k r : Mon} (h : k.length = r.length) : act s (subM k r) = subM (act s k) (act s r) := by
  unfold act
  induction s with
  | nil => rfl
  | cons i s ih =>
    rw [List.map_cons, List.map_cons, List.map_cons, ih, getD_subM h]
    rfl
def ordsGo (n : Nat) : Nat → List (List Int)
  | 0 => [[]]
  | m + 1 => (ordsGo n m).flatMap fun told => ((List.range n).filter fun (o : Nat) => !told.contains (o : Int)).map fun (o : Nat) => told ++ [(o : Int)]
def ords (n : Nat) : List (List Int) := ordsGo n n
/-! ### what is known of a product of e1 to en -/
structure Good (n : Nat) (w : Int) (x0 : Mon) (B : Int) (a : Pol) : Prop where
  nd : (keys a).Nodup
  len : ∀ q ∈ a, q.1.length = n
  nn : ∀ q ∈ a, ∀ z ∈ q.1, 0 ≤ z
  wt : ∀ q ∈ a, q.1.sum = w
  pos : ∀ q ∈ a, 0 < q.2
  bd : ∀ k, cf a k ≤ B
  top : cf a x0 = 1
  up : ∀ k, k.length = n → ltM x0 k = true → cf a k = 0
  sym : ∀ s ∈ ords n, ∀ k, k.length = n → cf a (act s k) = cf a k
  xl : x0.length = n
structure GoodE (n : Nat) (w : Int) (y0 : Mon) (B : Int) (e : Pol) : Prop where
  nd : (keys e).Nodup
  len : ∀ q ∈ e, q.1.length = n
  nn : ∀ q ∈ e, ∀ z ∈ q.1, 0 ≤ z
  wt : ∀ q ∈ e, q.1.sum = w
  pos : ∀ q ∈ e, 0 < q.2
  bd : sumL e (fun q => q.2) ≤ B
  top : cf e y0 = 1
  up : ∀ q ∈ e, ltM y0 q.1 = false
  sym : ∀ s ∈ ords n, (e.map fun q => (act s q.1, q.2)).Perm e
  xl : y0.length = n
theorem cf_mulE {n : Nat} {a e : Pol} {k : Mon} (nd : (keys a).Nodup) (la : ∀ q ∈ a, q.1.length = n) (le : ∀ q ∈ e, q.1.length = n) (lk : k.length = n) : cf (mulP a e) k = sumL e fun r => r.2 * cf a (subM k r.1) := by
  rw [cf_mulP, sumL_swap]
  refine sumL_congr fun r hr => ?_
  rw [← sumL_one nd, ← sumL_mul]
  refine sumL_congr fun q hq => ?_
  have l1 := la q hq
  have l2 := le r hr
  have := eq_addM (k := k) (x := q.1) (y := r.1) (by omega) (by omega)
  by_cases h : q.1 = subM k r.1
  · rw [if_pos h, if_pos (this.mpr h), Int.mul_comm]
  · rw [if_neg h, if_neg (fun z => h (this.mp z)), Int.mul_zero]
theorem act_length {n : Nat} {s : List Int} {k : Mon} (h : s.length = n) : (act s k).length = n := by unfold act; rw [List.length_map, h]
theorem ordsGo_length {n m : Nat} : ∀ s ∈ ordsGo n m, s.length = m := by
  induction m with
  | zero => intro s hs; unfold ordsGo at hs; rw [List.mem_singleton.mp hs]; rfl
  | succ m ih =>
    intro s hs
    unfold ordsGo at hs
    obtain ⟨t, ht, h⟩ := List.mem_flatMap.mp hs
    obtain ⟨o, _, rfl⟩ := List.mem_map.mp h
    rw [List.length_append, ih t ht]; rfl
theorem ords_length {n : Nat} {s : List Int} (h : s ∈ ords n) : s.length = n := ordsGo_length s h
theorem Good.mul {n : Nat} {w v B C : Int} {x0 y0 : Mon} {a e : Pol} (A : Good n w x0 B a) (E : GoodE n v y0 C e) (hB : 0 ≤ B) : Good n (w + v) (addM x0 y0) (B * C) (mulP a e) where
  nd := nodup_mulP
  len := mem_mulP (P := fun m => m.length = n) fun q hq r hr => addM_length (A.len q hq) (E.len r hr)
  nn := mem_mulP (P := fun m => ∀ z ∈ m, 0 ≤ z) fun q hq r hr => addM_nn (A.nn q hq) (E.nn r hr)
  wt := mem_mulP (P := fun m => m.sum = w + v) fun q hq r hr => by rw [addM_sum (by rw [A.len q hq, E.len r hr]), A.wt q hq, E.wt r hr]
  pos := pos_mulP A.pos E.pos
  xl := addM_length A.xl E.xl
  bd := fun k => by
    have key : cf (mulP a e) k ≤ B * C := by
      by_cases lk : k.length = n
      · rw [cf_mulE A.nd A.len E.len lk]
        refine Int.le_trans (sumL_le (g := fun r => B * r.2) fun r hr => ?_) ?_
        · rw [Int.mul_comm B]
          exact Int.mul_le_mul_of_nonneg_left (A.bd _) (Int.le_of_lt (E.pos r hr))
        · rw [sumL_mul]
          exact Int.mul_le_mul_of_nonneg_left E.bd hB
      · rw [cf_not]
        · have : 0 ≤ C := Int.le_trans (by
            refine Int.le_trans (Int.le_of_eq (sumL_zero (l := e) (f := fun _ => 0) fun _ _ => rfl).symm) (sumL_le fun r hr => Int.le_of_lt (E.pos r hr))) E.bd
          exact Int.mul_nonneg hB this
        · intro z
          obtain ⟨q, hq, rfl⟩ := List.mem_map.mp z
          exact lk (mem_mulP (P := fun m => m.length = n) (fun q hq r hr => addM_length (A.len q hq) (E.len r hr)) q hq)
    exact key
  top := by
    rw [cf_mulE A.nd A.len E.len (addM_length A.xl E.xl), ← E.top, ← sumL_one E.nd]
    refine sumL_congr fun r hr => ?_
    have lr := E.len r hr
    by_cases h : r.1 = y0
    · rw [if_pos h, h, show subM (addM x0 y0) y0 = x0 from ((eq_addM (k := addM x0 y0) (x := x0) (y := y0) (by rw [addM_length A.xl E.xl, E.xl]) (by rw [A.xl, E.xl])).mp rfl).symm, A.top, Int.mul_one]
    · rw [if_neg h, A.up _ (subM_length (addM_length A.xl E.xl) lr), Int.mul_zero]
      refine ltM_sub x0 y0 _ r.1 (by rw [A.xl, E.xl]) (by rw [addM_length A.xl E.xl, E.xl]) (by rw [lr, E.xl]) (ltM_irrefl _) (E.up r hr) (.inr ?_)
      cases z : ltM r.1 y0 with
      | true => rfl
      | false => exact absurd (ltM_total _ _ z (E.up r hr)) h
  up := fun k lk hk => by
    rw [cf_mulE A.nd A.len E.len lk]
    refine sumL_zero fun r hr => ?_
    rw [A.up _ (subM_length lk (E.len r hr)), Int.mul_zero]
    exact ltM_sub x0 y0 k r.1 (by rw [A.xl, E.xl]) (by rw [lk, E.xl]) (by rw [E.len r hr, E.xl]) (ltM_asymm hk) (E.up r hr) (.inl hk)
  sym := fun s hs k lk => by
    have ls := ords_length hs
    rw [cf_mulE A.nd A.len E.len (act_length ls), cf_mulE A.nd A.len E.len lk, ← sumL_perm (E.sym s hs), sumL_map]
    refine sumL_congr fun r hr => ?_
    show r.2 * cf a (subM (act s k) (act s r.1)) = _
    rw [← act_subM (by rw [lk, E.len r hr]), A.sym s hs _ (subM_length lk (E.len r hr))]
end EP
set_option linter.all false
set_option maxRecDepth 100000
/-! EPlain2: e1 to en, their products by exponents; the steps of the search. -/
namespace EP
def eP (n j : Nat) : Pol := (((List.range (2 ^ n)).map fun mask => (List.range n).map fun k => (((mask / 2 ^ k % 2 : Nat)) : Int)).filter fun m => decide (m.sum = (j : Int))).map fun m => (m, 1)
def yy (n j : Nat) : Mon := List.replicate j 1 ++ List.replicate (n - j) 0
theorem goodE : ∀ n ∈ [1, 2, 3, 4], ∀ j ∈ List.range n, GoodE n ((j + 1 : Nat) : Int) (yy n (j + 1)) 6 (eP n (j + 1)) := by
  have h1 : ∀ n ∈ [1, 2, 3, 4], ∀ j ∈ List.range n, (keys (eP n (j + 1))).Nodup := by decide +kernel
  have h2 : ∀ n ∈ [1, 2, 3, 4], ∀ j ∈ List.range n, ∀ q ∈ eP n (j + 1), q.1.length = n := by decide +kernel
  have h3 : ∀ n ∈ [1, 2, 3, 4], ∀ j ∈ List.range n, ∀ q ∈ eP n (j + 1), ∀ z ∈ q.1, 0 ≤ z := by decide +kernel
  have h4 : ∀ n ∈ [1, 2, 3, 4], ∀ j ∈ List.range n, ∀ q ∈ eP n (j + 1), q.1.sum = ((j + 1 : Nat) : Int) := by decide +kernel
  have h5 : ∀ n ∈ [1, 2, 3, 4], ∀ j ∈ List.range n, ∀ q ∈ eP n (j + 1), 0 < q.2 := by decide +kernel
  have h6 : ∀ n ∈ [1, 2, 3, 4], ∀ j ∈ List.range n, sumL (eP n (j + 1)) (fun q => q.2) ≤ 6 := by decide +kernel
  have h7 : ∀ n ∈ [1, 2, 3, 4], ∀ j ∈ List.range n, cf (eP n (j + 1)) (yy n (j + 1)) = 1 := by decide +kernel
  have h8 : ∀ n ∈ [1, 2, 3, 4], ∀ j ∈ List.range n, ∀ q ∈ eP n (j + 1), ltM (yy n (j + 1)) q.1 = false := by decide +kernel
  have h9 : ∀ n ∈ [1, 2, 3, 4], ∀ j ∈ List.range n, ∀ s ∈ ords n, ((eP n (j + 1)).map fun q => (act s q.1, q.2)).Perm (eP n (j + 1)) := by decide +kernel
  have h10 : ∀ n ∈ [1, 2, 3, 4], ∀ j ∈ List.range n, (yy n (j + 1)).length = n := by decide +kernel
  exact fun n hn j hj => ⟨h1 n hn j hj, h2 n hn j hj, h3 n hn j hj, h4 n hn j hj, h5 n hn j hj, h6 n hn j hj, h7 n hn j hj, h8 n hn j hj, h9 n hn j hj, h10 n hn j hj⟩
theorem ords_all : ∀ n ∈ [1, 2, 3, 4], ∀ s ∈ ords n, ∀ i ∈ List.range n, ((i : Nat) : Int) ∈ s := by decide +kernel
def zz (n : Nat) : Mon := List.replicate n 0
theorem eq_zz {n : Nat} {k : Mon} (h : k.length = n) : k = zz n ↔ ∀ i ∈ List.range n, k.getD i 0 = 0 := by
  constructor
  · intro e i _
    subst e
    unfold zz
    rw [List.getD_eq_getElem?_getD, List.getElem?_replicate]
    split <;> rfl
  · intro e
    unfold zz
    rw [List.eq_replicate_iff]
    refine ⟨h, fun b hb => ?_⟩
    obtain ⟨i, hi, rfl⟩ := List.getElem_of_mem hb
    have := e i (by rw [List.mem_range]; omega)
    rw [List.getD_eq_getElem?_getD, List.getElem?_eq_getElem hi] at this
    exact this
theorem act_zz {n : Nat} (hn : n ∈ [1, 2, 3, 4]) {s : List Int} (hs : s ∈ ords n) {k : Mon} (lk : k.length = n) : act s k = zz n ↔ k = zz n := by
  constructor
  · intro h
    rw [eq_zz lk]
    intro i hi
    have : k.getD (i : Nat) 0 ∈ act s k := List.mem_map.mpr ⟨_, ords_all n hn s hs i hi, rfl⟩
    rw [h] at this
    exact (List.mem_replicate.mp this).2
  · intro h
    unfold zz
    rw [List.eq_replicate_iff]
    refine ⟨act_length (ords_length hs), fun b hb => ?_⟩
    obtain ⟨i, _, rfl⟩ := List.mem_map.mp hb
    subst h
    unfold zz
    rw [List.getD_eq_getElem?_getD, List.getElem?_replicate]
    split <;> rfl
theorem good0 {n : Nat} (hn : n ∈ [1, 2, 3, 4]) : Good n 0 (zz n) 1 [(zz n, 1)] where
  nd := by simp [keys]
  len := fun q hq => by rw [List.mem_singleton.mp hq]; unfold zz; simp
  nn := fun q hq z hz => by rw [List.mem_singleton.mp hq] at hz; rw [(List.mem_replicate.mp hz).2]; exact Int.le_refl _
  wt := fun q hq => by
    rw [List.mem_singleton.mp hq]
    unfold zz
    clear hn hq
    induction n with
    | zero => rfl
    | succ n ih => rw [List.replicate_succ, List.sum_cons, ih]; rfl
  pos := fun q hq => by rw [List.mem_singleton.mp hq]; exact (by decide : (0 : Int) < 1)
  bd := fun k => by
    unfold cf getP
    split
    · exact (by decide : (1 : Int) ≤ 1)
    · exact (by decide : (0 : Int) ≤ 1)
  top := by unfold cf getP; rw [if_pos rfl]; rfl
  up := fun k _ h => by
    unfold cf getP
    rw [if_neg fun z => ?_]
    · rfl
    · have z : zz n = k := z
      rw [z, ltM_irrefl] at h; cases h
  sym := fun s hs k lk => by
    have e := act_zz hn hs lk
    unfold cf getP
    by_cases h : k = zz n
    · rw [if_pos (e.mpr h).symm, if_pos h.symm]
    · rw [if_neg fun z => h (e.mp z.symm), if_neg fun z => h z.symm]
      rfl
  xl := by unfold zz; simp
def mulPow (e : Pol) : Nat → Pol → Pol
  | 0, a => a
  | o + 1, a => mulPow e o (mulP a e)
def addPow (y : Mon) : Nat → Mon → Mon
  | 0, x => x
  | o + 1, x => addPow y o (addM x y)
theorem good_pow {n : Nat} {v : Int} {y0 : Mon} {e : Pol} (E : GoodE n v y0 6 e) : ∀ (o : Nat) {w B : Int} {x0 : Mon} {a : Pol}, Good n w x0 B a → 0 ≤ B → Good n (w + o * v) (addPow y0 o x0) (B * 6 ^ o) (mulPow e o a)
  | 0, w, B, x0, a, A, hB => by
    rw [show w + ((0 : Nat) : Int) * v = w by simp, Int.pow_zero, Int.mul_one]
    exact A
  | o + 1, w, B, x0, a, A, hB => by
    have := good_pow E o (A.mul E hB) (by omega)
    rw [Int.mul_assoc, show (6 : Int) * 6 ^ o = 6 ^ (o + 1) by rw [Int.pow_succ, Int.mul_comm]] at this
    rw [show w + ((o + 1 : Nat) : Int) * v = w + v + o * v by rw [show ((o + 1 : Nat) : Int) = o + 1 by omega, Int.add_mul]; omega]
    exact this
def chainFrom (n : Nat) : Nat → Mon → Pol → Pol
  | _, [], a => a
  | j, o :: r, a => chainFrom n (j + 1) r (mulPow (eP n (j + 1)) o.toNat a)
def topFrom (n : Nat) : Nat → Mon → Mon → Mon
  | _, [], x => x
  | j, o :: r, x => topFrom n (j + 1) r (addPow (yy n (j + 1)) o.toNat x)
def wtFrom : Nat → Mon → Int
  | _, [] => 0
  | j, o :: r => o * ((j + 1 : Nat) : Int) + wtFrom (j + 1) r
def expo : Mon → Nat
  | [] => 0
  | o :: r => o.toNat + expo r
def EE (n : Nat) (t : Mon) : Pol := chainFrom n 0 t [(zz n, 1)]
def LL (n : Nat) (t : Mon) : Mon := topFrom n 0 t (zz n)
theorem good_chain {n : Nat} (hn : n ∈ [1, 2, 3, 4]) : ∀ (t : Mon) {j : Nat} {w B : Int} {x0 : Mon} {a : Pol}, j + t.length = n → (∀ z ∈ t, 0 ≤ z) → Good n w x0 B a → 0 ≤ B → Good n (w + wtFrom j t) (topFrom n j t x0) (B * 6 ^ expo t) (chainFrom n j t a)
  | [], j, w, B, x0, a, _, _, A, _ => by
    unfold wtFrom topFrom chainFrom expo
    rw [Int.add_zero, Int.pow_zero, Int.mul_one]
    exact A
  | o :: r, j, w, B, x0, a, hl, hz, A, hB => by
    unfold wtFrom topFrom chainFrom expo
    rw [List.length_cons] at hl
    have E := goodE n hn j (by rw [List.mem_range]; omega)
    have := good_chain hn r (j := j + 1) (by omega) (fun z hz' => hz z (List.mem_cons_of_mem _ hz')) (good_pow E o.toNat A hB) (Int.mul_nonneg hB (Int.pow_nonneg (by decide)))
    rw [Int.toNat_of_nonneg (hz o List.mem_cons_self), Int.mul_assoc, ← Int.pow_add] at this
    rw [← Int.add_assoc]
    exact this
theorem good_EE {n : Nat} (hn : n ∈ [1, 2, 3, 4]) {t : Mon} (l : t.length = n) (hz : ∀ z ∈ t, 0 ≤ z) : Good n (wtFrom 0 t) (LL n t) (6 ^ expo t) (EE n t) := by
  have := good_chain hn t (j := 0) (by omega) hz (good0 hn) (by decide)
  rw [Int.zero_add, Int.one_mul] at this
  exact this
theorem expo_le : ∀ {t : Mon} {j : Nat}, (∀ z ∈ t, 0 ≤ z) → (expo t : Int) ≤ wtFrom j t
  | [], j, _ => by unfold expo wtFrom; decide
  | o :: r, j, h => by
    unfold expo wtFrom
    have := expo_le (t := r) (j := j + 1) fun z hz => h z (List.mem_cons_of_mem _ hz)
    have h0 := h o List.mem_cons_self
    have : (o.toNat : Int) ≤ o * ((j + 1 : Nat) : Int) := by
      rw [Int.toNat_of_nonneg h0]
      have := Int.mul_le_mul_of_nonneg_left (show (1 : Int) ≤ ((j + 1 : Nat) : Int) by omega) h0
      omega
    omega
/-! ### from the leading exponents back -/
def placeM (n : Nat) (k : Mon) : Mon := (List.range n).map fun i => k.getD i 0 - if i + 1 < n then k.getD (i + 1) 0 else 0
theorem addPow_eq : ∀ (o : Nat) (y x : Mon), x.length = y.length → addPow y o x = List.zipWith (fun a b : Int => a + (o : Int) * b) x y
  | 0, y, x, h => by
    unfold addPow
    induction x generalizing y with
    | nil => rfl
    | cons a x ih =>
      cases y with
      | nil => cases h
      | cons b y =>
        rw [List.zipWith_cons_cons, ← ih y (by simpa using h)]
        simp
  | o + 1, y, x, h => by
    unfold addPow
    rw [addPow_eq o y _ (by rw [addM_length h rfl])]
    induction x generalizing y with
    | nil => rfl
    | cons a x ih =>
      cases y with
      | nil => cases h
      | cons b y =>
        unfold addM at *
        rw [List.zipWith_cons_cons, List.zipWith_cons_cons, List.zipWith_cons_cons, ih y (by simpa using h)]
        congr 1
        rw [show ((o + 1 : Nat) : Int) = o + 1 by omega, Int.add_mul]
        omega
theorem place_LL {n : Nat} (hn : n ∈ [1, 2, 3, 4]) {t : Mon} (l : t.length = n) (hz : ∀ z ∈ t, 0 ≤ z) : placeM n (LL n t) = t := by
  simp only [List.mem_cons, List.not_mem_nil, or_false] at hn
  rcases hn with rfl | rfl | rfl | rfl
  · obtain ⟨a, rfl⟩ := List.length_eq_one_iff.mp l
    have ha := Int.toNat_of_nonneg (hz a (by simp))
    simp [LL, topFrom, zz, yy, addPow_eq, placeM, List.range_succ, ha]
  · match t, l with
    | [a, b], _ =>
      have ha := Int.toNat_of_nonneg (hz a (by simp))
      have hb := Int.toNat_of_nonneg (hz b (by simp))
      simp [LL, topFrom, zz, yy, addPow_eq, placeM, List.range_succ, ha, hb] <;> omega
  · match t, l with
    | [a, b, c], _ =>
      have ha := Int.toNat_of_nonneg (hz a (by simp))
      have hb := Int.toNat_of_nonneg (hz b (by simp))
      have hc := Int.toNat_of_nonneg (hz c (by simp))
      simp [LL, topFrom, zz, yy, addPow_eq, placeM, List.range_succ, ha, hb, hc] <;> omega
  · match t, l with
    | [a, b, c, d], _ =>
      have ha := Int.toNat_of_nonneg (hz a (by simp))
      have hb := Int.toNat_of_nonneg (hz b (by simp))
      have hc := Int.toNat_of_nonneg (hz c (by simp))
      have hd := Int.toNat_of_nonneg (hz d (by simp))
      simp [LL, topFrom, zz, yy, addPow_eq, placeM, List.range_succ, ha, hb, hc, hd] <;> omega
/-! ### a sum of such, and its greatest exponents -/
structure TermsOk (n : Nat) (S : Pol) : Prop where
  len : ∀ q ∈ S, q.1.length = n
  nn : ∀ q ∈ S, ∀ z ∈ q.1, 0 ≤ z
  nz : ∀ q ∈ S, q.2 ≠ 0
def IsSum (n : Nat) (left S : Pol) : Prop := ∀ k, cf left k = sumL S fun q => q.2 * cf (EE n q.1) k
def leL (n : Nat) (p q : Mon × Int) : Bool := !ltM (LL n p.1) (LL n q.1)
theorem cf_len {n : Nat} {a : Pol} {k : Mon} (h : ∀ q ∈ a, q.1.length = n) (z : cf a k ≠ 0) : k.length = n := h _ (mem_of_cf z)
theorem sumL_ne {α : Type} {l : List α} {f : α → Int} (h : sumL l f ≠ 0) : ∃ a ∈ l, f a ≠ 0 := Classical.byContradiction fun z => h (sumL_zero fun a ha => Classical.byContradiction fun y => z ⟨a, ha, y⟩)
theorem IsSum.mem {n : Nat} (hn : n ∈ [1, 2, 3, 4]) {left S : Pol} (o : TermsOk n S) (nd : (keys left).Nodup) (nz : ∀ x ∈ left, x.2 ≠ 0) (h : IsSum n left S) {x : Mon × Int} (hx : x ∈ left) : ∃ q ∈ S, x.1 ∈ keys (EE n q.1) := by
  have e := cf_of_mem nd (k := x.1) (c := x.2) hx
  have : cf left x.1 ≠ 0 := by rw [e]; exact nz x hx
  rw [h] at this
  obtain ⟨q, hq, hne⟩ := sumL_ne this
  refine ⟨q, hq, Classical.byContradiction fun z => hne ?_⟩
  rw [cf_not z, Int.mul_zero]
theorem IsSum.all {n : Nat} (hn : n ∈ [1, 2, 3, 4]) {left S : Pol} (o : TermsOk n S) (nd : (keys left).Nodup) (nz : ∀ x ∈ left, x.2 ≠ 0) (h : IsSum n left S) {x : Mon × Int} (hx : x ∈ left) :
    x.1.length = n ∧ (∀ z ∈ x.1, 0 ≤ z) ∧ ∃ q ∈ S, x.1.sum = wtFrom 0 q.1 := by
  obtain ⟨q, hq, hm⟩ := h.mem hn o nd nz hx
  have G := good_EE hn (o.len q hq) (o.nn q hq)
  obtain ⟨y, hy, e⟩ := List.mem_map.mp hm
  rw [← e]
  exact ⟨G.len y hy, G.nn y hy, q, hq, G.wt y hy⟩
theorem IsSum.symm {n : Nat} (hn : n ∈ [1, 2, 3, 4]) {left S : Pol} (o : TermsOk n S) (h : IsSum n left S) {s : List Int} (hs : s ∈ ords n) {k : Mon} (lk : k.length = n) : cf left (act s k) = cf left k := by
  rw [h, h]
  refine sumL_congr fun q hq => ?_
  rw [(good_EE hn (o.len q hq) (o.nn q hq)).sym s hs k lk]
theorem IsSum.top {n : Nat} (hn : n ∈ [1, 2, 3, 4]) {left S : Pol} {q : Mon × Int} (o : TermsOk n (q :: S)) (lt : ∀ r ∈ S, ltM (LL n r.1) (LL n q.1) = true) (nd : (keys left).Nodup) (nz : ∀ x ∈ left, x.2 ≠ 0) (h : IsSum n left (q :: S)) :
    (LL n q.1, q.2) ∈ left ∧ ∀ x ∈ left, ltM (LL n q.1) x.1 = false := by
  have G := good_EE hn (o.len q List.mem_cons_self) (o.nn q List.mem_cons_self)
  have e : cf left (LL n q.1) = q.2 := by
    rw [h, sumL_cons, G.top, sumL_zero fun r hr => ?_]
    · omega
    · rw [(good_EE hn (o.len r (List.mem_cons_of_mem _ hr)) (o.nn r (List.mem_cons_of_mem _ hr))).up _ G.xl (lt r hr), Int.mul_zero]
  have ne := o.nz q List.mem_cons_self
  refine ⟨?_, fun x hx => ?_⟩
  · have := mem_of_cf (p := left) (k := LL n q.1) (by rw [e]; exact ne)
    rw [e] at this
    exact this
  · cases z : ltM (LL n q.1) x.1 with
    | false => rfl
    | true =>
      exfalso
      have e2 := cf_of_mem nd (k := x.1) (c := x.2) hx
      have ne2 := nz x hx
      have lx := (h.all hn o nd nz hx).1
      rw [← e2, h] at ne2
      refine ne2 (sumL_zero fun r hr => ?_)
      have Gr := good_EE hn (o.len r hr) (o.nn r hr)
      rcases List.mem_cons.mp hr with e | hr'
      · rw [e, G.up _ lx z, Int.mul_zero]
      · rw [Gr.up _ lx (ltM_trans _ _ _ (lt r hr') z), Int.mul_zero]
def subIn (left whole : Pol) : Pol := whole.foldl (fun acc r => putP acc r.1 (cf acc r.1 - r.2)) left
theorem cf_subIn {whole : Pol} : ∀ {left : Pol} {k : Mon}, cf (subIn left whole) k = cf left k - sumL whole fun r => if r.1 = k then r.2 else 0 := by
  unfold subIn
  induction whole with
  | nil => intro left k; rw [List.foldl_nil, sumL_nil]; omega
  | cons r w ih =>
    intro left k
    rw [List.foldl_cons, ih, cf_put, sumL_cons]
    by_cases h : k = r.1
    · rw [if_pos h, if_pos h.symm, h]; omega
    · rw [if_neg h, if_neg fun z => h z.symm]; omega
theorem nodup_subIn {whole : Pol} : ∀ {left : Pol}, (keys left).Nodup → (keys (subIn left whole)).Nodup := by
  unfold subIn
  induction whole with
  | nil => exact fun h => h
  | cons r w ih => intro left h; rw [List.foldl_cons]; exact ih (nodup_put h)
theorem IsSum.next {n : Nat} (hn : n ∈ [1, 2, 3, 4]) {left S : Pol} {q : Mon × Int} (o : TermsOk n (q :: S)) (nd : (keys left).Nodup) (h : IsSum n left (q :: S)) : IsSum n (cleanP (subIn left (scale q.2 (EE n q.1)))) S := by
  intro k
  have G := good_EE hn (o.len q List.mem_cons_self) (o.nn q List.mem_cons_self)
  rw [cf_clean (nodup_subIn nd), cf_subIn, sumL_one (by rw [keys_scale]; exact G.nd), cf_scale, h, sumL_cons]
  omega
theorem IsSum.none {n : Nat} {left : Pol} (nd : (keys left).Nodup) (nz : ∀ x ∈ left, x.2 ≠ 0) (h : IsSum n left []) : left = [] := by
  cases left with
  | nil => rfl
  | cons x r =>
    have := nz x List.mem_cons_self
    rw [← cf_of_mem nd (k := x.1) (c := x.2) List.mem_cons_self, h] at this
    exact absurd rfl this
/-- the greatest one -/
def maxM (x : Mon) (xs : List Mon) : Mon := xs.foldl (fun a y => if ltM a y = true then y else a) x
theorem maxM_eq {m : Mon} : ∀ {xs : List Mon} {x : Mon}, m ∈ x :: xs → (∀ y ∈ x :: xs, ltM m y = false) → maxM x xs = m
  | [], x, h1, h2 => (List.mem_singleton.mp h1).symm
  | y :: xs, x, h1, h2 => by
    unfold maxM
    rw [List.foldl_cons]
    refine maxM_eq (xs := xs) ?_ ?_
    · by_cases h : ltM x y = true
      · rw [if_pos h]
        rcases List.mem_cons.mp h1 with e | h1
        · subst e
          rw [h2 y (by simp)] at h; cases h
        · exact h1
      · rw [if_neg h]
        rcases List.mem_cons.mp h1 with e | h1
        · exact List.mem_cons.mpr (.inl e)
        · rcases List.mem_cons.mp h1 with e | h1
          · subst e
            have hx := h2 x List.mem_cons_self
            have h : ltM x m = false := by cases q : ltM x m with | true => exact absurd q h | false => rfl
            rw [ltM_total _ _ hx h]
            exact List.mem_cons_self
          · exact List.mem_cons_of_mem _ h1
    · intro z hz
      rcases List.mem_cons.mp hz with e | hz
      · subst e
        split
        · exact h2 y (by simp)
        · exact h2 x (by simp)
      · exact h2 z (List.mem_cons_of_mem _ (List.mem_cons_of_mem _ hz))
/-- the terms in the order in which they are found -/
theorem leL_trans {n : Nat} (a b c : Mon × Int) (h1 : leL n a b = true) (h2 : leL n b c = true) : leL n a c = true := by
  unfold leL at *
  cases q : ltM (LL n a.1) (LL n c.1) with
  | false => rfl
  | true =>
    exfalso
    have h1 : ltM (LL n a.1) (LL n b.1) = false := by simpa using h1
    have h2 : ltM (LL n b.1) (LL n c.1) = false := by simpa using h2
    by_cases e : LL n a.1 = LL n b.1
    · rw [e, h2] at q; cases q
    · have : ltM (LL n b.1) (LL n a.1) = true := by
        cases z : ltM (LL n b.1) (LL n a.1) with
        | true => rfl
        | false => exact absurd (ltM_total _ _ h1 z) e
      rw [ltM_trans _ _ _ this q] at h2; cases h2
theorem leL_total {n : Nat} (a b : Mon × Int) : (leL n a b || leL n b a) = true := by
  unfold leL
  cases q : ltM (LL n a.1) (LL n b.1) with
  | false => rfl
  | true => rw [ltM_asymm q]; rfl
theorem LL_inj {n : Nat} (hn : n ∈ [1, 2, 3, 4]) {S : Pol} (o : TermsOk n S) {p q : Mon × Int} (hp : p ∈ S) (hq : q ∈ S) (e : LL n p.1 = LL n q.1) : p.1 = q.1 := by
  rw [← place_LL hn (o.len p hp) (o.nn p hp), ← place_LL hn (o.len q hq) (o.nn q hq), e]
theorem sorted_terms {n : Nat} (hn : n ∈ [1, 2, 3, 4]) {S : Pol} (o : TermsOk n S) (nd : (keys S).Nodup) : ∃ S' : Pol, S'.Perm S ∧ S'.Pairwise fun p q => ltM (LL n q.1) (LL n p.1) = true := by
  refine ⟨S.mergeSort (leL n), List.mergeSort_perm _ _, ?_⟩
  have h1 := List.pairwise_mergeSort (le := leL n) leL_trans leL_total S
  have hp := List.mergeSort_perm S (leL n)
  have nd' : (S.mergeSort (leL n)).Pairwise fun p q => p.1 ≠ q.1 := by
    have : (keys (S.mergeSort (leL n))).Nodup := (hp.map _).nodup_iff.mpr nd
    unfold keys List.Nodup at this
    rw [List.pairwise_map] at this
    exact this
  refine (List.Pairwise.and_mem.mp (List.Pairwise.and h1 nd')).imp ?_
  rintro p q ⟨hpm, hqm, hle, hne⟩
  have hle : ltM (LL n p.1) (LL n q.1) = false := by
    unfold leL at hle
    simpa using hle
  cases z : ltM (LL n q.1) (LL n p.1) with
  | true => rfl
  | false => exact absurd (LL_inj hn o (hp.mem_iff.mp hpm) (hp.mem_iff.mp hqm) (ltM_total _ _ hle z)) hne
theorem IsSum.perm {n : Nat} {left S S' : Pol} (h : IsSum n left S) (p : S'.Perm S) : IsSum n left S' := fun k => by rw [h, sumL_perm p]
theorem TermsOk.perm {n : Nat} {S S' : Pol} (h : TermsOk n S) (p : S'.Perm S) : TermsOk n S' := ⟨fun q hq => h.len q (p.mem_iff.mp hq), fun q hq => h.nn q (p.mem_iff.mp hq), fun q hq => h.nz q (p.mem_iff.mp hq)⟩
theorem TermsOk.tail {n : Nat} {q : Mon × Int} {S : Pol} (h : TermsOk n (q :: S)) : TermsOk n S := ⟨fun q hq => h.len q (List.mem_cons_of_mem _ hq), fun q hq => h.nn q (List.mem_cons_of_mem _ hq), fun q hq => h.nz q (List.mem_cons_of_mem _ hq)⟩
end EP
set_option linter.all false
set_option maxRecDepth 100000
/-! EPlain3: how many exponents there are. -/
namespace EP
/-- n numbers of at least 0 with a sum of at most m -/
def boxL : Nat → Nat → List Mon
  | 0, _ => [[]]
  | n + 1, m => (List.range (m + 1)).flatMap fun i => (boxL n (m - i)).map fun r => ((i : Nat) : Int) :: r
def InBox (n m : Nat) (k : Mon) : Prop := k.length = n ∧ (∀ z ∈ k, 0 ≤ z) ∧ k.sum ≤ m
theorem sum_nn : ∀ {k : Mon}, (∀ z ∈ k, 0 ≤ z) → 0 ≤ k.sum
  | [], _ => by simp
  | a :: r, h => by
    rw [List.sum_cons]
    have := h a List.mem_cons_self
    have := sum_nn (k := r) fun z hz => h z (List.mem_cons_of_mem _ hz)
    omega
theorem InBox.mem : ∀ {n m : Nat} {k : Mon}, InBox n m k → k ∈ boxL n m
  | 0, m, k, ⟨h1, _, _⟩ => by rw [List.length_eq_zero_iff.mp h1]; exact List.mem_singleton.mpr rfl
  | n + 1, m, [], ⟨h1, _, _⟩ => by cases h1
  | n + 1, m, a :: r, ⟨h1, h2, h3⟩ => by
    rw [List.sum_cons] at h3
    have ha := h2 a List.mem_cons_self
    have hr := sum_nn (k := r) fun z hz => h2 z (List.mem_cons_of_mem _ hz)
    unfold boxL
    rw [List.mem_flatMap]
    refine ⟨a.toNat, by rw [List.mem_range]; omega, List.mem_map.mpr ⟨r, InBox.mem ⟨by simpa using h1, fun z hz => h2 z (List.mem_cons_of_mem _ hz), by omega⟩, by rw [Int.toNat_of_nonneg ha]⟩⟩
theorem length_le_of_nodup {α : Type} [DecidableEq α] : ∀ {l m : List α}, l.Nodup → (∀ a ∈ l, a ∈ m) → l.length ≤ m.length
  | [], m, _, _ => Nat.zero_le _
  | a :: l, m, nd, h => by
    rw [List.nodup_cons] at nd
    have ha := h a List.mem_cons_self
    have := length_le_of_nodup (l := l) (m := m.erase a) nd.2 fun b hb => (List.mem_erase_of_ne fun z => nd.1 (by rw [← z]; exact hb)).mpr (h b (List.mem_cons_of_mem _ hb))
    rw [List.length_erase_of_mem ha] at this
    have : 0 < m.length := List.length_pos_of_mem ha
    rw [List.length_cons]
    omega
def BoxP (n m : Nat) (p : Pol) : Prop := ∀ q ∈ p, InBox n m q.1
theorem box_len : ∀ n ∈ [1, 2, 3, 4], (boxL n 8).length ≤ 495 := by decide +kernel
theorem BoxP.length {n : Nat} (hn : n ∈ [1, 2, 3, 4]) {p : Pol} (h : BoxP n 8 p) (nd : (keys p).Nodup) : p.length ≤ 495 := by
  have := length_le_of_nodup nd (m := boxL n 8) fun a ha => by
    obtain ⟨q, hq, rfl⟩ := List.mem_map.mp ha
    exact (h q hq).mem
  unfold keys at this
  rw [List.length_map] at this
  exact Nat.le_trans this (box_len n hn)
theorem InBox.add {n m m' : Nat} {x y : Mon} (h : InBox n m x) (h' : InBox n m' y) : InBox n (m + m') (addM x y) := by
  refine ⟨addM_length h.1 h'.1, addM_nn h.2.1 h'.2.1, ?_⟩
  rw [addM_sum (by rw [h.1, h'.1])]
  have := h.2.2
  have := h'.2.2
  omega
theorem BoxP.put {n m : Nat} {p : Pol} {k : Mon} {c : Int} (h : BoxP n m p) (hk : InBox n m k) : BoxP n m (putP p k c) := fun q hq => by
  rcases mem_put hq with rfl | hq
  · exact hk
  · exact h q hq
theorem BoxP.nil {n m : Nat} : BoxP n m [] := fun q hq => by cases hq
theorem BoxP.clean {n m : Nat} {p : Pol} (h : BoxP n m p) : BoxP n m (cleanP p) := fun q hq => h q (List.mem_filter.mp hq).1
theorem BoxP.scale {n m : Nat} {p : Pol} {c : Int} (h : BoxP n m p) : BoxP n m (scale c p) := fun q hq => by
  obtain ⟨r, hr, rfl⟩ := List.mem_map.mp hq
  exact h r hr
theorem BoxP.mono {n m m' : Nat} {p : Pol} (h : BoxP n m p) (l : m ≤ m') : BoxP n m' p := fun q hq => ⟨(h q hq).1, (h q hq).2.1, by have := (h q hq).2.2; omega⟩
theorem Good.box {n : Nat} {w B : Int} {x0 : Mon} {a : Pol} (G : Good n w x0 B a) {m : Nat} (hw : w ≤ m) : BoxP n m a := fun q hq => ⟨G.len q hq, G.nn q hq, by rw [G.wt q hq]; exact hw⟩
end EP
set_option Elab.async false
set_option linter.all false
set_option maxRecDepth 100000
/-! EvLib: dicts of exponents as data; loops and comprehensions of the pure layer by what they do. -/
namespace L3
open PySem PySem.Spec PyProof.Rows L2 LamX EP

def tM (m : Mon) : PyData := .tuple (m.map .int)
def dL (p : Pol) : List (PyData × PyData) := p.map fun q => (tM q.1, .int q.2)
abbrev dP (p : Pol) : PyData := .dict (dL p)
def pD (q : Mon × Int) : PyData := .tuple [tM q.1, .int q.2]
def tP (p : Pol) : List PyData := p.map pD
def kM (m : Mon) : List Key := m.map Sum.inl
theorem kM_inj : ∀ {m k : Mon}, kM m = kM k ↔ m = k
  | [], [] => by simp [kM]
  | [], _ :: _ => by simp [kM]
  | _ :: _, [] => by simp [kM]
  | a :: m, b :: k => by
    have := kM_inj (m := m) (k := k)
    unfold kM at *
    rw [List.map_cons, List.map_cons, List.cons.injEq, List.cons.injEq, this, Sum.inl.injEq]
theorem keyD_map (m : Mon) : (kM m).map keyD = m.map .int := by
  unfold kM
  rw [List.map_map]
  rfl
theorem keyOfT_tM {m : Mon} (h : m ≠ []) : keyOfT (tM m) = some (kM m) := by
  have := keyOfT_map (k := kM m) (by unfold kM; simpa using h)
  rw [keyD_map] at this
  exact this
theorem ne_of_len {n : Nat} {m : Mon} (h : m.length = n) (hn : n ∈ [1, 2, 3, 4]) : m ≠ [] := fun z => by subst z; subst h; simp at hn
theorem key_iff {m k : Mon} (h : m ≠ []) : keyOfT (tM m) = some (kM k) ↔ m = k := by rw [keyOfT_tM h, Option.some.injEq, kM_inj]
def NeP (p : Pol) : Prop := ∀ q ∈ p, q.1 ≠ []
theorem _root_.EP.BoxP.ne {n m : Nat} {p : Pol} (h : BoxP n m p) (hn : n ∈ [1, 2, 3, 4]) : NeP p := fun q hq => ne_of_len (h q hq).1 hn
theorem dGet_dL : ∀ {p : Pol} {k : Mon}, NeP p → dGet (dL p) (kM k) = (getP p k).map .int
  | [], k, _ => rfl
  | q :: r, k, h => by
    show (if keyOfT (tM q.1) = some (kM k) then some (PyData.int q.2) else dGet (dL r) (kM k)) = Option.map PyData.int (if q.1 = k then some q.2 else getP r k)
    have e := key_iff (k := k) (h q List.mem_cons_self)
    rw [dGet_dL fun q hq => h q (List.mem_cons_of_mem _ hq)]
    by_cases z : q.1 = k
    · rw [if_pos z, if_pos (e.mpr z)]; rfl
    · rw [if_neg z, if_neg fun y => z (e.mp y)]
theorem dHas_dL {p : Pol} {k : Mon} (h : NeP p) : dHas (dL p) (kM k) = hasP p k := by
  unfold dHas dL hasP
  rw [List.any_map]
  rw [Bool.eq_iff_iff, List.any_eq_true, List.any_eq_true]
  constructor <;> (rintro ⟨q, hq, e⟩; refine ⟨q, hq, decide_eq_true ?_⟩; have e := of_decide_eq_true e)
  · rw [keyOfT_tM (h q hq), Option.some.injEq, kM_inj] at e
    exact e
  · show keyOfT (tM q.1) = some (kM k)
    rw [keyOfT_tM (h q hq), e]
theorem dPut_dL {p : Pol} {k : Mon} {c : Int} (h : NeP p) : dPut (dL p) (kM k) (.int c) = dL (putP p k c) := by
  unfold dPut putP
  rw [dHas_dL h]
  split
  · unfold dL
    rw [List.map_map, List.map_map]
    apply List.map_congr_left
    intro q hq
    show (if keyOfT (tM q.1) = some (kM k) then (tM q.1, PyData.int c) else (tM q.1, .int q.2)) = (tM (if q.1 = k then (q.1, c) else q).1, .int (if q.1 = k then (q.1, c) else q).2)
    have e := key_iff (k := k) (h q hq)
    by_cases z : q.1 = k
    · rw [if_pos z, if_pos (e.mpr z)]
    · rw [if_neg z, if_neg fun y => z (e.mp y)]
  · unfold dL
    rw [List.map_append, keyD_map]; rfl
theorem getD_cf {p : Pol} {k : Mon} : ((getP p k).map PyData.int).getD (.int 0) = .int (cf p k) := by
  unfold cf
  cases getP p k <;> rfl
theorem NeP.put {p : Pol} {k : Mon} {c : Int} (h : NeP p) (hk : k ≠ []) : NeP (putP p k c) := fun q hq => by
  rcases mem_put hq with rfl | hq
  · exact hk
  · exact h q hq
theorem dL_length {p : Pol} : (dL p).length = p.length := by unfold dL; rw [List.length_map]
/-! ### statements -/
theorem evSeq_nx {f g : En → O} {e e1 : En} (h : f e = .nx e1) : evSeq f g e = g e1 := by unfold evSeq; rw [h]
theorem run_seq {f g : En → O} {e e1 : En} {o : O} (h : f e = .nx e1) (h2 : g e1 = o) : evSeq f g e = o := (evSeq_nx h).trans h2
theorem out_seq {f g : En → O} {e e1 : En} {r : FRes} (h : f e = .nx e1) (h2 : outF (g e1) = r) : outF (evSeq f g e) = r := by rw [evSeq_nx h]; exact h2
theorem evSeq_exn {f g : En → O} {e e1 : En} {c : Str} (h : f e = .exn c e1) : evSeq f g e = .exn c e1 := by unfold evSeq; rw [h]
theorem evIfS_t {c : En → R} {f g : En → O} {e e1 : En} (h : c e = .ok (.fz (.bool true)) e1) : evIfS c f g e = f e1 := by unfold evIfS; rw [h]
theorem evIfS_f {c : En → R} {f g : En → O} {e e1 : En} (h : c e = .ok (.fz (.bool false)) e1) : evIfS c f g e = g e1 := by unfold evIfS; rw [h]
theorem evIfS_ff {c : En → R} {f : En → O} {e e1 : En} (h : c e = .ok (.fz (.bool false)) e1) : evIfS c f evNx e = .nx e1 := evIfS_f h
theorem evT_ok {f : En → R} {e e1 : En} {d : PyData} (h : f e = .ok (.fz d) e1) : evT f e = .ok (.fz d) e1 := by unfold evT; rw [h]
theorem evSet_fz {i : Nat} {f : En → R} {e e1 : En} {d : PyData} (h : f e = .ok (.fz d) e1) : evSet i f e = .nx (e1.set i (.fz d)) := by unfold evSet; rw [h]
theorem evSet_ow {i : Nat} {f : En → R} {e e1 : En} {d : PyData} (h : f e = .ok (.ow d) e1) : evSet i f e = .nx (e1.set i (.ow d)) := by unfold evSet; rw [h]
theorem evRet_ok {f : En → R} {e e1 : En} {v : Vl} (h : f e = .ok v e1) : evRet f e = .ret v e1 := by unfold evRet; rw [h]
theorem out_ret {f : En → R} {e e1 : En} {v : Vl} (h : f e = .ok v e1) : outF (evRet f e) = .ok v := by rw [evRet_ok h]; rfl
theorem evFor_eq {f : En → RA} {st : PyData → En → Option En} {body : En → O} {e e1 : En} {items : List PyData} (h : f e = .ok items e1) : evFor f st body e = evLoop st body items e1 := by unfold evFor; rw [h]
theorem evLoop_step {st : PyData → En → Option En} {body : En → O} {d : PyData} {r : List PyData} {e e1 e2 : En} (h1 : st d e = some e1) (h2 : body e1 = .nx e2) : evLoop st body (d :: r) e = evLoop st body r e2 := by
  rw [evLoop, h1]
  (try dsimp only)
  rw [h2]
theorem evLoop_exn {st : PyData → En → Option En} {body : En → O} {d : PyData} {r : List PyData} {e e1 e2 : En} {c : Str} (h1 : st d e = some e1) (h2 : body e1 = .exn c e2) : evLoop st body (d :: r) e = .exn c e2 := by
  rw [evLoop, h1]
  (try dsimp only)
  rw [h2]
theorem evLoop_ret {st : PyData → En → Option En} {body : En → O} {d : PyData} {r : List PyData} {e e1 e2 : En} {v : Vl} (h1 : st d e = some e1) (h2 : body e1 = .ret v e2) : evLoop st body (d :: r) e = .ret v e2 := by
  rw [evLoop, h1]
  (try dsimp only)
  rw [h2]
theorem run_for {f : En → RA} {st : PyData → En → Option En} {body : En → O} {e e1 e2 : En} {items : List PyData} (h : f e = .ok items e1) (h2 : evLoop st body items e1 = .nx e2) : evFor f st body e = .nx e2 := (evFor_eq h).trans h2
/-- a loop by what is so at its head -/
theorem evLoop_inv {α : Type} {st : PyData → En → Option En} {body : En → O} {P : α → En → Prop} {f : α → PyData → α} : ∀ (items : List PyData) (x : α) (e : En), (∀ (x : α) (e : En) (d : PyData) (i : Nat), items[i]? = some d → x = x → P x e → ∃ e1 e2, st d e = some e1 ∧ body e1 = .nx e2 ∧ P (f x d) e2) → P x e →
    ∃ e', evLoop st body items e = .nx e' ∧ P (items.foldl f x) e'
  | [], x, e, _, p => ⟨e, rfl, p⟩
  | d :: r, x, e, h, p => by
    obtain ⟨e1, e2, h1, h2, h3⟩ := h x e d 0 rfl rfl p
    obtain ⟨e', h4, h5⟩ := evLoop_inv r (f x d) e2 (fun x e d i hd _ p => h x e d (i + 1) hd rfl p) h3
    refine ⟨e', ?_, h5⟩
    unfold evLoop
    rw [h1]
    show (match body e1 with
      | .nx e2 => evLoop st body r e2
      | .cnt e2 => evLoop st body r e2
      | .brk e2 => .nx e2
      | .ret v e2 => .ret v e2
      | .exn c e2 => .exn c e2
      | .bad => .bad) = .nx e'
    rw [h2]
    exact h4
def datOf : Vl → PyData
  | .fz d => d
  | .ow d => d
theorem R.bnd_ok {v : Vl} {e : En} {k : PyData → En → R} : (R.ok v e).bnd k = k (datOf v) e := by cases v <;> rfl
theorem R.bndA_ok {v : Vl} {e : En} {k : PyData → En → RA} : (R.ok v e).bndA k = k (datOf v) e := by cases v <;> rfl
theorem R.bndI_ok {v : Vl} {e : En} {k : PyData → En → RA} : (R.ok v e).bndI k = k (datOf v) e := by cases v <;> rfl
theorem R.bndO_ok {v : Vl} {e : En} {k : PyData → En → O} : (R.ok v e).bndO k = k (datOf v) e := by cases v <;> rfl
theorem evNil_ok {e : En} : evNil e = .ok [] e := rfl
theorem evCons_ok {f : En → R} {g : En → RA} {e e1 e2 : En} {v : Vl} {ds : List PyData} (h1 : f e = .ok v e1) (h2 : g e1 = .ok ds e2) : evCons f g e = .ok (datOf v :: ds) e2 := by
  unfold evCons
  rw [h1, R.bndA_ok, h2]
  rfl
theorem ev1_ok {f : En → R} {e e1 : En} {v : Vl} {g : PyData → Option PyData} {d : PyData} (h1 : f e = .ok v e1) (h2 : g (datOf v) = some d) : ev1 g f e = .ok (.fz d) e1 := by
  unfold ev1
  rw [h1, R.bnd_ok, h2]
  rfl
theorem ev2_ok {fa fb : En → R} {e e1 e2 : En} {v w : Vl} {g : PyData → PyData → Option PyData} {d : PyData} (h1 : fa e = .ok v e1) (h2 : fb e1 = .ok w e2) (h : g (datOf v) (datOf w) = some d) : ev2 g fa fb e = .ok (.fz d) e2 := by
  unfold ev2
  rw [h1, R.bnd_ok, h2, R.bnd_ok, h]
  rfl
theorem ev2L_ok {i : Nat} {fb : En → R} {e e2 : En} {w : Vl} {g : PyData → PyData → Option PyData} {d d0 d1 : PyData} (h0 : slD e[i]? = some d0) (h2 : fb e = .ok w e2) (h1 : slD e2[i]? = some d1) (h : g d1 (datOf w) = some d) : ev2L g i fb e = .ok (.fz d) e2 := by
  unfold ev2L
  rw [h0]
  (try dsimp only)
  rw [h2, R.bnd_ok, h1]
  (try dsimp only)
  rw [h]
  rfl
theorem evB_ok {f : En → RA} {e e1 : En} {g : List PyData → Option PyData} {ds : List PyData} {d : PyData} (h1 : f e = .ok ds e1) (h2 : g ds = some d) : evB g f e = .ok (.fz d) e1 := by
  unfold evB
  rw [h1]
  show R.lift (g ds) e1 = _
  rw [h2]
  rfl
theorem evBO_ok {f : En → RA} {e e1 : En} {g : List PyData → Option PyData} {ds : List PyData} {d : PyData} (h1 : f e = .ok ds e1) (h2 : g ds = some d) : evBO g f e = .ok (.ow d) e1 := by
  unfold evBO
  rw [h1]
  show (match g ds with | some d => R.ok (.ow d) e1 | none => .bad) = _
  rw [h2]
theorem evBN_ok {g : PyData → Option PyData} {i : Nat} {e : En} {d d' : PyData} (h1 : slD e[i]? = some d) (h2 : g d = some d') : evBN g i e = .ok (.fz d') e := by
  unfold evBN
  rw [h1]
  show R.lift (g d) e = _
  rw [h2]
  rfl
theorem evTup_ok {f : En → RA} {e e1 : En} {ds : List PyData} (h1 : f e = .ok ds e1) (h2 : ds.length ≤ 16777216) : evTup f e = .ok (.fz (.tuple ds)) e1 := by
  unfold evTup
  rw [h1]
  show (if ds.length ≤ 16777216 then R.ok (.fz (.tuple ds)) e1 else .bad) = _
  rw [if_pos h2]
theorem evLst_ok {f : En → RA} {e e1 : En} {ds : List PyData} (h1 : f e = .ok ds e1) (h2 : ds.length ≤ 16777216) : evLst f e = .ok (.ow (.list ds)) e1 := by
  unfold evLst
  rw [h1]
  show (if ds.length ≤ 16777216 then R.ok (.ow (.list ds)) e1 else .bad) = _
  rw [if_pos h2]
theorem evI_ok {g : PyData → Option (List PyData)} {f : En → R} {e e1 : En} {v : Vl} {items : List PyData} (h1 : f e = .ok v e1) (h2 : g (datOf v) = some items) : evI g f e = .ok items e1 := by
  unfold evI
  rw [h1, R.bndI_ok, h2]
  rfl
theorem evIA_ok {g : List PyData → Option (List PyData)} {f : En → RA} {e e1 : En} {ds items : List PyData} (h1 : f e = .ok ds e1) (h2 : g ds = some items) : evIA g f e = .ok items e1 := by
  unfold evIA
  rw [h1]
  show liftA (g ds) e1 = _
  rw [h2]
  rfl
theorem evCall_ok {F : List PyData → FRes} {f : En → RA} {e e1 : En} {ds : List PyData} {v : Vl} (h1 : f e = .ok ds e1) (h2 : F ds = .ok v) : evCall F f e = .ok v e1 := by
  unfold evCall
  rw [h1]
  show (match F ds with | .ok v => R.ok v e1 | .exn c => .exn c e1 | .bad => .bad) = _
  rw [h2]
theorem evCall_exn {F : List PyData → FRes} {f : En → RA} {e e1 : En} {ds : List PyData} {c : Str} (h1 : f e = .ok ds e1) (h2 : F ds = .exn c) : evCall F f e = .exn c e1 := by
  unfold evCall
  rw [h1]
  show (match F ds with | .ok v => R.ok v e1 | .exn c => .exn c e1 | .bad => .bad) = _
  rw [h2]
theorem evSet_ok {i : Nat} {f : En → R} {e e1 e2 : En} {v : Vl} (h : f e = .ok v e1) (h2 : e1.set i (slOf v) = e2) : evSet i f e = .nx e2 := by subst h2; unfold evSet; rw [h]; cases v <;> rfl
theorem evPar_ok {i j : Nat} {f g : En → R} {e e1 e2 e3 : En} {v w : Vl} (h1 : f e = .ok v e1) (h2 : g e1 = .ok w e2) (h3 : (e2.set i (slOf v)).set j (slOf w) = e3) : evPar i j f g e = .nx e3 := by
  subst h3
  unfold evPar
  rw [h1]
  (try dsimp only)
  rw [h2]
theorem evDrop_ok {f : En → R} {e e1 : En} {v : Vl} (h : f e = .ok v e1) : evDrop f e = .nx e1 := by unfold evDrop; rw [h]
theorem evGet2_ok {i : Nat} {fk fz : En → R} {e e1 e2 : En} {v w : Vl} {kvs kvs' : List (PyData × PyData)} {k : List Key} (h0 : slD e[i]? = some (.dict kvs)) (h1 : fk e = .ok v e1) (h2 : fz e1 = .ok w e2) (h3 : slD e2[i]? = some (.dict kvs')) (h4 : keyOfT (datOf v) = some k) {d : PyData} (h5 : (dGet kvs' k).getD (datOf w) = d) :
    evGet2 i fk fz e = .ok (.fz d) e2 := by
  subst h5
  unfold evGet2
  rw [h0]
  (try dsimp only)
  rw [h1, R.bnd_ok, h2, R.bnd_ok, h3]
  (try dsimp only)
  rw [h4]
theorem evGet1_ok {i : Nat} {fk : En → R} {e e1 : En} {v : Vl} {kvs kvs' : List (PyData × PyData)} {k : List Key} (h0 : slD e[i]? = some (.dict kvs)) (h1 : fk e = .ok v e1) (h3 : slD e1[i]? = some (.dict kvs')) (h4 : keyOfT (datOf v) = some k) {d : PyData} (h5 : (dGet kvs' k).getD .none = d) :
    evGet1 i fk e = .ok (.fz d) e1 := by
  subst h5
  unfold evGet1
  rw [h0]
  (try dsimp only)
  rw [h1, R.bnd_ok, h3]
  (try dsimp only)
  rw [h4]
theorem evDPut_ok {i : Nat} {fk fv : En → R} {e e1 e2 : En} {v w : Vl} {kvs kvs' : List (PyData × PyData)} {k : List Key} (h1 : fv e = .ok w e1) (h0 : e1[i]? = some (.ow (.dict kvs))) (h2 : fk e1 = .ok v e2) (h3 : e2[i]? = some (.ow (.dict kvs'))) (h4 : keyOfT (datOf v) = some k) (h5 : kvs'.length < 16777216) {e' : En} (h6 : e2.set i (.ow (.dict (dPut kvs' k (datOf w)))) = e') :
    evDPut i fk fv e = .nx e' := by
  subst h6
  unfold evDPut
  rw [h1, R.bndO_ok, h0]
  (try dsimp only)
  rw [h2, R.bndO_ok, h3]
  (try dsimp only)
  rw [h4]
  (try dsimp only)
  rw [if_pos h5]
theorem evIf_t {c f g : En → R} {e e1 : En} (h : c e = .ok (.fz (.bool true)) e1) : evIf c f g e = f e1 := by unfold evIf; rw [h]; rfl
theorem evIf_f {c f g : En → R} {e e1 : En} (h : c e = .ok (.fz (.bool false)) e1) : evIf c f g e = g e1 := by unfold evIf; rw [h]; rfl
theorem evAnd_t {f g : En → R} {e e1 : En} (h : f e = .ok (.fz (.bool true)) e1) : evAnd f g e = g e1 := by unfold evAnd; rw [h]; rfl
theorem evAnd_f {f g : En → R} {e e1 : En} (h : f e = .ok (.fz (.bool false)) e1) : evAnd f g e = .ok (.fz (.bool false)) e1 := by unfold evAnd; rw [h]; rfl
theorem evOr_t {f g : En → R} {e e1 : En} (h : f e = .ok (.fz (.bool true)) e1) : evOr f g e = .ok (.fz (.bool true)) e1 := by unfold evOr; rw [h]; rfl
theorem evOr_f {f g : En → R} {e e1 : En} (h : f e = .ok (.fz (.bool false)) e1) : evOr f g e = g e1 := by unfold evOr; rw [h]; rfl
theorem evNot_ok {f : En → R} {e e1 : En} {b : Bool} (h : f e = .ok (.fz (.bool b)) e1) : evNot f e = .ok (.fz (.bool (!b))) e1 := by unfold evNot; rw [h]; rfl
/-- a comprehension's loop -/
theorem evCLoop_gen {vs : List Nat} {st : PyData → En → Option En} {tt elt : En → R} {e : En} {t : PyData → Bool} {g : PyData → PyData} : ∀ (items acc : List PyData), acc.length + items.length ≤ 16777216 →
    (∀ d ∈ items, ∃ e1 e2, st d e = some e1 ∧ tt e1 = .ok (.fz (.bool (t d))) e2 ∧ (t d = false → wipeE e2 vs = e) ∧ (t d = true → ∃ e3 v, elt e2 = .ok v e3 ∧ datOf v = g d ∧ wipeE e3 vs = e)) →
    evCLoop vs st tt elt items acc e = .ok (acc ++ (items.filter t).map g) e
  | [], acc, _, _ => by simp [evCLoop]
  | d :: r, acc, hl, h => by
    obtain ⟨e1, e2, h1, h2, h3, h4⟩ := h d List.mem_cons_self
    rw [List.length_cons] at hl
    unfold evCLoop
    rw [h1]
    (try dsimp only)
    rw [h2]
    cases q : t d with
    | false =>
      (try dsimp only)
      rw [h3 q, evCLoop_gen r acc (by omega) fun d hd => h d (List.mem_cons_of_mem _ hd), List.filter_cons_of_neg (by rw [q]; decide)]
    | true =>
      obtain ⟨e3, v, h5, h6, h7⟩ := h4 q
      (try dsimp only)
      rw [h5]
      have hlt : acc.length < 16777216 := by omega
      have fin : evCLoop vs st tt elt r (acc ++ [g d]) e = .ok (acc ++ ((d :: r).filter t).map g) e := by
        rw [evCLoop_gen r (acc ++ [g d]) (by rw [List.length_append, List.length_singleton]; omega) fun d hd => h d (List.mem_cons_of_mem _ hd), List.filter_cons_of_pos q, List.map_cons, List.append_assoc]
        rfl
      cases v with
      | fz d' =>
        have h6 : d' = g d := h6
        (try dsimp only)
        rw [if_pos hlt, h7, h6, fin]
      | ow d' =>
        have h6 : d' = g d := h6
        (try dsimp only)
        rw [if_pos hlt, h7, h6, fin]
theorem evComp_gen {f : En → RA} {vs : List Nat} {st : PyData → En → Option En} {tt elt : En → R} {e e1 : En} {items : List PyData} {t : PyData → Bool} {g : PyData → PyData} (hf : f e = .ok items e1) (hl : items.length ≤ 16777216)
    (h : ∀ d ∈ items, ∃ e2 e3, st d (wipeE e1 vs) = some e2 ∧ tt e2 = .ok (.fz (.bool (t d))) e3 ∧ (t d = false → wipeE e3 vs = wipeE e1 vs) ∧ (t d = true → ∃ e4 v, elt e3 = .ok v e4 ∧ datOf v = g d ∧ wipeE e4 vs = wipeE e1 vs))
    {e' : En} (he : restE e1 vs (wipeE e1 vs) = e') {ds : List PyData} (hd : (items.filter t).map g = ds) :
    evComp f vs st tt elt e = .ok (.ow (.list ds)) e' := by
  subst he; subst hd
  unfold evComp
  rw [hf]
  (try dsimp only)
  rw [evCLoop_gen items [] (by simpa using hl) h]
  rfl
/-- .. without a test -/
theorem evComp_map {f : En → RA} {vs : List Nat} {st : PyData → En → Option En} {elt : En → R} {e e1 : En} {items : List PyData} {g : PyData → PyData} (hf : f e = .ok items e1) (hl : items.length ≤ 16777216)
    (h : ∀ d ∈ items, ∃ e2 e4 v, st d (wipeE e1 vs) = some e2 ∧ elt e2 = .ok v e4 ∧ datOf v = g d ∧ wipeE e4 vs = wipeE e1 vs)
    {e' : En} (he : restE e1 vs (wipeE e1 vs) = e') {ds : List PyData} (hd : items.map g = ds) :
    evComp f vs st (evC (.bool true)) elt e = .ok (.ow (.list ds)) e' := by
  refine evComp_gen (t := fun _ => true) (g := g) hf hl (fun d hd => ?_) he (by rw [List.filter_eq_self.mpr fun _ _ => rfl]; exact hd)
  obtain ⟨e2, e4, v, h1, h2, h3, h4⟩ := h d hd
  exact ⟨e2, e2, h1, rfl, (fun z => by cases z), fun _ => ⟨e4, v, h2, h3, h4⟩⟩
theorem evComp_of {f : En → RA} {vs : List Nat} {st : PyData → En → Option En} {tt elt : En → R} {e e1 e2 e' : En} {items acc : List PyData} (hf : f e = .ok items e1) (h : evCLoop vs st tt elt items [] (wipeE e1 vs) = .ok acc e2) (he : restE e1 vs e2 = e') : evComp f vs st tt elt e = .ok (.ow (.list acc)) e' := by
  subst he
  unfold evComp
  rw [hf]
  (try dsimp only)
  rw [h]
/-- a comprehension over told things -/
theorem evCLoop_A {α : Type} {vs : List Nat} {st : PyData → En → Option En} {tt elt : En → R} {e : En} {h : α → PyData} {t : α → Bool} {g : α → PyData} : ∀ (l : List α) (acc : List PyData), acc.length + l.length ≤ 16777216 →
    (∀ a ∈ l, ∃ e1 e2, st (h a) e = some e1 ∧ tt e1 = .ok (.fz (.bool (t a))) e2 ∧ (t a = false → wipeE e2 vs = e) ∧ (t a = true → ∃ e3 v, elt e2 = .ok v e3 ∧ datOf v = g a ∧ wipeE e3 vs = e)) →
    evCLoop vs st tt elt (l.map h) acc e = .ok (acc ++ (l.filter t).map g) e
  | [], acc, _, _ => by simp [evCLoop]
  | d :: r, acc, hl, hb => by
    obtain ⟨e1, e2, h1, h2, h3, h4⟩ := hb d List.mem_cons_self
    rw [List.length_cons] at hl
    rw [List.map_cons]
    unfold evCLoop
    rw [h1]
    (try dsimp only)
    rw [h2]
    cases q : t d with
    | false =>
      (try dsimp only)
      rw [h3 q, evCLoop_A r acc (by omega) fun d hd => hb d (List.mem_cons_of_mem _ hd), List.filter_cons_of_neg (by rw [q]; decide)]
    | true =>
      obtain ⟨e3, v, h5, h6, h7⟩ := h4 q
      (try dsimp only)
      rw [h5]
      have hlt : acc.length < 16777216 := by omega
      have fin : evCLoop vs st tt elt (r.map h) (acc ++ [g d]) e = .ok (acc ++ ((d :: r).filter t).map g) e := by
        rw [evCLoop_A r (acc ++ [g d]) (by rw [List.length_append, List.length_singleton]; omega) fun d hd => hb d (List.mem_cons_of_mem _ hd), List.filter_cons_of_pos q, List.map_cons, List.append_assoc]
        rfl
      cases v with
      | fz d' =>
        have h6 : d' = g d := h6
        (try dsimp only)
        rw [if_pos hlt, h7, h6, fin]
      | ow d' =>
        have h6 : d' = g d := h6
        (try dsimp only)
        rw [if_pos hlt, h7, h6, fin]
theorem evComp_A {α : Type} {f : En → RA} {vs : List Nat} {st : PyData → En → Option En} {tt elt : En → R} {e e1 : En} {h : α → PyData} {l : List α} (t : α → Bool) (g : α → PyData) (hf : f e = .ok (l.map h) e1) (hl : l.length ≤ 16777216)
    (hb : ∀ a ∈ l, ∃ e2 e3, st (h a) (wipeE e1 vs) = some e2 ∧ tt e2 = .ok (.fz (.bool (t a))) e3 ∧ (t a = false → wipeE e3 vs = wipeE e1 vs) ∧ (t a = true → ∃ e4 v, elt e3 = .ok v e4 ∧ datOf v = g a ∧ wipeE e4 vs = wipeE e1 vs))
    {e' : En} (he : restE e1 vs (wipeE e1 vs) = e') {ds : List PyData} (hd : (l.filter t).map g = ds) :
    evComp f vs st tt elt e = .ok (.ow (.list ds)) e' := by
  subst he; subst hd
  unfold evComp
  rw [hf]
  (try dsimp only)
  rw [evCLoop_A l [] (by simpa using hl) hb]
  rfl
theorem evComp_M {α : Type} {f : En → RA} {vs : List Nat} {st : PyData → En → Option En} {elt : En → R} {e e1 : En} {h : α → PyData} {l : List α} (g : α → PyData) (hf : f e = .ok (l.map h) e1) (hl : l.length ≤ 16777216)
    (hb : ∀ a ∈ l, ∃ e2 e4 v, st (h a) (wipeE e1 vs) = some e2 ∧ elt e2 = .ok v e4 ∧ datOf v = g a ∧ wipeE e4 vs = wipeE e1 vs)
    {e' : En} (he : restE e1 vs (wipeE e1 vs) = e') {ds : List PyData} (hd : l.map g = ds) :
    evComp f vs st (evC (.bool true)) elt e = .ok (.ow (.list ds)) e' := by
  refine evComp_A (fun _ => true) g hf hl (fun a ha => ?_) he (by rw [List.filter_eq_self.mpr fun _ _ => rfl]; exact hd)
  obtain ⟨e2, e4, v, h1, h2, h3, h4⟩ := hb a ha
  exact ⟨e2, e2, h1, rfl, (fun z => by cases z), fun _ => ⟨e4, v, h2, h3, h4⟩⟩
end L3
set_option Elab.async false
set_option linter.all false
set_option maxRecDepth 100000
/-! ElProg: the defs of the program that stand behind elementary, as functions (printed by mkel.py from the walk). -/
namespace EL
open PySem PySem.Spec PyProof.Rows L2 LamX L3
def ev_is_integer : En → O := (evRet (evAnd (evIsi "int" (evName 0)) (evNot (evIsi "bool" (evName 0)))))
def F_is_integer : List PyData → FRes := runDef 1 ev_is_integer
def ev_orders : En → O := (evSeq (evSet 1 (evLst (evCons (evTup evNil) evNil)))
    (evSeq (evFor (evIA rng1Of (evCons (evName 0) evNil)) (stName 2) (evSet 1 (evComp2 (evI listOf (evName 1)) ([(("told" : Str), 3), (("other" : Str), 4)].map (·.2)) [4] (stName 3) (evC (.bool true)) (evIA rng1Of (evCons (evName 0) evNil)) (stName 4) (ev2 gNotIn (evName 4) (evName 3)) (ev2 gCat (evName 3) (evTup (evCons (evName 4) evNil))))))
    (evRet (evName 1))))
def F_orders : List PyData → FRes := runDef 5 ev_orders
def ev_is_term : En → O := (evSeq (evIfS (evT (evOr (evNot (evT (evIsi "tuple" (evName 0)))) (evOr (ev2 gNeS (evBN gLen1 0) (evC (.int 2))) (evOr (evNot (evT (evIsi "tuple" (ev2L gIx 0 (evC (.int 0)))))) (ev2 gNeS (evB gLen (evCons (ev2L gIx 0 (evC (.int 0))) evNil)) (evName 1)))))) (evRet (evC (.bool false))) evNx)
    (evRet (evAnd (evB gAll (evCons (evComp (evI tupOf (ev2L gIx 0 (evC (.int 0)))) ([(("number" : Str), 2)].map (·.2)) (stName 2) (evC (.bool true)) (evAnd (evCall F_is_integer (evCons (evName 2) evNil)) (ev2 gGe (evName 2) (evC (.int 0))))) evNil)) (evAnd (evCall F_is_integer (evCons (ev2L gIx 0 (evC (.int 1))) evNil)) (ev2 gNeS (ev2L gIx 0 (evC (.int 1))) (evC (.int 0)))))))
def F_is_term : List PyData → FRes := runDef 3 ev_is_term
def ev_times_many : En → O := (evSeq (evSet 2 evDict0)
    (evSeq (evFor (evI itemsOf (evName 0)) (stTup 2 (stCons (stName 3) (stCons (stName 4) stNil))) (evFor (evI itemsOf (evName 1)) (stTup 2 (stCons (stName 5) (stCons (stName 6) stNil))) (evSeq (evSet 7 (evB gTup (evCons (evComp (evIA zipTOf (evCons (evName 3) (evCons (evName 5) evNil))) ([(("left" : Str), 8), (("right" : Str), 9)].map (·.2)) (stTup 2 (stCons (stName 8) (stCons (stName 9) stNil))) (evC (.bool true)) (ev2 gAdd (evName 8) (evName 9))) evNil)))
    (evDPut 2 (evName 7) (ev2 gAdd (evGet2 2 (evName 7) (evC (.int 0))) (ev2 gMul (evName 4) (evName 6)))))))
    (evRet (evName 2))))
def F_times_many : List PyData → FRes := runDef 10 ev_times_many
def ev_elementary_one : En → O := (evSeq (evSet 2 evDict0)
    (evSeq (evFor (evIA rng1Of (evCons (ev2 gShl (evC (.int 1)) (evName 0)) evNil)) (stName 3) (evSeq (evSet 4 (evB gTup (evCons (evComp (evIA rng1Of (evCons (evName 0) evNil)) ([(("at" : Str), 5)].map (·.2)) (stName 5) (evC (.bool true)) (ev2 gAnd (ev2 gShr (evName 3) (evName 5)) (evC (.int 1)))) evNil)))
    (evIfS (ev2 gEqS (evB gSumT (evCons (evName 4) evNil)) (evName 1)) (evDPut 2 (evName 4) (evC (.int 1))) evNx)))
    (evRet (evName 2))))
def F_elementary_one : List PyData → FRes := runDef 6 ev_elementary_one
def ev_check_many : En → O := (evSeq (evIfS (evT (evOr (evNot (evT (evIsi "tuple" (evName 1)))) (evNot (evT (evB gAll (evCons (evComp (evI tupOf (evName 1)) ([(("term" : Str), 8)].map (·.2)) (stName 8) (evC (.bool true)) (evCall F_is_term (evCons (evName 8) (evCons (evName 0) evNil)))) evNil)))))) (evRaise "BadPolynomial") evNx)
    (evSeq (evIfS (evT (evB gAny (evCons (evComp (evIA rng2Of (evCons (evC (.int 1)) (evCons (evBN gLen1 1) evNil))) ([(("at" : Str), 6)].map (·.2)) (stName 6) (evC (.bool true)) (ev2 gLeD (ev2 gIx (ev2L gIx 1 (evName 6)) (evC (.int 0))) (ev2 gIx (ev2L gIx 1 (ev2 gSub (evName 6) (evC (.int 1)))) (evC (.int 0))))) evNil))) (evRaise "BadPolynomial") evNx)
    (evSeq (evIfS (evT (evB gAny (evCons (evComp (evI tupOf (evName 1)) ([(("exponents" : Str), 2), (("_" : Str), 7)].map (·.2)) (stTup 2 (stCons (stName 2) (stCons (stName 7) stNil))) (evC (.bool true)) (ev2 gGt (evB gSumT (evCons (evName 2) evNil)) (evC (.int 8)))) evNil))) (evRaise "OutOfRange") evNx)
    (evSeq (evSet 3 (evBO gDict (evCons (evName 1) evNil)))
    (evFor (evI tupOf (evName 1)) (stTup 2 (stCons (stName 2) (stCons (stName 4) stNil))) (evFor (evI listOf (evCall F_orders (evCons (evName 0) evNil))) (stName 5) (evIfS (ev2 gNeS (evGet1 3 (evB gTup (evCons (evComp (evI tupOf (evName 5)) ([(("at" : Str), 6)].map (·.2)) (stName 6) (evC (.bool true)) (ev2L gIx 2 (evName 6))) evNil))) (evName 4)) (evRaise "OutOfRange") evNx)))))))
def F_check_many : List PyData → FRes := runDef 9 ev_check_many
def ev_elementary : En → O := (evSeq (evIfS (evT (evOr (evNot (evT (evCall F_is_integer (evCons (evName 0) evNil)))) (evNot (evT (evChain (fun i j => decide (i ≤ j)) (fun i j => decide (i ≤ j)) (evC (.int 1)) (evName 0) (evC (.int 4))))))) (evRaise "OutOfRange") evNx)
    (evSeq (evDrop (evCall F_check_many (evCons (evName 0) (evCons (evName 1) evNil))))
    (evSeq (evPar 2 3 (evBO gDict (evCons (evName 1) evNil)) evDict0)
    (evSeq (evWhile (ev2 gGt (evBN gLen1 2) (evC (.int 0))) (evSeq (evSet 4 (evBN gMax 2))
    (evSeq (evSet 5 (ev2L gDget 2 (evName 4)))
    (evSeq (evSet 7 (evB gTup (evCons (evComp (evIA rng1Of (evCons (evName 0) evNil)) ([(("at" : Str), 6)].map (·.2)) (stName 6) (evC (.bool true)) (ev2 gSub (ev2L gIx 4 (evName 6)) (evIf (ev2 gLt (ev2 gAdd (evName 6) (evC (.int 1))) (evName 0)) (ev2L gIx 4 (ev2 gAdd (evName 6) (evC (.int 1)))) (evC (.int 0))))) evNil)))
    (evSeq (evDPut 3 (evName 7) (evName 5))
    (evSeq (evSet 8 (evDisp1 (ev2 gRep (evTup (evCons (evC (.int 0)) evNil)) (evName 0)) (evName 5)))
    (evSeq (evFor (evIA enumTOf (evCons (evName 7) evNil)) (stTup 2 (stCons (stName 6) (stCons (stName 9) stNil))) (evFor (evIA rng1Of (evCons (evName 9) evNil)) (stName 10) (evSet 8 (evCall F_times_many (evCons (evName 8) (evCons (evCall F_elementary_one (evCons (evName 0) (evCons (ev2 gAdd (evName 6) (evC (.int 1))) evNil))) evNil))))))
    (evSeq (evFor (evI itemsOf (evName 8)) (stTup 2 (stCons (stName 11) (stCons (stName 12) stNil))) (evDPut 2 (evName 11) (ev2 gSub (evGet2 2 (evName 11) (evC (.int 0))) (evName 12))))
    (evSet 2 (evDComp (evI itemsOf (evName 2)) ([(("spot" : Str), 11), (("more" : Str), 12)].map (·.2)) (stTup 2 (stCons (stName 11) (stCons (stName 12) stNil))) (ev2 gNeS (evName 12) (evC (.int 0))) (evName 11) (evName 12)))))))))) 1000)
    (evRet (evB gTup (evCons (evSortIt 3) evNil)))))))
def F_elementary : List PyData → FRes := runDef 13 ev_elementary
end EL
set_option Elab.async false
set_option linter.all false
set_option maxRecDepth 100000
namespace EL
open PySem PySem.Spec PyProof.Rows L2 LamX L3 EP
/-- numbers that may be multiplied -/
def Sm (c : Int) : Prop := c.natAbs < 2 ^ 2000
theorem mul_ok {c d : Int} (h1 : Sm c) (h2 : Sm d) : gMul (.int c) (.int d) = some (.int (c * d)) := by
  have l : ∀ n : Nat, n < 2 ^ 2000 → n.log2 < 2001 := fun n h => by
    by_cases z : n = 0
    · subst z; decide
    · have := (Nat.log2_lt (k := 2000) z).mpr h
      omega
  have a := l _ h1
  have b := l _ h2
  unfold gMul gIc
  simp only []
  rw [if_pos (decide_eq_true (by omega))]
theorem zipD_map : ∀ (x y : Mon), zipD (x.map .int) (y.map .int) = (x.zip y).map fun p => .tuple [.int p.1, .int p.2]
  | [], y => by simp [zipD]
  | _ :: _, [] => by simp [zipD]
  | a :: x, b :: y => by
    rw [List.map_cons, List.map_cons, List.zip_cons_cons, List.map_cons, ← zipD_map x y]
    rfl
theorem zipT_ok (x y : Mon) : zipTOf [tM x, tM y] = some ((x.zip y).map fun p => .tuple [.int p.1, .int p.2]) := by
  unfold tM zipTOf
  simp only []
  rw [zipD_map, if_pos]
  rw [List.all_map, List.all_eq_true]
  intro p _
  rfl
theorem items_ok (p : Pol) : itemsOf (dP p) = some (tP p) := by
  unfold itemsOf dP dL tP
  simp only []
  rw [if_pos]
  · rw [List.map_map]; rfl
  · rw [List.all_map, List.all_eq_true]
    intro q _
    rfl
theorem zipSum (x y : Mon) : PyData.tuple (((x.zip y).map fun p => PyData.tuple [.int p.1, .int p.2]).map fun d => match d with | .tuple [.int a, .int b] => .int (a + b) | _ => .none) = tM (addM x y) := by
  unfold tM addM
  rw [List.map_map, List.map_zipWith]
  congr 1
  induction x generalizing y with
  | nil => simp
  | cons a x ih =>
    cases y with
    | nil => simp
    | cons b y =>
      rw [List.zip_cons_cons, List.map_cons, List.zipWith_cons_cons, ih]
      rfl
theorem times_many_in {a0 b0 : PyData} {m : Mon} {c : Int} {n : Nat} (hn : n ∈ [1, 2, 3, 4]) {b : Pol} {B : Nat} (hm : ∀ r ∈ b, InBox n 8 (addM m r.1)) (lm : m.length = n) (lb : ∀ r ∈ b, r.1.length = n) (hc : Sm c) (hb : ∀ r ∈ b, Sm r.2) {acc : Pol} (nd : (keys acc).Nodup) (bx : BoxP n 8 acc) {x5 x6 x7 x8 x9 : Sl} :
    ∃ y5 y6 y7 y8 y9, evLoop (stTup 2 (stCons (stName 5) (stCons (stName 6) stNil))) (evSeq (evSet 7 (evB gTup (evCons (evComp (evIA zipTOf (evCons (evName 3) (evCons (evName 5) evNil))) ([(("left" : Str), 8), (("right" : Str), 9)].map (·.2)) (stTup 2 (stCons (stName 8) (stCons (stName 9) stNil))) (evC (.bool true)) (ev2 gAdd (evName 8) (evName 9))) evNil)))
      (evDPut 2 (evName 7) (ev2 gAdd (evGet2 2 (evName 7) (evC (.int 0))) (ev2 gMul (evName 4) (evName 6))))) (tP b) [.fz a0, .fz b0, .ow (dP acc), .fz (tM m), .fz (.int c), x5, x6, x7, x8, x9] =
      .nx [.fz a0, .fz b0, .ow (dP (mulIn b (m, c) acc)), .fz (tM m), .fz (.int c), y5, y6, y7, y8, y9] := by
  induction b generalizing acc x5 x6 x7 x8 x9 with
  | nil => exact ⟨_, _, _, _, _, rfl⟩
  | cons r b ih =>
    have bk := hm r List.mem_cons_self
    have ne := ne_of_len bk.1 hn
    have hl := bx.length hn nd
    have i1 : evSet 7 (evB gTup (evCons (evComp (evIA zipTOf (evCons (evName 3) (evCons (evName 5) evNil))) ([(("left" : Str), 8), (("right" : Str), 9)].map (·.2)) (stTup 2 (stCons (stName 8) (stCons (stName 9) stNil))) (evC (.bool true)) (ev2 gAdd (evName 8) (evName 9))) evNil)) [.fz a0, .fz b0, .ow (dP acc), .fz (tM m), .fz (.int c), .fz (tM r.1), .fz (.int r.2), x7, x8, x9] = .nx [.fz a0, .fz b0, .ow (dP acc), .fz (tM m), .fz (.int c), .fz (tM r.1), .fz (.int r.2), .fz (tM (addM m r.1)), keepFz (some x8), keepFz (some x9)] := by
      refine evSet_ok (v := .fz (tM (addM m r.1))) (e1 := [.fz a0, .fz b0, .ow (dP acc), .fz (tM m), .fz (.int c), .fz (tM r.1), .fz (.int r.2), x7, keepFz (some x8), keepFz (some x9)]) (evB_ok (ds := [.list (((m.zip r.1).map fun p => PyData.tuple [.int p.1, .int p.2]).map fun d => match d with | .tuple [.int a, .int b] => .int (a + b) | _ => .none)]) ?_ ?_) ?_
      · refine evCons_ok (v := .ow (.list (((m.zip r.1).map fun p => PyData.tuple [.int p.1, .int p.2]).map fun d => match d with | .tuple [.int a, .int b] => .int (a + b) | _ => .none))) (ds := []) (e1 := [.fz a0, .fz b0, .ow (dP acc), .fz (tM m), .fz (.int c), .fz (tM r.1), .fz (.int r.2), x7, keepFz (some x8), keepFz (some x9)]) ?_ evNil_ok
        refine evComp_map (g := fun d => match d with | .tuple [.int a, .int b] => .int (a + b) | _ => .none) (items := (m.zip r.1).map fun p => .tuple [.int p.1, .int p.2]) (e1 := [.fz a0, .fz b0, .ow (dP acc), .fz (tM m), .fz (.int c), .fz (tM r.1), .fz (.int r.2), x7, x8, x9]) ?_ ?_ (fun d hd => ?_) rfl rfl
        · refine evIA_ok (ds := [tM m, tM r.1]) ?_ (zipT_ok m r.1)
          rfl
        · rw [List.length_map, List.length_zip, lm]
          have : n ≤ 4 := by simp at hn; omega
          omega
        · obtain ⟨p, _, rfl⟩ := List.mem_map.mp hd
          exact ⟨_, _, .fz (.int (p.1 + p.2)), rfl, rfl, rfl, rfl⟩
      · rw [← zipSum]; rfl
      · rfl
    generalize keepFz (some x8) = z8 at i1
    generalize keepFz (some x9) = z9 at i1
    have i2 : evDPut 2 (evName 7) (ev2 gAdd (evGet2 2 (evName 7) (evC (.int 0))) (ev2 gMul (evName 4) (evName 6))) [.fz a0, .fz b0, .ow (dP acc), .fz (tM m), .fz (.int c), .fz (tM r.1), .fz (.int r.2), .fz (tM (addM m r.1)), z8, z9] = .nx [.fz a0, .fz b0, .ow (dP (addTo acc (addM m r.1) (c * r.2))), .fz (tM m), .fz (.int c), .fz (tM r.1), .fz (.int r.2), .fz (tM (addM m r.1)), z8, z9] := by
      have g1 : keyOfT (tM (addM m r.1)) = some (kM (addM m r.1)) := keyOfT_tM ne
      have g2 : dGet (dL acc) (kM (addM m r.1)) = (getP acc (addM m r.1)).map .int := dGet_dL (bx.ne hn)
      have g3 := mul_ok hc (hb r List.mem_cons_self)
      have g4 : (dL acc).length < 16777216 := by rw [dL_length]; omega
      have g5 : gAdd (.int (cf acc (addM m r.1))) (.int (c * r.2)) = some (.int (cf acc (addM m r.1) + c * r.2)) := rfl
      have g6 : dPut (dL acc) (kM (addM m r.1)) (.int (cf acc (addM m r.1) + c * r.2)) = dL (addTo acc (addM m r.1) (c * r.2)) := dPut_dL (bx.ne hn)
      simp only [evDPut, ev2, evGet2, evName, evC, R.bnd, R.bndO, R.lift, slD, List.getElem?_cons_zero, List.getElem?_cons_succ, g1, g2, g3, getD_cf, g5, g4, g6, if_true, List.set_cons_zero, List.set_cons_succ]
    obtain ⟨y5, y6, y7, y8, y9, h⟩ := ih (fun r hr => hm r (List.mem_cons_of_mem _ hr)) (fun r hr => lb r (List.mem_cons_of_mem _ hr)) (fun r hr => hb r (List.mem_cons_of_mem _ hr)) (acc := addTo acc (addM m r.1) (c * r.2)) (nodup_add nd) (bx.put bk) (x5 := .fz (tM r.1)) (x6 := .fz (.int r.2)) (x7 := .fz (tM (addM m r.1))) (x8 := z8) (x9 := z9)
    refine ⟨y5, y6, y7, y8, y9, ?_⟩
    refine (evLoop_step (e1 := [.fz a0, .fz b0, .ow (dP acc), .fz (tM m), .fz (.int c), .fz (tM r.1), .fz (.int r.2), x7, x8, x9]) rfl ((evSeq_nx i1).trans i2)).trans ?_
    exact h
theorem mulIn_nd {b : Pol} {q : Mon × Int} {acc : Pol} (nd : (keys acc).Nodup) : (keys (mulIn b q acc)).Nodup := nodup_mulIn nd
theorem mulIn_box {n m : Nat} {q : Mon × Int} : ∀ {b acc : Pol}, (∀ r ∈ b, InBox n m (addM q.1 r.1)) → BoxP n m acc → BoxP n m (mulIn b q acc)
  | [], acc, _, h => h
  | r :: b, acc, hm, h => by
    unfold mulIn
    rw [List.foldl_cons]
    exact mulIn_box (b := b) (fun r hr => hm r (List.mem_cons_of_mem _ hr)) (h.put (hm r List.mem_cons_self))
theorem times_many_out {a0 : PyData} {n : Nat} (hn : n ∈ [1, 2, 3, 4]) {a b : Pol} (hm : ∀ q ∈ a, ∀ r ∈ b, InBox n 8 (addM q.1 r.1)) (la : ∀ q ∈ a, q.1.length = n) (lb : ∀ r ∈ b, r.1.length = n) (ha : ∀ r ∈ a, Sm r.2) (hb : ∀ r ∈ b, Sm r.2) {acc : Pol} (nd : (keys acc).Nodup) (bx : BoxP n 8 acc) {x3 x4 x5 x6 x7 x8 x9 : Sl} :
    ∃ y3 y4 y5 y6 y7 y8 y9, evLoop (stTup 2 (stCons (stName 3) (stCons (stName 4) stNil))) (evFor (evI itemsOf (evName 1)) (stTup 2 (stCons (stName 5) (stCons (stName 6) stNil))) (evSeq (evSet 7 (evB gTup (evCons (evComp (evIA zipTOf (evCons (evName 3) (evCons (evName 5) evNil))) ([(("left" : Str), 8), (("right" : Str), 9)].map (·.2)) (stTup 2 (stCons (stName 8) (stCons (stName 9) stNil))) (evC (.bool true)) (ev2 gAdd (evName 8) (evName 9))) evNil)))
      (evDPut 2 (evName 7) (ev2 gAdd (evGet2 2 (evName 7) (evC (.int 0))) (ev2 gMul (evName 4) (evName 6)))))) (tP a) [.fz a0, .fz (dP b), .ow (dP acc), x3, x4, x5, x6, x7, x8, x9] =
      .nx [.fz a0, .fz (dP b), .ow (dP (a.foldl (fun acc q => mulIn b q acc) acc)), y3, y4, y5, y6, y7, y8, y9] := by
  induction a generalizing acc x3 x4 x5 x6 x7 x8 x9 with
  | nil => exact ⟨_, _, _, _, _, _, _, rfl⟩
  | cons q a ih =>
    obtain ⟨y5, y6, y7, y8, y9, h⟩ := times_many_in (a0 := a0) (b0 := dP b) hn (hm q List.mem_cons_self) (la q List.mem_cons_self) lb (ha q List.mem_cons_self) hb nd bx (x5 := x5) (x6 := x6) (x7 := x7) (x8 := x8) (x9 := x9) (c := q.2) (B := 0)
    obtain ⟨z3, z4, z5, z6, z7, z8, z9, h2⟩ := ih (fun q hq => hm q (List.mem_cons_of_mem _ hq)) (fun q hq => la q (List.mem_cons_of_mem _ hq)) (fun q hq => ha q (List.mem_cons_of_mem _ hq)) (nodup_mulIn nd) (mulIn_box (hm q List.mem_cons_self) bx) (x3 := .fz (tM q.1)) (x4 := .fz (.int q.2)) (x5 := y5) (x6 := y6) (x7 := y7) (x8 := y8) (x9 := y9)
    refine ⟨z3, z4, z5, z6, z7, z8, z9, ?_⟩
    refine (evLoop_step (e1 := [.fz a0, .fz (dP b), .ow (dP acc), .fz (tM q.1), .fz (.int q.2), x5, x6, x7, x8, x9]) rfl ((evFor_eq (e1 := [.fz a0, .fz (dP b), .ow (dP acc), .fz (tM q.1), .fz (.int q.2), x5, x6, x7, x8, x9]) (items := tP b) ?_).trans h)).trans h2
    simp only [evSet, evIfS, evDPut, evRet, evDrop, evT, evAnd, evOr, evNot, evIf, evI, evIA, evCons, evNil, evTup, evLst, evDict0, evB, evBO, evBN, evCall, ev1, ev2, ev2L, evGet1, evGet2, evName, evC, R.bnd, R.bndA, R.bndI, R.bndO, RA.bnd, RA.bndA, R.lift, liftA, slD, slOf, List.getElem?_cons_zero, List.getElem?_cons_succ, List.set_cons_zero, List.set_cons_succ, stName, stTup, stCons, stNil, Option.bind_some, List.length_cons, List.length_nil, if_true, items_ok]
/-- times_many -/
theorem F_times_many_ok {n : Nat} (hn : n ∈ [1, 2, 3, 4]) {a b : Pol} (hm : ∀ q ∈ a, ∀ r ∈ b, InBox n 8 (addM q.1 r.1)) (la : ∀ q ∈ a, q.1.length = n) (lb : ∀ r ∈ b, r.1.length = n) (ha : ∀ r ∈ a, Sm r.2) (hb : ∀ r ∈ b, Sm r.2) : F_times_many [dP a, dP b] = .ok (.fz (dP (mulP a b))) := by
  obtain ⟨y3, y4, y5, y6, y7, y8, y9, h⟩ := times_many_out (a0 := dP a) hn hm la lb ha hb (acc := []) List.nodup_nil BoxP.nil (x3 := .emp) (x4 := .emp) (x5 := .emp) (x6 := .emp) (x7 := .emp) (x8 := .emp) (x9 := .emp)
  show outF (ev_times_many [.fz (dP a), .fz (dP b), .emp, .emp, .emp, .emp, .emp, .emp, .emp, .emp]) = _
  unfold ev_times_many
  refine out_seq (e1 := [.fz (dP a), .fz (dP b), .ow (dP []), .emp, .emp, .emp, .emp, .emp, .emp, .emp]) rfl ?_
  refine out_seq (e1 := [.fz (dP a), .fz (dP b), .ow (dP (mulP a b)), y3, y4, y5, y6, y7, y8, y9]) (run_for (items := tP a) ?_ h) ?_
  · simp only [evSet, evIfS, evDPut, evRet, evDrop, evT, evAnd, evOr, evNot, evIf, evI, evIA, evCons, evNil, evTup, evLst, evDict0, evB, evBO, evBN, evCall, ev1, ev2, ev2L, evGet1, evGet2, evName, evC, R.bnd, R.bndA, R.bndI, R.bndO, RA.bnd, RA.bndA, R.lift, liftA, slD, slOf, List.getElem?_cons_zero, List.getElem?_cons_succ, List.set_cons_zero, List.set_cons_succ, stName, stTup, stCons, stNil, Option.bind_some, List.length_cons, List.length_nil, if_true, items_ok]
  · rfl
end EL
set_option Elab.async false
set_option linter.all false
set_option maxRecDepth 100000
namespace EL
open PySem PySem.Spec PyProof.Rows L2 LamX L3 EP
theorem F_elementary_one_ok : ∀ n ∈ [1, 2, 3, 4], ∀ j ∈ List.range n, F_elementary_one [.int ((n : Nat) : Int), .int (((j + 1 : Nat)) : Int)] = .ok (.fz (dP (eP n (j + 1)))) := by
  intro n hn j hj
  simp only [List.mem_cons, List.not_mem_nil, or_false] at hn
  rw [List.mem_range] at hj
  rcases hn with rfl | rfl | rfl | rfl
  · match j, hj with
    | 0, _ => rfl
  · match j, hj with
    | 0, _ => rfl
    | 1, _ => rfl
  · match j, hj with
    | 0, _ => rfl
    | 1, _ => rfl
    | 2, _ => rfl
  · match j, hj with
    | 0, _ => rfl
    | 1, _ => rfl
    | 2, _ => rfl
    | 3, _ => rfl
theorem F_orders_ok : ∀ n ∈ [1, 2, 3, 4], F_orders [.int ((n : Nat) : Int)] = .ok (.fz (.list ((ords n).map tM))) := by
  intro n hn
  simp only [List.mem_cons, List.not_mem_nil, or_false] at hn
  rcases hn with rfl | rfl | rfl | rfl
  · rfl
  · rfl
  · rfl
  · rfl
end EL
set_option Elab.async false
set_option linter.all false
set_option maxRecDepth 100000
namespace EL
open PySem PySem.Spec PyProof.Rows L2 LamX L3 EP
theorem box_hash : ∀ n ∈ [1, 2, 3, 4], ((boxL n 8).map hashK).Nodup := by decide +kernel
end EL
set_option Elab.async false
set_option linter.all false
set_option maxRecDepth 100000
namespace EL
open PySem PySem.Spec PyProof.Rows L2 LamX L3 EP
open PySem.W (Tup Datum DatumOrd)
theorem listLt_ltM : ∀ x y : Mon, PySem.W.listLt x y = ltM x y
  | [], [] => rfl
  | [], _ :: _ => rfl
  | _ :: _, [] => rfl
  | a :: x, b :: y => by
    unfold PySem.W.listLt ltM
    rw [listLt_ltM x y]
    rfl
theorem dataLt_tM (x y : Mon) : PySem.W.dataLt (tM x) (tM y) = ltM x y := by
  rw [← listLt_ltM]
  exact DatumOrd.lt_eq (Tup.mk x) (Tup.mk y)
theorem alike_tM (x y : Mon) : PySem.W.alike (tM x) (tM y) = true := DatumOrd.alike (Tup.mk x) (Tup.mk y)
theorem depthAll_int : ∀ x : Mon, PyData.depthAll (x.map .int) = 0
  | [] => by simp [PyData.depthAll]
  | a :: x => by rw [List.map_cons, PyData.depthAll, depthAll_int x, PyData.depth]; rfl
theorem depth_tM (x : Mon) : PyData.depth (tM x) = 1 := by unfold tM; rw [PyData.depth, depthAll_int]
theorem lay_int : ∀ x : Mon, PyData.canLayAll0 (x.map .int) = true
  | [] => by simp [PyData.canLayAll0]
  | a :: x => by rw [List.map_cons, PyData.canLayAll0, lay_int x, PyData.canLay0]; rfl
theorem lay_tM (x : Mon) : PyData.canLay0 (tM x) = true := by unfold tM; rw [PyData.canLay0, lay_int]
theorem leD_tM (x y : Mon) : gLeD (tM x) (tM y) = some (.bool (!ltM y x)) := by
  unfold gLeD
  rw [alike_tM, lay_tM, lay_tM, depth_tM, dataLt_tM]
  rfl
theorem depth_pD (q : Mon × Int) : PyData.depth (pD q) = 2 := by
  unfold pD
  rw [PyData.depth, PyData.depthAll, PyData.depthAll, PyData.depthAll, depth_tM, PyData.depth]; rfl
theorem lay_pD (q : Mon × Int) : PyData.canLay0 (pD q) = true := by
  unfold pD
  rw [PyData.canLay0, PyData.canLayAll0, PyData.canLayAll0, PyData.canLayAll0, lay_tM, PyData.canLay0]; rfl
theorem alike_pD (q r : Mon × Int) : PySem.W.alike (pD q) (pD r) = true := DatumOrd.alike (Tup.mk q.1, q.2) (Tup.mk r.1, r.2)
theorem dataLt_pD (q r : Mon × Int) : PySem.W.dataLt (pD q) (pD r) = if q.1 = r.1 then decide (q.2 < r.2) else ltM q.1 r.1 := by
  have h := DatumOrd.lt_eq (Tup.mk q.1, q.2) (Tup.mk r.1, r.2)
  have e : PySem.W.dataLt (pD q) (pD r) = DatumOrd.lt (Tup.mk q.1, q.2) (Tup.mk r.1, r.2) := h
  rw [e]
  show (if Tup.mk q.1 = Tup.mk r.1 then decide (q.2 < r.2) else PySem.W.listLt q.1 r.1) = _
  rw [listLt_ltM]
  by_cases z : q.1 = r.1
  · rw [if_pos z, if_pos (by rw [z])]
  · rw [if_neg z, if_neg fun y => z (congrArg Tup.items y)]
theorem sortOk_tP (p : Pol) : sortOk (tP p) = true := by
  unfold sortOk alikeB tP
  rw [Bool.and_eq_true, Bool.and_eq_true, Bool.and_eq_true]
  refine ⟨?_, ?_, ?_, ?_⟩
  · rw [List.all_eq_true]
    intro x hx
    rw [List.all_eq_true]
    intro y hy
    obtain ⟨q, _, rfl⟩ := List.mem_map.mp hx
    obtain ⟨r, _, rfl⟩ := List.mem_map.mp hy
    exact alike_pD q r
  · rw [List.all_eq_true]
    intro x hx
    obtain ⟨q, _, rfl⟩ := List.mem_map.mp hx
    rw [depth_pD]; rfl
  · rw [List.all_eq_true]
    intro x hx
    obtain ⟨q, _, rfl⟩ := List.mem_map.mp hx
    rfl
  · rw [List.all_eq_true]
    intro x hx
    obtain ⟨q, _, rfl⟩ := List.mem_map.mp hx
    exact lay_pD q
def leP (a b : Mon × Int) : Bool := PySem.W.dataLe false pD a b
def sortP (p : Pol) : Pol := p.mergeSort leP
theorem leP_eq (a b : Mon × Int) : leP a b = !PySem.W.dataLt (pD b) (pD a) := rfl
theorem sortD_tP (p : Pol) : sortD (tP p) = tP (sortP p) := by
  unfold sortD tP sortP
  rw [List.map_mergeSort (f := pD) (s := PySem.W.dataLe false fun d => d) (r := leP) (fun a _ b _ => rfl)]
theorem sortP_perm (p : Pol) : (sortP p).Perm p := List.mergeSort_perm _ _
theorem leP_trans (a b c : Mon × Int) (h1 : leP a b = true) (h2 : leP b c = true) : leP a c = true := by
  rw [leP_eq] at *
  rw [dataLt_pD] at *
  by_cases e1 : a.1 = b.1
  · by_cases e2 : b.1 = c.1
    · rw [if_pos e1.symm] at h1
      rw [if_pos e2.symm] at h2
      rw [if_pos (e1.trans e2).symm]
      simp at h1 h2 ⊢
      omega
    · rw [if_neg fun z => e2 z.symm] at h2
      rw [if_neg fun z => e2 (by rw [← e1, z]), e1]
      exact h2
  · rw [if_neg fun z => e1 z.symm] at h1
    by_cases e2 : b.1 = c.1
    · rw [if_neg fun z => e1 (by rw [← z, e2]), ← e2]
      exact h1
    · rw [if_neg fun z => e2 z.symm] at h2
      have h1 : ltM b.1 a.1 = false := by simpa using h1
      have h2 : ltM c.1 b.1 = false := by simpa using h2
      have g1 : ltM a.1 b.1 = true := by
        cases z : ltM a.1 b.1 with
        | true => rfl
        | false => exact absurd (ltM_total _ _ z h1) e1
      have g2 : ltM b.1 c.1 = true := by
        cases z : ltM b.1 c.1 with
        | true => rfl
        | false => exact absurd (ltM_total _ _ z h2) e2
      have g3 := ltM_trans _ _ _ g1 g2
      rw [if_neg (fun z => by rw [z, ltM_irrefl] at g3; exact Bool.noConfusion g3), ltM_asymm g3]
      rfl
theorem leP_total (a b : Mon × Int) : (leP a b || leP b a) = true := by
  rw [leP_eq, leP_eq, dataLt_pD, dataLt_pD]
  by_cases e : a.1 = b.1
  · rw [if_pos e.symm, if_pos e]
    simp
    omega
  · rw [if_neg fun z => e z.symm, if_neg e]
    cases z : ltM b.1 a.1 with
    | false => rfl
    | true => rw [ltM_asymm z]; rfl
theorem sortP_sorted (p : Pol) : (sortP p).Pairwise fun a b => leP a b = true := List.pairwise_mergeSort leP_trans leP_total p
theorem leP_anti {a b : Mon × Int} (h1 : leP a b = true) (h2 : leP b a = true) : a = b := by
  rw [leP_eq, dataLt_pD] at h1 h2
  by_cases e : a.1 = b.1
  · rw [if_pos e.symm] at h1
    rw [if_pos e] at h2
    simp at h1 h2
    exact Prod.ext e (by omega)
  · rw [if_neg fun z => e z.symm] at h1
    rw [if_neg e] at h2
    exact absurd (ltM_total _ _ (by simpa using h2) (by simpa using h1)) e
theorem sortP_unique {p q : Pol} (h : p.Perm q) : sortP p = sortP q :=
  List.Perm.eq_of_pairwise (fun _ _ _ _ => leP_anti) (sortP_sorted p) (sortP_sorted q) ((sortP_perm p).trans (h.trans (sortP_perm q).symm))
theorem sortP_asc {p : Pol} (nd : (keys p).Nodup) : (sortP p).Pairwise fun a b => ltM a.1 b.1 = true := by
  have nd' : (sortP p).Pairwise fun a b => a.1 ≠ b.1 := by
    have : (keys (sortP p)).Nodup := ((sortP_perm p).map _).nodup_iff.mpr nd
    unfold keys List.Nodup at this
    rw [List.pairwise_map] at this
    exact this
  refine (List.Pairwise.and (sortP_sorted p) nd').imp ?_
  rintro a b ⟨h1, h2⟩
  rw [leP_eq, dataLt_pD, if_neg fun z => h2 z.symm] at h1
  cases z : ltM a.1 b.1 with
  | true => rfl
  | false => exact absurd (ltM_total _ _ z (by simpa using h1)) h2
theorem keys_sortP {p : Pol} (nd : (keys p).Nodup) : (keys (sortP p)).Nodup := ((sortP_perm p).map _).nodup_iff.mpr nd
theorem cf_sortP {p : Pol} (nd : (keys p).Nodup) (k : Mon) : cf (sortP p) k = cf p k := by
  rw [← sumL_one nd, ← sumL_one (keys_sortP nd), sumL_perm (sortP_perm p)]
theorem sortL_ok (p : Pol) : gSortL [.list (tP p)] = some (.list (tP (sortP p))) := by
  unfold gSortL
  simp only []
  rw [if_pos (sortOk_tP p), sortD_tP]
theorem sortIt_ok (p : Pol) : gSortIt (dP p) = some (.list (tP (sortP p))) := by
  unfold gSortIt
  have e : (dL p).map L3.pairD = tP p := by unfold dL tP; rw [List.map_map]; rfl
  simp only []
  rw [e, sortOk_tP, sortD_tP, if_pos]
  rw [Bool.and_eq_true]
  refine ⟨?_, rfl⟩
  unfold dL
  rw [List.all_map, List.all_eq_true]
  intro q _
  rfl
/-! ### max -/
theorem maxD_tM : ∀ (xs : List Mon) (x : Mon), PySem.W.maxD (tM x) (xs.map tM) = tM (maxM x xs)
  | [], x => rfl
  | y :: xs, x => by
    unfold PySem.W.maxD maxM
    rw [List.map_cons, List.foldl_cons, List.foldl_cons, dataLt_tM]
    have ih := maxD_tM xs
    unfold PySem.W.maxD maxM at ih
    by_cases h : ltM x y = true
    · rw [if_pos h, if_pos h]; exact ih y
    · rw [if_neg h, if_neg h]; exact ih x
theorem depthAll_tM : ∀ xs : List Mon, PyData.depthAll (xs.map tM) ≤ 1
  | [] => by simp [PyData.depthAll]
  | x :: xs => by
    have := depthAll_tM xs
    rw [List.map_cons, PyData.depthAll, depth_tM]
    omega
theorem max_ok {p : Pol} {m : Mon} (h1 : m ∈ keys p) (h2 : ∀ y ∈ keys p, ltM m y = false) : gMax (dP p) = some (tM m) := by
  cases p with
  | nil => cases h1
  | cons q r =>
    unfold gMax
    have e : (dL (q :: r)).map (·.1) = tM q.1 :: (keys r).map tM := by unfold dL keys; rw [List.map_map, List.map_map]; rfl
    simp only [e]
    rw [if_pos, maxD_tM]
    · exact congrArg (fun m => some (tM m)) (maxM_eq h1 h2)
    refine ⟨?_, ?_⟩
    · unfold alikeB
      have : tM q.1 :: (keys r).map tM = (q.1 :: keys r).map tM := rfl
      rw [this, List.all_eq_true]
      intro x hx
      rw [List.all_eq_true]
      intro y hy
      obtain ⟨a, _, rfl⟩ := List.mem_map.mp hx
      obtain ⟨b, _, rfl⟩ := List.mem_map.mp hy
      exact alike_tM a b
    · have := depthAll_tM (q.1 :: keys r)
      rw [List.map_cons] at this
      omega
/-! ### dict( .. ) -/
theorem pairsD_tP : ∀ {p : Pol}, NeP p → pairsD (tP p) = some (p.map fun q => (kM q.1, .int q.2))
  | [], _ => rfl
  | q :: r, h => by
    show (keyOfT (tM q.1)).bind (fun k' => (pairsD (tP r)).map ((k', PyData.int q.2) :: ·)) = _
    rw [keyOfT_tM (h q List.mem_cons_self), Option.bind_some, pairsD_tP fun q hq => h q (List.mem_cons_of_mem _ hq)]
    rfl
def putAll (acc p : Pol) : Pol := p.foldl (fun acc q => putP acc q.1 q.2) acc
theorem mergeD_dL : ∀ {p acc : Pol}, NeP acc → NeP p → mergeD (dL acc) (p.map fun q => (kM q.1, .int q.2)) = dL (putAll acc p)
  | [], acc, _, _ => rfl
  | q :: r, acc, h1, h2 => by
    unfold mergeD putAll
    rw [List.map_cons, List.foldl_cons, List.foldl_cons, dPut_dL h1]
    exact mergeD_dL (p := r) (h1.put (h2 q List.mem_cons_self)) fun q hq => h2 q (List.mem_cons_of_mem _ hq)
theorem putAll_nodup : ∀ {p acc : Pol}, (keys (acc ++ p)).Nodup → putAll acc p = acc ++ p
  | [], acc, _ => by unfold putAll; simp
  | q :: r, acc, h => by
    unfold putAll
    rw [List.foldl_cons]
    have e : putP acc q.1 q.2 = acc ++ [q] := by
      unfold putP
      rw [if_neg]
      intro z
      rw [hasP_iff] at z
      unfold keys at h z
      rw [List.map_append, List.nodup_append] at h
      exact h.2.2 _ z _ List.mem_cons_self rfl
    rw [e]
    have := putAll_nodup (p := r) (acc := acc ++ [q]) (by rw [List.append_assoc]; exact h)
    unfold putAll at this
    rw [this, List.append_assoc]
    rfl
theorem dictL_ok {p : Pol} (ne : NeP p) (nd : (keys p).Nodup) : gDict [.list (tP p)] = some (dP p) := by
  unfold gDict
  simp only []
  rw [pairsD_tP ne]
  show some (PyData.dict (mergeD (dL []) _)) = _
  rw [mergeD_dL (fun q hq => by cases hq) ne, putAll_nodup (acc := []) (by simpa using nd), List.nil_append]
theorem tts_tP : ∀ p : Pol, tts (tP p) = true
  | [] => rfl
  | q :: r => tts_tP r
theorem dictT_ok {p : Pol} (ne : NeP p) (nd : (keys p).Nodup) : gDict [.tuple (tP p)] = some (dP p) := by
  unfold gDict
  simp only []
  rw [if_pos (tts_tP p), pairsD_tP ne]
  show some (PyData.dict (mergeD (dL []) _)) = _
  rw [mergeD_dL (fun q hq => by cases hq) ne, putAll_nodup (acc := []) (by simpa using nd), List.nil_append]
theorem intsOf_ints : ∀ x : Mon, intsOf (x.map .int) = some x
  | [] => rfl
  | a :: x => by
    rw [List.map_cons, intsOf, intsOf_ints x]
    rfl
theorem hashesD_dL : ∀ p : Pol, hashesD (dL p) = some ((keys p).map hashK)
  | [] => rfl
  | q :: r => by
    show (intsOf (q.1.map .int)).bind _ = _
    rw [intsOf_ints, Option.bind_some]
    show (hashesD (dL r)).map _ = _
    rw [hashesD_dL r]
    rfl
theorem nodup_of_map {α β : Type} {f : α → β} : ∀ {l : List α}, (l.map f).Nodup → ∀ {a b : α}, a ∈ l → b ∈ l → f a = f b → a = b
  | [], _, a, b, ha, _, _ => by cases ha
  | x :: l, nd, a, b, ha, hb, e => by
    rw [List.map_cons, List.nodup_cons] at nd
    rcases List.mem_cons.mp ha with z | ha'
    · rcases List.mem_cons.mp hb with y | hb'
      · rw [z, y]
      · rw [z] at e
        exact absurd (List.mem_map.mpr ⟨b, hb', e.symm⟩) nd.1
    · rcases List.mem_cons.mp hb with y | hb'
      · rw [y] at e
        exact absurd (List.mem_map.mpr ⟨a, ha', e⟩) nd.1
      · exact nodup_of_map nd.2 ha' hb' e
theorem nodup_map {α β : Type} {f : α → β} : ∀ {l : List α}, l.Nodup → (∀ a ∈ l, ∀ b ∈ l, f a = f b → a = b) → (l.map f).Nodup
  | [], _, _ => List.nodup_nil
  | x :: l, nd, h => by
    rw [List.nodup_cons] at nd
    rw [List.map_cons, List.nodup_cons]
    refine ⟨fun z => ?_, nodup_map nd.2 fun a ha b hb => h a (List.mem_cons_of_mem _ ha) b (List.mem_cons_of_mem _ hb)⟩
    obtain ⟨y, hy, e⟩ := List.mem_map.mp z
    rw [h y (List.mem_cons_of_mem _ hy) x List.mem_cons_self e] at hy
    exact nd.1 hy
theorem dictD_ok {n : Nat} (hn : n ∈ [1, 2, 3, 4]) {p : Pol} (bx : BoxP n 8 p) (nd : (keys p).Nodup) : gDict [dP p] = some (dP p) := by
  unfold gDict
  simp only []
  rw [hashesD_dL, Option.bind_some, if_pos]
  refine nodup_map nd fun a ha b hb e => ?_
  obtain ⟨q, hq, rfl⟩ := List.mem_map.mp ha
  obtain ⟨r, hr, rfl⟩ := List.mem_map.mp hb
  exact nodup_of_map (box_hash n hn) (bx q hq).mem (bx r hr).mem e
end EL
set_option Elab.async false
set_option linter.all false
set_option maxRecDepth 100000
namespace EL
open PySem PySem.Spec PyProof.Rows L2 LamX L3 EP
theorem F_is_integer_int (i : Int) : F_is_integer [.int i] = .ok (.fz (.bool true)) := rfl
theorem boolsOf_map {α : Type} (f : α → Bool) : ∀ l : List α, boolsOf (l.map fun x => .bool (f x)) = some (l.map f)
  | [] => rfl
  | a :: l => by rw [List.map_cons, boolsOf, boolsOf_map f l]; rfl
theorem isB_tup (ds : List PyData) : gIsi "tuple" (.tuple ds) = some (.bool true) := rfl
theorem len_tM (m : Mon) : lenD (tM m) = some m.length := by
  show some (m.map PyData.int).length = _
  rw [List.length_map]
/-- is_term -/
theorem F_is_term_ok {n : Nat} {q : Mon × Int} (h1 : q.1.length = n) (hl : n ≤ 1000) (h2 : ∀ z ∈ q.1, 0 ≤ z) (h3 : q.2 ≠ 0) : F_is_term [pD q, .int (n : Int)] = .ok (.fz (.bool true)) := by
  show outF (ev_is_term [.fz (pD q), .fz (.int n), .emp]) = _
  unfold ev_is_term
  refine out_seq (e1 := [.fz (pD q), .fz (.int n), .emp]) ?_ ?_
  · have g1 : gIsi "tuple" (pD q) = some (.bool true) := rfl
    have g2 : gLen1 (pD q) = some (.int 2) := rfl
    have g3 : gIx (pD q) (.int 0) = some (tM q.1) := rfl
    have g4 : gIsi "tuple" (tM q.1) = some (.bool true) := rfl
    have g5 : gLen [tM q.1] = some (.int (n : Int)) := by
      show (lenD (tM q.1)).map (fun n => PyData.int (n : Nat)) = _
      rw [len_tM, h1]
      rfl
    have g6 : gNeS (.int 2) (.int 2) = some (.bool false) := rfl
    have g7 : gNeS (.int (n : Int)) (.int (n : Int)) = some (.bool false) := by unfold gNeS; simp
    simp only [evSet, evIfS, evDPut, evRet, evDrop, evT, evAnd, evOr, evNot, evIf, evI, evIA, evCons, evNil, evTup, evLst, evDict0, evB, evBO, evBN, evCall, ev1, ev2, ev2L, evGet1, evGet2, evName, evC, R.bnd, R.bndA, R.bndI, R.bndO, RA.bnd, RA.bndA, R.lift, liftA, slD, slOf, List.getElem?_cons_zero, List.getElem?_cons_succ, List.set_cons_zero, List.set_cons_succ, stName, stTup, stCons, stNil, Option.bind_some, List.length_cons, List.length_nil, if_true, evIsi, g1, g2, g3, g4, g5, g6, g7, Bool.not_true, evNx]
  · have c : evComp (evI tupOf (ev2L gIx 0 (evC (.int 0)))) ([(("number" : Str), 2)].map (·.2)) (stName 2) (evC (.bool true)) (evAnd (evCall F_is_integer (evCons (evName 2) evNil)) (ev2 gGe (evName 2) (evC (.int 0)))) [.fz (pD q), .fz (.int n), .emp] = .ok (.ow (.list (q.1.map fun _ => .bool true))) [.fz (pD q), .fz (.int n), .emp] := by
      refine evComp_map (g := fun _ => .bool true) (items := q.1.map .int) (e1 := [.fz (pD q), .fz (.int n), .emp]) rfl (by rw [List.length_map]; omega) (fun d hd => ?_) rfl (by rw [List.map_map]; rfl)
      obtain ⟨z, hz, rfl⟩ := List.mem_map.mp hd
      refine ⟨[.fz (pD q), .fz (.int n), .fz (.int z)], [.fz (pD q), .fz (.int n), .fz (.int z)], .fz (.bool true), rfl, ?_, rfl, rfl⟩
      have g1 : gGe (.int z) (.int 0) = some (.bool true) := by
        unfold gGe gB
        simp only []
        rw [decide_eq_true (h2 z hz)]
      simp only [evSet, evIfS, evDPut, evRet, evDrop, evT, evAnd, evOr, evNot, evIf, evI, evIA, evCons, evNil, evTup, evLst, evDict0, evB, evBO, evBN, evCall, ev1, ev2, ev2L, evGet1, evGet2, evName, evC, R.bnd, R.bndA, R.bndI, R.bndO, RA.bnd, RA.bndA, R.lift, liftA, slD, slOf, List.getElem?_cons_zero, List.getElem?_cons_succ, List.set_cons_zero, List.set_cons_succ, stName, stTup, stCons, stNil, Option.bind_some, List.length_cons, List.length_nil, if_true, F_is_integer_int, g1]
    have g1 : gAll [.list (q.1.map fun _ => .bool true)] = some (.bool true) := by
      unfold gAll
      simp only []
      rw [boolsOf_map (fun _ => true)]
      simp
    have g2 : gIx (pD q) (.int 1) = some (.int q.2) := rfl
    have g3 : gNeS (.int q.2) (.int 0) = some (.bool true) := by
      unfold gNeS
      simp [h3]
    simp only [evRet, evAnd, evB, evCons, c, R.bndA, RA.bndA, RA.bnd, evNil, g1, R.lift, R.bnd]
    simp only [evSet, evIfS, evDPut, evRet, evDrop, evT, evAnd, evOr, evNot, evIf, evI, evIA, evCons, evNil, evTup, evLst, evDict0, evB, evBO, evBN, evCall, ev1, ev2, ev2L, evGet1, evGet2, evName, evC, R.bnd, R.bndA, R.bndI, R.bndO, RA.bnd, RA.bndA, R.lift, liftA, slD, slOf, List.getElem?_cons_zero, List.getElem?_cons_succ, List.set_cons_zero, List.set_cons_succ, stName, stTup, stCons, stNil, Option.bind_some, List.length_cons, List.length_nil, if_true, g2, F_is_integer_int, g3]
    rfl
structure TermP (n : Nat) (p : Pol) : Prop where
  len : ∀ q ∈ p, q.1.length = n
  nn : ∀ q ∈ p, ∀ z ∈ q.1, 0 ≤ z
  nz : ∀ q ∈ p, q.2 ≠ 0
  sz : p.length ≤ 1000
theorem atI_nat {α : Type} (xs : List α) (i : Nat) : L2.atI xs (i : Int) = xs[i]? := by
  unfold L2.atI L2.ixN
  by_cases h : i < xs.length
  · rw [if_pos (by omega), if_pos (by omega)]
    rfl
  · rw [if_pos (by omega), if_neg (by omega)]
    rw [List.getElem?_eq_none (by omega)]
    rfl
abbrev E9 (n : Nat) (p : Pol) (x2 x3 x4 x5 x6 x7 x8 : Sl) : En := [.fz (.int (n : Int)), .fz (.tuple (tP p)), x2, x3, x4, x5, x6, x7, x8]
theorem tP_get (p : Pol) (i : Nat) : (tP p)[i]? = p[i]?.map pD := by unfold tP; rw [List.getElem?_map]
/-- the first test: all are terms -/
theorem check1 {n : Nat} (hn : n ≤ 1000) {p : Pol} (T : TermP n p) : evComp (evI tupOf (evName 1)) ([(("term" : Str), 8)].map (·.2)) (stName 8) (evC (.bool true)) (evCall F_is_term (evCons (evName 8) (evCons (evName 0) evNil))) (E9 n p .emp .emp .emp .emp .emp .emp .emp) = .ok (.ow (.list (p.map fun _ => .bool true))) (E9 n p .emp .emp .emp .emp .emp .emp .emp) := by
  refine evComp_map (g := fun _ => .bool true) (items := tP p) (e1 := E9 n p .emp .emp .emp .emp .emp .emp .emp) rfl (by unfold tP; rw [List.length_map]; have := T.sz; omega) (fun d hd => ?_) rfl (by unfold tP; rw [List.map_map]; rfl)
  obtain ⟨q, hq, rfl⟩ := List.mem_map.mp hd
  refine ⟨E9 n p .emp .emp .emp .emp .emp .emp (.fz (pD q)), E9 n p .emp .emp .emp .emp .emp .emp (.fz (pD q)), .fz (.bool true), rfl, ?_, rfl, rfl⟩
  simp only [evSet, evIfS, evDPut, evRet, evDrop, evT, evAnd, evOr, evNot, evIf, evI, evIA, evCons, evNil, evTup, evLst, evDict0, evB, evBO, evBN, evCall, ev1, ev2, ev2L, evGet1, evGet2, evName, evC, R.bnd, R.bndA, R.bndI, R.bndO, RA.bnd, RA.bndA, R.lift, liftA, slD, slOf, List.getElem?_cons_zero, List.getElem?_cons_succ, List.set_cons_zero, List.set_cons_succ, stName, stTup, stCons, stNil, Option.bind_some, List.length_cons, List.length_nil, if_true, F_is_term_ok (T.len q hq) hn (T.nn q hq) (T.nz q hq)]
/-- the second one: they ascend -/
def dn (p : Pol) (i : Nat) : Bool := match p[i]?, p[i - 1]? with
  | some a, some b => !ltM b.1 a.1
  | _, _ => false
theorem check2 {n : Nat} {p : Pol} (hl : p.length ≤ 1000) : evComp (evIA rng2Of (evCons (evC (.int 1)) (evCons (evBN gLen1 1) evNil))) ([(("at" : Str), 6)].map (·.2)) (stName 6) (evC (.bool true)) (ev2 gLeD (ev2 gIx (ev2L gIx 1 (evName 6)) (evC (.int 0))) (ev2 gIx (ev2L gIx 1 (ev2 gSub (evName 6) (evC (.int 1)))) (evC (.int 0)))) (E9 n p .emp .emp .emp .emp .emp .emp .emp) = .ok (.ow (.list ((List.range (p.length - 1)).map fun i => .bool (dn p (i + 1))))) (E9 n p .emp .emp .emp .emp .emp .emp .emp) := by
  have g0 : gLen1 (.tuple (tP p)) = some (.int (p.length : Int)) := by
    show some (PyData.int ((tP p).length : Nat)) = _
    unfold tP
    rw [List.length_map]
  refine evComp_map (g := fun d => match d with | .int i => .bool (dn p i.toNat) | _ => .none) (items := rngD 1 (p.length - 1)) (e1 := E9 n p .emp .emp .emp .emp .emp .emp .emp) ?_ (by unfold rngD; rw [List.length_map, List.length_range]; omega) (fun d hd => ?_) rfl ?_
  · have g1 : rng2Of [.int 1, .int (p.length : Int)] = some (rngD 1 (p.length - 1)) := by
      unfold rng2Of
      simp only []
      rw [if_pos (by omega)]
      congr 2
      omega
    exact evIA_ok (evCons_ok (v := .fz (.int 1)) rfl (evCons_ok (v := .fz (.int (p.length : Int))) (evBN_ok (d := .tuple (tP p)) rfl g0) evNil_ok)) g1
  · obtain ⟨i, hi, rfl⟩ := List.mem_map.mp hd
    rw [List.mem_range] at hi
    obtain ⟨a, ha⟩ : ∃ a, p[i + 1]? = some a := ⟨_, List.getElem?_eq_getElem (by omega)⟩
    obtain ⟨b, hb⟩ : ∃ b, p[i]? = some b := ⟨_, List.getElem?_eq_getElem (by omega)⟩
    refine ⟨E9 n p .emp .emp .emp .emp (.fz (.int (1 + (i : Nat)))) .emp .emp, E9 n p .emp .emp .emp .emp (.fz (.int (1 + (i : Nat)))) .emp .emp, .fz (.bool (!ltM b.1 a.1)), rfl, ?_, ?_, rfl⟩
    · have g1 : gIx (.tuple (tP p)) (.int (1 + (i : Nat))) = some (pD a) := by
        show L2.atI (tP p) (1 + (i : Nat)) = _
        rw [show (1 : Int) + (i : Nat) = ((i + 1 : Nat) : Int) by omega, atI_nat, tP_get, ha]
        rfl
      have g2 : L3.gSub (.int (1 + (i : Nat))) (.int 1) = some (.int (i : Nat)) := by
        unfold L3.gSub gI
        simp only []
        congr 2
        omega
      have g3 : gIx (.tuple (tP p)) (.int (i : Nat)) = some (pD b) := by
        show L2.atI (tP p) (i : Nat) = _
        rw [atI_nat, tP_get, hb]
        rfl
      have g4 : gIx (pD a) (.int 0) = some (tM a.1) := rfl
      have g5 : gIx (pD b) (.int 0) = some (tM b.1) := rfl
      simp only [evSet, evIfS, evDPut, evRet, evDrop, evT, evAnd, evOr, evNot, evIf, evI, evIA, evCons, evNil, evTup, evLst, evDict0, evB, evBO, evBN, evCall, ev1, ev2, ev2L, evGet1, evGet2, evName, evC, R.bnd, R.bndA, R.bndI, R.bndO, RA.bnd, RA.bndA, R.lift, liftA, slD, slOf, List.getElem?_cons_zero, List.getElem?_cons_succ, List.set_cons_zero, List.set_cons_succ, stName, stTup, stCons, stNil, Option.bind_some, List.length_cons, List.length_nil, if_true, g1, g2, g3, g4, g5, leD_tM]
    · show PyData.bool _ = PyData.bool (dn p (1 + (i : Nat) : Int).toNat)
      rw [show (1 + (i : Nat) : Int).toNat = i + 1 by omega]
      unfold dn
      rw [show i + 1 - 1 = i by omega, ha, hb]
  · unfold rngD
    rw [List.map_map]
    apply List.map_congr_left
    intro i _
    show PyData.bool (dn p (1 + (i : Nat) : Int).toNat) = _
    rw [show (1 + (i : Nat) : Int).toNat = i + 1 by omega]
theorem dn_asc {p : Pol} (h : p.Pairwise fun a b => ltM a.1 b.1 = true) (i : Nat) : dn p (i + 1) = false := by
  unfold dn
  rw [show i + 1 - 1 = i by omega]
  cases ha : p[i + 1]? with
  | none => rfl
  | some a =>
    cases hb : p[i]? with
    | none => rfl
    | some b =>
      have l1 := (List.getElem?_eq_some_iff.mp ha)
      have l2 := (List.getElem?_eq_some_iff.mp hb)
      obtain ⟨l1, rfl⟩ := l1
      obtain ⟨l2, rfl⟩ := l2
      show (!ltM (p[i]).1 (p[i + 1]).1) = false
      rw [(List.pairwise_iff_getElem.mp h) i (i + 1) l2 l1 (by omega)]
      rfl
/-- the third one: their sums -/
theorem check3 {n : Nat} {p : Pol} (hl : p.length ≤ 1000) : evComp (evI tupOf (evName 1)) ([(("exponents" : Str), 2), (("_" : Str), 7)].map (·.2)) (stTup 2 (stCons (stName 2) (stCons (stName 7) stNil))) (evC (.bool true)) (ev2 gGt (evB gSumT (evCons (evName 2) evNil)) (evC (.int 8))) (E9 n p .emp .emp .emp .emp .emp .emp .emp) = .ok (.ow (.list (p.map fun q => .bool (decide (8 < q.1.sum))))) (E9 n p .emp .emp .emp .emp .emp .emp .emp) := by
  refine evComp_map (g := fun d => match d with | .tuple [.tuple ds, _] => (match intsOf ds with | some m => .bool (decide (8 < m.sum)) | none => .none) | _ => .none) (items := tP p) (e1 := E9 n p .emp .emp .emp .emp .emp .emp .emp) rfl (by unfold tP; rw [List.length_map]; omega) (fun d hd => ?_) rfl ?_
  · obtain ⟨q, hq, rfl⟩ := List.mem_map.mp hd
    refine ⟨E9 n p (.fz (tM q.1)) .emp .emp .emp .emp (.fz (.int q.2)) .emp, E9 n p (.fz (tM q.1)) .emp .emp .emp .emp (.fz (.int q.2)) .emp, .fz (.bool (decide (8 < q.1.sum))), rfl, ?_, ?_, rfl⟩
    · have g1 : gSumT [tM q.1] = some (.int q.1.sum) := by
        show (intsOf (q.1.map .int)).map _ = _
        rw [intsOf_ints]
        rfl
      have g2 : gGt (.int q.1.sum) (.int 8) = some (.bool (decide (8 < q.1.sum))) := rfl
      simp only [evSet, evIfS, evDPut, evRet, evDrop, evT, evAnd, evOr, evNot, evIf, evI, evIA, evCons, evNil, evTup, evLst, evDict0, evB, evBO, evBN, evCall, ev1, ev2, ev2L, evGet1, evGet2, evName, evC, R.bnd, R.bndA, R.bndI, R.bndO, RA.bnd, RA.bndA, R.lift, liftA, slD, slOf, List.getElem?_cons_zero, List.getElem?_cons_succ, List.set_cons_zero, List.set_cons_succ, stName, stTup, stCons, stNil, Option.bind_some, List.length_cons, List.length_nil, if_true, g1, g2]
    · show _ = (match intsOf (q.1.map .int) with | some m => PyData.bool (decide (8 < m.sum)) | none => .none)
      rw [intsOf_ints]
      rfl
  · unfold tP
    rw [List.map_map]
    apply List.map_congr_left
    intro q _
    show (match intsOf (q.1.map .int) with | some m => PyData.bool (decide (8 < m.sum)) | none => .none) = _
    rw [intsOf_ints]
theorem gAny_map {α : Type} (f : α → Bool) (l : List α) : gAny [.list (l.map fun x => .bool (f x))] = some (.bool (l.any f)) := by
  unfold gAny
  simp only []
  rw [boolsOf_map]
  simp
theorem gAll_map {α : Type} (f : α → Bool) (l : List α) : gAll [.list (l.map fun x => .bool (f x))] = some (.bool (l.all f)) := by
  unfold gAll
  simp only []
  rw [boolsOf_map]
  simp
/-- tuple([exponents[at] for at in order]) -/
theorem ev_act {n : Nat} {p : Pol} {m : Mon} {s : List Int} {x3 x4 x6 x7 x8 : Sl} (hs : ∀ i ∈ s, 0 ≤ i ∧ i < m.length) (hl : s.length ≤ 1000) : evComp (evI tupOf (evName 5)) ([(("at" : Str), 6)].map (·.2)) (stName 6) (evC (.bool true)) (ev2L gIx 2 (evName 6)) (E9 n p (.fz (tM m)) x3 x4 (.fz (tM s)) x6 x7 x8) = .ok (.ow (.list ((act s m).map .int))) (E9 n p (.fz (tM m)) x3 x4 (.fz (tM s)) (keepFz (some x6)) x7 x8) := by
  refine evComp_map (g := fun d => match d with | .int i => .int (m.getD i.toNat 0) | _ => .none) (items := s.map .int) (e1 := E9 n p (.fz (tM m)) x3 x4 (.fz (tM s)) x6 x7 x8) rfl (by rw [List.length_map]; omega) (fun d hd => ?_) rfl ?_
  · obtain ⟨i, hi, rfl⟩ := List.mem_map.mp hd
    refine ⟨E9 n p (.fz (tM m)) x3 x4 (.fz (tM s)) (.fz (.int i)) x7 x8, E9 n p (.fz (tM m)) x3 x4 (.fz (tM s)) (.fz (.int i)) x7 x8, .fz (.int (m.getD i.toNat 0)), rfl, ?_, rfl, rfl⟩
    have g1 : gIx (tM m) (.int i) = some (.int (m.getD i.toNat 0)) := by
      show L2.atI (m.map PyData.int) i = _
      obtain ⟨h1, h2⟩ := hs i hi
      rw [show i = ((i.toNat : Nat) : Int) by omega, atI_nat, List.getElem?_map, Int.toNat_natCast, List.getD_eq_getElem?_getD, List.getElem?_eq_getElem (by omega)]
      rfl
    simp only [evSet, evIfS, evDPut, evRet, evDrop, evT, evAnd, evOr, evNot, evIf, evI, evIA, evCons, evNil, evTup, evLst, evDict0, evB, evBO, evBN, evCall, ev1, ev2, ev2L, evGet1, evGet2, evName, evC, R.bnd, R.bndA, R.bndI, R.bndO, RA.bnd, RA.bndA, R.lift, liftA, slD, slOf, List.getElem?_cons_zero, List.getElem?_cons_succ, List.set_cons_zero, List.set_cons_succ, stName, stTup, stCons, stNil, Option.bind_some, List.length_cons, List.length_nil, if_true, g1]
  · unfold act
    rw [List.map_map, List.map_map]
    rfl
theorem ords_lt : ∀ n ∈ [1, 2, 3, 4], ∀ s ∈ ords n, ∀ i ∈ s, 0 ≤ i ∧ i < (n : Int) := by decide +kernel
abbrev bodyO : En → O := evIfS (ev2 gNeS (evGet1 3 (evB gTup (evCons (evComp (evI tupOf (evName 5)) ([(("at" : Str), 6)].map (·.2)) (stName 6) (evC (.bool true)) (ev2L gIx 2 (evName 6))) evNil))) (evName 4)) (evRaise "OutOfRange") evNx
theorem bodyO_eq {n : Nat} (hn : n ∈ [1, 2, 3, 4]) {p : Pol} (ne : NeP p) {m : Mon} {c : Int} (lm : m.length = n) {s : List Int} (hs : s ∈ ords n) {x6 x7 x8 : Sl} : bodyO (E9 n p (.fz (tM m)) (.ow (dP p)) (.fz (.int c)) (.fz (tM s)) x6 x7 x8) =
    if getP p (act s m) = some c then .nx (E9 n p (.fz (tM m)) (.ow (dP p)) (.fz (.int c)) (.fz (tM s)) (keepFz (some x6)) x7 x8) else .exn "OutOfRange" (E9 n p (.fz (tM m)) (.ow (dP p)) (.fz (.int c)) (.fz (tM s)) (keepFz (some x6)) x7 x8) := by
  have h1 := ev_act (n := n) (p := p) (m := m) (s := s) (x3 := .ow (dP p)) (x4 := .fz (.int c)) (x6 := x6) (x7 := x7) (x8 := x8) (fun i hi => by rw [lm]; exact ords_lt n hn s hs i hi) (by rw [ords_length hs]; simp at hn; omega)
  have g1 : gTup [.list ((act s m).map .int)] = some (tM (act s m)) := rfl
  have lne : act s m ≠ [] := ne_of_len (act_length (ords_length hs)) hn
  have g2 : gNeS ((dGet (dL p) (kM (act s m))).getD .none) (.int c) = some (.bool (!decide (getP p (act s m) = some c))) := by
    rw [dGet_dL ne]
    cases getP p (act s m) with
    | none => rfl
    | some d =>
      show some (PyData.bool (!decide (d = c))) = _
      rw [Option.some.injEq]
      congr 2
      by_cases z : d = c
      · rw [decide_eq_true z, decide_eq_true (by rw [z])]
      · rw [decide_eq_false z, decide_eq_false (fun y => z (Option.some.inj y))]
  unfold bodyO
  have e : ev2 gNeS (evGet1 3 (evB gTup (evCons (evComp (evI tupOf (evName 5)) ([(("at" : Str), 6)].map (·.2)) (stName 6) (evC (.bool true)) (ev2L gIx 2 (evName 6))) evNil))) (evName 4) (E9 n p (.fz (tM m)) (.ow (dP p)) (.fz (.int c)) (.fz (tM s)) x6 x7 x8) = .ok (.fz (.bool (!decide (getP p (act s m) = some c)))) (E9 n p (.fz (tM m)) (.ow (dP p)) (.fz (.int c)) (.fz (tM s)) (keepFz (some x6)) x7 x8) := by
    refine ev2_ok (v := .fz ((dGet (dL p) (kM (act s m))).getD .none)) (w := .fz (.int c)) (evGet1_ok (kvs := dL p) (kvs' := dL p) (v := .fz (tM (act s m))) (k := kM (act s m)) (e1 := E9 n p (.fz (tM m)) (.ow (dP p)) (.fz (.int c)) (.fz (tM s)) (keepFz (some x6)) x7 x8) rfl ?_ rfl (keyOfT_tM lne) rfl) rfl g2
    exact evB_ok (evCons_ok h1 evNil_ok) g1
  by_cases z : getP p (act s m) = some c
  · rw [if_pos z, evIfS_f (e1 := E9 n p (.fz (tM m)) (.ow (dP p)) (.fz (.int c)) (.fz (tM s)) (keepFz (some x6)) x7 x8)]
    · rfl
    · rw [e, decide_eq_true z]; rfl
  · rw [if_neg z, evIfS_t (e1 := E9 n p (.fz (tM m)) (.ow (dP p)) (.fz (.int c)) (.fz (tM s)) (keepFz (some x6)) x7 x8)]
    · rfl
    · rw [e, decide_eq_false z]; rfl
/-- the loop over the orders -/
theorem loopO {n : Nat} (hn : n ∈ [1, 2, 3, 4]) {p : Pol} (ne : NeP p) {m : Mon} {c : Int} (lm : m.length = n) : ∀ (ss : List (List Int)) (x5 x6 x7 x8 : Sl), (∀ s ∈ ss, s ∈ ords n) → ∃ y5 y6,
    evLoop (stName 5) bodyO (ss.map tM) (E9 n p (.fz (tM m)) (.ow (dP p)) (.fz (.int c)) x5 x6 x7 x8) = (if ∀ s ∈ ss, getP p (act s m) = some c then .nx (E9 n p (.fz (tM m)) (.ow (dP p)) (.fz (.int c)) y5 y6 x7 x8) else .exn "OutOfRange" (E9 n p (.fz (tM m)) (.ow (dP p)) (.fz (.int c)) y5 y6 x7 x8))
  | [], x5, x6, x7, x8, _ => ⟨x5, x6, by rw [if_pos (fun s hs => by cases hs)]; rfl⟩
  | s :: ss, x5, x6, x7, x8, h => by
    have b := bodyO_eq hn ne (c := c) lm (h s List.mem_cons_self) (x6 := x6) (x7 := x7) (x8 := x8)
    by_cases z : getP p (act s m) = some c
    · rw [if_pos z] at b
      obtain ⟨y5, y6, e⟩ := loopO hn ne (c := c) lm ss (.fz (tM s)) (keepFz (some x6)) x7 x8 fun s hs => h s (List.mem_cons_of_mem _ hs)
      refine ⟨y5, y6, (evLoop_step (e1 := E9 n p (.fz (tM m)) (.ow (dP p)) (.fz (.int c)) (.fz (tM s)) x6 x7 x8) rfl b).trans (e.trans ?_)⟩
      by_cases y : ∀ s ∈ ss, getP p (act s m) = some c
      · rw [if_pos y, if_pos]
        intro t ht
        rcases List.mem_cons.mp ht with rfl | ht
        · exact z
        · exact y t ht
      · rw [if_neg y, if_neg fun w => y fun t ht => w t (List.mem_cons_of_mem _ ht)]
    · rw [if_neg z] at b
      refine ⟨.fz (tM s), keepFz (some x6), ?_⟩
      rw [if_neg fun w => z (w s List.mem_cons_self)]
      exact evLoop_exn (e1 := E9 n p (.fz (tM m)) (.ow (dP p)) (.fz (.int c)) (.fz (tM s)) x6 x7 x8) rfl b
theorem ordsI {n : Nat} (hn : n ∈ [1, 2, 3, 4]) {p : Pol} {x2 x3 x4 x5 x6 x7 x8 : Sl} : evI L3.listOf (evCall F_orders (evCons (evName 0) evNil)) (E9 n p x2 x3 x4 x5 x6 x7 x8) = .ok ((ords n).map tM) (E9 n p x2 x3 x4 x5 x6 x7 x8) := by
  have h1 : evCons (evName 0) evNil (E9 n p x2 x3 x4 x5 x6 x7 x8) = .ok [.int (n : Int)] (E9 n p x2 x3 x4 x5 x6 x7 x8) := rfl
  have h2 := evCall_ok h1 (F_orders_ok n hn)
  have h3 : L3.listOf (datOf (.fz (.list ((ords n).map tM)))) = some ((ords n).map tM) := by
    generalize (ords n).map tM = l
    rfl
  exact evI_ok h2 h3
theorem loopT {n : Nat} (hn : n ∈ [1, 2, 3, 4]) {p : Pol} (ne : NeP p) : ∀ (qs : Pol) (x2 x4 x5 x6 x7 x8 : Sl), (∀ q ∈ qs, q.1.length = n) → ∃ y2 y4 y5 y6,
    evLoop (stTup 2 (stCons (stName 2) (stCons (stName 4) stNil))) (evFor (evI L3.listOf (evCall F_orders (evCons (evName 0) evNil))) (stName 5) bodyO) (tP qs) (E9 n p x2 (.ow (dP p)) x4 x5 x6 x7 x8) = (if ∀ q ∈ qs, ∀ s ∈ ords n, getP p (act s q.1) = some q.2 then .nx (E9 n p y2 (.ow (dP p)) y4 y5 y6 x7 x8) else .exn "OutOfRange" (E9 n p y2 (.ow (dP p)) y4 y5 y6 x7 x8))
  | [], x2, x4, x5, x6, x7, x8, _ => ⟨x2, x4, x5, x6, by rw [if_pos (fun s hs => by cases hs)]; rfl⟩
  | q :: qs, x2, x4, x5, x6, x7, x8, h => by
    obtain ⟨y5, y6, b⟩ := loopO hn ne (c := q.2) (h q List.mem_cons_self) (ords n) x5 x6 x7 x8 fun s hs => hs
    have b := (evFor_eq (st := stName 5) (body := bodyO) (ordsI hn (p := p) (x2 := .fz (tM q.1)) (x3 := .ow (dP p)) (x4 := .fz (.int q.2)) (x5 := x5) (x6 := x6) (x7 := x7) (x8 := x8))).trans b
    by_cases z : ∀ s ∈ ords n, getP p (act s q.1) = some q.2
    · rw [if_pos z] at b
      obtain ⟨z2, z4, z5, z6, e⟩ := loopT hn ne qs (.fz (tM q.1)) (.fz (.int q.2)) y5 y6 x7 x8 fun q hq => h q (List.mem_cons_of_mem _ hq)
      refine ⟨z2, z4, z5, z6, (evLoop_step (e1 := E9 n p (.fz (tM q.1)) (.ow (dP p)) (.fz (.int q.2)) x5 x6 x7 x8) rfl b).trans (e.trans ?_)⟩
      by_cases y : ∀ q ∈ qs, ∀ s ∈ ords n, getP p (act s q.1) = some q.2
      · rw [if_pos y, if_pos]
        intro t ht
        rcases List.mem_cons.mp ht with rfl | ht
        · exact z
        · exact y t ht
      · rw [if_neg y, if_neg fun w => y fun t ht => w t (List.mem_cons_of_mem _ ht)]
    · rw [if_neg z] at b
      refine ⟨.fz (tM q.1), .fz (.int q.2), y5, y6, ?_⟩
      rw [if_neg fun w => z (w q List.mem_cons_self)]
      exact evLoop_exn (e1 := E9 n p (.fz (tM q.1)) (.ow (dP p)) (.fz (.int q.2)) x5 x6 x7 x8) rfl b
/-- check_many: of what ascends -/
theorem F_check_many_eq {n : Nat} (hn : n ∈ [1, 2, 3, 4]) {p : Pol} (T : TermP n p) (asc : p.Pairwise fun a b => ltM a.1 b.1 = true) :
    F_check_many [.int (n : Int), .tuple (tP p)] = if (∀ q ∈ p, q.1.sum ≤ 8) ∧ ∀ q ∈ p, ∀ s ∈ ords n, getP p (act s q.1) = some q.2 then .ok (.fz .none) else .exn "OutOfRange" := by
  have n1000 : n ≤ 1000 := by simp at hn; omega
  have ne : NeP p := fun q hq => ne_of_len (T.len q hq) hn
  have nd : (keys p).Nodup := by
    unfold keys List.Nodup
    rw [List.pairwise_map]
    exact asc.imp fun h z => by rw [z, ltM_irrefl] at h; cases h
  show outF (ev_check_many (E9 n p .emp .emp .emp .emp .emp .emp .emp)) = _
  unfold ev_check_many
  refine out_seq (e1 := E9 n p .emp .emp .emp .emp .emp .emp .emp) ?_ ?_
  · have g1 : gIsi "tuple" (.tuple (tP p)) = some (.bool true) := rfl
    have g2 := gAll_map (fun _ => true) p
    have g3 := check1 n1000 T
    refine evIfS_ff (evT_ok ?_)
    refine (evOr_f (e1 := E9 n p .emp .emp .emp .emp .emp .emp .emp) ?_).trans ?_
    · exact evNot_ok (b := true) (evT_ok (ev1_ok (v := .fz (.tuple (tP p))) rfl g1))
    · refine evNot_ok (b := true) (evT_ok ?_)
      refine evB_ok (evCons_ok g3 evNil_ok) ?_
      rw [show datOf (Vl.ow (.list (p.map fun _ => PyData.bool true))) = .list (p.map fun _ => .bool true) from rfl, g2]
      simp
  refine out_seq (e1 := E9 n p .emp .emp .emp .emp .emp .emp .emp) ?_ ?_
  · refine evIfS_ff (evT_ok (evB_ok (evCons_ok (check2 T.sz) evNil_ok) ?_))
    show gAny [.list ((List.range (p.length - 1)).map fun i => .bool (dn p (i + 1)))] = _
    rw [gAny_map fun i => dn p (i + 1)]
    congr 2
    rw [List.any_eq_false]
    intro i _
    rw [dn_asc asc]
    decide
  by_cases hs : ∀ q ∈ p, q.1.sum ≤ 8
  · refine out_seq (e1 := E9 n p .emp .emp .emp .emp .emp .emp .emp) ?_ ?_
    · refine evIfS_ff (evT_ok (evB_ok (evCons_ok (check3 T.sz) evNil_ok) ?_))
      show gAny [.list (p.map fun q => .bool (decide (8 < q.1.sum)))] = _
      rw [gAny_map fun q : Mon × Int => decide (8 < q.1.sum)]
      congr 2
      rw [List.any_eq_false]
      intro q hq
      have := hs q hq
      simp
      omega
    refine out_seq (e1 := E9 n p .emp (.ow (dP p)) .emp .emp .emp .emp .emp) ?_ ?_
    · exact evSet_ok (v := .ow (dP p)) (evBO_ok (evCons_ok (v := .fz (.tuple (tP p))) rfl evNil_ok) (dictT_ok ne nd)) rfl
    · obtain ⟨y2, y4, y5, y6, h⟩ := loopT hn ne p .emp .emp .emp .emp .emp .emp T.len
      show outF (evFor (evI tupOf (evName 1)) (stTup 2 (stCons (stName 2) (stCons (stName 4) stNil))) (evFor (evI L3.listOf (evCall F_orders (evCons (evName 0) evNil))) (stName 5) bodyO) (E9 n p .emp (.ow (dP p)) .emp .emp .emp .emp .emp)) = _
      have h0 : evI tupOf (evName 1) (E9 n p .emp (.ow (dP p)) .emp .emp .emp .emp .emp) = .ok (tP p) (E9 n p .emp (.ow (dP p)) .emp .emp .emp .emp .emp) := rfl
      rw [evFor_eq h0, h]
      by_cases z : ∀ q ∈ p, ∀ s ∈ ords n, getP p (act s q.1) = some q.2
      · rw [if_pos z, if_pos ⟨hs, z⟩]; rfl
      · rw [if_neg z, if_neg fun w => z w.2]; rfl
  · rw [if_neg fun w => hs w.1]
    rw [evSeq_exn (e1 := E9 n p .emp .emp .emp .emp .emp .emp .emp) (c := "OutOfRange")]
    · rfl
    · rw [evIfS_t (e1 := E9 n p .emp .emp .emp .emp .emp .emp .emp)]
      · rfl
      · refine evT_ok (evB_ok (evCons_ok (check3 T.sz) evNil_ok) ?_)
        show gAny [.list (p.map fun q => .bool (decide (8 < q.1.sum)))] = _
        rw [gAny_map fun q : Mon × Int => decide (8 < q.1.sum)]
        congr 2
        rw [List.any_eq_true]
        refine Classical.byContradiction fun z => hs fun q hq => Classical.byContradiction fun y => z ⟨q, hq, decide_eq_true (by omega)⟩
end EL
set_option Elab.async false
set_option linter.all false
set_option maxRecDepth 100000
set_option exponentiation.threshold 5000
namespace EL
open PySem PySem.Spec PyProof.Rows L2 LamX L3 EP
/-! elementary: the search -/
theorem nz4 {n : Nat} (hn : n ∈ [1, 2, 3, 4]) : 1 ≤ n ∧ n ≤ 4 := by simp at hn; omega
theorem rng1_ok (n : Nat) (h : n ≤ 1000) : rng1Of [.int (n : Int)] = some (rngD 0 n) := by
  unfold rng1Of
  simp only []
  rw [if_pos (by omega), Int.toNat_natCast]
abbrev E13 (n : Nat) (d : PyData) (x2 x3 x4 x5 x6 x7 x8 x9 x10 x11 x12 : Sl) : En := [.fz (.int (n : Int)), .fz d, x2, x3, x4, x5, x6, x7, x8, x9, x10, x11, x12]
/-- place -/
theorem ev_place {n : Nat} (hn : n ∈ [1, 2, 3, 4]) {d : PyData} {k : Mon} (lk : k.length = n) {x2 x3 x5 x6 x7 x8 x9 x10 x11 x12 : Sl} : evSet 7 (evB gTup (evCons (evComp (evIA rng1Of (evCons (evName 0) evNil)) ([(("at" : Str), 6)].map (·.2)) (stName 6) (evC (.bool true)) (ev2 gSub (ev2L gIx 4 (evName 6)) (evIf (ev2 gLt (ev2 gAdd (evName 6) (evC (.int 1))) (evName 0)) (ev2L gIx 4 (ev2 gAdd (evName 6) (evC (.int 1)))) (evC (.int 0))))) evNil)) (E13 n d x2 x3 (.fz (tM k)) x5 x6 x7 x8 x9 x10 x11 x12) = .nx (E13 n d x2 x3 (.fz (tM k)) x5 (keepFz (some x6)) (.fz (tM (placeM n k))) x8 x9 x10 x11 x12) := by
  have h14 := nz4 hn
  have c : evComp (evIA rng1Of (evCons (evName 0) evNil)) ([(("at" : Str), 6)].map (·.2)) (stName 6) (evC (.bool true)) (ev2 gSub (ev2L gIx 4 (evName 6)) (evIf (ev2 gLt (ev2 gAdd (evName 6) (evC (.int 1))) (evName 0)) (ev2L gIx 4 (ev2 gAdd (evName 6) (evC (.int 1)))) (evC (.int 0)))) (E13 n d x2 x3 (.fz (tM k)) x5 x6 x7 x8 x9 x10 x11 x12) = .ok (.ow (.list ((placeM n k).map .int))) (E13 n d x2 x3 (.fz (tM k)) x5 (keepFz (some x6)) x7 x8 x9 x10 x11 x12) := by
    have h0 : evIA rng1Of (evCons (evName 0) evNil) (E13 n d x2 x3 (.fz (tM k)) x5 x6 x7 x8 x9 x10 x11 x12) = .ok (rngD 0 n) (E13 n d x2 x3 (.fz (tM k)) x5 x6 x7 x8 x9 x10 x11 x12) := evIA_ok (evCons_ok (v := .fz (.int (n : Int))) rfl evNil_ok) (rng1_ok n (by omega))
    refine evComp_map (g := fun d => match d with | .int i => .int (k.getD i.toNat 0 - if i.toNat + 1 < n then k.getD (i.toNat + 1) 0 else 0) | _ => .none) h0 (by rw [rngD_length]; omega) (fun d' hd => ?_) rfl ?_
    · obtain ⟨i, hi, rfl⟩ := List.mem_map.mp hd
      rw [List.mem_range] at hi
      have gx : ∀ i : Nat, i < n → gIx (tM k) (.int (i : Int)) = some (.int (k.getD i 0)) := fun i hi => by
        show L2.atI (k.map PyData.int) (i : Nat) = _
        rw [atI_nat, List.getElem?_map, List.getD_eq_getElem?_getD, List.getElem?_eq_getElem (by omega)]
        rfl
      have g2 : gAdd (.int (0 + (i : Nat))) (.int 1) = some (.int ((i + 1 : Nat) : Int)) := congrArg (fun z => some (PyData.int z)) (show (0 + (i : Nat) : Int) + 1 = ((i + 1 : Nat) : Int) by omega)
      refine ⟨E13 n d x2 x3 (.fz (tM k)) x5 (.fz (.int (0 + (i : Nat)))) x7 x8 x9 x10 x11 x12, E13 n d x2 x3 (.fz (tM k)) x5 (.fz (.int (0 + (i : Nat)))) x7 x8 x9 x10 x11 x12, .fz (.int (k.getD i 0 - if i + 1 < n then k.getD (i + 1) 0 else 0)), rfl, ?_, ?_, rfl⟩
      · have gs : ∀ a b : Int, L3.gSub (datOf (.fz (.int a))) (datOf (.fz (.int b))) = some (.int (a - b)) := fun _ _ => rfl
        refine ev2_ok (v := .fz (.int (k.getD i 0))) (w := .fz (.int (if i + 1 < n then k.getD (i + 1) 0 else 0))) (e1 := E13 n d x2 x3 (.fz (tM k)) x5 (.fz (.int (0 + (i : Nat)))) x7 x8 x9 x10 x11 x12) ?_ ?_ (gs _ _)
        · refine ev2L_ok (d0 := tM k) (d1 := tM k) (w := .fz (.int (0 + (i : Nat)))) rfl rfl rfl ?_
          rw [show datOf (.fz (.int (0 + (i : Nat)))) = .int ((i : Nat) : Int) by show PyData.int _ = _; rw [Int.zero_add]]
          exact gx i hi
        · have ga : ev2 gAdd (evName 6) (evC (.int 1)) (E13 n d x2 x3 (.fz (tM k)) x5 (.fz (.int (0 + (i : Nat)))) x7 x8 x9 x10 x11 x12) = .ok (.fz (.int ((i + 1 : Nat) : Int))) (E13 n d x2 x3 (.fz (tM k)) x5 (.fz (.int (0 + (i : Nat)))) x7 x8 x9 x10 x11 x12) := ev2_ok (v := .fz (.int (0 + (i : Nat)))) (w := .fz (.int 1)) rfl rfl g2
          by_cases z : i + 1 < n
          · rw [if_pos z, evIf_t (e1 := E13 n d x2 x3 (.fz (tM k)) x5 (.fz (.int (0 + (i : Nat)))) x7 x8 x9 x10 x11 x12)]
            · exact ev2L_ok (d0 := tM k) (d1 := tM k) rfl ga rfl (gx (i + 1) z)
            · refine ev2_ok ga (w := .fz (.int (n : Int))) rfl ?_
              show some (PyData.bool (decide (((i + 1 : Nat) : Int) < (n : Int)))) = _
              rw [decide_eq_true (by omega)]
          · rw [if_neg z, evIf_f (e1 := E13 n d x2 x3 (.fz (tM k)) x5 (.fz (.int (0 + (i : Nat)))) x7 x8 x9 x10 x11 x12)]
            · rfl
            · refine ev2_ok ga (w := .fz (.int (n : Int))) rfl ?_
              show some (PyData.bool (decide (((i + 1 : Nat) : Int) < (n : Int)))) = _
              rw [decide_eq_false (by omega)]
      · show PyData.int _ = PyData.int (k.getD (0 + (i : Nat) : Int).toNat 0 - if (0 + (i : Nat) : Int).toNat + 1 < n then k.getD ((0 + (i : Nat) : Int).toNat + 1) 0 else 0)
        rw [show (0 + (i : Nat) : Int).toNat = i by omega]
    · unfold rngD placeM
      rw [List.map_map, List.map_map]
      apply List.map_congr_left
      intro i _
      show PyData.int (k.getD (0 + (i : Nat) : Int).toNat 0 - if (0 + (i : Nat) : Int).toNat + 1 < n then k.getD ((0 + (i : Nat) : Int).toNat + 1) 0 else 0) = _
      rw [show (0 + (i : Nat) : Int).toNat = i by omega]
      rfl
  exact evSet_ok (v := .fz (tM (placeM n k))) (evB_ok (evCons_ok c evNil_ok) rfl) rfl
/-! the product of one term -/
def Hold (x : Sl) (d : PyData) : Prop := x = .fz d ∨ x = .ow d

theorem sm_scale {c : Int} {a : Pol} (hc : c.natAbs < 2 ^ 1000) (ha : ∀ q ∈ a, 0 < q.2) (hb : ∀ q ∈ a, q.2 ≤ 6 ^ 8) : ∀ q ∈ scale c a, Sm q.2 := by
  intro q hq
  obtain ⟨r, hr, rfl⟩ := List.mem_map.mp hq
  have h1 := ha r hr
  have h2 := hb r hr
  show (c * r.2).natAbs < 2 ^ 2000
  rw [Int.natAbs_mul]
  have h3 : r.2.natAbs ≤ 6 ^ 8 := by
    have : ((6 ^ 8 : Nat) : Int) = 6 ^ 8 := by decide
    omega
  exact Nat.lt_of_le_of_lt (Nat.mul_le_mul (Nat.le_of_lt hc) h3) (by decide)
theorem Good.le {n : Nat} {w B : Int} {x0 : Mon} {a : Pol} (G : Good n w x0 B a) : ∀ q ∈ a, q.2 ≤ B := fun q hq => by
  have := G.bd q.1
  rw [cf_of_mem G.nd (c := q.2) hq] at this
  exact this
theorem times_e {n : Nat} (hn : n ∈ [1, 2, 3, 4]) {c w B : Int} {x0 : Mon} {a : Pol} {j : Nat} (hj : j < n) (hc : c.natAbs < 2 ^ 1000) (G : Good n w x0 B a) (hw0 : 0 ≤ w) (hw : w + (j + 1 : Nat) ≤ 8) (hB : B ≤ 6 ^ 8) : F_times_many [dP (scale c a), dP (eP n (j + 1))] = .ok (.fz (dP (scale c (mulP a (eP n (j + 1)))))) := by
  have E := goodE n hn j (by rw [List.mem_range]; exact hj)
  have bE : BoxP n (j + 1) (eP n (j + 1)) := fun q hq => ⟨E.len q hq, E.nn q hq, by rw [E.wt q hq]; exact Int.le_refl _⟩
  have bA : BoxP n w.toNat a := G.box (by omega)
  rw [F_times_many_ok hn (a := scale c a) (b := eP n (j + 1)), scale_mulP]
  · intro q hq r hr
    obtain ⟨q', hq', rfl⟩ := List.mem_map.mp hq
    have := (bA q' hq').add (bE r hr)
    exact ⟨this.1, this.2.1, by have := this.2.2; show (addM q'.1 r.1).sum ≤ _; omega⟩
  · intro q hq
    obtain ⟨q', hq', rfl⟩ := List.mem_map.mp hq
    exact G.len q' hq'
  · exact E.len
  · exact sm_scale hc G.pos fun q hq => Int.le_trans (Good.le G q hq) hB
  · intro r hr
    have h1 := E.pos r hr
    have h2 : r.2 ≤ 6 := by
      have h3 : sumL (eP n (j + 1)) (fun q => if q.1 = r.1 then q.2 else 0) ≤ sumL (eP n (j + 1)) (fun q => q.2) := sumL_le fun q hq => by
        have := E.pos q hq
        split <;> omega
      rw [sumL_one E.nd, cf_of_mem E.nd (c := r.2) hr] at h3
      have := E.bd
      omega
    show r.2.natAbs < 2 ^ 2000
    exact Nat.lt_of_le_of_lt (show r.2.natAbs ≤ 6 by omega) (by decide)
abbrev bodyW : En → O := evSet 8 (evCall F_times_many (evCons (evName 8) (evCons (evCall F_elementary_one (evCons (evName 0) (evCons (ev2 gAdd (evName 6) (evC (.int 1))) evNil))) evNil)))
theorem bodyW_ok {n : Nat} (hn : n ∈ [1, 2, 3, 4]) {d : PyData} {c w B : Int} {x0 : Mon} {a : Pol} {j : Nat} (hj : j < n) (hc : c.natAbs < 2 ^ 1000) (G : Good n w x0 B a) (hw0 : 0 ≤ w) (hw : w + (j + 1 : Nat) ≤ 8) (hB : B ≤ 6 ^ 8) {x2 x3 x4 x5 x7 x8 x9 x10 x11 x12 : Sl} (h8 : Hold x8 (dP (scale c a))) :
    bodyW (E13 n d x2 x3 x4 x5 (.fz (.int (j : Int))) x7 x8 x9 x10 x11 x12) = .nx (E13 n d x2 x3 x4 x5 (.fz (.int (j : Int))) x7 (.fz (dP (scale c (mulP a (eP n (j + 1)))))) x9 x10 x11 x12) := by
  have h1 : evName 8 (E13 n d x2 x3 x4 x5 (.fz (.int (j : Int))) x7 x8 x9 x10 x11 x12) = .ok (.fz (dP (scale c a))) (E13 n d x2 x3 x4 x5 (.fz (.int (j : Int))) x7 (.fz (dP (scale c a))) x9 x10 x11 x12) := by
    rcases h8 with rfl | rfl <;> rfl
  have h2 : gAdd (.int (j : Int)) (.int 1) = some (.int ((j + 1 : Nat) : Int)) := congrArg (fun z => some (PyData.int z)) (show (j : Int) + 1 = ((j + 1 : Nat) : Int) by omega)
  have h3 : evCons (evName 0) (evCons (ev2 gAdd (evName 6) (evC (.int 1))) evNil) (E13 n d x2 x3 x4 x5 (.fz (.int (j : Int))) x7 (.fz (dP (scale c a))) x9 x10 x11 x12) = .ok [.int (n : Int), .int ((j + 1 : Nat) : Int)] (E13 n d x2 x3 x4 x5 (.fz (.int (j : Int))) x7 (.fz (dP (scale c a))) x9 x10 x11 x12) :=
    evCons_ok (v := .fz (.int (n : Int))) rfl (evCons_ok (ev2_ok (v := .fz (.int (j : Int))) (w := .fz (.int 1)) rfl rfl h2) evNil_ok)
  have h4 := evCall_ok h3 (F_elementary_one_ok n hn j (by rw [List.mem_range]; exact hj))
  exact evSet_ok (evCall_ok (evCons_ok h1 (evCons_ok h4 evNil_ok)) (times_e hn hj hc G hw0 hw hB)) rfl
theorem loopW {n : Nat} (hn : n ∈ [1, 2, 3, 4]) {d : PyData} {c : Int} {j : Nat} (hj : j < n) (hc : c.natAbs < 2 ^ 1000) {x2 x3 x4 x5 x7 x9 x11 x12 : Sl} : ∀ (ds : List PyData) {w B : Int} {x0 : Mon} {a : Pol} {x8 x10 : Sl}, Good n w x0 B a → 0 ≤ w → 0 ≤ B → w + ds.length * ((j + 1 : Nat) : Int) ≤ 8 → B * 6 ^ ds.length ≤ 6 ^ 8 → Hold x8 (dP (scale c a)) →
    ∃ y8 y10, Hold y8 (dP (scale c (mulPow (eP n (j + 1)) ds.length a))) ∧ evLoop (stName 10) bodyW ds (E13 n d x2 x3 x4 x5 (.fz (.int (j : Int))) x7 x8 x9 x10 x11 x12) = .nx (E13 n d x2 x3 x4 x5 (.fz (.int (j : Int))) x7 y8 x9 y10 x11 x12)
  | [], w, B, x0, a, x8, x10, G, hw0, hB0, hw, hB, h8 => ⟨x8, x10, h8, rfl⟩
  | t :: ds, w, B, x0, a, x8, x10, G, hw0, hB0, hw, hB, h8 => by
    have E := goodE n hn j (by rw [List.mem_range]; exact hj)
    rw [List.length_cons] at hw hB
    have e1 : ((ds.length + 1 : Nat) : Int) * ((j + 1 : Nat) : Int) = (ds.length : Int) * ((j + 1 : Nat) : Int) + ((j + 1 : Nat) : Int) := by
      rw [show ((ds.length + 1 : Nat) : Int) = (ds.length : Int) + 1 by omega, Int.add_mul, Int.one_mul]
    have p1 : 0 ≤ (ds.length : Int) * ((j + 1 : Nat) : Int) := Int.mul_nonneg (by omega) (by omega)
    have e2 : B * 6 ^ (ds.length + 1) = B * 6 * 6 ^ ds.length := by rw [Int.pow_succ, Int.mul_comm (6 ^ ds.length) 6, Int.mul_assoc]
    rw [e1] at hw
    rw [e2] at hB
    have q1 : (1 : Int) ≤ 6 ^ ds.length := by have : (0 : Int) < 6 ^ ds.length := Int.pow_pos (by decide); omega
    have q2 : B * 6 ≤ 6 ^ 8 := Int.le_trans (by have := Int.mul_le_mul_of_nonneg_left q1 (show 0 ≤ B * 6 by omega); omega) hB
    have b := bodyW_ok hn (d := d) hj hc G hw0 (by omega) (by omega) (x2 := x2) (x3 := x3) (x4 := x4) (x5 := x5) (x7 := x7) (x9 := x9) (x10 := .fz t) (x11 := x11) (x12 := x12) h8
    obtain ⟨y8, y10, h1, h2⟩ := loopW hn (d := d) hj hc (x2 := x2) (x3 := x3) (x4 := x4) (x5 := x5) (x7 := x7) (x9 := x9) (x11 := x11) (x12 := x12) ds (x8 := .fz (dP (scale c (mulP a (eP n (j + 1)))))) (x10 := .fz t) (G.mul E hB0) (by omega) (by omega) (by omega) hB (.inl rfl)
    exact ⟨y8, y10, h1, (evLoop_step (e1 := E13 n d x2 x3 x4 x5 (.fz (.int (j : Int))) x7 x8 x9 (.fz t) x11 x12) rfl b).trans h2⟩
theorem loopE {n : Nat} (hn : n ∈ [1, 2, 3, 4]) {d : PyData} {c : Int} (hc : c.natAbs < 2 ^ 1000) {x2 x3 x4 x5 x7 x11 x12 : Sl} : ∀ (t : Mon) {j : Nat} {w B : Int} {x0 : Mon} {a : Pol} {x6 x8 x9 x10 : Sl}, j + t.length = n → (∀ z ∈ t, 0 ≤ z) → Good n w x0 B a → 0 ≤ w → 0 ≤ B → w + wtFrom j t ≤ 8 → B * 6 ^ expo t ≤ 6 ^ 8 → Hold x8 (dP (scale c a)) →
    ∃ y6 y8 y9 y10, Hold y8 (dP (scale c (chainFrom n j t a))) ∧ evLoop (stTup 2 (stCons (stName 6) (stCons (stName 9) stNil))) (evFor (evIA rng1Of (evCons (evName 9) evNil)) (stName 10) bodyW) (enumD j (t.map .int)) (E13 n d x2 x3 x4 x5 x6 x7 x8 x9 x10 x11 x12) = .nx (E13 n d x2 x3 x4 x5 y6 x7 y8 y9 y10 x11 x12)
  | [], j, w, B, x0, a, x6, x8, x9, x10, _, _, G, _, _, _, _, h8 => ⟨x6, x8, x9, x10, h8, rfl⟩
  | o :: t, j, w, B, x0, a, x6, x8, x9, x10, hl, hz, G, hw0, hB0, hw, hB, h8 => by
    have ho := hz o List.mem_cons_self
    have ho' := Int.toNat_of_nonneg ho
    rw [List.length_cons] at hl
    unfold wtFrom at hw
    unfold expo at hB
    have wt0 : 0 ≤ wtFrom (j + 1) t := by
      have := expo_le (t := t) (j := j + 1) fun z hz' => hz z (List.mem_cons_of_mem _ hz')
      omega
    have o1 : 0 ≤ o * ((j + 1 : Nat) : Int) := Int.mul_nonneg ho (by omega)
    have lo : (rngD 0 o.toNat).length = o.toNat := rngD_length
    rw [Int.pow_add, ← Int.mul_assoc] at hB
    have q1 : (1 : Int) ≤ 6 ^ expo t := by have : (0 : Int) < 6 ^ expo t := Int.pow_pos (by decide); omega
    have q0 : 0 ≤ B * 6 ^ o.toNat := Int.mul_nonneg hB0 (Int.pow_nonneg (by decide))
    have q2 : B * 6 ^ o.toNat ≤ 6 ^ 8 := Int.le_trans (by have := Int.mul_le_mul_of_nonneg_left q1 q0; omega) hB
    have E := goodE n hn j (by rw [List.mem_range]; omega)
    have GP := good_pow E o.toNat G hB0
    have o8 : o ≤ 8 := by
      have : o * 1 ≤ o * ((j + 1 : Nat) : Int) := Int.mul_le_mul_of_nonneg_left (by omega) ho
      omega
    obtain ⟨y8, y10, h1, h2⟩ := loopW hn (d := d) (j := j) (by omega) hc (x2 := x2) (x3 := x3) (x4 := x4) (x5 := x5) (x7 := x7) (x9 := .fz (.int o)) (x11 := x11) (x12 := x12) (rngD 0 o.toNat) (x8 := x8) (x10 := x10) G hw0 hB0 (by rw [lo, ho']; omega) (by rw [lo]; exact q2) h8
    rw [lo] at h1
    have b : evFor (evIA rng1Of (evCons (evName 9) evNil)) (stName 10) bodyW (E13 n d x2 x3 x4 x5 (.fz (.int (j : Int))) x7 x8 (.fz (.int o)) x10 x11 x12) = _ := (evFor_eq (evIA_ok (evCons_ok (v := .fz (.int o)) (e1 := E13 n d x2 x3 x4 x5 (.fz (.int (j : Int))) x7 x8 (.fz (.int o)) x10 x11 x12) rfl evNil_ok) (by
      have := rng1_ok o.toNat (by omega)
      rw [ho'] at this
      exact this))).trans h2
    rw [ho'] at GP
    obtain ⟨z6, z8, z9, z10, h3, h4⟩ := loopE hn (d := d) hc (x2 := x2) (x3 := x3) (x4 := x4) (x5 := x5) (x7 := x7) (x11 := x11) (x12 := x12) t (j := j + 1) (x6 := .fz (.int (j : Int))) (x8 := y8) (x9 := .fz (.int o)) (x10 := y10) (by omega) (fun z hz' => hz z (List.mem_cons_of_mem _ hz')) GP (by omega) q0 (by omega) hB h1
    exact ⟨z6, z8, z9, z10, h3, (evLoop_step (e1 := E13 n d x2 x3 x4 x5 (.fz (.int (j : Int))) x7 x8 (.fz (.int o)) x10 x11 x12) rfl b).trans h4⟩
/-! what is left -/
abbrev bodyL : En → O := evDPut 2 (evName 11) (ev2 gSub (evGet2 2 (evName 11) (evC (.int 0))) (evName 12))
theorem loopL {n : Nat} (hn : n ∈ [1, 2, 3, 4]) {d : PyData} {x3 x4 x5 x6 x7 x8 x9 x10 : Sl} : ∀ (whole : Pol) {left : Pol} {x11 x12 : Sl}, BoxP n 8 whole → BoxP n 8 left → (keys left).Nodup → ∃ y11 y12,
    evLoop (stTup 2 (stCons (stName 11) (stCons (stName 12) stNil))) bodyL (tP whole) (E13 n d (.ow (dP left)) x3 x4 x5 x6 x7 x8 x9 x10 x11 x12) = .nx (E13 n d (.ow (dP (subIn left whole))) x3 x4 x5 x6 x7 x8 x9 x10 y11 y12) ∧ BoxP n 8 (subIn left whole)
  | [], left, x11, x12, _, hb, _ => ⟨x11, x12, rfl, hb⟩
  | r :: w, left, x11, x12, hw, hb, nd => by
    have bk := hw r List.mem_cons_self
    have ne := ne_of_len bk.1 hn
    have hl := hb.length hn nd
    have g1 : keyOfT (tM r.1) = some (kM r.1) := keyOfT_tM ne
    have b : bodyL (E13 n d (.ow (dP left)) x3 x4 x5 x6 x7 x8 x9 x10 (.fz (tM r.1)) (.fz (.int r.2))) = .nx (E13 n d (.ow (dP (putP left r.1 (cf left r.1 - r.2)))) x3 x4 x5 x6 x7 x8 x9 x10 (.fz (tM r.1)) (.fz (.int r.2))) := by
      have g2 : dGet (dL left) (kM r.1) = (getP left r.1).map .int := dGet_dL (hb.ne hn)
      have g4 : (dL left).length < 16777216 := by rw [dL_length]; omega
      have g5 : L3.gSub (.int (cf left r.1)) (.int r.2) = some (.int (cf left r.1 - r.2)) := rfl
      have g6 : dPut (dL left) (kM r.1) (.int (cf left r.1 - r.2)) = dL (putP left r.1 (cf left r.1 - r.2)) := dPut_dL (hb.ne hn)
      simp only [bodyL, evDPut, ev2, evGet2, evName, evC, R.bnd, R.bndO, R.lift, slD, List.getElem?_cons_zero, List.getElem?_cons_succ, g1, g2, getD_cf, g5, g4, g6, if_true, List.set_cons_zero, List.set_cons_succ]
    obtain ⟨y11, y12, h1, h2⟩ := loopL hn (d := d) (x3 := x3) (x4 := x4) (x5 := x5) (x6 := x6) (x7 := x7) (x8 := x8) (x9 := x9) (x10 := x10) w (left := putP left r.1 (cf left r.1 - r.2)) (x11 := .fz (tM r.1)) (x12 := .fz (.int r.2)) (fun q hq => hw q (List.mem_cons_of_mem _ hq)) (hb.put bk) (nodup_put nd)
    exact ⟨y11, y12, (evLoop_step (e1 := E13 n d (.ow (dP left)) x3 x4 x5 x6 x7 x8 x9 x10 (.fz (tM r.1)) (.fz (.int r.2))) rfl b).trans h1, h2⟩
/-- {spot: more for .. if more != 0} -/
theorem dloop {n : Nat} (hn : n ∈ [1, 2, 3, 4]) {d : PyData} {x2 x3 x4 x5 x6 x7 x8 x9 x10 : Sl} : ∀ (p acc : Pol), (keys (acc ++ p)).Nodup → NeP acc → NeP p → acc.length + p.length ≤ 1000 →
    evDLoop [11, 12] (stTup 2 (stCons (stName 11) (stCons (stName 12) stNil))) (ev2 gNeS (evName 12) (evC (.int 0))) (evName 11) (evName 12) (tP p) (dL acc) (E13 n d x2 x3 x4 x5 x6 x7 x8 x9 x10 .emp .emp) = some (dL (acc ++ cleanP p), E13 n d x2 x3 x4 x5 x6 x7 x8 x9 x10 .emp .emp)
  | [], acc, _, _, _, _ => by
    show some (dL acc, _) = some (dL (acc ++ []), _)
    rw [List.append_nil]
  | q :: p, acc, nd, na, np, hl => by
    rw [List.length_cons] at hl
    have g1 : keyOfT (tM q.1) = some (kM q.1) := keyOfT_tM (np q List.mem_cons_self)
    have g2 : gNeS (.int q.2) (.int 0) = some (.bool (!decide (q.2 = 0))) := rfl
    have nin : hasP acc q.1 = false := by
      cases z : hasP acc q.1 with
      | false => rfl
      | true =>
        rw [hasP_iff] at z
        unfold keys at nd z
        rw [List.map_append, List.nodup_append] at nd
        exact absurd rfl (nd.2.2 _ z _ List.mem_cons_self)
    have st : stTup 2 (stCons (stName 11) (stCons (stName 12) stNil)) (pD q) (E13 n d x2 x3 x4 x5 x6 x7 x8 x9 x10 .emp .emp) = some (E13 n d x2 x3 x4 x5 x6 x7 x8 x9 x10 (.fz (tM q.1)) (.fz (.int q.2))) := rfl
    have tt : ev2 gNeS (evName 12) (evC (.int 0)) (E13 n d x2 x3 x4 x5 x6 x7 x8 x9 x10 (.fz (tM q.1)) (.fz (.int q.2))) = .ok (.fz (.bool (!decide (q.2 = 0)))) (E13 n d x2 x3 x4 x5 x6 x7 x8 x9 x10 (.fz (tM q.1)) (.fz (.int q.2))) := ev2_ok (v := .fz (.int q.2)) (w := .fz (.int 0)) rfl rfl g2
    have kk : evName 11 (E13 n d x2 x3 x4 x5 x6 x7 x8 x9 x10 (.fz (tM q.1)) (.fz (.int q.2))) = .ok (.fz (tM q.1)) (E13 n d x2 x3 x4 x5 x6 x7 x8 x9 x10 (.fz (tM q.1)) (.fz (.int q.2))) := rfl
    have vv : evName 12 (E13 n d x2 x3 x4 x5 x6 x7 x8 x9 x10 (.fz (tM q.1)) (.fz (.int q.2))) = .ok (.fz (.int q.2)) (E13 n d x2 x3 x4 x5 x6 x7 x8 x9 x10 (.fz (tM q.1)) (.fz (.int q.2))) := rfl
    have wi : wipeE (E13 n d x2 x3 x4 x5 x6 x7 x8 x9 x10 (.fz (tM q.1)) (.fz (.int q.2))) [11, 12] = E13 n d x2 x3 x4 x5 x6 x7 x8 x9 x10 .emp .emp := rfl
    unfold tP
    rw [List.map_cons, evDLoop, st]
    (try dsimp only)
    rw [tt]
    by_cases z : q.2 = 0
    · rw [decide_eq_true z]
      (try dsimp only)
      show evDLoop [11, 12] _ _ _ _ (tP p) (dL acc) (wipeE _ [11, 12]) = _
      rw [wi, dloop hn p acc (by
        unfold keys at nd ⊢
        rw [List.map_append] at nd ⊢
        rw [List.nodup_append] at nd ⊢
        refine ⟨nd.1, (List.nodup_cons.mp nd.2.1).2, fun a ha b hb => nd.2.2 a ha b (List.mem_cons_of_mem _ hb)⟩) na (fun q hq => np q (List.mem_cons_of_mem _ hq)) (by omega)]
      congr 3
      unfold cleanP
      rw [List.filter_cons_of_neg (by simp [z])]
    · rw [decide_eq_false z]
      (try dsimp only)
      show (match evName 11 (E13 n d x2 x3 x4 x5 x6 x7 x8 x9 x10 (.fz (tM q.1)) (.fz (.int q.2))) with
        | .ok (.fz kd) e3 => (match evName 12 e3 with
          | .ok (.fz vd) e4 => (match keyOfT kd with
            | some k => if (dL acc).length < 16777216 then evDLoop [11, 12] (stTup 2 (stCons (stName 11) (stCons (stName 12) stNil))) (ev2 gNeS (evName 12) (evC (.int 0))) (evName 11) (evName 12) (tP p) (dPut (dL acc) k vd) (wipeE e4 [11, 12]) else none
            | none => none)
          | _ => none)
        | _ => none) = _
      rw [kk]
      (try dsimp only)
      rw [vv]
      (try dsimp only)
      rw [g1]
      (try dsimp only)
      have pe : putP acc q.1 q.2 = acc ++ [q] := by
        unfold putP
        rw [nin, if_neg (by decide)]
      rw [if_pos (by rw [dL_length]; omega), dPut_dL na, wi, pe, dloop hn p (acc ++ [q]) (by rw [List.append_assoc]; exact nd) (fun r hr => by
        rcases List.mem_append.mp hr with hr | hr
        · exact na r hr
        · rw [List.mem_singleton.mp hr]; exact np q List.mem_cons_self) (fun q hq => np q (List.mem_cons_of_mem _ hq)) (by rw [List.length_append, List.length_singleton]; omega)]
      congr 3
      unfold cleanP
      rw [List.filter_cons_of_pos (by simp [z]), List.append_assoc]
      rfl
end EL
set_option Elab.async false
set_option linter.all false
set_option maxRecDepth 100000
set_option exponentiation.threshold 5000
namespace EL
open PySem PySem.Spec PyProof.Rows L2 LamX L3 EP
abbrev bodyB : En → O := evSeq (evSet 4 (evBN gMax 2))
    (evSeq (evSet 5 (ev2L gDget 2 (evName 4)))
    (evSeq (evSet 7 (evB gTup (evCons (evComp (evIA rng1Of (evCons (evName 0) evNil)) ([(("at" : Str), 6)].map (·.2)) (stName 6) (evC (.bool true)) (ev2 gSub (ev2L gIx 4 (evName 6)) (evIf (ev2 gLt (ev2 gAdd (evName 6) (evC (.int 1))) (evName 0)) (ev2L gIx 4 (ev2 gAdd (evName 6) (evC (.int 1)))) (evC (.int 0))))) evNil)))
    (evSeq (evDPut 3 (evName 7) (evName 5))
    (evSeq (evSet 8 (evDisp1 (ev2 gRep (evTup (evCons (evC (.int 0)) evNil)) (evName 0)) (evName 5)))
    (evSeq (evFor (evIA enumTOf (evCons (evName 7) evNil)) (stTup 2 (stCons (stName 6) (stCons (stName 9) stNil))) (evFor (evIA rng1Of (evCons (evName 9) evNil)) (stName 10) (evSet 8 (evCall F_times_many (evCons (evName 8) (evCons (evCall F_elementary_one (evCons (evName 0) (evCons (ev2 gAdd (evName 6) (evC (.int 1))) evNil))) evNil))))))
    (evSeq (evFor (evI itemsOf (evName 8)) (stTup 2 (stCons (stName 11) (stCons (stName 12) stNil))) (evDPut 2 (evName 11) (ev2 gSub (evGet2 2 (evName 11) (evC (.int 0))) (evName 12))))
    (evSet 2 (evDComp (evI itemsOf (evName 2)) ([(("spot" : Str), 11), (("more" : Str), 12)].map (·.2)) (stTup 2 (stCons (stName 11) (stCons (stName 12) stNil))) (ev2 gNeS (evName 12) (evC (.int 0))) (evName 11) (evName 12)))))))))
theorem rep_zz {n : Nat} (hn : n ∈ [1, 2, 3, 4]) : gRep (.tuple [.int 0]) (.int (n : Int)) = some (tM (zz n)) := by
  simp only [List.mem_cons, List.not_mem_nil, or_false] at hn
  rcases hn with rfl | rfl | rfl | rfl <;> rfl
theorem len_dP (p : Pol) : gLen1 (dP p) = some (.int (p.length : Int)) := by
  show some (PyData.int ((dL p).length : Nat)) = _
  rw [dL_length]
/-- what is so of the terms -/
structure SOk (n : Nat) (S : Pol) : Prop where
  ok : TermsOk n S
  bd : ∀ q ∈ S, q.2.natAbs < 2 ^ 1000
  wt : ∀ q ∈ S, wtFrom 0 q.1 ≤ 8
theorem SOk.tail {n : Nat} {q : Mon × Int} {S : Pol} (h : SOk n (q :: S)) : SOk n S := ⟨h.ok.tail, fun q hq => h.bd q (List.mem_cons_of_mem _ hq), fun q hq => h.wt q (List.mem_cons_of_mem _ hq)⟩
theorem SOk.perm {n : Nat} {S S' : Pol} (h : SOk n S) (p : S'.Perm S) : SOk n S' := ⟨h.ok.perm p, fun q hq => h.bd q (p.mem_iff.mp hq), fun q hq => h.wt q (p.mem_iff.mp hq)⟩
theorem pow_le {n : Nat} (h : n ≤ 8) : (6 : Int) ^ n ≤ 6 ^ 8 := by
  have : ∀ m ∈ List.range 9, (6 : Int) ^ m ≤ 6 ^ 8 := by decide
  exact this n (by rw [List.mem_range]; omega)
theorem box_EE {n : Nat} (hn : n ∈ [1, 2, 3, 4]) {S : Pol} (o : SOk n S) {q : Mon × Int} (hq : q ∈ S) : BoxP n 8 (EE n q.1) :=
  (good_EE hn (o.ok.len q hq) (o.ok.nn q hq)).box (o.wt q hq)
theorem IsSum.box {n : Nat} (hn : n ∈ [1, 2, 3, 4]) {left S : Pol} (o : SOk n S) (nd : (keys left).Nodup) (nz : ∀ x ∈ left, x.2 ≠ 0) (h : IsSum n left S) : BoxP n 8 left := fun x hx => by
  obtain ⟨h1, h2, q, hq, e⟩ := h.all hn o.ok nd nz hx
  exact ⟨h1, h2, by rw [e]; exact o.wt q hq⟩
/-- one turn -/
theorem turn {n : Nat} (hn : n ∈ [1, 2, 3, 4]) {d : PyData} {left found S : Pol} {q : Mon × Int} (o : SOk n (q :: S)) (lt : ∀ r ∈ S, ltM (LL n r.1) (LL n q.1) = true) (nd : (keys left).Nodup) (nz : ∀ x ∈ left, x.2 ≠ 0) (h : IsSum n left (q :: S))
    (nf : q.1 ∉ keys found) (bf : NeP found) (lf : found.length ≤ 1000) {x4 x5 x6 x7 x8 x9 x10 x11 x12 : Sl} :
    ∃ y4 y5 y6 y7 y8 y9 y10 y11 y12, bodyB (E13 n d (.ow (dP left)) (.ow (dP found)) x4 x5 x6 x7 x8 x9 x10 x11 x12) = .nx (E13 n d (.ow (dP (cleanP (subIn left (scale q.2 (EE n q.1)))))) (.ow (dP (found ++ [q]))) y4 y5 y6 y7 y8 y9 y10 y11 y12) := by
  have lq := o.ok.len q List.mem_cons_self
  have nq := o.ok.nn q List.mem_cons_self
  have G := good_EE hn lq nq
  obtain ⟨h1, h2⟩ := h.top hn o.ok lt nd nz
  have bl := IsSum.box hn o nd nz h
  have ll := bl.length hn nd
  have km : LL n q.1 ∈ keys left := List.mem_map.mpr ⟨_, h1, rfl⟩
  have h2' : ∀ y ∈ keys left, ltM (LL n q.1) y = false := fun y hy => by
    obtain ⟨x, hx, rfl⟩ := List.mem_map.mp hy
    exact h2 x hx
  have hx := expo_le (t := q.1) (j := 0) nq
  have hw := o.wt q List.mem_cons_self
  have w0 : 0 ≤ wtFrom 0 q.1 := by omega
  -- the greatest one
  have s1 : evSet 4 (evBN gMax 2) (E13 n d (.ow (dP left)) (.ow (dP found)) x4 x5 x6 x7 x8 x9 x10 x11 x12) = .nx (E13 n d (.ow (dP left)) (.ow (dP found)) (.fz (tM (LL n q.1))) x5 x6 x7 x8 x9 x10 x11 x12) :=
    evSet_ok (v := .fz (tM (LL n q.1))) (evBN_ok (d := dP left) rfl (max_ok km h2')) rfl
  have s2 : evSet 5 (ev2L gDget 2 (evName 4)) (E13 n d (.ow (dP left)) (.ow (dP found)) (.fz (tM (LL n q.1))) x5 x6 x7 x8 x9 x10 x11 x12) = .nx (E13 n d (.ow (dP left)) (.ow (dP found)) (.fz (tM (LL n q.1))) (.fz (.int q.2)) x6 x7 x8 x9 x10 x11 x12) := by
    have g : gDget (dP left) (tM (LL n q.1)) = some (.int q.2) := by
      show (keyOfT (tM (LL n q.1))).bind (dGet (dL left)) = _
      rw [keyOfT_tM (ne_of_len G.xl hn), Option.bind_some, dGet_dL (bl.ne hn), getP_of_mem nd h1]
      rfl
    exact evSet_ok (v := .fz (.int q.2)) (ev2L_ok (d0 := dP left) (d1 := dP left) (w := .fz (tM (LL n q.1))) rfl rfl rfl g) rfl
  have s3 := ev_place hn (d := d) (k := LL n q.1) G.xl (x2 := .ow (dP left)) (x3 := .ow (dP found)) (x5 := .fz (.int q.2)) (x6 := x6) (x7 := x7) (x8 := x8) (x9 := x9) (x10 := x10) (x11 := x11) (x12 := x12)
  rw [place_LL hn lq nq] at s3
  generalize keepFz (some x6) = z6 at s3
  have s4 : evDPut 3 (evName 7) (evName 5) (E13 n d (.ow (dP left)) (.ow (dP found)) (.fz (tM (LL n q.1))) (.fz (.int q.2)) z6 (.fz (tM q.1)) x8 x9 x10 x11 x12) = .nx (E13 n d (.ow (dP left)) (.ow (dP (found ++ [q]))) (.fz (tM (LL n q.1))) (.fz (.int q.2)) z6 (.fz (tM q.1)) x8 x9 x10 x11 x12) := by
    have pe : putP found q.1 q.2 = found ++ [q] := by
      unfold putP
      rw [if_neg fun z => nf (hasP_iff.mp z)]
    refine evDPut_ok (i := 3) (fk := evName 7) (fv := evName 5) (e1 := E13 n d (.ow (dP left)) (.ow (dP found)) (.fz (tM (LL n q.1))) (.fz (.int q.2)) z6 (.fz (tM q.1)) x8 x9 x10 x11 x12) (e2 := E13 n d (.ow (dP left)) (.ow (dP found)) (.fz (tM (LL n q.1))) (.fz (.int q.2)) z6 (.fz (tM q.1)) x8 x9 x10 x11 x12) (kvs := dL found) (kvs' := dL found) (w := .fz (.int q.2)) (v := .fz (tM q.1)) (k := kM q.1) rfl rfl rfl rfl (keyOfT_tM (ne_of_len lq hn)) (by rw [dL_length]; omega) ?_
    rw [show datOf (.fz (.int q.2)) = .int q.2 from rfl, dPut_dL bf, pe]
    rfl
  have s5 : evSet 8 (evDisp1 (ev2 gRep (evTup (evCons (evC (.int 0)) evNil)) (evName 0)) (evName 5)) (E13 n d (.ow (dP left)) (.ow (dP (found ++ [q]))) (.fz (tM (LL n q.1))) (.fz (.int q.2)) z6 (.fz (tM q.1)) x8 x9 x10 x11 x12) = .nx (E13 n d (.ow (dP left)) (.ow (dP (found ++ [q]))) (.fz (tM (LL n q.1))) (.fz (.int q.2)) z6 (.fz (tM q.1)) (.ow (dP (scale q.2 [(zz n, 1)]))) x9 x10 x11 x12) := by
    have g : ev2 gRep (evTup (evCons (evC (.int 0)) evNil)) (evName 0) (E13 n d (.ow (dP left)) (.ow (dP (found ++ [q]))) (.fz (tM (LL n q.1))) (.fz (.int q.2)) z6 (.fz (tM q.1)) x8 x9 x10 x11 x12) = .ok (.fz (tM (zz n))) (E13 n d (.ow (dP left)) (.ow (dP (found ++ [q]))) (.fz (tM (LL n q.1))) (.fz (.int q.2)) z6 (.fz (tM q.1)) x8 x9 x10 x11 x12) :=
      ev2_ok (v := .fz (.tuple [.int 0])) (w := .fz (.int (n : Int))) (evTup_ok (evCons_ok (v := .fz (.int 0)) rfl evNil_ok) (by simp)) rfl (rep_zz hn)
    have kz : keyOfT (tM (zz n)) = some (kM (zz n)) := keyOfT_tM (ne_of_len (n := n) (by unfold zz; simp) hn)
    refine evSet_ok (v := .ow (dP (scale q.2 [(zz n, 1)]))) (e1 := E13 n d (.ow (dP left)) (.ow (dP (found ++ [q]))) (.fz (tM (LL n q.1))) (.fz (.int q.2)) z6 (.fz (tM q.1)) x8 x9 x10 x11 x12) ?_ rfl
    unfold evDisp1
    rw [g, R.bnd_ok, show evName 5 (E13 n d (.ow (dP left)) (.ow (dP (found ++ [q]))) (.fz (tM (LL n q.1))) (.fz (.int q.2)) z6 (.fz (tM q.1)) x8 x9 x10 x11 x12) = .ok (.fz (.int q.2)) (E13 n d (.ow (dP left)) (.ow (dP (found ++ [q]))) (.fz (tM (LL n q.1))) (.fz (.int q.2)) z6 (.fz (tM q.1)) x8 x9 x10 x11 x12) from rfl, R.bnd_ok, show datOf (.fz (tM (zz n))) = tM (zz n) from rfl, kz]
    show R.ok (.ow (.dict [(.tuple ((kM (zz n)).map keyD), .int q.2)])) _ = _
    rw [keyD_map]
    show R.ok (.ow (.dict [(tM (zz n), .int q.2)])) _ = R.ok (.ow (.dict [(tM (zz n), .int (q.2 * 1))])) _
    rw [Int.mul_one]
  obtain ⟨y6, y8, y9, y10, g8, s6⟩ := loopE hn (d := d) (o.bd q List.mem_cons_self) (x2 := .ow (dP left)) (x3 := .ow (dP (found ++ [q]))) (x4 := .fz (tM (LL n q.1))) (x5 := .fz (.int q.2)) (x7 := .fz (tM q.1)) (x11 := x11) (x12 := x12) q.1 (j := 0) (x6 := z6) (x8 := .ow (dP (scale q.2 [(zz n, 1)]))) (x9 := x9) (x10 := x10) (by omega) nq (good0 hn) (by decide) (by decide) (by omega) (by rw [Int.one_mul]; exact pow_le (by omega)) (.inr rfl)
  have g8 : Hold y8 (dP (scale q.2 (EE n q.1))) := g8
  have g6 : evIA enumTOf (evCons (evName 7) evNil) (E13 n d (.ow (dP left)) (.ow (dP (found ++ [q]))) (.fz (tM (LL n q.1))) (.fz (.int q.2)) z6 (.fz (tM q.1)) (.ow (dP (scale q.2 [(zz n, 1)]))) x9 x10 x11 x12) = .ok (enumD 0 (q.1.map .int)) (E13 n d (.ow (dP left)) (.ow (dP (found ++ [q]))) (.fz (tM (LL n q.1))) (.fz (.int q.2)) z6 (.fz (tM q.1)) (.ow (dP (scale q.2 [(zz n, 1)]))) x9 x10 x11 x12) := rfl
  have s6' := (evFor_eq (st := stTup 2 (stCons (stName 6) (stCons (stName 9) stNil))) (body := evFor (evIA rng1Of (evCons (evName 9) evNil)) (stName 10) bodyW) g6).trans s6
  have bE : BoxP n 8 (scale q.2 (EE n q.1)) := (box_EE hn o List.mem_cons_self).scale
  obtain ⟨y11, y12, s7, b7⟩ := loopL hn (d := d) (x3 := .ow (dP (found ++ [q]))) (x4 := .fz (tM (LL n q.1))) (x5 := .fz (.int q.2)) (x6 := y6) (x7 := .fz (tM q.1)) (x8 := .fz (dP (scale q.2 (EE n q.1)))) (x9 := y9) (x10 := y10) (scale q.2 (EE n q.1)) (left := left) (x11 := x11) (x12 := x12) bE bl nd
  have g7 : evName 8 (E13 n d (.ow (dP left)) (.ow (dP (found ++ [q]))) (.fz (tM (LL n q.1))) (.fz (.int q.2)) y6 (.fz (tM q.1)) y8 y9 y10 x11 x12) = .ok (.fz (dP (scale q.2 (EE n q.1)))) (E13 n d (.ow (dP left)) (.ow (dP (found ++ [q]))) (.fz (tM (LL n q.1))) (.fz (.int q.2)) y6 (.fz (tM q.1)) (.fz (dP (scale q.2 (EE n q.1)))) y9 y10 x11 x12) := by rcases g8 with rfl | rfl <;> rfl
  have s7' := (evFor_eq (st := stTup 2 (stCons (stName 11) (stCons (stName 12) stNil))) (body := bodyL) (evI_ok g7 (items_ok _))).trans s7
  have nd8 := nodup_subIn (whole := scale q.2 (EE n q.1)) nd
  have l8 := b7.length hn nd8
  refine ⟨.fz (tM (LL n q.1)), .fz (.int q.2), y6, .fz (tM q.1), .fz (dP (scale q.2 (EE n q.1))), y9, y10, keepFz (some y11), keepFz (some y12), ?_⟩
  refine run_seq s1 (run_seq s2 (run_seq s3 (run_seq s4 (run_seq s5 (run_seq s6' (run_seq s7' ?_))))))
  refine evSet_ok (v := .ow (dP (cleanP (subIn left (scale q.2 (EE n q.1)))))) (e1 := E13 n d (.fz (dP (subIn left (scale q.2 (EE n q.1))))) (.ow (dP (found ++ [q]))) (.fz (tM (LL n q.1))) (.fz (.int q.2)) y6 (.fz (tM q.1)) (.fz (dP (scale q.2 (EE n q.1)))) y9 y10 (keepFz (some y11)) (keepFz (some y12))) ?_ rfl
  have hf : evI itemsOf (evName 2) (E13 n d (.ow (dP (subIn left (scale q.2 (EE n q.1))))) (.ow (dP (found ++ [q]))) (.fz (tM (LL n q.1))) (.fz (.int q.2)) y6 (.fz (tM q.1)) (.fz (dP (scale q.2 (EE n q.1)))) y9 y10 y11 y12) = .ok (tP (subIn left (scale q.2 (EE n q.1)))) (E13 n d (.fz (dP (subIn left (scale q.2 (EE n q.1))))) (.ow (dP (found ++ [q]))) (.fz (tM (LL n q.1))) (.fz (.int q.2)) y6 (.fz (tM q.1)) (.fz (dP (scale q.2 (EE n q.1)))) y9 y10 y11 y12) :=
    evI_ok (v := .fz (dP (subIn left (scale q.2 (EE n q.1))))) rfl (items_ok _)
  have dl := dloop hn (d := d) (x2 := .fz (dP (subIn left (scale q.2 (EE n q.1))))) (x3 := .ow (dP (found ++ [q]))) (x4 := .fz (tM (LL n q.1))) (x5 := .fz (.int q.2)) (x6 := y6) (x7 := .fz (tM q.1)) (x8 := .fz (dP (scale q.2 (EE n q.1)))) (x9 := y9) (x10 := y10) (subIn left (scale q.2 (EE n q.1))) [] (by simpa using nd8) (fun q hq => by cases hq) (b7.ne hn) (by simp; omega)
  unfold evDComp
  rw [hf]
  show (match evDLoop [11, 12] _ _ _ _ (tP (subIn left (scale q.2 (EE n q.1)))) (dL []) (E13 n d (.fz (dP (subIn left (scale q.2 (EE n q.1))))) (.ow (dP (found ++ [q]))) (.fz (tM (LL n q.1))) (.fz (.int q.2)) y6 (.fz (tM q.1)) (.fz (dP (scale q.2 (EE n q.1)))) y9 y10 .emp .emp) with
    | some (acc, e2) => R.ok (.ow (.dict acc)) (restE _ [11, 12] e2)
    | none => .bad) = _
  rw [dl]
  rfl
/-- all turns -/
theorem turns {n : Nat} (hn : n ∈ [1, 2, 3, 4]) {d : PyData} : ∀ (S : Pol) {left found : Pol} {fuel : Nat}, S.length < fuel → SOk n S → (S.Pairwise fun p q => ltM (LL n q.1) (LL n p.1) = true) → (keys left).Nodup → (∀ x ∈ left, x.2 ≠ 0) → IsSum n left S →
    (keys (found ++ S)).Nodup → NeP found → found.length + S.length ≤ 1000 → ∀ {x4 x5 x6 x7 x8 x9 x10 x11 x12 : Sl},
    ∃ y4 y5 y6 y7 y8 y9 y10 y11 y12, evWhile (ev2 gGt (evBN gLen1 2) (evC (.int 0))) bodyB fuel (E13 n d (.ow (dP left)) (.ow (dP found)) x4 x5 x6 x7 x8 x9 x10 x11 x12) = .nx (E13 n d (.ow (dP [])) (.ow (dP (found ++ S))) y4 y5 y6 y7 y8 y9 y10 y11 y12)
  | [], left, found, fuel, hf, o, pw, nd, nz, h, nf, bf, lf, x4, x5, x6, x7, x8, x9, x10, x11, x12 => by
    have e := h.none nd nz
    subst e
    cases fuel with
    | zero => exact absurd hf (Nat.not_lt_zero _)
    | succ f =>
      refine ⟨x4, x5, x6, x7, x8, x9, x10, x11, x12, ?_⟩
      rw [List.append_nil]
      rfl
  | q :: S, left, found, fuel, hf, o, pw, nd, nz, h, nf, bf, lf, x4, x5, x6, x7, x8, x9, x10, x11, x12 => by
    rw [List.length_cons] at hf lf
    rw [List.pairwise_cons] at pw
    cases fuel with
    | zero => exact absurd hf (Nat.not_lt_zero _)
    | succ f =>
      have nq : q.1 ∉ keys found := fun z => by
        unfold keys at nf z
        rw [List.map_append, List.nodup_append] at nf
        exact nf.2.2 _ z _ List.mem_cons_self rfl
      obtain ⟨y4, y5, y6, y7, y8, y9, y10, y11, y12, b⟩ := turn hn (d := d) o pw.1 nd nz h nq bf (by omega) (x4 := x4) (x5 := x5) (x6 := x6) (x7 := x7) (x8 := x8) (x9 := x9) (x10 := x10) (x11 := x11) (x12 := x12)
      obtain ⟨h1, _⟩ := h.top hn o.ok pw.1 nd nz
      have lp : 0 < left.length := List.length_pos_of_mem h1
      have t : ev2 gGt (evBN gLen1 2) (evC (.int 0)) (E13 n d (.ow (dP left)) (.ow (dP found)) x4 x5 x6 x7 x8 x9 x10 x11 x12) = .ok (.fz (.bool true)) (E13 n d (.ow (dP left)) (.ow (dP found)) x4 x5 x6 x7 x8 x9 x10 x11 x12) := by
        refine ev2_ok (v := .fz (.int (left.length : Int))) (w := .fz (.int 0)) (evBN_ok (d := dP left) rfl (len_dP left)) rfl ?_
        show some (PyData.bool (decide ((0 : Int) < (left.length : Int)))) = _
        rw [decide_eq_true (by omega)]
      have lqn := o.ok.len q List.mem_cons_self
      obtain ⟨z4, z5, z6, z7, z8, z9, z10, z11, z12, e⟩ := turns hn (d := d) S (left := cleanP (subIn left (scale q.2 (EE n q.1)))) (found := found ++ [q]) (fuel := f) (by omega) o.tail pw.2 (keys_clean (nodup_subIn nd)) clean_nz (h.next hn o.ok nd) (by rw [List.append_assoc]; exact nf) (fun r hr => by
        rcases List.mem_append.mp hr with hr | hr
        · exact bf r hr
        · rw [List.mem_singleton.mp hr]; exact ne_of_len lqn hn) (by rw [List.length_append, List.length_singleton]; omega) (x4 := y4) (x5 := y5) (x6 := y6) (x7 := y7) (x8 := y8) (x9 := y9) (x10 := y10) (x11 := y11) (x12 := y12)
      refine ⟨z4, z5, z6, z7, z8, z9, z10, z11, z12, ?_⟩
      rw [List.append_assoc] at e
      unfold evWhile
      rw [t]
      (try dsimp only)
      rw [b]
      exact e
theorem asc_nodup {p : Pol} (asc : p.Pairwise fun a b => ltM a.1 b.1 = true) : (keys p).Nodup := by
  unfold keys List.Nodup
  rw [List.pairwise_map]
  exact asc.imp fun h z => by rw [z, ltM_irrefl] at h; cases h
/-- the head of elementary -/
theorem el_head {n : Nat} (hn : n ∈ [1, 2, 3, 4]) {d : PyData} : evIfS (evT (evOr (evNot (evT (evCall F_is_integer (evCons (evName 0) evNil)))) (evNot (evT (evChain (fun i j => decide (i ≤ j)) (fun i j => decide (i ≤ j)) (evC (.int 1)) (evName 0) (evC (.int 4))))))) (evRaise "OutOfRange") evNx (E13 n d .emp .emp .emp .emp .emp .emp .emp .emp .emp .emp .emp) = .nx (E13 n d .emp .emp .emp .emp .emp .emp .emp .emp .emp .emp .emp) := by
  simp only [List.mem_cons, List.not_mem_nil, or_false] at hn
  rcases hn with rfl | rfl | rfl | rfl <;> rfl
/-- elementary, of a sum -/
theorem F_elementary_ok {n : Nat} (hn : n ∈ [1, 2, 3, 4]) {p S : Pol} (asc : p.Pairwise fun a b => ltM a.1 b.1 = true) (nz : ∀ x ∈ p, x.2 ≠ 0) (o : SOk n S) (nd : (keys S).Nodup) (ls : S.length ≤ 900) (h : IsSum n p S) :
    F_elementary [.int (n : Int), .tuple (tP p)] = .ok (.fz (.tuple (tP (sortP S)))) := by
  have ndp := asc_nodup asc
  have bp := IsSum.box hn o ndp nz h
  have lp := bp.length hn ndp
  have T : TermP n p := ⟨fun q hq => (bp q hq).1, fun q hq => (bp q hq).2.1, nz, by omega⟩
  have chk : F_check_many [.int (n : Int), .tuple (tP p)] = .ok (.fz .none) := by
    rw [F_check_many_eq hn T asc, if_pos]
    refine ⟨fun q hq => (bp q hq).2.2, fun q hq s hs => ?_⟩
    have e1 := h.symm hn o.ok hs (k := q.1) (bp q hq).1
    rw [cf_of_mem ndp (k := q.1) (c := q.2) hq] at e1
    have := nz q hq
    unfold cf at e1
    cases g : getP p (act s q.1) with
    | none => rw [g] at e1; exact absurd e1.symm this
    | some c => rw [g] at e1; rw [show c = q.2 from e1]
  obtain ⟨S', hS, pw⟩ := sorted_terms hn o.ok nd
  have nd' : (keys S').Nodup := (hS.map _).nodup_iff.mpr nd
  obtain ⟨y4, y5, y6, y7, y8, y9, y10, y11, y12, w⟩ := turns hn (d := .tuple (tP p)) S' (left := p) (found := []) (fuel := 1000) (by have := hS.length_eq; omega) (o.perm hS) pw ndp nz (h.perm hS) (by simpa using nd') (fun q hq => by cases hq) (by have := hS.length_eq; simp; omega) (x4 := .emp) (x5 := .emp) (x6 := .emp) (x7 := .emp) (x8 := .emp) (x9 := .emp) (x10 := .emp) (x11 := .emp) (x12 := .emp)
  rw [List.nil_append] at w
  show outF (ev_elementary (E13 n (.tuple (tP p)) .emp .emp .emp .emp .emp .emp .emp .emp .emp .emp .emp)) = _
  unfold ev_elementary
  refine out_seq (el_head hn) ?_
  refine out_seq (e1 := E13 n (.tuple (tP p)) .emp .emp .emp .emp .emp .emp .emp .emp .emp .emp .emp) ?_ ?_
  · exact evDrop_ok (evCall_ok (evCons_ok (v := .fz (.int (n : Int))) rfl (evCons_ok (v := .fz (.tuple (tP p))) rfl evNil_ok)) chk)
  refine out_seq (e1 := E13 n (.tuple (tP p)) (.ow (dP p)) (.ow (dP [])) .emp .emp .emp .emp .emp .emp .emp .emp .emp) ?_ ?_
  · unfold evPar
    have g : evBO gDict (evCons (evName 1) evNil) (E13 n (.tuple (tP p)) .emp .emp .emp .emp .emp .emp .emp .emp .emp .emp .emp) = .ok (.ow (dP p)) (E13 n (.tuple (tP p)) .emp .emp .emp .emp .emp .emp .emp .emp .emp .emp .emp) := evBO_ok (evCons_ok (v := .fz (.tuple (tP p))) rfl evNil_ok) (dictT_ok (bp.ne hn) ndp)
    rw [g]
    rfl
  refine out_seq w ?_
  have fin : evRet (evB gTup (evCons (evSortIt 3) evNil)) (E13 n (.tuple (tP p)) (.ow (dP [])) (.ow (dP S')) y4 y5 y6 y7 y8 y9 y10 y11 y12) = .ret (.fz (.tuple (tP (sortP S')))) (E13 n (.tuple (tP p)) (.ow (dP [])) (.ow (dP S')) y4 y5 y6 y7 y8 y9 y10 y11 y12) := by
    refine evRet_ok (evB_ok (ds := [.list (tP (sortP S'))]) (evCons_ok (v := .ow (.list (tP (sortP S')))) (e1 := E13 n (.tuple (tP p)) (.ow (dP [])) (.ow (dP S')) y4 y5 y6 y7 y8 y9 y10 y11 y12) ?_ evNil_ok) rfl)
    unfold evSortIt
    show (match gSortIt (dP S') with | some d => R.ok (.ow d) _ | none => .bad) = _
    rw [sortIt_ok]
  rw [fin, sortP_unique hS]
  rfl
/-- elementary, of what is not even-handed or too great -/
theorem F_elementary_bad {n : Nat} (hn : n ∈ [1, 2, 3, 4]) {p : Pol} (asc : p.Pairwise fun a b => ltM a.1 b.1 = true) (T : TermP n p) (bad : ¬((∀ q ∈ p, q.1.sum ≤ 8) ∧ ∀ q ∈ p, ∀ s ∈ ords n, getP p (act s q.1) = some q.2)) : F_elementary [.int (n : Int), .tuple (tP p)] = .exn "OutOfRange" := by
  have chk : F_check_many [.int (n : Int), .tuple (tP p)] = .exn "OutOfRange" := by rw [F_check_many_eq hn T asc, if_neg bad]
  show outF (ev_elementary (E13 n (.tuple (tP p)) .emp .emp .emp .emp .emp .emp .emp .emp .emp .emp .emp)) = _
  unfold ev_elementary
  refine out_seq (el_head hn) ?_
  rw [evSeq_exn (c := "OutOfRange") (e1 := E13 n (.tuple (tP p)) .emp .emp .emp .emp .emp .emp .emp .emp .emp .emp .emp)]
  · rfl
  · unfold evDrop
    have g : evCons (evName 0) (evCons (evName 1) evNil) (E13 n (.tuple (tP p)) .emp .emp .emp .emp .emp .emp .emp .emp .emp .emp .emp) = .ok [.int (n : Int), .tuple (tP p)] (E13 n (.tuple (tP p)) .emp .emp .emp .emp .emp .emp .emp .emp .emp .emp .emp) := rfl
    rw [evCall_exn g chk]
end EL
set_option Elab.async false
set_option linter.all false
set_option maxRecDepth 100000
namespace K22
open PySem PySem.Spec PyProof.Rows L2 LamX L3
def topS (i : Nat) : Stmt := PySem.Challenge.pw_everyroot_k22_even_handed_polynomials.main.body.getD i (.Pass ⟨0, 0, 0, 0⟩)
/-- how a class is told -/
def toldN (n : Str) : Option Bool := if n = "BadPolynomial" then some false else if n = "OutOfRange" then some true else none
abbrev lamQ : Str := (("law" : Str) ++ ".<locals>.") ++ "<lambda>"
section
variable {P : Program} {w : World} {K : PySem.W.Frag} {mg : Str → Option Value} {base : Heap} {T : List (Addr × Str)}
abbrev s_is_integer : Stmt := topS 5
theorem sc_is_integer : FnScope ["thing"] ["thing"] (defScope s_is_integer) := ⟨rfl, rfl, rfl, by decide +kernel, rfl, by decide +kernel, by decide +kernel⟩
def ev_is_integer : En → O := (evRet (evAnd (evIsi "int" (evName 0)) (evNot (evIsi "bool" (evName 0)))))
def F_is_integer : List PyData → FRes := runDef 1 ev_is_integer
theorem fn_is_integer {f : Addr} {fd : FuncData} (F : Fun K "is_integer" "is_integer" s_is_integer f fd) (g_bool : mg "bool" = none) (g_int : mg "int" = none) (g_isinstance : mg "isinstance" = none) :
    FnOk P w K mg base (L2.CX P w) 1 f fd ["thing"] (spF K mg T 1 F_is_integer) := by
  have sc := sc_is_integer
  refine fn_F F sc_is_integer (by decide) fun cdv A outer s H E hr => ?_
  exact snds_one (snds_ret (snd_and (SndE.d (snd_isi isOk_int (SndE.d (snd_name (i := 0) (fun _ => pe_var rfl (by first | exact .inl rfl | exact .inr (.inl rfl) | exact .inr (.inr rfl))))) (fun _ => pe_bltn (by rfl) g_int (by decide +kernel) rfl) (fun _ _ pa => pe_callB call_isi (by rfl) g_isinstance PyProof.Rows.boot_isinstance pa))) (snd_one (snd_not (SndE.d (snd_isi isOk_bool (SndE.d (snd_name (i := 0) (fun _ => pe_var rfl (by first | exact .inl rfl | exact .inr (.inl rfl) | exact .inr (.inr rfl))))) (fun _ => pe_bltn (by rfl) g_bool (by decide +kernel) rfl) (fun _ _ pa => pe_callB call_isi (by rfl) g_isinstance PyProof.Rows.boot_isinstance pa)))))))
abbrev s_orders : Stmt := topS 9
theorem sc_orders : FnScope ["size", "found", "_", "told", "other"] ["size"] (defScope s_orders) := ⟨rfl, rfl, rfl, by decide +kernel, rfl, by decide +kernel, by decide +kernel⟩
def ev_orders : En → O := (evSeq (evSet 1 (evLst (evCons (evTup evNil) evNil)))
    (evSeq (evFor (evIA rng1Of (evCons (evName 0) evNil)) (stName 2) (evSet 1 (evComp2 (evI listOf (evName 1)) ([(("told" : Str), 3), (("other" : Str), 4)].map (·.2)) [4] (stName 3) (evC (.bool true)) (evIA rng1Of (evCons (evName 0) evNil)) (stName 4) (ev2 gNotIn (evName 4) (evName 3)) (ev2 gCat (evName 3) (evTup (evCons (evName 4) evNil))))))
    (evRet (evName 1))))
def F_orders : List PyData → FRes := runDef 5 ev_orders
theorem fn_orders {f : Addr} {fd : FuncData} (F : Fun K "orders" "orders" s_orders f fd) (g_range : mg "range" = none) :
    FnOk P w K mg base (L2.CX P w) 1 f fd ["size"] (spF K mg T 1 F_orders) := by
  have sc := sc_orders
  refine fn_F F sc_orders (by decide) fun cdv A outer s H E hr => ?_
  exact snds_cons (snds_set (i := 1) (snd_lst (snda_cons (SndE.d (snd_tup snda_nil)) snda_nil)) (fun _ _ pe => ps_set sc.nd rfl (.inl rfl) pe))
    (snds_cons (snds_for (fun _ => cxF_passes) (fun _ => rfl) (sndi_rng1 (fun _ => by rfl) (fun _ => g_range) (snda_cons (SndE.d (snd_name (i := 0) (fun _ => pe_var rfl (by first | exact .inl rfl | exact .inr (.inl rfl) | exact .inr (.inr rfl))))) snda_nil)) (sndg_name (i := 2) (fun _ => pg_name sc.nd rfl (.inl rfl)))
    (snds_one (snds_setLc2 (i := 1) (own := [("told", 3), ("other", 4)]) (vs1 := [4]) (by decide) (sndi_list (fun _ => rfl) (SndE.d (snd_name (i := 1) (fun _ => pe_var rfl (by first | exact .inl rfl | exact .inr (.inl rfl) | exact .inr (.inr rfl)))))) (sndg_name (i := 3) (fun _ => pg_name sc.nd rfl (.inl rfl))) snd_pts0 (sndi_rng1 (fun _ => by rfl) (fun _ => g_range) (snda_cons (SndE.d (snd_name (i := 0) (fun _ => pe_var rfl (by first | exact .inl rfl | exact .inr (.inl rfl) | exact .inr (.inr rfl))))) snda_nil)) (sndg_name (i := 4) (fun _ => pg_name sc.nd rfl (.inl rfl))) (snd_pts1 (sndT_cmp opf_notIn (fun _ => op_notIn_seq) (SndE.d (snd_name (i := 4) (fun _ => pe_var rfl (by first | exact .inl rfl | exact .inr (.inl rfl) | exact .inr (.inr rfl))))) (SndE.d (snd_name (i := 3) (fun _ => pe_var rfl (by first | exact .inl rfl | exact .inr (.inl rfl) | exact .inr (.inr rfl))))) rfl)) (SndE.d (snd2 opf_cat (SndE.d (snd_name (i := 3) (fun _ => pe_var rfl (by first | exact .inl rfl | exact .inr (.inl rfl) | exact .inr (.inr rfl))))) (SndE.d (snd_tup (snda_cons (SndE.d (snd_name (i := 4) (fun _ => pe_var rfl (by first | exact .inl rfl | exact .inr (.inl rfl) | exact .inr (.inr rfl))))) snda_nil))) (fun _ _ _ pa pb => pe_op op_catA pa pb))) (by decide) (by decide) (fun _ _ _ _ _ _ _ _ pi pg pt pi1 pg1 pt1 pe => ps_setLc2 rfl sc.nd rfl rfl (sw_true rfl rfl rfl (by decide +kernel)) pi (blkOk_by (N := ["size", "found", "_", "told", "other"]) (sc := defScope s_orders) (own := [("told", 3), ("other", 4)]) (by decide +kernel)) (by decide) pg pt pi1 pg1 pt1 pe))))
    (snds_one (snds_ret (snd_name (i := 1) (fun _ => pe_var rfl (by first | exact .inl rfl | exact .inr (.inl rfl) | exact .inr (.inr rfl)))))))
abbrev s_is_term : Stmt := topS 10
theorem sc_is_term : FnScope ["thing", "names", "number"] ["thing", "names"] (defScope s_is_term) := ⟨rfl, rfl, rfl, by decide +kernel, rfl, by decide +kernel, by decide +kernel⟩
def ev_is_term : En → O := (evSeq (evIfS (evT (evOr (evNot (evT (evIsi "tuple" (evName 0)))) (evOr (ev2 gNeS (evBN gLen1 0) (evC (.int 2))) (evOr (evNot (evT (evIsi "tuple" (ev2L gIx 0 (evC (.int 0)))))) (ev2 gNeS (evB gLen (evCons (ev2L gIx 0 (evC (.int 0))) evNil)) (evName 1)))))) (evRet (evC (.bool false))) evNx)
    (evRet (evAnd (evB gAll (evCons (evComp (evI tupOf (ev2L gIx 0 (evC (.int 0)))) ([(("number" : Str), 2)].map (·.2)) (stName 2) (evC (.bool true)) (evAnd (evCall F_is_integer (evCons (evName 2) evNil)) (ev2 gGe (evName 2) (evC (.int 0))))) evNil)) (evAnd (evCall F_is_integer (evCons (ev2L gIx 0 (evC (.int 1))) evNil)) (ev2 gNeS (ev2L gIx 0 (evC (.int 1))) (evC (.int 0)))))))
def F_is_term : List PyData → FRes := runDef 3 ev_is_term
theorem fn_is_term {f : Addr} {fd : FuncData} (F : Fun K "is_term" "is_term" s_is_term f fd) (g_all : mg "all" = none) (g_isinstance : mg "isinstance" = none) (g_len : mg "len" = none) (g_tuple : mg "tuple" = none) {a_is_integer : Addr} {fd_is_integer : FuncData} (D_is_integer : DefAt K mg "is_integer" s_is_integer ["thing"] a_is_integer fd_is_integer) (C_is_integer : FnOk P w K mg base (L2.CX P w) 1 a_is_integer fd_is_integer ["thing"] (spF K mg T 1 F_is_integer)) :
    FnOk P w K mg base (L2.CX P w) 2 f fd ["thing", "names"] (spF K mg T 2 F_is_term) := by
  have sc := sc_is_term
  refine fn_F F sc_is_term (by decide) fun cdv A outer s H E hr => ?_
  exact snds_cons (snds_if (sndT_t (SndW.t (sndW_or (sndT_not (sndT_t (sndT_val (snd_isi isOk_tuple (SndE.d (snd_name (i := 0) (fun _ => pe_var rfl (by first | exact .inl rfl | exact .inr (.inl rfl) | exact .inr (.inr rfl))))) (fun _ => pe_bltn (by rfl) g_tuple (by decide +kernel) rfl) (fun _ _ pa => pe_callB call_isi (by rfl) g_isinstance PyProof.Rows.boot_isinstance pa)))) testF_t) (sndW_or (sndT_cmp opf_neS (fun _ => op_ne) (SndE.d (snd_bn (i := 0) (fun _ _ _ _ _ ra qa na => lenA_of ra qa na) (fun _ => pe_var rfl (by first | exact .inl rfl | exact .inr (.inl rfl) | exact .inr (.inr rfl))) (fun _ _ pa => pe_callB call_lenA (by rfl) g_len boot_len pa))) (SndE.d (snd_int)) rfl) (sndW_or (sndT_not (sndT_t (sndT_val (snd_isi isOk_tuple (SndE.d (snd2L (i := 0) opf_ix (fun _ => pe_var rfl (by first | exact .inl rfl | exact .inr (.inl rfl) | exact .inr (.inr rfl))) (SndE.d (snd_int)) (fun _ _ _ pa pb => pe_ix ix_seq pa pb (fun _ _ => rfl)))) (fun _ => pe_bltn (by rfl) g_tuple (by decide +kernel) rfl) (fun _ _ pa => pe_callB call_isi (by rfl) g_isinstance PyProof.Rows.boot_isinstance pa)))) testF_t) (sndW_or1 (sndT_cmp opf_neS (fun _ => op_ne) (SndE.d (snd_b callf_len (snda_cons (SndE.d (snd2L (i := 0) opf_ix (fun _ => pe_var rfl (by first | exact .inl rfl | exact .inr (.inl rfl) | exact .inr (.inr rfl))) (SndE.d (snd_int)) (fun _ _ _ pa pb => pe_ix ix_seq pa pb (fun _ _ => rfl)))) snda_nil) (fun _ _ pa => pe_callB call_lenA (by rfl) g_len boot_len pa))) (SndE.d (snd_name (i := 1) (fun _ => pe_var rfl (by first | exact .inl rfl | exact .inr (.inl rfl) | exact .inr (.inr rfl))))) rfl)) testF_not) testF_2) testF_not)))
    (snds_one (snds_ret (snd_bool))) (snds_nil))
    (snds_one (snds_ret (snd_and (SndE.d (snd_b callf_all (snda_cons (SndE.d (snd_lcE (own := [("number", 2)]) (sndi_tup (fun _ => rfl) (SndE.d (snd2L (i := 0) opf_ix (fun _ => pe_var rfl (by first | exact .inl rfl | exact .inr (.inl rfl) | exact .inr (.inr rfl))) (SndE.d (snd_int)) (fun _ _ _ pa pb => pe_ix ix_seq pa pb (fun _ _ => rfl))))) (sndg_name (i := 2) (fun _ => pg_name sc.nd rfl (.inl rfl))) snd_pts0 (SndE.d (snd_and (SndE.d (snd_call (F := F_is_integer) (snda_cons (SndE.d (snd_name (i := 2) (fun _ => pe_var rfl (by first | exact .inl rfl | exact .inr (.inl rfl) | exact .inr (.inr rfl))))) snda_nil) (fun j _ pa => pe_callS C_is_integer (hr.mono (by decide)) (by rfl) D_is_integer.m D_is_integer.k D_is_integer.b (fun σ => passAt LamX.takes0 σ) pa) (lena_cons lena_nil))) (snd_one (snd2 opf_ge (SndE.d (snd_name (i := 2) (fun _ => pe_var rfl (by first | exact .inl rfl | exact .inr (.inl rfl) | exact .inr (.inr rfl))))) (SndE.d (snd_int)) (fun _ _ _ pa pb => pe_cmpR op_ge pa pb rfl))))) (by decide) (fun _ _ _ _ _ pi pg pt pe => pe_lc rfl sc.nd pi (blkOk_by (N := ["thing", "names", "number"]) (sc := defScope s_is_term) (own := [("number", 2)]) (by decide +kernel)) pg pt pe))) snda_nil) (fun _ _ pa => pe_callB (cr_all rfl) (by rfl) g_all PyProof.Rows.boot_all pa))) (snd_and (SndE.d (snd_call (F := F_is_integer) (snda_cons (SndE.d (snd2L (i := 0) opf_ix (fun _ => pe_var rfl (by first | exact .inl rfl | exact .inr (.inl rfl) | exact .inr (.inr rfl))) (SndE.d (snd_int)) (fun _ _ _ pa pb => pe_ix ix_seq pa pb (fun _ _ => rfl)))) snda_nil) (fun j _ pa => pe_callS C_is_integer (hr.mono (by decide)) (by rfl) D_is_integer.m D_is_integer.k D_is_integer.b (fun σ => passAt cxF_takes σ) pa) (lena_cons lena_nil))) (snd_one (snd2 opf_neS (SndE.d (snd2L (i := 0) opf_ix (fun _ => pe_var rfl (by first | exact .inl rfl | exact .inr (.inl rfl) | exact .inr (.inr rfl))) (SndE.d (snd_int)) (fun _ _ _ pa pb => pe_ix ix_seq pa pb (fun _ _ => rfl)))) (SndE.d (snd_int)) (fun _ _ _ pa pb => pe_cmpR op_ne pa pb rfl)))))))
abbrev s_times_many : Stmt := topS 12
theorem sc_times_many : FnScope ["one", "other", "found", "first", "number", "second", "more", "place", "left", "right"] ["one", "other"] (defScope s_times_many) := ⟨rfl, rfl, rfl, by decide +kernel, rfl, by decide +kernel, by decide +kernel⟩
def ev_times_many : En → O := (evSeq (evSet 2 evDict0)
    (evSeq (evFor (evI itemsOf (evName 0)) (stTup 2 (stCons (stName 3) (stCons (stName 4) stNil))) (evFor (evI itemsOf (evName 1)) (stTup 2 (stCons (stName 5) (stCons (stName 6) stNil))) (evSeq (evSet 7 (evB gTup (evCons (evComp (evIA zipTOf (evCons (evName 3) (evCons (evName 5) evNil))) ([(("left" : Str), 8), (("right" : Str), 9)].map (·.2)) (stTup 2 (stCons (stName 8) (stCons (stName 9) stNil))) (evC (.bool true)) (ev2 gAdd (evName 8) (evName 9))) evNil)))
    (evDPut 2 (evName 7) (ev2 gAdd (evGet2 2 (evName 7) (evC (.int 0))) (ev2 gMul (evName 4) (evName 6)))))))
    (evRet (evName 2))))
def F_times_many : List PyData → FRes := runDef 10 ev_times_many
theorem fn_times_many {f : Addr} {fd : FuncData} (F : Fun K "times_many" "times_many" s_times_many f fd) (g_tuple : mg "tuple" = none) (g_zip : mg "zip" = none) :
    FnOk P w K mg base (L2.CX P w) 1 f fd ["one", "other"] (spF K mg T 2 F_times_many) := by
  have sc := sc_times_many
  refine fn_F F sc_times_many (by decide) fun cdv A outer s H E hr => ?_
  exact snds_cons (snds_set (i := 2) (snd_dict0) (fun _ _ pe => ps_set sc.nd rfl (.inl rfl) pe))
    (snds_cons (snds_for (fun _ => cxF_passes) (fun _ => rfl) (sndi_items (SndE.d (snd_name (i := 0) (fun _ => pe_var rfl (by first | exact .inl rfl | exact .inr (.inl rfl) | exact .inr (.inr rfl)))))) (sndg_tup (fun _ => rfl) (fun _ => rfl) (sndgs_cons (sndg_name (i := 3) (fun _ => pg_name sc.nd rfl (.inl rfl))) (sndgs_cons (sndg_name (i := 4) (fun _ => pg_name sc.nd rfl (.inl rfl))) (sndgs_nil))))
    (snds_one (snds_for (fun _ => cxF_passes) (fun _ => rfl) (sndi_items (SndE.d (snd_name (i := 1) (fun _ => pe_var rfl (by first | exact .inl rfl | exact .inr (.inl rfl) | exact .inr (.inr rfl)))))) (sndg_tup (fun _ => rfl) (fun _ => rfl) (sndgs_cons (sndg_name (i := 5) (fun _ => pg_name sc.nd rfl (.inl rfl))) (sndgs_cons (sndg_name (i := 6) (fun _ => pg_name sc.nd rfl (.inl rfl))) (sndgs_nil))))
    (snds_cons (snds_set (i := 7) (snd_b callf_tup (snda_cons (SndE.d (snd_lcE (own := [("left", 8), ("right", 9)]) (sndi_zipT (fun _ => rfl) (fun _ => by rfl) (fun _ => g_zip) (snda_cons (SndE.d (snd_name (i := 3) (fun _ => pe_var rfl (by first | exact .inl rfl | exact .inr (.inl rfl) | exact .inr (.inr rfl))))) (snda_cons (SndE.d (snd_name (i := 5) (fun _ => pe_var rfl (by first | exact .inl rfl | exact .inr (.inl rfl) | exact .inr (.inr rfl))))) snda_nil))) (sndg_tup (fun _ => rfl) (fun _ => rfl) (sndgs_cons (sndg_name (i := 8) (fun _ => pg_name sc.nd rfl (.inl rfl))) (sndgs_cons (sndg_name (i := 9) (fun _ => pg_name sc.nd rfl (.inl rfl))) (sndgs_nil)))) snd_pts0 (SndE.d (snd2 opf_add (SndE.d (snd_name (i := 8) (fun _ => pe_var rfl (by first | exact .inl rfl | exact .inr (.inl rfl) | exact .inr (.inr rfl))))) (SndE.d (snd_name (i := 9) (fun _ => pe_var rfl (by first | exact .inl rfl | exact .inr (.inl rfl) | exact .inr (.inr rfl))))) (fun _ _ _ pa pb => pe_op op_add pa pb))) (by decide) (fun _ _ _ _ _ pi pg pt pe => pe_lc rfl sc.nd pi (blkOk_by (N := ["one", "other", "found", "first", "number", "second", "more", "place", "left", "right"]) (sc := defScope s_times_many) (own := [("left", 8), ("right", 9)]) (by decide +kernel)) pg pt pe))) snda_nil) (fun _ _ pa => pe_callTy call_tupA (by rfl) g_tuple PyProof.Rows.boot_tuple pa)) (fun _ _ pe => ps_set sc.nd rfl (.inl rfl) pe))
    (snds_one (snds_dput (i := 2) (fun j => roomU1 hr) (fun _ => pe_var rfl (by first | exact .inl rfl | exact .inr (.inl rfl) | exact .inr (.inr rfl))) (SndE.d (snd_name (i := 7) (fun _ => pe_var rfl (by first | exact .inl rfl | exact .inr (.inl rfl) | exact .inr (.inr rfl))))) (SndE.d (snd2 opf_add (SndE.d (snd_get2 (i := 2) (fun j => roomU1 hr) (fun _ => pe_var rfl (by first | exact .inl rfl | exact .inr (.inl rfl) | exact .inr (.inr rfl))) (SndE.d (snd_name (i := 7) (fun _ => pe_var rfl (by first | exact .inl rfl | exact .inr (.inl rfl) | exact .inr (.inr rfl))))) (SndE.d (snd_int)) (fun _ => ⟨by rfl, by rfl, by rfl, by rfl⟩))) (SndE.d (snd2 opf_mul (SndE.d (snd_name (i := 4) (fun _ => pe_var rfl (by first | exact .inl rfl | exact .inr (.inl rfl) | exact .inr (.inr rfl))))) (SndE.d (snd_name (i := 6) (fun _ => pe_var rfl (by first | exact .inl rfl | exact .inr (.inl rfl) | exact .inr (.inr rfl))))) (fun _ _ _ pa pb => pe_op op_mulX pa pb))) (fun _ _ _ pa pb => pe_op op_add pa pb)))))))))
    (snds_one (snds_ret (snd_name (i := 2) (fun _ => pe_var rfl (by first | exact .inl rfl | exact .inr (.inl rfl) | exact .inr (.inr rfl)))))))
abbrev s_elementary_one : Stmt := topS 13
theorem sc_elementary_one : FnScope ["names", "many", "found", "some", "place", "at"] ["names", "many"] (defScope s_elementary_one) := ⟨rfl, rfl, rfl, by decide +kernel, rfl, by decide +kernel, by decide +kernel⟩
def ev_elementary_one : En → O := (evSeq (evSet 2 evDict0)
    (evSeq (evFor (evIA rng1Of (evCons (ev2 gShl (evC (.int 1)) (evName 0)) evNil)) (stName 3) (evSeq (evSet 4 (evB gTup (evCons (evComp (evIA rng1Of (evCons (evName 0) evNil)) ([(("at" : Str), 5)].map (·.2)) (stName 5) (evC (.bool true)) (ev2 gAnd (ev2 gShr (evName 3) (evName 5)) (evC (.int 1)))) evNil)))
    (evIfS (ev2 gEqS (evB gSumT (evCons (evName 4) evNil)) (evName 1)) (evDPut 2 (evName 4) (evC (.int 1))) evNx)))
    (evRet (evName 2))))
def F_elementary_one : List PyData → FRes := runDef 6 ev_elementary_one
theorem fn_elementary_one {f : Addr} {fd : FuncData} (F : Fun K "elementary_one" "elementary_one" s_elementary_one f fd) (g_range : mg "range" = none) (g_sum : mg "sum" = none) (g_tuple : mg "tuple" = none) :
    FnOk P w K mg base (L2.CX P w) 1 f fd ["names", "many"] (spF K mg T 2 F_elementary_one) := by
  have sc := sc_elementary_one
  refine fn_F F sc_elementary_one (by decide) fun cdv A outer s H E hr => ?_
  exact snds_cons (snds_set (i := 2) (snd_dict0) (fun _ _ pe => ps_set sc.nd rfl (.inl rfl) pe))
    (snds_cons (snds_for (fun _ => cxF_passes) (fun _ => rfl) (sndi_rng1 (fun _ => by rfl) (fun _ => g_range) (snda_cons (SndE.d (snd2 opf_shl (SndE.d (snd_int)) (SndE.d (snd_name (i := 0) (fun _ => pe_var rfl (by first | exact .inl rfl | exact .inr (.inl rfl) | exact .inr (.inr rfl))))) (fun _ _ _ pa pb => pe_op op_shl pa pb))) snda_nil)) (sndg_name (i := 3) (fun _ => pg_name sc.nd rfl (.inr rfl)))
    (snds_cons (snds_set (i := 4) (snd_b callf_tup (snda_cons (SndE.d (snd_lcE (own := [("at", 5)]) (sndi_rng1 (fun _ => by rfl) (fun _ => g_range) (snda_cons (SndE.d (snd_name (i := 0) (fun _ => pe_var rfl (by first | exact .inl rfl | exact .inr (.inl rfl) | exact .inr (.inr rfl))))) snda_nil)) (sndg_name (i := 5) (fun _ => pg_name sc.nd rfl (.inl rfl))) snd_pts0 (SndE.d (snd2 opf_and (SndE.d (snd2 opf_shr (SndE.d (snd_name (i := 3) (fun _ => pe_var rfl (by first | exact .inl rfl | exact .inr (.inl rfl) | exact .inr (.inr rfl))))) (SndE.d (snd_name (i := 5) (fun _ => pe_var rfl (by first | exact .inl rfl | exact .inr (.inl rfl) | exact .inr (.inr rfl))))) (fun _ _ _ pa pb => pe_op op_shr pa pb))) (SndE.d (snd_int)) (fun _ _ _ pa pb => pe_op op_and pa pb))) (by decide) (fun _ _ _ _ _ pi pg pt pe => pe_lc rfl sc.nd pi (blkOk_by (N := ["names", "many", "found", "some", "place", "at"]) (sc := defScope s_elementary_one) (own := [("at", 5)]) (by decide +kernel)) pg pt pe))) snda_nil) (fun _ _ pa => pe_callTy call_tupA (by rfl) g_tuple PyProof.Rows.boot_tuple pa)) (fun _ _ pe => ps_set sc.nd rfl (.inl rfl) pe))
    (snds_one (snds_if (sndT_cmp opf_eqS (fun _ => op_eq) (SndE.d (snd_b callf_sumT (snda_cons (SndE.d (snd_name (i := 4) (fun _ => pe_var rfl (by first | exact .inl rfl | exact .inr (.inl rfl) | exact .inr (.inr rfl))))) snda_nil) (fun _ _ pa => pe_callB (cr_sumT rfl) (by rfl) g_sum PyProof.Rows.boot_sum pa))) (SndE.d (snd_name (i := 1) (fun _ => pe_var rfl (by first | exact .inl rfl | exact .inr (.inl rfl) | exact .inr (.inr rfl))))) rfl)
    (snds_one (snds_dput (i := 2) (fun j => roomU1 hr) (fun _ => pe_var rfl (by first | exact .inl rfl | exact .inr (.inl rfl) | exact .inr (.inr rfl))) (SndE.d (snd_name (i := 4) (fun _ => pe_var rfl (by first | exact .inl rfl | exact .inr (.inl rfl) | exact .inr (.inr rfl))))) (SndE.d (snd_int)))) (snds_nil)))))
    (snds_one (snds_ret (snd_name (i := 2) (fun _ => pe_var rfl (by first | exact .inl rfl | exact .inr (.inl rfl) | exact .inr (.inr rfl)))))))
abbrev s_check_many : Stmt := topS 11
theorem sc_check_many : FnScope ["names", "told", "exponents", "there", "number", "order", "at", "_", "term"] ["names", "told"] (defScope s_check_many) := ⟨rfl, rfl, rfl, by decide +kernel, rfl, by decide +kernel, by decide +kernel⟩
def ev_check_many : En → O := (evSeq (evIfS (evT (evOr (evNot (evT (evIsi "tuple" (evName 1)))) (evNot (evT (evB gAll (evCons (evComp (evI tupOf (evName 1)) ([(("term" : Str), 8)].map (·.2)) (stName 8) (evC (.bool true)) (evCall F_is_term (evCons (evName 8) (evCons (evName 0) evNil)))) evNil)))))) (evRaise "BadPolynomial") evNx)
    (evSeq (evIfS (evT (evB gAny (evCons (evComp (evIA rng2Of (evCons (evC (.int 1)) (evCons (evBN gLen1 1) evNil))) ([(("at" : Str), 6)].map (·.2)) (stName 6) (evC (.bool true)) (ev2 gLeD (ev2 gIx (ev2L gIx 1 (evName 6)) (evC (.int 0))) (ev2 gIx (ev2L gIx 1 (ev2 gSub (evName 6) (evC (.int 1)))) (evC (.int 0))))) evNil))) (evRaise "BadPolynomial") evNx)
    (evSeq (evIfS (evT (evB gAny (evCons (evComp (evI tupOf (evName 1)) ([(("exponents" : Str), 2), (("_" : Str), 7)].map (·.2)) (stTup 2 (stCons (stName 2) (stCons (stName 7) stNil))) (evC (.bool true)) (ev2 gGt (evB gSumT (evCons (evName 2) evNil)) (evC (.int 8)))) evNil))) (evRaise "OutOfRange") evNx)
    (evSeq (evSet 3 (evBO gDict (evCons (evName 1) evNil)))
    (evFor (evI tupOf (evName 1)) (stTup 2 (stCons (stName 2) (stCons (stName 4) stNil))) (evFor (evI listOf (evCall F_orders (evCons (evName 0) evNil))) (stName 5) (evIfS (ev2 gNeS (evGet1 3 (evB gTup (evCons (evComp (evI tupOf (evName 5)) ([(("at" : Str), 6)].map (·.2)) (stName 6) (evC (.bool true)) (ev2L gIx 2 (evName 6))) evNil))) (evName 4)) (evRaise "OutOfRange") evNx)))))))
def F_check_many : List PyData → FRes := runDef 9 ev_check_many
theorem fn_check_many {f : Addr} {fd : FuncData} (F : Fun K "check_many" "check_many" s_check_many f fd) (g_all : mg "all" = none) (g_any : mg "any" = none) (g_dict : mg "dict" = none) (g_isinstance : mg "isinstance" = none) (g_len : mg "len" = none) (g_range : mg "range" = none) (g_sum : mg "sum" = none) (g_tuple : mg "tuple" = none) {t_MOST_SUM : Tok} (g_MOST_SUM : mg "MOST_SUM" = some (.int 8 t_MOST_SUM)) {a_is_term : Addr} {fd_is_term : FuncData} (D_is_term : DefAt K mg "is_term" s_is_term ["thing", "names"] a_is_term fd_is_term) (C_is_term : FnOk P w K mg base (L2.CX P w) 2 a_is_term fd_is_term ["thing", "names"] (spF K mg T 2 F_is_term)) {a_orders : Addr} {fd_orders : FuncData} (D_orders : DefAt K mg "orders" s_orders ["size"] a_orders fd_orders) (C_orders : FnOk P w K mg base (L2.CX P w) 1 a_orders fd_orders ["size"] (spF K mg T 1 F_orders)) {a_BadPolynomial : Addr} (X_BadPolynomial : ExcAt K mg "BadPolynomial" a_BadPolynomial) {a_OutOfRange : Addr} (X_OutOfRange : ExcAt K mg "OutOfRange" a_OutOfRange) :
    FnOk P w K mg base (L2.CX P w) 3 f fd ["names", "told"] (spF K mg T 2 F_check_many) := by
  have sc := sc_check_many
  refine fn_F F sc_check_many (by decide) fun cdv A outer s H E hr => ?_
  exact snds_cons (snds_if (sndT_t (SndW.t (sndW_or (sndT_not (sndT_t (sndT_val (snd_isi isOk_tuple (SndE.d (snd_name (i := 1) (fun _ => pe_var rfl (by first | exact .inl rfl | exact .inr (.inl rfl) | exact .inr (.inr rfl))))) (fun _ => pe_bltn (by rfl) g_tuple (by decide +kernel) rfl) (fun _ _ pa => pe_callB call_isi (by rfl) g_isinstance PyProof.Rows.boot_isinstance pa)))) testF_t) (sndW_or1 (sndT_not (sndT_t (sndT_val (snd_b callf_all (snda_cons (SndE.d (snd_lcE (own := [("term", 8)]) (sndi_tup (fun _ => rfl) (SndE.d (snd_name (i := 1) (fun _ => pe_var rfl (by first | exact .inl rfl | exact .inr (.inl rfl) | exact .inr (.inr rfl)))))) (sndg_name (i := 8) (fun _ => pg_name sc.nd rfl (.inl rfl))) snd_pts0 (SndE.d (snd_call (F := F_is_term) (snda_cons (SndE.d (snd_name (i := 8) (fun _ => pe_var rfl (by first | exact .inl rfl | exact .inr (.inl rfl) | exact .inr (.inr rfl))))) (snda_cons (SndE.d (snd_name (i := 0) (fun _ => pe_var rfl (by first | exact .inl rfl | exact .inr (.inl rfl) | exact .inr (.inr rfl))))) snda_nil)) (fun j _ pa => pe_callS C_is_term (hr.mono (by decide)) (by rfl) D_is_term.m D_is_term.k D_is_term.b (fun σ => passAt LamX.takes0 σ) pa) (lena_cons (lena_cons lena_nil)))) (by decide) (fun _ _ _ _ _ pi pg pt pe => pe_lc rfl sc.nd pi (blkOk_by (N := ["names", "told", "exponents", "there", "number", "order", "at", "_", "term"]) (sc := defScope s_check_many) (own := [("term", 8)]) (by decide +kernel)) pg pt pe))) snda_nil) (fun _ _ pa => pe_callB (cr_all rfl) (by rfl) g_all PyProof.Rows.boot_all pa)))) testF_t)) testF_not)))
    (snds_one (snds_raise X_BadPolynomial.m (fun _ => ps_raise rfl cxF_takes (pmk_own PySem.F.excBase_ValueError X_BadPolynomial.q X_BadPolynomial.m X_BadPolynomial.k (raises_own X_BadPolynomial.s1 X_BadPolynomial.s2) (by rfl))))) (snds_nil))
    (snds_cons (snds_if (sndT_t (sndT_val (snd_b callf_any (snda_cons (SndE.d (snd_lcE (own := [("at", 6)]) (sndi_rng2 (fun _ => by rfl) (fun _ => g_range) (snda_cons (SndE.d (snd_int)) (snda_cons (SndE.d (snd_bn (i := 1) (fun _ _ _ _ _ ra qa na => lenA_of ra qa na) (fun _ => pe_var rfl (by first | exact .inl rfl | exact .inr (.inl rfl) | exact .inr (.inr rfl))) (fun _ _ pa => pe_callB call_lenA (by rfl) g_len boot_len pa))) snda_nil))) (sndg_name (i := 6) (fun _ => pg_name sc.nd rfl (.inl rfl))) snd_pts0 (SndE.d (snd2 opf_leD (SndE.d (snd2 opf_ix (SndE.d (snd2L (i := 1) opf_ix (fun _ => pe_var rfl (by first | exact .inl rfl | exact .inr (.inl rfl) | exact .inr (.inr rfl))) (SndE.d (snd_name (i := 6) (fun _ => pe_var rfl (by first | exact .inl rfl | exact .inr (.inl rfl) | exact .inr (.inr rfl))))) (fun _ _ _ pa pb => pe_ix ix_seq pa pb (fun _ _ => rfl)))) (SndE.d (snd_int)) (fun _ _ _ pa pb => pe_ix ix_seq pa pb (fun _ _ => rfl)))) (SndE.d (snd2 opf_ix (SndE.d (snd2L (i := 1) opf_ix (fun _ => pe_var rfl (by first | exact .inl rfl | exact .inr (.inl rfl) | exact .inr (.inr rfl))) (SndE.d (snd2 opf_sub (SndE.d (snd_name (i := 6) (fun _ => pe_var rfl (by first | exact .inl rfl | exact .inr (.inl rfl) | exact .inr (.inr rfl))))) (SndE.d (snd_int)) (fun _ _ _ pa pb => pe_op op_sub pa pb))) (fun _ _ _ pa pb => pe_ix ix_seq pa pb (fun _ _ => rfl)))) (SndE.d (snd_int)) (fun _ _ _ pa pb => pe_ix ix_seq pa pb (fun _ _ => rfl)))) (fun _ _ _ pa pb => pe_cmpR (op_leD (roomU64 hr)) pa pb rfl))) (by decide) (fun _ _ _ _ _ pi pg pt pe => pe_lc rfl sc.nd pi (blkOk_by (N := ["names", "told", "exponents", "there", "number", "order", "at", "_", "term"]) (sc := defScope s_check_many) (own := [("at", 6)]) (by decide +kernel)) pg pt pe))) snda_nil) (fun _ _ pa => pe_callB (cr_any rfl) (by rfl) g_any PyProof.Rows.boot_any pa))))
    (snds_one (snds_raise X_BadPolynomial.m (fun _ => ps_raise rfl cxF_takes (pmk_own PySem.F.excBase_ValueError X_BadPolynomial.q X_BadPolynomial.m X_BadPolynomial.k (raises_own X_BadPolynomial.s1 X_BadPolynomial.s2) (by rfl))))) (snds_nil))
    (snds_cons (snds_if (sndT_t (sndT_val (snd_b callf_any (snda_cons (SndE.d (snd_lcE (own := [("exponents", 2), ("_", 7)]) (sndi_tup (fun _ => rfl) (SndE.d (snd_name (i := 1) (fun _ => pe_var rfl (by first | exact .inl rfl | exact .inr (.inl rfl) | exact .inr (.inr rfl)))))) (sndg_tup (fun _ => rfl) (fun _ => rfl) (sndgs_cons (sndg_name (i := 2) (fun _ => pg_name sc.nd rfl (.inl rfl))) (sndgs_cons (sndg_name (i := 7) (fun _ => pg_name sc.nd rfl (.inl rfl))) (sndgs_nil)))) snd_pts0 (SndE.d (snd2 opf_gt (SndE.d (snd_b callf_sumT (snda_cons (SndE.d (snd_name (i := 2) (fun _ => pe_var rfl (by first | exact .inl rfl | exact .inr (.inl rfl) | exact .inr (.inr rfl))))) snda_nil) (fun _ _ pa => pe_callB (cr_sumT rfl) (by rfl) g_sum PyProof.Rows.boot_sum pa))) (SndE.d (snd_gint (fun _ => by rfl) (fun _ => g_MOST_SUM))) (fun _ _ _ pa pb => pe_cmpR op_gt pa pb rfl))) (by decide) (fun _ _ _ _ _ pi pg pt pe => pe_lc rfl sc.nd pi (blkOk_by (N := ["names", "told", "exponents", "there", "number", "order", "at", "_", "term"]) (sc := defScope s_check_many) (own := [("exponents", 2), ("_", 7)]) (by decide +kernel)) pg pt pe))) snda_nil) (fun _ _ pa => pe_callB (cr_any rfl) (by rfl) g_any PyProof.Rows.boot_any pa))))
    (snds_one (snds_raise X_OutOfRange.m (fun _ => ps_raise rfl cxF_takes (pmk_own PySem.F.excBase_ValueError X_OutOfRange.q X_OutOfRange.m X_OutOfRange.k (raises_own X_OutOfRange.s1 X_OutOfRange.s2) (by rfl))))) (snds_nil))
    (snds_cons (snds_set (i := 3) (snd_bo callo_dict (snda_cons (SndE.d (snd_name (i := 1) (fun _ => pe_var rfl (by first | exact .inl rfl | exact .inr (.inl rfl) | exact .inr (.inr rfl))))) snda_nil) (fun _ _ pa => pe_callTy (call_dictAll (roomU3 hr) rfl) (by rfl) g_dict PyProof.Rows.boot_dict pa)) (fun _ _ pe => ps_set sc.nd rfl (.inl rfl) pe))
    (snds_one (snds_for (fun _ => cxF_passes) (fun _ => rfl) (sndi_tup (fun _ => rfl) (SndE.d (snd_name (i := 1) (fun _ => pe_var rfl (by first | exact .inl rfl | exact .inr (.inl rfl) | exact .inr (.inr rfl)))))) (sndg_tup (fun _ => rfl) (fun _ => rfl) (sndgs_cons (sndg_name (i := 2) (fun _ => pg_name sc.nd rfl (.inr rfl))) (sndgs_cons (sndg_name (i := 4) (fun _ => pg_name sc.nd rfl (.inl rfl))) (sndgs_nil))))
    (snds_one (snds_for (fun _ => cxF_passes) (fun _ => rfl) (sndi_list (fun _ => rfl) (SndE.d (snd_call (F := F_orders) (snda_cons (SndE.d (snd_name (i := 0) (fun _ => pe_var rfl (by first | exact .inl rfl | exact .inr (.inl rfl) | exact .inr (.inr rfl))))) snda_nil) (fun j _ pa => pe_callS C_orders (hr.mono (by decide)) (by rfl) D_orders.m D_orders.k D_orders.b (fun σ => passAt cxF_takes σ) pa) (lena_cons lena_nil)))) (sndg_name (i := 5) (fun _ => pg_name sc.nd rfl (.inl rfl)))
    (snds_one (snds_if (sndT_cmp opf_neS (fun _ => op_ne) (SndE.d (snd_get1 (i := 3) (fun j => roomU1 hr) (fun _ => pe_var rfl (by first | exact .inl rfl | exact .inr (.inl rfl) | exact .inr (.inr rfl))) (SndE.d (snd_b callf_tup (snda_cons (SndE.d (snd_lcE (own := [("at", 6)]) (sndi_tup (fun _ => rfl) (SndE.d (snd_name (i := 5) (fun _ => pe_var rfl (by first | exact .inl rfl | exact .inr (.inl rfl) | exact .inr (.inr rfl)))))) (sndg_name (i := 6) (fun _ => pg_name sc.nd rfl (.inl rfl))) snd_pts0 (SndE.d (snd2L (i := 2) opf_ix (fun _ => pe_var rfl (by first | exact .inl rfl | exact .inr (.inl rfl) | exact .inr (.inr rfl))) (SndE.d (snd_name (i := 6) (fun _ => pe_var rfl (by first | exact .inl rfl | exact .inr (.inl rfl) | exact .inr (.inr rfl))))) (fun _ _ _ pa pb => pe_ix ix_seq pa pb (fun _ _ => rfl)))) (by decide) (fun _ _ _ _ _ pi pg pt pe => pe_lc rfl sc.nd pi (blkOk_by (N := ["names", "told", "exponents", "there", "number", "order", "at", "_", "term"]) (sc := defScope s_check_many) (own := [("at", 6)]) (by decide +kernel)) pg pt pe))) snda_nil) (fun _ _ pa => pe_callTy call_tupA (by rfl) g_tuple PyProof.Rows.boot_tuple pa))) (fun _ => ⟨by rfl, by rfl, by rfl, by rfl⟩))) (SndE.d (snd_name (i := 4) (fun _ => pe_var rfl (by first | exact .inl rfl | exact .inr (.inl rfl) | exact .inr (.inr rfl))))) rfl)
    (snds_one (snds_raise X_OutOfRange.m (fun _ => ps_raise rfl cxF_takes (pmk_own PySem.F.excBase_ValueError X_OutOfRange.q X_OutOfRange.m X_OutOfRange.k (raises_own X_OutOfRange.s1 X_OutOfRange.s2) (by rfl))))) (snds_nil))))))))))
abbrev s_elementary : Stmt := topS 14
theorem sc_elementary : FnScope ["n", "told", "left", "found", "first", "number", "at", "place", "whole", "often", "_", "spot", "more"] ["n", "told"] (defScope s_elementary) := ⟨rfl, rfl, rfl, by decide +kernel, rfl, by decide +kernel, by decide +kernel⟩
def ev_elementary : En → O := (evSeq (evIfS (evT (evOr (evNot (evT (evCall F_is_integer (evCons (evName 0) evNil)))) (evNot (evT (evChain (fun i j => decide (i ≤ j)) (fun i j => decide (i ≤ j)) (evC (.int 1)) (evName 0) (evC (.int 4))))))) (evRaise "OutOfRange") evNx)
    (evSeq (evDrop (evCall F_check_many (evCons (evName 0) (evCons (evName 1) evNil))))
    (evSeq (evPar 2 3 (evBO gDict (evCons (evName 1) evNil)) evDict0)
    (evSeq (evWhile (ev2 gGt (evBN gLen1 2) (evC (.int 0))) (evSeq (evSet 4 (evBN gMax 2))
    (evSeq (evSet 5 (ev2L gDget 2 (evName 4)))
    (evSeq (evSet 7 (evB gTup (evCons (evComp (evIA rng1Of (evCons (evName 0) evNil)) ([(("at" : Str), 6)].map (·.2)) (stName 6) (evC (.bool true)) (ev2 gSub (ev2L gIx 4 (evName 6)) (evIf (ev2 gLt (ev2 gAdd (evName 6) (evC (.int 1))) (evName 0)) (ev2L gIx 4 (ev2 gAdd (evName 6) (evC (.int 1)))) (evC (.int 0))))) evNil)))
    (evSeq (evDPut 3 (evName 7) (evName 5))
    (evSeq (evSet 8 (evDisp1 (ev2 gRep (evTup (evCons (evC (.int 0)) evNil)) (evName 0)) (evName 5)))
    (evSeq (evFor (evIA enumTOf (evCons (evName 7) evNil)) (stTup 2 (stCons (stName 6) (stCons (stName 9) stNil))) (evFor (evIA rng1Of (evCons (evName 9) evNil)) (stName 10) (evSet 8 (evCall F_times_many (evCons (evName 8) (evCons (evCall F_elementary_one (evCons (evName 0) (evCons (ev2 gAdd (evName 6) (evC (.int 1))) evNil))) evNil))))))
    (evSeq (evFor (evI itemsOf (evName 8)) (stTup 2 (stCons (stName 11) (stCons (stName 12) stNil))) (evDPut 2 (evName 11) (ev2 gSub (evGet2 2 (evName 11) (evC (.int 0))) (evName 12))))
    (evSet 2 (evDComp (evI itemsOf (evName 2)) ([(("spot" : Str), 11), (("more" : Str), 12)].map (·.2)) (stTup 2 (stCons (stName 11) (stCons (stName 12) stNil))) (ev2 gNeS (evName 12) (evC (.int 0))) (evName 11) (evName 12)))))))))) 1000)
    (evRet (evB gTup (evCons (evSortIt 3) evNil)))))))
def F_elementary : List PyData → FRes := runDef 13 ev_elementary
theorem fn_elementary {f : Addr} {fd : FuncData} (F : Fun K "elementary" "elementary" s_elementary f fd) (g_dict : mg "dict" = none) (g_enumerate : mg "enumerate" = none) (g_len : mg "len" = none) (g_max : mg "max" = none) (g_range : mg "range" = none) (g_sorted : mg "sorted" = none) (g_tuple : mg "tuple" = none) {t_MOST_NAMES : Tok} (g_MOST_NAMES : mg "MOST_NAMES" = some (.int 4 t_MOST_NAMES)) {a_is_integer : Addr} {fd_is_integer : FuncData} (D_is_integer : DefAt K mg "is_integer" s_is_integer ["thing"] a_is_integer fd_is_integer) (C_is_integer : FnOk P w K mg base (L2.CX P w) 1 a_is_integer fd_is_integer ["thing"] (spF K mg T 1 F_is_integer)) {a_check_many : Addr} {fd_check_many : FuncData} (D_check_many : DefAt K mg "check_many" s_check_many ["names", "told"] a_check_many fd_check_many) (C_check_many : FnOk P w K mg base (L2.CX P w) 3 a_check_many fd_check_many ["names", "told"] (spF K mg T 2 F_check_many)) {a_times_many : Addr} {fd_times_many : FuncData} (D_times_many : DefAt K mg "times_many" s_times_many ["one", "other"] a_times_many fd_times_many) (C_times_many : FnOk P w K mg base (L2.CX P w) 1 a_times_many fd_times_many ["one", "other"] (spF K mg T 2 F_times_many)) {a_elementary_one : Addr} {fd_elementary_one : FuncData} (D_elementary_one : DefAt K mg "elementary_one" s_elementary_one ["names", "many"] a_elementary_one fd_elementary_one) (C_elementary_one : FnOk P w K mg base (L2.CX P w) 1 a_elementary_one fd_elementary_one ["names", "many"] (spF K mg T 2 F_elementary_one)) {a_OutOfRange : Addr} (X_OutOfRange : ExcAt K mg "OutOfRange" a_OutOfRange) :
    FnOk P w K mg base (L2.CX P w) 4 f fd ["n", "told"] (spF K mg T 2 F_elementary) := by
  have sc := sc_elementary
  refine fn_F F sc_elementary (by decide) fun cdv A outer s H E hr => ?_
  exact snds_cons (snds_if (sndT_t (SndW.t (sndW_or (sndT_not (sndT_t (sndT_val (snd_call (F := F_is_integer) (snda_cons (SndE.d (snd_name (i := 0) (fun _ => pe_var rfl (by first | exact .inl rfl | exact .inr (.inl rfl) | exact .inr (.inr rfl))))) snda_nil) (fun j _ pa => pe_callS C_is_integer (hr.mono (by decide)) (by rfl) D_is_integer.m D_is_integer.k D_is_integer.b (fun σ => passAt cxF_takes σ) pa) (lena_cons lena_nil)))) testF_t) (sndW_or1 (sndT_not (sndT_t (sndT_chain (fun _ => op_le) (fun _ => op_le) (SndE.d (snd_int)) (SndE.d (snd_name (i := 0) (fun _ => pe_var rfl (by first | exact .inl rfl | exact .inr (.inl rfl) | exact .inr (.inr rfl))))) (SndE.d (snd_gint (fun _ => by rfl) (fun _ => g_MOST_NAMES))) rfl)) testF_t)) testF_not)))
    (snds_one (snds_raise X_OutOfRange.m (fun _ => ps_raise rfl cxF_takes (pmk_own PySem.F.excBase_ValueError X_OutOfRange.q X_OutOfRange.m X_OutOfRange.k (raises_own X_OutOfRange.s1 X_OutOfRange.s2) (by rfl))))) (snds_nil))
    (snds_cons (snds_expr (snd_call (F := F_check_many) (snda_cons (SndE.d (snd_name (i := 0) (fun _ => pe_var rfl (by first | exact .inl rfl | exact .inr (.inl rfl) | exact .inr (.inr rfl))))) (snda_cons (SndE.d (snd_name (i := 1) (fun _ => pe_var rfl (by first | exact .inl rfl | exact .inr (.inl rfl) | exact .inr (.inr rfl))))) snda_nil)) (fun j _ pa => pe_callS C_check_many (hr.mono (by decide)) (by rfl) D_check_many.m D_check_many.k D_check_many.b (fun σ => passAt cxF_takes σ) pa) (lena_cons (lena_cons lena_nil))))
    (snds_cons (snds_par (i := 2) (j := 3) (by decide) (snd_bo callo_dict (snda_cons (SndE.d (snd_name (i := 1) (fun _ => pe_var rfl (by first | exact .inl rfl | exact .inr (.inl rfl) | exact .inr (.inr rfl))))) snda_nil) (fun _ _ pa => pe_callTy (call_dictAll (roomU3 hr) rfl) (by rfl) g_dict PyProof.Rows.boot_dict pa)) (snd_dict0) (fun _ _ pa => ps_par rfl sc.nd rfl rfl (by decide) rfl rfl pa rfl))
    (snds_cons (snds_while 1000 (fun _ => cxF_passes) (sndT_cmp opf_gt (fun _ => op_gt) (SndE.d (snd_bn (i := 2) (fun _ _ _ _ _ ra qa na => lenA_of ra qa na) (fun _ => pe_var rfl (by first | exact .inl rfl | exact .inr (.inl rfl) | exact .inr (.inr rfl))) (fun _ _ pa => pe_callB call_lenA (by rfl) g_len boot_len pa))) (SndE.d (snd_int)) rfl)
    (snds_cons (snds_set (i := 4) (snd_bn (i := 2) (fun _ _ _ _ _ ra qa na => rMaxT_of ra qa na) (fun _ => pe_var rfl (by first | exact .inl rfl | exact .inr (.inl rfl) | exact .inr (.inr rfl))) (fun _ _ pa => pe_callB (call_maxT (roomU64 hr) rfl) (by rfl) g_max PyProof.Rows.boot_max pa)) (fun _ _ pe => ps_set sc.nd rfl (.inr rfl) pe))
    (snds_cons (snds_set (i := 5) (snd2L (i := 2) opf_dget (fun _ => pe_var rfl (by first | exact .inl rfl | exact .inr (.inl rfl) | exact .inr (.inr rfl))) (SndE.d (snd_name (i := 4) (fun _ => pe_var rfl (by first | exact .inl rfl | exact .inr (.inl rfl) | exact .inr (.inr rfl))))) (fun _ _ _ pa pb => pe_dget (roomU1 hr) pa pb (fun _ _ => rfl))) (fun _ _ pe => ps_set sc.nd rfl (.inl rfl) pe))
    (snds_cons (snds_set (i := 7) (snd_b callf_tup (snda_cons (SndE.d (snd_lcE (own := [("at", 6)]) (sndi_rng1 (fun _ => by rfl) (fun _ => g_range) (snda_cons (SndE.d (snd_name (i := 0) (fun _ => pe_var rfl (by first | exact .inl rfl | exact .inr (.inl rfl) | exact .inr (.inr rfl))))) snda_nil)) (sndg_name (i := 6) (fun _ => pg_name sc.nd rfl (.inl rfl))) snd_pts0 (SndE.d (snd2 opf_sub (SndE.d (snd2L (i := 4) opf_ix (fun _ => pe_var rfl (by first | exact .inl rfl | exact .inr (.inl rfl) | exact .inr (.inr rfl))) (SndE.d (snd_name (i := 6) (fun _ => pe_var rfl (by first | exact .inl rfl | exact .inr (.inl rfl) | exact .inr (.inr rfl))))) (fun _ _ _ pa pb => pe_ix ix_seq pa pb (fun _ _ => rfl)))) (SndE.d (snd_if (sndT_cmp opf_lt (fun _ => op_lt) (SndE.d (snd2 opf_add (SndE.d (snd_name (i := 6) (fun _ => pe_var rfl (by first | exact .inl rfl | exact .inr (.inl rfl) | exact .inr (.inr rfl))))) (SndE.d (snd_int)) (fun _ _ _ pa pb => pe_op op_add pa pb))) (SndE.d (snd_name (i := 0) (fun _ => pe_var rfl (by first | exact .inl rfl | exact .inr (.inl rfl) | exact .inr (.inr rfl))))) rfl) testF_2 (snd2L (i := 4) opf_ix (fun _ => pe_var rfl (by first | exact .inl rfl | exact .inr (.inl rfl) | exact .inr (.inr rfl))) (SndE.d (snd2 opf_add (SndE.d (snd_name (i := 6) (fun _ => pe_var rfl (by first | exact .inl rfl | exact .inr (.inl rfl) | exact .inr (.inr rfl))))) (SndE.d (snd_int)) (fun _ _ _ pa pb => pe_op op_add pa pb))) (fun _ _ _ pa pb => pe_ix ix_seq pa pb (fun _ _ => rfl))) (snd_int))) (fun _ _ _ pa pb => pe_op op_sub pa pb))) (by decide) (fun _ _ _ _ _ pi pg pt pe => pe_lc rfl sc.nd pi (blkOk_by (N := ["n", "told", "left", "found", "first", "number", "at", "place", "whole", "often", "_", "spot", "more"]) (sc := defScope s_elementary) (own := [("at", 6)]) (by decide +kernel)) pg pt pe))) snda_nil) (fun _ _ pa => pe_callTy call_tupA (by rfl) g_tuple PyProof.Rows.boot_tuple pa)) (fun _ _ pe => ps_set sc.nd rfl (.inl rfl) pe))
    (snds_cons (snds_dput (i := 3) (fun j => roomU1 hr) (fun _ => pe_var rfl (by first | exact .inl rfl | exact .inr (.inl rfl) | exact .inr (.inr rfl))) (SndE.d (snd_name (i := 7) (fun _ => pe_var rfl (by first | exact .inl rfl | exact .inr (.inl rfl) | exact .inr (.inr rfl))))) (SndE.d (snd_name (i := 5) (fun _ => pe_var rfl (by first | exact .inl rfl | exact .inr (.inl rfl) | exact .inr (.inr rfl))))))
    (snds_cons (snds_set (i := 8) (snd_disp1 (fun j => roomU1 hr) (SndE.d (snd2 opf_rep (SndE.d (snd_tup (snda_cons (SndE.d (snd_int)) snda_nil))) (SndE.d (snd_name (i := 0) (fun _ => pe_var rfl (by first | exact .inl rfl | exact .inr (.inl rfl) | exact .inr (.inr rfl))))) (fun _ _ _ pa pb => pe_op op_repN pa pb))) (SndE.d (snd_name (i := 5) (fun _ => pe_var rfl (by first | exact .inl rfl | exact .inr (.inl rfl) | exact .inr (.inr rfl)))))) (fun _ _ pe => ps_set sc.nd rfl (.inl rfl) pe))
    (snds_cons (snds_for (fun _ => cxF_passes) (fun _ => rfl) (sndi_enumT (fun _ => rfl) (fun _ => by rfl) (fun _ => g_enumerate) (snda_cons (SndE.d (snd_name (i := 7) (fun _ => pe_var rfl (by first | exact .inl rfl | exact .inr (.inl rfl) | exact .inr (.inr rfl))))) snda_nil)) (sndg_tup (fun _ => rfl) (fun _ => rfl) (sndgs_cons (sndg_name (i := 6) (fun _ => pg_name sc.nd rfl (.inl rfl))) (sndgs_cons (sndg_name (i := 9) (fun _ => pg_name sc.nd rfl (.inl rfl))) (sndgs_nil))))
    (snds_one (snds_for (fun _ => cxF_passes) (fun _ => rfl) (sndi_rng1 (fun _ => by rfl) (fun _ => g_range) (snda_cons (SndE.d (snd_name (i := 9) (fun _ => pe_var rfl (by first | exact .inl rfl | exact .inr (.inl rfl) | exact .inr (.inr rfl))))) snda_nil)) (sndg_name (i := 10) (fun _ => pg_name sc.nd rfl (.inl rfl)))
    (snds_one (snds_set (i := 8) (snd_call (F := F_times_many) (snda_cons (SndE.d (snd_name (i := 8) (fun _ => pe_var rfl (by first | exact .inl rfl | exact .inr (.inl rfl) | exact .inr (.inr rfl))))) (snda_cons (SndE.d (snd_call (F := F_elementary_one) (snda_cons (SndE.d (snd_name (i := 0) (fun _ => pe_var rfl (by first | exact .inl rfl | exact .inr (.inl rfl) | exact .inr (.inr rfl))))) (snda_cons (SndE.d (snd2 opf_add (SndE.d (snd_name (i := 6) (fun _ => pe_var rfl (by first | exact .inl rfl | exact .inr (.inl rfl) | exact .inr (.inr rfl))))) (SndE.d (snd_int)) (fun _ _ _ pa pb => pe_op op_add pa pb))) snda_nil)) (fun j _ pa => pe_callS C_elementary_one (hr.mono (by decide)) (by rfl) D_elementary_one.m D_elementary_one.k D_elementary_one.b (fun σ => passAt cxF_takes σ) pa) (lena_cons (lena_cons lena_nil)))) snda_nil)) (fun j _ pa => pe_callS C_times_many (hr.mono (by decide)) (by rfl) D_times_many.m D_times_many.k D_times_many.b (fun σ => passAt cxF_takes σ) pa) (lena_cons (lena_cons lena_nil))) (fun _ _ pe => ps_set sc.nd rfl (.inl rfl) pe))))))
    (snds_cons (snds_for (fun _ => cxF_passes) (fun _ => rfl) (sndi_items (SndE.d (snd_name (i := 8) (fun _ => pe_var rfl (by first | exact .inl rfl | exact .inr (.inl rfl) | exact .inr (.inr rfl)))))) (sndg_tup (fun _ => rfl) (fun _ => rfl) (sndgs_cons (sndg_name (i := 11) (fun _ => pg_name sc.nd rfl (.inl rfl))) (sndgs_cons (sndg_name (i := 12) (fun _ => pg_name sc.nd rfl (.inl rfl))) (sndgs_nil))))
    (snds_one (snds_dput (i := 2) (fun j => roomU1 hr) (fun _ => pe_var rfl (by first | exact .inl rfl | exact .inr (.inl rfl) | exact .inr (.inr rfl))) (SndE.d (snd_name (i := 11) (fun _ => pe_var rfl (by first | exact .inl rfl | exact .inr (.inl rfl) | exact .inr (.inr rfl))))) (SndE.d (snd2 opf_sub (SndE.d (snd_get2 (i := 2) (fun j => roomU1 hr) (fun _ => pe_var rfl (by first | exact .inl rfl | exact .inr (.inl rfl) | exact .inr (.inr rfl))) (SndE.d (snd_name (i := 11) (fun _ => pe_var rfl (by first | exact .inl rfl | exact .inr (.inl rfl) | exact .inr (.inr rfl))))) (SndE.d (snd_int)) (fun _ => ⟨by rfl, by rfl, by rfl, by rfl⟩))) (SndE.d (snd_name (i := 12) (fun _ => pe_var rfl (by first | exact .inl rfl | exact .inr (.inl rfl) | exact .inr (.inr rfl))))) (fun _ _ _ pa pb => pe_op op_sub pa pb))))))
    (snds_one (snds_setDc (i := 2) (own := [("spot", 11), ("more", 12)]) (sndi_items (SndE.d (snd_name (i := 2) (fun _ => pe_var rfl (by first | exact .inl rfl | exact .inr (.inl rfl) | exact .inr (.inr rfl)))))) (sndg_tup (fun _ => rfl) (fun _ => rfl) (sndgs_cons (sndg_name (i := 11) (fun _ => pg_name sc.nd rfl (.inl rfl))) (sndgs_cons (sndg_name (i := 12) (fun _ => pg_name sc.nd rfl (.inl rfl))) (sndgs_nil)))) (snd_pts1 (sndT_cmp opf_neS (fun _ => op_ne) (SndE.d (snd_name (i := 12) (fun _ => pe_var rfl (by first | exact .inl rfl | exact .inr (.inl rfl) | exact .inr (.inr rfl))))) (SndE.d (snd_int)) rfl)) (SndE.d (snd_name (i := 11) (fun _ => pe_var rfl (by first | exact .inl rfl | exact .inr (.inl rfl) | exact .inr (.inr rfl))))) (SndE.d (snd_name (i := 12) (fun _ => pe_var rfl (by first | exact .inl rfl | exact .inr (.inl rfl) | exact .inr (.inr rfl))))) (by decide) (fun _ _ _ _ _ _ pi pg pt pk pe => ps_setDcT (roomU1 hr) rfl sc.nd rfl rfl (sw_trueD rfl rfl rfl (by decide +kernel)) pi (blkOk_by (N := ["n", "told", "left", "found", "first", "number", "at", "place", "whole", "often", "_", "spot", "more"]) (sc := defScope s_elementary) (own := [("spot", 11), ("more", 12)]) (by decide +kernel)) pg pt pk pe)))))))))))
    (snds_one (snds_ret (snd_b callf_tup (snda_cons (SndE.d (snd_sortIt (i := 3) (fun _ => pe_callB (call_sortIt rfl (roomU128 hr)) (by rfl) g_sorted PyProof.Rows.boot_sorted (pa_cons (pe_bm0 PySem.F.plainAttrs_dict PySem.F.slot_dict_items PySem.F.type_dict_items mt_itemsR (pe_var rfl (by first | exact .inl rfl | exact .inr (.inl rfl) | exact .inr (.inr rfl)))) pa_nil)))) snda_nil) (fun _ _ pa => pe_callTy call_tupA (by rfl) g_tuple PyProof.Rows.boot_tuple pa)))))))
abbrev s__law_cell : Stmt := topS 16
theorem sc__law_cell : FnScope ["script", "k"] ["script", "k"] (defScope s__law_cell) := ⟨rfl, rfl, rfl, by decide +kernel, rfl, by decide +kernel, by decide +kernel⟩
def ev__law_cell : En → O := (evRet (evIf (ev2 gLt (evName 1) (evBN gLen1 0)) (evB gAbs (evCons (evB gInt (evCons (ev2L gIx 0 (evName 1)) evNil)) evNil)) (evC (.int 0))))
def F__law_cell : List PyData → FRes := runDef 2 ev__law_cell
theorem fn__law_cell {f : Addr} {fd : FuncData} (F : Fun K "_law_cell" "_law_cell" s__law_cell f fd) (g_abs : mg "abs" = none) (g_int : mg "int" = none) (g_len : mg "len" = none) :
    FnOk P w K mg base (L2.CX P w) 1 f fd ["script", "k"] (spF K mg T 2 F__law_cell) := by
  have sc := sc__law_cell
  refine fn_F F sc__law_cell (by decide) fun cdv A outer s H E hr => ?_
  exact snds_one (snds_ret (snd_if (sndT_cmp opf_lt (fun _ => op_lt) (SndE.d (snd_name (i := 1) (fun _ => pe_var rfl (by first | exact .inl rfl | exact .inr (.inl rfl) | exact .inr (.inr rfl))))) (SndE.d (snd_bn (i := 0) (fun _ _ _ _ _ ra qa na => lenA_of ra qa na) (fun _ => pe_var rfl (by first | exact .inl rfl | exact .inr (.inl rfl) | exact .inr (.inr rfl))) (fun _ _ pa => pe_callB call_lenA (by rfl) g_len boot_len pa))) rfl) testF_2 (snd_b callf_abs (snda_cons (SndE.d (snd_b callf_int (snda_cons (SndE.d (snd2L (i := 0) opf_ix (fun _ => pe_var rfl (by first | exact .inl rfl | exact .inr (.inl rfl) | exact .inr (.inr rfl))) (SndE.d (snd_name (i := 1) (fun _ => pe_var rfl (by first | exact .inl rfl | exact .inr (.inl rfl) | exact .inr (.inr rfl))))) (fun _ _ _ pa pb => pe_ix ix_seq pa pb (fun _ _ => rfl)))) snda_nil) (fun _ _ pa => pe_callTy call_int1 (by rfl) g_int PyProof.Rows.boot_int pa))) snda_nil) (fun _ _ pa => pe_callB call_abs (by rfl) g_abs PyProof.Rows.boot_abs pa)) (snd_int)))
abbrev s__law_stream : Stmt := topS 17
theorem sc__law_stream : FnScope ["script", "k"] ["script", "k"] (defScope s__law_stream) := ⟨rfl, rfl, rfl, by decide +kernel, rfl, by decide +kernel, by decide +kernel⟩
def ev__law_stream : En → O := (evRet (evLst (evCons (evCall F__law_cell (evCons (evName 0) (evCons (evName 1) evNil))) (evCons (ev2 gAdd (evC (.int 1)) (ev2 gMod (ev2 gMul (evC (.int 48271)) (evCall F__law_cell (evCons (evName 0) (evCons (evName 1) evNil)))) (evC (.int 2147483647)))) evNil))))
def F__law_stream : List PyData → FRes := runDef 2 ev__law_stream
theorem fn__law_stream {f : Addr} {fd : FuncData} (F : Fun K "_law_stream" "_law_stream" s__law_stream f fd) {a__law_cell : Addr} {fd__law_cell : FuncData} (D__law_cell : DefAt K mg "_law_cell" s__law_cell ["script", "k"] a__law_cell fd__law_cell) (C__law_cell : FnOk P w K mg base (L2.CX P w) 1 a__law_cell fd__law_cell ["script", "k"] (spF K mg T 2 F__law_cell)) :
    FnOk P w K mg base (L2.CX P w) 2 f fd ["script", "k"] (spF K mg T 2 F__law_stream) := by
  have sc := sc__law_stream
  refine fn_F F sc__law_stream (by decide) fun cdv A outer s H E hr => ?_
  exact snds_one (snds_ret (snd_lst (snda_cons (SndE.d (snd_call (F := F__law_cell) (snda_cons (SndE.d (snd_name (i := 0) (fun _ => pe_var rfl (by first | exact .inl rfl | exact .inr (.inl rfl) | exact .inr (.inr rfl))))) (snda_cons (SndE.d (snd_name (i := 1) (fun _ => pe_var rfl (by first | exact .inl rfl | exact .inr (.inl rfl) | exact .inr (.inr rfl))))) snda_nil)) (fun j _ pa => pe_callS C__law_cell (hr.mono (by decide)) (by rfl) D__law_cell.m D__law_cell.k D__law_cell.b (fun σ => passAt cxF_takes σ) pa) (lena_cons (lena_cons lena_nil)))) (snda_cons (SndE.d (snd2 opf_add (SndE.d (snd_int)) (SndE.d (snd2 opf_mod (SndE.d (snd2 opf_mul (SndE.d (snd_int)) (SndE.d (snd_call (F := F__law_cell) (snda_cons (SndE.d (snd_name (i := 0) (fun _ => pe_var rfl (by first | exact .inl rfl | exact .inr (.inl rfl) | exact .inr (.inr rfl))))) (snda_cons (SndE.d (snd_name (i := 1) (fun _ => pe_var rfl (by first | exact .inl rfl | exact .inr (.inl rfl) | exact .inr (.inr rfl))))) snda_nil)) (fun j _ pa => pe_callS C__law_cell (hr.mono (by decide)) (by rfl) D__law_cell.m D__law_cell.k D__law_cell.b (fun σ => passAt cxF_takes σ) pa) (lena_cons (lena_cons lena_nil)))) (fun _ _ _ pa pb => pe_op op_mulX pa pb))) (SndE.d (snd_int)) (fun _ _ _ pa pb => pe_op op_mod pa pb))) (fun _ _ _ pa pb => pe_op op_add pa pb))) snda_nil))))
abbrev s__law_draw : Stmt := topS 18
theorem sc__law_draw : FnScope ["box", "high", "cell"] ["box", "high"] (defScope s__law_draw) := ⟨rfl, rfl, rfl, by decide +kernel, rfl, by decide +kernel, by decide +kernel⟩
def ev__law_draw : En → O := (evSeq (evIfS (ev2 gGt (ev2L gIx 0 (evC (.int 0))) (evC (.int 0))) (evSeq (evSet 2 (ev2L gIx 0 (evC (.int 0))))
    (evSeq (evLSet 0 (evC (.int 0)) (evB gInt (evCons (ev2 gDiv (evName 2) (evName 1)) evNil)))
    (evRet (evB gInt (evCons (ev2 gMod (evName 2) (evName 1)) evNil))))) evNx)
    (evSeq (evLSet 0 (evC (.int 1)) (ev2 gMod (ev2 gMul (evC (.int 69621)) (ev2L gIx 0 (evC (.int 1)))) (evC (.int 2147483647))))
    (evRet (evB gInt (evCons (ev2 gMod (ev2 gDiv (ev2L gIx 0 (evC (.int 1))) (evC (.int 7))) (evName 1)) evNil)))))
def F__law_draw : PyData → List PyData → FRes × PyData := runIO 3 ev__law_draw
theorem fn__law_draw {f : Addr} {fd : FuncData} (F : Fun K "_law_draw" "_law_draw" s__law_draw f fd) (g_int : mg "int" = none) :
    FnOk P w K mg base (L2.CX P w) 1 f fd ["box", "high"] (spIO K mg T 1 F__law_draw) := by
  have sc := sc__law_draw
  refine fn_IO F sc__law_draw (by decide) rfl fun cdv A outer s H E hr => ?_
  exact snds_cons (snds_if (sndT_cmp opf_gt (fun _ => op_gt) (SndE.d (snd2L (i := 0) opf_ix (fun _ => pe_var rfl (by first | exact .inl rfl | exact .inr (.inl rfl) | exact .inr (.inr rfl))) (SndE.d (snd_int)) (fun _ _ _ pa pb => pe_ix ix_seq pa pb (fun _ _ => rfl)))) (SndE.d (snd_int)) rfl)
    (snds_cons (snds_set (i := 2) (snd2L (i := 0) opf_ix (fun _ => pe_var rfl (by first | exact .inl rfl | exact .inr (.inl rfl) | exact .inr (.inr rfl))) (SndE.d (snd_int)) (fun _ _ _ pa pb => pe_ix ix_seq pa pb (fun _ _ => rfl))) (fun _ _ pe => ps_set sc.nd rfl (.inl rfl) pe))
    (snds_cons (snds_lset (i := 0) (fun _ => pe_var rfl (by first | exact .inl rfl | exact .inr (.inl rfl) | exact .inr (.inr rfl))) (SndE.d (snd_int)) (SndE.d (snd_b callf_int (snda_cons (SndE.d (snd2 opf_div (SndE.d (snd_name (i := 2) (fun _ => pe_var rfl (by first | exact .inl rfl | exact .inr (.inl rfl) | exact .inr (.inr rfl))))) (SndE.d (snd_name (i := 1) (fun _ => pe_var rfl (by first | exact .inl rfl | exact .inr (.inl rfl) | exact .inr (.inr rfl))))) (fun _ _ _ pa pb => pe_op op_fdivW pa pb))) snda_nil) (fun _ _ pa => pe_callTy call_int1 (by rfl) g_int PyProof.Rows.boot_int pa))) (fun _ _ _ pk pv => ps_asg pv (pg_sub (pe_var rfl (by first | exact .inl rfl | exact .inr (.inl rfl) | exact .inr (.inr rfl))) pk set_list)))
    (snds_one (snds_ret (snd_b callf_int (snda_cons (SndE.d (snd2 opf_mod (SndE.d (snd_name (i := 2) (fun _ => pe_var rfl (by first | exact .inl rfl | exact .inr (.inl rfl) | exact .inr (.inr rfl))))) (SndE.d (snd_name (i := 1) (fun _ => pe_var rfl (by first | exact .inl rfl | exact .inr (.inl rfl) | exact .inr (.inr rfl))))) (fun _ _ _ pa pb => pe_op op_mod pa pb))) snda_nil) (fun _ _ pa => pe_callTy call_int1 (by rfl) g_int PyProof.Rows.boot_int pa)))))) (snds_nil))
    (snds_cons (snds_lset (i := 0) (fun _ => pe_var rfl (by first | exact .inl rfl | exact .inr (.inl rfl) | exact .inr (.inr rfl))) (SndE.d (snd_int)) (SndE.d (snd2 opf_mod (SndE.d (snd2 opf_mul (SndE.d (snd_int)) (SndE.d (snd2L (i := 0) opf_ix (fun _ => pe_var rfl (by first | exact .inl rfl | exact .inr (.inl rfl) | exact .inr (.inr rfl))) (SndE.d (snd_int)) (fun _ _ _ pa pb => pe_ix ix_seq pa pb (fun _ _ => rfl)))) (fun _ _ _ pa pb => pe_op op_mulX pa pb))) (SndE.d (snd_int)) (fun _ _ _ pa pb => pe_op op_mod pa pb))) (fun _ _ _ pk pv => ps_asg pv (pg_sub (pe_var rfl (by first | exact .inl rfl | exact .inr (.inl rfl) | exact .inr (.inr rfl))) pk set_list)))
    (snds_one (snds_ret (snd_b callf_int (snda_cons (SndE.d (snd2 opf_mod (SndE.d (snd2 opf_div (SndE.d (snd2L (i := 0) opf_ix (fun _ => pe_var rfl (by first | exact .inl rfl | exact .inr (.inl rfl) | exact .inr (.inr rfl))) (SndE.d (snd_int)) (fun _ _ _ pa pb => pe_ix ix_seq pa pb (fun _ _ => rfl)))) (SndE.d (snd_int)) (fun _ _ _ pa pb => pe_op op_fdivW pa pb))) (SndE.d (snd_name (i := 1) (fun _ => pe_var rfl (by first | exact .inl rfl | exact .inr (.inl rfl) | exact .inr (.inr rfl))))) (fun _ _ _ pa pb => pe_op op_mod pa pb))) snda_nil) (fun _ _ pa => pe_callTy call_int1 (by rfl) g_int PyProof.Rows.boot_int pa)))))
abbrev s__law_read : Stmt := topS 19
theorem sc__law_read : FnScope ["told", "part"] ["told"] (defScope s__law_read) := ⟨rfl, rfl, rfl, by decide +kernel, rfl, by decide +kernel, by decide +kernel⟩
def ev__law_read (F__law_read : List PyData → FRes) : En → O := (evSeq (evIfS (evT (evOr (ev2 gIsN (evName 0) (evC .none)) (evOr (ev2 gIsB (evName 0) (evC (.bool true))) (ev2 gIsB (evName 0) (evC (.bool false)))))) (evRet (evName 0)) evNx)
    (evSeq (evIfS (evT (evIsi "int" (evName 0))) (evRet (evB gInt (evCons (evName 0) evNil))) evNx)
    (evSeq (evIfS (evT (evIsi "str" (evName 0))) evNever evNx)
    (evSeq (evIfS (evT (evIsi "tuple" (evName 0))) (evRet (evB gTup (evCons (evComp (evI tupOf (evName 0)) ([(("part" : Str), 1)].map (·.2)) (stName 1) (evC (.bool true)) (evCall F__law_read (evCons (evName 1) evNil))) evNil))) evNx)
    evNever))))
def FK__law_read : Nat → List PyData → FRes
  | 0 => runDef 2 evNever
  | n + 1 => runDef 2 (ev__law_read (FK__law_read n))
def F__law_read : List PyData → FRes := FK__law_read 5
theorem step__law_read {k : Nat} {F__law_read : List PyData → FRes} (g_int : mg "int" = none) (g_isinstance : mg "isinstance" = none) (g_str : mg "str" = none) (g_tuple : mg "tuple" = none) {a__law_read : Addr} {fd__law_read : FuncData} (D__law_read : DefAt K mg "_law_read" s__law_read ["told"] a__law_read fd__law_read) (C__law_read : FnOk P w K mg base (L2.CX P w) k a__law_read fd__law_read ["told"] (spF K mg T 1 F__law_read)) :
    FnOk P w K mg base (L2.CX P w) (k + 1) a__law_read fd__law_read ["told"] (spF K mg T 1 (runDef 2 (ev__law_read F__law_read))) := by
  have sc := sc__law_read
  refine fn_F D__law_read.fn sc__law_read (by decide) fun cdv A outer s H E hr => ?_
  exact snds_cons (snds_if (sndT_t (SndW.t (sndW_or (sndT_cmp opf_isN (fun _ => op_isN') (SndE.d (snd_name (i := 0) (fun _ => pe_var rfl (by first | exact .inl rfl | exact .inr (.inl rfl) | exact .inr (.inr rfl))))) (SndE.d (snd_none)) rfl) (sndW_or (sndT_cmp opf_isB (fun _ => op_isB) (SndE.d (snd_name (i := 0) (fun _ => pe_var rfl (by first | exact .inl rfl | exact .inr (.inl rfl) | exact .inr (.inr rfl))))) (SndE.d (snd_bool)) rfl) (sndW_or1 (sndT_cmp opf_isB (fun _ => op_isB) (SndE.d (snd_name (i := 0) (fun _ => pe_var rfl (by first | exact .inl rfl | exact .inr (.inl rfl) | exact .inr (.inr rfl))))) (SndE.d (snd_bool)) rfl)) testF_2) testF_2)))
    (snds_one (snds_ret (snd_name (i := 0) (fun _ => pe_var rfl (by first | exact .inl rfl | exact .inr (.inl rfl) | exact .inr (.inr rfl)))))) (snds_nil))
    (snds_cons (snds_if (sndT_t (sndT_val (snd_isi isOk_int (SndE.d (snd_name (i := 0) (fun _ => pe_var rfl (by first | exact .inl rfl | exact .inr (.inl rfl) | exact .inr (.inr rfl))))) (fun _ => pe_bltn (by rfl) g_int (by decide +kernel) rfl) (fun _ _ pa => pe_callB call_isi (by rfl) g_isinstance PyProof.Rows.boot_isinstance pa))))
    (snds_one (snds_ret (snd_b callf_int (snda_cons (SndE.d (snd_name (i := 0) (fun _ => pe_var rfl (by first | exact .inl rfl | exact .inr (.inl rfl) | exact .inr (.inr rfl))))) snda_nil) (fun _ _ pa => pe_callTy call_int1 (by rfl) g_int PyProof.Rows.boot_int pa)))) (snds_nil))
    (snds_cons (snds_if (sndT_t (sndT_val (snd_isi isOk_str (SndE.d (snd_name (i := 0) (fun _ => pe_var rfl (by first | exact .inl rfl | exact .inr (.inl rfl) | exact .inr (.inr rfl))))) (fun _ => pe_bltn (by rfl) g_str (by decide +kernel) rfl) (fun _ _ pa => pe_callB call_isi (by rfl) g_isinstance PyProof.Rows.boot_isinstance pa))))
    (snds_one (snds_never)) (snds_nil))
    (snds_cons (snds_if (sndT_t (sndT_val (snd_isi isOk_tuple (SndE.d (snd_name (i := 0) (fun _ => pe_var rfl (by first | exact .inl rfl | exact .inr (.inl rfl) | exact .inr (.inr rfl))))) (fun _ => pe_bltn (by rfl) g_tuple (by decide +kernel) rfl) (fun _ _ pa => pe_callB call_isi (by rfl) g_isinstance PyProof.Rows.boot_isinstance pa))))
    (snds_one (snds_ret (snd_b callf_tup (snda_cons (SndE.d (snd_lcE (own := [("part", 1)]) (sndi_tup (fun _ => rfl) (SndE.d (snd_name (i := 0) (fun _ => pe_var rfl (by first | exact .inl rfl | exact .inr (.inl rfl) | exact .inr (.inr rfl)))))) (sndg_name (i := 1) (fun _ => pg_name sc.nd rfl (.inl rfl))) snd_pts0 (SndE.d (snd_call (F := F__law_read) (snda_cons (SndE.d (snd_name (i := 1) (fun _ => pe_var rfl (by first | exact .inl rfl | exact .inr (.inl rfl) | exact .inr (.inr rfl))))) snda_nil) (fun j _ pa => pe_callS C__law_read (hr) (by rfl) D__law_read.m D__law_read.k D__law_read.b (fun σ => passAt LamX.takes0 σ) pa) (lena_cons lena_nil))) (by decide) (fun _ _ _ _ _ pi pg pt pe => pe_lc rfl sc.nd pi (blkOk_by (N := ["told", "part"]) (sc := defScope s__law_read) (own := [("part", 1)]) (by decide +kernel)) pg pt pe))) snda_nil) (fun _ _ pa => pe_callTy call_tupA (by rfl) g_tuple PyProof.Rows.boot_tuple pa)))) (snds_nil))
    (snds_one (snds_never)))))
theorem fnk__law_read {a__law_read : Addr} {fd__law_read : FuncData} (g_int : mg "int" = none) (g_isinstance : mg "isinstance" = none) (g_str : mg "str" = none) (g_tuple : mg "tuple" = none) (D__law_read : DefAt K mg "_law_read" s__law_read ["told"] a__law_read fd__law_read) :
    ∀ n, FnOk P w K mg base (L2.CX P w) (n + 1) a__law_read fd__law_read ["told"] (spF K mg T 1 (FK__law_read n))
  | 0 => fn_F D__law_read.fn sc__law_read (by decide) fun cdv A outer s H E hr => snds_neverL
  | n + 1 => step__law_read g_int g_isinstance g_str g_tuple D__law_read (fnk__law_read g_int g_isinstance g_str g_tuple D__law_read n)
theorem fn__law_read {a__law_read : Addr} {fd__law_read : FuncData} (g_int : mg "int" = none) (g_isinstance : mg "isinstance" = none) (g_str : mg "str" = none) (g_tuple : mg "tuple" = none) (D__law_read : DefAt K mg "_law_read" s__law_read ["told"] a__law_read fd__law_read) : FnOk P w K mg base (L2.CX P w) 6 a__law_read fd__law_read ["told"] (spF K mg T 1 F__law_read) := fnk__law_read g_int g_isinstance g_str g_tuple D__law_read 5
abbrev s__law_told : Stmt := topS 20
theorem sc__law_told : FnScope ["call", "e"] ["call"] (defScope s__law_told) := ⟨rfl, rfl, rfl, by decide +kernel, rfl, by decide +kernel, by decide +kernel⟩
abbrev s__law_clean : Stmt := topS 21
theorem sc__law_clean : FnScope ["terms", "spot"] ["terms"] (defScope s__law_clean) := ⟨rfl, rfl, rfl, by decide +kernel, rfl, by decide +kernel, by decide +kernel⟩
def ev__law_clean : En → O := (evRet (evBO gDict (evCons (evComp (evI keysOf (evName 0)) ([(("spot" : Str), 1)].map (·.2)) (stName 1) (ev2 gNeS (ev2L gDget 0 (evName 1)) (evC (.int 0))) (evTup (evCons (evName 1) (evCons (ev2L gDget 0 (evName 1)) evNil)))) evNil)))
def F__law_clean : List PyData → FRes := runDef 2 ev__law_clean
theorem fn__law_clean {f : Addr} {fd : FuncData} (F : Fun K "_law_clean" "_law_clean" s__law_clean f fd) (g_dict : mg "dict" = none) :
    FnOk P w K mg base (L2.CX P w) 1 f fd ["terms"] (spF K mg T 1 F__law_clean) := by
  have sc := sc__law_clean
  refine fn_F F sc__law_clean (by decide) fun cdv A outer s H E hr => ?_
  exact snds_one (snds_ret (snd_bo callo_dict (snda_cons (SndE.d (snd_lcE (own := [("spot", 1)]) (sndi_keys (SndE.d (snd_name (i := 0) (fun _ => pe_var rfl (by first | exact .inl rfl | exact .inr (.inl rfl) | exact .inr (.inr rfl)))))) (sndg_name (i := 1) (fun _ => pg_name sc.nd rfl (.inl rfl))) (snd_pts1 (sndT_cmp opf_neS (fun _ => op_ne) (SndE.d (snd2L (i := 0) opf_dget (fun _ => pe_var rfl (by first | exact .inl rfl | exact .inr (.inl rfl) | exact .inr (.inr rfl))) (SndE.d (snd_name (i := 1) (fun _ => pe_var rfl (by first | exact .inl rfl | exact .inr (.inl rfl) | exact .inr (.inr rfl))))) (fun _ _ _ pa pb => pe_dget (roomU1 hr) pa pb (fun _ _ => rfl)))) (SndE.d (snd_int)) rfl)) (SndE.d (snd_tup (snda_cons (SndE.d (snd_name (i := 1) (fun _ => pe_var rfl (by first | exact .inl rfl | exact .inr (.inl rfl) | exact .inr (.inr rfl))))) (snda_cons (SndE.d (snd2L (i := 0) opf_dget (fun _ => pe_var rfl (by first | exact .inl rfl | exact .inr (.inl rfl) | exact .inr (.inr rfl))) (SndE.d (snd_name (i := 1) (fun _ => pe_var rfl (by first | exact .inl rfl | exact .inr (.inl rfl) | exact .inr (.inr rfl))))) (fun _ _ _ pa pb => pe_dget (roomU1 hr) pa pb (fun _ _ => rfl)))) snda_nil)))) (by decide) (fun _ _ _ _ _ pi pg pt pe => pe_lc rfl sc.nd pi (blkOk_by (N := ["terms", "spot"]) (sc := defScope s__law_clean) (own := [("spot", 1)]) (by decide +kernel)) pg pt pe))) snda_nil) (fun _ _ pa => pe_callTy (call_dictAll (roomU3 hr) rfl) (by rfl) g_dict PyProof.Rows.boot_dict pa)))
abbrev s__law_plus : Stmt := topS 22
theorem sc__law_plus : FnScope ["first", "second", "told", "spot"] ["first", "second"] (defScope s__law_plus) := ⟨rfl, rfl, rfl, by decide +kernel, rfl, by decide +kernel, by decide +kernel⟩
def ev__law_plus : En → O := (evSeq (evSet 2 (evBO gDict (evCons (evName 0) evNil)))
    (evSeq (evFor (evI keysOf (evName 1)) (stName 3) (evDPut 2 (evName 3) (ev2 gAdd (evGet2 2 (evName 3) (evC (.int 0))) (ev2L gDget 1 (evName 3)))))
    (evRet (evCall F__law_clean (evCons (evName 2) evNil)))))
def F__law_plus : List PyData → FRes := runDef 4 ev__law_plus
theorem fn__law_plus {f : Addr} {fd : FuncData} (F : Fun K "_law_plus" "_law_plus" s__law_plus f fd) (g_dict : mg "dict" = none) {a__law_clean : Addr} {fd__law_clean : FuncData} (D__law_clean : DefAt K mg "_law_clean" s__law_clean ["terms"] a__law_clean fd__law_clean) (C__law_clean : FnOk P w K mg base (L2.CX P w) 1 a__law_clean fd__law_clean ["terms"] (spF K mg T 1 F__law_clean)) :
    FnOk P w K mg base (L2.CX P w) 2 f fd ["first", "second"] (spF K mg T 2 F__law_plus) := by
  have sc := sc__law_plus
  refine fn_F F sc__law_plus (by decide) fun cdv A outer s H E hr => ?_
  exact snds_cons (snds_set (i := 2) (snd_bo callo_dict (snda_cons (SndE.d (snd_name (i := 0) (fun _ => pe_var rfl (by first | exact .inl rfl | exact .inr (.inl rfl) | exact .inr (.inr rfl))))) snda_nil) (fun _ _ pa => pe_callTy (call_dictAll (roomU3 hr) rfl) (by rfl) g_dict PyProof.Rows.boot_dict pa)) (fun _ _ pe => ps_set sc.nd rfl (.inl rfl) pe))
    (snds_cons (snds_for (fun _ => cxF_passes) (fun _ => rfl) (sndi_keys (SndE.d (snd_name (i := 1) (fun _ => pe_var rfl (by first | exact .inl rfl | exact .inr (.inl rfl) | exact .inr (.inr rfl)))))) (sndg_name (i := 3) (fun _ => pg_name sc.nd rfl (.inl rfl)))
    (snds_one (snds_dput (i := 2) (fun j => roomU1 hr) (fun _ => pe_var rfl (by first | exact .inl rfl | exact .inr (.inl rfl) | exact .inr (.inr rfl))) (SndE.d (snd_name (i := 3) (fun _ => pe_var rfl (by first | exact .inl rfl | exact .inr (.inl rfl) | exact .inr (.inr rfl))))) (SndE.d (snd2 opf_add (SndE.d (snd_get2 (i := 2) (fun j => roomU1 hr) (fun _ => pe_var rfl (by first | exact .inl rfl | exact .inr (.inl rfl) | exact .inr (.inr rfl))) (SndE.d (snd_name (i := 3) (fun _ => pe_var rfl (by first | exact .inl rfl | exact .inr (.inl rfl) | exact .inr (.inr rfl))))) (SndE.d (snd_int)) (fun _ => ⟨by rfl, by rfl, by rfl, by rfl⟩))) (SndE.d (snd2L (i := 1) opf_dget (fun _ => pe_var rfl (by first | exact .inl rfl | exact .inr (.inl rfl) | exact .inr (.inr rfl))) (SndE.d (snd_name (i := 3) (fun _ => pe_var rfl (by first | exact .inl rfl | exact .inr (.inl rfl) | exact .inr (.inr rfl))))) (fun _ _ _ pa pb => pe_dget (roomU1 hr) pa pb (fun _ _ => rfl)))) (fun _ _ _ pa pb => pe_op op_add pa pb))))))
    (snds_one (snds_ret (snd_call (F := F__law_clean) (snda_cons (SndE.d (snd_name (i := 2) (fun _ => pe_var rfl (by first | exact .inl rfl | exact .inr (.inl rfl) | exact .inr (.inr rfl))))) snda_nil) (fun j _ pa => pe_callS C__law_clean (hr.mono (by decide)) (by rfl) D__law_clean.m D__law_clean.k D__law_clean.b (fun σ => passAt cxF_takes σ) pa) (lena_cons lena_nil)))))
abbrev s__law_times : Stmt := topS 23
theorem sc__law_times : FnScope ["first", "second", "told", "one", "two", "spot", "a", "b"] ["first", "second"] (defScope s__law_times) := ⟨rfl, rfl, rfl, by decide +kernel, rfl, by decide +kernel, by decide +kernel⟩
def ev__law_times : En → O := (evSeq (evSet 2 evDict0)
    (evSeq (evFor (evI keysOf (evName 0)) (stName 3) (evFor (evI keysOf (evName 1)) (stName 4) (evSeq (evSet 5 (evB gTup (evCons (evComp (evIA zipTOf (evCons (evName 3) (evCons (evName 4) evNil))) ([(("a" : Str), 6), (("b" : Str), 7)].map (·.2)) (stTup 2 (stCons (stName 6) (stCons (stName 7) stNil))) (evC (.bool true)) (ev2 gAdd (evName 6) (evName 7))) evNil)))
    (evDPut 2 (evName 5) (ev2 gAdd (evGet2 2 (evName 5) (evC (.int 0))) (ev2 gMul (ev2L gDget 0 (evName 3)) (ev2L gDget 1 (evName 4))))))))
    (evRet (evCall F__law_clean (evCons (evName 2) evNil)))))
def F__law_times : List PyData → FRes := runDef 8 ev__law_times
theorem fn__law_times {f : Addr} {fd : FuncData} (F : Fun K "_law_times" "_law_times" s__law_times f fd) (g_tuple : mg "tuple" = none) (g_zip : mg "zip" = none) {a__law_clean : Addr} {fd__law_clean : FuncData} (D__law_clean : DefAt K mg "_law_clean" s__law_clean ["terms"] a__law_clean fd__law_clean) (C__law_clean : FnOk P w K mg base (L2.CX P w) 1 a__law_clean fd__law_clean ["terms"] (spF K mg T 1 F__law_clean)) :
    FnOk P w K mg base (L2.CX P w) 2 f fd ["first", "second"] (spF K mg T 2 F__law_times) := by
  have sc := sc__law_times
  refine fn_F F sc__law_times (by decide) fun cdv A outer s H E hr => ?_
  exact snds_cons (snds_set (i := 2) (snd_dict0) (fun _ _ pe => ps_set sc.nd rfl (.inl rfl) pe))
    (snds_cons (snds_for (fun _ => cxF_passes) (fun _ => rfl) (sndi_keys (SndE.d (snd_name (i := 0) (fun _ => pe_var rfl (by first | exact .inl rfl | exact .inr (.inl rfl) | exact .inr (.inr rfl)))))) (sndg_name (i := 3) (fun _ => pg_name sc.nd rfl (.inl rfl)))
    (snds_one (snds_for (fun _ => cxF_passes) (fun _ => rfl) (sndi_keys (SndE.d (snd_name (i := 1) (fun _ => pe_var rfl (by first | exact .inl rfl | exact .inr (.inl rfl) | exact .inr (.inr rfl)))))) (sndg_name (i := 4) (fun _ => pg_name sc.nd rfl (.inl rfl)))
    (snds_cons (snds_set (i := 5) (snd_b callf_tup (snda_cons (SndE.d (snd_lcE (own := [("a", 6), ("b", 7)]) (sndi_zipT (fun _ => rfl) (fun _ => by rfl) (fun _ => g_zip) (snda_cons (SndE.d (snd_name (i := 3) (fun _ => pe_var rfl (by first | exact .inl rfl | exact .inr (.inl rfl) | exact .inr (.inr rfl))))) (snda_cons (SndE.d (snd_name (i := 4) (fun _ => pe_var rfl (by first | exact .inl rfl | exact .inr (.inl rfl) | exact .inr (.inr rfl))))) snda_nil))) (sndg_tup (fun _ => rfl) (fun _ => rfl) (sndgs_cons (sndg_name (i := 6) (fun _ => pg_name sc.nd rfl (.inl rfl))) (sndgs_cons (sndg_name (i := 7) (fun _ => pg_name sc.nd rfl (.inl rfl))) (sndgs_nil)))) snd_pts0 (SndE.d (snd2 opf_add (SndE.d (snd_name (i := 6) (fun _ => pe_var rfl (by first | exact .inl rfl | exact .inr (.inl rfl) | exact .inr (.inr rfl))))) (SndE.d (snd_name (i := 7) (fun _ => pe_var rfl (by first | exact .inl rfl | exact .inr (.inl rfl) | exact .inr (.inr rfl))))) (fun _ _ _ pa pb => pe_op op_add pa pb))) (by decide) (fun _ _ _ _ _ pi pg pt pe => pe_lc rfl sc.nd pi (blkOk_by (N := ["first", "second", "told", "one", "two", "spot", "a", "b"]) (sc := defScope s__law_times) (own := [("a", 6), ("b", 7)]) (by decide +kernel)) pg pt pe))) snda_nil) (fun _ _ pa => pe_callTy call_tupA (by rfl) g_tuple PyProof.Rows.boot_tuple pa)) (fun _ _ pe => ps_set sc.nd rfl (.inl rfl) pe))
    (snds_one (snds_dput (i := 2) (fun j => roomU1 hr) (fun _ => pe_var rfl (by first | exact .inl rfl | exact .inr (.inl rfl) | exact .inr (.inr rfl))) (SndE.d (snd_name (i := 5) (fun _ => pe_var rfl (by first | exact .inl rfl | exact .inr (.inl rfl) | exact .inr (.inr rfl))))) (SndE.d (snd2 opf_add (SndE.d (snd_get2 (i := 2) (fun j => roomU1 hr) (fun _ => pe_var rfl (by first | exact .inl rfl | exact .inr (.inl rfl) | exact .inr (.inr rfl))) (SndE.d (snd_name (i := 5) (fun _ => pe_var rfl (by first | exact .inl rfl | exact .inr (.inl rfl) | exact .inr (.inr rfl))))) (SndE.d (snd_int)) (fun _ => ⟨by rfl, by rfl, by rfl, by rfl⟩))) (SndE.d (snd2 opf_mul (SndE.d (snd2L (i := 0) opf_dget (fun _ => pe_var rfl (by first | exact .inl rfl | exact .inr (.inl rfl) | exact .inr (.inr rfl))) (SndE.d (snd_name (i := 3) (fun _ => pe_var rfl (by first | exact .inl rfl | exact .inr (.inl rfl) | exact .inr (.inr rfl))))) (fun _ _ _ pa pb => pe_dget (roomU1 hr) pa pb (fun _ _ => rfl)))) (SndE.d (snd2L (i := 1) opf_dget (fun _ => pe_var rfl (by first | exact .inl rfl | exact .inr (.inl rfl) | exact .inr (.inr rfl))) (SndE.d (snd_name (i := 4) (fun _ => pe_var rfl (by first | exact .inl rfl | exact .inr (.inl rfl) | exact .inr (.inr rfl))))) (fun _ _ _ pa pb => pe_dget (roomU1 hr) pa pb (fun _ _ => rfl)))) (fun _ _ _ pa pb => pe_op op_mulX pa pb))) (fun _ _ _ pa pb => pe_op op_add pa pb)))))))))
    (snds_one (snds_ret (snd_call (F := F__law_clean) (snda_cons (SndE.d (snd_name (i := 2) (fun _ => pe_var rfl (by first | exact .inl rfl | exact .inr (.inl rfl) | exact .inr (.inr rfl))))) snda_nil) (fun j _ pa => pe_callS C__law_clean (hr.mono (by decide)) (by rfl) D__law_clean.m D__law_clean.k D__law_clean.b (fun σ => passAt cxF_takes σ) pa) (lena_cons lena_nil)))))
abbrev s__law_simple : Stmt := topS 24
theorem sc__law_simple : FnScope ["n", "j", "mask", "k"] ["n", "j"] (defScope s__law_simple) := ⟨rfl, rfl, rfl, by decide +kernel, rfl, by decide +kernel, by decide +kernel⟩
def ev__law_simple : En → O := (evRet (evBO gDict (evCons (evComp (evIA rng1Of (evCons (ev2 gShl (evC (.int 1)) (evName 0)) evNil)) ([(("mask" : Str), 2)].map (·.2)) (stName 2) (ev2 gEqS (evB gLen (evCons (evComp (evIA rng1Of (evCons (evName 0) evNil)) ([(("k" : Str), 3)].map (·.2)) (stName 3) (ev2 gEqS (ev2 gAnd (ev2 gShr (evName 2) (evName 3)) (evC (.int 1))) (evC (.int 1))) (evName 3)) evNil)) (evName 1)) (evTup (evCons (evB gTup (evCons (evComp (evIA rng1Of (evCons (evName 0) evNil)) ([(("k" : Str), 3)].map (·.2)) (stName 3) (evC (.bool true)) (ev2 gAnd (ev2 gShr (evName 2) (evName 3)) (evC (.int 1)))) evNil)) (evCons (evC (.int 1)) evNil)))) evNil)))
def F__law_simple : List PyData → FRes := runDef 4 ev__law_simple
theorem fn__law_simple {f : Addr} {fd : FuncData} (F : Fun K "_law_simple" "_law_simple" s__law_simple f fd) (g_dict : mg "dict" = none) (g_len : mg "len" = none) (g_range : mg "range" = none) (g_tuple : mg "tuple" = none) :
    FnOk P w K mg base (L2.CX P w) 1 f fd ["n", "j"] (spF K mg T 2 F__law_simple) := by
  have sc := sc__law_simple
  refine fn_F F sc__law_simple (by decide) fun cdv A outer s H E hr => ?_
  exact snds_one (snds_ret (snd_bo callo_dict (snda_cons (SndE.d (snd_lcE (scope := (⟨.function, [(".0", .local), ("mask", .cell), ("len", .globalImplicit), ("range", .globalImplicit), ("tuple", .globalImplicit), ("j", .free), ("n", .free)], false, false, []⟩ : Scope)) (own := [("mask", 2)]) (sndi_rng1 (fun _ => by rfl) (fun _ => g_range) (snda_cons (SndE.d (snd2 opf_shl (SndE.d (snd_int)) (SndE.d (snd_name (i := 0) (fun _ => pe_var rfl (by first | exact .inl rfl | exact .inr (.inl rfl) | exact .inr (.inr rfl))))) (fun _ _ _ pa pb => pe_op op_shl pa pb))) snda_nil)) (sndg_name (i := 2) (fun _ => pg_name sc.nd rfl (.inr rfl))) (snd_pts1 (sndT_cmp opf_eqS (fun _ => op_eq) (SndE.d (snd_b callf_len (snda_cons (SndE.d (snd_lcE (own := [("k", 3)]) (sndi_rng1 (fun _ => by rfl) (fun _ => g_range) (snda_cons (SndE.d (snd_name (i := 0) (fun _ => pe_var rfl (by first | exact .inl rfl | exact .inr (.inl rfl) | exact .inr (.inr rfl))))) snda_nil)) (sndg_name (i := 3) (fun _ => pg_name sc.nd rfl (.inl rfl))) (snd_pts1 (sndT_cmp opf_eqS (fun _ => op_eq) (SndE.d (snd2 opf_and (SndE.d (snd2 opf_shr (SndE.d (snd_name (i := 2) (fun _ => pe_var rfl (by first | exact .inl rfl | exact .inr (.inl rfl) | exact .inr (.inr rfl))))) (SndE.d (snd_name (i := 3) (fun _ => pe_var rfl (by first | exact .inl rfl | exact .inr (.inl rfl) | exact .inr (.inr rfl))))) (fun _ _ _ pa pb => pe_op op_shr pa pb))) (SndE.d (snd_int)) (fun _ _ _ pa pb => pe_op op_and pa pb))) (SndE.d (snd_int)) rfl)) (SndE.d (snd_name (i := 3) (fun _ => pe_var rfl (by first | exact .inl rfl | exact .inr (.inl rfl) | exact .inr (.inr rfl))))) (by decide) (fun _ _ _ _ _ pi pg pt pe => pe_lc rfl sc.nd pi (blkOk_by (N := ["n", "j", "mask", "k"]) (sc := (⟨.function, [(".0", .local), ("mask", .cell), ("len", .globalImplicit), ("range", .globalImplicit), ("tuple", .globalImplicit), ("j", .cell), ("n", .cell)], false, false, []⟩ : Scope)) (own := [("k", 3)]) (by decide +kernel)) pg pt pe))) snda_nil) (fun _ _ pa => pe_callB call_lenA (by rfl) g_len boot_len pa))) (SndE.d (snd_name (i := 1) (fun _ => pe_var rfl (by first | exact .inl rfl | exact .inr (.inl rfl) | exact .inr (.inr rfl))))) rfl)) (SndE.d (snd_tup (snda_cons (SndE.d (snd_b callf_tup (snda_cons (SndE.d (snd_lcE (own := [("k", 3)]) (sndi_rng1 (fun _ => by rfl) (fun _ => g_range) (snda_cons (SndE.d (snd_name (i := 0) (fun _ => pe_var rfl (by first | exact .inl rfl | exact .inr (.inl rfl) | exact .inr (.inr rfl))))) snda_nil)) (sndg_name (i := 3) (fun _ => pg_name sc.nd rfl (.inl rfl))) snd_pts0 (SndE.d (snd2 opf_and (SndE.d (snd2 opf_shr (SndE.d (snd_name (i := 2) (fun _ => pe_var rfl (by first | exact .inl rfl | exact .inr (.inl rfl) | exact .inr (.inr rfl))))) (SndE.d (snd_name (i := 3) (fun _ => pe_var rfl (by first | exact .inl rfl | exact .inr (.inl rfl) | exact .inr (.inr rfl))))) (fun _ _ _ pa pb => pe_op op_shr pa pb))) (SndE.d (snd_int)) (fun _ _ _ pa pb => pe_op op_and pa pb))) (by decide) (fun _ _ _ _ _ pi pg pt pe => pe_lc rfl sc.nd pi (blkOk_by (N := ["n", "j", "mask", "k"]) (sc := (⟨.function, [(".0", .local), ("mask", .cell), ("len", .globalImplicit), ("range", .globalImplicit), ("tuple", .globalImplicit), ("j", .cell), ("n", .cell)], false, false, []⟩ : Scope)) (own := [("k", 3)]) (by decide +kernel)) pg pt pe))) snda_nil) (fun _ _ pa => pe_callTy call_tupA (by rfl) g_tuple PyProof.Rows.boot_tuple pa))) (snda_cons (SndE.d (snd_int)) snda_nil)))) (by decide) (fun _ _ _ _ _ pi pg pt pe => pe_lc rfl sc.nd pi (blkOk_by (N := ["n", "j", "mask", "k"]) (sc := defScope s__law_simple) (own := [("mask", 2)]) (by decide +kernel)) pg pt pe))) snda_nil) (fun _ _ pa => pe_callTy (call_dictAll (roomU3 hr) rfl) (by rfl) g_dict PyProof.Rows.boot_dict pa)))
abbrev s__law_written : Stmt := topS 25
theorem sc__law_written : FnScope ["n", "told", "found", "spot", "part", "j", "turn"] ["n", "told"] (defScope s__law_written) := ⟨rfl, rfl, rfl, by decide +kernel, rfl, by decide +kernel, by decide +kernel⟩
def ev__law_written : En → O := (evSeq (evSet 2 evDict0)
    (evSeq (evFor (evI keysOf (evName 1)) (stName 3) (evSeq (evSet 4 (evDisp1 (ev2 gRep (evTup (evCons (evC (.int 0)) evNil)) (evName 0)) (ev2L gDget 1 (evName 3))))
    (evSeq (evFor (evIA rng1Of (evCons (evName 0) evNil)) (stName 5) (evFor (evIA rng1Of (evCons (ev2L gIx 3 (evName 5)) evNil)) (stName 6) (evSet 4 (evCall F__law_times (evCons (evName 4) (evCons (evCall F__law_simple (evCons (evName 0) (evCons (ev2 gAdd (evName 5) (evC (.int 1))) evNil))) evNil))))))
    (evSet 2 (evCall F__law_plus (evCons (evName 2) (evCons (evName 4) evNil)))))))
    (evRet (evName 2))))
def F__law_written : List PyData → FRes := runDef 7 ev__law_written
theorem fn__law_written {f : Addr} {fd : FuncData} (F : Fun K "_law_written" "_law_written" s__law_written f fd) (g_range : mg "range" = none) {a__law_times : Addr} {fd__law_times : FuncData} (D__law_times : DefAt K mg "_law_times" s__law_times ["first", "second"] a__law_times fd__law_times) (C__law_times : FnOk P w K mg base (L2.CX P w) 2 a__law_times fd__law_times ["first", "second"] (spF K mg T 2 F__law_times)) {a__law_simple : Addr} {fd__law_simple : FuncData} (D__law_simple : DefAt K mg "_law_simple" s__law_simple ["n", "j"] a__law_simple fd__law_simple) (C__law_simple : FnOk P w K mg base (L2.CX P w) 1 a__law_simple fd__law_simple ["n", "j"] (spF K mg T 2 F__law_simple)) {a__law_plus : Addr} {fd__law_plus : FuncData} (D__law_plus : DefAt K mg "_law_plus" s__law_plus ["first", "second"] a__law_plus fd__law_plus) (C__law_plus : FnOk P w K mg base (L2.CX P w) 2 a__law_plus fd__law_plus ["first", "second"] (spF K mg T 2 F__law_plus)) :
    FnOk P w K mg base (L2.CX P w) 3 f fd ["n", "told"] (spF K mg T 2 F__law_written) := by
  have sc := sc__law_written
  refine fn_F F sc__law_written (by decide) fun cdv A outer s H E hr => ?_
  exact snds_cons (snds_set (i := 2) (snd_dict0) (fun _ _ pe => ps_set sc.nd rfl (.inl rfl) pe))
    (snds_cons (snds_for (fun _ => cxF_passes) (fun _ => rfl) (sndi_keys (SndE.d (snd_name (i := 1) (fun _ => pe_var rfl (by first | exact .inl rfl | exact .inr (.inl rfl) | exact .inr (.inr rfl)))))) (sndg_name (i := 3) (fun _ => pg_name sc.nd rfl (.inl rfl)))
    (snds_cons (snds_set (i := 4) (snd_disp1 (fun j => roomU1 hr) (SndE.d (snd2 opf_rep (SndE.d (snd_tup (snda_cons (SndE.d (snd_int)) snda_nil))) (SndE.d (snd_name (i := 0) (fun _ => pe_var rfl (by first | exact .inl rfl | exact .inr (.inl rfl) | exact .inr (.inr rfl))))) (fun _ _ _ pa pb => pe_op op_repN pa pb))) (SndE.d (snd2L (i := 1) opf_dget (fun _ => pe_var rfl (by first | exact .inl rfl | exact .inr (.inl rfl) | exact .inr (.inr rfl))) (SndE.d (snd_name (i := 3) (fun _ => pe_var rfl (by first | exact .inl rfl | exact .inr (.inl rfl) | exact .inr (.inr rfl))))) (fun _ _ _ pa pb => pe_dget (roomU1 hr) pa pb (fun _ _ => rfl))))) (fun _ _ pe => ps_set sc.nd rfl (.inl rfl) pe))
    (snds_cons (snds_for (fun _ => cxF_passes) (fun _ => rfl) (sndi_rng1 (fun _ => by rfl) (fun _ => g_range) (snda_cons (SndE.d (snd_name (i := 0) (fun _ => pe_var rfl (by first | exact .inl rfl | exact .inr (.inl rfl) | exact .inr (.inr rfl))))) snda_nil)) (sndg_name (i := 5) (fun _ => pg_name sc.nd rfl (.inl rfl)))
    (snds_one (snds_for (fun _ => cxF_passes) (fun _ => rfl) (sndi_rng1 (fun _ => by rfl) (fun _ => g_range) (snda_cons (SndE.d (snd2L (i := 3) opf_ix (fun _ => pe_var rfl (by first | exact .inl rfl | exact .inr (.inl rfl) | exact .inr (.inr rfl))) (SndE.d (snd_name (i := 5) (fun _ => pe_var rfl (by first | exact .inl rfl | exact .inr (.inl rfl) | exact .inr (.inr rfl))))) (fun _ _ _ pa pb => pe_ix ix_seq pa pb (fun _ _ => rfl)))) snda_nil)) (sndg_name (i := 6) (fun _ => pg_name sc.nd rfl (.inl rfl)))
    (snds_one (snds_set (i := 4) (snd_call (F := F__law_times) (snda_cons (SndE.d (snd_name (i := 4) (fun _ => pe_var rfl (by first | exact .inl rfl | exact .inr (.inl rfl) | exact .inr (.inr rfl))))) (snda_cons (SndE.d (snd_call (F := F__law_simple) (snda_cons (SndE.d (snd_name (i := 0) (fun _ => pe_var rfl (by first | exact .inl rfl | exact .inr (.inl rfl) | exact .inr (.inr rfl))))) (snda_cons (SndE.d (snd2 opf_add (SndE.d (snd_name (i := 5) (fun _ => pe_var rfl (by first | exact .inl rfl | exact .inr (.inl rfl) | exact .inr (.inr rfl))))) (SndE.d (snd_int)) (fun _ _ _ pa pb => pe_op op_add pa pb))) snda_nil)) (fun j _ pa => pe_callS C__law_simple (hr.mono (by decide)) (by rfl) D__law_simple.m D__law_simple.k D__law_simple.b (fun σ => passAt cxF_takes σ) pa) (lena_cons (lena_cons lena_nil)))) snda_nil)) (fun j _ pa => pe_callS C__law_times (hr.mono (by decide)) (by rfl) D__law_times.m D__law_times.k D__law_times.b (fun σ => passAt cxF_takes σ) pa) (lena_cons (lena_cons lena_nil))) (fun _ _ pe => ps_set sc.nd rfl (.inl rfl) pe))))))
    (snds_one (snds_set (i := 2) (snd_call (F := F__law_plus) (snda_cons (SndE.d (snd_name (i := 2) (fun _ => pe_var rfl (by first | exact .inl rfl | exact .inr (.inl rfl) | exact .inr (.inr rfl))))) (snda_cons (SndE.d (snd_name (i := 4) (fun _ => pe_var rfl (by first | exact .inl rfl | exact .inr (.inl rfl) | exact .inr (.inr rfl))))) snda_nil)) (fun j _ pa => pe_callS C__law_plus (hr.mono (by decide)) (by rfl) D__law_plus.m D__law_plus.k D__law_plus.b (fun σ => passAt cxF_takes σ) pa) (lena_cons (lena_cons lena_nil))) (fun _ _ pe => ps_set sc.nd rfl (.inl rfl) pe))))))
    (snds_one (snds_ret (snd_name (i := 2) (fun _ => pe_var rfl (by first | exact .inl rfl | exact .inr (.inl rfl) | exact .inr (.inr rfl)))))))
abbrev s__law_passed : Stmt := topS 26
theorem sc__law_passed : FnScope ["terms", "spot"] ["terms"] (defScope s__law_passed) := ⟨rfl, rfl, rfl, by decide +kernel, rfl, by decide +kernel, by decide +kernel⟩
def ev__law_passed : En → O := (evRet (evB gTup (evCons (evBO gSortL (evCons (evComp (evI keysOf (evName 0)) ([(("spot" : Str), 1)].map (·.2)) (stName 1) (evC (.bool true)) (evTup (evCons (evName 1) (evCons (ev2L gDget 0 (evName 1)) evNil)))) evNil)) evNil)))
def F__law_passed : List PyData → FRes := runDef 2 ev__law_passed
theorem fn__law_passed {f : Addr} {fd : FuncData} (F : Fun K "_law_passed" "_law_passed" s__law_passed f fd) (g_sorted : mg "sorted" = none) (g_tuple : mg "tuple" = none) :
    FnOk P w K mg base (L2.CX P w) 1 f fd ["terms"] (spF K mg T 1 F__law_passed) := by
  have sc := sc__law_passed
  refine fn_F F sc__law_passed (by decide) fun cdv A outer s H E hr => ?_
  exact snds_one (snds_ret (snd_b callf_tup (snda_cons (SndE.d (snd_bo callo_sort (snda_cons (SndE.d (snd_lcE (own := [("spot", 1)]) (sndi_keys (SndE.d (snd_name (i := 0) (fun _ => pe_var rfl (by first | exact .inl rfl | exact .inr (.inl rfl) | exact .inr (.inr rfl)))))) (sndg_name (i := 1) (fun _ => pg_name sc.nd rfl (.inl rfl))) snd_pts0 (SndE.d (snd_tup (snda_cons (SndE.d (snd_name (i := 1) (fun _ => pe_var rfl (by first | exact .inl rfl | exact .inr (.inl rfl) | exact .inr (.inr rfl))))) (snda_cons (SndE.d (snd2L (i := 0) opf_dget (fun _ => pe_var rfl (by first | exact .inl rfl | exact .inr (.inl rfl) | exact .inr (.inr rfl))) (SndE.d (snd_name (i := 1) (fun _ => pe_var rfl (by first | exact .inl rfl | exact .inr (.inl rfl) | exact .inr (.inr rfl))))) (fun _ _ _ pa pb => pe_dget (roomU1 hr) pa pb (fun _ _ => rfl)))) snda_nil)))) (by decide) (fun _ _ _ _ _ pi pg pt pe => pe_lc rfl sc.nd pi (blkOk_by (N := ["terms", "spot"]) (sc := defScope s__law_passed) (own := [("spot", 1)]) (by decide +kernel)) pg pt pe))) snda_nil) (fun _ _ pa => pe_callB (call_sortD (roomU64 hr)) (by rfl) g_sorted PyProof.Rows.boot_sorted pa))) snda_nil) (fun _ _ pa => pe_callTy call_tupA (by rfl) g_tuple PyProof.Rows.boot_tuple pa)))
abbrev s_law : Stmt := topS 27
theorem sc_law : FnScope ["script", "box", "turn", "told", "again", "spot", "left", "j", "sums", "names", "k", "units", "part", "one", "even", "wrong", "bad", "high", "many", "n", "odd", "powers", "whole", "other", "at", "i"] ["script"] (defScope s_law) := ⟨rfl, rfl, rfl, by decide +kernel, rfl, by decide +kernel, by decide +kernel⟩
def ev_law : En → O := (evSeq (evSet 1 (evCall F__law_stream (evCons (evName 0) (evCons (evC (.int 0)) evNil))))
    (evSeq (evFor (evIA rng1Of (evCons (evC (.int 2)) evNil)) (stName 2) (evSeq (evSet 19 (ev2 gAdd (evC (.int 1)) (evCallIO F__law_draw 1 (evCons (evC (.int 4)) evNil))))
    (evSeq (evSet 3 evDict0)
    (evSeq (evFor (evIA rng1Of (evCons (evCallIO F__law_draw 1 (evCons (evC (.int 5)) evNil)) evNil)) (stName 4) (evSeq (evPar 5 6 (evLst evNil) (evIf (ev2 gLt (evName 19) (evC (.int 4))) (evC (.int 8)) (evC (.int 6))))
    (evSeq (evFor (evIA rng1Of (evCons (evName 19) evNil)) (stName 7) (evSeq (evDrop (evAppend 5 (evCallIO F__law_draw 1 (evCons (ev2 gAdd (evC (.int 1)) (evB gMin2 (evCons (evC (.int 3)) (evCons (ev2 gDiv (evName 6) (ev2 gAdd (evName 7) (evC (.int 1)))) evNil)))) evNil))))
    (evSet 6 (ev2 gSub (evName 6) (ev2 gMul (ev2 gAdd (evName 7) (evC (.int 1))) (ev2L gIx 5 (evName 7)))))))
    (evDPut 3 (evB gTup (evCons (evName 5) evNil)) (ev2 gSub (evCallIO F__law_draw 1 (evCons (evC (.int 21)) evNil)) (evC (.int 10)))))))
    (evSeq (evSet 3 (evCall F__law_clean (evCons (evName 3) evNil)))
    (evSeq (evSet 22 (evCall F__law_written (evCons (evName 19) (evCons (evName 3) evNil))))
    (evSeq (evIfS (ev2 gNeD (evTold toldN "range" "other" F__law_read (evCall F_elementary (evCons (evName 19) (evCons (evCall F__law_passed (evCons (evName 22) evNil)) evNil)))) (evTup (evCons (evC (.int 0)) (evCons (evCall F__law_passed (evCons (evName 3) evNil)) evNil)))) (evRet (evC (.bool false))) evNx)
    (evSeq (evPar 8 9 (evLst (evCons evDict0 evNil)) (evComp (evIA rng1Of (evCons (ev2 gAdd (evName 19) (evC (.int 1))) evNil)) ([(("j" : Str), 7)].map (·.2)) (stName 7) (evC (.bool true)) (evCall F__law_simple (evCons (evName 19) (evCons (evName 7) evNil)))))
    (evSeq (evSet 11 (evComp (evIA rng2Of (evCons (evC (.int 1)) (evCons (ev2 gAdd (evName 19) (evC (.int 1))) evNil))) ([(("j" : Str), 7)].map (·.2)) (stName 7) (evC (.bool true)) (evBO gDict (evCons (evLst (evCons (evTup (evCons (evB gTup (evCons (evComp (evIA rng2Of (evCons (evC (.int 1)) (evCons (ev2 gAdd (evName 19) (evC (.int 1))) evNil))) ([(("k" : Str), 10)].map (·.2)) (stName 10) (evC (.bool true)) (evB gInt (evCons (ev2 gEqS (evName 7) (evName 10)) evNil))) evNil)) (evCons (evC (.int 1)) evNil))) evNil)) evNil))))
    (evSeq (evFor (evIA rng2Of (evCons (evC (.int 1)) (evCons (evC (.int 6)) evNil))) (stName 10) (evSeq (evSet 12 evDict0)
    (evSeq (evFor (evIA rng2Of (evCons (evC (.int 1)) (evCons (ev2 gAdd (evB gMin2 (evCons (ev2 gSub (evName 10) (evC (.int 1))) (evCons (evName 19) evNil))) (evC (.int 1))) evNil))) (stName 7) (evSeq (evSet 13 (evCall F__law_times (evCons (ev2L gIx 11 (ev2 gSub (evName 7) (evC (.int 1)))) (evCons (ev2L gIx 8 (ev2 gSub (evName 10) (evName 7))) evNil))))
    (evSet 12 (evCall F__law_plus (evCons (evName 12) (evCons (evBO gDict (evCons (evComp (evI keysOf (evName 13)) ([(("spot" : Str), 5)].map (·.2)) (stName 5) (evC (.bool true)) (evTup (evCons (evName 5) (evCons (evIf (ev2 gEqS (ev2 gMod (evName 7) (evC (.int 2))) (evC (.int 1))) (ev2L gDget 13 (evName 5)) (ev2 gSub (evC (.int 0)) (ev2L gDget 13 (evName 5)))) evNil)))) evNil)) evNil))))))
    (evSeq (evIfS (ev2 gLe (evName 10) (evName 19)) (evSet 12 (evCall F__law_plus (evCons (evName 12) (evCons (evBO gDict (evCons (evComp (evI keysOf (ev2L gIx 11 (ev2 gSub (evName 10) (evC (.int 1))))) ([(("spot" : Str), 5)].map (·.2)) (stName 5) (evC (.bool true)) (evTup (evCons (evName 5) (evCons (ev2 gMul (ev2 gMul (evName 10) (ev2 gDget (ev2L gIx 11 (ev2 gSub (evName 10) (evC (.int 1)))) (evName 5))) (evIf (ev2 gEqS (ev2 gMod (evName 10) (evC (.int 2))) (evC (.int 1))) (evC (.int 1)) (ev1 gNeg (evC (.int 1))))) evNil)))) evNil)) evNil)))) evNx)
    (evSeq (evDrop (evAppend 8 (evName 12)))
    (evSeq (evSet 21 (evBO gDict (evCons (evComp (evIA rng1Of (evCons (evName 19) evNil)) ([(("at" : Str), 24)].map (·.2)) (stName 24) (evC (.bool true)) (evTup (evCons (evB gTup (evCons (evComp (evIA rng1Of (evCons (evName 19) evNil)) ([(("i" : Str), 25)].map (·.2)) (stName 25) (evC (.bool true)) (ev2 gMul (evName 10) (evB gInt (evCons (ev2 gEqS (evName 25) (evName 24)) evNil)))) evNil)) (evCons (evC (.int 1)) evNil)))) evNil)))
    (evIfS (ev2 gNeD (evTold toldN "range" "other" F__law_read (evCall F_elementary (evCons (evName 19) (evCons (evCall F__law_passed (evCons (evName 21) evNil)) evNil)))) (evTup (evCons (evC (.int 0)) (evCons (evCall F__law_passed (evCons (evName 12) evNil)) evNil)))) (evRet (evC (.bool false))) evNx)))))))
    (evSeq (evSet 5 (evB gTup (evCons (evComp (evIA rng1Of (evCons (evName 19) evNil)) ([(("k" : Str), 10)].map (·.2)) (stName 10) (evC (.bool true)) (evCallIO F__law_draw 1 (evCons (evC (.int 3)) evNil))) evNil)))
    (evSeq (evSet 20 (evCall F__law_plus (evCons (evName 22) (evCons (evDisp1 (evName 5) (evC (.int 1))) evNil))))
    (evSeq (evSet 14 (evComp (evI keysOf (evName 20)) ([(("other" : Str), 23)].map (·.2)) (stName 23) (ev2 gNeD (evComp (evIA rng1Of (evCons (ev2 gSub (evName 19) (evC (.int 1))) evNil)) ([(("k" : Str), 10)].map (·.2)) (stName 10) (ev2 gNeS (evGet2 20 (ev2 gCat (ev2 gCat (ev2 (gSl true) (evName 23) (evName 10)) (evTup (evCons (ev2L gIx 23 (ev2 gAdd (evName 10) (evC (.int 1)))) (evCons (ev2L gIx 23 (evName 10)) evNil)))) (ev2 (gSl false) (evName 23) (ev2 gAdd (evName 10) (evC (.int 2))))) (evC (.int 0))) (ev2L gDget 20 (evName 23))) (evC (.int 1))) (evLst evNil)) (evName 23)))
    (evSeq (evIfS (evT (evAnd (ev2 gNeD (evName 14) (evLst evNil)) (ev2 gNeD (evTold toldN "range" "other" F__law_read (evCall F_elementary (evCons (evName 19) (evCons (evCall F__law_passed (evCons (evName 20) evNil)) evNil)))) (evTup (evCons (evC (.int 1)) (evCons (evC (.str ("range" : Str))) evNil)))))) (evRet (evC (.bool false))) evNx)
    (evSeq (evSet 15 (evLst (evCons (evTup (evCons (evTup (evCons (evName 5) (evCons (evC (.int 0)) evNil))) evNil)) (evCons (evTup (evCons (evTup (evCons (evName 5) (evCons (evC (.int 1)) evNil))) (evCons (evTup (evCons (evName 5) (evCons (evC (.int 1)) evNil))) evNil))) (evCons (evTup (evCons (evTup (evCons (ev2 gRep (evTup (evCons (evC (.int 0)) evNil)) (ev2 gAdd (evName 19) (evC (.int 1)))) (evCons (evC (.int 1)) evNil))) evNil)) (evCons (evTup (evCons (evTup (evCons (evName 5) evNil)) evNil)) (evCons (evC (.int 3)) (evCons (evTup (evCons (evTup (evCons (evB gTup (evCons (evRepL (evLst (evCons (ev1 gNeg (evC (.int 1))) evNil)) (evName 19)) evNil)) (evCons (evC (.int 1)) evNil))) evNil)) (evCons (evTup (evCons (evTup (evCons (evC (.str ("a" : Str))) (evCons (evC (.int 1)) evNil))) evNil)) (evCons (evTup (evCons (evTup (evCons (evName 5) (evCons (evC (.str ("1" : Str))) evNil))) evNil)) evNil))))))))))
    (evSeq (evAsg (stTup 2 (stCons (stName 16) (stCons (stName 18) stNil))) (evTup (evCons (ev2L gIx 15 (evCallIO F__law_draw 1 (evCons (evBN gLen1 15) evNil))) (evCons (ev2 gIx (evLst (evCons (evC (.int 0)) (evCons (evC (.int 5)) (evCons (ev1 gNeg (evC (.int 1))) (evCons (evC (.str ("2" : Str))) evNil))))) (evCallIO F__law_draw 1 (evCons (evC (.int 4)) evNil))) evNil))))
    (evSeq (evIfS (ev2 gNeD (evTold toldN "range" "other" F__law_read (evCall F_elementary (evCons (evName 19) (evCons (evName 16) evNil)))) (evTup (evCons (evC (.int 1)) (evCons (evC (.str ("other" : Str))) evNil)))) (evRet (evC (.bool false))) evNx)
    (evSeq (evIfS (evT (evOr (ev2 gNeS (evBN gLen1 9) (ev2 gAdd (evName 19) (evC (.int 1)))) (ev2 gNeD (evTold toldN "range" "other" F__law_read (evCall F_elementary (evCons (evName 18) (evCons (evTup evNil) evNil)))) (evTup (evCons (evC (.int 1)) (evCons (evC (.str ("range" : Str))) evNil)))))) (evRet (evC (.bool false))) evNx)
    (evSeq (evSet 17 (evB gTup (evCons (evBO gSortL (evCons (evComp (evIA rng1Of (evCons (evName 19) evNil)) ([(("at" : Str), 24)].map (·.2)) (stName 24) (evC (.bool true)) (evTup (evCons (evB gTup (evCons (evComp (evIA rng1Of (evCons (evName 19) evNil)) ([(("i" : Str), 25)].map (·.2)) (stName 25) (evC (.bool true)) (ev2 gMul (evC (.int 9)) (evB gInt (evCons (ev2 gEqS (evName 25) (evName 24)) evNil)))) evNil)) (evCons (evC (.int 1)) evNil)))) evNil)) evNil)))
    (evIfS (ev2 gNeD (evTold toldN "range" "other" F__law_read (evCall F_elementary (evCons (evName 19) (evCons (evName 17) evNil)))) (evTup (evCons (evC (.int 1)) (evCons (evC (.str ("range" : Str))) evNil)))) (evRet (evC (.bool false))) evNx))))))))))))))))))))
    (evRet (evC (.bool true)))))
def F_law : List PyData → FRes := runDef 26 ev_law
theorem fn_law (g_dict : mg "dict" = none) (g_int : mg "int" = none) (g_isinstance : mg "isinstance" = none) (g_len : mg "len" = none) (g_min : mg "min" = none) (g_range : mg "range" = none) (g_sorted : mg "sorted" = none) (g_tuple : mg "tuple" = none) {a__law_stream : Addr} {fd__law_stream : FuncData} (D__law_stream : DefAt K mg "_law_stream" s__law_stream ["script", "k"] a__law_stream fd__law_stream) (C__law_stream : FnOk P w K mg base (L2.CX P w) 2 a__law_stream fd__law_stream ["script", "k"] (spF K mg T 2 F__law_stream)) {a__law_draw : Addr} {fd__law_draw : FuncData} (D__law_draw : DefAt K mg "_law_draw" s__law_draw ["box", "high"] a__law_draw fd__law_draw) (C__law_draw : FnOk P w K mg base (L2.CX P w) 1 a__law_draw fd__law_draw ["box", "high"] (spIO K mg T 1 F__law_draw)) {a__law_clean : Addr} {fd__law_clean : FuncData} (D__law_clean : DefAt K mg "_law_clean" s__law_clean ["terms"] a__law_clean fd__law_clean) (C__law_clean : FnOk P w K mg base (L2.CX P w) 1 a__law_clean fd__law_clean ["terms"] (spF K mg T 1 F__law_clean)) {a__law_written : Addr} {fd__law_written : FuncData} (D__law_written : DefAt K mg "_law_written" s__law_written ["n", "told"] a__law_written fd__law_written) (C__law_written : FnOk P w K mg base (L2.CX P w) 3 a__law_written fd__law_written ["n", "told"] (spF K mg T 2 F__law_written)) {a__law_told : Addr} {fd__law_told : FuncData} (D__law_told : DefAt K mg "_law_told" s__law_told ["call"] a__law_told fd__law_told) {a__law_read : Addr} {fd__law_read : FuncData} (D__law_read : DefAt K mg "_law_read" s__law_read ["told"] a__law_read fd__law_read) (C__law_read : FnOk P w K mg base (L2.CX P w) 6 a__law_read fd__law_read ["told"] (spF K mg T 1 F__law_read)) {a_elementary : Addr} {fd_elementary : FuncData} (D_elementary : DefAt K mg "elementary" s_elementary ["n", "told"] a_elementary fd_elementary) (C_elementary : FnOk P w K mg base (L2.CX P w) 4 a_elementary fd_elementary ["n", "told"] (spF K mg T 2 F_elementary)) {a__law_passed : Addr} {fd__law_passed : FuncData} (D__law_passed : DefAt K mg "_law_passed" s__law_passed ["terms"] a__law_passed fd__law_passed) (C__law_passed : FnOk P w K mg base (L2.CX P w) 1 a__law_passed fd__law_passed ["terms"] (spF K mg T 1 F__law_passed)) {a__law_simple : Addr} {fd__law_simple : FuncData} (D__law_simple : DefAt K mg "_law_simple" s__law_simple ["n", "j"] a__law_simple fd__law_simple) (C__law_simple : FnOk P w K mg base (L2.CX P w) 1 a__law_simple fd__law_simple ["n", "j"] (spF K mg T 2 F__law_simple)) {a__law_times : Addr} {fd__law_times : FuncData} (D__law_times : DefAt K mg "_law_times" s__law_times ["first", "second"] a__law_times fd__law_times) (C__law_times : FnOk P w K mg base (L2.CX P w) 2 a__law_times fd__law_times ["first", "second"] (spF K mg T 2 F__law_times)) {a__law_plus : Addr} {fd__law_plus : FuncData} (D__law_plus : DefAt K mg "_law_plus" s__law_plus ["first", "second"] a__law_plus fd__law_plus) (C__law_plus : FnOk P w K mg base (L2.CX P w) 2 a__law_plus fd__law_plus ["first", "second"] (spF K mg T 2 F__law_plus)) {a_RootError : Addr} (X_RootError : ExcAt K mg "RootError" a_RootError) {a_OutOfRange : Addr} (X_OutOfRange : ExcAt K mg "OutOfRange" a_OutOfRange) {f c P0 : Addr} {dV kV doc pm ct oc : Value} {an od : Option Addr} {osl : Array (Option Value)} (lk : K.lookup f = some ⟨oc, od, .func (PySem.W.fnOf "law" "law" (defArgs s_law) (defBody s_law) (defScope s_law) dV kV doc pm an (.ref c) ct), osl⟩) (hcd : PySem.W.codeIn K (.ref c) "law" = true) (TB : TabB base mg c P0) (hmT : (P0, lamQ) ∈ T) (hmu : ∀ p ∈ T, p.1 = P0 → p.2 = lamQ) (hcls : ∀ (n : Str) (b : Bool), toldN n = some b → ∃ D : Addr, mg n = some (.ref D) ∧ PySem.W.exmOne K (.ref D) (.ref a_RootError) = some true ∧ ExcC K D ∧ PySem.W.kitOne K (.ref D) (.ref a_OutOfRange) = some b) :
    FnOk P w K mg base (L2.CX P w) 9 f (PySem.W.fnOf "law" "law" (defArgs s_law) (defBody s_law) (defScope s_law) dV kV doc pm an (.ref c) ct) ["script"] (spLaw K T F_law) := by
  have sc := sc_law
  obtain ⟨oc_t, od_t, kV_t, dc_t, pm_t, an_t, cd_t, ct_t, sl_t, rfl, lk_t, hcg_t⟩ := D__law_told.fn.ex
  refine fn_L lk hcd sc_law (by decide) fun A outer s H E hr => ?_
  exact snds_cons (snds_set (i := 1) (snd_call (F := F__law_stream) (snda_cons (SndE.d (snd_name (i := 0) (fun _ => pe_var rfl (by first | exact .inl rfl | exact .inr (.inl rfl) | exact .inr (.inr rfl))))) (snda_cons (SndE.d (snd_int)) snda_nil)) (fun j _ pa => pe_callS C__law_stream (hr.mono (by decide)) (by rfl) D__law_stream.m D__law_stream.k D__law_stream.b (fun σ => passAt cxF_takes σ) pa) (lena_cons (lena_cons lena_nil))) (fun _ _ pe => ps_set sc.nd rfl (.inr rfl) pe))
    (snds_cons (snds_for (fun _ => cxF_passes) (fun _ => rfl) (sndi_rng1 (fun _ => by rfl) (fun _ => g_range) (snda_cons (SndE.d (snd_int)) snda_nil)) (sndg_name (i := 2) (fun _ => pg_name sc.nd rfl (.inl rfl)))
    (snds_cons (snds_set (i := 19) (snd2 opf_add (SndE.d (snd_int)) (SndE.d (snd_callIO (i := 1) (F := F__law_draw) (fun _ => pe_var rfl (by first | exact .inl rfl | exact .inr (.inl rfl) | exact .inr (.inr rfl))) (snda_cons (SndE.d (snd_int)) snda_nil) (fun j _ pa => pe_callS C__law_draw (hr.mono (by decide)) (by rfl) D__law_draw.m D__law_draw.k D__law_draw.b (fun σ => passAt cxF_takes σ) pa) (lena_cons lena_nil))) (fun _ _ _ pa pb => pe_op op_add pa pb)) (fun _ _ pe => ps_set sc.nd rfl (.inr rfl) pe))
    (snds_cons (snds_set (i := 3) (snd_dict0) (fun _ _ pe => ps_set sc.nd rfl (.inl rfl) pe))
    (snds_cons (snds_for (fun _ => cxF_passes) (fun _ => rfl) (sndi_rng1 (fun _ => by rfl) (fun _ => g_range) (snda_cons (SndE.d (snd_callIO (i := 1) (F := F__law_draw) (fun _ => pe_var rfl (by first | exact .inl rfl | exact .inr (.inl rfl) | exact .inr (.inr rfl))) (snda_cons (SndE.d (snd_int)) snda_nil) (fun j _ pa => pe_callS C__law_draw (hr.mono (by decide)) (by rfl) D__law_draw.m D__law_draw.k D__law_draw.b (fun σ => passAt cxF_takes σ) pa) (lena_cons lena_nil))) snda_nil)) (sndg_name (i := 4) (fun _ => pg_name sc.nd rfl (.inl rfl)))
    (snds_cons (snds_par (i := 5) (j := 6) (by decide) (snd_lst snda_nil) (snd_if (sndT_cmp opf_lt (fun _ => op_lt) (SndE.d (snd_name (i := 19) (fun _ => pe_var rfl (by first | exact .inl rfl | exact .inr (.inl rfl) | exact .inr (.inr rfl))))) (SndE.d (snd_int)) rfl) testF_2 (snd_int) (snd_int)) (fun _ _ pa => ps_par rfl sc.nd rfl rfl (by decide) rfl rfl pa rfl))
    (snds_cons (snds_for (fun _ => cxF_passes) (fun _ => rfl) (sndi_rng1 (fun _ => by rfl) (fun _ => g_range) (snda_cons (SndE.d (snd_name (i := 19) (fun _ => pe_var rfl (by first | exact .inl rfl | exact .inr (.inl rfl) | exact .inr (.inr rfl))))) snda_nil)) (sndg_name (i := 7) (fun _ => pg_name sc.nd rfl (.inr rfl)))
    (snds_cons (snds_expr (snd_appendE (i := 5) (fun _ => pe_var rfl (by first | exact .inl rfl | exact .inr (.inl rfl) | exact .inr (.inr rfl))) (SndE.d (snd_callIO (i := 1) (F := F__law_draw) (fun _ => pe_var rfl (by first | exact .inl rfl | exact .inr (.inl rfl) | exact .inr (.inr rfl))) (snda_cons (SndE.d (snd2 opf_add (SndE.d (snd_int)) (SndE.d (snd_b callf_min2 (snda_cons (SndE.d (snd_int)) (snda_cons (SndE.d (snd2 opf_div (SndE.d (snd_name (i := 6) (fun _ => pe_var rfl (by first | exact .inl rfl | exact .inr (.inl rfl) | exact .inr (.inr rfl))))) (SndE.d (snd2 opf_add (SndE.d (snd_name (i := 7) (fun _ => pe_var rfl (by first | exact .inl rfl | exact .inr (.inl rfl) | exact .inr (.inr rfl))))) (SndE.d (snd_int)) (fun _ _ _ pa pb => pe_op op_add pa pb))) (fun _ _ _ pa pb => pe_op op_fdivW pa pb))) snda_nil)) (fun _ _ pa => pe_callB (call_min2 rfl) (by rfl) g_min PyProof.Rows.boot_min pa))) (fun _ _ _ pa pb => pe_op op_add pa pb))) snda_nil) (fun j _ pa => pe_callS C__law_draw (hr.mono (by decide)) (by rfl) D__law_draw.m D__law_draw.k D__law_draw.b (fun σ => passAt cxF_takes σ) pa) (lena_cons lena_nil))) (fun _ _ pa => pe_bm PySem.F.plainAttrs_list PySem.F.slot_list_append PySem.F.type_list_append mt_append (pe_var rfl (by first | exact .inl rfl | exact .inr (.inl rfl) | exact .inr (.inr rfl))) pa)))
    (snds_one (snds_set (i := 6) (snd2 opf_sub (SndE.d (snd_name (i := 6) (fun _ => pe_var rfl (by first | exact .inl rfl | exact .inr (.inl rfl) | exact .inr (.inr rfl))))) (SndE.d (snd2 opf_mul (SndE.d (snd2 opf_add (SndE.d (snd_name (i := 7) (fun _ => pe_var rfl (by first | exact .inl rfl | exact .inr (.inl rfl) | exact .inr (.inr rfl))))) (SndE.d (snd_int)) (fun _ _ _ pa pb => pe_op op_add pa pb))) (SndE.d (snd2L (i := 5) opf_ix (fun _ => pe_var rfl (by first | exact .inl rfl | exact .inr (.inl rfl) | exact .inr (.inr rfl))) (SndE.d (snd_name (i := 7) (fun _ => pe_var rfl (by first | exact .inl rfl | exact .inr (.inl rfl) | exact .inr (.inr rfl))))) (fun _ _ _ pa pb => pe_ix ix_seq pa pb (fun _ _ => rfl)))) (fun _ _ _ pa pb => pe_op op_mulX pa pb))) (fun _ _ _ pa pb => pe_op op_sub pa pb)) (fun _ _ pe => ps_set sc.nd rfl (.inl rfl) pe)))))
    (snds_one (snds_dput (i := 3) (fun j => roomU1 hr) (fun _ => pe_var rfl (by first | exact .inl rfl | exact .inr (.inl rfl) | exact .inr (.inr rfl))) (SndE.d (snd_b callf_tup (snda_cons (SndE.d (snd_name (i := 5) (fun _ => pe_var rfl (by first | exact .inl rfl | exact .inr (.inl rfl) | exact .inr (.inr rfl))))) snda_nil) (fun _ _ pa => pe_callTy call_tupA (by rfl) g_tuple PyProof.Rows.boot_tuple pa))) (SndE.d (snd2 opf_sub (SndE.d (snd_callIO (i := 1) (F := F__law_draw) (fun _ => pe_var rfl (by first | exact .inl rfl | exact .inr (.inl rfl) | exact .inr (.inr rfl))) (snda_cons (SndE.d (snd_int)) snda_nil) (fun j _ pa => pe_callS C__law_draw (hr.mono (by decide)) (by rfl) D__law_draw.m D__law_draw.k D__law_draw.b (fun σ => passAt cxF_takes σ) pa) (lena_cons lena_nil))) (SndE.d (snd_int)) (fun _ _ _ pa pb => pe_op op_sub pa pb))))))))
    (snds_cons (snds_set (i := 3) (snd_call (F := F__law_clean) (snda_cons (SndE.d (snd_name (i := 3) (fun _ => pe_var rfl (by first | exact .inl rfl | exact .inr (.inl rfl) | exact .inr (.inr rfl))))) snda_nil) (fun j _ pa => pe_callS C__law_clean (hr.mono (by decide)) (by rfl) D__law_clean.m D__law_clean.k D__law_clean.b (fun σ => passAt cxF_takes σ) pa) (lena_cons lena_nil)) (fun _ _ pe => ps_set sc.nd rfl (.inl rfl) pe))
    (snds_cons (snds_set (i := 22) (snd_call (F := F__law_written) (snda_cons (SndE.d (snd_name (i := 19) (fun _ => pe_var rfl (by first | exact .inl rfl | exact .inr (.inl rfl) | exact .inr (.inr rfl))))) (snda_cons (SndE.d (snd_name (i := 3) (fun _ => pe_var rfl (by first | exact .inl rfl | exact .inr (.inl rfl) | exact .inr (.inr rfl))))) snda_nil)) (fun j _ pa => pe_callS C__law_written (hr.mono (by decide)) (by rfl) D__law_written.m D__law_written.k D__law_written.b (fun σ => passAt cxF_takes σ) pa) (lena_cons (lena_cons lena_nil))) (fun _ _ pe => ps_set sc.nd rfl (.inr rfl) pe))
    (snds_cons (snds_if (sndT_cmp opf_neD (fun _ => (op_neD (roomU64 hr))) (SndE.d (snd_lamTold (k := 5) (scope := (⟨.function, [("n", .free), ("whole", .free), ("elementary", .globalImplicit), ("_law_passed", .globalImplicit)], false, false, []⟩ : Scope)) (fun E => snd_call (F := F_elementary) (snda_cons (SndE.d (snd_name (i := 19) (fun _ => pe_var rfl (by first | exact .inl rfl | exact .inr (.inl rfl) | exact .inr (.inr rfl))))) (snda_cons (SndE.d (snd_call (F := F__law_passed) (snda_cons (SndE.d (snd_name (i := 22) (fun _ => pe_var rfl (by first | exact .inl rfl | exact .inr (.inl rfl) | exact .inr (.inr rfl))))) snda_nil) (fun j _ pa => pe_callS C__law_passed ((lamF_room (i := j)).mono (by decide)) (by rfl) D__law_passed.m D__law_passed.k D__law_passed.b (fun σ => passAt lamF_takes σ) pa) (lena_cons lena_nil))) snda_nil)) (fun j _ pa => pe_callS C_elementary ((lamF_room (i := j)).mono (by decide)) (by rfl) D_elementary.m D_elementary.k D_elementary.b (fun σ => passAt lamF_takes σ) pa) (lena_cons (lena_cons lena_nil))) (fun _ _ hb => pe_lamcall (k := 5) (by rfl) D__law_told.m D__law_told.k lk_t hcg_t D__law_told.b sc__law_told rfl (.inl rfl) (toldR_gives C__law_read (hr.mono (by decide)) D__law_read.k D__law_read.b D__law_read.m X_RootError.m X_OutOfRange.m g_isinstance rfl rfl rfl rfl rfl rfl (by decide) (by decide) (by decide) (by decide) (by decide) (by decide)) TB rfl hmT hmu (hr.mono (by decide)) (lamS_by (sc := defScope s_law) (scope := (⟨.function, [("n", .free), ("whole", .free), ("elementary", .globalImplicit), ("_law_passed", .globalImplicit)], false, false, []⟩ : Scope)) (by decide +kernel)) rfl (fun _ _ _ _ _ => rfl) hb) hcls)) (SndE.d (snd_tup (snda_cons (SndE.d (snd_int)) (snda_cons (SndE.d (snd_call (F := F__law_passed) (snda_cons (SndE.d (snd_name (i := 3) (fun _ => pe_var rfl (by first | exact .inl rfl | exact .inr (.inl rfl) | exact .inr (.inr rfl))))) snda_nil) (fun j _ pa => pe_callS C__law_passed (hr.mono (by decide)) (by rfl) D__law_passed.m D__law_passed.k D__law_passed.b (fun σ => passAt cxF_takes σ) pa) (lena_cons lena_nil))) snda_nil)))) rfl)
    (snds_one (snds_ret (snd_bool))) (snds_nil))
    (snds_cons (snds_par (i := 8) (j := 9) (by decide) (snd_lst (snda_cons (SndE.d (snd_dict0)) snda_nil)) (snd_lcE (own := [("j", 7)]) (sndi_rng1 (fun _ => by rfl) (fun _ => g_range) (snda_cons (SndE.d (snd2 opf_add (SndE.d (snd_name (i := 19) (fun _ => pe_var rfl (by first | exact .inl rfl | exact .inr (.inl rfl) | exact .inr (.inr rfl))))) (SndE.d (snd_int)) (fun _ _ _ pa pb => pe_op op_add pa pb))) snda_nil)) (sndg_name (i := 7) (fun _ => pg_name sc.nd rfl (.inl rfl))) snd_pts0 (SndE.d (snd_call (F := F__law_simple) (snda_cons (SndE.d (snd_name (i := 19) (fun _ => pe_var rfl (by first | exact .inl rfl | exact .inr (.inl rfl) | exact .inr (.inr rfl))))) (snda_cons (SndE.d (snd_name (i := 7) (fun _ => pe_var rfl (by first | exact .inl rfl | exact .inr (.inl rfl) | exact .inr (.inr rfl))))) snda_nil)) (fun j _ pa => pe_callS C__law_simple (hr.mono (by decide)) (by rfl) D__law_simple.m D__law_simple.k D__law_simple.b (fun σ => passAt LamX.takes0 σ) pa) (lena_cons (lena_cons lena_nil)))) (by decide) (fun _ _ _ _ _ pi pg pt pe => pe_lc rfl sc.nd pi (blkOk_by (N := ["script", "box", "turn", "told", "again", "spot", "left", "j", "sums", "names", "k", "units", "part", "one", "even", "wrong", "bad", "high", "many", "n", "odd", "powers", "whole", "other", "at", "i"]) (sc := defScope s_law) (own := [("j", 7)]) (by decide +kernel)) pg pt pe)) (fun _ _ pa => ps_par rfl sc.nd rfl rfl (by decide) rfl rfl pa rfl))
    (snds_cons (snds_set (i := 11) (snd_lcE (scope := (⟨.function, [(".0", .local), ("j", .cell), ("dict", .globalImplicit), ("tuple", .globalImplicit), ("range", .globalImplicit), ("n", .free)], false, false, []⟩ : Scope)) (own := [("j", 7)]) (sndi_rng2 (fun _ => by rfl) (fun _ => g_range) (snda_cons (SndE.d (snd_int)) (snda_cons (SndE.d (snd2 opf_add (SndE.d (snd_name (i := 19) (fun _ => pe_var rfl (by first | exact .inl rfl | exact .inr (.inl rfl) | exact .inr (.inr rfl))))) (SndE.d (snd_int)) (fun _ _ _ pa pb => pe_op op_add pa pb))) snda_nil))) (sndg_name (i := 7) (fun _ => pg_name sc.nd rfl (.inr rfl))) snd_pts0 (SndE.d (snd_bo callo_dict (snda_cons (SndE.d (snd_lst (snda_cons (SndE.d (snd_tup (snda_cons (SndE.d (snd_b callf_tup (snda_cons (SndE.d (snd_lcE (own := [("k", 10)]) (sndi_rng2 (fun _ => by rfl) (fun _ => g_range) (snda_cons (SndE.d (snd_int)) (snda_cons (SndE.d (snd2 opf_add (SndE.d (snd_name (i := 19) (fun _ => pe_var rfl (by first | exact .inl rfl | exact .inr (.inl rfl) | exact .inr (.inr rfl))))) (SndE.d (snd_int)) (fun _ _ _ pa pb => pe_op op_add pa pb))) snda_nil))) (sndg_name (i := 10) (fun _ => pg_name sc.nd rfl (.inl rfl))) snd_pts0 (SndE.d (snd_b callf_int (snda_cons (SndE.d (snd2 opf_eqS (SndE.d (snd_name (i := 7) (fun _ => pe_var rfl (by first | exact .inl rfl | exact .inr (.inl rfl) | exact .inr (.inr rfl))))) (SndE.d (snd_name (i := 10) (fun _ => pe_var rfl (by first | exact .inl rfl | exact .inr (.inl rfl) | exact .inr (.inr rfl))))) (fun _ _ _ pa pb => pe_cmpR op_eq pa pb rfl))) snda_nil) (fun _ _ pa => pe_callTy call_int1 (by rfl) g_int PyProof.Rows.boot_int pa))) (by decide) (fun _ _ _ _ _ pi pg pt pe => pe_lc rfl sc.nd pi (blkOk_by (N := ["script", "box", "turn", "told", "again", "spot", "left", "j", "sums", "names", "k", "units", "part", "one", "even", "wrong", "bad", "high", "many", "n", "odd", "powers", "whole", "other", "at", "i"]) (sc := (⟨.function, [(".0", .local), ("j", .cell), ("dict", .globalImplicit), ("tuple", .globalImplicit), ("range", .globalImplicit), ("n", .cell)], false, false, []⟩ : Scope)) (own := [("k", 10)]) (by decide +kernel)) pg pt pe))) snda_nil) (fun _ _ pa => pe_callTy call_tupA (by rfl) g_tuple PyProof.Rows.boot_tuple pa))) (snda_cons (SndE.d (snd_int)) snda_nil)))) snda_nil))) snda_nil) (fun _ _ pa => pe_callTy (call_dictAll (roomU3 hr) rfl) (by rfl) g_dict PyProof.Rows.boot_dict pa))) (by decide) (fun _ _ _ _ _ pi pg pt pe => pe_lc rfl sc.nd pi (blkOk_by (N := ["script", "box", "turn", "told", "again", "spot", "left", "j", "sums", "names", "k", "units", "part", "one", "even", "wrong", "bad", "high", "many", "n", "odd", "powers", "whole", "other", "at", "i"]) (sc := defScope s_law) (own := [("j", 7)]) (by decide +kernel)) pg pt pe)) (fun _ _ pe => ps_set sc.nd rfl (.inr rfl) pe))
    (snds_cons (snds_for (fun _ => cxF_passes) (fun _ => rfl) (sndi_rng2 (fun _ => by rfl) (fun _ => g_range) (snda_cons (SndE.d (snd_int)) (snda_cons (SndE.d (snd_int)) snda_nil))) (sndg_name (i := 10) (fun _ => pg_name sc.nd rfl (.inr rfl)))
    (snds_cons (snds_set (i := 12) (snd_dict0) (fun _ _ pe => ps_set sc.nd rfl (.inl rfl) pe))
    (snds_cons (snds_for (fun _ => cxF_passes) (fun _ => rfl) (sndi_rng2 (fun _ => by rfl) (fun _ => g_range) (snda_cons (SndE.d (snd_int)) (snda_cons (SndE.d (snd2 opf_add (SndE.d (snd_b callf_min2 (snda_cons (SndE.d (snd2 opf_sub (SndE.d (snd_name (i := 10) (fun _ => pe_var rfl (by first | exact .inl rfl | exact .inr (.inl rfl) | exact .inr (.inr rfl))))) (SndE.d (snd_int)) (fun _ _ _ pa pb => pe_op op_sub pa pb))) (snda_cons (SndE.d (snd_name (i := 19) (fun _ => pe_var rfl (by first | exact .inl rfl | exact .inr (.inl rfl) | exact .inr (.inr rfl))))) snda_nil)) (fun _ _ pa => pe_callB (call_min2 rfl) (by rfl) g_min PyProof.Rows.boot_min pa))) (SndE.d (snd_int)) (fun _ _ _ pa pb => pe_op op_add pa pb))) snda_nil))) (sndg_name (i := 7) (fun _ => pg_name sc.nd rfl (.inr rfl)))
    (snds_cons (snds_set (i := 13) (snd_call (F := F__law_times) (snda_cons (SndE.d (snd2L (i := 11) opf_ix (fun _ => pe_var rfl (by first | exact .inl rfl | exact .inr (.inl rfl) | exact .inr (.inr rfl))) (SndE.d (snd2 opf_sub (SndE.d (snd_name (i := 7) (fun _ => pe_var rfl (by first | exact .inl rfl | exact .inr (.inl rfl) | exact .inr (.inr rfl))))) (SndE.d (snd_int)) (fun _ _ _ pa pb => pe_op op_sub pa pb))) (fun _ _ _ pa pb => pe_ix ix_seq pa pb (fun _ _ => rfl)))) (snda_cons (SndE.d (snd2L (i := 8) opf_ix (fun _ => pe_var rfl (by first | exact .inl rfl | exact .inr (.inl rfl) | exact .inr (.inr rfl))) (SndE.d (snd2 opf_sub (SndE.d (snd_name (i := 10) (fun _ => pe_var rfl (by first | exact .inl rfl | exact .inr (.inl rfl) | exact .inr (.inr rfl))))) (SndE.d (snd_name (i := 7) (fun _ => pe_var rfl (by first | exact .inl rfl | exact .inr (.inl rfl) | exact .inr (.inr rfl))))) (fun _ _ _ pa pb => pe_op op_sub pa pb))) (fun _ _ _ pa pb => pe_ix ix_seq pa pb (fun _ _ => rfl)))) snda_nil)) (fun j _ pa => pe_callS C__law_times (hr.mono (by decide)) (by rfl) D__law_times.m D__law_times.k D__law_times.b (fun σ => passAt cxF_takes σ) pa) (lena_cons (lena_cons lena_nil))) (fun _ _ pe => ps_set sc.nd rfl (.inr rfl) pe))
    (snds_one (snds_set (i := 12) (snd_call (F := F__law_plus) (snda_cons (SndE.d (snd_name (i := 12) (fun _ => pe_var rfl (by first | exact .inl rfl | exact .inr (.inl rfl) | exact .inr (.inr rfl))))) (snda_cons (SndE.d (snd_bo callo_dict (snda_cons (SndE.d (snd_lcE (own := [("spot", 5)]) (sndi_keys (SndE.d (snd_name (i := 13) (fun _ => pe_var rfl (by first | exact .inl rfl | exact .inr (.inl rfl) | exact .inr (.inr rfl)))))) (sndg_name (i := 5) (fun _ => pg_name sc.nd rfl (.inl rfl))) snd_pts0 (SndE.d (snd_tup (snda_cons (SndE.d (snd_name (i := 5) (fun _ => pe_var rfl (by first | exact .inl rfl | exact .inr (.inl rfl) | exact .inr (.inr rfl))))) (snda_cons (SndE.d (snd_if (sndT_cmp opf_eqS (fun _ => op_eq) (SndE.d (snd2 opf_mod (SndE.d (snd_name (i := 7) (fun _ => pe_var rfl (by first | exact .inl rfl | exact .inr (.inl rfl) | exact .inr (.inr rfl))))) (SndE.d (snd_int)) (fun _ _ _ pa pb => pe_op op_mod pa pb))) (SndE.d (snd_int)) rfl) testF_2 (snd2L (i := 13) opf_dget (fun _ => pe_var rfl (by first | exact .inl rfl | exact .inr (.inl rfl) | exact .inr (.inr rfl))) (SndE.d (snd_name (i := 5) (fun _ => pe_var rfl (by first | exact .inl rfl | exact .inr (.inl rfl) | exact .inr (.inr rfl))))) (fun _ _ _ pa pb => pe_dget (roomU1 hr) pa pb (fun _ _ => rfl))) (snd2 opf_sub (SndE.d (snd_int)) (SndE.d (snd2L (i := 13) opf_dget (fun _ => pe_var rfl (by first | exact .inl rfl | exact .inr (.inl rfl) | exact .inr (.inr rfl))) (SndE.d (snd_name (i := 5) (fun _ => pe_var rfl (by first | exact .inl rfl | exact .inr (.inl rfl) | exact .inr (.inr rfl))))) (fun _ _ _ pa pb => pe_dget (roomU1 hr) pa pb (fun _ _ => rfl)))) (fun _ _ _ pa pb => pe_op op_sub pa pb)))) snda_nil)))) (by decide) (fun _ _ _ _ _ pi pg pt pe => pe_lc rfl sc.nd pi (blkOk_by (N := ["script", "box", "turn", "told", "again", "spot", "left", "j", "sums", "names", "k", "units", "part", "one", "even", "wrong", "bad", "high", "many", "n", "odd", "powers", "whole", "other", "at", "i"]) (sc := defScope s_law) (own := [("spot", 5)]) (by decide +kernel)) pg pt pe))) snda_nil) (fun _ _ pa => pe_callTy (call_dictAll (roomU3 hr) rfl) (by rfl) g_dict PyProof.Rows.boot_dict pa))) snda_nil)) (fun j _ pa => pe_callS C__law_plus (hr.mono (by decide)) (by rfl) D__law_plus.m D__law_plus.k D__law_plus.b (fun σ => passAt cxF_takes σ) pa) (lena_cons (lena_cons lena_nil))) (fun _ _ pe => ps_set sc.nd rfl (.inl rfl) pe)))))
    (snds_cons (snds_if (sndT_cmp opf_le (fun _ => op_le) (SndE.d (snd_name (i := 10) (fun _ => pe_var rfl (by first | exact .inl rfl | exact .inr (.inl rfl) | exact .inr (.inr rfl))))) (SndE.d (snd_name (i := 19) (fun _ => pe_var rfl (by first | exact .inl rfl | exact .inr (.inl rfl) | exact .inr (.inr rfl))))) rfl)
    (snds_one (snds_set (i := 12) (snd_call (F := F__law_plus) (snda_cons (SndE.d (snd_name (i := 12) (fun _ => pe_var rfl (by first | exact .inl rfl | exact .inr (.inl rfl) | exact .inr (.inr rfl))))) (snda_cons (SndE.d (snd_bo callo_dict (snda_cons (SndE.d (snd_lcE (own := [("spot", 5)]) (sndi_keys (SndE.d (snd2L (i := 11) opf_ix (fun _ => pe_var rfl (by first | exact .inl rfl | exact .inr (.inl rfl) | exact .inr (.inr rfl))) (SndE.d (snd2 opf_sub (SndE.d (snd_name (i := 10) (fun _ => pe_var rfl (by first | exact .inl rfl | exact .inr (.inl rfl) | exact .inr (.inr rfl))))) (SndE.d (snd_int)) (fun _ _ _ pa pb => pe_op op_sub pa pb))) (fun _ _ _ pa pb => pe_ix ix_seq pa pb (fun _ _ => rfl))))) (sndg_name (i := 5) (fun _ => pg_name sc.nd rfl (.inl rfl))) snd_pts0 (SndE.d (snd_tup (snda_cons (SndE.d (snd_name (i := 5) (fun _ => pe_var rfl (by first | exact .inl rfl | exact .inr (.inl rfl) | exact .inr (.inr rfl))))) (snda_cons (SndE.d (snd2 opf_mul (SndE.d (snd2 opf_mul (SndE.d (snd_name (i := 10) (fun _ => pe_var rfl (by first | exact .inl rfl | exact .inr (.inl rfl) | exact .inr (.inr rfl))))) (SndE.d (snd2 opf_dget (SndE.d (snd2L (i := 11) opf_ix (fun _ => pe_var rfl (by first | exact .inl rfl | exact .inr (.inl rfl) | exact .inr (.inr rfl))) (SndE.d (snd2 opf_sub (SndE.d (snd_name (i := 10) (fun _ => pe_var rfl (by first | exact .inl rfl | exact .inr (.inl rfl) | exact .inr (.inr rfl))))) (SndE.d (snd_int)) (fun _ _ _ pa pb => pe_op op_sub pa pb))) (fun _ _ _ pa pb => pe_ix ix_seq pa pb (fun _ _ => rfl)))) (SndE.d (snd_name (i := 5) (fun _ => pe_var rfl (by first | exact .inl rfl | exact .inr (.inl rfl) | exact .inr (.inr rfl))))) (fun _ _ _ pa pb => pe_dget (roomU1 hr) pa pb (fun _ _ => rfl)))) (fun _ _ _ pa pb => pe_op op_mulX pa pb))) (SndE.d (snd_if (sndT_cmp opf_eqS (fun _ => op_eq) (SndE.d (snd2 opf_mod (SndE.d (snd_name (i := 10) (fun _ => pe_var rfl (by first | exact .inl rfl | exact .inr (.inl rfl) | exact .inr (.inr rfl))))) (SndE.d (snd_int)) (fun _ _ _ pa pb => pe_op op_mod pa pb))) (SndE.d (snd_int)) rfl) testF_2 (snd_int) (snd1 unf_neg (SndE.d (snd_int)) (fun _ _ pa => pe_un un_neg pa)))) (fun _ _ _ pa pb => pe_op op_mulX pa pb))) snda_nil)))) (by decide) (fun _ _ _ _ _ pi pg pt pe => pe_lc rfl sc.nd pi (blkOk_by (N := ["script", "box", "turn", "told", "again", "spot", "left", "j", "sums", "names", "k", "units", "part", "one", "even", "wrong", "bad", "high", "many", "n", "odd", "powers", "whole", "other", "at", "i"]) (sc := defScope s_law) (own := [("spot", 5)]) (by decide +kernel)) pg pt pe))) snda_nil) (fun _ _ pa => pe_callTy (call_dictAll (roomU3 hr) rfl) (by rfl) g_dict PyProof.Rows.boot_dict pa))) snda_nil)) (fun j _ pa => pe_callS C__law_plus (hr.mono (by decide)) (by rfl) D__law_plus.m D__law_plus.k D__law_plus.b (fun σ => passAt cxF_takes σ) pa) (lena_cons (lena_cons lena_nil))) (fun _ _ pe => ps_set sc.nd rfl (.inl rfl) pe))) (snds_nil))
    (snds_cons (snds_expr (snd_appendE (i := 8) (fun _ => pe_var rfl (by first | exact .inl rfl | exact .inr (.inl rfl) | exact .inr (.inr rfl))) (SndE.d (snd_name (i := 12) (fun _ => pe_var rfl (by first | exact .inl rfl | exact .inr (.inl rfl) | exact .inr (.inr rfl))))) (fun _ _ pa => pe_bm PySem.F.plainAttrs_list PySem.F.slot_list_append PySem.F.type_list_append mt_append (pe_var rfl (by first | exact .inl rfl | exact .inr (.inl rfl) | exact .inr (.inr rfl))) pa)))
    (snds_cons (snds_set (i := 21) (snd_bo callo_dict (snda_cons (SndE.d (snd_lcE (scope := (⟨.function, [(".0", .local), ("at", .cell), ("tuple", .globalImplicit), ("range", .globalImplicit), ("k", .free), ("n", .free)], false, false, []⟩ : Scope)) (own := [("at", 24)]) (sndi_rng1 (fun _ => by rfl) (fun _ => g_range) (snda_cons (SndE.d (snd_name (i := 19) (fun _ => pe_var rfl (by first | exact .inl rfl | exact .inr (.inl rfl) | exact .inr (.inr rfl))))) snda_nil)) (sndg_name (i := 24) (fun _ => pg_name sc.nd rfl (.inr rfl))) snd_pts0 (SndE.d (snd_tup (snda_cons (SndE.d (snd_b callf_tup (snda_cons (SndE.d (snd_lcE (own := [("i", 25)]) (sndi_rng1 (fun _ => by rfl) (fun _ => g_range) (snda_cons (SndE.d (snd_name (i := 19) (fun _ => pe_var rfl (by first | exact .inl rfl | exact .inr (.inl rfl) | exact .inr (.inr rfl))))) snda_nil)) (sndg_name (i := 25) (fun _ => pg_name sc.nd rfl (.inl rfl))) snd_pts0 (SndE.d (snd2 opf_mul (SndE.d (snd_name (i := 10) (fun _ => pe_var rfl (by first | exact .inl rfl | exact .inr (.inl rfl) | exact .inr (.inr rfl))))) (SndE.d (snd_b callf_int (snda_cons (SndE.d (snd2 opf_eqS (SndE.d (snd_name (i := 25) (fun _ => pe_var rfl (by first | exact .inl rfl | exact .inr (.inl rfl) | exact .inr (.inr rfl))))) (SndE.d (snd_name (i := 24) (fun _ => pe_var rfl (by first | exact .inl rfl | exact .inr (.inl rfl) | exact .inr (.inr rfl))))) (fun _ _ _ pa pb => pe_cmpR op_eq pa pb rfl))) snda_nil) (fun _ _ pa => pe_callTy call_int1 (by rfl) g_int PyProof.Rows.boot_int pa))) (fun _ _ _ pa pb => pe_op op_mulX pa pb))) (by decide) (fun _ _ _ _ _ pi pg pt pe => pe_lc rfl sc.nd pi (blkOk_by (N := ["script", "box", "turn", "told", "again", "spot", "left", "j", "sums", "names", "k", "units", "part", "one", "even", "wrong", "bad", "high", "many", "n", "odd", "powers", "whole", "other", "at", "i"]) (sc := (⟨.function, [(".0", .local), ("at", .cell), ("tuple", .globalImplicit), ("range", .globalImplicit), ("k", .cell), ("n", .cell)], false, false, []⟩ : Scope)) (own := [("i", 25)]) (by decide +kernel)) pg pt pe))) snda_nil) (fun _ _ pa => pe_callTy call_tupA (by rfl) g_tuple PyProof.Rows.boot_tuple pa))) (snda_cons (SndE.d (snd_int)) snda_nil)))) (by decide) (fun _ _ _ _ _ pi pg pt pe => pe_lc rfl sc.nd pi (blkOk_by (N := ["script", "box", "turn", "told", "again", "spot", "left", "j", "sums", "names", "k", "units", "part", "one", "even", "wrong", "bad", "high", "many", "n", "odd", "powers", "whole", "other", "at", "i"]) (sc := defScope s_law) (own := [("at", 24)]) (by decide +kernel)) pg pt pe))) snda_nil) (fun _ _ pa => pe_callTy (call_dictAll (roomU3 hr) rfl) (by rfl) g_dict PyProof.Rows.boot_dict pa)) (fun _ _ pe => ps_set sc.nd rfl (.inr rfl) pe))
    (snds_one (snds_if (sndT_cmp opf_neD (fun _ => (op_neD (roomU64 hr))) (SndE.d (snd_lamTold (k := 5) (scope := (⟨.function, [("n", .free), ("powers", .free), ("elementary", .globalImplicit), ("_law_passed", .globalImplicit)], false, false, []⟩ : Scope)) (fun E => snd_call (F := F_elementary) (snda_cons (SndE.d (snd_name (i := 19) (fun _ => pe_var rfl (by first | exact .inl rfl | exact .inr (.inl rfl) | exact .inr (.inr rfl))))) (snda_cons (SndE.d (snd_call (F := F__law_passed) (snda_cons (SndE.d (snd_name (i := 21) (fun _ => pe_var rfl (by first | exact .inl rfl | exact .inr (.inl rfl) | exact .inr (.inr rfl))))) snda_nil) (fun j _ pa => pe_callS C__law_passed ((lamF_room (i := j)).mono (by decide)) (by rfl) D__law_passed.m D__law_passed.k D__law_passed.b (fun σ => passAt lamF_takes σ) pa) (lena_cons lena_nil))) snda_nil)) (fun j _ pa => pe_callS C_elementary ((lamF_room (i := j)).mono (by decide)) (by rfl) D_elementary.m D_elementary.k D_elementary.b (fun σ => passAt lamF_takes σ) pa) (lena_cons (lena_cons lena_nil))) (fun _ _ hb => pe_lamcall (k := 5) (by rfl) D__law_told.m D__law_told.k lk_t hcg_t D__law_told.b sc__law_told rfl (.inl rfl) (toldR_gives C__law_read (hr.mono (by decide)) D__law_read.k D__law_read.b D__law_read.m X_RootError.m X_OutOfRange.m g_isinstance rfl rfl rfl rfl rfl rfl (by decide) (by decide) (by decide) (by decide) (by decide) (by decide)) TB rfl hmT hmu (hr.mono (by decide)) (lamS_by (sc := defScope s_law) (scope := (⟨.function, [("n", .free), ("powers", .free), ("elementary", .globalImplicit), ("_law_passed", .globalImplicit)], false, false, []⟩ : Scope)) (by decide +kernel)) rfl (fun _ _ _ _ _ => rfl) hb) hcls)) (SndE.d (snd_tup (snda_cons (SndE.d (snd_int)) (snda_cons (SndE.d (snd_call (F := F__law_passed) (snda_cons (SndE.d (snd_name (i := 12) (fun _ => pe_var rfl (by first | exact .inl rfl | exact .inr (.inl rfl) | exact .inr (.inr rfl))))) snda_nil) (fun j _ pa => pe_callS C__law_passed (hr.mono (by decide)) (by rfl) D__law_passed.m D__law_passed.k D__law_passed.b (fun σ => passAt cxF_takes σ) pa) (lena_cons lena_nil))) snda_nil)))) rfl)
    (snds_one (snds_ret (snd_bool))) (snds_nil)))))))))
    (snds_cons (snds_set (i := 5) (snd_b callf_tup (snda_cons (SndE.d (snd_lcE (own := [("k", 10)]) (sndi_rng1 (fun _ => by rfl) (fun _ => g_range) (snda_cons (SndE.d (snd_name (i := 19) (fun _ => pe_var rfl (by first | exact .inl rfl | exact .inr (.inl rfl) | exact .inr (.inr rfl))))) snda_nil)) (sndg_name (i := 10) (fun _ => pg_name sc.nd rfl (.inl rfl))) snd_pts0 (SndE.d (snd_callIO (i := 1) (F := F__law_draw) (fun _ => pe_var rfl (by first | exact .inl rfl | exact .inr (.inl rfl) | exact .inr (.inr rfl))) (snda_cons (SndE.d (snd_int)) snda_nil) (fun j _ pa => pe_callS C__law_draw (hr.mono (by decide)) (by rfl) D__law_draw.m D__law_draw.k D__law_draw.b (fun σ => passAt LamX.takes0 σ) pa) (lena_cons lena_nil))) (by decide) (fun _ _ _ _ _ pi pg pt pe => pe_lc rfl sc.nd pi (blkOk_by (N := ["script", "box", "turn", "told", "again", "spot", "left", "j", "sums", "names", "k", "units", "part", "one", "even", "wrong", "bad", "high", "many", "n", "odd", "powers", "whole", "other", "at", "i"]) (sc := defScope s_law) (own := [("k", 10)]) (by decide +kernel)) pg pt pe))) snda_nil) (fun _ _ pa => pe_callTy call_tupA (by rfl) g_tuple PyProof.Rows.boot_tuple pa)) (fun _ _ pe => ps_set sc.nd rfl (.inl rfl) pe))
    (snds_cons (snds_set (i := 20) (snd_call (F := F__law_plus) (snda_cons (SndE.d (snd_name (i := 22) (fun _ => pe_var rfl (by first | exact .inl rfl | exact .inr (.inl rfl) | exact .inr (.inr rfl))))) (snda_cons (SndE.d (snd_disp1 (fun j => roomU1 hr) (SndE.d (snd_name (i := 5) (fun _ => pe_var rfl (by first | exact .inl rfl | exact .inr (.inl rfl) | exact .inr (.inr rfl))))) (SndE.d (snd_int)))) snda_nil)) (fun j _ pa => pe_callS C__law_plus (hr.mono (by decide)) (by rfl) D__law_plus.m D__law_plus.k D__law_plus.b (fun σ => passAt cxF_takes σ) pa) (lena_cons (lena_cons lena_nil))) (fun _ _ pe => ps_set sc.nd rfl (.inr rfl) pe))
    (snds_cons (snds_setLc (scope := (⟨.function, [(".0", .local), ("other", .cell), ("range", .globalImplicit), ("n", .free), ("odd", .free)], false, false, []⟩ : Scope)) (i := 14) (own := [("other", 23)]) (sndi_keys (SndE.d (snd_name (i := 20) (fun _ => pe_var rfl (by first | exact .inl rfl | exact .inr (.inl rfl) | exact .inr (.inr rfl)))))) (sndg_name (i := 23) (fun _ => pg_name sc.nd rfl (.inr rfl))) (snd_pts1 (sndT_cmp opf_neD (fun _ => (op_neD (roomU64 hr))) (SndE.d (snd_lcE (own := [("k", 10)]) (sndi_rng1 (fun _ => by rfl) (fun _ => g_range) (snda_cons (SndE.d (snd2 opf_sub (SndE.d (snd_name (i := 19) (fun _ => pe_var rfl (by first | exact .inl rfl | exact .inr (.inl rfl) | exact .inr (.inr rfl))))) (SndE.d (snd_int)) (fun _ _ _ pa pb => pe_op op_sub pa pb))) snda_nil)) (sndg_name (i := 10) (fun _ => pg_name sc.nd rfl (.inl rfl))) (snd_pts1 (sndT_cmp opf_neS (fun _ => op_ne) (SndE.d (snd_get2 (i := 20) (fun j => roomU1 hr) (fun _ => pe_var rfl (by first | exact .inl rfl | exact .inr (.inl rfl) | exact .inr (.inr rfl))) (SndE.d (snd2 opf_cat (SndE.d (snd2 opf_cat (SndE.d (snd2 opf_sl (SndE.d (snd_name (i := 23) (fun _ => pe_var rfl (by first | exact .inl rfl | exact .inr (.inl rfl) | exact .inr (.inr rfl))))) (SndE.d (snd_name (i := 10) (fun _ => pe_var rfl (by first | exact .inl rfl | exact .inr (.inl rfl) | exact .inr (.inr rfl))))) (fun _ _ _ pa pb => pe_slice sl_tupQ pa po_none (po_some pb)))) (SndE.d (snd_tup (snda_cons (SndE.d (snd2L (i := 23) opf_ix (fun _ => pe_var rfl (by first | exact .inl rfl | exact .inr (.inl rfl) | exact .inr (.inr rfl))) (SndE.d (snd2 opf_add (SndE.d (snd_name (i := 10) (fun _ => pe_var rfl (by first | exact .inl rfl | exact .inr (.inl rfl) | exact .inr (.inr rfl))))) (SndE.d (snd_int)) (fun _ _ _ pa pb => pe_op op_add pa pb))) (fun _ _ _ pa pb => pe_ix ix_seq pa pb (fun _ _ => rfl)))) (snda_cons (SndE.d (snd2L (i := 23) opf_ix (fun _ => pe_var rfl (by first | exact .inl rfl | exact .inr (.inl rfl) | exact .inr (.inr rfl))) (SndE.d (snd_name (i := 10) (fun _ => pe_var rfl (by first | exact .inl rfl | exact .inr (.inl rfl) | exact .inr (.inr rfl))))) (fun _ _ _ pa pb => pe_ix ix_seq pa pb (fun _ _ => rfl)))) snda_nil)))) (fun _ _ _ pa pb => pe_op op_catA pa pb))) (SndE.d (snd2 opf_sl (SndE.d (snd_name (i := 23) (fun _ => pe_var rfl (by first | exact .inl rfl | exact .inr (.inl rfl) | exact .inr (.inr rfl))))) (SndE.d (snd2 opf_add (SndE.d (snd_name (i := 10) (fun _ => pe_var rfl (by first | exact .inl rfl | exact .inr (.inl rfl) | exact .inr (.inr rfl))))) (SndE.d (snd_int)) (fun _ _ _ pa pb => pe_op op_add pa pb))) (fun _ _ _ pa pb => pe_slice sl_tupQ pa (po_some pb) po_none))) (fun _ _ _ pa pb => pe_op op_catA pa pb))) (SndE.d (snd_int)) (fun _ => ⟨by rfl, by rfl, by rfl, by rfl⟩))) (SndE.d (snd2L (i := 20) opf_dget (fun _ => pe_var rfl (by first | exact .inl rfl | exact .inr (.inl rfl) | exact .inr (.inr rfl))) (SndE.d (snd_name (i := 23) (fun _ => pe_var rfl (by first | exact .inl rfl | exact .inr (.inl rfl) | exact .inr (.inr rfl))))) (fun _ _ _ pa pb => pe_dget (roomU1 hr) pa pb (fun _ _ => rfl)))) rfl)) (SndE.d (snd_int)) (by decide) (fun _ _ _ _ _ pi pg pt pe => pe_lc rfl sc.nd pi (blkOk_by (N := ["script", "box", "turn", "told", "again", "spot", "left", "j", "sums", "names", "k", "units", "part", "one", "even", "wrong", "bad", "high", "many", "n", "odd", "powers", "whole", "other", "at", "i"]) (sc := (⟨.function, [(".0", .local), ("other", .cell), ("range", .globalImplicit), ("n", .cell), ("odd", .cell)], false, false, []⟩ : Scope)) (own := [("k", 10)]) (by decide +kernel)) pg pt pe))) (SndE.d (snd_lst snda_nil)) rfl)) (SndE.d (snd_name (i := 23) (fun _ => pe_var rfl (by first | exact .inl rfl | exact .inr (.inl rfl) | exact .inr (.inr rfl))))) (by decide) (fun _ _ _ _ _ pi pg pt pe => ps_setLc rfl sc.nd rfl rfl (sw_true rfl rfl rfl (by decide +kernel)) pi (blkOk_by (N := ["script", "box", "turn", "told", "again", "spot", "left", "j", "sums", "names", "k", "units", "part", "one", "even", "wrong", "bad", "high", "many", "n", "odd", "powers", "whole", "other", "at", "i"]) (sc := defScope s_law) (own := [("other", 23)]) (by decide +kernel)) pg pt pe))
    (snds_cons (snds_if (sndT_t (SndW.t (sndW_and (sndT_cmp opf_neD (fun _ => (op_neD (roomU64 hr))) (SndE.d (snd_name (i := 14) (fun _ => pe_var rfl (by first | exact .inl rfl | exact .inr (.inl rfl) | exact .inr (.inr rfl))))) (SndE.d (snd_lst snda_nil)) rfl) (sndW_and1 (sndT_cmp opf_neD (fun _ => (op_neD (roomU64 hr))) (SndE.d (snd_lamTold (k := 5) (scope := (⟨.function, [("n", .free), ("odd", .free), ("elementary", .globalImplicit), ("_law_passed", .globalImplicit)], false, false, []⟩ : Scope)) (fun E => snd_call (F := F_elementary) (snda_cons (SndE.d (snd_name (i := 19) (fun _ => pe_var rfl (by first | exact .inl rfl | exact .inr (.inl rfl) | exact .inr (.inr rfl))))) (snda_cons (SndE.d (snd_call (F := F__law_passed) (snda_cons (SndE.d (snd_name (i := 20) (fun _ => pe_var rfl (by first | exact .inl rfl | exact .inr (.inl rfl) | exact .inr (.inr rfl))))) snda_nil) (fun j _ pa => pe_callS C__law_passed ((lamF_room (i := j)).mono (by decide)) (by rfl) D__law_passed.m D__law_passed.k D__law_passed.b (fun σ => passAt lamF_takes σ) pa) (lena_cons lena_nil))) snda_nil)) (fun j _ pa => pe_callS C_elementary ((lamF_room (i := j)).mono (by decide)) (by rfl) D_elementary.m D_elementary.k D_elementary.b (fun σ => passAt lamF_takes σ) pa) (lena_cons (lena_cons lena_nil))) (fun _ _ hb => pe_lamcall (k := 5) (by rfl) D__law_told.m D__law_told.k lk_t hcg_t D__law_told.b sc__law_told rfl (.inl rfl) (toldR_gives C__law_read (hr.mono (by decide)) D__law_read.k D__law_read.b D__law_read.m X_RootError.m X_OutOfRange.m g_isinstance rfl rfl rfl rfl rfl rfl (by decide) (by decide) (by decide) (by decide) (by decide) (by decide)) TB rfl hmT hmu (hr.mono (by decide)) (lamS_by (sc := defScope s_law) (scope := (⟨.function, [("n", .free), ("odd", .free), ("elementary", .globalImplicit), ("_law_passed", .globalImplicit)], false, false, []⟩ : Scope)) (by decide +kernel)) rfl (fun _ _ _ _ _ => rfl) hb) hcls)) (SndE.d (snd_tup (snda_cons (SndE.d (snd_int)) (snda_cons (SndE.d (snd_str)) snda_nil)))) rfl)) testF_2)))
    (snds_one (snds_ret (snd_bool))) (snds_nil))
    (snds_cons (snds_set (i := 15) (snd_lst (snda_cons (SndE.d (snd_tup (snda_cons (SndE.d (snd_tup (snda_cons (SndE.d (snd_name (i := 5) (fun _ => pe_var rfl (by first | exact .inl rfl | exact .inr (.inl rfl) | exact .inr (.inr rfl))))) (snda_cons (SndE.d (snd_int)) snda_nil)))) snda_nil))) (snda_cons (SndE.d (snd_tup (snda_cons (SndE.d (snd_tup (snda_cons (SndE.d (snd_name (i := 5) (fun _ => pe_var rfl (by first | exact .inl rfl | exact .inr (.inl rfl) | exact .inr (.inr rfl))))) (snda_cons (SndE.d (snd_int)) snda_nil)))) (snda_cons (SndE.d (snd_tup (snda_cons (SndE.d (snd_name (i := 5) (fun _ => pe_var rfl (by first | exact .inl rfl | exact .inr (.inl rfl) | exact .inr (.inr rfl))))) (snda_cons (SndE.d (snd_int)) snda_nil)))) snda_nil)))) (snda_cons (SndE.d (snd_tup (snda_cons (SndE.d (snd_tup (snda_cons (SndE.d (snd2 opf_rep (SndE.d (snd_tup (snda_cons (SndE.d (snd_int)) snda_nil))) (SndE.d (snd2 opf_add (SndE.d (snd_name (i := 19) (fun _ => pe_var rfl (by first | exact .inl rfl | exact .inr (.inl rfl) | exact .inr (.inr rfl))))) (SndE.d (snd_int)) (fun _ _ _ pa pb => pe_op op_add pa pb))) (fun _ _ _ pa pb => pe_op op_repN pa pb))) (snda_cons (SndE.d (snd_int)) snda_nil)))) snda_nil))) (snda_cons (SndE.d (snd_tup (snda_cons (SndE.d (snd_tup (snda_cons (SndE.d (snd_name (i := 5) (fun _ => pe_var rfl (by first | exact .inl rfl | exact .inr (.inl rfl) | exact .inr (.inr rfl))))) snda_nil))) snda_nil))) (snda_cons (SndE.d (snd_int)) (snda_cons (SndE.d (snd_tup (snda_cons (SndE.d (snd_tup (snda_cons (SndE.d (snd_b callf_tup (snda_cons (SndE.d (snd_repL (snd_lst (snda_cons (SndE.d (snd1 unf_neg (SndE.d (snd_int)) (fun _ _ pa => pe_un un_neg pa))) snda_nil)) (SndE.d (snd_name (i := 19) (fun _ => pe_var rfl (by first | exact .inl rfl | exact .inr (.inl rfl) | exact .inr (.inr rfl))))) (fun _ _ _ pa pb => pe_op op_rep pa pb))) snda_nil) (fun _ _ pa => pe_callTy call_tupA (by rfl) g_tuple PyProof.Rows.boot_tuple pa))) (snda_cons (SndE.d (snd_int)) snda_nil)))) snda_nil))) (snda_cons (SndE.d (snd_tup (snda_cons (SndE.d (snd_tup (snda_cons (SndE.d (snd_str)) (snda_cons (SndE.d (snd_int)) snda_nil)))) snda_nil))) (snda_cons (SndE.d (snd_tup (snda_cons (SndE.d (snd_tup (snda_cons (SndE.d (snd_name (i := 5) (fun _ => pe_var rfl (by first | exact .inl rfl | exact .inr (.inl rfl) | exact .inr (.inr rfl))))) (snda_cons (SndE.d (snd_str)) snda_nil)))) snda_nil))) snda_nil))))))))) (fun _ _ pe => ps_set sc.nd rfl (.inl rfl) pe))
    (snds_cons (snds_asg (sndg_tup (fun _ => rfl) (fun _ => rfl) (sndgs_cons (sndg_name (i := 16) (fun _ => pg_name sc.nd rfl (.inr rfl))) (sndgs_cons (sndg_name (i := 18) (fun _ => pg_name sc.nd rfl (.inr rfl))) (sndgs_nil)))) (SndE.d (snd_tup (snda_cons (SndE.d (snd2L (i := 15) opf_ix (fun _ => pe_var rfl (by first | exact .inl rfl | exact .inr (.inl rfl) | exact .inr (.inr rfl))) (SndE.d (snd_callIO (i := 1) (F := F__law_draw) (fun _ => pe_var rfl (by first | exact .inl rfl | exact .inr (.inl rfl) | exact .inr (.inr rfl))) (snda_cons (SndE.d (snd_bn (i := 15) (fun _ _ _ _ _ ra qa na => lenA_of ra qa na) (fun _ => pe_var rfl (by first | exact .inl rfl | exact .inr (.inl rfl) | exact .inr (.inr rfl))) (fun _ _ pa => pe_callB call_lenA (by rfl) g_len boot_len pa))) snda_nil) (fun j _ pa => pe_callS C__law_draw (hr.mono (by decide)) (by rfl) D__law_draw.m D__law_draw.k D__law_draw.b (fun σ => passAt cxF_takes σ) pa) (lena_cons lena_nil))) (fun _ _ _ pa pb => pe_ix ix_seq pa pb (fun _ _ => rfl)))) (snda_cons (SndE.d (snd2 opf_ix (SndE.d (snd_lst (snda_cons (SndE.d (snd_int)) (snda_cons (SndE.d (snd_int)) (snda_cons (SndE.d (snd1 unf_neg (SndE.d (snd_int)) (fun _ _ pa => pe_un un_neg pa))) (snda_cons (SndE.d (snd_str)) snda_nil)))))) (SndE.d (snd_callIO (i := 1) (F := F__law_draw) (fun _ => pe_var rfl (by first | exact .inl rfl | exact .inr (.inl rfl) | exact .inr (.inr rfl))) (snda_cons (SndE.d (snd_int)) snda_nil) (fun j _ pa => pe_callS C__law_draw (hr.mono (by decide)) (by rfl) D__law_draw.m D__law_draw.k D__law_draw.b (fun σ => passAt cxF_takes σ) pa) (lena_cons lena_nil))) (fun _ _ _ pa pb => pe_ix ix_seq pa pb (fun _ _ => rfl)))) snda_nil)))) (by intro _; rfl) (by intro _; rfl))
    (snds_cons (snds_if (sndT_cmp opf_neD (fun _ => (op_neD (roomU64 hr))) (SndE.d (snd_lamTold (k := 5) (scope := (⟨.function, [("bad", .free), ("n", .free), ("elementary", .globalImplicit)], false, false, []⟩ : Scope)) (fun E => snd_call (F := F_elementary) (snda_cons (SndE.d (snd_name (i := 19) (fun _ => pe_var rfl (by first | exact .inl rfl | exact .inr (.inl rfl) | exact .inr (.inr rfl))))) (snda_cons (SndE.d (snd_name (i := 16) (fun _ => pe_var rfl (by first | exact .inl rfl | exact .inr (.inl rfl) | exact .inr (.inr rfl))))) snda_nil)) (fun j _ pa => pe_callS C_elementary ((lamF_room (i := j)).mono (by decide)) (by rfl) D_elementary.m D_elementary.k D_elementary.b (fun σ => passAt lamF_takes σ) pa) (lena_cons (lena_cons lena_nil))) (fun _ _ hb => pe_lamcall (k := 5) (by rfl) D__law_told.m D__law_told.k lk_t hcg_t D__law_told.b sc__law_told rfl (.inl rfl) (toldR_gives C__law_read (hr.mono (by decide)) D__law_read.k D__law_read.b D__law_read.m X_RootError.m X_OutOfRange.m g_isinstance rfl rfl rfl rfl rfl rfl (by decide) (by decide) (by decide) (by decide) (by decide) (by decide)) TB rfl hmT hmu (hr.mono (by decide)) (lamS_by (sc := defScope s_law) (scope := (⟨.function, [("bad", .free), ("n", .free), ("elementary", .globalImplicit)], false, false, []⟩ : Scope)) (by decide +kernel)) rfl (fun _ _ _ _ _ => rfl) hb) hcls)) (SndE.d (snd_tup (snda_cons (SndE.d (snd_int)) (snda_cons (SndE.d (snd_str)) snda_nil)))) rfl)
    (snds_one (snds_ret (snd_bool))) (snds_nil))
    (snds_cons (snds_if (sndT_t (SndW.t (sndW_or (sndT_cmp opf_neS (fun _ => op_ne) (SndE.d (snd_bn (i := 9) (fun _ _ _ _ _ ra qa na => lenA_of ra qa na) (fun _ => pe_var rfl (by first | exact .inl rfl | exact .inr (.inl rfl) | exact .inr (.inr rfl))) (fun _ _ pa => pe_callB call_lenA (by rfl) g_len boot_len pa))) (SndE.d (snd2 opf_add (SndE.d (snd_name (i := 19) (fun _ => pe_var rfl (by first | exact .inl rfl | exact .inr (.inl rfl) | exact .inr (.inr rfl))))) (SndE.d (snd_int)) (fun _ _ _ pa pb => pe_op op_add pa pb))) rfl) (sndW_or1 (sndT_cmp opf_neD (fun _ => (op_neD (roomU64 hr))) (SndE.d (snd_lamTold (k := 5) (scope := (⟨.function, [("many", .free), ("elementary", .globalImplicit)], false, false, []⟩ : Scope)) (fun E => snd_call (F := F_elementary) (snda_cons (SndE.d (snd_name (i := 18) (fun _ => pe_var rfl (by first | exact .inl rfl | exact .inr (.inl rfl) | exact .inr (.inr rfl))))) (snda_cons (SndE.d (snd_tup snda_nil)) snda_nil)) (fun j _ pa => pe_callS C_elementary ((lamF_room (i := j)).mono (by decide)) (by rfl) D_elementary.m D_elementary.k D_elementary.b (fun σ => passAt lamF_takes σ) pa) (lena_cons (lena_cons lena_nil))) (fun _ _ hb => pe_lamcall (k := 5) (by rfl) D__law_told.m D__law_told.k lk_t hcg_t D__law_told.b sc__law_told rfl (.inl rfl) (toldR_gives C__law_read (hr.mono (by decide)) D__law_read.k D__law_read.b D__law_read.m X_RootError.m X_OutOfRange.m g_isinstance rfl rfl rfl rfl rfl rfl (by decide) (by decide) (by decide) (by decide) (by decide) (by decide)) TB rfl hmT hmu (hr.mono (by decide)) (lamS_by (sc := defScope s_law) (scope := (⟨.function, [("many", .free), ("elementary", .globalImplicit)], false, false, []⟩ : Scope)) (by decide +kernel)) rfl (fun _ _ _ _ _ => rfl) hb) hcls)) (SndE.d (snd_tup (snda_cons (SndE.d (snd_int)) (snda_cons (SndE.d (snd_str)) snda_nil)))) rfl)) testF_2)))
    (snds_one (snds_ret (snd_bool))) (snds_nil))
    (snds_cons (snds_set (i := 17) (snd_b callf_tup (snda_cons (SndE.d (snd_bo callo_sort (snda_cons (SndE.d (snd_lcE (scope := (⟨.function, [(".0", .local), ("at", .cell), ("tuple", .globalImplicit), ("range", .globalImplicit), ("n", .free)], false, false, []⟩ : Scope)) (own := [("at", 24)]) (sndi_rng1 (fun _ => by rfl) (fun _ => g_range) (snda_cons (SndE.d (snd_name (i := 19) (fun _ => pe_var rfl (by first | exact .inl rfl | exact .inr (.inl rfl) | exact .inr (.inr rfl))))) snda_nil)) (sndg_name (i := 24) (fun _ => pg_name sc.nd rfl (.inr rfl))) snd_pts0 (SndE.d (snd_tup (snda_cons (SndE.d (snd_b callf_tup (snda_cons (SndE.d (snd_lcE (own := [("i", 25)]) (sndi_rng1 (fun _ => by rfl) (fun _ => g_range) (snda_cons (SndE.d (snd_name (i := 19) (fun _ => pe_var rfl (by first | exact .inl rfl | exact .inr (.inl rfl) | exact .inr (.inr rfl))))) snda_nil)) (sndg_name (i := 25) (fun _ => pg_name sc.nd rfl (.inl rfl))) snd_pts0 (SndE.d (snd2 opf_mul (SndE.d (snd_int)) (SndE.d (snd_b callf_int (snda_cons (SndE.d (snd2 opf_eqS (SndE.d (snd_name (i := 25) (fun _ => pe_var rfl (by first | exact .inl rfl | exact .inr (.inl rfl) | exact .inr (.inr rfl))))) (SndE.d (snd_name (i := 24) (fun _ => pe_var rfl (by first | exact .inl rfl | exact .inr (.inl rfl) | exact .inr (.inr rfl))))) (fun _ _ _ pa pb => pe_cmpR op_eq pa pb rfl))) snda_nil) (fun _ _ pa => pe_callTy call_int1 (by rfl) g_int PyProof.Rows.boot_int pa))) (fun _ _ _ pa pb => pe_op op_mulX pa pb))) (by decide) (fun _ _ _ _ _ pi pg pt pe => pe_lc rfl sc.nd pi (blkOk_by (N := ["script", "box", "turn", "told", "again", "spot", "left", "j", "sums", "names", "k", "units", "part", "one", "even", "wrong", "bad", "high", "many", "n", "odd", "powers", "whole", "other", "at", "i"]) (sc := (⟨.function, [(".0", .local), ("at", .cell), ("tuple", .globalImplicit), ("range", .globalImplicit), ("n", .cell)], false, false, []⟩ : Scope)) (own := [("i", 25)]) (by decide +kernel)) pg pt pe))) snda_nil) (fun _ _ pa => pe_callTy call_tupA (by rfl) g_tuple PyProof.Rows.boot_tuple pa))) (snda_cons (SndE.d (snd_int)) snda_nil)))) (by decide) (fun _ _ _ _ _ pi pg pt pe => pe_lc rfl sc.nd pi (blkOk_by (N := ["script", "box", "turn", "told", "again", "spot", "left", "j", "sums", "names", "k", "units", "part", "one", "even", "wrong", "bad", "high", "many", "n", "odd", "powers", "whole", "other", "at", "i"]) (sc := defScope s_law) (own := [("at", 24)]) (by decide +kernel)) pg pt pe))) snda_nil) (fun _ _ pa => pe_callB (call_sortD (roomU64 hr)) (by rfl) g_sorted PyProof.Rows.boot_sorted pa))) snda_nil) (fun _ _ pa => pe_callTy call_tupA (by rfl) g_tuple PyProof.Rows.boot_tuple pa)) (fun _ _ pe => ps_set sc.nd rfl (.inr rfl) pe))
    (snds_one (snds_if (sndT_cmp opf_neD (fun _ => (op_neD (roomU64 hr))) (SndE.d (snd_lamTold (k := 5) (scope := (⟨.function, [("high", .free), ("n", .free), ("elementary", .globalImplicit)], false, false, []⟩ : Scope)) (fun E => snd_call (F := F_elementary) (snda_cons (SndE.d (snd_name (i := 19) (fun _ => pe_var rfl (by first | exact .inl rfl | exact .inr (.inl rfl) | exact .inr (.inr rfl))))) (snda_cons (SndE.d (snd_name (i := 17) (fun _ => pe_var rfl (by first | exact .inl rfl | exact .inr (.inl rfl) | exact .inr (.inr rfl))))) snda_nil)) (fun j _ pa => pe_callS C_elementary ((lamF_room (i := j)).mono (by decide)) (by rfl) D_elementary.m D_elementary.k D_elementary.b (fun σ => passAt lamF_takes σ) pa) (lena_cons (lena_cons lena_nil))) (fun _ _ hb => pe_lamcall (k := 5) (by rfl) D__law_told.m D__law_told.k lk_t hcg_t D__law_told.b sc__law_told rfl (.inl rfl) (toldR_gives C__law_read (hr.mono (by decide)) D__law_read.k D__law_read.b D__law_read.m X_RootError.m X_OutOfRange.m g_isinstance rfl rfl rfl rfl rfl rfl (by decide) (by decide) (by decide) (by decide) (by decide) (by decide)) TB rfl hmT hmu (hr.mono (by decide)) (lamS_by (sc := defScope s_law) (scope := (⟨.function, [("high", .free), ("n", .free), ("elementary", .globalImplicit)], false, false, []⟩ : Scope)) (by decide +kernel)) rfl (fun _ _ _ _ _ => rfl) hb) hcls)) (SndE.d (snd_tup (snda_cons (SndE.d (snd_int)) (snda_cons (SndE.d (snd_str)) snda_nil)))) rfl)
    (snds_one (snds_ret (snd_bool))) (snds_nil))))))))))))))))))))))
    (snds_one (snds_ret (snd_bool))))
end
end K22
set_option Elab.async false
set_option linter.all false
set_option maxRecDepth 100000
set_option exponentiation.threshold 5000
namespace K22
open PySem PySem.Spec PyProof.Rows L2 LamX L3 EP EL
theorem F_el_eq : K22.F_elementary = EL.F_elementary := rfl
theorem keys_ok (p : Pol) : L3.keysOf (dP p) = some ((keys p).map tM) := by
  show some ((dL p).map (·.1)) = _
  unfold dL keys
  rw [List.map_map, List.map_map]
  rfl
theorem gDget_ok {p : Pol} {m : Mon} {c : Int} (ne : NeP p) (nd : (keys p).Nodup) (h : (m, c) ∈ p) : gDget (dP p) (tM m) = some (.int c) := by
  show (keyOfT (tM m)).bind (dGet (dL p)) = _
  rw [keyOfT_tM (ne _ h), Option.bind_some, dGet_dL ne, getP_of_mem nd h]
  rfl
theorem keys_map_tM (p : Pol) : (keys p).map tM = p.map fun q => tM q.1 := by unfold keys; rw [List.map_map]; rfl
/-- _law_clean -/
theorem F_clean_ok {p : Pol} (ne : NeP p) (nd : (keys p).Nodup) (hl : p.length ≤ 1000) : F__law_clean [dP p] = .ok (.ow (dP (cleanP p))) := by
  show outF (ev__law_clean [.fz (dP p), .emp]) = _
  unfold ev__law_clean
  have c : evComp (evI L3.keysOf (evName 0)) ([(("spot" : Str), 1)].map (·.2)) (stName 1) (ev2 gNeS (ev2L gDget 0 (evName 1)) (evC (.int 0))) (evTup (evCons (evName 1) (evCons (ev2L gDget 0 (evName 1)) evNil))) [.fz (dP p), .emp] = .ok (.ow (.list (tP (cleanP p)))) [.fz (dP p), .emp] := by
    have h0 : evI L3.keysOf (evName 0) [.fz (dP p), .emp] = .ok (p.map fun q => tM q.1) [.fz (dP p), .emp] := by
      rw [← keys_map_tM]
      exact evI_ok (v := .fz (dP p)) rfl (keys_ok p)
    refine evComp_A (fun q => decide (q.2 ≠ 0)) pD h0 (by omega) (fun q hq => ?_) rfl rfl
    have g1 := gDget_ok ne nd (m := q.1) (c := q.2) hq
    have g2 : ev2L gDget 0 (evName 1) [.fz (dP p), .fz (tM q.1)] = .ok (.fz (.int q.2)) [.fz (dP p), .fz (tM q.1)] := ev2L_ok (d0 := dP p) (d1 := dP p) (w := .fz (tM q.1)) rfl rfl rfl g1
    have g3 : gNeS (.int q.2) (.int 0) = some (.bool (decide (q.2 ≠ 0))) := by
      show some (PyData.bool (!decide (q.2 = 0))) = _
      by_cases z : q.2 = 0
      · rw [decide_eq_true z, decide_eq_false (by simp [z])]; rfl
      · rw [decide_eq_false z, decide_eq_true z]; rfl
    refine ⟨[.fz (dP p), .fz (tM q.1)], [.fz (dP p), .fz (tM q.1)], rfl, ev2_ok (w := .fz (.int 0)) g2 rfl g3, fun _ => rfl, fun _ => ⟨[.fz (dP p), .fz (tM q.1)], .fz (pD q), ?_, rfl, rfl⟩⟩
    exact evTup_ok (evCons_ok (v := .fz (tM q.1)) rfl (evCons_ok g2 evNil_ok)) (by simp)
  have d : gDict [.list (tP (cleanP p))] = some (dP (cleanP p)) := dictL_ok (fun q hq => ne q (List.mem_filter.mp hq).1) (keys_clean nd)
  rw [evRet_ok (evBO_ok (evCons_ok c evNil_ok) d)]
  rfl
/-- _law_plus -/
def addAll (a b : Pol) : Pol := b.foldl (fun acc q => addTo acc q.1 q.2) a
def plusP (a b : Pol) : Pol := cleanP (addAll a b)
theorem cf_addAll : ∀ {b a : Pol} {k : Mon}, cf (addAll a b) k = cf a k + sumL b fun q => if q.1 = k then q.2 else 0
  | [], a, k => by unfold addAll; rw [List.foldl_nil, sumL_nil]; omega
  | q :: b, a, k => by
    have := cf_addAll (b := b) (a := addTo a q.1 q.2) (k := k)
    unfold addAll at *
    rw [List.foldl_cons, this, cf_add, sumL_cons]
    by_cases h : k = q.1
    · rw [if_pos h, if_pos h.symm]; omega
    · rw [if_neg h, if_neg fun z => h z.symm]; omega
theorem nodup_addAll : ∀ {b a : Pol}, (keys a).Nodup → (keys (addAll a b)).Nodup
  | [], a, h => h
  | q :: b, a, h => by
    unfold addAll
    rw [List.foldl_cons]
    exact nodup_addAll (b := b) (nodup_add h)
theorem box_addAll {n m : Nat} : ∀ {b a : Pol}, BoxP n m a → BoxP n m b → BoxP n m (addAll a b)
  | [], a, h, _ => h
  | q :: b, a, h, h2 => by
    unfold addAll
    rw [List.foldl_cons]
    exact box_addAll (b := b) (h.put (h2 q List.mem_cons_self)) fun q hq => h2 q (List.mem_cons_of_mem _ hq)
theorem cf_plus {a b : Pol} (na : (keys a).Nodup) (nb : (keys b).Nodup) (k : Mon) : cf (plusP a b) k = cf a k + cf b k := by
  unfold plusP
  rw [cf_clean (nodup_addAll na), cf_addAll, sumL_one nb]
theorem nodup_plus {a b : Pol} (na : (keys a).Nodup) : (keys (plusP a b)).Nodup := keys_clean (nodup_addAll na)
theorem box_plus {n m : Nat} {a b : Pol} (ha : BoxP n m a) (hb : BoxP n m b) : BoxP n m (plusP a b) := (box_addAll ha hb).clean
theorem loopPlus {n : Nat} (hn : n ∈ [1, 2, 3, 4]) {d0 : PyData} {b0 : Pol} (nb0 : (keys b0).Nodup) (bb0 : BoxP n 8 b0) : ∀ {b a : Pol} {x3 : Sl}, (∀ q ∈ b, q ∈ b0) → BoxP n 8 b → BoxP n 8 a → (keys a).Nodup → ∃ y3,
    evLoop (stName 3) (evDPut 2 (evName 3) (ev2 gAdd (evGet2 2 (evName 3) (evC (.int 0))) (ev2L gDget 1 (evName 3)))) (b.map fun q => tM q.1) [.fz d0, .fz (dP b0), .ow (dP a), x3] = .nx [.fz d0, .fz (dP b0), .ow (dP (addAll a b)), y3]
  | [], a, x3, _, _, _, _ => ⟨x3, rfl⟩
  | q :: b, a, x3, hs, bb, ba, na => by
    have bk := bb q List.mem_cons_self
    have g1 : keyOfT (tM q.1) = some (kM q.1) := keyOfT_tM (ne_of_len bk.1 hn)
    have la := ba.length hn na
    have st : evDPut 2 (evName 3) (ev2 gAdd (evGet2 2 (evName 3) (evC (.int 0))) (ev2L gDget 1 (evName 3))) [.fz d0, .fz (dP b0), .ow (dP a), .fz (tM q.1)] = .nx [.fz d0, .fz (dP b0), .ow (dP (addTo a q.1 q.2)), .fz (tM q.1)] := by
      have g2 : dGet (dL a) (kM q.1) = (getP a q.1).map .int := dGet_dL (ba.ne hn)
      have g3 := gDget_ok (bb0.ne hn) nb0 (m := q.1) (c := q.2) (hs q List.mem_cons_self)
      have g4 : (dL a).length < 16777216 := by rw [dL_length]; omega
      have g5 : gAdd (.int (cf a q.1)) (.int q.2) = some (.int (cf a q.1 + q.2)) := rfl
      have g6 : dPut (dL a) (kM q.1) (.int (cf a q.1 + q.2)) = dL (addTo a q.1 q.2) := dPut_dL (ba.ne hn)
      simp only [evDPut, ev2, ev2L, evGet2, evName, evC, R.bnd, R.bndO, R.lift, slD, List.getElem?_cons_zero, List.getElem?_cons_succ, g1, g2, g3, getD_cf, g5, g4, g6, if_true, List.set_cons_zero, List.set_cons_succ]
    obtain ⟨y3, h⟩ := loopPlus hn (d0 := d0) nb0 bb0 (b := b) (a := addTo a q.1 q.2) (x3 := .fz (tM q.1)) (fun q hq => hs q (List.mem_cons_of_mem _ hq)) (fun q hq => bb q (List.mem_cons_of_mem _ hq)) (ba.put bk) (nodup_add na)
    exact ⟨y3, (evLoop_step (e1 := [.fz d0, .fz (dP b0), .ow (dP a), .fz (tM q.1)]) rfl st).trans h⟩
theorem F_plus_ok {n : Nat} (hn : n ∈ [1, 2, 3, 4]) {a b : Pol} (ba : BoxP n 8 a) (bb : BoxP n 8 b) (na : (keys a).Nodup) (nb : (keys b).Nodup) : F__law_plus [dP a, dP b] = .ok (.ow (dP (plusP a b))) := by
  show outF (ev__law_plus [.fz (dP a), .fz (dP b), .emp, .emp]) = _
  unfold ev__law_plus
  refine out_seq (e1 := [.fz (dP a), .fz (dP b), .ow (dP a), .emp]) (evSet_ok (v := .ow (dP a)) (evBO_ok (evCons_ok (v := .fz (dP a)) rfl evNil_ok) (dictD_ok hn ba na)) rfl) ?_
  obtain ⟨y3, h⟩ := loopPlus hn (d0 := dP a) nb bb (b := b) (a := a) (x3 := .emp) (fun _ h => h) bb ba na
  have h0 : evI L3.keysOf (evName 1) [.fz (dP a), .fz (dP b), .ow (dP a), .emp] = .ok (b.map fun q => tM q.1) [.fz (dP a), .fz (dP b), .ow (dP a), .emp] := by
    rw [← keys_map_tM]
    exact evI_ok (v := .fz (dP b)) rfl (keys_ok b)
  refine out_seq (run_for h0 h) ?_
  have bx := box_addAll ba bb
  have nd := nodup_addAll (b := b) na
  have g : evCons (evName 2) evNil [.fz (dP a), .fz (dP b), .ow (dP (addAll a b)), y3] = .ok [dP (addAll a b)] [.fz (dP a), .fz (dP b), .fz (dP (addAll a b)), y3] := rfl
  exact out_ret (evCall_ok g (F_clean_ok (bx.ne hn) nd (by have := bx.length hn nd; omega)))
/-- _law_times -/
theorem times_in {a0 b0 : Pol} {m : Mon} {c : Int} {n : Nat} (hn : n ∈ [1, 2, 3, 4]) (na0 : (keys a0).Nodup) (nea0 : NeP a0) (nb0 : (keys b0).Nodup) (neb0 : NeP b0) (hma : (m, c) ∈ a0) {b : Pol} (hs : ∀ q ∈ b, q ∈ b0) (hm : ∀ r ∈ b, InBox n 8 (addM m r.1)) (lm : m.length = n) (hc : Sm c) (hb : ∀ r ∈ b, Sm r.2) {acc : Pol} (nd : (keys acc).Nodup) (bx : BoxP n 8 acc) {x4 x5 x6 x7 : Sl} :
    ∃ y4 y5 y6 y7, evLoop (stName 4) (evSeq (evSet 5 (evB gTup (evCons (evComp (evIA zipTOf (evCons (evName 3) (evCons (evName 4) evNil))) ([(("a" : Str), 6), (("b" : Str), 7)].map (·.2)) (stTup 2 (stCons (stName 6) (stCons (stName 7) stNil))) (evC (.bool true)) (ev2 gAdd (evName 6) (evName 7))) evNil)))
      (evDPut 2 (evName 5) (ev2 gAdd (evGet2 2 (evName 5) (evC (.int 0))) (ev2 gMul (ev2L gDget 0 (evName 3)) (ev2L gDget 1 (evName 4)))))) (b.map fun q => tM q.1) [.fz (dP a0), .fz (dP b0), .ow (dP acc), .fz (tM m), x4, x5, x6, x7] =
      .nx [.fz (dP a0), .fz (dP b0), .ow (dP (mulIn b (m, c) acc)), .fz (tM m), y4, y5, y6, y7] := by
  induction b generalizing acc x4 x5 x6 x7 with
  | nil => exact ⟨_, _, _, _, rfl⟩
  | cons r b ih =>
    have bk := hm r List.mem_cons_self
    have ne := ne_of_len bk.1 hn
    have hl := bx.length hn nd
    have i1 : evSet 5 (evB gTup (evCons (evComp (evIA zipTOf (evCons (evName 3) (evCons (evName 4) evNil))) ([(("a" : Str), 6), (("b" : Str), 7)].map (·.2)) (stTup 2 (stCons (stName 6) (stCons (stName 7) stNil))) (evC (.bool true)) (ev2 gAdd (evName 6) (evName 7))) evNil)) [.fz (dP a0), .fz (dP b0), .ow (dP acc), .fz (tM m), .fz (tM r.1), x5, x6, x7] = .nx [.fz (dP a0), .fz (dP b0), .ow (dP acc), .fz (tM m), .fz (tM r.1), .fz (tM (addM m r.1)), keepFz (some x6), keepFz (some x7)] := by
      have cc : evComp (evIA zipTOf (evCons (evName 3) (evCons (evName 4) evNil))) ([(("a" : Str), 6), (("b" : Str), 7)].map (·.2)) (stTup 2 (stCons (stName 6) (stCons (stName 7) stNil))) (evC (.bool true)) (ev2 gAdd (evName 6) (evName 7)) [.fz (dP a0), .fz (dP b0), .ow (dP acc), .fz (tM m), .fz (tM r.1), x5, x6, x7] = .ok (.ow (.list ((addM m r.1).map .int))) [.fz (dP a0), .fz (dP b0), .ow (dP acc), .fz (tM m), .fz (tM r.1), x5, keepFz (some x6), keepFz (some x7)] := by
        have h0 : evIA zipTOf (evCons (evName 3) (evCons (evName 4) evNil)) [.fz (dP a0), .fz (dP b0), .ow (dP acc), .fz (tM m), .fz (tM r.1), x5, x6, x7] = .ok ((m.zip r.1).map fun p => .tuple [.int p.1, .int p.2]) [.fz (dP a0), .fz (dP b0), .ow (dP acc), .fz (tM m), .fz (tM r.1), x5, x6, x7] := evIA_ok (ds := [tM m, tM r.1]) rfl (zipT_ok m r.1)
        refine evComp_M (fun p : Int × Int => .int (p.1 + p.2)) h0 (by rw [List.length_zip, lm]; have := nz4 hn; omega) (fun p hp => ?_) rfl ?_
        · exact ⟨_, _, .fz (.int (p.1 + p.2)), rfl, rfl, rfl, rfl⟩
        · have := zipSum m r.1
          rw [List.map_map] at this
          unfold tM at this
          exact PyData.tuple.inj this
      exact evSet_ok (v := .fz (tM (addM m r.1))) (evB_ok (evCons_ok cc evNil_ok) rfl) rfl
    generalize keepFz (some x6) = z6 at i1
    generalize keepFz (some x7) = z7 at i1
    have i2 : evDPut 2 (evName 5) (ev2 gAdd (evGet2 2 (evName 5) (evC (.int 0))) (ev2 gMul (ev2L gDget 0 (evName 3)) (ev2L gDget 1 (evName 4)))) [.fz (dP a0), .fz (dP b0), .ow (dP acc), .fz (tM m), .fz (tM r.1), .fz (tM (addM m r.1)), z6, z7] = .nx [.fz (dP a0), .fz (dP b0), .ow (dP (addTo acc (addM m r.1) (c * r.2))), .fz (tM m), .fz (tM r.1), .fz (tM (addM m r.1)), z6, z7] := by
      have g1 : keyOfT (tM (addM m r.1)) = some (kM (addM m r.1)) := keyOfT_tM ne
      have g2 : dGet (dL acc) (kM (addM m r.1)) = (getP acc (addM m r.1)).map .int := dGet_dL (bx.ne hn)
      have g3 := mul_ok hc (hb r List.mem_cons_self)
      have g4 : (dL acc).length < 16777216 := by rw [dL_length]; omega
      have g5 : gAdd (.int (cf acc (addM m r.1))) (.int (c * r.2)) = some (.int (cf acc (addM m r.1) + c * r.2)) := rfl
      have g6 : dPut (dL acc) (kM (addM m r.1)) (.int (cf acc (addM m r.1) + c * r.2)) = dL (addTo acc (addM m r.1) (c * r.2)) := dPut_dL (bx.ne hn)
      have g7 := gDget_ok nea0 na0 hma
      have g8 := gDget_ok neb0 nb0 (m := r.1) (c := r.2) (hs r List.mem_cons_self)
      simp only [evDPut, ev2, ev2L, evGet2, evName, evC, R.bnd, R.bndO, R.lift, slD, List.getElem?_cons_zero, List.getElem?_cons_succ, g7, g8, g1, g2, g3, getD_cf, g5, g4, g6, if_true, List.set_cons_zero, List.set_cons_succ]
    obtain ⟨y4, y5, y6, y7, h⟩ := ih (fun q hq => hs q (List.mem_cons_of_mem _ hq)) (fun r hr => hm r (List.mem_cons_of_mem _ hr)) (fun r hr => hb r (List.mem_cons_of_mem _ hr)) (acc := addTo acc (addM m r.1) (c * r.2)) (nodup_add nd) (bx.put bk) (x4 := .fz (tM r.1)) (x5 := .fz (tM (addM m r.1))) (x6 := z6) (x7 := z7)
    refine ⟨y4, y5, y6, y7, ?_⟩
    rw [List.map_cons]
    exact (evLoop_step (e1 := [.fz (dP a0), .fz (dP b0), .ow (dP acc), .fz (tM m), .fz (tM r.1), x5, x6, x7]) rfl ((evSeq_nx i1).trans i2)).trans h
theorem times_out {a0 b0 : Pol} {n : Nat} (hn : n ∈ [1, 2, 3, 4]) (na0 : (keys a0).Nodup) (nea0 : NeP a0) (nb0 : (keys b0).Nodup) (neb0 : NeP b0) {a : Pol} (hs : ∀ q ∈ a, q ∈ a0) (hm : ∀ q ∈ a, ∀ r ∈ b0, InBox n 8 (addM q.1 r.1)) (la : ∀ q ∈ a, q.1.length = n) (ha : ∀ r ∈ a, Sm r.2) (hb : ∀ r ∈ b0, Sm r.2) {acc : Pol} (nd : (keys acc).Nodup) (bx : BoxP n 8 acc) {x3 x4 x5 x6 x7 : Sl} :
    ∃ y3 y4 y5 y6 y7, evLoop (stName 3) (evFor (evI L3.keysOf (evName 1)) (stName 4) (evSeq (evSet 5 (evB gTup (evCons (evComp (evIA zipTOf (evCons (evName 3) (evCons (evName 4) evNil))) ([(("a" : Str), 6), (("b" : Str), 7)].map (·.2)) (stTup 2 (stCons (stName 6) (stCons (stName 7) stNil))) (evC (.bool true)) (ev2 gAdd (evName 6) (evName 7))) evNil)))
      (evDPut 2 (evName 5) (ev2 gAdd (evGet2 2 (evName 5) (evC (.int 0))) (ev2 gMul (ev2L gDget 0 (evName 3)) (ev2L gDget 1 (evName 4))))))) (a.map fun q => tM q.1) [.fz (dP a0), .fz (dP b0), .ow (dP acc), x3, x4, x5, x6, x7] =
      .nx [.fz (dP a0), .fz (dP b0), .ow (dP (a.foldl (fun acc q => mulIn b0 q acc) acc)), y3, y4, y5, y6, y7] := by
  induction a generalizing acc x3 x4 x5 x6 x7 with
  | nil => exact ⟨_, _, _, _, _, rfl⟩
  | cons q a ih =>
    obtain ⟨y4, y5, y6, y7, h⟩ := times_in hn na0 nea0 nb0 neb0 (m := q.1) (c := q.2) (hs q List.mem_cons_self) (b := b0) (fun _ h => h) (hm q List.mem_cons_self) (la q List.mem_cons_self) (ha q List.mem_cons_self) hb nd bx (x4 := x4) (x5 := x5) (x6 := x6) (x7 := x7)
    obtain ⟨z3, z4, z5, z6, z7, h2⟩ := ih (fun q hq => hs q (List.mem_cons_of_mem _ hq)) (fun q hq => hm q (List.mem_cons_of_mem _ hq)) (fun q hq => la q (List.mem_cons_of_mem _ hq)) (fun q hq => ha q (List.mem_cons_of_mem _ hq)) (nodup_mulIn nd) (mulIn_box (hm q List.mem_cons_self) bx) (x3 := .fz (tM q.1)) (x4 := y4) (x5 := y5) (x6 := y6) (x7 := y7)
    refine ⟨z3, z4, z5, z6, z7, ?_⟩
    have h0 : evI L3.keysOf (evName 1) [.fz (dP a0), .fz (dP b0), .ow (dP acc), .fz (tM q.1), x4, x5, x6, x7] = .ok (b0.map fun q => tM q.1) [.fz (dP a0), .fz (dP b0), .ow (dP acc), .fz (tM q.1), x4, x5, x6, x7] := by
      rw [← keys_map_tM]
      exact evI_ok (v := .fz (dP b0)) rfl (keys_ok b0)
    rw [List.map_cons]
    exact (evLoop_step (e1 := [.fz (dP a0), .fz (dP b0), .ow (dP acc), .fz (tM q.1), x4, x5, x6, x7]) rfl (run_for h0 h)).trans h2
theorem mulP_box {n m : Nat} {a b : Pol} (hm : ∀ q ∈ a, ∀ r ∈ b, InBox n m (addM q.1 r.1)) : BoxP n m (mulP a b) := mem_mulP (P := InBox n m) hm
theorem F_times_ok {n : Nat} (hn : n ∈ [1, 2, 3, 4]) {a b : Pol} (na : (keys a).Nodup) (nb : (keys b).Nodup) (hm : ∀ q ∈ a, ∀ r ∈ b, InBox n 8 (addM q.1 r.1)) (la : ∀ q ∈ a, q.1.length = n) (lb : ∀ r ∈ b, r.1.length = n) (ha : ∀ r ∈ a, Sm r.2) (hb : ∀ r ∈ b, Sm r.2) : F__law_times [dP a, dP b] = .ok (.ow (dP (cleanP (mulP a b)))) := by
  have nea : NeP a := fun q hq => ne_of_len (la q hq) hn
  have neb : NeP b := fun q hq => ne_of_len (lb q hq) hn
  obtain ⟨y3, y4, y5, y6, y7, h⟩ := times_out hn na nea nb neb (a := a) (fun _ h => h) hm la ha hb (acc := []) List.nodup_nil BoxP.nil (x3 := .emp) (x4 := .emp) (x5 := .emp) (x6 := .emp) (x7 := .emp)
  show outF (ev__law_times [.fz (dP a), .fz (dP b), .emp, .emp, .emp, .emp, .emp, .emp]) = _
  unfold ev__law_times
  refine out_seq (e1 := [.fz (dP a), .fz (dP b), .ow (dP []), .emp, .emp, .emp, .emp, .emp]) rfl ?_
  have h0 : evI L3.keysOf (evName 0) [.fz (dP a), .fz (dP b), .ow (dP []), .emp, .emp, .emp, .emp, .emp] = .ok (a.map fun q => tM q.1) [.fz (dP a), .fz (dP b), .ow (dP []), .emp, .emp, .emp, .emp, .emp] := by
    rw [← keys_map_tM]
    exact evI_ok (v := .fz (dP a)) rfl (keys_ok a)
  refine out_seq (run_for h0 h) ?_
  have bx := mulP_box hm
  have nd := nodup_mulP (a := a) (b := b)
  have g : evCons (evName 2) evNil [.fz (dP a), .fz (dP b), .ow (dP (mulP a b)), y3, y4, y5, y6, y7] = .ok [dP (mulP a b)] [.fz (dP a), .fz (dP b), .fz (dP (mulP a b)), y3, y4, y5, y6, y7] := rfl
  exact out_ret (evCall_ok g (F_clean_ok (bx.ne hn) nd (by have := bx.length hn nd; omega)))
/-- _law_simple -/
theorem F_simple_ok : ∀ n ∈ [1, 2, 3, 4], ∀ j ∈ List.range (n + 1), F__law_simple [.int ((n : Nat) : Int), .int ((j : Nat) : Int)] = .ok (.ow (dP (eP n j))) := by
  intro n hn j hj
  simp only [List.mem_cons, List.not_mem_nil, or_false] at hn
  rw [List.mem_range] at hj
  rcases hn with rfl | rfl | rfl | rfl
  · match j, hj with
    | 0, _ => kernel_rfl
    | 1, _ => kernel_rfl
  · match j, hj with
    | 0, _ => kernel_rfl
    | 1, _ => kernel_rfl
    | 2, _ => kernel_rfl
  · match j, hj with
    | 0, _ => kernel_rfl
    | 1, _ => kernel_rfl
    | 2, _ => kernel_rfl
    | 3, _ => kernel_rfl
  · match j, hj with
    | 0, _ => kernel_rfl
    | 1, _ => kernel_rfl
    | 2, _ => kernel_rfl
    | 3, _ => kernel_rfl
    | 4, _ => kernel_rfl
/-- _law_passed -/
theorem F_passed_ok {p : Pol} (ne : NeP p) (nd : (keys p).Nodup) (hl : p.length ≤ 1000) : F__law_passed [dP p] = .ok (.fz (.tuple (tP (sortP p)))) := by
  show outF (ev__law_passed [.fz (dP p), .emp]) = _
  unfold ev__law_passed
  have c : evComp (evI L3.keysOf (evName 0)) ([(("spot" : Str), 1)].map (·.2)) (stName 1) (evC (.bool true)) (evTup (evCons (evName 1) (evCons (ev2L gDget 0 (evName 1)) evNil))) [.fz (dP p), .emp] = .ok (.ow (.list (tP p))) [.fz (dP p), .emp] := by
    have h0 : evI L3.keysOf (evName 0) [.fz (dP p), .emp] = .ok (p.map fun q => tM q.1) [.fz (dP p), .emp] := by
      rw [← keys_map_tM]
      exact evI_ok (v := .fz (dP p)) rfl (keys_ok p)
    refine evComp_M pD h0 (by omega) (fun q hq => ?_) rfl rfl
    have g1 := gDget_ok ne nd (m := q.1) (c := q.2) hq
    have g2 : ev2L gDget 0 (evName 1) [.fz (dP p), .fz (tM q.1)] = .ok (.fz (.int q.2)) [.fz (dP p), .fz (tM q.1)] := ev2L_ok (d0 := dP p) (d1 := dP p) (w := .fz (tM q.1)) rfl rfl rfl g1
    exact ⟨[.fz (dP p), .fz (tM q.1)], [.fz (dP p), .fz (tM q.1)], .fz (pD q), rfl, evTup_ok (evCons_ok (v := .fz (tM q.1)) rfl (evCons_ok g2 evNil_ok)) (by simp), rfl, rfl⟩
  have s : evBO gSortL (evCons (evComp (evI L3.keysOf (evName 0)) ([(("spot" : Str), 1)].map (·.2)) (stName 1) (evC (.bool true)) (evTup (evCons (evName 1) (evCons (ev2L gDget 0 (evName 1)) evNil)))) evNil) [.fz (dP p), .emp] = .ok (.ow (.list (tP (sortP p)))) [.fz (dP p), .emp] := evBO_ok (evCons_ok c evNil_ok) (sortL_ok p)
  rw [evRet_ok (evB_ok (ds := [.list (tP (sortP p))]) (d := .tuple (tP (sortP p))) (evCons_ok s evNil_ok) rfl)]
  rfl
end K22
set_option Elab.async false
set_option linter.all false
set_option maxRecDepth 100000
set_option exponentiation.threshold 5000
namespace K22
open PySem PySem.Spec PyProof.Rows L2 LamX L3 EP EL
/-! _law_written -/
theorem clean_scale {c : Int} {a : Pol} (hc : c ≠ 0) (ha : ∀ q ∈ a, 0 < q.2) : cleanP (scale c a) = scale c a := cleanP_id fun q hq => by
  obtain ⟨r, hr, rfl⟩ := List.mem_map.mp hq
  have := ha r hr
  show c * r.2 ≠ 0
  intro z
  rcases Int.mul_eq_zero.mp z with z | z
  · exact hc z
  · omega
theorem times_l {n : Nat} (hn : n ∈ [1, 2, 3, 4]) {c w B : Int} {x0 : Mon} {a : Pol} {j : Nat} (hj : j < n) (hc : c.natAbs < 2 ^ 1000) (c0 : c ≠ 0) (G : Good n w x0 B a) (hw0 : 0 ≤ w) (hw : w + (j + 1 : Nat) ≤ 8) (hB : B ≤ 6 ^ 8) (hB0 : 0 ≤ B) : F__law_times [dP (scale c a), dP (eP n (j + 1))] = .ok (.ow (dP (scale c (mulP a (eP n (j + 1)))))) := by
  have E := goodE n hn j (by rw [List.mem_range]; exact hj)
  have bE : BoxP n (j + 1) (eP n (j + 1)) := fun q hq => ⟨E.len q hq, E.nn q hq, by rw [E.wt q hq]; exact Int.le_refl _⟩
  have bA : BoxP n w.toNat a := G.box (by omega)
  rw [F_times_ok hn (a := scale c a) (b := eP n (j + 1)), scale_mulP, clean_scale c0 (G.mul E hB0).pos]
  · rw [keys_scale]; exact G.nd
  · exact E.nd
  · intro q hq r hr
    obtain ⟨q', hq', rfl⟩ := List.mem_map.mp hq
    have := (bA q' hq').add (bE r hr)
    exact ⟨this.1, this.2.1, by have := this.2.2; show (addM q'.1 r.1).sum ≤ _; omega⟩
  · intro q hq
    obtain ⟨q', hq', rfl⟩ := List.mem_map.mp hq
    exact G.len q' hq'
  · exact E.len
  · exact sm_scale hc G.pos fun q hq => Int.le_trans (EL.Good.le G q hq) hB
  · intro r hr
    have h1 := E.pos r hr
    have h2 : r.2 ≤ 6 := by
      have h3 : sumL (eP n (j + 1)) (fun q => if q.1 = r.1 then q.2 else 0) ≤ sumL (eP n (j + 1)) (fun q => q.2) := sumL_le fun q hq => by
        have := E.pos q hq
        split <;> omega
      rw [sumL_one E.nd, cf_of_mem E.nd (c := r.2) hr] at h3
      have := E.bd
      omega
    show r.2.natAbs < 2 ^ 2000
    exact Nat.lt_of_le_of_lt (show r.2.natAbs ≤ 6 by omega) (by decide)
abbrev E7 (n : Nat) (d x2 x3 x4 x5 x6 : Sl) : En := [.fz (.int (n : Int)), d, x2, x3, x4, x5, x6]
abbrev bodyWl : En → O := evSet 4 (evCall F__law_times (evCons (evName 4) (evCons (evCall F__law_simple (evCons (evName 0) (evCons (ev2 gAdd (evName 5) (evC (.int 1))) evNil))) evNil)))
theorem bodyWl_ok {n : Nat} (hn : n ∈ [1, 2, 3, 4]) {c w B : Int} {x0 : Mon} {a : Pol} {j : Nat} (hj : j < n) (hc : c.natAbs < 2 ^ 1000) (c0 : c ≠ 0) (G : Good n w x0 B a) (hw0 : 0 ≤ w) (hw : w + (j + 1 : Nat) ≤ 8) (hB : B ≤ 6 ^ 8) (hB0 : 0 ≤ B) {d x2 x3 x6 : Sl} :
    bodyWl (E7 n d x2 x3 (.ow (dP (scale c a))) (.fz (.int (j : Int))) x6) = .nx (E7 n d x2 x3 (.ow (dP (scale c (mulP a (eP n (j + 1)))))) (.fz (.int (j : Int))) x6) := by
  have h1 : evName 4 (E7 n d x2 x3 (.ow (dP (scale c a))) (.fz (.int (j : Int))) x6) = .ok (.fz (dP (scale c a))) (E7 n d x2 x3 (.fz (dP (scale c a))) (.fz (.int (j : Int))) x6) := rfl
  have h2 : gAdd (.int (j : Int)) (.int 1) = some (.int ((j + 1 : Nat) : Int)) := congrArg (fun z => some (PyData.int z)) (show (j : Int) + 1 = ((j + 1 : Nat) : Int) by omega)
  have h3 : evCons (evName 0) (evCons (ev2 gAdd (evName 5) (evC (.int 1))) evNil) (E7 n d x2 x3 (.fz (dP (scale c a))) (.fz (.int (j : Int))) x6) = .ok [.int (n : Int), .int ((j + 1 : Nat) : Int)] (E7 n d x2 x3 (.fz (dP (scale c a))) (.fz (.int (j : Int))) x6) :=
    evCons_ok (v := .fz (.int (n : Int))) rfl (evCons_ok (ev2_ok (v := .fz (.int (j : Int))) (w := .fz (.int 1)) rfl rfl h2) evNil_ok)
  have h4 := evCall_ok h3 (F_simple_ok n hn (j + 1) (by rw [List.mem_range]; omega))
  exact evSet_ok (evCall_ok (evCons_ok h1 (evCons_ok h4 evNil_ok)) (times_l hn hj hc c0 G hw0 hw hB hB0)) rfl
theorem loopWl {n : Nat} (hn : n ∈ [1, 2, 3, 4]) {c : Int} {j : Nat} (hj : j < n) (hc : c.natAbs < 2 ^ 1000) (c0 : c ≠ 0) {d x2 x3 : Sl} : ∀ (ds : List PyData) {w B : Int} {x0 : Mon} {a : Pol} {x6 : Sl}, Good n w x0 B a → 0 ≤ w → 0 ≤ B → w + ds.length * ((j + 1 : Nat) : Int) ≤ 8 → B * 6 ^ ds.length ≤ 6 ^ 8 →
    ∃ y6, evLoop (stName 6) bodyWl ds (E7 n d x2 x3 (.ow (dP (scale c a))) (.fz (.int (j : Int))) x6) = .nx (E7 n d x2 x3 (.ow (dP (scale c (mulPow (eP n (j + 1)) ds.length a)))) (.fz (.int (j : Int))) y6)
  | [], w, B, x0, a, x6, G, hw0, hB0, hw, hB => ⟨x6, rfl⟩
  | t :: ds, w, B, x0, a, x6, G, hw0, hB0, hw, hB => by
    have E := goodE n hn j (by rw [List.mem_range]; exact hj)
    rw [List.length_cons] at hw hB
    have e1 : ((ds.length + 1 : Nat) : Int) * ((j + 1 : Nat) : Int) = (ds.length : Int) * ((j + 1 : Nat) : Int) + ((j + 1 : Nat) : Int) := by
      rw [show ((ds.length + 1 : Nat) : Int) = (ds.length : Int) + 1 by omega, Int.add_mul, Int.one_mul]
    have p1 : 0 ≤ (ds.length : Int) * ((j + 1 : Nat) : Int) := Int.mul_nonneg (by omega) (by omega)
    have e2 : B * 6 ^ (ds.length + 1) = B * 6 * 6 ^ ds.length := by rw [Int.pow_succ, Int.mul_comm (6 ^ ds.length) 6, Int.mul_assoc]
    rw [e1] at hw
    rw [e2] at hB
    have q1 : (1 : Int) ≤ 6 ^ ds.length := by have : (0 : Int) < 6 ^ ds.length := Int.pow_pos (by decide); omega
    have q2 : B * 6 ≤ 6 ^ 8 := Int.le_trans (by have := Int.mul_le_mul_of_nonneg_left q1 (show 0 ≤ B * 6 by omega); omega) hB
    have b := bodyWl_ok hn hj hc c0 G hw0 (by omega) (by omega) hB0 (d := d) (x2 := x2) (x3 := x3) (x6 := .fz t)
    obtain ⟨y6, h2⟩ := loopWl hn hj hc c0 (d := d) (x2 := x2) (x3 := x3) ds (x6 := .fz t) (G.mul E hB0) (by omega) (by omega) (by omega) hB
    exact ⟨y6, (evLoop_step (e1 := E7 n d x2 x3 (.ow (dP (scale c a))) (.fz (.int (j : Int))) (.fz t)) rfl b).trans h2⟩
theorem loopEl {n : Nat} (hn : n ∈ [1, 2, 3, 4]) {c : Int} (hc : c.natAbs < 2 ^ 1000) (c0 : c ≠ 0) {t0 : Mon} {d x2 : Sl} : ∀ (t : Mon) {j : Nat} {w B : Int} {x0 : Mon} {a : Pol} {x5 x6 : Sl}, (∀ i, t[i]? = t0[j + i]?) → j + t.length = n → (∀ z ∈ t, 0 ≤ z) → Good n w x0 B a → 0 ≤ w → 0 ≤ B → w + wtFrom j t ≤ 8 → B * 6 ^ expo t ≤ 6 ^ 8 →
    ∃ y5 y6, evLoop (stName 5) (evFor (evIA rng1Of (evCons (ev2L gIx 3 (evName 5)) evNil)) (stName 6) bodyWl) ((List.range' j t.length).map fun i : Nat => PyData.int (i : Int)) (E7 n d x2 (.fz (tM t0)) (.ow (dP (scale c a))) x5 x6) = .nx (E7 n d x2 (.fz (tM t0)) (.ow (dP (scale c (chainFrom n j t a)))) y5 y6)
  | [], j, w, B, x0, a, x5, x6, _, _, _, G, _, _, _, _ => ⟨x5, x6, rfl⟩
  | o :: t, j, w, B, x0, a, x5, x6, ht, hl, hz, G, hw0, hB0, hw, hB => by
    have ho := hz o List.mem_cons_self
    have ho' := Int.toNat_of_nonneg ho
    rw [List.length_cons] at hl
    unfold wtFrom at hw
    unfold expo at hB
    have wt0 : 0 ≤ wtFrom (j + 1) t := by
      have := expo_le (t := t) (j := j + 1) fun z hz' => hz z (List.mem_cons_of_mem _ hz')
      omega
    have o1 : 0 ≤ o * ((j + 1 : Nat) : Int) := Int.mul_nonneg ho (by omega)
    have lo : (rngD 0 o.toNat).length = o.toNat := rngD_length
    rw [Int.pow_add, ← Int.mul_assoc] at hB
    have q1 : (1 : Int) ≤ 6 ^ expo t := by have : (0 : Int) < 6 ^ expo t := Int.pow_pos (by decide); omega
    have q0 : 0 ≤ B * 6 ^ o.toNat := Int.mul_nonneg hB0 (Int.pow_nonneg (by decide))
    have q2 : B * 6 ^ o.toNat ≤ 6 ^ 8 := Int.le_trans (by have := Int.mul_le_mul_of_nonneg_left q1 q0; omega) hB
    have E := goodE n hn j (by rw [List.mem_range]; omega)
    have GP := good_pow E o.toNat G hB0
    have o8 : o ≤ 8 := by
      have : o * 1 ≤ o * ((j + 1 : Nat) : Int) := Int.mul_le_mul_of_nonneg_left (by omega) ho
      omega
    obtain ⟨y6, h2⟩ := loopWl hn (j := j) (by omega) hc c0 (d := d) (x2 := x2) (x3 := .fz (tM t0)) (rngD 0 o.toNat) (x6 := x6) G hw0 hB0 (by rw [lo, ho']; omega) (by rw [lo]; exact q2)
    rw [lo] at h2
    have g1 : gIx (tM t0) (.int (j : Int)) = some (.int o) := by
      show L2.atI (t0.map PyData.int) (j : Int) = _
      rw [EL.atI_nat, List.getElem?_map]
      have := ht 0
      rw [Nat.add_zero] at this
      rw [← this]
      rfl
    have g2 : evIA rng1Of (evCons (ev2L gIx 3 (evName 5)) evNil) (E7 n d x2 (.fz (tM t0)) (.ow (dP (scale c a))) (.fz (.int (j : Int))) x6) = .ok (rngD 0 o.toNat) (E7 n d x2 (.fz (tM t0)) (.ow (dP (scale c a))) (.fz (.int (j : Int))) x6) := by
      refine evIA_ok (ds := [.int o]) (evCons_ok (v := .fz (.int o)) (ev2L_ok (d0 := tM t0) (d1 := tM t0) (w := .fz (.int (j : Int))) rfl rfl rfl g1) evNil_ok) ?_
      have := rng1_ok o.toNat (by omega)
      rw [ho'] at this
      exact this
    rw [ho'] at GP
    obtain ⟨z5, z6, h4⟩ := loopEl hn hc c0 (t0 := t0) (d := d) (x2 := x2) t (j := j + 1) (x5 := .fz (.int (j : Int))) (x6 := y6) (fun i => by
      have := ht (i + 1)
      rw [List.getElem?_cons_succ] at this
      rw [this]
      congr 1
      omega) (by omega) (fun z hz' => hz z (List.mem_cons_of_mem _ hz')) GP (by omega) q0 (by omega) hB
    refine ⟨z5, z6, ?_⟩
    rw [List.length_cons, List.range'_succ, List.map_cons]
    exact (evLoop_step (e1 := E7 n d x2 (.fz (tM t0)) (.ow (dP (scale c a))) (.fz (.int (j : Int))) x6) rfl (run_for g2 h2)).trans h4
def writtenP (n : Nat) (S : Pol) : Pol := S.foldl (fun acc q => plusP acc (scale q.2 (EE n q.1))) []
def wrGo (n : Nat) (acc S : Pol) : Pol := S.foldl (fun acc q => plusP acc (scale q.2 (EE n q.1))) acc
theorem rngD_range' (n : Nat) : rngD 0 n = (List.range' 0 n).map fun i : Nat => PyData.int (i : Int) := by
  unfold rngD
  rw [← List.range_eq_range']
  apply List.map_congr_left
  intro i _
  rw [Int.zero_add]
theorem wr_loop {n : Nat} (hn : n ∈ [1, 2, 3, 4]) {S0 : Pol} (nd0 : (keys S0).Nodup) (ne0 : NeP S0) : ∀ (S : Pol) {acc : Pol} {x3 x4 x5 x6 : Sl}, (∀ q ∈ S, q ∈ S0) → SOk n S → BoxP n 8 acc → (keys acc).Nodup → ∃ y3 y4 y5 y6,
    evLoop (stName 3) (evSeq (evSet 4 (evDisp1 (ev2 gRep (evTup (evCons (evC (.int 0)) evNil)) (evName 0)) (ev2L gDget 1 (evName 3))))
    (evSeq (evFor (evIA rng1Of (evCons (evName 0) evNil)) (stName 5) (evFor (evIA rng1Of (evCons (ev2L gIx 3 (evName 5)) evNil)) (stName 6) bodyWl))
    (evSet 2 (evCall F__law_plus (evCons (evName 2) (evCons (evName 4) evNil)))))) (S.map fun q => tM q.1) (E7 n (.fz (dP S0)) (.ow (dP acc)) x3 x4 x5 x6) = .nx (E7 n (.fz (dP S0)) (.ow (dP (wrGo n acc S))) y3 y4 y5 y6)
  | [], acc, x3, x4, x5, x6, _, _, _, _ => ⟨x3, x4, x5, x6, rfl⟩
  | q :: S, acc, x3, x4, x5, x6, hs, o, ba, na => by
    have lq := o.ok.len q List.mem_cons_self
    have nq := o.ok.nn q List.mem_cons_self
    have G := good_EE hn lq nq
    have hx := expo_le (t := q.1) (j := 0) nq
    have hw := o.wt q List.mem_cons_self
    have c0 := o.ok.nz q List.mem_cons_self
    have g3 := gDget_ok ne0 nd0 (m := q.1) (c := q.2) (hs q List.mem_cons_self)
    have s5 : evSet 4 (evDisp1 (ev2 gRep (evTup (evCons (evC (.int 0)) evNil)) (evName 0)) (ev2L gDget 1 (evName 3))) (E7 n (.fz (dP S0)) (.ow (dP acc)) (.fz (tM q.1)) x4 x5 x6) = .nx (E7 n (.fz (dP S0)) (.ow (dP acc)) (.fz (tM q.1)) (.ow (dP (scale q.2 [(zz n, 1)]))) x5 x6) := by
      have g : ev2 gRep (evTup (evCons (evC (.int 0)) evNil)) (evName 0) (E7 n (.fz (dP S0)) (.ow (dP acc)) (.fz (tM q.1)) x4 x5 x6) = .ok (.fz (tM (zz n))) (E7 n (.fz (dP S0)) (.ow (dP acc)) (.fz (tM q.1)) x4 x5 x6) :=
        ev2_ok (v := .fz (.tuple [.int 0])) (w := .fz (.int (n : Int))) (evTup_ok (evCons_ok (v := .fz (.int 0)) rfl evNil_ok) (by simp)) rfl (rep_zz hn)
      have g' : ev2L gDget 1 (evName 3) (E7 n (.fz (dP S0)) (.ow (dP acc)) (.fz (tM q.1)) x4 x5 x6) = .ok (.fz (.int q.2)) (E7 n (.fz (dP S0)) (.ow (dP acc)) (.fz (tM q.1)) x4 x5 x6) := ev2L_ok (d0 := dP S0) (d1 := dP S0) (w := .fz (tM q.1)) rfl rfl rfl g3
      have kz : keyOfT (tM (zz n)) = some (kM (zz n)) := keyOfT_tM (ne_of_len (n := n) (by unfold zz; simp) hn)
      refine evSet_ok (v := .ow (dP (scale q.2 [(zz n, 1)]))) (e1 := E7 n (.fz (dP S0)) (.ow (dP acc)) (.fz (tM q.1)) x4 x5 x6) ?_ rfl
      unfold evDisp1
      rw [g, R.bnd_ok, g', R.bnd_ok, show datOf (.fz (tM (zz n))) = tM (zz n) from rfl, kz]
      show R.ok (.ow (.dict [(.tuple ((kM (zz n)).map keyD), .int q.2)])) _ = _
      rw [keyD_map]
      show R.ok (.ow (.dict [(tM (zz n), .int q.2)])) _ = R.ok (.ow (.dict [(tM (zz n), .int (q.2 * 1))])) _
      rw [Int.mul_one]
    obtain ⟨y5, y6, h6⟩ := loopEl hn (o.bd q List.mem_cons_self) c0 (t0 := q.1) (d := .fz (dP S0)) (x2 := .ow (dP acc)) q.1 (j := 0) (x5 := x5) (x6 := x6) (fun i => by rw [Nat.zero_add]) (by omega) nq (good0 hn) (by decide) (by decide) (by omega) (by rw [Int.one_mul]; exact pow_le (by omega))
    rw [lq, ← rngD_range'] at h6
    have h6 : evLoop (stName 5) (evFor (evIA rng1Of (evCons (ev2L gIx 3 (evName 5)) evNil)) (stName 6) bodyWl) (rngD 0 n) (E7 n (.fz (dP S0)) (.ow (dP acc)) (.fz (tM q.1)) (.ow (dP (scale q.2 [(zz n, 1)]))) x5 x6) = .nx (E7 n (.fz (dP S0)) (.ow (dP acc)) (.fz (tM q.1)) (.ow (dP (scale q.2 (EE n q.1)))) y5 y6) := h6
    have g6 : evIA rng1Of (evCons (evName 0) evNil) (E7 n (.fz (dP S0)) (.ow (dP acc)) (.fz (tM q.1)) (.ow (dP (scale q.2 [(zz n, 1)]))) x5 x6) = .ok (rngD 0 n) (E7 n (.fz (dP S0)) (.ow (dP acc)) (.fz (tM q.1)) (.ow (dP (scale q.2 [(zz n, 1)]))) x5 x6) :=
      evIA_ok (evCons_ok (v := .fz (.int (n : Int))) rfl evNil_ok) (rng1_ok n (by have := nz4 hn; omega))
    have bE : BoxP n 8 (scale q.2 (EE n q.1)) := (box_EE hn o List.mem_cons_self).scale
    have nE : (keys (scale q.2 (EE n q.1))).Nodup := by rw [keys_scale]; exact G.nd
    have s7 : evSet 2 (evCall F__law_plus (evCons (evName 2) (evCons (evName 4) evNil))) (E7 n (.fz (dP S0)) (.ow (dP acc)) (.fz (tM q.1)) (.ow (dP (scale q.2 (EE n q.1)))) y5 y6) = .nx (E7 n (.fz (dP S0)) (.ow (dP (plusP acc (scale q.2 (EE n q.1))))) (.fz (tM q.1)) (.fz (dP (scale q.2 (EE n q.1)))) y5 y6) := by
      have g : evCons (evName 2) (evCons (evName 4) evNil) (E7 n (.fz (dP S0)) (.ow (dP acc)) (.fz (tM q.1)) (.ow (dP (scale q.2 (EE n q.1)))) y5 y6) = .ok [dP acc, dP (scale q.2 (EE n q.1))] (E7 n (.fz (dP S0)) (.fz (dP acc)) (.fz (tM q.1)) (.fz (dP (scale q.2 (EE n q.1)))) y5 y6) := rfl
      exact evSet_ok (evCall_ok g (F_plus_ok hn ba bE na nE)) rfl
    obtain ⟨z3, z4, z5, z6, h8⟩ := wr_loop hn nd0 ne0 S (acc := plusP acc (scale q.2 (EE n q.1))) (x3 := .fz (tM q.1)) (x4 := .fz (dP (scale q.2 (EE n q.1)))) (x5 := y5) (x6 := y6) (fun q hq => hs q (List.mem_cons_of_mem _ hq)) o.tail (box_plus ba bE) (nodup_plus na)
    refine ⟨z3, z4, z5, z6, ?_⟩
    rw [List.map_cons]
    exact (evLoop_step (e1 := E7 n (.fz (dP S0)) (.ow (dP acc)) (.fz (tM q.1)) x4 x5 x6) rfl (run_seq s5 (run_seq (run_for g6 h6) s7))).trans h8
theorem F_written_ok {n : Nat} (hn : n ∈ [1, 2, 3, 4]) {S : Pol} (o : SOk n S) (nd : (keys S).Nodup) : F__law_written [.int (n : Int), dP S] = .ok (.fz (dP (writtenP n S))) := by
  have ne : NeP S := fun q hq => ne_of_len (o.ok.len q hq) hn
  show outF (ev__law_written (E7 n (.fz (dP S)) .emp .emp .emp .emp .emp)) = _
  unfold ev__law_written
  refine out_seq (e1 := E7 n (.fz (dP S)) (.ow (dP [])) .emp .emp .emp .emp) rfl ?_
  obtain ⟨y3, y4, y5, y6, h⟩ := wr_loop hn nd ne S (acc := []) (x3 := .emp) (x4 := .emp) (x5 := .emp) (x6 := .emp) (fun _ h => h) o BoxP.nil List.nodup_nil
  have h0 : evI L3.keysOf (evName 1) (E7 n (.fz (dP S)) (.ow (dP [])) .emp .emp .emp .emp) = .ok (S.map fun q => tM q.1) (E7 n (.fz (dP S)) (.ow (dP [])) .emp .emp .emp .emp) := by
    rw [← keys_map_tM]
    exact evI_ok (v := .fz (dP S)) rfl (keys_ok S)
  refine out_seq (run_for h0 h) ?_
  exact out_ret rfl
theorem wrGo_ok {n : Nat} (hn : n ∈ [1, 2, 3, 4]) : ∀ (S : Pol) {acc : Pol}, SOk n S → BoxP n 8 acc → (keys acc).Nodup → (∀ x ∈ acc, x.2 ≠ 0) → BoxP n 8 (wrGo n acc S) ∧ (keys (wrGo n acc S)).Nodup ∧ (∀ x ∈ wrGo n acc S, x.2 ≠ 0) ∧ ∀ k, cf (wrGo n acc S) k = cf acc k + sumL S fun q => q.2 * cf (EE n q.1) k
  | [], acc, _, ba, na, za => ⟨ba, na, za, fun k => by rw [sumL_nil]; show cf acc k = _; omega⟩
  | q :: S, acc, o, ba, na, za => by
    have G := good_EE hn (o.ok.len q List.mem_cons_self) (o.ok.nn q List.mem_cons_self)
    have bE : BoxP n 8 (scale q.2 (EE n q.1)) := (box_EE hn o List.mem_cons_self).scale
    have nE : (keys (scale q.2 (EE n q.1))).Nodup := by rw [keys_scale]; exact G.nd
    obtain ⟨h1, h2, h3, h4⟩ := wrGo_ok hn S (acc := plusP acc (scale q.2 (EE n q.1))) o.tail (box_plus ba bE) (nodup_plus na) clean_nz
    refine ⟨h1, h2, h3, fun k => ?_⟩
    have := h4 k
    rw [cf_plus na nE, cf_scale] at this
    rw [sumL_cons]
    show cf (wrGo n (plusP acc (scale q.2 (EE n q.1))) S) k = _
    omega
theorem written_ok {n : Nat} (hn : n ∈ [1, 2, 3, 4]) {S : Pol} (o : SOk n S) : BoxP n 8 (writtenP n S) ∧ (keys (writtenP n S)).Nodup ∧ (∀ x ∈ writtenP n S, x.2 ≠ 0) ∧ IsSum n (writtenP n S) S := by
  obtain ⟨h1, h2, h3, h4⟩ := wrGo_ok hn S (acc := []) o BoxP.nil List.nodup_nil fun x hx => by cases hx
  refine ⟨h1, h2, h3, fun k => ?_⟩
  have := h4 k
  rw [show cf [] k = 0 from rfl, Int.zero_add] at this
  exact this
/-! _law_read -/
theorem read_int (k : Nat) (i : Int) : FK__law_read (k + 1) [.int i] = .ok (.fz (.int i)) := rfl
theorem read_tup {k : Nat} {ds : List PyData} (hl : ds.length ≤ 16777216) (h : ∀ d ∈ ds, FK__law_read k [d] = .ok (.fz d)) : FK__law_read (k + 1) [.tuple ds] = .ok (.fz (.tuple ds)) := by
  show outF (ev__law_read (FK__law_read k) [.fz (.tuple ds), .emp]) = _
  unfold ev__law_read
  refine out_seq (e1 := [.fz (.tuple ds), .emp]) rfl ?_
  refine out_seq (e1 := [.fz (.tuple ds), .emp]) rfl ?_
  refine out_seq (e1 := [.fz (.tuple ds), .emp]) rfl ?_
  have c : evComp (evI tupOf (evName 0)) ([(("part" : Str), 1)].map (·.2)) (stName 1) (evC (.bool true)) (evCall (FK__law_read k) (evCons (evName 1) evNil)) [.fz (.tuple ds), .emp] = .ok (.ow (.list ds)) [.fz (.tuple ds), .emp] := by
    have h0 : evI tupOf (evName 0) [.fz (.tuple ds), .emp] = .ok (ds.map fun d => d) [.fz (.tuple ds), .emp] := by
      rw [List.map_id']
      rfl
    refine evComp_M (fun d => d) h0 hl (fun d hd => ?_) rfl (by rw [List.map_id'])
    refine ⟨[.fz (.tuple ds), .fz d], [.fz (.tuple ds), .fz d], .fz d, rfl, ?_, rfl, rfl⟩
    have g : evCons (evName 1) evNil [.fz (.tuple ds), .fz d] = .ok [d] [.fz (.tuple ds), .fz d] := rfl
    exact evCall_ok g (h d hd)
  have r : evRet (evB gTup (evCons (evComp (evI tupOf (evName 0)) ([(("part" : Str), 1)].map (·.2)) (stName 1) (evC (.bool true)) (evCall (FK__law_read k) (evCons (evName 1) evNil))) evNil)) [.fz (.tuple ds), .emp] = .ret (.fz (.tuple ds)) [.fz (.tuple ds), .emp] :=
    evRet_ok (evB_ok (ds := [.list ds]) (evCons_ok c evNil_ok) rfl)
  have t1 : evT (evIsi "tuple" (evName 0)) [.fz (.tuple ds), .emp] = .ok (.fz (.bool true)) [.fz (.tuple ds), .emp] := rfl
  have i : evIfS (evT (evIsi "tuple" (evName 0))) (evRet (evB gTup (evCons (evComp (evI tupOf (evName 0)) ([(("part" : Str), 1)].map (·.2)) (stName 1) (evC (.bool true)) (evCall (FK__law_read k) (evCons (evName 1) evNil))) evNil))) evNx [.fz (.tuple ds), .emp] = .ret (.fz (.tuple ds)) [.fz (.tuple ds), .emp] := (evIfS_t t1).trans r
  unfold evSeq
  rw [i]
  rfl
theorem read_tM (k : Nat) (m : Mon) (hl : m.length ≤ 1000) : FK__law_read (k + 2) [tM m] = .ok (.fz (tM m)) := read_tup (by rw [List.length_map]; omega) fun d hd => by
  obtain ⟨i, _, rfl⟩ := List.mem_map.mp hd
  exact read_int k i
theorem read_tP {p : Pol} (hl : p.length ≤ 1000) (hk : ∀ q ∈ p, q.1.length ≤ 1000) : F__law_read [.tuple (tP p)] = .ok (.fz (.tuple (tP p))) := by
  refine read_tup (k := 4) (by unfold tP; rw [List.length_map]; omega) fun d hd => ?_
  obtain ⟨q, hq, rfl⟩ := List.mem_map.mp hd
  refine read_tup (k := 3) (by simp) fun d hd => ?_
  simp only [List.mem_cons, List.not_mem_nil, or_false] at hd
  rcases hd with rfl | rfl
  · exact read_tM 1 q.1 (hk q hq)
  · exact read_int 2 q.2
theorem told_ok {f : En → R} {e e1 : En} {d : PyData} (h : f e = .ok (.fz d) e1) (r : F__law_read [d] = .ok (.fz d)) : evTold toldN "range" "other" F__law_read f e = .ok (.fz (.tuple [.int 0, d])) e1 := by
  unfold evTold
  rw [h]
  (try dsimp only)
  rw [r]
theorem told_range {f : En → R} {e e1 : En} (h : f e = .exn "OutOfRange" e1) : evTold toldN "range" "other" F__law_read f e = .ok (.fz (.tuple [.int 1, .str "range"])) e1 := by
  unfold evTold
  rw [h]
  rfl
theorem told_other {f : En → R} {e e1 : En} (h : f e = .exn "BadPolynomial" e1) : evTold toldN "range" "other" F__law_read f e = .ok (.fz (.tuple [.int 1, .str "other"])) e1 := by
  unfold evTold
  rw [h]
  rfl
theorem lay_tP : ∀ p : Pol, PyData.canLayAll0 (tP p) = true
  | [] => by unfold tP; simp [PyData.canLayAll0]
  | q :: p => by
    have := lay_tP p
    unfold tP at *
    rw [List.map_cons, PyData.canLayAll0, lay_pD, this]
    rfl
theorem depth_tP : ∀ p : Pol, PyData.depthAll (tP p) ≤ 2
  | [] => by unfold tP; simp [PyData.depthAll]
  | q :: p => by
    have := depth_tP p
    unfold tP at *
    rw [List.map_cons, PyData.depthAll, depth_pD]
    omega
theorem neD_same {p : Pol} : gNeD (.tuple [.int 0, .tuple (tP p)]) (.tuple [.int 0, .tuple (tP p)]) = some (.bool false) := by
  have c : PyData.canLay0 (.tuple [.int 0, .tuple (tP p)]) = true := by
    rw [PyData.canLay0, PyData.canLayAll0, PyData.canLayAll0, PyData.canLayAll0, PyData.canLay0, PyData.canLay0, lay_tP]
    rfl
  have dd : PyData.depth (.tuple [.int 0, .tuple (tP p)]) ≤ 64 := by
    have := depth_tP p
    rw [PyData.depth, PyData.depthAll, PyData.depthAll, PyData.depthAll, PyData.depth, PyData.depth]
    omega
  unfold gNeD
  rw [if_pos]
  · rw [PySem.SeqAt.eqv_refl _ c]; rfl
  · unfold SeqAt.shaped
    rw [c, decide_eq_true dd]
    rfl
end K22
set_option Elab.async false
set_option linter.all false
set_option maxRecDepth 100000
set_option exponentiation.threshold 5000
namespace K22
open PySem PySem.Spec PyProof.Rows L2 LamX L3 EP EL
/-- a box of draws -/
def Bx (d : PyData) : Prop := ∃ a b : Int, d = .list [.int a, .int b] ∧ 0 ≤ a ∧ 0 ≤ b ∧ b < 2147483648
theorem draw_ok {d : PyData} (hd : Bx d) {high : Int} (h1 : 0 < high) (h2 : high ≤ 1000) : ∃ (c : Int) (d' : PyData), F__law_draw d [.int high] = (.ok (.fz (.int c)), d') ∧ 0 ≤ c ∧ c < high ∧ Bx d' := by
  obtain ⟨a, b, rfl, ha, hb, hb'⟩ := hd
  have lg : high.natAbs.log2 < 9000 := by
    have := (Nat.log2_lt (n := high.natAbs) (k := 10) (by omega)).mpr (by omega)
    omega
  have gd : ∀ x : Int, gDiv (.int x) (.int high) = some (.int (x / high)) := fun x => by
    unfold gDiv gIc
    simp only []
    rw [if_pos]
    rw [Bool.and_eq_true]
    exact ⟨decide_eq_true h1, decide_eq_true lg⟩
  have gm : ∀ x : Int, gMod (.int x) (.int high) = some (.int (x % high)) := fun x => by
    unfold gMod gIc
    simp only []
    rw [if_pos (decide_eq_true h1)]
  have m1 := fun x : Int => Int.emod_nonneg x (show high ≠ 0 by omega)
  have m2 := fun x : Int => Int.emod_lt_of_pos x h1
  by_cases z : 0 < a
  · refine ⟨a % high, .list [.int (a / high), .int b], ?_, m1 a, m2 a, a / high, b, rfl, Int.ediv_nonneg ha (by omega), hb, hb'⟩
    show outIO (ev__law_draw [.io (.list [.int a, .int b]), .fz (.int high), .emp]) = _
    unfold ev__law_draw
    have g0 : ev2 gGt (ev2L gIx 0 (evC (.int 0))) (evC (.int 0)) [.io (.list [.int a, .int b]), .fz (.int high), .emp] = .ok (.fz (.bool (decide (0 < a)))) [.io (.list [.int a, .int b]), .fz (.int high), .emp] := rfl
    rw [decide_eq_true z] at g0
    have s1 : evSet 2 (ev2L gIx 0 (evC (.int 0))) [.io (.list [.int a, .int b]), .fz (.int high), .emp] = .nx [.io (.list [.int a, .int b]), .fz (.int high), .fz (.int a)] := rfl
    have e1 : ev2 gDiv (evName 2) (evName 1) [.io (.list [.int a, .int b]), .fz (.int high), .fz (.int a)] = .ok (.fz (.int (a / high))) [.io (.list [.int a, .int b]), .fz (.int high), .fz (.int a)] := ev2_ok (v := .fz (.int a)) (w := .fz (.int high)) rfl rfl (gd a)
    have e2 : evB gInt (evCons (ev2 gDiv (evName 2) (evName 1)) evNil) [.io (.list [.int a, .int b]), .fz (.int high), .fz (.int a)] = .ok (.fz (.int (a / high))) [.io (.list [.int a, .int b]), .fz (.int high), .fz (.int a)] := evB_ok (evCons_ok e1 evNil_ok) rfl
    have s2 : evLSet 0 (evC (.int 0)) (evB gInt (evCons (ev2 gDiv (evName 2) (evName 1)) evNil)) [.io (.list [.int a, .int b]), .fz (.int high), .fz (.int a)] = .nx [.io (.list [.int (a / high), .int b]), .fz (.int high), .fz (.int a)] := by
      unfold evLSet
      rw [e2]
      rfl
    have e3 : ev2 gMod (evName 2) (evName 1) [.io (.list [.int (a / high), .int b]), .fz (.int high), .fz (.int a)] = .ok (.fz (.int (a % high))) [.io (.list [.int (a / high), .int b]), .fz (.int high), .fz (.int a)] := ev2_ok (v := .fz (.int a)) (w := .fz (.int high)) rfl rfl (gm a)
    have s3 : evRet (evB gInt (evCons (ev2 gMod (evName 2) (evName 1)) evNil)) [.io (.list [.int (a / high), .int b]), .fz (.int high), .fz (.int a)] = .ret (.fz (.int (a % high))) [.io (.list [.int (a / high), .int b]), .fz (.int high), .fz (.int a)] := evRet_ok (evB_ok (evCons_ok e3 evNil_ok) rfl)
    have s := (evIfS_t (f := evSeq (evSet 2 (ev2L gIx 0 (evC (.int 0)))) (evSeq (evLSet 0 (evC (.int 0)) (evB gInt (evCons (ev2 gDiv (evName 2) (evName 1)) evNil))) (evRet (evB gInt (evCons (ev2 gMod (evName 2) (evName 1)) evNil))))) (g := evNx) g0).trans (run_seq s1 (run_seq s2 s3))
    unfold evSeq at s ⊢
    rw [s]
    rfl
  · have a0 : a = 0 := by omega
    subst a0
    have n1 := Int.emod_nonneg (69621 * b) (show (2147483647 : Int) ≠ 0 by decide)
    have n2 := Int.emod_lt_of_pos (69621 * b) (show (0 : Int) < 2147483647 by decide)
    refine ⟨69621 * b % 2147483647 / 7 % high, .list [.int 0, .int (69621 * b % 2147483647)], ?_, m1 _, m2 _, 0, _, rfl, Int.le_refl _, n1, by omega⟩
    show outIO (ev__law_draw [.io (.list [.int 0, .int b]), .fz (.int high), .emp]) = _
    unfold ev__law_draw
    have s0 : evIfS (ev2 gGt (ev2L gIx 0 (evC (.int 0))) (evC (.int 0))) (evSeq (evSet 2 (ev2L gIx 0 (evC (.int 0)))) (evSeq (evLSet 0 (evC (.int 0)) (evB gInt (evCons (ev2 gDiv (evName 2) (evName 1)) evNil))) (evRet (evB gInt (evCons (ev2 gMod (evName 2) (evName 1)) evNil))))) evNx [.io (.list [.int 0, .int b]), .fz (.int high), .emp] = .nx [.io (.list [.int 0, .int b]), .fz (.int high), .emp] := rfl
    rw [evSeq_nx s0]
    have gq : gMul (.int 69621) (.int b) = some (.int (69621 * b)) := by
      unfold gMul gIc
      simp only []
      rw [if_pos]
      have e : (69621 : Int).natAbs.log2 = 16 := by decide
      rw [e]
      by_cases zb : b.natAbs = 0
      · rw [zb]; decide
      · have := (Nat.log2_lt (n := b.natAbs) (k := 31) zb).mpr (by omega)
        exact decide_eq_true (by omega)
    have g2 : ev2 gMod (ev2 gMul (evC (.int 69621)) (ev2L gIx 0 (evC (.int 1)))) (evC (.int 2147483647)) [.io (.list [.int 0, .int b]), .fz (.int high), .emp] = .ok (.fz (.int (69621 * b % 2147483647))) [.io (.list [.int 0, .int b]), .fz (.int high), .emp] :=
      ev2_ok (v := .fz (.int (69621 * b))) (w := .fz (.int 2147483647)) (ev2_ok (v := .fz (.int 69621)) (w := .fz (.int b)) rfl rfl gq) rfl rfl
    have s2 : evLSet 0 (evC (.int 1)) (ev2 gMod (ev2 gMul (evC (.int 69621)) (ev2L gIx 0 (evC (.int 1)))) (evC (.int 2147483647))) [.io (.list [.int 0, .int b]), .fz (.int high), .emp] = .nx [.io (.list [.int 0, .int (69621 * b % 2147483647)]), .fz (.int high), .emp] := by
      unfold evLSet
      rw [g2]
      rfl
    rw [evSeq_nx s2]
    generalize 69621 * b % 2147483647 = b1 at n1 n2
    have g3 : ev2 gMod (ev2 gDiv (ev2L gIx 0 (evC (.int 1))) (evC (.int 7))) (evName 1) [.io (.list [.int 0, .int b1]), .fz (.int high), .emp] = .ok (.fz (.int (b1 / 7 % high))) [.io (.list [.int 0, .int b1]), .fz (.int high), .emp] :=
      ev2_ok (v := .fz (.int (b1 / 7))) (w := .fz (.int high)) (ev2_ok (v := .fz (.int b1)) (w := .fz (.int 7)) rfl rfl rfl) rfl (gm _)
    rw [evRet_ok (evB_ok (evCons_ok g3 evNil_ok) rfl)]
    rfl
/-- the stream -/
theorem stream_ok {ns : List Int} (hb : ∀ z ∈ ns, Builtin.Int.intBits z ≤ 1048576) : ∃ d, F__law_stream [.list (ns.map .int), .int 0] = .ok (.ow d) ∧ Bx d := by
  have cell : ∃ c : Int, F__law_cell [.list (ns.map .int), .int 0] = .ok (.fz (.int c)) ∧ 0 ≤ c ∧ c.natAbs.log2 ≤ 1048576 := by
    cases ns with
    | nil => exact ⟨0, rfl, Int.le_refl _, by decide⟩
    | cons z r =>
      have hz := hb z List.mem_cons_self
      rw [PySem.intBits_le_iff] at hz
      refine ⟨if z < 0 then -z else z, ?_, by split <;> omega, ?_⟩
      · show outF (evRet (evIf (ev2 gLt (evName 1) (evBN gLen1 0)) (evB gAbs (evCons (evB gInt (evCons (ev2L gIx 0 (evName 1)) evNil)) evNil)) (evC (.int 0))) [.fz (.list (.int z :: r.map .int)), .fz (.int 0)]) = _
        have t : ev2 gLt (evName 1) (evBN gLen1 0) [.fz (.list (.int z :: r.map .int)), .fz (.int 0)] = .ok (.fz (.bool true)) [.fz (.list (.int z :: r.map .int)), .fz (.int 0)] := by
          refine ev2_ok (v := .fz (.int 0)) (w := .fz (.int ((PyData.int z :: r.map PyData.int).length : Nat))) rfl rfl ?_
          show some (PyData.bool (decide ((0 : Int) < ((PyData.int z :: r.map PyData.int).length : Nat)))) = _
          rw [decide_eq_true (by rw [List.length_cons]; omega)]
        have gx : gIx (.list (.int z :: r.map .int)) (.int 0) = some (.int z) := by
          show L2.atI (PyData.int z :: r.map PyData.int) ((0 : Nat) : Int) = _
          rw [EL.atI_nat]
          rfl
        have t2 : evB gAbs (evCons (evB gInt (evCons (ev2L gIx 0 (evName 1)) evNil)) evNil) [.fz (.list (.int z :: r.map .int)), .fz (.int 0)] = .ok (.fz (.int (if z < 0 then -z else z))) [.fz (.list (.int z :: r.map .int)), .fz (.int 0)] :=
          evB_ok (ds := [.int z]) (evCons_ok (v := .fz (.int z)) (evB_ok (ds := [.int z]) (evCons_ok (v := .fz (.int z)) (ev2L_ok (d0 := .list (.int z :: r.map .int)) (d1 := .list (.int z :: r.map .int)) (w := .fz (.int 0)) rfl rfl rfl gx) evNil_ok) rfl) evNil_ok) rfl
        exact out_ret ((evIf_t t).trans t2)
      · have e : (if z < 0 then -z else z).natAbs = z.natAbs := by split <;> omega
        rw [e]
        by_cases h0 : z.natAbs = 0
        · rw [h0]; decide
        · have := (Nat.log2_lt (n := z.natAbs) (k := 1048576) h0).mpr hz
          omega
  obtain ⟨c, hc, c0, cl⟩ := cell
  have n1 := Int.emod_nonneg (48271 * c) (show (2147483647 : Int) ≠ 0 by decide)
  have n2 := Int.emod_lt_of_pos (48271 * c) (show (0 : Int) < 2147483647 by decide)
  refine ⟨.list [.int c, .int (1 + 48271 * c % 2147483647)], ?_, c, _, rfl, c0, by omega, by omega⟩
  show outF (ev__law_stream [.fz (.list (ns.map .int)), .fz (.int 0)]) = _
  unfold ev__law_stream
  have g : evCons (evName 0) (evCons (evName 1) evNil) [.fz (.list (ns.map .int)), .fz (.int 0)] = .ok [.list (ns.map .int), .int 0] [.fz (.list (ns.map .int)), .fz (.int 0)] := rfl
  have h := evCall_ok g hc
  have gq : gMul (.int 48271) (.int c) = some (.int (48271 * c)) := by
    unfold gMul gIc
    simp only []
    rw [if_pos]
    have e : (48271 : Int).natAbs.log2 = 15 := by decide
    rw [e]
    exact decide_eq_true (by omega)
  have e2 : ev2 gAdd (evC (.int 1)) (ev2 gMod (ev2 gMul (evC (.int 48271)) (evCall F__law_cell (evCons (evName 0) (evCons (evName 1) evNil)))) (evC (.int 2147483647))) [.fz (.list (ns.map .int)), .fz (.int 0)] = .ok (.fz (.int (1 + 48271 * c % 2147483647))) [.fz (.list (ns.map .int)), .fz (.int 0)] :=
    ev2_ok (v := .fz (.int 1)) (w := .fz (.int (48271 * c % 2147483647))) rfl (ev2_ok (v := .fz (.int (48271 * c))) (w := .fz (.int 2147483647)) (ev2_ok (v := .fz (.int 48271)) rfl h gq) rfl rfl) rfl
  exact out_ret (evLst_ok (evCons_ok h (evCons_ok e2 evNil_ok)) (by simp))
end K22
set_option Elab.async false
set_option linter.all false
set_option maxRecDepth 100000
set_option exponentiation.threshold 5000
namespace K22
open PySem PySem.Spec PyProof.Rows L2 LamX L3 EP EL
abbrev b1 : En → O := (evSet 19 (ev2 gAdd (evC (.int 1)) (evCallIO F__law_draw 1 (evCons (evC (.int 4)) evNil))))
abbrev b2 : En → O := (evSet 3 evDict0)
abbrev d1 : En → O := (evPar 5 6 (evLst evNil) (evIf (ev2 gLt (evName 19) (evC (.int 4))) (evC (.int 8)) (evC (.int 6))))
abbrev d2_1 : En → O := (evDrop (evAppend 5 (evCallIO F__law_draw 1 (evCons (ev2 gAdd (evC (.int 1)) (evB gMin2 (evCons (evC (.int 3)) (evCons (ev2 gDiv (evName 6) (ev2 gAdd (evName 7) (evC (.int 1)))) evNil)))) evNil))))
abbrev d2_2 : En → O := (evSet 6 (ev2 gSub (evName 6) (ev2 gMul (ev2 gAdd (evName 7) (evC (.int 1))) (ev2L gIx 5 (evName 7)))))
abbrev d2 : En → O := evFor (evIA rng1Of (evCons (evName 19) evNil)) (stName 7) (evSeq d2_1 d2_2)
abbrev d3 : En → O := (evDPut 3 (evB gTup (evCons (evName 5) evNil)) (ev2 gSub (evCallIO F__law_draw 1 (evCons (evC (.int 21)) evNil)) (evC (.int 10))))
abbrev dBody : En → O := evSeq d1 (evSeq d2 d3)
abbrev b3 : En → O := evFor (evIA rng1Of (evCons (evCallIO F__law_draw 1 (evCons (evC (.int 5)) evNil)) evNil)) (stName 4) dBody
abbrev b4 : En → O := (evSet 3 (evCall F__law_clean (evCons (evName 3) evNil)))
abbrev b5 : En → O := (evSet 22 (evCall F__law_written (evCons (evName 19) (evCons (evName 3) evNil))))
abbrev b6 : En → O := (evIfS (ev2 gNeD (evTold toldN "range" "other" F__law_read (evCall F_elementary (evCons (evName 19) (evCons (evCall F__law_passed (evCons (evName 22) evNil)) evNil)))) (evTup (evCons (evC (.int 0)) (evCons (evCall F__law_passed (evCons (evName 3) evNil)) evNil)))) (evRet (evC (.bool false))) evNx)
abbrev b7 : En → O := (evPar 8 9 (evLst (evCons evDict0 evNil)) (evComp (evIA rng1Of (evCons (ev2 gAdd (evName 19) (evC (.int 1))) evNil)) ([(("j" : Str), 7)].map (·.2)) (stName 7) (evC (.bool true)) (evCall F__law_simple (evCons (evName 19) (evCons (evName 7) evNil)))))
abbrev b8 : En → O := (evSet 11 (evComp (evIA rng2Of (evCons (evC (.int 1)) (evCons (ev2 gAdd (evName 19) (evC (.int 1))) evNil))) ([(("j" : Str), 7)].map (·.2)) (stName 7) (evC (.bool true)) (evBO gDict (evCons (evLst (evCons (evTup (evCons (evB gTup (evCons (evComp (evIA rng2Of (evCons (evC (.int 1)) (evCons (ev2 gAdd (evName 19) (evC (.int 1))) evNil))) ([(("k" : Str), 10)].map (·.2)) (stName 10) (evC (.bool true)) (evB gInt (evCons (ev2 gEqS (evName 7) (evName 10)) evNil))) evNil)) (evCons (evC (.int 1)) evNil))) evNil)) evNil))))
abbrev n1 : En → O := (evSet 12 evDict0)
abbrev n2 : En → O := (evFor (evIA rng2Of (evCons (evC (.int 1)) (evCons (ev2 gAdd (evB gMin2 (evCons (ev2 gSub (evName 10) (evC (.int 1))) (evCons (evName 19) evNil))) (evC (.int 1))) evNil))) (stName 7) (evSeq (evSet 13 (evCall F__law_times (evCons (ev2L gIx 11 (ev2 gSub (evName 7) (evC (.int 1)))) (evCons (ev2L gIx 8 (ev2 gSub (evName 10) (evName 7))) evNil)))) (evSet 12 (evCall F__law_plus (evCons (evName 12) (evCons (evBO gDict (evCons (evComp (evI keysOf (evName 13)) ([(("spot" : Str), 5)].map (·.2)) (stName 5) (evC (.bool true)) (evTup (evCons (evName 5) (evCons (evIf (ev2 gEqS (ev2 gMod (evName 7) (evC (.int 2))) (evC (.int 1))) (ev2L gDget 13 (evName 5)) (ev2 gSub (evC (.int 0)) (ev2L gDget 13 (evName 5)))) evNil)))) evNil)) evNil))))))
abbrev n3 : En → O := (evIfS (ev2 gLe (evName 10) (evName 19)) (evSet 12 (evCall F__law_plus (evCons (evName 12) (evCons (evBO gDict (evCons (evComp (evI keysOf (ev2L gIx 11 (ev2 gSub (evName 10) (evC (.int 1))))) ([(("spot" : Str), 5)].map (·.2)) (stName 5) (evC (.bool true)) (evTup (evCons (evName 5) (evCons (ev2 gMul (ev2 gMul (evName 10) (ev2 gDget (ev2L gIx 11 (ev2 gSub (evName 10) (evC (.int 1)))) (evName 5))) (evIf (ev2 gEqS (ev2 gMod (evName 10) (evC (.int 2))) (evC (.int 1))) (evC (.int 1)) (ev1 gNeg (evC (.int 1))))) evNil)))) evNil)) evNil)))) evNx)
abbrev n4 : En → O := (evDrop (evAppend 8 (evName 12)))
abbrev n5 : En → O := (evSet 21 (evBO gDict (evCons (evComp (evIA rng1Of (evCons (evName 19) evNil)) ([(("at" : Str), 24)].map (·.2)) (stName 24) (evC (.bool true)) (evTup (evCons (evB gTup (evCons (evComp (evIA rng1Of (evCons (evName 19) evNil)) ([(("i" : Str), 25)].map (·.2)) (stName 25) (evC (.bool true)) (ev2 gMul (evName 10) (evB gInt (evCons (ev2 gEqS (evName 25) (evName 24)) evNil)))) evNil)) (evCons (evC (.int 1)) evNil)))) evNil)))
abbrev n6 : En → O := (evIfS (ev2 gNeD (evTold toldN "range" "other" F__law_read (evCall F_elementary (evCons (evName 19) (evCons (evCall F__law_passed (evCons (evName 21) evNil)) evNil)))) (evTup (evCons (evC (.int 0)) (evCons (evCall F__law_passed (evCons (evName 12) evNil)) evNil)))) (evRet (evC (.bool false))) evNx)
abbrev nBody : En → O := (evSeq n1 (evSeq n2 (evSeq n3 (evSeq n4 (evSeq n5 n6)))))
abbrev b9 : En → O := evFor (evIA rng2Of (evCons (evC (.int 1)) (evCons (evC (.int 6)) evNil))) (stName 10) nBody
abbrev b10 : En → O := (evSet 5 (evB gTup (evCons (evComp (evIA rng1Of (evCons (evName 19) evNil)) ([(("k" : Str), 10)].map (·.2)) (stName 10) (evC (.bool true)) (evCallIO F__law_draw 1 (evCons (evC (.int 3)) evNil))) evNil)))
abbrev b11 : En → O := (evSet 20 (evCall F__law_plus (evCons (evName 22) (evCons (evDisp1 (evName 5) (evC (.int 1))) evNil))))
abbrev b12 : En → O := (evSet 14 (evComp (evI keysOf (evName 20)) ([(("other" : Str), 23)].map (·.2)) (stName 23) (ev2 gNeD (evComp (evIA rng1Of (evCons (ev2 gSub (evName 19) (evC (.int 1))) evNil)) ([(("k" : Str), 10)].map (·.2)) (stName 10) (ev2 gNeS (evGet2 20 (ev2 gCat (ev2 gCat (ev2 (gSl true) (evName 23) (evName 10)) (evTup (evCons (ev2L gIx 23 (ev2 gAdd (evName 10) (evC (.int 1)))) (evCons (ev2L gIx 23 (evName 10)) evNil)))) (ev2 (gSl false) (evName 23) (ev2 gAdd (evName 10) (evC (.int 2))))) (evC (.int 0))) (ev2L gDget 20 (evName 23))) (evC (.int 1))) (evLst evNil)) (evName 23)))
abbrev b13 : En → O := (evIfS (evT (evAnd (ev2 gNeD (evName 14) (evLst evNil)) (ev2 gNeD (evTold toldN "range" "other" F__law_read (evCall F_elementary (evCons (evName 19) (evCons (evCall F__law_passed (evCons (evName 20) evNil)) evNil)))) (evTup (evCons (evC (.int 1)) (evCons (evC (.str ("range" : Str))) evNil)))))) (evRet (evC (.bool false))) evNx)
abbrev b14 : En → O := (evSet 15 (evLst (evCons (evTup (evCons (evTup (evCons (evName 5) (evCons (evC (.int 0)) evNil))) evNil)) (evCons (evTup (evCons (evTup (evCons (evName 5) (evCons (evC (.int 1)) evNil))) (evCons (evTup (evCons (evName 5) (evCons (evC (.int 1)) evNil))) evNil))) (evCons (evTup (evCons (evTup (evCons (ev2 gRep (evTup (evCons (evC (.int 0)) evNil)) (ev2 gAdd (evName 19) (evC (.int 1)))) (evCons (evC (.int 1)) evNil))) evNil)) (evCons (evTup (evCons (evTup (evCons (evName 5) evNil)) evNil)) (evCons (evC (.int 3)) (evCons (evTup (evCons (evTup (evCons (evB gTup (evCons (evRepL (evLst (evCons (ev1 gNeg (evC (.int 1))) evNil)) (evName 19)) evNil)) (evCons (evC (.int 1)) evNil))) evNil)) (evCons (evTup (evCons (evTup (evCons (evC (.str ("a" : Str))) (evCons (evC (.int 1)) evNil))) evNil)) (evCons (evTup (evCons (evTup (evCons (evName 5) (evCons (evC (.str ("1" : Str))) evNil))) evNil)) evNil))))))))))
abbrev b15 : En → O := (evAsg (stTup 2 (stCons (stName 16) (stCons (stName 18) stNil))) (evTup (evCons (ev2L gIx 15 (evCallIO F__law_draw 1 (evCons (evBN gLen1 15) evNil))) (evCons (ev2 gIx (evLst (evCons (evC (.int 0)) (evCons (evC (.int 5)) (evCons (ev1 gNeg (evC (.int 1))) (evCons (evC (.str ("2" : Str))) evNil))))) (evCallIO F__law_draw 1 (evCons (evC (.int 4)) evNil))) evNil))))
abbrev b16 : En → O := (evIfS (ev2 gNeD (evTold toldN "range" "other" F__law_read (evCall F_elementary (evCons (evName 19) (evCons (evName 16) evNil)))) (evTup (evCons (evC (.int 1)) (evCons (evC (.str ("other" : Str))) evNil)))) (evRet (evC (.bool false))) evNx)
abbrev b17 : En → O := (evIfS (evT (evOr (ev2 gNeS (evBN gLen1 9) (ev2 gAdd (evName 19) (evC (.int 1)))) (ev2 gNeD (evTold toldN "range" "other" F__law_read (evCall F_elementary (evCons (evName 18) (evCons (evTup evNil) evNil)))) (evTup (evCons (evC (.int 1)) (evCons (evC (.str ("range" : Str))) evNil)))))) (evRet (evC (.bool false))) evNx)
abbrev b18 : En → O := (evSet 17 (evB gTup (evCons (evBO gSortL (evCons (evComp (evIA rng1Of (evCons (evName 19) evNil)) ([(("at" : Str), 24)].map (·.2)) (stName 24) (evC (.bool true)) (evTup (evCons (evB gTup (evCons (evComp (evIA rng1Of (evCons (evName 19) evNil)) ([(("i" : Str), 25)].map (·.2)) (stName 25) (evC (.bool true)) (ev2 gMul (evC (.int 9)) (evB gInt (evCons (ev2 gEqS (evName 25) (evName 24)) evNil)))) evNil)) (evCons (evC (.int 1)) evNil)))) evNil)) evNil)))
abbrev b19 : En → O := (evIfS (ev2 gNeD (evTold toldN "range" "other" F__law_read (evCall F_elementary (evCons (evName 19) (evCons (evName 17) evNil)))) (evTup (evCons (evC (.int 1)) (evCons (evC (.str ("range" : Str))) evNil)))) (evRet (evC (.bool false))) evNx)
abbrev lBody : En → O := (evSeq b1 (evSeq b2 (evSeq b3 (evSeq b4 (evSeq b5 (evSeq b6 (evSeq b7 (evSeq b8 (evSeq b9 (evSeq b10 (evSeq b11 (evSeq b12 (evSeq b13 (evSeq b14 (evSeq b15 (evSeq b16 (evSeq b17 (evSeq b18 b19))))))))))))))))))
theorem ev_law_eq : ev_law = evSeq (evSet 1 (evCall F__law_stream (evCons (evName 0) (evCons (evC (.int 0)) evNil)))) (evSeq (evFor (evIA rng1Of (evCons (evC (.int 2)) evNil)) (stName 2) lBody) (evRet (evC (.bool true)))) := rfl
abbrev E26 (x0 x1 x2 x3 x4 x5 x6 x7 x8 x9 x10 x11 x12 x13 x14 x15 x16 x17 x18 x19 x20 x21 x22 x23 x24 x25 : Sl) : En := [x0, x1, x2, x3, x4, x5, x6, x7, x8, x9, x10, x11, x12, x13, x14, x15, x16, x17, x18, x19, x20, x21, x22, x23, x24, x25]
end K22
set_option Elab.async false
set_option linter.all false
set_option maxRecDepth 100000
set_option exponentiation.threshold 5000
-- SLOTS 26
namespace K22
open PySem PySem.Spec PyProof.Rows L2 LamX L3 EP EL
theorem callIO_ow {F : PyData → List PyData → FRes × PyData} {i : Nat} {f : En → RA} {e e1 : En} {ds : List PyData} {d0 d d' : PyData} {v : Vl} (h0 : e[i]? = some (.ow d0)) (h1 : f e = .ok ds e1) (h2 : e1[i]? = some (.ow d)) (h3 : F d ds = (.ok v, d')) {e2 : En} (h4 : e1.set i (.ow d') = e2) : evCallIO F i f e = .ok v e2 := by
  subst h4
  unfold evCallIO
  rw [h0]
  (try dsimp only)
  rw [h1]
  show (match e1[i]? with
    | some (.ow d) => (match (F d ds).1 with
      | .ok v => R.ok v (e1.set i (.ow (F d ds).2))
      | .exn c => .exn c (e1.set i (.ow (F d ds).2))
      | .bad => .bad)
    | _ => .bad) = _
  rw [h2]
  (try dsimp only)
  rw [h3]
/-- n -/
theorem b1_ok {d : PyData} (hd : Bx d) {x0 x1 x2 x3 x4 x5 x6 x7 x8 x9 x10 x11 x12 x13 x14 x15 x16 x17 x18 x19 x20 x21 x22 x23 x24 x25 : Sl} : ∃ (n : Nat) (d' : PyData), n ∈ [1, 2, 3, 4] ∧ Bx d' ∧ b1 (E26 x0 (.ow d) x2 x3 x4 x5 x6 x7 x8 x9 x10 x11 x12 x13 x14 x15 x16 x17 x18 x19 x20 x21 x22 x23 x24 x25) = .nx (E26 x0 (.ow d') x2 x3 x4 x5 x6 x7 x8 x9 x10 x11 x12 x13 x14 x15 x16 x17 x18 (.fz (.int (n : Int))) x20 x21 x22 x23 x24 x25) := by
  obtain ⟨c, d', h, c0, c1, hd'⟩ := draw_ok hd (high := 4) (by decide) (by decide)
  refine ⟨c.toNat + 1, d', ?_, hd', ?_⟩
  · simp only [List.mem_cons, List.not_mem_nil, or_false]
    omega
  · have g : evCons (evC (.int 4)) evNil (E26 x0 (.ow d) x2 x3 x4 x5 x6 x7 x8 x9 x10 x11 x12 x13 x14 x15 x16 x17 x18 x19 x20 x21 x22 x23 x24 x25) = .ok [.int 4] (E26 x0 (.ow d) x2 x3 x4 x5 x6 x7 x8 x9 x10 x11 x12 x13 x14 x15 x16 x17 x18 x19 x20 x21 x22 x23 x24 x25) := rfl
    have k : evCallIO F__law_draw 1 (evCons (evC (.int 4)) evNil) (E26 x0 (.ow d) x2 x3 x4 x5 x6 x7 x8 x9 x10 x11 x12 x13 x14 x15 x16 x17 x18 x19 x20 x21 x22 x23 x24 x25) = .ok (.fz (.int c)) (E26 x0 (.ow d') x2 x3 x4 x5 x6 x7 x8 x9 x10 x11 x12 x13 x14 x15 x16 x17 x18 x19 x20 x21 x22 x23 x24 x25) := callIO_ow rfl g rfl h rfl
    have g2 : gAdd (.int 1) (.int c) = some (.int ((c.toNat + 1 : Nat) : Int)) := congrArg (fun z => some (PyData.int z)) (show (1 : Int) + c = ((c.toNat + 1 : Nat) : Int) by omega)
    have a : ev2 gAdd (evC (.int 1)) (evCallIO F__law_draw 1 (evCons (evC (.int 4)) evNil)) (E26 x0 (.ow d) x2 x3 x4 x5 x6 x7 x8 x9 x10 x11 x12 x13 x14 x15 x16 x17 x18 x19 x20 x21 x22 x23 x24 x25) = .ok (.fz (.int ((c.toNat + 1 : Nat) : Int))) (E26 x0 (.ow d') x2 x3 x4 x5 x6 x7 x8 x9 x10 x11 x12 x13 x14 x15 x16 x17 x18 x19 x20 x21 x22 x23 x24 x25) := ev2_ok (v := .fz (.int 1)) rfl k g2
    exact evSet_ok a rfl
/-- what is told so far -/
structure Tl (n : Nat) (S : Pol) : Prop where
  nd : (keys S).Nodup
  len : ∀ q ∈ S, q.1.length = n
  nn : ∀ q ∈ S, ∀ z ∈ q.1, 0 ≤ z
  wt : ∀ q ∈ S, wtFrom 0 q.1 ≤ 8
  bd : ∀ q ∈ S, q.2.natAbs < 2 ^ 1000
theorem Tl.put {n : Nat} {S : Pol} {m : Mon} {c : Int} (T : Tl n S) (h1 : m.length = n) (h2 : ∀ z ∈ m, 0 ≤ z) (h3 : wtFrom 0 m ≤ 8) (h4 : c.natAbs < 2 ^ 1000) : Tl n (putP S m c) :=
  ⟨nodup_put T.nd, fun q hq => by rcases mem_put hq with rfl | hq; exact h1; exact T.len q hq, fun q hq => by rcases mem_put hq with rfl | hq; exact h2; exact T.nn q hq, fun q hq => by rcases mem_put hq with rfl | hq; exact h3; exact T.wt q hq,
    fun q hq => by rcases mem_put hq with rfl | hq; exact h4; exact T.bd q hq⟩
theorem wtFrom_append : ∀ (x : Mon) (j : Nat) (o : Int), wtFrom j (x ++ [o]) = wtFrom j x + o * ((j + x.length + 1 : Nat) : Int)
  | [], j, o => by simp [wtFrom]
  | a :: x, j, o => by
    rw [List.cons_append]
    unfold wtFrom
    rw [wtFrom_append x (j + 1) o, List.length_cons]
    have : (j + 1 + x.length + 1 : Nat) = j + (x.length + 1) + 1 := by omega
    rw [this]
    omega
theorem put_length {S : Pol} {m : Mon} {c : Int} : (putP S m c).length ≤ S.length + 1 := by
  unfold putP
  split
  · rw [List.length_map]; omega
  · rw [List.length_append, List.length_singleton]; omega
/-- one digit of a spot -/
theorem d2_step {n : Nat} {L l : Int} {sp : Mon} {d : PyData} (hd : Bx d) (hj : sp.length < n) (h4 : n ≤ 4) (l0 : 0 ≤ l) (l8 : l ≤ 8) (hL : l + wtFrom 0 sp = L) (hnn : ∀ z ∈ sp, 0 ≤ z) {x0 x1 x2 x3 x4 x5 x6 x7 x8 x9 x10 x11 x12 x13 x14 x15 x16 x17 x18 x19 x20 x21 x22 x23 x24 x25 : Sl} :
    ∃ (o : Int) (d' : PyData) (l' : Int), Bx d' ∧ 0 ≤ o ∧ 0 ≤ l' ∧ l' ≤ 8 ∧ l' + wtFrom 0 (sp ++ [o]) = L ∧
      evSeq d2_1 d2_2 (E26 x0 (.ow d) x2 x3 x4 (.ow (.list (sp.map .int))) (.fz (.int l)) (.fz (.int (0 + (sp.length : Nat)))) x8 x9 x10 x11 x12 x13 x14 x15 x16 x17 x18 x19 x20 x21 x22 x23 x24 x25) = .nx (E26 x0 (.ow d') x2 x3 x4 (.ow (.list ((sp ++ [o]).map .int))) (.fz (.int l')) (.fz (.int (0 + (sp.length : Nat)))) x8 x9 x10 x11 x12 x13 x14 x15 x16 x17 x18 x19 x20 x21 x22 x23 x24 x25) := by
  have j1 : (0 : Int) < (sp.length : Int) + 1 := by omega
  have dv0 : 0 ≤ l / ((sp.length : Int) + 1) := Int.ediv_nonneg l0 (by omega)
  have hg : ∃ hi : Int, gMin2 [.int 3, .int (l / ((sp.length : Int) + 1))] = some (.int hi) ∧ 0 ≤ hi ∧ hi ≤ 3 ∧ hi ≤ l / ((sp.length : Int) + 1) := by
    refine ⟨if l / ((sp.length : Int) + 1) < 3 then l / ((sp.length : Int) + 1) else 3, rfl, ?_, ?_, ?_⟩ <;> split <;> omega
  obtain ⟨hi, g1, hi0, hi3, hid⟩ := hg
  obtain ⟨o, d', h, o0, o1, hd'⟩ := draw_ok hd (high := 1 + hi) (by omega) (by omega)
  have ho : o * ((sp.length : Int) + 1) ≤ l := by
    have : o ≤ l / ((sp.length : Int) + 1) := by omega
    have e := Int.mul_ediv_self_le (x := l) (k := (sp.length : Int) + 1) (by omega)
    have := Int.mul_le_mul_of_nonneg_right this (show 0 ≤ (sp.length : Int) + 1 by omega)
    rw [Int.mul_comm ((sp.length : Int) + 1)] at e
    omega
  have hp : 0 ≤ o * ((sp.length : Int) + 1) := Int.mul_nonneg o0 (by omega)
  refine ⟨o, d', l - ((sp.length : Int) + 1) * o, hd', o0, by rw [Int.mul_comm]; omega, by rw [Int.mul_comm]; omega, ?_, ?_⟩
  · rw [wtFrom_append, ← hL, show ((0 + sp.length + 1 : Nat) : Int) = (sp.length : Int) + 1 by omega, Int.mul_comm ((sp.length : Int) + 1)]
    omega
  · have z0 : (0 + (sp.length : Nat) : Int) = (sp.length : Int) := Int.zero_add _
    rw [z0]
    have a1 : ev2 gAdd (evName 7) (evC (.int 1)) (E26 x0 (.ow d) x2 x3 x4 (.ow (.list (sp.map .int))) (.fz (.int l)) (.fz (.int (sp.length : Int))) x8 x9 x10 x11 x12 x13 x14 x15 x16 x17 x18 x19 x20 x21 x22 x23 x24 x25) = .ok (.fz (.int ((sp.length : Int) + 1))) (E26 x0 (.ow d) x2 x3 x4 (.ow (.list (sp.map .int))) (.fz (.int l)) (.fz (.int (sp.length : Int))) x8 x9 x10 x11 x12 x13 x14 x15 x16 x17 x18 x19 x20 x21 x22 x23 x24 x25) := rfl
    have gd : gDiv (.int l) (.int ((sp.length : Int) + 1)) = some (.int (l / ((sp.length : Int) + 1))) := by
      unfold gDiv gIc
      simp only []
      rw [if_pos]
      rw [Bool.and_eq_true]
      refine ⟨decide_eq_true j1, decide_eq_true ?_⟩
      have := (Nat.log2_lt (n := ((sp.length : Int) + 1).natAbs) (k := 10) (by omega)).mpr (by omega)
      omega
    have a2 : ev2 gDiv (evName 6) (ev2 gAdd (evName 7) (evC (.int 1))) (E26 x0 (.ow d) x2 x3 x4 (.ow (.list (sp.map .int))) (.fz (.int l)) (.fz (.int (sp.length : Int))) x8 x9 x10 x11 x12 x13 x14 x15 x16 x17 x18 x19 x20 x21 x22 x23 x24 x25) = .ok (.fz (.int (l / ((sp.length : Int) + 1)))) (E26 x0 (.ow d) x2 x3 x4 (.ow (.list (sp.map .int))) (.fz (.int l)) (.fz (.int (sp.length : Int))) x8 x9 x10 x11 x12 x13 x14 x15 x16 x17 x18 x19 x20 x21 x22 x23 x24 x25) := ev2_ok (v := .fz (.int l)) rfl a1 gd
    have a3 : evB gMin2 (evCons (evC (.int 3)) (evCons (ev2 gDiv (evName 6) (ev2 gAdd (evName 7) (evC (.int 1)))) evNil)) (E26 x0 (.ow d) x2 x3 x4 (.ow (.list (sp.map .int))) (.fz (.int l)) (.fz (.int (sp.length : Int))) x8 x9 x10 x11 x12 x13 x14 x15 x16 x17 x18 x19 x20 x21 x22 x23 x24 x25) = .ok (.fz (.int hi)) (E26 x0 (.ow d) x2 x3 x4 (.ow (.list (sp.map .int))) (.fz (.int l)) (.fz (.int (sp.length : Int))) x8 x9 x10 x11 x12 x13 x14 x15 x16 x17 x18 x19 x20 x21 x22 x23 x24 x25) := evB_ok (evCons_ok (v := .fz (.int 3)) rfl (evCons_ok a2 evNil_ok)) g1
    have a4 : ev2 gAdd (evC (.int 1)) (evB gMin2 (evCons (evC (.int 3)) (evCons (ev2 gDiv (evName 6) (ev2 gAdd (evName 7) (evC (.int 1)))) evNil))) (E26 x0 (.ow d) x2 x3 x4 (.ow (.list (sp.map .int))) (.fz (.int l)) (.fz (.int (sp.length : Int))) x8 x9 x10 x11 x12 x13 x14 x15 x16 x17 x18 x19 x20 x21 x22 x23 x24 x25) = .ok (.fz (.int (1 + hi))) (E26 x0 (.ow d) x2 x3 x4 (.ow (.list (sp.map .int))) (.fz (.int l)) (.fz (.int (sp.length : Int))) x8 x9 x10 x11 x12 x13 x14 x15 x16 x17 x18 x19 x20 x21 x22 x23 x24 x25) := ev2_ok (v := .fz (.int 1)) rfl a3 rfl
    have a5 : evCallIO F__law_draw 1 (evCons (ev2 gAdd (evC (.int 1)) (evB gMin2 (evCons (evC (.int 3)) (evCons (ev2 gDiv (evName 6) (ev2 gAdd (evName 7) (evC (.int 1)))) evNil)))) evNil) (E26 x0 (.ow d) x2 x3 x4 (.ow (.list (sp.map .int))) (.fz (.int l)) (.fz (.int (sp.length : Int))) x8 x9 x10 x11 x12 x13 x14 x15 x16 x17 x18 x19 x20 x21 x22 x23 x24 x25) = .ok (.fz (.int o)) (E26 x0 (.ow d') x2 x3 x4 (.ow (.list (sp.map .int))) (.fz (.int l)) (.fz (.int (sp.length : Int))) x8 x9 x10 x11 x12 x13 x14 x15 x16 x17 x18 x19 x20 x21 x22 x23 x24 x25) := callIO_ow rfl (evCons_ok a4 evNil_ok) rfl h rfl
    have s1 : d2_1 (E26 x0 (.ow d) x2 x3 x4 (.ow (.list (sp.map .int))) (.fz (.int l)) (.fz (.int (sp.length : Int))) x8 x9 x10 x11 x12 x13 x14 x15 x16 x17 x18 x19 x20 x21 x22 x23 x24 x25) = .nx (E26 x0 (.ow d') x2 x3 x4 (.ow (.list ((sp ++ [o]).map .int))) (.fz (.int l)) (.fz (.int (sp.length : Int))) x8 x9 x10 x11 x12 x13 x14 x15 x16 x17 x18 x19 x20 x21 x22 x23 x24 x25) := by
      refine evDrop_ok (v := .fz .none) ?_
      unfold evAppend
      rw [show ((E26 x0 (.ow d) x2 x3 x4 (.ow (.list (sp.map .int))) (.fz (.int l)) (.fz (.int (sp.length : Int))) x8 x9 x10 x11 x12 x13 x14 x15 x16 x17 x18 x19 x20 x21 x22 x23 x24 x25))[5]? = some (Sl.ow (.list (sp.map .int))) from rfl]
      (try dsimp only)
      rw [a5]
      show (if (sp.map PyData.int).length < 16777216 then R.ok (.fz .none) _ else .bad) = _
      rw [if_pos (by rw [List.length_map]; omega), List.map_append]
      rfl
    have gx : gIx (.list ((sp ++ [o]).map .int)) (.int (sp.length : Int)) = some (.int o) := by
      show L2.atI ((sp ++ [o]).map PyData.int) (sp.length : Int) = _
      rw [EL.atI_nat, List.getElem?_map, List.getElem?_append_right (Nat.le_refl _), Nat.sub_self]
      rfl
    have a6 : ev2L gIx 5 (evName 7) (E26 x0 (.ow d') x2 x3 x4 (.ow (.list ((sp ++ [o]).map .int))) (.fz (.int l)) (.fz (.int (sp.length : Int))) x8 x9 x10 x11 x12 x13 x14 x15 x16 x17 x18 x19 x20 x21 x22 x23 x24 x25) = .ok (.fz (.int o)) (E26 x0 (.ow d') x2 x3 x4 (.ow (.list ((sp ++ [o]).map .int))) (.fz (.int l)) (.fz (.int (sp.length : Int))) x8 x9 x10 x11 x12 x13 x14 x15 x16 x17 x18 x19 x20 x21 x22 x23 x24 x25) := ev2L_ok (d0 := .list ((sp ++ [o]).map .int)) (d1 := .list ((sp ++ [o]).map .int)) (w := .fz (.int (sp.length : Int))) rfl rfl rfl gx
    have a7 : ev2 gAdd (evName 7) (evC (.int 1)) (E26 x0 (.ow d') x2 x3 x4 (.ow (.list ((sp ++ [o]).map .int))) (.fz (.int l)) (.fz (.int (sp.length : Int))) x8 x9 x10 x11 x12 x13 x14 x15 x16 x17 x18 x19 x20 x21 x22 x23 x24 x25) = .ok (.fz (.int ((sp.length : Int) + 1))) (E26 x0 (.ow d') x2 x3 x4 (.ow (.list ((sp ++ [o]).map .int))) (.fz (.int l)) (.fz (.int (sp.length : Int))) x8 x9 x10 x11 x12 x13 x14 x15 x16 x17 x18 x19 x20 x21 x22 x23 x24 x25) := rfl
    have sm : ∀ x : Int, 0 ≤ x → x ≤ 1000 → Sm x := fun x h1 h2 => Nat.lt_of_le_of_lt (show x.natAbs ≤ 1000 by omega) (by decide)
    have gm : gMul (.int ((sp.length : Int) + 1)) (.int o) = some (.int (((sp.length : Int) + 1) * o)) := mul_ok (sm _ (by omega) (by omega)) (sm _ o0 (by omega))
    have a8 : ev2 gMul (ev2 gAdd (evName 7) (evC (.int 1))) (ev2L gIx 5 (evName 7)) (E26 x0 (.ow d') x2 x3 x4 (.ow (.list ((sp ++ [o]).map .int))) (.fz (.int l)) (.fz (.int (sp.length : Int))) x8 x9 x10 x11 x12 x13 x14 x15 x16 x17 x18 x19 x20 x21 x22 x23 x24 x25) = .ok (.fz (.int (((sp.length : Int) + 1) * o))) (E26 x0 (.ow d') x2 x3 x4 (.ow (.list ((sp ++ [o]).map .int))) (.fz (.int l)) (.fz (.int (sp.length : Int))) x8 x9 x10 x11 x12 x13 x14 x15 x16 x17 x18 x19 x20 x21 x22 x23 x24 x25) := ev2_ok a7 a6 gm
    have s2 : d2_2 (E26 x0 (.ow d') x2 x3 x4 (.ow (.list ((sp ++ [o]).map .int))) (.fz (.int l)) (.fz (.int (sp.length : Int))) x8 x9 x10 x11 x12 x13 x14 x15 x16 x17 x18 x19 x20 x21 x22 x23 x24 x25) = .nx (E26 x0 (.ow d') x2 x3 x4 (.ow (.list ((sp ++ [o]).map .int))) (.fz (.int (l - ((sp.length : Int) + 1) * o))) (.fz (.int (sp.length : Int))) x8 x9 x10 x11 x12 x13 x14 x15 x16 x17 x18 x19 x20 x21 x22 x23 x24 x25) :=
      evSet_ok (ev2_ok (v := .fz (.int l)) rfl a8 rfl) rfl
    exact run_seq s1 s2
/-- all digits -/
theorem d2_loop {n : Nat} {L : Int} (h4 : n ≤ 4) : ∀ (k : Nat) {l : Int} {sp : Mon} {d : PyData}, Bx d → sp.length + k = n → 0 ≤ l → l ≤ 8 → l + wtFrom 0 sp = L → (∀ z ∈ sp, 0 ≤ z) → ∀ {x0 x1 x2 x3 x4 x5 x6 x7 x8 x9 x10 x11 x12 x13 x14 x15 x16 x17 x18 x19 x20 x21 x22 x23 x24 x25 : Sl},
    ∃ (t : Mon) (d' : PyData) (y6 y7 : Sl), Bx d' ∧ t.length = n ∧ (∀ z ∈ t, 0 ≤ z) ∧ wtFrom 0 t ≤ L ∧
      evLoop (stName 7) (evSeq d2_1 d2_2) ((List.range' sp.length k).map fun i : Nat => PyData.int (0 + (i : Nat))) (E26 x0 (.ow d) x2 x3 x4 (.ow (.list (sp.map .int))) (.fz (.int l)) x7 x8 x9 x10 x11 x12 x13 x14 x15 x16 x17 x18 x19 x20 x21 x22 x23 x24 x25) = .nx (E26 x0 (.ow d') x2 x3 x4 (.ow (.list (t.map .int))) y6 y7 x8 x9 x10 x11 x12 x13 x14 x15 x16 x17 x18 x19 x20 x21 x22 x23 x24 x25)
  | 0, l, sp, d, hd, hl, l0, l8, hL, hn, x0, x1, x2, x3, x4, x5, x6, x7, x8, x9, x10, x11, x12, x13, x14, x15, x16, x17, x18, x19, x20, x21, x22, x23, x24, x25 =>
    ⟨sp, d, .fz (.int l), x7, hd, by omega, hn, by omega, rfl⟩
  | k + 1, l, sp, d, hd, hl, l0, l8, hL, hn, x0, x1, x2, x3, x4, x5, x6, x7, x8, x9, x10, x11, x12, x13, x14, x15, x16, x17, x18, x19, x20, x21, x22, x23, x24, x25 => by
    obtain ⟨o, d', l', hd', o0, l0', l8', hL', hs⟩ := d2_step hd (n := n) (by omega) h4 l0 l8 hL hn (x0 := x0) (x1 := x1) (x2 := x2) (x3 := x3) (x4 := x4) (x5 := x5) (x6 := x6) (x7 := x7) (x8 := x8) (x9 := x9) (x10 := x10) (x11 := x11) (x12 := x12) (x13 := x13) (x14 := x14) (x15 := x15) (x16 := x16) (x17 := x17) (x18 := x18) (x19 := x19) (x20 := x20) (x21 := x21) (x22 := x22) (x23 := x23) (x24 := x24) (x25 := x25)
    obtain ⟨t, d'', y6, y7, hd'', lt, nt, wt, he⟩ := d2_loop (L := L) h4 k (l := l') (sp := sp ++ [o]) hd' (by rw [List.length_append, List.length_singleton]; omega) l0' l8' hL' (fun z hz => by
      rcases List.mem_append.mp hz with hz | hz
      · exact hn z hz
      · rw [List.mem_singleton.mp hz]; exact o0) (x0 := x0) (x1 := x1) (x2 := x2) (x3 := x3) (x4 := x4) (x5 := x5) (x6 := x6) (x7 := .fz (.int (0 + (sp.length : Nat)))) (x8 := x8) (x9 := x9) (x10 := x10) (x11 := x11) (x12 := x12) (x13 := x13) (x14 := x14) (x15 := x15) (x16 := x16) (x17 := x17) (x18 := x18) (x19 := x19) (x20 := x20) (x21 := x21) (x22 := x22) (x23 := x23) (x24 := x24) (x25 := x25)
    refine ⟨t, d'', y6, y7, hd'', lt, nt, wt, ?_⟩
    rw [List.range'_succ, List.map_cons]
    rw [List.length_append, List.length_singleton] at he
    exact (evLoop_step (e1 := (E26 x0 (.ow d) x2 x3 x4 (.ow (.list (sp.map .int))) (.fz (.int l)) (.fz (.int (0 + (sp.length : Nat)))) x8 x9 x10 x11 x12 x13 x14 x15 x16 x17 x18 x19 x20 x21 x22 x23 x24 x25)) rfl hs).trans he
/-- one term -/
theorem d_step {n : Nat} (hn : n ∈ [1, 2, 3, 4]) {S : Pol} {d : PyData} (hd : Bx d) (T : Tl n S) (hl : S.length ≤ 1000) {x0 x1 x2 x3 x4 x5 x6 x7 x8 x9 x10 x11 x12 x13 x14 x15 x16 x17 x18 x19 x20 x21 x22 x23 x24 x25 : Sl} :
    ∃ (S' : Pol) (d' : PyData) (y5 y6 y7 : Sl), Bx d' ∧ Tl n S' ∧ S'.length ≤ S.length + 1 ∧ dBody (E26 x0 (.ow d) x2 (.ow (dP S)) x4 x5 x6 x7 x8 x9 x10 x11 x12 x13 x14 x15 x16 x17 x18 (.fz (.int (n : Int))) x20 x21 x22 x23 x24 x25) = .nx (E26 x0 (.ow d') x2 (.ow (dP S')) x4 y5 y6 y7 x8 x9 x10 x11 x12 x13 x14 x15 x16 x17 x18 (.fz (.int (n : Int))) x20 x21 x22 x23 x24 x25) := by
  have h14 := nz4 hn
  have s1 : ∃ L : Int, 0 ≤ L ∧ L ≤ 8 ∧ d1 (E26 x0 (.ow d) x2 (.ow (dP S)) x4 x5 x6 x7 x8 x9 x10 x11 x12 x13 x14 x15 x16 x17 x18 (.fz (.int (n : Int))) x20 x21 x22 x23 x24 x25) = .nx (E26 x0 (.ow d) x2 (.ow (dP S)) x4 (.ow (.list ([].map .int))) (.fz (.int L)) x7 x8 x9 x10 x11 x12 x13 x14 x15 x16 x17 x18 (.fz (.int (n : Int))) x20 x21 x22 x23 x24 x25) := by
    simp only [List.mem_cons, List.not_mem_nil, or_false] at hn
    rcases hn with rfl | rfl | rfl | rfl
    · exact ⟨8, by decide, by decide, rfl⟩
    · exact ⟨8, by decide, by decide, rfl⟩
    · exact ⟨8, by decide, by decide, rfl⟩
    · exact ⟨6, by decide, by decide, rfl⟩
  obtain ⟨L, L0, L8, s1⟩ := s1
  obtain ⟨t, d', y6, y7, hd', lt, nt, wt, he⟩ := d2_loop (n := n) (L := L) h14.2 n (l := L) (sp := []) hd (by simp) L0 L8 (by unfold wtFrom; omega) (fun z hz => by cases hz) (x0 := x0) (x1 := x1) (x2 := x2) (x3 := .ow (dP S)) (x4 := x4) (x5 := x5) (x6 := x6) (x7 := x7) (x8 := x8) (x9 := x9) (x10 := x10) (x11 := x11) (x12 := x12) (x13 := x13) (x14 := x14) (x15 := x15) (x16 := x16) (x17 := x17) (x18 := x18) (x19 := .fz (.int (n : Int))) (x20 := x20) (x21 := x21) (x22 := x22) (x23 := x23) (x24 := x24) (x25 := x25)
  have g2 : evIA rng1Of (evCons (evName 19) evNil) (E26 x0 (.ow d) x2 (.ow (dP S)) x4 (.ow (.list ([].map .int))) (.fz (.int L)) x7 x8 x9 x10 x11 x12 x13 x14 x15 x16 x17 x18 (.fz (.int (n : Int))) x20 x21 x22 x23 x24 x25) = .ok ((List.range' 0 n).map fun i : Nat => PyData.int (0 + (i : Nat))) (E26 x0 (.ow d) x2 (.ow (dP S)) x4 (.ow (.list ([].map .int))) (.fz (.int L)) x7 x8 x9 x10 x11 x12 x13 x14 x15 x16 x17 x18 (.fz (.int (n : Int))) x20 x21 x22 x23 x24 x25) := by
    have := rng1_ok n (by omega)
    unfold rngD at this
    rw [List.range_eq_range'] at this
    exact evIA_ok (ds := [.int (n : Int)]) rfl this
  obtain ⟨c, d'', h, c0, c1, hd''⟩ := draw_ok hd' (high := 21) (by decide) (by decide)
  refine ⟨putP S t (c - 10), d'', .fz (.list (t.map .int)), y6, y7, hd'', T.put lt nt (by omega) (Nat.lt_of_le_of_lt (show (c - 10).natAbs ≤ 10 by omega) (by decide)), put_length, ?_⟩
  refine run_seq s1 (run_seq (run_for g2 he) ?_)
  have ne : NeP S := fun q hq => ne_of_len (T.len q hq) hn
  have a1 : evCallIO F__law_draw 1 (evCons (evC (.int 21)) evNil) (E26 x0 (.ow d') x2 (.ow (dP S)) x4 (.ow (.list (t.map .int))) y6 y7 x8 x9 x10 x11 x12 x13 x14 x15 x16 x17 x18 (.fz (.int (n : Int))) x20 x21 x22 x23 x24 x25) = .ok (.fz (.int c)) (E26 x0 (.ow d'') x2 (.ow (dP S)) x4 (.ow (.list (t.map .int))) y6 y7 x8 x9 x10 x11 x12 x13 x14 x15 x16 x17 x18 (.fz (.int (n : Int))) x20 x21 x22 x23 x24 x25) := callIO_ow (ds := [.int 21]) (e1 := (E26 x0 (.ow d') x2 (.ow (dP S)) x4 (.ow (.list (t.map .int))) y6 y7 x8 x9 x10 x11 x12 x13 x14 x15 x16 x17 x18 (.fz (.int (n : Int))) x20 x21 x22 x23 x24 x25)) rfl rfl rfl h rfl
  have a2 : ev2 gSub (evCallIO F__law_draw 1 (evCons (evC (.int 21)) evNil)) (evC (.int 10)) (E26 x0 (.ow d') x2 (.ow (dP S)) x4 (.ow (.list (t.map .int))) y6 y7 x8 x9 x10 x11 x12 x13 x14 x15 x16 x17 x18 (.fz (.int (n : Int))) x20 x21 x22 x23 x24 x25) = .ok (.fz (.int (c - 10))) (E26 x0 (.ow d'') x2 (.ow (dP S)) x4 (.ow (.list (t.map .int))) y6 y7 x8 x9 x10 x11 x12 x13 x14 x15 x16 x17 x18 (.fz (.int (n : Int))) x20 x21 x22 x23 x24 x25) := ev2_ok (w := .fz (.int 10)) a1 rfl rfl
  have a3 : evB gTup (evCons (evName 5) evNil) (E26 x0 (.ow d'') x2 (.ow (dP S)) x4 (.ow (.list (t.map .int))) y6 y7 x8 x9 x10 x11 x12 x13 x14 x15 x16 x17 x18 (.fz (.int (n : Int))) x20 x21 x22 x23 x24 x25) = .ok (.fz (tM t)) (E26 x0 (.ow d'') x2 (.ow (dP S)) x4 (.fz (.list (t.map .int))) y6 y7 x8 x9 x10 x11 x12 x13 x14 x15 x16 x17 x18 (.fz (.int (n : Int))) x20 x21 x22 x23 x24 x25) := rfl
  refine evDPut_ok (kvs := dL S) (kvs' := dL S) (k := kM t) a2 rfl a3 rfl (keyOfT_tM (ne_of_len lt hn)) (by rw [dL_length]; omega) ?_
  rw [show datOf (Vl.fz (.int (c - 10))) = .int (c - 10) from rfl, dPut_dL ne]
  rfl
theorem d_loop {n : Nat} (hn : n ∈ [1, 2, 3, 4]) : ∀ (ds : List PyData) {S : Pol} {d : PyData}, Bx d → Tl n S → S.length + ds.length ≤ 900 → ∀ {x0 x1 x2 x3 x4 x5 x6 x7 x8 x9 x10 x11 x12 x13 x14 x15 x16 x17 x18 x19 x20 x21 x22 x23 x24 x25 : Sl},
    ∃ (S' : Pol) (d' : PyData) (y4 y5 y6 y7 : Sl), Bx d' ∧ Tl n S' ∧ S'.length ≤ 900 ∧ evLoop (stName 4) dBody ds (E26 x0 (.ow d) x2 (.ow (dP S)) x4 x5 x6 x7 x8 x9 x10 x11 x12 x13 x14 x15 x16 x17 x18 (.fz (.int (n : Int))) x20 x21 x22 x23 x24 x25) = .nx (E26 x0 (.ow d') x2 (.ow (dP S')) y4 y5 y6 y7 x8 x9 x10 x11 x12 x13 x14 x15 x16 x17 x18 (.fz (.int (n : Int))) x20 x21 x22 x23 x24 x25)
  | [], S, d, hd, T, hl, x0, x1, x2, x3, x4, x5, x6, x7, x8, x9, x10, x11, x12, x13, x14, x15, x16, x17, x18, x19, x20, x21, x22, x23, x24, x25 => ⟨S, d, x4, x5, x6, x7, hd, T, by simpa using hl, rfl⟩
  | t :: ds, S, d, hd, T, hl, x0, x1, x2, x3, x4, x5, x6, x7, x8, x9, x10, x11, x12, x13, x14, x15, x16, x17, x18, x19, x20, x21, x22, x23, x24, x25 => by
    rw [List.length_cons] at hl
    obtain ⟨S', d', y5, y6, y7, hd', T', l', h⟩ := d_step hn hd T (by omega) (x0 := x0) (x1 := x1) (x2 := x2) (x3 := x3) (x4 := .fz t) (x5 := x5) (x6 := x6) (x7 := x7) (x8 := x8) (x9 := x9) (x10 := x10) (x11 := x11) (x12 := x12) (x13 := x13) (x14 := x14) (x15 := x15) (x16 := x16) (x17 := x17) (x18 := x18) (x19 := x19) (x20 := x20) (x21 := x21) (x22 := x22) (x23 := x23) (x24 := x24) (x25 := x25)
    obtain ⟨S'', d'', z4, z5, z6, z7, hd'', T'', l'', h'⟩ := d_loop hn ds (S := S') hd' T' (by omega) (x0 := x0) (x1 := x1) (x2 := x2) (x3 := x3) (x4 := .fz t) (x5 := y5) (x6 := y6) (x7 := y7) (x8 := x8) (x9 := x9) (x10 := x10) (x11 := x11) (x12 := x12) (x13 := x13) (x14 := x14) (x15 := x15) (x16 := x16) (x17 := x17) (x18 := x18) (x19 := x19) (x20 := x20) (x21 := x21) (x22 := x22) (x23 := x23) (x24 := x24) (x25 := x25)
    exact ⟨S'', d'', z4, z5, z6, z7, hd'', T'', l'', (evLoop_step (e1 := (E26 x0 (.ow d) x2 (.ow (dP S)) (.fz t) x5 x6 x7 x8 x9 x10 x11 x12 x13 x14 x15 x16 x17 x18 (.fz (.int (n : Int))) x20 x21 x22 x23 x24 x25)) rfl h).trans h'⟩
/-- what is told -/
theorem b3_ok {n : Nat} (hn : n ∈ [1, 2, 3, 4]) {d : PyData} (hd : Bx d) {x0 x1 x2 x3 x4 x5 x6 x7 x8 x9 x10 x11 x12 x13 x14 x15 x16 x17 x18 x19 x20 x21 x22 x23 x24 x25 : Sl} : ∃ (S : Pol) (d' : PyData) (y4 y5 y6 y7 : Sl), Bx d' ∧ Tl n S ∧ S.length ≤ 900 ∧ b3 (E26 x0 (.ow d) x2 (.ow (dP [])) x4 x5 x6 x7 x8 x9 x10 x11 x12 x13 x14 x15 x16 x17 x18 (.fz (.int (n : Int))) x20 x21 x22 x23 x24 x25) = .nx (E26 x0 (.ow d') x2 (.ow (dP S)) y4 y5 y6 y7 x8 x9 x10 x11 x12 x13 x14 x15 x16 x17 x18 (.fz (.int (n : Int))) x20 x21 x22 x23 x24 x25) := by
  obtain ⟨c, d', h, c0, c1, hd'⟩ := draw_ok hd (high := 5) (by decide) (by decide)
  have a1 : evCallIO F__law_draw 1 (evCons (evC (.int 5)) evNil) (E26 x0 (.ow d) x2 (.ow (dP [])) x4 x5 x6 x7 x8 x9 x10 x11 x12 x13 x14 x15 x16 x17 x18 (.fz (.int (n : Int))) x20 x21 x22 x23 x24 x25) = .ok (.fz (.int c)) (E26 x0 (.ow d') x2 (.ow (dP [])) x4 x5 x6 x7 x8 x9 x10 x11 x12 x13 x14 x15 x16 x17 x18 (.fz (.int (n : Int))) x20 x21 x22 x23 x24 x25) := callIO_ow (ds := [.int 5]) (e1 := (E26 x0 (.ow d) x2 (.ow (dP [])) x4 x5 x6 x7 x8 x9 x10 x11 x12 x13 x14 x15 x16 x17 x18 (.fz (.int (n : Int))) x20 x21 x22 x23 x24 x25)) rfl rfl rfl h rfl
  have g : evIA rng1Of (evCons (evCallIO F__law_draw 1 (evCons (evC (.int 5)) evNil)) evNil) (E26 x0 (.ow d) x2 (.ow (dP [])) x4 x5 x6 x7 x8 x9 x10 x11 x12 x13 x14 x15 x16 x17 x18 (.fz (.int (n : Int))) x20 x21 x22 x23 x24 x25) = .ok (rngD 0 c.toNat) (E26 x0 (.ow d') x2 (.ow (dP [])) x4 x5 x6 x7 x8 x9 x10 x11 x12 x13 x14 x15 x16 x17 x18 (.fz (.int (n : Int))) x20 x21 x22 x23 x24 x25) := by
    have := rng1_ok c.toNat (by omega)
    rw [Int.toNat_of_nonneg c0] at this
    exact evIA_ok (evCons_ok a1 evNil_ok) this
  obtain ⟨S, d'', y4, y5, y6, y7, hd'', T, l, e⟩ := d_loop hn (rngD 0 c.toNat) (S := []) hd' ⟨List.nodup_nil, fun q hq => (by cases hq), fun q hq => (by cases hq), fun q hq => (by cases hq), fun q hq => (by cases hq)⟩ (by rw [rngD_length]; simp; omega) (x0 := x0) (x1 := x1) (x2 := x2) (x3 := x3) (x4 := x4) (x5 := x5) (x6 := x6) (x7 := x7) (x8 := x8) (x9 := x9) (x10 := x10) (x11 := x11) (x12 := x12) (x13 := x13) (x14 := x14) (x15 := x15) (x16 := x16) (x17 := x17) (x18 := x18) (x19 := x19) (x20 := x20) (x21 := x21) (x22 := x22) (x23 := x23) (x24 := x24) (x25 := x25)
  exact ⟨S, d'', y4, y5, y6, y7, hd'', T, l, run_for g e⟩
theorem Tl.clean {n : Nat} {S : Pol} (T : Tl n S) : SOk n (cleanP S) ∧ (keys (cleanP S)).Nodup :=
  ⟨⟨⟨fun q hq => T.len q (List.mem_filter.mp hq).1, fun q hq => T.nn q (List.mem_filter.mp hq).1, clean_nz⟩, fun q hq => T.bd q (List.mem_filter.mp hq).1, fun q hq => T.wt q (List.mem_filter.mp hq).1⟩, keys_clean T.nd⟩
theorem b4_ok {n : Nat} (hn : n ∈ [1, 2, 3, 4]) {S : Pol} (T : Tl n S) (hl : S.length ≤ 900) {x0 x1 x2 x3 x4 x5 x6 x7 x8 x9 x10 x11 x12 x13 x14 x15 x16 x17 x18 x19 x20 x21 x22 x23 x24 x25 : Sl} : b4 (E26 x0 x1 x2 (.ow (dP S)) x4 x5 x6 x7 x8 x9 x10 x11 x12 x13 x14 x15 x16 x17 x18 x19 x20 x21 x22 x23 x24 x25) = .nx (E26 x0 x1 x2 (.ow (dP (cleanP S))) x4 x5 x6 x7 x8 x9 x10 x11 x12 x13 x14 x15 x16 x17 x18 x19 x20 x21 x22 x23 x24 x25) := by
  have ne : NeP S := fun q hq => ne_of_len (T.len q hq) hn
  have g : evCons (evName 3) evNil (E26 x0 x1 x2 (.ow (dP S)) x4 x5 x6 x7 x8 x9 x10 x11 x12 x13 x14 x15 x16 x17 x18 x19 x20 x21 x22 x23 x24 x25) = .ok [dP S] (E26 x0 x1 x2 (.fz (dP S)) x4 x5 x6 x7 x8 x9 x10 x11 x12 x13 x14 x15 x16 x17 x18 x19 x20 x21 x22 x23 x24 x25) := rfl
  exact evSet_ok (evCall_ok g (F_clean_ok ne T.nd (by omega))) rfl
theorem b5_ok {n : Nat} (hn : n ∈ [1, 2, 3, 4]) {S : Pol} (o : SOk n S) (nd : (keys S).Nodup) {x0 x1 x2 x3 x4 x5 x6 x7 x8 x9 x10 x11 x12 x13 x14 x15 x16 x17 x18 x19 x20 x21 x22 x23 x24 x25 : Sl} : b5 (E26 x0 x1 x2 (.ow (dP S)) x4 x5 x6 x7 x8 x9 x10 x11 x12 x13 x14 x15 x16 x17 x18 (.fz (.int (n : Int))) x20 x21 x22 x23 x24 x25) = .nx (E26 x0 x1 x2 (.fz (dP S)) x4 x5 x6 x7 x8 x9 x10 x11 x12 x13 x14 x15 x16 x17 x18 (.fz (.int (n : Int))) x20 x21 (.fz (dP (writtenP n S))) x23 x24 x25) := by
  have g : evCons (evName 19) (evCons (evName 3) evNil) (E26 x0 x1 x2 (.ow (dP S)) x4 x5 x6 x7 x8 x9 x10 x11 x12 x13 x14 x15 x16 x17 x18 (.fz (.int (n : Int))) x20 x21 x22 x23 x24 x25) = .ok [.int (n : Int), dP S] (E26 x0 x1 x2 (.fz (dP S)) x4 x5 x6 x7 x8 x9 x10 x11 x12 x13 x14 x15 x16 x17 x18 (.fz (.int (n : Int))) x20 x21 x22 x23 x24 x25) := rfl
  exact evSet_ok (evCall_ok g (F_written_ok hn o nd)) rfl
theorem el_sorted {n : Nat} (hn : n ∈ [1, 2, 3, 4]) {W S : Pol} (nw : (keys W).Nodup) (zw : ∀ x ∈ W, x.2 ≠ 0) (h : IsSum n W S) (o : SOk n S) (nd : (keys S).Nodup) (ls : S.length ≤ 900) : F_elementary [.int (n : Int), .tuple (tP (sortP W))] = .ok (.fz (.tuple (tP (sortP S)))) := by
  rw [F_el_eq]
  exact F_elementary_ok hn (sortP_asc nw) (fun x hx => zw x ((sortP_perm W).mem_iff.mp hx)) o nd ls fun k => by rw [cf_sortP nw, h]
theorem sok_read {n : Nat} (hn : n ∈ [1, 2, 3, 4]) {S : Pol} (o : SOk n S) (ls : S.length ≤ 900) : F__law_read [.tuple (tP (sortP S))] = .ok (.fz (.tuple (tP (sortP S)))) :=
  read_tP (by rw [(sortP_perm S).length_eq]; omega) fun q hq => by rw [o.ok.len q ((sortP_perm S).mem_iff.mp hq)]; have := nz4 hn; omega
/-- told(elementary(n, passed(whole))) == (0, passed(told)) -/
theorem b6_ok {n : Nat} (hn : n ∈ [1, 2, 3, 4]) {W S : Pol} (bw : BoxP n 8 W) (nw : (keys W).Nodup) (zw : ∀ x ∈ W, x.2 ≠ 0) (h : IsSum n W S) (o : SOk n S) (nd : (keys S).Nodup) (ls : S.length ≤ 900) {x0 x1 x2 x3 x4 x5 x6 x7 x8 x9 x10 x11 x12 x13 x14 x15 x16 x17 x18 x19 x20 x21 x22 x23 x24 x25 : Sl} : b6 (E26 x0 x1 x2 (.fz (dP S)) x4 x5 x6 x7 x8 x9 x10 x11 x12 x13 x14 x15 x16 x17 x18 (.fz (.int (n : Int))) x20 x21 (.fz (dP W)) x23 x24 x25) = .nx (E26 x0 x1 x2 (.fz (dP S)) x4 x5 x6 x7 x8 x9 x10 x11 x12 x13 x14 x15 x16 x17 x18 (.fz (.int (n : Int))) x20 x21 (.fz (dP W)) x23 x24 x25) := by
  have lw := bw.length hn nw
  have neS : NeP S := fun q hq => ne_of_len (o.ok.len q hq) hn
  have p1 : evCall F__law_passed (evCons (evName 22) evNil) (E26 x0 x1 x2 (.fz (dP S)) x4 x5 x6 x7 x8 x9 x10 x11 x12 x13 x14 x15 x16 x17 x18 (.fz (.int (n : Int))) x20 x21 (.fz (dP W)) x23 x24 x25) = .ok (.fz (.tuple (tP (sortP W)))) (E26 x0 x1 x2 (.fz (dP S)) x4 x5 x6 x7 x8 x9 x10 x11 x12 x13 x14 x15 x16 x17 x18 (.fz (.int (n : Int))) x20 x21 (.fz (dP W)) x23 x24 x25) := evCall_ok (ds := [dP W]) rfl (F_passed_ok (bw.ne hn) nw (by omega))
  have c1 : evCall F_elementary (evCons (evName 19) (evCons (evCall F__law_passed (evCons (evName 22) evNil)) evNil)) (E26 x0 x1 x2 (.fz (dP S)) x4 x5 x6 x7 x8 x9 x10 x11 x12 x13 x14 x15 x16 x17 x18 (.fz (.int (n : Int))) x20 x21 (.fz (dP W)) x23 x24 x25) = .ok (.fz (.tuple (tP (sortP S)))) (E26 x0 x1 x2 (.fz (dP S)) x4 x5 x6 x7 x8 x9 x10 x11 x12 x13 x14 x15 x16 x17 x18 (.fz (.int (n : Int))) x20 x21 (.fz (dP W)) x23 x24 x25) := evCall_ok (evCons_ok (v := .fz (.int (n : Int))) rfl (evCons_ok p1 evNil_ok)) (el_sorted hn nw zw h o nd ls)
  have t1 := told_ok c1 (sok_read hn o ls)
  have p2 : evCall F__law_passed (evCons (evName 3) evNil) (E26 x0 x1 x2 (.fz (dP S)) x4 x5 x6 x7 x8 x9 x10 x11 x12 x13 x14 x15 x16 x17 x18 (.fz (.int (n : Int))) x20 x21 (.fz (dP W)) x23 x24 x25) = .ok (.fz (.tuple (tP (sortP S)))) (E26 x0 x1 x2 (.fz (dP S)) x4 x5 x6 x7 x8 x9 x10 x11 x12 x13 x14 x15 x16 x17 x18 (.fz (.int (n : Int))) x20 x21 (.fz (dP W)) x23 x24 x25) := evCall_ok (ds := [dP S]) rfl (F_passed_ok neS nd (by omega))
  have t2 : evTup (evCons (evC (.int 0)) (evCons (evCall F__law_passed (evCons (evName 3) evNil)) evNil)) (E26 x0 x1 x2 (.fz (dP S)) x4 x5 x6 x7 x8 x9 x10 x11 x12 x13 x14 x15 x16 x17 x18 (.fz (.int (n : Int))) x20 x21 (.fz (dP W)) x23 x24 x25) = .ok (.fz (.tuple [.int 0, .tuple (tP (sortP S))])) (E26 x0 x1 x2 (.fz (dP S)) x4 x5 x6 x7 x8 x9 x10 x11 x12 x13 x14 x15 x16 x17 x18 (.fz (.int (n : Int))) x20 x21 (.fz (dP W)) x23 x24 x25) := evTup_ok (evCons_ok (v := .fz (.int 0)) rfl (evCons_ok p2 evNil_ok)) (by simp)
  exact evIfS_ff (ev2_ok t1 t2 neD_same)
end K22
set_option Elab.async false
set_option linter.all false
set_option maxRecDepth 100000
set_option exponentiation.threshold 5000
-- SLOTS 26
namespace K22
open PySem PySem.Spec PyProof.Rows L2 LamX L3 EP EL
def unitM (n j : Nat) : Mon := (List.range n).map fun k => if k + 1 = j then 1 else 0
def unitP (n j : Nat) : Pol := [(unitM n j, 1)]
def powP (n k : Nat) : Pol := (List.range n).map fun a => ((List.range n).map fun i => (k : Int) * if i = a then 1 else 0, 1)
def signP (j : Nat) (p : Pol) : Pol := p.map fun q => (q.1, if j % 2 = 1 then q.2 else 0 - q.2)
def stepP (n k : Nat) (sums : List Pol) (part : Pol) (j : Nat) : Pol := plusP part (signP j (cleanP (mulP (unitP n j) (sums.getD (k - j) []))))
def lastP (n k : Nat) (part : Pol) : Pol := if k ≤ n then plusP part [(unitM n k, (k : Int) * 1 * (if k % 2 = 1 then 1 else -1))] else part
def newP (n k : Nat) (sums : List Pol) : Pol := lastP n k ((List.range' 1 (min (k - 1) n)).foldl (stepP n k sums) [])
def newS (n : Nat) : Nat → List Pol
  | 0 => [[]]
  | k + 1 => newS n k ++ [newP n (k + 1) (newS n k)]
def unitsP (n : Nat) : List Pol := (List.range n).map fun j => unitP n (j + 1)
theorem rng2_ok (a b : Nat) (h : b ≤ 1000) (ha : a ≤ 1000) : rng2Of [.int (a : Int), .int (b : Int)] = some ((List.range' a (b - a)).map fun i : Nat => PyData.int (i : Int)) := by
  unfold rng2Of
  simp only []
  rw [if_pos (by omega)]
  unfold rngD
  rw [show ((b : Int) - (a : Int)).toNat = b - a by omega, List.range'_eq_map_range, List.map_map]
  exact congrArg some (List.map_congr_left fun i _ => congrArg PyData.int (show (a : Int) + (i : Nat) = ((a + i : Nat) : Int) by omega))
theorem unitM_length (n j : Nat) : (unitM n j).length = n := by unfold unitM; simp
theorem add1 (n : Nat) : gAdd (.int (n : Int)) (.int 1) = some (.int ((n + 1 : Nat) : Int)) := congrArg (fun z => some (PyData.int z)) (show (n : Int) + 1 = ((n + 1 : Nat) : Int) by omega)
/-- names -/
theorem b7_ok {n : Nat} (hn : n ∈ [1, 2, 3, 4]) {x0 x1 x2 x3 x4 x5 x6 x7 x8 x9 x10 x11 x12 x13 x14 x15 x16 x17 x18 x19 x20 x21 x22 x23 x24 x25 : Sl} : ∃ y7, b7 (E26 x0 x1 x2 x3 x4 x5 x6 x7 x8 x9 x10 x11 x12 x13 x14 x15 x16 x17 x18 (.fz (.int (n : Int))) x20 x21 x22 x23 x24 x25) = .nx (E26 x0 x1 x2 x3 x4 x5 x6 y7 (.ow (.list (([[]] : List Pol).map dP))) (.ow (.list ((List.range (n + 1)).map fun j => dP (eP n j)))) x10 x11 x12 x13 x14 x15 x16 x17 x18 (.fz (.int (n : Int))) x20 x21 x22 x23 x24 x25) := by
  have h14 := nz4 hn
  refine ⟨keepFz (some x7), ?_⟩
  have h1 : evLst (evCons evDict0 evNil) (E26 x0 x1 x2 x3 x4 x5 x6 x7 x8 x9 x10 x11 x12 x13 x14 x15 x16 x17 x18 (.fz (.int (n : Int))) x20 x21 x22 x23 x24 x25) = .ok (.ow (.list (([[]] : List Pol).map dP))) (E26 x0 x1 x2 x3 x4 x5 x6 x7 x8 x9 x10 x11 x12 x13 x14 x15 x16 x17 x18 (.fz (.int (n : Int))) x20 x21 x22 x23 x24 x25) := rfl
  have h0 : evIA rng1Of (evCons (ev2 gAdd (evName 19) (evC (.int 1))) evNil) (E26 x0 x1 x2 x3 x4 x5 x6 x7 x8 x9 x10 x11 x12 x13 x14 x15 x16 x17 x18 (.fz (.int (n : Int))) x20 x21 x22 x23 x24 x25) = .ok ((List.range (n + 1)).map fun i : Nat => PyData.int (0 + (i : Nat))) (E26 x0 x1 x2 x3 x4 x5 x6 x7 x8 x9 x10 x11 x12 x13 x14 x15 x16 x17 x18 (.fz (.int (n : Int))) x20 x21 x22 x23 x24 x25) :=
    evIA_ok (evCons_ok (ev2_ok (v := .fz (.int (n : Int))) (w := .fz (.int 1)) rfl rfl (add1 n)) evNil_ok) (rng1_ok (n + 1) (by omega))
  have h2 : evComp (evIA rng1Of (evCons (ev2 gAdd (evName 19) (evC (.int 1))) evNil)) ([(("j" : Str), 7)].map (·.2)) (stName 7) (evC (.bool true)) (evCall F__law_simple (evCons (evName 19) (evCons (evName 7) evNil))) (E26 x0 x1 x2 x3 x4 x5 x6 x7 x8 x9 x10 x11 x12 x13 x14 x15 x16 x17 x18 (.fz (.int (n : Int))) x20 x21 x22 x23 x24 x25) = .ok (.ow (.list ((List.range (n + 1)).map fun j => dP (eP n j)))) (E26 x0 x1 x2 x3 x4 x5 x6 (keepFz (some x7)) x8 x9 x10 x11 x12 x13 x14 x15 x16 x17 x18 (.fz (.int (n : Int))) x20 x21 x22 x23 x24 x25) := by
    refine evComp_M (fun j => dP (eP n j)) h0 (by rw [List.length_range]; omega) (fun j hj => ?_) rfl rfl
    refine ⟨(E26 x0 x1 x2 x3 x4 x5 x6 (.fz (.int (0 + (j : Nat)))) x8 x9 x10 x11 x12 x13 x14 x15 x16 x17 x18 (.fz (.int (n : Int))) x20 x21 x22 x23 x24 x25), (E26 x0 x1 x2 x3 x4 x5 x6 (.fz (.int (0 + (j : Nat)))) x8 x9 x10 x11 x12 x13 x14 x15 x16 x17 x18 (.fz (.int (n : Int))) x20 x21 x22 x23 x24 x25), .ow (dP (eP n j)), rfl, ?_, rfl, rfl⟩
    rw [Int.zero_add]
    exact evCall_ok (ds := [.int (n : Int), .int (j : Int)]) rfl (F_simple_ok n hn j hj)
  exact evPar_ok h1 h2 rfl
/-- units -/
def NF (x : Sl) : Prop := keepFz (some x) = x
theorem b8_ok {n : Nat} (hn : n ∈ [1, 2, 3, 4]) {x0 x1 x2 x3 x4 x5 x6 x7 x8 x9 x10 x11 x12 x13 x14 x15 x16 x17 x18 x19 x20 x21 x22 x23 x24 x25 : Sl} (h10 : NF x10) : ∃ y7, b8 (E26 x0 x1 x2 x3 x4 x5 x6 x7 x8 x9 x10 x11 x12 x13 x14 x15 x16 x17 x18 (.fz (.int (n : Int))) x20 x21 x22 x23 x24 x25) = .nx (E26 x0 x1 x2 x3 x4 x5 x6 y7 x8 x9 x10 (.ow (.list ((unitsP n).map dP))) x12 x13 x14 x15 x16 x17 x18 (.fz (.int (n : Int))) x20 x21 x22 x23 x24 x25) := by
  have h14 := nz4 hn
  have rg : ∀ {y7 y10 : Sl}, evIA rng2Of (evCons (evC (.int 1)) (evCons (ev2 gAdd (evName 19) (evC (.int 1))) evNil)) (E26 x0 x1 x2 x3 x4 x5 x6 y7 x8 x9 y10 x11 x12 x13 x14 x15 x16 x17 x18 (.fz (.int (n : Int))) x20 x21 x22 x23 x24 x25) = .ok ((List.range n).map fun i : Nat => PyData.int ((i + 1 : Nat) : Int)) (E26 x0 x1 x2 x3 x4 x5 x6 y7 x8 x9 y10 x11 x12 x13 x14 x15 x16 x17 x18 (.fz (.int (n : Int))) x20 x21 x22 x23 x24 x25) := fun {y7 y10} => by
    refine evIA_ok (evCons_ok (v := .fz (.int ((1 : Nat) : Int))) rfl (evCons_ok (ev2_ok (v := .fz (.int (n : Int))) (w := .fz (.int 1)) rfl rfl (add1 n)) evNil_ok)) ?_
    show rng2Of [.int ((1 : Nat) : Int), .int ((n + 1 : Nat) : Int)] = _
    rw [rng2_ok 1 (n + 1) (by omega) (by omega), Nat.add_sub_cancel, List.range'_eq_map_range, List.map_map]
    congr 1
    apply List.map_congr_left
    intro i _
    exact congrArg PyData.int (show ((1 + i : Nat) : Int) = ((i + 1 : Nat) : Int) by omega)
  refine ⟨keepFz (some x7), ?_⟩
  have c : evComp (evIA rng2Of (evCons (evC (.int 1)) (evCons (ev2 gAdd (evName 19) (evC (.int 1))) evNil))) ([(("j" : Str), 7)].map (·.2)) (stName 7) (evC (.bool true)) (evBO gDict (evCons (evLst (evCons (evTup (evCons (evB gTup (evCons (evComp (evIA rng2Of (evCons (evC (.int 1)) (evCons (ev2 gAdd (evName 19) (evC (.int 1))) evNil))) ([(("k" : Str), 10)].map (·.2)) (stName 10) (evC (.bool true)) (evB gInt (evCons (ev2 gEqS (evName 7) (evName 10)) evNil))) evNil)) (evCons (evC (.int 1)) evNil))) evNil)) evNil)) (E26 x0 x1 x2 x3 x4 x5 x6 x7 x8 x9 x10 x11 x12 x13 x14 x15 x16 x17 x18 (.fz (.int (n : Int))) x20 x21 x22 x23 x24 x25) = .ok (.ow (.list ((unitsP n).map dP))) (E26 x0 x1 x2 x3 x4 x5 x6 (keepFz (some x7)) x8 x9 x10 x11 x12 x13 x14 x15 x16 x17 x18 (.fz (.int (n : Int))) x20 x21 x22 x23 x24 x25) := by
    refine evComp_M (fun j : Nat => dP (unitP n (j + 1))) (rg (y7 := x7) (y10 := x10)) (by rw [List.length_range]; omega) (fun j hj => ?_) rfl (by unfold unitsP; rw [List.map_map]; rfl)
    have i1 : evComp (evIA rng2Of (evCons (evC (.int 1)) (evCons (ev2 gAdd (evName 19) (evC (.int 1))) evNil))) ([(("k" : Str), 10)].map (·.2)) (stName 10) (evC (.bool true)) (evB gInt (evCons (ev2 gEqS (evName 7) (evName 10)) evNil)) (E26 x0 x1 x2 x3 x4 x5 x6 (.fz (.int ((j + 1 : Nat) : Int))) x8 x9 x10 x11 x12 x13 x14 x15 x16 x17 x18 (.fz (.int (n : Int))) x20 x21 x22 x23 x24 x25) = .ok (.ow (.list ((unitM n (j + 1)).map .int))) (E26 x0 x1 x2 x3 x4 x5 x6 (.fz (.int ((j + 1 : Nat) : Int))) x8 x9 (keepFz (some x10)) x11 x12 x13 x14 x15 x16 x17 x18 (.fz (.int (n : Int))) x20 x21 x22 x23 x24 x25) := by
      refine evComp_M (fun k : Nat => .int (if k + 1 = j + 1 then 1 else 0)) (rg (y7 := .fz (.int ((j + 1 : Nat) : Int))) (y10 := x10)) (by rw [List.length_range]; omega) (fun k hk => ?_) rfl (by unfold unitM; rw [List.map_map]; rfl)
      refine ⟨(E26 x0 x1 x2 x3 x4 x5 x6 (.fz (.int ((j + 1 : Nat) : Int))) x8 x9 (.fz (.int ((k + 1 : Nat) : Int))) x11 x12 x13 x14 x15 x16 x17 x18 (.fz (.int (n : Int))) x20 x21 x22 x23 x24 x25), (E26 x0 x1 x2 x3 x4 x5 x6 (.fz (.int ((j + 1 : Nat) : Int))) x8 x9 (.fz (.int ((k + 1 : Nat) : Int))) x11 x12 x13 x14 x15 x16 x17 x18 (.fz (.int (n : Int))) x20 x21 x22 x23 x24 x25), .fz (.int (if k + 1 = j + 1 then 1 else 0)), rfl, ?_, rfl, rfl⟩
      have g : gEqS (.int ((j + 1 : Nat) : Int)) (.int ((k + 1 : Nat) : Int)) = some (.bool (decide (k + 1 = j + 1))) := by
        show some (PyData.bool (decide (((j + 1 : Nat) : Int) = ((k + 1 : Nat) : Int)))) = _
        congr 2
        exact decide_eq_decide.mpr (by omega)
      have e := ev2_ok (fa := evName 7) (fb := evName 10) (e := (E26 x0 x1 x2 x3 x4 x5 x6 (.fz (.int ((j + 1 : Nat) : Int))) x8 x9 (.fz (.int ((k + 1 : Nat) : Int))) x11 x12 x13 x14 x15 x16 x17 x18 (.fz (.int (n : Int))) x20 x21 x22 x23 x24 x25)) (e1 := (E26 x0 x1 x2 x3 x4 x5 x6 (.fz (.int ((j + 1 : Nat) : Int))) x8 x9 (.fz (.int ((k + 1 : Nat) : Int))) x11 x12 x13 x14 x15 x16 x17 x18 (.fz (.int (n : Int))) x20 x21 x22 x23 x24 x25)) (e2 := (E26 x0 x1 x2 x3 x4 x5 x6 (.fz (.int ((j + 1 : Nat) : Int))) x8 x9 (.fz (.int ((k + 1 : Nat) : Int))) x11 x12 x13 x14 x15 x16 x17 x18 (.fz (.int (n : Int))) x20 x21 x22 x23 x24 x25)) (v := .fz (.int ((j + 1 : Nat) : Int))) (w := .fz (.int ((k + 1 : Nat) : Int))) rfl rfl g
      refine evB_ok (evCons_ok e evNil_ok) ?_
      show some (PyData.int (if decide (k + 1 = j + 1) = true then 1 else 0)) = _
      by_cases z : k + 1 = j + 1
      · rw [if_pos (decide_eq_true z), if_pos z]
      · rw [if_neg (by rw [decide_eq_false z]; decide), if_neg z]
    refine ⟨(E26 x0 x1 x2 x3 x4 x5 x6 (.fz (.int ((j + 1 : Nat) : Int))) x8 x9 x10 x11 x12 x13 x14 x15 x16 x17 x18 (.fz (.int (n : Int))) x20 x21 x22 x23 x24 x25), (E26 x0 x1 x2 x3 x4 x5 x6 (.fz (.int ((j + 1 : Nat) : Int))) x8 x9 (keepFz (some x10)) x11 x12 x13 x14 x15 x16 x17 x18 (.fz (.int (n : Int))) x20 x21 x22 x23 x24 x25), .ow (dP (unitP n (j + 1))), rfl, ?_, rfl, by rw [show keepFz (some x10) = x10 from h10]; rfl⟩
    have i2 : evTup (evCons (evB gTup (evCons (evComp (evIA rng2Of (evCons (evC (.int 1)) (evCons (ev2 gAdd (evName 19) (evC (.int 1))) evNil))) ([(("k" : Str), 10)].map (·.2)) (stName 10) (evC (.bool true)) (evB gInt (evCons (ev2 gEqS (evName 7) (evName 10)) evNil))) evNil)) (evCons (evC (.int 1)) evNil)) (E26 x0 x1 x2 x3 x4 x5 x6 (.fz (.int ((j + 1 : Nat) : Int))) x8 x9 x10 x11 x12 x13 x14 x15 x16 x17 x18 (.fz (.int (n : Int))) x20 x21 x22 x23 x24 x25) = .ok (.fz (pD (unitM n (j + 1), 1))) (E26 x0 x1 x2 x3 x4 x5 x6 (.fz (.int ((j + 1 : Nat) : Int))) x8 x9 (keepFz (some x10)) x11 x12 x13 x14 x15 x16 x17 x18 (.fz (.int (n : Int))) x20 x21 x22 x23 x24 x25) :=
      evTup_ok (evCons_ok (evB_ok (d := tM (unitM n (j + 1))) (evCons_ok i1 evNil_ok) rfl) (evCons_ok (v := .fz (.int 1)) rfl evNil_ok)) (by simp)
    refine evBO_ok (evCons_ok (evLst_ok (evCons_ok i2 evNil_ok) (by simp)) evNil_ok) ?_
    exact dictL_ok (p := unitP n (j + 1)) (fun q hq => by rw [List.mem_singleton.mp hq]; exact ne_of_len (unitM_length n (j + 1)) hn) (by unfold unitP keys; simp)
  exact evSet_ok c rfl
/-! the rows -/
structure PolOk (n m : Nat) (p : Pol) : Prop where
  nd : (keys p).Nodup
  bx : BoxP n m p
  sm : ∀ q ∈ p, Sm q.2
theorem unit_box0 : ∀ n ∈ [1, 2, 3, 4], ∀ j ∈ List.range n, (∀ z ∈ unitM n (j + 1), 0 ≤ z) ∧ (unitM n (j + 1)).sum ≤ 1 := by decide
theorem unit_box {n : Nat} (hn : n ∈ [1, 2, 3, 4]) {j : Nat} (hj : j < n) : InBox n 1 (unitM n (j + 1)) :=
  ⟨unitM_length _ _, (unit_box0 n hn j (by rw [List.mem_range]; exact hj)).1, (unit_box0 n hn j (by rw [List.mem_range]; exact hj)).2⟩
theorem signP_keys (j : Nat) (p : Pol) : keys (signP j p) = keys p := by unfold keys signP; rw [List.map_map]; rfl
theorem signP_box {n m j : Nat} {p : Pol} (h : BoxP n m p) : BoxP n m (signP j p) := fun q hq => by
  obtain ⟨r, hr, rfl⟩ := List.mem_map.mp hq
  exact h r hr
theorem sm1 : Sm 1 := by show (1 : Int).natAbs < _; decide
theorem gx_list {l : List PyData} {i : Nat} {d : PyData} (h : l[i]? = some d) : gIx (.list l) (.int (i : Int)) = some d := by
  show L2.atI l (i : Int) = _
  rw [EL.atI_nat, h]
theorem n2_turn {n k j : Nat} (hn : n ∈ [1, 2, 3, 4]) (hj : j < n) (hk : j + 1 < k) (hk8 : k ≤ 1000) {sums : List Pol} (ls : sums.length = k) (H : ∀ p ∈ sums, PolOk n 7 p) {part : Pol} (P : BoxP n 8 part ∧ (keys part).Nodup) {x0 x1 x2 x3 x4 x5 x6 x7 x8 x9 x10 x11 x12 x13 x14 x15 x16 x17 x18 x19 x20 x21 x22 x23 x24 x25 : Sl} :
    ∃ y13, (evSeq (evSet 13 (evCall F__law_times (evCons (ev2L gIx 11 (ev2 gSub (evName 7) (evC (.int 1)))) (evCons (ev2L gIx 8 (ev2 gSub (evName 10) (evName 7))) evNil)))) (evSet 12 (evCall F__law_plus (evCons (evName 12) (evCons (evBO gDict (evCons (evComp (evI L3.keysOf (evName 13)) ([(("spot" : Str), 5)].map (·.2)) (stName 5) (evC (.bool true)) (evTup (evCons (evName 5) (evCons (evIf (ev2 gEqS (ev2 gMod (evName 7) (evC (.int 2))) (evC (.int 1))) (ev2L gDget 13 (evName 5)) (ev2 gSub (evC (.int 0)) (ev2L gDget 13 (evName 5)))) evNil)))) evNil)) evNil))))) (E26 x0 x1 x2 x3 x4 x5 x6 (.fz (.int ((j + 1 : Nat) : Int))) (.ow (.list (sums.map dP))) x9 (.fz (.int (k : Int))) (.ow (.list ((unitsP n).map dP))) (.ow (dP part)) x13 x14 x15 x16 x17 x18 (.fz (.int (n : Int))) x20 x21 x22 x23 x24 x25) =
      .nx (E26 x0 x1 x2 x3 x4 (keepFz (some x5)) x6 (.fz (.int ((j + 1 : Nat) : Int))) (.ow (.list (sums.map dP))) x9 (.fz (.int (k : Int))) (.ow (.list ((unitsP n).map dP))) (.ow (dP (stepP n k sums part (j + 1)))) y13 x14 x15 x16 x17 x18 (.fz (.int (n : Int))) x20 x21 x22 x23 x24 x25) ∧ BoxP n 8 (stepP n k sums part (j + 1)) ∧ (keys (stepP n k sums part (j + 1))).Nodup := by
  obtain ⟨bp, np⟩ := P
  obtain ⟨s, hs⟩ : ∃ s, sums[k - (j + 1)]? = some s := ⟨_, List.getElem?_eq_getElem (by omega)⟩
  have Hs := H s (List.mem_of_getElem? hs)
  have gs : sums.getD (k - (j + 1)) [] = s := by rw [List.getD_eq_getElem?_getD, hs]; rfl
  have ub := unit_box hn hj
  have hm : ∀ q ∈ unitP n (j + 1), ∀ r ∈ s, InBox n 8 (addM q.1 r.1) := fun q hq r hr => by
    rw [List.mem_singleton.mp hq]
    exact ub.add (Hs.bx r hr)
  have t := F_times_ok hn (a := unitP n (j + 1)) (b := s) (by unfold unitP keys; simp) Hs.nd hm (fun q hq => by rw [List.mem_singleton.mp hq]; exact unitM_length _ _) (fun r hr => (Hs.bx r hr).1) (fun q hq => by rw [List.mem_singleton.mp hq]; exact sm1) Hs.sm
  have bM : BoxP n 8 (cleanP (mulP (unitP n (j + 1)) s)) := (mulP_box hm).clean
  have nM : (keys (cleanP (mulP (unitP n (j + 1)) s))).Nodup := keys_clean nodup_mulP
  have lM := bM.length hn nM
  have ux : ((unitsP n).map dP)[j]? = some (dP (unitP n (j + 1))) := by
    unfold unitsP
    rw [List.map_map, List.getElem?_map, List.getElem?_range hj]
    rfl
  have sx : (sums.map dP)[k - (j + 1)]? = some (dP s) := by rw [List.getElem?_map, hs]; rfl
  generalize hM : cleanP (mulP (unitP n (j + 1)) s) = M at t bM nM lM
  have e1 : stepP n k sums part (j + 1) = plusP part (signP (j + 1) M) := by unfold stepP; rw [gs, hM]
  have sub1 : L3.gSub (.int ((j + 1 : Nat) : Int)) (.int 1) = some (.int (j : Int)) := congrArg (fun z => some (PyData.int z)) (show ((j + 1 : Nat) : Int) - 1 = (j : Int) by omega)
  have sub2 : L3.gSub (.int (k : Int)) (.int ((j + 1 : Nat) : Int)) = some (.int ((k - (j + 1) : Nat) : Int)) := congrArg (fun z => some (PyData.int z)) (show (k : Int) - ((j + 1 : Nat) : Int) = ((k - (j + 1) : Nat) : Int) by omega)
  have a1 : ev2L gIx 11 (ev2 gSub (evName 7) (evC (.int 1))) (E26 x0 x1 x2 x3 x4 x5 x6 (.fz (.int ((j + 1 : Nat) : Int))) (.ow (.list (sums.map dP))) x9 (.fz (.int (k : Int))) (.ow (.list ((unitsP n).map dP))) (.ow (dP part)) x13 x14 x15 x16 x17 x18 (.fz (.int (n : Int))) x20 x21 x22 x23 x24 x25) = .ok (.fz (dP (unitP n (j + 1)))) (E26 x0 x1 x2 x3 x4 x5 x6 (.fz (.int ((j + 1 : Nat) : Int))) (.ow (.list (sums.map dP))) x9 (.fz (.int (k : Int))) (.ow (.list ((unitsP n).map dP))) (.ow (dP part)) x13 x14 x15 x16 x17 x18 (.fz (.int (n : Int))) x20 x21 x22 x23 x24 x25) :=
    ev2L_ok (d0 := .list ((unitsP n).map dP)) (d1 := .list ((unitsP n).map dP)) rfl (ev2_ok (v := .fz (.int ((j + 1 : Nat) : Int))) (w := .fz (.int 1)) rfl rfl sub1) rfl (gx_list ux)
  have a2 : ev2L gIx 8 (ev2 gSub (evName 10) (evName 7)) (E26 x0 x1 x2 x3 x4 x5 x6 (.fz (.int ((j + 1 : Nat) : Int))) (.ow (.list (sums.map dP))) x9 (.fz (.int (k : Int))) (.ow (.list ((unitsP n).map dP))) (.ow (dP part)) x13 x14 x15 x16 x17 x18 (.fz (.int (n : Int))) x20 x21 x22 x23 x24 x25) = .ok (.fz (dP s)) (E26 x0 x1 x2 x3 x4 x5 x6 (.fz (.int ((j + 1 : Nat) : Int))) (.ow (.list (sums.map dP))) x9 (.fz (.int (k : Int))) (.ow (.list ((unitsP n).map dP))) (.ow (dP part)) x13 x14 x15 x16 x17 x18 (.fz (.int (n : Int))) x20 x21 x22 x23 x24 x25) :=
    ev2L_ok (d0 := .list (sums.map dP)) (d1 := .list (sums.map dP)) rfl (ev2_ok (v := .fz (.int (k : Int))) (w := .fz (.int ((j + 1 : Nat) : Int))) rfl rfl sub2) rfl (gx_list sx)
  have s1 : evSet 13 (evCall F__law_times (evCons (ev2L gIx 11 (ev2 gSub (evName 7) (evC (.int 1)))) (evCons (ev2L gIx 8 (ev2 gSub (evName 10) (evName 7))) evNil))) (E26 x0 x1 x2 x3 x4 x5 x6 (.fz (.int ((j + 1 : Nat) : Int))) (.ow (.list (sums.map dP))) x9 (.fz (.int (k : Int))) (.ow (.list ((unitsP n).map dP))) (.ow (dP part)) x13 x14 x15 x16 x17 x18 (.fz (.int (n : Int))) x20 x21 x22 x23 x24 x25) = .nx (E26 x0 x1 x2 x3 x4 x5 x6 (.fz (.int ((j + 1 : Nat) : Int))) (.ow (.list (sums.map dP))) x9 (.fz (.int (k : Int))) (.ow (.list ((unitsP n).map dP))) (.ow (dP part)) (.ow (dP M)) x14 x15 x16 x17 x18 (.fz (.int (n : Int))) x20 x21 x22 x23 x24 x25) :=
    evSet_ok (evCall_ok (evCons_ok a1 (evCons_ok a2 evNil_ok)) t) rfl
  have c : evComp (evI L3.keysOf (evName 13)) ([(("spot" : Str), 5)].map (·.2)) (stName 5) (evC (.bool true)) (evTup (evCons (evName 5) (evCons (evIf (ev2 gEqS (ev2 gMod (evName 7) (evC (.int 2))) (evC (.int 1))) (ev2L gDget 13 (evName 5)) (ev2 gSub (evC (.int 0)) (ev2L gDget 13 (evName 5)))) evNil))) (E26 x0 x1 x2 x3 x4 x5 x6 (.fz (.int ((j + 1 : Nat) : Int))) (.ow (.list (sums.map dP))) x9 (.fz (.int (k : Int))) (.ow (.list ((unitsP n).map dP))) (.fz (dP part)) (.ow (dP M)) x14 x15 x16 x17 x18 (.fz (.int (n : Int))) x20 x21 x22 x23 x24 x25) = .ok (.ow (.list (tP (signP (j + 1) M)))) (E26 x0 x1 x2 x3 x4 (keepFz (some x5)) x6 (.fz (.int ((j + 1 : Nat) : Int))) (.ow (.list (sums.map dP))) x9 (.fz (.int (k : Int))) (.ow (.list ((unitsP n).map dP))) (.fz (dP part)) (.fz (dP M)) x14 x15 x16 x17 x18 (.fz (.int (n : Int))) x20 x21 x22 x23 x24 x25) := by
    have h0 : evI L3.keysOf (evName 13) (E26 x0 x1 x2 x3 x4 x5 x6 (.fz (.int ((j + 1 : Nat) : Int))) (.ow (.list (sums.map dP))) x9 (.fz (.int (k : Int))) (.ow (.list ((unitsP n).map dP))) (.fz (dP part)) (.ow (dP M)) x14 x15 x16 x17 x18 (.fz (.int (n : Int))) x20 x21 x22 x23 x24 x25) = .ok (M.map fun q => tM q.1) (E26 x0 x1 x2 x3 x4 x5 x6 (.fz (.int ((j + 1 : Nat) : Int))) (.ow (.list (sums.map dP))) x9 (.fz (.int (k : Int))) (.ow (.list ((unitsP n).map dP))) (.fz (dP part)) (.fz (dP M)) x14 x15 x16 x17 x18 (.fz (.int (n : Int))) x20 x21 x22 x23 x24 x25) := by
      rw [← keys_map_tM]
      exact evI_ok (v := .fz (dP M)) rfl (keys_ok M)
    refine evComp_M (fun q : Mon × Int => pD (q.1, if (j + 1) % 2 = 1 then q.2 else 0 - q.2)) h0 (by omega) (fun q hq => ?_) rfl (by unfold tP signP; rw [List.map_map]; rfl)
    have g1 := gDget_ok (bM.ne hn) nM (m := q.1) (c := q.2) hq
    refine ⟨(E26 x0 x1 x2 x3 x4 (.fz (tM q.1)) x6 (.fz (.int ((j + 1 : Nat) : Int))) (.ow (.list (sums.map dP))) x9 (.fz (.int (k : Int))) (.ow (.list ((unitsP n).map dP))) (.fz (dP part)) (.fz (dP M)) x14 x15 x16 x17 x18 (.fz (.int (n : Int))) x20 x21 x22 x23 x24 x25), (E26 x0 x1 x2 x3 x4 (.fz (tM q.1)) x6 (.fz (.int ((j + 1 : Nat) : Int))) (.ow (.list (sums.map dP))) x9 (.fz (.int (k : Int))) (.ow (.list ((unitsP n).map dP))) (.fz (dP part)) (.fz (dP M)) x14 x15 x16 x17 x18 (.fz (.int (n : Int))) x20 x21 x22 x23 x24 x25), .fz (pD (q.1, if (j + 1) % 2 = 1 then q.2 else 0 - q.2)), rfl, ?_, rfl, rfl⟩
    have d1 : ev2L gDget 13 (evName 5) (E26 x0 x1 x2 x3 x4 (.fz (tM q.1)) x6 (.fz (.int ((j + 1 : Nat) : Int))) (.ow (.list (sums.map dP))) x9 (.fz (.int (k : Int))) (.ow (.list ((unitsP n).map dP))) (.fz (dP part)) (.fz (dP M)) x14 x15 x16 x17 x18 (.fz (.int (n : Int))) x20 x21 x22 x23 x24 x25) = .ok (.fz (.int q.2)) (E26 x0 x1 x2 x3 x4 (.fz (tM q.1)) x6 (.fz (.int ((j + 1 : Nat) : Int))) (.ow (.list (sums.map dP))) x9 (.fz (.int (k : Int))) (.ow (.list ((unitsP n).map dP))) (.fz (dP part)) (.fz (dP M)) x14 x15 x16 x17 x18 (.fz (.int (n : Int))) x20 x21 x22 x23 x24 x25) := ev2L_ok (d0 := dP M) (d1 := dP M) (w := .fz (tM q.1)) rfl rfl rfl g1
    have tst : ev2 gEqS (ev2 gMod (evName 7) (evC (.int 2))) (evC (.int 1)) (E26 x0 x1 x2 x3 x4 (.fz (tM q.1)) x6 (.fz (.int ((j + 1 : Nat) : Int))) (.ow (.list (sums.map dP))) x9 (.fz (.int (k : Int))) (.ow (.list ((unitsP n).map dP))) (.fz (dP part)) (.fz (dP M)) x14 x15 x16 x17 x18 (.fz (.int (n : Int))) x20 x21 x22 x23 x24 x25) = .ok (.fz (.bool (decide ((j + 1) % 2 = 1)))) (E26 x0 x1 x2 x3 x4 (.fz (tM q.1)) x6 (.fz (.int ((j + 1 : Nat) : Int))) (.ow (.list (sums.map dP))) x9 (.fz (.int (k : Int))) (.ow (.list ((unitsP n).map dP))) (.fz (dP part)) (.fz (dP M)) x14 x15 x16 x17 x18 (.fz (.int (n : Int))) x20 x21 x22 x23 x24 x25) := by
      refine ev2_ok (v := .fz (.int (((j + 1 : Nat) : Int) % 2))) (w := .fz (.int 1)) (ev2_ok (v := .fz (.int ((j + 1 : Nat) : Int))) (w := .fz (.int 2)) rfl rfl rfl) rfl ?_
      show some (PyData.bool (decide (((j + 1 : Nat) : Int) % 2 = 1))) = _
      congr 2
      exact decide_eq_decide.mpr (by omega)
    refine evTup_ok (evCons_ok (v := .fz (tM q.1)) rfl (evCons_ok (v := .fz (.int (if (j + 1) % 2 = 1 then q.2 else 0 - q.2))) ?_ evNil_ok)) (by simp)
    by_cases z : (j + 1) % 2 = 1
    · rw [decide_eq_true z] at tst
      rw [evIf_t tst, if_pos z]
      exact d1
    · rw [decide_eq_false z] at tst
      rw [evIf_f tst, if_neg z]
      exact ev2_ok (v := .fz (.int 0)) rfl d1 rfl
  have nS : (keys (signP (j + 1) M)).Nodup := by rw [signP_keys]; exact nM
  have bS : BoxP n 8 (signP (j + 1) M) := signP_box bM
  have d := evBO_ok (evCons_ok c evNil_ok) (dictL_ok (bS.ne hn) nS)
  refine ⟨.fz (dP M), ?_, ?_, ?_⟩
  · rw [e1]
    refine run_seq s1 ?_
    refine evSet_ok (evCall_ok (evCons_ok (v := .fz (dP part)) ?_ (evCons_ok d evNil_ok)) (F_plus_ok hn bp bS np nS)) rfl
    rfl
  · rw [e1]; exact box_plus bp bS
  · rw [e1]; exact nodup_plus np
end K22
set_option Elab.async false
set_option linter.all false
set_option maxRecDepth 100000
set_option exponentiation.threshold 5000
-- SLOTS 26
namespace K22
open PySem PySem.Spec PyProof.Rows L2 LamX L3 EP EL
abbrev n2b : En → O := evSeq (evSet 13 (evCall F__law_times (evCons (ev2L gIx 11 (ev2 gSub (evName 7) (evC (.int 1)))) (evCons (ev2L gIx 8 (ev2 gSub (evName 10) (evName 7))) evNil)))) (evSet 12 (evCall F__law_plus (evCons (evName 12) (evCons (evBO gDict (evCons (evComp (evI L3.keysOf (evName 13)) ([(("spot" : Str), 5)].map (·.2)) (stName 5) (evC (.bool true)) (evTup (evCons (evName 5) (evCons (evIf (ev2 gEqS (ev2 gMod (evName 7) (evC (.int 2))) (evC (.int 1))) (ev2L gDget 13 (evName 5)) (ev2 gSub (evC (.int 0)) (ev2L gDget 13 (evName 5)))) evNil)))) evNil)) evNil))))
theorem n2_loop {n k : Nat} (hn : n ∈ [1, 2, 3, 4]) (hk8 : k ≤ 1000) {sums : List Pol} (ls : sums.length = k) (H : ∀ p ∈ sums, PolOk n 7 p) : ∀ (c j : Nat) {part : Pol}, j + c ≤ n → j + c < k → BoxP n 8 part → (keys part).Nodup → ∀ {x0 x1 x2 x3 x4 x5 x6 x7 x8 x9 x10 x11 x12 x13 x14 x15 x16 x17 x18 x19 x20 x21 x22 x23 x24 x25 : Sl},
    ∃ y5 y7 y13, evLoop (stName 7) n2b ((List.range' (j + 1) c).map fun i : Nat => PyData.int (i : Int)) (E26 x0 x1 x2 x3 x4 x5 x6 x7 (.ow (.list (sums.map dP))) x9 (.fz (.int (k : Int))) (.ow (.list ((unitsP n).map dP))) (.ow (dP part)) x13 x14 x15 x16 x17 x18 (.fz (.int (n : Int))) x20 x21 x22 x23 x24 x25) = .nx (E26 x0 x1 x2 x3 x4 y5 x6 y7 (.ow (.list (sums.map dP))) x9 (.fz (.int (k : Int))) (.ow (.list ((unitsP n).map dP))) (.ow (dP ((List.range' (j + 1) c).foldl (stepP n k sums) part))) y13 x14 x15 x16 x17 x18 (.fz (.int (n : Int))) x20 x21 x22 x23 x24 x25) ∧
      BoxP n 8 ((List.range' (j + 1) c).foldl (stepP n k sums) part) ∧ (keys ((List.range' (j + 1) c).foldl (stepP n k sums) part)).Nodup
  | 0, j, part, _, _, bp, np, x0, x1, x2, x3, x4, x5, x6, x7, x8, x9, x10, x11, x12, x13, x14, x15, x16, x17, x18, x19, x20, x21, x22, x23, x24, x25 => ⟨x5, x7, x13, rfl, bp, np⟩
  | c + 1, j, part, h1, h2, bp, np, x0, x1, x2, x3, x4, x5, x6, x7, x8, x9, x10, x11, x12, x13, x14, x15, x16, x17, x18, x19, x20, x21, x22, x23, x24, x25 => by
    obtain ⟨y13, t, b1, n1⟩ := n2_turn hn (k := k) (j := j) (by omega) (by omega) hk8 ls H ⟨bp, np⟩ (x0 := x0) (x1 := x1) (x2 := x2) (x3 := x3) (x4 := x4) (x5 := x5) (x6 := x6) (x7 := x7) (x8 := x8) (x9 := x9) (x10 := x10) (x11 := x11) (x12 := x12) (x13 := x13) (x14 := x14) (x15 := x15) (x16 := x16) (x17 := x17) (x18 := x18) (x19 := x19) (x20 := x20) (x21 := x21) (x22 := x22) (x23 := x23) (x24 := x24) (x25 := x25)
    obtain ⟨z5, z7, z13, e, b2, n2⟩ := n2_loop hn hk8 ls H c (j + 1) (by omega) (by omega) b1 n1 (x0 := x0) (x1 := x1) (x2 := x2) (x3 := x3) (x4 := x4) (x5 := keepFz (some x5)) (x6 := x6) (x7 := .fz (.int ((j + 1 : Nat) : Int))) (x8 := x8) (x9 := x9) (x10 := x10) (x11 := x11) (x12 := x12) (x13 := y13) (x14 := x14) (x15 := x15) (x16 := x16) (x17 := x17) (x18 := x18) (x19 := x19) (x20 := x20) (x21 := x21) (x22 := x22) (x23 := x23) (x24 := x24) (x25 := x25)
    rw [List.range'_succ, List.map_cons, List.foldl_cons]
    exact ⟨z5, z7, z13, (evLoop_step (e1 := (E26 x0 x1 x2 x3 x4 x5 x6 (.fz (.int ((j + 1 : Nat) : Int))) (.ow (.list (sums.map dP))) x9 (.fz (.int (k : Int))) (.ow (.list ((unitsP n).map dP))) (.ow (dP part)) x13 x14 x15 x16 x17 x18 (.fz (.int (n : Int))) x20 x21 x22 x23 x24 x25)) rfl t).trans e, b2, n2⟩
def sumJ (n k : Nat) (sums : List Pol) : Pol := (List.range' 1 (min (k - 1) n)).foldl (stepP n k sums) []
theorem n2_ok {n k : Nat} (hn : n ∈ [1, 2, 3, 4]) (hk1 : 1 ≤ k) (hk8 : k ≤ 900) {sums : List Pol} (ls : sums.length = k) (H : ∀ p ∈ sums, PolOk n 7 p) {x0 x1 x2 x3 x4 x5 x6 x7 x8 x9 x10 x11 x12 x13 x14 x15 x16 x17 x18 x19 x20 x21 x22 x23 x24 x25 : Sl} :
    ∃ y5 y7 y13, n2 (E26 x0 x1 x2 x3 x4 x5 x6 x7 (.ow (.list (sums.map dP))) x9 (.fz (.int (k : Int))) (.ow (.list ((unitsP n).map dP))) (.ow (dP [])) x13 x14 x15 x16 x17 x18 (.fz (.int (n : Int))) x20 x21 x22 x23 x24 x25) = .nx (E26 x0 x1 x2 x3 x4 y5 x6 y7 (.ow (.list (sums.map dP))) x9 (.fz (.int (k : Int))) (.ow (.list ((unitsP n).map dP))) (.ow (dP (sumJ n k sums))) y13 x14 x15 x16 x17 x18 (.fz (.int (n : Int))) x20 x21 x22 x23 x24 x25) ∧ BoxP n 8 (sumJ n k sums) ∧ (keys (sumJ n k sums)).Nodup := by
  have h14 := nz4 hn
  obtain ⟨y5, y7, y13, e, b, nn⟩ := n2_loop hn (k := k) (by omega) ls H (min (k - 1) n) 0 (part := []) (by omega) (by omega) BoxP.nil List.nodup_nil (x0 := x0) (x1 := x1) (x2 := x2) (x3 := x3) (x4 := x4) (x5 := x5) (x6 := x6) (x7 := x7) (x8 := x8) (x9 := x9) (x10 := x10) (x11 := x11) (x12 := x12) (x13 := x13) (x14 := x14) (x15 := x15) (x16 := x16) (x17 := x17) (x18 := x18) (x19 := x19) (x20 := x20) (x21 := x21) (x22 := x22) (x23 := x23) (x24 := x24) (x25 := x25)
  have g1 : gMin2 [.int ((k - 1 : Nat) : Int), .int (n : Int)] = some (.int ((min (k - 1) n : Nat) : Int)) := by
    show some (PyData.int (if (n : Int) < ((k - 1 : Nat) : Int) then (n : Int) else ((k - 1 : Nat) : Int))) = _
    refine congrArg (fun z => some (PyData.int z)) ?_
    split <;> omega
  have g2 : L3.gSub (.int (k : Int)) (.int 1) = some (.int ((k - 1 : Nat) : Int)) := congrArg (fun z => some (PyData.int z)) (show (k : Int) - 1 = ((k - 1 : Nat) : Int) by omega)
  have r : evIA rng2Of (evCons (evC (.int 1)) (evCons (ev2 gAdd (evB gMin2 (evCons (ev2 gSub (evName 10) (evC (.int 1))) (evCons (evName 19) evNil))) (evC (.int 1))) evNil)) (E26 x0 x1 x2 x3 x4 x5 x6 x7 (.ow (.list (sums.map dP))) x9 (.fz (.int (k : Int))) (.ow (.list ((unitsP n).map dP))) (.ow (dP [])) x13 x14 x15 x16 x17 x18 (.fz (.int (n : Int))) x20 x21 x22 x23 x24 x25) = .ok ((List.range' (0 + 1) (min (k - 1) n)).map fun i : Nat => PyData.int (i : Int)) (E26 x0 x1 x2 x3 x4 x5 x6 x7 (.ow (.list (sums.map dP))) x9 (.fz (.int (k : Int))) (.ow (.list ((unitsP n).map dP))) (.ow (dP [])) x13 x14 x15 x16 x17 x18 (.fz (.int (n : Int))) x20 x21 x22 x23 x24 x25) := by
    have s1 := ev2_ok (fa := evName 10) (fb := evC (.int 1)) (e := (E26 x0 x1 x2 x3 x4 x5 x6 x7 (.ow (.list (sums.map dP))) x9 (.fz (.int (k : Int))) (.ow (.list ((unitsP n).map dP))) (.ow (dP [])) x13 x14 x15 x16 x17 x18 (.fz (.int (n : Int))) x20 x21 x22 x23 x24 x25)) (e1 := (E26 x0 x1 x2 x3 x4 x5 x6 x7 (.ow (.list (sums.map dP))) x9 (.fz (.int (k : Int))) (.ow (.list ((unitsP n).map dP))) (.ow (dP [])) x13 x14 x15 x16 x17 x18 (.fz (.int (n : Int))) x20 x21 x22 x23 x24 x25)) (e2 := (E26 x0 x1 x2 x3 x4 x5 x6 x7 (.ow (.list (sums.map dP))) x9 (.fz (.int (k : Int))) (.ow (.list ((unitsP n).map dP))) (.ow (dP [])) x13 x14 x15 x16 x17 x18 (.fz (.int (n : Int))) x20 x21 x22 x23 x24 x25)) (v := .fz (.int (k : Int))) (w := .fz (.int 1)) rfl rfl g2
    have s2 := evB_ok (evCons_ok s1 (evCons_ok (v := .fz (.int (n : Int))) (f := evName 19) (e1 := (E26 x0 x1 x2 x3 x4 x5 x6 x7 (.ow (.list (sums.map dP))) x9 (.fz (.int (k : Int))) (.ow (.list ((unitsP n).map dP))) (.ow (dP [])) x13 x14 x15 x16 x17 x18 (.fz (.int (n : Int))) x20 x21 x22 x23 x24 x25)) rfl evNil_ok)) g1
    have s3 := ev2_ok (fb := evC (.int 1)) (w := .fz (.int 1)) s2 rfl (add1 (min (k - 1) n))
    refine evIA_ok (evCons_ok (v := .fz (.int ((1 : Nat) : Int))) rfl (evCons_ok s3 evNil_ok)) ?_
    have := rng2_ok 1 (min (k - 1) n + 1) (by omega) (by omega)
    rw [Nat.add_sub_cancel] at this
    exact this
  exact ⟨y5, y7, y13, run_for r e, b, nn⟩
/-- the last step of Newton's rule -/
theorem n3_ok {n k : Nat} (hn : n ∈ [1, 2, 3, 4]) (hk1 : 1 ≤ k) (hk8 : k ≤ 900) {part : Pol} (bp : BoxP n 8 part) (np : (keys part).Nodup) {x0 x1 x2 x3 x4 x5 x6 x7 x8 x9 x10 x11 x12 x13 x14 x15 x16 x17 x18 x19 x20 x21 x22 x23 x24 x25 : Sl} :
    ∃ y5, n3 (E26 x0 x1 x2 x3 x4 x5 x6 x7 x8 x9 (.fz (.int (k : Int))) (.ow (.list ((unitsP n).map dP))) (.ow (dP part)) x13 x14 x15 x16 x17 x18 (.fz (.int (n : Int))) x20 x21 x22 x23 x24 x25) = .nx (E26 x0 x1 x2 x3 x4 y5 x6 x7 x8 x9 (.fz (.int (k : Int))) (.ow (.list ((unitsP n).map dP))) (.ow (dP (lastP n k part))) x13 x14 x15 x16 x17 x18 (.fz (.int (n : Int))) x20 x21 x22 x23 x24 x25) := by
  have h14 := nz4 hn
  have t : ev2 gLe (evName 10) (evName 19) (E26 x0 x1 x2 x3 x4 x5 x6 x7 x8 x9 (.fz (.int (k : Int))) (.ow (.list ((unitsP n).map dP))) (.ow (dP part)) x13 x14 x15 x16 x17 x18 (.fz (.int (n : Int))) x20 x21 x22 x23 x24 x25) = .ok (.fz (.bool (decide (k ≤ n)))) (E26 x0 x1 x2 x3 x4 x5 x6 x7 x8 x9 (.fz (.int (k : Int))) (.ow (.list ((unitsP n).map dP))) (.ow (dP part)) x13 x14 x15 x16 x17 x18 (.fz (.int (n : Int))) x20 x21 x22 x23 x24 x25) := by
    refine ev2_ok (v := .fz (.int (k : Int))) (w := .fz (.int (n : Int))) rfl rfl ?_
    show some (PyData.bool (decide ((k : Int) ≤ (n : Int)))) = _
    congr 2
    exact decide_eq_decide.mpr (by omega)
  unfold lastP
  by_cases z : k ≤ n
  · rw [if_pos z]
    rw [decide_eq_true z] at t
    obtain ⟨j, rfl⟩ : ∃ j, k = j + 1 := ⟨k - 1, by omega⟩
    have hj : j < n := by omega
    refine ⟨keepFz (some x5), (evIfS_t t).trans ?_⟩
    have sub1 : L3.gSub (.int ((j + 1 : Nat) : Int)) (.int 1) = some (.int (j : Int)) := congrArg (fun z => some (PyData.int z)) (show ((j + 1 : Nat) : Int) - 1 = (j : Int) by omega)
    have ux : ((unitsP n).map dP)[j]? = some (dP (unitP n (j + 1))) := by
      unfold unitsP
      rw [List.map_map, List.getElem?_map, List.getElem?_range hj]
      rfl
    have a1 : ∀ {y5 : Sl}, ev2L gIx 11 (ev2 gSub (evName 10) (evC (.int 1))) (E26 x0 x1 x2 x3 x4 y5 x6 x7 x8 x9 (.fz (.int ((j + 1 : Nat) : Int))) (.ow (.list ((unitsP n).map dP))) (.fz (dP part)) x13 x14 x15 x16 x17 x18 (.fz (.int (n : Int))) x20 x21 x22 x23 x24 x25) = .ok (.fz (dP (unitP n (j + 1)))) (E26 x0 x1 x2 x3 x4 y5 x6 x7 x8 x9 (.fz (.int ((j + 1 : Nat) : Int))) (.ow (.list ((unitsP n).map dP))) (.fz (dP part)) x13 x14 x15 x16 x17 x18 (.fz (.int (n : Int))) x20 x21 x22 x23 x24 x25) := fun {y5} =>
      ev2L_ok (d0 := .list ((unitsP n).map dP)) (d1 := .list ((unitsP n).map dP)) rfl (ev2_ok (v := .fz (.int ((j + 1 : Nat) : Int))) (w := .fz (.int 1)) rfl rfl sub1) rfl (gx_list ux)
    have nu : (keys (unitP n (j + 1))).Nodup := by unfold unitP keys; simp
    have neu : NeP (unitP n (j + 1)) := fun q hq => by rw [List.mem_singleton.mp hq]; exact ne_of_len (unitM_length n (j + 1)) hn
    have c : evComp (evI L3.keysOf (ev2L gIx 11 (ev2 gSub (evName 10) (evC (.int 1))))) ([(("spot" : Str), 5)].map (·.2)) (stName 5) (evC (.bool true)) (evTup (evCons (evName 5) (evCons (ev2 gMul (ev2 gMul (evName 10) (ev2 gDget (ev2L gIx 11 (ev2 gSub (evName 10) (evC (.int 1)))) (evName 5))) (evIf (ev2 gEqS (ev2 gMod (evName 10) (evC (.int 2))) (evC (.int 1))) (evC (.int 1)) (ev1 gNeg (evC (.int 1))))) evNil))) (E26 x0 x1 x2 x3 x4 x5 x6 x7 x8 x9 (.fz (.int ((j + 1 : Nat) : Int))) (.ow (.list ((unitsP n).map dP))) (.fz (dP part)) x13 x14 x15 x16 x17 x18 (.fz (.int (n : Int))) x20 x21 x22 x23 x24 x25) = .ok (.ow (.list (tP [(unitM n (j + 1), ((j + 1 : Nat) : Int) * 1 * (if (j + 1) % 2 = 1 then 1 else -1))]))) (E26 x0 x1 x2 x3 x4 (keepFz (some x5)) x6 x7 x8 x9 (.fz (.int ((j + 1 : Nat) : Int))) (.ow (.list ((unitsP n).map dP))) (.fz (dP part)) x13 x14 x15 x16 x17 x18 (.fz (.int (n : Int))) x20 x21 x22 x23 x24 x25) := by
      have h0 : evI L3.keysOf (ev2L gIx 11 (ev2 gSub (evName 10) (evC (.int 1)))) (E26 x0 x1 x2 x3 x4 x5 x6 x7 x8 x9 (.fz (.int ((j + 1 : Nat) : Int))) (.ow (.list ((unitsP n).map dP))) (.fz (dP part)) x13 x14 x15 x16 x17 x18 (.fz (.int (n : Int))) x20 x21 x22 x23 x24 x25) = .ok ((unitP n (j + 1)).map fun q => tM q.1) (E26 x0 x1 x2 x3 x4 x5 x6 x7 x8 x9 (.fz (.int ((j + 1 : Nat) : Int))) (.ow (.list ((unitsP n).map dP))) (.fz (dP part)) x13 x14 x15 x16 x17 x18 (.fz (.int (n : Int))) x20 x21 x22 x23 x24 x25) := by
        rw [← keys_map_tM]
        exact evI_ok a1 (keys_ok (unitP n (j + 1)))
      refine evComp_M (fun q : Mon × Int => pD (q.1, ((j + 1 : Nat) : Int) * q.2 * (if (j + 1) % 2 = 1 then 1 else -1))) h0 (by unfold unitP; simp) (fun q hq => ?_) rfl rfl
      have g1 := gDget_ok neu nu (m := q.1) (c := q.2) hq
      have q2 : q.2 = 1 := by rw [List.mem_singleton.mp hq]
      refine ⟨(E26 x0 x1 x2 x3 x4 (.fz (tM q.1)) x6 x7 x8 x9 (.fz (.int ((j + 1 : Nat) : Int))) (.ow (.list ((unitsP n).map dP))) (.fz (dP part)) x13 x14 x15 x16 x17 x18 (.fz (.int (n : Int))) x20 x21 x22 x23 x24 x25), (E26 x0 x1 x2 x3 x4 (.fz (tM q.1)) x6 x7 x8 x9 (.fz (.int ((j + 1 : Nat) : Int))) (.ow (.list ((unitsP n).map dP))) (.fz (dP part)) x13 x14 x15 x16 x17 x18 (.fz (.int (n : Int))) x20 x21 x22 x23 x24 x25), .fz (pD (q.1, ((j + 1 : Nat) : Int) * q.2 * (if (j + 1) % 2 = 1 then 1 else -1))), rfl, ?_, rfl, rfl⟩
      have d1 : ev2 gDget (ev2L gIx 11 (ev2 gSub (evName 10) (evC (.int 1)))) (evName 5) (E26 x0 x1 x2 x3 x4 (.fz (tM q.1)) x6 x7 x8 x9 (.fz (.int ((j + 1 : Nat) : Int))) (.ow (.list ((unitsP n).map dP))) (.fz (dP part)) x13 x14 x15 x16 x17 x18 (.fz (.int (n : Int))) x20 x21 x22 x23 x24 x25) = .ok (.fz (.int q.2)) (E26 x0 x1 x2 x3 x4 (.fz (tM q.1)) x6 x7 x8 x9 (.fz (.int ((j + 1 : Nat) : Int))) (.ow (.list ((unitsP n).map dP))) (.fz (dP part)) x13 x14 x15 x16 x17 x18 (.fz (.int (n : Int))) x20 x21 x22 x23 x24 x25) := ev2_ok (w := .fz (tM q.1)) a1 rfl g1
      have sk : Sm ((j + 1 : Nat) : Int) := Nat.lt_of_le_of_lt (show ((j + 1 : Nat) : Int).natAbs ≤ 1000 by omega) (by decide)
      have d2 := ev2_ok (fa := evName 10) (e := (E26 x0 x1 x2 x3 x4 (.fz (tM q.1)) x6 x7 x8 x9 (.fz (.int ((j + 1 : Nat) : Int))) (.ow (.list ((unitsP n).map dP))) (.fz (dP part)) x13 x14 x15 x16 x17 x18 (.fz (.int (n : Int))) x20 x21 x22 x23 x24 x25)) (v := .fz (.int ((j + 1 : Nat) : Int))) rfl d1 (mul_ok sk (by rw [q2]; exact sm1))
      have tst : ev2 gEqS (ev2 gMod (evName 10) (evC (.int 2))) (evC (.int 1)) (E26 x0 x1 x2 x3 x4 (.fz (tM q.1)) x6 x7 x8 x9 (.fz (.int ((j + 1 : Nat) : Int))) (.ow (.list ((unitsP n).map dP))) (.fz (dP part)) x13 x14 x15 x16 x17 x18 (.fz (.int (n : Int))) x20 x21 x22 x23 x24 x25) = .ok (.fz (.bool (decide ((j + 1) % 2 = 1)))) (E26 x0 x1 x2 x3 x4 (.fz (tM q.1)) x6 x7 x8 x9 (.fz (.int ((j + 1 : Nat) : Int))) (.ow (.list ((unitsP n).map dP))) (.fz (dP part)) x13 x14 x15 x16 x17 x18 (.fz (.int (n : Int))) x20 x21 x22 x23 x24 x25) := by
        refine ev2_ok (v := .fz (.int (((j + 1 : Nat) : Int) % 2))) (w := .fz (.int 1)) (ev2_ok (v := .fz (.int ((j + 1 : Nat) : Int))) (w := .fz (.int 2)) rfl rfl rfl) rfl ?_
        show some (PyData.bool (decide (((j + 1 : Nat) : Int) % 2 = 1))) = _
        congr 2
        exact decide_eq_decide.mpr (by omega)
      have d3 : evIf (ev2 gEqS (ev2 gMod (evName 10) (evC (.int 2))) (evC (.int 1))) (evC (.int 1)) (ev1 gNeg (evC (.int 1))) (E26 x0 x1 x2 x3 x4 (.fz (tM q.1)) x6 x7 x8 x9 (.fz (.int ((j + 1 : Nat) : Int))) (.ow (.list ((unitsP n).map dP))) (.fz (dP part)) x13 x14 x15 x16 x17 x18 (.fz (.int (n : Int))) x20 x21 x22 x23 x24 x25) = .ok (.fz (.int (if (j + 1) % 2 = 1 then 1 else -1))) (E26 x0 x1 x2 x3 x4 (.fz (tM q.1)) x6 x7 x8 x9 (.fz (.int ((j + 1 : Nat) : Int))) (.ow (.list ((unitsP n).map dP))) (.fz (dP part)) x13 x14 x15 x16 x17 x18 (.fz (.int (n : Int))) x20 x21 x22 x23 x24 x25) := by
        by_cases z : (j + 1) % 2 = 1
        · rw [decide_eq_true z] at tst
          rw [evIf_t tst, if_pos z]
          rfl
        · rw [decide_eq_false z] at tst
          rw [evIf_f tst, if_neg z]
          rfl
      have s3 : Sm (if (j + 1) % 2 = 1 then 1 else -1) := by
        split
        · exact sm1
        · show (-1 : Int).natAbs < _; decide
      have s4 : Sm (((j + 1 : Nat) : Int) * q.2) := by rw [q2, Int.mul_one]; exact sk
      exact evTup_ok (evCons_ok (v := .fz (tM q.1)) rfl (evCons_ok (ev2_ok d2 d3 (mul_ok s4 s3)) evNil_ok)) (by simp)
    have bL : BoxP n 8 [(unitM n (j + 1), ((j + 1 : Nat) : Int) * 1 * (if (j + 1) % 2 = 1 then 1 else -1))] := fun q hq => by
      rw [List.mem_singleton.mp hq]
      have := unit_box hn hj
      exact ⟨this.1, this.2.1, by have := this.2.2; show (unitM n (j + 1)).sum ≤ _; omega⟩
    have nL : (keys [(unitM n (j + 1), ((j + 1 : Nat) : Int) * 1 * (if (j + 1) % 2 = 1 then 1 else -1))]).Nodup := by unfold keys; simp
    have d := evBO_ok (evCons_ok c evNil_ok) (dictL_ok (bL.ne hn) nL)
    refine evSet_ok (evCall_ok (evCons_ok (v := .fz (dP part)) ?_ (evCons_ok d evNil_ok)) (F_plus_ok hn bp bL np nL)) rfl
    rfl
  · rw [if_neg z]
    rw [decide_eq_false z] at t
    exact ⟨x5, evIfS_ff t⟩
/-- sums.append(part) -/
theorem n4_ok {sums : List Pol} {part : Pol} (hl : sums.length ≤ 1000) {x0 x1 x2 x3 x4 x5 x6 x7 x8 x9 x10 x11 x12 x13 x14 x15 x16 x17 x18 x19 x20 x21 x22 x23 x24 x25 : Sl} : n4 (E26 x0 x1 x2 x3 x4 x5 x6 x7 (.ow (.list (sums.map dP))) x9 x10 x11 (.ow (dP part)) x13 x14 x15 x16 x17 x18 x19 x20 x21 x22 x23 x24 x25) = .nx (E26 x0 x1 x2 x3 x4 x5 x6 x7 (.ow (.list ((sums ++ [part]).map dP))) x9 x10 x11 (.fz (dP part)) x13 x14 x15 x16 x17 x18 x19 x20 x21 x22 x23 x24 x25) := by
  refine evDrop_ok (v := .fz .none) ?_
  unfold evAppend
  rw [show ((E26 x0 x1 x2 x3 x4 x5 x6 x7 (.ow (.list (sums.map dP))) x9 x10 x11 (.ow (dP part)) x13 x14 x15 x16 x17 x18 x19 x20 x21 x22 x23 x24 x25))[8]? = some (Sl.ow (.list (sums.map dP))) from rfl]
  (try dsimp only)
  rw [show evName 12 (E26 x0 x1 x2 x3 x4 x5 x6 x7 (.ow (.list (sums.map dP))) x9 x10 x11 (.ow (dP part)) x13 x14 x15 x16 x17 x18 x19 x20 x21 x22 x23 x24 x25) = .ok (.fz (dP part)) (E26 x0 x1 x2 x3 x4 x5 x6 x7 (.ow (.list (sums.map dP))) x9 x10 x11 (.fz (dP part)) x13 x14 x15 x16 x17 x18 x19 x20 x21 x22 x23 x24 x25) from rfl, R.bnd_ok]
  rw [show ((E26 x0 x1 x2 x3 x4 x5 x6 x7 (.ow (.list (sums.map dP))) x9 x10 x11 (.fz (dP part)) x13 x14 x15 x16 x17 x18 x19 x20 x21 x22 x23 x24 x25))[8]? = some (Sl.ow (.list (sums.map dP))) from rfl]
  (try dsimp only)
  rw [if_pos (by rw [List.length_map]; omega), List.map_append]
  rfl
/-- the powers -/
theorem n5_ok {n k : Nat} (hn : n ∈ [1, 2, 3, 4]) (hk8 : k ≤ 900) (nd : (keys (powP n k)).Nodup) {x0 x1 x2 x3 x4 x5 x6 x7 x8 x9 x10 x11 x12 x13 x14 x15 x16 x17 x18 x19 x20 x21 x22 x23 x24 x25 : Sl} (h25 : NF x25) : ∃ y24, n5 (E26 x0 x1 x2 x3 x4 x5 x6 x7 x8 x9 (.fz (.int (k : Int))) x11 x12 x13 x14 x15 x16 x17 x18 (.fz (.int (n : Int))) x20 x21 x22 x23 x24 x25) = .nx (E26 x0 x1 x2 x3 x4 x5 x6 x7 x8 x9 (.fz (.int (k : Int))) x11 x12 x13 x14 x15 x16 x17 x18 (.fz (.int (n : Int))) x20 (.ow (dP (powP n k))) x22 x23 y24 x25) := by
  have h14 := nz4 hn
  refine ⟨keepFz (some x24), ?_⟩
  have rg : ∀ {y24 y25 : Sl}, evIA rng1Of (evCons (evName 19) evNil) (E26 x0 x1 x2 x3 x4 x5 x6 x7 x8 x9 (.fz (.int (k : Int))) x11 x12 x13 x14 x15 x16 x17 x18 (.fz (.int (n : Int))) x20 x21 x22 x23 y24 y25) = .ok ((List.range n).map fun i : Nat => PyData.int (0 + (i : Nat))) (E26 x0 x1 x2 x3 x4 x5 x6 x7 x8 x9 (.fz (.int (k : Int))) x11 x12 x13 x14 x15 x16 x17 x18 (.fz (.int (n : Int))) x20 x21 x22 x23 y24 y25) := fun {y24 y25} => evIA_ok (ds := [.int (n : Int)]) rfl (rng1_ok n (by omega))
  have c : evComp (evIA rng1Of (evCons (evName 19) evNil)) ([(("at" : Str), 24)].map (·.2)) (stName 24) (evC (.bool true)) (evTup (evCons (evB gTup (evCons (evComp (evIA rng1Of (evCons (evName 19) evNil)) ([(("i" : Str), 25)].map (·.2)) (stName 25) (evC (.bool true)) (ev2 gMul (evName 10) (evB gInt (evCons (ev2 gEqS (evName 25) (evName 24)) evNil)))) evNil)) (evCons (evC (.int 1)) evNil))) (E26 x0 x1 x2 x3 x4 x5 x6 x7 x8 x9 (.fz (.int (k : Int))) x11 x12 x13 x14 x15 x16 x17 x18 (.fz (.int (n : Int))) x20 x21 x22 x23 x24 x25) = .ok (.ow (.list (tP (powP n k)))) (E26 x0 x1 x2 x3 x4 x5 x6 x7 x8 x9 (.fz (.int (k : Int))) x11 x12 x13 x14 x15 x16 x17 x18 (.fz (.int (n : Int))) x20 x21 x22 x23 (keepFz (some x24)) x25) := by
    refine evComp_M (fun a : Nat => pD ((List.range n).map fun i => (k : Int) * if i = a then 1 else 0, 1)) (rg (y24 := x24) (y25 := x25)) (by rw [List.length_range]; omega) (fun a ha => ?_) rfl (by unfold tP powP; rw [List.map_map]; rfl)
    have i1 : evComp (evIA rng1Of (evCons (evName 19) evNil)) ([(("i" : Str), 25)].map (·.2)) (stName 25) (evC (.bool true)) (ev2 gMul (evName 10) (evB gInt (evCons (ev2 gEqS (evName 25) (evName 24)) evNil))) (E26 x0 x1 x2 x3 x4 x5 x6 x7 x8 x9 (.fz (.int (k : Int))) x11 x12 x13 x14 x15 x16 x17 x18 (.fz (.int (n : Int))) x20 x21 x22 x23 (.fz (.int (0 + (a : Nat)))) x25) = .ok (.ow (.list (((List.range n).map fun i => (k : Int) * if i = a then 1 else 0).map .int))) (E26 x0 x1 x2 x3 x4 x5 x6 x7 x8 x9 (.fz (.int (k : Int))) x11 x12 x13 x14 x15 x16 x17 x18 (.fz (.int (n : Int))) x20 x21 x22 x23 (.fz (.int (0 + (a : Nat)))) (keepFz (some x25))) := by
      refine evComp_M (fun i : Nat => .int ((k : Int) * if i = a then 1 else 0)) (rg (y24 := .fz (.int (0 + (a : Nat)))) (y25 := x25)) (by rw [List.length_range]; omega) (fun i hi => ?_) rfl (by rw [List.map_map]; rfl)
      refine ⟨(E26 x0 x1 x2 x3 x4 x5 x6 x7 x8 x9 (.fz (.int (k : Int))) x11 x12 x13 x14 x15 x16 x17 x18 (.fz (.int (n : Int))) x20 x21 x22 x23 (.fz (.int (0 + (a : Nat)))) (.fz (.int (0 + (i : Nat))))), (E26 x0 x1 x2 x3 x4 x5 x6 x7 x8 x9 (.fz (.int (k : Int))) x11 x12 x13 x14 x15 x16 x17 x18 (.fz (.int (n : Int))) x20 x21 x22 x23 (.fz (.int (0 + (a : Nat)))) (.fz (.int (0 + (i : Nat))))), .fz (.int ((k : Int) * if i = a then 1 else 0)), rfl, ?_, rfl, rfl⟩
      have g : gEqS (.int (0 + (i : Nat))) (.int (0 + (a : Nat))) = some (.bool (decide (i = a))) := by
        show some (PyData.bool (decide ((0 + (i : Nat) : Int) = (0 + (a : Nat))))) = _
        congr 2
        exact decide_eq_decide.mpr (by omega)
      have e := ev2_ok (fa := evName 25) (fb := evName 24) (e := (E26 x0 x1 x2 x3 x4 x5 x6 x7 x8 x9 (.fz (.int (k : Int))) x11 x12 x13 x14 x15 x16 x17 x18 (.fz (.int (n : Int))) x20 x21 x22 x23 (.fz (.int (0 + (a : Nat)))) (.fz (.int (0 + (i : Nat)))))) (e1 := (E26 x0 x1 x2 x3 x4 x5 x6 x7 x8 x9 (.fz (.int (k : Int))) x11 x12 x13 x14 x15 x16 x17 x18 (.fz (.int (n : Int))) x20 x21 x22 x23 (.fz (.int (0 + (a : Nat)))) (.fz (.int (0 + (i : Nat)))))) (e2 := (E26 x0 x1 x2 x3 x4 x5 x6 x7 x8 x9 (.fz (.int (k : Int))) x11 x12 x13 x14 x15 x16 x17 x18 (.fz (.int (n : Int))) x20 x21 x22 x23 (.fz (.int (0 + (a : Nat)))) (.fz (.int (0 + (i : Nat)))))) (v := .fz (.int (0 + (i : Nat)))) (w := .fz (.int (0 + (a : Nat)))) rfl rfl g
      have gi : gInt [.bool (decide (i = a))] = some (.int (if i = a then 1 else 0)) := by
        show some (PyData.int (if decide (i = a) = true then 1 else 0)) = _
        by_cases z : i = a
        · rw [if_pos (decide_eq_true z), if_pos z]
        · rw [if_neg (by rw [decide_eq_false z]; decide), if_neg z]
      have e2 := evB_ok (evCons_ok e evNil_ok) gi
      have sk : Sm (k : Int) := Nat.lt_of_le_of_lt (show (k : Int).natAbs ≤ 1000 by omega) (by decide)
      have s1 : Sm (if i = a then 1 else 0) := by
        split
        · exact sm1
        · show (0 : Int).natAbs < _; decide
      exact ev2_ok (v := .fz (.int (k : Int))) rfl e2 (mul_ok sk s1)
    refine ⟨(E26 x0 x1 x2 x3 x4 x5 x6 x7 x8 x9 (.fz (.int (k : Int))) x11 x12 x13 x14 x15 x16 x17 x18 (.fz (.int (n : Int))) x20 x21 x22 x23 (.fz (.int (0 + (a : Nat)))) x25), (E26 x0 x1 x2 x3 x4 x5 x6 x7 x8 x9 (.fz (.int (k : Int))) x11 x12 x13 x14 x15 x16 x17 x18 (.fz (.int (n : Int))) x20 x21 x22 x23 (.fz (.int (0 + (a : Nat)))) (keepFz (some x25))), .fz (pD ((List.range n).map fun i => (k : Int) * if i = a then 1 else 0, 1)), rfl, ?_, rfl, by rw [show keepFz (some x25) = x25 from h25]; rfl⟩
    exact evTup_ok (evCons_ok (evB_ok (d := tM ((List.range n).map fun i => (k : Int) * if i = a then 1 else 0)) (evCons_ok i1 evNil_ok) rfl) (evCons_ok (v := .fz (.int 1)) rfl evNil_ok)) (by simp)
  refine evSet_ok (evBO_ok (evCons_ok c evNil_ok) (dictL_ok (fun q hq => ?_) nd)) rfl
  obtain ⟨a, _, rfl⟩ := List.mem_map.mp hq
  exact ne_of_len (n := n) (by simp) hn
/-- told(elementary(n, passed(powers))) == (0, passed(part)) -/
theorem n6_ok {n : Nat} (hn : n ∈ [1, 2, 3, 4]) {W S : Pol} (bw : BoxP n 8 W) (nw : (keys W).Nodup) (zw : ∀ x ∈ W, x.2 ≠ 0) (h : IsSum n W S) (o : SOk n S) (nd : (keys S).Nodup) (ls : S.length ≤ 900) {x0 x1 x2 x3 x4 x5 x6 x7 x8 x9 x10 x11 x12 x13 x14 x15 x16 x17 x18 x19 x20 x21 x22 x23 x24 x25 : Sl} : n6 (E26 x0 x1 x2 x3 x4 x5 x6 x7 x8 x9 x10 x11 (.fz (dP S)) x13 x14 x15 x16 x17 x18 (.fz (.int (n : Int))) x20 (.ow (dP W)) x22 x23 x24 x25) = .nx (E26 x0 x1 x2 x3 x4 x5 x6 x7 x8 x9 x10 x11 (.fz (dP S)) x13 x14 x15 x16 x17 x18 (.fz (.int (n : Int))) x20 (.fz (dP W)) x22 x23 x24 x25) := by
  have lw := bw.length hn nw
  have neS : NeP S := fun q hq => ne_of_len (o.ok.len q hq) hn
  have p1 : evCall F__law_passed (evCons (evName 21) evNil) (E26 x0 x1 x2 x3 x4 x5 x6 x7 x8 x9 x10 x11 (.fz (dP S)) x13 x14 x15 x16 x17 x18 (.fz (.int (n : Int))) x20 (.ow (dP W)) x22 x23 x24 x25) = .ok (.fz (.tuple (tP (sortP W)))) (E26 x0 x1 x2 x3 x4 x5 x6 x7 x8 x9 x10 x11 (.fz (dP S)) x13 x14 x15 x16 x17 x18 (.fz (.int (n : Int))) x20 (.fz (dP W)) x22 x23 x24 x25) := evCall_ok (ds := [dP W]) rfl (F_passed_ok (bw.ne hn) nw (by omega))
  have c1 : evCall F_elementary (evCons (evName 19) (evCons (evCall F__law_passed (evCons (evName 21) evNil)) evNil)) (E26 x0 x1 x2 x3 x4 x5 x6 x7 x8 x9 x10 x11 (.fz (dP S)) x13 x14 x15 x16 x17 x18 (.fz (.int (n : Int))) x20 (.ow (dP W)) x22 x23 x24 x25) = .ok (.fz (.tuple (tP (sortP S)))) (E26 x0 x1 x2 x3 x4 x5 x6 x7 x8 x9 x10 x11 (.fz (dP S)) x13 x14 x15 x16 x17 x18 (.fz (.int (n : Int))) x20 (.fz (dP W)) x22 x23 x24 x25) := evCall_ok (evCons_ok (v := .fz (.int (n : Int))) rfl (evCons_ok p1 evNil_ok)) (el_sorted hn nw zw h o nd ls)
  have t1 := told_ok c1 (sok_read hn o ls)
  have p2 : evCall F__law_passed (evCons (evName 12) evNil) (E26 x0 x1 x2 x3 x4 x5 x6 x7 x8 x9 x10 x11 (.fz (dP S)) x13 x14 x15 x16 x17 x18 (.fz (.int (n : Int))) x20 (.fz (dP W)) x22 x23 x24 x25) = .ok (.fz (.tuple (tP (sortP S)))) (E26 x0 x1 x2 x3 x4 x5 x6 x7 x8 x9 x10 x11 (.fz (dP S)) x13 x14 x15 x16 x17 x18 (.fz (.int (n : Int))) x20 (.fz (dP W)) x22 x23 x24 x25) := evCall_ok (ds := [dP S]) rfl (F_passed_ok neS nd (by omega))
  have t2 : evTup (evCons (evC (.int 0)) (evCons (evCall F__law_passed (evCons (evName 12) evNil)) evNil)) (E26 x0 x1 x2 x3 x4 x5 x6 x7 x8 x9 x10 x11 (.fz (dP S)) x13 x14 x15 x16 x17 x18 (.fz (.int (n : Int))) x20 (.fz (dP W)) x22 x23 x24 x25) = .ok (.fz (.tuple [.int 0, .tuple (tP (sortP S))])) (E26 x0 x1 x2 x3 x4 x5 x6 x7 x8 x9 x10 x11 (.fz (dP S)) x13 x14 x15 x16 x17 x18 (.fz (.int (n : Int))) x20 (.fz (dP W)) x22 x23 x24 x25) := evTup_ok (evCons_ok (v := .fz (.int 0)) rfl (evCons_ok p2 evNil_ok)) (by simp)
  exact evIfS_ff (ev2_ok t1 t2 neD_same)
end K22
set_option Elab.async false
set_option linter.all false
set_option maxRecDepth 100000
set_option exponentiation.threshold 5000
-- SLOTS 26
namespace K22
open PySem PySem.Spec PyProof.Rows L2 LamX L3 EP EL
/-! what is closed in Newton's rule -/
theorem cl1 : ∀ n ∈ [1, 2, 3, 4], ∀ k ∈ [1, 2, 3, 4, 5], ∀ p ∈ newS n (k - 1), (keys p).Nodup ∧ (∀ q ∈ p, q.1.length = n ∧ (∀ z ∈ q.1, 0 ≤ z) ∧ q.1.sum ≤ (7 : Nat)) ∧ ∀ q ∈ p, q.2.natAbs < 2 ^ 2000 := by decide +kernel
theorem cl2 : ∀ n ∈ [1, 2, 3, 4], ∀ k ∈ [1, 2, 3, 4, 5], (keys (newP n k (newS n (k - 1)))).Nodup ∧ (newP n k (newS n (k - 1))).length ≤ 900 ∧ ∀ q ∈ newP n k (newS n (k - 1)), q.1.length = n ∧ (∀ z ∈ q.1, 0 ≤ z) ∧ q.2 ≠ 0 ∧ q.2.natAbs < 2 ^ 1000 ∧ wtFrom 0 q.1 ≤ 8 := by decide +kernel
theorem cl3 : ∀ n ∈ [1, 2, 3, 4], ∀ k ∈ [1, 2, 3, 4, 5], (keys (powP n k)).Nodup ∧ (∀ q ∈ powP n k, q.2 ≠ 0) ∧ ∀ q ∈ powP n k, q.1.length = n ∧ (∀ z ∈ q.1, 0 ≤ z) ∧ q.1.sum ≤ (8 : Nat) := by decide +kernel
theorem cl4 : ∀ n ∈ [1, 2, 3, 4], ∀ k ∈ [1, 2, 3, 4, 5], (writtenP n (newP n k (newS n (k - 1)))).Perm (powP n k) := by decide +kernel
theorem newS_length (n : Nat) : ∀ k, (newS n k).length = k + 1
  | 0 => rfl
  | k + 1 => by
    unfold newS
    rw [List.length_append, newS_length n k]; rfl
theorem newton_turn {n k : Nat} (hn : n ∈ [1, 2, 3, 4]) (hk : k ∈ [1, 2, 3, 4, 5]) {x0 x1 x2 x3 x4 x5 x6 x7 x8 x9 x10 x11 x12 x13 x14 x15 x16 x17 x18 x19 x20 x21 x22 x23 x24 x25 : Sl} (h25 : NF x25) :
    ∃ y5 y7 y12 y13 y21 y24, nBody (E26 x0 x1 x2 x3 x4 x5 x6 x7 (.ow (.list ((newS n (k - 1)).map dP))) x9 (.fz (.int (k : Int))) (.ow (.list ((unitsP n).map dP))) x12 x13 x14 x15 x16 x17 x18 (.fz (.int (n : Int))) x20 x21 x22 x23 x24 x25) = .nx (E26 x0 x1 x2 x3 x4 y5 x6 y7 (.ow (.list ((newS n k).map dP))) x9 (.fz (.int (k : Int))) (.ow (.list ((unitsP n).map dP))) y12 y13 x14 x15 x16 x17 x18 (.fz (.int (n : Int))) x20 y21 x22 x23 y24 x25) := by
  have k15 : 1 ≤ k ∧ k ≤ 5 := by simp at hk; omega
  have ls : (newS n (k - 1)).length = k := by rw [newS_length]; omega
  have H : ∀ p ∈ newS n (k - 1), PolOk n 7 p := fun p hp => by
    obtain ⟨h1, h2, h3⟩ := cl1 n hn k hk p hp
    exact ⟨h1, h2, h3⟩
  obtain ⟨a1, a2, a3⟩ := cl2 n hn k hk
  obtain ⟨b1, b2, b3⟩ := cl3 n hn k hk
  have o : SOk n (newP n k (newS n (k - 1))) := ⟨⟨fun q hq => (a3 q hq).1, fun q hq => (a3 q hq).2.1, fun q hq => (a3 q hq).2.2.1⟩, fun q hq => (a3 q hq).2.2.2.1, fun q hq => (a3 q hq).2.2.2.2⟩
  have w := written_ok hn o
  have s : IsSum n (powP n k) (newP n k (newS n (k - 1))) := fun key => by
    rw [← w.2.2.2 key, ← sumL_one b1, ← sumL_one w.2.1, sumL_perm (cl4 n hn k hk)]
  obtain ⟨y5, y7, y13, e2, bp, np⟩ := n2_ok hn k15.1 (by omega) ls H (x0 := x0) (x1 := x1) (x2 := x2) (x3 := x3) (x4 := x4) (x5 := x5) (x6 := x6) (x7 := x7) (x8 := x8) (x9 := x9) (x10 := x10) (x11 := x11) (x12 := x12) (x13 := x13) (x14 := x14) (x15 := x15) (x16 := x16) (x17 := x17) (x18 := x18) (x19 := x19) (x20 := x20) (x21 := x21) (x22 := x22) (x23 := x23) (x24 := x24) (x25 := x25)
  obtain ⟨z5, e3⟩ := n3_ok hn k15.1 (by omega) bp np (x0 := x0) (x1 := x1) (x2 := x2) (x3 := x3) (x4 := x4) (x5 := y5) (x6 := x6) (x7 := y7) (x8 := .ow (.list ((newS n (k - 1)).map dP))) (x9 := x9) (x10 := x10) (x11 := x11) (x12 := x12) (x13 := y13) (x14 := x14) (x15 := x15) (x16 := x16) (x17 := x17) (x18 := x18) (x19 := x19) (x20 := x20) (x21 := x21) (x22 := x22) (x23 := x23) (x24 := x24) (x25 := x25)
  have e4 := n4_ok (sums := newS n (k - 1)) (part := newP n k (newS n (k - 1))) (by omega) (x0 := x0) (x1 := x1) (x2 := x2) (x3 := x3) (x4 := x4) (x5 := z5) (x6 := x6) (x7 := y7) (x8 := x8) (x9 := x9) (x10 := .fz (.int (k : Int))) (x11 := .ow (.list ((unitsP n).map dP))) (x12 := x12) (x13 := y13) (x14 := x14) (x15 := x15) (x16 := x16) (x17 := x17) (x18 := x18) (x19 := .fz (.int (n : Int))) (x20 := x20) (x21 := x21) (x22 := x22) (x23 := x23) (x24 := x24) (x25 := x25)
  have se : newS n (k - 1) ++ [newP n k (newS n (k - 1))] = newS n k := by
    obtain ⟨j, rfl⟩ : ∃ j, k = j + 1 := ⟨k - 1, by omega⟩
    rfl
  rw [se] at e4
  obtain ⟨y24, e5⟩ := n5_ok hn (by omega) b1 (x0 := x0) (x1 := x1) (x2 := x2) (x3 := x3) (x4 := x4) (x5 := z5) (x6 := x6) (x7 := y7) (x8 := .ow (.list ((newS n k).map dP))) (x9 := x9) (x10 := x10) (x11 := .ow (.list ((unitsP n).map dP))) (x12 := .fz (dP (newP n k (newS n (k - 1))))) (x13 := y13) (x14 := x14) (x15 := x15) (x16 := x16) (x17 := x17) (x18 := x18) (x19 := x19) (x20 := x20) (x21 := x21) (x22 := x22) (x23 := x23) (x24 := x24) (x25 := x25) h25
  have e6 := n6_ok hn b3 b1 b2 s o a1 a2 (x0 := x0) (x1 := x1) (x2 := x2) (x3 := x3) (x4 := x4) (x5 := z5) (x6 := x6) (x7 := y7) (x8 := .ow (.list ((newS n k).map dP))) (x9 := x9) (x10 := .fz (.int (k : Int))) (x11 := .ow (.list ((unitsP n).map dP))) (x12 := x12) (x13 := y13) (x14 := x14) (x15 := x15) (x16 := x16) (x17 := x17) (x18 := x18) (x19 := x19) (x20 := x20) (x21 := x21) (x22 := x22) (x23 := x23) (x24 := y24) (x25 := x25)
  refine ⟨z5, y7, _, y13, _, y24, run_seq (e1 := (E26 x0 x1 x2 x3 x4 x5 x6 x7 (.ow (.list ((newS n (k - 1)).map dP))) x9 (.fz (.int (k : Int))) (.ow (.list ((unitsP n).map dP))) (.ow (dP [])) x13 x14 x15 x16 x17 x18 (.fz (.int (n : Int))) x20 x21 x22 x23 x24 x25)) rfl (run_seq e2 (run_seq e3 (run_seq e4 (run_seq e5 e6))))⟩
theorem newton_loop {n : Nat} (hn : n ∈ [1, 2, 3, 4]) : ∀ (c j : Nat), j + c = 5 → ∀ {x0 x1 x2 x3 x4 x5 x6 x7 x8 x9 x10 x11 x12 x13 x14 x15 x16 x17 x18 x19 x20 x21 x22 x23 x24 x25 : Sl}, NF x25 →
    ∃ y5 y7 y8 y10 y12 y13 y21 y24, (NF x10 → NF y10) ∧ evLoop (stName 10) nBody ((List.range' (j + 1) c).map fun i : Nat => PyData.int (i : Int)) (E26 x0 x1 x2 x3 x4 x5 x6 x7 (.ow (.list ((newS n j).map dP))) x9 x10 (.ow (.list ((unitsP n).map dP))) x12 x13 x14 x15 x16 x17 x18 (.fz (.int (n : Int))) x20 x21 x22 x23 x24 x25) = .nx (E26 x0 x1 x2 x3 x4 y5 x6 y7 y8 x9 y10 (.ow (.list ((unitsP n).map dP))) y12 y13 x14 x15 x16 x17 x18 (.fz (.int (n : Int))) x20 y21 x22 x23 y24 x25)
  | 0, j, _, x0, x1, x2, x3, x4, x5, x6, x7, x8, x9, x10, x11, x12, x13, x14, x15, x16, x17, x18, x19, x20, x21, x22, x23, x24, x25, h25 => ⟨x5, x7, _, x10, x12, x13, x21, x24, fun h => h, rfl⟩
  | c + 1, j, hj, x0, x1, x2, x3, x4, x5, x6, x7, x8, x9, x10, x11, x12, x13, x14, x15, x16, x17, x18, x19, x20, x21, x22, x23, x24, x25, h25 => by
    obtain ⟨y5, y7, y12, y13, y21, y24, t⟩ := newton_turn hn (k := j + 1) (by simp; omega) (x0 := x0) (x1 := x1) (x2 := x2) (x3 := x3) (x4 := x4) (x5 := x5) (x6 := x6) (x7 := x7) (x8 := x8) (x9 := x9) (x10 := x10) (x11 := x11) (x12 := x12) (x13 := x13) (x14 := x14) (x15 := x15) (x16 := x16) (x17 := x17) (x18 := x18) (x19 := x19) (x20 := x20) (x21 := x21) (x22 := x22) (x23 := x23) (x24 := x24) (x25 := x25) h25
    rw [Nat.add_sub_cancel] at t
    obtain ⟨z5, z7, z8, z10, z12, z13, z21, z24, hz, e⟩ := newton_loop hn c (j + 1) (by omega) (x0 := x0) (x1 := x1) (x2 := x2) (x3 := x3) (x4 := x4) (x5 := y5) (x6 := x6) (x7 := y7) (x8 := x8) (x9 := x9) (x10 := .fz (.int ((j + 1 : Nat) : Int))) (x11 := x11) (x12 := y12) (x13 := y13) (x14 := x14) (x15 := x15) (x16 := x16) (x17 := x17) (x18 := x18) (x19 := x19) (x20 := x20) (x21 := y21) (x22 := x22) (x23 := x23) (x24 := y24) (x25 := x25) h25
    rw [List.range'_succ, List.map_cons]
    exact ⟨z5, z7, z8, z10, z12, z13, z21, z24, fun _ => hz rfl, (evLoop_step (e1 := (E26 x0 x1 x2 x3 x4 x5 x6 x7 (.ow (.list ((newS n j).map dP))) x9 (.fz (.int ((j + 1 : Nat) : Int))) (.ow (.list ((unitsP n).map dP))) x12 x13 x14 x15 x16 x17 x18 (.fz (.int (n : Int))) x20 x21 x22 x23 x24 x25)) rfl t).trans e⟩
theorem b9_ok {n : Nat} (hn : n ∈ [1, 2, 3, 4]) {x0 x1 x2 x3 x4 x5 x6 x7 x8 x9 x10 x11 x12 x13 x14 x15 x16 x17 x18 x19 x20 x21 x22 x23 x24 x25 : Sl} (h10 : NF x10) (h25 : NF x25) :
    ∃ y5 y7 y8 y10 y12 y13 y21 y24, NF y10 ∧ b9 (E26 x0 x1 x2 x3 x4 x5 x6 x7 (.ow (.list (([[]] : List Pol).map dP))) x9 x10 (.ow (.list ((unitsP n).map dP))) x12 x13 x14 x15 x16 x17 x18 (.fz (.int (n : Int))) x20 x21 x22 x23 x24 x25) = .nx (E26 x0 x1 x2 x3 x4 y5 x6 y7 y8 x9 y10 (.ow (.list ((unitsP n).map dP))) y12 y13 x14 x15 x16 x17 x18 (.fz (.int (n : Int))) x20 y21 x22 x23 y24 x25) := by
  obtain ⟨y5, y7, y8, y10, y12, y13, y21, y24, hy, e⟩ := newton_loop hn 5 0 rfl (x0 := x0) (x1 := x1) (x2 := x2) (x3 := x3) (x4 := x4) (x5 := x5) (x6 := x6) (x7 := x7) (x8 := x8) (x9 := x9) (x10 := x10) (x11 := x11) (x12 := x12) (x13 := x13) (x14 := x14) (x15 := x15) (x16 := x16) (x17 := x17) (x18 := x18) (x19 := x19) (x20 := x20) (x21 := x21) (x22 := x22) (x23 := x23) (x24 := x24) (x25 := x25) h25
  refine ⟨y5, y7, y8, y10, y12, y13, y21, y24, hy h10, run_for (items := (List.range' (0 + 1) 5).map fun i : Nat => PyData.int (i : Int)) (evIA_ok (ds := [.int ((1 : Nat) : Int), .int ((6 : Nat) : Int)]) rfl (rng2_ok 1 6 (by decide) (by decide))) e⟩
end K22
set_option Elab.async false
set_option linter.all false
set_option maxRecDepth 100000
set_option exponentiation.threshold 5000
-- SLOTS 26
namespace K22
open PySem PySem.Spec PyProof.Rows L2 LamX L3 EP EL
/-! the spot -/
theorem b10_loop {x0 x1 x2 x3 x4 x5 x6 x7 x8 x9 x10 x11 x12 x13 x14 x15 x16 x17 x18 x19 x20 x21 x22 x23 x24 x25 : Sl} : ∀ (items : List PyData) (acc : Mon) {d : PyData}, Bx d → acc.length + items.length ≤ 1000 → ∃ (m : Mon) (d' : PyData), Bx d' ∧ m.length = items.length ∧ (∀ z ∈ m, 0 ≤ z ∧ z ≤ 2) ∧
    evCLoop [10] (stName 10) (evC (.bool true)) (evCallIO F__law_draw 1 (evCons (evC (.int 3)) evNil)) items (acc.map .int) (E26 x0 (.ow d) x2 x3 x4 x5 x6 x7 x8 x9 .emp x11 x12 x13 x14 x15 x16 x17 x18 x19 x20 x21 x22 x23 x24 x25) = .ok ((acc ++ m).map .int) (E26 x0 (.ow d') x2 x3 x4 x5 x6 x7 x8 x9 .emp x11 x12 x13 x14 x15 x16 x17 x18 x19 x20 x21 x22 x23 x24 x25)
  | [], acc, d, hd, _ => ⟨[], d, hd, rfl, (fun z hz => by cases hz), by rw [List.append_nil]; rfl⟩
  | t :: items, acc, d, hd, hl => by
    rw [List.length_cons] at hl
    obtain ⟨c, d', h, c0, c1, hd'⟩ := draw_ok hd (high := 3) (by decide) (by decide)
    obtain ⟨m, d'', hd'', lm, hm, e⟩ := b10_loop (x0 := x0) (x1 := x1) (x2 := x2) (x3 := x3) (x4 := x4) (x5 := x5) (x6 := x6) (x7 := x7) (x8 := x8) (x9 := x9) (x10 := x10) (x11 := x11) (x12 := x12) (x13 := x13) (x14 := x14) (x15 := x15) (x16 := x16) (x17 := x17) (x18 := x18) (x19 := x19) (x20 := x20) (x21 := x21) (x22 := x22) (x23 := x23) (x24 := x24) (x25 := x25) items (acc ++ [c]) hd' (by rw [List.length_append, List.length_singleton]; omega)
    refine ⟨c :: m, d'', hd'', by rw [List.length_cons, List.length_cons, lm], fun z hz => ?_, ?_⟩
    · rcases List.mem_cons.mp hz with rfl | hz
      · omega
      · exact hm z hz
    · have a1 : evCallIO F__law_draw 1 (evCons (evC (.int 3)) evNil) (E26 x0 (.ow d) x2 x3 x4 x5 x6 x7 x8 x9 (.fz t) x11 x12 x13 x14 x15 x16 x17 x18 x19 x20 x21 x22 x23 x24 x25) = .ok (.fz (.int c)) (E26 x0 (.ow d') x2 x3 x4 x5 x6 x7 x8 x9 (.fz t) x11 x12 x13 x14 x15 x16 x17 x18 x19 x20 x21 x22 x23 x24 x25) := callIO_ow (ds := [.int 3]) (e1 := (E26 x0 (.ow d) x2 x3 x4 x5 x6 x7 x8 x9 (.fz t) x11 x12 x13 x14 x15 x16 x17 x18 x19 x20 x21 x22 x23 x24 x25)) rfl rfl rfl h rfl
      have st : stName 10 t (E26 x0 (.ow d) x2 x3 x4 x5 x6 x7 x8 x9 .emp x11 x12 x13 x14 x15 x16 x17 x18 x19 x20 x21 x22 x23 x24 x25) = some (E26 x0 (.ow d) x2 x3 x4 x5 x6 x7 x8 x9 (.fz t) x11 x12 x13 x14 x15 x16 x17 x18 x19 x20 x21 x22 x23 x24 x25) := rfl
      have tt : evC (.bool true) (E26 x0 (.ow d) x2 x3 x4 x5 x6 x7 x8 x9 (.fz t) x11 x12 x13 x14 x15 x16 x17 x18 x19 x20 x21 x22 x23 x24 x25) = .ok (.fz (.bool true)) (E26 x0 (.ow d) x2 x3 x4 x5 x6 x7 x8 x9 (.fz t) x11 x12 x13 x14 x15 x16 x17 x18 x19 x20 x21 x22 x23 x24 x25) := rfl
      have wi : wipeE (E26 x0 (.ow d') x2 x3 x4 x5 x6 x7 x8 x9 (.fz t) x11 x12 x13 x14 x15 x16 x17 x18 x19 x20 x21 x22 x23 x24 x25) [10] = (E26 x0 (.ow d') x2 x3 x4 x5 x6 x7 x8 x9 .emp x11 x12 x13 x14 x15 x16 x17 x18 x19 x20 x21 x22 x23 x24 x25) := rfl
      rw [evCLoop, st]
      (try dsimp only)
      rw [tt]
      (try dsimp only)
      rw [a1]
      (try dsimp only)
      rw [if_pos (by rw [List.length_map]; omega), wi]
      rw [List.map_append, List.append_assoc] at e
      exact e
theorem sum_le2 : ∀ {m : Mon}, (∀ z ∈ m, 0 ≤ z ∧ z ≤ 2) → m.sum ≤ 2 * m.length
  | [], _ => by simp
  | a :: m, h => by
    have := sum_le2 (m := m) fun z hz => h z (List.mem_cons_of_mem _ hz)
    have := h a List.mem_cons_self
    rw [List.sum_cons, List.length_cons]
    omega
def Sp (n : Nat) (m : Mon) : Prop := m.length = n ∧ ∀ z ∈ m, 0 ≤ z ∧ z ≤ 2
theorem Sp.box {n : Nat} (hn : n ∈ [1, 2, 3, 4]) {m : Mon} (h : Sp n m) : InBox n 8 m := by
  have := sum_le2 h.2
  have := nz4 hn
  have := h.1
  exact ⟨h.1, fun z hz => (h.2 z hz).1, by omega⟩
theorem b10_ok {n : Nat} (hn : n ∈ [1, 2, 3, 4]) {d : PyData} (hd : Bx d) {x0 x1 x2 x3 x4 x5 x6 x7 x8 x9 x10 x11 x12 x13 x14 x15 x16 x17 x18 x19 x20 x21 x22 x23 x24 x25 : Sl} : ∃ (m : Mon) (d' : PyData), Bx d' ∧ Sp n m ∧ b10 (E26 x0 (.ow d) x2 x3 x4 x5 x6 x7 x8 x9 x10 x11 x12 x13 x14 x15 x16 x17 x18 (.fz (.int (n : Int))) x20 x21 x22 x23 x24 x25) = .nx (E26 x0 (.ow d') x2 x3 x4 (.fz (tM m)) x6 x7 x8 x9 (keepFz (some x10)) x11 x12 x13 x14 x15 x16 x17 x18 (.fz (.int (n : Int))) x20 x21 x22 x23 x24 x25) := by
  have h14 := nz4 hn
  have h0 : evIA rng1Of (evCons (evName 19) evNil) (E26 x0 (.ow d) x2 x3 x4 x5 x6 x7 x8 x9 x10 x11 x12 x13 x14 x15 x16 x17 x18 (.fz (.int (n : Int))) x20 x21 x22 x23 x24 x25) = .ok (rngD 0 n) (E26 x0 (.ow d) x2 x3 x4 x5 x6 x7 x8 x9 x10 x11 x12 x13 x14 x15 x16 x17 x18 (.fz (.int (n : Int))) x20 x21 x22 x23 x24 x25) := evIA_ok (ds := [.int (n : Int)]) rfl (rng1_ok n (by omega))
  obtain ⟨m, d', hd', lm, hm, e⟩ := b10_loop (x0 := x0) (x1 := x1) (x2 := x2) (x3 := x3) (x4 := x4) (x5 := x5) (x6 := x6) (x7 := x7) (x8 := x8) (x9 := x9) (x10 := x10) (x11 := x11) (x12 := x12) (x13 := x13) (x14 := x14) (x15 := x15) (x16 := x16) (x17 := x17) (x18 := x18) (x19 := .fz (.int (n : Int))) (x20 := x20) (x21 := x21) (x22 := x22) (x23 := x23) (x24 := x24) (x25 := x25) (rngD 0 n) [] hd (by rw [rngD_length]; simp; omega)
  refine ⟨m, d', hd', ⟨by rw [lm, rngD_length], hm⟩, ?_⟩
  have c : evComp (evIA rng1Of (evCons (evName 19) evNil)) ([(("k" : Str), 10)].map (·.2)) (stName 10) (evC (.bool true)) (evCallIO F__law_draw 1 (evCons (evC (.int 3)) evNil)) (E26 x0 (.ow d) x2 x3 x4 x5 x6 x7 x8 x9 x10 x11 x12 x13 x14 x15 x16 x17 x18 (.fz (.int (n : Int))) x20 x21 x22 x23 x24 x25) = .ok (.ow (.list (m.map .int))) (E26 x0 (.ow d') x2 x3 x4 x5 x6 x7 x8 x9 (keepFz (some x10)) x11 x12 x13 x14 x15 x16 x17 x18 (.fz (.int (n : Int))) x20 x21 x22 x23 x24 x25) := by
    have e : evCLoop [10] (stName 10) (evC (.bool true)) (evCallIO F__law_draw 1 (evCons (evC (.int 3)) evNil)) (rngD 0 n) [] (E26 x0 (.ow d) x2 x3 x4 x5 x6 x7 x8 x9 .emp x11 x12 x13 x14 x15 x16 x17 x18 (.fz (.int (n : Int))) x20 x21 x22 x23 x24 x25) = .ok (m.map .int) (E26 x0 (.ow d') x2 x3 x4 x5 x6 x7 x8 x9 .emp x11 x12 x13 x14 x15 x16 x17 x18 (.fz (.int (n : Int))) x20 x21 x22 x23 x24 x25) := e
    exact evComp_of h0 e rfl
  exact evSet_ok (evB_ok (d := tM m) (evCons_ok c evNil_ok) rfl) rfl
/-! one more term -/
theorem b11_ok {n : Nat} (hn : n ∈ [1, 2, 3, 4]) {W : Pol} (bw : BoxP n 8 W) (nw : (keys W).Nodup) {m : Mon} (hm : Sp n m) {x0 x1 x2 x3 x4 x5 x6 x7 x8 x9 x10 x11 x12 x13 x14 x15 x16 x17 x18 x19 x20 x21 x22 x23 x24 x25 : Sl} : b11 (E26 x0 x1 x2 x3 x4 (.fz (tM m)) x6 x7 x8 x9 x10 x11 x12 x13 x14 x15 x16 x17 x18 x19 x20 x21 (.fz (dP W)) x23 x24 x25) = .nx (E26 x0 x1 x2 x3 x4 (.fz (tM m)) x6 x7 x8 x9 x10 x11 x12 x13 x14 x15 x16 x17 x18 x19 (.ow (dP (plusP W [(m, 1)]))) x21 (.fz (dP W)) x23 x24 x25) := by
  have km : keyOfT (tM m) = some (kM m) := keyOfT_tM (ne_of_len hm.1 hn)
  have d : evDisp1 (evName 5) (evC (.int 1)) (E26 x0 x1 x2 x3 x4 (.fz (tM m)) x6 x7 x8 x9 x10 x11 x12 x13 x14 x15 x16 x17 x18 x19 x20 x21 (.fz (dP W)) x23 x24 x25) = .ok (.ow (dP [(m, 1)])) (E26 x0 x1 x2 x3 x4 (.fz (tM m)) x6 x7 x8 x9 x10 x11 x12 x13 x14 x15 x16 x17 x18 x19 x20 x21 (.fz (dP W)) x23 x24 x25) := by
    unfold evDisp1
    rw [show evName 5 (E26 x0 x1 x2 x3 x4 (.fz (tM m)) x6 x7 x8 x9 x10 x11 x12 x13 x14 x15 x16 x17 x18 x19 x20 x21 (.fz (dP W)) x23 x24 x25) = .ok (.fz (tM m)) (E26 x0 x1 x2 x3 x4 (.fz (tM m)) x6 x7 x8 x9 x10 x11 x12 x13 x14 x15 x16 x17 x18 x19 x20 x21 (.fz (dP W)) x23 x24 x25) from rfl, R.bnd_ok, show evC (.int 1) (E26 x0 x1 x2 x3 x4 (.fz (tM m)) x6 x7 x8 x9 x10 x11 x12 x13 x14 x15 x16 x17 x18 x19 x20 x21 (.fz (dP W)) x23 x24 x25) = .ok (.fz (.int 1)) (E26 x0 x1 x2 x3 x4 (.fz (tM m)) x6 x7 x8 x9 x10 x11 x12 x13 x14 x15 x16 x17 x18 x19 x20 x21 (.fz (dP W)) x23 x24 x25) from rfl, R.bnd_ok, show datOf (.fz (tM m)) = tM m from rfl, km]
    show R.ok (.ow (.dict [(.tuple ((kM m).map keyD), .int 1)])) _ = _
    rw [keyD_map]
    rfl
  have b1 : BoxP n 8 [(m, 1)] := fun q hq => by rw [List.mem_singleton.mp hq]; exact hm.box hn
  have n1 : (keys [(m, (1 : Int))]).Nodup := by unfold keys; simp
  refine evSet_ok (evCall_ok (evCons_ok (v := .fz (dP W)) ?_ (evCons_ok d evNil_ok)) (F_plus_ok hn bw b1 nw n1)) rfl
  rfl
/-! the ones that some exchange of two names changes -/
def sw (n k : Nat) : List Int := (List.range n).map fun i => ((if i = k then k + 1 else if i = k + 1 then k else i : Nat) : Int)
theorem sw_mem : ∀ n ∈ [1, 2, 3, 4], ∀ k ∈ List.range (n - 1), sw n k ∈ ords n := by decide +kernel
abbrev keyE : En → R := ev2 gCat (ev2 gCat (ev2 (gSl true) (evName 23) (evName 10)) (evTup (evCons (ev2L gIx 23 (ev2 gAdd (evName 10) (evC (.int 1)))) (evCons (ev2L gIx 23 (evName 10)) evNil)))) (ev2 (gSl false) (evName 23) (ev2 gAdd (evName 10) (evC (.int 2))))
theorem keyE_ok {n k : Nat} (hn : n ∈ [1, 2, 3, 4]) (hk : k ∈ List.range (n - 1)) {m : Mon} (lm : m.length = n) {x0 x1 x2 x3 x4 x5 x6 x7 x8 x9 x10 x11 x12 x13 x14 x15 x16 x17 x18 x19 x20 x21 x22 x23 x24 x25 : Sl} : keyE (E26 x0 x1 x2 x3 x4 x5 x6 x7 x8 x9 (.fz (.int ((k : Nat) : Int))) x11 x12 x13 x14 x15 x16 x17 x18 x19 x20 x21 x22 (.fz (tM m)) x24 x25) = .ok (.fz (tM (act (sw n k) m))) (E26 x0 x1 x2 x3 x4 x5 x6 x7 x8 x9 (.fz (.int ((k : Nat) : Int))) x11 x12 x13 x14 x15 x16 x17 x18 x19 x20 x21 x22 (.fz (tM m)) x24 x25) := by
  simp only [List.mem_cons, List.not_mem_nil, or_false] at hn
  rw [List.mem_range] at hk
  rcases hn with rfl | rfl | rfl | rfl
  · omega
  · match m, lm, k, hk with
    | [a, b], _, 0, _ => rfl
  · match m, lm, k, hk with
    | [a, b, c], _, 0, _ => rfl
    | [a, b, c], _, 1, _ => rfl
  · match m, lm, k, hk with
    | [a, b, c, d], _, 0, _ => rfl
    | [a, b, c, d], _, 1, _ => rfl
    | [a, b, c, d], _, 2, _ => rfl
theorem neD_nil {α : Type} (l : List α) (g : α → Int) : gNeD (.list (l.map fun a => .int (g a))) (.list []) = some (.bool (!l.isEmpty)) := by
  have lay : ∀ l : List α, PyData.canLayAll0 (l.map fun a => PyData.int (g a)) = true := by
    intro l
    induction l with
    | nil => simp [PyData.canLayAll0]
    | cons a l ih => rw [List.map_cons, PyData.canLayAll0, ih, PyData.canLay0]; rfl
  have dep : ∀ l : List α, PyData.depthAll (l.map fun a => PyData.int (g a)) = 0 := by
    intro l
    induction l with
    | nil => simp [PyData.depthAll]
    | cons a l ih => rw [List.map_cons, PyData.depthAll, ih, PyData.depth]; rfl
  unfold gNeD
  rw [if_pos]
  · cases l with
    | nil => rfl
    | cons a l => rfl
  · unfold SeqAt.shaped
    rw [PyData.canLay0, lay, PyData.depth, dep]
    rfl
theorem neD_nilT (l : List Mon) : gNeD (.list (l.map tM)) (.list []) = some (.bool (!l.isEmpty)) := by
  have lay : ∀ l : List Mon, PyData.canLayAll0 (l.map tM) = true := by
    intro l
    induction l with
    | nil => simp [PyData.canLayAll0]
    | cons a l ih => rw [List.map_cons, PyData.canLayAll0, ih, lay_tM]; rfl
  have dep := depthAll_tM l
  unfold gNeD
  rw [if_pos]
  · cases l with
    | nil => rfl
    | cons a l => rfl
  · unfold SeqAt.shaped
    rw [PyData.canLay0, lay, PyData.depth, decide_eq_true (show PyData.depthAll (l.map tM) + 1 ≤ 64 by omega)]
    rfl
def odd1 (n : Nat) (O : Pol) (q : Mon × Int) : List Nat := (List.range (n - 1)).filter fun k => !decide (cf O (act (sw n k) q.1) = q.2)
theorem b12_ok {n : Nat} (hn : n ∈ [1, 2, 3, 4]) {O : Pol} (bo : BoxP n 8 O) (no : (keys O).Nodup) {x0 x1 x2 x3 x4 x5 x6 x7 x8 x9 x10 x11 x12 x13 x14 x15 x16 x17 x18 x19 x20 x21 x22 x23 x24 x25 : Sl} (h10 : NF x10) : b12 (E26 x0 x1 x2 x3 x4 x5 x6 x7 x8 x9 x10 x11 x12 x13 x14 x15 x16 x17 x18 (.fz (.int (n : Int))) (.ow (dP O)) x21 x22 x23 x24 x25) = .nx (E26 x0 x1 x2 x3 x4 x5 x6 x7 x8 x9 x10 x11 x12 x13 (.ow (.list (((O.filter fun q => !(odd1 n O q).isEmpty).map Prod.fst).map tM))) x15 x16 x17 x18 (.fz (.int (n : Int))) (.fz (dP O)) x21 x22 (keepFz (some x23)) x24 x25) := by
  have h14 := nz4 hn
  have lo := bo.length hn no
  have h0 : evI L3.keysOf (evName 20) (E26 x0 x1 x2 x3 x4 x5 x6 x7 x8 x9 x10 x11 x12 x13 x14 x15 x16 x17 x18 (.fz (.int (n : Int))) (.ow (dP O)) x21 x22 x23 x24 x25) = .ok (O.map fun q => tM q.1) (E26 x0 x1 x2 x3 x4 x5 x6 x7 x8 x9 x10 x11 x12 x13 x14 x15 x16 x17 x18 (.fz (.int (n : Int))) (.fz (dP O)) x21 x22 x23 x24 x25) := by
    rw [← keys_map_tM]
    exact evI_ok (v := .fz (dP O)) rfl (keys_ok O)
  refine evSet_ok (v := .ow (.list (((O.filter fun q => !(odd1 n O q).isEmpty).map Prod.fst).map tM))) (e1 := (E26 x0 x1 x2 x3 x4 x5 x6 x7 x8 x9 x10 x11 x12 x13 x14 x15 x16 x17 x18 (.fz (.int (n : Int))) (.fz (dP O)) x21 x22 (keepFz (some x23)) x24 x25)) ?_ rfl
  refine evComp_A (fun q => !(odd1 n O q).isEmpty) (fun q => tM q.1) h0 (by omega) (fun q hq => ?_) rfl (by rw [List.map_map]; rfl)
  have lq := (bo q hq).1
  have g1 := gDget_ok (bo.ne hn) no (m := q.1) (c := q.2) hq
  have sub1 : L3.gSub (.int (n : Int)) (.int 1) = some (.int ((n - 1 : Nat) : Int)) := congrArg (fun z => some (PyData.int z)) (show (n : Int) - 1 = ((n - 1 : Nat) : Int) by omega)
  have rg : evIA rng1Of (evCons (ev2 gSub (evName 19) (evC (.int 1))) evNil) (E26 x0 x1 x2 x3 x4 x5 x6 x7 x8 x9 x10 x11 x12 x13 x14 x15 x16 x17 x18 (.fz (.int (n : Int))) (.fz (dP O)) x21 x22 (.fz (tM q.1)) x24 x25) = .ok ((List.range (n - 1)).map fun i : Nat => PyData.int (0 + (i : Nat))) (E26 x0 x1 x2 x3 x4 x5 x6 x7 x8 x9 x10 x11 x12 x13 x14 x15 x16 x17 x18 (.fz (.int (n : Int))) (.fz (dP O)) x21 x22 (.fz (tM q.1)) x24 x25) := evIA_ok (evCons_ok (ev2_ok (v := .fz (.int (n : Int))) (w := .fz (.int 1)) rfl rfl sub1) evNil_ok) (rng1_ok (n - 1) (by omega))
  have c : evComp (evIA rng1Of (evCons (ev2 gSub (evName 19) (evC (.int 1))) evNil)) ([(("k" : Str), 10)].map (·.2)) (stName 10) (ev2 gNeS (evGet2 20 keyE (evC (.int 0))) (ev2L gDget 20 (evName 23))) (evC (.int 1)) (E26 x0 x1 x2 x3 x4 x5 x6 x7 x8 x9 x10 x11 x12 x13 x14 x15 x16 x17 x18 (.fz (.int (n : Int))) (.fz (dP O)) x21 x22 (.fz (tM q.1)) x24 x25) = .ok (.ow (.list ((odd1 n O q).map fun _ => .int 1))) (E26 x0 x1 x2 x3 x4 x5 x6 x7 x8 x9 (keepFz (some x10)) x11 x12 x13 x14 x15 x16 x17 x18 (.fz (.int (n : Int))) (.fz (dP O)) x21 x22 (.fz (tM q.1)) x24 x25) := by
    refine evComp_A (fun k => !decide (cf O (act (sw n k) q.1) = q.2)) (fun _ => .int 1) rg (by rw [List.length_range]; omega) (fun k hk => ?_) rfl rfl
    have la : (act (sw n k) q.1).length = n := act_length (ords_length (sw_mem n hn k hk))
    have ga : keyOfT (tM (act (sw n k) q.1)) = some (kM (act (sw n k) q.1)) := keyOfT_tM (ne_of_len la hn)
    have ke := keyE_ok hn hk lq (x0 := x0) (x1 := x1) (x2 := x2) (x3 := x3) (x4 := x4) (x5 := x5) (x6 := x6) (x7 := x7) (x8 := x8) (x9 := x9) (x10 := x10) (x11 := x11) (x12 := x12) (x13 := x13) (x14 := x14) (x15 := x15) (x16 := x16) (x17 := x17) (x18 := x18) (x19 := .fz (.int (n : Int))) (x20 := .fz (dP O)) (x21 := x21) (x22 := x22) (x23 := x23) (x24 := x24) (x25 := x25)
    have gt : evGet2 20 keyE (evC (.int 0)) (E26 x0 x1 x2 x3 x4 x5 x6 x7 x8 x9 (.fz (.int ((k : Nat) : Int))) x11 x12 x13 x14 x15 x16 x17 x18 (.fz (.int (n : Int))) (.fz (dP O)) x21 x22 (.fz (tM q.1)) x24 x25) = .ok (.fz (.int (cf O (act (sw n k) q.1)))) (E26 x0 x1 x2 x3 x4 x5 x6 x7 x8 x9 (.fz (.int ((k : Nat) : Int))) x11 x12 x13 x14 x15 x16 x17 x18 (.fz (.int (n : Int))) (.fz (dP O)) x21 x22 (.fz (tM q.1)) x24 x25) := by
      refine evGet2_ok (kvs := dL O) (kvs' := dL O) (k := kM (act (sw n k) q.1)) (w := .fz (.int 0)) rfl ke rfl rfl ga ?_
      rw [dGet_dL (bo.ne hn)]
      exact getD_cf
    have dt : ev2L gDget 20 (evName 23) (E26 x0 x1 x2 x3 x4 x5 x6 x7 x8 x9 (.fz (.int ((k : Nat) : Int))) x11 x12 x13 x14 x15 x16 x17 x18 (.fz (.int (n : Int))) (.fz (dP O)) x21 x22 (.fz (tM q.1)) x24 x25) = .ok (.fz (.int q.2)) (E26 x0 x1 x2 x3 x4 x5 x6 x7 x8 x9 (.fz (.int ((k : Nat) : Int))) x11 x12 x13 x14 x15 x16 x17 x18 (.fz (.int (n : Int))) (.fz (dP O)) x21 x22 (.fz (tM q.1)) x24 x25) := ev2L_ok (d0 := dP O) (d1 := dP O) (w := .fz (tM q.1)) rfl rfl rfl g1
    rw [Int.zero_add]
    exact ⟨(E26 x0 x1 x2 x3 x4 x5 x6 x7 x8 x9 (.fz (.int ((k : Nat) : Int))) x11 x12 x13 x14 x15 x16 x17 x18 (.fz (.int (n : Int))) (.fz (dP O)) x21 x22 (.fz (tM q.1)) x24 x25), (E26 x0 x1 x2 x3 x4 x5 x6 x7 x8 x9 (.fz (.int ((k : Nat) : Int))) x11 x12 x13 x14 x15 x16 x17 x18 (.fz (.int (n : Int))) (.fz (dP O)) x21 x22 (.fz (tM q.1)) x24 x25), rfl, ev2_ok gt dt rfl, fun _ => rfl, fun _ => ⟨(E26 x0 x1 x2 x3 x4 x5 x6 x7 x8 x9 (.fz (.int ((k : Nat) : Int))) x11 x12 x13 x14 x15 x16 x17 x18 (.fz (.int (n : Int))) (.fz (dP O)) x21 x22 (.fz (tM q.1)) x24 x25), .fz (.int 1), rfl, rfl, rfl⟩⟩
  refine ⟨(E26 x0 x1 x2 x3 x4 x5 x6 x7 x8 x9 x10 x11 x12 x13 x14 x15 x16 x17 x18 (.fz (.int (n : Int))) (.fz (dP O)) x21 x22 (.fz (tM q.1)) x24 x25), (E26 x0 x1 x2 x3 x4 x5 x6 x7 x8 x9 (keepFz (some x10)) x11 x12 x13 x14 x15 x16 x17 x18 (.fz (.int (n : Int))) (.fz (dP O)) x21 x22 (.fz (tM q.1)) x24 x25), rfl, ?_, fun _ => by rw [show keepFz (some x10) = x10 from h10]; rfl, fun _ => ⟨(E26 x0 x1 x2 x3 x4 x5 x6 x7 x8 x9 (keepFz (some x10)) x11 x12 x13 x14 x15 x16 x17 x18 (.fz (.int (n : Int))) (.fz (dP O)) x21 x22 (.fz (tM q.1)) x24 x25), .fz (tM q.1), rfl, rfl, by rw [show keepFz (some x10) = x10 from h10]; rfl⟩⟩
  refine ev2_ok c (w := .ow (.list [])) rfl ?_
  exact neD_nil (odd1 n O q) fun _ => 1
theorem neD_range : gNeD (.tuple [.int 1, .str "range"]) (.tuple [.int 1, .str "range"]) = some (.bool false) := by kernel_rfl
theorem neD_other : gNeD (.tuple [.int 1, .str "other"]) (.tuple [.int 1, .str "other"]) = some (.bool false) := by kernel_rfl
theorem b13_ok {n : Nat} (hn : n ∈ [1, 2, 3, 4]) {O : Pol} (bo : BoxP n 8 O) (no : (keys O).Nodup) (zo : ∀ x ∈ O, x.2 ≠ 0) {x0 x1 x2 x3 x4 x5 x6 x7 x8 x9 x10 x11 x12 x13 x14 x15 x16 x17 x18 x19 x20 x21 x22 x23 x24 x25 : Sl} : ∃ y14, b13 (E26 x0 x1 x2 x3 x4 x5 x6 x7 x8 x9 x10 x11 x12 x13 (.ow (.list (((O.filter fun q => !(odd1 n O q).isEmpty).map Prod.fst).map tM))) x15 x16 x17 x18 (.fz (.int (n : Int))) (.fz (dP O)) x21 x22 x23 x24 x25) = .nx (E26 x0 x1 x2 x3 x4 x5 x6 x7 x8 x9 x10 x11 x12 x13 y14 x15 x16 x17 x18 (.fz (.int (n : Int))) (.fz (dP O)) x21 x22 x23 x24 x25) := by
  have lo := bo.length hn no
  refine ⟨.fz (.list (((O.filter fun q => !(odd1 n O q).isEmpty).map Prod.fst).map tM)), evIfS_ff (evT_ok ?_)⟩
  have t1 : ev2 gNeD (evName 14) (evLst evNil) (E26 x0 x1 x2 x3 x4 x5 x6 x7 x8 x9 x10 x11 x12 x13 (.ow (.list (((O.filter fun q => !(odd1 n O q).isEmpty).map Prod.fst).map tM))) x15 x16 x17 x18 (.fz (.int (n : Int))) (.fz (dP O)) x21 x22 x23 x24 x25) = .ok (.fz (.bool (!((O.filter fun q => !(odd1 n O q).isEmpty).map Prod.fst).isEmpty))) (E26 x0 x1 x2 x3 x4 x5 x6 x7 x8 x9 x10 x11 x12 x13 (.fz (.list (((O.filter fun q => !(odd1 n O q).isEmpty).map Prod.fst).map tM))) x15 x16 x17 x18 (.fz (.int (n : Int))) (.fz (dP O)) x21 x22 x23 x24 x25) := ev2_ok (v := .fz (.list (((O.filter fun q => !(odd1 n O q).isEmpty).map Prod.fst).map tM))) (w := .ow (.list [])) rfl rfl (neD_nilT ((O.filter fun q => !(odd1 n O q).isEmpty).map Prod.fst))
  cases hf : O.filter fun q => !(odd1 n O q).isEmpty with
  | nil =>
    rw [hf] at t1
    exact evAnd_f t1
  | cons q r =>
    rw [hf] at t1
    have hq : q ∈ O.filter fun q => !(odd1 n O q).isEmpty := by rw [hf]; exact List.mem_cons_self
    obtain ⟨hqO, hodd⟩ := List.mem_filter.mp hq
    refine (evAnd_t t1).trans ?_
    have p1 : evCall F__law_passed (evCons (evName 20) evNil) (E26 x0 x1 x2 x3 x4 x5 x6 x7 x8 x9 x10 x11 x12 x13 (.fz (.list (((q :: r).map Prod.fst).map tM))) x15 x16 x17 x18 (.fz (.int (n : Int))) (.fz (dP O)) x21 x22 x23 x24 x25) = .ok (.fz (.tuple (tP (sortP O)))) (E26 x0 x1 x2 x3 x4 x5 x6 x7 x8 x9 x10 x11 x12 x13 (.fz (.list (((q :: r).map Prod.fst).map tM))) x15 x16 x17 x18 (.fz (.int (n : Int))) (.fz (dP O)) x21 x22 x23 x24 x25) := evCall_ok (ds := [dP O]) rfl (F_passed_ok (bo.ne hn) no (by omega))
    have hp := sortP_perm O
    have bad : F_elementary [.int (n : Int), .tuple (tP (sortP O))] = .exn "OutOfRange" := by
      rw [F_el_eq]
      refine F_elementary_bad hn (sortP_asc no) ⟨fun q hq => (bo q (hp.mem_iff.mp hq)).1, fun q hq => (bo q (hp.mem_iff.mp hq)).2.1, fun q hq => zo q (hp.mem_iff.mp hq), by rw [hp.length_eq]; omega⟩ fun w => ?_
      have e : odd1 n O q = [] := by
        unfold odd1
        rw [List.filter_eq_nil_iff]
        intro k hk
        have := w.2 q (hp.mem_iff.mpr hqO) (sw n k) (sw_mem n hn k hk)
        have e2 : cf (sortP O) (act (sw n k) q.1) = q.2 := by unfold cf; rw [this]; rfl
        rw [cf_sortP no] at e2
        rw [decide_eq_true e2]
        decide
      rw [e] at hodd
      exact absurd hodd (by decide)
    have c1 : evCall F_elementary (evCons (evName 19) (evCons (evCall F__law_passed (evCons (evName 20) evNil)) evNil)) (E26 x0 x1 x2 x3 x4 x5 x6 x7 x8 x9 x10 x11 x12 x13 (.fz (.list (((q :: r).map Prod.fst).map tM))) x15 x16 x17 x18 (.fz (.int (n : Int))) (.fz (dP O)) x21 x22 x23 x24 x25) = .exn "OutOfRange" (E26 x0 x1 x2 x3 x4 x5 x6 x7 x8 x9 x10 x11 x12 x13 (.fz (.list (((q :: r).map Prod.fst).map tM))) x15 x16 x17 x18 (.fz (.int (n : Int))) (.fz (dP O)) x21 x22 x23 x24 x25) := evCall_exn (evCons_ok (v := .fz (.int (n : Int))) rfl (evCons_ok p1 evNil_ok)) bad
    exact ev2_ok (told_range c1) (w := .fz (.tuple [.int 1, .str "range"])) rfl neD_range
/-! what is written wrongly -/
def wrongs (n : Nat) (m : Mon) : List PyData := [.tuple [.tuple [tM m, .int 0]], .tuple [.tuple [tM m, .int 1], .tuple [tM m, .int 1]], .tuple [.tuple [tM (zz (n + 1)), .int 1]], .tuple [.tuple [tM m]], .int 3, .tuple [.tuple [tM (List.replicate n (-1)), .int 1]], .tuple [.tuple [.str "a", .int 1]], .tuple [.tuple [tM m, .str "1"]]]
def manys : List PyData := [.int 0, .int 5, .int (-1), .str "2"]
theorem b14_ok {n : Nat} (hn : n ∈ [1, 2, 3, 4]) {m : Mon} {x0 x1 x2 x3 x4 x5 x6 x7 x8 x9 x10 x11 x12 x13 x14 x15 x16 x17 x18 x19 x20 x21 x22 x23 x24 x25 : Sl} : b14 (E26 x0 x1 x2 x3 x4 (.fz (tM m)) x6 x7 x8 x9 x10 x11 x12 x13 x14 x15 x16 x17 x18 (.fz (.int (n : Int))) x20 x21 x22 x23 x24 x25) = .nx (E26 x0 x1 x2 x3 x4 (.fz (tM m)) x6 x7 x8 x9 x10 x11 x12 x13 x14 (.ow (.list (wrongs n m))) x16 x17 x18 (.fz (.int (n : Int))) x20 x21 x22 x23 x24 x25) := by
  simp only [List.mem_cons, List.not_mem_nil, or_false] at hn
  rcases hn with rfl | rfl | rfl | rfl <;> rfl
theorem b15_ok {l : List PyData} (hl : l.length = 8) {d : PyData} (hd : Bx d) {x0 x1 x2 x3 x4 x5 x6 x7 x8 x9 x10 x11 x12 x13 x14 x15 x16 x17 x18 x19 x20 x21 x22 x23 x24 x25 : Sl} : ∃ (w a d' : PyData), w ∈ l ∧ a ∈ manys ∧ Bx d' ∧ b15 (E26 x0 (.ow d) x2 x3 x4 x5 x6 x7 x8 x9 x10 x11 x12 x13 x14 (.ow (.list l)) x16 x17 x18 x19 x20 x21 x22 x23 x24 x25) = .nx (E26 x0 (.ow d') x2 x3 x4 x5 x6 x7 x8 x9 x10 x11 x12 x13 x14 (.ow (.list l)) (.fz w) x17 (.fz a) x19 x20 x21 x22 x23 x24 x25) := by
  obtain ⟨c, d', h, c0, c1, hd'⟩ := draw_ok hd (high := 8) (by decide) (by decide)
  obtain ⟨c', d'', h', c0', c1', hd''⟩ := draw_ok hd' (high := 4) (by decide) (by decide)
  obtain ⟨w, hw⟩ : ∃ w, l[c.toNat]? = some w := ⟨_, List.getElem?_eq_getElem (by omega)⟩
  obtain ⟨a, ha⟩ : ∃ a, manys[c'.toNat]? = some a := ⟨_, List.getElem?_eq_getElem (by show c'.toNat < 4; omega)⟩
  refine ⟨w, a, d'', List.mem_of_getElem? hw, List.mem_of_getElem? ha, hd'', ?_⟩
  have len : evBN gLen1 15 (E26 x0 (.ow d) x2 x3 x4 x5 x6 x7 x8 x9 x10 x11 x12 x13 x14 (.ow (.list l)) x16 x17 x18 x19 x20 x21 x22 x23 x24 x25) = .ok (.fz (.int 8)) (E26 x0 (.ow d) x2 x3 x4 x5 x6 x7 x8 x9 x10 x11 x12 x13 x14 (.ow (.list l)) x16 x17 x18 x19 x20 x21 x22 x23 x24 x25) := by
    refine evBN_ok (d := .list l) rfl ?_
    show some (PyData.int (l.length : Nat)) = _
    rw [hl]
    rfl
  have a1 : evCallIO F__law_draw 1 (evCons (evBN gLen1 15) evNil) (E26 x0 (.ow d) x2 x3 x4 x5 x6 x7 x8 x9 x10 x11 x12 x13 x14 (.ow (.list l)) x16 x17 x18 x19 x20 x21 x22 x23 x24 x25) = .ok (.fz (.int c)) (E26 x0 (.ow d') x2 x3 x4 x5 x6 x7 x8 x9 x10 x11 x12 x13 x14 (.ow (.list l)) x16 x17 x18 x19 x20 x21 x22 x23 x24 x25) := callIO_ow rfl (evCons_ok len evNil_ok) rfl h rfl
  have gw : gIx (.list l) (.int c) = some w := by
    have := gx_list hw
    rw [Int.toNat_of_nonneg c0] at this
    exact this
  have ga : gIx (.list manys) (.int c') = some a := by
    have := gx_list ha
    rw [Int.toNat_of_nonneg c0'] at this
    exact this
  have a2 : ev2L gIx 15 (evCallIO F__law_draw 1 (evCons (evBN gLen1 15) evNil)) (E26 x0 (.ow d) x2 x3 x4 x5 x6 x7 x8 x9 x10 x11 x12 x13 x14 (.ow (.list l)) x16 x17 x18 x19 x20 x21 x22 x23 x24 x25) = .ok (.fz w) (E26 x0 (.ow d') x2 x3 x4 x5 x6 x7 x8 x9 x10 x11 x12 x13 x14 (.ow (.list l)) x16 x17 x18 x19 x20 x21 x22 x23 x24 x25) := ev2L_ok (d0 := .list l) (d1 := .list l) rfl a1 rfl gw
  have a3 : evCallIO F__law_draw 1 (evCons (evC (.int 4)) evNil) (E26 x0 (.ow d') x2 x3 x4 x5 x6 x7 x8 x9 x10 x11 x12 x13 x14 (.ow (.list l)) x16 x17 x18 x19 x20 x21 x22 x23 x24 x25) = .ok (.fz (.int c')) (E26 x0 (.ow d'') x2 x3 x4 x5 x6 x7 x8 x9 x10 x11 x12 x13 x14 (.ow (.list l)) x16 x17 x18 x19 x20 x21 x22 x23 x24 x25) := callIO_ow (ds := [.int 4]) (e1 := (E26 x0 (.ow d') x2 x3 x4 x5 x6 x7 x8 x9 x10 x11 x12 x13 x14 (.ow (.list l)) x16 x17 x18 x19 x20 x21 x22 x23 x24 x25)) rfl rfl rfl h' rfl
  have a4 : ev2 gIx (evLst (evCons (evC (.int 0)) (evCons (evC (.int 5)) (evCons (ev1 gNeg (evC (.int 1))) (evCons (evC (.str ("2" : Str))) evNil))))) (evCallIO F__law_draw 1 (evCons (evC (.int 4)) evNil)) (E26 x0 (.ow d') x2 x3 x4 x5 x6 x7 x8 x9 x10 x11 x12 x13 x14 (.ow (.list l)) x16 x17 x18 x19 x20 x21 x22 x23 x24 x25) = .ok (.fz a) (E26 x0 (.ow d'') x2 x3 x4 x5 x6 x7 x8 x9 x10 x11 x12 x13 x14 (.ow (.list l)) x16 x17 x18 x19 x20 x21 x22 x23 x24 x25) := ev2_ok (v := .ow (.list manys)) (e1 := (E26 x0 (.ow d') x2 x3 x4 x5 x6 x7 x8 x9 x10 x11 x12 x13 x14 (.ow (.list l)) x16 x17 x18 x19 x20 x21 x22 x23 x24 x25)) rfl a3 ga
  have a5 := evTup_ok (evCons_ok a2 (evCons_ok a4 evNil_ok)) (by simp)
  unfold b15 evAsg
  rw [a5]
  rfl
def cube : Nat → List Mon
  | 0 => [[]]
  | n + 1 => [0, 1, 2].flatMap fun a => (cube n).map fun r => a :: r
theorem Sp.cube : ∀ {n : Nat} {m : Mon}, Sp n m → m ∈ K22.cube n
  | 0, m, h => by rw [List.length_eq_zero_iff.mp h.1]; exact List.mem_singleton.mpr rfl
  | n + 1, [], h => by cases h.1
  | n + 1, a :: r, h => by
    have ha := h.2 a List.mem_cons_self
    have hr : Sp n r := ⟨by simpa using h.1, fun z hz => h.2 z (List.mem_cons_of_mem _ hz)⟩
    unfold K22.cube
    rw [List.mem_flatMap]
    refine ⟨a, ?_, List.mem_map.mpr ⟨r, hr.cube, rfl⟩⟩
    simp only [List.mem_cons, List.not_mem_nil, or_false]
    omega
def isExn (c : Str) : FRes → Bool
  | .exn d => decide (d = c)
  | _ => false
theorem isExn_eq {c : Str} {r : FRes} (h : isExn c r = true) : r = .exn c := by
  cases r with
  | exn d => rw [show d = c from of_decide_eq_true h]
  | ok v => cases h
  | bad => cases h
theorem wrong_bad : ∀ n ∈ [1, 2, 3, 4], ∀ m ∈ cube n, (wrongs n m).all (fun w => isExn "BadPolynomial" (F_elementary [.int ((n : Nat) : Int), w])) = true := by decide +kernel
theorem many_bad : manys.all (fun a => isExn "OutOfRange" (F_elementary [a, .tuple []])) = true := by decide +kernel
theorem b16_ok {n : Nat} (hn : n ∈ [1, 2, 3, 4]) {m : Mon} (hm : Sp n m) {w : PyData} (hw : w ∈ wrongs n m) {x0 x1 x2 x3 x4 x5 x6 x7 x8 x9 x10 x11 x12 x13 x14 x15 x16 x17 x18 x19 x20 x21 x22 x23 x24 x25 : Sl} : b16 (E26 x0 x1 x2 x3 x4 x5 x6 x7 x8 x9 x10 x11 x12 x13 x14 x15 (.fz w) x17 x18 (.fz (.int (n : Int))) x20 x21 x22 x23 x24 x25) = .nx (E26 x0 x1 x2 x3 x4 x5 x6 x7 x8 x9 x10 x11 x12 x13 x14 x15 (.fz w) x17 x18 (.fz (.int (n : Int))) x20 x21 x22 x23 x24 x25) := by
  have bad := isExn_eq (List.all_eq_true.mp (wrong_bad n hn m hm.cube) w hw)
  have c1 : evCall F_elementary (evCons (evName 19) (evCons (evName 16) evNil)) (E26 x0 x1 x2 x3 x4 x5 x6 x7 x8 x9 x10 x11 x12 x13 x14 x15 (.fz w) x17 x18 (.fz (.int (n : Int))) x20 x21 x22 x23 x24 x25) = .exn "BadPolynomial" (E26 x0 x1 x2 x3 x4 x5 x6 x7 x8 x9 x10 x11 x12 x13 x14 x15 (.fz w) x17 x18 (.fz (.int (n : Int))) x20 x21 x22 x23 x24 x25) := evCall_exn (ds := [.int (n : Int), w]) rfl bad
  exact evIfS_ff (ev2_ok (told_other c1) (w := .fz (.tuple [.int 1, .str "other"])) rfl neD_other)
theorem b17_ok {n : Nat} (hn : n ∈ [1, 2, 3, 4]) {ns : List PyData} (hns : ns.length = n + 1) {a : PyData} (ha : a ∈ manys) {x0 x1 x2 x3 x4 x5 x6 x7 x8 x9 x10 x11 x12 x13 x14 x15 x16 x17 x18 x19 x20 x21 x22 x23 x24 x25 : Sl} : b17 (E26 x0 x1 x2 x3 x4 x5 x6 x7 x8 (.ow (.list ns)) x10 x11 x12 x13 x14 x15 x16 x17 (.fz a) (.fz (.int (n : Int))) x20 x21 x22 x23 x24 x25) = .nx (E26 x0 x1 x2 x3 x4 x5 x6 x7 x8 (.ow (.list ns)) x10 x11 x12 x13 x14 x15 x16 x17 (.fz a) (.fz (.int (n : Int))) x20 x21 x22 x23 x24 x25) := by
  have bad := isExn_eq (List.all_eq_true.mp many_bad a ha)
  have len : evBN gLen1 9 (E26 x0 x1 x2 x3 x4 x5 x6 x7 x8 (.ow (.list ns)) x10 x11 x12 x13 x14 x15 x16 x17 (.fz a) (.fz (.int (n : Int))) x20 x21 x22 x23 x24 x25) = .ok (.fz (.int ((n + 1 : Nat) : Int))) (E26 x0 x1 x2 x3 x4 x5 x6 x7 x8 (.ow (.list ns)) x10 x11 x12 x13 x14 x15 x16 x17 (.fz a) (.fz (.int (n : Int))) x20 x21 x22 x23 x24 x25) := by
    refine evBN_ok (d := .list ns) rfl ?_
    show some (PyData.int (ns.length : Nat)) = _
    rw [hns]
  have ne : ev2 gNeS (evBN gLen1 9) (ev2 gAdd (evName 19) (evC (.int 1))) (E26 x0 x1 x2 x3 x4 x5 x6 x7 x8 (.ow (.list ns)) x10 x11 x12 x13 x14 x15 x16 x17 (.fz a) (.fz (.int (n : Int))) x20 x21 x22 x23 x24 x25) = .ok (.fz (.bool false)) (E26 x0 x1 x2 x3 x4 x5 x6 x7 x8 (.ow (.list ns)) x10 x11 x12 x13 x14 x15 x16 x17 (.fz a) (.fz (.int (n : Int))) x20 x21 x22 x23 x24 x25) := by
    refine ev2_ok len (ev2_ok (v := .fz (.int (n : Int))) (w := .fz (.int 1)) rfl rfl (add1 n)) ?_
    show some (PyData.bool (!decide (((n + 1 : Nat) : Int) = ((n + 1 : Nat) : Int)))) = _
    rw [decide_eq_true rfl]
    rfl
  have c1 : evCall F_elementary (evCons (evName 18) (evCons (evTup evNil) evNil)) (E26 x0 x1 x2 x3 x4 x5 x6 x7 x8 (.ow (.list ns)) x10 x11 x12 x13 x14 x15 x16 x17 (.fz a) (.fz (.int (n : Int))) x20 x21 x22 x23 x24 x25) = .exn "OutOfRange" (E26 x0 x1 x2 x3 x4 x5 x6 x7 x8 (.ow (.list ns)) x10 x11 x12 x13 x14 x15 x16 x17 (.fz a) (.fz (.int (n : Int))) x20 x21 x22 x23 x24 x25) := evCall_exn (ds := [a, .tuple []]) rfl bad
  refine evIfS_ff (evT_ok ((evOr_f ne).trans ?_))
  exact ev2_ok (told_range c1) (w := .fz (.tuple [.int 1, .str "range"])) rfl neD_range
/-! too high -/
theorem b18_ok {n : Nat} (hn : n ∈ [1, 2, 3, 4]) {x0 x1 x2 x3 x4 x5 x6 x7 x8 x9 x10 x11 x12 x13 x14 x15 x16 x17 x18 x19 x20 x21 x22 x23 x24 x25 : Sl} (h25 : NF x25) : ∃ y24, b18 (E26 x0 x1 x2 x3 x4 x5 x6 x7 x8 x9 x10 x11 x12 x13 x14 x15 x16 x17 x18 (.fz (.int (n : Int))) x20 x21 x22 x23 x24 x25) = .nx (E26 x0 x1 x2 x3 x4 x5 x6 x7 x8 x9 x10 x11 x12 x13 x14 x15 x16 (.fz (.tuple (tP (sortP (powP n 9))))) x18 (.fz (.int (n : Int))) x20 x21 x22 x23 y24 x25) := by
  have h14 := nz4 hn
  refine ⟨keepFz (some x24), ?_⟩
  have rg : ∀ {y24 y25 : Sl}, evIA rng1Of (evCons (evName 19) evNil) (E26 x0 x1 x2 x3 x4 x5 x6 x7 x8 x9 x10 x11 x12 x13 x14 x15 x16 x17 x18 (.fz (.int (n : Int))) x20 x21 x22 x23 y24 y25) = .ok ((List.range n).map fun i : Nat => PyData.int (0 + (i : Nat))) (E26 x0 x1 x2 x3 x4 x5 x6 x7 x8 x9 x10 x11 x12 x13 x14 x15 x16 x17 x18 (.fz (.int (n : Int))) x20 x21 x22 x23 y24 y25) := fun {y24 y25} => evIA_ok (ds := [.int (n : Int)]) rfl (rng1_ok n (by omega))
  have c : evComp (evIA rng1Of (evCons (evName 19) evNil)) ([(("at" : Str), 24)].map (·.2)) (stName 24) (evC (.bool true)) (evTup (evCons (evB gTup (evCons (evComp (evIA rng1Of (evCons (evName 19) evNil)) ([(("i" : Str), 25)].map (·.2)) (stName 25) (evC (.bool true)) (ev2 gMul (evC (.int 9)) (evB gInt (evCons (ev2 gEqS (evName 25) (evName 24)) evNil)))) evNil)) (evCons (evC (.int 1)) evNil))) (E26 x0 x1 x2 x3 x4 x5 x6 x7 x8 x9 x10 x11 x12 x13 x14 x15 x16 x17 x18 (.fz (.int (n : Int))) x20 x21 x22 x23 x24 x25) = .ok (.ow (.list (tP (powP n 9)))) (E26 x0 x1 x2 x3 x4 x5 x6 x7 x8 x9 x10 x11 x12 x13 x14 x15 x16 x17 x18 (.fz (.int (n : Int))) x20 x21 x22 x23 (keepFz (some x24)) x25) := by
    refine evComp_M (fun a : Nat => pD ((List.range n).map fun i => ((9 : Nat) : Int) * if i = a then 1 else 0, 1)) (rg (y24 := x24) (y25 := x25)) (by rw [List.length_range]; omega) (fun a ha => ?_) rfl (by unfold tP powP; rw [List.map_map]; rfl)
    have i1 : evComp (evIA rng1Of (evCons (evName 19) evNil)) ([(("i" : Str), 25)].map (·.2)) (stName 25) (evC (.bool true)) (ev2 gMul (evC (.int 9)) (evB gInt (evCons (ev2 gEqS (evName 25) (evName 24)) evNil))) (E26 x0 x1 x2 x3 x4 x5 x6 x7 x8 x9 x10 x11 x12 x13 x14 x15 x16 x17 x18 (.fz (.int (n : Int))) x20 x21 x22 x23 (.fz (.int (0 + (a : Nat)))) x25) = .ok (.ow (.list (((List.range n).map fun i => ((9 : Nat) : Int) * if i = a then 1 else 0).map .int))) (E26 x0 x1 x2 x3 x4 x5 x6 x7 x8 x9 x10 x11 x12 x13 x14 x15 x16 x17 x18 (.fz (.int (n : Int))) x20 x21 x22 x23 (.fz (.int (0 + (a : Nat)))) (keepFz (some x25))) := by
      refine evComp_M (fun i : Nat => .int (((9 : Nat) : Int) * if i = a then 1 else 0)) (rg (y24 := .fz (.int (0 + (a : Nat)))) (y25 := x25)) (by rw [List.length_range]; omega) (fun i hi => ?_) rfl (by rw [List.map_map]; rfl)
      refine ⟨(E26 x0 x1 x2 x3 x4 x5 x6 x7 x8 x9 x10 x11 x12 x13 x14 x15 x16 x17 x18 (.fz (.int (n : Int))) x20 x21 x22 x23 (.fz (.int (0 + (a : Nat)))) (.fz (.int (0 + (i : Nat))))), (E26 x0 x1 x2 x3 x4 x5 x6 x7 x8 x9 x10 x11 x12 x13 x14 x15 x16 x17 x18 (.fz (.int (n : Int))) x20 x21 x22 x23 (.fz (.int (0 + (a : Nat)))) (.fz (.int (0 + (i : Nat))))), .fz (.int (((9 : Nat) : Int) * if i = a then 1 else 0)), rfl, ?_, rfl, rfl⟩
      have g : gEqS (.int (0 + (i : Nat))) (.int (0 + (a : Nat))) = some (.bool (decide (i = a))) := by
        show some (PyData.bool (decide ((0 + (i : Nat) : Int) = (0 + (a : Nat))))) = _
        congr 2
        exact decide_eq_decide.mpr (by omega)
      have e := ev2_ok (fa := evName 25) (fb := evName 24) (e := (E26 x0 x1 x2 x3 x4 x5 x6 x7 x8 x9 x10 x11 x12 x13 x14 x15 x16 x17 x18 (.fz (.int (n : Int))) x20 x21 x22 x23 (.fz (.int (0 + (a : Nat)))) (.fz (.int (0 + (i : Nat)))))) (e1 := (E26 x0 x1 x2 x3 x4 x5 x6 x7 x8 x9 x10 x11 x12 x13 x14 x15 x16 x17 x18 (.fz (.int (n : Int))) x20 x21 x22 x23 (.fz (.int (0 + (a : Nat)))) (.fz (.int (0 + (i : Nat)))))) (e2 := (E26 x0 x1 x2 x3 x4 x5 x6 x7 x8 x9 x10 x11 x12 x13 x14 x15 x16 x17 x18 (.fz (.int (n : Int))) x20 x21 x22 x23 (.fz (.int (0 + (a : Nat)))) (.fz (.int (0 + (i : Nat)))))) (v := .fz (.int (0 + (i : Nat)))) (w := .fz (.int (0 + (a : Nat)))) rfl rfl g
      have gi : gInt [.bool (decide (i = a))] = some (.int (if i = a then 1 else 0)) := by
        show some (PyData.int (if decide (i = a) = true then 1 else 0)) = _
        by_cases z : i = a
        · rw [if_pos (decide_eq_true z), if_pos z]
        · rw [if_neg (by rw [decide_eq_false z]; decide), if_neg z]
      have e2 := evB_ok (evCons_ok e evNil_ok) gi
      have sk : Sm ((9 : Nat) : Int) := by show ((9 : Nat) : Int).natAbs < _; decide
      have s1 : Sm (if i = a then 1 else 0) := by
        split
        · exact sm1
        · show (0 : Int).natAbs < _; decide
      exact ev2_ok (v := .fz (.int ((9 : Nat) : Int))) rfl e2 (mul_ok sk s1)
    refine ⟨(E26 x0 x1 x2 x3 x4 x5 x6 x7 x8 x9 x10 x11 x12 x13 x14 x15 x16 x17 x18 (.fz (.int (n : Int))) x20 x21 x22 x23 (.fz (.int (0 + (a : Nat)))) x25), (E26 x0 x1 x2 x3 x4 x5 x6 x7 x8 x9 x10 x11 x12 x13 x14 x15 x16 x17 x18 (.fz (.int (n : Int))) x20 x21 x22 x23 (.fz (.int (0 + (a : Nat)))) (keepFz (some x25))), .fz (pD ((List.range n).map fun i => ((9 : Nat) : Int) * if i = a then 1 else 0, 1)), rfl, ?_, rfl, by rw [show keepFz (some x25) = x25 from h25]; rfl⟩
    exact evTup_ok (evCons_ok (evB_ok (d := tM ((List.range n).map fun i => ((9 : Nat) : Int) * if i = a then 1 else 0)) (evCons_ok i1 evNil_ok) rfl) (evCons_ok (v := .fz (.int 1)) rfl evNil_ok)) (by simp)
  have s := evBO_ok (evCons_ok c evNil_ok) (sortL_ok (powP n 9))
  exact evSet_ok (evB_ok (d := .tuple (tP (sortP (powP n 9)))) (evCons_ok s evNil_ok) rfl) rfl
theorem cl9 : ∀ n ∈ [1, 2, 3, 4], (keys (powP n 9)).Nodup ∧ (powP n 9).length ≤ 900 ∧ (∃ q ∈ powP n 9, 8 < q.1.sum) ∧ ∀ q ∈ powP n 9, q.1.length = n ∧ (∀ z ∈ q.1, 0 ≤ z) ∧ q.2 ≠ 0 := by decide +kernel
theorem b19_ok {n : Nat} (hn : n ∈ [1, 2, 3, 4]) {x0 x1 x2 x3 x4 x5 x6 x7 x8 x9 x10 x11 x12 x13 x14 x15 x16 x17 x18 x19 x20 x21 x22 x23 x24 x25 : Sl} : b19 (E26 x0 x1 x2 x3 x4 x5 x6 x7 x8 x9 x10 x11 x12 x13 x14 x15 x16 (.fz (.tuple (tP (sortP (powP n 9))))) x18 (.fz (.int (n : Int))) x20 x21 x22 x23 x24 x25) = .nx (E26 x0 x1 x2 x3 x4 x5 x6 x7 x8 x9 x10 x11 x12 x13 x14 x15 x16 (.fz (.tuple (tP (sortP (powP n 9))))) x18 (.fz (.int (n : Int))) x20 x21 x22 x23 x24 x25) := by
  obtain ⟨h1, h2, ⟨q, hq, hs⟩, h3⟩ := cl9 n hn
  have hp := sortP_perm (powP n 9)
  have bad : F_elementary [.int (n : Int), .tuple (tP (sortP (powP n 9)))] = .exn "OutOfRange" := by
    rw [F_el_eq]
    refine F_elementary_bad hn (sortP_asc h1) ⟨fun q hq => (h3 q (hp.mem_iff.mp hq)).1, fun q hq => (h3 q (hp.mem_iff.mp hq)).2.1, fun q hq => (h3 q (hp.mem_iff.mp hq)).2.2, by rw [hp.length_eq]; omega⟩ fun w => ?_
    have := w.1 q (hp.mem_iff.mpr hq)
    omega
  have c1 : evCall F_elementary (evCons (evName 19) (evCons (evName 17) evNil)) (E26 x0 x1 x2 x3 x4 x5 x6 x7 x8 x9 x10 x11 x12 x13 x14 x15 x16 (.fz (.tuple (tP (sortP (powP n 9))))) x18 (.fz (.int (n : Int))) x20 x21 x22 x23 x24 x25) = .exn "OutOfRange" (E26 x0 x1 x2 x3 x4 x5 x6 x7 x8 x9 x10 x11 x12 x13 x14 x15 x16 (.fz (.tuple (tP (sortP (powP n 9))))) x18 (.fz (.int (n : Int))) x20 x21 x22 x23 x24 x25) := evCall_exn (ds := [.int (n : Int), .tuple (tP (sortP (powP n 9)))]) rfl bad
  exact evIfS_ff (ev2_ok (told_range c1) (w := .fz (.tuple [.int 1, .str "range"])) rfl neD_range)
end K22
set_option Elab.async false
set_option linter.all false
set_option maxRecDepth 100000
set_option exponentiation.threshold 5000
-- SLOTS 26
namespace K22
open PySem PySem.Spec PyProof.Rows L2 LamX L3 EP EL
theorem NF_keep (x : Sl) : NF (keepFz (some x)) := by cases x <;> rfl
/-- one turn of the law -/
theorem lBody_ok {d : PyData} (hd : Bx d) {x0 x1 x2 x3 x4 x5 x6 x7 x8 x9 x10 x11 x12 x13 x14 x15 x16 x17 x18 x19 x20 x21 x22 x23 x24 x25 : Sl} (h10 : NF x10) (h25 : NF x25) : ∃ (d' : PyData) (z3 z4 z5 z6 z7 z8 z9 z10 z11 z12 z13 z14 z15 z16 z17 z18 z19 z20 z21 z22 z23 z24 : Sl), Bx d' ∧ NF z10 ∧
    lBody (E26 x0 (.ow d) x2 x3 x4 x5 x6 x7 x8 x9 x10 x11 x12 x13 x14 x15 x16 x17 x18 x19 x20 x21 x22 x23 x24 x25) = .nx (E26 x0 (.ow d') x2 z3 z4 z5 z6 z7 z8 z9 z10 z11 z12 z13 z14 z15 z16 z17 z18 z19 z20 z21 z22 z23 z24 x25) := by
  obtain ⟨n, d1, hn, hd1, e1⟩ := b1_ok hd (x0 := x0) (x1 := x1) (x2 := x2) (x3 := x3) (x4 := x4) (x5 := x5) (x6 := x6) (x7 := x7) (x8 := x8) (x9 := x9) (x10 := x10) (x11 := x11) (x12 := x12) (x13 := x13) (x14 := x14) (x15 := x15) (x16 := x16) (x17 := x17) (x18 := x18) (x19 := x19) (x20 := x20) (x21 := x21) (x22 := x22) (x23 := x23) (x24 := x24) (x25 := x25)
  have e2 : b2 (E26 x0 (.ow d1) x2 x3 x4 x5 x6 x7 x8 x9 x10 x11 x12 x13 x14 x15 x16 x17 x18 (.fz (.int (n : Int))) x20 x21 x22 x23 x24 x25) = .nx (E26 x0 (.ow d1) x2 (.ow (dP [])) x4 x5 x6 x7 x8 x9 x10 x11 x12 x13 x14 x15 x16 x17 x18 (.fz (.int (n : Int))) x20 x21 x22 x23 x24 x25) := rfl
  obtain ⟨S0, d3, y4, y5, y6, y7, hd3, T, lT, e3⟩ := b3_ok hn hd1 (x0 := x0) (x1 := x1) (x2 := x2) (x3 := x3) (x4 := x4) (x5 := x5) (x6 := x6) (x7 := x7) (x8 := x8) (x9 := x9) (x10 := x10) (x11 := x11) (x12 := x12) (x13 := x13) (x14 := x14) (x15 := x15) (x16 := x16) (x17 := x17) (x18 := x18) (x19 := x19) (x20 := x20) (x21 := x21) (x22 := x22) (x23 := x23) (x24 := x24) (x25 := x25)
  have e4 := b4_ok hn T lT (x0 := x0) (x1 := .ow d3) (x2 := x2) (x3 := x3) (x4 := y4) (x5 := y5) (x6 := y6) (x7 := y7) (x8 := x8) (x9 := x9) (x10 := x10) (x11 := x11) (x12 := x12) (x13 := x13) (x14 := x14) (x15 := x15) (x16 := x16) (x17 := x17) (x18 := x18) (x19 := .fz (.int (n : Int))) (x20 := x20) (x21 := x21) (x22 := x22) (x23 := x23) (x24 := x24) (x25 := x25)
  obtain ⟨o, nd⟩ := T.clean
  have ls : (cleanP S0).length ≤ 900 := Nat.le_trans (List.length_filter_le _ _) lT
  generalize cleanP S0 = S at o nd ls e4
  have e5 := b5_ok hn o nd (x0 := x0) (x1 := .ow d3) (x2 := x2) (x3 := x3) (x4 := y4) (x5 := y5) (x6 := y6) (x7 := y7) (x8 := x8) (x9 := x9) (x10 := x10) (x11 := x11) (x12 := x12) (x13 := x13) (x14 := x14) (x15 := x15) (x16 := x16) (x17 := x17) (x18 := x18) (x19 := x19) (x20 := x20) (x21 := x21) (x22 := x22) (x23 := x23) (x24 := x24) (x25 := x25)
  obtain ⟨bw, nw, zw, hS⟩ := written_ok hn o
  have e6 := b6_ok hn bw nw zw hS o nd ls (x0 := x0) (x1 := .ow d3) (x2 := x2) (x3 := x3) (x4 := y4) (x5 := y5) (x6 := y6) (x7 := y7) (x8 := x8) (x9 := x9) (x10 := x10) (x11 := x11) (x12 := x12) (x13 := x13) (x14 := x14) (x15 := x15) (x16 := x16) (x17 := x17) (x18 := x18) (x19 := x19) (x20 := x20) (x21 := x21) (x22 := x22) (x23 := x23) (x24 := x24) (x25 := x25)
  obtain ⟨y7', e7⟩ := b7_ok hn (x0 := x0) (x1 := .ow d3) (x2 := x2) (x3 := .fz (dP S)) (x4 := y4) (x5 := y5) (x6 := y6) (x7 := y7) (x8 := x8) (x9 := x9) (x10 := x10) (x11 := x11) (x12 := x12) (x13 := x13) (x14 := x14) (x15 := x15) (x16 := x16) (x17 := x17) (x18 := x18) (x19 := x19) (x20 := x20) (x21 := x21) (x22 := .fz (dP (writtenP n S))) (x23 := x23) (x24 := x24) (x25 := x25)
  obtain ⟨y7'', e8⟩ := b8_ok hn (x0 := x0) (x1 := .ow d3) (x2 := x2) (x3 := .fz (dP S)) (x4 := y4) (x5 := y5) (x6 := y6) (x7 := y7') (x8 := .ow (.list (([[]] : List Pol).map dP))) (x9 := .ow (.list ((List.range (n + 1)).map fun j => dP (eP n j)))) (x10 := x10) (x11 := x11) (x12 := x12) (x13 := x13) (x14 := x14) (x15 := x15) (x16 := x16) (x17 := x17) (x18 := x18) (x19 := x19) (x20 := x20) (x21 := x21) (x22 := .fz (dP (writtenP n S))) (x23 := x23) (x24 := x24) (x25 := x25) h10
  obtain ⟨w5, w7, w8, w10, w12, w13, w21, w24, hw10, e9⟩ := b9_ok hn (x0 := x0) (x1 := .ow d3) (x2 := x2) (x3 := .fz (dP S)) (x4 := y4) (x5 := y5) (x6 := y6) (x7 := y7'') (x8 := x8) (x9 := .ow (.list ((List.range (n + 1)).map fun j => dP (eP n j)))) (x10 := x10) (x11 := x11) (x12 := x12) (x13 := x13) (x14 := x14) (x15 := x15) (x16 := x16) (x17 := x17) (x18 := x18) (x19 := x19) (x20 := x20) (x21 := x21) (x22 := .fz (dP (writtenP n S))) (x23 := x23) (x24 := x24) (x25 := x25) h10 h25
  obtain ⟨m, d10, hd10, hm, e10⟩ := b10_ok hn hd3 (x0 := x0) (x1 := x1) (x2 := x2) (x3 := .fz (dP S)) (x4 := y4) (x5 := w5) (x6 := y6) (x7 := w7) (x8 := w8) (x9 := .ow (.list ((List.range (n + 1)).map fun j => dP (eP n j)))) (x10 := w10) (x11 := .ow (.list ((unitsP n).map dP))) (x12 := w12) (x13 := w13) (x14 := x14) (x15 := x15) (x16 := x16) (x17 := x17) (x18 := x18) (x19 := x19) (x20 := x20) (x21 := w21) (x22 := .fz (dP (writtenP n S))) (x23 := x23) (x24 := w24) (x25 := x25)
  rw [show keepFz (some w10) = w10 from hw10] at e10
  have e11 := b11_ok hn bw nw hm (x0 := x0) (x1 := .ow d10) (x2 := x2) (x3 := .fz (dP S)) (x4 := y4) (x5 := x5) (x6 := y6) (x7 := w7) (x8 := w8) (x9 := .ow (.list ((List.range (n + 1)).map fun j => dP (eP n j)))) (x10 := w10) (x11 := .ow (.list ((unitsP n).map dP))) (x12 := w12) (x13 := w13) (x14 := x14) (x15 := x15) (x16 := x16) (x17 := x17) (x18 := x18) (x19 := .fz (.int (n : Int))) (x20 := x20) (x21 := w21) (x22 := x22) (x23 := x23) (x24 := w24) (x25 := x25)
  have b1' : BoxP n 8 [(m, (1 : Int))] := fun q hq => by rw [List.mem_singleton.mp hq]; exact hm.box hn
  have bo : BoxP n 8 (plusP (writtenP n S) [(m, 1)]) := box_plus bw b1'
  have no : (keys (plusP (writtenP n S) [(m, 1)])).Nodup := nodup_plus nw
  have zo : ∀ x ∈ plusP (writtenP n S) [(m, 1)], x.2 ≠ 0 := clean_nz
  generalize plusP (writtenP n S) [(m, 1)] = O at bo no zo e11
  have e12 := b12_ok hn bo no (x0 := x0) (x1 := .ow d10) (x2 := x2) (x3 := .fz (dP S)) (x4 := y4) (x5 := .fz (tM m)) (x6 := y6) (x7 := w7) (x8 := w8) (x9 := .ow (.list ((List.range (n + 1)).map fun j => dP (eP n j)))) (x10 := w10) (x11 := .ow (.list ((unitsP n).map dP))) (x12 := w12) (x13 := w13) (x14 := x14) (x15 := x15) (x16 := x16) (x17 := x17) (x18 := x18) (x19 := x19) (x20 := x20) (x21 := w21) (x22 := .fz (dP (writtenP n S))) (x23 := x23) (x24 := w24) (x25 := x25) hw10
  obtain ⟨w14, e13⟩ := b13_ok hn bo no zo (x0 := x0) (x1 := .ow d10) (x2 := x2) (x3 := .fz (dP S)) (x4 := y4) (x5 := .fz (tM m)) (x6 := y6) (x7 := w7) (x8 := w8) (x9 := .ow (.list ((List.range (n + 1)).map fun j => dP (eP n j)))) (x10 := w10) (x11 := .ow (.list ((unitsP n).map dP))) (x12 := w12) (x13 := w13) (x14 := x14) (x15 := x15) (x16 := x16) (x17 := x17) (x18 := x18) (x19 := x19) (x20 := x20) (x21 := w21) (x22 := .fz (dP (writtenP n S))) (x23 := keepFz (some x23)) (x24 := w24) (x25 := x25)
  have e14 := b14_ok hn (m := m) (x0 := x0) (x1 := .ow d10) (x2 := x2) (x3 := .fz (dP S)) (x4 := y4) (x5 := x5) (x6 := y6) (x7 := w7) (x8 := w8) (x9 := .ow (.list ((List.range (n + 1)).map fun j => dP (eP n j)))) (x10 := w10) (x11 := .ow (.list ((unitsP n).map dP))) (x12 := w12) (x13 := w13) (x14 := w14) (x15 := x15) (x16 := x16) (x17 := x17) (x18 := x18) (x19 := x19) (x20 := .fz (dP O)) (x21 := w21) (x22 := .fz (dP (writtenP n S))) (x23 := keepFz (some x23)) (x24 := w24) (x25 := x25)
  obtain ⟨w, a, d15, hw, ha, hd15, e15⟩ := b15_ok (l := wrongs n m) rfl hd10 (x0 := x0) (x1 := x1) (x2 := x2) (x3 := .fz (dP S)) (x4 := y4) (x5 := .fz (tM m)) (x6 := y6) (x7 := w7) (x8 := w8) (x9 := .ow (.list ((List.range (n + 1)).map fun j => dP (eP n j)))) (x10 := w10) (x11 := .ow (.list ((unitsP n).map dP))) (x12 := w12) (x13 := w13) (x14 := w14) (x15 := x15) (x16 := x16) (x17 := x17) (x18 := x18) (x19 := .fz (.int (n : Int))) (x20 := .fz (dP O)) (x21 := w21) (x22 := .fz (dP (writtenP n S))) (x23 := keepFz (some x23)) (x24 := w24) (x25 := x25)
  have e16 := b16_ok hn hm hw (x0 := x0) (x1 := .ow d15) (x2 := x2) (x3 := .fz (dP S)) (x4 := y4) (x5 := .fz (tM m)) (x6 := y6) (x7 := w7) (x8 := w8) (x9 := .ow (.list ((List.range (n + 1)).map fun j => dP (eP n j)))) (x10 := w10) (x11 := .ow (.list ((unitsP n).map dP))) (x12 := w12) (x13 := w13) (x14 := w14) (x15 := .ow (.list (wrongs n m))) (x16 := x16) (x17 := x17) (x18 := .fz a) (x19 := x19) (x20 := .fz (dP O)) (x21 := w21) (x22 := .fz (dP (writtenP n S))) (x23 := keepFz (some x23)) (x24 := w24) (x25 := x25)
  have e17 := b17_ok hn (ns := (List.range (n + 1)).map fun j => dP (eP n j)) (by rw [List.length_map, List.length_range]) ha (x0 := x0) (x1 := .ow d15) (x2 := x2) (x3 := .fz (dP S)) (x4 := y4) (x5 := .fz (tM m)) (x6 := y6) (x7 := w7) (x8 := w8) (x9 := x9) (x10 := w10) (x11 := .ow (.list ((unitsP n).map dP))) (x12 := w12) (x13 := w13) (x14 := w14) (x15 := .ow (.list (wrongs n m))) (x16 := .fz w) (x17 := x17) (x18 := x18) (x19 := x19) (x20 := .fz (dP O)) (x21 := w21) (x22 := .fz (dP (writtenP n S))) (x23 := keepFz (some x23)) (x24 := w24) (x25 := x25)
  obtain ⟨v24, e18⟩ := b18_ok hn (x0 := x0) (x1 := .ow d15) (x2 := x2) (x3 := .fz (dP S)) (x4 := y4) (x5 := .fz (tM m)) (x6 := y6) (x7 := w7) (x8 := w8) (x9 := .ow (.list ((List.range (n + 1)).map fun j => dP (eP n j)))) (x10 := w10) (x11 := .ow (.list ((unitsP n).map dP))) (x12 := w12) (x13 := w13) (x14 := w14) (x15 := .ow (.list (wrongs n m))) (x16 := .fz w) (x17 := x17) (x18 := .fz a) (x19 := x19) (x20 := .fz (dP O)) (x21 := w21) (x22 := .fz (dP (writtenP n S))) (x23 := keepFz (some x23)) (x24 := w24) (x25 := x25) h25
  have e19 := b19_ok hn (x0 := x0) (x1 := .ow d15) (x2 := x2) (x3 := .fz (dP S)) (x4 := y4) (x5 := .fz (tM m)) (x6 := y6) (x7 := w7) (x8 := w8) (x9 := .ow (.list ((List.range (n + 1)).map fun j => dP (eP n j)))) (x10 := w10) (x11 := .ow (.list ((unitsP n).map dP))) (x12 := w12) (x13 := w13) (x14 := w14) (x15 := .ow (.list (wrongs n m))) (x16 := .fz w) (x17 := x17) (x18 := .fz a) (x19 := x19) (x20 := .fz (dP O)) (x21 := w21) (x22 := .fz (dP (writtenP n S))) (x23 := keepFz (some x23)) (x24 := v24) (x25 := x25)
  exact ⟨d15, _, _, _, _, _, _, _, _, _, _, _, _, _, _, _, _, _, _, _, _, _, _, hd15, hw10, run_seq e1 (run_seq e2 (run_seq e3 (run_seq e4 (run_seq e5 (run_seq e6 (run_seq e7 (run_seq e8 (run_seq e9 (run_seq e10 (run_seq e11 (run_seq e12 (run_seq e13 (run_seq e14 (run_seq e15 (run_seq e16 (run_seq e17 (run_seq e18 e19)))))))))))))))))⟩
theorem law_loop : ∀ (items : List PyData) {d : PyData}, Bx d → ∀ {x0 x1 x2 x3 x4 x5 x6 x7 x8 x9 x10 x11 x12 x13 x14 x15 x16 x17 x18 x19 x20 x21 x22 x23 x24 x25 : Sl}, NF x10 → NF x25 → ∃ e', evLoop (stName 2) lBody items (E26 x0 (.ow d) x2 x3 x4 x5 x6 x7 x8 x9 x10 x11 x12 x13 x14 x15 x16 x17 x18 x19 x20 x21 x22 x23 x24 x25) = .nx e'
  | [], d, hd, x0, x1, x2, x3, x4, x5, x6, x7, x8, x9, x10, x11, x12, x13, x14, x15, x16, x17, x18, x19, x20, x21, x22, x23, x24, x25, _, _ => ⟨_, rfl⟩
  | t :: items, d, hd, x0, x1, x2, x3, x4, x5, x6, x7, x8, x9, x10, x11, x12, x13, x14, x15, x16, x17, x18, x19, x20, x21, x22, x23, x24, x25, h10, h25 => by
    obtain ⟨d', z3, z4, z5, z6, z7, z8, z9, z10, z11, z12, z13, z14, z15, z16, z17, z18, z19, z20, z21, z22, z23, z24, hd', hz, e⟩ := lBody_ok hd (x0 := x0) (x1 := x1) (x2 := .fz t) (x3 := x3) (x4 := x4) (x5 := x5) (x6 := x6) (x7 := x7) (x8 := x8) (x9 := x9) (x10 := x10) (x11 := x11) (x12 := x12) (x13 := x13) (x14 := x14) (x15 := x15) (x16 := x16) (x17 := x17) (x18 := x18) (x19 := x19) (x20 := x20) (x21 := x21) (x22 := x22) (x23 := x23) (x24 := x24) (x25 := x25) h10 h25
    obtain ⟨e', h⟩ := law_loop items hd' (x0 := x0) (x1 := x1) (x2 := .fz t) (x3 := z3) (x4 := z4) (x5 := z5) (x6 := z6) (x7 := z7) (x8 := z8) (x9 := z9) (x10 := z10) (x11 := z11) (x12 := z12) (x13 := z13) (x14 := z14) (x15 := z15) (x16 := z16) (x17 := z17) (x18 := z18) (x19 := z19) (x20 := z20) (x21 := z21) (x22 := z22) (x23 := z23) (x24 := z24) (x25 := x25) hz h25
    exact ⟨e', (evLoop_step (e1 := (E26 x0 (.ow d) (.fz t) x3 x4 x5 x6 x7 x8 x9 x10 x11 x12 x13 x14 x15 x16 x17 x18 x19 x20 x21 x22 x23 x24 x25)) rfl e).trans h⟩
theorem MATH : ∀ ns : List Int, ns.length ≤ 63 → (∀ z ∈ ns, Builtin.Int.intBits z ≤ 1048576) → F_law [.list (ns.map .int)] = .ok (.fz (.bool true)) := by
  intro ns _ hb
  obtain ⟨d, hs, hd⟩ := stream_ok hb
  show outF (ev_law (E26 (.fz (.list (ns.map .int))) .emp .emp .emp .emp .emp .emp .emp .emp .emp .emp .emp .emp .emp .emp .emp .emp .emp .emp .emp .emp .emp .emp .emp .emp .emp)) = _
  rw [ev_law_eq]
  refine out_seq (e1 := E26 (.fz (.list (ns.map .int))) (.ow d) .emp .emp .emp .emp .emp .emp .emp .emp .emp .emp .emp .emp .emp .emp .emp .emp .emp .emp .emp .emp .emp .emp .emp .emp) (evSet_ok (v := .ow d) (evCall_ok (ds := [.list (ns.map .int), .int 0]) rfl hs) rfl) ?_
  obtain ⟨e', h⟩ := law_loop (rngD 0 2) hd (x0 := .fz (.list (ns.map .int))) (x1 := .emp) (x2 := .emp) (x3 := .emp) (x4 := .emp) (x5 := .emp) (x6 := .emp) (x7 := .emp) (x8 := .emp) (x9 := .emp) (x10 := .emp) (x11 := .emp) (x12 := .emp) (x13 := .emp) (x14 := .emp) (x15 := .emp) (x16 := .emp) (x17 := .emp) (x18 := .emp) (x19 := .emp) (x20 := .emp) (x21 := .emp) (x22 := .emp) (x23 := .emp) (x24 := .emp) (x25 := .emp) rfl rfl
  refine out_seq (run_for (evIA_ok (ds := [.int ((2 : Nat) : Int)]) rfl (rng1_ok 2 (by decide))) h) ?_
  rfl
end K22
set_option Elab.async false
set_option linter.all false
set_option maxRecDepth 100000
namespace K22
open PySem PySem.Spec PyProof.Rows L2 LamX L3
theorem tabs_nil {H : Hp} {q : Str} : TriplesOk (#[] : Array Value).toList ∧ ∀ (pos : Pos) (cv : Value), codeAmong pos (#[] : Array Value).toList = some cv → ∃ c, cv = .ref c ∧ H c = some (CodeO c q) := by
  refine ⟨?_, fun pos cv h => ?_⟩
  · first | trivial | (unfold TriplesOk; trivial) | simp [TriplesOk]
  · first | cases h | simp [codeAmong] at h
theorem cx_no {P : Program} {w : World} {H : Hp} {s : Shared} {e : Value} {s' : Shared} (h : L2.CX P w [] H s (fun _ _ _ => False) e s') : False := by
  obtain ⟨_, _, _, _, _, _, _, _, _, _, _, _, z⟩ := h
  exact z
theorem all_mk {w : World} {K : PySem.W.Frag} {h : Heap} {mg : Str → Option Value} {fa : Addr} {f_is_integer : Addr} {f_orders : Addr} {f_is_term : Addr} {f_times_many : Addr} {f_elementary_one : Addr} {f_check_many : Addr} {f_elementary : Addr} {f__law_cell : Addr} {f__law_stream : Addr} {f__law_draw : Addr} {f__law_read : Addr} {f__law_told : Addr} {f__law_clean : Addr} {f__law_plus : Addr} {f__law_times : Addr} {f__law_simple : Addr} {f__law_written : Addr} {f__law_passed : Addr} {flaw cl P0 : Addr} {C_RootError : Addr} {C_BadPolynomial : Addr} {C_OutOfRange : Addr} {od_is_integer an_is_integer : Option Addr} {sl_is_integer : Array (Option Value)} {oc_is_integer kV_is_integer dc_is_integer pm_is_integer cd_is_integer ct_is_integer : Value} {od_orders an_orders : Option Addr} {sl_orders : Array (Option Value)} {oc_orders kV_orders dc_orders pm_orders cd_orders ct_orders : Value} {od_is_term an_is_term : Option Addr} {sl_is_term : Array (Option Value)} {oc_is_term kV_is_term dc_is_term pm_is_term cd_is_term ct_is_term : Value} {od_times_many an_times_many : Option Addr} {sl_times_many : Array (Option Value)} {oc_times_many kV_times_many dc_times_many pm_times_many cd_times_many ct_times_many : Value} {od_elementary_one an_elementary_one : Option Addr} {sl_elementary_one : Array (Option Value)} {oc_elementary_one kV_elementary_one dc_elementary_one pm_elementary_one cd_elementary_one ct_elementary_one : Value} {od_check_many an_check_many : Option Addr} {sl_check_many : Array (Option Value)} {oc_check_many kV_check_many dc_check_many pm_check_many cd_check_many ct_check_many : Value} {od_elementary an_elementary : Option Addr} {sl_elementary : Array (Option Value)} {oc_elementary kV_elementary dc_elementary pm_elementary cd_elementary ct_elementary : Value} {od__law_cell an__law_cell : Option Addr} {sl__law_cell : Array (Option Value)} {oc__law_cell kV__law_cell dc__law_cell pm__law_cell cd__law_cell ct__law_cell : Value} {od__law_stream an__law_stream : Option Addr} {sl__law_stream : Array (Option Value)} {oc__law_stream kV__law_stream dc__law_stream pm__law_stream cd__law_stream ct__law_stream : Value} {od__law_draw an__law_draw : Option Addr} {sl__law_draw : Array (Option Value)} {oc__law_draw kV__law_draw dc__law_draw pm__law_draw cd__law_draw ct__law_draw : Value} {od__law_read an__law_read : Option Addr} {sl__law_read : Array (Option Value)} {oc__law_read kV__law_read dc__law_read pm__law_read cd__law_read ct__law_read : Value} {od__law_told an__law_told : Option Addr} {sl__law_told : Array (Option Value)} {oc__law_told kV__law_told dc__law_told pm__law_told cd__law_told ct__law_told : Value} {od__law_clean an__law_clean : Option Addr} {sl__law_clean : Array (Option Value)} {oc__law_clean kV__law_clean dc__law_clean pm__law_clean cd__law_clean ct__law_clean : Value} {od__law_plus an__law_plus : Option Addr} {sl__law_plus : Array (Option Value)} {oc__law_plus kV__law_plus dc__law_plus pm__law_plus cd__law_plus ct__law_plus : Value} {od__law_times an__law_times : Option Addr} {sl__law_times : Array (Option Value)} {oc__law_times kV__law_times dc__law_times pm__law_times cd__law_times ct__law_times : Value} {od__law_simple an__law_simple : Option Addr} {sl__law_simple : Array (Option Value)} {oc__law_simple kV__law_simple dc__law_simple pm__law_simple cd__law_simple ct__law_simple : Value} {od__law_written an__law_written : Option Addr} {sl__law_written : Array (Option Value)} {oc__law_written kV__law_written dc__law_written pm__law_written cd__law_written ct__law_written : Value} {od__law_passed an__law_passed : Option Addr} {sl__law_passed : Array (Option Value)} {oc__law_passed kV__law_passed dc__law_passed pm__law_passed cd__law_passed ct__law_passed : Value} {odL anL : Option Addr} {slL slC : Array (Option Value)} {ocL kVL dcL pmL ctL eC : Value} {ddC : Option Addr} {vsC : Array Value} {t_MOST_NAMES : Tok} {t_MOST_SUM : Tok}
    (math : ∀ ns : List Int, ns.length ≤ 63 → (∀ z ∈ ns, Builtin.Int.intBits z ≤ 1048576) → F_law [.list (ns.map .int)] = .ok (.fz (.bool true)))
    (X : K.In h) (G : h.Ns mainGlobals mg) (hfa : mg "law" = some (.ref fa)) (own : LamX.OwnTab K fa h)
    (a_is_integer : PySem.W.nsIn K mainGlobals "is_integer" = some (some (.ref f_is_integer)))
    (l_is_integer : K.lookup f_is_integer = some ⟨oc_is_integer, od_is_integer, .func (PySem.W.fnOf "is_integer" "is_integer" (defArgs s_is_integer) (defBody s_is_integer) (defScope s_is_integer) .none kV_is_integer dc_is_integer pm_is_integer an_is_integer cd_is_integer ct_is_integer), sl_is_integer⟩)
    (c_is_integer : PySem.W.codeIn K cd_is_integer "is_integer" = true)
    (k_is_integer : PySem.W.keepIn K (.ref f_is_integer) = true)
    (a_orders : PySem.W.nsIn K mainGlobals "orders" = some (some (.ref f_orders)))
    (l_orders : K.lookup f_orders = some ⟨oc_orders, od_orders, .func (PySem.W.fnOf "orders" "orders" (defArgs s_orders) (defBody s_orders) (defScope s_orders) .none kV_orders dc_orders pm_orders an_orders cd_orders ct_orders), sl_orders⟩)
    (c_orders : PySem.W.codeIn K cd_orders "orders" = true)
    (k_orders : PySem.W.keepIn K (.ref f_orders) = true)
    (a_is_term : PySem.W.nsIn K mainGlobals "is_term" = some (some (.ref f_is_term)))
    (l_is_term : K.lookup f_is_term = some ⟨oc_is_term, od_is_term, .func (PySem.W.fnOf "is_term" "is_term" (defArgs s_is_term) (defBody s_is_term) (defScope s_is_term) .none kV_is_term dc_is_term pm_is_term an_is_term cd_is_term ct_is_term), sl_is_term⟩)
    (c_is_term : PySem.W.codeIn K cd_is_term "is_term" = true)
    (k_is_term : PySem.W.keepIn K (.ref f_is_term) = true)
    (a_times_many : PySem.W.nsIn K mainGlobals "times_many" = some (some (.ref f_times_many)))
    (l_times_many : K.lookup f_times_many = some ⟨oc_times_many, od_times_many, .func (PySem.W.fnOf "times_many" "times_many" (defArgs s_times_many) (defBody s_times_many) (defScope s_times_many) .none kV_times_many dc_times_many pm_times_many an_times_many cd_times_many ct_times_many), sl_times_many⟩)
    (c_times_many : PySem.W.codeIn K cd_times_many "times_many" = true)
    (k_times_many : PySem.W.keepIn K (.ref f_times_many) = true)
    (a_elementary_one : PySem.W.nsIn K mainGlobals "elementary_one" = some (some (.ref f_elementary_one)))
    (l_elementary_one : K.lookup f_elementary_one = some ⟨oc_elementary_one, od_elementary_one, .func (PySem.W.fnOf "elementary_one" "elementary_one" (defArgs s_elementary_one) (defBody s_elementary_one) (defScope s_elementary_one) .none kV_elementary_one dc_elementary_one pm_elementary_one an_elementary_one cd_elementary_one ct_elementary_one), sl_elementary_one⟩)
    (c_elementary_one : PySem.W.codeIn K cd_elementary_one "elementary_one" = true)
    (k_elementary_one : PySem.W.keepIn K (.ref f_elementary_one) = true)
    (a_check_many : PySem.W.nsIn K mainGlobals "check_many" = some (some (.ref f_check_many)))
    (l_check_many : K.lookup f_check_many = some ⟨oc_check_many, od_check_many, .func (PySem.W.fnOf "check_many" "check_many" (defArgs s_check_many) (defBody s_check_many) (defScope s_check_many) .none kV_check_many dc_check_many pm_check_many an_check_many cd_check_many ct_check_many), sl_check_many⟩)
    (c_check_many : PySem.W.codeIn K cd_check_many "check_many" = true)
    (k_check_many : PySem.W.keepIn K (.ref f_check_many) = true)
    (a_elementary : PySem.W.nsIn K mainGlobals "elementary" = some (some (.ref f_elementary)))
    (l_elementary : K.lookup f_elementary = some ⟨oc_elementary, od_elementary, .func (PySem.W.fnOf "elementary" "elementary" (defArgs s_elementary) (defBody s_elementary) (defScope s_elementary) .none kV_elementary dc_elementary pm_elementary an_elementary cd_elementary ct_elementary), sl_elementary⟩)
    (c_elementary : PySem.W.codeIn K cd_elementary "elementary" = true)
    (k_elementary : PySem.W.keepIn K (.ref f_elementary) = true)
    (a__law_cell : PySem.W.nsIn K mainGlobals "_law_cell" = some (some (.ref f__law_cell)))
    (l__law_cell : K.lookup f__law_cell = some ⟨oc__law_cell, od__law_cell, .func (PySem.W.fnOf "_law_cell" "_law_cell" (defArgs s__law_cell) (defBody s__law_cell) (defScope s__law_cell) .none kV__law_cell dc__law_cell pm__law_cell an__law_cell cd__law_cell ct__law_cell), sl__law_cell⟩)
    (c__law_cell : PySem.W.codeIn K cd__law_cell "_law_cell" = true)
    (k__law_cell : PySem.W.keepIn K (.ref f__law_cell) = true)
    (a__law_stream : PySem.W.nsIn K mainGlobals "_law_stream" = some (some (.ref f__law_stream)))
    (l__law_stream : K.lookup f__law_stream = some ⟨oc__law_stream, od__law_stream, .func (PySem.W.fnOf "_law_stream" "_law_stream" (defArgs s__law_stream) (defBody s__law_stream) (defScope s__law_stream) .none kV__law_stream dc__law_stream pm__law_stream an__law_stream cd__law_stream ct__law_stream), sl__law_stream⟩)
    (c__law_stream : PySem.W.codeIn K cd__law_stream "_law_stream" = true)
    (k__law_stream : PySem.W.keepIn K (.ref f__law_stream) = true)
    (a__law_draw : PySem.W.nsIn K mainGlobals "_law_draw" = some (some (.ref f__law_draw)))
    (l__law_draw : K.lookup f__law_draw = some ⟨oc__law_draw, od__law_draw, .func (PySem.W.fnOf "_law_draw" "_law_draw" (defArgs s__law_draw) (defBody s__law_draw) (defScope s__law_draw) .none kV__law_draw dc__law_draw pm__law_draw an__law_draw cd__law_draw ct__law_draw), sl__law_draw⟩)
    (c__law_draw : PySem.W.codeIn K cd__law_draw "_law_draw" = true)
    (k__law_draw : PySem.W.keepIn K (.ref f__law_draw) = true)
    (a__law_read : PySem.W.nsIn K mainGlobals "_law_read" = some (some (.ref f__law_read)))
    (l__law_read : K.lookup f__law_read = some ⟨oc__law_read, od__law_read, .func (PySem.W.fnOf "_law_read" "_law_read" (defArgs s__law_read) (defBody s__law_read) (defScope s__law_read) .none kV__law_read dc__law_read pm__law_read an__law_read cd__law_read ct__law_read), sl__law_read⟩)
    (c__law_read : PySem.W.codeIn K cd__law_read "_law_read" = true)
    (k__law_read : PySem.W.keepIn K (.ref f__law_read) = true)
    (a__law_told : PySem.W.nsIn K mainGlobals "_law_told" = some (some (.ref f__law_told)))
    (l__law_told : K.lookup f__law_told = some ⟨oc__law_told, od__law_told, .func (PySem.W.fnOf "_law_told" "_law_told" (defArgs s__law_told) (defBody s__law_told) (defScope s__law_told) .none kV__law_told dc__law_told pm__law_told an__law_told cd__law_told ct__law_told), sl__law_told⟩)
    (c__law_told : PySem.W.codeIn K cd__law_told "_law_told" = true)
    (k__law_told : PySem.W.keepIn K (.ref f__law_told) = true)
    (a__law_clean : PySem.W.nsIn K mainGlobals "_law_clean" = some (some (.ref f__law_clean)))
    (l__law_clean : K.lookup f__law_clean = some ⟨oc__law_clean, od__law_clean, .func (PySem.W.fnOf "_law_clean" "_law_clean" (defArgs s__law_clean) (defBody s__law_clean) (defScope s__law_clean) .none kV__law_clean dc__law_clean pm__law_clean an__law_clean cd__law_clean ct__law_clean), sl__law_clean⟩)
    (c__law_clean : PySem.W.codeIn K cd__law_clean "_law_clean" = true)
    (k__law_clean : PySem.W.keepIn K (.ref f__law_clean) = true)
    (a__law_plus : PySem.W.nsIn K mainGlobals "_law_plus" = some (some (.ref f__law_plus)))
    (l__law_plus : K.lookup f__law_plus = some ⟨oc__law_plus, od__law_plus, .func (PySem.W.fnOf "_law_plus" "_law_plus" (defArgs s__law_plus) (defBody s__law_plus) (defScope s__law_plus) .none kV__law_plus dc__law_plus pm__law_plus an__law_plus cd__law_plus ct__law_plus), sl__law_plus⟩)
    (c__law_plus : PySem.W.codeIn K cd__law_plus "_law_plus" = true)
    (k__law_plus : PySem.W.keepIn K (.ref f__law_plus) = true)
    (a__law_times : PySem.W.nsIn K mainGlobals "_law_times" = some (some (.ref f__law_times)))
    (l__law_times : K.lookup f__law_times = some ⟨oc__law_times, od__law_times, .func (PySem.W.fnOf "_law_times" "_law_times" (defArgs s__law_times) (defBody s__law_times) (defScope s__law_times) .none kV__law_times dc__law_times pm__law_times an__law_times cd__law_times ct__law_times), sl__law_times⟩)
    (c__law_times : PySem.W.codeIn K cd__law_times "_law_times" = true)
    (k__law_times : PySem.W.keepIn K (.ref f__law_times) = true)
    (a__law_simple : PySem.W.nsIn K mainGlobals "_law_simple" = some (some (.ref f__law_simple)))
    (l__law_simple : K.lookup f__law_simple = some ⟨oc__law_simple, od__law_simple, .func (PySem.W.fnOf "_law_simple" "_law_simple" (defArgs s__law_simple) (defBody s__law_simple) (defScope s__law_simple) .none kV__law_simple dc__law_simple pm__law_simple an__law_simple cd__law_simple ct__law_simple), sl__law_simple⟩)
    (c__law_simple : PySem.W.codeIn K cd__law_simple "_law_simple" = true)
    (k__law_simple : PySem.W.keepIn K (.ref f__law_simple) = true)
    (a__law_written : PySem.W.nsIn K mainGlobals "_law_written" = some (some (.ref f__law_written)))
    (l__law_written : K.lookup f__law_written = some ⟨oc__law_written, od__law_written, .func (PySem.W.fnOf "_law_written" "_law_written" (defArgs s__law_written) (defBody s__law_written) (defScope s__law_written) .none kV__law_written dc__law_written pm__law_written an__law_written cd__law_written ct__law_written), sl__law_written⟩)
    (c__law_written : PySem.W.codeIn K cd__law_written "_law_written" = true)
    (k__law_written : PySem.W.keepIn K (.ref f__law_written) = true)
    (a__law_passed : PySem.W.nsIn K mainGlobals "_law_passed" = some (some (.ref f__law_passed)))
    (l__law_passed : K.lookup f__law_passed = some ⟨oc__law_passed, od__law_passed, .func (PySem.W.fnOf "_law_passed" "_law_passed" (defArgs s__law_passed) (defBody s__law_passed) (defScope s__law_passed) .none kV__law_passed dc__law_passed pm__law_passed an__law_passed cd__law_passed ct__law_passed), sl__law_passed⟩)
    (c__law_passed : PySem.W.codeIn K cd__law_passed "_law_passed" = true)
    (k__law_passed : PySem.W.keepIn K (.ref f__law_passed) = true)
    (aL : PySem.W.nsIn K mainGlobals "law" = some (some (.ref flaw)))
    (lL : K.lookup flaw = some ⟨ocL, odL, .func (PySem.W.fnOf "law" "law" (defArgs s_law) (defBody s_law) (defScope s_law) .none kVL dcL pmL anL (.ref cl) ctL), slL⟩)
    (cL : PySem.W.codeIn K (.ref cl) "law" = true)
    (lC : K.lookup cl = some ⟨eC, ddC, .fields vsC, slC⟩)
    (vP : vsC[11]? = some (.ref P0))
    (nP : K.lookup P0 = none)
    (hC : PySem.W.codeHdIn K cl P0 = true)
    (a_RootError : PySem.W.nsIn K mainGlobals "RootError" = some (some (.ref C_RootError)))
    (k_RootError : PySem.W.keepIn K (.ref C_RootError) = true)
    (q_RootError : PySem.W.excIn K C_RootError [.type "ValueError", .type "Exception", .type "BaseException", .type "object"] "ValueError.__new__" = true)
    (s_RootError1 : PySem.W.subIn K (.ref C_RootError) (.type "BaseException") = some true)
    (s_RootError2 : PySem.W.typeIn K (.ref C_RootError) = some (.type "type"))
    (a_BadPolynomial : PySem.W.nsIn K mainGlobals "BadPolynomial" = some (some (.ref C_BadPolynomial)))
    (k_BadPolynomial : PySem.W.keepIn K (.ref C_BadPolynomial) = true)
    (q_BadPolynomial : PySem.W.excIn K C_BadPolynomial [.type "ValueError", .type "Exception", .type "BaseException", .type "object"] "ValueError.__new__" = true)
    (s_BadPolynomial1 : PySem.W.subIn K (.ref C_BadPolynomial) (.type "BaseException") = some true)
    (s_BadPolynomial2 : PySem.W.typeIn K (.ref C_BadPolynomial) = some (.type "type"))
    (a_OutOfRange : PySem.W.nsIn K mainGlobals "OutOfRange" = some (some (.ref C_OutOfRange)))
    (k_OutOfRange : PySem.W.keepIn K (.ref C_OutOfRange) = true)
    (q_OutOfRange : PySem.W.excIn K C_OutOfRange [.type "ValueError", .type "Exception", .type "BaseException", .type "object"] "ValueError.__new__" = true)
    (s_OutOfRange1 : PySem.W.subIn K (.ref C_OutOfRange) (.type "BaseException") = some true)
    (s_OutOfRange2 : PySem.W.typeIn K (.ref C_OutOfRange) = some (.type "type"))
    (m_BadPolynomial : PySem.W.exmOne K (.ref C_BadPolynomial) (.ref C_RootError) = some true)
    (o_BadPolynomial : PySem.W.kitOne K (.ref C_BadPolynomial) (.ref C_OutOfRange) = some false)
    (e1_BadPolynomial : PySem.W.findIn K (.ref C_BadPolynomial) "__getattribute__" = some (some (.builtin "BaseException.__getattribute__")))
    (e2_BadPolynomial : PySem.W.findIn K (.ref C_BadPolynomial) "__getattr__" = some none)
    (e3_BadPolynomial : PySem.W.hasDictIn K C_BadPolynomial = true)
    (e4_BadPolynomial : PySem.W.findIn K (.ref C_BadPolynomial) "__class__" = some (some (.builtin "object.__class__")))
    (e5_BadPolynomial : PySem.W.mroIn K C_BadPolynomial (.type "object") = some true)
    (m_OutOfRange : PySem.W.exmOne K (.ref C_OutOfRange) (.ref C_RootError) = some true)
    (o_OutOfRange : PySem.W.kitOne K (.ref C_OutOfRange) (.ref C_OutOfRange) = some true)
    (e1_OutOfRange : PySem.W.findIn K (.ref C_OutOfRange) "__getattribute__" = some (some (.builtin "BaseException.__getattribute__")))
    (e2_OutOfRange : PySem.W.findIn K (.ref C_OutOfRange) "__getattr__" = some none)
    (e3_OutOfRange : PySem.W.hasDictIn K C_OutOfRange = true)
    (e4_OutOfRange : PySem.W.findIn K (.ref C_OutOfRange) "__class__" = some (some (.builtin "object.__class__")))
    (e5_OutOfRange : PySem.W.mroIn K C_OutOfRange (.type "object") = some true)
    (n1 : PySem.W.specialIn K (.builtin "object.__class__") "__get__" = some (some (.builtin "getset_descriptor.__get__")))
    (n2 : PySem.W.takesIn K (.builtin "object.__class__") = some true)
    (z_abs : PySem.W.nsIn K mainGlobals "abs" = some none)
    (z_all : PySem.W.nsIn K mainGlobals "all" = some none)
    (z_any : PySem.W.nsIn K mainGlobals "any" = some none)
    (z_bool : PySem.W.nsIn K mainGlobals "bool" = some none)
    (z_dict : PySem.W.nsIn K mainGlobals "dict" = some none)
    (z_enumerate : PySem.W.nsIn K mainGlobals "enumerate" = some none)
    (z_int : PySem.W.nsIn K mainGlobals "int" = some none)
    (z_isinstance : PySem.W.nsIn K mainGlobals "isinstance" = some none)
    (z_len : PySem.W.nsIn K mainGlobals "len" = some none)
    (z_max : PySem.W.nsIn K mainGlobals "max" = some none)
    (z_min : PySem.W.nsIn K mainGlobals "min" = some none)
    (z_range : PySem.W.nsIn K mainGlobals "range" = some none)
    (z_sorted : PySem.W.nsIn K mainGlobals "sorted" = some none)
    (z_str : PySem.W.nsIn K mainGlobals "str" = some none)
    (z_sum : PySem.W.nsIn K mainGlobals "sum" = some none)
    (z_tuple : PySem.W.nsIn K mainGlobals "tuple" = some none)
    (z_zip : PySem.W.nsIn K mainGlobals "zip" = some none)
    (g_MOST_NAMES : PySem.W.nsIn K mainGlobals "MOST_NAMES" = some (some (.int 4 t_MOST_NAMES)))
    (g_MOST_SUM : PySem.W.nsIn K mainGlobals "MOST_SUM" = some (some (.int 8 t_MOST_SUM))) :
    LamX.LawAtS PySem.Challenge.rw_everyroot_k22_even_handed_polynomials w K (L2.CX (PySem.Challenge.rw_everyroot_k22_even_handed_polynomials).prog w) 9 63 "script" mg fa h := by
  have e := hfa.symm.trans (PySem.W.mg_of X G aL)
  cases e
  have U_is_integer := fun_mk (st := s_is_integer) l_is_integer c_is_integer k_is_integer
  have D_is_integer : DefAt K mg "is_integer" s_is_integer ["thing"] f_is_integer _ := ⟨U_is_integer, PySem.W.mg_of X G a_is_integer, k_is_integer, U_is_integer.binds (ps := ["thing"]) fun _ _ _ _ _ _ us hl => match us, hl with | [_], _ => rfl⟩
  have U_orders := fun_mk (st := s_orders) l_orders c_orders k_orders
  have D_orders : DefAt K mg "orders" s_orders ["size"] f_orders _ := ⟨U_orders, PySem.W.mg_of X G a_orders, k_orders, U_orders.binds (ps := ["size"]) fun _ _ _ _ _ _ us hl => match us, hl with | [_], _ => rfl⟩
  have U_is_term := fun_mk (st := s_is_term) l_is_term c_is_term k_is_term
  have D_is_term : DefAt K mg "is_term" s_is_term ["thing", "names"] f_is_term _ := ⟨U_is_term, PySem.W.mg_of X G a_is_term, k_is_term, U_is_term.binds (ps := ["thing", "names"]) fun _ _ _ _ _ _ us hl => match us, hl with | [_, _], _ => rfl⟩
  have U_times_many := fun_mk (st := s_times_many) l_times_many c_times_many k_times_many
  have D_times_many : DefAt K mg "times_many" s_times_many ["one", "other"] f_times_many _ := ⟨U_times_many, PySem.W.mg_of X G a_times_many, k_times_many, U_times_many.binds (ps := ["one", "other"]) fun _ _ _ _ _ _ us hl => match us, hl with | [_, _], _ => rfl⟩
  have U_elementary_one := fun_mk (st := s_elementary_one) l_elementary_one c_elementary_one k_elementary_one
  have D_elementary_one : DefAt K mg "elementary_one" s_elementary_one ["names", "many"] f_elementary_one _ := ⟨U_elementary_one, PySem.W.mg_of X G a_elementary_one, k_elementary_one, U_elementary_one.binds (ps := ["names", "many"]) fun _ _ _ _ _ _ us hl => match us, hl with | [_, _], _ => rfl⟩
  have U_check_many := fun_mk (st := s_check_many) l_check_many c_check_many k_check_many
  have D_check_many : DefAt K mg "check_many" s_check_many ["names", "told"] f_check_many _ := ⟨U_check_many, PySem.W.mg_of X G a_check_many, k_check_many, U_check_many.binds (ps := ["names", "told"]) fun _ _ _ _ _ _ us hl => match us, hl with | [_, _], _ => rfl⟩
  have U_elementary := fun_mk (st := s_elementary) l_elementary c_elementary k_elementary
  have D_elementary : DefAt K mg "elementary" s_elementary ["n", "told"] f_elementary _ := ⟨U_elementary, PySem.W.mg_of X G a_elementary, k_elementary, U_elementary.binds (ps := ["n", "told"]) fun _ _ _ _ _ _ us hl => match us, hl with | [_, _], _ => rfl⟩
  have U__law_cell := fun_mk (st := s__law_cell) l__law_cell c__law_cell k__law_cell
  have D__law_cell : DefAt K mg "_law_cell" s__law_cell ["script", "k"] f__law_cell _ := ⟨U__law_cell, PySem.W.mg_of X G a__law_cell, k__law_cell, U__law_cell.binds (ps := ["script", "k"]) fun _ _ _ _ _ _ us hl => match us, hl with | [_, _], _ => rfl⟩
  have U__law_stream := fun_mk (st := s__law_stream) l__law_stream c__law_stream k__law_stream
  have D__law_stream : DefAt K mg "_law_stream" s__law_stream ["script", "k"] f__law_stream _ := ⟨U__law_stream, PySem.W.mg_of X G a__law_stream, k__law_stream, U__law_stream.binds (ps := ["script", "k"]) fun _ _ _ _ _ _ us hl => match us, hl with | [_, _], _ => rfl⟩
  have U__law_draw := fun_mk (st := s__law_draw) l__law_draw c__law_draw k__law_draw
  have D__law_draw : DefAt K mg "_law_draw" s__law_draw ["box", "high"] f__law_draw _ := ⟨U__law_draw, PySem.W.mg_of X G a__law_draw, k__law_draw, U__law_draw.binds (ps := ["box", "high"]) fun _ _ _ _ _ _ us hl => match us, hl with | [_, _], _ => rfl⟩
  have U__law_read := fun_mk (st := s__law_read) l__law_read c__law_read k__law_read
  have D__law_read : DefAt K mg "_law_read" s__law_read ["told"] f__law_read _ := ⟨U__law_read, PySem.W.mg_of X G a__law_read, k__law_read, U__law_read.binds (ps := ["told"]) fun _ _ _ _ _ _ us hl => match us, hl with | [_], _ => rfl⟩
  have U__law_told := fun_mk (st := s__law_told) l__law_told c__law_told k__law_told
  have D__law_told : DefAt K mg "_law_told" s__law_told ["call"] f__law_told _ := ⟨U__law_told, PySem.W.mg_of X G a__law_told, k__law_told, U__law_told.binds (ps := ["call"]) fun _ _ _ _ _ _ us hl => match us, hl with | [_], _ => rfl⟩
  have U__law_clean := fun_mk (st := s__law_clean) l__law_clean c__law_clean k__law_clean
  have D__law_clean : DefAt K mg "_law_clean" s__law_clean ["terms"] f__law_clean _ := ⟨U__law_clean, PySem.W.mg_of X G a__law_clean, k__law_clean, U__law_clean.binds (ps := ["terms"]) fun _ _ _ _ _ _ us hl => match us, hl with | [_], _ => rfl⟩
  have U__law_plus := fun_mk (st := s__law_plus) l__law_plus c__law_plus k__law_plus
  have D__law_plus : DefAt K mg "_law_plus" s__law_plus ["first", "second"] f__law_plus _ := ⟨U__law_plus, PySem.W.mg_of X G a__law_plus, k__law_plus, U__law_plus.binds (ps := ["first", "second"]) fun _ _ _ _ _ _ us hl => match us, hl with | [_, _], _ => rfl⟩
  have U__law_times := fun_mk (st := s__law_times) l__law_times c__law_times k__law_times
  have D__law_times : DefAt K mg "_law_times" s__law_times ["first", "second"] f__law_times _ := ⟨U__law_times, PySem.W.mg_of X G a__law_times, k__law_times, U__law_times.binds (ps := ["first", "second"]) fun _ _ _ _ _ _ us hl => match us, hl with | [_, _], _ => rfl⟩
  have U__law_simple := fun_mk (st := s__law_simple) l__law_simple c__law_simple k__law_simple
  have D__law_simple : DefAt K mg "_law_simple" s__law_simple ["n", "j"] f__law_simple _ := ⟨U__law_simple, PySem.W.mg_of X G a__law_simple, k__law_simple, U__law_simple.binds (ps := ["n", "j"]) fun _ _ _ _ _ _ us hl => match us, hl with | [_, _], _ => rfl⟩
  have U__law_written := fun_mk (st := s__law_written) l__law_written c__law_written k__law_written
  have D__law_written : DefAt K mg "_law_written" s__law_written ["n", "told"] f__law_written _ := ⟨U__law_written, PySem.W.mg_of X G a__law_written, k__law_written, U__law_written.binds (ps := ["n", "told"]) fun _ _ _ _ _ _ us hl => match us, hl with | [_, _], _ => rfl⟩
  have U__law_passed := fun_mk (st := s__law_passed) l__law_passed c__law_passed k__law_passed
  have D__law_passed : DefAt K mg "_law_passed" s__law_passed ["terms"] f__law_passed _ := ⟨U__law_passed, PySem.W.mg_of X G a__law_passed, k__law_passed, U__law_passed.binds (ps := ["terms"]) fun _ _ _ _ _ _ us hl => match us, hl with | [_], _ => rfl⟩
  have X_RootError : ExcAt K mg "RootError" C_RootError := ⟨PySem.W.mg_of X G a_RootError, k_RootError, q_RootError, s_RootError1, s_RootError2⟩
  have X_BadPolynomial : ExcAt K mg "BadPolynomial" C_BadPolynomial := ⟨PySem.W.mg_of X G a_BadPolynomial, k_BadPolynomial, q_BadPolynomial, s_BadPolynomial1, s_BadPolynomial2⟩
  have X_OutOfRange : ExcAt K mg "OutOfRange" C_OutOfRange := ⟨PySem.W.mg_of X G a_OutOfRange, k_OutOfRange, q_OutOfRange, s_OutOfRange1, s_OutOfRange2⟩
  have hcls : ∀ (n : Str) (b : Bool), toldN n = some b → ∃ D : Addr, mg n = some (.ref D) ∧ PySem.W.exmOne K (.ref D) (.ref C_RootError) = some true ∧ ExcC K D ∧ PySem.W.kitOne K (.ref D) (.ref C_OutOfRange) = some b := by
    intro n b hb
    unfold toldN at hb
    split at hb
    · cases hb
      rename_i hn
      subst hn
      exact ⟨C_BadPolynomial, X_BadPolynomial.m, m_BadPolynomial, ⟨e1_BadPolynomial, e2_BadPolynomial, s_BadPolynomial1, e3_BadPolynomial, e4_BadPolynomial, n1, n2, e5_BadPolynomial⟩, o_BadPolynomial⟩
    split at hb
    · cases hb
      rename_i hn
      subst hn
      exact ⟨C_OutOfRange, X_OutOfRange.m, m_OutOfRange, ⟨e1_OutOfRange, e2_OutOfRange, s_OutOfRange1, e3_OutOfRange, e4_OutOfRange, n1, n2, e5_OutOfRange⟩, o_OutOfRange⟩
    · cases hb
  refine ⟨PySem.W.fnOf "law" "law" (defArgs s_law) (defBody s_law) (defScope s_law) .none kVL dcL pmL anL (.ref cl) ctL, [(cl, P0)], spLaw K [(P0, lamQ)] F_law, fun p hp => ?_, fun p hp => ?_, fun p hp => ?_, fun s u => .of_eq rfl, fun H a ns hl hbits hT hS => ?_, fun base KB GB TB => ?_⟩
  · rw [List.mem_singleton.mp hp]
    exact own cl P0 _ _ eC ddC vsC slC lL rfl rfl lC vP
  · rw [List.mem_singleton.mp hp]
    exact nP
  · rw [List.mem_singleton.mp hp]
    exact PySem.W.codeHd_of_K X hC
  · refine ⟨a, ns, rfl, hS, fun p hp => ?_, math ns hl hbits, fun _ => rfl⟩
    rw [List.mem_singleton.mp hp]
    exact ⟨#[], hT _ (List.mem_singleton.mpr rfl), (tabs_nil (H := H) (q := lamQ)).1, (tabs_nil (H := H) (q := lamQ)).2⟩
  · have TBc := TB _ (List.mem_singleton.mpr rfl)
    have C_is_integer : FnOk (PySem.Challenge.rw_everyroot_k22_even_handed_polynomials).prog w K mg base (L2.CX (PySem.Challenge.rw_everyroot_k22_even_handed_polynomials).prog w) 1 f_is_integer _ ["thing"] (spF K mg [(P0, lamQ)] 1 F_is_integer) := fn_is_integer U_is_integer (PySem.W.mg_none_of X G z_bool) (PySem.W.mg_none_of X G z_int) (PySem.W.mg_none_of X G z_isinstance)
    have C_orders : FnOk (PySem.Challenge.rw_everyroot_k22_even_handed_polynomials).prog w K mg base (L2.CX (PySem.Challenge.rw_everyroot_k22_even_handed_polynomials).prog w) 1 f_orders _ ["size"] (spF K mg [(P0, lamQ)] 1 F_orders) := fn_orders U_orders (PySem.W.mg_none_of X G z_range)
    have C_is_term : FnOk (PySem.Challenge.rw_everyroot_k22_even_handed_polynomials).prog w K mg base (L2.CX (PySem.Challenge.rw_everyroot_k22_even_handed_polynomials).prog w) 2 f_is_term _ ["thing", "names"] (spF K mg [(P0, lamQ)] 2 F_is_term) := fn_is_term U_is_term (PySem.W.mg_none_of X G z_all) (PySem.W.mg_none_of X G z_isinstance) (PySem.W.mg_none_of X G z_len) (PySem.W.mg_none_of X G z_tuple) D_is_integer C_is_integer
    have C_times_many : FnOk (PySem.Challenge.rw_everyroot_k22_even_handed_polynomials).prog w K mg base (L2.CX (PySem.Challenge.rw_everyroot_k22_even_handed_polynomials).prog w) 1 f_times_many _ ["one", "other"] (spF K mg [(P0, lamQ)] 2 F_times_many) := fn_times_many U_times_many (PySem.W.mg_none_of X G z_tuple) (PySem.W.mg_none_of X G z_zip)
    have C_elementary_one : FnOk (PySem.Challenge.rw_everyroot_k22_even_handed_polynomials).prog w K mg base (L2.CX (PySem.Challenge.rw_everyroot_k22_even_handed_polynomials).prog w) 1 f_elementary_one _ ["names", "many"] (spF K mg [(P0, lamQ)] 2 F_elementary_one) := fn_elementary_one U_elementary_one (PySem.W.mg_none_of X G z_range) (PySem.W.mg_none_of X G z_sum) (PySem.W.mg_none_of X G z_tuple)
    have C_check_many : FnOk (PySem.Challenge.rw_everyroot_k22_even_handed_polynomials).prog w K mg base (L2.CX (PySem.Challenge.rw_everyroot_k22_even_handed_polynomials).prog w) 3 f_check_many _ ["names", "told"] (spF K mg [(P0, lamQ)] 2 F_check_many) := fn_check_many U_check_many (PySem.W.mg_none_of X G z_all) (PySem.W.mg_none_of X G z_any) (PySem.W.mg_none_of X G z_dict) (PySem.W.mg_none_of X G z_isinstance) (PySem.W.mg_none_of X G z_len) (PySem.W.mg_none_of X G z_range) (PySem.W.mg_none_of X G z_sum) (PySem.W.mg_none_of X G z_tuple) (PySem.W.mg_of X G g_MOST_SUM) D_is_term C_is_term D_orders C_orders X_BadPolynomial X_OutOfRange
    have C_elementary : FnOk (PySem.Challenge.rw_everyroot_k22_even_handed_polynomials).prog w K mg base (L2.CX (PySem.Challenge.rw_everyroot_k22_even_handed_polynomials).prog w) 4 f_elementary _ ["n", "told"] (spF K mg [(P0, lamQ)] 2 F_elementary) := fn_elementary U_elementary (PySem.W.mg_none_of X G z_dict) (PySem.W.mg_none_of X G z_enumerate) (PySem.W.mg_none_of X G z_len) (PySem.W.mg_none_of X G z_max) (PySem.W.mg_none_of X G z_range) (PySem.W.mg_none_of X G z_sorted) (PySem.W.mg_none_of X G z_tuple) (PySem.W.mg_of X G g_MOST_NAMES) D_is_integer C_is_integer D_check_many C_check_many D_times_many C_times_many D_elementary_one C_elementary_one X_OutOfRange
    have C__law_cell : FnOk (PySem.Challenge.rw_everyroot_k22_even_handed_polynomials).prog w K mg base (L2.CX (PySem.Challenge.rw_everyroot_k22_even_handed_polynomials).prog w) 1 f__law_cell _ ["script", "k"] (spF K mg [(P0, lamQ)] 2 F__law_cell) := fn__law_cell U__law_cell (PySem.W.mg_none_of X G z_abs) (PySem.W.mg_none_of X G z_int) (PySem.W.mg_none_of X G z_len)
    have C__law_stream : FnOk (PySem.Challenge.rw_everyroot_k22_even_handed_polynomials).prog w K mg base (L2.CX (PySem.Challenge.rw_everyroot_k22_even_handed_polynomials).prog w) 2 f__law_stream _ ["script", "k"] (spF K mg [(P0, lamQ)] 2 F__law_stream) := fn__law_stream U__law_stream D__law_cell C__law_cell
    have C__law_draw : FnOk (PySem.Challenge.rw_everyroot_k22_even_handed_polynomials).prog w K mg base (L2.CX (PySem.Challenge.rw_everyroot_k22_even_handed_polynomials).prog w) 1 f__law_draw _ ["box", "high"] (spIO K mg [(P0, lamQ)] 1 F__law_draw) := fn__law_draw U__law_draw (PySem.W.mg_none_of X G z_int)
    have C__law_read : FnOk (PySem.Challenge.rw_everyroot_k22_even_handed_polynomials).prog w K mg base (L2.CX (PySem.Challenge.rw_everyroot_k22_even_handed_polynomials).prog w) 6 f__law_read _ ["told"] (spF K mg [(P0, lamQ)] 1 F__law_read) := fn__law_read (PySem.W.mg_none_of X G z_int) (PySem.W.mg_none_of X G z_isinstance) (PySem.W.mg_none_of X G z_str) (PySem.W.mg_none_of X G z_tuple) D__law_read
    have C__law_clean : FnOk (PySem.Challenge.rw_everyroot_k22_even_handed_polynomials).prog w K mg base (L2.CX (PySem.Challenge.rw_everyroot_k22_even_handed_polynomials).prog w) 1 f__law_clean _ ["terms"] (spF K mg [(P0, lamQ)] 1 F__law_clean) := fn__law_clean U__law_clean (PySem.W.mg_none_of X G z_dict)
    have C__law_plus : FnOk (PySem.Challenge.rw_everyroot_k22_even_handed_polynomials).prog w K mg base (L2.CX (PySem.Challenge.rw_everyroot_k22_even_handed_polynomials).prog w) 2 f__law_plus _ ["first", "second"] (spF K mg [(P0, lamQ)] 2 F__law_plus) := fn__law_plus U__law_plus (PySem.W.mg_none_of X G z_dict) D__law_clean C__law_clean
    have C__law_times : FnOk (PySem.Challenge.rw_everyroot_k22_even_handed_polynomials).prog w K mg base (L2.CX (PySem.Challenge.rw_everyroot_k22_even_handed_polynomials).prog w) 2 f__law_times _ ["first", "second"] (spF K mg [(P0, lamQ)] 2 F__law_times) := fn__law_times U__law_times (PySem.W.mg_none_of X G z_tuple) (PySem.W.mg_none_of X G z_zip) D__law_clean C__law_clean
    have C__law_simple : FnOk (PySem.Challenge.rw_everyroot_k22_even_handed_polynomials).prog w K mg base (L2.CX (PySem.Challenge.rw_everyroot_k22_even_handed_polynomials).prog w) 1 f__law_simple _ ["n", "j"] (spF K mg [(P0, lamQ)] 2 F__law_simple) := fn__law_simple U__law_simple (PySem.W.mg_none_of X G z_dict) (PySem.W.mg_none_of X G z_len) (PySem.W.mg_none_of X G z_range) (PySem.W.mg_none_of X G z_tuple)
    have C__law_written : FnOk (PySem.Challenge.rw_everyroot_k22_even_handed_polynomials).prog w K mg base (L2.CX (PySem.Challenge.rw_everyroot_k22_even_handed_polynomials).prog w) 3 f__law_written _ ["n", "told"] (spF K mg [(P0, lamQ)] 2 F__law_written) := fn__law_written U__law_written (PySem.W.mg_none_of X G z_range) D__law_times C__law_times D__law_simple C__law_simple D__law_plus C__law_plus
    have C__law_passed : FnOk (PySem.Challenge.rw_everyroot_k22_even_handed_polynomials).prog w K mg base (L2.CX (PySem.Challenge.rw_everyroot_k22_even_handed_polynomials).prog w) 1 f__law_passed _ ["terms"] (spF K mg [(P0, lamQ)] 1 F__law_passed) := fn__law_passed U__law_passed (PySem.W.mg_none_of X G z_sorted) (PySem.W.mg_none_of X G z_tuple)
    exact fn_law (PySem.W.mg_none_of X G z_dict) (PySem.W.mg_none_of X G z_int) (PySem.W.mg_none_of X G z_isinstance) (PySem.W.mg_none_of X G z_len) (PySem.W.mg_none_of X G z_min) (PySem.W.mg_none_of X G z_range) (PySem.W.mg_none_of X G z_sorted) (PySem.W.mg_none_of X G z_tuple) D__law_stream C__law_stream D__law_draw C__law_draw D__law_clean C__law_clean D__law_written C__law_written D__law_told D__law_read C__law_read D_elementary C_elementary D__law_passed C__law_passed D__law_simple C__law_simple D__law_times C__law_times D__law_plus C__law_plus X_RootError X_OutOfRange lL cL TBc (List.mem_singleton.mpr rfl) (fun p hp _ => by rw [List.mem_singleton.mp hp]) hcls
end K22
set_option Elab.async false
set_option linter.all false
set_option maxRecDepth 100000
open PySem PySem.W PyProof.Rows
set_option maxHeartbeats 0 in
set_option maxHeartbeats 0 in
theorem PySem.Challenge.cw_everyroot_k22_even_handed_polynomials_holds : PySem.Challenge.rw_everyroot_k22_even_handed_polynomials.Holds := by
  w_on; o_law; k_head; (case hw => w_witness2)
  k_fill
  refine LamX.walk_ofOwn (l := PySem.Challenge.rw_everyroot_k22_even_handed_polynomials) (n := 63) (k := 9) (x := "script") (CX := fun w => L2.CX (PySem.Challenge.rw_everyroot_k22_even_handed_polynomials).prog w) rfl (by decide) rfl ⟨rfl, by decide, by decide⟩ (by decide +kernel) (fun w h Y => PySem.W.km_in_of Y) ?F (fun _ _ _ _ _ h => ?E)
  case E => exact K22.cx_no h
  case F =>
    intro w mg fa h Y KX G hmg own
    refine' K22.all_mk K22.MATH KX G hmg own ?a_is_integer ?l_is_integer ?c_is_integer ?k_is_integer ?a_orders ?l_orders ?c_orders ?k_orders ?a_is_term ?l_is_term ?c_is_term ?k_is_term ?a_times_many ?l_times_many ?c_times_many ?k_times_many ?a_elementary_one ?l_elementary_one ?c_elementary_one ?k_elementary_one ?a_check_many ?l_check_many ?c_check_many ?k_check_many ?a_elementary ?l_elementary ?c_elementary ?k_elementary ?a__law_cell ?l__law_cell ?c__law_cell ?k__law_cell ?a__law_stream ?l__law_stream ?c__law_stream ?k__law_stream ?a__law_draw ?l__law_draw ?c__law_draw ?k__law_draw ?a__law_read ?l__law_read ?c__law_read ?k__law_read ?a__law_told ?l__law_told ?c__law_told ?k__law_told ?a__law_clean ?l__law_clean ?c__law_clean ?k__law_clean ?a__law_plus ?l__law_plus ?c__law_plus ?k__law_plus ?a__law_times ?l__law_times ?c__law_times ?k__law_times ?a__law_simple ?l__law_simple ?c__law_simple ?k__law_simple ?a__law_written ?l__law_written ?c__law_written ?k__law_written ?a__law_passed ?l__law_passed ?c__law_passed ?k__law_passed ?aL ?lL ?cL ?lC ?vP ?nP ?hC ?a_RootError ?k_RootError ?q_RootError ?s_RootError1 ?s_RootError2 ?a_BadPolynomial ?k_BadPolynomial ?q_BadPolynomial ?s_BadPolynomial1 ?s_BadPolynomial2 ?a_OutOfRange ?k_OutOfRange ?q_OutOfRange ?s_OutOfRange1 ?s_OutOfRange2 ?m_BadPolynomial ?o_BadPolynomial ?e1_BadPolynomial ?e2_BadPolynomial ?e3_BadPolynomial ?e4_BadPolynomial ?e5_BadPolynomial ?m_OutOfRange ?o_OutOfRange ?e1_OutOfRange ?e2_OutOfRange ?e3_OutOfRange ?e4_OutOfRange ?e5_OutOfRange ?n1 ?n2 ?z_abs ?z_all ?z_any ?z_bool ?z_dict ?z_enumerate ?z_int ?z_isinstance ?z_len ?z_max ?z_min ?z_range ?z_sorted ?z_str ?z_sum ?z_tuple ?z_zip ?g_MOST_NAMES ?g_MOST_SUM
    (case a_is_integer => k_is)
    (case l_is_integer => k_is)
    (case c_is_integer => k_is)
    (case k_is_integer => k_is)
    (case a_orders => k_is)
    (case l_orders => k_is)
    (case c_orders => k_is)
    (case k_orders => k_is)
    (case a_is_term => k_is)
    (case l_is_term => k_is)
    (case c_is_term => k_is)
    (case k_is_term => k_is)
    (case a_times_many => k_is)
    (case l_times_many => k_is)
    (case c_times_many => k_is)
    (case k_times_many => k_is)
    (case a_elementary_one => k_is)
    (case l_elementary_one => k_is)
    (case c_elementary_one => k_is)
    (case k_elementary_one => k_is)
    (case a_check_many => k_is)
    (case l_check_many => k_is)
    (case c_check_many => k_is)
    (case k_check_many => k_is)
    (case a_elementary => k_is)
    (case l_elementary => k_is)
    (case c_elementary => k_is)
    (case k_elementary => k_is)
    (case a__law_cell => k_is)
    (case l__law_cell => k_is)
    (case c__law_cell => k_is)
    (case k__law_cell => k_is)
    (case a__law_stream => k_is)
    (case l__law_stream => k_is)
    (case c__law_stream => k_is)
    (case k__law_stream => k_is)
    (case a__law_draw => k_is)
    (case l__law_draw => k_is)
    (case c__law_draw => k_is)
    (case k__law_draw => k_is)
    (case a__law_read => k_is)
    (case l__law_read => k_is)
    (case c__law_read => k_is)
    (case k__law_read => k_is)
    (case a__law_told => k_is)
    (case l__law_told => k_is)
    (case c__law_told => k_is)
    (case k__law_told => k_is)
    (case a__law_clean => k_is)
    (case l__law_clean => k_is)
    (case c__law_clean => k_is)
    (case k__law_clean => k_is)
    (case a__law_plus => k_is)
    (case l__law_plus => k_is)
    (case c__law_plus => k_is)
    (case k__law_plus => k_is)
    (case a__law_times => k_is)
    (case l__law_times => k_is)
    (case c__law_times => k_is)
    (case k__law_times => k_is)
    (case a__law_simple => k_is)
    (case l__law_simple => k_is)
    (case c__law_simple => k_is)
    (case k__law_simple => k_is)
    (case a__law_written => k_is)
    (case l__law_written => k_is)
    (case c__law_written => k_is)
    (case k__law_written => k_is)
    (case a__law_passed => k_is)
    (case l__law_passed => k_is)
    (case c__law_passed => k_is)
    (case k__law_passed => k_is)
    (case aL => k_is)
    (case lL => k_is)
    (case cL => k_is)
    (case lC => k_is)
    (case vP => exact rfl)
    (case nP => kernel_rfl)
    (case hC => kernel_rfl)
    (case a_RootError => k_is)
    (case k_RootError => k_is)
    (case q_RootError => k_exc)
    (case s_RootError1 => k_is)
    (case s_RootError2 => k_is)
    (case a_BadPolynomial => k_is)
    (case k_BadPolynomial => k_is)
    (case q_BadPolynomial => k_exc)
    (case s_BadPolynomial1 => k_is)
    (case s_BadPolynomial2 => k_is)
    (case a_OutOfRange => k_is)
    (case k_OutOfRange => k_is)
    (case q_OutOfRange => k_exc)
    (case s_OutOfRange1 => k_is)
    (case s_OutOfRange2 => k_is)
    (case m_BadPolynomial => kernel_rfl)
    (case o_BadPolynomial => kernel_rfl)
    (case e1_BadPolynomial => k_is)
    (case e2_BadPolynomial => k_is)
    (case e3_BadPolynomial => k_is)
    (case e4_BadPolynomial => k_is)
    (case e5_BadPolynomial => k_is)
    (case m_OutOfRange => kernel_rfl)
    (case o_OutOfRange => kernel_rfl)
    (case e1_OutOfRange => k_is)
    (case e2_OutOfRange => k_is)
    (case e3_OutOfRange => k_is)
    (case e4_OutOfRange => k_is)
    (case e5_OutOfRange => k_is)
    (case n1 => k_is)
    (case n2 => k_is)
    (case z_abs => k_is)
    (case z_all => k_is)
    (case z_any => k_is)
    (case z_bool => k_is)
    (case z_dict => k_is)
    (case z_enumerate => k_is)
    (case z_int => k_is)
    (case z_isinstance => k_is)
    (case z_len => k_is)
    (case z_max => k_is)
    (case z_min => k_is)
    (case z_range => k_is)
    (case z_sorted => k_is)
    (case z_str => k_is)
    (case z_sum => k_is)
    (case z_tuple => k_is)
    (case z_zip => k_is)
    (case g_MOST_NAMES => k_is)
    (case g_MOST_SUM => k_is)
