import PyProof.Rows.All
import Wide.All
import OpenK.AllK
import Wide.FinOn
import HandS.ForMost
import HandS.ForExc
import HandS.Property
import HandS.ClsMeth
import HandS.Style
import HandS.TupAny
import HandS.TupMul
import HandS.Deep
import HandS.Zip
import HandS.Lambda
import HandS.Defaults
import HandS.IsInst
import HandS.Flow
import KE.GoesEnum
import HandS.SortInts
import HandS.Codes
import HandS.Small
import HandS.CallSlots
import HandS.CallLocal
import KE.KStateDown
import HandS.Head0
import HandS.Head1
import HandS.Head2
import HandS.HeadEnd
import HandS.HeadHook1
import HandS.HeadHook2
import HandS.Star
import KE.KDictPairs
import HandS.SortRule
import HandS.NoneIn
import PyProof.ReprRoads
import PyProof.ReprLen
import HandS.SetFor
import HandS.Strs
import PyProof.ListRange
import HandS.NamedTupGet
import PySem.Challenge.RW_pinkwash_k47_known_books
set_option Elab.async false
set_option linter.all false
set_option maxRecDepth 100000
set_option maxHeartbeats 0
/-! The data layer, part A: data, how they lie, states, the judgements. -/
namespace Pk
open PySem PySem.Spec PyProof.Rows L2

abbrev Tx := List Nat
inductive DK where
  | ki (i : Int) | ks (s : Tx)
  deriving DecidableEq
inductive Ty where
  | int | str | tup | lst | bool | dict
  deriving DecidableEq
def Ty.nm : Ty → String
  | .int => "int" | .str => "str" | .tup => "tuple" | .lst => "list" | .bool => "bool" | .dict => "dict"
/-- data: scr is the script; ins an instance that changes no more; mref a thing of the store -/
inductive D where
  | non | bl (b : Bool) | int (i : Int) | str (s : Tx)
  | tup (xs : List D) | lst (xs : List D) | dct (kvs : List (DK × D)) | scr (xs : List Int)
  | ins (c : Nat) (fs : List D) | mref (k : Nat) | cls (c : Nat) | ty (t : Ty)
  /-- a tuple that has no dict of its own -/
  | ptp (xs : List D)
  /-- a tuple that stands by itself; a dict whose keys are such tuples, and changes no more: its keys, its values -/
  | ttp (xs : List D)
  | dcp (ks : List (List DK)) (xs : List D)
/-- things that change -/
inductive MO where
  | lst (xs : List D) | dct (kvs : List (DK × D)) | ins (c : Nat) (fs : List D) | fz (d : D) | gone
def MO.isFz : MO → Bool
  | .fz _ => true
  | _ => false
abbrev Sto := List MO
abbrev Slots := List (Option D)
structure Exc where
  c : Nat
  fs : List D
def tx (s : Tx) : Str := ⟨s.toArray⟩
def DK.key : DK → Key
  | .ki i => .inl i
  | .ks s => .inr (tx s)
/-- the keys of the dict object o are tuples of F -/
def KeyAt (F : Hp) (o : Obj) (ks : List (List Key)) : Prop := ∃ es ep, o.data = .dict es ep ∧ ∀ (i : Nat) (k : List Key), ks[i]? = some k → ∃ (en : DictEntry) (q : Addr), es[i]? = some en ∧ en.key = .ref q ∧ F q = some (.tup (k.map kV))
theorem KeyAt.mono {F F' : Hp} {o : Obj} {ks : List (List Key)} (s : Same F F') (h : KeyAt F o ks) : KeyAt F' o ks := by
  obtain ⟨es, ep, e, q⟩ := h
  exact ⟨es, ep, e, fun i k hk => by
    obtain ⟨en, a, h1, h2, h3⟩ := q i k hk
    exact ⟨en, a, h1, h2, s _ _ h3⟩⟩
def keysK (ks : List (List DK)) : List (List Key) := ks.map fun k => k.map DK.key
/-- what the text's names stand for -/
structure Tab where
  ca : Nat → Addr
  fn : Nat → List Str

section
variable (K : PySem.W.Frag) (T : Tab)
mutual
inductive Rep (F : Hp) (m : List Addr) : D → V → Prop
  | non : Rep F m .non .non
  | bl {b} : Rep F m (.bl b) (.bl b)
  | int {i} : Rep F m (.int i) (.int i)
  | str {s} : Rep F m (.str s) (.str (tx s))
  | tup {ds vs a} : SqT K F a vs → Reps F m ds vs → Rep F m (.tup ds) (.ref a)
  | lst {ds vs a} : F a = some (.lst vs) → Reps F m ds vs → Rep F m (.lst ds) (.ref a)
  | dct {ds vs a o} : F a = some (.frz o (.dK vs)) → RepK F m ds vs → Rep F m (.dct ds) (.ref a)
  | scr {xs a} : SqL K F a (xs.map V.int) → Rep F m (.scr xs) (.ref a)
  | ins {c ds vs a dx} : F a = some (.ins (T.ca c) dx ((T.fn c).zip vs)) → F dx = some (.own a) → Reps F m ds vs → Rep F m (.ins c ds) (.ref a)
  | mref {k a} : m[k]? = some a → Rep F m (.mref k) (.ref a)
  | cls {c} : Rep F m (.cls c) (.ref (T.ca c))
  | ty {t} : Rep F m (.ty t) (.ty t.nm)
  | ptp {ds vs a o} : F a = some (.frz o (.tup vs)) → o.dict = none → Reps F m ds vs → Rep F m (.ptp ds) (.ref a)
  | ttp {ds vs a} : F a = some (.tup vs) → Reps F m ds vs → Rep F m (.ttp ds) (.ref a)
  | dcp {ks ds vs a o} : F a = some (.frz o (.dT ((keysK ks).zip vs))) → KeyAt F o (keysK ks) → ks.length = ds.length → Reps F m ds vs → Rep F m (.dcp ks ds) (.ref a)
inductive Reps (F : Hp) (m : List Addr) : List D → List V → Prop
  | nil : Reps F m [] []
  | cons {d v ds vs} : Rep F m d v → Reps F m ds vs → Reps F m (d :: ds) (v :: vs)
inductive RepK (F : Hp) (m : List Addr) : List (DK × D) → List (Key × V) → Prop
  | nil : RepK F m [] []
  | cons {k d v ds vs} : Rep F m d v → RepK F m ds vs → RepK F m ((k, d) :: ds) ((k.key, v) :: vs)
end
end

/-- what is frozen, where the store's things lie: both only grow -/
structure Gr (F : Hp) (m : List Addr) (F' : Hp) (m' : List Addr) : Prop where
  fr : Same F F'
  mem : ∃ r, m' = m ++ r
theorem Gr.refl (F : Hp) (m : List Addr) : Gr F m F m := ⟨Same.refl F, [], by simp⟩
theorem Gr.trans {F F1 F2 : Hp} {m m1 m2 : List Addr} (a : Gr F m F1 m1) (b : Gr F1 m1 F2 m2) : Gr F m F2 m2 := by
  obtain ⟨h1, r1, e1⟩ := a
  obtain ⟨h2, r2, e2⟩ := b
  exact ⟨h1.trans h2, r1 ++ r2, by rw [e2, e1, List.append_assoc]⟩
/-- nothing goes, an instance's dict stays its own -/
def Up (H H' : Hp) : Prop := ∀ b, (∀ a, H b = some (.own a) → H' b = some (.own a)) ∧ (H b ≠ none → H' b ≠ none)
theorem Up.refl (H : Hp) : Up H H := fun _ => ⟨fun _ h => h, fun h => h⟩
theorem Up.trans {H H1 H2 : Hp} (x : Up H H1) (y : Up H1 H2) : Up H H2 := fun b => ⟨fun a h => (y b).1 a ((x b).1 a h), fun h => (y b).2 ((x b).2 h)⟩
theorem Up.upd {H : Hp} {p : Addr} {o : HO} (h : ∀ a, H p ≠ some (.own a)) : Up H (L2.upd H p o) := fun b => ⟨fun a e => by
  rw [upd_ne fun q => ?_]
  · exact e
  · subst q
    exact h a e, fun e => by
  by_cases q : b = p
  · rw [q, upd_same]
    simp
  · rw [upd_ne q]
    exact e⟩
theorem Up.keep {H H' : Hp} (k : ∀ b u, H b = some u → H' b = some u) : Up H H' := fun b => ⟨fun a e => k b _ e, fun e => by
  cases q : H b with
  | none => exact absurd q e
  | some u => rw [k b u q]; simp⟩
/-- .. and what is neither stays as it is -/
structure Ext (F : Hp) (m : List Addr) (H F' : Hp) (m' : List Addr) (H' : Hp) : Prop where
  gr : Gr F m F' m'
  frm : ∀ b o, H b = some o → (∀ a, o ≠ .own a) → F b = none → b ∉ m → H' b = some o ∧ F' b = none ∧ b ∉ m'
  up : Up H H'
theorem Ext.refl (F : Hp) (m : List Addr) (H : Hp) : Ext F m H F m H := ⟨Gr.refl F m, fun _ _ e _ n h => ⟨e, n, h⟩, Up.refl H⟩
theorem Ext.trans {F F1 F2 H H1 H2 : Hp} {m m1 m2 : List Addr} (a : Ext F m H F1 m1 H1) (b : Ext F1 m1 H1 F2 m2 H2) : Ext F m H F2 m2 H2 :=
  ⟨a.gr.trans b.gr, fun c o e w n h => by
    obtain ⟨e1, n1, h1⟩ := a.frm c o e w n h
    exact b.frm c o e1 w n1 h1, a.up.trans b.up⟩
theorem Same.sqt {K : PySem.W.Frag} {H H' : Hp} {a : Addr} {xs : List V} (e : Same H H') (h : SqT K H a xs) : SqT K H' a xs := by
  rcases h with (h | ⟨o, h⟩) | h
  · exact .inl (.inl (e _ _ h))
  · exact .inl (.inr ⟨o, e _ _ h⟩)
  · exact .inr h
section
variable {K : PySem.W.Frag} {T : Tab} {F F' : Hp} {m m' : List Addr}
mutual
theorem Rep.mono (x : Gr F m F' m') : ∀ {d : D} {v : V}, Rep K T F m d v → Rep K T F' m' d v
  | _, _, .non => .non
  | _, _, .bl => .bl
  | _, _, .int => .int
  | _, _, .str => .str
  | _, _, .tup h r => .tup (Same.sqt x.fr h) (Reps.mono x r)
  | _, _, .lst h r => .lst (x.fr _ _ h) (Reps.mono x r)
  | _, _, .dct h r => .dct (x.fr _ _ h) (RepK.mono x r)
  | _, _, .scr h => .scr (x.fr.seq h)
  | _, _, .ins h h2 r => .ins (x.fr _ _ h) (x.fr _ _ h2) (Reps.mono x r)
  | _, _, .mref h => .mref (by
    obtain ⟨r, e⟩ := x.mem
    rw [e]
    exact List.getElem?_append_left (List.getElem?_eq_some_iff.mp h).1 ▸ h)
  | _, _, .cls => .cls
  | _, _, .ty => .ty
  | _, _, .ptp h e r => .ptp (x.fr _ _ h) e (Reps.mono x r)
  | _, _, .ttp h r => .ttp (x.fr _ _ h) (Reps.mono x r)
  | _, _, .dcp h q l r => .dcp (x.fr _ _ h) (q.mono x.fr) l (Reps.mono x r)
theorem Reps.mono (x : Gr F m F' m') : ∀ {ds : List D} {vs : List V}, Reps K T F m ds vs → Reps K T F' m' ds vs
  | _, _, .nil => .nil
  | _, _, .cons h r => .cons (Rep.mono x h) (Reps.mono x r)
theorem RepK.mono (x : Gr F m F' m') : ∀ {ds : List (DK × D)} {vs : List (Key × V)}, RepK K T F m ds vs → RepK K T F' m' ds vs
  | _, _, .nil => .nil
  | _, _, .cons h r => .cons (Rep.mono x h) (RepK.mono x r)
end
theorem Reps.length : ∀ {ds : List D} {vs : List V}, Reps K T F m ds vs → ds.length = vs.length
  | _, _, .nil => rfl
  | _, _, .cons _ r => congrArg (· + 1) (Reps.length r)
theorem RepK.length : ∀ {ds : List (DK × D)} {vs : List (Key × V)}, RepK K T F m ds vs → ds.length = vs.length
  | _, _, .nil => rfl
  | _, _, .cons _ r => congrArg (· + 1) (RepK.length r)
theorem Reps.append : ∀ {ds es : List D} {vs us : List V}, Reps K T F m ds vs → Reps K T F m es us → Reps K T F m (ds ++ es) (vs ++ us)
  | _, _, _, _, .nil, s => s
  | _, _, _, _, .cons h r, s => .cons h (Reps.append r s)
theorem Reps.get : ∀ {ds : List D} {vs : List V} {i : Nat} {d : D}, Reps K T F m ds vs → ds[i]? = some d → ∃ v, vs[i]? = some v ∧ Rep K T F m d v
  | _, _, _, _, .nil, e => by simp at e
  | _, _, 0, _, .cons h _, e => by
    simp at e
    subst e
    exact ⟨_, rfl, h⟩
  | _, _, i + 1, d, .cons _ r, e => by
    obtain ⟨v, h1, h2⟩ := Reps.get (i := i) (d := d) r (by simpa using e)
    exact ⟨v, by simpa using h1, h2⟩
theorem Reps.getV : ∀ {ds : List D} {vs : List V} {i : Nat} {v : V}, Reps K T F m ds vs → vs[i]? = some v → ∃ d, ds[i]? = some d ∧ Rep K T F m d v
  | _, _, _, _, .nil, e => by simp at e
  | _, _, 0, _, .cons h _, e => by
    simp at e
    subst e
    exact ⟨_, rfl, h⟩
  | _, _, i + 1, d, .cons _ r, e => by
    obtain ⟨v, h1, h2⟩ := Reps.getV (i := i) (v := d) r (by simpa using e)
    exact ⟨v, by simpa using h1, h2⟩
theorem Reps.set {d : D} {v : V} (h : Rep K T F m d v) : ∀ {ds : List D} {vs : List V} (i : Nat), Reps K T F m ds vs → Reps K T F m (ds.set i d) (vs.set i v)
  | _, _, _, .nil => .nil
  | _, _, 0, .cons _ r => .cons h r
  | _, _, i + 1, .cons q r => .cons q (Reps.set h i r)
theorem Reps.take : ∀ {ds : List D} {vs : List V} (n : Nat), Reps K T F m ds vs → Reps K T F m (ds.take n) (vs.take n)
  | _, _, 0, _ => .nil
  | _, _, _ + 1, .nil => .nil
  | _, _, n + 1, .cons h r => .cons h (Reps.take n r)
theorem Reps.drop : ∀ {ds : List D} {vs : List V} (n : Nat), Reps K T F m ds vs → Reps K T F m (ds.drop n) (vs.drop n)
  | _, _, 0, r => r
  | _, _, _ + 1, .nil => .nil
  | _, _, n + 1, .cons _ r => Reps.drop n r
end

section
variable (K : PySem.W.Frag) (T : Tab)
/-- a thing of the store as it lies -/
def MRep (F : Hp) (m : List Addr) (H : Hp) (a : Addr) : MO → Prop
  | .lst ds => ∃ vs, H a = some (.lst vs) ∧ Reps K T F m ds vs
  | .dct ds => ∃ vs, H a = some (.dK vs) ∧ RepK K T F m ds vs
  | .ins c ds => ∃ dx vs, H a = some (.ins (T.ca c) dx ((T.fn c).zip vs)) ∧ H dx = some (.own a) ∧ True ∧ ds.length ≤ (T.fn c).length ∧ Reps K T F m ds vs
  | .fz d => Rep K T F m d (.ref a)
  | .gone => True
structure Sim (F0 : Hp) (m0 : List Addr) (H0 : Hp) (F : Hp) (m : List Addr) (μ : Sto) (ρ : Slots) (σ : L2.St) (H : Hp) : Prop where
  ext : Ext F0 m0 H0 F m H
  same : Same F H
  len : m.length = μ.length
  nd : m.Nodup
  al : ∀ a, a ∈ m → H a ≠ none
  sto : ∀ (k : Nat) (a : Addr) (o : MO), m[k]? = some a → μ[k]? = some o → o ≠ .gone → (o.isFz = false → F a = none) ∧ MRep K T F m H a o
  sl : ρ.length = σ.length
  slot : ∀ (i : Nat) (d : D), ρ[i]? = some (some d) → ∃ v, σ[i]? = some (some v) ∧ Rep K T F m d v
/-- an exception's class and own dict -/
def XRep (F : Hp) (m : List Addr) (H : Hp) (x : Exc) (cls : Value) (d : Option Addr) : Prop :=
  cls = .ref (T.ca x.c) ∧ ((x.fs = [] ∧ T.fn x.c = []) ∨ ∃ dd vs, d = some dd ∧ H dd = some (.xd ((T.fn x.c).zip vs)) ∧ F dd = none ∧ Reps K T F m x.fs vs ∧ (T.fn x.c).length = vs.length)
end
end Pk

/-! The data layer, part B: what states keep, the judgements, names, constants, operators. -/
namespace Pk
open PySem PySem.Spec PyProof.Rows L2

structure Zx where
  T : Tab
  F0 : Hp
  m0 : List Addr
  H0 : Hp
abbrev SimZ (K : PySem.W.Frag) (z : Zx) := Sim K z.T z.F0 z.m0 z.H0
abbrev QD := D → Sto → Prop
abbrev QX := Exc → Sto → Prop
abbrev WE := Slots → Sto → QD → QX → Prop
abbrev WXd := Exc → Slots → Sto → Prop

section
variable {K : PySem.W.Frag} {T : Tab} {F0 F F' H0 : Hp} {m0 m m' : List Addr} {μ μ' : Sto} {ρ : Slots} {σ : L2.St} {H H' : Hp} {p a : Addr} {ds : List D} {vs : List V}
/-- every thing of the store lies in H -/
theorem MRep.at {o : MO} (h : MRep K T F m H a o) (n : o ≠ .gone) (nf : o.isFz = false) : ∃ u, H a = some u ∧ Mut (some u) := by
  cases o with
  | lst ds => obtain ⟨vs, e, _⟩ := h; exact ⟨_, e, trivial⟩
  | dct ds => obtain ⟨vs, e, _⟩ := h; exact ⟨_, e, trivial⟩
  | ins c ds => obtain ⟨dx, vs, e, _⟩ := h; exact ⟨_, e, trivial⟩
  | fz d => cases nf
  | gone => exact absurd rfl n
theorem MRep.mono {o : MO} (x : Gr F m F' m') (k : ∀ b u, H b = some u → H' b = some u) (kn : ∀ b, H b ≠ none → F b = none → F' b = none) (h : MRep K T F m H a o) : MRep K T F' m' H' a o := by
  cases o with
  | lst ds => obtain ⟨vs, e, r⟩ := h; exact ⟨vs, k _ _ e, r.mono x⟩
  | dct ds => obtain ⟨vs, e, r⟩ := h; exact ⟨vs, k _ _ e, r.mono x⟩
  | ins c ds => obtain ⟨dx, vs, e, e2, n, l, r⟩ := h; exact ⟨dx, vs, k _ _ e, k _ _ e2, trivial, l, r.mono x⟩
  | fz d => exact Rep.mono x h
  | gone => trivial
theorem upd_keep {o : HO} (hp : H p = none) : ∀ b u, H b = some u → upd H p o b = some u := fun b u e => by
  rw [upd_ne (ne_of_none e hp)]
  exact e
/-- frozen things grow, the heap grows, nothing else is touched -/
theorem Sim.grow (S : Sim K T F0 m0 H0 F m μ ρ σ H) (x : Same F F') (s : Same F' H') (k : ∀ b u, H b = some u → H' b = some u) (kn : ∀ b, H b ≠ none → F b = none → F' b = none) : Sim K T F0 m0 H0 F' m μ ρ σ H' where
  ext := S.ext.trans ⟨⟨x, [], by simp⟩, fun b o e _ n h => ⟨k b o e, kn b (by rw [e]; simp) n, h⟩, Up.keep k⟩
  same := s
  len := S.len
  nd := S.nd
  al := fun a h e => by
    cases q : H a with
    | none => exact S.al a h q
    | some u =>
      rw [k a u q] at e
      cases e
  sto := fun i b o e1 e2 n => by
    obtain ⟨h1, h2⟩ := S.sto i b o e1 e2 n
    exact ⟨fun nf => by
      obtain ⟨u, hu, _⟩ := MRep.at h2 n nf
      exact kn b (by rw [hu]; simp) (h1 nf), MRep.mono ⟨x, [], by simp⟩ k kn h2⟩
  sl := S.sl
  slot := fun i d e => by
    obtain ⟨v, h1, h2⟩ := S.slot i d e
    exact ⟨v, h1, h2.mono ⟨x, [], by simp⟩⟩
theorem Sim.fNone (S : Sim K T F0 m0 H0 F m μ ρ σ H) (hp : H p = none) : F p = none := S.same.free hp
/-- a new frozen thing -/
theorem Sim.new (S : Sim K T F0 m0 H0 F m μ ρ σ H) (hp : H p = none) (o : HO) : Ext F m H (upd F p o) m (upd H p o) ∧ Sim K T F0 m0 H0 (upd F p o) m μ ρ σ (upd H p o) := by
  have hf := S.fNone hp
  have x : Same F (upd F p o) := upd_keep hf
  refine ⟨⟨⟨x, [], by simp⟩, fun b u e _ n h => ⟨upd_keep hp b u e, by rw [upd_ne (ne_of_none e hp)]; exact n, h⟩, Up.upd (fun a z => by rw [hp] at z; cases z)⟩, S.grow x (fun b u e => ?_) (upd_keep hp) (fun b hb hn => ?_)⟩
  · by_cases q : b = p
    · rw [q, upd_same] at e
      rw [q, upd_same]
      exact e
    · rw [upd_ne q] at e
      rw [upd_ne q]
      exact S.same b u e
  · have q : b ≠ p := fun e => hb (by rw [e]; exact hp)
    rw [upd_ne q]
    exact hn
/-- the slots are set -/
theorem Sim.set (S : Sim K T F0 m0 H0 F m μ ρ σ H) {i : Nat} {d : D} {v : V} (r : Rep K T F m d v) : Sim K T F0 m0 H0 F m μ (ρ.set i (some d)) (σ.set i (some v)) H where
  ext := S.ext
  same := S.same
  len := S.len
  nd := S.nd
  al := S.al
  sto := S.sto
  sl := by simpa using S.sl
  slot := fun j e h => by
    by_cases hj : i = j
    · subst hj
      have hl : i < ρ.length := by
        have := (List.getElem?_eq_some_iff.mp h).1
        simpa using this
      rw [List.getElem?_set_self hl] at h
      cases h
      exact ⟨v, by rw [List.getElem?_set_self (by rw [← S.sl]; exact hl)], r⟩
    · rw [List.getElem?_set_ne hj] at h
      obtain ⟨v', h1, h2⟩ := S.slot j e h
      exact ⟨v', by rw [List.getElem?_set_ne hj]; exact h1, h2⟩
/-- other slots, known by less -/
theorem Sim.slots {ρ' : Slots} {σ' : L2.St} (S : Sim K T F0 m0 H0 F m μ ρ σ H) (hl : ρ'.length = σ'.length) (h : ∀ (i : Nat) (d : D), ρ'[i]? = some (some d) → ∃ v, σ'[i]? = some (some v) ∧ Rep K T F m d v) : Sim K T F0 m0 H0 F m μ ρ' σ' H :=
  ⟨S.ext, S.same, S.len, S.nd, S.al, S.sto, hl, h⟩
end

/-- a mref's thing, as data -/
def look (μ : Sto) : D → D
  | .mref k => match μ[k]? with
    | some (.lst ds) => .lst ds
    | some (.dct ds) => .dct ds
    | some (.ins c fs) => .ins c fs
    | some (.fz d) => d
    | _ => .mref k
  | .ptp xs => .tup xs
  | .ttp xs => .tup xs
  | d => d
/-- what is to be read now at v: frozen, or of the store -/
inductive Vw (K : PySem.W.Frag) (T : Tab) (F : Hp) (m : List Addr) (H : Hp) : D → V → Prop
  | of {d v} : Rep K T F m d v → Vw K T F m H d v
  | lst {ds vs a} : H a = some (.lst vs) → Reps K T F m ds vs → Vw K T F m H (.lst ds) (.ref a)
  | dct {ds vs a} : H a = some (.dK vs) → RepK K T F m ds vs → Vw K T F m H (.dct ds) (.ref a)
  | ins {c ds vs a dx} : H a = some (.ins (T.ca c) dx ((T.fn c).zip vs)) → Reps K T F m ds vs → Vw K T F m H (.ins c ds) (.ref a)
section
variable {K : PySem.W.Frag} {T : Tab} {F0 F F' H0 : Hp} {m0 m m' : List Addr} {μ μ' : Sto} {ρ : Slots} {σ : L2.St} {H H' : Hp} {p a : Addr} {ds : List D} {vs : List V} {d : D} {v : V}
theorem Sim.view (S : Sim K T F0 m0 H0 F m μ ρ σ H) (r : Rep K T F m d v) : Vw K T F m H (look μ d) v := by
  cases d with
  | mref k =>
    cases r with
    | mref e =>
      cases q : μ[k]? with
      | none =>
        simp only [look, q]
        exact .of (.mref e)
      | some o =>
        cases o with
        | lst ds =>
          obtain ⟨_, vs, h1, h2⟩ := S.sto k _ _ e q (fun z => nomatch z)
          simp only [look, q]
          exact .lst h1 h2
        | dct ds =>
          obtain ⟨_, vs, h1, h2⟩ := S.sto k _ _ e q (fun z => nomatch z)
          simp only [look, q]
          exact .dct h1 h2
        | ins c ds =>
          obtain ⟨_, dx, vs, h1, h2, _, _, h3⟩ := S.sto k _ _ e q (fun z => nomatch z)
          simp only [look, q]
          exact .ins h1 h3
        | fz d =>
          obtain ⟨_, h1⟩ := S.sto k _ _ e q (fun z => nomatch z)
          simp only [look, q]
          exact .of h1
        | gone =>
          simp only [look, q]
          exact .of (.mref e)
  | ptp xs => cases r with | ptp h e q => exact .of (.tup (.inl (.inr ⟨_, h⟩)) q)
  | ttp xs => cases r with | ttp h q => exact .of (.tup (SqT.of h) q)
  | _ => exact .of r
theorem Vw.int {i : Int} (r : Vw K T F m H (.int i) v) : v = .int i := by cases r with | of r => cases r; rfl
theorem Vw.str {s : Tx} (r : Vw K T F m H (.str s) v) : v = .str (tx s) := by cases r with | of r => cases r; rfl
theorem Vw.bl {b : Bool} (r : Vw K T F m H (.bl b) v) : v = .bl b := by cases r with | of r => cases r; rfl
theorem Vw.non (r : Vw K T F m H .non v) : v = .non := by cases r with | of r => cases r; rfl
theorem Vw.ty {t : Ty} (r : Vw K T F m H (.ty t) v) : v = .ty t.nm := by cases r with | of r => cases r; rfl
theorem Vw.cls {c : Nat} (r : Vw K T F m H (.cls c) v) : v = .ref (T.ca c) := by cases r with | of r => cases r; rfl
theorem Vw.tup (s : Same F H) (r : Vw K T F m H (.tup ds) v) : ∃ a vs, v = .ref a ∧ SqT K H a vs ∧ Reps K T F m ds vs := by
  cases r with | of r => cases r with | tup h q => exact ⟨_, _, rfl, Same.sqt s h, q⟩
theorem Vw.scr {xs : List Int} (s : Same F H) (r : Vw K T F m H (.scr xs) v) : ∃ a, v = .ref a ∧ SqL K H a (xs.map V.int) := by
  cases r with | of r => cases r with | scr h => exact ⟨_, rfl, s.seq h⟩
theorem Vw.list (s : Same F H) (r : Vw K T F m H (.lst ds) v) : ∃ a vs, v = .ref a ∧ H a = some (.lst vs) ∧ Reps K T F m ds vs := by
  cases r with
  | of r => cases r with | lst h q => exact ⟨_, _, rfl, s _ _ h, q⟩
  | lst h q => exact ⟨_, _, rfl, h, q⟩
theorem Vw.dict {kvs : List (DK × D)} (s : Same F H) (r : Vw K T F m H (.dct kvs) v) : ∃ a vs, v = .ref a ∧ Rd H a (.dK vs) ∧ RepK K T F m kvs vs := by
  cases r with
  | of r => cases r with | dct h q => exact ⟨_, _, rfl, .inr ⟨_, s _ _ h⟩, q⟩
  | dct h q => exact ⟨_, _, rfl, .inl h, q⟩
theorem Vw.dcp {ks : List (List DK)} (s : Same F H) (r : Vw K T F m H (.dcp ks ds) v) : ∃ a o vs, v = .ref a ∧ F a = some (.frz o (.dT ((keysK ks).zip vs))) ∧ KeyAt F o (keysK ks) ∧ ks.length = ds.length ∧ Reps K T F m ds vs := by
  cases r with
  | of r => cases r with | dcp h h2 l q => exact ⟨_, _, _, rfl, h, h2, l, q⟩
theorem Vw.inst {c : Nat} (s : Same F H) (r : Vw K T F m H (.ins c ds) v) : ∃ a dx vs, v = .ref a ∧ H a = some (.ins (T.ca c) dx ((T.fn c).zip vs)) ∧ Reps K T F m ds vs := by
  cases r with
  | of r => cases r with | ins h _ q => exact ⟨_, _, _, rfl, s _ _ h, q⟩
  | ins h q => exact ⟨_, _, _, rfl, h, q⟩
end

/-! ### the judgements -/
/-- what follows, at the level of values -/
def Fin (K : PySem.W.Frag) (z : Zx) (F : Hp) (m : List Addr) (H : Hp) (ρ : Slots) (σ : L2.St) (Qd : QD) (Q : VK) : Prop :=
  ∀ F' m' μ' d v H', Ext F m H F' m' H' → SimZ K z F' m' μ' ρ σ H' → Rep K z.T F' m' d v → Qd d μ' → Q v H'
def tD (K : PySem.W.Frag) (z : Zx) (Wd : WXd) (w : WE) : TE := fun σ H Q => ∃ F m μ ρ Qd, SimZ K z F m μ ρ σ H ∧ w ρ μ Qd (fun x μ' => Wd x ρ μ') ∧ Fin K z F m H ρ σ Qd Q
def XW (K : PySem.W.Frag) (z : Zx) (Wd : WXd) : WX := fun cls d σ H => ∃ F m μ ρ x, SimZ K z F m μ ρ σ H ∧ XRep K z.T F m H x cls d ∧ Wd x ρ μ
def DE (X : Cx) (z : Zx) (e : Expr) (w : WE) : Prop := ∀ Wd, Takes X (XW X.K z Wd) → PE X e (tD X.K z Wd w)
theorem peI {X : Cx} {e : Expr} {t t' : TE} (h : PE X e t) (f : ∀ σ H Q, t' σ H Q → t σ H Q) : PE X e t' := ⟨fun pins s σ H Q I q => h.run pins s σ H Q I (f _ _ _ q)⟩

/-! ### names, constants -/
def wVar (i : Nat) : WE := fun ρ μ Q _ => match ρ[i]? with
  | some (some d) => Q d μ
  | _ => False
def wC (d : D) : WE := fun _ μ Q _ => Q d μ
section
variable {X : Cx} {z : Zx} {pos : Pos} {a b c e : Expr} {wa wb wc : WE}
theorem de_var {i : Nat} {x : Str} (hN : X.N[i]? = some x) (hv : Vis X.env.scope x) (hd : (x == ("__debug__" : Str)) = false := by decide) (hcd : (x == ("__classdict__" : Str)) = false := by decide) : DE X z (.Name x pos) (wVar i) := fun Wd tk =>
  peI (pe_var hN hv hd hcd) fun σ H Q ⟨F, m, μ, ρ, Qd, S, h, k⟩ => by
    unfold wVar at h
    split at h
    · rename_i d e
      obtain ⟨v, h1, h2⟩ := S.slot i d e
      exact ⟨v, h1, k F m μ d v H (Ext.refl _ _ _) S h2 h⟩
    · exact h.elim
theorem de_const {t : V} {d : D} (h : PE X e (tC t)) (r : ∀ K T F m, Rep K T F m d t) : DE X z e (wC d) := fun Wd tk =>
  peI h fun σ H Q ⟨F, m, μ, ρ, Qd, S, h, k⟩ => k F m μ d t H (Ext.refl _ _ _) S (r _ _ _ _) h
theorem de_int {i j} : DE X z (.Constant (.int i) j pos) (wC (.int i)) := de_const pe_int fun _ _ _ _ => .int
theorem de_bl {i j} : DE X z (.Constant (.bool i) j pos) (wC (.bl i)) := de_const pe_bl fun _ _ _ _ => .bl
theorem de_non {j} : DE X z (.Constant .none j pos) (wC .non) := de_const pe_non fun _ _ _ _ => .non
theorem de_str {x : Str} {j} {s : Tx} (h : x.cps.toList = s) : DE X z (.Constant (.str x) j pos) (wC (.str s)) := de_const pe_str fun _ _ _ _ => by
  have e : x = tx s := by
    obtain ⟨c⟩ := x
    unfold tx
    rw [← h] <;> rfl
  rw [e]
  exact .str
/-- a module's constant -/
theorem de_gint {x : Str} {i : Int} (hg : Gl X x) (hm : ∃ t, X.mg x = some (.int i t)) (hd : (x == ("__debug__" : Str)) = false := by decide) : DE X z (.Name x pos) (wC (.int i)) := by
  obtain ⟨t, hm⟩ := hm
  exact de_const (pe_glob (v := .int i) hg hm ⟨t, rfl⟩ hd) fun _ _ _ _ => .int
theorem de_gstr {x y : Str} {s : Tx} (hg : Gl X x) (hm : ∃ t, X.mg x = some (.str y t)) (h : y.cps.toList = s) (hd : (x == ("__debug__" : Str)) = false := by decide) : DE X z (.Name x pos) (wC (.str s)) := by
  obtain ⟨t, hm⟩ := hm
  have e : y = tx s := by
    obtain ⟨c⟩ := y
    unfold tx
    rw [← h] <;> rfl
  exact de_const (pe_glob (v := .str y) hg hm ⟨t, rfl⟩ hd) fun _ _ _ _ => by rw [e]; exact .str
theorem de_gcls {x : Str} {c : Nat} (hg : Gl X x) (hm : X.mg x = some (.ref (z.T.ca c))) (hd : (x == ("__debug__" : Str)) = false := by decide) : DE X z (.Name x pos) (wC (.cls c)) := fun Wd tk =>
  peI (pe_glob (v := .ref (z.T.ca c)) hg hm rfl hd) fun σ H Q ⟨F, m, μ, ρ, Qd, S, h, k⟩ => k F m μ _ _ H (Ext.refl _ _ _) S .cls h
theorem de_bty {x : Str} {t : Ty} (hg : Gl X x) (hm : X.mg x = none) (hv : bootBuiltins x = some (.type t.nm)) (hn : x ≠ "__name__" := by decide) (hd : (x == ("__debug__" : Str)) = false := by decide) : DE X z (.Name x pos) (wC (.ty t)) :=
  de_const (pe_bltn (v := .ty t.nm) hg hm hv rfl hn hd) fun _ _ _ _ => .ty

/-! ### operators -/
/-- by values, from views; f tells the answer, where there is one -/
def OpD (X : Cx) (z : Zx) (r : R2) (f : D → D → Option D) : Prop :=
  ∀ F m μ ρ σ H x y v u d (Qd : QD) (Q : VK), SimZ X.K z F m μ ρ σ H → Vw X.K z.T F m H x v → Vw X.K z.T F m H y u → f x y = some d → Qd d μ → Fin X.K z F m H ρ σ Qd Q → r v u H Q
def w2 (f : D → D → Option D) (wa wb : WE) : WE := fun ρ μ Q E => wa ρ μ (fun x μ1 => wb ρ μ1 (fun y μ2 => match f (look μ2 x) (look μ2 y) with
  | some d => Q d μ2
  | none => False) E) E
theorem op_run {r : R2} {f : D → D → Option D} {Wd : WXd} (ok : OpD X z r f) {σ : L2.St} {H : Hp} {Q : VK} (h : tD X.K z Wd (w2 f wa wb) σ H Q) : tD X.K z Wd wa σ H fun x H1 => tD X.K z Wd wb σ H1 fun y H2 => r x y H2 Q := by
  obtain ⟨F, m, μ, ρ, Qd, S, h, k⟩ := h
  refine ⟨F, m, μ, ρ, _, S, h, fun F1 m1 μ1 d1 v1 H1 x1 S1 r1 q1 => ⟨F1, m1, μ1, ρ, _, S1, q1, fun F2 m2 μ2 d2 v2 H2 x2 S2 r2 q2 => ?_⟩⟩
  cases e : f (look μ2 d1) (look μ2 d2) with
  | none =>
    rw [e] at q2
    exact q2.elim
  | some d =>
    rw [e] at q2
    exact ok F2 m2 μ2 ρ σ H2 _ _ _ _ d Qd Q S2 (S2.view (r1.mono x2.gr)) (S2.view r2) e q2 fun F3 m3 μ3 d3 v3 H3 x3 => k F3 m3 μ3 d3 v3 H3 (x1.trans (x2.trans x3))
theorem de_op {op : Operator} {r : R2} {f : D → D → Option D} (ho : OpR X (binaryOp op) r) (ok : OpD X z r f) (ha : DE X z a wa) (hb : DE X z b wb) : DE X z (.BinOp a op b pos) (w2 f wa wb) := fun Wd tk =>
  peI (pe_op ho (ha Wd tk) (hb Wd tk)) fun σ H Q h => op_run ok h
theorem de_cmp {op : CmpOp} {r : R2} {f : D → D → Option D} (ho : OpR X (compareOp op) r) (ok : OpD X z r f) (hm : behindInMarks op b = false) (ha : DE X z a wa) (hb : DE X z b wb) : DE X z (.Compare a [op] [b] pos) (w2 f wa wb) := fun Wd tk =>
  peI (pe_cmpR ho (ha Wd tk) (hb Wd tk) hm) fun σ H Q h => op_run ok h
theorem OpD.or {r r' : R2} {f f' : D → D → Option D} (h : OpD X z r f) (h' : OpD X z r' f') : OpD X z (fun x y H Q => r x y H Q ∨ r' x y H Q) (fun x y => match f x y with | some d => some d | none => f' x y) := by
  intro F m μ ρ σ H x y v u d Qd Q S vx vy e q k
  cases q1 : f x y with
  | some d1 =>
    simp only [q1, Option.some.injEq] at e
    subst e
    exact .inl (h _ _ _ _ _ _ _ _ _ _ _ Qd Q S vx vy q1 q k)
  | none =>
    simp only [q1] at e
    exact .inr (h' _ _ _ _ _ _ _ _ _ _ _ Qd Q S vx vy e q k)
theorem OpD.imp {r : R2} {f f' : D → D → Option D} (h : OpD X z r f) (e : ∀ x y d, f' x y = some d → f x y = some d) : OpD X z r f' :=
  fun F m μ ρ σ H x y v u d Qd Q S vx vy q => h F m μ ρ σ H x y v u d Qd Q S vx vy (e _ _ _ q)
theorem Fin.now {F : Hp} {m : List Addr} {μ : Sto} {ρ : Slots} {σ : L2.St} {H : Hp} {Qd : QD} {Q : VK} {d : D} {v : V} (k : Fin X.K z F m H ρ σ Qd Q) (S : SimZ X.K z F m μ ρ σ H) (r : Rep X.K z.T F m d v) (q : Qd d μ) : Q v H := k F m μ d v H (Ext.refl _ _ _) S r q
/-- a new tuple, list -/
theorem Fin.tup {F : Hp} {m : List Addr} {μ : Sto} {ρ : Slots} {σ : L2.St} {H : Hp} {Qd : QD} {Q : VK} {ds : List D} {vs : List V} {p : Addr} (k : Fin X.K z F m H ρ σ Qd Q) (S : SimZ X.K z F m μ ρ σ H) (hp : H p = none) (r : Reps X.K z.T F m ds vs) (q : Qd (.tup ds) μ) : Q (.ref p) (upd H p (.tup vs)) := by
  obtain ⟨x, S'⟩ := S.new hp (.tup vs)
  exact k _ m μ _ _ _ x S' (.tup (SqT.of upd_same) (r.mono x.gr)) q
theorem Fin.lst {F : Hp} {m : List Addr} {μ : Sto} {ρ : Slots} {σ : L2.St} {H : Hp} {Qd : QD} {Q : VK} {ds : List D} {vs : List V} {p : Addr} (k : Fin X.K z F m H ρ σ Qd Q) (S : SimZ X.K z F m μ ρ σ H) (hp : H p = none) (r : Reps X.K z.T F m ds vs) (q : Qd (.lst ds) μ) : Q (.ref p) (upd H p (.lst vs)) := by
  obtain ⟨x, S'⟩ := S.new hp (.lst vs)
  exact k _ m μ _ _ _ x S' (.lst upd_same (r.mono x.gr)) q
theorem Fin.dct {F : Hp} {m : List Addr} {μ : Sto} {ρ : Slots} {σ : L2.St} {H : Hp} {Qd : QD} {Q : VK} {ds : List (DK × D)} {vs : List (Key × V)} {p : Addr} {o : Obj} (k : Fin X.K z F m H ρ σ Qd Q) (S : SimZ X.K z F m μ ρ σ H) (hp : H p = none) (r : RepK X.K z.T F m ds vs) (q : Qd (.dct ds) μ) : Q (.ref p) (upd H p (.frz o (.dK vs))) := by
  obtain ⟨x, S'⟩ := S.new hp (.frz o (.dK vs))
  exact k _ m μ _ _ _ x S' (.dct upd_same (r.mono x.gr)) q
end
end Pk

/-! The data layer, part C: operators on data. -/
namespace Pk
open PySem PySem.Spec PyProof.Rows L2

/-! ### texts, keys -/
def eqTx : Tx → Tx → Bool
  | [], [] => true
  | a :: s, b :: t => match Nat.beq a b with
    | true => eqTx s t
    | false => false
  | _, _ => false
theorem eqTx_iff : ∀ {s t : Tx}, eqTx s t = true ↔ s = t
  | [], [] => by simp [eqTx]
  | [], _ :: _ => by simp [eqTx]
  | _ :: _, [] => by simp [eqTx]
  | a :: s, b :: t => by
    unfold eqTx
    cases h : Nat.beq a b with
    | true =>
      have e := Nat.eq_of_beq_eq_true h
      subst e
      simpa using eqTx_iff (s := s) (t := t)
    | false =>
      have e : a ≠ b := Nat.ne_of_beq_eq_false h
      simp [e]
theorem eqTx_dec (s t : Tx) : eqTx s t = decide (s = t) := by
  rw [Bool.eq_iff_iff, eqTx_iff, decide_eq_true_iff]
theorem tx_inj {s t : Tx} : tx s = tx t ↔ s = t := by
  unfold tx
  constructor
  · intro e
    injection e with e
    simpa using congrArg Array.toList e
  · intro e
    rw [e]
theorem tx_len (s : Tx) : (tx s).length = s.length := by
  unfold tx Str.length
  simp
def eqDK : DK → DK → Bool
  | .ki i, .ki j => decide (i = j)
  | .ks s, .ks t => eqTx s t
  | _, _ => false
theorem eqDK_iff {a b : DK} : eqDK a b = true ↔ a = b := by
  cases a <;> cases b <;> simp [eqDK, eqTx_iff]
theorem key_inj {a b : DK} : a.key = b.key ↔ a = b := by
  cases a <;> cases b <;> simp [DK.key, tx_inj]
def getK : List (DK × D) → DK → Option D
  | [], _ => none
  | (k, d) :: r, x => match eqDK k x with
    | true => some d
    | false => getK r x
def putD : List (DK × D) → DK → D → List (DK × D)
  | [], x, v => [(x, v)]
  | (k, d) :: r, x, v => match eqDK k x with
    | true => (k, v) :: r
    | false => (k, d) :: putD r x v
def toK : D → Option DK
  | .int i => some (.ki i)
  | .str s => some (.ks s)
  | _ => none

/-! ### data that is compared by == -/
mutual
def pureD : Nat → D → Bool
  | _, .non => true
  | _, .bl _ => true
  | _, .int _ => true
  | _, .str s => s.all fun c => Nat.blt c 1114112
  | 0, .tup _ => false
  | 0, .lst _ => false
  | 0, .ttp _ => false
  | n + 1, .tup xs => pureDs n xs
  | n + 1, .ttp xs => pureDs n xs
  | n + 1, .lst xs => pureDs n xs
  | _, _ => false
def pureDs : Nat → List D → Bool
  | _, [] => true
  | n, x :: xs => match pureD n x with
    | true => pureDs n xs
    | false => false
end
mutual
def toPy : D → PyData
  | .bl b => .bool b
  | .int i => .int i
  | .str s => .str (tx s)
  | .tup xs => .tuple (toPys xs)
  | .ttp xs => .tuple (toPys xs)
  | .lst xs => .list (toPys xs)
  | _ => .none
def toPys : List D → List PyData
  | [] => []
  | x :: xs => toPy x :: toPys xs
end
def b2 (b : Bool) : Int := match b with
  | true => 1
  | false => 0
mutual
def eqD : D → D → Bool
  | .bl a, .bl b => match a with
    | true => b
    | false => !b
  | .bl a, .int j => decide (b2 a = j)
  | .int i, .bl b => decide (i = b2 b)
  | .int i, .int j => decide (i = j)
  | .str s, .str t => eqTx s t
  | .tup xs, .tup ys => eqDs xs ys
  | .tup xs, .ttp ys => eqDs xs ys
  | .ttp xs, .tup ys => eqDs xs ys
  | .ttp xs, .ttp ys => eqDs xs ys
  | .lst xs, .lst ys => eqDs xs ys
  | .non, .non => true
  | _, _ => false
def eqDs : List D → List D → Bool
  | [], [] => true
  | x :: xs, y :: ys => match eqD x y with
    | true => eqDs xs ys
    | false => false
  | _, _ => false
end
mutual
theorem canLay_of : ∀ (n : Nat) (d : D), pureD n d = true → (toPy d).canLay0 = true ∧ (toPy d).depth ≤ n
  | n, .non, _ => ⟨rfl, Nat.zero_le _⟩
  | n, .bl _, _ => ⟨rfl, Nat.zero_le _⟩
  | n, .int _, _ => ⟨rfl, Nat.zero_le _⟩
  | n, .str s, h => ⟨by
      unfold pureD at h
      show PySem.PyData.strOk (tx s) = true
      unfold PySem.PyData.strOk tx
      simp only [List.all_toArray]
      rw [List.all_eq_true] at h ⊢
      intro c hc
      have := h c hc
      rw [decide_eq_true_iff]
      have h2 := Nat.le_of_ble_eq_true (show Nat.ble (c + 1) 1114112 = true from this)
      omega, Nat.zero_le _⟩
  | 0, .tup _, h => by simp [pureD] at h
  | 0, .lst _, h => by simp [pureD] at h
  | 0, .ttp _, h => by simp [pureD] at h
  | n + 1, .ttp xs, h => by
    obtain ⟨h1, h2⟩ := canLays_of n xs (by simpa [pureD] using h)
    exact ⟨h1, Nat.succ_le_succ h2⟩
  | n + 1, .tup xs, h => by
    obtain ⟨h1, h2⟩ := canLays_of n xs (by simpa [pureD] using h)
    exact ⟨h1, Nat.succ_le_succ h2⟩
  | n + 1, .lst xs, h => by
    obtain ⟨h1, h2⟩ := canLays_of n xs (by simpa [pureD] using h)
    exact ⟨h1, Nat.succ_le_succ h2⟩
  | n, .dct _, h => by cases n <;> simp [pureD] at h
  | n, .scr _, h => by cases n <;> simp [pureD] at h
  | n, .ins _ _, h => by cases n <;> simp [pureD] at h
  | n, .mref _, h => by cases n <;> simp [pureD] at h
  | n, .cls _, h => by cases n <;> simp [pureD] at h
  | n, .ty _, h => by cases n <;> simp [pureD] at h
  | n, .ptp _, h => by cases n <;> simp [pureD] at h
  | n, .dcp _ _, h => by cases n <;> simp [pureD] at h
theorem canLays_of : ∀ (n : Nat) (ds : List D), pureDs n ds = true → PyData.canLayAll0 (toPys ds) = true ∧ PyData.depthAll (toPys ds) ≤ n
  | n, [], _ => ⟨rfl, Nat.zero_le _⟩
  | n, d :: ds, h => by
    unfold pureDs at h
    cases q : pureD n d with
    | false => simp [q] at h
    | true =>
      obtain ⟨h1, h2⟩ := canLay_of n d q
      obtain ⟨h3, h4⟩ := canLays_of n ds (by simpa [q] using h)
      refine ⟨?_, ?_⟩
      · show (PyData.canLay0 (toPy d) && PyData.canLayAll0 (toPys ds)) = true
        rw [h1, h3]
        rfl
      · show max (toPy d).depth (PyData.depthAll (toPys ds)) ≤ n
        omega
end
mutual
theorem eqD_py : ∀ (n k : Nat) (d e : D), pureD n d = true → pureD k e = true → eqD d e = PyData.eqv (toPy d) (toPy e)
  | n, k, d, e, hd, he => by
    cases d with
    | tup xs =>
      cases n with
      | zero => simp [pureD] at hd
      | succ n =>
        cases e with
        | tup ys =>
          cases k with
          | zero => simp [pureD] at he
          | succ k => exact eqDs_py n k xs ys (by simpa [pureD] using hd) (by simpa [pureD] using he)
        | ttp ys =>
          cases k with
          | zero => simp [pureD] at he
          | succ k => exact eqDs_py n k xs ys (by simpa [pureD] using hd) (by simpa [pureD] using he)
        | _ => first | rfl | (cases k <;> simp [pureD] at he)
    | ttp xs =>
      cases n with
      | zero => simp [pureD] at hd
      | succ n =>
        cases e with
        | tup ys =>
          cases k with
          | zero => simp [pureD] at he
          | succ k => exact eqDs_py n k xs ys (by simpa [pureD] using hd) (by simpa [pureD] using he)
        | ttp ys =>
          cases k with
          | zero => simp [pureD] at he
          | succ k => exact eqDs_py n k xs ys (by simpa [pureD] using hd) (by simpa [pureD] using he)
        | _ => first | rfl | (cases k <;> simp [pureD] at he)
    | lst xs =>
      cases n with
      | zero => simp [pureD] at hd
      | succ n =>
        cases e with
        | lst ys =>
          cases k with
          | zero => simp [pureD] at he
          | succ k => exact eqDs_py n k xs ys (by simpa [pureD] using hd) (by simpa [pureD] using he)
        | _ => first | rfl | (cases k <;> simp [pureD] at he)
    | non => cases e <;> first | rfl | (cases k <;> simp [pureD] at he)
    | bl a =>
      cases e with
      | bl b => cases a <;> cases b <;> rfl
      | int j => cases a <;> simp [eqD, b2, toPy, PyData.eqv] <;> rfl
      | _ => first | rfl | (cases k <;> simp [pureD] at he)
    | int i =>
      cases e with
      | bl b => cases b <;> simp [eqD, b2, toPy, PyData.eqv] <;> rfl
      | int j => simp [eqD, toPy, PyData.eqv] <;> rfl
      | _ => first | rfl | (cases k <;> simp [pureD] at he)
    | str s =>
      cases e with
      | str t =>
        show eqTx s t = (tx s == tx t)
        rw [eqTx_dec, Bool.eq_iff_iff, decide_eq_true_iff, beq_iff_eq, tx_inj]
      | _ => first | rfl | (cases k <;> simp [pureD] at he)
    | _ => cases n <;> simp [pureD] at hd
theorem eqDs_py : ∀ (n k : Nat) (ds es : List D), pureDs n ds = true → pureDs k es = true → eqDs ds es = PyData.eqvAll (toPys ds) (toPys es)
  | n, k, [], [], _, _ => rfl
  | n, k, [], _ :: _, _, _ => rfl
  | n, k, _ :: _, [], _, _ => rfl
  | n, k, d :: ds, e :: es, hd, he => by
    unfold pureDs at hd he
    cases q1 : pureD n d with
    | false => simp [q1] at hd
    | true =>
      cases q2 : pureD k e with
      | false => simp [q2] at he
      | true =>
        have h1 := eqD_py n k d e q1 q2
        have h2 := eqDs_py n k ds es (by simpa [q1] using hd) (by simpa [q2] using he)
        show (match eqD d e with | true => eqDs ds es | false => false) = (PyData.eqv (toPy d) (toPy e) && PyData.eqvAll (toPys ds) (toPys es))
        rw [h1, h2]
        cases PyData.eqv (toPy d) (toPy e) <;> rfl
end
section
variable {K : PySem.W.Frag} {T : Tab} {F : Hp} {m : List Addr} {H : Hp}
mutual
theorem Rep.dp (s : Same F H) : ∀ {n : Nat} {d : D} {v : V}, Rep K T F m d v → pureD n d = true → Dp K H v (toPy d)
  | _, _, _, .non, _ => .non
  | _, _, _, .bl, _ => .bl _
  | _, _, _, .int, _ => .int _
  | _, _, _, .str, _ => .str _
  | 0, _, _, .tup _ _, h => by simp [pureD] at h
  | 0, _, _, .lst _ _, h => by simp [pureD] at h
  | 0, _, _, .ttp _ _, h => by simp [pureD] at h
  | n + 1, _, _, .ttp h r, q => .tup (SqT.of (s _ _ h)) (Reps.dp s r (by simpa [pureD] using q))
  | n + 1, _, _, .tup h r, q => .tup (Same.sqt s h) (Reps.dp s r (by simpa [pureD] using q))
  | n + 1, _, _, .lst h r, q => .lst (SqL.of (s _ _ h)) (Reps.dp s r (by simpa [pureD] using q))
  | n, _, _, .dct _ _, h => by cases n <;> simp [pureD] at h
  | n, _, _, .scr _, h => by cases n <;> simp [pureD] at h
  | n, _, _, .ins _ _ _, h => by cases n <;> simp [pureD] at h
  | n, _, _, .mref _, h => by cases n <;> simp [pureD] at h
  | n, _, _, .cls, h => by cases n <;> simp [pureD] at h
  | n, _, _, .ty, h => by cases n <;> simp [pureD] at h
  | n, _, _, .ptp _ _ _, h => by cases n <;> simp [pureD] at h
  | n, _, _, .dcp _ _ _ _, h => by cases n <;> simp [pureD] at h
theorem Reps.dp (s : Same F H) : ∀ {n : Nat} {ds : List D} {vs : List V}, Reps K T F m ds vs → pureDs n ds = true → DpAll K H vs (toPys ds)
  | _, _, _, .nil, _ => .nil
  | n, _, _, .cons (d := d) r rs, h => by
    unfold pureDs at h
    cases q : pureD n d with
    | false => simp [q] at h
    | true => exact .cons (Rep.dp s r q) (Reps.dp s rs (by simpa [q] using h))
end
theorem Vw.dp (s : Same F H) {n : Nat} {d : D} {v : V} (r : Vw K T F m H d v) (h : pureD n d = true) : Dp K H v (toPy d) := by
  cases r with
  | of r => exact r.dp s h
  | lst e r =>
    cases n with
    | zero => simp [pureD] at h
    | succ n => exact .lst (SqL.of e) (r.dp s (by simpa [pureD] using h))
  | dct e r => cases n <;> simp [pureD] at h
  | ins e r => cases n <;> simp [pureD] at h
end
theorem shaped_of {n : Nat} {d : D} (h : pureD n d = true) (hn : n ≤ 64) : PySem.SeqAt.shaped (toPy d) = true := by
  obtain ⟨h1, h2⟩ := canLay_of n d h
  unfold PySem.SeqAt.shaped
  rw [h1, decide_eq_true (Nat.le_trans h2 hn)]
  rfl

/-! ### the operators -/
def lineB (n : Nat) : Bool := Nat.ble n 16777216
theorem lineB_le {n : Nat} (h : lineB n = true) : n ≤ sizeLine := by
  rw [sizeLine_eq]
  exact Nat.le_of_ble_eq_true h
def addD : D → D → Option D
  | .int i, .int j => some (.int (i + j))
  | .str s, .str t => match lineB (s.length + t.length) with
    | true => some (.str (s ++ t))
    | false => none
  | .lst a, .lst b => match lineB (a.length + b.length) with
    | true => some (.lst (a ++ b))
    | false => none
  | .tup a, .tup b => match lineB (a.length + b.length) with
    | true => some (.tup (a ++ b))
    | false => none
  | _, _ => none
def subD : D → D → Option D
  | .int i, .int j => some (.int (i - j))
  | _, _ => none
def smallI : Int → Bool
  | .ofNat n => Nat.blt n 18446744073709551616
  | .negSucc n => Nat.blt (n + 1) 18446744073709551616
theorem smallI_of {i : Int} (h1 : -18446744073709551616 < i) (h2 : i < 18446744073709551616) : smallI i = true := by
  cases i with
  | ofNat n => exact Nat.ble_eq_true_of_le (by have : (n : Int) < 18446744073709551616 := h2; omega)
  | negSucc n => exact Nat.ble_eq_true_of_le (by omega)
def repD (n : Nat) (xs : List D) : List D := (List.replicate n xs).flatten
def mulD : D → D → Option D
  | .int i, .int j => match smallI i || smallI j with
    | true => some (.int (i * j))
    | false => none
  | .lst a, .int k => match smallI (k * 4) && lineB (a.length * k.toNat) with
    | true => some (.lst (repD k.toNat a))
    | false => none
  | _, _ => none
def fdivD : D → D → Option D
  | .int i, .int j => match decide (0 < j) && decide (j < 1073741824) with
    | true => some (.int (i / j))
    | false => none
  | _, _ => none
def modD : D → D → Option D
  | .int i, .int j => match decide (0 < j) with
    | true => some (.int (i % j))
    | false => none
  | _, _ => none
def eqqD (x y : D) : Option D := match pureD 60 x && pureD 60 y with
  | true => some (.bl (eqD x y))
  | false => none
def neqD (x y : D) : Option D := match pureD 60 x && pureD 60 y with
  | true => some (.bl (!eqD x y))
  | false => none
def leD : D → D → Option D
  | .int i, .int j => some (.bl (decide (i ≤ j)))
  | _, _ => none
def ltD : D → D → Option D
  | .int i, .int j => some (.bl (decide (i < j)))
  | _, _ => none
def geD : D → D → Option D
  | .int i, .int j => some (.bl (decide (j ≤ i)))
  | _, _ => none
def gtD : D → D → Option D
  | .int i, .int j => some (.bl (decide (j < i)))
  | _, _ => none
def isNonD : D → Bool
  | .non => true
  | _ => false
def eqB (a b : Bool) : Bool := match a with
  | true => b
  | false => !b
theorem eqB_dec (a b : Bool) : decide (a = b) = eqB a b := by cases a <;> cases b <;> rfl
def isD : D → D → Option D
  | x, .non => some (.bl (isNonD x))
  | .bl a, .bl b => some (.bl (eqB a b))
  | _, _ => none
def isnotD : D → D → Option D
  | x, .non => some (.bl (!isNonD x))
  | .bl a, .bl b => some (.bl (!eqB a b))
  | _, _ => none
def anyEq (x : D) : List D → Bool
  | [] => false
  | y :: r => match eqD y x with
    | true => true
    | false => anyEq x r
def memTx (c : Nat) : Tx → Bool
  | [] => false
  | d :: r => match Nat.beq d c with
    | true => true
    | false => memTx c r
def flatD : D → Bool
  | .non => true
  | .bl _ => true
  | .int _ => true
  | .str _ => true
  | _ => false
def inD? : D → D → Option Bool
  | x, .lst ys => match pureD 60 x && pureD 60 (.lst ys) with
    | true => some (anyEq x ys)
    | false => none
  | x, .tup ys => match flatD x && ys.all flatD with
    | true => some (anyEq x ys)
    | false => none
  | .str [c], .str t => some (memTx c t)
  | x, .dct kvs => match toK x with
    | some k => some (getK kvs k).isSome
    | none => none
  | _, _ => none
def inD (x y : D) : Option D := match inD? x y with
  | some b => some (.bl b)
  | none => none
def ninD (x y : D) : Option D := match inD? x y with
  | some b => some (.bl !b)
  | none => none
end Pk

/-! The data layer, part D: the operators' rules. -/
namespace Pk
open PySem PySem.Spec PyProof.Rows L2
section
variable {X : Cx} {z : Zx}

theorem tx_app (s t : Tx) : tx s ++ tx t = tx (s ++ t) := by
  show (⟨s.toArray ++ t.toArray⟩ : Str) = ⟨(s ++ t).toArray⟩
  simp
theorem okAdd : OpD X z (fun x y H Q => rI0 (fun i j => V.int (i + j)) x y H Q ∨ (∃ i j, x = .str i ∧ y = .str j ∧ i.length + j.length ≤ sizeLine ∧ Q (.str (i ++ j)) H) ∨ rCat x y H Q ∨ rCatA X.K x y H Q) addD := by
  intro F m μ ρ σ H x y v u d Qd Q S vx vy e q k
  unfold addD at e
  split at e
  · injection e with e
    subst e
    have e1 := vx.int
    have e2 := vy.int
    subst e1 e2
    exact .inl ⟨_, _, rfl, rfl, k.now S .int q⟩
  · split at e
    · rename_i s t hl
      injection e with e
      subst e
      have e1 := vx.str
      have e2 := vy.str
      subst e1 e2
      refine .inr (.inl ⟨_, _, rfl, rfl, ?_, ?_⟩)
      · rw [tx_len, tx_len]
        exact lineB_le hl
      · rw [tx_app]
        exact k.now S .str q
    · cases e
  · split at e
    · rename_i s t hl
      injection e with e
      subst e
      obtain ⟨a, xs, rfl, h1, r1⟩ := vx.list S.same
      obtain ⟨b, ys, rfl, h2, r2⟩ := vy.list S.same
      refine .inr (.inr (.inl ⟨a, b, xs, ys, rfl, rfl, h1, h2, ?_, fun p hp => k.lst S hp (r1.append r2) q⟩))
      rw [← r1.length, ← r2.length]
      exact lineB_le hl
    · cases e
  · split at e
    · rename_i s t _ hl
      injection e with e
      subst e
      obtain ⟨a, xs, rfl, h1, r1⟩ := vx.tup S.same
      obtain ⟨b, ys, rfl, h2, r2⟩ := vy.tup S.same
      refine .inr (.inr (.inr ⟨a, b, xs, ys, rfl, rfl, h1, h2, ?_, fun e => ?_, fun n e => ?_, fun n1 n2 p hp => k.tup S hp (r1.append r2) q⟩))
      · rw [← r1.length, ← r2.length]
        exact lineB_le hl
      · subst e
        have : s = [] := List.length_eq_zero_iff.mp (by rw [r1.length]; rfl)
        subst this
        cases vy with | of vy => exact k.now S vy q
      · subst e
        have : t = [] := List.length_eq_zero_iff.mp (by rw [r2.length]; rfl)
        subst this
        rw [List.append_nil] at q
        cases vx with | of vx => exact k.now S vx q
    · cases e
  · cases e
theorem orAdd : OpR X (binaryOp .Add) (fun x y H Q => rI0 (fun i j => V.int (i + j)) x y H Q ∨ (∃ i j, x = .str i ∧ y = .str j ∧ i.length + j.length ≤ sizeLine ∧ Q (.str (i ++ j)) H) ∨ rCat x y H Q ∨ rCatA X.K x y H Q) :=
  op_add.or (op_add_str.or (op_cat.or op_catA))
theorem okSub : OpD X z (rI0 fun i j => V.int (i - j)) subD := by
  intro F m μ ρ σ H x y v u d Qd Q S vx vy e q k
  unfold subD at e
  split at e
  · injection e with e
    subst e
    have e1 := vx.int
    have e2 := vy.int
    subst e1 e2
    exact ⟨_, _, rfl, rfl, k.now S .int q⟩
  · cases e
theorem smallI_ok {i : Int} (h : smallI i = true) : -(2 ^ 64) < i ∧ i < 2 ^ 64 := by
  cases i with
  | ofNat n =>
    have := Nat.le_of_ble_eq_true (show Nat.ble (n + 1) 18446744073709551616 = true from h)
    simp only [Int.ofNat_eq_natCast]
    omega
  | negSucc n =>
    have := Nat.le_of_ble_eq_true (show Nat.ble (n + 1 + 1) 18446744073709551616 = true from h)
    omega
theorem Reps.replicate {K : PySem.W.Frag} {T : Tab} {F : Hp} {m : List Addr} {ds : List D} {vs : List V} (r : Reps K T F m ds vs) : ∀ n : Nat, Reps K T F m (repD n ds) (List.replicate n vs).flatten
  | 0 => .nil
  | n + 1 => by
    unfold repD
    rw [List.replicate_succ, List.flatten_cons, List.replicate_succ, List.flatten_cons]
    exact r.append (Reps.replicate r n)
theorem okMul : OpD X z (fun x y H Q => rI CMul (fun i j => V.int (i * j)) x y H Q ∨ rRep x y H Q) mulD := by
  intro F m μ ρ σ H x y v u d Qd Q S vx vy e q k
  unfold mulD at e
  split at e
  · split at e
    · rename_i i j hl
      injection e with e
      subst e
      have e1 := vx.int
      have e2 := vy.int
      subst e1 e2
      refine .inl ⟨_, _, rfl, rfl, ?_, k.now S .int q⟩
      rcases Bool.or_eq_true_iff.mp hl with h | h
      · exact .inl (smallI_ok h)
      · exact .inr (smallI_ok h)
    · cases e
  · split at e
    · rename_i a n _ hl
      injection e with e
      subst e
      obtain ⟨a, xs, rfl, h1, r1⟩ := vx.list S.same
      have e2 := vy.int
      subst e2
      obtain ⟨g1, g2⟩ := Bool.and_eq_true_iff.mp hl
      have g3 := smallI_ok g1
      refine .inr ⟨a, n, xs, rfl, rfl, h1, by omega, by omega, ?_, fun p hp => k.lst S hp (r1.replicate _) q⟩
      rw [← r1.length]
      exact lineB_le g2
    · cases e
  · cases e
theorem orMul : OpR X (binaryOp .Mult) (fun x y H Q => rI CMul (fun i j => V.int (i * j)) x y H Q ∨ rRep x y H Q) := op_mul.or op_rep
theorem okFdiv : OpD X z (rI CDiv fun i j => V.int (i / j)) fdivD := by
  intro F m μ ρ σ H x y v u d Qd Q S vx vy e q k
  unfold fdivD at e
  split at e
  · split at e
    · rename_i i j hl
      injection e with e
      subst e
      have e1 := vx.int
      have e2 := vy.int
      subst e1 e2
      obtain ⟨g1, g2⟩ := Bool.and_eq_true_iff.mp hl
      exact ⟨_, _, rfl, rfl, ⟨of_decide_eq_true g1, of_decide_eq_true g2⟩, k.now S .int q⟩
    · cases e
  · cases e
theorem okMod : OpD X z (rI (fun _ j => 0 < j) fun i j => V.int (i % j)) modD := by
  intro F m μ ρ σ H x y v u d Qd Q S vx vy e q k
  unfold modD at e
  split at e
  · split at e
    · rename_i i j hl
      injection e with e
      subst e
      have e1 := vx.int
      have e2 := vy.int
      subst e1 e2
      exact ⟨_, _, rfl, rfl, of_decide_eq_true hl, k.now S .int q⟩
    · cases e
  · cases e
theorem okEq : OpD X z (rEqD X.K) eqqD := by
  intro F m μ ρ σ H x y v u d Qd Q S vx vy e q k
  unfold eqqD at e
  split at e
  · rename_i hl
    injection e with e
    subst e
    obtain ⟨g1, g2⟩ := Bool.and_eq_true_iff.mp hl
    refine ⟨_, _, vx.dp S.same g1, vy.dp S.same g2, shaped_of g1 (by decide), shaped_of g2 (by decide), ?_⟩
    rw [← eqD_py 60 60 x y g1 g2]
    exact k.now S .bl q
  · cases e
theorem okNe : OpD X z (rNeD X.K) neqD := by
  intro F m μ ρ σ H x y v u d Qd Q S vx vy e q k
  unfold neqD at e
  split at e
  · rename_i hl
    injection e with e
    subst e
    obtain ⟨g1, g2⟩ := Bool.and_eq_true_iff.mp hl
    refine ⟨_, _, vx.dp S.same g1, vy.dp S.same g2, shaped_of g1 (by decide), shaped_of g2 (by decide), ?_⟩
    rw [← eqD_py 60 60 x y g1 g2]
    exact k.now S .bl q
  · cases e
theorem okLe : OpD X z (rI0 fun i j => V.bl (decide (i ≤ j))) leD := by
  intro F m μ ρ σ H x y v u d Qd Q S vx vy e q k
  unfold leD at e
  split at e
  · injection e with e
    subst e
    have e1 := vx.int
    have e2 := vy.int
    subst e1 e2
    exact ⟨_, _, rfl, rfl, k.now S .bl q⟩
  · cases e
theorem okLt : OpD X z (rI0 fun i j => V.bl (decide (i < j))) ltD := by
  intro F m μ ρ σ H x y v u d Qd Q S vx vy e q k
  unfold ltD at e
  split at e
  · injection e with e
    subst e
    have e1 := vx.int
    have e2 := vy.int
    subst e1 e2
    exact ⟨_, _, rfl, rfl, k.now S .bl q⟩
  · cases e
theorem okGe : OpD X z (rI0 fun i j => V.bl (decide (j ≤ i))) geD := by
  intro F m μ ρ σ H x y v u d Qd Q S vx vy e q k
  unfold geD at e
  split at e
  · injection e with e
    subst e
    have e1 := vx.int
    have e2 := vy.int
    subst e1 e2
    exact ⟨_, _, rfl, rfl, k.now S .bl q⟩
  · cases e
theorem okGt : OpD X z (rI0 fun i j => V.bl (decide (j < i))) gtD := by
  intro F m μ ρ σ H x y v u d Qd Q S vx vy e q k
  unfold gtD at e
  split at e
  · injection e with e
    subst e
    have e1 := vx.int
    have e2 := vy.int
    subst e1 e2
    exact ⟨_, _, rfl, rfl, k.now S .bl q⟩
  · cases e
theorem isNon_v {K : PySem.W.Frag} {T : Tab} {F : Hp} {m : List Addr} {H : Hp} {d : D} {v : V} (r : Vw K T F m H d v) : decide (v = .non) = isNonD d := by
  cases r with
  | of r => cases r <;> simp [isNonD]
  | lst _ _ => simp [isNonD]
  | dct _ _ => simp [isNonD]
  | ins _ _ => simp [isNonD]
theorem okIs : OpD X z (fun x y H Q => (y = .non ∧ Q (.bl (decide (x = .non))) H) ∨ ∃ a b, x = V.bl a ∧ y = .bl b ∧ Q (.bl (decide (a = b))) H) isD := by
  intro F m μ ρ σ H x y v u d Qd Q S vx vy e q k
  unfold isD at e
  split at e
  · injection e with e
    subst e
    refine .inl ⟨vy.non, ?_⟩
    rw [isNon_v vx]
    exact k.now S .bl q
  · injection e with e
    subst e
    rename_i a b
    refine .inr ⟨a, b, vx.bl, vy.bl, ?_⟩
    rw [eqB_dec]
    exact k.now S .bl q
  · cases e
theorem okIsnot : OpD X z (fun x y H Q => (y = .non ∧ Q (.bl (!decide (x = .non))) H) ∨ ∃ a b, x = V.bl a ∧ y = .bl b ∧ Q (.bl (!decide (a = b))) H) isnotD := by
  intro F m μ ρ σ H x y v u d Qd Q S vx vy e q k
  unfold isnotD at e
  split at e
  · injection e with e
    subst e
    refine .inl ⟨vy.non, ?_⟩
    rw [isNon_v vx]
    exact k.now S .bl q
  · injection e with e
    subst e
    rename_i a b
    refine .inr ⟨a, b, vx.bl, vy.bl, ?_⟩
    rw [eqB_dec]
    exact k.now S .bl q
  · cases e
theorem orIs : OpR X (compareOp .Is) (fun x y H Q => (y = .non ∧ Q (.bl (decide (x = .non))) H) ∨ ∃ a b, x = V.bl a ∧ y = .bl b ∧ Q (.bl (decide (a = b))) H) := op_isN.or op_isBl
theorem orIsnot : OpR X (compareOp .IsNot) (fun x y H Q => (y = .non ∧ Q (.bl (!decide (x = .non))) H) ∨ ∃ a b, x = V.bl a ∧ y = .bl b ∧ Q (.bl (!decide (a = b))) H) := op_notN.or op_notBl
end
end Pk

/-! The data layer, part F: in, subscripts, slices, tests, and / or / not, displays. -/
namespace Pk
open PySem PySem.Spec PyProof.Rows L2
section
variable {X : Cx} {z : Zx} {pos : Pos} {a b c e : Expr} {wa wb wc : WE}

/-! ### in -/
def rDIn (f : Bool → Bool) : R2 := fun y x H Q => ∃ a o, x = .ref a ∧ DGet H a y o ∧ Q (.bl (f o.isSome)) H
theorem op_inDict (hu : X.A.units + 1 < cLine) : OpR X (compareOp .In) (rDIn fun b => b) := by
  intro pins s σ H x y v u Q I rx ry ⟨a, o, e, g, q⟩
  subst e
  obtain rfl : u = Value.ref a := ry
  exact d_in hu I g rx fun s3 I3 => ⟨.bl o.isSome, H, I3, rfl, q⟩
theorem op_ninDict (hu : X.A.units + 1 < cLine) : OpR X (compareOp .NotIn) (rDIn fun b => !b) := by
  intro pins s σ H x y v u Q I rx ry ⟨a, o, e, g, q⟩
  subst e
  obtain rfl : u = Value.ref a := ry
  exact d_notIn hu I g rx fun s3 I3 => ⟨.bl (!o.isSome), H, I3, rfl, q⟩
def rInAll (K : PySem.W.Frag) (f : Bool → Bool) : R2 := fun x y H Q =>
  (∃ d ds, Dp K H x d ∧ Dp K H y (.list ds) ∧ PySem.SeqAt.shaped d = true ∧ PySem.SeqAt.shaped (.list ds) = true ∧ Q (.bl (f (ds.any fun z => PyData.eqv z d))) H) ∨
  (∃ p xs, y = .ref p ∧ (SqL K H p xs ∨ SqT K H p xs) ∧ flatV x = true ∧ xs.all flatV = true ∧ Q (.bl (f (inV x xs))) H) ∨
  (∃ (c : Nat) (z : Str), x = .str ⟨#[c]⟩ ∧ y = .str z ∧ Q (.bl (f (decide (c ∈ z.cps.toList)))) H) ∨ rDIn f x y H Q
theorem orIn (hu : X.A.units + 65 < cLine) : OpR X (compareOp .In) (rInAll X.K fun b => b) := by
  have h := (op_inD hu).or (op_in_seq.or (op_in_sign.or (op_inDict (X := X) (by omega))))
  intro pins s σ H x y v u Q I rx ry q
  exact h pins s σ H x y v u Q I rx ry q
theorem orNin (hu : X.A.units + 65 < cLine) : OpR X (compareOp .NotIn) (rInAll X.K fun b => !b) := by
  have h := (op_notInD hu).or (op_notIn_seq.or (op_notIn_sign.or (op_ninDict (X := X) (by omega))))
  intro pins s σ H x y v u Q I rx ry q
  exact h pins s σ H x y v u Q I rx ry q
theorem anyEq_py {n k : Nat} {d : D} (hd : pureD k d = true) : ∀ {ds : List D}, pureDs n ds = true → ((toPys ds).any fun z => PyData.eqv z (toPy d)) = anyEq d ds
  | [], _ => rfl
  | x :: xs, h => by
    unfold pureDs at h
    cases q : pureD n x with
    | false => simp [q] at h
    | true =>
      show (PyData.eqv (toPy x) (toPy d) || (toPys xs).any fun z => PyData.eqv z (toPy d)) = (match eqD x d with | true => true | false => anyEq d xs)
      rw [anyEq_py hd (by simpa [q] using h), eqD_py n k x d q hd]
      cases PyData.eqv (toPy x) (toPy d) <;> rfl
theorem flat_V {K : PySem.W.Frag} {T : Tab} {F : Hp} {m : List Addr} {d : D} {v : V} (r : Rep K T F m d v) (h : flatD d = true) : flatV v = true := by
  cases r <;> first | rfl | simp [flatD] at h
theorem flats_V {K : PySem.W.Frag} {T : Tab} {F : Hp} {m : List Addr} : ∀ {ds : List D} {vs : List V}, Reps K T F m ds vs → ds.all flatD = true → vs.all flatV = true
  | _, _, .nil, _ => rfl
  | _, _, .cons r rs, h => by
    rw [List.all_cons, Bool.and_eq_true] at h ⊢
    exact ⟨flat_V r h.1, flats_V rs h.2⟩
theorem eqFlat {K : PySem.W.Frag} {T : Tab} {F : Hp} {m : List Addr} {d e : D} {v u : V} (r : Rep K T F m d v) (q : Rep K T F m e u) (hd : flatD d = true) (he : flatD e = true) : eqV v u = eqD d e := by
  have st : ∀ s t : Tx, (tx s == tx t) = eqTx s t := fun s t => by rw [eqTx_dec, Bool.eq_iff_iff, decide_eq_true_iff, beq_iff_eq, tx_inj]
  cases r <;> first | (simp [flatD] at hd; done) | skip
  all_goals (cases q <;> first | (simp [flatD] at he; done) | skip)
  all_goals first
    | rfl
    | exact st _ _
    | (rename_i b b'; cases b <;> cases b' <;> rfl)
    | (rename_i b i; cases b <;> (simp [eqV, eqD, b2]; try rfl))
    | (rename_i i b; cases b <;> (simp [eqV, eqD, b2]; try rfl))
    | (simp [eqV, eqD]; try rfl)
theorem anyFlat {K : PySem.W.Frag} {T : Tab} {F : Hp} {m : List Addr} {d : D} {v : V} (r : Rep K T F m d v) (hd : flatD d = true) : ∀ {ds : List D} {vs : List V}, Reps K T F m ds vs → ds.all flatD = true → inV v vs = anyEq d ds
  | _, _, .nil, _ => rfl
  | _, _, .cons (d := x) (v := u) q rs, h => by
    rw [List.all_cons, Bool.and_eq_true] at h
    show (eqV u v || inV v _) = (match eqD x d with | true => true | false => anyEq d _)
    rw [anyFlat r hd rs h.2, eqFlat q r h.1 hd]
    cases eqD x d <;> rfl
theorem memTx_iff (c : Nat) : ∀ s : Tx, decide (c ∈ s) = memTx c s
  | [] => rfl
  | d :: s => by
    unfold memTx
    cases h : Nat.beq d c with
    | true =>
      have e := Nat.eq_of_beq_eq_true h
      subst e
      simp
    | false =>
      have e : d ≠ c := Nat.ne_of_beq_eq_false h
      show decide (c ∈ d :: s) = memTx c s
      rw [← memTx_iff c s]
      simp [Ne.symm e]
theorem toK_V {K : PySem.W.Frag} {T : Tab} {F : Hp} {m : List Addr} {H : Hp} {d : D} {v : V} {k : DK} (r : Vw K T F m H d v) (h : toK d = some k) : v = kV k.key := by
  cases d with
  | int i =>
    injection h with h
    subst h
    exact r.int
  | str s =>
    injection h with h
    subst h
    exact r.str
  | _ => cases h
theorem getK_V {K : PySem.W.Frag} {T : Tab} {F : Hp} {m : List Addr} {k : DK} : ∀ {ds : List (DK × D)} {vs : List (Key × V)}, RepK K T F m ds vs →
    (∀ d, getK ds k = some d → ∃ v, valV vs k.key = some v ∧ Rep K T F m d v) ∧ (getK ds k = none → valV vs k.key = none)
  | _, _, .nil => ⟨(fun d h => by cases h), (fun _ => rfl)⟩
  | _, _, .cons (k := j) (d := x) (v := u) r rs => by
    have ih := getK_V (k := k) rs
    unfold getK
    cases q : eqDK j k with
    | true =>
      have e := eqDK_iff.mp q
      subst e
      refine ⟨fun d h => ?_, (fun h => by cases h)⟩
      injection h with h
      subst h
      exact ⟨_, valV_pos rfl, r⟩
    | false =>
      have e : ¬ j.key = k.key := fun e => by
        have := eqDK_iff.mpr (key_inj.mp e)
        rw [q] at this
        cases this
      rw [valV_neg e]
      exact ih
theorem getK_some {K : PySem.W.Frag} {T : Tab} {F : Hp} {m : List Addr} {k : DK} {ds : List (DK × D)} {vs : List (Key × V)} (r : RepK K T F m ds vs) : (valV vs k.key).isSome = (getK ds k).isSome := by
  obtain ⟨h1, h2⟩ := getK_V (k := k) r
  cases q : getK ds k with
  | none => rw [h2 q] <;> rfl
  | some d =>
    obtain ⟨v, h3, _⟩ := h1 d q
    rw [h3] <;> rfl
theorem okIn (f : Bool → Bool) {g : D → D → Option D} (hg : ∀ x y d, g x y = some d → ∃ b, inD? x y = some b ∧ d = .bl (f b)) : OpD X z (rInAll X.K f) g := by
  intro F m μ ρ σ H x y v u d Qd Q S vx vy e q k
  obtain ⟨b, e', rfl⟩ := hg x y d e
  clear e
  have e := e'
  clear e'
  unfold inD? at e
  split at e
  · split at e
    · rename_i ys _ hl
      injection e with e
      subst e
      obtain ⟨g1, g2⟩ := Bool.and_eq_true_iff.mp hl
      have g3 : pureDs 59 ys = true := by simpa [pureD] using g2
      refine .inl ⟨_, _, vx.dp S.same g1, vy.dp S.same g2, shaped_of g1 (by decide), shaped_of g2 (by decide), ?_⟩
      rw [anyEq_py g1 g3]
      exact k.now S .bl q
    · cases e
  · split at e
    · rename_i ys _ hl
      injection e with e
      subst e
      obtain ⟨g1, g2⟩ := Bool.and_eq_true_iff.mp hl
      obtain ⟨a, xs, rfl, h1, r1⟩ := vy.tup S.same
      have vx' : Rep X.K z.T F m x v := by
        cases vx with
        | of r => exact r
        | _ => simp [flatD] at g1
      refine .inr (.inl ⟨a, xs, rfl, .inr h1, flat_V vx' g1, flats_V r1 g2, ?_⟩)
      rw [anyFlat vx' g1 r1 g2]
      exact k.now S .bl q
    · cases e
  · injection e with e
    subst e
    refine .inr (.inr (.inl ⟨_, _, vx.str, vy.str, ?_⟩))
    have e2 : ∀ t : Tx, (tx t).cps.toList = t := fun t => by simp [tx]
    rw [e2, memTx_iff]
    exact k.now S .bl q
  · split at e
    · rename_i kvs _ kk hk
      injection e with e
      subst e
      obtain ⟨a, vs, rfl, h1, r1⟩ := vy.dict S.same
      refine .inr (.inr (.inr ⟨a, _, rfl, .inl ⟨vs, kk.key, h1, toK_V vx hk, rfl⟩, ?_⟩))
      rw [getK_some r1]
      exact k.now S .bl q
    · cases e
  · cases e
theorem de_in (hu : X.A.units + 65 < cLine) (ha : DE X z a wa) (hb : DE X z b wb) (hm : behindInMarks .In b = false := by rfl) : DE X z (.Compare a [.In] [b] pos) (w2 inD wa wb) :=
  de_cmp (orIn hu) (okIn (fun b => b) fun x y d e => by
    unfold inD at e
    split at e
    · rename_i b h
      injection e with e
      exact ⟨b, h, e.symm⟩
    · cases e) hm ha hb
theorem de_nin (hu : X.A.units + 65 < cLine) (ha : DE X z a wa) (hb : DE X z b wb) (hm : behindInMarks .NotIn b = false := by rfl) : DE X z (.Compare a [.NotIn] [b] pos) (w2 ninD wa wb) :=
  de_cmp (orNin hu) (okIn (fun b => !b) fun x y d e => by
    unfold ninD at e
    split at e
    · rename_i b h
      injection e with e
      exact ⟨b, h, e.symm⟩
    · cases e) hm ha hb

/-! ### one item -/
def rIxD : R2 := fun x y H Q => ∃ a kvs k v, x = .ref a ∧ Rd H a (.dK kvs) ∧ y = kV k ∧ valV kvs k = some v ∧ Q v H
theorem ix_dict (hu : X.A.units + 1 < cLine) : IxR X rIxD := by
  intro value slice pins s σ H x y v u Q I rx ry ⟨a, kvs, k, w, e, ea, ey, ev, q⟩ hs
  subst e
  obtain rfl : v = Value.ref a := rx
  have g : DGet H a y (some w) := .inl ⟨kvs, k, ea, ey, ev.symm⟩
  exact tail_any (dict_typeIs I g) PySem.F.slot_dict_getitem.lookup (d_getItem hu I g ry fun w' s3 I3 rw' => ⟨w, H, I3, rw', q⟩) hs
theorem IxR.or {r r' : R2} (h : IxR X r) (h' : IxR X r') : IxR X (fun x y H Q => r x y H Q ∨ r' x y H Q) := by
  intro value slice pins s σ H x y v u Q I rx ry q hs
  rcases q with q | q
  · exact h value slice pins s σ H x y v u Q I rx ry q hs
  · exact h' value slice pins s σ H x y v u Q I rx ry q hs
def nthG {α : Type} : List α → Nat → Option α
  | [], _ => none
  | x :: _, 0 => some x
  | _ :: r, n + 1 => nthG r n
theorem nthG_eq {α : Type} : ∀ (xs : List α) (n : Nat), nthG xs n = xs[n]?
  | [], _ => by simp [nthG]
  | x :: r, 0 => by simp [nthG]
  | x :: r, n + 1 => by simpa [nthG] using nthG_eq r n
/-- xs[i], i of any sign -/
def atG {α : Type} (xs : List α) (i : Int) : Option α := match i with
  | .ofNat n => nthG xs n
  | .negSucc n => match Nat.ble (n + 1) xs.length with
    | true => nthG xs (xs.length - (n + 1))
    | false => none
theorem atG_eq {α : Type} {xs : List α} {i : Int} {x : α} (h : atG xs i = some x) : atI xs i = some x := by
  unfold atG at h
  split at h
  · rename_i n
    rw [nthG_eq] at h
    exact atI_nat h
  · rename_i n
    split at h
    · rename_i hb
      have hle := Nat.le_of_ble_eq_true hb
      rw [nthG_eq] at h
      unfold atI ixN
      have e0 : ¬ (0 : Int) ≤ Int.negSucc n := by omega
      have e1 : -((xs.length : Nat) : Int) ≤ Int.negSucc n := by omega
      have e2 : (Int.negSucc n + (xs.length : Int)).toNat = xs.length - (n + 1) := by omega
      rw [if_neg e0, if_pos e1, e2]
      exact h
    · cases h
/-- d[t], t a tuple -/
def rIxP (K : PySem.W.Frag) : R2 := fun x y H Q => ∃ a kvs b k v, x = .ref a ∧ Rd H a (.dT kvs) ∧ y = .ref b ∧ SqT K H b (k.map kV) ∧ valV kvs k = some v ∧ Q v H
theorem ix_dictP (hu : X.A.units + 1 < cLine) : IxR X (rIxP X.K) := by
  intro value slice pins s σ H x y v u Q I rx ry ⟨a, kvs, b, k, w, e, ea, ey, eb, ev, q⟩ hs
  subst e
  obtain rfl : v = Value.ref a := rx
  subst ey
  obtain rfl : u = Value.ref b := ry
  obtain ⟨z, hd, xs, rel, dd⟩ := dt_rd I.hok ea
  obtain ⟨its, r, ⟨o, h1, h2, n, h3⟩, hz⟩ := I.tuple eb
  have key : (tupleKind (mixKind X.prog X.w)).is s.heap k b := ⟨o, its.toArray, n, h1, h2, h3, by simpa using items_are r⟩
  obtain ⟨w', hw, rw'⟩ := RelO.some_of (v := w) (o := (atKey xs k).map (·.2)) (by rw [← ev]; exact rel.val k)
  obtain ⟨p, hp, hp2⟩ := Option.map_eq_some_iff.mp hw
  refine tail_any dd.typeIs PySem.F.slot_dict_getitem.lookup (wpAny_getItem_heap (tupleKind_room_in1 hu) key dd hp ?_) hs
  rw [hp2]
  exact ⟨w, H, I.tok _, rw', q⟩
def toKs : List D → Option (List DK)
  | [] => some []
  | x :: r => match toK x, toKs r with
    | some k, some ks => some (k :: ks)
    | _, _ => none
def getP : List (List DK) → List D → List DK → Option D
  | k :: ks, d :: ds, q => match decide (k = q) with
    | true => some d
    | false => getP ks ds q
  | _, _, _ => none
theorem keys_inj : ∀ {a b : List DK}, a.map DK.key = b.map DK.key → a = b
  | [], [], _ => rfl
  | [], _ :: _, h => by cases h
  | _ :: _, [], h => by cases h
  | x :: a, y :: b, h => by
    injection h with h1 h2
    rw [key_inj.mp h1, keys_inj h2]
theorem getP_V {K : PySem.W.Frag} {T : Tab} {F : Hp} {m : List Addr} {q : List DK} {d : D} : ∀ {ks : List (List DK)} {ds : List D} {vs : List V}, Reps K T F m ds vs → getP ks ds q = some d → ∃ v, valV ((keysK ks).zip vs) (q.map DK.key) = some v ∧ Rep K T F m d v
  | [], _, _, _, e => by simp [getP] at e
  | _ :: _, [], _, _, e => by simp [getP] at e
  | k :: ks, _, _, .cons (d := x) (v := v) (vs := vs) h r, e => by
    unfold getP at e
    have z : (keysK (k :: ks)).zip (v :: vs) = (k.map DK.key, v) :: (keysK ks).zip vs := rfl
    rw [z]
    by_cases w : k = q
    · subst w
      simp only [decide_true, Option.some.injEq] at e
      subst e
      exact ⟨v, valV_pos rfl, h⟩
    · simp only [w, decide_false] at e
      rw [valV_neg (fun z => w (keys_inj z))]
      exact getP_V r e
theorem toKs_V {K : PySem.W.Frag} {T : Tab} {F : Hp} {m : List Addr} {H : Hp} : ∀ {ds : List D} {vs : List V} {ks : List DK}, Reps K T F m ds vs → toKs ds = some ks → vs = (ks.map DK.key).map kV
  | _, _, ks, .nil, e => by
    injection e with e
    subst e
    rfl
  | _, _, ks, .cons h r, e => by
    unfold toKs at e
    split at e
    · rename_i k ks' h1 h2
      injection e with e
      subst e
      rw [toK_V (H := H) (.of h) h1, toKs_V (H := H) r h2]
      rfl
    · cases e
def ixD : D → D → Option D
  | .lst xs, .int i => atG xs i
  | .tup xs, .int i => atG xs i
  | .str s, .int i => match lineB s.length, atG s i with
    | true, some c => some (.str [c])
    | _, _ => none
  | .scr xs, .int i => match atG xs i with
    | some k => some (.int k)
    | none => none
  | .dct kvs, k => match toK k with
    | some k => getK kvs k
    | none => none
  | .dcp ks ds, .tup xs => match toKs xs with
    | some q => getP ks ds q
    | none => none
  | _, _ => none
def rIxAll (K : PySem.W.Frag) : R2 := fun x y H Q => rIxL K x y H Q ∨ rIxT K x y H Q ∨ rIxS x y H Q ∨ rIxD x y H Q ∨ rIxP K x y H Q
theorem ixAll (hu : X.A.units + 1 < cLine) : IxR X (rIxAll X.K) := IxR.or ix_list (IxR.or ix_tup (IxR.or ix_str (IxR.or (ix_dict hu) (ix_dictP hu))))
theorem Reps.at_ {K : PySem.W.Frag} {T : Tab} {F : Hp} {m : List Addr} {ds : List D} {vs : List V} {i : Int} {d : D} (r : Reps K T F m ds vs) (h : atG ds i = some d) : ∃ v, atI vs i = some v ∧ Rep K T F m d v := by
  have h2 := atG_eq h
  unfold atI at h2 ⊢
  rw [← r.length]
  cases q : ixN ds.length i with
  | none => rw [q] at h2; cases h2
  | some j =>
    rw [q] at h2
    exact r.get h2
theorem okIx : OpD X z (rIxAll X.K) ixD := by
  intro F m μ ρ σ H x y v u d Qd Q S vx vy e q k
  unfold ixD at e
  split at e
  · obtain ⟨a, xs, rfl, h1, r1⟩ := vx.list S.same
    obtain ⟨w, h2, r2⟩ := r1.at_ e
    exact .inl ⟨a, xs, _, w, rfl, vy.int, SqL.of h1, h2, k.now S r2 q⟩
  · obtain ⟨a, xs, rfl, h1, r1⟩ := vx.tup S.same
    obtain ⟨w, h2, r2⟩ := r1.at_ e
    exact .inr (.inl ⟨a, xs, _, w, rfl, vy.int, h1, h2, k.now S r2 q⟩)
  · rename_i s i
    split at e
    · rename_i c h1 h2
      injection e with e
      subst e
      refine .inr (.inr (.inl ⟨_, i, c, vx.str, vy.int, by rw [tx_len]; exact lineB_le h1, ?_, k.now S .str q⟩))
      have e2 : (tx s).cps.toList = s := by simp [tx]
      rw [e2]
      exact atG_eq h2
    · cases e
  · split at e
    · rename_i xs i _ j h1
      injection e with e
      subst e
      obtain ⟨a, rfl, h2⟩ := vx.scr S.same
      refine .inl ⟨a, _, i, .int j, rfl, vy.int, h2, ?_, k.now S .int q⟩
      have h3 := atG_eq h1
      unfold atI at h3 ⊢
      rw [List.length_map]
      cases q1 : ixN xs.length i with
      | none => rw [q1] at h3; cases h3
      | some j' =>
        rw [q1] at h3
        show (xs.map V.int)[j']? = some (.int j)
        rw [List.getElem?_map]
        have h4 : xs[j']? = some j := h3
        rw [h4] <;> rfl
    · cases e
  · split at e
    · rename_i kvs _ kk hk
      obtain ⟨a, vs, rfl, h1, r1⟩ := vx.dict S.same
      obtain ⟨w, h2, r2⟩ := (getK_V (k := kk) r1).1 d e
      exact .inr (.inr (.inr (.inl ⟨a, vs, _, w, rfl, h1, toK_V vy hk, h2, k.now S r2 q⟩)))
    · cases e
  · split at e
    · rename_i ks ds xs q hq
      obtain ⟨a, o, vs, rfl, h1, _, _, r1⟩ := vx.dcp S.same
      obtain ⟨b, us, rfl, h2, r2⟩ := vy.tup S.same
      obtain ⟨w, h3, r3⟩ := getP_V r1 e
      have h4 := toKs_V (H := H) r2 hq
      subst h4
      exact .inr (.inr (.inr (.inr ⟨a, _, b, _, w, rfl, .inr ⟨o, S.same _ _ h1⟩, rfl, h2, h3, k.now S r3 (by assumption)⟩)))
    · cases e
  · cases e
theorem de_ix (hu : X.A.units + 1 < cLine) (ha : DE X z a wa) (hb : DE X z b wb) (hs : PlainIx b := by exact fun _ _ => rfl) : DE X z (.Subscript a b pos) (w2 ixD wa wb) := fun Wd tk =>
  peI (pe_ix (ixAll hu) (ha Wd tk) (hb Wd tk) hs) fun σ H Q h => op_run okIx h
end
end Pk

/-! The data layer, part G: tests, and / or / not, slices, displays, arguments. -/
namespace Pk
open PySem PySem.Spec PyProof.Rows L2

/-! ### truth -/
def nilB {α : Type} : List α → Bool
  | [] => true
  | _ => false
def truD : D → Option Bool
  | .non => some false
  | .bl b => some b
  | .int i => some (!decide (i = 0))
  | .str s => match lineB s.length with
    | true => some (!nilB s)
    | false => none
  | .lst xs => some (!nilB xs)
  | .tup xs => some (!nilB xs)
  | _ => none
theorem nilB_eq {α : Type} (xs : List α) : nilB xs = xs.isEmpty := by cases xs <;> rfl
section
variable {K : PySem.W.Frag} {T : Tab} {F : Hp} {m : List Addr} {H : Hp}
theorem Reps.emp {ds : List D} {vs : List V} (r : Reps K T F m ds vs) : nilB ds = vs.isEmpty := by cases r <;> rfl
theorem RepK.emp {ds : List (DK × D)} {vs : List (Key × V)} (r : RepK K T F m ds vs) : nilB ds = vs.isEmpty := by cases r <;> rfl
theorem truV_of (s : Same F H) {d : D} {v : V} {k : Bool} (r : Vw K T F m H d v) (h : truD d = some k) : TruV K v H k := by
  unfold truD at h
  split at h
  · injection h with h
    subst h
    rw [r.non]
    exact rfl
  · injection h with h
    subst h
    rw [r.bl]
    exact rfl
  · injection h with h
    subst h
    rename_i i
    rw [r.int]
    show (!decide (i = 0)) = (i != 0)
    rw [bne, Bool.beq_eq_decide_eq]
  · split at h
    · rename_i s _ hl
      injection h with h
      subst h
      rw [r.str]
      refine ⟨by rw [tx_len]; exact lineB_le hl, ?_⟩
      rw [tx_len]
      cases s with
      | nil => rfl
      | cons c s =>
        show true = ((((c :: s).length : Nat) : Int) != 0)
        have : (((c :: s).length : Nat) : Int) ≠ 0 := by simp only [List.length_cons]; omega
        simpa using this
    · cases h
  · injection h with h
    subst h
    obtain ⟨a, vs, rfl, h1, r1⟩ := r.list s
    exact .inl ⟨vs, SqL.of h1, by rw [r1.emp]⟩
  · injection h with h
    subst h
    obtain ⟨a, vs, rfl, h1, r1⟩ := r.tup s
    exact .inr (.inl ⟨vs, h1, by rw [r1.emp]⟩)
  · cases h
end

/-! ### tests -/
abbrev WT := Slots → Sto → (Bool → Sto → Prop) → QX → Prop
def tDT (K : PySem.W.Frag) (z : Zx) (Wd : WXd) (w : WT) : TT := fun σ H Q => ∃ F m μ ρ Qd, SimZ K z F m μ ρ σ H ∧ w ρ μ Qd (fun x μ' => Wd x ρ μ') ∧
  ∀ F' m' μ' b H', Ext F m H F' m' H' → SimZ K z F' m' μ' ρ σ H' → Qd b μ' → Q b H'
def DT (X : Cx) (z : Zx) (e : Expr) (w : WT) : Prop := ∀ Wd, Takes X (XW X.K z Wd) → PT X e (tDT X.K z Wd w)
def DW (X : Cx) (z : Zx) (e : Expr) (w : WT) : Prop := ∀ Wd, Takes X (XW X.K z Wd) → PW X e (tDT X.K z Wd w)
theorem ptI {X : Cx} {e : Expr} {t t' : TT} (h : PT X e t) (f : ∀ σ H Q, t' σ H Q → t σ H Q) : PT X e t' := ⟨fun pins s σ H Q I q => h.run pins s σ H Q I (f _ _ _ q)⟩
theorem pwI {X : Cx} {e : Expr} {t t' : TT} (h : PW X e t) (f : ∀ σ H Q, t' σ H Q → t σ H Q) : PW X e t' := ⟨fun wh pins s σ H Q I q => h.run wh pins s σ H Q I (f _ _ _ q)⟩
/-- a value as a test -/
def tTru (w : WE) : WT := fun ρ μ Q E => w ρ μ (fun x μ1 => match truD (look μ1 x) with
  | some b => Q b μ1
  | none => False) E
/-- an answer True or False as a test -/
def tBl (w : WE) : WT := fun ρ μ Q E => w ρ μ (fun x μ1 => match x with
  | .bl b => Q b μ1
  | _ => False) E
def tAn (t u : WT) : WT := fun ρ μ Q E => t ρ μ (fun b μ1 => match b with
  | true => u ρ μ1 Q E
  | false => Q false μ1) E
def tOr' (t u : WT) : WT := fun ρ μ Q E => t ρ μ (fun b μ1 => match b with
  | true => Q true μ1
  | false => u ρ μ1 Q E) E
def tNo (t : WT) : WT := fun ρ μ Q E => t ρ μ (fun b μ1 => Q (!b) μ1) E
def wAnd (wa wb : WE) : WE := fun ρ μ Q E => wa ρ μ (fun x μ1 => match truD (look μ1 x) with
  | some true => wb ρ μ1 Q E
  | some false => Q x μ1
  | none => False) E
def wOr (wa wb : WE) : WE := fun ρ μ Q E => wa ρ μ (fun x μ1 => match truD (look μ1 x) with
  | some true => Q x μ1
  | some false => wb ρ μ1 Q E
  | none => False) E
def wNot (wa : WE) : WE := fun ρ μ Q E => wa ρ μ (fun x μ1 => match truD (look μ1 x) with
  | some b => Q (.bl (!b)) μ1
  | none => False) E
def wIf (t : WT) (wa wb : WE) : WE := fun ρ μ Q E => t ρ μ (fun b μ1 => match b with
  | true => wa ρ μ1 Q E
  | false => wb ρ μ1 Q E) E
def wCh (f g : D → D → Option D) (wa wb wc : WE) : WE := fun ρ μ Q E => wa ρ μ (fun x μ1 => wb ρ μ1 (fun y μ2 => match f (look μ2 x) (look μ2 y) with
  | some (.bl true) => wc ρ μ2 (fun u μ3 => match g (look μ3 y) (look μ3 u) with
    | some d => Q d μ3
    | none => False) E
  | some (.bl false) => Q (.bl false) μ2
  | _ => False) E) E
section
variable {X : Cx} {z : Zx} {pos : Pos} {a b c e : Expr} {wa wb wc w : WE} {t u : WT} {rest : List Expr}
theorem dt_truth (h : DE X z e w) (he : ∀ whole, isTrue e X.env whole = (do let v ← whole; standAt e.pos; holding [v] (truthy v)) := by intro _; rfl) : DT X z e (tTru w) := fun Wd tk =>
  ptI (pt_truth (h Wd tk) he) fun σ H Q ⟨F, m, μ, ρ, Qd, S, h, k⟩ => ⟨F, m, μ, ρ, _, S, h, fun F1 m1 μ1 d1 v1 H1 x1 S1 r1 q1 => by
    cases q : truD (look μ1 d1) with
    | none =>
      rw [q] at q1
      exact q1.elim
    | some b =>
      rw [q] at q1
      exact ⟨b, truV_of S1.same (S1.view r1) q, k _ _ _ _ _ x1 S1 q1⟩⟩
theorem test_run {r : R2} {f : D → D → Option D} {Wd : WXd} (ok : OpD X z r f) {σ : L2.St} {H : Hp} {Q : Bool → Hp → Prop} (h : tDT X.K z Wd (tBl (w2 f wa wb)) σ H Q) : tTest (tOp r (tD X.K z Wd wa) (tD X.K z Wd wb)) σ H Q := by
  obtain ⟨F, m, μ, ρ, Qd, S, h, k⟩ := h
  refine op_run ok ⟨F, m, μ, ρ, _, S, h, fun F1 m1 μ1 d1 v1 H1 x1 S1 r1 q1 => ?_⟩
  cases r1 with
  | bl => exact ⟨_, rfl, k _ _ _ _ _ x1 S1 q1⟩
  | _ => exact q1.elim
theorem dt_cmp {op : CmpOp} {r : R2} {f : D → D → Option D} (ho : OpR X (compareOp op) r) (ok : OpD X z r f) (hm : behindInMarks op b = false) (ha : DE X z a wa) (hb : DE X z b wb) : DT X z (.Compare a [op] [b] pos) (tBl (w2 f wa wb)) := fun Wd tk =>
  ptI (pt_cmpR ho (ha Wd tk) (hb Wd tk) hm) fun σ H Q h => test_run ok h
theorem okIn1 : OpD X z (rInAll X.K fun b => b) inD := okIn (fun b => b) fun x y d e => by
  unfold inD at e
  split at e
  · rename_i b h
    injection e with e
    exact ⟨b, h, e.symm⟩
  · cases e
theorem okNin1 : OpD X z (rInAll X.K fun b => !b) ninD := okIn (fun b => !b) fun x y d e => by
  unfold ninD at e
  split at e
  · rename_i b h
    injection e with e
    exact ⟨b, h, e.symm⟩
  · cases e
theorem DW.dt (h : DW X z e t) : DT X z e t := fun Wd tk => (h Wd tk).pt
theorem dw_and1 (ha : DT X z a t) : DW X z (.BoolOp .And [a] pos) t := fun Wd tk => pw_and1 (ha Wd tk)
theorem dw_or1 (ha : DT X z a t) : DW X z (.BoolOp .Or [a] pos) t := fun Wd tk => pw_or1 (ha Wd tk)
theorem dw_and (ha : DT X z a t) (hb : DW X z (.BoolOp .And (b :: rest) pos) u) : DW X z (.BoolOp .And (a :: b :: rest) pos) (tAn t u) := fun Wd tk =>
  pwI (pw_and (ha Wd tk) (hb Wd tk)) fun σ H Q ⟨F, m, μ, ρ, Qd, S, h, k⟩ => ⟨F, m, μ, ρ, _, S, h, fun F1 m1 μ1 b H1 x1 S1 q1 => by
    cases b with
    | true =>
      rw [if_pos rfl]
      exact ⟨F1, m1, μ1, ρ, Qd, S1, q1, fun F2 m2 μ2 b H2 x2 => k F2 m2 μ2 b H2 (x1.trans x2)⟩
    | false =>
      rw [if_neg (by decide)]
      exact k _ _ _ _ _ x1 S1 q1⟩
theorem dw_or (ha : DT X z a t) (hb : DW X z (.BoolOp .Or (b :: rest) pos) u) : DW X z (.BoolOp .Or (a :: b :: rest) pos) (tOr' t u) := fun Wd tk =>
  pwI (pw_or (ha Wd tk) (hb Wd tk)) fun σ H Q ⟨F, m, μ, ρ, Qd, S, h, k⟩ => ⟨F, m, μ, ρ, _, S, h, fun F1 m1 μ1 b H1 x1 S1 q1 => by
    cases b with
    | false =>
      rw [if_neg (by decide)]
      exact ⟨F1, m1, μ1, ρ, Qd, S1, q1, fun F2 m2 μ2 b H2 x2 => k F2 m2 μ2 b H2 (x1.trans x2)⟩
    | true =>
      rw [if_pos rfl]
      exact k _ _ _ _ _ x1 S1 q1⟩
theorem dt_not (ha : DT X z a t) : DT X z (.UnaryOp .Not a pos) (tNo t) := fun Wd tk =>
  ptI (pt_not (ha Wd tk)) fun σ H Q ⟨F, m, μ, ρ, Qd, S, h, k⟩ => ⟨F, m, μ, ρ, _, S, h, fun F1 m1 μ1 b H1 x1 S1 q1 => k _ _ _ _ _ x1 S1 q1⟩
theorem de_one {op} (h : DE X z a w) : DE X z (.BoolOp op [a] pos) w := fun Wd tk => pe_one (h Wd tk)
theorem de_and (ha : DE X z a wa) (hb : DE X z (.BoolOp .And (b :: rest) pos) wb) : DE X z (.BoolOp .And (a :: b :: rest) pos) (wAnd wa wb) := fun Wd tk =>
  peI (pe_andT (ha Wd tk) (hb Wd tk)) fun σ H Q ⟨F, m, μ, ρ, Qd, S, h, k⟩ => ⟨F, m, μ, ρ, _, S, h, fun F1 m1 μ1 d1 v1 H1 x1 S1 r1 q1 => by
    cases q : truD (look μ1 d1) with
    | none => rw [q] at q1; exact q1.elim
    | some b =>
      rw [q] at q1
      refine ⟨b, truV_of S1.same (S1.view r1) q, ?_⟩
      cases b with
      | true =>
        rw [if_pos rfl]
        exact ⟨F1, m1, μ1, ρ, Qd, S1, q1, fun F2 m2 μ2 d v H2 x2 => k F2 m2 μ2 d v H2 (x1.trans x2)⟩
      | false =>
        rw [if_neg (by decide)]
        exact k _ _ _ _ _ _ x1 S1 r1 q1⟩
theorem de_or (ha : DE X z a wa) (hb : DE X z (.BoolOp .Or (b :: rest) pos) wb) : DE X z (.BoolOp .Or (a :: b :: rest) pos) (wOr wa wb) := fun Wd tk =>
  peI (pe_orT (ha Wd tk) (hb Wd tk)) fun σ H Q ⟨F, m, μ, ρ, Qd, S, h, k⟩ => ⟨F, m, μ, ρ, _, S, h, fun F1 m1 μ1 d1 v1 H1 x1 S1 r1 q1 => by
    cases q : truD (look μ1 d1) with
    | none => rw [q] at q1; exact q1.elim
    | some b =>
      rw [q] at q1
      refine ⟨b, truV_of S1.same (S1.view r1) q, ?_⟩
      cases b with
      | false =>
        rw [if_neg (by decide)]
        exact ⟨F1, m1, μ1, ρ, Qd, S1, q1, fun F2 m2 μ2 d v H2 x2 => k F2 m2 μ2 d v H2 (x1.trans x2)⟩
      | true =>
        rw [if_pos rfl]
        exact k _ _ _ _ _ _ x1 S1 r1 q1⟩
theorem de_not (ha : DE X z a wa) : DE X z (.UnaryOp .Not a pos) (wNot wa) := fun Wd tk =>
  peI (pe_notT (ha Wd tk)) fun σ H Q ⟨F, m, μ, ρ, Qd, S, h, k⟩ => ⟨F, m, μ, ρ, _, S, h, fun F1 m1 μ1 d1 v1 H1 x1 S1 r1 q1 => by
    cases q : truD (look μ1 d1) with
    | none => rw [q] at q1; exact q1.elim
    | some b =>
      rw [q] at q1
      exact ⟨b, truV_of S1.same (S1.view r1) q, k _ _ _ _ _ _ x1 S1 .bl q1⟩⟩
theorem de_if (hc : DT X z c t) (ha : DE X z a wa) (hb : DE X z b wb) : DE X z (.IfExp c a b pos) (wIf t wa wb) := fun Wd tk =>
  peI (pe_ifExp (hc Wd tk) (ha Wd tk) (hb Wd tk)) fun σ H Q ⟨F, m, μ, ρ, Qd, S, h, k⟩ => ⟨F, m, μ, ρ, _, S, h, fun F1 m1 μ1 b H1 x1 S1 q1 => by
    cases b with
    | true =>
      rw [if_pos rfl]
      exact ⟨F1, m1, μ1, ρ, Qd, S1, q1, fun F2 m2 μ2 d v H2 x2 => k F2 m2 μ2 d v H2 (x1.trans x2)⟩
    | false =>
      rw [if_neg (by decide)]
      exact ⟨F1, m1, μ1, ρ, Qd, S1, q1, fun F2 m2 μ2 d v H2 x2 => k F2 m2 μ2 d v H2 (x1.trans x2)⟩⟩
theorem chain_run {r r' : R2} {f g : D → D → Option D} {Wd : WXd} (ok : OpD X z r f) (ok' : OpD X z r' g) {σ : L2.St} {H : Hp} {Q : VK} (h : tD X.K z Wd (wCh f g wa wb wc) σ H Q) :
    tChain r r' (tD X.K z Wd wa) (tD X.K z Wd wb) (tD X.K z Wd wc) σ H Q := by
  obtain ⟨F, m, μ, ρ, Qd, S, h, k⟩ := h
  refine ⟨F, m, μ, ρ, _, S, h, fun F1 m1 μ1 d1 v1 H1 x1 S1 r1 q1 => ⟨F1, m1, μ1, ρ, _, S1, q1, fun F2 m2 μ2 d2 v2 H2 x2 S2 r2 q2 => ?_⟩⟩
  cases e : f (look μ2 d1) (look μ2 d2) with
  | none => rw [e] at q2; exact q2.elim
  | some d =>
    rw [e] at q2
    have q3 : (match d with
      | .bl true => wc ρ μ2 (fun u μ3 => match g (look μ3 d2) (look μ3 u) with | some d => Qd d μ3 | none => False) (fun x μ' => Wd x ρ μ')
      | .bl false => Qd (.bl false) μ2
      | _ => False) := by
      cases d with
      | bl b => cases b <;> exact q2
      | _ => exact q2
    refine ok F2 m2 μ2 ρ σ H2 _ _ _ _ d (fun d' μ' => d' = d ∧ μ' = μ2) _ S2 (S2.view (r1.mono x2.gr)) (S2.view r2) e ⟨rfl, rfl⟩ fun F3 m3 μ3 d3 v3 H3 x3 S3 r3 q4 => ?_
    obtain ⟨e1, e2⟩ := q4
    subst e1 e2
    cases r3 with
    | bl =>
      rename_i b
      refine ⟨b, rfl, ?_⟩
      cases b with
      | true =>
        rw [if_pos rfl]
        refine ⟨F3, m3, _, ρ, _, S3, q3, fun F4 m4 μ4 d4 v4 H4 x4 S4 r4 q5 => ?_⟩
        cases e3 : g (look μ4 d2) (look μ4 d4) with
        | none => rw [e3] at q5; exact q5.elim
        | some d5 =>
          rw [e3] at q5
          exact ok' F4 m4 μ4 ρ σ H4 _ _ _ _ d5 Qd Q S4 (S4.view (r2.mono (x3.trans x4).gr)) (S4.view r4) e3 q5 fun F5 m5 μ5 d5 v5 H5 x5 => k F5 m5 μ5 d5 v5 H5 (x1.trans (x2.trans (x3.trans (x4.trans x5))))
      | false =>
        rw [if_neg (by decide)]
        exact k _ _ _ _ _ _ (x1.trans (x2.trans x3)) S3 .bl q3
    | _ => exact q3.elim
theorem de_chain {op op' : CmpOp} {r r' : R2} {f g : D → D → Option D} (ho : OpR X (compareOp op) r) (ok : OpD X z r f) (ho' : OpR X (compareOp op') r') (ok' : OpD X z r' g) (ha : DE X z a wa) (hb : DE X z b wb) (hc : DE X z c wc)
    (hm : lastMarks [op, op'] [b, c] = false := by with_unfolding_all rfl) : DE X z (.Compare a [op, op'] [b, c] pos) (wCh f g wa wb wc) := fun Wd tk =>
  peI (pe_chain ho ho' (ha Wd tk) (hb Wd tk) (hc Wd tk) hm) fun σ H Q h => chain_run ok ok' h
theorem dt_chain {op op' : CmpOp} {r r' : R2} {f g : D → D → Option D} (ho : OpR X (compareOp op) r) (ok : OpD X z r f) (ho' : OpR X (compareOp op') r') (ok' : OpD X z r' g) (ha : DE X z a wa) (hb : DE X z b wb) (hc : DE X z c wc)
    (hm : lastMarks [op, op'] [b, c] = false := by with_unfolding_all rfl) : DT X z (.Compare a [op, op'] [b, c] pos) (tBl (wCh f g wa wb wc)) := fun Wd tk =>
  ptI (pt_chain ho ho' (ha Wd tk) (hb Wd tk) (hc Wd tk) hm) fun σ H Q ⟨F, m, μ, ρ, Qd, S, h, k⟩ => chain_run ok ok' ⟨F, m, μ, ρ, _, S, h, fun F1 m1 μ1 d1 v1 H1 x1 S1 r1 q1 => by
    cases r1 with
    | bl => exact ⟨_, rfl, k _ _ _ _ _ x1 S1 q1⟩
    | _ => exact q1.elim⟩

/-! ### slices -/
abbrev WO := Slots → Sto → (Option Int → Sto → Prop) → QX → Prop
def tDO (K : PySem.W.Frag) (z : Zx) (Wd : WXd) (w : WO) : TO := fun σ H Q => ∃ F m μ ρ Qd, SimZ K z F m μ ρ σ H ∧ w ρ μ Qd (fun x μ' => Wd x ρ μ') ∧
  ∀ F' m' μ' o H', Ext F m H F' m' H' → SimZ K z F' m' μ' ρ σ H' → Qd o μ' → Q o H'
def DO (X : Cx) (z : Zx) (e : Option Expr) (w : WO) : Prop := ∀ Wd, Takes X (XW X.K z Wd) → PO X e (tDO X.K z Wd w)
theorem poI {X : Cx} {e : Option Expr} {t t' : TO} (h : PO X e t) (f : ∀ σ H Q, t' σ H Q → t σ H Q) : PO X e t' := ⟨fun pins s σ H Q I q => h.run pins s σ H Q I (f _ _ _ q)⟩
def oNo : WO := fun _ μ Q _ => Q none μ
def oYes (w : WE) : WO := fun ρ μ Q E => w ρ μ (fun x μ1 => match x with
  | .int i => Q (some i) μ1
  | _ => False) E
theorem do_none : DO X z none oNo := fun Wd tk => poI po_none fun σ H Q ⟨F, m, μ, ρ, Qd, S, h, k⟩ => k _ _ _ _ _ (Ext.refl _ _ _) S h
theorem do_some (h : DE X z e w) : DO X z (some e) (oYes w) := fun Wd tk => poI (po_some (h Wd tk)) fun σ H Q ⟨F, m, μ, ρ, Qd, S, h, k⟩ => ⟨F, m, μ, ρ, _, S, h, fun F1 m1 μ1 d1 v1 H1 x1 S1 r1 q1 => by
  cases r1 with
  | int => exact ⟨_, rfl, k _ _ _ _ _ x1 S1 q1⟩
  | _ => exact q1.elim⟩
def cutG {α : Type} (xs : List α) (lo hi : Option Int) : List α := (xs.drop (HT.sIx xs.length 0 lo)).take (HT.sIx xs.length xs.length hi - HT.sIx xs.length 0 lo)
def slD : D → Option Int → Option Int → Option D
  | .lst xs, lo, hi => some (.lst (cutG xs lo hi))
  | .tup xs, lo, hi => some (.tup (cutG xs lo hi))
  | .scr xs, lo, hi => some (.lst ((cutG xs lo hi).map .int))
  | _, _, _ => none
def wSl (w : WE) (wl wh : WO) : WE := fun ρ μ Q E => w ρ μ (fun x μ1 => wl ρ μ1 (fun lo μ2 => wh ρ μ2 (fun hi μ3 => match slD (look μ3 x) lo hi with
  | some d => Q d μ3
  | none => False) E) E) E
theorem Reps.cut {K : PySem.W.Frag} {T : Tab} {F : Hp} {m : List Addr} {ds : List D} {vs : List V} (r : Reps K T F m ds vs) (lo hi : Option Int) : Reps K T F m (cutG ds lo hi) (cutV vs lo hi) := by
  unfold cutG cutV
  rw [r.length]
  exact (r.drop _).take _
theorem cut_whole {α : Type} {xs : List α} {lo hi : Option Int} (h1 : HT.sIx xs.length 0 lo = 0) (h2 : HT.sIx xs.length xs.length hi = xs.length) : cutG xs lo hi = xs := by
  unfold cutG
  rw [h1, h2]
  simp
theorem reps_ints {K : PySem.W.Frag} {T : Tab} {F : Hp} {m : List Addr} : ∀ ns : List Int, Reps K T F m (ns.map .int) (ns.map V.int)
  | [] => .nil
  | n :: r => .cons .int (reps_ints r)
theorem cut_map {ns : List Int} {lo hi : Option Int} : cutV (ns.map V.int) lo hi = (cutG ns lo hi).map V.int := by
  unfold cutV cutG
  rw [List.length_map, ← List.map_drop, ← List.map_take]
theorem de_slice {lo hi : Option Expr} {wl wh : WO} {p2 : Pos} (h : DE X z e w) (hl : DO X z lo wl) (hh : DO X z hi wh) : DE X z (.Subscript e (.Slice lo hi none p2) pos) (wSl w wl wh) := fun Wd tk =>
  peI (pe_slice (sl_list.or sl_tupA) (h Wd tk) (hl Wd tk) (hh Wd tk)) fun σ H Q ⟨F, m, μ, ρ, Qd, S, h, k⟩ =>
    ⟨F, m, μ, ρ, _, S, h, fun F1 m1 μ1 d1 v1 H1 x1 S1 r1 q1 => ⟨F1, m1, μ1, ρ, _, S1, q1, fun F2 m2 μ2 lo H2 x2 S2 q2 => ⟨F2, m2, μ2, ρ, _, S2, q2, fun F3 m3 μ3 hi H3 x3 S3 q3 => by
      have r3 := S3.view (r1.mono (x2.trans x3).gr)
      have kk : Fin X.K z F3 m3 H3 ρ σ Qd Q := fun F4 m4 μ4 d4 v4 H4 x4 => k F4 m4 μ4 d4 v4 H4 (x1.trans (x2.trans (x3.trans x4)))
      cases e : slD (look μ3 d1) lo hi with
      | none => rw [e] at q3; exact q3.elim
      | some d =>
        rw [e] at q3
        generalize look μ3 d1 = dd at *
        unfold slD at e
        split at e
        · injection e with e
          subst e
          obtain ⟨a, vs, rfl, h1, r4⟩ := r3.list S3.same
          exact .inl ⟨a, vs, rfl, SqL.of h1, fun p hp => kk.lst S3 hp (r4.cut lo hi) q3⟩
        · injection e with e
          subst e
          obtain ⟨a, vs, rfl, h1, r4⟩ := r3.tup S3.same
          refine .inr ⟨a, vs, rfl, h1, fun ⟨e1, e2⟩ => ?_, fun _ p hp => kk.tup S3 hp (r4.cut lo hi) q3⟩
          rw [← r4.length] at e1 e2
          rw [cut_whole e1 e2] at q3
          cases r3 with | of r3 => exact kk.now S3 r3 q3
        · injection e with e
          subst e
          obtain ⟨a, rfl, h1⟩ := r3.scr S3.same
          refine .inl ⟨a, _, rfl, h1, fun p hp => ?_⟩
          rw [cut_map]
          exact kk.lst S3 hp (reps_ints _) q3
        · cases e⟩⟩⟩

/-! ### arguments, displays -/
abbrev WA := Slots → Sto → (List D → Sto → Prop) → QX → Prop
def tDA (K : PySem.W.Frag) (z : Zx) (Wd : WXd) (w : WA) : TA := fun σ H Q => ∃ F m μ ρ Qd, SimZ K z F m μ ρ σ H ∧ w ρ μ Qd (fun x μ' => Wd x ρ μ') ∧
  ∀ F' m' μ' ds vs H', Ext F m H F' m' H' → SimZ K z F' m' μ' ρ σ H' → Reps K z.T F' m' ds vs → Qd ds μ' → Q vs H'
def DA (X : Cx) (z : Zx) (es : List Expr) (w : WA) : Prop := ∀ Wd, Takes X (XW X.K z Wd) → PA X es (tDA X.K z Wd w)
theorem paI {X : Cx} {e : List Expr} {t t' : TA} (h : PA X e t) (f : ∀ σ H Q, t' σ H Q → t σ H Q) : PA X e t' := ⟨fun pos pins s σ H Q I q => h.run pos pins s σ H Q I (f _ _ _ q)⟩
def aNil : WA := fun _ μ Q _ => Q [] μ
def aCons (w : WE) (r : WA) : WA := fun ρ μ Q E => w ρ μ (fun x μ1 => r ρ μ1 (fun xs μ2 => Q (x :: xs) μ2) E) E
variable {es : List Expr} {wr : WA}
theorem da_nil : DA X z [] aNil := fun Wd tk => paI pa_nil fun σ H Q ⟨F, m, μ, ρ, Qd, S, h, k⟩ => k _ _ _ _ _ _ (Ext.refl _ _ _) S .nil h
theorem da_cons (h : DE X z e w) (hr : DA X z es wr) (hs : starEach (e :: es) X.env = (false, eval e X.env) :: starEach es X.env := by rfl) : DA X z (e :: es) (aCons w wr) := fun Wd tk =>
  paI (pa_cons (h Wd tk) (hr Wd tk) hs) fun σ H Q ⟨F, m, μ, ρ, Qd, S, h, k⟩ => ⟨F, m, μ, ρ, _, S, h, fun F1 m1 μ1 d1 v1 H1 x1 S1 r1 q1 => ⟨F1, m1, μ1, ρ, _, S1, q1, fun F2 m2 μ2 ds vs H2 x2 S2 r2 q2 =>
    k _ _ _ _ _ _ (x1.trans x2) S2 (.cons (r1.mono x2.gr) r2) q2⟩⟩
def wTup (w : WA) : WE := fun ρ μ Q E => w ρ μ (fun xs μ1 => match lineB xs.length with
  | true => Q (.tup xs) μ1
  | false => False) E
def wLst (w : WA) : WE := fun ρ μ Q E => w ρ μ (fun xs μ1 => match lineB xs.length with
  | true => Q (.lst xs) μ1
  | false => False) E
theorem de_tup {x1} (h : DA X z es wr) : DE X z (.Tuple es x1 pos) (wTup wr) := fun Wd tk =>
  peI (pe_tup (h Wd tk)) fun σ H Q ⟨F, m, μ, ρ, Qd, S, h, k⟩ => ⟨F, m, μ, ρ, _, S, h, fun F1 m1 μ1 ds vs H1 x1 S1 r1 q1 => by
    cases e : lineB ds.length with
    | false => rw [e] at q1; exact q1.elim
    | true =>
      rw [e] at q1
      refine ⟨by rw [← r1.length]; exact lineB_le e, fun p hp => ?_⟩
      have kk : Fin X.K z F1 m1 H1 ρ σ Qd Q := fun F4 m4 μ4 d4 v4 H4 x4 => k F4 m4 μ4 d4 v4 H4 (x1.trans x4)
      exact kk.tup S1 hp r1 q1⟩
theorem de_lst (h : DA X z es wr) : DE X z (.List es pos) (wLst wr) := fun Wd tk =>
  peI (pe_lst (h Wd tk)) fun σ H Q ⟨F, m, μ, ρ, Qd, S, h, k⟩ => ⟨F, m, μ, ρ, _, S, h, fun F1 m1 μ1 ds vs H1 x1 S1 r1 q1 => by
    cases e : lineB ds.length with
    | false => rw [e] at q1; exact q1.elim
    | true =>
      rw [e] at q1
      refine ⟨by rw [← r1.length]; exact lineB_le e, fun p hp => ?_⟩
      have kk : Fin X.K z F1 m1 H1 ρ σ Qd Q := fun F4 m4 μ4 d4 v4 H4 x4 => k F4 m4 μ4 d4 v4 H4 (x1.trans x4)
      exact kk.lst S1 hp r1 q1⟩
end
end Pk

/-! The data layer, part H: statements, targets, loops, comprehensions. -/
namespace Pk
open PySem PySem.Spec PyProof.Rows L2

/-! ### ends, statements -/
structure DEnds where
  nx : Slots → Sto → Prop
  rt : QD
  bk : Slots → Sto → Prop
  ct : Slots → Sto → Prop
  ex : WXd
abbrev WS := DEnds → Slots → Sto → Prop
structure FinS (K : PySem.W.Frag) (z : Zx) (F : Hp) (m : List Addr) (H : Hp) (De : DEnds) (Dd : Ends) : Prop where
  nx : ∀ F' m' μ' ρ' σ' H', Ext F m H F' m' H' → SimZ K z F' m' μ' ρ' σ' H' → De.nx ρ' μ' → Dd.nx σ' H'
  rt : ∀ F' m' μ' ρ' σ' d v H', Ext F m H F' m' H' → SimZ K z F' m' μ' ρ' σ' H' → Rep K z.T F' m' d v → De.rt d μ' → Dd.rt v H'
  bk : ∀ F' m' μ' ρ' σ' H', Ext F m H F' m' H' → SimZ K z F' m' μ' ρ' σ' H' → De.bk ρ' μ' → Dd.bk σ' H'
  ct : ∀ F' m' μ' ρ' σ' H', Ext F m H F' m' H' → SimZ K z F' m' μ' ρ' σ' H' → De.ct ρ' μ' → Dd.ct σ' H'
theorem FinS.on {K : PySem.W.Frag} {z : Zx} {F F' : Hp} {m m' : List Addr} {H H' : Hp} {De : DEnds} {Dd : Ends} (k : FinS K z F m H De Dd) (x : Ext F m H F' m' H') : FinS K z F' m' H' De Dd :=
  ⟨fun _ _ _ _ _ _ y => k.nx _ _ _ _ _ _ (x.trans y), fun _ _ _ _ _ _ _ _ y => k.rt _ _ _ _ _ _ _ _ (x.trans y), fun _ _ _ _ _ _ y => k.bk _ _ _ _ _ _ (x.trans y), fun _ _ _ _ _ _ y => k.ct _ _ _ _ _ _ (x.trans y)⟩
def tDS (K : PySem.W.Frag) (z : Zx) (Wd : WXd) (w : WS) : TS := fun Dd σ H => ∃ F m μ ρ De, SimZ K z F m μ ρ σ H ∧ w De ρ μ ∧ De.ex = Wd ∧ FinS K z F m H De Dd
def DS (X : Cx) (z : Zx) (st : Stmt) (w : WS) : Prop := ∀ Wd, Takes X (XW X.K z Wd) → PS X st (tDS X.K z Wd w)
def DSs (X : Cx) (z : Zx) (st : List Stmt) (w : WS) : Prop := ∀ Wd, Takes X (XW X.K z Wd) → PSs X st (tDS X.K z Wd w)
theorem psI {X : Cx} {e : Stmt} {t t' : TS} (h : PS X e t) (f : ∀ D σ H, t' D σ H → t D σ H) : PS X e t' := ⟨fun pins s σ H D I q => h.run pins s σ H D I (f _ _ _ q)⟩
theorem pssI {X : Cx} {e : List Stmt} {t t' : TS} (h : PSs X e t) (f : ∀ D σ H, t' D σ H → t D σ H) : PSs X e t' := ⟨fun pins s σ H D I q => h.run pins s σ H D I (f _ _ _ q)⟩
def sNil : WS := fun De ρ μ => De.nx ρ μ
def sSeq (a b : WS) : WS := fun De ρ μ => a { De with nx := b De } ρ μ
def sRet (w : WE) : WS := fun De ρ μ => w ρ μ De.rt (fun x μ' => De.ex x ρ μ')
def sRetN : WS := fun De _ μ => De.rt .non μ
def sExpr (w : WE) : WS := fun De ρ μ => w ρ μ (fun _ μ1 => De.nx ρ μ1) (fun x μ' => De.ex x ρ μ')
def sIf (t : WT) (a b : WS) : WS := fun De ρ μ => t ρ μ (fun c μ1 => match c with
  | true => a De ρ μ1
  | false => b De ρ μ1) (fun x μ' => De.ex x ρ μ')
def sBrk : WS := fun De ρ μ => De.bk ρ μ
def sCont : WS := fun De ρ μ => De.ct ρ μ
def sNever : WS := fun _ _ _ => False
section
variable {X : Cx} {z : Zx} {st : Stmt} {rest : List Stmt} {a b : WS} {e : Expr} {w : WE} {pos : Pos}
theorem dss_nil : DSs X z [] sNil := fun Wd tk => pssI pss_nil fun D σ H ⟨F, m, μ, ρ, De, S, h, _, k⟩ => k.nx _ _ _ _ _ _ (Ext.refl _ _ _) S h
theorem dss_cons (h1 : DS X z st a) (h2 : DSs X z rest b) : DSs X z (st :: rest) (sSeq a b) := fun Wd tk => pssI (pss_cons (h1 Wd tk) (h2 Wd tk)) fun D σ H ⟨F, m, μ, ρ, De, S, h, ex, k⟩ =>
  ⟨F, m, μ, ρ, _, S, h, ex, ⟨fun F' m' μ' ρ' σ' H' x S' q => ⟨F', m', μ', ρ', De, S', q, ex, k.on x⟩, k.rt, k.bk, k.ct⟩⟩
theorem dss_one (h1 : DS X z st a) : DSs X z [st] a := fun Wd tk => pssI (pss_one (h1 Wd tk)) fun _ _ _ h => h
theorem ds_ret (h : DE X z e w) : DS X z (.Return (some e) pos) (sRet w) := fun Wd tk => psI (ps_ret (h Wd tk)) fun D σ H ⟨F, m, μ, ρ, De, S, h, ex, k⟩ =>
  ⟨F, m, μ, ρ, _, S, by rw [← ex]; exact h, fun F' m' μ' d v H' x S' r q => k.rt _ _ _ _ _ _ _ _ x S' r q⟩
theorem ds_retN : DS X z (.Return none pos) sRetN := fun Wd tk => psI ps_retN fun D σ H ⟨F, m, μ, ρ, De, S, h, ex, k⟩ => k.rt _ _ _ _ _ _ _ _ (Ext.refl _ _ _) S .non h
theorem ds_expr (h : DE X z e w) (hs : swapsWith e none pos.line X.env = pure false := by rfl) : DS X z (.Expr e pos) (sExpr w) := fun Wd tk => psI (ps_expr (h Wd tk) hs) fun D σ H ⟨F, m, μ, ρ, De, S, h, ex, k⟩ =>
  ⟨F, m, μ, ρ, _, S, by rw [← ex]; exact h, fun F' m' μ' d v H' x S' r q => k.nx _ _ _ _ _ _ x S' q⟩
theorem ds_if {c : Expr} {p q : List Stmt} {t : WT} (hc : DT X z c t) (ha : DSs X z p a) (hb : DSs X z q b) : DS X z (.If c p q pos) (sIf t a b) := fun Wd tk => psI (ps_if (hc Wd tk) (ha Wd tk) (hb Wd tk)) fun D σ H ⟨F, m, μ, ρ, De, S, h, ex, k⟩ =>
  ⟨F, m, μ, ρ, (fun c μ1 => match c with | true => a De ρ μ1 | false => b De ρ μ1), S, by rw [← ex]; exact h, fun F' m' μ' c H' x S' q => by
    cases c with
    | true =>
      rw [if_pos rfl]
      exact ⟨F', m', μ', ρ, De, S', q, ex, k.on x⟩
    | false =>
      rw [if_neg (by decide)]
      exact ⟨F', m', μ', ρ, De, S', q, ex, k.on x⟩⟩
theorem ds_pass : DS X z (.Pass pos) sNil := fun Wd tk => psI ps_pass fun D σ H ⟨F, m, μ, ρ, De, S, h, _, k⟩ => k.nx _ _ _ _ _ _ (Ext.refl _ _ _) S h
theorem ds_break : DS X z (.Break pos) sBrk := fun Wd tk => psI ps_break fun D σ H ⟨F, m, μ, ρ, De, S, h, _, k⟩ => k.bk _ _ _ _ _ _ (Ext.refl _ _ _) S h
theorem ds_continue : DS X z (.Continue pos) sCont := fun Wd tk => psI ps_continue fun D σ H ⟨F, m, μ, ρ, De, S, h, _, k⟩ => k.ct _ _ _ _ _ _ (Ext.refl _ _ _) S h
theorem ds_never : DS X z st sNever := fun Wd tk => psI ps_never fun D σ H ⟨F, m, μ, ρ, De, S, h, _, k⟩ => h
theorem dss_never : DSs X z rest sNever := fun Wd tk => pssI pss_never fun D σ H ⟨F, m, μ, ρ, De, S, h, _, k⟩ => h
end

/-! ### targets -/
abbrev GF := D → Slots → Option Slots
def Off (js : List Nat) (σ σ' : L2.St) : Prop := σ'.length = σ.length ∧ ∀ i, i ∉ js → σ'[i]? = σ[i]?
def tGD (K : PySem.W.Frag) (z : Zx) (g : GF) (js : List Nat) : TG := fun v σ H Q => ∃ F m μ ρ d ρ', SimZ K z F m μ ρ σ H ∧ Rep K z.T F m d v ∧ g d ρ = some ρ' ∧ ∀ σ', SimZ K z F m μ ρ' σ' H → Off js σ σ' → Q σ' H
def DG (X : Cx) (z : Zx) (tg : Expr) (g : GF) (js : List Nat) : Prop := PG X tg (tGD X.K z g js)
def gEach : List GF → List D → Slots → Option Slots
  | [], [], ρ => some ρ
  | g :: gs, d :: ds, ρ => match g d ρ with
    | some ρ1 => gEach gs ds ρ1
    | none => none
  | _, _, _ => none
def tGs (K : PySem.W.Frag) (z : Zx) (gs : List GF) (js : List Nat) : TGs := fun vs σ H Q => ∃ F m μ ρ ds ρ', SimZ K z F m μ ρ σ H ∧ Reps K z.T F m ds vs ∧ gEach gs ds ρ = some ρ' ∧ ∀ σ', SimZ K z F m μ ρ' σ' H → Off js σ σ' → Q σ' H
def DGs (X : Cx) (z : Zx) (es : List Expr) (gs : List GF) (js : List Nat) : Prop := PGs X es (tGs X.K z gs js)
def gN (i : Nat) : GF := fun d ρ => some (ρ.set i (some d))
def gT (gs : List GF) : GF := fun d ρ => match d with
  | .tup ds => gEach gs ds ρ
  | _ => none
section
variable {X : Cx} {z : Zx} {pos : Pos}
theorem pgI {X : Cx} {e : Expr} {t t' : TG} (h : PG X e t) (f : ∀ v σ H Q, t' v σ H Q → t v σ H Q) : PG X e t' := ⟨fun pins s σ H v u Q I r q => h.run pins s σ H v u Q I r (f _ _ _ _ q)⟩
theorem pgsI {X : Cx} {e : List Expr} {t t' : TGs} (h : PGs X e t) (f : ∀ v σ H Q, t' v σ H Q → t v σ H Q) : PGs X e t' := ⟨fun pins s σ H vs us Q I r q => h.run pins s σ H vs us Q I r (f _ _ _ _ q)⟩
theorem dg_name {i : Nat} {x : Str} (hN : X.N.Nodup) (hi : X.N[i]? = some x) (hx : Loc X.env.scope x) (hf : X.fn x = true ∨ X.env.scope.names.lookup x = some .local := by first | exact .inl rfl | exact .inr rfl | assumption) : DG X z (.Name x pos) (gN i) [i] :=
  pgI (pg_name hN hi hx hf) fun v σ H Q ⟨F, m, μ, ρ, d, ρ', S, r, e, k⟩ => by
    injection e with e
    subst e
    refine k _ (S.set r) ⟨by simp, fun j hj => ?_⟩
    rw [List.getElem?_set_ne]
    intro e
    exact hj (by simp [e])
theorem dgs_nil : DGs X z [] [] [] := pgsI pgs_nil fun vs σ H Q ⟨F, m, μ, ρ, ds, ρ', S, r, e, k⟩ => by
  cases r with
  | nil =>
    injection e with e
    subst e
    exact ⟨rfl, k _ S ⟨rfl, fun _ _ => rfl⟩⟩
  | cons _ _ => cases e
theorem dgs_cons {e : Expr} {es : List Expr} {g : GF} {gs : List GF} {j js : List Nat} (h1 : DG X z e g j) (h2 : DGs X z es gs js) (hs : (assignEach (e :: es) X.env).map (·.2) = assign e X.env :: (assignEach es X.env).map (·.2) := by rfl) : DGs X z (e :: es) (g :: gs) (j ++ js) :=
  pgsI (pgs_cons h1 h2 hs) fun vs σ H Q ⟨F, m, μ, ρ, ds, ρ', S, r, e, k⟩ => by
    cases r with
    | nil => cases e
    | @cons d v ds vs r rs =>
      unfold gEach at e
      cases q : g d ρ with
      | none =>
        rw [q] at e
        cases e
      | some ρ1 =>
        rw [q] at e
        refine ⟨v, vs, rfl, F, m, μ, ρ, d, ρ1, S, r, q, fun σ1 S1 o1 => ⟨F, m, μ, ρ1, ds, ρ', S1, rs, e, fun σ2 S2 o2 => k σ2 S2 ⟨o2.1.trans o1.1, fun i hi => ?_⟩⟩⟩
        rw [List.mem_append, not_or] at hi
        rw [o2.2 i hi.2, o1.2 i hi.1]
theorem dg_tup {es : List Expr} {k : Nat} {gs : List GF} {js : List Nat} {n : Nat} (hc : X.calm = true) (h : DGs X z es gs js) (hl : gs.length = n := by rfl)
    (hn : (assignEach es X.env).length = n := by rfl) (hst : (assignEach es X.env).findIdx? (·.1) = none := by rfl) : DG X z (.Tuple es k pos) (gT gs) js :=
  pgI (pg_tup hc h hn hst) fun v σ H Q ⟨F, m, μ, ρ, d, ρ', S, r, e, k⟩ => by
    unfold gT at e
    split at e
    · rename_i ds
      cases r with
      | tup hq rs =>
        have len : ∀ (gs : List GF) (ds : List D) (ρ ρ' : Slots), gEach gs ds ρ = some ρ' → gs.length = ds.length := by
          intro gs
          induction gs with
          | nil => intro ds ρ ρ' e; cases ds with
            | nil => rfl
            | cons _ _ => cases e
          | cons g gs ih => intro ds ρ ρ' e; cases ds with
            | nil => cases e
            | cons d ds =>
              unfold gEach at e
              split at e
              · exact congrArg (· + 1) (ih _ _ _ e)
              · cases e
        exact ⟨_, _, rfl, Same.sqt S.same hq, by rw [← rs.length, ← len _ _ _ _ e]; exact hl, F, m, μ, ρ, _, ρ', S, rs, e, k⟩
    · cases e

/-! ### assignments -/
def sAsg (w : WE) (g : GF) : WS := fun De ρ μ => w ρ μ (fun d μ1 => match g d ρ with
  | some ρ1 => De.nx ρ1 μ1
  | none => False) (fun x μ' => De.ex x ρ μ')
variable {e tg : Expr} {w : WE} {g : GF} {js : List Nat}
theorem asg_run {Wd : WXd} {D : Ends} {σ : L2.St} {H : Hp} (h : tDS X.K z Wd (sAsg w g) D σ H) : tAsg (tD X.K z Wd w) (tGD X.K z g js) D σ H := by
  obtain ⟨F, m, μ, ρ, De, S, h, ex, k⟩ := h
  refine ⟨F, m, μ, ρ, _, S, by rw [← ex]; exact h, fun F' m' μ' d v H' x S' r q => ?_⟩
  cases e : g d ρ with
  | none =>
    rw [e] at q
    exact q.elim
  | some ρ1 =>
    rw [e] at q
    exact ⟨F', m', μ', ρ, d, ρ1, S', r, e, fun σ2 S2 _ => k.nx _ _ _ _ _ _ x S2 q⟩
theorem ds_asg (he : DE X z e w) (hg : DG X z tg g js) (hs : swapsWithSole [tg] e pos.line X.env = pure false := by rfl) (hw : swappedStores [tg] e X.env = pure none := by rfl)
    (h1 : (assignEach [tg] X.env).map (·.2) = [assign tg X.env] := by rfl) : DS X z (.Assign [tg] e pos) (sAsg w g) := fun Wd tk => psI (ps_asg (he Wd tk) hg hs hw h1) fun D σ H h => asg_run h
/-- a, b = x, y: no tuple is made -/
def sPar2 (i j : Nat) (wa : WA) : WS := fun De ρ μ => wa ρ μ (fun ds μ1 => match ds with
  | [a, b] => De.nx ((ρ.set i (some a)).set j (some b)) μ1
  | _ => False) (fun x μ' => De.ex x ρ μ')
theorem ds_par {i j : Nat} {x y : Str} {a b : Expr} {wa : WA} {px py pt : Pos} {kt k2 pt2} (hc : X.calm = true) (hN : X.N.Nodup) (hi : X.N[i]? = some x) (hj : X.N[j]? = some y) (hij : i ≠ j)
    (hx : X.env.scope.names.lookup x = some .local) (hy : X.env.scope.names.lookup y = some .local) (ha : DA X z [a, b] wa)
    (hw : swappedStores [.Tuple [.Name x px, .Name y py] kt pt] (.Tuple [a, b] k2 pt2) X.env = pure (some [x, y])) (hs : swapsWithSole [.Tuple [.Name x px, .Name y py] kt pt] (.Tuple [a, b] k2 pt2) pos.line X.env = pure false := by rfl) :
    DS X z (.Assign [.Tuple [.Name x px, .Name y py] kt pt] (.Tuple [a, b] k2 pt2) pos) (sPar2 i j wa) := fun Wd tk => psI (ps_par hc hN hi hj hij hx hy (ha Wd tk) hw hs) fun D σ H ⟨F, m, μ, ρ, De, S, h, ex, k⟩ =>
  ⟨F, m, μ, ρ, (fun ds μ1 => match ds with | [a, b] => De.nx ((ρ.set i (some a)).set j (some b)) μ1 | _ => False), S, by rw [← ex]; exact h, fun F' m' μ' ds vs H' x S' r q => by
    cases r with
    | nil => exact q.elim
    | @cons d1 v1 ds vs r1 r =>
      cases r with
      | nil => exact q.elim
      | @cons d2 v2 ds vs r2 r =>
        cases r with
        | nil => exact ⟨v1, v2, rfl, k.nx _ _ _ _ _ _ x ((S'.set r1).set r2) q⟩
        | cons _ _ => exact q.elim⟩
def sPar3 (i j l : Nat) (wa : WA) : WS := fun De ρ μ => wa ρ μ (fun ds μ1 => match ds with
  | [a, b, c] => De.nx (((ρ.set i (some a)).set j (some b)).set l (some c)) μ1
  | _ => False) (fun x μ' => De.ex x ρ μ')
theorem ds_par3 {i j l : Nat} {x y u : Str} {a b c : Expr} {wa : WA} {px py pz pt : Pos} {kt k2 pt2} (hc : X.calm = true) (hN : X.N.Nodup) (hi : X.N[i]? = some x) (hj : X.N[j]? = some y) (hl : X.N[l]? = some u) (hij : i ≠ j) (hil : i ≠ l) (hjl : j ≠ l)
    (hx : X.env.scope.names.lookup x = some .local) (hy : X.env.scope.names.lookup y = some .local) (hz : X.env.scope.names.lookup u = some .local) (ha : DA X z [a, b, c] wa)
    (hw : swappedStores [.Tuple [.Name x px, .Name y py, .Name u pz] kt pt] (.Tuple [a, b, c] k2 pt2) X.env = pure (some [x, y, u])) (hs : swapsWithSole [.Tuple [.Name x px, .Name y py, .Name u pz] kt pt] (.Tuple [a, b, c] k2 pt2) pos.line X.env = pure false := by rfl) :
    DS X z (.Assign [.Tuple [.Name x px, .Name y py, .Name u pz] kt pt] (.Tuple [a, b, c] k2 pt2) pos) (sPar3 i j l wa) := fun Wd tk => psI (ps_par3 hc hN hi hj hl hij hil hjl hx hy hz (ha Wd tk) hw hs) fun D σ H ⟨F, m, μ, ρ, De, S, h, ex, k⟩ =>
  ⟨F, m, μ, ρ, (fun ds μ1 => match ds with | [a, b, c] => De.nx (((ρ.set i (some a)).set j (some b)).set l (some c)) μ1 | _ => False), S, by rw [← ex]; exact h, fun F' m' μ' ds vs H' x S' r q => by
    cases r with
    | nil => exact q.elim
    | @cons d1 v1 ds vs r1 r =>
      cases r with
      | nil => exact q.elim
      | @cons d2 v2 ds vs r2 r =>
        cases r with
        | nil => exact q.elim
        | @cons d3 v3 ds vs r3 r =>
          cases r with
          | nil => exact ⟨v1, v2, v3, rfl, k.nx _ _ _ _ _ _ x (((S'.set r1).set r2).set r3) q⟩
          | cons _ _ => exact q.elim⟩

/-! ### what a for walks -/
abbrev WI := Slots → Sto → (List D → Sto → Prop) → QX → Prop
/-- J gives these -/
structure JOk (K : PySem.W.Frag) (T : Tab) (F : Hp) (m : List Addr) (J : It) (ds : List D) : Prop where
  go : ∀ i H d, Same F H → ds[i]? = some d → J.go i H
  stop : ∀ i H, Same F H → ds.length ≤ i → J.stop i H
  yld : ∀ i H x H' d, Same F H → ds[i]? = some d → J.yld i H x H' → (H' = H ∧ Rep K T F m d x) ∨ ∃ es t vs, d = .tup es ∧ x = .ref t ∧ H t = none ∧ H' = upd H t (.tup vs) ∧ Reps K T F m es vs
def tDI (K : PySem.W.Frag) (z : Zx) (Wd : WXd) (w : WI) : TI := fun σ H R => ∃ F m μ ρ Qd, SimZ K z F m μ ρ σ H ∧ w ρ μ Qd (fun x μ' => Wd x ρ μ') ∧
  ∀ F' m' μ' ds J H', Ext F m H F' m' H' → SimZ K z F' m' μ' ρ σ H' → JOk K z.T F' m' J ds → Qd ds μ' → R J H'
def DI (X : Cx) (z : Zx) (tg iter : Expr) (w : WI) : Prop := ∀ Wd, Takes X (XW X.K z Wd) → PI X tg iter (tDI X.K z Wd w)
theorem piI {X : Cx} {tg e : Expr} {t t' : TI} (h : PI X tg e t) (f : ∀ σ H Q, t' σ H Q → t σ H Q) : PI X tg e t' := ⟨fun pins s σ H R I q => h.run pins s σ H R I (f _ _ _ q)⟩
def forW (g : GF) (wb : WS) : List D → WS
  | [], De, ρ, μ => De.nx ρ μ
  | d :: r, De, ρ, μ => match g d ρ with
    | some ρ1 => wb ⟨fun ρ2 μ2 => forW g wb r De ρ2 μ2, De.rt, De.nx, fun ρ2 μ2 => forW g wb r De ρ2 μ2, De.ex⟩ ρ1 μ
    | none => False
def sFor (wi : WI) (g : GF) (wb : WS) : WS := fun De ρ μ => wi ρ μ (fun ds μ1 => forW g wb ds De ρ μ1) (fun x μ' => De.ex x ρ μ')
/-- the next item is taken -/
theorem JOk.next {J : It} {K : PySem.W.Frag} {F F1 : Hp} {m m1 : List Addr} {ds : List D} {μ : Sto} {ρ : Slots} {σ : L2.St} {H H' : Hp} {i : Nat} {d : D} {x : V} (j : JOk K z.T F m J ds) (gr : Gr F m F1 m1) (S : SimZ K z F1 m1 μ ρ σ H)
    (e : ds[i]? = some d) (y : J.yld i H x H') : ∃ F2, Ext F1 m1 H F2 m1 H' ∧ SimZ K z F2 m1 μ ρ σ H' ∧ Rep K z.T F2 m1 d x := by
  rcases j.yld i H x H' d (gr.fr.trans S.same) e y with ⟨e, r⟩ | ⟨es, t, vs, e1, e2, n, e3, r⟩
  · subst e
    exact ⟨F1, Ext.refl _ _ _, S, r.mono gr⟩
  · subst e1 e2 e3
    obtain ⟨x2, S2⟩ := S.new n (.tup vs)
    exact ⟨_, x2, S2, .tup (SqT.of upd_same) (r.mono (gr.trans x2.gr))⟩
theorem ds_for {iter : Expr} {body : List Stmt} {wi : WI} {wb : WS} (hp : PassesOwn (model X.prog X.w) X.A X.env X.xe) (hc : X.calm = true) (hi : DI X z tg iter wi) (hg : DG X z tg g js) (hb : DSs X z body wb) (hs : ∀ x, foldedSetIterable iter X.env x = pure x := by intro _; rfl) : DS X z (.For tg iter body [] pos) (sFor wi g wb) := fun Wd tk =>
  psI (ps_for hp hc (hi Wd tk) hg (hb Wd tk) hs) fun Dd σ H ⟨F, m, μ, ρ, De, S, h, ex, k⟩ =>
    ⟨F, m, μ, ρ, (fun ds μ1 => forW g wb ds De ρ μ1), S, by rw [← ex]; exact h, fun F' m' μ' ds J H' x S' j q => by
      have k' := k.on x
      refine ⟨fun i mm σ H => mm + i = ds.length ∧ ∃ F1 m1 μ1 ρ1, Ext F' m' H' F1 m1 H ∧ SimZ X.K z F1 m1 μ1 ρ1 σ H ∧ forW g wb (ds.drop i) De ρ1 μ1, ⟨ds.length, rfl, F', m', μ', ρ, Ext.refl _ _ _, S', q⟩, fun i mm σ1 H1 ⟨hm, F1, m1, μ1, ρ1, x1, S1, q1⟩ => ?_⟩
      cases e : ds[i]? with
      | none =>
        have hl : ds.length ≤ i := List.getElem?_eq_none_iff.mp e
        rw [List.drop_eq_nil_of_le hl] at q1
        exact .inl ⟨j.stop i H1 (x1.gr.fr.trans S1.same) hl, k'.nx _ _ _ _ _ _ x1 S1 q1⟩
      | some d =>
        obtain ⟨hl, ed⟩ := List.getElem?_eq_some_iff.mp e
        rw [List.drop_eq_getElem_cons hl, ed] at q1
        refine .inr ⟨j.go i H1 d (x1.gr.fr.trans S1.same) e, fun σ H => ∃ F1 m1 μ1 ρ1, Ext F' m' H' F1 m1 H ∧ SimZ X.K z F1 m1 μ1 ρ1 σ H ∧ forW g wb (ds.drop (i + 1)) De ρ1 μ1, fun σ' H' h => ⟨mm - 1, by omega, by omega, h⟩, fun y H2 hy => ?_⟩
        obtain ⟨F2, x2, S2, r2⟩ := j.next x1.gr S1 e hy
        unfold forW at q1
        cases eg : g d ρ1 with
        | none =>
          rw [eg] at q1
          exact q1.elim
        | some ρ2 =>
          rw [eg] at q1
          have x12 := x1.trans x2
          exact ⟨F2, m1, μ1, ρ1, d, ρ2, S2, r2, eg, fun σ3 S3 _ => ⟨F2, m1, μ1, ρ2, _, S3, q1, ex, ⟨fun F4 m4 μ4 ρ4 σ4 H4 x4 S4 q4 => ⟨F4, m4, μ4, ρ4, x12.trans x4, S4, q4⟩,
            fun F4 m4 μ4 ρ4 σ4 d4 v4 H4 x4 => k'.rt _ _ _ _ _ _ _ _ (x12.trans x4), fun F4 m4 μ4 ρ4 σ4 H4 x4 => k'.nx _ _ _ _ _ _ (x12.trans x4),
            fun F4 m4 μ4 ρ4 σ4 H4 x4 S4 q4 => ⟨F4, m4, μ4, ρ4, x12.trans x4, S4, q4⟩⟩⟩⟩⟩
end
end Pk

/-! The data layer, part I1: enumerate over a tuple. -/
namespace Pk
open PySem PySem.Spec PyProof.Rows L2
set_option maxHeartbeats 1000000 in
theorem meets_enum1 {v : Value} {o : Obj} {H : Heap → Prop} (B : Begins v o H) : Meets (Builtin.«enumerate.__new__» ⟨[.type "enumerate", v], []⟩)
    (fun _ R s => H s.heap ∧ R (.ok (.ret (.ref (s.heap.push o).objs.size))) { s with heap := (s.heap.push o).push { cls := .type "enumerate", data := .fields #[.none, .bool false, .ref s.heap.objs.size, rawInt 0, .none, .none] } }) :=
  .of_wp fun prog w A R s hh => by
    obtain ⟨hp, g, d, tk, os⟩ := s
    obtain ⟨h1, hR⟩ := hh
    have hsub := sub_enumerate
    have qq : ∀ {A' : Around} {E : Value → Shared → Prop} {Q : Value → Shared → Prop}, Q (.ref hp.objs.size) ⟨hp.push o, g, d, tk, os⟩ → wpAny (model prog w) A' (pyIter v) Q E ⟨hp, g, d, tk, os⟩ :=
      fun q => B.iter prog w _ _ ⟨hp, g, d, tk, os⟩ _ h1 q
    wp_walk using qq
    refine wpAny_stack_any fun st => wpAny_pure ?_
    split
    · rename_i c _ _ _ _ _
      cases (c == Value.type "enumerate") <;> (wp_walk using qq) <;> exact ⟨_, rfl, hR⟩
    · wp_walk using qq
      exact ⟨_, rfl, hR⟩
end Pk

/-! The data layer, part I2: what a for walks. -/
namespace Pk
open PySem PySem.Spec PyProof.Rows L2
/-- enumerate of a tuple that stands -/
def IteT (K : PySem.W.Frag) (a : Addr) : It := ⟨fun i H => ∃ (xs : List V) (x : V), SqT K H a xs ∧ xs[i]? = some x,
  fun i H v H' => ∃ t x, v = .ref t ∧ H t = none ∧ H' = upd H t (.tup [.int (i : Nat), x]) ∧ ∀ xs, SqT K H a xs → xs[i]? = some x,
  fun i H => ∃ xs : List V, SqT K H a xs ∧ xs.length ≤ i⟩
theorem turn_enumT {P : Program} {w : World} {K : PySem.W.Frag} {elts : List Expr} {kk : Nat} {tpos : Pos} (a e it : Addr) (hea : e ≠ it) (hia : a ≠ it) (haa : a ≠ e) :
    Turn P w K (.Tuple elts kk tpos) (IteT K a) [e, it] e (fun i h => (∃ old, IsEnum h e it ((i : Nat) : Int) old) ∧ h.IsTupleIter it a i) where
  mem := by simp
  obj := fun i h st b hb => by
    obtain ⟨⟨old, he⟩, ⟨o, ho, hc, hd⟩⟩ := st
    have e' : b = e ∨ b = it := by simpa using hb
    rcases e' with r | r
    · rw [r]
      exact ⟨_, he, fun v q => by cases q⟩
    · rw [r]
      exact ⟨o, ho, fun v q => by rw [hd] at q; cases q⟩
  keep := fun i h h' st k => by
    obtain ⟨⟨old, he⟩, hi⟩ := st
    exact ⟨⟨old, k e (by simp) _ he⟩, hi.at fun o q => k it (by simp) o q⟩
  item := by
    intro X hP hw hK hc i pins s σ H E I hf st hg
    subst hP hw hK
    obtain ⟨⟨old, he⟩, hit⟩ := st
    obtain ⟨xs, x, hq, hx⟩ := hg
    obtain ⟨its, rv, p, hz⟩ := I.tuple hq
    obtain ⟨u, hu, ru⟩ := rv.get hx
    have hel : e < s.heap.objs.size := Heap.lt_size he
    have hil : it < s.heap.objs.size := by
      obtain ⟨_, q, _⟩ := hit
      exact Heap.lt_size q
    have hlt : i < its.toArray.size := by
      have := (List.getElem?_eq_some_iff.mp hu).1
      simpa using this
    have hD := Draws.tuple (prog := X.prog) (w := X.w) (A := X.A.in1) (I.ok.hd hc) it a hia its.toArray
    refine wpAny_pyNext_enum_itemD hD he ⟨hit, p⟩ hlt hea (by simp only [List.mem_cons, List.not_mem_nil, or_false, not_or]; exact ⟨hea, Ne.symm haa⟩) fun y h' tk hy ho hst hT hsz hk => ?_
    have ey : y = u := by
      have h2 : its.toArray[i]? = some u := by simpa using hu
      rw [h2] at hy
      exact (Option.some.inj hy).symm
    subst ey
    refine ⟨_, rfl, wpAny_letOwnedTupleGo_enum (s := { s with heap := h', toks := tk + 1 }) ho fun h'' he' sb => ?_⟩
    have hT2 : h''.get? s.heap.objs.size = some { cls := .type "tuple", data := .seq #[.int i tk, y] } := (sb.2 _ (Nat.ne_of_gt hel)).trans hT
    have new : ObjOk X.prog X.w (upd H s.heap.objs.size (.tup [.int (i : Nat), x])) h'' s.heap.objs.size (.tup [.int (i : Nat), x]) :=
      ⟨by show 2 ≤ sizeLine; decide, [.int i tk, y], .cons ⟨_, rfl⟩ (.cons ru .nil), ⟨_, hT2, rfl, _, rfl⟩⟩
    have I1 : Inv X pins σ (upd H s.heap.objs.size (.tup [.int (i : Nat), x])) { s with heap := h'', toks := tk + 1 } :=
      I.turnedNew (ch := [e, it]) (fun b ob hb q => (sb.2 b (fun r => hb (by simp [r]))).trans (hk b ob (fun r => hb (by simp [r])) (fun r => hb (by simp [r])) q)) hf (Nat.le_refl _) new
    refine ⟨.ref s.heap.objs.size, _, I1, rfl, ⟨_, x, rfl, I.hok.fresh (Nat.le_refl _), rfl, fun ys hy => by rw [I.tuple_inj hy hq]; exact hx⟩, ⟨⟨y, ?_⟩, hst.1.at fun o q => (sb.2 it (Ne.symm hea)).trans q⟩, fun b hb => ?_⟩
    · have e1 : ((i + 1 : Nat) : Int) = (i : Int) + 1 := by omega
      rw [e1]
      exact he'
    · have hb' : b < s.heap.objs.size := by
        have e' : b = e ∨ b = it := by simpa using hb
        rcases e' with r | r
        · rw [r]; exact hel
        · rw [r]; exact hil
      rw [upd_ne (Nat.ne_of_lt hb')]
      exact (hf b hb).1
  done := by
    intro X hP hw hK hc i pins s σ H E I hf st hg
    subst hP hw hK
    obtain ⟨⟨old, he⟩, hit⟩ := st
    obtain ⟨xs, hq, hx⟩ := hg
    obtain ⟨its, rv, p, hz⟩ := I.tuple hq
    obtain ⟨f0, f1, f2, f3, f4, f5⟩ := hf it (by simp)
    have hl := rv.length
    have hhd := I.ok.hd hc
    have none_ : its.toArray[i]? = none := by
      rw [List.getElem?_toArray]
      exact List.getElem?_eq_none (by omega)
    have hT : s.TypeIs (.ref e) "enumerate" := ⟨_, he, rfl⟩
    unfold pyNext
    refine wpAny_bind (wpAny_attempt (wpAny_callSpecial?_slot (name := Str.ofString "__next__") hT F.slot_enumerate_next
      (wpAny_call_entry F.slot_enumerate_next hT F.entry_enumerate_next ?_ (F.args_enumerate_next_1 _))))
    show wpAny _ _ (field (.ref e) 2 >>= _) _ _ _
    refine wpAny_bind (wpAny_field he rfl (x := .ref it) rfl ?_)
    refine wpAny_bind (wpAny_nextOf_tuple_end (A := X.A.in1) hhd hit p none_ fun h' x he' hx' => ?_)
    obtain ⟨o, ho, hc⟩ := hx'
    refine wpAny_bind (wpAny_isInstance (T := "StopIteration") (b := true) ⟨o, ho, hc⟩ isSubtype_stop ?_)
    exact wpAny_pure ⟨rfl, I.turned (t' := s.toks) (fun b o hb q => he' b o hb q) f0 f1 f3 f4 f5⟩
  self := fun A i s Q E st h => wpAny_pyIter_enum st.1.choose_spec h
end Pk

/-! The data layer, part I3: sources of loops. -/
namespace Pk
open PySem PySem.Spec PyProof.Rows L2 RZ
def signs : Tx → List D
  | [] => []
  | c :: r => .str [c] :: signs r
/-- what is walked, if it stands still -/
def seqD : D → Option (List D)
  | .lst xs => some xs
  | .tup xs => some xs
  | .ptp xs => some xs
  | .ttp xs => some xs
  | .str s => some (signs s)
  | .scr xs => some (xs.map .int)
  | _ => none
def enumD : Nat → List D → List D
  | _, [] => []
  | n, d :: r => .tup [.int n, d] :: enumD (n + 1) r
def zipD : List D → List D → List D
  | a :: r, b :: s => .tup [a, b] :: zipD r s
  | _, _ => []
def rngD : Int → Nat → List D
  | _, 0 => []
  | i, n + 1 => .int i :: rngD (i + 1) n
theorem signs_at : ∀ (s : Tx) (i : Nat), (signs s)[i]? = (s[i]?).map fun c => .str [c]
  | [], i => by simp [signs]
  | c :: r, 0 => by simp [signs]
  | c :: r, i + 1 => by simpa [signs] using signs_at r i
theorem enumD_at : ∀ (n : Nat) (ds : List D) (i : Nat), (enumD n ds)[i]? = (ds[i]?).map fun d => .tup [.int ((n + i : Nat) : Int), d]
  | n, [], i => by simp [enumD]
  | n, d :: r, 0 => by simp [enumD]
  | n, d :: r, i + 1 => by
    have h := enumD_at (n + 1) r i
    simp only [enumD, List.getElem?_cons_succ, h]
    congr 1
    funext d
    rw [show n + 1 + i = n + (i + 1) by omega]
theorem zipD_at : ∀ (xs ys : List D) (i : Nat), (zipD xs ys)[i]? = match xs[i]?, ys[i]? with
    | some x, some y => some (.tup [x, y])
    | _, _ => none
  | [], _, i => by simp [zipD]
  | _ :: _, [], i => by
    simp only [zipD, List.getElem?_nil]
    split <;> simp_all
  | a :: r, b :: s, 0 => by simp [zipD]
  | a :: r, b :: s, i + 1 => by simpa [zipD] using zipD_at r s i
theorem rngD_at : ∀ (n : Nat) (a : Int) (i : Nat), (rngD a n)[i]? = if i < n then some (.int (a + i)) else none
  | 0, a, i => by simp [rngD]
  | n + 1, a, 0 => by simp [rngD]
  | n + 1, a, i + 1 => by
    have h := rngD_at n (a + 1) i
    simp only [rngD, List.getElem?_cons_succ, h]
    by_cases q : i < n
    · rw [if_pos q, if_pos (by omega)]
      congr 2
      omega
    · rw [if_neg q, if_neg (by omega)]
theorem enumD_len (n : Nat) (ds : List D) : (enumD n ds).length = ds.length := by
  induction ds generalizing n with
  | nil => rfl
  | cons d r ih => exact congrArg (· + 1) (ih _)
theorem rngD_len (n : Nat) (a : Int) : (rngD a n).length = n := by
  induction n generalizing a with
  | zero => rfl
  | succ n ih => exact congrArg (· + 1) (ih _)
theorem signs_len (s : Tx) : (signs s).length = s.length := by
  induction s with
  | nil => rfl
  | cons c r ih => exact congrArg (· + 1) ih
section
variable {K : PySem.W.Frag} {T : Tab} {F : Hp} {m : List Addr} {a b : Addr} {ds es : List D} {vs us : List V}
theorem Same.sql {K : PySem.W.Frag} {H H' : Hp} {a : Addr} {xs : List V} (e : Same H H') (h : SqL K H a xs) : SqL K H' a xs := e.seq h
theorem none_of {ds : List D} {vs : List V} {i : Nat} (r : Reps K T F m ds vs) (h : ds.length ≤ i) : vs.length ≤ i := by rw [← r.length]; exact h
theorem jok_list (h : SqL K F a vs) (r : Reps K T F m ds vs) : JOk K T F m (Itl K a) ds where
  go := fun i H d s e => by
    obtain ⟨v, h1, _⟩ := r.get e
    exact ⟨vs, v, s.seq h, h1⟩
  stop := fun i H s hl => ⟨vs, s.seq h, none_of r hl⟩
  yld := fun i H x H' d s e y => by
    obtain ⟨v, h1, h2⟩ := r.get e
    obtain ⟨e1, e2⟩ := y
    have := e2 vs (s.seq h)
    rw [h1] at this
    cases this
    exact .inl ⟨e1, h2⟩
theorem jok_tup (h : SqT K F a vs) (r : Reps K T F m ds vs) : JOk K T F m (Itt K a) ds where
  go := fun i H d s e => by
    obtain ⟨v, h1, _⟩ := r.get e
    exact ⟨vs, v, Same.sqt s h, h1⟩
  stop := fun i H s hl => ⟨vs, Same.sqt s h, none_of r hl⟩
  yld := fun i H x H' d s e y => by
    obtain ⟨v, h1, h2⟩ := r.get e
    obtain ⟨e1, e2⟩ := y
    have := e2 vs (Same.sqt s h)
    rw [h1] at this
    cases this
    exact .inl ⟨e1, h2⟩
theorem jok_str (s : Tx) : JOk K T F m (Its (tx s)) (signs s) where
  go := fun i H d _ e => by
    have := (List.getElem?_eq_some_iff.mp e).1
    rw [signs_len] at this
    show i < (tx s).cps.size
    simpa [tx] using this
  stop := fun i H _ hl => by
    rw [signs_len] at hl
    show (tx s).cps.size ≤ i
    simpa [tx] using hl
  yld := fun i H x H' d _ e y => by
    obtain ⟨e1, c, e2, e3⟩ := y
    rw [signs_at] at e
    have e4 : s[i]? = some c := by simpa [tx] using e2
    rw [e4] at e
    cases e
    subst e3
    exact .inl ⟨e1, .str⟩
theorem jok_enumL (h : SqL K F a vs) (r : Reps K T F m ds vs) : JOk K T F m (Ite K a) (enumD 0 ds) where
  go := fun i H d s e => by
    rw [enumD_at] at e
    cases q : ds[i]? with
    | none => rw [q] at e; cases e
    | some d =>
      obtain ⟨v, h1, _⟩ := r.get q
      exact ⟨vs, v, s.seq h, h1⟩
  stop := fun i H s hl => ⟨vs, s.seq h, none_of r (by rw [enumD_len] at hl; exact hl)⟩
  yld := fun i H x H' d s e y => by
    rw [enumD_at] at e
    obtain ⟨t, u, e1, n, e2, e3⟩ := y
    cases q : ds[i]? with
    | none => rw [q] at e; cases e
    | some d' =>
      rw [q] at e
      cases e
      obtain ⟨v, h1, h2⟩ := r.get q
      have := e3 vs (s.seq h)
      rw [h1] at this
      cases this
      refine .inr ⟨_, t, _, rfl, e1, n, e2, .cons ?_ (.cons h2 .nil)⟩
      rw [Nat.zero_add]
      exact .int
theorem jok_enumT (h : SqT K F a vs) (r : Reps K T F m ds vs) : JOk K T F m (IteT K a) (enumD 0 ds) where
  go := fun i H d s e => by
    rw [enumD_at] at e
    cases q : ds[i]? with
    | none => rw [q] at e; cases e
    | some d =>
      obtain ⟨v, h1, _⟩ := r.get q
      exact ⟨vs, v, Same.sqt s h, h1⟩
  stop := fun i H s hl => ⟨vs, Same.sqt s h, none_of r (by rw [enumD_len] at hl; exact hl)⟩
  yld := fun i H x H' d s e y => by
    rw [enumD_at] at e
    obtain ⟨t, u, e1, n, e2, e3⟩ := y
    cases q : ds[i]? with
    | none => rw [q] at e; cases e
    | some d' =>
      rw [q] at e
      cases e
      obtain ⟨v, h1, h2⟩ := r.get q
      have := e3 vs (Same.sqt s h)
      rw [h1] at this
      cases this
      refine .inr ⟨_, t, _, rfl, e1, n, e2, .cons ?_ (.cons h2 .nil)⟩
      rw [Nat.zero_add]
      exact .int
theorem zip_some {xs ys : List D} {i : Nat} {d : D} (e : (zipD xs ys)[i]? = some d) : ∃ x y, xs[i]? = some x ∧ ys[i]? = some y ∧ d = .tup [x, y] := by
  rw [zipD_at] at e
  split at e
  · rename_i x y h1 h2
    injection e with e
    exact ⟨x, y, h1, h2, e.symm⟩
  · cases e
theorem zip_none {xs ys : List D} {i : Nat} (e : (zipD xs ys).length ≤ i) : xs.length ≤ i ∨ ys.length ≤ i := by
  have h := List.getElem?_eq_none_iff.mpr e
  rw [zipD_at] at h
  cases q1 : xs[i]? with
  | none => exact .inl (List.getElem?_eq_none_iff.mp q1)
  | some x =>
    cases q2 : ys[i]? with
    | none => exact .inr (List.getElem?_eq_none_iff.mp q2)
    | some y => simp [q1, q2] at h
theorem jok_zipL (h : SqL K F a vs) (r : Reps K T F m ds vs) (h' : SqL K F b us) (r' : Reps K T F m es us) : JOk K T F m (Itz K a b) (zipD ds es) where
  go := fun i H d s e => by
    obtain ⟨x, y, e1, e2, _⟩ := zip_some e
    obtain ⟨v, h1, _⟩ := r.get e1
    obtain ⟨u, h2, _⟩ := r'.get e2
    exact ⟨vs, us, v, u, s.seq h, s.seq h', h1, h2⟩
  stop := fun i H s hl => ⟨vs, us, s.seq h, s.seq h', (zip_none hl).imp (none_of r) (none_of r')⟩
  yld := fun i H x H' d s e y => by
    obtain ⟨d1, d2, e1, e2, e3⟩ := zip_some e
    obtain ⟨v, h1, g1⟩ := r.get e1
    obtain ⟨u, h2, g2⟩ := r'.get e2
    obtain ⟨t, x1, y1, q1, n, q2, q3, q4⟩ := y
    have z1 := q3 vs (s.seq h)
    have z2 := q4 us (s.seq h')
    rw [h1] at z1
    rw [h2] at z2
    cases z1
    cases z2
    exact .inr ⟨_, t, _, e3, q1, n, q2, .cons g1 (.cons g2 .nil)⟩
theorem jok_zipT (h : SqT K F a vs) (r : Reps K T F m ds vs) (h' : SqT K F b us) (r' : Reps K T F m es us) : JOk K T F m (ItzT K a b) (zipD ds es) where
  go := fun i H d s e => by
    obtain ⟨x, y, e1, e2, _⟩ := zip_some e
    obtain ⟨v, h1, _⟩ := r.get e1
    obtain ⟨u, h2, _⟩ := r'.get e2
    exact ⟨vs, us, v, u, Same.sqt s h, Same.sqt s h', h1, h2⟩
  stop := fun i H s hl => ⟨vs, us, Same.sqt s h, Same.sqt s h', (zip_none hl).imp (none_of r) (none_of r')⟩
  yld := fun i H x H' d s e y => by
    obtain ⟨d1, d2, e1, e2, e3⟩ := zip_some e
    obtain ⟨v, h1, g1⟩ := r.get e1
    obtain ⟨u, h2, g2⟩ := r'.get e2
    obtain ⟨t, x1, y1, q1, n, q2, q3, q4⟩ := y
    have z1 := q3 vs (Same.sqt s h)
    have z2 := q4 us (Same.sqt s h')
    rw [h1] at z1
    rw [h2] at z2
    cases z1
    cases z2
    exact .inr ⟨_, t, _, e3, q1, n, q2, .cons g1 (.cons g2 .nil)⟩
theorem jok_rng (lo : Int) (n : Nat) : JOk K T F m (Itr lo n) (rngD lo n) where
  go := fun i H d _ e => by
    have := (List.getElem?_eq_some_iff.mp e).1
    rw [rngD_len] at this
    exact this
  stop := fun i H _ hl => by
    rw [rngD_len] at hl
    exact hl
  yld := fun i H x H' d _ e y => by
    obtain ⟨e1, e2⟩ := y
    rw [rngD_at] at e
    split at e
    · cases e
      subst e2
      exact .inl ⟨e1, .int⟩
    · cases e
end
end Pk

/-! The data layer, part I4: loops over sequences, ranges, enumerate, zip. -/
namespace Pk
open PySem PySem.Spec PyProof.Rows L2 RZ
def iSeq (w : WE) : WI := fun ρ μ Q E => w ρ μ (fun d μ1 => match seqD d with
  | some ds => Q ds μ1
  | none => False) E
def iEnm (w : WE) : WI := fun ρ μ Q E => w ρ μ (fun d μ1 => match d with
  | .lst ds => Q (enumD 0 ds) μ1
  | .tup ds => Q (enumD 0 ds) μ1
  | _ => False) E
def iZp (wa wb : WE) : WI := fun ρ μ Q E => wa ρ μ (fun d μ1 => wb ρ μ1 (fun e μ2 => match d, e with
  | .lst ds, .lst es => Q (zipD ds es) μ2
  | .tup ds, .tup es => Q (zipD ds es) μ2
  | _, _ => False) E) E
def rgOk : Int → Bool
  | .ofNat n => Nat.blt n 4611686018427387904
  | .negSucc n => Nat.blt n 4611686018427387904
theorem rgOk_of {i : Int} (h1 : -4611686018427387904 ≤ i) (h2 : i < 4611686018427387904) : rgOk i = true := by
  cases i with
  | ofNat n => exact Nat.ble_eq_true_of_le (by have : (n : Int) < 4611686018427387904 := h2; omega)
  | negSucc n => exact Nat.ble_eq_true_of_le (by omega)
def iRg1 (w : WE) : WI := fun ρ μ Q E => w ρ μ (fun d μ1 => match d with
  | .int j => match rgOk j with
    | true => Q (rngD 0 j.toNat) μ1
    | false => False
  | _ => False) E
def iRg2 (wa wb : WE) : WI := fun ρ μ Q E => wa ρ μ (fun d μ1 => wb ρ μ1 (fun e μ2 => match d, e with
  | .int i, .int j => match rgOk i && rgOk j with
    | true => Q (rngD i (j - i).toNat) μ2
    | false => False
  | _, _ => False) E) E
/-- a list, a tuple or a text, walked -/
def iAny (K : PySem.W.Frag) (t : TE) : TI := fun σ H R => t σ H fun x H1 => (∃ a, x = .ref a ∧ (∃ xs, SqL K H1 a xs) ∧ R (Itl K a) H1) ∨ (∃ a, x = .ref a ∧ (∃ xs, SqT K H1 a xs) ∧ R (Itt K a) H1) ∨ ∃ s, x = .str s ∧ R (Its s) H1
section
variable {X : Cx} {z : Zx} {pos : Pos} {tg e e2 : Expr} {w wa wb : WE}
theorem pi_any {t : TE} (he : PE X e t) : PI X tg e (iAny X.K t) := by
  refine ⟨fun pins s σ H R I h => ?_⟩
  refine thn (he.run pins s σ H _ I h) fun v s1 hh => ?_
  obtain ⟨x, H1, I1, r1, q⟩ := hh
  rcases q with ⟨a, e, ⟨xs, hq⟩, q⟩ | ⟨a, e, ⟨xs, hq⟩, q⟩ | ⟨s, e, q⟩
  · subst e
    cases r1
    obtain ⟨its, rv, p, hz⟩ := I1.list hq
    exact wpAny_pyIter_list p.isList (pi_one (tk := s1.toks) I1 _ (turn_list a _) ⟨_, Heap.get?_push_size _ rfl, rfl, rfl⟩ q)
  · subst e
    cases r1
    obtain ⟨its, rv, p, hz⟩ := I1.tuple hq
    exact wpAny_pyIter_tuple (show s1.heap.IsTuple a its.toArray from p) (pi_one (tk := s1.toks) I1 _ (turn_tuple a _) ⟨_, Heap.get?_push_size _ rfl, rfl, rfl⟩ q)
  · subst e
    obtain ⟨t, rfl⟩ := r1
    cases ha : s.cps.all (· < 128)
    · exact wpAny_pyIter_wide ha (pi_one (tk := s1.toks) I1 _ (turn_str _ s t "str_iterator" (.inr rfl)) ⟨_, Heap.get?_push_size _ rfl, rfl, rfl⟩ q)
    · exact wpAny_pyIter_ascii ha (pi_one (tk := s1.toks) I1 _ (turn_str _ s t "str_ascii_iterator" (.inl rfl)) ⟨_, Heap.get?_push_size _ rfl, rfl, rfl⟩ q)
theorem di_seq (h : DE X z e w) : DI X z tg e (iSeq w) := fun Wd tk => piI (pi_any (h Wd tk)) fun σ H R ⟨F, m, μ, ρ, Qd, S, h, k⟩ =>
  ⟨F, m, μ, ρ, (fun d μ1 => match seqD d with | some ds => Qd ds μ1 | none => False), S, h, fun F1 m1 μ1 d1 v1 H1 x1 S1 r1 q1 => by
    cases e : seqD d1 with
    | none => simp only [e] at q1
    | some ds =>
      simp only [e] at q1
      cases r1 with
      | tup h r =>
        cases e
        exact .inr (.inl ⟨_, rfl, ⟨_, Same.sqt S1.same h⟩, k _ _ _ _ _ _ x1 S1 (jok_tup h r) q1⟩)
      | lst h r =>
        cases e
        exact .inl ⟨_, rfl, ⟨_, SqL.of (S1.same _ _ h)⟩, k _ _ _ _ _ _ x1 S1 (jok_list (SqL.of h) r) q1⟩
      | ptp h hn r =>
        cases e
        have hq : SqT X.K F1 _ _ := .inl (.inr ⟨_, h⟩)
        exact .inr (.inl ⟨_, rfl, ⟨_, Same.sqt S1.same hq⟩, k _ _ _ _ _ _ x1 S1 (jok_tup hq r) q1⟩)
      | ttp h r =>
        cases e
        have hq : SqT X.K F1 _ _ := SqT.of h
        exact .inr (.inl ⟨_, rfl, ⟨_, Same.sqt S1.same hq⟩, k _ _ _ _ _ _ x1 S1 (jok_tup hq r) q1⟩)
      | scr h =>
        cases e
        exact .inl ⟨_, rfl, ⟨_, S1.same.seq h⟩, k _ _ _ _ _ _ x1 S1 (jok_list h (reps_ints _)) q1⟩
      | str =>
        cases e
        exact .inr (.inr ⟨_, rfl, k _ _ _ _ _ _ x1 S1 (jok_str _) q1⟩)
      | _ => cases e⟩
/-- enumerate(e), e a list or a tuple -/
def iEnA (K : PySem.W.Frag) (ta : TA) : TI := fun σ H R => ta σ H fun vs H1 => ∃ a, vs = [.ref a] ∧ ((∃ xs, SqL K H1 a xs ∧ R (Ite K a) H1) ∨ ∃ xs, SqT K H1 a xs ∧ R (IteT K a) H1)
theorem pi_enA {ta : TA} {p tpos : Pos} {elts : List Expr} {kk : Nat} (hg : Gl X "enumerate") (hm : X.mg "enumerate" = none) (ha : PA X [e] ta) (hs : starEach [e] X.env = [(false, eval e X.env)] := by rfl) : PI X (.Tuple elts kk tpos) (.Call (.Name "enumerate" p) [e] [] pos) (iEnA X.K ta) := by
  refine ⟨fun pins s σ H R I h => ?_⟩
  refine Call_ (ld_blt I hg hm boot_enumerate (PyProof.Rows.callWith_type1 (thn (ha.run pos pins s σ H _ I h) fun us s1 hh => ?_) hs rfl))
  obtain ⟨vs, H1, I1, r1, a, ex, q⟩ := hh
  subst ex
  cases r1 with
  | cons r rr =>
    cases rr
    cases r
    have fp2 : ∀ (b : Addr), b ∈ [s1.heap.objs.size + 1, s1.heap.objs.size] → FpOk X pins H1 b := fun b hb => by
      have hle : s1.heap.objs.size ≤ b := by
        have e' : b = s1.heap.objs.size + 1 ∨ b = s1.heap.objs.size := by simpa using hb
        rcases e' with r | r
        · rw [r]; exact Nat.le_add_right _ _
        · rw [r]; exact Nat.le_refl _
      exact I1.fpOk hle (I1.hok.fresh hle)
    rcases q with ⟨xs, hq, q⟩ | ⟨xs, hq, q⟩
    · obtain ⟨its, rv, p', hz⟩ := I1.list hq
      refine call_enumerate_list p'.isList fun h' he hit hsz hk => wpAny_pyIter_enum he ?_
      have I2 : Inv X pins σ H1 { s1 with heap := h' } := I1.kept (t' := s1.toks) hk
      exact ⟨s1.heap.objs.size + 1, [s1.heap.objs.size + 1, s1.heap.objs.size], _, _, H1, rfl, I2, turn_enum a (s1.heap.objs.size + 1) s1.heap.objs.size, ⟨⟨.none, he⟩, hit, Nat.succ_ne_self _⟩, fp2, q⟩
    · obtain ⟨its, rv, p', hz⟩ := I1.tuple hq
      have hal : a < s1.heap.objs.size := p'.lt
      have hB := begins_tuple a its.toArray
      refine callType_new F.called_enumerate (by decide) (F.typeCall_enumerate_1 _) (F.newCall_enumerate_1 _) (fun obj => F.args_object_init_2 obj _) F.entry_enumerate_new (meets_enum1 hB) ⟨p', ?_⟩
      generalize ho : ({ cls := .type "tuple_iterator", data := .fields #[.ref a, .int 0 0] } : Obj) = o
      have hz1 : (s1.heap.push o).objs.size = s1.heap.objs.size + 1 := Heap.size_push ..
      show _ ∧ _
      rw [hz1]
      have he : IsEnum ((s1.heap.push o).push { cls := .type "enumerate", data := .fields #[.none, .bool false, .ref s1.heap.objs.size, rawInt 0, .none, .none] }) (s1.heap.objs.size + 1) s1.heap.objs.size 0 .none := by
        have := Heap.get?_push_size (s1.heap.push o) (o := { cls := .type "enumerate", data := .fields #[.none, .bool false, .ref s1.heap.objs.size, rawInt 0, .none, .none] }) rfl
        rw [hz1] at this
        exact this
      refine ⟨⟨_, he, rfl⟩, wpAny_pyIter_enum he ?_⟩
      have hk : ∀ b u, s1.heap.get? b = some u → ((s1.heap.push o).push { cls := .type "enumerate", data := .fields #[.none, .bool false, .ref s1.heap.objs.size, rawInt 0, .none, .none] }).get? b = some u := fun b u x => Heap.get?_push_of_some _ (Heap.get?_push_of_some _ x)
      have I2 : Inv X pins σ H1 { s1 with heap := (s1.heap.push o).push { cls := .type "enumerate", data := .fields #[.none, .bool false, .ref s1.heap.objs.size, rawInt 0, .none, .none] } } := I1.kept (t' := s1.toks) hk
      have hit : ((s1.heap.push o).push { cls := .type "enumerate", data := .fields #[.none, .bool false, .ref s1.heap.objs.size, rawInt 0, .none, .none] }).IsTupleIter s1.heap.objs.size a 0 :=
        ⟨o, Heap.get?_push_of_some _ (Heap.get?_push_size _ (by rw [← ho]; rfl)), by rw [← ho], by rw [← ho]; rfl⟩
      exact ⟨s1.heap.objs.size + 1, [s1.heap.objs.size + 1, s1.heap.objs.size], _, _, H1, rfl, I2, turn_enumT a (s1.heap.objs.size + 1) s1.heap.objs.size (Nat.succ_ne_self _) (Nat.ne_of_lt hal) (Nat.ne_of_lt (Nat.lt_succ_of_lt hal)), ⟨⟨.none, he⟩, hit⟩, fp2, q⟩
theorem di_enum {p tpos : Pos} {elts : List Expr} {kk : Nat} (hg : Gl X "enumerate") (hm : X.mg "enumerate" = none) (h : DE X z e w) (hs : starEach [e] X.env = [(false, eval e X.env)] := by rfl) : DI X z (.Tuple elts kk tpos) (.Call (.Name "enumerate" p) [e] [] pos) (iEnm w) := fun Wd tk =>
  piI (pi_enA hg hm (da_cons h da_nil hs Wd tk) hs) fun σ H R ⟨F, m, μ, ρ, Qd, S, h, k⟩ =>
    ⟨F, m, μ, ρ, (fun ds μ1 => match ds with | [.lst ds] => Qd (enumD 0 ds) μ1 | [.tup ds] => Qd (enumD 0 ds) μ1 | _ => False), S, by
      refine cast (congrArg (fun f => w ρ μ f fun x μ' => Wd x ρ μ') ?_) h
      funext d μ1
      cases d <;> rfl, fun F1 m1 μ1 ds vs H1 x1 S1 r1 q1 => by
      cases r1 with
      | nil => exact q1.elim
      | cons r rs =>
        cases rs with
        | cons _ _ => cases r <;> exact q1.elim
        | nil =>
          cases r with
          | tup h r => exact ⟨_, rfl, .inr ⟨_, Same.sqt S1.same h, k _ _ _ _ _ _ x1 S1 (jok_enumT h r) q1⟩⟩
          | lst h r => exact ⟨_, rfl, .inl ⟨_, SqL.of (S1.same _ _ h), k _ _ _ _ _ _ x1 S1 (jok_enumL (SqL.of h) r) q1⟩⟩
          | _ => exact q1.elim⟩
theorem di_zip {p tpos : Pos} {elts : List Expr} {kk : Nat} (hg : Gl X "zip") (hm : X.mg "zip" = none) (h : DE X z e wa) (h2 : DE X z e2 wb) (hs : starEach [e, e2] X.env = (false, eval e X.env) :: starEach [e2] X.env := by rfl) (hs2 : starEach [e2] X.env = (false, eval e2 X.env) :: starEach [] X.env := by rfl)
    (hpl : (backTo pos (starEach [e2] X.env)).any (·.1) = false := by rfl) : DI X z (.Tuple elts kk tpos) (.Call (.Name "zip" p) [e, e2] [] pos) (iZp wa wb) := fun Wd tk =>
  piI (pi_zipA hg hm (da_cons h (da_cons h2 da_nil hs2) hs Wd tk) hs hpl) fun σ H R ⟨F, m, μ, ρ, Qd, S, h, k⟩ =>
    ⟨F, m, μ, ρ, (fun ds μ1 => match ds with | [.lst ds, .lst es] => Qd (zipD ds es) μ1 | [.tup ds, .tup es] => Qd (zipD ds es) μ1 | _ => False), S, by
      refine cast (congrArg (fun f => wa ρ μ f fun x μ' => Wd x ρ μ') ?_) h
      funext d μ1
      refine congrArg (fun f => wb ρ μ1 f fun x μ' => Wd x ρ μ') ?_
      funext e μ2
      cases d <;> cases e <;> rfl, fun F1 m1 μ1 ds vs H1 x1 S1 r1 q1 => by
      cases r1 with
      | nil => exact q1.elim
      | cons r rs =>
        cases rs with
        | nil => cases r <;> exact q1.elim
        | cons r' rs =>
          cases rs with
          | cons _ _ => cases r <;> cases r' <;> exact q1.elim
          | nil =>
            cases r with
            | tup h r =>
              cases r' with
              | tup h' r' => exact ⟨_, _, _, _, rfl, .inr ⟨Same.sqt S1.same h, Same.sqt S1.same h', k _ _ _ _ _ _ x1 S1 (jok_zipT h r h' r') q1⟩⟩
              | _ => exact q1.elim
            | lst h r =>
              cases r' with
              | lst h' r' => exact ⟨_, _, _, _, rfl, .inl ⟨SqL.of (S1.same _ _ h), SqL.of (S1.same _ _ h'), k _ _ _ _ _ _ x1 S1 (jok_zipL (SqL.of h) r (SqL.of h') r') q1⟩⟩
              | _ => exact q1.elim
            | _ => cases r' <;> exact q1.elim⟩
theorem rgOk_ok {i : Int} (h : rgOk i = true) : -(2 ^ 62) ≤ i ∧ i < 2 ^ 62 := by
  cases i with
  | ofNat n =>
    have := Nat.le_of_ble_eq_true (show Nat.ble (n + 1) 4611686018427387904 = true from h)
    simp only [Int.ofNat_eq_natCast]
    omega
  | negSucc n =>
    have := Nat.le_of_ble_eq_true (show Nat.ble (n + 1) 4611686018427387904 = true from h)
    omega
theorem di_range1 {p : Pos} (hg : Gl X "range") (hm : X.mg "range" = none) (h : DE X z e w) (hs : starEach [e] X.env = [(false, eval e X.env)] := by rfl) : DI X z tg (.Call (.Name "range" p) [e] [] pos) (iRg1 w) := fun Wd tk =>
  piI (pi_range1 hg hm (da_cons h da_nil hs Wd tk) hs) fun σ H R ⟨F, m, μ, ρ, Qd, S, h, k⟩ =>
    ⟨F, m, μ, ρ, (fun ds μ1 => match ds with | [.int j] => (match rgOk j with | true => Qd (rngD 0 j.toNat) μ1 | false => False) | _ => False), S, by
      refine cast (congrArg (fun f => w ρ μ f fun x μ' => Wd x ρ μ') ?_) h
      funext d μ1
      cases d <;> rfl, fun F1 m1 μ1 ds vs H1 x1 S1 r1 q1 => by
      cases r1 with
      | nil => exact q1.elim
      | cons r rs =>
        cases rs with
        | cons _ _ => cases r <;> exact q1.elim
        | nil =>
          cases r with
          | @int j =>
            cases e : rgOk j with
            | false => simp only [e] at q1
            | true =>
              simp only [e] at q1
              obtain ⟨g1, g2⟩ := rgOk_ok e
              exact ⟨_, rfl, g1, g2, k _ _ _ _ _ _ x1 S1 (jok_rng 0 _) q1⟩
          | _ => exact q1.elim⟩
theorem di_range2 {p : Pos} (hg : Gl X "range") (hm : X.mg "range" = none) (h : DE X z e wa) (h2 : DE X z e2 wb) (hs : starEach [e, e2] X.env = [(false, eval e X.env), (false, eval e2 X.env)] := by rfl) (hs2 : starEach [e2] X.env = [(false, eval e2 X.env)] := by rfl) :
    DI X z tg (.Call (.Name "range" p) [e, e2] [] pos) (iRg2 wa wb) := fun Wd tk =>
  piI (pi_range2 hg hm (da_cons h (da_cons h2 da_nil hs2) (by rw [hs, hs2]) Wd tk) hs hs2) fun σ H R ⟨F, m, μ, ρ, Qd, S, h, k⟩ =>
    ⟨F, m, μ, ρ, (fun ds μ1 => match ds with | [.int i, .int j] => (match rgOk i && rgOk j with | true => Qd (rngD i (j - i).toNat) μ1 | false => False) | _ => False), S, by
      refine cast (congrArg (fun f => wa ρ μ f fun x μ' => Wd x ρ μ') ?_) h
      funext d μ1
      refine congrArg (fun f => wb ρ μ1 f fun x μ' => Wd x ρ μ') ?_
      funext e μ2
      cases d <;> cases e <;> rfl, fun F1 m1 μ1 ds vs H1 x1 S1 r1 q1 => by
      cases r1 with
      | nil => exact q1.elim
      | cons r rs =>
        cases rs with
        | nil => cases r <;> exact q1.elim
        | cons r' rs =>
          cases rs with
          | cons _ _ => cases r <;> cases r' <;> exact q1.elim
          | nil =>
            cases r with
            | @int i =>
              cases r' with
              | @int j =>
                cases e : rgOk i && rgOk j with
                | false => simp only [e] at q1
                | true =>
                  simp only [e] at q1
                  obtain ⟨g0, g1⟩ := Bool.and_eq_true_iff.mp e
                  obtain ⟨a1, a2⟩ := rgOk_ok g0
                  obtain ⟨a3, a4⟩ := rgOk_ok g1
                  exact ⟨_, _, rfl, ⟨a1, a2, a3, a4⟩, k _ _ _ _ _ _ x1 S1 (jok_rng i _) q1⟩
              | _ => exact q1.elim
            | _ => cases r' <;> exact q1.elim⟩
end
end Pk

/-! The data layer, part J: comprehensions, new lists of one's own. -/
namespace Pk
open PySem PySem.Spec PyProof.Rows L2

/-- a new list: frozen, or of the store -/
def giveL (own : Bool) (ds : List D) (μ : Sto) (Q : QD) : Prop := match own with
  | false => Q (.lst ds) μ
  | true => Q (.mref μ.length) (μ ++ [.lst ds])
section
variable {K : PySem.W.Frag} {T : Tab} {F0 F F' H0 : Hp} {m0 m m' : List Addr} {μ μ' : Sto} {ρ : Slots} {σ : L2.St} {H H' : Hp} {p a : Addr} {ds : List D} {vs : List V}
theorem Sim.notIn (S : Sim K T F0 m0 H0 F m μ ρ σ H) (hp : H p = none) : p ∉ m := fun h => S.al p h hp
/-- the heap grows by what is not tracked -/
theorem Sim.more (S : Sim K T F0 m0 H0 F m μ ρ σ H) (hp : H p = none) (o : HO) : Ext F m H F m (upd H p o) ∧ Sim K T F0 m0 H0 F m μ ρ σ (upd H p o) :=
  ⟨⟨Gr.refl F m, fun b u e w n h => ⟨upd_keep hp b u e, n, h⟩, Up.upd (fun a z => by rw [hp] at z; cases z)⟩, S.grow (Same.refl F) (fun b u e => upd_keep hp b u (S.same b u e)) (upd_keep hp) (fun _ _ n => n)⟩
/-- p is younger than the entry -/
def Yng (F0 : Hp) (m0 : List Addr) (H0 : Hp) (p : Addr) : Prop := ∀ o, H0 p = some o → (∀ a, o ≠ .own a) → F0 p = none → p ∉ m0 → False
theorem Sim.yng (S : Sim K T F0 m0 H0 F m μ ρ σ H) (hp : H p = none) : Yng F0 m0 H0 p := fun o e w n h => by
  rw [(S.ext.frm p o e w n h).1] at hp
  cases hp
/-- a list that nobody tracks is changed -/
theorem Sim.poke (S : Sim K T F0 m0 H0 F m μ ρ σ H) (hp : H p = some (.lst vs)) (hf : F p = none) (hm : p ∉ m) (y : Yng F0 m0 H0 p) (us : List V) : Sim K T F0 m0 H0 F m μ ρ σ (upd H p (.lst us)) where
  ext := ⟨S.ext.gr, fun b o e w n h => by
    obtain ⟨e1, n1, h1⟩ := S.ext.frm b o e w n h
    refine ⟨?_, n1, h1⟩
    rw [upd_ne fun q => ?_]
    · exact e1
    · subst q
      exact y o e w n h, S.ext.up.trans (Up.upd (fun a z => by rw [hp] at z; cases z))⟩
  same := fun b o e => by
    rw [upd_ne (ne_of_none e hf)]
    exact S.same b o e
  len := S.len
  nd := S.nd
  al := fun a h e => by
    have q : a ≠ p := fun e => hm (e ▸ h)
    rw [upd_ne q] at e
    exact S.al a h e
  sto := fun i b o e1 e2 n => by
    obtain ⟨h1, h2⟩ := S.sto i b o e1 e2 n
    have q : b ≠ p := fun e => hm (e ▸ List.mem_of_getElem? e1)
    refine ⟨h1, ?_⟩
    cases o with
    | lst ds => obtain ⟨vs, e, r⟩ := h2; exact ⟨vs, by rw [upd_ne q]; exact e, r⟩
    | dct ds => obtain ⟨vs, e, r⟩ := h2; exact ⟨vs, by rw [upd_ne q]; exact e, r⟩
    | ins c ds =>
      obtain ⟨dx, vs, e, e2, n, l, r⟩ := h2
      have q2 : dx ≠ p := ne_of e2 hp (by intro z; cases z)
      exact ⟨dx, vs, by rw [upd_ne q]; exact e, by rw [upd_ne q2]; exact e2, n, l, r⟩
    | fz d => exact h2
    | gone => trivial
  sl := S.sl
  slot := S.slot
/-- .. is frozen -/
theorem Sim.freeze (S : Sim K T F0 m0 H0 F m μ ρ σ H) (hp : H p = some (.lst vs)) (hf : F p = none) (hm : p ∉ m) (y : Yng F0 m0 H0 p) : Sim K T F0 m0 H0 (upd F p (.lst vs)) m μ ρ σ H := by
  have x : Same F (upd F p (.lst vs)) := upd_keep hf
  refine ⟨⟨⟨S.ext.gr.fr.trans x, S.ext.gr.mem⟩, fun b o e w n h => ?_, S.ext.up⟩, fun b o e => ?_, S.len, S.nd, S.al, fun i b o e1 e2 n => ?_, S.sl, fun i d e => ?_⟩
  · obtain ⟨e1, n1, h1⟩ := S.ext.frm b o e w n h
    have q : b ≠ p := fun q => by
      subst q
      exact y o e w n h
    exact ⟨e1, by rw [upd_ne q]; exact n1, h1⟩
  · by_cases q : b = p
    · rw [q, upd_same] at e
      rw [q, hp]
      exact e
    · rw [upd_ne q] at e
      exact S.same b o e
  · obtain ⟨h1, h2⟩ := S.sto i b o e1 e2 n
    have q : b ≠ p := fun e => hm (e ▸ List.mem_of_getElem? e1)
    refine ⟨fun nf => by rw [upd_ne q]; exact h1 nf, ?_⟩
    cases o with
    | lst ds => obtain ⟨vs, e, r⟩ := h2; exact ⟨vs, e, r.mono ⟨x, [], by simp⟩⟩
    | dct ds => obtain ⟨vs, e, r⟩ := h2; exact ⟨vs, e, r.mono ⟨x, [], by simp⟩⟩
    | ins c ds =>
      obtain ⟨dx, vs, e, e2, n, l, r⟩ := h2
      have q2 : dx ≠ p := ne_of e2 hp (by intro z; cases z)
      exact ⟨dx, vs, e, e2, n, l, r.mono ⟨x, [], by simp⟩⟩
    | fz d => exact Rep.mono ⟨x, [], by simp⟩ h2
    | gone => trivial
  · obtain ⟨v, h1, h2⟩ := S.slot i d e
    exact ⟨v, h1, h2.mono ⟨x, [], by simp⟩⟩
/-- .. goes into the store -/
theorem Sim.keep {mo : MO} (S : Sim K T F0 m0 H0 F m μ ρ σ H) (hf : F p = none) (hm : p ∉ m) (y : Yng F0 m0 H0 p) (hr : MRep K T F m H p mo) (hg : mo ≠ .gone) (hz : mo.isFz = false := by rfl) : Sim K T F0 m0 H0 F (m ++ [p]) (μ ++ [mo]) ρ σ H := by
  have g : Gr F m F (m ++ [p]) := ⟨Same.refl F, [p], rfl⟩
  have mm : ∀ {a : Addr} {o : MO}, MRep K T F m H a o → MRep K T F (m ++ [p]) H a o := fun {a o} h => MRep.mono g (fun _ _ e => e) (fun _ _ n => n) h
  refine ⟨⟨S.ext.gr.trans g, fun b o e w n h => ?_, S.ext.up⟩, S.same, by simp [S.len], ?_, fun a h => ?_, fun i b o e1 e2 n => ?_, S.sl, fun i d e => ?_⟩
  · obtain ⟨e1, n1, h1⟩ := S.ext.frm b o e w n h
    refine ⟨e1, n1, fun q => ?_⟩
    rcases List.mem_append.mp q with q | q
    · exact h1 q
    · rw [List.mem_singleton.mp q] at e n h
      exact y o e w n h
  · rw [List.nodup_append]
    refine ⟨S.nd, by simp, fun a h b q => ?_⟩
    rw [List.mem_singleton.mp q]
    exact fun e => hm (e ▸ h)
  · rcases List.mem_append.mp h with h | h
    · exact S.al a h
    · rw [List.mem_singleton.mp h]
      obtain ⟨u, hu, _⟩ := hr.at hg hz
      rw [hu]
      simp
  · by_cases q : i < m.length
    · rw [List.getElem?_append_left q] at e1
      rw [List.getElem?_append_left (by rw [← S.len]; exact q)] at e2
      obtain ⟨h1, h2⟩ := S.sto i b o e1 e2 n
      exact ⟨h1, mm h2⟩
    · have q2 : i = m.length := by
        have := (List.getElem?_eq_some_iff.mp e1).1
        simp only [List.length_append, List.length_singleton] at this
        omega
      subst q2
      rw [List.getElem?_append_right (Nat.le_refl _), Nat.sub_self] at e1
      rw [S.len, List.getElem?_append_right (Nat.le_refl _), Nat.sub_self] at e2
      simp only [List.getElem?_cons_zero, Option.some.injEq] at e1 e2
      subst e1 e2
      exact ⟨fun _ => hf, mm hr⟩
  · obtain ⟨v, h1, h2⟩ := S.slot i d e
    exact ⟨v, h1, h2.mono g⟩
end
section
variable {X : Cx} {z : Zx}
/-- a new list that stands already -/
theorem give_run {F F1 : Hp} {m m1 : List Addr} {μ1 : Sto} {ρ : Slots} {σ : L2.St} {H H1 : Hp} {Qd : QD} {Q : VK} {own : Bool} {ds : List D} {vs : List V} {p : Addr} (k : Fin X.K z F m H ρ σ Qd Q) (hn : H p = none) (x : Ext F m H F1 m1 H1) (S : SimZ X.K z F1 m1 μ1 ρ σ H1)
    (hp : H1 p = some (.lst vs)) (hf : F1 p = none) (hm : p ∉ m1) (y : Yng z.F0 z.m0 z.H0 p) (r : Reps X.K z.T F1 m1 ds vs) (q : giveL own ds μ1 Qd) : Q (.ref p) H1 := by
  have np : ∀ b o, H b = some o → b ≠ p := fun b o e q => by rw [q, hn] at e; cases e
  cases own with
  | false =>
    have S2 := S.freeze hp hf hm y
    have g : Same F1 (upd F1 p (.lst vs)) := upd_keep hf
    refine k _ _ _ _ _ _ ⟨x.gr.trans ⟨g, [], by simp⟩, fun b o e w n h => ?_, x.up⟩ S2 (.lst upd_same (r.mono ⟨g, [], by simp⟩)) q
    obtain ⟨e1, n1, h1⟩ := x.frm b o e w n h
    exact ⟨e1, by rw [upd_ne (np b o e)]; exact n1, h1⟩
  | true =>
    have S2 := S.keep hf hm y (mo := .lst ds) ⟨vs, hp, r⟩ (fun z => by cases z)
    have g : Gr F1 m1 F1 (m1 ++ [p]) := ⟨Same.refl F1, [p], rfl⟩
    refine k _ _ _ _ _ _ ⟨x.gr.trans g, fun b o e w n h => ?_, x.up⟩ S2 (.mref ?_) q
    · obtain ⟨e1, n1, h1⟩ := x.frm b o e w n h
      refine ⟨e1, n1, fun q => ?_⟩
      rcases List.mem_append.mp q with q | q
      · exact h1 q
      · exact np b o e (List.mem_singleton.mp q)
    · rw [← S.len, List.getElem?_append_right (Nat.le_refl _), Nat.sub_self]
      rfl
theorem give_new {F : Hp} {m : List Addr} {μ : Sto} {ρ : Slots} {σ : L2.St} {H : Hp} {Qd : QD} {Q : VK} {own : Bool} {ds : List D} {vs : List V} {p : Addr} (k : Fin X.K z F m H ρ σ Qd Q) (S : SimZ X.K z F m μ ρ σ H) (hn : H p = none)
    (r : Reps X.K z.T F m ds vs) (q : giveL own ds μ Qd) : Q (.ref p) (upd H p (.lst vs)) := by
  obtain ⟨x, S1⟩ := S.more hn (.lst vs)
  exact give_run k hn x S1 upd_same (S.fNone hn) (S.notIn hn) (S.yng hn) r q

/-! ### comprehensions -/
def wipeD (ρ : Slots) : List Nat → Slots
  | [] => ρ
  | v :: vs => (wipeD ρ vs).set v none
def lcW (g : GF) (wt : WT) (we : WE) : List D → Slots → Sto → (List D → Sto → Prop) → Prop
  | [], _, μ, Q => Q [] μ
  | d :: r, ρ, μ, Q => match g d ρ with
    | some ρ1 => wt ρ1 μ (fun b μ1 => match b with
      | true => we ρ1 μ1 (fun y μ2 => lcW g wt we r ρ μ2 fun ys μ3 => Q (y :: ys) μ3) (fun _ _ => False)
      | false => lcW g wt we r ρ μ1 Q) (fun _ _ => False)
    | none => False
def tAll : WT := fun _ μ Q _ => Q true μ
def wLc (own : Bool) (wi : WI) (g : GF) (wt : WT) (we : WE) (vs : List Nat) : WE := fun ρ μ Q E => wi ρ μ (fun ds μ1 => match Nat.blt ds.length 16777216 with
  | true => lcW g wt we ds (wipeD ρ vs) μ1 fun ys μ2 => giveL own ys μ2 Q
  | false => False) E
theorem wipe_at (σ : L2.St) : ∀ (vs : List Nat) (i : Nat), (wipe σ vs)[i]? = if i ∈ vs ∧ i < σ.length then some none else σ[i]?
  | [], i => by simp [wipe]
  | v :: vs, i => by
    unfold wipe
    by_cases h : v = i
    · subst h
      by_cases hl : v < σ.length
      · rw [List.getElem?_set_self (by rw [wipe_length]; exact hl), if_pos ⟨List.mem_cons_self, hl⟩]
      · rw [if_neg (fun q => hl q.2), List.getElem?_eq_none (by rw [List.length_set, wipe_length]; omega), List.getElem?_eq_none (by omega)]
    · rw [List.getElem?_set_ne h, wipe_at σ vs i]
      have : (i ∈ v :: vs) ↔ i ∈ vs := by simp [Ne.symm h]
      simp only [this]
theorem wipe_off {js vs : List Nat} {σ σ' : L2.St} (o : Off js (wipe σ vs) σ') (hj : ∀ j, j ∈ js → j ∈ vs) : wipe σ' vs = wipe σ vs := by
  have hl : σ'.length = σ.length := o.1.trans (wipe_length σ vs)
  apply List.ext_getElem?
  intro i
  rw [wipe_at, wipe_at, hl]
  by_cases h : i ∈ vs ∧ i < σ.length
  · rw [if_pos h, if_pos h]
  · rw [if_neg h, if_neg h]
    by_cases hi : i ∈ vs
    · have hz : ¬ i < σ.length := fun q => h ⟨hi, q⟩
      rw [List.getElem?_eq_none (by omega), List.getElem?_eq_none (by omega)]
    · rw [o.2 i fun q => hi (hj i q), wipe_at, if_neg fun q => hi q.1]
theorem wipeD_len (ρ : Slots) : ∀ vs : List Nat, (wipeD ρ vs).length = ρ.length
  | [] => rfl
  | v :: vs => by unfold wipeD; rw [List.length_set, wipeD_len ρ vs]
theorem wipeD_some {ρ : Slots} {i : Nat} {d : D} : ∀ {vs : List Nat}, (wipeD ρ vs)[i]? = some (some d) → ρ[i]? = some (some d) ∧ i ∉ vs
  | [], h => ⟨h, by simp⟩
  | v :: vs, h => by
    unfold wipeD at h
    by_cases hi : v = i
    · subst hi
      by_cases hv : v < (wipeD ρ vs).length
      · rw [List.getElem?_set_self hv] at h
        cases h
      · rw [List.getElem?_eq_none (by simpa using hv)] at h
        cases h
    · rw [List.getElem?_set_ne hi] at h
      obtain ⟨h1, h2⟩ := wipeD_some h
      exact ⟨h1, by simp only [List.mem_cons, not_or]; exact ⟨fun e => hi e.symm, h2⟩⟩
theorem Sim.wiped {K : PySem.W.Frag} {F : Hp} {m : List Addr} {μ : Sto} {ρ : Slots} {σ : L2.St} {H : Hp} (S : SimZ K z F m μ ρ σ H) (vs : List Nat) : SimZ K z F m μ (wipeD ρ vs) (wipe σ vs) H :=
  S.slots (by rw [wipeD_len, wipe_length]; exact S.sl) fun i d e => by
    obtain ⟨h1, h2⟩ := wipeD_some e
    obtain ⟨v, h3, h4⟩ := S.slot i d h1
    exact ⟨v, by rw [wipe_at, if_neg fun q => h2 q.1]; exact h3, h4⟩
theorem iteY {p q : Prop} (h : p) : if true = true then p else q := by rw [if_pos rfl]; exact h
theorem iteN {p q : Prop} (h : q) : if false = true then p else q := by rw [if_neg (by decide)]; exact h
theorem lc_run {own : Bool} {ow : List (Str × Nat)} {wi : WI} {g : GF} {js : List Nat} {wt : WT} {we : WE} {Wd : WXd} {σ : L2.St} {H : Hp} {Q : VK} (hj : ∀ j, j ∈ js → j ∈ ow.map (·.2)) (h : tD X.K z Wd (wLc own wi g wt we (ow.map (·.2))) σ H Q) :
    tLc (tDI X.K z Wd wi) (tGD X.K z g js) (tDT X.K z (fun _ _ _ => False) wt) (tD X.K z (fun _ _ _ => False) we) (ow.map (·.2)) σ H Q := by
  obtain ⟨F, m, μ, ρ, Qd, S, h, k⟩ := h
  exact
    ⟨F, m, μ, ρ, (fun ds μ1 => match Nat.blt ds.length 16777216 with | true => lcW g wt we ds (wipeD ρ (ow.map (·.2))) μ1 fun ys μ2 => giveL own ys μ2 Qd | false => False), S, h, fun F' m' μ' ds J H' x S' j q Dd hD => by
      have k' : Fin X.K z F' m' H' ρ σ Qd Q := fun F4 m4 μ4 d4 v4 H4 x4 => k F4 m4 μ4 d4 v4 H4 (x.trans x4)
      cases hlen : Nat.blt ds.length 16777216 with
      | false => simp only [hlen] at q
      | true =>
        simp only [hlen] at q
        have hlt : ds.length < sizeLine := by rw [sizeLine_eq]; exact Nat.le_of_ble_eq_true hlen
        obtain ⟨x0, S0⟩ := S'.more hD (.lst [])
        refine ⟨fun i mm Hc => mm + i = ds.length ∧ ∃ F1 m1 μ1 acc vs, Ext F' m' H' F1 m1 Hc ∧ SimZ X.K z F1 m1 μ1 ρ σ Hc ∧ Hc Dd = some (.lst vs) ∧ F1 Dd = none ∧ Dd ∉ m1 ∧ Reps X.K z.T F1 m1 acc vs ∧ vs.length ≤ i ∧ lcW g wt we (ds.drop i) (wipeD ρ (ow.map (·.2))) μ1 fun ys μ2 => giveL own (acc ++ ys) μ2 Qd,
          ⟨ds.length, rfl, F', m', μ', [], [], x0, S0, upd_same, S'.fNone hD, S'.notIn hD, .nil, Nat.zero_le _, q⟩, fun i mm Hc ⟨hm, F1, m1, μ1, acc, vs, x1, S1, hDd, hfD, hmD, racc, hvl, q1⟩ => ?_⟩
        cases e : ds[i]? with
        | none =>
          have hl : ds.length ≤ i := List.getElem?_eq_none_iff.mp e
          rw [List.drop_eq_nil_of_le hl] at q1
          have q2 : giveL own acc μ1 Qd := by
            have : giveL own (acc ++ []) μ1 Qd := q1
            rw [List.append_nil] at this
            exact this
          exact .inl ⟨j.stop i Hc (x1.gr.fr.trans S1.same) hl, give_run k' hD x1 S1 hDd hfD hmD (S'.yng hD) racc q2⟩
        | some d =>
          obtain ⟨hl, ed⟩ := List.getElem?_eq_some_iff.mp e
          rw [List.drop_eq_getElem_cons hl, ed] at q1
          refine .inr ⟨j.go i Hc d (x1.gr.fr.trans S1.same) e, fun Hn => ∃ F1 m1 μ1 acc vs, Ext F' m' H' F1 m1 Hn ∧ SimZ X.K z F1 m1 μ1 ρ σ Hn ∧ Hn Dd = some (.lst vs) ∧ F1 Dd = none ∧ Dd ∉ m1 ∧ Reps X.K z.T F1 m1 acc vs ∧ vs.length ≤ i + 1 ∧
            lcW g wt we (ds.drop (i + 1)) (wipeD ρ (ow.map (·.2))) μ1 fun ys μ2 => giveL own (acc ++ ys) μ2 Qd, fun Hn h => ⟨mm - 1, by omega, by omega, h⟩, fun y H2 hy => ?_⟩
          obtain ⟨F2, x2, S2, r2⟩ := j.next x1.gr S1 e hy
          unfold lcW at q1
          cases eg : g d (wipeD ρ (ow.map (·.2))) with
          | none =>
            rw [eg] at q1
            exact q1.elim
          | some ρ2 =>
            rw [eg] at q1
            obtain ⟨hD2, hf2, hm2⟩ := x2.frm Dd _ hDd (fun _ z => by cases z) hfD hmD
            refine ⟨F2, m1, μ1, _, d, ρ2, S2.wiped _, r2, eg, fun σ3 S3 o3 => ⟨wipe_off o3 hj, F2, m1, μ1, ρ2, _, S3, q1, fun F3 m3 μ3 b H3 x3 S4 q4 => ?_⟩⟩
            have back : ∀ {F4 : Hp} {m4 : List Addr} {μ4 : Sto} {H4 : Hp}, SimZ X.K z F4 m4 μ4 ρ2 σ3 H4 → Gr F2 m1 F4 m4 → SimZ X.K z F4 m4 μ4 ρ σ H4 := fun {F4 m4 μ4 H4} S5 g5 => S5.slots S.sl fun i' d' e' => by
              obtain ⟨v, h1, h2⟩ := S2.slot i' d' e'
              exact ⟨v, h1, h2.mono g5⟩
            obtain ⟨hD3, hf3, hm3⟩ := x3.frm Dd _ hD2 (fun _ z => by cases z) hf2 hm2
            have x13 := x1.trans (x2.trans x3)
            cases b with
            | false =>
              refine iteN ?_
              exact ⟨F3, m3, μ3, acc, vs, x13, back S4 x3.gr, hD3, hf3, hm3, racc.mono (x2.trans x3).gr, Nat.le_succ_of_le hvl, q4⟩
            | true =>
              refine iteY ?_
              refine ⟨F3, m3, μ3, ρ2, _, S4, q4, fun F5 m5 μ5 d5 v5 H5 x5 S5 r5 q5 => ?_⟩
              obtain ⟨hD5, hf5, hm5⟩ := x5.frm Dd _ hD3 (fun _ z => by cases z) hf3 hm3
              have x15 := x13.trans x5
              have S6 := (back S5 (x3.trans x5).gr).poke hD5 hf5 hm5 (S'.yng hD) (vs ++ [v5])
              refine ⟨vs, hD5, Nat.lt_of_le_of_lt hvl (Nat.lt_trans hl hlt), F5, m5, μ5, acc ++ [d5], vs ++ [v5], ⟨x15.gr, fun b o e w n h => ?_, x15.up.trans (Up.upd (fun a z => by rw [hD5] at z; cases z))⟩, S6, upd_same, hf5, hm5, (racc.mono (x2.trans (x3.trans x5)).gr).append (.cons r5 .nil), by simp only [List.length_append, List.length_singleton]; omega, ?_⟩
              · obtain ⟨e1, n1, h1⟩ := x15.frm b o e w n h
                exact ⟨by rw [upd_ne (ne_of_none e hD)]; exact e1, n1, h1⟩
              · have : (fun ys μ3 => giveL own (acc ++ d5 :: ys) μ3 Qd) = fun ys μ2 => giveL own (acc ++ [d5] ++ ys) μ2 Qd := by
                  funext ys μ3
                  rw [List.append_assoc]
                  rfl
                rw [← this]
                exact q5⟩
theorem de_lc {own : Bool} {tg iter elt : Expr} {ifs : List Expr} {scope : Scope} {ow : List (Str × Nat)} {pos : Pos} {wi : WI} {g : GF} {js : List Nat} {wt : WT} {we : WE} (hc : X.calm = true) (hN : X.N.Nodup) (hi : DI X z tg iter wi) (ok : BlkOk X.N X.env.scope scope ow)
    (hj : ∀ j, j ∈ js → j ∈ ow.map (·.2)) (hg : ∀ (s : Shared) (H : Hp) (C : Addr) (cl : List (Str × Addr)) (fp : List Addr), DG (X.blk s H scope (compEnvC scope cl C X.env) fp) z tg g js)
    (ht : ∀ (s : Shared) (H : Hp) (C : Addr) (cl : List (Str × Addr)) (fp : List Addr), PTs (X.blk s H scope (compEnvC scope cl C X.env) fp) ifs (tDT X.K z (fun _ _ _ => False) wt))
    (he : ∀ (s : Shared) (H : Hp) (C : Addr) (cl : List (Str × Addr)) (fp : List Addr), DE (X.blk s H scope (compEnvC scope cl C X.env) fp) z elt we) (hs : ∀ x, foldedSetIterable iter X.env x = pure x := by intro _; rfl) :
    DE X z (.ListComp elt [⟨tg, iter, ifs, 0⟩] scope pos) (wLc own wi g wt we (ow.map (·.2))) := fun Wd tk =>
  peI (pe_lc (g := tGD X.K z g js) (tt := tDT X.K z (fun _ _ _ => False) wt) (te := tD X.K z (fun _ _ _ => False) we) hc hN (hi Wd tk) ok hg ht (fun s H C cl fp => he s H C cl fp (fun _ _ _ => False) (takes0.imp fun c d σ H q => by
    obtain ⟨_, _, _, _, _, _, _, q⟩ := q
    exact q)) hs) fun σ H Q h => lc_run hj h
/-- name = [..] on one line -/
theorem ds_setLc {own : Bool} {i : Nat} {y : Str} {py spos : Pos} {tg iter elt : Expr} {ifs : List Expr} {scope : Scope} {ow : List (Str × Nat)} {pos : Pos} {wi : WI} {g : GF} {js : List Nat} {wt : WT} {we : WE} (hc : X.calm = true) (hN : X.N.Nodup) (hi : DI X z tg iter wi) (ok : BlkOk X.N X.env.scope scope ow)
    (hj : ∀ j, j ∈ js → j ∈ ow.map (·.2)) (hg : ∀ (s : Shared) (H : Hp) (C : Addr) (cl : List (Str × Addr)) (fp : List Addr), DG (X.blk s H scope (compEnvC scope cl C X.env) fp) z tg g js)
    (ht : ∀ (s : Shared) (H : Hp) (C : Addr) (cl : List (Str × Addr)) (fp : List Addr), PTs (X.blk s H scope (compEnvC scope cl C X.env) fp) ifs (tDT X.K z (fun _ _ _ => False) wt))
    (he : ∀ (s : Shared) (H : Hp) (C : Addr) (cl : List (Str × Addr)) (fp : List Addr), DE (X.blk s H scope (compEnvC scope cl C X.env) fp) z elt we) (hy : X.N[i]? = some y := by rfl) (hyl : X.env.scope.names.lookup y = some .local := by rfl) (hk : X.env.scope.kind = .function := by rfl)
    (hl : (py.line == pos.line) = true := by rfl) (ha : (scope.names.any fun (n, k) => n == y && (k == .local || k == .cell)) = false := by rfl) (hs : ∀ x, foldedSetIterable iter X.env x = pure x := by intro _; rfl) :
    DS X z (.Assign [.Name y py] (.ListComp elt [⟨tg, iter, ifs, 0⟩] scope pos) spos) (sAsg (wLc own wi g wt we (ow.map (·.2))) (gN i)) := fun Wd tk =>
  psI (ps_setLc (g := tGD X.K z g js) (tt := tDT X.K z (fun _ _ _ => False) wt) (te := tD X.K z (fun _ _ _ => False) we) hc hN hy hyl (sw_true hk hyl hl ha) (hi Wd tk) ok hg ht (fun s H C cl fp => he s H C cl fp (fun _ _ _ => False) (takes0.imp fun c d σ H q => by
    obtain ⟨_, _, _, _, _, _, _, q⟩ := q
    exact q)) hs) fun D σ H ⟨F, m, μ, ρ, De, S, h, ex, k⟩ => by
    subst ex
    exact lc_run hj ⟨F, m, μ, ρ, (fun d μ1 => De.nx (ρ.set i (some d)) μ1), S, h, fun F' m' μ' d v H' x S' r q => k.nx _ _ _ _ _ _ x (S'.set r) q⟩
end
end Pk

/-! The data layer, part K: calls of builtins. -/
namespace Pk
open PySem PySem.Spec PyProof.Rows L2

abbrev BF := List D → Sto → QD → Prop
def BuOk (X : Cx) (z : Zx) (r : List V → Hp → VK → Prop) (w : BF) : Prop :=
  ∀ F m μ ρ σ H ds vs (Qd : QD) (Q : VK), SimZ X.K z F m μ ρ σ H → Reps X.K z.T F m ds vs → w ds μ Qd → Fin X.K z F m H ρ σ Qd Q → r vs H Q
def wBu (w : BF) (wa : WA) : WE := fun ρ μ Q E => wa ρ μ (fun ds μ1 => w ds μ1 Q) E
def b1 (f : D → Option D) : BF := fun ds μ Q => match ds with
  | [x] => match f (look μ x) with
    | some d => Q d μ
    | none => False
  | _ => False
def b2' (f : D → D → Option D) : BF := fun ds μ Q => match ds with
  | [x, y] => match f (look μ x) (look μ y) with
    | some d => Q d μ
    | none => False
  | _ => False
/-- a new list from a look at the argument -/
def b1L (own : Bool) (f : D → Option (List D)) : BF := fun ds μ Q => match ds with
  | [x] => match f (look μ x) with
    | some xs => giveL own xs μ Q
    | none => False
  | _ => False
section
variable {X : Cx} {z : Zx} {x : Str} {p pos : Pos} {e : Expr} {es : List Expr} {id T : String} {r : List V → Hp → VK → Prop} {w : BF} {wa : WA}
theorem bu_run {Wd : WXd} (ok : BuOk X z r w) {σ : L2.St} {H : Hp} {Q : VK} (h : tD X.K z Wd (wBu w wa) σ H Q) : tCB r (tDA X.K z Wd wa) σ H Q := by
  obtain ⟨F, m, μ, ρ, Qd, S, h, k⟩ := h
  exact ⟨F, m, μ, ρ, _, S, h, fun F1 m1 μ1 ds vs H1 x1 S1 r1 q1 => ok F1 m1 μ1 ρ σ H1 ds vs Qd Q S1 r1 q1 fun F4 m4 μ4 d4 v4 H4 x4 => k F4 m4 μ4 d4 v4 H4 (x1.trans x4)⟩
theorem de_callB (hc : CallR X (.builtin id) r) (ok : BuOk X z r w) (hg : Gl X x) (hm : X.mg x = none) (ha : DA X z (e :: es) wa) (hv : bootBuiltins x = some (.builtin id) := by rfl) (hn : x ≠ "__name__" := by decide) (hdb : (x == ("__debug__" : Str)) = false := by decide)
    (he : starEach (e :: es) X.env = (false, eval e X.env) :: starEach es X.env := by rfl) (hpl : (backTo pos (starEach es X.env)).any (·.1) = false := by rfl) : DE X z (.Call (.Name x p) (e :: es) [] pos) (wBu w wa) := fun Wd tk =>
  peI (pe_callB hc hg hm hv (ha Wd tk) hn hdb he hpl) fun σ H Q h => bu_run ok h
theorem de_callTy (hc : CallR X (.type T) r) (ok : BuOk X z r w) (hg : Gl X x) (hm : X.mg x = none) (ha : DA X z (e :: es) wa) (hv : bootBuiltins x = some (.type T) := by rfl) (hn : x ≠ "__name__" := by decide) (hdb : (x == ("__debug__" : Str)) = false := by decide)
    (he : starEach (e :: es) X.env = (false, eval e X.env) :: starEach es X.env := by rfl) (hpl : (backTo pos (starEach es X.env)).any (·.1) = false := by rfl) : DE X z (.Call (.Name x p) (e :: es) [] pos) (wBu w wa) := fun Wd tk =>
  peI (pe_callTy hc hg hm hv (ha Wd tk) hn hdb he hpl) fun σ H Q h => bu_run ok h
theorem BuOk.or {r' : List V → Hp → VK → Prop} (h : BuOk X z r w) (hi : ∀ xs H Q, r xs H Q → r' xs H Q) : BuOk X z r' w := fun F m μ ρ σ H ds vs Qd Q S rr q k => hi _ _ _ (h F m μ ρ σ H ds vs Qd Q S rr q k)
theorem CallR.or {f : Value} {r r' : List V → Hp → VK → Prop} (h : CallR X f r) (h' : CallR X f r') : CallR X f (fun xs H Q => r xs H Q ∨ r' xs H Q) := fun pins s σ H xs us Q I rr q => by
  rcases q with q | q
  · exact h pins s σ H xs us Q I rr q
  · exact h' pins s σ H xs us Q I rr q
/-- one argument, by its view -/
theorem bu1 {f : D → Option D} (h : ∀ F m μ ρ σ H x v d (Qd : QD) (Q : VK), SimZ X.K z F m μ ρ σ H → Vw X.K z.T F m H x v → f x = some d → Qd d μ → Fin X.K z F m H ρ σ Qd Q → r [v] H Q) : BuOk X z r (b1 f) := by
  intro F m μ ρ σ H ds vs Qd Q S rr q k
  unfold b1 at q
  split at q
  · rename_i x
    cases rr with
    | cons r1 r2 =>
      cases r2
      split at q
      · rename_i d e
        exact h F m μ ρ σ H _ _ d Qd Q S (S.view r1) e q k
      · exact q.elim
  · exact q.elim
theorem bu1L {own : Bool} {f : D → Option (List D)} (h : ∀ F m μ ρ σ H x v ds (Qd : QD) (Q : VK), SimZ X.K z F m μ ρ σ H → Vw X.K z.T F m H x v → f x = some ds → giveL own ds μ Qd → Fin X.K z F m H ρ σ Qd Q → r [v] H Q) : BuOk X z r (b1L own f) := by
  intro F m μ ρ σ H ds vs Qd Q S rr q k
  unfold b1L at q
  split at q
  · rename_i x
    cases rr with
    | cons r1 r2 =>
      cases r2
      split at q
      · rename_i d e
        exact h F m μ ρ σ H _ _ d Qd Q S (S.view r1) e q k
      · exact q.elim
  · exact q.elim
theorem bu2 {f : D → D → Option D} (h : ∀ F m μ ρ σ H x y v u d (Qd : QD) (Q : VK), SimZ X.K z F m μ ρ σ H → Vw X.K z.T F m H x v → Vw X.K z.T F m H y u → f x y = some d → Qd d μ → Fin X.K z F m H ρ σ Qd Q → r [v, u] H Q) : BuOk X z r (b2' f) := by
  intro F m μ ρ σ H ds vs Qd Q S rr q k
  unfold b2' at q
  split at q
  · rename_i x y
    cases rr with
    | cons r1 rr =>
      cases rr with
      | cons r2 rr =>
        cases rr
        split at q
        · rename_i d e
          exact h F m μ ρ σ H _ _ _ _ d Qd Q S (S.view r1) (S.view r2) e q k
        · exact q.elim
  · exact q.elim
end

/-! ### len -/
def lenD : D → Option D
  | .str s => match lineB s.length with
    | true => some (.int s.length)
    | false => none
  | .lst xs => some (.int xs.length)
  | .tup xs => some (.int xs.length)
  | .scr xs => some (.int xs.length)
  | .dct xs => some (.int xs.length)
  | _ => none
def rLen (K : PySem.W.Frag) : List V → Hp → VK → Prop := fun xs H Q => (∃ x n, xs = [x] ∧ LenV K x H n ∧ Q (.int n) H) ∨ (∃ a kvs, xs = [V.ref a] ∧ Rd H a (.dK kvs) ∧ Q (.int kvs.length) H)
section
variable {X : Cx} {z : Zx}
theorem len_dR : CallR X (.builtin "len") (fun xs H Q => ∃ a kvs, xs = [V.ref a] ∧ Rd H a (.dK kvs) ∧ Q (.int kvs.length) H) := by
  intro pins s σ H xs us Q I r ⟨a, kvs, e, ha, q⟩
  subst e
  obtain ⟨u, e, ru⟩ := vals1 r
  subst e
  cases ru
  exact d_len I ha fun t s' I' => ⟨V.int kvs.length, H, I', ⟨t, rfl⟩, q⟩
theorem c_len : CallR X (.builtin "len") (rLen X.K) := CallR.or call_len len_dR
theorem ok_len : BuOk X z (rLen X.K) (b1 lenD) := bu1 fun F m μ ρ σ H x v d Qd Q S vx e q k => by
  unfold lenD at e
  split at e
  · split at e
    · rename_i s _ hl
      injection e with e
      subst e
      refine .inl ⟨v, s.length, rfl, ?_, k.now S .int q⟩
      rw [vx.str]
      exact ⟨by rw [tx_len]; exact lineB_le hl, (tx_len s).symm⟩
    · cases e
  · rename_i xs
    injection e with e
    subst e
    obtain ⟨a, vs, rfl, h1, r1⟩ := vx.list S.same
    exact .inl ⟨_, xs.length, rfl, .inl ⟨vs, SqL.of h1, r1.length⟩, k.now S .int q⟩
  · rename_i xs
    injection e with e
    subst e
    obtain ⟨a, vs, rfl, h1, r1⟩ := vx.tup S.same
    exact .inl ⟨_, xs.length, rfl, .inr ⟨vs, h1, r1.length⟩, k.now S .int q⟩
  · rename_i xs
    injection e with e
    subst e
    obtain ⟨a, rfl, h1⟩ := vx.scr S.same
    exact .inl ⟨_, xs.length, rfl, .inl ⟨_, h1, by simp⟩, k.now S .int q⟩
  · rename_i xs
    injection e with e
    subst e
    obtain ⟨a, vs, rfl, h1, r1⟩ := vx.dict S.same
    refine .inr ⟨a, vs, rfl, h1, ?_⟩
    rw [← r1.length]
    exact k.now S .int q
  · cases e

/-! ### any, all, sum -/
def blsD : List D → Option (List Bool)
  | [] => some []
  | .bl b :: r => match blsD r with
    | some bs => some (b :: bs)
    | none => none
  | _ => none
def intsD : List D → Option (List Int)
  | [] => some []
  | .int b :: r => match intsD r with
    | some bs => some (b :: bs)
    | none => none
  | _ => none
def anyB : List Bool → Bool
  | [] => false
  | true :: _ => true
  | false :: r => anyB r
def allB : List Bool → Bool
  | [] => true
  | true :: r => allB r
  | false :: _ => false
theorem anyB_eq : ∀ bs : List Bool, bs.any (fun x => x) = anyB bs
  | [] => rfl
  | true :: r => by simp [anyB]
  | false :: r => by simp [anyB, anyB_eq r]
theorem allB_eq : ∀ bs : List Bool, bs.all (fun x => x) = allB bs
  | [] => rfl
  | true :: r => by simp [allB, allB_eq r]
  | false :: r => by simp [allB]
variable {K : PySem.W.Frag} {T : Tab} {F : Hp} {m : List Addr}
theorem Reps.bls : ∀ {ds : List D} {vs : List V} {bs : List Bool}, Reps K T F m ds vs → blsD ds = some bs → vs = bs.map V.bl
  | [], _, bs, .nil, e => by
    injection e with e
    subst e
    rfl
  | d :: ds, _, bs, .cons h r, e => by
    cases h with
    | bl =>
      unfold blsD at e
      split at e
      · rename_i bs' e'
        injection e with e
        subst e
        rw [Reps.bls r e']
        rfl
      · cases e
    | _ => cases e
theorem Reps.ints : ∀ {ds : List D} {vs : List V} {bs : List Int}, Reps K T F m ds vs → intsD ds = some bs → vs = bs.map V.int
  | [], _, bs, .nil, e => by
    injection e with e
    subst e
    rfl
  | d :: ds, _, bs, .cons h r, e => by
    cases h with
    | int =>
      unfold intsD at e
      split at e
      · rename_i bs' e'
        injection e with e
        subst e
        rw [Reps.ints r e']
        rfl
      · cases e
    | _ => cases e
def allD : D → Option D
  | .lst xs => match blsD xs with
    | some bs => some (.bl (allB bs))
    | none => none
  | _ => none
def anyD : D → Option D
  | .lst xs => match blsD xs with
    | some bs => some (.bl (anyB bs))
    | none => none
  | _ => none
def sumI : List Int → Int
  | [] => 0
  | x :: r => x + sumI r
theorem sumI_eq : ∀ xs : List Int, xs.sum = sumI xs
  | [] => rfl
  | x :: r => by rw [List.sum_cons, sumI_eq r]; rfl
def sumD : D → Option D
  | .lst xs => match intsD xs with
    | some bs => some (.int (sumI bs))
    | none => none
  | _ => none
theorem ok_all : BuOk X z (rAll X.K) (b1 allD) := bu1 fun F m μ ρ σ H x v d Qd Q S vx e q k => by
  unfold allD at e
  split at e
  · split at e
    · rename_i bs hb
      injection e with e
      subst e
      obtain ⟨a, vs, rfl, h1, r1⟩ := vx.list S.same
      rw [r1.bls hb] at h1
      refine ⟨a, bs, rfl, SqL.of h1, ?_⟩
      have : bs.all id = allB bs := allB_eq bs
      rw [this]
      exact k.now S .bl q
    · cases e
  · cases e
theorem ok_any : BuOk X z (rAny X.K) (b1 anyD) := bu1 fun F m μ ρ σ H x v d Qd Q S vx e q k => by
  unfold anyD at e
  split at e
  · split at e
    · rename_i bs hb
      injection e with e
      subst e
      obtain ⟨a, vs, rfl, h1, r1⟩ := vx.list S.same
      rw [r1.bls hb] at h1
      refine ⟨a, bs, rfl, SqL.of h1, ?_⟩
      have : bs.any id = anyB bs := anyB_eq bs
      rw [this]
      exact k.now S .bl q
    · cases e
  · cases e
theorem ok_sum : BuOk X z (rSum X.K) (b1 sumD) := bu1 fun F m μ ρ σ H x v d Qd Q S vx e q k => by
  unfold sumD at e
  split at e
  · split at e
    · rename_i bs hb
      injection e with e
      subst e
      obtain ⟨a, vs, rfl, h1, r1⟩ := vx.list S.same
      rw [r1.ints hb] at h1
      refine ⟨a, bs, rfl, SqL.of h1, ?_⟩
      rw [sumI_eq]
      exact k.now S .int q
    · cases e
  · cases e

/-! ### ints -/
def absD : D → Option D
  | .int i => some (.int (match decide (i < 0) with | true => -i | false => i))
  | _ => none
def rAbs : List V → Hp → VK → Prop := fun xs H Q => ∃ i, xs = [V.int i] ∧ Q (.int (if i < 0 then -i else i)) H
theorem ok_abs : BuOk X z rAbs (b1 absD) := bu1 fun F m μ ρ σ H x v d Qd Q S vx e q k => by
  unfold absD at e
  split at e
  · rename_i i
    injection e with e
    subst e
    refine ⟨i, by rw [vx.int], ?_⟩
    have : (if i < 0 then -i else i) = (match decide (i < 0) with | true => -i | false => i) := by
      by_cases h : i < 0
      · rw [if_pos h, decide_eq_true h]
      · rw [if_neg h, decide_eq_false h]
    rw [this]
    exact k.now S .int q
  · cases e
def maxD (a b : D) : Option D := match a, b with
  | .int i, .int j => some (.int (match decide (j > i) with | true => j | false => i))
  | _, _ => none
def minD (a b : D) : Option D := match a, b with
  | .int i, .int j => some (.int (match decide (j < i) with | true => j | false => i))
  | _, _ => none
def rMax2 : List V → Hp → VK → Prop := fun xs H Q => ∃ i j, xs = [V.int i, .int j] ∧ Q (.int (if j > i then j else i)) H
def rMin2 : List V → Hp → VK → Prop := fun xs H Q => ∃ i j, xs = [V.int i, .int j] ∧ Q (.int (if j < i then j else i)) H
theorem ok_max2 : BuOk X z rMax2 (b2' maxD) := bu2 fun F m μ ρ σ H x y v u d Qd Q S vx vy e q k => by
  unfold maxD at e
  split at e
  · rename_i i j
    injection e with e
    subst e
    refine ⟨i, j, by rw [vx.int, vy.int], ?_⟩
    have : (if j > i then j else i) = (match decide (j > i) with | true => j | false => i) := by
      by_cases h : j > i
      · rw [if_pos h, decide_eq_true h]
      · rw [if_neg h, decide_eq_false h]
    rw [this]
    exact k.now S .int q
  · cases e
theorem ok_min2 : BuOk X z rMin2 (b2' minD) := bu2 fun F m μ ρ σ H x y v u d Qd Q S vx vy e q k => by
  unfold minD at e
  split at e
  · rename_i i j
    injection e with e
    subst e
    refine ⟨i, j, by rw [vx.int, vy.int], ?_⟩
    have : (if j < i then j else i) = (match decide (j < i) with | true => j | false => i) := by
      by_cases h : j < i
      · rw [if_pos h, decide_eq_true h]
      · rw [if_neg h, decide_eq_false h]
    rw [this]
    exact k.now S .int q
  · cases e
def digB : Tx → Bool
  | [] => true
  | c :: r => match Nat.ble 48 c && Nat.ble c 57 with
    | true => digB r
    | false => false
def valN : Nat → Tx → Nat
  | n, [] => n
  | n, c :: r => valN (n * 10 + (c - 48)) r
def intD : D → Option D
  | .int i => some (.int i)
  | .bl b => some (.int (b2 b))
  | .str s => match s, digB s, Nat.ble s.length 640 with
    | [], _, _ => none
    | _, true, true => some (.int (valN 0 s))
    | _, _, _ => none
  | _ => none
def rInt : List V → Hp → VK → Prop := fun xs H Q => ((∃ i, xs = [V.int i] ∧ Q (.int i) H) ∨ ∃ k, xs = [V.bl k] ∧ Q (.int (if k then 1 else 0)) H) ∨ (∃ a n, xs = [V.str a] ∧ PySem.intText? a = some n ∧ a.length ≤ 640 ∧ Q (.int n) H)
theorem c_int : CallR X (.type "int") rInt := CallR.or call_int1 call_int_str
theorem digB_all : ∀ {s : Tx}, digB s = true → s.all (fun c => decide (48 ≤ c) && decide (c ≤ 57)) = true
  | [], _ => rfl
  | c :: r, h => by
    unfold digB at h
    split at h
    · rename_i h1
      rw [Bool.and_eq_true] at h1
      have a1 := Nat.le_of_ble_eq_true h1.1
      have a2 := Nat.le_of_ble_eq_true h1.2
      rw [List.all_cons, digB_all h]
      simp [a1, a2]
    · cases h
theorem valN_eq (s : Tx) : valN 0 s = NumText.digitsVal s := by
  have : ∀ (s : Tx) (n : Nat), valN n s = s.foldl (fun acc c => acc * 10 + (c - 48)) n := by
    intro s
    induction s with
    | nil => intro n; rfl
    | cons c r ih => intro n; exact ih _
  rw [this]
  rfl
theorem ok_int : BuOk X z rInt (b1 intD) := bu1 fun F m μ ρ σ H x v d Qd Q S vx e q k => by
  unfold intD at e
  split at e
  · injection e with e
    subst e
    exact .inl (.inl ⟨_, by rw [vx.int], k.now S .int q⟩)
  · rename_i b
    injection e with e
    subst e
    refine .inl (.inr ⟨b, by rw [vx.bl], ?_⟩)
    have : (if b = true then (1 : Int) else 0) = b2 b := by cases b <;> rfl
    rw [this]
    exact k.now S .int q
  · rename_i s
    split at e
    · cases e
    · rename_i hne h1 h2
      injection e with e
      subst e
      refine .inr ⟨tx _, valN 0 _, by rw [vx.str], ?_, by rw [tx_len]; exact Nat.le_of_ble_eq_true h2, k.now S .int q⟩
      rw [valN_eq]
      exact SX.int_S (digB_all h1) (fun e => hne e) (Nat.le_trans (Nat.le_of_ble_eq_true h2) (by decide))
    · cases e
  · cases e
end
end Pk

/-! The data layer, part L: str(int), divmod, list, tuple, dict, sorted, isinstance. -/
namespace Pk
open PySem PySem.Spec PyProof.Rows L2
section
variable {X : Cx} {z : Zx}
/-! ### str(int) -/
def digN : Nat → Nat → Tx → Tx
  | 0, _, acc => acc
  | f + 1, n, acc => match Nat.blt n 10 with
    | true => (48 + n) :: acc
    | false => digN f (n / 10) ((48 + n % 10) :: acc)
def small : List Tx := (List.range 200).map fun n => digN 4 n []
def strD : D → Option D
  | .int i => match decide (0 ≤ i), decide (i < 200) with
    | true, true => some (.str (digN 4 i.toNat []))
    | _, _ => none
  | .str s => some (.str s)
  | _ => none
def rStr : List V → Hp → VK → Prop := fun xs H Q => ∃ i, xs = [V.int i] ∧ i.natAbs.log2 < 1920 ∧ Q (.str (toString i)) H
theorem str_small : ∀ n : Nat, n < 200 → (Str.ofString (toString (n : Int))) = tx (digN 4 n []) := by
  intro n hn
  rw [SX.num_S]
  have : ∀ n, n < 200 → TL.numL n = digN 4 n [] := by decide +kernel
  rw [this n hn]
  rfl
def strI (d : D) : Option D := match d with
  | .int i => strD (.int i)
  | _ => none
theorem ok_str : BuOk X z rStr (b1 strI) := bu1 fun F m μ ρ σ H x v d Qd Q S vx e q k => by
  unfold strI at e
  split at e
  · rename_i i
    simp only [strD] at e
    split at e
    · rename_i h1 h2
      injection e with e
      subst e
      have h1 := of_decide_eq_true h1
      have h2 := of_decide_eq_true h2
      refine ⟨i, by rw [vx.int], ?_, ?_⟩
      · have : i.natAbs < 200 := by omega
        exact Nat.lt_of_le_of_lt (Nat.log2_le_self _) (by omega)
      · obtain ⟨n, rfl⟩ := Int.eq_ofNat_of_zero_le h1
        have e2 : (toString ((n : Nat) : Int) : Str) = tx (digN 4 n []) := str_small n (by omega)
        have e3 := k.now S (.str (s := digN 4 n [])) q
        exact e2 ▸ e3
    · cases e
  · cases e
/-! ### divmod -/
def divmodD (a b : D) : Option D := match a, b with
  | .int i, .int j => match decide (0 < j), decide (j < 1073741824) with
    | true, true => some (.tup [.int (i / j), .int (i % j)])
    | _, _ => none
  | _, _ => none
def rDivmod : List V → Hp → VK → Prop := fun xs H Q => ∃ i j, xs = [V.int i, .int j] ∧ CDiv i j ∧ ∀ p, H p = none → Q (.ref p) (upd H p (.tup [.int (i / j), .int (i % j)]))
theorem ok_divmod : BuOk X z rDivmod (b2' divmodD) := bu2 fun F m μ ρ σ H x y v u d Qd Q S vx vy e q k => by
  unfold divmodD at e
  split at e
  · rename_i i j
    split at e
    · rename_i h1 h2
      injection e with e
      subst e
      exact ⟨i, j, by rw [vx.int, vy.int], ⟨of_decide_eq_true h1, of_decide_eq_true h2⟩, fun p hp => k.tup S hp (.cons .int (.cons .int .nil)) q⟩
    · cases e
  · cases e
/-! ### list, tuple -/
def keyD : DK → D
  | .ki i => .int i
  | .ks s => .str s
def keysD : List (DK × D) → List D
  | [] => []
  | (k, _) :: r => keyD k :: keysD r
def itemsOf : D → Option (List D)
  | .lst xs => some xs
  | .tup xs => some xs
  | .scr xs => some (xs.map .int)
  | .dct kvs => some (keysD kvs)
  | _ => none
def rListA (K : PySem.W.Frag) : List V → Hp → VK → Prop := fun xs H Q => (∃ p ys, xs = [V.ref p] ∧ (SqL K H p ys ∨ SqT K H p ys) ∧ ∀ l, H l = none → Q (.ref l) (upd H l (.lst ys))) ∨
  (∃ (a : Addr) (kvs : List (Key × V)), xs = [.ref a] ∧ Rd H a (.dK kvs) ∧ ∀ p, H p = none → Q (.ref p) (upd H p (.lst (kvs.map fun kv => kV kv.1))))
theorem c_list (hc : X.calm = true) : CallR X (.type "list") (rListA X.K) := CallR.or call_list_of (call_listD hc)
theorem RepK.keys {K : PySem.W.Frag} {T : Tab} {F : Hp} {m : List Addr} : ∀ {ds : List (DK × D)} {vs : List (Key × V)}, RepK K T F m ds vs → Reps K T F m (keysD ds) (vs.map fun kv => kV kv.1)
  | _, _, .nil => .nil
  | _, _, .cons (k := k) h r => .cons (by cases k <;> constructor) (RepK.keys r)
theorem ok_list {own : Bool} : BuOk X z (rListA X.K) (b1L own itemsOf) := bu1L fun F m μ ρ σ H x v ds Qd Q S vx e q k => by
  unfold itemsOf at e
  split at e
  · injection e with e
    subst e
    obtain ⟨a, vs, rfl, h1, r1⟩ := vx.list S.same
    exact .inl ⟨a, vs, rfl, .inl (SqL.of h1), fun l hl => give_new k S hl r1 q⟩
  · injection e with e
    subst e
    obtain ⟨a, vs, rfl, h1, r1⟩ := vx.tup S.same
    exact .inl ⟨a, vs, rfl, .inr h1, fun l hl => give_new k S hl r1 q⟩
  · injection e with e
    subst e
    obtain ⟨a, rfl, h1⟩ := vx.scr S.same
    exact .inl ⟨a, _, rfl, .inl h1, fun l hl => give_new k S hl (reps_ints _) q⟩
  · injection e with e
    subst e
    obtain ⟨a, vs, rfl, h1, r1⟩ := vx.dict S.same
    exact .inr ⟨a, vs, rfl, h1, fun l hl => give_new k S hl r1.keys q⟩
  · cases e
def tupD : D → Option D
  | .lst xs => some (.tup xs)
  | .tup xs => some (.tup xs)
  | .scr xs => some (.tup (xs.map .int))
  | _ => none
def rTuple (K : PySem.W.Frag) : List V → Hp → VK → Prop := fun xs H Q => ∃ p ys, xs = [V.ref p] ∧ ((SqL K H p ys ∧ ∀ l, H l = none → Q (.ref l) (upd H l (.tup ys))) ∨ (SqT K H p ys ∧ Q (.ref p) H))
theorem ok_tuple : BuOk X z (rTuple X.K) (b1 tupD) := bu1 fun F m μ ρ σ H x v d Qd Q S vx e q k => by
  unfold tupD at e
  split at e
  · injection e with e
    subst e
    obtain ⟨a, vs, rfl, h1, r1⟩ := vx.list S.same
    exact ⟨a, vs, rfl, .inl ⟨SqL.of h1, fun l hl => k.tup S hl r1 q⟩⟩
  · injection e with e
    subst e
    cases vx with
    | of r =>
      cases r with
      | tup h r => exact ⟨_, _, rfl, .inr ⟨Same.sqt S.same h, k.now S (.tup h r) q⟩⟩
  · injection e with e
    subst e
    obtain ⟨a, rfl, h1⟩ := vx.scr S.same
    exact ⟨a, _, rfl, .inl ⟨h1, fun l hl => k.tup S hl (reps_ints _) q⟩⟩
  · cases e
/-! ### sorted -/
def insJ (x : Int) : List Int → List Int
  | [] => [x]
  | y :: r => match decide (x ≤ y) with
    | true => x :: y :: r
    | false => y :: insJ x r
def sortJ : List Int → List Int
  | [] => []
  | x :: r => insJ x (sortJ r)
theorem insJ_perm (x : Int) : ∀ l, (insJ x l).Perm (x :: l)
  | [] => .refl _
  | y :: r => by
    unfold insJ
    split
    · exact .refl _
    · exact ((insJ_perm x r).cons y).trans (.swap x y r)
theorem sortJ_perm : ∀ l, (sortJ l).Perm l
  | [] => .refl _
  | x :: r => (insJ_perm x _).trans ((sortJ_perm r).cons x)
theorem insJ_rises (x : Int) : ∀ l, l.Pairwise (· ≤ ·) → (insJ x l).Pairwise (· ≤ ·)
  | [], _ => List.pairwise_singleton _ _
  | y :: r, h => by
    unfold insJ
    split
    · rename_i hd
      have hd := of_decide_eq_true hd
      refine .cons (fun w hw => ?_) h
      rcases List.mem_cons.mp hw with rfl | hw
      · exact hd
      · exact Int.le_trans hd ((List.pairwise_cons.mp h).1 w hw)
    · rename_i hd
      have hd := of_decide_eq_false hd
      obtain ⟨h1, h2⟩ := List.pairwise_cons.mp h
      refine .cons (fun w hw => ?_) (insJ_rises x r h2)
      rcases List.mem_cons.mp ((insJ_perm x r).mem_iff.mp hw) with rfl | hw
      · omega
      · exact h1 w hw
theorem sortJ_rises : ∀ l, (sortJ l).Pairwise (· ≤ ·)
  | [] => .nil
  | x :: r => insJ_rises x _ (sortJ_rises r)
theorem eq_sortJ {ns ns' : List Int} (hp : ns'.Perm ns) (hs : ns'.Pairwise (· ≤ ·)) : ns' = sortJ ns :=
  List.Perm.eq_of_pairwise (fun _ _ _ _ a b => Int.le_antisymm a b) hs (sortJ_rises ns) (hp.trans (sortJ_perm ns).symm)
def sortedD : D → Option (List D)
  | .lst xs => match intsD xs with
    | some ns => some ((sortJ ns).map .int)
    | none => none
  | _ => none
theorem ok_sorted {own : Bool} : BuOk X z (rSortedI X.K) (b1L own sortedD) := bu1L fun F m μ ρ σ H x v ds Qd Q S vx e q k => by
  unfold sortedD at e
  split at e
  · split at e
    · rename_i ns hb
      injection e with e
      subst e
      obtain ⟨a, vs, rfl, h1, r1⟩ := vx.list S.same
      rw [r1.ints hb] at h1
      refine ⟨a, ns, rfl, SqL.of h1, fun ns' p hp hs hn => ?_⟩
      rw [eq_sortJ hp hs]
      exact give_new k S hn (reps_ints _) q
    · cases e
  · cases e
/-! ### isinstance -/
def tyOf : D → Option Ty
  | .bl _ => some .bool
  | .int _ => some .int
  | .str _ => some .str
  | .tup _ => some .tup
  | .lst _ => some .lst
  | .scr _ => some .lst
  | .dct _ => some .dict
  | _ => none
def subTy : Ty → Ty → Bool
  | .int, .int => true
  | .bool, .int => true
  | .bool, .bool => true
  | .str, .str => true
  | .tup, .tup => true
  | .lst, .lst => true
  | .dict, .dict => true
  | _, _ => false
def isiD (x y : D) : Option D := match y with
  | .ty t => match x with
    | .non => some (.bl false)
    | _ => match tyOf x with
      | some t' => some (.bl (subTy t' t))
      | none => none
  | _ => none
theorem kit_sub (K : PySem.W.Frag) (t t' : Ty) : PySem.W.kitOne K (.type t.nm) (.type t'.nm) = some (subTy t t') := by
  apply kit_ty
  cases t <;> cases t' <;> decide +kernel
theorem kit_non (K : PySem.W.Frag) (t' : Ty) : PySem.W.kitOne K (.type "NoneType") (.type t'.nm) = some false := by
  apply kit_ty
  cases t' <;> decide +kernel
theorem Vw.tyx {K : PySem.W.Frag} {T : Tab} {F : Hp} {m : List Addr} {H : Hp} (s : Same F H) {x : D} {v : V} {t : Ty} (r : Vw K T F m H x v) (h : tyOf x = some t) : TyX K H v (.type t.nm) := by
  unfold tyOf at h
  split at h <;> first | (injection h with h; subst h) | cases h
  · rw [r.bl]; exact .base (.bl _)
  · rw [r.int]; exact .base (.int _)
  · rw [r.str]; exact .base (.str _)
  · obtain ⟨a, vs, rfl, h1, _⟩ := r.tup s
    rcases h1 with (h1 | ⟨o, h1⟩) | ⟨o, _, _, h1, h2, _⟩
    · exact .base (.tup h1)
    · exact .fTuple h1
    · exact .kTuple h1 h2
  · obtain ⟨a, vs, rfl, h1, _⟩ := r.list s
    exact .base (.lst h1)
  · obtain ⟨a, rfl, h1⟩ := r.scr s
    rcases h1 with (h1 | ⟨o, h1⟩) | ⟨o, _, _, h1, h2, _⟩
    · exact .base (.lst h1)
    · exact .base (.frz h1)
    · exact .kList h1 h2
  · obtain ⟨a, vs, rfl, h1, _⟩ := r.dict s
    rcases h1 with h1 | ⟨o, h1⟩
    · exact .base (.dK h1)
    · exact .fDict h1
theorem ok_isi : BuOk X z (rIsi X.K) (b2' isiD) := bu2 fun F m μ ρ σ H x y v u d Qd Q S vx vy e q k => by
  unfold isiD at e
  split at e
  · rename_i t
    split at e
    · injection e with e
      subst e
      refine ⟨v, u, _, _, false, rfl, ?_, ?_, kit_non X.K t, k.now S .bl q⟩
      · rw [vy.ty]; exact .ty _
      · rw [vx.non]; exact .base .non
    · split at e
      · rename_i t' ht
        injection e with e
        subst e
        refine ⟨v, u, _, _, _, rfl, ?_, vx.tyx S.same ht, kit_sub X.K t' t, k.now S .bl q⟩
        rw [vy.ty]; exact .ty _
      · cases e
  · cases e
end
end Pk

/-! The data layer, part M1: writing into the store, freezing. -/
namespace Pk
open PySem PySem.Spec PyProof.Rows L2
section
variable {K : PySem.W.Frag} {T : Tab} {F0 F F' H0 : Hp} {m0 m m' : List Addr} {μ μ' : Sto} {ρ : Slots} {σ : L2.St} {H H' : Hp} {p a : Addr} {ds : List D} {vs : List V} {k : Nat}
theorem MRep.mut {o : MO} (h : MRep K T F m H a o) (n : o ≠ .gone) (nf : o.isFz = false) : (∃ vs, H a = some (.lst vs)) ∨ (∃ vs, H a = some (.dK vs)) ∨ ∃ C dx fs, H a = some (.ins C dx fs) := by
  cases o with
  | lst ds => obtain ⟨vs, e, _⟩ := h; exact .inl ⟨_, e⟩
  | dct ds => obtain ⟨vs, e, _⟩ := h; exact .inr (.inl ⟨_, e⟩)
  | ins c ds => obtain ⟨dx, vs, e, _⟩ := h; exact .inr (.inr ⟨_, _, _, e⟩)
  | fz d => cases nf
  | gone => exact absurd rfl n
/-- a thing of the store is written -/
theorem Sim.wr {o o' : MO} {u : HO} (S : Sim K T F0 m0 H0 F m μ ρ σ H) (e : m[k]? = some a) (q : μ[k]? = some o) (n : o ≠ .gone) (nf : o.isFz = false) (r : MRep K T F m (upd H a u) a o') (nf' : o'.isFz = false := by rfl) :
    Ext F m H F m (upd H a u) ∧ Sim K T F0 m0 H0 F m (μ.set k o') ρ σ (upd H a u) := by
  obtain ⟨s1, s2⟩ := S.sto k a o e q n
  have fa := s1 nf
  have hm := MRep.mut s2 n nf
  have no : ∀ b, H a ≠ some (.own b) := fun b z => by
    rcases hm with ⟨_, h⟩ | ⟨_, h⟩ | ⟨_, _, _, h⟩ <;> rw [h] at z <;> cases z
  have ma : a ∈ m := List.mem_of_getElem? e
  have x : Ext F m H F m (upd H a u) := ⟨Gr.refl F m, fun b v e1 _ e2 h => ⟨by rw [upd_ne (fun z => h (by rw [z]; exact ma))]; exact e1, e2, h⟩, Up.upd no⟩
  refine ⟨x, S.ext.trans x, fun b v e1 => ?_, by rw [List.length_set]; exact S.len, S.nd, fun b h z => ?_, fun i b v e1 e2 n1 => ?_, S.sl, S.slot⟩
  · rw [upd_ne fun z => ?_]
    · exact S.same b v e1
    · rw [z, fa] at e1
      cases e1
  · by_cases w : b = a
    · rw [w, upd_same] at z
      cases z
    · rw [upd_ne w] at z
      exact S.al b h z
  · by_cases hk : k = i
    · subst hk
      rw [e] at e1
      cases e1
      have hl : k < μ.length := (List.getElem?_eq_some_iff.mp q).1
      rw [List.getElem?_set_self hl] at e2
      cases e2
      exact ⟨fun _ => fa, r⟩
    · rw [List.getElem?_set_ne hk] at e2
      obtain ⟨h1, h2⟩ := S.sto i b v e1 e2 n1
      have nb : b ≠ a := fun z => by
        subst z
        have l1 := (List.getElem?_eq_some_iff.mp e).1
        have l2 := (List.getElem?_eq_some_iff.mp e1).1
        have g1 := (List.getElem?_eq_some_iff.mp e).2
        have g2 := (List.getElem?_eq_some_iff.mp e1).2
        exact hk ((List.getElem_inj S.nd).mp (g1.trans g2.symm))
      refine ⟨h1, ?_⟩
      cases v with
      | lst ds => obtain ⟨vs, e, r⟩ := h2; exact ⟨vs, by rw [upd_ne nb]; exact e, r⟩
      | dct ds => obtain ⟨vs, e, r⟩ := h2; exact ⟨vs, by rw [upd_ne nb]; exact e, r⟩
      | ins c ds =>
        obtain ⟨dx, vs, e, e2, n, l, r⟩ := h2
        have nd : dx ≠ a := fun z => no b (z ▸ e2)
        exact ⟨dx, vs, by rw [upd_ne nb]; exact e, by rw [upd_ne nd]; exact e2, n, l, r⟩
      | fz d => exact h2
      | gone => trivial
/-- what stands in the heap is frozen: F grows by what lies at a -/
theorem Sim.ice {o : HO} (S : Sim K T F0 m0 H0 F m μ ρ σ H) (ha : H a = some o) (hf : F a = none) (hk : ∀ (k : Nat) (o' : MO), m[k]? = some a → μ[k]? = some o' → o' ≠ .gone → o'.isFz = true)
    (hd : ∀ (k : Nat) (b : Addr) (dx : Addr), m[k]? = some b → H dx = some (.own b) → dx = a → μ[k]? = some .gone ∨ μ[k]? = none) (hx : ∀ v, H0 a = some v → (∀ b, v ≠ .own b) → F0 a = none → a ∈ m0) : Sim K T F0 m0 H0 (upd F a o) m μ ρ σ H := by
  have g : Gr F m (upd F a o) m := ⟨upd_keep hf, [], by simp⟩
  refine ⟨⟨S.ext.gr.trans g, fun b v e w n h => ?_, S.ext.up⟩, fun b v e => ?_, S.len, S.nd, S.al, fun i b v e1 e2 n => ?_, S.sl, fun i d e => ?_⟩
  · obtain ⟨e1, n1, h1⟩ := S.ext.frm b v e w n h
    refine ⟨e1, ?_, h1⟩
    rw [upd_ne fun z => ?_]
    · exact n1
    · subst z
      exact h (hx v e w n)
  · by_cases w : b = a
    · rw [w, upd_same] at e
      rw [w, ha]
      exact e
    · rw [upd_ne w] at e
      exact S.same b v e
  · obtain ⟨h1, h2⟩ := S.sto i b v e1 e2 n
    refine ⟨fun nf => ?_, ?_⟩
    · rw [upd_ne fun z => ?_]
      · exact h1 nf
      · subst z
        rw [hk i v e1 e2 n] at nf
        cases nf
    · cases v with
      | lst ds => obtain ⟨vs, e, r⟩ := h2; exact ⟨vs, e, r.mono g⟩
      | dct ds => obtain ⟨vs, e, r⟩ := h2; exact ⟨vs, e, r.mono g⟩
      | ins c ds =>
        obtain ⟨dx, vs, e, e3, n3, l, r⟩ := h2
        exact ⟨dx, vs, e, e3, trivial, l, r.mono g⟩
      | fz d => exact Rep.mono g h2
      | gone => trivial
  · obtain ⟨v, h1, h2⟩ := S.slot i d e
    exact ⟨v, h1, h2.mono g⟩
/-- a mref's thing is known to be frozen data -/
theorem Sim.setFz {d : D} (S : Sim K T F0 m0 H0 F m μ ρ σ H) (e : m[k]? = some a) (r : Rep K T F m d (.ref a)) : Sim K T F0 m0 H0 F m (μ.set k (.fz d)) ρ σ H := by
  refine ⟨S.ext, S.same, by rw [List.length_set]; exact S.len, S.nd, S.al, fun i b v e1 e2 n1 => ?_, S.sl, S.slot⟩
  by_cases hk : k = i
  · subst hk
    rw [e] at e1
    cases e1
    have hl : k < μ.length := by
      have := (List.getElem?_eq_some_iff.mp e2).1
      simpa using this
    rw [List.getElem?_set_self hl] at e2
    cases e2
    exact ⟨fun z => (by cases z), r⟩
  · rw [List.getElem?_set_ne hk] at e2
    exact S.sto i b v e1 e2 n1
end

/-! ### deep freezing -/
def mapS (f : Sto → D → D × Sto) : List D → Sto → List D × Sto
  | [], μ => ([], μ)
  | d :: ds, μ => match f μ d with
    | (d', μ1) => match mapS f ds μ1 with
      | (ds', μ2) => (d' :: ds', μ2)
def deepD : Nat → Sto → D → D × Sto
  | 0, μ, d => (d, μ)
  | n + 1, μ, d => match d with
    | .mref k => match μ[k]? with
      | some (.fz d) => (d, μ)
      | some (.lst ds) => match mapS (deepD n) ds (μ.set k .gone) with
        | (ds', μ1) => (.lst ds', μ1.set k (.fz (.lst ds')))
      | some (.ins c ds) => match mapS (deepD n) ds (μ.set k .gone) with
        | (ds', μ1) => (.ins c ds', μ1.set k (.fz (.ins c ds')))
      | _ => (.mref k, μ)
    | d => (d, μ)
section
variable {K : PySem.W.Frag} {T : Tab} {F0 F F' H0 : Hp} {m0 m m' : List Addr} {μ μ' : Sto} {ρ : Slots} {σ : L2.St} {H H' : Hp} {p a : Addr} {ds : List D} {vs : List V} {k : Nat}
theorem Sim.forget (S : Sim K T F0 m0 H0 F m μ ρ σ H) (k : Nat) : Sim K T F0 m0 H0 F m (μ.set k .gone) ρ σ H := by
  refine ⟨S.ext, S.same, by rw [List.length_set]; exact S.len, S.nd, S.al, fun i b v e1 e2 n1 => ?_, S.sl, S.slot⟩
  by_cases hk : k = i
  · subst hk
    have hl : k < μ.length := by
      have := (List.getElem?_eq_some_iff.mp e2).1
      simpa using this
    rw [List.getElem?_set_self hl] at e2
    cases e2
    exact absurd rfl n1
  · rw [List.getElem?_set_ne hk] at e2
    exact S.sto i b v e1 e2 n1
theorem Sim.hxm (S : Sim K T F0 m0 H0 F m μ ρ σ H) (ma : a ∈ m) : ∀ v, H0 a = some v → (∀ b, v ≠ .own b) → F0 a = none → a ∈ m0 := fun v e w n => by
  by_cases h : a ∈ m0
  · exact h
  · exact absurd ma (S.ext.frm a v e w n h).2.2
theorem nd_eq {i j : Nat} (nd : m.Nodup) (e1 : m[i]? = some a) (e2 : m[j]? = some a) : i = j := by
  have g1 := (List.getElem?_eq_some_iff.mp e1).2
  have g2 := (List.getElem?_eq_some_iff.mp e2).2
  exact (List.getElem_inj nd).mp (g1.trans g2.symm)
/-- .. at a place of the store that is given up -/
theorem Sim.iceM {o : HO} (S : Sim K T F0 m0 H0 F m μ ρ σ H) (e : m[k]? = some a) (ha : H a = some o) (no : ∀ b, o ≠ .own b) (hg : ∀ v, μ[k]? = some v → v = .gone) : ∃ F', F' a = some o ∧ Ext F m H F' m H ∧ Sim K T F0 m0 H0 F' m μ ρ σ H := by
  cases hf : F a with
  | some o' =>
    have := S.same a o' hf
    rw [ha] at this
    cases this
    exact ⟨F, hf, Ext.refl _ _ _, S⟩
  | none =>
    have ma : a ∈ m := List.mem_of_getElem? e
    refine ⟨upd F a o, upd_same, ⟨⟨upd_keep hf, [], by simp⟩, fun b v e1 w n h => ⟨e1, by rw [upd_ne (fun z => h (by rw [z]; exact ma))]; exact n, h⟩, Up.refl H⟩, S.ice ha hf (fun i o' e1 e2 n => ?_) (fun i b dx e1 e2 z => ?_) (S.hxm ma)⟩
    · have := nd_eq S.nd e e1
      subst this
      exact absurd (hg _ e2) n
    · rw [z, ha] at e2
      injection e2 with e2
      exact absurd e2 (no b)
theorem Sim.iceO {dx : Addr} (S : Sim K T F0 m0 H0 F m μ ρ σ H) (e : m[k]? = some a) (ha : H dx = some (.own a)) (hg : ∀ v, μ[k]? = some v → v = .gone) : ∃ F', F' dx = some (.own a) ∧ Ext F m H F' m H ∧ Sim K T F0 m0 H0 F' m μ ρ σ H := by
  cases hf : F dx with
  | some o' =>
    have := S.same dx o' hf
    rw [ha] at this
    cases this
    exact ⟨F, hf, Ext.refl _ _ _, S⟩
  | none =>
    refine ⟨upd F dx (.own a), upd_same, ⟨⟨upd_keep hf, [], by simp⟩, fun b v e1 w n h => ⟨e1, ?_, h⟩, Up.refl H⟩, S.ice ha hf (fun i o' e1 e2 n => ?_) (fun i b dx e1 e2 z => ?_) (fun v e1 w n => ?_)⟩
    · rw [upd_ne (fun z => ?_)]
      · exact n
      · rw [z, ha] at e1
        injection e1 with e1
        exact w a e1.symm
    · cases nf : o'.isFz with
      | true => rfl
      | false =>
        obtain ⟨_, h2⟩ := S.sto i dx o' e1 e2 n
        rcases MRep.mut h2 n nf with ⟨_, h⟩ | ⟨_, h⟩ | ⟨_, _, _, h⟩ <;> rw [ha] at h <;> cases h
    · rw [z, ha] at e2
      injection e2 with e2
      injection e2 with e2
      subst e2
      have := nd_eq S.nd e e1
      subst this
      cases q : μ[k]? with
      | none => exact .inr rfl
      | some v => exact .inl (by rw [hg v q])
    · by_cases h : dx ∈ m0
      · exact h
      · have := (S.ext.frm dx v e1 w n h).1
        rw [ha] at this
        injection this with this
        exact absurd this.symm (w a)
def DeepOk (K : PySem.W.Frag) (T : Tab) (f : Sto → D → D × Sto) : Prop := ∀ {F0 F H0 : Hp} {m0 m : List Addr} {μ : Sto} {ρ : Slots} {σ : L2.St} {H : Hp} {d : D} {v : V}, Sim K T F0 m0 H0 F m μ ρ σ H → Rep K T F m d v →
  ∃ F', Ext F m H F' m H ∧ Sim K T F0 m0 H0 F' m (f μ d).2 ρ σ H ∧ Rep K T F' m (f μ d).1 v
theorem mapS_ok {f : Sto → D → D × Sto} (ok : DeepOk K T f) {F0 H0 : Hp} {m0 m : List Addr} {ρ : Slots} {σ : L2.St} {H : Hp} : ∀ {ds : List D} {vs : List V} {F : Hp} {μ : Sto}, Sim K T F0 m0 H0 F m μ ρ σ H → Reps K T F m ds vs →
    ∃ F', Ext F m H F' m H ∧ Sim K T F0 m0 H0 F' m (mapS f ds μ).2 ρ σ H ∧ Reps K T F' m (mapS f ds μ).1 vs
  | _, _, F, μ, S, .nil => ⟨F, Ext.refl _ _ _, S, .nil⟩
  | _, _, F, μ, S, .cons (d := d) (ds := ds) h r => by
    obtain ⟨F1, x1, S1, r1⟩ := ok S h
    obtain ⟨F2, x2, S2, r2⟩ := mapS_ok ok S1 (r.mono x1.gr)
    exact ⟨F2, x1.trans x2, S2, .cons (r1.mono x2.gr) r2⟩
theorem deep_ok (K : PySem.W.Frag) (T : Tab) : ∀ n, DeepOk K T (deepD n)
  | 0 => fun S r => ⟨_, Ext.refl _ _ _, S, r⟩
  | n + 1 => by
    intro S r
    rename_i F0 F H0 m0 m μ ρ σ H d v
    cases r with
    | mref e =>
      rename_i k a
      cases q : μ[k]? with
      | none =>
        simp only [deepD, q]
        exact ⟨_, Ext.refl _ _ _, S, .mref e⟩
      | some o =>
        cases o with
        | fz d =>
          simp only [deepD, q]
          exact ⟨_, Ext.refl _ _ _, S, (S.sto k a _ e q (fun z => nomatch z)).2⟩
        | gone =>
          simp only [deepD, q]
          exact ⟨_, Ext.refl _ _ _, S, .mref e⟩
        | dct kvs =>
          simp only [deepD, q]
          exact ⟨_, Ext.refl _ _ _, S, .mref e⟩
        | lst ds =>
          obtain ⟨_, vs, h1, h2⟩ := S.sto k a _ e q (fun z => nomatch z)
          obtain ⟨F1, x1, S1, r1⟩ := mapS_ok (deep_ok K T n) (S.forget k) h2
          obtain ⟨F2, f2, x2, S2⟩ := (S1.forget k).iceM e h1 (fun b z => nomatch z) fun v hv => by
            have hl := (List.getElem?_eq_some_iff.mp hv).1
            rw [List.getElem?_set_self (by simpa using hl)] at hv
            exact (Option.some.inj hv).symm
          have r2 : Rep K T F2 m (.lst (mapS (deepD n) ds (μ.set k .gone)).1) (.ref a) := .lst f2 (r1.mono x2.gr)
          have S3 := S2.setFz e r2
          rw [List.set_set] at S3
          simp only [deepD, q]
          exact ⟨F2, x1.trans x2, S3, r2⟩
        | ins c ds =>
          obtain ⟨_, dx, vs, h1, h3, _, _, h2⟩ := S.sto k a _ e q (fun z => nomatch z)
          obtain ⟨F1, x1, S1, r1⟩ := mapS_ok (deep_ok K T n) (S.forget k) h2
          have hg : ∀ v, ((mapS (deepD n) ds (μ.set k .gone)).2.set k .gone)[k]? = some v → v = .gone := fun v hv => by
            have hl := (List.getElem?_eq_some_iff.mp hv).1
            rw [List.getElem?_set_self (by simpa using hl)] at hv
            exact (Option.some.inj hv).symm
          obtain ⟨F2, f2, x2, S2⟩ := (S1.forget k).iceM e h1 (fun b z => nomatch z) hg
          obtain ⟨F3, f3, x3, S3⟩ := S2.iceO e h3 hg
          have r2 : Rep K T F3 m (.ins c (mapS (deepD n) ds (μ.set k .gone)).1) (.ref a) := .ins (x3.gr.fr _ _ f2) f3 (r1.mono (x2.trans x3).gr)
          have S4 := S3.setFz e r2
          rw [List.set_set] at S4
          simp only [deepD, q]
          exact ⟨F3, x1.trans (x2.trans x3), S4, r2⟩
    | _ =>
      refine ⟨_, Ext.refl _ _ _, ?_, ?_⟩
      · simpa only [deepD] using S
      · simp only [deepD]
        first | constructor | skip
        all_goals assumption
end
/-- what e gives is frozen from here on -/
def wFz (n : Nat) (w : WE) : WE := fun ρ μ Q E => w ρ μ (fun x μ1 => match deepD n μ1 x with
  | (d, μ2) => Q d μ2) E
theorem de_fz {X : Cx} {z : Zx} {e : Expr} {w : WE} (n : Nat) (h : DE X z e w) : DE X z e (wFz n w) := fun Wd tk =>
  peI (h Wd tk) fun σ H Q ⟨F, m, μ, ρ, Qd, S, h, k⟩ => ⟨F, m, μ, ρ, _, S, h, fun F1 m1 μ1 d1 v1 H1 x1 S1 r1 q1 => by
    obtain ⟨F2, x2, S2, r2⟩ := deep_ok X.K z.T n S1 r1
    exact k _ _ _ _ _ _ (x1.trans x2) S2 r2 q1⟩
end Pk

/-! The data layer, part M2: methods of built-in things, new lists that change. -/
namespace Pk
open PySem PySem.Spec PyProof.Rows L2

/-! ### methods -/
abbrev MF := D → BF
def MeOk (X : Cx) (z : Zx) (r : V → List V → Hp → VK → Prop) (w : MF) : Prop :=
  ∀ F m μ ρ σ H x v ds vs (Qd : QD) (Q : VK), SimZ X.K z F m μ ρ σ H → Rep X.K z.T F m x v → Reps X.K z.T F m ds vs → w x ds μ Qd → Fin X.K z F m H ρ σ Qd Q → r v vs H Q
def tyN : D → Option String
  | .lst _ => some "list"
  | .scr _ => some "list"
  | .str _ => some "str"
  | .dct _ => some "dict"
  | _ => none
def wMe (t : D → Bool) (w : MF) (wo : WE) (wa : WA) : WE := fun ρ μ Q E => wo ρ μ (fun x μ1 => match t (look μ1 x) with
  | true => wa ρ μ1 (fun ds μ2 => w x ds μ2 Q) E
  | false => False) E
def isL : D → Bool
  | .lst _ => true
  | .scr _ => true
  | _ => false
def isS : D → Bool
  | .str _ => true
  | _ => false
def isDc : D → Bool
  | .dct _ => true
  | _ => false
def TyOk (T : String) (t : D → Bool) : Prop := ∀ {K : PySem.W.Frag} {Tb : Tab} {F : Hp} {m : List Addr} {H : Hp} {x : D} {v : V}, Same F H → Vw K Tb F m H x v → t x = true → tyV K T v H
theorem ty_list : TyOk "list" isL := by
  intro K Tb F m H x v s r h
  cases x with
  | lst xs =>
    obtain ⟨a, vs, rfl, h1, _⟩ := r.list s
    exact .inl ⟨rfl, vs, SqL.of h1⟩
  | scr xs =>
    obtain ⟨a, rfl, h1⟩ := r.scr s
    exact .inl ⟨rfl, _, h1⟩
  | _ => cases h
theorem ty_str : TyOk "str" isS := by
  intro K Tb F m H x v s r h
  cases x with
  | str xs =>
    rw [r.str]
    exact rfl
  | _ => cases h
section
variable {X : Cx} {z : Zx} {o e : Expr} {es : List Expr} {name : Str} {apos cpos : Pos} {T id : String} {r : V → List V → Hp → VK → Prop} {t : D → Bool} {w : MF} {wo : WE} {wa : WA}
theorem de_bm (pa : PlainAttrs T) (slot : Slot T name id) (hty : typeOf (.builtin id) = pure (.type "method_descriptor")) (hm : MtR X id r) (ht : TyOk T t) (ok : MeOk X z r w) (ho : DE X z o wo) (ha : DA X z (e :: es) wa)
    (hbase : attributeBase o name X.env (eval o X.env) = eval o X.env := by rfl)
    (hfew : ((backTo cpos (starEach (e :: es) X.env)).all (fun x => !x.1) && (backToKw cpos (keywordEach [] X.env)).all (fun x => x.1.isSome)
      && decide ((e :: es).length + ([] : List Keyword).length + (if ([] : List Keyword).isEmpty then 0 else 1) < 30)) = true := by rfl)
    (hline : (apos.endLine == cpos.line) = true := by rfl) (hs : starEach (e :: es) X.env = (false, eval e X.env) :: starEach es X.env := by rfl) (hplain : (backTo cpos (starEach es X.env)).any (·.1) = false := by rfl) :
    DE X z (.Call (.Attribute o name apos) (e :: es) [] cpos) (wMe t w wo wa) := fun Wd tk =>
  peI (pe_bm pa slot hty hm (ho Wd tk) (ha Wd tk) hbase hfew hline hs hplain) fun σ H Q ⟨F, m, μ, ρ, Qd, S, h, k⟩ => ⟨F, m, μ, ρ, _, S, h, fun F1 m1 μ1 d1 v1 H1 x1 S1 r1 q1 => by
    cases e : t (look μ1 d1) with
    | false => rw [e] at q1; exact q1.elim
    | true =>
      rw [e] at q1
      refine ⟨ht S1.same (S1.view r1) e, F1, m1, μ1, ρ, _, S1, q1, fun F2 m2 μ2 ds vs H2 x2 S2 r2 q2 => ?_⟩
      exact ok _ _ _ _ _ _ _ _ _ _ _ _ S2 (r1.mono x2.gr) r2 q2 fun F4 m4 μ4 d4 v4 H4 x4 => k F4 m4 μ4 d4 v4 H4 (x1.trans (x2.trans x4))⟩
theorem de_bm0 (pa : PlainAttrs T) (slot : Slot T name id) (hty : typeOf (.builtin id) = pure (.type "method_descriptor")) (hm : MtR X id r) (ht : TyOk T t) (ok : MeOk X z r w) (ho : DE X z o wo)
    (hbase : attributeBase o name X.env (eval o X.env) = eval o X.env := by rfl) (hline : (apos.endLine == cpos.line) = true := by rfl) :
    DE X z (.Call (.Attribute o name apos) [] [] cpos) (wMe t w wo aNil) := fun Wd tk =>
  peI (pe_bm0 pa slot hty hm (ho Wd tk) hbase hline) fun σ H Q ⟨F, m, μ, ρ, Qd, S, h, k⟩ => ⟨F, m, μ, ρ, _, S, h, fun F1 m1 μ1 d1 v1 H1 x1 S1 r1 q1 => by
    cases e : t (look μ1 d1) with
    | false => rw [e] at q1; exact q1.elim
    | true =>
      rw [e] at q1
      exact ⟨ht S1.same (S1.view r1) e, ok _ _ _ _ _ _ _ _ _ _ _ _ S1 r1 .nil q1 fun F4 m4 μ4 d4 v4 H4 x4 => k F4 m4 μ4 d4 v4 H4 (x1.trans x4)⟩⟩
/-- x.split(sep) -/
def splF (own : Bool) : MF := fun x ds μ Q => match x, ds with
  | .str a, [.str b] => match !nilB b && (b.all (fun c => Nat.blt c 256) && Nat.ble a.length 16777000) with
    | true => giveL own ((TL.spl b 0 [] a).map .str) μ Q
    | false => False
  | _, _ => False
def rSplit : V → List V → Hp → VK → Prop := fun x xs H Q => ∃ a b, x = .str a ∧ xs = [.str b] ∧ (b.length == 0) = false ∧ a.length + 2 ≤ sizeLine ∧ rNewStrs (Txt.split a b) H Q
theorem reps_strs {K : PySem.W.Frag} {Tb : Tab} {F : Hp} {m : List Addr} : ∀ xs : List Tx, Reps K Tb F m (xs.map .str) ((xs.map tx).map V.str)
  | [] => .nil
  | _ :: r => .cons .str (reps_strs r)
theorem ok_split {own : Bool} : MeOk X z rSplit (splF own) := fun F m μ ρ σ H x v ds vs Qd Q S rx rs q k => by
  unfold splF at q
  split at q
  · rename_i a b
    cases rx
    cases rs with
    | cons r1 rs =>
      cases rs
      cases r1
      split at q
      · rename_i hh
        simp only [Bool.and_eq_true, Bool.not_eq_true'] at hh
        obtain ⟨h0, h1, h2⟩ := hh
        have hb : b ≠ [] := fun e => by subst e; cases h0
        refine ⟨tx a, tx b, rfl, rfl, ?_, ?_, fun p hp => ?_⟩
        · rw [tx_len]
          cases b with
          | nil => exact absurd rfl hb
          | cons c r => simp
        · rw [tx_len, sizeLine_eq]
          have := Nat.le_of_ble_eq_true h2
          omega
        · have e : Txt.split (tx a) (tx b) = (TL.spl b 0 [] a).map tx := SX.split_S hb (by
            rw [← h1]
            congr 1
            funext c
            exact Bool.eq_iff_iff.mpr ⟨fun h => Nat.ble_eq_true_of_le (of_decide_eq_true h), fun h => decide_eq_true (Nat.le_of_ble_eq_true h)⟩)
          rw [e]
          exact give_new k S hp (reps_strs _) q
      · exact q.elim
  · exact q.elim
/-- sep.join(xs) -/
def strsD : List D → Option (List Tx)
  | [] => some []
  | .str s :: r => match strsD r with
    | some ss => some (s :: ss)
    | none => none
  | _ => none
def seqOf : D → Option (List D)
  | .lst xs => some xs
  | .tup xs => some xs
  | _ => none
def sumN : List Nat → Nat
  | [] => 0
  | x :: r => x + sumN r
def joinF : MF := fun x ds μ Q => match x, ds with
  | .str a, [y] => match seqOf (look μ y) with
    | some xs => match strsD xs with
      | some ss => match Nat.ble (sumN (ss.map List.length) + ss.length * a.length) 16777216 with
        | true => Q (.str (TL.joinL a ss)) μ
        | false => False
      | none => False
    | none => False
  | _, _ => False
def rJoin (K : PySem.W.Frag) : V → List V → Hp → VK → Prop := fun x xs H Q => ∃ a p, ∃ ys : List Str, x = .str a ∧ xs = [.ref p] ∧ (SqL K H p (ys.map V.str) ∨ SqT K H p (ys.map V.str)) ∧
    (ys.map (·.length)).sum + ys.length * a.length ≤ 16777216 ∧ Q (.str (Txt.join a ys)) H
theorem Reps.strs {K : PySem.W.Frag} {Tb : Tab} {F : Hp} {m : List Addr} : ∀ {ds : List D} {vs : List V} {ss : List Tx}, Reps K Tb F m ds vs → strsD ds = some ss → vs = (ss.map tx).map V.str
  | [], _, bs, .nil, e => by
    injection e with e
    subst e
    rfl
  | d :: ds, _, bs, .cons h r, e => by
    cases h with
    | str =>
      unfold strsD at e
      split at e
      · rename_i bs' e'
        injection e with e
        subst e
        rw [Reps.strs r e']
        rfl
      · cases e
    | _ => cases e
theorem sumN_eq : ∀ l : List Nat, l.sum = sumN l
  | [] => rfl
  | x :: r => by rw [List.sum_cons, sumN_eq r]; rfl
theorem ok_join : MeOk X z (rJoin X.K) joinF := fun F m μ ρ σ H x v ds vs Qd Q S rx rs q k => by
  unfold joinF at q
  split at q
  · rename_i a y
    cases rx
    cases rs with
    | cons r1 rs =>
      cases rs
      have vy := S.view r1
      split at q
      · rename_i xs hx
        split at q
        · rename_i ss hs
          split at q
          · rename_i hl
            have hl := Nat.le_of_ble_eq_true hl
            have hsz : ((ss.map tx).map (·.length)).sum + (ss.map tx).length * (tx a).length ≤ 16777216 := by
              rw [tx_len, List.map_map, List.length_map]
              have : (ss.map ((fun x => x.length) ∘ tx)) = ss.map List.length := List.map_congr_left fun s _ => tx_len s
              rw [this, sumN_eq]
              exact hl
            have hj : Txt.join (tx a) (ss.map tx) = tx (TL.joinL a ss) := SX.join_S a ss
            have fin : Q (.str (Txt.join (tx a) (ss.map tx))) H := by
              rw [hj]
              exact k.now S .str q
            generalize hy : look μ y = y' at vy hx
            cases y' with
            | lst ys =>
              injection hx with hx
              subst hx
              obtain ⟨p, us, rfl, h1, r2⟩ := vy.list S.same
              rw [r2.strs hs] at h1
              exact ⟨tx a, p, ss.map tx, rfl, rfl, .inl (SqL.of h1), hsz, fin⟩
            | tup ys =>
              injection hx with hx
              subst hx
              obtain ⟨p, us, rfl, h1, r2⟩ := vy.tup S.same
              rw [r2.strs hs] at h1
              exact ⟨tx a, p, ss.map tx, rfl, rfl, .inr h1, hsz, fin⟩
            | _ => cases hx
          · exact q.elim
        · exact q.elim
      · exact q.elim
  · exact q.elim
/-- xs.append(y) -/
def appF : MF := fun x ds μ Q => match x, ds with
  | .mref k, [y] => match μ[k]? with
    | some (.lst xs) => match Nat.blt xs.length 16777216 with
      | true => Q .non (μ.set k (.lst (xs ++ [y])))
      | false => False
    | _ => False
  | _, _ => False
theorem ok_app : MeOk X z rAppend appF := fun F m μ ρ σ H x v ds vs Qd Q S rx rs q k => by
  unfold appF at q
  split at q
  · rename_i i y
    cases rx with
    | mref e =>
      cases rs with
      | cons r1 rs =>
        cases rs
        split at q
        · rename_i xs hx
          split at q
          · rename_i hl
            have hl := Nat.le_of_ble_eq_true hl
            obtain ⟨_, us, h1, r2⟩ := S.sto i _ _ e hx (fun z => nomatch z)
            obtain ⟨x1, S1⟩ := S.wr (o' := .lst (xs ++ [y])) e hx (fun z => nomatch z) rfl ⟨_, upd_same, r2.append (.cons r1 .nil)⟩
            refine ⟨_, us, _, rfl, rfl, h1, ?_, k _ _ _ _ _ _ x1 S1 .non q⟩
            rw [← r2.length, sizeLine_eq]
            exact hl
          · exact q.elim
        · exact q.elim
  · exact q.elim
/-- l.index(x) -/
def idxD (x : D) : List D → Nat → Option Nat
  | [], _ => none
  | y :: r, n => match eqD y x with
    | true => some n
    | false => idxD x r (n + 1)
def idxF : MF := fun x ds μ Q => match look μ x, ds with
  | .lst xs, [y] => match pureD 60 y && pureD 60 (.lst xs), idxD y xs 0 with
    | true, some j => Q (.int (j : Nat)) μ
    | _, _ => False
  | _, _ => False
theorem toPys_get : ∀ {xs : List D} {j : Nat}, (toPys xs)[j]? = (xs[j]?).map toPy
  | [], j => by simp [toPys]
  | x :: xs, 0 => by simp [toPys]
  | x :: xs, j + 1 => by simp [toPys, toPys_get (xs := xs) (j := j)]
theorem idxD_spec {x : D} : ∀ {xs : List D} {n j : Nat}, idxD x xs n = some j → ∃ i y, j = n + i ∧ xs[i]? = some y ∧ eqD y x = true ∧ ∀ l y', l < i → xs[l]? = some y' → eqD y' x = false
  | [], n, j, h => by cases h
  | y :: r, n, j, h => by
    unfold idxD at h
    split at h
    · rename_i e
      injection h with h
      exact ⟨0, y, by omega, rfl, e, fun l _ hl => absurd hl (Nat.not_lt_zero _)⟩
    · rename_i e
      obtain ⟨i, y', h1, h2, h3, h4⟩ := idxD_spec h
      refine ⟨i + 1, y', by omega, by simpa using h2, h3, fun l y2 hl hy => ?_⟩
      cases l with
      | zero =>
        simp only [List.getElem?_cons_zero, Option.some.injEq] at hy
        subst hy
        exact e
      | succ l => exact h4 l y2 (by omega) (by simpa using hy)
theorem ok_idx : MeOk X z (rIndexD X.K) idxF := fun F m μ ρ σ H x v ds vs Qd Q S rx rs q k => by
  unfold idxF at q
  split at q
  · rename_i xs y hx
    have vx := S.view rx
    rw [hx] at vx
    cases rs with
    | cons r1 rs =>
      cases rs
      split at q
      · rename_i j hp hj
        rw [Bool.and_eq_true] at hp
        obtain ⟨g1, g2⟩ := hp
        obtain ⟨a, us, rfl, h1, r2⟩ := vx.list S.same
        obtain ⟨i, y', e1, e2, e3, e4⟩ := idxD_spec hj
        have e1 : j = i := by omega
        subst e1
        have pl : pureDs 59 xs = true := by simpa [pureD] using g2
        have pu : ∀ {n : Nat} {ds : List D} {l : Nat} {y : D}, pureDs n ds = true → ds[l]? = some y → pureD n y = true := by
          intro n ds
          induction ds with
          | nil => intro l y _ h; simp at h
          | cons d ds ih =>
            intro l y h hl
            unfold pureDs at h
            split at h
            · rename_i hd
              cases l with
              | zero =>
                simp only [List.getElem?_cons_zero, Option.some.injEq] at hl
                subst hl
                exact hd
              | succ l => exact ih h (by simpa using hl)
            · cases h
        refine ⟨a, _, toPy y, toPys xs, j, toPy y', rfl, rfl, vx.dp S.same g2, (Vw.of r1).dp S.same g1, shaped_of g2 (by decide), shaped_of g1 (by decide), by rw [toPys_get, e2]; rfl, ?_, fun l z' hl hz => ?_, k.now S .int q⟩
        · rw [← eqD_py 59 60 _ _ (pu pl e2) g1]
          exact e3
        · rw [toPys_get] at hz
          cases hq : xs[l]? with
          | none =>
            rw [hq] at hz
            cases hz
          | some y2 =>
            rw [hq] at hz
            injection hz with hz
            subst hz
            rw [← eqD_py 59 60 _ _ (pu pl hq) g1]
            exact e4 l y2 hl hq
      · exact q.elim
  · exact q.elim
/-! ### new lists that change -/
def wLstO (w : WA) : WE := fun ρ μ Q E => w ρ μ (fun xs μ1 => match lineB xs.length with
  | true => giveL true xs μ1 Q
  | false => False) E
theorem de_lstO (h : DA X z es wa) : DE X z (.List es cpos) (wLstO wa) := fun Wd tk =>
  peI (pe_lst (h Wd tk)) fun σ H Q ⟨F, m, μ, ρ, Qd, S, h, k⟩ => ⟨F, m, μ, ρ, _, S, h, fun F1 m1 μ1 ds vs H1 x1 S1 r1 q1 => by
    cases e : lineB ds.length with
    | false => rw [e] at q1; exact q1.elim
    | true =>
      rw [e] at q1
      refine ⟨by rw [← r1.length]; exact lineB_le e, fun p hp => ?_⟩
      have kk : Fin X.K z F1 m1 H1 ρ σ Qd Q := fun F4 m4 μ4 d4 v4 H4 x4 => k F4 m4 μ4 d4 v4 H4 (x1.trans x4)
      exact give_new kk S1 hp r1 q1⟩
/-- [..] * n -/
def repL {α : Type} : Nat → List α → List α
  | 0, _ => []
  | n + 1, xs => xs ++ repL n xs
def mulB : Int → Bool
  | .ofNat n => Nat.blt n 100000
  | .negSucc n => Nat.blt n 1000
theorem mulB_ok {i : Int} (h : mulB i = true) : -100000 < i ∧ i < 100000 := by
  cases i with
  | ofNat n =>
    have := Nat.le_of_ble_eq_true (show Nat.ble (n + 1) 100000 = true from h)
    simp only [Int.ofNat_eq_natCast]
    omega
  | negSucc n =>
    have := Nat.le_of_ble_eq_true (show Nat.ble (n + 1) 1000 = true from h)
    omega
def wMulO (wa wb : WE) : WE := fun ρ μ Q E => wa ρ μ (fun x μ1 => wb ρ μ1 (fun y μ2 => match look μ2 x, y with
  | .lst xs, .int i => match mulB i && Nat.ble xs.length 100 with
    | true => giveL true (repL i.toNat xs) μ2 Q
    | false => False
  | _, _ => False) E) E
theorem repL_eq {α : Type} (xs : List α) : ∀ n, (List.replicate n xs).flatten = repL n xs
  | 0 => rfl
  | n + 1 => by rw [List.replicate_succ, List.flatten_cons, repL_eq xs n]; rfl
theorem Reps.repL {K : PySem.W.Frag} {Tb : Tab} {F : Hp} {m : List Addr} {ds : List D} {vs : List V} (r : Reps K Tb F m ds vs) : ∀ n, Reps K Tb F m (Pk.repL n ds) (Pk.repL n vs)
  | 0 => .nil
  | n + 1 => r.append (Reps.repL r n)
theorem de_mulO {a b : Expr} {wx wy : WE} (ha : DE X z a wx) (hb : DE X z b wy) : DE X z (.BinOp a .Mult b cpos) (wMulO wx wy) := fun Wd tk =>
  peI (pe_op op_rep (ha Wd tk) (hb Wd tk)) fun σ H Q ⟨F, m, μ, ρ, Qd, S, h, k⟩ => ⟨F, m, μ, ρ, _, S, h, fun F1 m1 μ1 d1 v1 H1 x1 S1 r1 q1 => ⟨F1, m1, μ1, ρ, _, S1, q1, fun F2 m2 μ2 d2 v2 H2 x2 S2 r2 q2 => by
    have kk : Fin X.K z F2 m2 H2 ρ σ Qd Q := fun F4 m4 μ4 d4 v4 H4 x4 => k F4 m4 μ4 d4 v4 H4 (x1.trans (x2.trans x4))
    have vx := S2.view (r1.mono x2.gr)
    split at q2
    · rename_i xs i hx
      rw [hx] at vx
      cases r2
      obtain ⟨a, us, rfl, h1, r3⟩ := vx.list S2.same
      split at q2
      · rename_i hh
        rw [Bool.and_eq_true] at hh
        have g0 := (mulB_ok hh.1).1
        have g1 := (mulB_ok hh.1).2
        have g2 := Nat.le_of_ble_eq_true hh.2
        refine ⟨a, i, us, rfl, rfl, h1, by omega, by omega, ?_, fun p hp => ?_⟩
        · rw [← r3.length, sizeLine_eq]
          calc xs.length * i.toNat ≤ 100 * 100000 := Nat.mul_le_mul g2 (by omega)
            _ ≤ 16777216 := by decide
        · rw [repL_eq]
          exact give_new kk S2 hp (r3.repL _) q2
      · exact q2.elim
    · exact q2.elim⟩⟩
end
end Pk

/-! The data layer, part M3: attributes, stores. -/
namespace Pk
open PySem PySem.Spec PyProof.Rows L2

/-! ### attributes -/
def fldIx (f : Str) : List Str → Option Nat
  | [] => none
  | g :: r => if g = f then some 0 else (fldIx f r).map (· + 1)
structure FldF (K : PySem.W.Frag) (T : Tab) (c : Nat) (f : Str) (j : Nat) : Prop where
  cl : Cls K (T.ca c)
  na : NoAttr K (T.ca c) f
  ix : fldIx f (T.fn c) = some j
  few : (T.fn c).length < 1000
section
variable {K : PySem.W.Frag} {T : Tab} {F : Hp} {m : List Addr}
theorem fld_get : ∀ {fn : List Str} {f : Str} {j : Nat} {ds : List D} {vs : List V} {d : D}, fldIx f fn = some j → Reps K T F m ds vs → ds[j]? = some d → ∃ v, (fn.zip vs).lookup f = some v ∧ Rep K T F m d v
  | [], f, j, ds, vs, d, h, _, _ => by cases h
  | g :: fn, f, j, _, _, d, h, .nil, e => by simp at e
  | g :: fn, f, j, _, _, d, h, .cons (d := d0) (v := v0) (vs := vs) r rs, e => by
    unfold fldIx at h
    by_cases hg : g = f
    · rw [if_pos hg] at h
      injection h with h
      subst h
      simp only [List.getElem?_cons_zero, Option.some.injEq] at e
      subst e
      refine ⟨v0, ?_, r⟩
      rw [List.zip_cons_cons]
      simp [List.lookup, beq_iff_eq.mpr hg.symm]
    · rw [if_neg hg] at h
      cases q : fldIx f fn with
      | none => rw [q] at h; cases h
      | some i =>
        rw [q] at h
        injection h with h
        subst h
        obtain ⟨v, h1, h2⟩ := fld_get q rs (by simpa using e)
        refine ⟨v, ?_, h2⟩
        rw [List.zip_cons_cons]
        have hb : (f == g) = false := beq_eq_false_iff_ne.mpr (Ne.symm hg)
        simp only [List.lookup, hb]
        exact h1
/-- setting: there already, or the next one -/
def setAt (ds : List D) (j : Nat) (d : D) : Option (List D) := match Nat.blt j ds.length with
  | true => some (ds.set j d)
  | false => match Nat.beq j ds.length with
    | true => some (ds ++ [d])
    | false => none
theorem fld_put : ∀ {fn : List Str} {f : Str} {j : Nat} {ds ds' : List D} {vs : List V} {d : D} {v : V}, fldIx f fn = some j → Reps K T F m ds vs → Rep K T F m d v → setAt ds j d = some ds' →
    ∃ vs', putF f v (fn.zip vs) = fn.zip vs' ∧ Reps K T F m ds' vs' ∧ ds'.length ≤ max ds.length (j + 1) := by
  intro fn f j ds ds' vs d v h r rv e
  have main : ∀ {fn : List Str} {f : Str} {j : Nat} {vs : List V}, fldIx f fn = some j → (j < vs.length → putF f v (fn.zip vs) = fn.zip (vs.set j v)) ∧ (j = vs.length → putF f v (fn.zip vs) = fn.zip (vs ++ [v])) := by
    intro fn
    induction fn with
    | nil => intro f j vs h; cases h
    | cons g fn ih =>
      intro f j vs h
      unfold fldIx at h
      by_cases hg : g = f
      · rw [if_pos hg] at h
        injection h with h
        subst h
        refine ⟨fun hl => ?_, fun hl => ?_⟩
        · cases vs with
          | nil => simp at hl
          | cons v0 vs =>
            rw [List.zip_cons_cons]
            simp [putF, hg]
        · cases vs with
          | nil => simp [putF, hg]
          | cons v0 vs => simp at hl
      · rw [if_neg hg] at h
        cases q : fldIx f fn with
        | none => rw [q] at h; cases h
        | some i =>
          rw [q] at h
          injection h with h
          subst h
          cases vs with
          | nil => exact ⟨fun hl => by simp at hl, fun hl => by simp at hl⟩
          | cons v0 vs =>
            obtain ⟨h1, h2⟩ := ih (vs := vs) q
            refine ⟨fun hl => ?_, fun hl => ?_⟩
            · have := h1 (by simpa using hl)
              rw [List.zip_cons_cons]
              simp [putF, hg, this]
            · have := h2 (by simpa using hl)
              rw [List.zip_cons_cons]
              simp [putF, hg, this]
  obtain ⟨h1, h2⟩ := main (vs := vs) h
  unfold setAt at e
  have hl := r.length
  split at e
  · rename_i hb
    injection e with e
    subst e
    exact ⟨_, h1 (by rw [← hl]; exact Nat.le_of_ble_eq_true hb), r.set rv j, by rw [List.length_set]; omega⟩
  · split at e
    · rename_i hb
      injection e with e
      subst e
      exact ⟨_, h2 (by rw [← hl]; exact Nat.eq_of_beq_eq_true hb), r.append (.cons rv .nil), by rw [List.length_append, List.length_singleton, ← Nat.eq_of_beq_eq_true hb]; omega⟩
    · cases e
theorem fldIx_lt : ∀ {fn : List Str} {f : Str} {j : Nat}, fldIx f fn = some j → j < fn.length
  | [], _, _, h => by cases h
  | g :: fn, f, j, h => by
    unfold fldIx at h
    split at h
    · injection h with h
      subst h
      exact Nat.zero_lt_succ _
    · cases q : fldIx f fn with
      | none => rw [q] at h; cases h
      | some i =>
        rw [q] at h
        injection h with h
        subst h
        exact Nat.succ_lt_succ (fldIx_lt q)
end
theorem own_ne {H : Hp} {a dx b : Addr} {C : Addr} {fs : List (Str × V)} (h1 : H a = some (.ins C dx fs)) (h3 : H dx = some (.own b)) : dx ≠ a := fun z => by
  rw [← z, h3] at h1
  cases h1
def wFld (c j : Nat) (w : WE) : WE := fun ρ μ Q E => w ρ μ (fun x μ1 => match look μ1 x with
  | .ins c' fs => match Nat.beq c' c, fs[j]? with
    | true, some d => Q d μ1
    | _, _ => False
  | _ => False) E
section
variable {X : Cx} {z : Zx} {o e : Expr} {pos pos' : Pos} {w wo we : WE} {c j : Nat} {f : Str}
theorem de_fld (ff : FldF X.K z.T c f j) (h : DE X z e w) (hb : attributeBase e f X.env (eval e X.env) = eval e X.env := by rfl) : DE X z (.Attribute e f pos) (wFld c j w) := fun Wd tk =>
  peI (pe_fld (h Wd tk) hb) fun σ H Q ⟨F, m, μ, ρ, Qd, S, h, k⟩ => ⟨F, m, μ, ρ, _, S, h, fun F1 m1 μ1 d1 v1 H1 x1 S1 r1 q1 => by
    have vx := S1.view r1
    split at q1
    · rename_i c' fs hx
      rw [hx] at vx
      split at q1
      · rename_i d hc hj
        have := Nat.eq_of_beq_eq_true hc
        subst this
        obtain ⟨a, dx, vs, rfl, h1, r2⟩ := vx.inst S1.same
        obtain ⟨u, h2, r3⟩ := fld_get ff.ix r2 hj
        exact ⟨a, _, dx, _, u, rfl, h1, ff.cl, ff.na, h2, k _ _ _ _ _ _ x1 S1 r3 q1⟩
      · exact q1.elim
    · exact q1.elim⟩
/-- o.f = e -/
def sFldD (c j : Nat) (wo we : WE) : WS := fun De ρ μ => we ρ μ (fun y μ1 => wo ρ μ1 (fun x μ2 => match x with
  | .mref k => match μ2[k]? with
    | some (.ins c' fs) => match Nat.beq c' c, setAt fs j y with
      | true, some fs' => De.nx ρ (μ2.set k (.ins c fs'))
      | _, _ => False
    | _ => False
  | _ => False) (fun x μ' => De.ex x ρ μ')) (fun x μ' => De.ex x ρ μ')
theorem ds_fld (ff : FldF X.K z.T c f j) (ho : DE X z o wo) (he : DE X z e we) (hs : swapsWith e (some (.Attribute o f pos')) pos.line X.env = pure false := by rfl) : DS X z (.Assign [.Attribute o f pos'] e pos) (sFldD c j wo we) := fun Wd tk =>
  psI (ps_fld (ho Wd tk) (he Wd tk) hs) fun D σ H ⟨F, m, μ, ρ, De, S, h, ex, k⟩ => by
  subst ex
  exact ⟨F, m, μ, ρ, _, S, h, fun F1 m1 μ1 d1 v1 H1 x1 S1 r1 q1 => ⟨F1, m1, μ1, ρ, _, S1, q1, fun F2 m2 μ2 d2 v2 H2 x2 S2 r2 q2 => by
    split at q2
    · rename_i i
      cases r2 with
      | mref e2 =>
        split at q2
        · rename_i c' fs hx
          split at q2
          · rename_i fs' hc hj
            have := Nat.eq_of_beq_eq_true hc
            subst this
            obtain ⟨_, dx, vs, h1, h3, n3, l3, r3⟩ := S2.sto i _ _ e2 hx (fun z => nomatch z)
            obtain ⟨vs', p1, p2, p3⟩ := fld_put ff.ix r3 (r1.mono x2.gr) hj
            have ne := own_ne h1 h3
            obtain ⟨x4, S4⟩ := S2.wr (u := .ins (z.T.ca c') dx ((z.T.fn c').zip vs')) (o' := .ins c' fs') e2 hx (fun z => nomatch z) rfl
              ⟨dx, vs', upd_same, by rw [upd_ne ne]; exact h3, n3, by have := fldIx_lt ff.ix; omega, p2⟩
            refine ⟨_, _, dx, _, rfl, h1, ff.cl, ff.na, ?_, ?_⟩
            · rw [List.length_zip]
              have := ff.few
              omega
            · rw [p1]
              exact k.nx _ _ _ _ _ _ (x1.trans (x2.trans x4)) S4 q2
          · exact q2.elim
        · exact q2.elim
    · exact q2.elim⟩⟩
/-- o.f += e, lists -/
def sFldAugD (c j : Nat) (wo we : WE) : WS := fun De ρ μ => wo ρ μ (fun x μ1 => match x with
  | .mref k => match μ1[k]? with
    | some (.ins c' fs) => match Nat.beq c' c, fs[j]? with
      | true, some (.mref l) => we ρ μ1 (fun y μ2 => match μ2[l]?, look μ2 y, μ2[k]? with
        | some (.lst xs), .lst ys, some (.ins c2 fs2) => match Nat.beq c2 c, fs2[j]?, Nat.ble (xs.length + ys.length) 16777216 && !Nat.beq k l with
          | true, some (.mref l2), true => match Nat.beq l2 l with
            | true => De.nx ρ (μ2.set l (.lst (xs ++ ys)))
            | false => False
          | _, _, _ => False
        | _, _, _ => False) (fun x μ' => De.ex x ρ μ')
      | _, _ => False
    | _ => False
  | _ => False) (fun x μ' => De.ex x ρ μ')
theorem List.set_same {α : Type} {l : List α} {i : Nat} {a : α} (h : l[i]? = some a) : l.set i a = l := by
  obtain ⟨hl, e⟩ := List.getElem?_eq_some_iff.mp h
  rw [← e]
  exact List.set_getElem_self hl
theorem ds_fldaug (ff : FldF X.K z.T c f j) (ho : DE X z o wo) (he : DE X z e we) : DS X z (.AugAssign (.Attribute o f pos') .Add e pos) (sFldAugD c j wo we) := fun Wd tk =>
  psI (ps_fldaug (rd := rExt2) (ho Wd tk) (he Wd tk) iop_ext) fun D σ H ⟨F, m, μ, ρ, De, S, h, ex, k⟩ => by
  subst ex
  exact ⟨F, m, μ, ρ, _, S, h, fun F1 m1 μ1 d1 v1 H1 x1 S1 r1 q1 => by
    split at q1
    · rename_i i
      cases r1 with
      | mref e1 =>
        split at q1
        · rename_i c' fs hx
          split at q1
          · rename_i l hc hj
            have := Nat.eq_of_beq_eq_true hc
            subst this
            obtain ⟨_, dx, vs, h1, h3, n3, l3, r3⟩ := S1.sto i _ _ e1 hx (fun z => nomatch z)
            obtain ⟨u, g1, g2⟩ := fld_get ff.ix r3 hj
            refine ⟨_, _, dx, _, u, rfl, h1, ff.cl, ff.na, g1, F1, m1, μ1, ρ, _, S1, q1, fun F2 m2 μ2 d2 v2 H2 x2 S2 r2 q2 => ?_⟩
            cases g2 with
            | mref el =>
              split at q2
              · rename_i xs ys c2 fs2 hxs hys hk
                split at q2
                · rename_i l2 hc2 hj2 hz
                  split at q2
                  · rename_i hl2
                    have e3 := Nat.eq_of_beq_eq_true hc2
                    have e4 := Nat.eq_of_beq_eq_true hl2
                    subst e3 e4
                    rw [Bool.and_eq_true] at hz
                    have el2 := (Rep.mono x2.gr (.mref el) : Rep X.K z.T F2 m2 (.mref l2) _)
                    have ei2 := (Rep.mono x2.gr (.mref e1) : Rep X.K z.T F2 m2 (.mref i) _)
                    cases el2 with
                    | mref el2 =>
                      cases ei2 with
                      | mref ei2 =>
                        obtain ⟨_, us, p1, p2⟩ := S2.sto l2 _ _ el2 hxs (fun z => nomatch z)
                        obtain ⟨_, dx2, vs2, q3, q4, q5, q6, q7⟩ := S2.sto i _ _ ei2 hk (fun z => nomatch z)
                        have vy := S2.view r2
                        rw [hys] at vy
                        obtain ⟨b, zs, rfl, p3, p4⟩ := vy.list S2.same
                        obtain ⟨x4, S4⟩ := S2.wr (u := .lst (us ++ zs)) (o' := .lst (xs ++ ys)) el2 hxs (fun z => nomatch z) rfl ⟨_, upd_same, p2.append p4⟩
                        have ne : i ≠ l2 := fun z => by
                          rw [z] at hk
                          rw [hxs] at hk
                          cases hk
                        have hk4 : (μ2.set l2 (.lst (xs ++ ys)))[i]? = some (.ins c2 fs2) := by rw [List.getElem?_set_ne (Ne.symm ne)]; exact hk
                        obtain ⟨_, dx3, vs3, t1, t2, t3, t4, t5⟩ := S4.sto i _ _ ei2 hk4 (fun z => nomatch z)
                        refine ⟨_, b, us, zs, rfl, rfl, p1, p3, ?_, ?_⟩
                        · rw [← p2.length, ← p4.length, sizeLine_eq]
                          exact Nat.le_of_ble_eq_true hz.1
                        · have hj3 : setAt fs2 j (.mref l2) = some fs2 := by
                            unfold setAt
                            have hlt : j < fs2.length := (List.getElem?_eq_some_iff.mp hj2).1
                            have : Nat.blt j fs2.length = true := Nat.ble_eq_true_of_le hlt
                            rw [this]
                            show some (fs2.set j _) = some fs2
                            rw [List.set_same hj2]
                          obtain ⟨vs', w1, w2, w3⟩ := fld_put ff.ix t5 (.mref el2) hj3
                          have nd := own_ne t1 t2
                          obtain ⟨x5, S5⟩ := S4.wr (u := .ins (z.T.ca c2) dx3 ((z.T.fn c2).zip vs')) (o' := .ins c2 fs2) ei2 hk4 (fun z => nomatch z) rfl
                            ⟨dx3, vs', upd_same, by rw [upd_ne nd]; exact t2, t3, t4, w2⟩
                          refine ⟨dx3, _, t1, ?_, ?_⟩
                          · rw [List.length_zip]
                            have := ff.few
                            omega
                          · rw [w1]
                            refine k.nx _ _ _ _ _ _ (x1.trans (x2.trans (x4.trans x5))) S5 ?_
                            rw [List.set_same hk4]
                            exact q2
                  · exact q2.elim
                · exact q2.elim
              · exact q2.elim
          · exact q1.elim
        · exact q1.elim
    · exact q1.elim⟩
end
end Pk

/-! The data layer, part M4: stores by subscript, augmented assignments, while. -/
namespace Pk
open PySem PySem.Spec PyProof.Rows L2

/-! ### o[i] = v -/
def ixG (n : Nat) (i : Int) : Option Nat := match i with
  | .ofNat k => match Nat.blt k n with
    | true => some k
    | false => none
  | .negSucc k => match Nat.ble (k + 1) n with
    | true => some (n - (k + 1))
    | false => none
theorem ixG_eq {n : Nat} {i : Int} {j : Nat} (h : ixG n i = some j) : ixN n i = some j := by
  unfold ixG at h
  unfold ixN
  split at h
  · rename_i k
    split at h
    · rename_i hk
      injection h with h
      subst h
      have := Nat.le_of_ble_eq_true hk
      have h0 : (0 : Int) ≤ Int.ofNat k := Int.ofNat_nonneg k
      have h1 : Int.ofNat k < (n : Int) := by simp only [Int.ofNat_eq_natCast]; omega
      rw [if_pos h0, if_pos h1]
      rfl
    · cases h
  · rename_i k
    split at h
    · rename_i hk
      injection h with h
      subst h
      have := Nat.le_of_ble_eq_true hk
      have h0 : ¬ (0 : Int) ≤ Int.negSucc k := by omega
      have h1 : -(n : Int) ≤ Int.negSucc k := by omega
      rw [if_neg h0, if_pos h1]
      congr 1
      omega
    · cases h
def hasK : List (DK × D) → DK → Bool
  | [], _ => false
  | (k, _) :: r, x => match eqDK k x with
    | true => true
    | false => hasK r x
def mapK (x : DK) (v : D) : List (DK × D) → List (DK × D)
  | [] => []
  | (k, d) :: r => match eqDK k x with
    | true => (k, v) :: mapK x v r
    | false => (k, d) :: mapK x v r
def putE (kvs : List (DK × D)) (x : DK) (v : D) : List (DK × D) := match hasK kvs x with
  | true => mapK x v kvs
  | false => kvs ++ [(x, v)]
def setD : MO → D → D → Option MO
  | .lst xs, .int i, v => match ixG xs.length i with
    | some j => some (.lst (xs.set j v))
    | none => none
  | .dct kvs, i, v => match toK i, Nat.blt kvs.length 16777216 with
    | some k, true => some (.dct (putE kvs k v))
    | _, _ => none
  | _, _, _ => none
def rSetA : TSet := fun o i v H Q => rSetL o i v H Q ∨ rSetD o i v H Q
section
variable {X : Cx}
theorem set_all (hu : X.A.units + 1 < cLine) : PSet X rSetA := by
  intro pins s σ H o i v ov iv u Q I ro ri rv h
  rcases h with h | h
  · exact set_list pins s σ H o i v ov iv u Q I ro ri rv h
  · exact set_dict hu pins s σ H o i v ov iv u Q I ro ri rv h
end
section
variable {K : PySem.W.Frag} {T : Tab} {F0 F F' H0 : Hp} {m0 m m' : List Addr} {μ μ' : Sto} {ρ : Slots} {σ : L2.St} {H H' : Hp} {p a : Addr} {ds : List D} {vs : List V} {k : Nat}
theorem iteR {α : Type} {p : α → Prop} {x y : α} (h : p x) : p (if true = true then x else y) := h
theorem iteL {α : Type} {p : α → Prop} {x y : α} (h : p y) : p (if false = true then x else y) := h
theorem RepK.app {d : D} {v : V} {k : DK} (rv : Rep K T F m d v) : ∀ {ds : List (DK × D)} {vs : List (Key × V)}, RepK K T F m ds vs → RepK K T F m (ds ++ [(k, d)]) (vs ++ [(k.key, v)])
  | _, _, .nil => .cons rv .nil
  | _, _, .cons r rs => .cons r (RepK.app rv rs)
theorem key_dec {j k : DK} : decide (j.key = k.key) = eqDK j k := by
  rw [Bool.eq_iff_iff, decide_eq_true_iff, key_inj, eqDK_iff]
theorem hasK_V {k : DK} : ∀ {ds : List (DK × D)} {vs : List (Key × V)}, RepK K T F m ds vs → (vs.any fun kv => decide (kv.1 = k.key)) = hasK ds k
  | _, _, .nil => rfl
  | _, _, .cons (k := j) r rs => by
    rw [List.any_cons, hasK_V rs]
    show (decide (j.key = k.key) || _) = (match eqDK j k with | true => true | false => _)
    rw [key_dec]
    cases eqDK j k <;> rfl
theorem mapK_V {k : DK} {d : D} {v : V} (rv : Rep K T F m d v) : ∀ {ds : List (DK × D)} {vs : List (Key × V)}, RepK K T F m ds vs → RepK K T F m (mapK k d ds) (vs.map fun kv => if kv.1 = k.key then (kv.1, v) else kv)
  | _, _, .nil => .nil
  | _, _, .cons (k := j) (d := x) (v := u) (ds := ds) (vs := vs) r rs => by
    rw [List.map_cons]
    unfold mapK
    have e1 := key_dec (j := j) (k := k)
    cases q : eqDK j k with
    | true =>
      rw [q] at e1
      rw [if_pos (of_decide_eq_true e1)]
      exact .cons rv (mapK_V rv rs)
    | false =>
      rw [q] at e1
      rw [if_neg (of_decide_eq_false e1)]
      exact .cons r (mapK_V rv rs)
theorem putK_V {k : DK} {d : D} {v : V} (rv : Rep K T F m d v) {ds : List (DK × D)} {vs : List (Key × V)} (r : RepK K T F m ds vs) : RepK K T F m (putE ds k d) (putK vs k.key v) := by
  unfold putE putK
  rw [hasK_V r]
  cases hasK ds k with
  | true => exact iteR (p := fun w => RepK K T F m _ w) (mapK_V rv r)
  | false => exact iteL (p := fun w => RepK K T F m _ w) (RepK.app rv r)
theorem set_run {z : Zx} {mo mo' : MO} {i d : D} {iv v : V} {Q : Hp → Prop} (S : SimZ K z F m μ ρ σ H) (e : m[k]? = some a) (q : μ[k]? = some mo) (hs : setD mo i d = some mo') (ri : Rep K z.T F m i iv) (rv : Rep K z.T F m d v)
    (fin : ∀ H', Ext F m H F m H' → SimZ K z F m (μ.set k mo') ρ σ H' → Q H') : rSetA (.ref a) iv v H Q := by
  unfold setD at hs
  split at hs
  · split at hs
    · rename_i xs n _ j hj
      injection hs with hs
      subst hs
      cases ri
      obtain ⟨_, vs, h1, r⟩ := S.sto k a _ e q (fun z => nomatch z)
      obtain ⟨x1, S1⟩ := S.wr (u := .lst (vs.set j v)) (o' := .lst (xs.set j d)) e q (fun z => nomatch z) rfl ⟨_, upd_same, r.set rv j⟩
      exact .inl ⟨a, vs, _, j, rfl, rfl, h1, by rw [← r.length]; exact ixG_eq hj, fin _ x1 S1⟩
    · cases hs
  · split at hs
    · rename_i kk hk hl
      injection hs with hs
      subst hs
      obtain ⟨_, vs, h1, r⟩ := S.sto k a _ e q (fun z => nomatch z)
      have hkv := toK_V (H := H) (.of ri) hk
      subst hkv
      obtain ⟨x1, S1⟩ := S.wr (u := .dK (putK vs kk.key v)) (o' := .dct (putE _ kk d)) e q (fun z => nomatch z) rfl ⟨_, upd_same, putK_V rv r⟩
      have hl : vs.length < sizeLine := by
        rw [← r.length, sizeLine_eq]
        exact Nat.le_of_ble_eq_true hl
      exact .inr ⟨a, _, rfl, DPut.k h1 hl, fin _ x1 S1⟩
    · cases hs
  · cases hs
end

/-! ### targets that store -/
abbrev WG := D → Slots → Sto → (Slots → Sto → Prop) → QX → Prop
def tG2 (K : PySem.W.Frag) (z : Zx) (Wd : WXd) (w : WG) : TG := fun v σ H Q => ∃ F m μ ρ d Qd, SimZ K z F m μ ρ σ H ∧ Rep K z.T F m d v ∧ w d ρ μ Qd (fun x μ' => Wd x ρ μ') ∧
  ∀ F' m' μ' ρ' σ' H', Ext F m H F' m' H' → SimZ K z F' m' μ' ρ' σ' H' → Qd ρ' μ' → Q σ' H'
def tG2s (K : PySem.W.Frag) (z : Zx) (Wd : WXd) (w : List D → Slots → Sto → (Slots → Sto → Prop) → WXd → Prop) : TGs := fun vs σ H Q => ∃ F m μ ρ ds Qd, SimZ K z F m μ ρ σ H ∧ Reps K z.T F m ds vs ∧ w ds ρ μ Qd Wd ∧
  ∀ F' m' μ' ρ' σ' H', Ext F m H F' m' H' → SimZ K z F' m' μ' ρ' σ' H' → Qd ρ' μ' → Q σ' H'
def DG2 (X : Cx) (z : Zx) (tg : Expr) (w : WG) : Prop := ∀ Wd, Takes X (XW X.K z Wd) → PG X tg (tG2 X.K z Wd w)
def DG2s (X : Cx) (z : Zx) (es : List Expr) (w : List D → Slots → Sto → (Slots → Sto → Prop) → WXd → Prop) : Prop := ∀ Wd, Takes X (XW X.K z Wd) → PGs X es (tG2s X.K z Wd w)
def g2N (i : Nat) : WG := fun d ρ μ Q _ => Q (ρ.set i (some d)) μ
def g2S (wo wi : WE) : WG := fun d ρ μ Q E => wo ρ μ (fun x μ1 => wi ρ μ1 (fun i μ2 => match x with
  | .mref k => match μ2[k]? with
    | some mo => match setD mo i d with
      | some mo' => Q ρ (μ2.set k mo')
      | none => False
    | none => False
  | _ => False) E) E
def g2Nil : List D → Slots → Sto → (Slots → Sto → Prop) → WXd → Prop := fun ds ρ μ Q _ => match ds with
  | [] => Q ρ μ
  | _ => False
def g2Cons (w : WG) (r : List D → Slots → Sto → (Slots → Sto → Prop) → WXd → Prop) : List D → Slots → Sto → (Slots → Sto → Prop) → WXd → Prop := fun ds ρ μ Q E => match ds with
  | d :: ds => w d ρ μ (fun ρ1 μ1 => r ds ρ1 μ1 Q E) (fun x μ' => E x ρ μ')
  | [] => False
def g2T (n : Nat) (r : List D → Slots → Sto → (Slots → Sto → Prop) → WXd → Prop) (E : WXd) : D → Slots → Sto → (Slots → Sto → Prop) → Prop := fun d ρ μ Q => match d with
  | .tup ds => match Nat.beq ds.length n with
    | true => r ds ρ μ Q E
    | false => False
  | _ => False
section
variable {X : Cx} {z : Zx} {pos : Pos} {e o i tg : Expr} {es : List Expr} {w : WE} {wo wi : WE} {g : WG} {gs : List D → Slots → Sto → (Slots → Sto → Prop) → WXd → Prop}
theorem d2_name {j : Nat} {x : Str} (hN : X.N.Nodup) (hi : X.N[j]? = some x) (hx : Loc X.env.scope x) (hf : X.fn x = true ∨ X.env.scope.names.lookup x = some .local := by first | exact .inl rfl | exact .inr rfl | assumption) : DG2 X z (.Name x pos) (g2N j) := fun Wd tk =>
  pgI (pg_name hN hi hx hf) fun v σ H Q ⟨F, m, μ, ρ, d, Qd, S, r, h, k⟩ => k _ _ _ _ _ _ (Ext.refl _ _ _) (S.set r) h
theorem d2_sub (hu : X.A.units + 1 < cLine) (ho : DE X z o wo) (hi : DE X z i wi)
    (ha : ∀ v, assign (.Subscript o i pos) X.env v = (do
      let ov ← holding [v] (eval o X.env)
      let iv ← holding [v, ov] (eval i X.env)
      standAt pos
      holding [v, ov, iv] (setItem ov iv v)
      release [v, ov, iv] []) := by intro _; rfl) : DG2 X z (.Subscript o i pos) (g2S wo wi) := fun Wd tk =>
  pgI (pg_sub (ho Wd tk) (hi Wd tk) (set_all hu) ha) fun v σ H Q ⟨F, m, μ, ρ, d, Qd, S, r, h, k⟩ => ⟨F, m, μ, ρ, _, S, h, fun F1 m1 μ1 d1 v1 H1 x1 S1 r1 q1 => ⟨F1, m1, μ1, ρ, _, S1, q1, fun F2 m2 μ2 d2 v2 H2 x2 S2 r2 q2 => by
    split at q2
    · rename_i n
      split at q2
      · rename_i mo hmo
        split at q2
        · rename_i mo' hs
          have rn := r1.mono x2.gr
          cases rn with
          | mref e =>
            exact set_run S2 e hmo hs r2 (r.mono (x1.trans x2).gr) fun H' x3 S3 => k _ _ _ _ _ _ (x1.trans (x2.trans x3)) S3 q2
        · exact q2.elim
      · exact q2.elim
    · exact q2.elim⟩⟩
theorem d2s_nil : DG2s X z [] g2Nil := fun Wd tk => pgsI pgs_nil fun vs σ H Q ⟨F, m, μ, ρ, ds, Qd, S, r, h, k⟩ => by
  cases r with
  | nil => exact ⟨rfl, k _ _ _ _ _ _ (Ext.refl _ _ _) S h⟩
  | cons _ _ => exact h.elim
theorem d2s_cons (h1 : DG2 X z e g) (h2 : DG2s X z es gs) (hs : (assignEach (e :: es) X.env).map (·.2) = assign e X.env :: (assignEach es X.env).map (·.2) := by rfl) : DG2s X z (e :: es) (g2Cons g gs) := fun Wd tk =>
  pgsI (pgs_cons (h1 Wd tk) (h2 Wd tk) hs) fun vs σ H Q ⟨F, m, μ, ρ, ds, Qd, S, r, h, k⟩ => by
    cases r with
    | nil => exact h.elim
    | cons r rs =>
      exact ⟨_, _, rfl, F, m, μ, ρ, _, _, S, r, h, fun F1 m1 μ1 ρ1 σ1 H1 x1 S1 q1 => ⟨F1, m1, μ1, ρ1, _, _, S1, rs.mono x1.gr, q1, fun F2 m2 μ2 ρ2 σ2 H2 x2 => k _ _ _ _ _ _ (x1.trans x2)⟩⟩
/-- tg = e, tg a name, o[i], a tuple of such -/
def sAsg2 (w : WE) (g : WXd → D → Slots → Sto → (Slots → Sto → Prop) → Prop) : WS := fun De ρ μ => w ρ μ (fun d μ1 => g De.ex d ρ μ1 De.nx) (fun x μ' => De.ex x ρ μ')
theorem ds_asg2 (he : DE X z e w) (hg : DG2 X z tg g) (hs : swapsWithSole [tg] e pos.line X.env = pure false := by rfl) (hw : swappedStores [tg] e X.env = pure none := by rfl)
    (h1 : (assignEach [tg] X.env).map (·.2) = [assign tg X.env] := by rfl) : DS X z (.Assign [tg] e pos) (sAsg2 w fun E d ρ μ Q => g d ρ μ Q (fun x μ' => E x ρ μ')) := fun Wd tk => psI (ps_asg (he Wd tk) (hg Wd tk) hs hw h1) fun D σ H ⟨F, m, μ, ρ, De, S, h, ex, k⟩ => by
  subst ex
  exact ⟨F, m, μ, ρ, _, S, h, fun F1 m1 μ1 d1 v1 H1 x1 S1 r1 q1 => ⟨F1, m1, μ1, ρ, _, _, S1, r1, q1, fun F2 m2 μ2 ρ2 σ2 H2 x2 => k.nx _ _ _ _ _ _ (x1.trans x2)⟩⟩
theorem ds_asg2T {k n : Nat} {ps : Pos} (hc : X.calm = true) (he : DE X z e w) (hg : DG2s X z es gs) (hn : (assignEach es X.env).length = n := by rfl) (hst : (assignEach es X.env).findIdx? (·.1) = none := by rfl)
    (hs : swapsWithSole [.Tuple es k ps] e pos.line X.env = pure false := by rfl) (hw : swappedStores [.Tuple es k ps] e X.env = pure none := by rfl)
    (h1 : (assignEach [.Tuple es k ps] X.env).map (·.2) = [assign (.Tuple es k ps) X.env] := by rfl) : DS X z (.Assign [.Tuple es k ps] e pos) (sAsg2 w fun E => g2T n gs E) := fun Wd tk => psI (ps_asg (he Wd tk) (pg_tup hc (hg Wd tk) hn hst) hs hw h1) fun D σ H ⟨F, m, μ, ρ, De, S, h, ex, k⟩ => by
  subst ex
  refine ⟨F, m, μ, ρ, _, S, h, fun F1 m1 μ1 d1 v1 H1 x1 S1 r1 q1 => ?_⟩
  simp only [g2T] at q1
  split at q1
  · rename_i ds
    split at q1
    · rename_i hl
      cases r1 with
      | tup hq rs =>
        exact ⟨_, _, rfl, Same.sqt S1.same hq, by rw [← rs.length]; exact Nat.eq_of_beq_eq_true hl, F1, m1, μ1, ρ, ds, _, S1, rs, q1, fun F2 m2 μ2 ρ2 σ2 H2 x2 => k.nx _ _ _ _ _ _ (x1.trans x2)⟩
    · exact q1.elim
  · exact q1.elim

/-! ### augmented -/
theorem get_list : PGet X (fun x y H Q => ∃ p xs i v, x = .ref p ∧ y = .int i ∧ SqL X.K H p xs ∧ atI xs i = some v ∧ Q v H) := by
  intro pins s σ H x y v u Q I rx ry h
  obtain ⟨p, xs, i, z, rfl, rfl, hq, he, q⟩ := h
  cases rx
  obtain ⟨t, rfl⟩ := ry
  obtain ⟨its, r, pl, hz⟩ := I.list hq
  obtain ⟨j, h1, h2, h3, h4, h5⟩ := atI_get he
  obtain ⟨w, ew, rw'⟩ := r.get h2
  have hl := r.length
  have hn := line63
  have fin : EP X pins σ Q w s := ⟨z, H, I, rw', q⟩
  by_cases h0 : 0 ≤ i
  · have hj : i.toNat = j := by
      rw [seqIndex_of h0 h5] at h1
      exact Option.some.inj h1
    exact wpAny_getItem_list pl.isList h0 (by omega) (by rw [hj]; simpa using ew) fin
  · have hj : (i + (its.toArray.size : Int)).toNat = j := by
      rw [seqIndex_neg (by omega) h4] at h1
      rw [List.size_toArray, ← hl]
      exact Option.some.inj h1
    exact wpAny_getItem_list_neg pl.isList (by omega) (by rw [List.size_toArray] <;> omega) (by omega) (by rw [hj]; simpa using ew) fin
def rGetA (K : PySem.W.Frag) : V → V → Hp → VK → Prop := fun x y H Q => (∃ p xs i v, x = .ref p ∧ y = .int i ∧ SqL K H p xs ∧ atI xs i = some v ∧ Q v H) ∨ (∃ a v, x = .ref a ∧ DGet H a y (some v) ∧ Q v H)
theorem get_all (hu : X.A.units + 1 < cLine) : PGet X (rGetA X.K) := by
  intro pins s σ H x y v u Q I rx ry h
  rcases h with h | ⟨a, w, ex, g, q⟩
  · exact get_list pins s σ H x y v u Q I rx ry h
  · subst ex
    cases rx
    exact d_getItem hu I g ry fun w' s' I' r' => ⟨_, _, I', r', q⟩
/-- o[i] += e, ints -/
def getA : D → D → Option D
  | .lst xs, .int i => atG xs i
  | .dct kvs, i => match toK i with
    | some k => getK kvs k
    | none => none
  | _, _ => none
def sAugS (f : Int → Int → Int) (wo wi we : WE) : WS := fun De ρ μ => wo ρ μ (fun x μ1 => wi ρ μ1 (fun i μ2 => match getA (look μ2 x) i with
  | some (.int a) => we ρ μ2 (fun y μ3 => match y with
    | .int b => match x with
      | .mref k => match μ3[k]? with
        | some mo => match setD mo i (.int (f a b)) with
          | some mo' => De.nx ρ (μ3.set k mo')
          | none => False
        | none => False
      | _ => False
    | _ => False) (fun x μ' => De.ex x ρ μ')
  | _ => False) (fun x μ' => De.ex x ρ μ')) (fun x μ' => De.ex x ρ μ')
theorem get_run {K : PySem.W.Frag} {F : Hp} {m : List Addr} {μ : Sto} {ρ : Slots} {σ : L2.St} {H : Hp} {x i d : D} {v u : V} {Q : VK} (S : SimZ K z F m μ ρ σ H) (vx : Vw K z.T F m H x v) (ri : Rep K z.T F m i u) (h : getA x i = some d) (fin : ∀ w, Rep K z.T F m d w → Q w H) : rGetA K v u H Q := by
  unfold getA at h
  split at h
  · rename_i xs i
    cases ri
    obtain ⟨a, vs, rfl, h1, r⟩ := vx.list S.same
    have e1 := atG_eq h
    unfold atI at e1
    cases hj : ixN _ _ with
    | none => rw [hj] at e1; cases e1
    | some j =>
      rw [hj] at e1
      obtain ⟨w, h2, r2⟩ := r.get e1
      have e2 : atI vs i = some w := by
        unfold atI
        rw [← r.length, hj]
        exact h2
      exact .inl ⟨a, vs, _, w, rfl, rfl, SqL.of h1, e2, fin w r2⟩
  · split at h
    · rename_i kk hk
      obtain ⟨a, vs, rfl, h1, r⟩ := vx.dict S.same
      have hkv := toK_V (H := H) (.of ri) hk
      subst hkv
      obtain ⟨w, h2, r2⟩ := (getK_V r).1 d h
      exact .inr ⟨a, w, rfl, .inl ⟨vs, kk.key, h1, rfl, h2.symm⟩, fin w r2⟩
    · cases h
  · cases h
theorem ds_augS {op : Operator} {f : Int → Int → Int} {tpos : Pos} (hu : X.A.units + 1 < cLine) (hp : PIp X op (ipI f)) (ho : DE X z o wo) (hi : DE X z i wi) (he : DE X z e w)
    (ha : ∀ ov iv new, augStore i ov iv new = (do holding [new, ov, iv] (setItem ov iv new); release [new, ov, iv] []; pure .next) := by intros; rfl) : DS X z (.AugAssign (.Subscript o i tpos) op e pos) (sAugS f wo wi w) := fun Wd tk =>
  psI (ps_augS (ho Wd tk) (hi Wd tk) (get_all hu) (he Wd tk) hp (set_all hu) ha) fun D σ H ⟨F, m, μ, ρ, De, S, h, ex, k⟩ => by
    subst ex
    refine ⟨F, m, μ, ρ, _, S, h, fun F1 m1 μ1 d1 v1 H1 x1 S1 r1 q1 => ⟨F1, m1, μ1, ρ, _, S1, q1, fun F2 m2 μ2 d2 v2 H2 x2 S2 r2 q2 => ?_⟩⟩
    split at q2
    · rename_i a hg
      refine get_run S2 (S2.view (r1.mono x2.gr)) r2 hg fun w rw => ?_
      cases rw
      refine ⟨F2, m2, μ2, ρ, _, S2, q2, fun F3 m3 μ3 d3 v3 H3 x3 S3 r3 q3 => ?_⟩
      split at q3
      · rename_i b
        cases r3
        split at q3
        · rename_i n
          split at q3
          · rename_i mo hmo
            split at q3
            · rename_i mo' hs
              have rn := r1.mono (x2.trans x3).gr
              cases rn with
              | mref e =>
                exact ⟨a, b, rfl, rfl, set_run S3 e hmo hs (r2.mono x3.gr) .int fun H' x4 S4 => k.nx _ _ _ _ _ _ (x1.trans (x2.trans (x3.trans x4))) S4 q3⟩
            · exact q3.elim
          · exact q3.elim
        · exact q3.elim
      · exact q3.elim
    · exact q2.elim
/-- x += e, ints -/
def sAug (f : Int → Int → Int) (i : Nat) (w : WE) : WS := fun De ρ μ => match ρ[i]? with
  | some (some (.int a)) => w ρ μ (fun y μ1 => match y with
    | .int b => De.nx (ρ.set i (some (.int (f a b)))) μ1
    | _ => False) (fun x μ' => De.ex x ρ μ')
  | _ => False
theorem ds_aug {op : Operator} {f : Int → Int → Int} {j : Nat} {x : Str} {pos' : Pos} (hN : X.N.Nodup) (hi : X.N[j]? = some x) (hx : Loc X.env.scope x) (hp : PIp X op (ipI f)) (he : DE X z e w) (hf : X.fn x = true ∨ X.env.scope.names.lookup x = some .local := by first | exact .inl rfl | exact .inr rfl | assumption) :
    DS X z (.AugAssign (.Name x pos') op e pos) (sAug f j w) := fun Wd tk => psI (ps_aug hN hi hx (he Wd tk) hp hf) fun D σ H ⟨F, m, μ, ρ, De, S, h, ex, k⟩ => by
  subst ex
  unfold sAug at h
  split at h
  · rename_i a ha
    obtain ⟨v, h1, h2⟩ := S.slot j _ ha
    cases h2
    refine ⟨_, h1, F, m, μ, ρ, _, S, h, fun F1 m1 μ1 d1 v1 H1 x1 S1 r1 q1 => ?_⟩
    split at q1
    · cases r1
      exact ⟨_, _, rfl, rfl, k.nx _ _ _ _ _ _ x1 (S1.set .int) q1⟩
    · exact q1.elim
  · exact h.elim

/-! ### while -/
def whW (t : WT) (wb : WS) : Nat → WS
  | 0, _, _, _ => False
  | n + 1, De, ρ, μ => t ρ μ (fun b μ1 => match b with
    | true => wb ⟨fun ρ2 μ2 => whW t wb n De ρ2 μ2, De.rt, De.nx, fun ρ2 μ2 => whW t wb n De ρ2 μ2, De.ex⟩ ρ μ1
    | false => De.nx ρ μ1) (fun x μ' => De.ex x ρ μ')
def sWhile (n : Nat) (t : WT) (wb : WS) : WS := whW t wb n
theorem ds_while {c : Expr} {body : List Stmt} {t : WT} {wb : WS} (n : Nat) (hp : PassesOwn (model X.prog X.w) X.A X.env X.xe) (hc : DT X z c t) (hb : DSs X z body wb) : DS X z (.While c body [] pos) (sWhile n t wb) := fun Wd tk =>
  psI (ps_while hp (hc Wd tk) (hb Wd tk)) fun D σ H ⟨F, m, μ, ρ, De, S, h, ex, k⟩ => by
    subst ex
    refine ⟨fun mm σ1 H1 => ∃ F1 m1 μ1 ρ1, Ext F m H F1 m1 H1 ∧ SimZ X.K z F1 m1 μ1 ρ1 σ1 H1 ∧ whW t wb mm De ρ1 μ1, ⟨n, F, m, μ, ρ, Ext.refl _ _ _, S, h⟩, fun mm σ1 H1 ⟨F1, m1, μ1, ρ1, x1, S1, q1⟩ => ?_⟩
    cases mm with
    | zero => exact q1.elim
    | succ mm =>
      refine ⟨F1, m1, μ1, ρ1, _, S1, q1, fun F2 m2 μ2 b H2 x2 S2 q2 => ?_⟩
      have x12 := x1.trans x2
      cases b with
      | false => exact iteN (k.nx _ _ _ _ _ _ x12 S2 q2)
      | true =>
        refine iteY ⟨fun σ' H' => ∃ F1 m1 μ1 ρ1, Ext F m H F1 m1 H' ∧ SimZ X.K z F1 m1 μ1 ρ1 σ' H' ∧ whW t wb mm De ρ1 μ1, fun σ' H' h => ⟨mm, Nat.lt_succ_self _, h⟩, F2, m2, μ2, ρ1, _, S2, q2, rfl, ?_⟩
        exact ⟨fun F4 m4 μ4 ρ4 σ4 H4 x4 S4 q4 => ⟨F4, m4, μ4, ρ4, x12.trans x4, S4, q4⟩, fun F4 m4 μ4 ρ4 σ4 d4 v4 H4 x4 => k.rt _ _ _ _ _ _ _ _ (x12.trans x4),
          fun F4 m4 μ4 ρ4 σ4 H4 x4 => k.nx _ _ _ _ _ _ (x12.trans x4), fun F4 m4 μ4 ρ4 σ4 H4 x4 S4 q4 => ⟨F4, m4, μ4, ρ4, x12.trans x4, S4, q4⟩⟩
end
end Pk

/-! The data layer, part N0: promises of defs that are called where no repr is under way. -/
namespace Pk
open PySem PySem.Spec PyProof.Rows L2
/-- room, and no guard on the stack -/
structure Room (k : Nat) (A : Around) : Prop extends L2.Room k A where
  g : A.guards = some []
section
variable {j k : Nat} {A : Around}
theorem Room.mono (h : Room k A) (l : j ≤ k) : Room j A := ⟨h.toRoom.mono l, h.g⟩
theorem Room.deeper (h : Room (k + 1) A) (env : Env) : Room k (A.deeper env) := ⟨h.toRoom.deeper env, h.g⟩
theorem Room.make (h : Room (k + 1) A) (C : Addr) (us : List Value) (kw : List (Str × Value)) : Room k (A.under (.builtin "type.__call__" ⟨.ref C :: us, kw⟩)) := ⟨h.toRoom.make C us kw, h.g⟩
theorem Room.in1 (h : Room (k + 1) A) : Room k A.in1 := ⟨h.toRoom.in1, h.g⟩
end
/-- the promise of a def, over such callers -/
structure FnOk (P : Program) (w : World) (K : PySem.W.Frag) (mg : Str → Option Value) (base : Heap) (CX : CXT) (k : Nat) (f : Addr) (fd : FuncData) (ps : List Str) (sp : Sp) : Prop where
  len : ∀ ys G Qv Ev, sp ys G Qv Ev → ys.length = ps.length
  run : ∀ (A : Around) (os : List Env) (t : Shared) (G : Hp) (ag : Args) (us : List Value) (ys : List V) (Qv : VK) (Ev : XK), Room k A → Env0 P w K mg base A os t G → BindsTo t fd ag (ps.zip us) → Vals ys us → sp ys G Qv Ev →
    codeAny (model P w) A (.call (.ref f) ag) (CR CX os P w G t Qv Ev) t
theorem FnOk.imp {P : Program} {w : World} {K : PySem.W.Frag} {mg : Str → Option Value} {base : Heap} {CX : CXT} {k : Nat} {f : Addr} {fd : FuncData} {ps : List Str} {sp sq : Sp} (Fo : FnOk P w K mg base CX k f fd ps sp) (h : ∀ ys G Qv Ev, sq ys G Qv Ev → sp ys G Qv Ev) : FnOk P w K mg base CX k f fd ps sq where
  len := fun ys G Qv Ev z => Fo.len ys G Qv Ev (h _ _ _ _ z)
  run := fun A os t G ag us ys Qv Ev rm e0 bd vl z => Fo.run A os t G ag us ys Qv Ev rm e0 bd vl (h _ _ _ _ z)
/-- from the body's walk -/
theorem fn_ofG {CX : CXT} {P : Program} {w : World} {K : PySem.W.Frag} {mg : Str → Option Value} {base : Heap} {k : Nat} {f : Addr} {name qual : Str} {params : Arguments} {body : List Stmt} {scope : Scope} {dV kV doc pm cdv ct oc : Value} {an od : Option Addr}
    {osl : Array (Option Value)} {N ps : List Str} {sp : Sp} (look : K.lookup f = some ⟨oc, od, .func (PySem.W.fnOf name qual params body scope dV kV doc pm an cdv ct), osl⟩) (code : PySem.W.codeIn K cdv qual = true) (S : FnScope N ps scope)
    (len : ∀ ys G Qv Ev, sp ys G Qv Ev → ys.length = ps.length)
    (walk : ∀ (A : Around) (os : List Env) (t : Shared) (G : Hp) (ys : List V) (Qv : VK) (Ev : XK), Room k (A.deeper (envOfC qual scope t.heap.objs.size f cdv)) → sp ys G Qv Ev →
      ∃ tb, PSs (cxOf CX P w K mg base N qual scope f cdv A os t G Ev) body tb ∧ tb { nx := fun _ G' => Qv .non G', rt := Qv } (start N ys) G) :
    FnOk P w K mg base CX (k + 1) f (PySem.W.fnOf name qual params body scope dV kV doc pm an cdv ct) ps sp where
  len := len
  run := by
    intro A os t G ag us ys Qv Ev rm e0 bd vl z
    have nl := len _ _ _ _ z
    have inK : K.In t.heap := e0.mod.kin.keeps fun b o eb => (e0.bs b o eb).1
    have noLim : t.heap.NoLimit := e0.mod.nolimit.keeps fun b o eb => (e0.bs b o eb).1
    have kinds : ∀ y ∈ ps.zip us, scope.names.lookup y.1 = some .local ∨ (scope.names.lookup y.1 = some .cell ∧ ((cellsFrom (t.heap.objs.size + 1) scope.names []).lookup y.1).isSome = true) := by
      rintro ⟨nm, v⟩ hy
      exact (S.par nm (List.of_mem_zip hy).1).imp id fun q => ⟨q, PySem.W.cellsFrom_some _ _ _ (.inl q)⟩
    refine codeAny_call_function rm.depth (inK _ _ look) rfl S.co S.gen rfl (PySem.W.codeRec_of inK code) (bd _ _ _ _ (wpAny_newFunctionEnv_cells S.kind kinds fun env he t1 x => ?_))
    subst he
    refine ⟨noLim.keeps x.toInCall.keep, codeAny_func ?_⟩
    obtain ⟨tb, ps1, q⟩ := walk A os t G ys Qv Ev (rm.deeper _) z
    have I0 : Inv (cxOf CX P w K mg base N qual scope f cdv A os t G Ev) [] (start N ys) G t1 := inv_start S rm.hd e0 nl vl x
    refine wpAny_mono (ps1.run [] t1 (start N ys) G _ I0 q) (fun fl t2 => ?_) fun _ _ e => e
    match fl with
    | .ret u => exact fun ⟨v, _, G', J, rv, q⟩ => ⟨v, G', J.os, J.bare, J.base, J.hok, rv, q⟩
    | .next => exact fun ⟨_, G', J, q⟩ => ⟨.non, G', J.os, J.bare, J.base, J.hok, rfl, q⟩
    | .brk => exact fun ⟨_, _, _, q⟩ => q.elim
    | .cont => exact fun ⟨_, _, _, q⟩ => q.elim
section
variable {X : Cx} {CX : CXT} {k : Nat} {f C p0 g a dx : Addr} {fd : FuncData} {ps : List Str} {sp : Sp} {dvs : List V} {ds : List Value} {E : L2.St → XK} {x : Str} {p pos : Pos} {e : Expr} {es : List Expr} {t : TA} {ta : TE} {fs : List (Str × V)}
theorem run_fnSD {pins : List (Addr × Obj)} {σ : L2.St} {H : Hp} {s : Shared} {Q : VK} {us : List Value} {vs : List V} (Fo : FnOk X.prog X.w X.K X.mg X.base CX k f fd ps sp) (rm : Room k X.A) (bd : Binds X.K fd ps ds) (hd : Vals dvs ds) (px : PassesAt CX X σ (E σ))
    (I : Inv X pins σ H s) (rv : Vals vs us) (z : sp (vs ++ dvs) H Q (E σ)) : wpAny (model X.prog X.w) X.A (call (.ref f) us) (EP X pins σ Q) X.xe s := by
  have all := rv.append hd
  have go := Fo.run X.A X.stack s H ⟨us, []⟩ (us ++ ds) (vs ++ dvs) Q (E σ) rm I.env0 (bd s us I.kIn (all.length.symm.trans (Fo.len _ _ _ _ z))) all z
  refine wpAny_call (codeAny_mono go fun r t2 => ?_)
  match r with
  | .error er => exact fun q => px pins H s er t2 I q
  | .ok (.ret u) => exact fun q => I.after q
  | .ok .next => exact fun q => q.elim
  | .ok .brk => exact fun q => q.elim
  | .ok .cont => exact fun q => q.elim
theorem pe_callSD (Fo : FnOk X.prog X.w X.K X.mg X.base CX k f fd ps sp) (rm : Room k X.A) (gl : Gl X x) (hm : X.mg x = some (.ref f)) (kp : PySem.W.keepIn X.K (.ref f) = true) (bd : Binds X.K fd ps ds) (hd : Vals dvs ds) (px : ∀ σ, PassesAt CX X σ (E σ))
    (ha : PA X (e :: es) t) (hdb : (x == ("__debug__" : Str)) = false := by decide) (he : starEach (e :: es) X.env = (false, eval e X.env) :: starEach es X.env := by rfl) (hpl : (backTo pos (starEach es X.env)).any (·.1) = false := by rfl) :
    PE X (.Call (.Name x p) (e :: es) [] pos) (tCallSD sp dvs E t) where
  run := fun pins s σ H Q I h => wpAny_Call_Name_kw (ld_glob I gl hm (PySem.W.callWith_K (h₀ := X.base) I.ok.mod.kin kp
    (thn (ha.run pos pins s σ H _ I h) fun us s1 ⟨vs, H1, I1, r, q⟩ => ⟨I1.kIn, run_fnSD Fo rm bd hd (px σ) I1 r q⟩) he hpl) hdb)
/-- o.f, a property's getter -/
theorem getpropG {pins : List (Addr × Obj)} {σ : L2.St} {H : Hp} {s : Shared} {Q : VK} {b : Bool} {E' : Value → Shared → Prop} {E : XK} {m : Str} (I : Inv X pins σ H s) (ea : H a = some (.ins C dx fs)) (c : Cls X.K C) (hp : PropOf X.K C m p0 g)
    (Fo : FnOk X.prog X.w X.K X.mg X.base CX k g fd ps sp) (rm : Room (k + 1) X.A) (bd : Binds X.K fd ps ds) (hd : Vals dvs ds) (px : Passes CX X.nox E) (z : sp (.ref a :: dvs) H Q E) :
    wpAny (model X.prog X.w) X.A (getAttr (.ref a) m b) (EP X pins σ Q) E' s := by
  obtain ⟨mA, O, -⟩ := ins_get I.hok ea
  obtain ⟨od, J, -⟩ := O.look
  obtain ⟨rest, hrec⟩ := hp.rec_
  have It := I.tok (s.toks + 1)
  have nl : ([Value.ref a] ++ ds).length = ps.length := by
    rw [← Fo.len _ _ _ _ z, List.length_cons, hd.length]
    rfl
  have cl : (PySem.W.clsIn X.K C).isSome = true := by
    obtain ⟨cd, e1, -⟩ := PySem.W.any_some c.hd
    exact e1 ▸ rfl
  have go := Fo.run X.A.in1 X.stack { s with toks := s.toks + 1 } H ⟨[.ref a], []⟩ (.ref a :: ds) (.ref a :: dvs) Q E rm.in1 It.env0.in1 (bd _ [.ref a] It.kIn nl) (.cons rfl hd) z
  refine PySem.W.get_bind I.kIn J (PySem.W.plainGet_of (c.get m)).1 (PySem.W.findObj_data cl hp.at_ hp.get hp.tak) (PySem.W.plainGet_of (c.get m)).2 (wpAny_call (PySem.W.prop_get (s := { s with toks := s.toks + 1 }) I.kIn hrec (codeAny_mono go fun r t2 => ?_)))
  match r with
  | .error er => exact fun q => (px pins σ H { s with toks := s.toks + 1 } er t2 (It.wish _) q).elim
  | .ok (.ret u) =>
    intro q
    obtain ⟨v, G, I3, rv, q3⟩ := It.after q
    show wpAny _ _ (handedOut u) _ _ _
    rw [PySem.W.handedOut_of (handed_of rv)]
    exact wpAny_pure ⟨v, G, I3, rv, q3⟩
  | .ok .next => exact fun q => q.elim
  | .ok .brk => exact fun q => q.elim
  | .ok .cont => exact fun q => q.elim
theorem pe_prop {E : XK} {m : Str} (he : PE X e ta) (c : Cls X.K C) (hp : PropOf X.K C m p0 g) (Fo : FnOk X.prog X.w X.K X.mg X.base CX k g fd ps sp) (rm : Room (k + 1) X.A) (bd : Binds X.K fd ps ds) (hd : Vals dvs ds) (px : Passes CX X.nox E)
    (hab : attributeBase e m X.env (eval e X.env) = eval e X.env) : PE X (.Attribute e m pos) (tProp C sp dvs E ta) where
  run := fun pins s σ H Q I h => attr_of hab (thn (he.run pins s σ H _ I h) fun u s1 ⟨y, H1, I1, ry, a, dx, fs, ey, ea, q⟩ => by
    subst ey
    cases ry
    exact getpropG I1 ea c hp Fo rm bd hd px q)
/-- a classmethod's record is called -/
theorem run_cmG {pins : List (Addr × Obj)} {σ : L2.St} {H : Hp} {s : Shared} {Q : VK} {q : Addr} {us : List Value} {vs : List V} (Fo : FnOk X.prog X.w X.K X.mg X.base CX k g fd ps sp) (rm : Room k X.A) (bd : Binds X.K fd ps ds) (hd : Vals dvs ds) (px : PassesAt CX X σ (E σ))
    (I : Inv X ((q, PySem.W.methodObj (.ref g) (.ref C)) :: pins) σ H s) (rv : Vals vs us) (z : sp (.ref C :: vs ++ dvs) H Q (E σ)) : wpAny (model X.prog X.w) X.A (call (.ref q) us) (EP X pins σ Q) X.xe s := by
  have all : Vals (.ref C :: vs ++ dvs) (.ref C :: us ++ ds) := Vals.append (.cons rfl rv) hd
  have go := Fo.run X.A X.stack s H ⟨.ref C :: us, []⟩ (.ref C :: us ++ ds) (.ref C :: vs ++ dvs) Q (E σ) rm I.env0 (bd s (.ref C :: us) I.kIn (all.length.symm.trans (Fo.len _ _ _ _ z))) all z
  refine thn (Q := EP X ((q, PySem.W.methodObj (.ref g) (.ref C)) :: pins) σ Q) (wpAny_call (PySem.W.method_call (ClX.pin_at I) (codeAny_mono go fun r t2 => ?_))) fun _ _ y => ClX.unpinE y
  match r with
  | .error er => exact fun q => px _ H s er t2 I q
  | .ok (.ret u) => exact fun q => I.after q
  | .ok .next => exact fun q => q.elim
  | .ok .brk => exact fun q => q.elim
  | .ok .cont => exact fun q => q.elim
/-- C.m(..), a classmethod -/
theorem pe_cmG {o : Expr} {apos : Pos} {m : Str} {mc : Value} {pl : Sem Bool} (ho : PE X o ta) (r : ClX.CRead X.K C mc) (c : ClX.CMet X.K C mc m p0 g) (Fo : FnOk X.prog X.w X.K X.mg X.base CX k g fd ps sp) (rm : Room k X.A) (bd : Binds X.K fd ps ds) (hd : Vals dvs ds)
    (px : ∀ σ, PassesAt CX X σ (E σ)) (ha : PA X (e :: es) t)
    (hst : starEach (e :: es) X.env = (false, eval e X.env) :: starEach es X.env) (hpl : (backTo pos (starEach es X.env)).any (·.1) = false)
    (ht : eval (.Call (.Attribute o m apos) (e :: es) [] pos) X.env = (eval o X.env >>= fun ov => standAt apos.atName >>= fun _ => holding [ov] (getMethod ov m pl) >>= fun r => callWith pos r.1 r.2 (backTo pos (starEach (e :: es) X.env)) (backToKw pos (keywordEach [] X.env)))) :
    PE X (.Call (.Attribute o m apos) (e :: es) [] pos) (fun σ H Q => ta σ H fun x H1 => x = .ref C ∧ t σ H1 fun ws H2 => sp (.ref C :: ws ++ dvs) H2 Q (E σ)) := by
  refine ⟨fun pins s σ H Q I h => PySem.W.methodCall_KW (pl := pl) (thn (ho.run pins s σ H _ I h) fun u s1 ⟨x, H1, I1, rx, ex, q⟩ => ?_) ht⟩
  subst ex
  cases (show u = Value.ref C from rx)
  exact ClX.getmethcm_ok I1 r c fun s2 I2 => ClX.callwith_cm I2 (ClX.base_none I1 (Nat.le_refl _)) c.fi (thn (ha.run pos _ s2 σ H1 _ I2 q) fun us s3 ⟨vs, H2, I3, rv, q2⟩ => ⟨⟨ClX.pin_at I3, I3.kIn⟩, run_cmG Fo rm bd hd (px σ) I3 rv q2⟩) hst hpl
end
/-- the def's facts give its promise -/
theorem okG {P : Program} {w : World} {K : PySem.W.Frag} {mg : Str → Option Value} {base : Heap} {x qual : Str} {params : Arguments} {body : List Stmt} {scope : Scope} {dvs : List V} {kws : List (Str × V)} {f : Addr} {fd : FuncData} {CX : CXT} {N ps : List Str} {k : Nat} {sp : Sp}
    (F : FunD K x qual params body scope dvs kws f fd) (S : FnScope N ps scope) (len : ∀ ys G Qv Ev, sp ys G Qv Ev → ys.length = ps.length)
    (walk : ∀ (cdv : Value) (A : Around) (os : List Env) (t : Shared) (G : Hp) (ys : List V) (Qv : VK) (Ev : XK), Room k (A.deeper (envOfC qual scope t.heap.objs.size f cdv)) → sp ys G Qv Ev →
      ∃ tb, PSs (cxOf CX P w K mg base N qual scope f cdv A os t G Ev) body tb ∧ tb { nx := fun _ G' => Qv .non G', rt := Qv } (start N ys) G) : FnOk P w K mg base CX (k + 1) f fd ps sp := by
  obtain ⟨_, _, _, _, _, _, _, cd, _, _, rfl, look, code, _, _⟩ := F.ex
  exact fn_ofG look code S len (walk cd)
end Pk

/-! The data layer, part N1: promises of defs, calls. -/
namespace Pk
open PySem PySem.Spec PyProof.Rows L2

abbrev Con := List D → Sto → QD → QX → Prop
/-- the promise of a def whose contract is c, over the values -/
def spD (K : PySem.W.Frag) (T : Tab) (c : Con) (n : Nat) : Sp := fun vs H Q E => ∃ F m μ ds Qd Qx, Sim K T F m H F m μ [] [] H ∧ Reps K T F m ds vs ∧ ds.length = n ∧ c ds μ Qd Qx ∧
  (∀ F' m' μ' d v H', Ext F m H F' m' H' → Sim K T F m H F' m' μ' [] [] H' → Rep K T F' m' d v → Qd d μ' → Q v H') ∧
  (∀ F' m' μ' x cls d H', Ext F m H F' m' H' → Sim K T F m H F' m' μ' [] [] H' → XRep K T F' m' H' x cls d → Qx x μ' → E cls d H')
section
variable {K : PySem.W.Frag} {T : Tab} {F0 F F' H0 : Hp} {m0 m m' : List Addr} {μ μ' : Sto} {ρ : Slots} {σ : L2.St} {H H' : Hp}
theorem Sim.entry (S : Sim K T F0 m0 H0 F m μ ρ σ H) : Sim K T F m H F m μ [] [] H :=
  ⟨Ext.refl _ _ _, S.same, S.len, S.nd, S.al, S.sto, rfl, fun i d e => by simp at e⟩
theorem Sim.back (S : Sim K T F0 m0 H0 F m μ ρ σ H) (x : Ext F m H F' m' H') (B : Sim K T F m H F' m' μ' [] [] H') : Sim K T F0 m0 H0 F' m' μ' ρ σ H' :=
  ⟨S.ext.trans x, B.same, B.len, B.nd, B.al, B.sto, S.sl, fun i d e => by
    obtain ⟨v, h1, h2⟩ := S.slot i d e
    exact ⟨v, h1, h2.mono x.gr⟩⟩
theorem Sim.bare (S : Sim K T F0 m0 H0 F m μ ρ σ H) : Sim K T F0 m0 H0 F m μ [] [] H := S.slots rfl fun i d e => by simp at e
end
def startD (N : Nat) (ds : List D) : Slots := ds.map some ++ List.replicate (N - ds.length) none
def conB (N n : Nat) (w : WS) : Con := fun ds μ Q E => match Nat.beq ds.length n with
  | true => w ⟨fun _ μ' => Q .non μ', Q, fun _ _ => False, fun _ _ => False, fun x _ μ' => E x μ'⟩ (startD N ds) μ
  | false => False
theorem start_slot {K : PySem.W.Frag} {T : Tab} {F : Hp} {m : List Addr} {N : List Str} {ds : List D} {vs : List V} (r : Reps K T F m ds vs) : (startD N.length ds).length = (start N vs).length ∧ ∀ (i : Nat) (d : D), (startD N.length ds)[i]? = some (some d) → ∃ v, (start N vs)[i]? = some (some v) ∧ Rep K T F m d v := by
  have hl := r.length
  refine ⟨by simp [startD, L2.start, hl], fun i d e => ?_⟩
  unfold startD at e
  by_cases hi : i < ds.length
  · rw [List.getElem?_append_left (by simpa using hi), List.getElem?_map] at e
    cases q : ds[i]? with
    | none => rw [q] at e; cases e
    | some d' =>
      rw [q] at e
      injection e with e
      injection e with e
      subst e
      obtain ⟨v, h1, h2⟩ := r.get q
      refine ⟨v, ?_, h2⟩
      unfold L2.start
      rw [List.getElem?_append_left (by simpa using (by omega : i < vs.length)), List.getElem?_map, h1]
      rfl
  · rw [List.getElem?_append_right (by simpa using hi), List.getElem?_replicate] at e
    split at e <;> cases e
/-- what a def's facts give -/
abbrev FnC (P : Program) (w0 : World) (K : PySem.W.Frag) (mg : Str → Option Value) (base : Heap) (T : Tab) (k : Nat) (f : Addr) (fd : FuncData) (ps : List Str) (c : Con) : Prop := FnOk P w0 K mg base (L2.CX P w0) k f fd ps (spD K T c ps.length)
section
variable {P : Program} {w0 : World} {K : PySem.W.Frag} {mg : Str → Option Value} {base : Heap} {T : Tab} {x qual : Str} {params : Arguments} {body : List Stmt} {scope : Scope} {dvs : List V} {kws : List (Str × V)} {f : Addr} {fd : FuncData} {N ps : List Str} {k : Nat}
theorem fn_con {w : WS} (Fd : FunD K x qual params body scope dvs kws f fd) (S : FnScope N ps scope)
    (hb : ∀ (cdv : Value) (A : Around) (outer : List Env) (s : Shared) (H : Hp) (E : XK) (F0 : Hp) (m0 : List Addr) (H0 : Hp), Room k (A.deeper (envOfC qual scope s.heap.objs.size f cdv)) →
      DSs (cxOf (L2.CX P w0) P w0 K mg base N qual scope f cdv A outer s H E) ⟨T, F0, m0, H0⟩ body w) : FnC P w0 K mg base T (k + 1) f fd ps (conB N.length ps.length w) := by
  refine okG Fd S (fun vs H Q E h => ?_) (fun cdv A outer s H vs Q E hr h => ?_)
  · obtain ⟨F, m, μ, ds, Qd, Qx, _, r, hl, _⟩ := h
    rw [← r.length]
    exact hl
  · obtain ⟨F, m, μ, ds, Qd, Qx, S0, r, hl, hc, kd, kx⟩ := h
    have hs := start_slot (N := N) r
    have hc' : w ⟨fun _ μ' => Qd .non μ', Qd, fun _ _ => False, fun _ _ => False, fun x _ μ' => Qx x μ'⟩ (startD N.length ds) μ := by
      unfold conB at hc
      have : Nat.beq ds.length ps.length = true := by rw [hl]; exact Nat.beq_refl _
      rw [this] at hc
      exact hc
    have tk : Takes (cxOf (L2.CX P w0) P w0 K mg base N qual scope f cdv A outer s H E) (XW K ⟨T, F, m, H⟩ fun x _ μ' => Qx x μ') :=
      (takes_of (X := cxOf (L2.CX P w0) P w0 K mg base N qual scope f cdv A outer s H E) rfl rfl rfl rfl).imp fun cls d σ H' ⟨F', m', μ', ρ, x, S', xr, q⟩ => kx F' m' μ' x cls d H' S'.ext S'.bare xr q
    exact ⟨_, hb cdv A outer s H E F m H hr _ tk, F, m, μ, startD N.length ds, _, S0.slots hs.1 hs.2, hc', rfl,
      ⟨fun F' m' μ' ρ' σ' H' x S' q => kd _ _ _ _ _ _ x S'.bare .non q, fun F' m' μ' ρ' σ' d v H' x S' r q => kd _ _ _ _ _ _ x S'.bare r q, fun _ _ _ _ _ _ _ _ q => q.elim, fun _ _ _ _ _ _ _ _ q => q.elim⟩⟩
end

/-! ### calls -/
def wCall (c : Con) (wa : WA) : WE := fun ρ μ Q E => wa ρ μ (fun ds μ1 => c ds μ1 Q E) E
/-- .. with the defaults behind -/
def wCallD (c : Con) (dds : List D) (wa : WA) : WE := fun ρ μ Q E => wa ρ μ (fun ds μ1 => c (ds ++ dds) μ1 Q E) E
/-- no exception leaves -/
def nox : QX := fun _ _ => False
section
variable {X : Cx} {z : Zx} {k n : Nat} {f : Addr} {fd : FuncData} {ps : List Str} {c : Con} {x : Str} {p pos : Pos} {e : Expr} {es : List Expr} {wa : WA} {dvs : List V} {ds0 : List Value} {dds : List D}
/-- the promise, from a state of the caller -/
theorem sp_run {F : Hp} {m : List Addr} {μ : Sto} {ρ : Slots} {σ : L2.St} {H : Hp} {Qd : QD} {Qx : QX} {Q : VK} {E : XK} {ds : List D} {vs : List V} (S : SimZ X.K z F m μ ρ σ H) (r : Reps X.K z.T F m ds vs) (hl : ds.length = n) (hc : c ds μ Qd Qx) (k : Fin X.K z F m H ρ σ Qd Q)
    (kx : ∀ F' m' μ' x cls d H', Ext F m H F' m' H' → SimZ X.K z F' m' μ' ρ σ H' → XRep X.K z.T F' m' H' x cls d → Qx x μ' → E cls d H') : spD X.K z.T c n vs H Q E :=
  ⟨F, m, μ, ds, Qd, Qx, S.entry, r, hl, hc, fun F' m' μ' d v H' x1 B r1 q => k F' m' μ' d v H' x1 (S.back x1 B) r1 q, fun F' m' μ' x cls d H' x1 B xr q => kx F' m' μ' x cls d H' x1 (S.back x1 B) xr q⟩
def wCallN (c : Con) (n : Nat) (dds : List D) (wa : WA) : WE := fun ρ μ Q E => wa ρ μ (fun ds μ1 => match Nat.beq (ds ++ dds).length n with
  | true => c (ds ++ dds) μ1 Q E
  | false => False) E
theorem de_call (Fc : FnC X.prog X.w X.K X.mg X.base z.T k f fd ps c) (hr : Room k X.A) (hg : Gl X x) (hm : X.mg x = some (.ref f)) (hk : PySem.W.keepIn X.K (.ref f) = true) (hb : Binds X.K fd ps ds0) (hd : Vals dvs ds0) (hdd : ∀ F m, Reps X.K z.T F m dds dvs)
    (ha : DA X z (e :: es) wa) (hdb : (x == ("__debug__" : Str)) = false := by decide) (he : starEach (e :: es) X.env = (false, eval e X.env) :: starEach es X.env := by rfl) (hpl : (backTo pos (starEach es X.env)).any (·.1) = false := by rfl) :
    DE X z (.Call (.Name x p) (e :: es) [] pos) (wCallN c ps.length dds wa) := fun Wd tk =>
  peI (pe_callSD (E := fun σ cls d H => XW X.K z Wd cls d σ H) Fc hr hg hm hk hb hd (fun σ => passAt tk σ) (ha Wd tk) hdb he hpl) fun σ H Q ⟨F, m, μ, ρ, Qd, S, h, kk⟩ => ⟨F, m, μ, ρ, _, S, h, fun F1 m1 μ1 ds vs H1 x1 S1 r1 q1 => by
    cases e : Nat.beq (ds ++ dds).length ps.length with
    | false => rw [e] at q1; exact q1.elim
    | true =>
      rw [e] at q1
      exact sp_run S1 (r1.append (hdd _ _)) (Nat.eq_of_beq_eq_true e) q1 (fun F4 m4 μ4 d4 v4 H4 x4 => kk F4 m4 μ4 d4 v4 H4 (x1.trans x4)) fun F' m' μ' y cls d H' x2 S2 xr q => ⟨F', m', μ', ρ, y, S2, xr, q⟩⟩
theorem de_call0 (Fc : FnC X.prog X.w X.K X.mg X.base z.T k f fd ps c) (hr : Room k X.A) (hg : Gl X x) (hm : X.mg x = some (.ref f)) (hk : PySem.W.keepIn X.K (.ref f) = true) (hb : Binds X.K fd ps []) (hn : ps = [])
    (hdb : (x == ("__debug__" : Str)) = false := by decide) : DE X z (.Call (.Name x p) [] [] pos) (wCallN c 0 [] aNil) := fun Wd tk => by
  refine ⟨fun pins s σ H Q I ⟨F, m, μ, ρ, Qd, S, h, kk⟩ => ?_⟩
  refine wpAny_Call_Name_kw (ld_glob I hg hm ?_ hdb)
  have h' : c [] μ Qd (fun x μ' => Wd x ρ μ') := h
  exact PySem.W.callWith_K0 I.kIn hk (run_fnSD (us := []) (vs := []) (dvs := []) (E := fun σ cls d H => XW X.K z Wd cls d σ H) Fc hr hb .nil (passAt tk σ) I .nil
    (sp_run S .nil (by rw [hn]; rfl) h' kk fun F' m' μ' y cls d H' x2 S2 xr q => ⟨F', m', μ', ρ, y, S2, xr, q⟩))
end

/-! ### calls that see no store -/
mutual
def noM : D → Bool
  | .mref _ => false
  | .tup xs => noMs xs
  | .lst xs => noMs xs
  | .dct kvs => noMk kvs
  | .ins _ fs => noMs fs
  | .ptp xs => noMs xs
  | .ttp xs => noMs xs
  | .dcp _ xs => noMs xs
  | _ => true
def noMs : List D → Bool
  | [] => true
  | x :: r => match noM x with
    | true => noMs r
    | false => false
def noMk : List (DK × D) → Bool
  | [] => true
  | (_, x) :: r => match noM x with
    | true => noMk r
    | false => false
end
section
variable {K : PySem.W.Frag} {T : Tab} {F : Hp} {m m' : List Addr}
mutual
theorem Rep.noM : ∀ {d : D} {v : V}, Rep K T F m d v → Pk.noM d = true → Rep K T F m' d v
  | _, _, .non, _ => .non
  | _, _, .bl, _ => .bl
  | _, _, .int, _ => .int
  | _, _, .str, _ => .str
  | _, _, .tup h r, e => .tup h (Reps.noM r (by simpa [Pk.noM] using e))
  | _, _, .lst h r, e => .lst h (Reps.noM r (by simpa [Pk.noM] using e))
  | _, _, .dct h r, e => .dct h (RepK.noM r (by simpa [Pk.noM] using e))
  | _, _, .scr h, _ => .scr h
  | _, _, .ins h h2 r, e => .ins h h2 (Reps.noM r (by simpa [Pk.noM] using e))
  | _, _, .mref h, e => by simp [Pk.noM] at e
  | _, _, .cls, _ => .cls
  | _, _, .ty, _ => .ty
  | _, _, .ptp h n r, e => .ptp h n (Reps.noM r (by simpa [Pk.noM] using e))
  | _, _, .ttp h r, e => .ttp h (Reps.noM r (by simpa [Pk.noM] using e))
  | _, _, .dcp h h2 l r, e => .dcp h h2 l (Reps.noM r (by simpa [Pk.noM] using e))
theorem Reps.noM : ∀ {ds : List D} {vs : List V}, Reps K T F m ds vs → Pk.noMs ds = true → Reps K T F m' ds vs
  | _, _, .nil, _ => .nil
  | _, _, .cons h r, e => by
    unfold Pk.noMs at e
    split at e
    · rename_i e1
      exact .cons (Rep.noM h e1) (Reps.noM r e)
    · cases e
theorem RepK.noM : ∀ {ds : List (DK × D)} {vs : List (Key × V)}, RepK K T F m ds vs → Pk.noMk ds = true → RepK K T F m' ds vs
  | _, _, .nil, _ => .nil
  | _, _, .cons h r, e => by
    unfold Pk.noMk at e
    split at e
    · rename_i e1
      exact .cons (Rep.noM h e1) (RepK.noM r e)
    · cases e
end
end
/-- .. where the arguments name nothing of the store: the def runs over an empty one -/
def loc (c : Con) : Con := fun ds μ Q E => match noMs ds with
  | true => c ds [] (fun d _ => match noM d with
    | true => Q d μ
    | false => False) (fun x _ => match noMs x.fs with
    | true => E x μ
    | false => False)
  | false => c ds μ Q E
theorem loc_sp {K : PySem.W.Frag} {T : Tab} {c : Con} {n : Nat} {vs : List V} {H : Hp} {Q : VK} {E : XK} (h : spD K T (loc c) n vs H Q E) : spD K T c n vs H Q E := by
  obtain ⟨F, m, μ, ds, Qd, Qx, S, r, hl, hc, kd, kx⟩ := h
  unfold loc at hc
  split at hc
  · rename_i hn
    have S0 : Sim K T F [] H F [] [] [] [] H := ⟨Ext.refl _ _ _, S.same, rfl, List.nodup_nil, fun a h => absurd h (by simp), fun k a o e => by simp at e, rfl, fun i d e => by simp at e⟩
    have back : ∀ {F' : Hp} {m' : List Addr} {μ' : Sto} {H' : Hp}, Ext F [] H F' m' H' → Sim K T F [] H F' m' μ' [] [] H' → Ext F m H F' m H' ∧ Sim K T F m H F' m μ [] [] H' := by
      intro F' m' μ' H' x B
      have g : Gr F m F' m := ⟨x.gr.fr, [], by simp⟩
      have xx : Ext F m H F' m H' := ⟨g, fun b o e w n h => by
        obtain ⟨e1, n1, _⟩ := x.frm b o e w n (by simp)
        exact ⟨e1, n1, h⟩, x.up⟩
      refine ⟨xx, xx, B.same, S.len, S.nd, fun a h => (x.up a).2 (S.al a h), fun k a o e1 e2 n => ?_, rfl, fun i d e => by simp at e⟩
      obtain ⟨h1, h2⟩ := S.sto k a o e1 e2 n
      cases o with
      | gone => exact absurd rfl n
      | fz d => exact ⟨fun z => (by cases z), Rep.mono g h2⟩
      | lst ds =>
        obtain ⟨vs, e, r⟩ := h2
        obtain ⟨e3, n3, _⟩ := x.frm a _ e (fun _ z => by cases z) (h1 rfl) (by simp)
        exact ⟨fun _ => n3, vs, e3, r.mono g⟩
      | dct ds =>
        obtain ⟨vs, e, r⟩ := h2
        obtain ⟨e3, n3, _⟩ := x.frm a _ e (fun _ z => by cases z) (h1 rfl) (by simp)
        exact ⟨fun _ => n3, vs, e3, r.mono g⟩
      | ins c ds =>
        obtain ⟨dx, vs, e, eo, _, l, r⟩ := h2
        obtain ⟨e3, n3, _⟩ := x.frm a _ e (fun _ z => by cases z) (h1 rfl) (by simp)
        exact ⟨fun _ => n3, dx, vs, e3, (x.up dx).1 a eo, trivial, l, r.mono g⟩
    refine ⟨F, [], [], ds, _, _, S0, r.noM hn, hl, hc, fun F' m' μ' d v H' x B rd q => ?_, fun F' m' μ' y cls d H' x B xr q => ?_⟩
    · split at q
      · rename_i hd
        obtain ⟨xx, S2⟩ := back x B
        exact kd F' m μ d v H' xx S2 (rd.noM hd) q
      · exact q.elim
    · split at q
      · rename_i hd
        obtain ⟨xx, S2⟩ := back x B
        obtain ⟨e1, e2⟩ := xr
        refine kx F' m μ y cls d H' xx S2 ⟨e1, ?_⟩ q
        rcases e2 with e2 | ⟨dd, vs, a1, a2, a3, a4, a5⟩
        · exact .inl e2
        · exact .inr ⟨dd, vs, a1, a2, a3, a4.noM hd, a5⟩
      · exact q.elim
  · exact ⟨F, m, μ, ds, Qd, Qx, S, r, hl, hc, kd, kx⟩
end Pk

/-! The data layer, part N2: methods, classes made, properties, classmethods, isinstance of own classes, try without exceptions. -/
namespace Pk
open PySem PySem.Spec PyProof.Rows L2

/-! ### what a call may let out, at the slots: methods and makes -/
section
variable {X : Cx} {CX : CXT} {k : Nat} {f C : Addr} {fd : FuncData} {ps : List Str} {sp : Sp} {dvs : List V} {ds : List Value} {E : L2.St → XK} {x m : Str} {p pos apos : Pos} {e o : Expr} {es : List Expr} {ta : TE} {t : TA}
def tMethS (C : Addr) (m : Str) (sp : Sp) (dvs : List V) (E : L2.St → XK) (ta : TE) (t : TA) : TE := fun σ H Q => ta σ H fun x H1 => ∃ a dx fs, x = .ref a ∧ H1 a = some (.ins C dx fs) ∧ fs.lookup m = none ∧ t σ H1 fun vs H2 => sp (x :: (vs ++ dvs)) H2 Q (E σ)
def tMakeS (C : Addr) (sp : Sp) (dvs : List V) (E : L2.St → XK) (t : TA) : TE := fun σ H Q => t σ H fun vs H1 => ∀ x dx, H1 x = none → H1 dx = none → dx ≠ x →
  sp (.ref x :: (vs ++ dvs)) (upd (upd H1 dx (.own x)) x (.ins C dx [])) (fun v H2 => v = .non ∧ Q (.ref x) H2) (E σ)
theorem pe_methS {pl : Sem Bool} (he : PE X o ta) (c : Cls X.K C) (hm : Meth X.K C m f) (Fo : FnOk X.prog X.w X.K X.mg X.base CX k f fd ps sp) (hr : Room k X.A) (hb : Binds X.K fd ps ds) (hd : Vals dvs ds) (hx : ∀ σ, PassesAt CX X σ (E σ)) (ha : PA X (e :: es) t)
    (hst : starEach (e :: es) X.env = (false, eval e X.env) :: starEach es X.env) (hpl : (backTo pos (starEach es X.env)).any (·.1) = false)
    (ht : eval (.Call (.Attribute o m apos) (e :: es) [] pos) X.env = (eval o X.env >>= fun ov => standAt apos.atName >>= fun _ => holding [ov] (getMethod ov m pl) >>= fun r => callWith pos r.1 r.2 (backTo pos (starEach (e :: es) X.env)) (backToKw pos (keywordEach [] X.env)))) :
    PE X (.Call (.Attribute o m apos) (e :: es) [] pos) (tMethS C m sp dvs E ta t) :=
  ⟨fun pins s σ H Q I h => PySem.W.methodCall_KW (pl := pl) (thn (he.run pins s σ H _ I h) fun u s1 ⟨x, H1, I1, rx, a, dx, fs, ex, ea, l, q⟩ => by
    subst ex
    cases rx
    exact getmeth_ok I1 ea c hm l (PySem.W.callWith_K (first := [.ref a]) (h₀ := X.base) I.ok.mod.kin hm.kp
      (thn (ha.run pos pins s1 σ H1 _ I1 q) fun us s2 ⟨vs, H2, I2, r, q2⟩ => ⟨I2.kIn, run_fnSD (us := .ref a :: us) (vs := .ref a :: vs) Fo hr hb hd (hx σ) I2 (.cons rfl r) q2⟩) hst hpl)) ht⟩
theorem pe_methS0 {pl : Sem Bool} (he : PE X o ta) (c : Cls X.K C) (hm : Meth X.K C m f) (Fo : FnOk X.prog X.w X.K X.mg X.base CX k f fd ps sp) (hr : Room k X.A) (hb : Binds X.K fd ps ds) (hd : Vals dvs ds) (hx : ∀ σ, PassesAt CX X σ (E σ))
    (ht : eval (.Call (.Attribute o m apos) [] [] pos) X.env = (eval o X.env >>= fun ov => standAt apos.atName >>= fun _ => holding [ov] (getMethod ov m pl) >>= fun r => callWith pos r.1 r.2 (backTo pos (starEach [] X.env)) (backToKw pos (keywordEach [] X.env)))) :
    PE X (.Call (.Attribute o m apos) [] [] pos) (tMethS C m sp dvs E ta tNil) :=
  ⟨fun pins s σ H Q I h => PySem.W.methodCall_KW (pl := pl) (thn (he.run pins s σ H _ I h) fun u s1 ⟨x, H1, I1, rx, a, dx, fs, ex, ea, l, q⟩ => by
    subst ex
    cases rx
    exact getmeth_ok I1 ea c hm l (PySem.W.callWith_K0 (first := [.ref a]) I1.kIn hm.kp (run_fnSD (us := [.ref a]) (vs := [.ref a]) Fo hr hb hd (hx σ) I1 (.cons rfl .nil) q))) ht⟩
theorem run_makeS {pins : List (Addr × Obj)} {σ : L2.St} {H : Hp} {s : Shared} {Q : VK} {us : List Value} {vs : List V} (M : Mk X.K C f) (Fo : FnOk X.prog X.w X.K X.mg X.base CX k f fd ps sp) (hr : Room (k + 1) X.A) (hb : Binds X.K fd ps ds) (hd : Vals dvs ds) (hx : PassesAt CX X σ (E σ)) (I : Inv X pins σ H s) (r : Vals vs us)
    (h : ∀ x dx, H x = none → H dx = none → dx ≠ x → sp (.ref x :: (vs ++ dvs)) (upd (upd H dx (.own x)) x (.ins C dx [])) (fun v H2 => v = .non ∧ Q (.ref x) H2) (E σ)) : wpAny (model X.prog X.w) X.A (call (.ref C) us) (EP X pins σ Q) X.xe s := by
  obtain ⟨n, hn⟩ : ∃ n, n = s.heap.objs.size := ⟨_, rfl⟩
  have hq := h (s.heap.objs.size + 1) s.heap.objs.size (I.hok.fresh (Nat.le_succ _)) (I.hok.fresh (Nat.le_refl _)) (Nat.ne_of_lt (Nat.lt_succ_self _))
  have I2 := I.made (C := C)
  have rr : Vals (V.ref (s.heap.objs.size + 1) :: (vs ++ dvs)) (Value.ref (s.heap.objs.size + 1) :: (us ++ ds)) := .cons rfl (r.append hd)
  have hlen : (Value.ref (s.heap.objs.size + 1) :: us ++ ds).length = ps.length := (rr.length.symm.trans (Fo.len _ _ _ _ hq) : _)
  have go := Fo.run _ X.stack _ _ ⟨Value.ref (s.heap.objs.size + 1) :: us, []⟩ (Value.ref (s.heap.objs.size + 1) :: (us ++ ds)) _ _ (E σ) (hr.make C us []) (I2.env0.make C us []) (hb _ (Value.ref (s.heap.objs.size + 1) :: us) I2.kIn hlen) rr hq
  refine wpAny_call (make_map (f := f) I.kIn M.makes M.init (beq_iff_eq.mp M.fn) (codeAny_mono go fun q s' hq' => ?_))
  match q, hq' with
  | .error er, hq' => exact hx pins _ _ er s' I2 hq'
  | .ok (.ret u), hq' =>
    obtain ⟨v, H', I3, rv, ev, q3⟩ := I2.after hq'
    subst ev
    exact ⟨rv, V.ref (s.heap.objs.size + 1), H', I3, rfl, q3⟩
  | .ok .next, hq' => exact hq'.elim
  | .ok .brk, hq' => exact hq'.elim
  | .ok .cont, hq' => exact hq'.elim
theorem pe_makeS (M : Mk X.K C f) (Fo : FnOk X.prog X.w X.K X.mg X.base CX k f fd ps sp) (hr : Room (k + 1) X.A) (hg : Gl X x) (hm : X.mg x = some (.ref C)) (hb : Binds X.K fd ps ds) (hd : Vals dvs ds) (hx : ∀ σ, PassesAt CX X σ (E σ)) (ha : PA X (e :: es) t)
    (hdb : (x == ("__debug__" : Str)) = false) (he : starEach (e :: es) X.env = (false, eval e X.env) :: starEach es X.env) (hpl : (backTo pos (starEach es X.env)).any (·.1) = false) : PE X (.Call (.Name x p) (e :: es) [] pos) (tMakeS C sp dvs E t) :=
  ⟨fun pins s σ H Q I h => wpAny_Call_Name_kw (ld_glob I hg hm (PySem.W.callWith_K (h₀ := X.base) I.ok.mod.kin M.kp
    (thn (ha.run pos pins s σ H _ I h) fun us s1 ⟨vs, H1, I1, r, q⟩ => ⟨I1.kIn, run_makeS M Fo hr hb hd (hx σ) I1 r q⟩) he hpl) hdb)⟩
/-- a class that a local name holds -/
theorem pe_makeL {i : Nat} {td : TE} (M : Mk X.K C f) (Fo : FnOk X.prog X.w X.K X.mg X.base CX k f fd ps sp) (hr : Room (k + 1) X.A) (hb : Binds X.K fd ps ds) (hd : Vals dvs ds) (hx : ∀ σ, PassesAt CX X σ (E σ)) (hN : X.N[i]? = some x) (hv : Vis X.env.scope x) (ha : PA X (e :: es) t)
    (hdb : (x == ("__debug__" : Str)) = false) (hcd : (x == ("__classdict__" : Str)) = false) (he : starEach (e :: es) X.env = (false, eval e X.env) :: starEach es X.env) (hpl : (backTo pos (starEach es X.env)).any (·.1) = false) :
    PE X (.Call (.Name x p) (e :: es) [] pos) (fun σ H Q => σ[i]? = some (some (.ref C)) ∧ tMakeS C sp dvs E t σ H Q) :=
  ⟨fun pins s σ H Q I ⟨hs, h⟩ => wpAny_Call_Name_kw (thn ((pe_var (pos := p) hN hv hdb hcd).run pins s σ H (fun v H1 => v = .ref C ∧ H1 = H) I ⟨.ref C, hs, rfl, rfl⟩) fun u s1 ⟨v, H1, I1, r1, q1⟩ => by
    obtain ⟨rfl, rfl⟩ := q1
    cases r1
    exact PySem.W.callWith_K (h₀ := X.base) I.ok.mod.kin M.kp (thn (ha.run pos pins s1 σ _ _ I1 h) fun us s2 ⟨vs, H2, I2, r, q⟩ => ⟨I2.kIn, run_makeS M Fo hr hb hd (hx σ) I2 r q⟩) he hpl)⟩
end
section
variable {X : Cx} {z : Zx} {k cn n : Nat} {f : Addr} {fd : FuncData} {ps : List Str} {c : Con} {x m : Str} {p pos apos : Pos} {e o : Expr} {es : List Expr} {wo : WE} {wa : WA} {dvs : List V} {ds0 : List Value} {dds : List D}
/-- a class's fields: no method of it is an attribute -/
def wMeth (cn : Nat) (c : Con) (n : Nat) (wo : WE) (wa : WA) : WE := fun ρ μ Q E => wo ρ μ (fun x μ1 => match look μ1 x with
  | .ins c' _ => match Nat.beq c' cn with
    | true => wa ρ μ1 (fun ds μ2 => match Nat.beq (ds.length + 1) n with
      | true => c (x :: ds) μ2 Q E
      | false => False) E
    | false => False
  | _ => False) E
structure MethF (K : PySem.W.Frag) (T : Tab) (cn : Nat) (m : Str) (f : Addr) : Prop where
  cl : Cls K (T.ca cn)
  me : Meth K (T.ca cn) m f
  no : fldIx m (T.fn cn) = none
theorem fld_none {m : Str} : ∀ {fn : List Str} {vs : List V}, fldIx m fn = none → (fn.zip vs).lookup m = none
  | [], _, _ => by simp
  | g :: fn, [], _ => by simp
  | g :: fn, v :: vs, h => by
    unfold fldIx at h
    split at h
    · cases h
    · rename_i ng
      have h2 : fldIx m fn = none := by
        cases q : fldIx m fn with
        | none => rfl
        | some i => rw [q] at h; cases h
      rw [List.zip_cons_cons]
      have hb : (m == g) = false := beq_eq_false_iff_ne.mpr (Ne.symm ng)
      simp only [List.lookup, hb]
      exact fld_none h2
theorem meth_run {Wd : WXd} {σ : L2.St} {H : Hp} {Q : VK} (mf : MethF X.K z.T cn m f) (h : tD X.K z Wd (wMeth cn c n wo wa) σ H Q) :
    tMethS (z.T.ca cn) m (spD X.K z.T c n) [] (fun σ cls d H => XW X.K z Wd cls d σ H) (tD X.K z Wd wo) (tDA X.K z Wd wa) σ H Q := by
  obtain ⟨F, m, μ, ρ, Qd, S, h, kk⟩ := h
  refine ⟨F, m, μ, ρ, _, S, h, fun F1 m1 μ1 d1 v1 H1 x1 S1 r1 q1 => ?_⟩
  have vx := S1.view r1
  split at q1
  · rename_i c' fs hx
    rw [hx] at vx
    split at q1
    · rename_i hc
      have := Nat.eq_of_beq_eq_true hc
      subst this
      obtain ⟨a, dx, vs, rfl, h1, r2⟩ := vx.inst S1.same
      refine ⟨a, dx, _, rfl, h1, fld_none mf.no, F1, m1, μ1, ρ, _, S1, q1, fun F2 m2 μ2 ds vs H2 x2 S2 r2 q2 => ?_⟩
      show spD X.K z.T c n (V.ref a :: (vs ++ [])) H2 Q _
      rw [List.append_nil]
      split at q2
      · rename_i hn
        exact sp_run S2 (.cons (r1.mono x2.gr) r2) (Nat.eq_of_beq_eq_true hn) q2 (fun F4 m4 μ4 d4 v4 H4 x4 => kk F4 m4 μ4 d4 v4 H4 (x1.trans (x2.trans x4))) fun F' m' μ' y cls d H' x3 S3 xr q => ⟨F', m', μ', ρ, y, S3, xr, q⟩
      · exact q2.elim
    · exact q1.elim
  · exact q1.elim
theorem de_meth {pl : Sem Bool} (mf : MethF X.K z.T cn m f) (Fc : FnC X.prog X.w X.K X.mg X.base z.T k f fd ps c) (hr : Room k X.A) (hb : Binds X.K fd ps []) (ho : DE X z o wo) (ha : DA X z (e :: es) wa)
    (hst : starEach (e :: es) X.env = (false, eval e X.env) :: starEach es X.env := by rfl) (hpl : (backTo pos (starEach es X.env)).any (·.1) = false := by rfl)
    (ht : eval (.Call (.Attribute o m apos) (e :: es) [] pos) X.env = (eval o X.env >>= fun ov => standAt apos.atName >>= fun _ => holding [ov] (getMethod ov m pl) >>= fun r => callWith pos r.1 r.2 (backTo pos (starEach (e :: es) X.env)) (backToKw pos (keywordEach [] X.env))) := by rfl) :
    DE X z (.Call (.Attribute o m apos) (e :: es) [] pos) (wMeth cn c ps.length wo wa) := fun Wd tk =>
  peI (pe_methS (ho Wd tk) mf.cl mf.me Fc hr hb .nil (fun σ => passAt tk σ) (ha Wd tk) hst hpl ht) fun σ H Q h => meth_run mf h
theorem de_meth0 {pl : Sem Bool} (mf : MethF X.K z.T cn m f) (Fc : FnC X.prog X.w X.K X.mg X.base z.T k f fd ps c) (hr : Room k X.A) (hb : Binds X.K fd ps []) (ho : DE X z o wo)
    (ht : eval (.Call (.Attribute o m apos) [] [] pos) X.env = (eval o X.env >>= fun ov => standAt apos.atName >>= fun _ => holding [ov] (getMethod ov m pl) >>= fun r => callWith pos r.1 r.2 (backTo pos (starEach [] X.env)) (backToKw pos (keywordEach [] X.env))) := by rfl) :
    DE X z (.Call (.Attribute o m apos) [] [] pos) (wMeth cn c ps.length wo aNil) := fun Wd tk =>
  peI (pe_methS0 (ho Wd tk) mf.cl mf.me Fc hr hb .nil (fun σ => passAt tk σ) ht) fun σ H Q h => by
    obtain ⟨F, m, μ, ρ, Qd, S, h, kk⟩ := meth_run mf h
    exact ⟨F, m, μ, ρ, Qd, S, h, fun F1 m1 μ1 d1 v1 H1 x1 S1 r1 q1 => by
      obtain ⟨a, dx, fs, e1, e2, e3, F2, m2, μ2, ρ2, Qd2, S2, q2, k2⟩ := kk _ _ _ _ _ _ x1 S1 r1 q1
      exact ⟨a, dx, fs, e1, e2, e3, k2 _ _ _ _ _ _ (Ext.refl _ _ _) S2 .nil q2⟩⟩
/-- C(..) -/
def mkD (cn : Nat) (c : Con) (n : Nat) (dds ds : List D) : Sto → QD → QX → Prop := fun μ Q E => match Nat.beq ((ds ++ dds).length + 1) n with
  | true => c (.mref μ.length :: (ds ++ dds)) (μ ++ [.ins cn []]) (fun d μ3 => match d with
    | .non => Q (.mref μ.length) μ3
    | _ => False) E
  | false => False
def wMake (cn : Nat) (c : Con) (n : Nat) (dds : List D) (wa : WA) : WE := fun ρ μ Q E => wa ρ μ (fun ds μ1 => mkD cn c n dds ds μ1 Q E) E
theorem mk_run {F : Hp} {m : List Addr} {μ : Sto} {ρ : Slots} {σ : L2.St} {H : Hp} {Qd : QD} {Qx : QX} {Q : VK} {E : XK} {ds : List D} {vs : List V} (S : SimZ X.K z F m μ ρ σ H) (r : Reps X.K z.T F m ds vs) (hdd : ∀ F m, Reps X.K z.T F m dds dvs) (h : mkD cn c n dds ds μ Qd Qx) (kk : Fin X.K z F m H ρ σ Qd Q)
    (kx : ∀ F' m' μ' x cls d H', Ext F m H F' m' H' → SimZ X.K z F' m' μ' ρ σ H' → XRep X.K z.T F' m' H' x cls d → Qx x μ' → E cls d H') : ∀ x dx, H x = none → H dx = none → dx ≠ x →
    spD X.K z.T c n (.ref x :: (vs ++ dvs)) (upd (upd H dx (.own x)) x (.ins (z.T.ca cn) dx [])) (fun v H2 => v = .non ∧ Q (.ref x) H2) E := by
  intro x dx hx hdx hne
  unfold mkD at h
  split at h
  · rename_i hn
    obtain ⟨x1, S1⟩ := S.more hdx (.own x)
    have hx1 : upd H dx (.own x) x = none := by rw [upd_ne (Ne.symm hne)]; exact hx
    obtain ⟨x2, S2⟩ := S1.more hx1 (.ins (z.T.ca cn) dx [])
    have hk : MRep X.K z.T F m (upd (upd H dx (.own x)) x (.ins (z.T.ca cn) dx [])) x (.ins cn []) :=
      ⟨dx, [], by rw [upd_same, List.zip_nil_right], by rw [upd_ne hne, upd_same], trivial, Nat.zero_le _, .nil⟩
    have S3 := S2.keep (S.fNone hx) (S.notIn hx) (S.yng hx) hk (fun z => nomatch z)
    have g : Gr F m F (m ++ [x]) := ⟨Same.refl F, [x], rfl⟩
    have x3 : Ext F m H F (m ++ [x]) (upd (upd H dx (.own x)) x (.ins (z.T.ca cn) dx [])) := ⟨g, (fun b o e w nf h => by
      obtain ⟨e1, n1, h1⟩ := (x1.trans x2).frm b o e w nf h
      refine ⟨e1, n1, fun q => ?_⟩
      rcases List.mem_append.mp q with q | q
      · exact h1 q
      · rw [List.mem_singleton.mp q, hx] at e
        cases e), (x1.trans x2).up⟩
    have hm : (m ++ [x])[μ.length]? = some x := by
      rw [← S.len, List.getElem?_append_right (Nat.le_refl _), Nat.sub_self]
      rfl
    refine sp_run S3 (.cons (.mref hm) ((r.mono g).append (hdd _ _))) (Nat.eq_of_beq_eq_true hn) h (fun F4 m4 μ4 d4 v4 H4 x4 S4 r4 q4 => ?_) fun F' m' μ' y cls d H' x4 S4 xr q => kx _ _ _ _ _ _ _ (x3.trans x4) S4 xr q
    cases r4 with
    | non => exact ⟨rfl, kk _ _ _ _ _ _ (x3.trans x4) S4 ((Rep.mref hm).mono x4.gr) q4⟩
    | _ => exact q4.elim
  · exact h.elim
theorem de_make (M : Mk X.K (z.T.ca cn) f) (Fc : FnC X.prog X.w X.K X.mg X.base z.T k f fd ps c) (hr : Room (k + 1) X.A) (hg : Gl X x) (hm : X.mg x = some (.ref (z.T.ca cn))) (hb : Binds X.K fd ps ds0) (hd : Vals dvs ds0) (hdd : ∀ F m, Reps X.K z.T F m dds dvs) (ha : DA X z (e :: es) wa)
    (hdb : (x == ("__debug__" : Str)) = false := by decide) (he : starEach (e :: es) X.env = (false, eval e X.env) :: starEach es X.env := by rfl) (hpl : (backTo pos (starEach es X.env)).any (·.1) = false := by rfl) : DE X z (.Call (.Name x p) (e :: es) [] pos) (wMake cn c ps.length dds wa) := fun Wd tk =>
  peI (pe_makeS (E := fun σ cls d H => XW X.K z Wd cls d σ H) M Fc hr hg hm hb hd (fun σ => passAt tk σ) (ha Wd tk) hdb he hpl) fun σ H Q ⟨F, m, μ, ρ, Qd, S, h, kk⟩ => ⟨F, m, μ, ρ, _, S, h, fun F1 m1 μ1 ds vs H1 x1 S1 r1 q1 =>
    mk_run S1 r1 hdd q1 (fun F4 m4 μ4 d4 v4 H4 x4 => kk F4 m4 μ4 d4 v4 H4 (x1.trans x4)) fun F' m' μ' y cls d H' x2 S2 xr q => ⟨F', m', μ', ρ, y, S2, xr, q⟩⟩
def wMakeL (i cn : Nat) (c : Con) (n : Nat) (dds : List D) (wa : WA) : WE := fun ρ μ Q E => match ρ[i]? with
  | some (some (.cls c')) => match Nat.beq c' cn with
    | true => wMake cn c n dds wa ρ μ Q E
    | false => False
  | _ => False
theorem de_makeL {i : Nat} (M : Mk X.K (z.T.ca cn) f) (Fc : FnC X.prog X.w X.K X.mg X.base z.T k f fd ps c) (hr : Room (k + 1) X.A) (hb : Binds X.K fd ps ds0) (hd : Vals dvs ds0) (hdd : ∀ F m, Reps X.K z.T F m dds dvs) (hN : X.N[i]? = some x) (hv : Vis X.env.scope x) (ha : DA X z (e :: es) wa)
    (hdb : (x == ("__debug__" : Str)) = false := by decide) (hcd : (x == ("__classdict__" : Str)) = false := by decide) (he : starEach (e :: es) X.env = (false, eval e X.env) :: starEach es X.env := by rfl) (hpl : (backTo pos (starEach es X.env)).any (·.1) = false := by rfl) :
    DE X z (.Call (.Name x p) (e :: es) [] pos) (wMakeL i cn c ps.length dds wa) := fun Wd tk =>
  peI (pe_makeL (td := tD X.K z Wd (wC .non)) (E := fun σ cls d H => XW X.K z Wd cls d σ H) M Fc hr hb hd (fun σ => passAt tk σ) hN hv (ha Wd tk) hdb hcd he hpl) fun σ H Q ⟨F, m, μ, ρ, Qd, S, h, kk⟩ => by
    unfold wMakeL at h
    split at h
    · rename_i c' hc
      split at h
      · rename_i hcn
        have := Nat.eq_of_beq_eq_true hcn
        subst this
        obtain ⟨v, h1, h2⟩ := S.slot i _ hc
        cases h2
        exact ⟨h1, F, m, μ, ρ, _, S, h, fun F1 m1 μ1 ds vs H1 x1 S1 r1 q1 =>
          mk_run S1 r1 hdd q1 (fun F4 m4 μ4 d4 v4 H4 x4 => kk F4 m4 μ4 d4 v4 H4 (x1.trans x4)) fun F' m' μ' y cls d H' x2 S2 xr q => ⟨F', m', μ', ρ, y, S2, xr, q⟩⟩
      · exact h.elim
    · exact h.elim
end
end Pk

/-! The data layer, part N3: properties, classmethods, isinstance of own classes, try without exceptions. -/
namespace Pk
open PySem PySem.Spec PyProof.Rows L2
section
variable {X : Cx} {z : Zx} {k cn n : Nat} {f g p0 : Addr} {fd : FuncData} {ps : List Str} {c : Con} {x m : Str} {p pos apos : Pos} {e o : Expr} {es : List Expr} {wo : WE} {wa : WA} {mc : Value}
theorem pass_no {Y : Cx} : Passes (L2.CX Y.prog Y.w) Y (fun _ _ _ => False) := fun _ _ _ _ _ _ _ h => by
  obtain ⟨_, _, _, _, _, _, _, _, _, _, _, _, h⟩ := h
  exact h.elim
/-- o.f, a property -/
def wProp (cn : Nat) (c : Con) (wo : WE) : WE := fun ρ μ Q E => wo ρ μ (fun x μ1 => match look μ1 x with
  | .ins c' _ => match Nat.beq c' cn with
    | true => c [x] μ1 Q nox
    | false => False
  | _ => False) E
structure PropF (K : PySem.W.Frag) (T : Tab) (cn : Nat) (m : Str) (p g : Addr) : Prop where
  cl : Cls K (T.ca cn)
  pr : PropOf K (T.ca cn) m p g
theorem de_prop (pf : PropF X.K z.T cn m p0 g) (Fc : FnC X.prog X.w X.K X.mg X.base z.T k g fd [x] c) (hr : Room (k + 1) X.A) (hb : Binds X.K fd [x] []) (ho : DE X z o wo) (hab : attributeBase o m X.env (eval o X.env) = eval o X.env := by rfl) : DE X z (.Attribute o m pos) (wProp cn c wo) := fun Wd tk =>
  peI (pe_prop (E := fun _ _ _ => False) (ho Wd tk) pf.cl pf.pr Fc hr hb .nil (pass_no (Y := X.nox)) hab) fun σ H Q ⟨F, m, μ, ρ, Qd, S, h, kk⟩ => ⟨F, m, μ, ρ, _, S, h, fun F1 m1 μ1 d1 v1 H1 x1 S1 r1 q1 => by
    have vx := S1.view r1
    split at q1
    · rename_i c' fs hx
      rw [hx] at vx
      split at q1
      · rename_i hc
        have := Nat.eq_of_beq_eq_true hc
        subst this
        obtain ⟨a, dx, vs, rfl, h1, r2⟩ := vx.inst S1.same
        exact ⟨a, dx, _, rfl, h1, sp_run S1 (.cons r1 .nil) rfl q1 (fun F4 m4 μ4 d4 v4 H4 x4 => kk F4 m4 μ4 d4 v4 H4 (x1.trans x4)) fun _ _ _ _ _ _ _ _ _ _ q => q⟩
      · exact q1.elim
    · exact q1.elim⟩
theorem pass_noA {Y : Cx} {σ : L2.St} : PassesAt (L2.CX Y.prog Y.w) Y σ (fun _ _ _ => False) := fun _ _ _ _ _ _ h => by
  obtain ⟨_, _, _, _, _, _, _, _, _, _, _, _, h⟩ := h
  exact h.elim
/-- C.m(..), a classmethod; nothing is raised -/
def wCMeth (cn : Nat) (c : Con) (n : Nat) (wo : WE) (wa : WA) : WE := fun ρ μ Q E => wo ρ μ (fun x μ1 => match x with
  | .cls c' => match Nat.beq c' cn with
    | true => wa ρ μ1 (fun ds μ2 => match Nat.beq (ds.length + 1) n with
      | true => c (.cls cn :: ds) μ2 Q nox
      | false => False) E
    | false => False
  | _ => False) E
theorem de_cmeth {pl : Sem Bool} (r : ClX.CRead X.K (z.T.ca cn) mc) (cm : ClX.CMet X.K (z.T.ca cn) mc m p0 g) (Fc : FnC X.prog X.w X.K X.mg X.base z.T k g fd ps c) (hr : Room k X.A) (hb : Binds X.K fd ps []) (ho : DE X z o wo) (ha : DA X z (e :: es) wa)
    (hst : starEach (e :: es) X.env = (false, eval e X.env) :: starEach es X.env := by rfl) (hpl : (backTo pos (starEach es X.env)).any (·.1) = false := by rfl)
    (ht : eval (.Call (.Attribute o m apos) (e :: es) [] pos) X.env = (eval o X.env >>= fun ov => standAt apos.atName >>= fun _ => holding [ov] (getMethod ov m pl) >>= fun r => callWith pos r.1 r.2 (backTo pos (starEach (e :: es) X.env)) (backToKw pos (keywordEach [] X.env))) := by rfl) :
    DE X z (.Call (.Attribute o m apos) (e :: es) [] pos) (wCMeth cn c ps.length wo wa) := fun Wd tk =>
  peI (pe_cmG (E := fun _ _ _ _ => False) (ho Wd tk) r cm Fc hr hb .nil (fun _ => pass_noA) (ha Wd tk) hst hpl ht) fun σ H Q ⟨F, m, μ, ρ, Qd, S, h, kk⟩ => ⟨F, m, μ, ρ, _, S, h, fun F1 m1 μ1 d1 v1 H1 x1 S1 r1 q1 => by
    split at q1
    · rename_i c'
      split at q1
      · rename_i hc
        have := Nat.eq_of_beq_eq_true hc
        subst this
        cases r1
        refine ⟨rfl, F1, m1, μ1, ρ, _, S1, q1, fun F2 m2 μ2 ds vs H2 x2 S2 r2 q2 => ?_⟩
        split at q2
        · rename_i hn
          show spD X.K z.T c ps.length ((.ref (z.T.ca c') :: vs) ++ []) H2 Q _
          rw [List.append_nil]
          exact sp_run S2 (.cons .cls r2) (Nat.eq_of_beq_eq_true hn) q2 (fun F4 m4 μ4 d4 v4 H4 x4 => kk F4 m4 μ4 d4 v4 H4 (x1.trans (x2.trans x4))) fun _ _ _ _ _ _ _ _ _ _ q => q
        · exact q2.elim
      · exact q1.elim
    · exact q1.elim⟩
/-- isinstance(x, C), C an own class: instances of C, what is no instance of an own class -/
structure IsiF (K : PySem.W.Frag) (T : Tab) (cn : Nat) : Prop where
  me : C8.InsC K (T.ca cn)
  no : PySem.W.kitOne K (.type "NoneType") (.ref (T.ca cn)) = some false
  ty : ∀ t : Ty, PySem.W.kitOne K (.type t.nm) (.ref (T.ca cn)) = some false
def isiC (cn : Nat) (x y : D) : Option D := match y with
  | .cls c => match Nat.beq c cn with
    | true => match x with
      | .ins c' _ => match Nat.beq c' cn with
        | true => some (.bl true)
        | false => none
      | .non => some (.bl false)
      | x => match tyOf x with
        | some _ => some (.bl false)
        | none => none
    | false => none
  | _ => none
theorem ok_isiC (I : IsiF X.K z.T cn) : BuOk X z (rIsi X.K) (b2' (isiC cn)) := bu2 fun F m μ ρ σ H x y v u d Qd Q S vx vy e q k => by
  unfold isiC at e
  split at e
  · rename_i c
    split at e
    · rename_i hc
      have := Nat.eq_of_beq_eq_true hc
      subst this
      have hy : ClsV u (.ref (z.T.ca c)) := by rw [vy.cls]; exact .own _
      split at e
      · split at e
        · rename_i c' fs _ hc'
          have := Nat.eq_of_beq_eq_true hc'
          subst this
          injection e with e
          subst e
          obtain ⟨a, dx, vs, rfl, h1, _⟩ := vx.inst S.same
          exact ⟨_, u, _, _, true, rfl, hy, .base (.ins h1 I.me.cl I.me.ha I.me.hn I.me.htk I.me.hm), I.me.me, k.now S .bl q⟩
        · cases e
      · injection e with e
        subst e
        rw [vx.non]
        exact ⟨_, u, _, _, false, rfl, hy, .base .non, I.no, k.now S .bl q⟩
      · split at e
        · rename_i t ht
          injection e with e
          subst e
          exact ⟨v, u, _, _, false, rfl, hy, vx.tyx S.same ht, I.ty t, k.now S .bl q⟩
        · cases e
    · cases e
  · cases e
/-- try: body, nothing is raised -/
def sTry0 (w : WS) : WS := fun De ρ μ => w { De with ex := fun _ _ _ => False } ρ μ
theorem ds_try0 {body : List Stmt} {h₀ : ExceptHandler} {hs : List ExceptHandler} {w : WS} (hb : DSs X.nox z body w) : DS X z (.Try body (h₀ :: hs) [] [] pos) (sTry0 w) := fun Wd tk =>
  psI (ps_try_thru0 (hb (fun _ _ _ => False) (takes0.imp fun _ _ _ _ h => by
    obtain ⟨_, _, _, _, _, _, _, h⟩ := h
    exact h))) fun D σ H ⟨F, m, μ, ρ, De, S, h, ex, k⟩ => ⟨F, m, μ, ρ, { De with ex := fun _ _ _ => False }, S, h, rfl, ⟨k.nx, k.rt, k.bk, k.ct⟩⟩
end
/-! ### the law -/
theorem law_sp {K : PySem.W.Frag} {T : Tab} {c : Con} {a : Addr} {ns : List Int} {H : Hp} {Q : VK} {E : XK} (hS : SqL K H a (ns.map V.int)) (h : c [.scr ns] [] (fun d _ => d = .bl true) nox) (q : ∀ H', Q (.bl true) H') : spD K T c 1 [.ref a] H Q E :=
  ⟨H, [], [], [.scr ns], _, _, ⟨Ext.refl _ _ _, Same.refl _, rfl, List.nodup_nil, fun _ h => absurd h (by simp), fun k a o e => by simp at e, rfl, fun i d e => by simp at e⟩, .cons (.scr hS) .nil, rfl, h,
    fun F' m' μ' d v H' _ _ r e => by subst e; cases r; exact q _, fun _ _ _ _ _ _ _ _ _ _ h => h.elim⟩
end Pk

/-! The data layer, part O: dict(..), tests of comprehensions, isinstance of several classes at once. -/
namespace Pk
open PySem PySem.Spec PyProof.Rows L2
section
variable {X : Cx} {z : Zx}
theorem ptsI {ifs : List Expr} {t t' : TT} (h : PTs X ifs t) (f : ∀ σ H Q, t' σ H Q → t σ H Q) : PTs X ifs t' := ⟨fun pins s σ H Q I q => h.run pins s σ H Q I (f _ _ _ q)⟩
theorem dts_nil : PTs X [] (tDT X.K z (fun _ _ _ => False) tAll) := ptsI pts_nil fun σ H Q ⟨F, m, μ, ρ, Qd, S, h, k⟩ => k _ _ _ _ _ (Ext.refl _ _ _) S h
theorem dts_one {c : Expr} {t : WT} (h : DT X z c t) : PTs X [c] (tDT X.K z (fun _ _ _ => False) t) := pts_one (h (fun _ _ _ => False) (takes0.imp fun _ _ _ _ h => by
  obtain ⟨_, _, _, _, _, _, _, h⟩ := h
  exact h))
/-! ### dict(pairs) -/
def pairsD : List D → Option (List (DK × D))
  | [] => some []
  | .tup [k, v] :: r => match toK k, pairsD r with
    | some k, some ps => some ((k, v) :: ps)
    | _, _ => none
  | _ => none
def mergeD : List (DK × D) → List (DK × D) → List (DK × D)
  | acc, [] => acc
  | acc, (k, v) :: r => mergeD (putE acc k v) r
def giveD (own : Bool) (kvs : List (DK × D)) (μ : Sto) (Q : QD) : Prop := match own with
  | false => Q (.dct kvs) μ
  | true => Q (.mref μ.length) (μ ++ [.dct kvs])
def bDict (own : Bool) : BF := fun ds μ Q => match ds with
  | [x] => match look μ x with
    | .lst xs => match pairsD xs with
      | some ps => giveD own (mergeD [] ps) μ Q
      | none => False
    | _ => False
  | _ => False
/-- a new dict: one that is kept stays as it is, another one is locked -/
def givD (own : Bool) (p : Addr) (u : HO) (H : Hp) (Q : VK) : Prop := match own with
  | true => Q (.ref p) (upd H p u)
  | false => ∀ o, Q (.ref p) (upd H p (.frz o u))
theorem callR_lock {own : Bool} {f : Value} {r : List V → Hp → VK → Prop} (h : CallR X f r) : CallR X f (fun xs H Q => r xs H fun v H' => ∃ p u G, v = .ref p ∧ H' = upd G p u ∧ Mut (some u) ∧ givD own p u G Q) := by
  intro pins s σ H xs us Q I rr q
  refine thn (h pins s σ H xs us _ I rr q) fun w s1 ⟨x, H1, I1, rx, p, u, G, e, e2, mu, q1⟩ => ?_
  subst e e2
  cases own with
  | true => exact ⟨_, _, I1, rx, q1⟩
  | false =>
    obtain ⟨o, I2⟩ := I1.lock upd_same mu
    rw [upd_upd] at I2
    exact ⟨_, _, I2, rx, q1 o⟩
theorem give_dct {F : Hp} {m : List Addr} {μ : Sto} {ρ : Slots} {σ : L2.St} {H : Hp} {Qd : QD} {Q : VK} {own : Bool} {ds : List (DK × D)} {vs : List (Key × V)} {p : Addr} (k : Fin X.K z F m H ρ σ Qd Q) (S : SimZ X.K z F m μ ρ σ H) (hn : H p = none)
    (r : RepK X.K z.T F m ds vs) (q : giveD own ds μ Qd) : givD own p (.dK vs) H Q := by
  cases own with
  | false => exact fun o => k.dct S hn r q
  | true =>
    obtain ⟨x1, S1⟩ := S.more hn (.dK vs)
    have S2 := S1.keep (S.fNone hn) (S.notIn hn) (S.yng hn) (mo := .dct ds) ⟨vs, upd_same, r⟩ (fun z => nomatch z)
    have g : Gr F m F (m ++ [p]) := ⟨Same.refl F, [p], rfl⟩
    refine k _ _ _ _ _ _ ⟨g, fun b o e w n h => ?_, x1.up⟩ S2 (.mref ?_) q
    · obtain ⟨e1, n1, h1⟩ := x1.frm b o e w n h
      refine ⟨e1, n1, fun q => ?_⟩
      rcases List.mem_append.mp q with q | q
      · exact h1 q
      · rw [List.mem_singleton.mp q, hn] at e
        cases e
    · rw [← S.len, List.getElem?_append_right (Nat.le_refl _), Nat.sub_self]
      rfl
theorem mergeK_V {K : PySem.W.Frag} {T : Tab} {F : Hp} {m : List Addr} : ∀ {ps : List (DK × D)} {us : List (Key × V)} {ds : List (DK × D)} {vs : List (Key × V)}, RepK K T F m ds vs → RepK K T F m ps us → RepK K T F m (mergeD ds ps) (mergeK vs us)
  | _, _, _, _, r, .nil => r
  | _, _, _, _, r, .cons (k := k) h rs => by
    have q := mergeK_V (putK_V (k := k) h r) rs
    exact q
theorem pairs_V {K : PySem.W.Frag} {T : Tab} {F : Hp} {m : List Addr} {H : Hp} (s : Same F H) : ∀ {ds : List D} {vs : List V} {ps : List (DK × D)}, Reps K T F m ds vs → pairsD ds = some ps →
    ∃ (as : List Addr) (us : List (Key × V)), vs = as.map V.ref ∧ Paired (fun p kv => SqT K H p [kV kv.1, kv.2]) as us ∧ RepK K T F m ps us
  | _, _, ps, .nil, e => by
    injection e with e
    subst e
    exact ⟨[], [], rfl, .nil, .nil⟩
  | _, _, ps, .cons (d := d) h rs, e => by
    unfold pairsD at e
    split at e
    · rename_i heq
      cases heq
    · rename_i k v r heq
      injection heq with h1 h2
      subst h1 h2
      split at e
      · rename_i kk ps' hk hp
        injection e with e
        subst e
        cases h with
        | tup hq r2 =>
          cases r2 with
          | cons ra r2 =>
            cases r2 with
            | cons rb r2 =>
              cases r2
              obtain ⟨as, us, rfl, p1, p2⟩ := pairs_V s rs hp
              have hkv := toK_V (H := H) (.of ra) hk
              subst hkv
              exact ⟨_ :: as, (kk.key, _) :: us, rfl, .cons (Same.sqt s hq) p1, .cons rb p2⟩
      · cases e
    · cases e
def rDict (own : Bool) (K : PySem.W.Frag) : List V → Hp → VK → Prop := fun xs H Q => ∃ (a : Addr) (ps : List Addr) (kvs : List (Key × V)), xs = [V.ref a] ∧ SqL K H a (ps.map V.ref) ∧ Paired (fun p kv => SqT K H p [kV kv.1, kv.2]) ps kvs ∧
    ∀ p, H p = none → givD own p (.dK (mergeK [] kvs)) H Q
theorem ok_dict {own : Bool} : BuOk X z (rDict own X.K) (bDict own) := by
  intro F m μ ρ σ H ds vs Qd Q S rr q k
  unfold bDict at q
  split at q
  · rename_i x
    cases rr with
    | cons r1 r2 =>
      cases r2
      have vx := S.view r1
      split at q
      · rename_i xs hx
        rw [hx] at vx
        split at q
        · rename_i ps hp
          obtain ⟨a, us, rfl, h1, r2⟩ := vx.list S.same
          obtain ⟨as, kvs, rfl, p1, p2⟩ := pairs_V S.same r2 hp
          exact ⟨a, as, kvs, rfl, SqL.of h1, p1, fun p hn => give_dct k S hn (mergeK_V .nil p2) q⟩
        · exact q.elim
      · exact q.elim
  · exact q.elim
theorem c_dict (own : Bool) (hc : X.calm = true) : CallR X (.type "dict") (rDict own X.K) := by
  intro pins s σ H xs us Q I rr ⟨a, ps, kvs, e1, e2, e3, q⟩
  exact callR_lock (own := own) (call_dictP hc) pins s σ H xs us Q I rr ⟨a, ps, kvs, e1, e2, e3, fun p hn => ⟨p, _, H, rfl, rfl, trivial, q p hn⟩⟩
end
end Pk

/-! The data layer, part P: the head's facts, by paths. -/
namespace Pk
open PySem PySem.Spec PyProof.Rows L2

/-- a def by a path to its object -/
structure DefP where
  pth : PySem.W.Frag → Addr
  name : Str
  qual : Str
  params : Arguments
  body : List Stmt
  scope : Scope
  dfl : List He.Dv := []
def fnAt (K : PySem.W.Frag) (a : Addr) : He.FnW := match K.lookup a with
  | some ob => match ob.data with
    | .func fd => some (fd.name, fd.qualname, fd.params, fd.body, fd.scope, fd.globals, fd.closure, fd.builtins)
    | _ => none
  | none => none
def DefP.val (d : DefP) : He.FnW := some (d.name, d.qual, d.params, .stmts d.body, d.scope, mainGlobals, [], builtinsNs)
def codeD (K : PySem.W.Frag) (d : DefP) : Bool := match K.lookup (d.pth K) with
  | some ob => match ob.data with
    | .func fd => PySem.W.codeIn K fd.code d.qual && He.dflB K fd.defaults (d.dfl.map (He.Dv.v K))
    | _ => false
  | none => false
def DefP.chk (K : PySem.W.Frag) (d : DefP) : Bool := PySem.W.keepIn K (.ref (d.pth K)) && codeD K d
theorem DefP.funD {K : PySem.W.Frag} {d : DefP} (e : fnAt K (d.pth K) = d.val) (c : d.chk K = true) : ∃ fd, FunD K d.name d.qual d.params d.body d.scope (d.dfl.map (He.Dv.v K)) [] (d.pth K) fd := by
  obtain ⟨kp, c2⟩ := Bool.and_eq_true_iff.mp c
  cases q : K.lookup (d.pth K) with
  | none => simp only [codeD, q] at c2; cases c2
  | some ob =>
    obtain ⟨oc, od, dt, osl⟩ := ob
    cases dt with
    | func fd =>
      simp only [codeD, q] at c2
      simp only [fnAt, q] at e
      obtain ⟨k1, k3⟩ := Bool.and_eq_true_iff.mp c2
      obtain ⟨n1, n2, n3, n4, n5, n6, n7, n8, n9, n10, n11, n12, n13, n14, n15⟩ := fd
      simp only [DefP.val, Option.some.injEq, Prod.mk.injEq] at e
      obtain ⟨h1, h2, h3, h4, h5, h6, h7, h8⟩ := e
      subst h1 h2 h3 h4 h5 h6 h7 h8
      exact ⟨_, ⟨oc, od, n8, n9, n10, n11, n12, n13, n14, osl, rfl, q, k1, He.dflB_ok k3, .inl rfl⟩, kp⟩
    | _ => simp only [codeD, q] at c2; cases c2
/-! ### the Hook -/
def obsP (fs : List (PySem.W.Frag → Bool)) (fn : List DefP) (K : PySem.W.Frag) : Bool × List He.FnW := (fs.all (fun f => f K) && fn.all (fun d => d.chk K), fn.map fun d => fnAt K (d.pth K))
def SaysP (fs : List (PySem.W.Frag → Bool)) (fn : List DefP) (K : PySem.W.Frag) : Prop := obsP fs fn K = (true, fn.map DefP.val)
def obsPG (n : Nat) (fs : List (PySem.W.Frag → Bool)) (fn : List DefP) (g : Addr → Option Obj) : Bool × List He.FnW := obsP fs fn (He.frG g (cStatics :: He.asD g n))
def hookP (n : Nat) (fs : List (PySem.W.Frag → Bool)) (fn : List DefP) : PySem.W.Hook where
  α := Bool × List He.FnW
  obs := fun s => obsPG n fs fn s.heap.get?
  val := fun _ => (true, fn.map DefP.val)
  says := fun _ h => ∃ K : PySem.W.Frag, K.In h ∧ SaysP fs fn K
  of := fun _ _ e => ⟨_, He.frG_in, e⟩
  keeps := fun _ _ _ ⟨K, hK, c⟩ k => ⟨K, PySem.W.Frag.In.keeps hK k, c⟩
theorem obsPG_eq {n : Nat} {fs : List (PySem.W.Frag → Bool)} {fn : List DefP} {g : Addr → Option Obj} {s : Shared} (h : ∀ a, g a = s.heap.get? a) : obsPG n fs fn g = (hookP n fs fn).obs s := by
  have e : g = s.heap.get? := funext h
  rw [e] <;> rfl
section
variable {fs : List (PySem.W.Frag → Bool)} {fn : List DefP} {K : PySem.W.Frag}
theorem SaysP.fact (c : SaysP fs fn K) (i : Nat) {f : PySem.W.Frag → Bool} (h : fs[i]? = some f := by rfl) : f K = true := by
  have c1 : (fs.all (fun f => f K) && fn.all fun d => d.chk K) = true := congrArg (fun z : Bool × List He.FnW => z.1) c
  exact List.all_eq_true.mp (Bool.and_eq_true_iff.mp c1).1 f (List.mem_of_getElem? h)
theorem SaysP.def_ (c : SaysP fs fn K) (i : Nat) {d : DefP} (h : fn[i]? = some d := by rfl) : ∃ fd, FunD K d.name d.qual d.params d.body d.scope (d.dfl.map (He.Dv.v K)) [] (d.pth K) fd := by
  have c1 : (fs.all (fun f => f K) && fn.all fun d => d.chk K) = true := congrArg (fun z : Bool × List He.FnW => z.1) c
  have c2 : fn.map (fun d => fnAt K (d.pth K)) = fn.map DefP.val := congrArg (fun z : Bool × List He.FnW => z.2) c
  have e2 : (fn.map fun d => fnAt K (d.pth K))[i]? = (fn.map DefP.val)[i]? := by rw [c2]
  rw [List.getElem?_map, List.getElem?_map, h] at e2
  exact DefP.funD (Option.some.inj e2) (List.all_eq_true.mp (Bool.and_eq_true_iff.mp c1).2 d (List.mem_of_getElem? h))
end
/-! ### facts -/
abbrev pG (x : Str) : PySem.W.Frag → Addr := fun K => He.ga K x
abbrev pM (x m : Str) : PySem.W.Frag → Addr := fun K => He.ma K (He.ga K x) m
/-- the function under a property, a classmethod -/
def undr (K : PySem.W.Frag) (p : Addr) (T : String) : Addr := match PySem.W.recIn K p T with
  | some (.ref g :: _) => g
  | _ => 0
abbrev pP (x m : Str) : PySem.W.Frag → Addr := fun K => undr K (He.ma K (He.ga K x) m) "property"
abbrev pC (x m : Str) : PySem.W.Frag → Addr := fun K => undr K (He.ma K (He.ga K x) m) "classmethod"
def recB (K : PySem.W.Frag) (p : Addr) (T : String) : Bool := match PySem.W.recIn K p T with
  | some (.ref _ :: _) => true
  | _ => false
theorem recB_ok {K : PySem.W.Frag} {p : Addr} {T : String} (h : recB K p T = true) : ∃ rest, PySem.W.recIn K p T = some (.ref (undr K p T) :: rest) := by
  unfold recB at h
  split at h
  · rename_i g rest e
    exact ⟨rest, by rw [e]; unfold undr; rw [e]⟩
  · cases h
def fProp (x m : Str) : PySem.W.Frag → Bool := fun K => He.eqO (PySem.W.findIn K (.ref (He.ga K x)) m) (some (some (.ref (pM x m K)))) && (He.eqO (PySem.W.specialIn K (.ref (pM x m K)) "__get__") (some (some (.builtin "property.__get__"))) && (decide (PySem.W.takesIn K (.ref (pM x m K)) = some true) && recB K (pM x m K) "property"))
theorem fProp_ok {K : PySem.W.Frag} {x m : Str} (c : fProp x m K = true) : PropOf K (He.ga K x) m (pM x m K) (pP x m K) := by
  obtain ⟨c1, c⟩ := Bool.and_eq_true_iff.mp c
  obtain ⟨c2, c⟩ := Bool.and_eq_true_iff.mp c
  obtain ⟨c3, c4⟩ := Bool.and_eq_true_iff.mp c
  exact ⟨He.eqO_ok c1, He.eqO_ok c2, of_decide_eq_true c3, recB_ok c4⟩
def tyT : Value := .type "type"
def cfB (K : PySem.W.Frag) (x m : Str) : Bool := match PySem.W.findCls K (.ref (He.ga K x)) tyT m with
  | some (.get g a b c) => decide (g = .builtin "classmethod.__get__") && (decide (a = .ref (pM x m K)) && (decide (b = .none) && decide (c = .ref (He.ga K x))))
  | _ => false
def fCm (x m : Str) : PySem.W.Frag → Bool := fun K => PySem.W.readsIn K (He.ga K x) tyT && (He.eqO (PySem.W.specialIn K (.ref (He.ga K x)) "__getattribute__") (some (some (.builtin "type.__getattribute__"))) && (cfB K x m && (recB K (pM x m K) "classmethod" && PySem.W.fnIn K (pC x m K))))
theorem fCm_ok {K : PySem.W.Frag} {x m : Str} (c : fCm x m K = true) : ClX.CRead K (He.ga K x) tyT ∧ ClX.CMet K (He.ga K x) tyT m (pM x m K) (pC x m K) := by
  obtain ⟨c1, c⟩ := Bool.and_eq_true_iff.mp c
  obtain ⟨c2, c⟩ := Bool.and_eq_true_iff.mp c
  obtain ⟨c3, c⟩ := Bool.and_eq_true_iff.mp c
  obtain ⟨c4, c5⟩ := Bool.and_eq_true_iff.mp c
  refine ⟨⟨c1, He.eqO_ok c2⟩, ?_, recB_ok c4, c5⟩
  unfold cfB at c3
  split at c3
  · rename_i g a b c e
    obtain ⟨d1, c3⟩ := Bool.and_eq_true_iff.mp c3
    obtain ⟨d2, c3⟩ := Bool.and_eq_true_iff.mp c3
    obtain ⟨d3, d4⟩ := Bool.and_eq_true_iff.mp c3
    rw [e, of_decide_eq_true d1, of_decide_eq_true d2, of_decide_eq_true d3, of_decide_eq_true d4]
  · cases c3
def tys : List Ty := [.int, .str, .tup, .lst, .bool, .dict]
def fIsi (x : Str) : PySem.W.Frag → Bool := fun K => He.eqO (PySem.W.findIn K (.ref (He.ga K x)) "__class__") (some (some (.builtin "object.__class__"))) && (He.eqO (PySem.W.specialIn K (.builtin "object.__class__") "__get__") (some (some (.builtin "getset_descriptor.__get__"))) &&
  (decide (PySem.W.takesIn K (.builtin "object.__class__") = some true) && (decide (PySem.W.mroIn K (He.ga K x) (.type "object") = some true) && (decide (PySem.W.kitOne K (.ref (He.ga K x)) (.ref (He.ga K x)) = some true) &&
  (decide (PySem.W.kitOne K (.type "NoneType") (.ref (He.ga K x)) = some false) && tys.all fun t => decide (PySem.W.kitOne K (.type t.nm) (.ref (He.ga K x)) = some false))))))
theorem fIsi_ok {K : PySem.W.Frag} {T : Tab} {cn : Nat} {x : Str} (e : T.ca cn = He.ga K x) (cl : Cls K (He.ga K x)) (c : fIsi x K = true) : IsiF K T cn := by
  obtain ⟨c1, c⟩ := Bool.and_eq_true_iff.mp c
  obtain ⟨c2, c⟩ := Bool.and_eq_true_iff.mp c
  obtain ⟨c3, c⟩ := Bool.and_eq_true_iff.mp c
  obtain ⟨c4, c⟩ := Bool.and_eq_true_iff.mp c
  obtain ⟨c5, c⟩ := Bool.and_eq_true_iff.mp c
  obtain ⟨c6, c7⟩ := Bool.and_eq_true_iff.mp c
  refine ⟨?_, ?_, fun t => ?_⟩
  · rw [e]
    exact ⟨cl, He.eqO_ok c1, He.eqO_ok c2, of_decide_eq_true c3, of_decide_eq_true c4, of_decide_eq_true c5⟩
  · rw [e]
    exact of_decide_eq_true c6
  · rw [e]
    have := List.all_eq_true.mp c7 t (by cases t <;> decide)
    exact of_decide_eq_true this
abbrev fa (f : He.Fa) : PySem.W.Frag → Bool := fun K => f.ok K
end Pk

/-! The data layer, part Q: starred items, signs, short names for the printer. -/
namespace Pk
open PySem PySem.Spec PyProof.Rows L2
section
variable {X : Cx} {z : Zx} {pos p : Pos} {a b c e : Expr} {es : List Expr} {wa wb w : WE} {wr : WA}
def aStar (w : WE) (r : WA) : WA := fun ρ μ Q E => w ρ μ (fun x μ1 => match seqOf (look μ1 x) with
  | some xs => r ρ μ1 (fun ys μ2 => Q (xs ++ ys) μ2) E
  | none => False) E
theorem da_star (h : DE X z e w) (hr : DA X z es wr) (hs : starEach (.Starred e p :: es) X.env = (true, eval e X.env) :: starEach es X.env := by rfl) : DA X z (.Starred e p :: es) (aStar w wr) := fun Wd tk =>
  paI (StX.pa_star (h Wd tk) (hr Wd tk) hs) fun σ H Q ⟨F, m, μ, ρ, Qd, S, h, k⟩ => ⟨F, m, μ, ρ, _, S, h, fun F1 m1 μ1 d1 v1 H1 x1 S1 r1 q1 => by
    have vx := S1.view r1
    generalize look μ1 d1 = y at vx q1
    cases y with
    | lst xs =>
      obtain ⟨a, vs, rfl, h1, r2⟩ := vx.list S1.same
      exact ⟨a, vs, rfl, .inr (SqL.of h1), F1, m1, μ1, ρ, _, S1, q1, fun F2 m2 μ2 ds us H2 x2 S2 r3 q2 => k _ _ _ _ _ _ (x1.trans x2) S2 ((r2.mono x2.gr).append r3) q2⟩
    | tup xs =>
      obtain ⟨a, vs, rfl, h1, r2⟩ := vx.tup S1.same
      exact ⟨a, vs, rfl, .inl h1, F1, m1, μ1, ρ, _, S1, q1, fun F2 m2 μ2 ds us H2 x2 S2 r3 q2 => k _ _ _ _ _ _ (x1.trans x2) S2 ((r2.mono x2.gr).append r3) q2⟩
    | _ => exact q1.elim⟩
def wNeg (w : WE) : WE := fun ρ μ Q E => w ρ μ (fun x μ1 => match x with
  | .int i => Q (.int (-i)) μ1
  | _ => False) E
theorem de_neg (h : DE X z e w) : DE X z (.UnaryOp .USub e pos) (wNeg w) := fun Wd tk =>
  peI (pe_un un_neg (h Wd tk)) fun σ H Q ⟨F, m, μ, ρ, Qd, S, h, k⟩ => ⟨F, m, μ, ρ, _, S, h, fun F1 m1 μ1 d1 v1 H1 x1 S1 r1 q1 => by
    cases r1 with
    | int => exact ⟨_, rfl, k _ _ _ _ _ _ x1 S1 .int q1⟩
    | _ => exact q1.elim⟩
/-- a ** b, small -/
def powZ (i : Int) : Nat → Int
  | 0 => 1
  | n + 1 => powZ i n * i
def powD : D → D → Option D
  | .int i, .int j => match decide (0 ≤ j) && (decide (j ≤ 1000) && Nat.blt i.natAbs 18446744073709551616) with
    | true => some (.int (powZ i j.toNat))
    | false => none
  | _, _ => none
theorem powZ_eq (i : Int) : ∀ n, powZ i n = i ^ n
  | 0 => by rw [powZ, Int.pow_zero]
  | n + 1 => by rw [powZ, powZ_eq i n, Int.pow_succ]
theorem okPow : OpD X z (rI CPow fun i j => V.int (i ^ j.toNat)) powD := by
  intro F m μ ρ σ H x y v u d Qd Q S vx vy e q k
  unfold powD at e
  split at e
  · rename_i i j
    split at e
    · rename_i h
      injection e with e
      subst e
      rw [Bool.and_eq_true, Bool.and_eq_true] at h
      have h1 := of_decide_eq_true h.1
      have h2 := of_decide_eq_true h.2.1
      have h3 := Nat.le_of_ble_eq_true h.2.2
      refine ⟨i, j, vx.int, vy.int, ⟨h1, by omega, h3⟩, ?_⟩
      show Q (.int (i ^ j.toNat)) H
      rw [← powZ_eq]
      exact k.now S .int q
    · cases e
  · cases e
theorem o_pow (ha : DE X z a wa) (hb : DE X z b wb) : DE X z (.BinOp a .Pow b pos) (w2 powD wa wb) := de_op op_pow okPow ha hb
/-! ### short names -/
theorem hu65 {k : Nat} {A : Around} (r : Room k A) : A.units + 65 < cLine := by have := r.un; omega
theorem hu64 {k : Nat} {A : Around} (r : Room k A) : A.units + 64 < cLine := by have := r.un; omega
theorem hu1 {k : Nat} {A : Around} (r : Room k A) : A.units + 1 < cLine := by have := r.un; omega
theorem vr (i : Nat) {x : Str} (hN : X.N[i]? = some x := by rfl) (hv : Vis X.env.scope x := by first | exact Or.inl rfl | exact Or.inr (Or.inl rfl) | exact Or.inr (Or.inr rfl)) (hd : (x == ("__debug__" : Str)) = false := by decide) (hcd : (x == ("__classdict__" : Str)) = false := by decide) : DE X z (.Name x pos) (wVar i) := de_var hN hv hd hcd
theorem gn (i : Nat) {x : Str} (nd : X.N.Nodup) (hi : X.N[i]? = some x := by rfl) (hx : Loc X.env.scope x := by first | exact Or.inl rfl | exact Or.inr rfl) (hf : X.fn x = true ∨ X.env.scope.names.lookup x = some .local := by first | exact .inl rfl | exact .inr rfl) : DG X z (.Name x pos) (gN i) [i] := dg_name nd hi hx hf
theorem gn2 (i : Nat) {x : Str} (nd : X.N.Nodup) (hi : X.N[i]? = some x := by rfl) (hx : Loc X.env.scope x := by first | exact Or.inl rfl | exact Or.inr rfl) (hf : X.fn x = true ∨ X.env.scope.names.lookup x = some .local := by first | exact .inl rfl | exact .inr rfl) : DG2 X z (.Name x pos) (g2N i) := d2_name nd hi hx hf
theorem cmp_eq (hu : X.A.units + 64 < cLine) (ha : DE X z a wa) (hb : DE X z b wb) (hm : behindInMarks .Eq b = false := by rfl) : DE X z (.Compare a [.Eq] [b] pos) (w2 eqqD wa wb) := de_cmp (op_eqD hu) okEq hm ha hb
theorem cmp_ne (hu : X.A.units + 64 < cLine) (ha : DE X z a wa) (hb : DE X z b wb) (hm : behindInMarks .NotEq b = false := by rfl) : DE X z (.Compare a [.NotEq] [b] pos) (w2 neqD wa wb) := de_cmp (op_neD hu) okNe hm ha hb
theorem cmp_lt (ha : DE X z a wa) (hb : DE X z b wb) (hm : behindInMarks .Lt b = false := by rfl) : DE X z (.Compare a [.Lt] [b] pos) (w2 ltD wa wb) := de_cmp op_lt okLt hm ha hb
theorem cmp_le (ha : DE X z a wa) (hb : DE X z b wb) (hm : behindInMarks .LtE b = false := by rfl) : DE X z (.Compare a [.LtE] [b] pos) (w2 leD wa wb) := de_cmp op_le okLe hm ha hb
theorem cmp_gt (ha : DE X z a wa) (hb : DE X z b wb) (hm : behindInMarks .Gt b = false := by rfl) : DE X z (.Compare a [.Gt] [b] pos) (w2 gtD wa wb) := de_cmp op_gt okGt hm ha hb
theorem cmp_ge (ha : DE X z a wa) (hb : DE X z b wb) (hm : behindInMarks .GtE b = false := by rfl) : DE X z (.Compare a [.GtE] [b] pos) (w2 geD wa wb) := de_cmp op_ge okGe hm ha hb
theorem cmp_is (ha : DE X z a wa) (hb : DE X z b wb) (hm : behindInMarks .Is b = false := by rfl) : DE X z (.Compare a [.Is] [b] pos) (w2 isD wa wb) := de_cmp orIs okIs hm ha hb
theorem cmp_isnot (ha : DE X z a wa) (hb : DE X z b wb) (hm : behindInMarks .IsNot b = false := by rfl) : DE X z (.Compare a [.IsNot] [b] pos) (w2 isnotD wa wb) := de_cmp orIsnot okIsnot hm ha hb
theorem cmp_in (hu : X.A.units + 65 < cLine) (ha : DE X z a wa) (hb : DE X z b wb) (hm : behindInMarks .In b = false := by rfl) : DE X z (.Compare a [.In] [b] pos) (w2 inD wa wb) := de_cmp (orIn hu) okIn1 hm ha hb
theorem cmp_nin (hu : X.A.units + 65 < cLine) (ha : DE X z a wa) (hb : DE X z b wb) (hm : behindInMarks .NotIn b = false := by rfl) : DE X z (.Compare a [.NotIn] [b] pos) (w2 ninD wa wb) := de_cmp (orNin hu) okNin1 hm ha hb
theorem t_eq (hu : X.A.units + 64 < cLine) (ha : DE X z a wa) (hb : DE X z b wb) (hm : behindInMarks .Eq b = false := by rfl) : DT X z (.Compare a [.Eq] [b] pos) (tBl (w2 eqqD wa wb)) := dt_cmp (op_eqD hu) okEq hm ha hb
theorem t_ne (hu : X.A.units + 64 < cLine) (ha : DE X z a wa) (hb : DE X z b wb) (hm : behindInMarks .NotEq b = false := by rfl) : DT X z (.Compare a [.NotEq] [b] pos) (tBl (w2 neqD wa wb)) := dt_cmp (op_neD hu) okNe hm ha hb
theorem t_lt (ha : DE X z a wa) (hb : DE X z b wb) (hm : behindInMarks .Lt b = false := by rfl) : DT X z (.Compare a [.Lt] [b] pos) (tBl (w2 ltD wa wb)) := dt_cmp op_lt okLt hm ha hb
theorem t_le (ha : DE X z a wa) (hb : DE X z b wb) (hm : behindInMarks .LtE b = false := by rfl) : DT X z (.Compare a [.LtE] [b] pos) (tBl (w2 leD wa wb)) := dt_cmp op_le okLe hm ha hb
theorem t_gt (ha : DE X z a wa) (hb : DE X z b wb) (hm : behindInMarks .Gt b = false := by rfl) : DT X z (.Compare a [.Gt] [b] pos) (tBl (w2 gtD wa wb)) := dt_cmp op_gt okGt hm ha hb
theorem t_ge (ha : DE X z a wa) (hb : DE X z b wb) (hm : behindInMarks .GtE b = false := by rfl) : DT X z (.Compare a [.GtE] [b] pos) (tBl (w2 geD wa wb)) := dt_cmp op_ge okGe hm ha hb
theorem t_is (ha : DE X z a wa) (hb : DE X z b wb) (hm : behindInMarks .Is b = false := by rfl) : DT X z (.Compare a [.Is] [b] pos) (tBl (w2 isD wa wb)) := dt_cmp orIs okIs hm ha hb
theorem t_isnot (ha : DE X z a wa) (hb : DE X z b wb) (hm : behindInMarks .IsNot b = false := by rfl) : DT X z (.Compare a [.IsNot] [b] pos) (tBl (w2 isnotD wa wb)) := dt_cmp orIsnot okIsnot hm ha hb
theorem t_in (hu : X.A.units + 65 < cLine) (ha : DE X z a wa) (hb : DE X z b wb) (hm : behindInMarks .In b = false := by rfl) : DT X z (.Compare a [.In] [b] pos) (tBl (w2 inD wa wb)) := dt_cmp (orIn hu) okIn1 hm ha hb
theorem t_nin (hu : X.A.units + 65 < cLine) (ha : DE X z a wa) (hb : DE X z b wb) (hm : behindInMarks .NotIn b = false := by rfl) : DT X z (.Compare a [.NotIn] [b] pos) (tBl (w2 ninD wa wb)) := dt_cmp (orNin hu) okNin1 hm ha hb
theorem o_add (ha : DE X z a wa) (hb : DE X z b wb) : DE X z (.BinOp a .Add b pos) (w2 addD wa wb) := de_op orAdd okAdd ha hb
theorem o_sub (ha : DE X z a wa) (hb : DE X z b wb) : DE X z (.BinOp a .Sub b pos) (w2 subD wa wb) := de_op op_sub okSub ha hb
theorem o_mul (ha : DE X z a wa) (hb : DE X z b wb) : DE X z (.BinOp a .Mult b pos) (w2 mulD wa wb) := de_op orMul okMul ha hb
theorem o_fdiv (ha : DE X z a wa) (hb : DE X z b wb) : DE X z (.BinOp a .FloorDiv b pos) (w2 fdivD wa wb) := de_op op_fdiv okFdiv ha hb
theorem o_mod (ha : DE X z a wa) (hb : DE X z b wb) : DE X z (.BinOp a .Mod b pos) (w2 modD wa wb) := de_op op_mod okMod ha hb
end
/-! ### builtins, called -/
section
variable {X : Cx} {z : Zx} {p pos : Pos} {e e2 : Expr} {es : List Expr} {wa : WA}
theorem k_len (hm : X.mg "len" = none) (ha : DA X z [e] wa) (hg : Gl X "len" := by rfl) (he : starEach [e] X.env = (false, eval e X.env) :: starEach [] X.env := by rfl) (hpl : (backTo pos (starEach [] X.env)).any (·.1) = false := by rfl) : DE X z (.Call (.Name "len" p) [e] [] pos) (wBu (b1 lenD) wa) := de_callB c_len ok_len hg hm ha (he := he) (hpl := hpl)
theorem k_all (hc : X.calm = true) (hm : X.mg "all" = none) (ha : DA X z [e] wa) (hg : Gl X "all" := by rfl) (he : starEach [e] X.env = (false, eval e X.env) :: starEach [] X.env := by rfl) (hpl : (backTo pos (starEach [] X.env)).any (·.1) = false := by rfl) : DE X z (.Call (.Name "all" p) [e] [] pos) (wBu (b1 allD) wa) := de_callB (cr_all hc) ok_all hg hm ha (he := he) (hpl := hpl)
theorem k_any (hc : X.calm = true) (hm : X.mg "any" = none) (ha : DA X z [e] wa) (hg : Gl X "any" := by rfl) (he : starEach [e] X.env = (false, eval e X.env) :: starEach [] X.env := by rfl) (hpl : (backTo pos (starEach [] X.env)).any (·.1) = false := by rfl) : DE X z (.Call (.Name "any" p) [e] [] pos) (wBu (b1 anyD) wa) := de_callB (cr_any hc) ok_any hg hm ha (he := he) (hpl := hpl)
theorem k_sum (hc : X.calm = true) (hm : X.mg "sum" = none) (ha : DA X z [e] wa) (hg : Gl X "sum" := by rfl) (he : starEach [e] X.env = (false, eval e X.env) :: starEach [] X.env := by rfl) (hpl : (backTo pos (starEach [] X.env)).any (·.1) = false := by rfl) : DE X z (.Call (.Name "sum" p) [e] [] pos) (wBu (b1 sumD) wa) := de_callB (cr_sum hc) ok_sum hg hm ha (he := he) (hpl := hpl)
theorem k_abs (hm : X.mg "abs" = none) (ha : DA X z [e] wa) (hg : Gl X "abs" := by rfl) (he : starEach [e] X.env = (false, eval e X.env) :: starEach [] X.env := by rfl) (hpl : (backTo pos (starEach [] X.env)).any (·.1) = false := by rfl) : DE X z (.Call (.Name "abs" p) [e] [] pos) (wBu (b1 absD) wa) := de_callB call_abs ok_abs hg hm ha (he := he) (hpl := hpl)
theorem k_sorted (own : Bool) (hm : X.mg "sorted" = none) (ha : DA X z [e] wa) (hg : Gl X "sorted" := by rfl) (he : starEach [e] X.env = (false, eval e X.env) :: starEach [] X.env := by rfl) (hpl : (backTo pos (starEach [] X.env)).any (·.1) = false := by rfl) : DE X z (.Call (.Name "sorted" p) [e] [] pos) (wBu (b1L own sortedD) wa) := de_callB cr_sortedI ok_sorted hg hm ha (he := he) (hpl := hpl)
theorem k_isi (hm : X.mg "isinstance" = none) (ha : DA X z [e, e2] wa) (hg : Gl X "isinstance" := by rfl) (he : starEach [e, e2] X.env = (false, eval e X.env) :: starEach [e2] X.env := by rfl) (hpl : (backTo pos (starEach [e2] X.env)).any (·.1) = false := by rfl) : DE X z (.Call (.Name "isinstance" p) [e, e2] [] pos) (wBu (b2' isiD) wa) := de_callB call_isi ok_isi hg hm ha (he := he) (hpl := hpl)
theorem k_isiC {cn : Nat} (I : IsiF X.K z.T cn) (hm : X.mg "isinstance" = none) (ha : DA X z [e, e2] wa) (hg : Gl X "isinstance" := by rfl) (he : starEach [e, e2] X.env = (false, eval e X.env) :: starEach [e2] X.env := by rfl) (hpl : (backTo pos (starEach [e2] X.env)).any (·.1) = false := by rfl) : DE X z (.Call (.Name "isinstance" p) [e, e2] [] pos) (wBu (b2' (isiC cn)) wa) := de_callB call_isi (ok_isiC I) hg hm ha (he := he) (hpl := hpl)
theorem k_divmod (hm : X.mg "divmod" = none) (ha : DA X z [e, e2] wa) (hg : Gl X "divmod" := by rfl) (he : starEach [e, e2] X.env = (false, eval e X.env) :: starEach [e2] X.env := by rfl) (hpl : (backTo pos (starEach [e2] X.env)).any (·.1) = false := by rfl) : DE X z (.Call (.Name "divmod" p) [e, e2] [] pos) (wBu (b2' divmodD) wa) := de_callB call_divmod ok_divmod hg hm ha (he := he) (hpl := hpl)
theorem k_max2 (hc : X.calm = true) (hm : X.mg "max" = none) (ha : DA X z [e, e2] wa) (hg : Gl X "max" := by rfl) (he : starEach [e, e2] X.env = (false, eval e X.env) :: starEach [e2] X.env := by rfl) (hpl : (backTo pos (starEach [e2] X.env)).any (·.1) = false := by rfl) : DE X z (.Call (.Name "max" p) [e, e2] [] pos) (wBu (b2' maxD) wa) := de_callB (call_max2 hc) ok_max2 hg hm ha (he := he) (hpl := hpl)
theorem k_min2 (hc : X.calm = true) (hm : X.mg "min" = none) (ha : DA X z [e, e2] wa) (hg : Gl X "min" := by rfl) (he : starEach [e, e2] X.env = (false, eval e X.env) :: starEach [e2] X.env := by rfl) (hpl : (backTo pos (starEach [e2] X.env)).any (·.1) = false := by rfl) : DE X z (.Call (.Name "min" p) [e, e2] [] pos) (wBu (b2' minD) wa) := de_callB (call_min2 hc) ok_min2 hg hm ha (he := he) (hpl := hpl)
theorem k_int (hm : X.mg "int" = none) (ha : DA X z [e] wa) (hg : Gl X "int" := by rfl) (he : starEach [e] X.env = (false, eval e X.env) :: starEach [] X.env := by rfl) (hpl : (backTo pos (starEach [] X.env)).any (·.1) = false := by rfl) : DE X z (.Call (.Name "int" p) [e] [] pos) (wBu (b1 intD) wa) := de_callTy c_int ok_int hg hm ha (he := he) (hpl := hpl)
theorem k_str (hm : X.mg "str" = none) (ha : DA X z [e] wa) (hg : Gl X "str" := by rfl) (he : starEach [e] X.env = (false, eval e X.env) :: starEach [] X.env := by rfl) (hpl : (backTo pos (starEach [] X.env)).any (·.1) = false := by rfl) : DE X z (.Call (.Name "str" p) [e] [] pos) (wBu (b1 strI) wa) := de_callTy call_str_int ok_str hg hm ha (he := he) (hpl := hpl)
theorem k_list (own : Bool) (hc : X.calm = true) (hm : X.mg "list" = none) (ha : DA X z [e] wa) (hg : Gl X "list" := by rfl) (he : starEach [e] X.env = (false, eval e X.env) :: starEach [] X.env := by rfl) (hpl : (backTo pos (starEach [] X.env)).any (·.1) = false := by rfl) : DE X z (.Call (.Name "list" p) [e] [] pos) (wBu (b1L own itemsOf) wa) := de_callTy (c_list hc) ok_list hg hm ha (he := he) (hpl := hpl)
theorem k_tuple (hm : X.mg "tuple" = none) (ha : DA X z [e] wa) (hg : Gl X "tuple" := by rfl) (he : starEach [e] X.env = (false, eval e X.env) :: starEach [] X.env := by rfl) (hpl : (backTo pos (starEach [] X.env)).any (·.1) = false := by rfl) : DE X z (.Call (.Name "tuple" p) [e] [] pos) (wBu (b1 tupD) wa) := de_callTy call_tuple_of ok_tuple hg hm ha (he := he) (hpl := hpl)
theorem k_dict (own : Bool) (hc : X.calm = true) (hm : X.mg "dict" = none) (ha : DA X z [e] wa) (hg : Gl X "dict" := by rfl) (he : starEach [e] X.env = (false, eval e X.env) :: starEach [] X.env := by rfl) (hpl : (backTo pos (starEach [] X.env)).any (·.1) = false := by rfl) : DE X z (.Call (.Name "dict" p) [e] [] pos) (wBu (bDict own) wa) := de_callTy (c_dict own hc) ok_dict hg hm ha (he := he) (hpl := hpl)
end
end Pk

/-! The data layer, part R: defs with their promises, for the printer. -/
namespace Pk
open PySem PySem.Spec PyProof.Rows L2
structure OkF (P : Program) (w0 : World) (K : PySem.W.Frag) (mg : Str → Option Value) (base : Heap) (T : Tab) (k : Nat) (a : Addr) (ps : List Str) (c : Con) : Prop where
  ex : ∃ fd, FnC P w0 K mg base T k a fd ps c ∧ Binds K fd ps [] ∧ PySem.W.keepIn K (.ref a) = true
section
variable {X : Cx} {z : Zx} {k cn n : Nat} {a g p0 : Addr} {ps : List Str} {c : Con} {x m : Str} {p pos apos : Pos} {e o : Expr} {es : List Expr} {wo : WE} {wa : WA} {mc : Value}
theorem c_fn (ok : OkF X.prog X.w X.K X.mg X.base z.T k a ps c) (hr : Room k X.A) (hm : X.mg x = some (.ref a)) (ha : DA X z (e :: es) wa) (hg : Gl X x := by rfl)
    (hdb : (x == ("__debug__" : Str)) = false := by decide) (he : starEach (e :: es) X.env = (false, eval e X.env) :: starEach es X.env := by rfl) (hpl : (backTo pos (starEach es X.env)).any (·.1) = false := by rfl) (hn : ps.length = n := by rfl) : DE X z (.Call (.Name x p) (e :: es) [] pos) (wCallN c n [] wa) := by
  subst hn
  obtain ⟨fd, F, b, kp⟩ := ok.ex
  exact de_call F hr hg hm kp b .nil (fun _ _ => .nil) ha hdb he hpl
theorem c_fn0 (ok : OkF X.prog X.w X.K X.mg X.base z.T k a [] c) (hr : Room k X.A) (hm : X.mg x = some (.ref a)) (hg : Gl X x := by rfl) (hdb : (x == ("__debug__" : Str)) = false := by decide) : DE X z (.Call (.Name x p) [] [] pos) (wCallN c 0 [] aNil) := by
  obtain ⟨fd, F, b, kp⟩ := ok.ex
  exact de_call0 F hr hg hm kp b rfl hdb
theorem c_mk (ok : OkF X.prog X.w X.K X.mg X.base z.T k a ps c) (M : Mk X.K (z.T.ca cn) a) (hr : Room (k + 1) X.A) (hm : X.mg x = some (.ref (z.T.ca cn))) (ha : DA X z (e :: es) wa) (hg : Gl X x := by rfl)
    (hdb : (x == ("__debug__" : Str)) = false := by decide) (he : starEach (e :: es) X.env = (false, eval e X.env) :: starEach es X.env := by rfl) (hpl : (backTo pos (starEach es X.env)).any (·.1) = false := by rfl) (hn : ps.length = n := by rfl) : DE X z (.Call (.Name x p) (e :: es) [] pos) (wMake cn c n [] wa) := by
  subst hn
  obtain ⟨fd, F, b, kp⟩ := ok.ex
  exact de_make M F hr hg hm b .nil (fun _ _ => .nil) ha hdb he hpl
theorem c_mkL (i : Nat) (ok : OkF X.prog X.w X.K X.mg X.base z.T k a ps c) (M : Mk X.K (z.T.ca cn) a) (hr : Room (k + 1) X.A) (ha : DA X z (e :: es) wa) (hN : X.N[i]? = some x := by rfl) (hv : Vis X.env.scope x := by first | exact Or.inl rfl | exact Or.inr (Or.inl rfl) | exact Or.inr (Or.inr rfl))
    (hdb : (x == ("__debug__" : Str)) = false := by decide) (hcd : (x == ("__classdict__" : Str)) = false := by decide) (he : starEach (e :: es) X.env = (false, eval e X.env) :: starEach es X.env := by rfl) (hpl : (backTo pos (starEach es X.env)).any (·.1) = false := by rfl) (hn : ps.length = n := by rfl) : DE X z (.Call (.Name x p) (e :: es) [] pos) (wMakeL i cn c n [] wa) := by
  subst hn
  obtain ⟨fd, F, b, kp⟩ := ok.ex
  exact de_makeL M F hr b .nil (fun _ _ => .nil) hN hv ha hdb hcd he hpl
theorem c_me {pl : Sem Bool} (ok : OkF X.prog X.w X.K X.mg X.base z.T k a ps c) (mf : MethF X.K z.T cn m a) (hr : Room k X.A) (ho : DE X z o wo) (ha : DA X z (e :: es) wa)
    (hst : starEach (e :: es) X.env = (false, eval e X.env) :: starEach es X.env := by rfl) (hpl : (backTo pos (starEach es X.env)).any (·.1) = false := by rfl)
    (ht : eval (.Call (.Attribute o m apos) (e :: es) [] pos) X.env = (eval o X.env >>= fun ov => standAt apos.atName >>= fun _ => holding [ov] (getMethod ov m pl) >>= fun r => callWith pos r.1 r.2 (backTo pos (starEach (e :: es) X.env)) (backToKw pos (keywordEach [] X.env))) := by rfl) (hn : ps.length = n := by rfl) :
    DE X z (.Call (.Attribute o m apos) (e :: es) [] pos) (wMeth cn c n wo wa) := by
  subst hn
  obtain ⟨fd, F, b, kp⟩ := ok.ex
  exact de_meth mf F hr b ho ha hst hpl ht
theorem c_me0 {pl : Sem Bool} (ok : OkF X.prog X.w X.K X.mg X.base z.T k a ps c) (mf : MethF X.K z.T cn m a) (hr : Room k X.A) (ho : DE X z o wo)
    (ht : eval (.Call (.Attribute o m apos) [] [] pos) X.env = (eval o X.env >>= fun ov => standAt apos.atName >>= fun _ => holding [ov] (getMethod ov m pl) >>= fun r => callWith pos r.1 r.2 (backTo pos (starEach [] X.env)) (backToKw pos (keywordEach [] X.env))) := by rfl) (hn : ps.length = n := by rfl) :
    DE X z (.Call (.Attribute o m apos) [] [] pos) (wMeth cn c n wo aNil) := by
  subst hn
  obtain ⟨fd, F, b, kp⟩ := ok.ex
  exact de_meth0 mf F hr b ho ht
theorem c_pr (ok : OkF X.prog X.w X.K X.mg X.base z.T k g [x] c) (pf : PropF X.K z.T cn m p0 g) (hr : Room (k + 1) X.A) (ho : DE X z o wo) (hab : attributeBase o m X.env (eval o X.env) = eval o X.env := by rfl) : DE X z (.Attribute o m pos) (wProp cn c wo) := by
  obtain ⟨fd, F, b, kp⟩ := ok.ex
  exact de_prop pf F hr b ho hab
theorem c_cm {pl : Sem Bool} (ok : OkF X.prog X.w X.K X.mg X.base z.T k g ps c) (r : ClX.CRead X.K (z.T.ca cn) mc ∧ ClX.CMet X.K (z.T.ca cn) mc m p0 g) (hr : Room k X.A) (ho : DE X z o wo) (ha : DA X z (e :: es) wa)
    (hst : starEach (e :: es) X.env = (false, eval e X.env) :: starEach es X.env := by rfl) (hpl : (backTo pos (starEach es X.env)).any (·.1) = false := by rfl)
    (ht : eval (.Call (.Attribute o m apos) (e :: es) [] pos) X.env = (eval o X.env >>= fun ov => standAt apos.atName >>= fun _ => holding [ov] (getMethod ov m pl) >>= fun r => callWith pos r.1 r.2 (backTo pos (starEach (e :: es) X.env)) (backToKw pos (keywordEach [] X.env))) := by rfl) (hn : ps.length = n := by rfl) :
    DE X z (.Call (.Attribute o m apos) (e :: es) [] pos) (wCMeth cn c n wo wa) := by
  subst hn
  obtain ⟨fd, F, b, kp⟩ := ok.ex
  exact de_cmeth r.1 r.2 F hr b ho ha hst hpl ht
end
/-! ### of the text -/
def clsBody : Stmt → List Stmt
  | .ClassDef (body := b) .. => b
  | _ => []
def nth (l : List Stmt) (i : Nat) : Stmt := l.getD i (.Pass ⟨0, 0, 0, 0⟩)
theorem fld_of {K : PySem.W.Frag} {T : Tab} {c : Nat} {f : Str} {j : Nat} (cl : Cls K (T.ca c)) (na : NoAttr K (T.ca c) f) (ix : fldIx f (T.fn c) = some j) (few : (T.fn c).length < 1000) : FldF K T c f j := ⟨cl, na, ix, few⟩
section
variable {X : Cx} {z : Zx} {apos pos : Pos} {o e : Expr} {wo : WE} {wa : WA}
theorem m_split (own : Bool) (ho : DE X z o wo) (ha : DA X z [e] wa) (hbase : attributeBase o "split" X.env (eval o X.env) = eval o X.env := by rfl)
    (hfew : ((backTo pos (starEach [e] X.env)).all (fun x => !x.1) && (backToKw pos (keywordEach [] X.env)).all (fun x => x.1.isSome) && decide ([e].length + ([] : List Keyword).length + (if ([] : List Keyword).isEmpty then 0 else 1) < 30)) = true := by rfl)
    (hline : (apos.endLine == pos.line) = true := by rfl) (hs : starEach [e] X.env = (false, eval e X.env) :: starEach [] X.env := by rfl) (hplain : (backTo pos (starEach [] X.env)).any (·.1) = false := by rfl) :
    DE X z (.Call (.Attribute o "split" apos) [e] [] pos) (wMe isS (splF own) wo wa) := de_bm PySem.F.plainAttrs_str PySem.F.slot_str_split PySem.F.type_str_split mt_split ty_str ok_split ho ha hbase hfew hline hs hplain
theorem m_join (ho : DE X z o wo) (ha : DA X z [e] wa) (hbase : attributeBase o "join" X.env (eval o X.env) = eval o X.env := by rfl)
    (hfew : ((backTo pos (starEach [e] X.env)).all (fun x => !x.1) && (backToKw pos (keywordEach [] X.env)).all (fun x => x.1.isSome) && decide ([e].length + ([] : List Keyword).length + (if ([] : List Keyword).isEmpty then 0 else 1) < 30)) = true := by rfl)
    (hline : (apos.endLine == pos.line) = true := by rfl) (hs : starEach [e] X.env = (false, eval e X.env) :: starEach [] X.env := by rfl) (hplain : (backTo pos (starEach [] X.env)).any (·.1) = false := by rfl) :
    DE X z (.Call (.Attribute o "join" apos) [e] [] pos) (wMe isS joinF wo wa) := de_bm PySem.F.plainAttrs_str PySem.F.slot_str_join PySem.F.type_str_join mt_join ty_str ok_join ho ha hbase hfew hline hs hplain
theorem m_append (ho : DE X z o wo) (ha : DA X z [e] wa) (hbase : attributeBase o "append" X.env (eval o X.env) = eval o X.env := by rfl)
    (hfew : ((backTo pos (starEach [e] X.env)).all (fun x => !x.1) && (backToKw pos (keywordEach [] X.env)).all (fun x => x.1.isSome) && decide ([e].length + ([] : List Keyword).length + (if ([] : List Keyword).isEmpty then 0 else 1) < 30)) = true := by rfl)
    (hline : (apos.endLine == pos.line) = true := by rfl) (hs : starEach [e] X.env = (false, eval e X.env) :: starEach [] X.env := by rfl) (hplain : (backTo pos (starEach [] X.env)).any (·.1) = false := by rfl) :
    DE X z (.Call (.Attribute o "append" apos) [e] [] pos) (wMe isL appF wo wa) := de_bm PySem.F.plainAttrs_list PySem.F.slot_list_append PySem.F.type_list_append mt_append ty_list ok_app ho ha hbase hfew hline hs hplain
theorem m_index (hu : X.A.units + 65 < cLine) (ho : DE X z o wo) (ha : DA X z [e] wa) (hbase : attributeBase o "index" X.env (eval o X.env) = eval o X.env := by rfl)
    (hfew : ((backTo pos (starEach [e] X.env)).all (fun x => !x.1) && (backToKw pos (keywordEach [] X.env)).all (fun x => x.1.isSome) && decide ([e].length + ([] : List Keyword).length + (if ([] : List Keyword).isEmpty then 0 else 1) < 30)) = true := by rfl)
    (hline : (apos.endLine == pos.line) = true := by rfl) (hs : starEach [e] X.env = (false, eval e X.env) :: starEach [] X.env := by rfl) (hplain : (backTo pos (starEach [] X.env)).any (·.1) = false := by rfl) :
    DE X z (.Call (.Attribute o "index" apos) [e] [] pos) (wMe isL idxF wo wa) := de_bm PySem.F.plainAttrs_list PySem.F.slot_list_index PySem.F.type_list_index (mt_indexD hu) ty_list ok_idx ho ha hbase hfew hline hs hplain
end
end Pk

/-! The data layer, part S: the law's end. -/
namespace Pk
open PySem PySem.Spec PyProof.Rows L2
def E00 : XK := fun _ _ _ => False
def CX00 : CXT := fun _ _ _ _ _ _ => False
theorem calmOk {P : Program} {w0 : World} {K : PySem.W.Frag} {mg : Str → Option Value} {base : Heap} {k : Nat} {f : Addr} {fd : FuncData} {ps : List Str} {sp : Sp} (F : FnOk P w0 K mg base (L2.CX P w0) k f fd ps sp) :
    FnOk P w0 K mg base CX00 k f fd ps (fun vs H Q _ => sp vs H Q E00) :=
  ⟨fun vs H Q E h => F.len vs H Q _ h, fun A outer s H args us vs Q E hr he hb hv hs => codeAny_mono (F.run A outer s H args us vs Q E00 hr he hb hv hs) fun r s' hq => by
    cases r with
    | error e =>
      obtain ⟨_, _, _, _, _, _, _, _, _, _, _, _, z⟩ := (show L2.CX P w0 outer H s E00 e s' from hq)
      exact z.elim
    | ok fl => cases fl <;> exact hq⟩
/-- the end of a law: its promise, from the caller's own place -/
theorem law_callG {P : Program} {w0 : World} {K : PySem.W.Frag} {mg mz : Str → Option Value} {CX : CXT} {k : Nat} {f p : Addr} {fd : FuncData} {nm : Str} {sp : Sp} {t : Shared} {us : List Value} {is : List Int}
    (inK : K.In t.heap) (gl : t.heap.Ns mainGlobals mg) (bl : t.heap.Ns builtinsNs mz) (bb : ∀ y : Str, y ≠ "__name__" → mz y = bootBuiltins y) (nl : t.heap.NoLimit) (ng : t.gens = #[])
    (at_ : t.heap.get? p = some { cls := .type "list", data := .seq us.toArray }) (ia : IntsAre us is) (sz : is.length ≤ sizeLine) (rm : Room k callerA)
    (Fo : ∀ b : Heap, K.In b → b.Ns mainGlobals mg → FnOk P w0 K mg b CX k f fd [nm] sp) (bd : ∀ (s : Shared) (u : Value), BindsTo s fd ⟨[u], []⟩ [(nm, u)])
    (go : ∀ G : Hp, Only G → SqL K G p (is.map V.int) → sp [.ref p] G (fun v _ => v = .bl true) fun _ _ _ => False)
    (nx : ∀ G e t', CX [] G t (fun _ _ _ => False) e t' → False) :
    codeAny (model P w0) callerA (.call (.ref f) ⟨[.ref p], []⟩) (fun r t' => r = .ok (.ret (.bool true)) ∧ OldK t.heap t'.heap ∧ t'.os = t.os ∧ AllBare t'.gens) t := by
  have vi := vals_ints ia
  -- what is known of the abstract heap: at most the script is tracked
  have main : ∀ G : Hp, (∀ b, G b = none ∨ b = p ∧ ∃ o xs, G b = some (.frz o (.lst xs))) → SqL K G p (is.map V.int) → HOk P w0 G t.heap → (G p = none ∨ K.lookup p = none) →
      codeAny (model P w0) callerA (.call (.ref f) ⟨[.ref p], []⟩) (fun r t' => r = .ok (.ret (.bool true)) ∧ OldK t.heap t'.heap ∧ t'.os = t.os ∧ AllBare t'.gens) t := by
    intro G only sq ok kp
    have keepD : ∀ {b : Addr} {m : Str → Option Value}, t.heap.Ns b m → (hidT t.heap G).Ns b m := by
      rintro b m ⟨o, xs, n, e, d, r⟩
      refine ⟨o, xs, n, hidT_get e ((only b).resolve_right ?_), d, r⟩
      rintro ⟨rfl, _⟩
      cases Option.some.inj (at_.symm.trans e)
      exact absurd d (by simp)
    have inH : K.In (hidT t.heap G) := fun b o e => hidT_get (inK b o e) ((only b).elim id fun ⟨q, _⟩ => by
      subst q
      rcases kp with n | n
      · exact n
      · exact absurd (e.symm.trans n) (by simp))
    have env : Env0 P w0 K mg (hidT t.heap G) callerA [] t G :=
      { frames := rfl
        mod := ⟨inH, keepD gl, ⟨mz, keepD bl, bb⟩, let ⟨ml, l1, l2⟩ := nl; ⟨ml, keepD l1, l2⟩⟩
        bs := fun _ _ e => of_hidT e
        bsz := Nat.le_of_eq (hidT_size t.heap G)
        funs := trivial
        frf := fun _ m => by cases m
        hok := ok
        bare := .of_eq ng }
    have run := (Fo _ inH (keepD gl)).run callerA [] t G ⟨[.ref p], []⟩ [.ref p] [.ref p] _ _ rm env (bd t (.ref p)) (.cons rfl .nil) (go G (fun b => (only b).imp id And.right) sq)
    refine codeAny_mono run fun r t' q => ?_
    match r, q with
    | .error e, q => exact (nx G e t' q).elim
    | .ok .next, q => exact q.elim
    | .ok .brk, q => exact q.elim
    | .ok .cont, q => exact q.elim
    | .ok (.ret u), ⟨v, G', eo, br, un, ok', rv, ev⟩ =>
      subst ev
      cases (show u = Value.bool true from rv)
      refine ⟨rfl, OldK.of_keep fun b o e => ?_, eo, br⟩
      rcases only b with n | ⟨_, o1, xs, y⟩
      · exact un.keep b o e n (fun m => by cases m) (by simp)
      · have e1 := (ok b _ y).1
        have e2 := (ok' b _ (un.frzs b o1 _ y)).1
        exact e2.trans (e1.symm.trans e)
  cases lk : K.lookup p with
  | some o =>
    have eo := Option.some.inj ((inK p o lk).symm.trans at_)
    subst eo
    exact main (fun _ => none) (fun _ => .inl rfl) (.inr ⟨_, us.toArray, _, lk, rfl, rfl, rfl, by rw [List.size_toArray, ia.length]; exact sz, vi⟩) (fun _ _ z => by cases z) (.inl rfl)
  | none =>
    refine main (upd (fun _ => none) p (.frz { cls := .type "list", data := .seq us.toArray } (.lst (is.map V.int)))) (fun b => ?_) (.inl (.inr ⟨_, if_pos rfl⟩)) (fun b u z => ?_) (.inr lk)
    · by_cases q : b = p
      · exact .inr ⟨q, _, _, if_pos q⟩
      · exact .inl (if_neg q)
    · by_cases q : b = p
      · cases q
        cases (if_pos rfl : upd (fun _ => none) p _ p = _).symm.trans z
        exact ⟨at_, by rw [List.length_map]; exact sz, us, _, vi, at_⟩
      · cases (if_neg q : upd (fun _ => none) p _ b = _).symm.trans z
/-- .. over a head by facts -/
theorem walk_ofG {l : PySem.W.OpenLaw} {n k : Nat} {q : Program} {loose : List Str} {XP : (Str → Option Value) → Heap → Prop} {YP : World → Heap → Prop} {d : DefRec} {CX : CXT} {nm : Str}
    (e1 : l.most = some n) (e2 : n ≤ sizeLine) (e3 : d.params.defaults = []) (rm : Room k callerA)
    (Fo : ∀ (w : World) (mg : Str → Option Value) (f : Addr) (h : Heap), YP w h → h.Ns mainGlobals mg → mg d.name = some (.ref f) →
      ∃ (K : PySem.W.Frag) (fd : FuncData) (sp : Sp), K.In h ∧ (∀ (s : Shared) (u : Value), BindsTo s fd ⟨[u], []⟩ [(nm, u)]) ∧
        (∀ (G : Hp) (p : Addr) (is : List Int), is.length ≤ n → Only G → SqL K G p (is.map V.int) → sp [.ref p] G (fun v _ => v = .bl true) fun _ _ _ => False) ∧
        ∀ b : Heap, K.In b → b.Ns mainGlobals mg → FnOk l.prog w K mg b CX k f fd [nm] sp)
    (nx : ∀ (G : Hp) (t : Shared) (e : Value) (t' : Shared), CX [] G t (fun _ _ _ => False) e t' → False) :
    PySem.W.WalkO q loose XP YP l.row.toRowW d [] (fun f vs => PySem.call f vs) :=
  Att.attach_call e1 e3 fun w _ t mg _ f _ _ _ _ p _ is G Y _ _ _ hm at_ ia sz ng => by
    obtain ⟨K, fd, sp, inK, bd, go, F⟩ := Fo w mg f _ Y G.T.g hm
    exact law_callG inK G.T.g G.T.b G.T.builtins G.T.nolimit ng at_ ia (Nat.le_trans sz e2) rm F bd (fun H o q => go H p is sz o q) fun H e => nx H t e
end Pk

/-! The data layer, part T: expressions over an empty store. -/
namespace Pk
open PySem PySem.Spec PyProof.Rows L2
theorem loc_back {K : PySem.W.Frag} {T : Tab} {F F' : Hp} {m m' : List Addr} {μ : Sto} {H H' : Hp} {ρ : Slots} {σ : L2.St} {F0 : Hp} {m0 : List Addr} {H0 : Hp} (S : Sim K T F0 m0 H0 F m μ ρ σ H) (x : Ext F [] H F' m' H') (B : Same F' H') : Ext F m H F' m H' ∧ Sim K T F0 m0 H0 F' m μ ρ σ H' := by
  have g : Gr F m F' m := ⟨x.gr.fr, [], by simp⟩
  have xx : Ext F m H F' m H' := ⟨g, (fun b o e w n h => by
    obtain ⟨e1, n1, _⟩ := x.frm b o e w n (by simp)
    exact ⟨e1, n1, h⟩), x.up⟩
  refine ⟨xx, S.ext.trans xx, B, S.len, S.nd, fun a h => (x.up a).2 (S.al a h), fun k a o e1 e2 n => ?_, S.sl, fun i d e => ?_⟩
  · obtain ⟨h1, h2⟩ := S.sto k a o e1 e2 n
    cases o with
    | gone => exact absurd rfl n
    | fz d => exact ⟨fun z => (by cases z), Rep.mono g h2⟩
    | lst ds =>
      obtain ⟨vs, e, r⟩ := h2
      obtain ⟨e3, n3, _⟩ := x.frm a _ e (fun _ z => by cases z) (h1 rfl) (by simp)
      exact ⟨fun _ => n3, vs, e3, r.mono g⟩
    | dct ds =>
      obtain ⟨vs, e, r⟩ := h2
      obtain ⟨e3, n3, _⟩ := x.frm a _ e (fun _ z => by cases z) (h1 rfl) (by simp)
      exact ⟨fun _ => n3, vs, e3, r.mono g⟩
    | ins c ds =>
      obtain ⟨dx, vs, e, eo, _, l, r⟩ := h2
      obtain ⟨e3, n3, _⟩ := x.frm a _ e (fun _ z => by cases z) (h1 rfl) (by simp)
      exact ⟨fun _ => n3, dx, vs, e3, (x.up dx).1 a eo, trivial, l, r.mono g⟩
  · obtain ⟨v, h1, h2⟩ := S.slot i d e
    exact ⟨v, h1, h2.mono g⟩
def hideM : Option D → Option D
  | some d => match noM d with
    | true => some d
    | false => none
  | none => none
/-- over an empty store: nothing of the store is seen, nothing new of it is given, nothing is raised -/
def wLoc (w : WE) : WE := fun ρ μ Q _ => w (ρ.map hideM) [] (fun d _ => match noM d with
  | true => Q d μ
  | false => False) nox
theorem de_loc {X : Cx} {z : Zx} {e : Expr} {w : WE} (h : ∀ F0 m0 H0, DE X ⟨z.T, F0, m0, H0⟩ e w) : DE X z e (wLoc w) := fun Wd tk => by
  refine ⟨fun pins s σ H Q I ⟨F, m, μ, ρ, Qd, S, h', k⟩ => ?_⟩
  have S0 : Sim X.K z.T F [] H F [] [] (ρ.map hideM) σ H := ⟨Ext.refl _ _ _, S.same, rfl, List.nodup_nil, fun a h => absurd h (by simp), fun k a o e => by simp at e, by rw [List.length_map]; exact S.sl, fun i d e => by
    rw [List.getElem?_map] at e
    cases q : ρ[i]? with
    | none => rw [q] at e; cases e
    | some o =>
      rw [q] at e
      injection e with e
      cases o with
      | none => cases e
      | some d' =>
        unfold hideM at e
        split at e
        · rename_i hd heq
          split at e
          · rename_i hm
            injection e with e
            injection heq with heq
            subst e heq
            obtain ⟨v, h1, h2⟩ := S.slot i _ q
            exact ⟨v, h1, h2.noM hm⟩
          · cases e
        · cases e⟩
  refine (h F [] H (fun _ _ _ => False) (takes0.imp fun _ _ _ _ hx => by
    obtain ⟨_, _, _, _, _, _, _, hx⟩ := hx
    exact hx)).run pins s σ H Q I ⟨F, [], [], ρ.map hideM, _, S0, h', fun F' m' μ' d v H' x B r q => ?_⟩
  split at q
  · rename_i hd
    obtain ⟨xx, S2⟩ := loc_back S x B.same
    exact k F' m μ d v H' xx S2 (r.noM hd) q
  · exact q.elim
end Pk

/-! The data layer, part U: what a call leaves of the store. -/
namespace Pk
open PySem PySem.Spec PyProof.Rows L2
def noMO : MO → Bool
  | .lst xs => noMs xs
  | .dct kvs => noMk kvs
  | .ins _ fs => noMs fs
  | .fz d => noM d
  | .gone => true
def noMOs : Sto → Bool
  | [] => true
  | x :: r => match noMO x with
    | true => noMOs r
    | false => false
theorem noMOs_at : ∀ {μ : Sto} {k : Nat} {o : MO}, noMOs μ = true → μ[k]? = some o → noMO o = true
  | [], k, o, _, e => by simp at e
  | x :: r, k, o, h, e => by
    unfold noMOs at h
    cases q : noMO x with
    | false => rw [q] at h; cases h
    | true =>
      rw [q] at h
      cases k with
      | zero =>
        simp at e
        subst e
        exact q
      | succ k => exact noMOs_at h (by simpa using e)
section
variable {K : PySem.W.Frag} {T : Tab} {F0 F F' H0 : Hp} {m0 m m' : List Addr} {μ μ' : Sto} {ρ : Slots} {σ : L2.St} {H H' : Hp} {p a : Addr}
theorem MRep.noM {o : MO} (h : MRep K T F m H a o) (e : noMO o = true) : MRep K T F m' H a o := by
  cases o with
  | lst ds => obtain ⟨vs, e1, r⟩ := h; exact ⟨vs, e1, Reps.noM r e⟩
  | dct ds => obtain ⟨vs, e1, r⟩ := h; exact ⟨vs, e1, RepK.noM r e⟩
  | ins c ds => obtain ⟨dx, vs, e1, e2, t, l, r⟩ := h; exact ⟨dx, vs, e1, e2, t, l, Reps.noM r e⟩
  | fz d => exact Rep.noM h e
  | gone => trivial
mutual
def mIn (n : Nat) : D → Prop
  | .mref k => k < n
  | .tup xs => mIns n xs
  | .lst xs => mIns n xs
  | .dct kvs => mInk n kvs
  | .ins _ fs => mIns n fs
  | .ptp xs => mIns n xs
  | .ttp xs => mIns n xs
  | .dcp _ xs => mIns n xs
  | _ => True
def mIns (n : Nat) : List D → Prop
  | [] => True
  | x :: r => mIn n x ∧ mIns n r
def mInk (n : Nat) : List (DK × D) → Prop
  | [] => True
  | (_, x) :: r => mIn n x ∧ mInk n r
end
mutual
theorem Rep.mIn : ∀ {d : D} {v : V}, Rep K T F m d v → Pk.mIn m.length d
  | _, _, .non => trivial
  | _, _, .bl => trivial
  | _, _, .int => trivial
  | _, _, .str => trivial
  | _, _, .tup _ r => Reps.mIns r
  | _, _, .lst _ r => Reps.mIns r
  | _, _, .dct _ r => RepK.mInk r
  | _, _, .scr _ => trivial
  | _, _, .ins _ _ r => Reps.mIns r
  | _, _, .mref e => (List.getElem?_eq_some_iff.mp e).1
  | _, _, .cls => trivial
  | _, _, .ty => trivial
  | _, _, .ptp _ _ r => Reps.mIns r
  | _, _, .ttp _ r => Reps.mIns r
  | _, _, .dcp _ _ _ r => Reps.mIns r
theorem Reps.mIns : ∀ {ds : List D} {vs : List V}, Reps K T F m ds vs → Pk.mIns m.length ds
  | _, _, .nil => trivial
  | _, _, .cons h r => ⟨Rep.mIn h, Reps.mIns r⟩
theorem RepK.mInk : ∀ {ds : List (DK × D)} {vs : List (Key × V)}, RepK K T F m ds vs → Pk.mInk m.length ds
  | _, _, .nil => trivial
  | _, _, .cons h r => ⟨Rep.mIn h, RepK.mInk r⟩
end
mutual
theorem Rep.less {r : List Addr} : ∀ {d : D} {v : V}, Rep K T F (m ++ r) d v → Pk.mIn m.length d → Rep K T F m d v
  | _, _, .non, _ => .non
  | _, _, .bl, _ => .bl
  | _, _, .int, _ => .int
  | _, _, .str, _ => .str
  | _, _, .tup h q, e => .tup h (Reps.less q e)
  | _, _, .lst h q, e => .lst h (Reps.less q e)
  | _, _, .dct h q, e => .dct h (RepK.less q e)
  | _, _, .scr h, _ => .scr h
  | _, _, .ins h h2 q, e => .ins h h2 (Reps.less q e)
  | _, _, .mref h, e => .mref (by
    rw [List.getElem?_append_left e] at h
    exact h)
  | _, _, .cls, _ => .cls
  | _, _, .ty, _ => .ty
  | _, _, .ptp h n q, e => .ptp h n (Reps.less q e)
  | _, _, .ttp h q, e => .ttp h (Reps.less q e)
  | _, _, .dcp h h2 l q, e => .dcp h h2 l (Reps.less q e)
theorem Reps.less {r : List Addr} : ∀ {ds : List D} {vs : List V}, Reps K T F (m ++ r) ds vs → Pk.mIns m.length ds → Reps K T F m ds vs
  | _, _, .nil, _ => .nil
  | _, _, .cons h q, e => .cons (Rep.less h e.1) (Reps.less q e.2)
theorem RepK.less {r : List Addr} : ∀ {ds : List (DK × D)} {vs : List (Key × V)}, RepK K T F (m ++ r) ds vs → Pk.mInk m.length ds → RepK K T F m ds vs
  | _, _, .nil, _ => .nil
  | _, _, .cons h q, e => .cons (Rep.less h e.1) (RepK.less q e.2)
end
/-- what lies behind the first things of the store is forgotten -/
theorem Sim.trunc {Fb : Hp} {mb : List Addr} {Hb : Hp} {σ' : L2.St} (S : Sim K T F0 m0 H0 F m μ ρ σ H) (x : Ext F m H F' m' H') (B : Sim K T Fb mb Hb F' m' μ' ρ σ' H') (hk : noMOs (μ'.take μ.length) = true) :
    Ext F m H F' m H' ∧ Sim K T F0 m0 H0 F' m (μ'.take μ.length) ρ σ' H' := by
  obtain ⟨r, er⟩ := x.gr.mem
  have g : Gr F m F' m := ⟨x.gr.fr, [], by simp⟩
  have xx : Ext F m H F' m H' := ⟨g, fun b o e w n h => by
    obtain ⟨e1, n1, h1⟩ := x.frm b o e w n h
    exact ⟨e1, n1, h⟩, x.up⟩
  refine ⟨xx, S.ext.trans xx, B.same, ?_, S.nd, fun a h => (x.up a).2 (S.al a h), fun k a o e1 e2 n => ?_, B.sl, fun i d e => ?_⟩
  · have h1 := B.len
    rw [er, List.length_append] at h1
    rw [List.length_take, S.len]
    have h2 := S.len
    omega
  · have hk1 := (List.getElem?_eq_some_iff.mp e1).1
    have e3 : m'[k]? = some a := by
      rw [er, List.getElem?_append_left hk1]
      exact e1
    have hl : k < μ.length := by rw [← S.len]; exact hk1
    have e4 : μ'[k]? = some o := by
      rw [List.getElem?_take_of_lt hl] at e2
      exact e2
    obtain ⟨h1, h2⟩ := B.sto k a o e3 e4 n
    exact ⟨h1, h2.noM (noMOs_at hk e2)⟩
  · obtain ⟨v, h1, h2⟩ := B.slot i d e
    obtain ⟨v0, _, h3⟩ := S.slot i d e
    rw [er] at h2
    exact ⟨v, h1, h2.less h3.mIn⟩
end
def gcQ (n : Nat) (Q : QD) : QD := fun d μ' => match noM d with
  | true => match noMOs (μ'.take n) with
    | true => Q d (μ'.take n)
    | false => False
  | false => False
def gcE (n : Nat) (E : QX) : QX := fun x μ' => match noMs x.fs with
  | true => match noMOs (μ'.take n) with
    | true => E x (μ'.take n)
    | false => False
  | false => False
/-- what is new in the store behind w is forgotten -/
def wGc (w : WE) : WE := fun ρ μ Q E => w ρ μ (gcQ μ.length Q) (gcE μ.length E)
theorem de_gc {X : Cx} {z : Zx} {e : Expr} {w : WE} (h : ∀ F0 m0 H0, DE X ⟨z.T, F0, m0, H0⟩ e w) : DE X z e (wGc w) := fun Wd tk => by
  refine ⟨fun pins s σ H Q I ⟨F, m, μ, ρ, Qd, S, h', k⟩ => ?_⟩
  have S1 : Sim X.K z.T F m H F m μ ρ σ H := ⟨Ext.refl _ _ _, S.same, S.len, S.nd, S.al, S.sto, S.sl, S.slot⟩
  have back : ∀ F' m' μ' H', Ext F m H F' m' H' → Sim X.K z.T F m H F' m' μ' ρ σ H' → Sim X.K z.T z.F0 z.m0 z.H0 F' m' μ' ρ σ H' := fun F' m' μ' H' x B =>
    ⟨S.ext.trans x, B.same, B.len, B.nd, B.al, B.sto, B.sl, B.slot⟩
  refine (h F m H (fun x ρ' μ' => ρ' = ρ ∧ gcE μ.length (fun x μ' => Wd x ρ μ') x μ') (tk.imp fun cls d σ' H' hx => ?_)).run pins s σ H Q I ⟨F, m, μ, ρ, gcQ μ.length Qd, S1, ?_, fun F' m' μ' d v H' x B r q => ?_⟩
  · obtain ⟨F', m', μ', ρ', x, S2, xr, e, q⟩ := hx
    subst e
    unfold gcE at q
    split at q
    · rename_i hn
      split at q
      · rename_i hm
        obtain ⟨xx, S3⟩ := S.trunc S2.ext S2 hm
        refine ⟨F', m, _, ρ', x, S3, ⟨xr.1, ?_⟩, q⟩
        rcases xr.2 with ⟨a, b⟩ | ⟨dd, vs, e1, e2, e3, e4, e5⟩
        · exact .inl ⟨a, b⟩
        · exact .inr ⟨dd, vs, e1, e2, e3, Reps.noM e4 hn, e5⟩
      · exact q.elim
    · exact q.elim
  · have e : (gcE μ.length fun x μ' => Wd x ρ μ') = (fun x μ' => (ρ = ρ ∧ gcE μ.length (fun x μ' => Wd x ρ μ') x μ')) := by
      funext x μ'
      exact propext ⟨fun h => ⟨rfl, h⟩, fun h => h.2⟩
    rw [← e]
    exact h'
  · unfold gcQ at q
    split at q
    · rename_i hn
      split at q
      · rename_i hm
        obtain ⟨xx, S2⟩ := S.trunc x B hm
        exact k F' m _ d v H' xx S2 (r.noM hn) q
      · exact q.elim
    · exact q.elim
end Pk

/-! The data layer, part V: defaults, lists backwards, empty dicts, dicts walked. -/
namespace Pk
open PySem PySem.Spec PyProof.Rows L2

/-! ### a def called with its defaults -/
structure OkFd (P : Program) (w0 : World) (K : PySem.W.Frag) (mg : Str → Option Value) (base : Heap) (T : Tab) (k : Nat) (a : Addr) (ps : List Str) (dds : List D) (c : Con) : Prop where
  ex : ∃ fd ds dvs, FnC P w0 K mg base T k a fd ps c ∧ Binds K fd ps ds ∧ Vals dvs ds ∧ (∀ F m, Reps K T F m dds dvs) ∧ PySem.W.keepIn K (.ref a) = true
/-- the i-th default is an empty tuple -/
def emB (K : PySem.W.Frag) (a : Addr) : Bool := match K.lookup a with
  | some o => match o.data with
    | .seq its _ => decide (o.cls = .type "tuple") && Nat.beq its.size 0
    | _ => false
  | none => false
theorem emB_ok {K : PySem.W.Frag} {a : Addr} {T : Tab} (h : emB K a = true) (F : Hp) (m : List Addr) : Rep K T F m (.tup []) (.ref a) := by
  unfold emB at h
  split at h
  · rename_i o e
    split at h
    · rename_i its n e2
      obtain ⟨h1, h2⟩ := Bool.and_eq_true_iff.mp h
      have h3 := Nat.eq_of_beq_eq_true h2
      have h4 : its = #[] := Array.eq_empty_of_size_eq_zero h3
      subst h4
      exact .tup (.inr ⟨o, #[], n, e, of_decide_eq_true h1, e2, Nat.zero_le _, .nil⟩) .nil
    · cases h
  · cases h
def fEm (q : Str × Option Str) (i : Nat) : PySem.W.Frag → Bool := fun K => emB K (He.dflAt q i K)
section
variable {X : Cx} {z : Zx} {k cn n : Nat} {a g p0 : Addr} {ps : List Str} {c : Con} {x m : Str} {p pos apos : Pos} {e o : Expr} {es : List Expr} {w wo : WE} {wa : WA} {mc : Value} {dds : List D}
theorem c_fnD (ok : OkFd X.prog X.w X.K X.mg X.base z.T k a ps dds c) (hr : Room k X.A) (hm : X.mg x = some (.ref a)) (ha : DA X z (e :: es) wa) (hg : Gl X x := by rfl)
    (hdb : (x == ("__debug__" : Str)) = false := by decide) (he : starEach (e :: es) X.env = (false, eval e X.env) :: starEach es X.env := by rfl) (hpl : (backTo pos (starEach es X.env)).any (·.1) = false := by rfl) (hn : ps.length = n := by rfl) : DE X z (.Call (.Name x p) (e :: es) [] pos) (wCallN c n dds wa) := by
  subst hn
  obtain ⟨fd, ds, dvs, F, b, hd, hdd, kp⟩ := ok.ex
  exact de_call F hr hg hm kp b hd hdd ha hdb he hpl
theorem c_mkD (ok : OkFd X.prog X.w X.K X.mg X.base z.T k a ps dds c) (M : Mk X.K (z.T.ca cn) a) (hr : Room (k + 1) X.A) (hm : X.mg x = some (.ref (z.T.ca cn))) (ha : DA X z (e :: es) wa) (hg : Gl X x := by rfl)
    (hdb : (x == ("__debug__" : Str)) = false := by decide) (he : starEach (e :: es) X.env = (false, eval e X.env) :: starEach es X.env := by rfl) (hpl : (backTo pos (starEach es X.env)).any (·.1) = false := by rfl) (hn : ps.length = n := by rfl) : DE X z (.Call (.Name x p) (e :: es) [] pos) (wMake cn c n dds wa) := by
  subst hn
  obtain ⟨fd, ds, dvs, F, b, hd, hdd, kp⟩ := ok.ex
  exact de_make M F hr hg hm b hd hdd ha hdb he hpl

/-! ### xs[::-1] -/
def wRev (w : WE) : WE := fun ρ μ Q E => w ρ μ (fun x μ1 => match look μ1 x with
  | .lst xs => Q (.lst xs.reverse) μ1
  | _ => False) E
theorem Reps.rev {K : PySem.W.Frag} {T : Tab} {F : Hp} {m : List Addr} : ∀ {ds : List D} {vs : List V}, Reps K T F m ds vs → Reps K T F m ds.reverse vs.reverse
  | _, _, .nil => .nil
  | _, _, .cons h r => by
    rw [List.reverse_cons, List.reverse_cons]
    exact (Reps.rev r).append (.cons h .nil)
theorem de_rev {kk : Nat} {p1 p2 p3 : Pos} (h : DE X z e w) : DE X z (.Subscript e (.Slice none none (some (.UnaryOp .USub (.Constant (.int 1) kk p1) p2)) p3) pos) (wRev w) := fun Wd tk =>
  peI (pe_revL (h Wd tk)) fun σ H Q ⟨F, m, μ, ρ, Qd, S, h, k⟩ => ⟨F, m, μ, ρ, _, S, h, fun F1 m1 μ1 d1 v1 H1 x1 S1 r1 q1 => by
    have vx := S1.view r1
    split at q1
    · rename_i xs hx
      rw [hx] at vx
      obtain ⟨a, vs, rfl, h1, r⟩ := vx.list S1.same
      exact ⟨a, vs, rfl, SqL.of h1, fun p hp => Fin.lst (fun F4 m4 μ4 d4 v4 H4 x4 => k F4 m4 μ4 d4 v4 H4 (x1.trans x4)) S1 hp r.rev q1⟩
    · exact q1.elim⟩

/-! ### an empty dict -/
def wDct0 (own : Bool) : WE := fun _ μ Q _ => giveD own [] μ Q
theorem de_dct0 (own : Bool) : DE X z (.Dict [] [] pos) (wDct0 own) := fun Wd tk => by
  refine ⟨fun pins s σ H Q I ⟨F, m, μ, ρ, Qd, S, h, k⟩ => ?_⟩
  refine thn ((pe_dnewK (X := X) (pos := pos)).run pins s σ H (fun v H' => ∃ p G, v = .ref p ∧ H' = upd G p (.dK []) ∧ givD own p (.dK []) G Q) I fun p hp => ⟨p, H, rfl, rfl, give_dct k S hp .nil h⟩) fun w s1 ⟨x, H1, I1, rx, p, G, e, e2, q1⟩ => ?_
  subst e e2
  cases own with
  | true => exact ⟨_, _, I1, rx, q1⟩
  | false =>
    obtain ⟨o, I2⟩ := I1.lock upd_same trivial
    rw [upd_upd] at I2
    exact ⟨_, _, I2, rx, q1 o⟩

/-! ### for k in a dict that changes no more -/
def iKy (w : WE) : WI := fun ρ μ Q E => w ρ μ (fun d μ1 => match d with
  | .dct kvs => Q (keysD kvs) μ1
  | _ => False) E
theorem keys_at : ∀ (kvs : List (DK × D)) (i : Nat), (keysD kvs)[i]? = (kvs[i]?).map fun p => keyD p.1
  | [], i => by simp [keysD]
  | (k, d) :: r, 0 => by simp [keysD]
  | (k, d) :: r, i + 1 => by
    have := keys_at r i
    simpa [keysD] using this
theorem keys_len (kvs : List (DK × D)) : (keysD kvs).length = kvs.length := by
  induction kvs with
  | nil => rfl
  | cons p r ih =>
    obtain ⟨k, d⟩ := p
    simp only [keysD, List.length_cons, ih]
theorem RepK.keyAt {K : PySem.W.Frag} {T : Tab} {F : Hp} {m : List Addr} : ∀ {ds : List (DK × D)} {vs : List (Key × V)} {i : Nat} {p : DK × D}, RepK K T F m ds vs → ds[i]? = some p → ∃ v, vs[i]? = some (p.1.key, v)
  | _, _, i, p, .nil, e => by simp at e
  | _, _, 0, p, .cons (v := v) h _, e => by
    simp at e
    subst e
    exact ⟨v, rfl⟩
  | _, _, i + 1, p, .cons _ r, e => by
    obtain ⟨v, h⟩ := RepK.keyAt (i := i) r (by simpa using e)
    exact ⟨v, by simpa using h⟩
theorem jok_keys {K : PySem.W.Frag} {T : Tab} {F : Hp} {m : List Addr} {d : Addr} {o : Obj} {kvs : List (DK × D)} {vs : List (Key × V)} (h : F d = some (.frz o (.dK vs))) (r : RepK K T F m kvs vs) : JOk K T F m (Itk d o vs) (keysD kvs) where
  go := fun i H x s e => by
    refine ⟨s _ _ h, ?_⟩
    rw [← r.length, ← keys_len]
    exact (List.getElem?_eq_some_iff.mp e).1
  stop := fun i H s e => by
    refine ⟨s _ _ h, ?_⟩
    rw [← r.length, ← keys_len]
    exact e
  yld := fun i H x H' y s e ⟨e1, k, v, e2, e3⟩ => by
    refine .inl ⟨e1, ?_⟩
    rw [keys_at] at e
    cases q : kvs[i]? with
    | none => rw [q] at e; cases e
    | some p =>
      rw [q] at e
      injection e with e
      obtain ⟨v', h2⟩ := r.keyAt q
      rw [h2] at e2
      injection e2 with e2
      injection e2 with e2 _
      subst e e2 e3
      obtain ⟨dk, dd⟩ := p
      cases dk <;> constructor
theorem di_keys {tg : Expr} (h : DE X z e w) : DI X z tg e (iKy w) := fun Wd tk =>
  piI (pi_keys (h Wd tk)) fun σ H R ⟨F, m, μ, ρ, Qd, S, h, k⟩ => ⟨F, m, μ, ρ, _, S, h, fun F1 m1 μ1 d1 v1 H1 x1 S1 r1 q1 => by
    split at q1
    · cases r1 with
      | dct hf rk => exact ⟨_, _, rfl, .inl ⟨_, S1.same _ _ hf, k F1 m1 μ1 _ _ H1 x1 S1 (jok_keys hf rk) q1⟩⟩
    · exact q1.elim⟩
end
end Pk

/-! The data layer, part X: the head's facts in parts, each by a run of its own. -/
namespace Pk
open PySem PySem.Spec PySem.W PySem.Calls PyProof.Rows L2
abbrev PartP := List (PySem.W.Frag → Bool) × List DefP
def addrsP (_ : Addr → Option Obj) (n : Nat) : List Addr := List.range n
def obsPart (n : Nat) (p : PartP) (g : Addr → Option Obj) : Bool × List He.FnW := obsP p.1 p.2 (He.frG g (addrsP g n))
def valPart (p : PartP) : Bool × List He.FnW := (true, p.2.map DefP.val)
def SaysL (ps : List PartP) (K : PySem.W.Frag) : Prop := ∀ p ∈ ps, SaysP p.1 p.2 K
theorem obsL_says {K : PySem.W.Frag} : ∀ {ps : List PartP}, ps.map (fun p => obsP p.1 p.2 K) = ps.map valPart → SaysL ps K
  | [], _ => fun p h => by simp at h
  | p :: ps, e => by
    rw [List.map_cons, List.map_cons] at e
    injection e with e1 e2
    intro q hq
    rcases List.mem_cons.mp hq with h | h
    · subst h
      exact e1
    · exact obsL_says e2 q h
def hookL (n : Nat) (ps : List PartP) : PySem.W.Hook where
  α := List (Bool × List He.FnW)
  obs := fun s => ps.map fun p => obsPart n p s.heap.get?
  val := fun _ => ps.map valPart
  says := fun _ h => ∃ K : PySem.W.Frag, K.In h ∧ SaysL ps K
  of := fun _ _ e => ⟨_, He.frG_in, obsL_says e⟩
  keeps := fun _ _ _ ⟨K, hK, c⟩ k => ⟨K, PySem.W.Frag.In.keeps hK k, c⟩
def obL (n : Nat) (ps : List PartP) (s : PySem.W.SharedT) : List (Bool × List He.FnW) := ps.map fun p => obsPart n p (HandSHeadRun.getT s)
theorem obL_eq (n : Nat) (ps : List PartP) (s : PySem.W.SharedT) : obL n ps s = (hookL n ps).obs s.abs := by
  have e : HandSHeadRun.getT s = s.abs.heap.get? := funext (HandSHeadRun.getT_eq s)
  show (ps.map fun p => obsPart n p (HandSHeadRun.getT s)) = _
  rw [e]
  rfl
/-- one part's run -/
def RunP (r : PySem.W.OpenRow) (q : Program) (n : Nat) (p : PartP) (M : Nat) (loose : List PySem.Str) (w : World) : Prop :=
  ∀ os : OsState, (HandSHeadRun.endF (HandSHeadRun.stepQ (HandSHeadRun.denQ HandSHeadRun.tabQ) r.prog w) M r.prog w os).map (fun s => (HandSHeadRun.looksF r.prog (boot_heap w.params) s.abs, HandSHeadRun.seenQ q loose (importedModules r.prog.main.body) (fun s => PySem.W.xlAt q [] s && PySem.W.recOk r.toRowW.records s) s.abs, obsPart n p (HandSHeadRun.getT s))) = some (true, PySem.W.openGood q loose, valPart p)
theorem runL_one {r : PySem.W.OpenRow} {q : Program} {n : Nat} {p : PartP} {M : Nat} {loose : List PySem.Str} {w : World} (h : RunP r q n p M loose w) : HandSHeadRun.RunEq r q (hookL n [p]) (obL n [p]) M loose w := by
  intro os
  obtain ⟨s, e1, e2⟩ := Option.map_eq_some_iff.mp (h os)
  rw [e1]
  injection e2 with h1 h2
  injection h2 with h2 h3
  show some (_, _, [obsPart n p _]) = some (_, _, [valPart p])
  rw [h1, h2, h3]
theorem runL_cons {r : PySem.W.OpenRow} {q : Program} {n : Nat} {p : PartP} {ps : List PartP} {M : Nat} {loose : List PySem.Str} {w : World} (h : RunP r q n p M loose w) (hs : HandSHeadRun.RunEq r q (hookL n ps) (obL n ps) M loose w) : HandSHeadRun.RunEq r q (hookL n (p :: ps)) (obL n (p :: ps)) M loose w := by
  intro os
  obtain ⟨s, e1, e2⟩ := Option.map_eq_some_iff.mp (h os)
  have e3 := hs os
  rw [e1] at e3 ⊢
  injection e2 with h1 h2
  injection h2 with h2 h3
  have e4 := Option.some.inj e3
  injection e4 with h4 h5
  injection h5 with h5 h6
  show some (_, _, obsPart n p _ :: obL n ps s) = some (_, _, valPart p :: ps.map valPart)
  rw [h1, h2, h3, h6]
  rfl
end Pk

/-! The data layer, part W: tuples without a dict of their own, dict() of such. -/
namespace Pk
open PySem PySem.Spec PyProof.Rows L2
section
variable {X : Cx} {z : Zx} {e : Expr} {wa : WA} {p pos : Pos}
def rPtup (K : PySem.W.Frag) : List V → Hp → VK → Prop := fun xs H Q => ∃ p ys, xs = [V.ref p] ∧ SqL K H p ys ∧ ∀ l o, H l = none → o.dict = none → Q (.ref l) (upd H l (.frz o (.tup ys)))
theorem c_ptup : CallR X (.type "tuple") (rPtup X.K) := by
  intro pins s σ H xs us Q I r ⟨p, ys, e1, hq, q⟩
  subst e1
  obtain ⟨u, e2, rx⟩ := vals1 r
  subst e2
  cases rx
  obtain ⟨its, rv, pl, hz⟩ := I.list hq
  have hlen := rv.length
  refine call_tuple_list pl.isList (fun h' kp => ?_) (by simp only [List.size_toArray] <;> omega)
  have I1 : Inv X pins σ H { s with heap := h' } := I.kept (t' := s.toks) kp
  have ht := IsTup.new h' its.toArray
  have hg : (h'.push { cls := .type "tuple", data := .seq its.toArray }).get? h'.objs.size = some { cls := .type "tuple", data := .seq its.toArray } := Heap.get?_push_size _ rfl
  have I2 := I1.laid (t' := s.toks) (o := .frz { cls := .type "tuple", data := .seq its.toArray } (.tup ys)) (fun b o e => Heap.get?_push_of_some { cls := .type "tuple", data := .seq its.toArray } e) (Nat.le_refl _) ⟨hg, hz, its, rv, ht⟩
  exact ⟨.ref h'.objs.size, _, I2, rfl, q _ _ (I1.hok.fresh (Nat.le_refl _)) rfl⟩
def ptpD : D → Option D
  | .lst xs => some (.ptp xs)
  | _ => none
theorem ok_ptup : BuOk X z (rPtup X.K) (b1 ptpD) := bu1 fun F m μ ρ σ H x v d Qd Q S vx e q k => by
  unfold ptpD at e
  split at e
  · injection e with e
    subst e
    obtain ⟨a, vs, rfl, h1, r1⟩ := vx.list S.same
    refine ⟨a, vs, rfl, SqL.of h1, fun l o hl ho => ?_⟩
    obtain ⟨x1, S1⟩ := S.new hl (.frz o (.tup vs))
    exact k _ _ _ _ _ _ x1 S1 (.ptp upd_same ho (r1.mono x1.gr)) q
  · cases e
theorem k_ptuple (hm : X.mg "tuple" = none) (ha : DA X z [e] wa) (hg : Gl X "tuple" := by rfl) (he : starEach [e] X.env = (false, eval e X.env) :: starEach [] X.env := by rfl) (hpl : (backTo pos (starEach [] X.env)).any (·.1) = false := by rfl) :
    DE X z (.Call (.Name "tuple" p) [e] [] pos) (wBu (b1 ptpD) wa) := de_callTy c_ptup ok_ptup hg hm ha (he := he) (hpl := hpl)
/-! ### dict(t), t such a tuple of pairs -/
def rDictT (own : Bool) (K : PySem.W.Frag) : List V → Hp → VK → Prop := fun xs H Q => ∃ (a : Addr) (o : Obj) (ps : List Addr) (kvs : List (Key × V)), xs = [V.ref a] ∧ H a = some (.frz o (.tup (ps.map V.ref))) ∧ o.dict = none ∧ Paired (fun p kv => SqT K H p [kV kv.1, kv.2]) ps kvs ∧
    ∀ p, H p = none → givD own p (.dK (mergeK [] kvs)) H Q
theorem pair_vals {h : Heap} : ∀ {prs : List (Key × Value)} {ps : List Addr}, prs.length = ps.length → (∀ (j : Nat) (q : Key × Value), prs[j]? = some q → ∃ (b : Addr) (u : Value), ps[j]? = some b ∧ IsTup h b #[u, q.2] ∧ keyIs q.1 u = true) →
    ∃ us : List (Value × Value), us.length = prs.length ∧ ∀ (j : Nat) (k v : Value), us[j]? = some (k, v) → ∃ (b : Addr) (q : Key × Value), ps[j]? = some b ∧ prs[j]? = some q ∧ q.2 = v ∧ IsTup h b #[k, v] ∧ keyIs q.1 k = true
  | [], ps, _, _ => ⟨[], rfl, fun j k v e => by simp at e⟩
  | x :: r, [], hl, _ => by simp at hl
  | x :: r, p :: ps, hl, hp => by
    obtain ⟨b, u, h1, h2, h3⟩ := hp 0 x rfl
    obtain ⟨us, k1, k2⟩ := pair_vals (prs := r) (ps := ps) (by simpa using hl) fun j q e => by
      obtain ⟨b, u, g1, g2, g3⟩ := hp (j + 1) q (by simpa using e)
      exact ⟨b, u, by simpa using g1, g2, g3⟩
    refine ⟨(u, x.2) :: us, by simp [k1], fun j k v e => ?_⟩
    cases j with
    | zero =>
      injection e with e
      injection e with e1 e2
      subst e1 e2
      exact ⟨b, x, h1, rfl, rfl, h2, h3⟩
    | succ j =>
      obtain ⟨b', q, g1, g2, g3, g4, g5⟩ := k2 j k v (by simpa using e)
      exact ⟨b', q, by simpa using g1, by simpa using g2, g3, g4, g5⟩
theorem dictT_K (hcalm : X.calm = true) : CallR X (.type "dict") (fun xs H Q => ∃ (a : Addr) (o : Obj) (ps : List Addr) (kvs : List (Key × V)), xs = [V.ref a] ∧ H a = some (.frz o (.tup (ps.map V.ref))) ∧ o.dict = none ∧ Paired (fun p kv => SqT X.K H p [kV kv.1, kv.2]) ps kvs ∧
    ∀ p, H p = none → Q (.ref p) (upd H p (.dK (mergeK [] kvs)))) := by
  intro pins s σ H xs us Q I r ⟨a, o, ps, kvs, e1, hq, hd, hp, q⟩
  subst e1
  obtain ⟨u, e2, rx⟩ := vals1 r
  subst e2
  cases rx
  obtain ⟨ho, hz, its, rv, o2, ho2, hc, n, hdat⟩ := I.hok a _ hq
  rw [ho] at ho2
  injection ho2 with ho2
  subst ho2
  have ei := refs_at rv
  subst ei
  rw [List.length_map] at hz
  obtain ⟨prs, rel, hl, hpr⟩ := pairs_of I hp
  have hlk : kvs.length = prs.length := rel.length
  obtain ⟨us, hu1, hu2⟩ := pair_vals hl hpr
  have hit : ∀ b items, IsTup s.heap b items → s.heap.IsTuple b items := fun b items ⟨o, h1, h2, n, h3⟩ => ⟨o, h1, h2, n, h3⟩
  have hok : PlainSeq "tuple" s.heap a (ps.map Value.ref).toArray ∧ PairItems s.heap (ps.map Value.ref).toArray (fun j => ps.getD j 0) us := by
    refine ⟨⟨o, n, ho, hc, hd, hdat⟩, by simp [hu1, hl], fun j k v e => ?_⟩
    obtain ⟨b, q, g1, g2, g3, g4, g5⟩ := hu2 j k v e
    have gd : ps.getD j 0 = b := by rw [List.getD_eq_getElem?_getD, g1] <;> rfl
    simp only [gd]
    exact ⟨by simp [g1], .inl (hit _ _ g4)⟩
  refine PySem.call_dict_pairs (knd := mixKind X.prog X.w) (kvs := prs) (PairArg.tuple a (ps.map Value.ref).toArray (fun j => ps.getD j 0) us) (I.ok.hd hcalm) hok ⟨hu1.symm, fun i key v e => ?_⟩ (by omega) fun h' tk hd' kk => ?_
  · obtain ⟨b, q, g1, g2, g3, g4, g5⟩ := hu2 i key v e
    subst g3
    exact ⟨q.1, g2, g5⟩
  · have hm : (s.heap.objs.size == sysModules) = false := beq_eq_false_iff_ne.mpr (Nat.ne_of_gt I.big)
    have hlen : (mergeK [] kvs).length ≤ sizeLine := by
      have h1 := length_mergeK kvs []
      simp only [List.length_nil, Nat.zero_add] at h1
      omega
    have k0 : ∀ b ob, s.heap.get? b = some ob → h'.get? b = some ob := fun b ob e => kk b ob (by simp) e
    have new : ObjOk X.prog X.w (upd H s.heap.objs.size (.dK (mergeK [] kvs))) h' s.heap.objs.size (.dK (mergeK [] kvs)) := ⟨hlen, hm, merged [] prs, KV.merge rel .nil, hd'⟩
    exact ⟨.ref s.heap.objs.size, _, I.laid (t' := tk) k0 (Nat.le_refl _) new, rfl, q _ (I.hok.fresh (Nat.le_refl _))⟩
theorem c_dictT (own : Bool) (hc : X.calm = true) : CallR X (.type "dict") (rDictT own X.K) := by
  intro pins s σ H xs us Q I rr ⟨a, o, ps, kvs, e1, e2, e3, e4, q⟩
  exact callR_lock (own := own) (dictT_K hc) pins s σ H xs us Q I rr ⟨a, o, ps, kvs, e1, e2, e3, e4, fun p hn => ⟨p, _, H, rfl, rfl, trivial, q p hn⟩⟩
def bDictT (own : Bool) : BF := fun ds μ Q => match ds with
  | [x] => match x with
    | .ptp xs => match pairsD xs with
      | some ps => giveD own (mergeD [] ps) μ Q
      | none => False
    | _ => False
  | _ => False
theorem ok_dictT {own : Bool} : BuOk X z (rDictT own X.K) (bDictT own) := by
  intro F m μ ρ σ H ds vs Qd Q S rr q k
  unfold bDictT at q
  split at q
  · cases rr with
    | cons r1 r2 =>
      cases r2
      split at q
      · rename_i xs
        cases r1 with
        | ptp hf hn r2 =>
          split at q
          · rename_i ps hp
            obtain ⟨as, kvs, rfl, p1, p2⟩ := pairs_V S.same r2 hp
            exact ⟨_, _, as, kvs, rfl, S.same _ _ hf, hn, p1, fun p hn => give_dct k S hn (mergeK_V .nil p2) q⟩
          · exact q.elim
      · exact q.elim
  · exact q.elim
theorem k_dictT (own : Bool) (hc : X.calm = true) (hm : X.mg "dict" = none) (ha : DA X z [e] wa) (hg : Gl X "dict" := by rfl) (he : starEach [e] X.env = (false, eval e X.env) :: starEach [] X.env := by rfl) (hpl : (backTo pos (starEach [] X.env)).any (·.1) = false := by rfl) :
    DE X z (.Call (.Name "dict" p) [e] [] pos) (wBu (bDictT own) wa) := de_callTy (c_dictT own hc) ok_dictT hg hm ha (he := he) (hpl := hpl)
end
end Pk

/-! Reading the promises: what a def gives back, comprehensions, loops. -/
namespace Pk
open PySem PySem.Spec PyProof.Rows L2
abbrev endR (Q : QD) (E : QX) : DEnds := ⟨fun _ μ' => Q .non μ', Q, fun _ _ => False, fun _ _ => False, fun x _ μ' => E x μ'⟩
/-- the def gives back r, and leaves the store -/
def Ret (c : Con) (ds : List D) (r : D) : Prop := ∀ (μ : Sto) (Q : QD) (E : QX), c ds μ Q E = Q r μ
/-- .. or raises x -/
def Rai (c : Con) (ds : List D) (x : Exc) : Prop := ∀ (μ : Sto) (Q : QD) (E : QX), c ds μ Q E = E x μ
theorem ret_loc {N n : Nat} {w : WS} {ds : List D} {r : D} {sl : Slots} (hl : Nat.beq ds.length n = true) (hs : startD N ds = sl) (h1 : noMs ds = true) (h2 : noM r = true)
    (h : ∀ (Q : QD) (E : QX), ∃ μ', w (endR Q E) sl [] = Q r μ') : Ret (loc (conB N n w)) ds r := by
  intro μ Q E
  obtain ⟨μ', e⟩ := h (fun d _ => match noM d with
    | true => Q d μ
    | false => False) (fun x _ => match noMs x.fs with
    | true => E x μ
    | false => False)
  unfold loc conB
  simp only [h1, hl, hs]
  refine e.trans ?_
  simp only [h2]
theorem rai_loc {N n : Nat} {w : WS} {ds : List D} {r : Exc} {sl : Slots} (hl : Nat.beq ds.length n = true) (hs : startD N ds = sl) (h1 : noMs ds = true) (h2 : noMs r.fs = true)
    (h : ∀ (Q : QD) (E : QX), ∃ μ', w (endR Q E) sl [] = E r μ') : Rai (loc (conB N n w)) ds r := by
  intro μ Q E
  obtain ⟨μ', e⟩ := h (fun d _ => match noM d with
    | true => Q d μ
    | false => False) (fun x _ => match noMs x.fs with
    | true => E x μ
    | false => False)
  unfold loc conB
  simp only [h1, hl, hs]
  refine e.trans ?_
  simp only [h2]
/-- a def that is handed things of the store -/
theorem use_loc {N n : Nat} {w : WS} {ds : List D} {sl : Slots} (hl : Nat.beq ds.length n = true) (hs : startD N ds = sl) (h1 : noMs ds = false) (μ : Sto) (Q : QD) (E : QX) : loc (conB N n w) ds μ Q E = w (endR Q E) sl μ := by
  unfold loc conB
  simp only [h1, hl, hs]
theorem wp0 :
  (∀  De ρ μ, sNil  De ρ μ =  De.nx ρ μ) ∧
  (∀ (a b : WS) De ρ μ, sSeq a b De ρ μ =  a { De with nx := b De } ρ μ) ∧
  (∀ (w : WE) De ρ μ, sRet w De ρ μ =  w ρ μ De.rt (fun x μ' => De.ex x ρ μ')) ∧
  (∀  De z0_ μ, sRetN  De z0_ μ =  De.rt .non μ) ∧
  (∀ (w : WE) De ρ μ, sExpr w De ρ μ =  w ρ μ (fun _ μ1 => De.nx ρ μ1) (fun x μ' => De.ex x ρ μ')) ∧
  (∀ (t : WT) (a b : WS) De ρ μ, sIf t a b De ρ μ =  t ρ μ (fun c μ1 => match c with
  | true => a De ρ μ1
  | false => b De ρ μ1) (fun x μ' => De.ex x ρ μ')) ∧
  (∀  De ρ μ, sBrk  De ρ μ =  De.bk ρ μ) ∧
  (∀  De ρ μ, sCont  De ρ μ =  De.ct ρ μ) ∧
  (∀ (w : WE) (g : GF) De ρ μ, sAsg w g De ρ μ =  w ρ μ (fun d μ1 => match g d ρ with
  | some ρ1 => De.nx ρ1 μ1
  | none => False) (fun x μ' => De.ex x ρ μ')) ∧
  (∀ (w : WE) (g : WXd → D → Slots → Sto → (Slots → Sto → Prop) → Prop) De ρ μ, sAsg2 w g De ρ μ =  w ρ μ (fun d μ1 => g De.ex d ρ μ1 De.nx) (fun x μ' => De.ex x ρ μ')) ∧
  (∀ (wi : WI) (g : GF) (wb : WS) De ρ μ, sFor wi g wb De ρ μ =  wi ρ μ (fun ds μ1 => forW g wb ds De ρ μ1) (fun x μ' => De.ex x ρ μ')) ∧
  (∀ (c j : Nat) (wo we : WE) De ρ μ, sFldD c j wo we De ρ μ =  we ρ μ (fun y μ1 => wo ρ μ1 (fun x μ2 => match x with
  | .mref k => match μ2[k]? with
    | some (.ins c' fs) => match Nat.beq c' c, setAt fs j y with
      | true, some fs' => De.nx ρ (μ2.set k (.ins c fs'))
      | _, _ => False
    | _ => False
  | _ => False) (fun x μ' => De.ex x ρ μ')) (fun x μ' => De.ex x ρ μ')) ∧
  (∀ (f : Int → Int → Int) (wo wi we : WE) De ρ μ, sAugS f wo wi we De ρ μ =  wo ρ μ (fun x μ1 => wi ρ μ1 (fun i μ2 => match getA (look μ2 x) i with
  | some (.int a) => we ρ μ2 (fun y μ3 => match y with
    | .int b => match x with
      | .mref k => match μ3[k]? with
        | some mo => match setD mo i (.int (f a b)) with
          | some mo' => De.nx ρ (μ3.set k mo')
          | none => False
        | none => False
      | _ => False
    | _ => False) (fun x μ' => De.ex x ρ μ')
  | _ => False) (fun x μ' => De.ex x ρ μ')) (fun x μ' => De.ex x ρ μ')) ∧
  (∀ (i j : Nat) (wa : WA) De ρ μ, sPar2 i j wa De ρ μ =  wa ρ μ (fun ds μ1 => match ds with
  | [a, b] => De.nx ((ρ.set i (some a)).set j (some b)) μ1
  | _ => False) (fun x μ' => De.ex x ρ μ')) ∧
  (∀ (i : Nat) d ρ, gN i d ρ =  some (ρ.set i (some d))) ∧
  (∀ (gs : List GF) d ρ, gT gs d ρ =  match d with
  | .tup ds => gEach gs ds ρ
  | _ => none) ∧
  (∀ (i : Nat) ρ μ Q z0_, wVar i ρ μ Q z0_ =  match ρ[i]? with
  | some (some d) => Q d μ
  | _ => False) ∧
  (∀ (d : D) z0_ μ Q z1_, wC d z0_ μ Q z1_ =  Q d μ) ∧
  (∀ (f : D → D → Option D) (wa wb : WE) ρ μ Q E, w2 f wa wb ρ μ Q E =  wa ρ μ (fun x μ1 => wb ρ μ1 (fun y μ2 => match f (look μ2 x) (look μ2 y) with
  | some d => Q d μ2
  | none => False) E) E) ∧
  (∀ (wa : WE) ρ μ Q E, wNot wa ρ μ Q E =  wa ρ μ (fun x μ1 => match truD (look μ1 x) with
  | some b => Q (.bl (!b)) μ1
  | none => False) E) ∧
  (∀ (wa wb : WE) ρ μ Q E, wAnd wa wb ρ μ Q E =  wa ρ μ (fun x μ1 => match truD (look μ1 x) with
  | some true => wb ρ μ1 Q E
  | some false => Q x μ1
  | none => False) E) ∧
  (∀ (t : WT) (wa wb : WE) ρ μ Q E, wIf t wa wb ρ μ Q E =  t ρ μ (fun b μ1 => match b with
  | true => wa ρ μ1 Q E
  | false => wb ρ μ1 Q E) E) ∧
  (∀ (f g : D → D → Option D) (wa wb wc : WE) ρ μ Q E, wCh f g wa wb wc ρ μ Q E =  wa ρ μ (fun x μ1 => wb ρ μ1 (fun y μ2 => match f (look μ2 x) (look μ2 y) with
  | some (.bl true) => wc ρ μ2 (fun u μ3 => match g (look μ3 y) (look μ3 u) with
    | some d => Q d μ3
    | none => False) E
  | some (.bl false) => Q (.bl false) μ2
  | _ => False) E) E) ∧
  (∀ (w : WE) ρ μ Q E, wNeg w ρ μ Q E =  w ρ μ (fun x μ1 => match x with
  | .int i => Q (.int (-i)) μ1
  | _ => False) E) ∧
  (∀ (w : WA) ρ μ Q E, wTup w ρ μ Q E =  w ρ μ (fun xs μ1 => match lineB xs.length with
  | true => Q (.tup xs) μ1
  | false => False) E) ∧
  (∀ (w : WA) ρ μ Q E, wLst w ρ μ Q E =  w ρ μ (fun xs μ1 => match lineB xs.length with
  | true => Q (.lst xs) μ1
  | false => False) E) ∧
  (∀ (w : WA) ρ μ Q E, wLstO w ρ μ Q E =  w ρ μ (fun xs μ1 => match lineB xs.length with
  | true => giveL true xs μ1 Q
  | false => False) E) ∧
  (∀ (wa wb : WE) ρ μ Q E, wMulO wa wb ρ μ Q E =  wa ρ μ (fun x μ1 => wb ρ μ1 (fun y μ2 => match look μ2 x, y with
  | .lst xs, .int i => match mulB i && Nat.ble xs.length 100 with
    | true => giveL true (repL i.toNat xs) μ2 Q
    | false => False
  | _, _ => False) E) E) ∧
  (∀ (w : BF) (wa : WA) ρ μ Q E, wBu w wa ρ μ Q E =  wa ρ μ (fun ds μ1 => w ds μ1 Q) E) ∧
  (∀ (w : WE) (wl wh : WO) ρ μ Q E, wSl w wl wh ρ μ Q E =  w ρ μ (fun x μ1 => wl ρ μ1 (fun lo μ2 => wh ρ μ2 (fun hi μ3 => match slD (look μ3 x) lo hi with
  | some d => Q d μ3
  | none => False) E) E) E) ∧
  (∀  z0_ μ Q z1_, oNo  z0_ μ Q z1_ =  Q none μ) ∧
  (∀ (w : WE) ρ μ Q E, oYes w ρ μ Q E =  w ρ μ (fun x μ1 => match x with
  | .int i => Q (some i) μ1
  | _ => False) E) ∧
  (∀  z0_ μ Q z1_, aNil  z0_ μ Q z1_ =  Q [] μ) ∧
  (∀ (w : WE) (r : WA) ρ μ Q E, aCons w r ρ μ Q E =  w ρ μ (fun x μ1 => r ρ μ1 (fun xs μ2 => Q (x :: xs) μ2) E) E) ∧
  (∀ (w : WE) (r : WA) ρ μ Q E, aStar w r ρ μ Q E =  w ρ μ (fun x μ1 => match seqOf (look μ1 x) with
  | some xs => r ρ μ1 (fun ys μ2 => Q (xs ++ ys) μ2) E
  | none => False) E) ∧
  (∀ (w : WE) ρ μ Q E, tTru w ρ μ Q E =  w ρ μ (fun x μ1 => match truD (look μ1 x) with
  | some b => Q b μ1
  | none => False) E) ∧
  (∀ (w : WE) ρ μ Q E, tBl w ρ μ Q E =  w ρ μ (fun x μ1 => match x with
  | .bl b => Q b μ1
  | _ => False) E) ∧
  (∀ (t u : WT) ρ μ Q E, tAn t u ρ μ Q E =  t ρ μ (fun b μ1 => match b with
  | true => u ρ μ1 Q E
  | false => Q false μ1) E) ∧
  (∀ (t u : WT) ρ μ Q E, tOr' t u ρ μ Q E =  t ρ μ (fun b μ1 => match b with
  | true => Q true μ1
  | false => u ρ μ1 Q E) E) ∧
  (∀ (t : WT) ρ μ Q E, tNo t ρ μ Q E =  t ρ μ (fun b μ1 => Q (!b) μ1) E) ∧
  (∀  z0_ μ Q z1_, tAll  z0_ μ Q z1_ =  Q true μ) ∧
  (∀ (n : Nat) (w : WE) ρ μ Q E, wFz n w ρ μ Q E =  w ρ μ (fun x μ1 => match deepD n μ1 x with
  | (d, μ2) => Q d μ2) E) ∧
  (∀ (w : WE) ρ μ Q E, iSeq w ρ μ Q E =  w ρ μ (fun d μ1 => match seqD d with
  | some ds => Q ds μ1
  | none => False) E) ∧
  (∀ (w : WE) ρ μ Q E, iEnm w ρ μ Q E =  w ρ μ (fun d μ1 => match d with
  | .lst ds => Q (enumD 0 ds) μ1
  | .tup ds => Q (enumD 0 ds) μ1
  | _ => False) E) ∧
  (∀ (wa wb : WE) ρ μ Q E, iZp wa wb ρ μ Q E =  wa ρ μ (fun d μ1 => wb ρ μ1 (fun e μ2 => match d, e with
  | .lst ds, .lst es => Q (zipD ds es) μ2
  | .tup ds, .tup es => Q (zipD ds es) μ2
  | _, _ => False) E) E) ∧
  (∀ (w : WE) ρ μ Q E, iRg1 w ρ μ Q E =  w ρ μ (fun d μ1 => match d with
  | .int j => match rgOk j with
    | true => Q (rngD 0 j.toNat) μ1
    | false => False
  | _ => False) E) ∧
  (∀ (wa wb : WE) ρ μ Q E, iRg2 wa wb ρ μ Q E =  wa ρ μ (fun d μ1 => wb ρ μ1 (fun e μ2 => match d, e with
  | .int i, .int j => match rgOk i && rgOk j with
    | true => Q (rngD i (j - i).toNat) μ2
    | false => False
  | _, _ => False) E) E) ∧
  (∀ (w : WE) ρ μ Q E, iKy w ρ μ Q E =  w ρ μ (fun d μ1 => match d with
  | .dct kvs => Q (keysD kvs) μ1
  | _ => False) E) ∧
  (∀ (t : D → Bool) (w : MF) (wo : WE) (wa : WA) ρ μ Q E, wMe t w wo wa ρ μ Q E =  wo ρ μ (fun x μ1 => match t (look μ1 x) with
  | true => wa ρ μ1 (fun ds μ2 => w x ds μ2 Q) E
  | false => False) E) ∧
  (∀ (own : Bool) (wi : WI) (g : GF) (wt : WT) (we : WE) (vs : List Nat) ρ μ Q E, wLc own wi g wt we vs ρ μ Q E =  wi ρ μ (fun ds μ1 => match Nat.blt ds.length 16777216 with
  | true => lcW g wt we ds (wipeD ρ vs) μ1 fun ys μ2 => giveL own ys μ2 Q
  | false => False) E) ∧
  (∀ (c : Con) (n : Nat) (dds : List D) (wa : WA) ρ μ Q E, wCallN c n dds wa ρ μ Q E =  wa ρ μ (fun ds μ1 => match Nat.beq (ds ++ dds).length n with
  | true => c (ds ++ dds) μ1 Q E
  | false => False) E) ∧
  (∀ (cn : Nat) (c : Con) (n : Nat) (wo : WE) (wa : WA) ρ μ Q E, wMeth cn c n wo wa ρ μ Q E =  wo ρ μ (fun x μ1 => match look μ1 x with
  | .ins c' _ => match Nat.beq c' cn with
    | true => wa ρ μ1 (fun ds μ2 => match Nat.beq (ds.length + 1) n with
      | true => c (x :: ds) μ2 Q E
      | false => False) E
    | false => False
  | _ => False) E) ∧
  (∀ (cn : Nat) (c : Con) (n : Nat) (dds : List D) (wa : WA) ρ μ Q E, wMake cn c n dds wa ρ μ Q E =  wa ρ μ (fun ds μ1 => mkD cn c n dds ds μ1 Q E) E) ∧
  (∀ (c j : Nat) (w : WE) ρ μ Q E, wFld c j w ρ μ Q E =  w ρ μ (fun x μ1 => match look μ1 x with
  | .ins c' fs => match Nat.beq c' c, fs[j]? with
    | true, some d => Q d μ1
    | _, _ => False
  | _ => False) E) ∧
  (∀ (cn : Nat) (c : Con) (wo : WE) ρ μ Q E, wProp cn c wo ρ μ Q E =  wo ρ μ (fun x μ1 => match look μ1 x with
  | .ins c' _ => match Nat.beq c' cn with
    | true => c [x] μ1 Q nox
    | false => False
  | _ => False) E) ∧
  (∀ (w : WE) ρ μ Q E, wRev w ρ μ Q E =  w ρ μ (fun x μ1 => match look μ1 x with
  | .lst xs => Q (.lst xs.reverse) μ1
  | _ => False) E) ∧
  (∀ (own : Bool) z0_ μ Q z1_, wDct0 own z0_ μ Q z1_ =  giveD own [] μ Q) ∧
  (∀ (i : Nat) d ρ μ Q z0_, g2N i d ρ μ Q z0_ =  Q (ρ.set i (some d)) μ) ∧
  (∀ (wo wi : WE) d ρ μ Q E, g2S wo wi d ρ μ Q E =  wo ρ μ (fun x μ1 => wi ρ μ1 (fun i μ2 => match x with
  | .mref k => match μ2[k]? with
    | some mo => match setD mo i d with
      | some mo' => Q ρ (μ2.set k mo')
      | none => False
    | none => False
  | _ => False) E) E) ∧
  (∀  ds ρ μ Q z0_, g2Nil  ds ρ μ Q z0_ =  match ds with
  | [] => Q ρ μ
  | _ => False) ∧
  (∀ (w : WG) (r : List D → Slots → Sto → (Slots → Sto → Prop) → WXd → Prop) ds ρ μ Q E, g2Cons w r ds ρ μ Q E =  match ds with
  | d :: ds => w d ρ μ (fun ρ1 μ1 => r ds ρ1 μ1 Q E) (fun x μ' => E x ρ μ')
  | [] => False) ∧
  (∀ (n : Nat) (r : List D → Slots → Sto → (Slots → Sto → Prop) → WXd → Prop) (E : WXd) d ρ μ Q, g2T n r E d ρ μ Q = match d with
  | .tup ds => match Nat.beq ds.length n with
    | true => r ds ρ μ Q E
    | false => False
  | _ => False) :=
  ⟨by intros; rfl, by intros; rfl, by intros; rfl, by intros; rfl, by intros; rfl, by intros; rfl, by intros; rfl, by intros; rfl, by intros; rfl, by intros; rfl, by intros; rfl, by intros; rfl, by intros; rfl, by intros; rfl, by intros; rfl, by intros; rfl, by intros; rfl, by intros; rfl, by intros; rfl, by intros; rfl, by intros; rfl, by intros; rfl, by intros; rfl, by intros; rfl, by intros; rfl, by intros; rfl, by intros; rfl, by intros; rfl, by intros; rfl, by intros; rfl, by intros; rfl, by intros; rfl, by intros; rfl, by intros; rfl, by intros; rfl, by intros; rfl, by intros; rfl, by intros; rfl, by intros; rfl, by intros; rfl, by intros; rfl, by intros; rfl, by intros; rfl, by intros; rfl, by intros; rfl, by intros; rfl, by intros; rfl, by intros; rfl, by intros; rfl, by intros; rfl, by intros; rfl, by intros; rfl, by intros; rfl, by intros; rfl, by intros; rfl, by intros; rfl, by intros; rfl, by intros; rfl, by intros; rfl, by intros; rfl, by intros; rfl, by intros; rfl⟩
theorem wp1 :
  (∀ f x μ Q, b1 f [x] μ Q = match f (look μ x) with | some d => Q d μ | none => False) ∧
  (∀ f x y μ Q, b2' f [x, y] μ Q = match f (look μ x) (look μ y) with | some d => Q d μ | none => False) ∧
  (∀ o f x μ Q, b1L o f [x] μ Q = match f (look μ x) with | some ds => giveL o ds μ Q | none => False) ∧
  (∀ o x μ Q, bDict o [x] μ Q = match look μ x with
    | .lst xs => match pairsD xs with
      | some ps => giveD o (mergeD [] ps) μ Q
      | none => False
    | _ => False) ∧
  (∀ o x μ Q, bDictT o [x] μ Q = match x with
    | .ptp xs => match pairsD xs with
      | some ps => giveD o (mergeD [] ps) μ Q
      | none => False
    | _ => False) ∧
  (∀ ds μ Q, giveL false ds μ Q = Q (.lst ds) μ) ∧
  (∀ ds μ Q, giveL true ds μ Q = Q (.mref μ.length) (μ ++ [.lst ds])) ∧
  (∀ ds μ Q, giveD false ds μ Q = Q (.dct ds) μ) ∧
  (∀ ds μ Q, giveD true ds μ Q = Q (.mref μ.length) (μ ++ [.dct ds])) ∧
  (∀ ρ, wipeD ρ [] = ρ) ∧
  (∀ ρ v vs, wipeD ρ (v :: vs) = (wipeD ρ vs).set v none) ∧
  (∀ gs ds ρ, gT gs (.tup ds) ρ = gEach gs ds ρ) ∧
  (∀ ρ, gEach [] [] ρ = some ρ) ∧
  (∀ g gs d ds ρ, gEach (g :: gs) (d :: ds) ρ = match g d ρ with | some ρ1 => gEach gs ds ρ1 | none => none) ∧
  (∀ n μ b, deepD (n + 1) μ (.bl b) = (.bl b, μ)) ∧
  (∀ n μ b, deepD (n + 1) μ (.int b) = (.int b, μ)) ∧
  (∀ n μ b, deepD (n + 1) μ (.str b) = (.str b, μ)) ∧
  (∀ n μ b, deepD (n + 1) μ (.tup b) = (.tup b, μ)) ∧
  (∀ n μ b, deepD (n + 1) μ (.ptp b) = (.ptp b, μ)) ∧
  (∀ n μ b, deepD (n + 1) μ (.lst b) = (.lst b, μ)) ∧
  (∀ n μ b, deepD (n + 1) μ (.dct b) = (.dct b, μ)) ∧
  (∀ n μ b, deepD (n + 1) μ (.scr b) = (.scr b, μ)) ∧
  (∀ n μ c b, deepD (n + 1) μ (.ins c b) = (.ins c b, μ)) ∧
  (∀ n μ, deepD (n + 1) μ .non = (.non, μ)) ∧
  (∀ μ i, look μ (.int i) = .int i) ∧
  (∀ μ i, look μ (.str i) = .str i) ∧
  (∀ μ i, look μ (.bl i) = .bl i) ∧
  (∀ μ, look μ .non = .non) ∧
  (∀ μ i, look μ (.tup i) = .tup i) ∧
  (∀ μ i, look μ (.ptp i) = .tup i) ∧
  (∀ μ i, look μ (.lst i) = .lst i) ∧
  (∀ μ i, look μ (.dct i) = .dct i) ∧
  (∀ μ i, look μ (.scr i) = .scr i) ∧
  (∀ μ c i, look μ (.ins c i) = .ins c i) ∧
  (∀ μ i, look μ (.cls i) = .cls i) ∧
  (∀ μ i, look μ (.ty i) = .ty i) ∧
  (∀ xs i, ixD (.lst xs) (.int i) = atG xs i) ∧
  (∀ xs i, ixD (.tup xs) (.int i) = atG xs i) ∧
  (∀ xs, seqD (.lst xs) = some xs) ∧
  (∀ xs, seqD (.tup xs) = some xs) ∧
  (∀ xs, seqD (.ptp xs) = some xs) ∧
  (∀ xs, lenD (.lst xs) = some (.int xs.length)) ∧
  (∀ xs, lenD (.tup xs) = some (.int xs.length)) ∧
  (∀ xs, tupD (.lst xs) = some (.tup xs)) ∧
  (∀ xs, ptpD (.lst xs) = some (.ptp xs)) ∧
  (∀ b, truD (.bl b) = some b) ∧
  (∀ i j, addD (.int i) (.int j) = some (.int (i + j))) ∧
  (∀ i j, subD (.int i) (.int j) = some (.int (i - j))) ∧
  (∀ i j, leD (.int i) (.int j) = some (.bl (decide (i ≤ j)))) ∧
  (∀ i j, ltD (.int i) (.int j) = some (.bl (decide (i < j)))) ∧
  (∀ i j, geD (.int i) (.int j) = some (.bl (decide (j ≤ i)))) ∧
  (∀ i j, gtD (.int i) (.int j) = some (.bl (decide (j < i)))) ∧
  (∀ i j, eqqD (.int i) (.int j) = some (.bl (decide (i = j)))) ∧
  (∀ i j, neqD (.int i) (.int j) = some (.bl (!decide (i = j)))) ∧
  (∀ (a : D) r, atG (a :: r) 0 = some a) ∧
  (∀ (a b : D) r, atG (a :: b :: r) 1 = some b) ∧
  (∀ (a b c : D) r, atG (a :: b :: c :: r) 2 = some c) ∧
  (∀ (a b c d : D) r, atG (a :: b :: c :: d :: r) 3 = some d) ∧
  (∀ (xs : List D) (n : Nat), atG xs ((n : Nat) : Int) = nthG xs n) := by
  refine ⟨?_, ?_, ?_, ?_, ?_, ?_, ?_, ?_, ?_, ?_, ?_, ?_, ?_, ?_, ?_, ?_, ?_, ?_, ?_, ?_, ?_, ?_, ?_, ?_, ?_, ?_, ?_, ?_, ?_, ?_, ?_, ?_, ?_, ?_, ?_, ?_, ?_, ?_, ?_, ?_, ?_, ?_, ?_, ?_, ?_, ?_, ?_, ?_, ?_, ?_, ?_, ?_, ?_, ?_, ?_, ?_, ?_, ?_, ?_⟩ <;> intros <;> rfl
/-! ### small readings -/
section
variable {μ : Sto} {ρ : Slots} {Q : QD} {E : QX}
theorem lk_int {i : Int} : look μ (.int i) = .int i := rfl
theorem lk_str {s : Tx} : look μ (.str s) = .str s := rfl
theorem lk_bl {s : Bool} : look μ (.bl s) = .bl s := rfl
theorem lk_non : look μ .non = .non := rfl
theorem lk_tup {s : List D} : look μ (.tup s) = .tup s := rfl
theorem lk_ptp {s : List D} : look μ (.ptp s) = .tup s := rfl
theorem lk_lst {s : List D} : look μ (.lst s) = .lst s := rfl
theorem lk_dct {s : List (DK × D)} : look μ (.dct s) = .dct s := rfl
theorem lk_scr {s : List Int} : look μ (.scr s) = .scr s := rfl
theorem lk_ins {c : Nat} {s : List D} : look μ (.ins c s) = .ins c s := rfl
theorem lk_cls {c : Nat} : look μ (.cls c) = .cls c := rfl
theorem lk_ty {c : Ty} : look μ (.ty c) = .ty c := rfl
theorem blt_ok {n : Nat} (h : n < 16777216) : Nat.blt n 16777216 = true := Nat.ble_eq_true_of_le h
theorem lineB_ok {n : Nat} (h : n ≤ 16777216) : lineB n = true := Nat.ble_eq_true_of_le h
theorem ble_ok {n : Nat} (h : n ≤ 16777216) : Nat.ble n 16777216 = true := Nat.ble_eq_true_of_le h
theorem nth_cons0 {α : Type} {x : α} {r : List α} : nthG (x :: r) 0 = some x := rfl
theorem atG_nat {α : Type} {xs : List α} {n : Nat} : atG xs ((n : Nat) : Int) = nthG xs n := rfl
theorem nth_map {α β : Type} (f : α → β) : ∀ (xs : List α) (n : Nat), nthG (xs.map f) n = (nthG xs n).map f
  | [], _ => rfl
  | _ :: _, 0 => rfl
  | _ :: r, n + 1 => nth_map f r n
theorem atG_map {α β : Type} (f : α → β) (xs : List α) (i : Int) : atG (xs.map f) i = (atG xs i).map f := by
  unfold atG
  cases i with
  | ofNat n => exact nth_map f xs n
  | negSucc n =>
    simp only [List.length_map, nth_map]
    cases Nat.ble (n + 1) xs.length <;> rfl
end

theorem lineBs : lineB 0 = true ∧ lineB 1 = true ∧ lineB 2 = true ∧ lineB 3 = true ∧ lineB 4 = true ∧ lineB 5 = true ∧ lineB 6 = true ∧ lineB 7 = true ∧ lineB 8 = true := ⟨rfl, rfl, rfl, rfl, rfl, rfl, rfl, rfl, rfl⟩
/-! ### comprehensions -/
/-- each item is read by itself -/
theorem lc_map {α : Type} {enc : α → D} {g : GF} {wt : WT} {we : WE} {ρ : Slots} {μ : Sto} (p : α → Bool) (f : α → D) : ∀ (xs : List α) (Q : List D → Sto → Prop),
    (∀ a, a ∈ xs → ∃ ρ1, g (enc a) ρ = some ρ1 ∧ (∀ Q E, wt ρ1 μ Q E = Q (p a) μ) ∧ (p a = true → ∀ Q E, we ρ1 μ Q E = Q (f a) μ)) → lcW g wt we (xs.map enc) ρ μ Q = Q ((xs.filter p).map f) μ
  | [], Q, _ => rfl
  | a :: r, Q, h => by
    obtain ⟨ρ1, h1, h2, h3⟩ := h a (List.mem_cons_self ..)
    have ih := fun Q => lc_map p f r Q fun b hb => h b (List.mem_cons_of_mem _ hb)
    simp only [List.map_cons, lcW, h1, h2]
    cases e : p a with
    | true => simp only [h3 e, ih, List.filter_cons, e, if_true, List.map_cons]
    | false => simp only [ih, List.filter_cons, e, Bool.false_eq_true, if_false]
/-- without a test -/
theorem lc_all {α : Type} {enc : α → D} {g : GF} {we : WE} {ρ : Slots} {μ : Sto} (f : α → D) (xs : List α) (Q : List D → Sto → Prop)
    (h : ∀ a, a ∈ xs → ∃ ρ1, g (enc a) ρ = some ρ1 ∧ ∀ Q E, we ρ1 μ Q E = Q (f a) μ) : lcW g tAll we (xs.map enc) ρ μ Q = Q (xs.map f) μ := by
  have := lc_map (enc := enc) (wt := tAll) (we := we) (ρ := ρ) (μ := μ) (fun _ => true) f xs Q fun a ha => by
    obtain ⟨ρ1, h1, h2⟩ := h a ha
    exact ⟨ρ1, h1, fun _ _ => rfl, fun _ => h2⟩
  rw [this]
  congr 2
  simp
/-- by what is left and what is made -/
theorem lc_imp {α : Type} {enc : α → D} {g : GF} {wt : WT} {we : WE} {ρ : Slots} (S : List α → List D → Sto → Prop)
    (h : ∀ a r ds μ, S (a :: r) ds μ → ∃ ρ1, g (enc a) ρ = some ρ1 ∧ ∀ (Q : Bool → Sto → Prop) (E : QX), (∀ b μ1, (b = true → ∀ (Q' : QD) (E' : QX), (∀ y μ2, S r (ds ++ [y]) μ2 → Q' y μ2) → we ρ1 μ1 Q' E') → (b = false → S r ds μ1) → Q b μ1) → wt ρ1 μ Q E) :
    ∀ (xs : List α) (ds : List D) (μ : Sto) (Q : List D → Sto → Prop), S xs ds μ → (∀ ys μ', S [] (ds ++ ys) μ' → Q ys μ') → lcW g wt we (xs.map enc) ρ μ Q
  | [], ds, μ, Q, s, q => q [] μ (by rw [List.append_nil]; exact s)
  | a :: r, ds, μ, Q, s, q => by
    obtain ⟨ρ1, h1, h2⟩ := h a r ds μ s
    simp only [List.map_cons, lcW, h1]
    refine h2 _ _ fun b μ1 ht hf => ?_
    cases b with
    | true =>
      refine ht rfl _ _ fun y μ2 s2 => ?_
      exact lc_imp S h r (ds ++ [y]) μ2 _ s2 fun ys μ3 s3 => q (y :: ys) μ3 (by rw [List.append_assoc] at s3; exact s3)
    | false => exact lc_imp S h r ds μ1 _ (hf rfl) q

/-! ### loops -/
/-- the ends of a turn -/
abbrev turnE (De : DEnds) (k : Slots → Sto → Prop) : DEnds := ⟨k, De.rt, De.nx, k, De.ex⟩
theorem for_cons {g : GF} {wb : WS} {d : D} {r : List D} {De : DEnds} {ρ ρ1 : Slots} {μ : Sto} (h : g d ρ = some ρ1) : forW g wb (d :: r) De ρ μ = wb (turnE De fun ρ2 μ2 => forW g wb r De ρ2 μ2) ρ1 μ := by
  simp only [forW, h]
/-- a loop that is read as a recursion: S tells how the state stands -/
theorem for_rec {α β : Type} {enc : α → D} {g : GF} {wb : WS} {De : DEnds} (res : List α → β → Prop) (S : β → Slots → Sto → Prop) :
    ∀ (xs : List α) (acc : β) (ρ : Slots) (μ : Sto), S acc ρ μ → (∀ acc ρ μ, S acc ρ μ → De.nx ρ μ = res [] acc) →
    (∀ a r acc ρ μ, a ∈ xs → S acc ρ μ → ∃ ρ1, g (enc a) ρ = some ρ1 ∧ ((∃ acc', res (a :: r) acc = res r acc' ∧ ∃ ρ2 μ2, S acc' ρ2 μ2 ∧ ∀ k, wb (turnE De k) ρ1 μ = k ρ2 μ2) ∨ ∀ k, wb (turnE De k) ρ1 μ = res (a :: r) acc)) →
    forW g wb (xs.map enc) De ρ μ = res xs acc
  | [], acc, ρ, μ, s, h0, h1 => h0 acc ρ μ s
  | a :: r, acc, ρ, μ, s, h0, h1 => by
    obtain ⟨ρ1, e1, h⟩ := h1 a r acc ρ μ (List.mem_cons_self ..) s
    rw [List.map_cons, for_cons e1]
    rcases h with ⟨acc', er, ρ2, μ2, s2, e2⟩ | h
    · rw [e2, er]
      exact for_rec res S r acc' ρ2 μ2 s2 h0 fun b r' acc ρ μ hb => h1 b r' acc ρ μ (List.mem_cons_of_mem _ hb)
    · exact h _
/-- a loop that goes to its end -/
theorem for_fold {α β : Type} {enc : α → D} {g : GF} {wb : WS} {De : DEnds} {R : Prop} (step : β → α → β) (S : β → Slots → Sto → Prop) (xs : List α) (acc : β) (ρ : Slots) (μ : Sto) (s : S acc ρ μ)
    (h1 : ∀ a acc ρ μ, a ∈ xs → S acc ρ μ → ∃ ρ1, g (enc a) ρ = some ρ1 ∧ ∃ ρ2 μ2, S (step acc a) ρ2 μ2 ∧ ∀ k, wb (turnE De k) ρ1 μ = k ρ2 μ2)
    (h0 : ∀ ρ μ, S (xs.foldl step acc) ρ μ → De.nx ρ μ = R) : forW g wb (xs.map enc) De ρ μ = R := by
  induction xs generalizing acc ρ μ with
  | nil => exact h0 ρ μ s
  | cons a r ih =>
    obtain ⟨ρ1, e1, ρ2, μ2, s2, e2⟩ := h1 a acc ρ μ (List.mem_cons_self ..) s
    rw [List.map_cons, for_cons e1, e2]
    exact ih _ _ _ s2 (fun b acc ρ μ hb => h1 b acc ρ μ (List.mem_cons_of_mem _ hb)) h0
/-- .. where the turn is read by what follows it -/
theorem for_foldC {α β : Type} {enc : α → D} {g : GF} {wb : WS} {De : DEnds} {R : Prop} (step : β → α → β) (S : β → Slots → Sto → Prop) (xs : List α) (acc : β) (ρ : Slots) (μ : Sto) (s : S acc ρ μ)
    (h1 : ∀ a acc ρ μ, a ∈ xs → S acc ρ μ → ∃ ρ1, g (enc a) ρ = some ρ1 ∧ ∀ (k : Slots → Sto → Prop) (R : Prop), (∀ ρ2 μ2, S (step acc a) ρ2 μ2 → k ρ2 μ2 = R) → wb (turnE De k) ρ1 μ = R)
    (h0 : ∀ ρ μ, S (xs.foldl step acc) ρ μ → De.nx ρ μ = R) : forW g wb (xs.map enc) De ρ μ = R := by
  induction xs generalizing acc ρ μ with
  | nil => exact h0 ρ μ s
  | cons a r ih =>
    obtain ⟨ρ1, e1, e2⟩ := h1 a acc ρ μ (List.mem_cons_self ..) s
    rw [List.map_cons, for_cons e1]
    exact e2 _ R fun ρ2 μ2 s2 => ih _ _ _ s2 (fun b acc ρ μ hb => h1 b acc ρ μ (List.mem_cons_of_mem _ hb)) h0
/-- .. S knows what is left -/
theorem for_foldR {α β : Type} {enc : α → D} {g : GF} {wb : WS} {De : DEnds} {R : Prop} (step : β → α → β) (S : List α → β → Slots → Sto → Prop) (xs : List α) (acc : β) (ρ : Slots) (μ : Sto) (s : S xs acc ρ μ)
    (h1 : ∀ a r acc ρ μ, S (a :: r) acc ρ μ → ∃ ρ1, g (enc a) ρ = some ρ1 ∧ ∃ ρ2 μ2, S r (step acc a) ρ2 μ2 ∧ ∀ k, wb (turnE De k) ρ1 μ = k ρ2 μ2)
    (h0 : ∀ ρ μ, S [] (xs.foldl step acc) ρ μ → De.nx ρ μ = R) : forW g wb (xs.map enc) De ρ μ = R := by
  induction xs generalizing acc ρ μ with
  | nil => exact h0 ρ μ s
  | cons a r ih =>
    obtain ⟨ρ1, e1, ρ2, μ2, s2, e2⟩ := h1 a r acc ρ μ s
    rw [List.map_cons, for_cons e1, e2]
    exact ih _ _ _ s2 h0
/-- a loop by what is left -/
theorem for_imp {α : Type} {enc : α → D} {g : GF} {wb : WS} {De : DEnds} (S : List α → Slots → Sto → Prop) : ∀ (xs : List α) (ρ : Slots) (μ : Sto), S xs ρ μ → (∀ ρ μ, S [] ρ μ → De.nx ρ μ) →
    (∀ a r ρ μ, S (a :: r) ρ μ → ∃ ρ1, g (enc a) ρ = some ρ1 ∧ ∀ k : Slots → Sto → Prop, (∀ ρ2 μ2, S r ρ2 μ2 → k ρ2 μ2) → wb (turnE De k) ρ1 μ) → forW g wb (xs.map enc) De ρ μ
  | [], ρ, μ, s, h0, _ => h0 ρ μ s
  | a :: r, ρ, μ, s, h0, h1 => by
    obtain ⟨ρ1, e1, h⟩ := h1 a r ρ μ s
    rw [List.map_cons, for_cons e1]
    exact h _ fun ρ2 μ2 s2 => for_imp S r ρ2 μ2 s2 h0 h1
/-! ### lists that loops walk -/
theorem enum_map {α : Type} (enc : α → D) : ∀ (xs : List α) (n : Nat), enumD n (xs.map enc) = (xs.zipIdx n).map fun p => .tup [.int (p.2 : Nat), enc p.1]
  | [], _ => rfl
  | x :: r, n => by
    simp only [List.map_cons, enumD, List.zipIdx_cons, enum_map enc r (n + 1)]
theorem zip_map {α β : Type} (ea : α → D) (eb : β → D) : ∀ (xs : List α) (ys : List β), zipD (xs.map ea) (ys.map eb) = (xs.zip ys).map fun p => .tup [ea p.1, eb p.2]
  | [], _ => rfl
  | _ :: _, [] => rfl
  | x :: r, y :: s => by simp only [List.map_cons, zipD, List.zip_cons_cons, zip_map ea eb r s]
theorem rng_map (a : Int) : ∀ n : Nat, rngD a n = (List.range n).map fun i => .int (a + (i : Nat))
  | 0 => rfl
  | n + 1 => by
    rw [List.range_succ_eq_map]
    simp only [rngD, rng_map (a + 1) n, List.map_cons, List.map_map]
    congr 1
    · simp
    · apply List.map_congr_left
      intro i _
      simp only [Function.comp]
      congr 1
      omega
theorem blsD_map {α : Type} (f : α → Bool) : ∀ xs : List α, blsD (xs.map fun a => .bl (f a)) = some (xs.map f)
  | [] => rfl
  | x :: r => by simp only [List.map_cons, blsD, blsD_map f r]
theorem all_map {α : Type} (f : α → Bool) (xs : List α) : allD (.lst (xs.map fun a => .bl (f a))) = some (.bl (xs.all f)) := by
  simp only [allD, blsD_map, ← allB_eq, List.all_map]
  rfl
theorem any_map {α : Type} (f : α → Bool) (xs : List α) : anyD (.lst (xs.map fun a => .bl (f a))) = some (.bl (xs.any f)) := by
  simp only [anyD, blsD_map, ← anyB_eq, List.any_map]
  rfl
theorem noMs_map {α : Type} {enc : α → D} (h : ∀ a, noM (enc a) = true) : ∀ xs : List α, noMs (xs.map enc) = true
  | [] => rfl
  | x :: r => by simp only [List.map_cons, noMs, h x, noMs_map h r]
theorem noMs_app : ∀ (xs ys : List D), noMs xs = true → noMs ys = true → noMs (xs ++ ys) = true
  | [], ys, _, h => h
  | x :: r, ys, h, h2 => by
    unfold noMs at h
    cases e : noM x with
    | false => rw [e] at h; cases h
    | true =>
      rw [e] at h
      simp only [List.cons_append, noMs, e]
      exact noMs_app r ys h h2
theorem all_tt {α : Type} (xs : List α) : (xs.all fun _ => true) = true := by induction xs <;> simp_all
theorem all_ok {α : Type} {p : α → Bool} {xs : List α} (h : ∀ a ∈ xs, p a = true) : xs.all p = true := List.all_eq_true.mpr h
theorem any_no {α : Type} {p : α → Bool} {xs : List α} (h : ∀ a ∈ xs, p a = false) : xs.any p = false := by
  rw [List.any_eq_false]
  intro a ha
  rw [h a ha]
  decide
/-! ### texts in lists -/
def okc (s : Tx) : Bool := s.all fun c => Nat.blt c 1114112
theorem pure_str {n : Nat} {s : Tx} : pureD n (.str s) = okc s := by cases n <;> rfl
theorem pures_strs {n : Nat} : ∀ {ws : List Tx}, (∀ s ∈ ws, okc s = true) → pureDs n (ws.map .str) = true
  | [], _ => by cases n <;> rfl
  | s :: r, h => by
    simp only [List.map_cons, pureDs, pure_str, h s (List.mem_cons_self ..)]
    exact pures_strs fun t ht => h t (List.mem_cons_of_mem _ ht)
theorem anyEq_strs {s : Tx} : ∀ {ws : List Tx}, anyEq (.str s) (ws.map .str) = decide (s ∈ ws)
  | [] => by simp [anyEq]
  | t :: r => by
    have ih := anyEq_strs (s := s) (ws := r)
    simp only [List.map_cons, anyEq, eqD, eqTx_dec, ih]
    by_cases h : t = s
    · subst h
      simp
    · have h2 : ¬ s = t := fun e => h e.symm
      simp [h, h2]
theorem in_strs {s : Tx} {ws : List Tx} (h : okc s = true) (hs : ∀ t ∈ ws, okc t = true) : inD (.str s) (.lst (ws.map .str)) = some (.bl (decide (s ∈ ws))) := by
  have h1 : pureD 60 (.lst (ws.map .str)) = true := by
    show pureDs 59 _ = true
    exact pures_strs hs
  simp only [inD, inD?, pure_str, h, h1, Bool.and_self, anyEq_strs]
theorem nin_strs {s : Tx} {ws : List Tx} (h : okc s = true) (hs : ∀ t ∈ ws, okc t = true) : ninD (.str s) (.lst (ws.map .str)) = some (.bl (!decide (s ∈ ws))) := by
  have h1 : pureD 60 (.lst (ws.map .str)) = true := by
    show pureDs 59 _ = true
    exact pures_strs hs
  simp only [ninD, inD?, pure_str, h, h1, Bool.and_self, anyEq_strs]
theorem eq_str {s t : Tx} (h : okc s = true) (h2 : okc t = true) : eqqD (.str s) (.str t) = some (.bl (decide (s = t))) := by
  simp only [eqqD, pure_str, h, h2, Bool.and_self, eqD, eqTx_dec]
theorem ne_str {s t : Tx} (h : okc s = true) (h2 : okc t = true) : neqD (.str s) (.str t) = some (.bl (!decide (s = t))) := by
  simp only [neqD, pure_str, h, h2, Bool.and_self, eqD, eqTx_dec]
theorem eq_strs {ws us : List Tx} (h : ∀ t ∈ ws, okc t = true) (h2 : ∀ t ∈ us, okc t = true) : eqqD (.lst (ws.map .str)) (.lst (us.map .str)) = some (.bl (decide (ws = us))) := by
  have e1 : pureD 60 (.lst (ws.map .str)) = true := by show pureDs 59 _ = true; exact pures_strs h
  have e2 : pureD 60 (.lst (us.map .str)) = true := by show pureDs 59 _ = true; exact pures_strs h2
  have e3 : ∀ ws us : List Tx, eqDs (ws.map .str) (us.map .str) = decide (ws = us) := by
    intro ws
    induction ws with
    | nil => intro us; cases us <;> simp [eqDs]
    | cons a r ih =>
      intro us
      cases us with
      | nil => simp [eqDs]
      | cons b s =>
        simp only [List.map_cons, eqDs, eqD, eqTx_dec, ih]
        by_cases q : a = b <;> simp [q]
  simp only [eqqD, e1, e2, Bool.and_self, eqD, e3]
theorem eqqD_some {x y : D} {b : Bool} (h : eqqD x y = some (.bl b)) : neqD x y = some (.bl (!b)) := by
  unfold eqqD at h
  unfold neqD
  cases e : pureD 60 x && pureD 60 y with
  | true =>
    rw [e] at h
    injection h with h
    injection h with h
    subst h
    rfl
  | false =>
    rw [e] at h
    cases h
theorem ne_strs {ws us : List Tx} (h : ∀ t ∈ ws, okc t = true) (h2 : ∀ t ∈ us, okc t = true) : neqD (.lst (ws.map .str)) (.lst (us.map .str)) = some (.bl (!decide (ws = us))) := eqqD_some (eq_strs h h2)
theorem idx_strs {s : Tx} : ∀ {ws : List Tx} (n : Nat), s ∈ ws → idxD (.str s) (ws.map .str) n = some (n + ws.idxOf s)
  | [], n, h => by simp at h
  | t :: r, n, h => by
    by_cases e : t = s
    · subst e
      simp [idxD, eqD, eqTx_dec]
    · have h2 : s ∈ r := by
        rcases List.mem_cons.mp h with q | q
        · exact absurd q.symm e
        · exact q
      have ih := idx_strs (n + 1) h2
      simp only [List.map_cons, idxD, eqD, eqTx_dec, decide_eq_false e, ih]
      have e2 : (t == s) = false := by simpa using e
      rw [List.idxOf_cons, e2]
      simp only [cond_false]
      congr 1
      omega
/-! ### slices -/
theorem cut_take {α : Type} (xs : List α) (n : Nat) : cutG xs none (some (n : Int)) = xs.take n := by
  unfold cutG
  rw [HT.sIx_none, HT.sIx_nat, List.drop_zero, Nat.sub_zero]
  by_cases h : n ≤ xs.length
  · rw [Nat.min_eq_left h]
  · rw [Nat.min_eq_right (by omega), List.take_length, List.take_of_length_le (by omega)]
theorem cut_drop {α : Type} (xs : List α) (n : Nat) : cutG xs (some (n : Int)) none = xs.drop n := by
  unfold cutG
  rw [HT.sIx_none, HT.sIx_nat]
  by_cases h : n ≤ xs.length
  · rw [Nat.min_eq_left h]
    exact List.take_of_length_le (by rw [List.length_drop]; exact Nat.le_refl _)
  · rw [Nat.min_eq_right (by omega), Nat.sub_self, List.take_zero, List.drop_of_length_le (by omega)]
theorem slD_lst {xs : List D} {lo hi : Option Int} : slD (.lst xs) lo hi = some (.lst (cutG xs lo hi)) := rfl
theorem slD_tup {xs : List D} {lo hi : Option Int} : slD (.tup xs) lo hi = some (.tup (cutG xs lo hi)) := rfl
theorem lk_mref {μ : Sto} {k : Nat} : look μ (.mref k) = match μ[k]? with
    | some (.lst ds) => .lst ds
    | some (.dct ds) => .dct ds
    | some (.ins c fs) => .ins c fs
    | some (.fz d) => d
    | _ => .mref k := rfl
theorem fz_lst {n k : Nat} {μ : Sto} {ds : List D} (h : μ[k]? = some (.lst ds)) (hn : ∀ d ∈ ds, ∀ μ, deepD n μ d = (d, μ)) : deepD (n + 1) μ (.mref k) = (.lst ds, μ.set k (.fz (.lst ds))) := by
  have hm : ∀ (ds : List D) (μ : Sto), (∀ d ∈ ds, ∀ μ, deepD n μ d = (d, μ)) → mapS (deepD n) ds μ = (ds, μ) := by
    intro ds
    induction ds with
    | nil => intro μ _; rfl
    | cons d r ih =>
      intro μ h
      simp only [mapS, h d (by simp), ih μ fun e he => h e (List.mem_cons_of_mem _ he)]
  simp only [deepD, h, hm ds _ hn, List.set_set]
theorem setAts : (∀ (x : D), setAt [] 0 x = some [x]) ∧ (∀ a (x : D), setAt [a] 1 x = some [a, x]) ∧ (∀ a b (x : D), setAt [a, b] 2 x = some [a, b, x]) ∧ (∀ a b c (x : D), setAt [a, b, c] 3 x = some [a, b, c, x]) ∧ (∀ a b c d (x : D), setAt [a, b, c, d] 4 x = some [a, b, c, d, x]) ∧ (∀ a b c d e (x : D), setAt [a, b, c, d, e] 5 x = some [a, b, c, d, e, x]) ∧ (∀ a b c d e f (x : D), setAt [a, b, c, d, e, f] 6 x = some [a, b, c, d, e, f, x]) ∧ (∀ a b c d e f g (x : D), setAt [a, b, c, d, e, f, g] 7 x = some [a, b, c, d, e, f, g, x]) := by
  refine ⟨?_, ?_, ?_, ?_, ?_, ?_, ?_, ?_⟩ <;> intros <;> rfl
theorem mulD_lst {xs : List D} {k : Int} (h1 : smallI (k * 4) = true) (h2 : lineB (xs.length * k.toNat) = true) : mulD (.lst xs) (.int k) = some (.lst (repD k.toNat xs)) := by
  unfold mulD
  simp only [h1, h2, Bool.and_self]
theorem beq_no {k l : Nat} (h : k ≠ l) : Nat.beq k l = false := by
  cases e : Nat.beq k l with
  | false => rfl
  | true => exact absurd (Nat.eq_of_beq_eq_true e) h
/-- self.f += [..] -/
theorem fldaug {c j k l : Nat} {wo we : WE} {De : DEnds} {ρ : Slots} {μ : Sto} {xs ys fs : List D} (hwo : ∀ Q E, wo ρ μ Q E = Q (.mref k) μ) (hk : μ[k]? = some (.ins c fs)) (hj : fs[j]? = some (.mref l))
    (hwe : ∀ Q E, we ρ μ Q E = Q (.lst ys) μ) (hl : μ[l]? = some (.lst xs)) (hn : xs.length + ys.length ≤ 16777216) (hkl : k ≠ l) : sFldAugD c j wo we De ρ μ = De.nx ρ (μ.set l (.lst (xs ++ ys))) := by
  have b1 := ble_ok hn
  have b2 := beq_no hkl
  have b3 : ∀ n, Nat.beq n n = true := Nat.beq_refl
  unfold sFldAugD
  rw [hwo]
  simp only [hk, hj, b3]
  rw [hwe]
  simp only [hl, hk, hj, b1, b2, b3, look, Bool.not_false, Bool.and_self]
theorem w2_of {f : D → D → Option D} {wa wb : WE} {ρ : Slots} {μ : Sto} {Q : QD} {E : QX} {x y x' y' d : D} (ha : ∀ Q E, wa ρ μ Q E = Q x μ) (hb : ∀ Q E, wb ρ μ Q E = Q y μ) (hx : look μ x = x') (hy : look μ y = y') (hf : f x' y' = some d) : w2 f wa wb ρ μ Q E = Q d μ := by
  unfold w2
  rw [ha, hb, hx, hy, hf]
end Pk

namespace K58
open PySem PySem.Spec PyProof.Rows L2 Pk
def w__law_sip : WS := (sSeq (sAsg2 (w2 addD (w2 ixD (wVar 0) (wC (.int 2))) (wC (.int 1))) fun E d ρ μ Q => (g2S (wVar 0) (wC (.int 2))) d ρ μ Q (fun x μ' => E x ρ μ'))
  (sSeq (sIf (tBl (w2 gtD (w2 ixD (wVar 0) (wC (.int 0))) (wC (.int 0))))
  (sSeq (sAsg2 (wBu (b2' divmodD) (aCons (w2 ixD (wVar 0) (wC (.int 0))) (aCons (wVar 1) aNil))) fun E => g2T 2 (g2Cons (g2S (wVar 0) (wC (.int 0))) (g2Cons (g2N 2) g2Nil)) E)
  (sRet (wVar 2))) sNil)
  (sSeq (sAsg2 (w2 modD (wBu (b1 intD) (aCons (w2 addD (w2 mulD (w2 ixD (wVar 0) (wC (.int 1))) (wC (.int 48271))) (w2 mulD (wC (.int 6089)) (w2 ixD (wVar 0) (wC (.int 2))))) aNil)) (wC (.int 2147483477))) fun E d ρ μ Q => (g2S (wVar 0) (wC (.int 1))) d ρ μ Q (fun x μ' => E x ρ μ'))
  (sRet (w2 modD (wBu (b1 intD) (aCons (w2 fdivD (w2 ixD (wVar 0) (wC (.int 1))) (wC (.int 1024))) aNil)) (wVar 1))))))
def c__law_sip : Con := loc (conB 3 2 w__law_sip)
def w__law_labels : WS := (sSeq (sAsg (wC (.str [97, 98, 99, 100, 101, 102, 103, 104, 105, 106, 107, 108, 109, 110, 111, 112, 113, 114, 115, 116, 117, 118, 119, 120, 121, 122])) (gN 2))
  (sSeq (sIf (tAn (tBl (w2 ltD (wVar 1) (wC (.int 9)))) (tBl (w2 eqqD (wGc (wCallN c__law_sip 2 [] (aCons (wVar 0) (aCons (wC (.int 3)) aNil)))) (wC (.int 0)))))
  (sRet (wSl (wLst (aCons (wC (.str [119, 97, 115, 104])) (aCons (wC (.str [97])) (aCons (wC (.str [114, 101, 110, 101, 119])) (aCons (wC (.str [103, 97, 114, 109, 101, 110, 116])) (aCons (wC (.str [98, 108, 101, 101, 100, 115])) (aCons (wC (.str [117, 110, 100, 111])) (aCons (wC (.str [122, 122])) (aCons (wC (.str [110, 97, 109, 101, 115])) aNil))))))))) oNo (oYes (wVar 1)))) sNil)
  (sSeq (sPar2 3 4 (aCons (w2 ixD (wLst (aCons (wC (.str [])) (aCons (wC (.str [120])) (aCons (wC (.str [97, 98, 99])) aNil)))) (wGc (wCallN c__law_sip 2 [] (aCons (wVar 0) (aCons (wC (.int 3)) aNil))))) (aCons (wLstO aNil) aNil)))
  (sSeq (sFor (iRg1 (wVar 1)) (gN 5)
  (sExpr (wMe isL appF (wVar 4) (aCons (w2 addD (wVar 3) (w2 ixD (wVar 2) (wVar 5))) aNil))))
  (sRet (wFz 1 (wIf (tBl (w2 eqqD (wGc (wCallN c__law_sip 2 [] (aCons (wVar 0) (aCons (wC (.int 2)) aNil)))) (wC (.int 0)))) (wRev (wVar 4)) (wVar 4))))))))
def c__law_labels : Con := loc (conB 6 2 w__law_labels)
def w__law_cloths : WS := (sSeq (sAsg (w2 addD (wC (.int 1)) (wGc (wCallN c__law_sip 2 [] (aCons (wVar 0) (aCons (wVar 1) aNil))))) (gN 3))
  (sSeq (sAsg (wGc (wCallN c__law_labels 2 [] (aCons (wVar 0) (aCons (wVar 3) aNil)))) (gN 4))
  (sSeq (sAsg (w2 ixD (wLst (aCons (wLst (aCons (wC (.str [114, 101, 100])) (aCons (wC (.str [98, 108, 117, 101])) aNil))) (aCons (wLst (aCons (wC (.str [119, 97, 115, 104])) (aCons (wC (.str [97])) aNil))) (aCons (wLst (aCons (wC (.str [114, 101, 100])) (aCons (wC (.str [114, 101, 100])) aNil))) aNil)))) (wGc (wCallN c__law_sip 2 [] (aCons (wVar 0) (aCons (wC (.int 3)) aNil))))) (gN 5))
  (sRet (wLc false (iSeq (wFz 1 (wVar 4))) (gN 6) tAll (wTup (aCons (wVar 6) (aCons (w2 ixD (wVar 5) (wGc (wCallN c__law_sip 2 [] (aCons (wVar 0) (aCons (wC (.int 2)) aNil))))) (aCons (wGc (wCallN c__law_sip 2 [] (aCons (wVar 0) (aCons (w2 addD (wVar 2) (wC (.int 1))) aNil)))) aNil)))) [6])))))
def c__law_cloths : Con := loc (conB 7 3 w__law_cloths)
def w__law_hues : WS := (sSeq (sAsg (wLstO aNil) (gN 1))
  (sSeq (sFor (iSeq (wFz 1 (wVar 0))) (gN 2)
  (sIf (tBl (w2 ninD (w2 ixD (wVar 2) (wC (.int 1))) (wVar 1)))
  (sExpr (wMe isL appF (wVar 1) (aCons (w2 ixD (wVar 2) (wC (.int 1))) aNil))) sNil))
  (sRet (wFz 1 (wVar 1)))))
def c__law_hues : Con := loc (conB 3 1 w__law_hues)
def w__law_drawn : WS := (sSeq (sAsg (wTup (aCons (wLstO aNil) (aCons (wLc true (iSeq (wFz 1 (wVar 1))) (gN 13) tAll (wGc (wCallN c__law_sip 2 [] (aCons (wVar 0) (aCons (w2 addD (w2 ixD (wVar 13) (wC (.int 2))) (wC (.int 1))) aNil)))) [13]) aNil))) (gT [(gN 3), (gN 4)]))
  (sSeq (sAsg (wMulO (wLst (aCons (wC (.int 0)) aNil)) (wBu (b1 lenD) (aCons (wVar 1) aNil))) (gN 5))
  (sSeq (sFor (iRg1 (wGc (wCallN c__law_sip 2 [] (aCons (wVar 0) (aCons (w2 addD (wVar 2) (wC (.int 1))) aNil))))) (gN 6)
  (sIf (tBl (w2 eqqD (wGc (wCallN c__law_sip 2 [] (aCons (wVar 0) (aCons (wC (.int 7)) aNil)))) (wC (.int 0))))
  (sSeq (sAsg (wGc (wCallN c__law_sip 2 [] (aCons (wVar 0) (aCons (wBu (b1 lenD) (aCons (wVar 1) aNil)) aNil)))) (gN 7))
  (sSeq (sExpr (wMe isL appF (wVar 3) (aCons (wTup (aCons (wC (.str [114, 101, 110, 101, 119])) (aCons (wVar 7) aNil))) aNil)))
  (sAsg2 (wTup (aCons (wGc (wCallN c__law_sip 2 [] (aCons (wVar 0) (aCons (w2 addD (w2 ixD (w2 ixD (wVar 1) (wVar 7)) (wC (.int 2))) (wC (.int 1))) aNil)))) (aCons (wC (.int 0)) aNil))) fun E => g2T 2 (g2Cons (g2S (wVar 4) (wVar 7)) (g2Cons (g2S (wVar 5) (wVar 7)) g2Nil)) E))) (sSeq (sAsg (wLc false (iRg1 (wBu (b1 lenD) (aCons (wVar 1) aNil))) (gN 7) (tBl (w2 eqqD (wGc (wCallN c__law_sip 2 [] (aCons (wVar 0) (aCons (wC (.int 2)) aNil)))) (wC (.int 0)))) (wVar 7) [7]) (gN 8))
  (sSeq (sAsg (wIf (tBl (w2 eqqD (wVar 8) (wLst aNil))) (wLst (aCons (wGc (wCallN c__law_sip 2 [] (aCons (wVar 0) (aCons (wBu (b1 lenD) (aCons (wVar 1) aNil)) aNil)))) aNil)) (wVar 8)) (gN 8))
  (sSeq (sIf (tBl (w2 eqqD (wGc (wCallN c__law_sip 2 [] (aCons (wVar 0) (aCons (wC (.int 2)) aNil)))) (wC (.int 0))))
  (sAsg (wRev (wVar 8)) (gN 8)) sNil)
  (sSeq (sFor (iSeq (wFz 1 (wVar 8))) (gN 7)
  (sAsg2 (w2 addD (w2 ixD (wVar 5) (wVar 7)) (wC (.int 1))) fun E d ρ μ Q => (g2S (wVar 5) (wVar 7)) d ρ μ Q (fun x μ' => E x ρ μ')))
  (sSeq (sAsg (wLc false (iSeq (wFz 1 (wCallN c__law_hues 1 [] (aCons (wVar 1) aNil)))) (gN 14) (tBl (w2 inD (wVar 14) (wLc false (iSeq (wFz 1 (wVar 8))) (gN 7) tAll (w2 ixD (w2 ixD (wVar 1) (wVar 7)) (wC (.int 1))) [7]))) (wVar 14) [14]) (gN 9))
  (sSeq (sAsg (wLc false (iSeq (wFz 1 (wVar 8))) (gN 7) (tBl (w2 leD (w2 ixD (wVar 5) (wVar 7)) (w2 ixD (wVar 4) (wVar 7)))) (w2 ixD (w2 ixD (wVar 1) (wVar 7)) (wC (.int 1))) [7]) (gN 10))
  (sSeq (sAsg (wLc false (iSeq (wFz 1 (wVar 9))) (gN 14) (tBl (w2 eqqD (wGc (wCallN c__law_sip 2 [] (aCons (wVar 0) (aCons (wC (.int 6)) aNil)))) (wC (.int 0)))) (wVar 14) [14]) (gN 11))
  (sSeq (sAsg (wLc false (iSeq (wFz 1 (wVar 9))) (gN 14) (tAn (tBl (w2 ninD (wVar 14) (wVar 11))) (tBl (w2 neqD (w2 inD (wVar 14) (wVar 10)) (w2 eqqD (wGc (wCallN c__law_sip 2 [] (aCons (wVar 0) (aCons (wC (.int 12)) aNil)))) (wC (.int 0)))))) (wVar 14) [14]) (gN 12))
  (sExpr (wMe isL appF (wVar 3) (aCons (wTup (aCons (wC (.str [119, 97, 115, 104])) (aCons (wVar 8) (aCons (wVar 12) (aCons (wVar 11) aNil))))) aNil)))))))))))))
  (sRet (wFz 1 (wVar 3))))))
def c__law_drawn : Con := loc (conB 15 3 w__law_drawn)
def w_is_name : WS := (sRet (wAnd (wBu (b2' isiD) (aCons (wVar 0) (aCons (wC (.ty .str)) aNil))) (wAnd (wCh ltD ltD (wC (.int 0)) (wBu (b1 lenD) (aCons (wVar 0) aNil)) (wC (.int 9))) (wBu (b1 allD) (aCons (wLc false (iSeq (wFz 1 (wVar 0))) (gN 1) tAll (w2 inD (wVar 1) (wC (.str [97, 98, 99, 100, 101, 102, 103, 104, 105, 106, 107, 108, 109, 110, 111, 112, 113, 114, 115, 116, 117, 118, 119, 120, 121, 122]))) [1]) aNil)))))
def c_is_name : Con := loc (conB 2 1 w_is_name)
def w_is_integer : WS := (sRet (wAnd (wBu (b2' isiD) (aCons (wVar 0) (aCons (wC (.ty .int)) aNil))) (wNot (wBu (b2' isiD) (aCons (wVar 0) (aCons (wC (.ty .bool)) aNil))))))
def c_is_integer : Con := loc (conB 1 1 w_is_integer)
def w_is_between : WS := (sRet (wAnd (wCallN c_is_integer 1 [] (aCons (wVar 0) aNil)) (wCh leD leD (wVar 1) (wVar 0) (wVar 2))))
def c_is_between : Con := loc (conB 3 3 w_is_between)
def w_is_garment : WS := (sSeq (sIf (tOr' (tNo (tTru (wBu (b2' isiD) (aCons (wVar 0) (aCons (wC (.ty .tup)) aNil))))) (tBl (w2 neqD (wBu (b1 lenD) (aCons (wVar 0) aNil)) (wC (.int 3)))))
  (sRet (wC (.bl false))) sNil)
  (sRet (wAnd (wCallN c_is_name 1 [] (aCons (w2 ixD (wVar 0) (wC (.int 0))) aNil)) (wAnd (wCallN c_is_name 1 [] (aCons (w2 ixD (wVar 0) (wC (.int 1))) aNil)) (wCallN c_is_between 3 [] (aCons (w2 ixD (wVar 0) (wC (.int 2))) (aCons (wC (.int 0)) (aCons (wC (.int 12)) aNil))))))))
def c_is_garment : Con := loc (conB 1 1 w_is_garment)
def w_check_garments : WS := (sSeq (sIf (tOr' (tNo (tTru (wBu (b2' isiD) (aCons (wVar 0) (aCons (wC (.ty .tup)) aNil))))) (tBl (w2 eqqD (wBu (b1 lenD) (aCons (wVar 0) aNil)) (wC (.int 0)))))
  sNever sNil)
  (sFor (iEnm (wFz 1 (wVar 0))) (gT [(gN 1), (gN 2)])
  (sSeq (sIf (tOr' (tBl (w2 eqqD (wVar 1) (wC (.int 8)))) (tNo (tTru (wCallN c_is_garment 1 [] (aCons (wVar 2) aNil)))))
  sNever sNil)
  (sIf (tBl (w2 inD (w2 ixD (wVar 2) (wC (.int 0))) (wLc false (iSeq (wFz 1 (wSl (wVar 0) oNo (oYes (wVar 1))))) (gN 3) tAll (w2 ixD (wVar 3) (wC (.int 0))) [3])))
  sNever sNil))))
def c_check_garments : Con := loc (conB 4 1 w_check_garments)
def w_parted_at : WS := (sSeq (sIf (tBl (w2 ninD (wVar 1) (wVar 0)))
  (sRet (wTup (aCons (wVar 0) (aCons (wC .non) aNil)))) sNil)
  (sSeq (sAsg (wMe isL idxF (wVar 0) (aCons (wVar 1) aNil)) (gN 2))
  (sRet (wTup (aCons (wSl (wVar 0) oNo (oYes (wVar 2))) (aCons (wSl (wVar 0) (oYes (w2 addD (wVar 2) (wC (.int 1)))) oNo) aNil))))))
def c_parted_at : Con := loc (conB 3 2 w_parted_at)
def w_dyes_in : WS := (sRet (wBu (b1L false itemsOf) (aCons (wBu (bDict false) (aCons (wLc false (iSeq (wFz 1 (wVar 0))) (gN 1) tAll (wTup (aCons (w2 ixD (wVar 1) (wC (.int 1))) (aCons (wC (.bl true)) aNil))) [1]) aNil)) aNil)))
def c_dyes_in : Con := loc (conB 2 1 w_dyes_in)
def w_are_different : WS := (sRet (wBu (b1 allD) (aCons (wLc false (iEnm (wFz 1 (wVar 0))) (gT [(gN 1), (gN 2)]) tAll (w2 eqqD (wMe isL idxF (wVar 0) (aCons (wVar 2) aNil)) (wVar 1)) [1, 2]) aNil)))
def c_are_different : Con := loc (conB 3 1 w_are_different)
def w_names_in : WS := (sRet (wLc false (iSeq (wFz 1 (wVar 0))) (gN 1) tAll (w2 ixD (wVar 1) (wC (.int 0))) [1]))
def c_names_in : Con := loc (conB 2 1 w_names_in)
def w_wash_in : WS := (sSeq (sAsg (wCallN c_parted_at 2 [] (aCons (wVar 1) (aCons (wC (.str [63])) aNil))) (gT [(gN 2), (gN 3)]))
  (sSeq (sAsg (wCallN c_parted_at 2 [] (aCons (wVar 2) (aCons (wC (.str [43])) aNil))) (gT [(gN 4), (gN 5)]))
  (sSeq (sAsg (w2 addD (wOr (wVar 5) (wLst aNil)) (wOr (wVar 3) (wLst aNil))) (gN 6))
  (sSeq (sAsg (wCallN c_dyes_in 1 [] (aCons (wLc false (iSeq (wFz 1 (wVar 0))) (gN 9) (tBl (w2 inD (w2 ixD (wVar 9) (wC (.int 0))) (wVar 4))) (wVar 9) [9]) aNil)) (gN 7))
  (sSeq (sIf (tOr' (tBl (w2 eqqD (wVar 4) (wLst aNil))) (tOr' (tBl (w2 eqqD (wVar 5) (wLst aNil))) (tOr' (tBl (w2 eqqD (wVar 3) (wLst aNil))) (tOr' (tNo (tTru (wCallN c_are_different 1 [] (aCons (wVar 4) aNil)))) (tNo (tTru (wCallN c_are_different 1 [] (aCons (wVar 6) aNil))))))))
  (sRet (wC .non)) sNil)
  (sSeq (sIf (tOr' (tNo (tTru (wBu (b1 allD) (aCons (wLc false (iSeq (wFz 1 (wVar 4))) (gN 10) tAll (w2 inD (wVar 10) (wCallN c_names_in 1 [] (aCons (wVar 0) aNil))) [10]) aNil)))) (tNo (tTru (wBu (b1 allD) (aCons (wLc false (iSeq (wFz 1 (wVar 6))) (gN 11) tAll (w2 inD (wVar 11) (wVar 7)) [11]) aNil)))))
  (sRet (wC .non)) sNil)
  (sSeq (sAsg (wLc false (iSeq (wFz 1 (wCallN c_dyes_in 1 [] (aCons (wVar 0) aNil)))) (gN 11) (tAn (tBl (w2 inD (wVar 11) (wVar 7))) (tBl (w2 ninD (wVar 11) (wOr (wVar 3) (wLst aNil))))) (wVar 11) [11]) (gN 8))
  (sRet (wTup (aCons (wC (.str [119, 97, 115, 104])) (aCons (wBu (b1 tupD) (aCons (wVar 4) aNil)) (aCons (wBu (b1 tupD) (aCons (wLc false (iSeq (wFz 1 (wVar 8))) (gN 11) tAll (wTup (aCons (wVar 11) (aCons (w2 inD (wVar 11) (wOr (wVar 5) (wLst aNil))) aNil))) [11]) aNil)) aNil))))))))))))
def c_wash_in : Con := loc (conB 12 2 w_wash_in)
def w_entry_in : WS := (sSeq (sAsg (wIf (tTru (wBu (b2' isiD) (aCons (wVar 1) (aCons (wC (.ty .str)) aNil)))) (wMe isS (splF false) (wVar 1) (aCons (wC (.str [32])) aNil)) (wLst (aCons (wC (.str [])) aNil))) (gN 2))
  (sSeq (sIf (tBl (w2 eqqD (w2 ixD (wVar 2) (wC (.int 0))) (wC (.str [119, 97, 115, 104]))))
  (sRet (wCallN c_wash_in 2 [] (aCons (wVar 0) (aCons (wSl (wVar 2) (oYes (wC (.int 1))) oNo) aNil)))) sNil)
  (sSeq (sIf (tAn (tBl (w2 eqqD (w2 ixD (wVar 2) (wC (.int 0))) (wC (.str [114, 101, 110, 101, 119])))) (tAn (tBl (w2 eqqD (wBu (b1 lenD) (aCons (wVar 2) aNil)) (wC (.int 2)))) (tBl (w2 inD (w2 ixD (wVar 2) (wC (.int 1))) (wCallN c_names_in 1 [] (aCons (wVar 0) aNil))))))
  (sRet (wTup (aCons (wC (.str [114, 101, 110, 101, 119])) (aCons (wTup (aCons (w2 ixD (wVar 2) (wC (.int 1))) aNil)) (aCons (wTup aNil) aNil))))) sNil)
  (sRet (wC .non)))))
def c_entry_in : Con := loc (conB 3 2 w_entry_in)
def w_check_lines : WS := (sSeq (sIf (tNo (tTru (wBu (b2' isiD) (aCons (wVar 1) (aCons (wC (.ty .tup)) aNil)))))
  sNever sNil)
  (sFor (iEnm (wFz 1 (wVar 1))) (gT [(gN 2), (gN 3)])
  (sIf (tOr' (tBl (w2 eqqD (wVar 2) (wC (.int 30)))) (tBl (w2 isD (wCallN c_entry_in 2 [] (aCons (wVar 0) (aCons (wVar 3) aNil))) (wC .non))))
  sNever sNil)))
def c_check_lines : Con := loc (conB 4 2 w_check_lines)
def w_Walk_wash : WS := (sSeq (sFor (iSeq (wFz 1 (wVar 3))) (gN 5)
  (sAugS (fun i j => i + j) (wFld 1 2 (wVar 0)) (wVar 5) (wC (.int 1))))
  (sSeq (sAsg (wBu (b1 tupD) (aCons (wLc false (iSeq (wFz 1 (wVar 3))) (gN 5) tAll (wTup (aCons (wVar 5) (aCons (w2 ixD (wFld 1 2 (wVar 0)) (wVar 5)) aNil))) [5]) aNil)) (gN 6))
  (sSeq (sExpr (wMe isL appF (wFld 1 3 (wVar 0)) (aCons (wVar 6) aNil)))
  (sFor (iSeq (wFz 1 (wVar 4))) (gT [(gN 7), (gN 8)])
  (sSeq (sExpr (wMe isL appF (wFld 1 4 (wVar 0)) (aCons (wTup (aCons (wVar 2) (aCons (wVar 7) (aCons (wVar 8) aNil)))) aNil)))
  (sExpr (wMe isL appF (wFld 1 5 (wVar 0)) (aCons (wBu (b1 ptpD) (aCons (wLc false (iSeq (wFz 1 (wVar 6))) (gN 9) (tBl (w2 eqqD (w2 ixD (w2 ixD (wVar 1) (w2 ixD (wFld 1 0 (wVar 0)) (w2 ixD (wVar 9) (wC (.int 0))))) (wC (.int 1))) (wVar 7))) (wVar 9) [9]) aNil)) aNil))))))))
def c_Walk_wash : Con := loc (conB 10 5 w_Walk_wash)
def w_Walk_go : WS := (sSeq (sAsg (wBu (bDict true) (aCons (wLc false (iSeq (wFz 1 (wCallN c_names_in 1 [] (aCons (wVar 1) aNil)))) (gN 8) tAll (wTup (aCons (wVar 8) (aCons (wMe isL idxF (wFld 1 1 (wVar 0)) (aCons (wTup (aCons (wVar 8) (aCons (wC (.int 0)) aNil))) aNil)) aNil))) [8]) aNil)) (gN 3))
  (sFor (iEnm (wFz 1 (wVar 2))) (gT [(gN 4), (gT [(gN 5), (gN 6), (gN 7)])])
  (sIf (tBl (w2 eqqD (wVar 5) (wC (.str [114, 101, 110, 101, 119]))))
  (sSeq (sAugS (fun i j => i + j) (wVar 3) (w2 ixD (wVar 6) (wC (.int 0))) (wC (.int 1)))
  (sExpr (wMe isL appF (wFld 1 3 (wVar 0)) (aCons (wTup aNil) aNil)))) (sExpr (wMeth 1 c_Walk_wash 5 (wVar 0) (aCons (wVar 1) (aCons (wVar 4) (aCons (wBu (b1L false sortedD) (aCons (wLc false (iSeq (wFz 1 (wVar 6))) (gN 8) tAll (w2 ixD (wVar 3) (wVar 8)) [8]) aNil)) (aCons (wVar 7) aNil)))))))))
def c_Walk_go : Con := loc (conB 9 3 w_Walk_go)
def w_Walk_init : WS := (sSeq (sFldD 1 0 (wVar 0) (wLstO aNil))
  (sSeq (sFldD 1 1 (wVar 0) (wLstO aNil))
  (sSeq (sFor (iEnm (wFz 1 (wVar 1))) (gT [(gN 3), (gN 4)])
  (sSeq (sAsg (wBu (b1 lenD) (aCons (wLc false (iSeq (wFz 1 (wVar 2))) (gN 6) (tAn (tBl (w2 eqqD (w2 ixD (wVar 6) (wC (.int 0))) (wC (.str [114, 101, 110, 101, 119])))) (tBl (w2 eqqD (w2 ixD (wVar 6) (wC (.int 1))) (wTup (aCons (w2 ixD (wVar 4) (wC (.int 0))) aNil))))) (wVar 6) [6]) aNil)) (gN 5))
  (sSeq (sFldAugD 1 0 (wVar 0) (w2 mulD (wLst (aCons (wVar 3) aNil)) (w2 addD (wVar 5) (wC (.int 1)))))
  (sFldAugD 1 1 (wVar 0) (wLc false (iRg1 (w2 addD (wVar 5) (wC (.int 1)))) (gN 7) tAll (wTup (aCons (w2 ixD (wVar 4) (wC (.int 0))) (aCons (wVar 7) aNil))) [7])))))
  (sSeq (sFldD 1 2 (wVar 0) (wMulO (wLst (aCons (wC (.int 0)) aNil)) (wBu (b1 lenD) (aCons (wFld 1 1 (wVar 0)) aNil))))
  (sSeq (sFldD 1 3 (wVar 0) (wLstO aNil))
  (sSeq (sFldD 1 4 (wVar 0) (wLstO aNil))
  (sSeq (sFldD 1 5 (wVar 0) (wLstO aNil))
  (sExpr (wMeth 1 c_Walk_go 3 (wVar 0) (aCons (wVar 1) (aCons (wVar 2) aNil)))))))))))
def c_Walk_init : Con := loc (conB 8 3 w_Walk_init)
def w_Book_init : WS := (sSeq (sExpr (wCallN c_check_garments 1 [] (aCons (wVar 1) aNil)))
  (sSeq (sExpr (wCallN c_check_lines 2 [] (aCons (wVar 1) (aCons (wVar 2) aNil))))
  (sSeq (sFldD 0 0 (wVar 0) (wVar 1))
  (sSeq (sFldD 0 1 (wVar 0) (wVar 2))
  (sSeq (sFldD 0 2 (wVar 0) (wBu (b1 tupD) (aCons (wLc false (iSeq (wFz 1 (wVar 2))) (gN 3) tAll (wCallN c_entry_in 2 [] (aCons (wVar 1) (aCons (wVar 3) aNil))) [3]) aNil)))
  (sFldD 0 3 (wVar 0) (wMake 1 c_Walk_init 3 [] (aCons (wVar 1) (aCons (wFld 0 2 (wVar 0)) aNil)))))))))
def c_Book_init : Con := loc (conB 4 3 w_Book_init)
def w__law_row : WS := (sSeq (sIf (tBl (w2 eqqD (w2 ixD (wVar 1) (wC (.int 0))) (wC (.str [114, 101, 110, 101, 119]))))
  (sRet (w2 addD (wC (.str [114, 101, 110, 101, 119, 32])) (w2 ixD (w2 ixD (wVar 0) (w2 ixD (wVar 1) (wC (.int 1)))) (wC (.int 0))))) sNil)
  (sSeq (sAsg (w2 addD (wLst (aCons (wC (.str [119, 97, 115, 104])) aNil)) (wLc false (iSeq (wFz 1 (w2 ixD (wVar 1) (wC (.int 1))))) (gN 3) tAll (w2 ixD (w2 ixD (wVar 0) (wVar 3)) (wC (.int 0))) [3])) (gN 2))
  (sSeq (sIf (tBl (w2 neqD (w2 ixD (wVar 1) (wC (.int 2))) (wLst aNil)))
  (sAsg (w2 addD (w2 addD (wVar 2) (wLst (aCons (wC (.str [43])) aNil))) (w2 ixD (wVar 1) (wC (.int 2)))) (gN 2)) sNil)
  (sRet (wMe isS joinF (wC (.str [32])) (aCons (w2 addD (wVar 2) (wIf (tBl (w2 neqD (w2 ixD (wVar 1) (wC (.int 3))) (wLst aNil))) (w2 addD (wLst (aCons (wC (.str [63])) aNil)) (w2 ixD (wVar 1) (wC (.int 3)))) (wLst aNil))) aNil))))))
def c__law_row : Con := loc (conB 4 2 w__law_row)
def w__law_book : WS := (sRet (wLoc (wFz 9 (wMake 0 c_Book_init 3 [] (aCons (wBu (b1 tupD) (aCons (wVar 0) aNil)) (aCons (wBu (b1 tupD) (aCons (wLc false (iSeq (wFz 1 (wVar 1))) (gN 2) tAll (wCallN c__law_row 2 [] (aCons (wVar 0) (aCons (wVar 2) aNil))) [2]) aNil)) aNil))))))
def c__law_book : Con := loc (conB 3 2 w__law_book)
def w__law_places : WS := (sRet (wIf (tBl (w2 eqqD (w2 ixD (wVar 0) (wC (.int 0))) (wC (.str [114, 101, 110, 101, 119])))) (wLst (aCons (w2 ixD (wVar 0) (wC (.int 1))) aNil)) (w2 ixD (wVar 0) (wC (.int 1)))))
def c__law_places : Con := loc (conB 1 1 w__law_places)
def w__law_exchanged : WS := (sSeq (sAsg (wBu (b1L true itemsOf) (aCons (wVar 1) aNil)) (gN 2))
  (sSeq (sFor (iRg1 (wC (.int 3))) (gN 3)
  (sFor (iRg2 (wC (.int 1)) (wBu (b1 lenD) (aCons (wVar 2) aNil))) (gN 4)
  (sSeq (sAsg (wTup (aCons (wCallN c__law_places 1 [] (aCons (w2 ixD (wVar 2) (w2 subD (wVar 4) (wC (.int 1)))) aNil)) (aCons (wCallN c__law_places 1 [] (aCons (w2 ixD (wVar 2) (wVar 4)) aNil)) aNil))) (gT [(gN 5), (gN 6)]))
  (sIf (tAn (tBl (w2 eqqD (wLc false (iSeq (wFz 1 (wVar 5))) (gN 7) (tBl (w2 inD (wVar 7) (wVar 6))) (wVar 7) [7]) (wLst aNil))) (tBl (w2 eqqD (wGc (wCallN c__law_sip 2 [] (aCons (wVar 0) (aCons (wC (.int 2)) aNil)))) (wC (.int 0)))))
  (sAsg2 (wTup (aCons (w2 ixD (wVar 2) (wVar 4)) (aCons (w2 ixD (wVar 2) (w2 subD (wVar 4) (wC (.int 1)))) aNil))) fun E => g2T 2 (g2Cons (g2S (wVar 2) (w2 subD (wVar 4) (wC (.int 1)))) (g2Cons (g2S (wVar 2) (wVar 4)) g2Nil)) E) sNil))))
  (sRet (wFz 1 (wVar 2)))))
def c__law_exchanged : Con := loc (conB 8 2 w__law_exchanged)
def w_Book_lives : WS := (sRet (wBu (b1 tupD) (aCons (wFld 1 1 (wFld 0 3 (wVar 0))) aNil)))
def c_Book_lives : Con := loc (conB 1 1 w_Book_lives)
def w_check_book : WS := (sIf (tNo (tTru (wBu (b2' (isiC 0)) (aCons (wVar 0) (aCons (wC (.cls 0)) aNil)))))
  sNever sNil)
def c_check_book : Con := loc (conB 1 1 w_check_book)
def w_Book_garments : WS := (sRet (wFld 0 0 (wVar 0)))
def c_Book_garments : Con := loc (conB 1 1 w_Book_garments)
def w_garment_of : WS := (sRet (w2 ixD (wProp 0 c_Book_garments (wVar 0)) (wMe isL idxF (wCallN c_names_in 1 [] (aCons (wProp 0 c_Book_garments (wVar 0)) aNil)) (aCons (w2 ixD (w2 ixD (wProp 0 c_Book_lives (wVar 0)) (wVar 1)) (wC (.int 0))) aNil))))
def c_garment_of : Con := loc (conB 2 2 w_garment_of)
def w_top_of : WS := (sRet (w2 ixD (wCallN c_garment_of 2 [] (aCons (wVar 0) (aCons (wVar 1) aNil))) (wC (.int 2))))
def c_top_of : Con := loc (conB 2 2 w_top_of)
def w_Book_looks : WS := (sRet (wBu (b1 tupD) (aCons (wFld 1 4 (wFld 0 3 (wVar 0))) aNil)))
def c_Book_looks : Con := loc (conB 1 1 w_Book_looks)
def w_Book_spans : WS := (sRet (wBu (b1 tupD) (aCons (wFld 1 5 (wFld 0 3 (wVar 0))) aNil)))
def c_Book_spans : Con := loc (conB 1 1 w_Book_spans)
def w_tops_of : WS := (sSeq (sAsg (wLc true (iRg1 (wBu (b1 lenD) (aCons (wProp 0 c_Book_lives (wVar 0)) aNil))) (gN 5) tAll (wCallN c_top_of 2 [] (aCons (wVar 0) (aCons (wVar 5) aNil))) [5]) (gN 2))
  (sSeq (sFor (iEnm (wFz 1 (wProp 0 c_Book_looks (wVar 0)))) (gT [(gN 3), (gN 4)])
  (sIf (tAn (tNo (tTru (w2 ixD (wVar 4) (wC (.int 2))))) (tBl (w2 ninD (wVar 3) (wVar 1))))
  (sFor (iSeq (wFz 1 (w2 ixD (wProp 0 c_Book_spans (wVar 0)) (wVar 3)))) (gT [(gN 5), (gN 6)])
  (sAsg2 (wBu (b2' minD) (aCons (w2 ixD (wVar 2) (wVar 5)) (aCons (w2 subD (wVar 6) (wC (.int 1))) aNil))) fun E d ρ μ Q => (g2S (wVar 2) (wVar 5)) d ρ μ Q (fun x μ' => E x ρ μ'))) sNil))
  (sRet (wFz 1 (wVar 2)))))
def c_tops_of : Con := loc (conB 7 2 w_tops_of)
def w_tops : WS := (sSeq (sExpr (wCallN c_check_book 1 [] (aCons (wVar 0) aNil)))
  (sRet (wBu (b1 tupD) (aCons (wCallN c_tops_of 2 [.tup []] (aCons (wVar 0) aNil)) aNil))))
def c_tops : Con := loc (conB 1 1 w_tops)
def w_fits_tops : WS := (sSeq (sFor (iEnm (wFz 1 (wProp 0 c_Book_looks (wVar 0)))) (gT [(gN 3), (gN 4)])
  (sSeq (sAsg (wAnd (w2 ixD (wVar 4) (wC (.int 2))) (w2 ninD (wVar 3) (wVar 2))) (gN 5))
  (sIf (tAn (tTru (wVar 5)) (tNo (tTru (wBu (b1 anyD) (aCons (wLc false (iSeq (wFz 1 (w2 ixD (wProp 0 c_Book_spans (wVar 0)) (wVar 3)))) (gT [(gN 6), (gN 7)]) tAll (w2 leD (wVar 7) (w2 ixD (wVar 1) (wVar 6))) [6, 7]) aNil)))))
  (sRet (wC (.bl false))) sNil)))
  (sRet (wC (.bl true))))
def c_fits_tops : Con := loc (conB 8 3 w_fits_tops)
def w_is_possible : WS := (sRet (wCallN c_fits_tops 3 [.tup []] (aCons (wVar 0) (aCons (wCallN c_tops_of 2 [.tup []] (aCons (wVar 0) aNil)) aNil))))
def c_is_possible : Con := loc (conB 1 1 w_is_possible)
def w_possible : WS := (sSeq (sExpr (wCallN c_check_book 1 [] (aCons (wVar 0) aNil)))
  (sRet (wCallN c_is_possible 1 [] (aCons (wVar 0) aNil))))
def c_possible : Con := loc (conB 1 1 w_possible)
def w_check_possible : WS := (sIf (tNo (tTru (wCallN c_is_possible 1 [] (aCons (wVar 0) aNil))))
  sNever sNil)
def c_check_possible : Con := loc (conB 1 1 w_check_possible)
def w_least_by : WS := (sSeq (sAsg (wC (.int 0)) (gN 4))
  (sSeq (sFor (iEnm (wFz 1 (wProp 0 c_Book_looks (wVar 0)))) (gT [(gN 5), (gN 6)])
  (sSeq (sAsg (wIf (tAn (tTru (w2 ixD (wVar 6) (wC (.int 2)))) (tBl (w2 ninD (wVar 5) (wVar 3)))) (wBu (bDictT false) (aCons (w2 ixD (wProp 0 c_Book_spans (wVar 0)) (wVar 5)) aNil)) (wDct0 false)) (gN 7))
  (sIf (tAn (tBl (w2 inD (wVar 2) (wVar 7))) (tNo (tTru (wBu (b1 anyD) (aCons (wLc false (iKy (wVar 7)) (gN 8) (tBl (w2 neqD (wVar 8) (wVar 2))) (w2 leD (w2 ixD (wVar 7) (wVar 8)) (w2 ixD (wVar 1) (wVar 8))) [8]) aNil)))))
  (sAsg (wBu (b2' maxD) (aCons (wVar 4) (aCons (w2 ixD (wVar 7) (wVar 2)) aNil))) (gN 4)) sNil)))
  (sRet (wVar 4))))
def c_least_by : Con := loc (conB 9 4 w_least_by)
def w_known_of : WS := (sSeq (sAsg (wCallN c_tops_of 2 [.tup []] (aCons (wVar 0) aNil)) (gN 1))
  (sRet (wLc false (iEnm (wFz 1 (wVar 1))) (gT [(gN 2), (gN 3)]) tAll (wTup (aCons (wCallN c_least_by 4 [.tup []] (aCons (wVar 0) (aCons (wVar 1) (aCons (wVar 2) aNil)))) (aCons (wVar 3) aNil))) [2, 3])))
def c_known_of : Con := loc (conB 4 1 w_known_of)
def w_known : WS := (sSeq (sExpr (wCallN c_check_book 1 [] (aCons (wVar 0) aNil)))
  (sSeq (sExpr (wCallN c_check_possible 1 [] (aCons (wVar 0) aNil)))
  (sRet (wBu (b1 tupD) (aCons (wCallN c_known_of 1 [] (aCons (wVar 0) aNil)) aNil)))))
def c_known : Con := loc (conB 1 1 w_known)
def w__law_right : WS := (sSeq (sAsg (wGc (wCallN c__law_cloths 3 [] (aCons (wVar 0) (aCons (wC (.int 6)) (aCons (wC (.int 12)) aNil))))) (gN 1))
  (sSeq (sAsg (wGc (wCallN c__law_drawn 3 [] (aCons (wVar 0) (aCons (wVar 1) (aCons (wC (.int 20)) aNil))))) (gN 2))
  (sSeq (sPar2 3 4 (aCons (wCallN c__law_book 2 [] (aCons (wVar 1) (aCons (wVar 2) aNil))) (aCons (wCallN c__law_book 2 [] (aCons (wVar 1) (aCons (wGc (wCallN c__law_exchanged 2 [] (aCons (wVar 0) (aCons (wVar 2) aNil)))) aNil))) aNil)))
  (sSeq (sIf (tOr' (tBl (w2 neqD (wProp 0 c_Book_lives (wVar 4)) (wProp 0 c_Book_lives (wVar 3)))) (tOr' (tBl (w2 neqD (wCallN c_tops 1 [] (aCons (wVar 4) aNil)) (wCallN c_tops 1 [] (aCons (wVar 3) aNil)))) (tBl (w2 neqD (wCallN c_possible 1 [] (aCons (wVar 4) aNil)) (wCallN c_possible 1 [] (aCons (wVar 3) aNil))))))
  (sRet (wC (.bl false))) sNil)
  (sRet (wOr (wNot (wCallN c_possible 1 [] (aCons (wVar 3) aNil))) (w2 eqqD (wCallN c_known 1 [] (aCons (wVar 4) aNil)) (wCallN c_known 1 [] (aCons (wVar 3) aNil)))))))))
def c__law_right : Con := loc (conB 5 1 w__law_right)
def w__law_cup : WS := (sSeq (sAsg (wIf (tBl (w2 ltD (wVar 1) (wBu (b1 lenD) (aCons (wVar 0) aNil)))) (w2 ixD (wVar 0) (wVar 1)) (w2 addD (wVar 1) (wC (.int 2)))) (gN 2))
  (sSeq (sAsg (w2 addD (wC (.int 120011)) (w2 mulD (wC (.int 3001)) (wVar 1))) (gN 3))
  (sSeq (sFor (iSeq (w2 addD (wSl (wVar 0) oNo (oYes (wC (.int 4)))) (wLst (aCons (wVar 2) aNil)))) (gN 4)
  (sAsg (w2 modD (wBu (b1 intD) (aCons (w2 addD (w2 mulD (wVar 3) (wC (.int 26021))) (wVar 4)) aNil)) (wC (.int 2147483477))) (gN 3)))
  (sRet (wLstO (aCons (wIf (tOr' (tBl (w2 ltD (wVar 2) (wC (.int 0)))) (tBl (w2 geD (wVar 2) (w2 powD (wC (.int 10)) (wC (.int 18)))))) (wBu (b1 absD) (aCons (wVar 2) aNil)) (wC (.int 0))) (aCons (wVar 3) (aCons (wC (.int 0)) aNil))))))))
def c__law_cup : Con := (conB 5 2 w__law_cup)
def w_law : WS := (sRet (wBu (b1 allD) (aCons (wLc false (iRg1 (wBu (b2' maxD) (aCons (wC (.int 2)) (aCons (wBu (b2' minD) (aCons (wBu (b1 lenD) (aCons (wVar 0) aNil)) (aCons (wC (.int 4)) aNil))) aNil)))) (gN 1) tAll (wLoc (wCallN c__law_right 1 [] (aCons (wCallN c__law_cup 2 [] (aCons (wVar 0) (aCons (wVar 1) aNil))) aNil))) [1]) aNil)))
def c_law : Con := loc (conB 2 1 w_law)
theorem r__law_sip {a0 a1 : D} {r : D} (h1 : noMs [a0, a1] = true) (h2 : noM r = true) (h : ∀ (Q : QD) (E : QX), ∃ μ', w__law_sip (endR Q E) [some a0, some a1, none] [] = Q r μ') : Ret c__law_sip [a0, a1] r := ret_loc rfl rfl h1 h2 h
theorem x__law_sip {a0 a1 : D} {r : Exc} (h1 : noMs [a0, a1] = true) (h2 : noMs r.fs = true) (h : ∀ (Q : QD) (E : QX), ∃ μ', w__law_sip (endR Q E) [some a0, some a1, none] [] = E r μ') : Rai c__law_sip [a0, a1] r := rai_loc rfl rfl h1 h2 h
theorem u__law_sip {a0 a1 : D} (h1 : noMs [a0, a1] = false) (μ : Sto) (Q : QD) (E : QX) : c__law_sip [a0, a1] μ Q E = w__law_sip (endR Q E) [some a0, some a1, none] μ := use_loc rfl rfl h1 μ Q E
theorem r__law_labels {a0 a1 : D} {r : D} (h1 : noMs [a0, a1] = true) (h2 : noM r = true) (h : ∀ (Q : QD) (E : QX), ∃ μ', w__law_labels (endR Q E) [some a0, some a1, none, none, none, none] [] = Q r μ') : Ret c__law_labels [a0, a1] r := ret_loc rfl rfl h1 h2 h
theorem x__law_labels {a0 a1 : D} {r : Exc} (h1 : noMs [a0, a1] = true) (h2 : noMs r.fs = true) (h : ∀ (Q : QD) (E : QX), ∃ μ', w__law_labels (endR Q E) [some a0, some a1, none, none, none, none] [] = E r μ') : Rai c__law_labels [a0, a1] r := rai_loc rfl rfl h1 h2 h
theorem u__law_labels {a0 a1 : D} (h1 : noMs [a0, a1] = false) (μ : Sto) (Q : QD) (E : QX) : c__law_labels [a0, a1] μ Q E = w__law_labels (endR Q E) [some a0, some a1, none, none, none, none] μ := use_loc rfl rfl h1 μ Q E
theorem r__law_cloths {a0 a1 a2 : D} {r : D} (h1 : noMs [a0, a1, a2] = true) (h2 : noM r = true) (h : ∀ (Q : QD) (E : QX), ∃ μ', w__law_cloths (endR Q E) [some a0, some a1, some a2, none, none, none, none] [] = Q r μ') : Ret c__law_cloths [a0, a1, a2] r := ret_loc rfl rfl h1 h2 h
theorem x__law_cloths {a0 a1 a2 : D} {r : Exc} (h1 : noMs [a0, a1, a2] = true) (h2 : noMs r.fs = true) (h : ∀ (Q : QD) (E : QX), ∃ μ', w__law_cloths (endR Q E) [some a0, some a1, some a2, none, none, none, none] [] = E r μ') : Rai c__law_cloths [a0, a1, a2] r := rai_loc rfl rfl h1 h2 h
theorem u__law_cloths {a0 a1 a2 : D} (h1 : noMs [a0, a1, a2] = false) (μ : Sto) (Q : QD) (E : QX) : c__law_cloths [a0, a1, a2] μ Q E = w__law_cloths (endR Q E) [some a0, some a1, some a2, none, none, none, none] μ := use_loc rfl rfl h1 μ Q E
theorem r__law_hues {a0 : D} {r : D} (h1 : noMs [a0] = true) (h2 : noM r = true) (h : ∀ (Q : QD) (E : QX), ∃ μ', w__law_hues (endR Q E) [some a0, none, none] [] = Q r μ') : Ret c__law_hues [a0] r := ret_loc rfl rfl h1 h2 h
theorem x__law_hues {a0 : D} {r : Exc} (h1 : noMs [a0] = true) (h2 : noMs r.fs = true) (h : ∀ (Q : QD) (E : QX), ∃ μ', w__law_hues (endR Q E) [some a0, none, none] [] = E r μ') : Rai c__law_hues [a0] r := rai_loc rfl rfl h1 h2 h
theorem u__law_hues {a0 : D} (h1 : noMs [a0] = false) (μ : Sto) (Q : QD) (E : QX) : c__law_hues [a0] μ Q E = w__law_hues (endR Q E) [some a0, none, none] μ := use_loc rfl rfl h1 μ Q E
theorem r__law_drawn {a0 a1 a2 : D} {r : D} (h1 : noMs [a0, a1, a2] = true) (h2 : noM r = true) (h : ∀ (Q : QD) (E : QX), ∃ μ', w__law_drawn (endR Q E) [some a0, some a1, some a2, none, none, none, none, none, none, none, none, none, none, none, none] [] = Q r μ') : Ret c__law_drawn [a0, a1, a2] r := ret_loc rfl rfl h1 h2 h
theorem x__law_drawn {a0 a1 a2 : D} {r : Exc} (h1 : noMs [a0, a1, a2] = true) (h2 : noMs r.fs = true) (h : ∀ (Q : QD) (E : QX), ∃ μ', w__law_drawn (endR Q E) [some a0, some a1, some a2, none, none, none, none, none, none, none, none, none, none, none, none] [] = E r μ') : Rai c__law_drawn [a0, a1, a2] r := rai_loc rfl rfl h1 h2 h
theorem u__law_drawn {a0 a1 a2 : D} (h1 : noMs [a0, a1, a2] = false) (μ : Sto) (Q : QD) (E : QX) : c__law_drawn [a0, a1, a2] μ Q E = w__law_drawn (endR Q E) [some a0, some a1, some a2, none, none, none, none, none, none, none, none, none, none, none, none] μ := use_loc rfl rfl h1 μ Q E
theorem r_is_name {a0 : D} {r : D} (h1 : noMs [a0] = true) (h2 : noM r = true) (h : ∀ (Q : QD) (E : QX), ∃ μ', w_is_name (endR Q E) [some a0, none] [] = Q r μ') : Ret c_is_name [a0] r := ret_loc rfl rfl h1 h2 h
theorem x_is_name {a0 : D} {r : Exc} (h1 : noMs [a0] = true) (h2 : noMs r.fs = true) (h : ∀ (Q : QD) (E : QX), ∃ μ', w_is_name (endR Q E) [some a0, none] [] = E r μ') : Rai c_is_name [a0] r := rai_loc rfl rfl h1 h2 h
theorem u_is_name {a0 : D} (h1 : noMs [a0] = false) (μ : Sto) (Q : QD) (E : QX) : c_is_name [a0] μ Q E = w_is_name (endR Q E) [some a0, none] μ := use_loc rfl rfl h1 μ Q E
theorem r_is_integer {a0 : D} {r : D} (h1 : noMs [a0] = true) (h2 : noM r = true) (h : ∀ (Q : QD) (E : QX), ∃ μ', w_is_integer (endR Q E) [some a0] [] = Q r μ') : Ret c_is_integer [a0] r := ret_loc rfl rfl h1 h2 h
theorem x_is_integer {a0 : D} {r : Exc} (h1 : noMs [a0] = true) (h2 : noMs r.fs = true) (h : ∀ (Q : QD) (E : QX), ∃ μ', w_is_integer (endR Q E) [some a0] [] = E r μ') : Rai c_is_integer [a0] r := rai_loc rfl rfl h1 h2 h
theorem u_is_integer {a0 : D} (h1 : noMs [a0] = false) (μ : Sto) (Q : QD) (E : QX) : c_is_integer [a0] μ Q E = w_is_integer (endR Q E) [some a0] μ := use_loc rfl rfl h1 μ Q E
theorem r_is_between {a0 a1 a2 : D} {r : D} (h1 : noMs [a0, a1, a2] = true) (h2 : noM r = true) (h : ∀ (Q : QD) (E : QX), ∃ μ', w_is_between (endR Q E) [some a0, some a1, some a2] [] = Q r μ') : Ret c_is_between [a0, a1, a2] r := ret_loc rfl rfl h1 h2 h
theorem x_is_between {a0 a1 a2 : D} {r : Exc} (h1 : noMs [a0, a1, a2] = true) (h2 : noMs r.fs = true) (h : ∀ (Q : QD) (E : QX), ∃ μ', w_is_between (endR Q E) [some a0, some a1, some a2] [] = E r μ') : Rai c_is_between [a0, a1, a2] r := rai_loc rfl rfl h1 h2 h
theorem u_is_between {a0 a1 a2 : D} (h1 : noMs [a0, a1, a2] = false) (μ : Sto) (Q : QD) (E : QX) : c_is_between [a0, a1, a2] μ Q E = w_is_between (endR Q E) [some a0, some a1, some a2] μ := use_loc rfl rfl h1 μ Q E
theorem r_is_garment {a0 : D} {r : D} (h1 : noMs [a0] = true) (h2 : noM r = true) (h : ∀ (Q : QD) (E : QX), ∃ μ', w_is_garment (endR Q E) [some a0] [] = Q r μ') : Ret c_is_garment [a0] r := ret_loc rfl rfl h1 h2 h
theorem x_is_garment {a0 : D} {r : Exc} (h1 : noMs [a0] = true) (h2 : noMs r.fs = true) (h : ∀ (Q : QD) (E : QX), ∃ μ', w_is_garment (endR Q E) [some a0] [] = E r μ') : Rai c_is_garment [a0] r := rai_loc rfl rfl h1 h2 h
theorem u_is_garment {a0 : D} (h1 : noMs [a0] = false) (μ : Sto) (Q : QD) (E : QX) : c_is_garment [a0] μ Q E = w_is_garment (endR Q E) [some a0] μ := use_loc rfl rfl h1 μ Q E
theorem r_check_garments {a0 : D} {r : D} (h1 : noMs [a0] = true) (h2 : noM r = true) (h : ∀ (Q : QD) (E : QX), ∃ μ', w_check_garments (endR Q E) [some a0, none, none, none] [] = Q r μ') : Ret c_check_garments [a0] r := ret_loc rfl rfl h1 h2 h
theorem x_check_garments {a0 : D} {r : Exc} (h1 : noMs [a0] = true) (h2 : noMs r.fs = true) (h : ∀ (Q : QD) (E : QX), ∃ μ', w_check_garments (endR Q E) [some a0, none, none, none] [] = E r μ') : Rai c_check_garments [a0] r := rai_loc rfl rfl h1 h2 h
theorem u_check_garments {a0 : D} (h1 : noMs [a0] = false) (μ : Sto) (Q : QD) (E : QX) : c_check_garments [a0] μ Q E = w_check_garments (endR Q E) [some a0, none, none, none] μ := use_loc rfl rfl h1 μ Q E
theorem r_parted_at {a0 a1 : D} {r : D} (h1 : noMs [a0, a1] = true) (h2 : noM r = true) (h : ∀ (Q : QD) (E : QX), ∃ μ', w_parted_at (endR Q E) [some a0, some a1, none] [] = Q r μ') : Ret c_parted_at [a0, a1] r := ret_loc rfl rfl h1 h2 h
theorem x_parted_at {a0 a1 : D} {r : Exc} (h1 : noMs [a0, a1] = true) (h2 : noMs r.fs = true) (h : ∀ (Q : QD) (E : QX), ∃ μ', w_parted_at (endR Q E) [some a0, some a1, none] [] = E r μ') : Rai c_parted_at [a0, a1] r := rai_loc rfl rfl h1 h2 h
theorem u_parted_at {a0 a1 : D} (h1 : noMs [a0, a1] = false) (μ : Sto) (Q : QD) (E : QX) : c_parted_at [a0, a1] μ Q E = w_parted_at (endR Q E) [some a0, some a1, none] μ := use_loc rfl rfl h1 μ Q E
theorem r_dyes_in {a0 : D} {r : D} (h1 : noMs [a0] = true) (h2 : noM r = true) (h : ∀ (Q : QD) (E : QX), ∃ μ', w_dyes_in (endR Q E) [some a0, none] [] = Q r μ') : Ret c_dyes_in [a0] r := ret_loc rfl rfl h1 h2 h
theorem x_dyes_in {a0 : D} {r : Exc} (h1 : noMs [a0] = true) (h2 : noMs r.fs = true) (h : ∀ (Q : QD) (E : QX), ∃ μ', w_dyes_in (endR Q E) [some a0, none] [] = E r μ') : Rai c_dyes_in [a0] r := rai_loc rfl rfl h1 h2 h
theorem u_dyes_in {a0 : D} (h1 : noMs [a0] = false) (μ : Sto) (Q : QD) (E : QX) : c_dyes_in [a0] μ Q E = w_dyes_in (endR Q E) [some a0, none] μ := use_loc rfl rfl h1 μ Q E
theorem r_are_different {a0 : D} {r : D} (h1 : noMs [a0] = true) (h2 : noM r = true) (h : ∀ (Q : QD) (E : QX), ∃ μ', w_are_different (endR Q E) [some a0, none, none] [] = Q r μ') : Ret c_are_different [a0] r := ret_loc rfl rfl h1 h2 h
theorem x_are_different {a0 : D} {r : Exc} (h1 : noMs [a0] = true) (h2 : noMs r.fs = true) (h : ∀ (Q : QD) (E : QX), ∃ μ', w_are_different (endR Q E) [some a0, none, none] [] = E r μ') : Rai c_are_different [a0] r := rai_loc rfl rfl h1 h2 h
theorem u_are_different {a0 : D} (h1 : noMs [a0] = false) (μ : Sto) (Q : QD) (E : QX) : c_are_different [a0] μ Q E = w_are_different (endR Q E) [some a0, none, none] μ := use_loc rfl rfl h1 μ Q E
theorem r_names_in {a0 : D} {r : D} (h1 : noMs [a0] = true) (h2 : noM r = true) (h : ∀ (Q : QD) (E : QX), ∃ μ', w_names_in (endR Q E) [some a0, none] [] = Q r μ') : Ret c_names_in [a0] r := ret_loc rfl rfl h1 h2 h
theorem x_names_in {a0 : D} {r : Exc} (h1 : noMs [a0] = true) (h2 : noMs r.fs = true) (h : ∀ (Q : QD) (E : QX), ∃ μ', w_names_in (endR Q E) [some a0, none] [] = E r μ') : Rai c_names_in [a0] r := rai_loc rfl rfl h1 h2 h
theorem u_names_in {a0 : D} (h1 : noMs [a0] = false) (μ : Sto) (Q : QD) (E : QX) : c_names_in [a0] μ Q E = w_names_in (endR Q E) [some a0, none] μ := use_loc rfl rfl h1 μ Q E
theorem r_wash_in {a0 a1 : D} {r : D} (h1 : noMs [a0, a1] = true) (h2 : noM r = true) (h : ∀ (Q : QD) (E : QX), ∃ μ', w_wash_in (endR Q E) [some a0, some a1, none, none, none, none, none, none, none, none, none, none] [] = Q r μ') : Ret c_wash_in [a0, a1] r := ret_loc rfl rfl h1 h2 h
theorem x_wash_in {a0 a1 : D} {r : Exc} (h1 : noMs [a0, a1] = true) (h2 : noMs r.fs = true) (h : ∀ (Q : QD) (E : QX), ∃ μ', w_wash_in (endR Q E) [some a0, some a1, none, none, none, none, none, none, none, none, none, none] [] = E r μ') : Rai c_wash_in [a0, a1] r := rai_loc rfl rfl h1 h2 h
theorem u_wash_in {a0 a1 : D} (h1 : noMs [a0, a1] = false) (μ : Sto) (Q : QD) (E : QX) : c_wash_in [a0, a1] μ Q E = w_wash_in (endR Q E) [some a0, some a1, none, none, none, none, none, none, none, none, none, none] μ := use_loc rfl rfl h1 μ Q E
theorem r_entry_in {a0 a1 : D} {r : D} (h1 : noMs [a0, a1] = true) (h2 : noM r = true) (h : ∀ (Q : QD) (E : QX), ∃ μ', w_entry_in (endR Q E) [some a0, some a1, none] [] = Q r μ') : Ret c_entry_in [a0, a1] r := ret_loc rfl rfl h1 h2 h
theorem x_entry_in {a0 a1 : D} {r : Exc} (h1 : noMs [a0, a1] = true) (h2 : noMs r.fs = true) (h : ∀ (Q : QD) (E : QX), ∃ μ', w_entry_in (endR Q E) [some a0, some a1, none] [] = E r μ') : Rai c_entry_in [a0, a1] r := rai_loc rfl rfl h1 h2 h
theorem u_entry_in {a0 a1 : D} (h1 : noMs [a0, a1] = false) (μ : Sto) (Q : QD) (E : QX) : c_entry_in [a0, a1] μ Q E = w_entry_in (endR Q E) [some a0, some a1, none] μ := use_loc rfl rfl h1 μ Q E
theorem r_check_lines {a0 a1 : D} {r : D} (h1 : noMs [a0, a1] = true) (h2 : noM r = true) (h : ∀ (Q : QD) (E : QX), ∃ μ', w_check_lines (endR Q E) [some a0, some a1, none, none] [] = Q r μ') : Ret c_check_lines [a0, a1] r := ret_loc rfl rfl h1 h2 h
theorem x_check_lines {a0 a1 : D} {r : Exc} (h1 : noMs [a0, a1] = true) (h2 : noMs r.fs = true) (h : ∀ (Q : QD) (E : QX), ∃ μ', w_check_lines (endR Q E) [some a0, some a1, none, none] [] = E r μ') : Rai c_check_lines [a0, a1] r := rai_loc rfl rfl h1 h2 h
theorem u_check_lines {a0 a1 : D} (h1 : noMs [a0, a1] = false) (μ : Sto) (Q : QD) (E : QX) : c_check_lines [a0, a1] μ Q E = w_check_lines (endR Q E) [some a0, some a1, none, none] μ := use_loc rfl rfl h1 μ Q E
theorem r_Walk_wash {a0 a1 a2 a3 a4 : D} {r : D} (h1 : noMs [a0, a1, a2, a3, a4] = true) (h2 : noM r = true) (h : ∀ (Q : QD) (E : QX), ∃ μ', w_Walk_wash (endR Q E) [some a0, some a1, some a2, some a3, some a4, none, none, none, none, none] [] = Q r μ') : Ret c_Walk_wash [a0, a1, a2, a3, a4] r := ret_loc rfl rfl h1 h2 h
theorem x_Walk_wash {a0 a1 a2 a3 a4 : D} {r : Exc} (h1 : noMs [a0, a1, a2, a3, a4] = true) (h2 : noMs r.fs = true) (h : ∀ (Q : QD) (E : QX), ∃ μ', w_Walk_wash (endR Q E) [some a0, some a1, some a2, some a3, some a4, none, none, none, none, none] [] = E r μ') : Rai c_Walk_wash [a0, a1, a2, a3, a4] r := rai_loc rfl rfl h1 h2 h
theorem u_Walk_wash {a0 a1 a2 a3 a4 : D} (h1 : noMs [a0, a1, a2, a3, a4] = false) (μ : Sto) (Q : QD) (E : QX) : c_Walk_wash [a0, a1, a2, a3, a4] μ Q E = w_Walk_wash (endR Q E) [some a0, some a1, some a2, some a3, some a4, none, none, none, none, none] μ := use_loc rfl rfl h1 μ Q E
theorem r_Walk_go {a0 a1 a2 : D} {r : D} (h1 : noMs [a0, a1, a2] = true) (h2 : noM r = true) (h : ∀ (Q : QD) (E : QX), ∃ μ', w_Walk_go (endR Q E) [some a0, some a1, some a2, none, none, none, none, none, none] [] = Q r μ') : Ret c_Walk_go [a0, a1, a2] r := ret_loc rfl rfl h1 h2 h
theorem x_Walk_go {a0 a1 a2 : D} {r : Exc} (h1 : noMs [a0, a1, a2] = true) (h2 : noMs r.fs = true) (h : ∀ (Q : QD) (E : QX), ∃ μ', w_Walk_go (endR Q E) [some a0, some a1, some a2, none, none, none, none, none, none] [] = E r μ') : Rai c_Walk_go [a0, a1, a2] r := rai_loc rfl rfl h1 h2 h
theorem u_Walk_go {a0 a1 a2 : D} (h1 : noMs [a0, a1, a2] = false) (μ : Sto) (Q : QD) (E : QX) : c_Walk_go [a0, a1, a2] μ Q E = w_Walk_go (endR Q E) [some a0, some a1, some a2, none, none, none, none, none, none] μ := use_loc rfl rfl h1 μ Q E
theorem r_Walk_init {a0 a1 a2 : D} {r : D} (h1 : noMs [a0, a1, a2] = true) (h2 : noM r = true) (h : ∀ (Q : QD) (E : QX), ∃ μ', w_Walk_init (endR Q E) [some a0, some a1, some a2, none, none, none, none, none] [] = Q r μ') : Ret c_Walk_init [a0, a1, a2] r := ret_loc rfl rfl h1 h2 h
theorem x_Walk_init {a0 a1 a2 : D} {r : Exc} (h1 : noMs [a0, a1, a2] = true) (h2 : noMs r.fs = true) (h : ∀ (Q : QD) (E : QX), ∃ μ', w_Walk_init (endR Q E) [some a0, some a1, some a2, none, none, none, none, none] [] = E r μ') : Rai c_Walk_init [a0, a1, a2] r := rai_loc rfl rfl h1 h2 h
theorem u_Walk_init {a0 a1 a2 : D} (h1 : noMs [a0, a1, a2] = false) (μ : Sto) (Q : QD) (E : QX) : c_Walk_init [a0, a1, a2] μ Q E = w_Walk_init (endR Q E) [some a0, some a1, some a2, none, none, none, none, none] μ := use_loc rfl rfl h1 μ Q E
theorem r_Book_init {a0 a1 a2 : D} {r : D} (h1 : noMs [a0, a1, a2] = true) (h2 : noM r = true) (h : ∀ (Q : QD) (E : QX), ∃ μ', w_Book_init (endR Q E) [some a0, some a1, some a2, none] [] = Q r μ') : Ret c_Book_init [a0, a1, a2] r := ret_loc rfl rfl h1 h2 h
theorem x_Book_init {a0 a1 a2 : D} {r : Exc} (h1 : noMs [a0, a1, a2] = true) (h2 : noMs r.fs = true) (h : ∀ (Q : QD) (E : QX), ∃ μ', w_Book_init (endR Q E) [some a0, some a1, some a2, none] [] = E r μ') : Rai c_Book_init [a0, a1, a2] r := rai_loc rfl rfl h1 h2 h
theorem u_Book_init {a0 a1 a2 : D} (h1 : noMs [a0, a1, a2] = false) (μ : Sto) (Q : QD) (E : QX) : c_Book_init [a0, a1, a2] μ Q E = w_Book_init (endR Q E) [some a0, some a1, some a2, none] μ := use_loc rfl rfl h1 μ Q E
theorem r__law_row {a0 a1 : D} {r : D} (h1 : noMs [a0, a1] = true) (h2 : noM r = true) (h : ∀ (Q : QD) (E : QX), ∃ μ', w__law_row (endR Q E) [some a0, some a1, none, none] [] = Q r μ') : Ret c__law_row [a0, a1] r := ret_loc rfl rfl h1 h2 h
theorem x__law_row {a0 a1 : D} {r : Exc} (h1 : noMs [a0, a1] = true) (h2 : noMs r.fs = true) (h : ∀ (Q : QD) (E : QX), ∃ μ', w__law_row (endR Q E) [some a0, some a1, none, none] [] = E r μ') : Rai c__law_row [a0, a1] r := rai_loc rfl rfl h1 h2 h
theorem u__law_row {a0 a1 : D} (h1 : noMs [a0, a1] = false) (μ : Sto) (Q : QD) (E : QX) : c__law_row [a0, a1] μ Q E = w__law_row (endR Q E) [some a0, some a1, none, none] μ := use_loc rfl rfl h1 μ Q E
theorem r__law_book {a0 a1 : D} {r : D} (h1 : noMs [a0, a1] = true) (h2 : noM r = true) (h : ∀ (Q : QD) (E : QX), ∃ μ', w__law_book (endR Q E) [some a0, some a1, none] [] = Q r μ') : Ret c__law_book [a0, a1] r := ret_loc rfl rfl h1 h2 h
theorem x__law_book {a0 a1 : D} {r : Exc} (h1 : noMs [a0, a1] = true) (h2 : noMs r.fs = true) (h : ∀ (Q : QD) (E : QX), ∃ μ', w__law_book (endR Q E) [some a0, some a1, none] [] = E r μ') : Rai c__law_book [a0, a1] r := rai_loc rfl rfl h1 h2 h
theorem u__law_book {a0 a1 : D} (h1 : noMs [a0, a1] = false) (μ : Sto) (Q : QD) (E : QX) : c__law_book [a0, a1] μ Q E = w__law_book (endR Q E) [some a0, some a1, none] μ := use_loc rfl rfl h1 μ Q E
theorem r__law_places {a0 : D} {r : D} (h1 : noMs [a0] = true) (h2 : noM r = true) (h : ∀ (Q : QD) (E : QX), ∃ μ', w__law_places (endR Q E) [some a0] [] = Q r μ') : Ret c__law_places [a0] r := ret_loc rfl rfl h1 h2 h
theorem x__law_places {a0 : D} {r : Exc} (h1 : noMs [a0] = true) (h2 : noMs r.fs = true) (h : ∀ (Q : QD) (E : QX), ∃ μ', w__law_places (endR Q E) [some a0] [] = E r μ') : Rai c__law_places [a0] r := rai_loc rfl rfl h1 h2 h
theorem u__law_places {a0 : D} (h1 : noMs [a0] = false) (μ : Sto) (Q : QD) (E : QX) : c__law_places [a0] μ Q E = w__law_places (endR Q E) [some a0] μ := use_loc rfl rfl h1 μ Q E
theorem r__law_exchanged {a0 a1 : D} {r : D} (h1 : noMs [a0, a1] = true) (h2 : noM r = true) (h : ∀ (Q : QD) (E : QX), ∃ μ', w__law_exchanged (endR Q E) [some a0, some a1, none, none, none, none, none, none] [] = Q r μ') : Ret c__law_exchanged [a0, a1] r := ret_loc rfl rfl h1 h2 h
theorem x__law_exchanged {a0 a1 : D} {r : Exc} (h1 : noMs [a0, a1] = true) (h2 : noMs r.fs = true) (h : ∀ (Q : QD) (E : QX), ∃ μ', w__law_exchanged (endR Q E) [some a0, some a1, none, none, none, none, none, none] [] = E r μ') : Rai c__law_exchanged [a0, a1] r := rai_loc rfl rfl h1 h2 h
theorem u__law_exchanged {a0 a1 : D} (h1 : noMs [a0, a1] = false) (μ : Sto) (Q : QD) (E : QX) : c__law_exchanged [a0, a1] μ Q E = w__law_exchanged (endR Q E) [some a0, some a1, none, none, none, none, none, none] μ := use_loc rfl rfl h1 μ Q E
theorem r_Book_lives {a0 : D} {r : D} (h1 : noMs [a0] = true) (h2 : noM r = true) (h : ∀ (Q : QD) (E : QX), ∃ μ', w_Book_lives (endR Q E) [some a0] [] = Q r μ') : Ret c_Book_lives [a0] r := ret_loc rfl rfl h1 h2 h
theorem x_Book_lives {a0 : D} {r : Exc} (h1 : noMs [a0] = true) (h2 : noMs r.fs = true) (h : ∀ (Q : QD) (E : QX), ∃ μ', w_Book_lives (endR Q E) [some a0] [] = E r μ') : Rai c_Book_lives [a0] r := rai_loc rfl rfl h1 h2 h
theorem u_Book_lives {a0 : D} (h1 : noMs [a0] = false) (μ : Sto) (Q : QD) (E : QX) : c_Book_lives [a0] μ Q E = w_Book_lives (endR Q E) [some a0] μ := use_loc rfl rfl h1 μ Q E
theorem r_check_book {a0 : D} {r : D} (h1 : noMs [a0] = true) (h2 : noM r = true) (h : ∀ (Q : QD) (E : QX), ∃ μ', w_check_book (endR Q E) [some a0] [] = Q r μ') : Ret c_check_book [a0] r := ret_loc rfl rfl h1 h2 h
theorem x_check_book {a0 : D} {r : Exc} (h1 : noMs [a0] = true) (h2 : noMs r.fs = true) (h : ∀ (Q : QD) (E : QX), ∃ μ', w_check_book (endR Q E) [some a0] [] = E r μ') : Rai c_check_book [a0] r := rai_loc rfl rfl h1 h2 h
theorem u_check_book {a0 : D} (h1 : noMs [a0] = false) (μ : Sto) (Q : QD) (E : QX) : c_check_book [a0] μ Q E = w_check_book (endR Q E) [some a0] μ := use_loc rfl rfl h1 μ Q E
theorem r_Book_garments {a0 : D} {r : D} (h1 : noMs [a0] = true) (h2 : noM r = true) (h : ∀ (Q : QD) (E : QX), ∃ μ', w_Book_garments (endR Q E) [some a0] [] = Q r μ') : Ret c_Book_garments [a0] r := ret_loc rfl rfl h1 h2 h
theorem x_Book_garments {a0 : D} {r : Exc} (h1 : noMs [a0] = true) (h2 : noMs r.fs = true) (h : ∀ (Q : QD) (E : QX), ∃ μ', w_Book_garments (endR Q E) [some a0] [] = E r μ') : Rai c_Book_garments [a0] r := rai_loc rfl rfl h1 h2 h
theorem u_Book_garments {a0 : D} (h1 : noMs [a0] = false) (μ : Sto) (Q : QD) (E : QX) : c_Book_garments [a0] μ Q E = w_Book_garments (endR Q E) [some a0] μ := use_loc rfl rfl h1 μ Q E
theorem r_garment_of {a0 a1 : D} {r : D} (h1 : noMs [a0, a1] = true) (h2 : noM r = true) (h : ∀ (Q : QD) (E : QX), ∃ μ', w_garment_of (endR Q E) [some a0, some a1] [] = Q r μ') : Ret c_garment_of [a0, a1] r := ret_loc rfl rfl h1 h2 h
theorem x_garment_of {a0 a1 : D} {r : Exc} (h1 : noMs [a0, a1] = true) (h2 : noMs r.fs = true) (h : ∀ (Q : QD) (E : QX), ∃ μ', w_garment_of (endR Q E) [some a0, some a1] [] = E r μ') : Rai c_garment_of [a0, a1] r := rai_loc rfl rfl h1 h2 h
theorem u_garment_of {a0 a1 : D} (h1 : noMs [a0, a1] = false) (μ : Sto) (Q : QD) (E : QX) : c_garment_of [a0, a1] μ Q E = w_garment_of (endR Q E) [some a0, some a1] μ := use_loc rfl rfl h1 μ Q E
theorem r_top_of {a0 a1 : D} {r : D} (h1 : noMs [a0, a1] = true) (h2 : noM r = true) (h : ∀ (Q : QD) (E : QX), ∃ μ', w_top_of (endR Q E) [some a0, some a1] [] = Q r μ') : Ret c_top_of [a0, a1] r := ret_loc rfl rfl h1 h2 h
theorem x_top_of {a0 a1 : D} {r : Exc} (h1 : noMs [a0, a1] = true) (h2 : noMs r.fs = true) (h : ∀ (Q : QD) (E : QX), ∃ μ', w_top_of (endR Q E) [some a0, some a1] [] = E r μ') : Rai c_top_of [a0, a1] r := rai_loc rfl rfl h1 h2 h
theorem u_top_of {a0 a1 : D} (h1 : noMs [a0, a1] = false) (μ : Sto) (Q : QD) (E : QX) : c_top_of [a0, a1] μ Q E = w_top_of (endR Q E) [some a0, some a1] μ := use_loc rfl rfl h1 μ Q E
theorem r_Book_looks {a0 : D} {r : D} (h1 : noMs [a0] = true) (h2 : noM r = true) (h : ∀ (Q : QD) (E : QX), ∃ μ', w_Book_looks (endR Q E) [some a0] [] = Q r μ') : Ret c_Book_looks [a0] r := ret_loc rfl rfl h1 h2 h
theorem x_Book_looks {a0 : D} {r : Exc} (h1 : noMs [a0] = true) (h2 : noMs r.fs = true) (h : ∀ (Q : QD) (E : QX), ∃ μ', w_Book_looks (endR Q E) [some a0] [] = E r μ') : Rai c_Book_looks [a0] r := rai_loc rfl rfl h1 h2 h
theorem u_Book_looks {a0 : D} (h1 : noMs [a0] = false) (μ : Sto) (Q : QD) (E : QX) : c_Book_looks [a0] μ Q E = w_Book_looks (endR Q E) [some a0] μ := use_loc rfl rfl h1 μ Q E
theorem r_Book_spans {a0 : D} {r : D} (h1 : noMs [a0] = true) (h2 : noM r = true) (h : ∀ (Q : QD) (E : QX), ∃ μ', w_Book_spans (endR Q E) [some a0] [] = Q r μ') : Ret c_Book_spans [a0] r := ret_loc rfl rfl h1 h2 h
theorem x_Book_spans {a0 : D} {r : Exc} (h1 : noMs [a0] = true) (h2 : noMs r.fs = true) (h : ∀ (Q : QD) (E : QX), ∃ μ', w_Book_spans (endR Q E) [some a0] [] = E r μ') : Rai c_Book_spans [a0] r := rai_loc rfl rfl h1 h2 h
theorem u_Book_spans {a0 : D} (h1 : noMs [a0] = false) (μ : Sto) (Q : QD) (E : QX) : c_Book_spans [a0] μ Q E = w_Book_spans (endR Q E) [some a0] μ := use_loc rfl rfl h1 μ Q E
theorem r_tops_of {a0 a1 : D} {r : D} (h1 : noMs [a0, a1] = true) (h2 : noM r = true) (h : ∀ (Q : QD) (E : QX), ∃ μ', w_tops_of (endR Q E) [some a0, some a1, none, none, none, none, none] [] = Q r μ') : Ret c_tops_of [a0, a1] r := ret_loc rfl rfl h1 h2 h
theorem x_tops_of {a0 a1 : D} {r : Exc} (h1 : noMs [a0, a1] = true) (h2 : noMs r.fs = true) (h : ∀ (Q : QD) (E : QX), ∃ μ', w_tops_of (endR Q E) [some a0, some a1, none, none, none, none, none] [] = E r μ') : Rai c_tops_of [a0, a1] r := rai_loc rfl rfl h1 h2 h
theorem u_tops_of {a0 a1 : D} (h1 : noMs [a0, a1] = false) (μ : Sto) (Q : QD) (E : QX) : c_tops_of [a0, a1] μ Q E = w_tops_of (endR Q E) [some a0, some a1, none, none, none, none, none] μ := use_loc rfl rfl h1 μ Q E
theorem r_tops {a0 : D} {r : D} (h1 : noMs [a0] = true) (h2 : noM r = true) (h : ∀ (Q : QD) (E : QX), ∃ μ', w_tops (endR Q E) [some a0] [] = Q r μ') : Ret c_tops [a0] r := ret_loc rfl rfl h1 h2 h
theorem x_tops {a0 : D} {r : Exc} (h1 : noMs [a0] = true) (h2 : noMs r.fs = true) (h : ∀ (Q : QD) (E : QX), ∃ μ', w_tops (endR Q E) [some a0] [] = E r μ') : Rai c_tops [a0] r := rai_loc rfl rfl h1 h2 h
theorem u_tops {a0 : D} (h1 : noMs [a0] = false) (μ : Sto) (Q : QD) (E : QX) : c_tops [a0] μ Q E = w_tops (endR Q E) [some a0] μ := use_loc rfl rfl h1 μ Q E
theorem r_fits_tops {a0 a1 a2 : D} {r : D} (h1 : noMs [a0, a1, a2] = true) (h2 : noM r = true) (h : ∀ (Q : QD) (E : QX), ∃ μ', w_fits_tops (endR Q E) [some a0, some a1, some a2, none, none, none, none, none] [] = Q r μ') : Ret c_fits_tops [a0, a1, a2] r := ret_loc rfl rfl h1 h2 h
theorem x_fits_tops {a0 a1 a2 : D} {r : Exc} (h1 : noMs [a0, a1, a2] = true) (h2 : noMs r.fs = true) (h : ∀ (Q : QD) (E : QX), ∃ μ', w_fits_tops (endR Q E) [some a0, some a1, some a2, none, none, none, none, none] [] = E r μ') : Rai c_fits_tops [a0, a1, a2] r := rai_loc rfl rfl h1 h2 h
theorem u_fits_tops {a0 a1 a2 : D} (h1 : noMs [a0, a1, a2] = false) (μ : Sto) (Q : QD) (E : QX) : c_fits_tops [a0, a1, a2] μ Q E = w_fits_tops (endR Q E) [some a0, some a1, some a2, none, none, none, none, none] μ := use_loc rfl rfl h1 μ Q E
theorem r_is_possible {a0 : D} {r : D} (h1 : noMs [a0] = true) (h2 : noM r = true) (h : ∀ (Q : QD) (E : QX), ∃ μ', w_is_possible (endR Q E) [some a0] [] = Q r μ') : Ret c_is_possible [a0] r := ret_loc rfl rfl h1 h2 h
theorem x_is_possible {a0 : D} {r : Exc} (h1 : noMs [a0] = true) (h2 : noMs r.fs = true) (h : ∀ (Q : QD) (E : QX), ∃ μ', w_is_possible (endR Q E) [some a0] [] = E r μ') : Rai c_is_possible [a0] r := rai_loc rfl rfl h1 h2 h
theorem u_is_possible {a0 : D} (h1 : noMs [a0] = false) (μ : Sto) (Q : QD) (E : QX) : c_is_possible [a0] μ Q E = w_is_possible (endR Q E) [some a0] μ := use_loc rfl rfl h1 μ Q E
theorem r_possible {a0 : D} {r : D} (h1 : noMs [a0] = true) (h2 : noM r = true) (h : ∀ (Q : QD) (E : QX), ∃ μ', w_possible (endR Q E) [some a0] [] = Q r μ') : Ret c_possible [a0] r := ret_loc rfl rfl h1 h2 h
theorem x_possible {a0 : D} {r : Exc} (h1 : noMs [a0] = true) (h2 : noMs r.fs = true) (h : ∀ (Q : QD) (E : QX), ∃ μ', w_possible (endR Q E) [some a0] [] = E r μ') : Rai c_possible [a0] r := rai_loc rfl rfl h1 h2 h
theorem u_possible {a0 : D} (h1 : noMs [a0] = false) (μ : Sto) (Q : QD) (E : QX) : c_possible [a0] μ Q E = w_possible (endR Q E) [some a0] μ := use_loc rfl rfl h1 μ Q E
theorem r_check_possible {a0 : D} {r : D} (h1 : noMs [a0] = true) (h2 : noM r = true) (h : ∀ (Q : QD) (E : QX), ∃ μ', w_check_possible (endR Q E) [some a0] [] = Q r μ') : Ret c_check_possible [a0] r := ret_loc rfl rfl h1 h2 h
theorem x_check_possible {a0 : D} {r : Exc} (h1 : noMs [a0] = true) (h2 : noMs r.fs = true) (h : ∀ (Q : QD) (E : QX), ∃ μ', w_check_possible (endR Q E) [some a0] [] = E r μ') : Rai c_check_possible [a0] r := rai_loc rfl rfl h1 h2 h
theorem u_check_possible {a0 : D} (h1 : noMs [a0] = false) (μ : Sto) (Q : QD) (E : QX) : c_check_possible [a0] μ Q E = w_check_possible (endR Q E) [some a0] μ := use_loc rfl rfl h1 μ Q E
theorem r_least_by {a0 a1 a2 a3 : D} {r : D} (h1 : noMs [a0, a1, a2, a3] = true) (h2 : noM r = true) (h : ∀ (Q : QD) (E : QX), ∃ μ', w_least_by (endR Q E) [some a0, some a1, some a2, some a3, none, none, none, none, none] [] = Q r μ') : Ret c_least_by [a0, a1, a2, a3] r := ret_loc rfl rfl h1 h2 h
theorem x_least_by {a0 a1 a2 a3 : D} {r : Exc} (h1 : noMs [a0, a1, a2, a3] = true) (h2 : noMs r.fs = true) (h : ∀ (Q : QD) (E : QX), ∃ μ', w_least_by (endR Q E) [some a0, some a1, some a2, some a3, none, none, none, none, none] [] = E r μ') : Rai c_least_by [a0, a1, a2, a3] r := rai_loc rfl rfl h1 h2 h
theorem u_least_by {a0 a1 a2 a3 : D} (h1 : noMs [a0, a1, a2, a3] = false) (μ : Sto) (Q : QD) (E : QX) : c_least_by [a0, a1, a2, a3] μ Q E = w_least_by (endR Q E) [some a0, some a1, some a2, some a3, none, none, none, none, none] μ := use_loc rfl rfl h1 μ Q E
theorem r_known_of {a0 : D} {r : D} (h1 : noMs [a0] = true) (h2 : noM r = true) (h : ∀ (Q : QD) (E : QX), ∃ μ', w_known_of (endR Q E) [some a0, none, none, none] [] = Q r μ') : Ret c_known_of [a0] r := ret_loc rfl rfl h1 h2 h
theorem x_known_of {a0 : D} {r : Exc} (h1 : noMs [a0] = true) (h2 : noMs r.fs = true) (h : ∀ (Q : QD) (E : QX), ∃ μ', w_known_of (endR Q E) [some a0, none, none, none] [] = E r μ') : Rai c_known_of [a0] r := rai_loc rfl rfl h1 h2 h
theorem u_known_of {a0 : D} (h1 : noMs [a0] = false) (μ : Sto) (Q : QD) (E : QX) : c_known_of [a0] μ Q E = w_known_of (endR Q E) [some a0, none, none, none] μ := use_loc rfl rfl h1 μ Q E
theorem r_known {a0 : D} {r : D} (h1 : noMs [a0] = true) (h2 : noM r = true) (h : ∀ (Q : QD) (E : QX), ∃ μ', w_known (endR Q E) [some a0] [] = Q r μ') : Ret c_known [a0] r := ret_loc rfl rfl h1 h2 h
theorem x_known {a0 : D} {r : Exc} (h1 : noMs [a0] = true) (h2 : noMs r.fs = true) (h : ∀ (Q : QD) (E : QX), ∃ μ', w_known (endR Q E) [some a0] [] = E r μ') : Rai c_known [a0] r := rai_loc rfl rfl h1 h2 h
theorem u_known {a0 : D} (h1 : noMs [a0] = false) (μ : Sto) (Q : QD) (E : QX) : c_known [a0] μ Q E = w_known (endR Q E) [some a0] μ := use_loc rfl rfl h1 μ Q E
theorem r__law_right {a0 : D} {r : D} (h1 : noMs [a0] = true) (h2 : noM r = true) (h : ∀ (Q : QD) (E : QX), ∃ μ', w__law_right (endR Q E) [some a0, none, none, none, none] [] = Q r μ') : Ret c__law_right [a0] r := ret_loc rfl rfl h1 h2 h
theorem x__law_right {a0 : D} {r : Exc} (h1 : noMs [a0] = true) (h2 : noMs r.fs = true) (h : ∀ (Q : QD) (E : QX), ∃ μ', w__law_right (endR Q E) [some a0, none, none, none, none] [] = E r μ') : Rai c__law_right [a0] r := rai_loc rfl rfl h1 h2 h
theorem u__law_right {a0 : D} (h1 : noMs [a0] = false) (μ : Sto) (Q : QD) (E : QX) : c__law_right [a0] μ Q E = w__law_right (endR Q E) [some a0, none, none, none, none] μ := use_loc rfl rfl h1 μ Q E
theorem r_law {a0 : D} {r : D} (h1 : noMs [a0] = true) (h2 : noM r = true) (h : ∀ (Q : QD) (E : QX), ∃ μ', w_law (endR Q E) [some a0, none] [] = Q r μ') : Ret c_law [a0] r := ret_loc rfl rfl h1 h2 h
theorem x_law {a0 : D} {r : Exc} (h1 : noMs [a0] = true) (h2 : noMs r.fs = true) (h : ∀ (Q : QD) (E : QX), ∃ μ', w_law (endR Q E) [some a0, none] [] = E r μ') : Rai c_law [a0] r := rai_loc rfl rfl h1 h2 h
theorem u_law {a0 : D} (h1 : noMs [a0] = false) (μ : Sto) (Q : QD) (E : QX) : c_law [a0] μ Q E = w_law (endR Q E) [some a0, none] μ := use_loc rfl rfl h1 μ Q E
end K58

/-! The data layer, part Y: dicts whose keys are tuples. -/
namespace Pk
open PySem PySem.Spec PyProof.Rows L2 RZ
section
variable {X : Cx} {z : Zx} {pos : Pos} {e : Expr} {es : List Expr} {w : WE} {wr wa : WA} {p : Pos}
/-- a tuple that stands by itself -/
def wTupT (w : WA) : WE := fun ρ μ Q E => w ρ μ (fun xs μ1 => match lineB xs.length with
  | true => Q (.ttp xs) μ1
  | false => False) E
theorem de_tupT {x1} (h : DA X z es wr) : DE X z (.Tuple es x1 pos) (wTupT wr) := fun Wd tk =>
  peI (pe_tup (h Wd tk)) fun σ H Q ⟨F, m, μ, ρ, Qd, S, h, k⟩ => ⟨F, m, μ, ρ, _, S, h, fun F1 m1 μ1 ds vs H1 x1 S1 r1 q1 => by
    cases e : lineB ds.length with
    | false => rw [e] at q1; exact q1.elim
    | true =>
      rw [e] at q1
      refine ⟨by rw [← r1.length]; exact lineB_le e, fun p hp => ?_⟩
      obtain ⟨x2, S2⟩ := S1.new hp (.tup vs)
      exact k _ _ _ _ _ _ (x1.trans x2) S2 (.ttp upd_same (r1.mono x2.gr)) q1⟩
/-! ### dict(pairs), the keys such tuples -/
def pairsP : List D → Option (List (List DK × D))
  | [] => some []
  | .tup [.ttp k, v] :: r => match toKs k, pairsP r with
    | some k, some ps => some ((k, v) :: ps)
    | _, _ => none
  | _ => none
def hasP (k : List DK) : List (List DK × D) → Bool
  | [] => false
  | p :: r => match decide (p.1 = k) with
    | true => true
    | false => hasP k r
def replP (k : List DK) (v : D) : List (List DK × D) → List (List DK × D)
  | [] => []
  | p :: r => (match decide (p.1 = k) with
    | true => (p.1, v)
    | false => p) :: replP k v r
def putP (acc : List (List DK × D)) (k : List DK) (v : D) : List (List DK × D) := match hasP k acc with
  | true => replP k v acc
  | false => acc ++ [(k, v)]
def mergeP : List (List DK × D) → List (List DK × D) → List (List DK × D)
  | acc, [] => acc
  | acc, (k, v) :: r => mergeP (putP acc k v) r
inductive RepP (K : PySem.W.Frag) (T : Tab) (F : Hp) (m : List Addr) : List (List DK × D) → List (List Key × V) → Prop
  | nil : RepP K T F m [] []
  | cons {k d v ds vs} : Rep K T F m d v → RepP K T F m ds vs → RepP K T F m ((k, d) :: ds) ((k.map DK.key, v) :: vs)
section
variable {K : PySem.W.Frag} {T : Tab} {F : Hp} {m : List Addr}
theorem RepP.two : ∀ {ds : List (List DK × D)} {vs : List (List Key × V)}, RepP K T F m ds vs → (keysK (ds.map (·.1))).zip (vs.map (·.2)) = vs ∧ vs.map (·.1) = keysK (ds.map (·.1)) ∧ Reps K T F m (ds.map (·.2)) (vs.map (·.2))
  | _, _, .nil => ⟨rfl, rfl, .nil⟩
  | _, _, .cons (k := k) h r => by
    obtain ⟨h1, h2, h3⟩ := r.two
    refine ⟨?_, ?_, .cons h h3⟩
    · have : ∀ (a : List Key) (b : V) as bs, ((a :: as : List (List Key)).zip (b :: bs)) = (a, b) :: as.zip bs := fun _ _ _ _ => rfl
      simp only [List.map_cons, keysK, this] at h1 ⊢
      rw [h1]
    · simp only [List.map_cons, keysK] at h2 ⊢
      rw [h2]
theorem RepP.app : ∀ {ds es : List (List DK × D)} {vs us : List (List Key × V)}, RepP K T F m ds vs → RepP K T F m es us → RepP K T F m (ds ++ es) (vs ++ us)
  | _, _, _, _, .nil, s => s
  | _, _, _, _, .cons h r, s => .cons h (r.app s)
theorem RepP.has (k : List DK) : ∀ {ds : List (List DK × D)} {vs : List (List Key × V)}, RepP K T F m ds vs → (vs.any fun kv => decide (kv.1 = k.map DK.key)) = hasP k ds
  | _, _, .nil => rfl
  | _, _, .cons (k := j) (ds := ds) h r => by
    rw [List.any_cons, r.has k]
    show _ = (match decide (j = k) with | true => true | false => hasP k ds)
    by_cases w : j = k
    · subst w
      simp
    · have w2 : ¬ j.map DK.key = k.map DK.key := fun z => w (keys_inj z)
      simp [w, w2]
theorem RepP.repl {k : List DK} {d : D} {v : V} (h : Rep K T F m d v) : ∀ {ds : List (List DK × D)} {vs : List (List Key × V)}, RepP K T F m ds vs → RepP K T F m (replP k d ds) (vs.map fun kv => if kv.1 = k.map DK.key then (kv.1, v) else kv)
  | _, _, .nil => .nil
  | _, _, .cons (k := j) h0 r => by
    rw [List.map_cons]
    unfold replP
    by_cases w : j = k
    · subst w
      simp only [decide_true, if_pos]
      exact .cons h (r.repl h)
    · have w2 : ¬ j.map DK.key = k.map DK.key := fun z => w (keys_inj z)
      simp only [w, decide_false, if_neg w2]
      exact .cons h0 (r.repl h)
theorem RepP.put {k : List DK} {d : D} {v : V} {ds : List (List DK × D)} {vs : List (List Key × V)} (h : Rep K T F m d v) (r : RepP K T F m ds vs) : RepP K T F m (putP ds k d) (putK vs (k.map DK.key) v) := by
  unfold putP putK
  rw [r.has k]
  cases hasP k ds with
  | true => exact r.repl h
  | false =>
    rw [if_neg (by decide)]
    exact r.app (.cons h .nil)
def mergeT (acc : List (List Key × V)) (xs : List (List Key × Addr × V)) : List (List Key × V) := xs.foldl (fun acc x => putK acc x.1 x.2.2) acc
theorem pairsP_V {H : Hp} (s : Same F H) : ∀ {ds : List D} {vs : List V} {ps : List (List DK × D)}, Reps K T F m ds vs → pairsP ds = some ps →
    ∃ (as : List Addr) (xs : List (List Key × Addr × V)), vs = as.map V.ref ∧ Paired (fun p x => SqT K H p [V.ref x.2.1, x.2.2]) as xs ∧ (∀ x ∈ xs, F x.2.1 = some (.tup (x.1.map kV))) ∧
      ∀ {ds0 : List (List DK × D)} {vs0 : List (List Key × V)}, RepP K T F m ds0 vs0 → RepP K T F m (mergeP ds0 ps) (mergeT vs0 xs)
  | _, _, ps, .nil, e => by
    injection e with e
    subst e
    exact ⟨[], [], rfl, .nil, (fun x hx => by cases hx), fun r => r⟩
  | _, _, ps, .cons (d := d) h rs, e => by
    unfold pairsP at e
    split at e
    · rename_i heq
      cases heq
    · rename_i k v r heq
      injection heq with h1 h2
      subst h1 h2
      split at e
      · rename_i kk ps' hk hp
        injection e with e
        subst e
        cases h with
        | tup hq r2 =>
          cases r2 with
          | cons ra r2 =>
            cases r2 with
            | cons rb r2 =>
              cases r2
              cases ra with
              | ttp hf rk =>
                obtain ⟨as, xs, rfl, p1, p2, p3⟩ := pairsP_V s rs hp
                have hkv := toKs_V (H := H) rk hk
                subst hkv
                refine ⟨_ :: as, (kk.map DK.key, _, _) :: xs, rfl, .cons (Same.sqt s hq) p1, fun x hx => ?_, fun r0 => p3 (r0.put rb)⟩
                rcases List.mem_cons.mp hx with q | q
                · subst q
                  exact hf
                · exact p2 x q
      · cases e
    · cases e
end
theorem paired_imp {α β : Type} {R S : α → β → Prop} (h : ∀ a b, R a b → S a b) : ∀ {xs : List α} {ys : List β}, Paired R xs ys → Paired S xs ys
  | _, _, .nil => .nil
  | _, _, .cons q r => .cons (h _ _ q) (paired_imp h r)
def rDictP (K : PySem.W.Frag) : List V → Hp → VK → Prop := fun vs H Q => ∃ (a : Addr) (ps : List Addr) (xs : List (List Key × Addr × V)) (G : Hp), vs = [V.ref a] ∧ H a = some (.lst (ps.map V.ref)) ∧ Paired (fun p x => SqT K H p [V.ref x.2.1, x.2.2]) ps xs ∧ Same G H ∧ (∀ x ∈ xs, G x.2.1 = some (.tup (x.1.map kV))) ∧
  ∀ p o, H p = none → KeyAt G o ((mergeT [] xs).map (·.1)) → Q (.ref p) (upd H p (.frz o (.dT (mergeT [] xs))))
theorem put_len {κ : Type} [DecidableEq κ] (kvs : List (κ × V)) (k : κ) (v : V) : (putK kvs k v).length ≤ kvs.length + 1 := by
  unfold putK
  split <;> simp
theorem mergeT_len : ∀ (xs : List (List Key × Addr × V)) (acc : List (List Key × V)), (mergeT acc xs).length ≤ acc.length + xs.length
  | [], acc => Nat.le_refl _
  | x :: r, acc => by
    have h1 := mergeT_len r (putK acc x.1 x.2.2)
    have h2 := put_len acc x.1 x.2.2
    have e : mergeT acc (x :: r) = mergeT (putK acc x.1 x.2.2) r := rfl
    rw [e, List.length_cons]
    omega
theorem pairsT_of {pins : List (Addr × Obj)} {σ : L2.St} {H : Hp} {s : Shared} (I : Inv X pins σ H s) {G : Hp} (sg : Same G H) : ∀ {ps : List Addr} {xs : List (List Key × Addr × V)}, Paired (fun p x => SqT X.K H p [V.ref x.2.1, x.2.2]) ps xs → (∀ x ∈ xs, G x.2.1 = some (.tup (x.1.map kV))) →
    ∃ prs : List (List Key × Addr × Value), prs.length = ps.length ∧ (∀ (j : Nat) q, prs[j]? = some q → ∃ b, ps[j]? = some b ∧ IsTup s.heap b #[.ref q.2.1, q.2.2]) ∧ (∀ q ∈ prs, G q.2.1 = some (.tup (q.1.map kV))) ∧
      ∀ {kvs : List (List Key × V)} {acc : List (List Key × Addr × Value)}, KT G kvs acc → KT G (mergeT kvs xs) (storedAllH acc prs)
  | _, _, .nil, _ => ⟨[], rfl, (fun j q e => by simp at e), (fun x hx => by cases hx), fun r => r⟩
  | _, _, .cons (a := p) (b := x) h t, hg => by
    obtain ⟨prs, h1, h2, h3, h4⟩ := pairsT_of I sg t fun y hy => hg y (List.mem_cons_of_mem _ hy)
    obtain ⟨its, rv, hp, _⟩ := I.tuple h
    have gx := hg x (List.mem_cons_self ..)
    cases rv with
    | cons r1 rv =>
      cases rv with
      | cons r2 rv =>
        cases rv
        rename_i u1 u2
        obtain rfl : u1 = Value.ref x.2.1 := r1
        refine ⟨(x.1, x.2.1, u2) :: prs, by simp [h1], fun j q e => ?_, fun q hq => ?_, fun r0 => h4 (r0.put x.1 gx r2)⟩
        · cases j with
          | zero =>
            injection e with e
            subst e
            exact ⟨p, rfl, hp⟩
          | succ j =>
            obtain ⟨b, g1, g2⟩ := h2 j q (by simpa using e)
            exact ⟨b, by simpa using g1, g2⟩
        · rcases List.mem_cons.mp hq with e | e
          · subst e
            exact gx
          · exact h3 q e
theorem storedAll_keys {κ : Type} [DecidableEq κ] {P : κ → Addr → Prop} : ∀ (prs : List (κ × Addr × Value)) (acc : List (κ × Addr × Value)), (∀ q ∈ acc, P q.1 q.2.1) → (∀ q ∈ prs, P q.1 q.2.1) → ∀ q ∈ storedAllH acc prs, P q.1 q.2.1
  | [], acc, h, _ => h
  | x :: r, acc, h, h2 => by
    have e : storedAllH acc (x :: r) = storedAllH (storedH acc x.1 x.2.1 x.2.2) r := rfl
    rw [e]
    refine storedAll_keys r _ (fun q hq => ?_) fun q hq => h2 q (List.mem_cons_of_mem _ hq)
    unfold storedH at hq
    split at hq
    · obtain ⟨y, hy, e⟩ := List.mem_map.mp hq
      have : q.1 = y.1 ∧ q.2.1 = y.2.1 := by
        rw [← e]
        unfold putAt
        split <;> exact ⟨rfl, rfl⟩
      rw [this.1, this.2]
      exact h y hy
    · rcases List.mem_append.mp hq with z | z
      · exact h q z
      · rw [List.mem_singleton.mp z]
        exact h2 x (List.mem_cons_self ..)
theorem c_dictP (hc : X.calm = true) (hu : X.A.units + 65 < cLine) : CallR X (.type "dict") (rDictP X.K) := by
  intro pins s σ H vs us Q I r ⟨a, ps, xs, G, e1, hq, hp, sg, hg, q⟩
  subst e1
  obtain ⟨u, e2, rx⟩ := vals1 r
  subst e2
  cases rx
  obtain ⟨hz, its, n, rv, ho⟩ := (show ObjOk X.prog X.w H s.heap a (.lst (ps.map V.ref)) from I.hok a _ hq)
  have ei := refs_at rv
  subst ei
  rw [List.length_map] at hz
  obtain ⟨prs, hl, hpr, hpg, hkt⟩ := pairsT_of I sg hp hg
  have hit : ∀ b items, IsTup s.heap b items → s.heap.IsTuple b items := fun b items ⟨o, h1, h2, n, h3⟩ => ⟨o, h1, h2, n, h3⟩
  have hpl : xs.length = ps.length := (Paired.length hp).symm
  let us : List (Value × Value) := prs.map fun q => (.ref q.2.1, q.2.2)
  have hu1 : us.length = prs.length := List.length_map ..
  have hus : ∀ (j : Nat) (k v : Value), us[j]? = some (k, v) → ∃ q, prs[j]? = some q ∧ k = .ref q.2.1 ∧ v = q.2.2 := fun j k v e => by
    rw [List.getElem?_map] at e
    cases w : prs[j]? with
    | none => rw [w] at e; cases e
    | some q =>
      rw [w] at e
      injection e with e
      injection e with e1 e2
      exact ⟨q, rfl, e1.symm, e2.symm⟩
  have hok : PlainSeq "list" s.heap a (ps.map Value.ref).toArray ∧ PairItems s.heap (ps.map Value.ref).toArray (fun j => ps.getD j 0) us := by
    refine ⟨⟨_, n, ho, rfl, rfl, rfl⟩, by simp [hu1, hl], fun j k v e => ?_⟩
    obtain ⟨q, g1, rfl, rfl⟩ := hus j k v e
    obtain ⟨b, g2, g3⟩ := hpr j q g1
    have gd : ps.getD j 0 = b := by rw [List.getD_eq_getElem?_getD, g2] <;> rfl
    simp only [gd]
    exact ⟨by simp [g2], .inl (hit _ _ g3)⟩
  have key : ∀ {H1 : Hp} {h1 : Heap}, HOk X.prog X.w H1 h1 → ∀ {q : List Key × Addr × Value}, H1 q.2.1 = some (.tup (q.1.map kV)) → (tupleKind (mixKind X.prog X.w)).is h1 q.1 q.2.1 := fun ok q e => key_of ok e
  refine PySem.call_dict_pairsH (knd := tupleKind (mixKind X.prog X.w)) (ps := prs) (PairArg.list a (ps.map Value.ref).toArray (fun j => ps.getD j 0) us) (I.ok.hd hc) ?_ hok ⟨hu1.symm, fun i key v e => ?_⟩ (fun h' hk x hx => ?_) (by omega) fun h' tk hd' kk => ?_
  · show X.A.in1.in1.units < cLine
    have : X.A.in1.in1.units = X.A.units + 2 := rfl
    omega
  · obtain ⟨q, g1, g2, g3⟩ := hus i key v e
    subst g3
    exact ⟨q.1, q.2.1, g1, g2⟩
  · have hx1 := sg _ _ (hpg x hx)
    obtain ⟨o, items, nn, k1, k2, k3, k4⟩ := key I.hok hx1
    exact ⟨o, items, nn, hk _ o (by
      intro e
      rw [e] at k1
      exact absurd (Heap.lt_size k1) (Nat.lt_irrefl _)) (by simp) k1, k2, k3, k4⟩
  · have hm : (s.heap.objs.size == sysModules) = false := beq_eq_false_iff_ne.mpr (Nat.ne_of_gt I.big)
    have hlen : (mergeT [] xs).length ≤ sizeLine := by
      have h1 := mergeT_len xs []
      simp only [List.length_nil, Nat.zero_add] at h1
      omega
    have k0 : ∀ b ob, s.heap.get? b = some ob → h'.get? b = some ob := fun b ob e => kk b ob (by simp) e
    obtain ⟨o, es, ep, d1, d2, d3, d4, d5, d6⟩ := hd'
    have kt : KT G (mergeT [] xs) (storedAllH [] prs) := hkt .nil
    have fr : H s.heap.objs.size = none := I.hok.fresh (Nat.le_refl _)
    have ka : KeyAt G o ((mergeT [] xs).map (·.1)) := by
      refine ⟨es, ep, d3, fun i k hk => ?_⟩
      rw [List.getElem?_map] at hk
      cases w : (mergeT [] xs)[i]? with
      | none => rw [w] at hk; cases hk
      | some kv =>
        rw [w] at hk
        injection hk with hk
        obtain ⟨b, hb, e1, e2, _⟩ := paired_get kt w
        have q := entry_at d4 i
        rw [hb] at q
        refine ⟨_, b.2.1, q, rfl, ?_⟩
        rw [← hk]
        exact e2
    have new : ObjOk X.prog X.w (upd H s.heap.objs.size (.frz o (.dT (mergeT [] xs)))) h' s.heap.objs.size (.frz o (.dT (mergeT [] xs))) := by
      refine ⟨d1, hlen, hm, storedAllH [] prs, ?_, o, es, ep, d1, d2, d3, d4, d6⟩
      exact paired_imp (fun p q h => ⟨h.1, upd_keep fr _ _ (sg _ _ h.2.1), h.2.2⟩) kt
    exact ⟨.ref s.heap.objs.size, _, I.laid (t' := tk) k0 (Nat.le_refl _) new, rfl, q _ _ fr ka⟩
def bDictP : BF := fun ds μ Q => match ds with
  | [x] => match look μ x with
    | .lst xs => match pairsP xs with
      | some ps => Q (.dcp ((mergeP [] ps).map (·.1)) ((mergeP [] ps).map (·.2))) μ
      | none => False
    | _ => False
  | _ => False
theorem ok_dictP : BuOk X z (rDictP X.K) bDictP := by
  intro F m μ ρ σ H ds vs Qd Q S rr q k
  unfold bDictP at q
  split at q
  · rename_i x
    cases rr with
    | cons r1 r2 =>
      cases r2
      have vx := S.view r1
      split at q
      · rename_i xs hx
        rw [hx] at vx
        split at q
        · rename_i ps hp
          obtain ⟨a, us, rfl, h1, r2⟩ := vx.list S.same
          obtain ⟨as, kqs, rfl, p1, p2, p3⟩ := pairsP_V S.same r2 hp
          refine ⟨a, as, kqs, F, rfl, h1, p1, S.same, p2, fun p o hn ka => ?_⟩
          obtain ⟨t1, t2, t3⟩ := (p3 .nil).two
          obtain ⟨x1, S1⟩ := S.new hn (.frz o (.dT (mergeT [] kqs)))
          refine k _ _ _ _ _ _ x1 S1 (.dcp (o := o) (vs := (mergeT [] kqs).map (·.2)) ?_ ?_ (by rw [List.length_map, List.length_map]) (t3.mono x1.gr)) q
          · rw [upd_same, t1]
          · rw [← t2]
            exact ka.mono x1.gr.fr
        · exact q.elim
      · exact q.elim
  · exact q.elim
theorem k_dictP (hc : X.calm = true) (hu : X.A.units + 65 < cLine) (hm : X.mg "dict" = none) (ha : DA X z [e] wa) (hg : Gl X "dict" := by rfl) (he : starEach [e] X.env = (false, eval e X.env) :: starEach [] X.env := by rfl) (hpl : (backTo pos (starEach [] X.env)).any (·.1) = false := by rfl) :
    DE X z (.Call (.Name "dict" p) [e] [] pos) (wBu bDictP wa) := de_callTy (c_dictP hc hu) ok_dictP hg hm ha (he := he) (hpl := hpl)
/-! ### for k in such a dict, or in one with other keys, that changes no more -/
/-- the keys of the locked dict at d: the tuples that its object holds -/
def Itq (d : Addr) (o : Obj) (kvs : List (List Key × V)) : It :=
  ⟨fun i H => H d = some (.frz o (.dT kvs)) ∧ i < kvs.length, fun i H x H' => H' = H ∧ ∃ (es : Array DictEntry) (ep : Nat) (en : DictEntry) (q : Addr), o.data = .dict es ep ∧ es[i]? = some en ∧ en.key = .ref q ∧ x = .ref q, fun i H => H d = some (.frz o (.dT kvs)) ∧ kvs.length ≤ i⟩
theorem turn_keysQ {P : Program} {w : World} {K : PySem.W.Frag} {tg : Expr} {d : Addr} {o : Obj} {es : Array DictEntry} {ep : Nat} {kvs : List (List Key × V)} (it : Addr) (hod : o.data = .dict es ep) : Turn P w K tg (Itq d o kvs) [it] it (fun i h => h.IsKeyIter it d i kvs.length ep) where
  mem := by simp
  obj := fun i h st b hb => by
    have e : b = it := by simpa using hb
    subst e
    obtain ⟨oi, e, c, dd⟩ := st
    exact ⟨oi, e, fun v z => by rw [dd] at z; cases z⟩
  keep := fun i h h' st k => st.at fun oi e => k it (by simp) oi e
  item := by
    intro X hP hw hK hc i pins s σ H E I hf st hg
    subst hP hw hK
    obtain ⟨hd, hi⟩ := hg
    obtain ⟨f0, f1, f2, f3, f4, f5⟩ := hf it (by simp)
    obtain ⟨hs, hgd, hx, es', ep', hdt, hsz, ent⟩ := I.frzT hd
    obtain ⟨rfl, rfl⟩ := dict_ep hod hdt
    obtain ⟨⟨k, v⟩, hkv⟩ : ∃ p, kvs[i]? = some p := ⟨kvs[i], List.getElem?_eq_getElem hi⟩
    obtain ⟨en, q, hen, hkey, hq⟩ := ent i k v hkv
    refine next_key_item st hgd hdt hsz hen fun h' st' sb => ?_
    have I1 : Inv X pins σ H { s with heap := h' } := I.turned (t' := s.toks) (fun b ob hb e => (sb.2 b hb).trans e) f0 f1 f3 f4 f5
    obtain ⟨oi, e, c, dd⟩ := id st'
    exact ⟨en.key, rfl, go_of (s := { s with heap := h' }) e c dd (by decide) ⟨.ref q, H, I1, hkey, ⟨rfl, _, _, en, q, hod, hen, hkey, rfl⟩, st', fun b hb => (hf b hb).1⟩⟩
  done := by
    intro X hP hw hK hc i pins s σ H E I hf st hg
    subst hP hw hK
    obtain ⟨hd, hi⟩ := hg
    obtain ⟨f0, f1, f2, f3, f4, f5⟩ := hf it (by simp)
    obtain ⟨hs, hgd, hx, es', ep', hdt, hsz, ent⟩ := I.frzT hd
    obtain ⟨rfl, rfl⟩ := dict_ep hod hdt
    exact next_key_end (I.ok.hd hc) st hgd hdt hsz hi fun h' eb => ⟨rfl, I.turned (t' := s.toks) (fun b ob hb e => eb b ob hb e) f0 f1 f3 f4 f5⟩
  self := fun A i s Q E st h => by
    refine wpAny_pyIter_slot st.typeIs F.slot_dict_keyiterator_iter (wpAny_call_entry F.slot_dict_keyiterator_iter st.typeIs F.entry_dict_keyiterator_iter ?_ (F.args_dict_keyiterator_iter_1 _))
    show wpAny _ _ (ret (.ref it)) _ _ s
    exact wpAny_pure ⟨_, rfl, "dict_keyiterator", _, st.typeIs, F.slot_dict_keyiterator_next.lookup, h⟩
def iKeysA (td : TE) : TI := fun σ H R => td σ H fun x H1 => ∃ d o, x = .ref d ∧ ((∃ kvs, H1 d = some (.frz o (.dK kvs)) ∧ R (Itk d o kvs) H1) ∨ ∃ kvs, H1 d = some (.frz o (.dT kvs)) ∧ R (Itq d o kvs) H1)
theorem pi_keysA {tg : Expr} {td : TE} (he : PE X e td) : PI X tg e (iKeysA td) := by
  refine ⟨fun pins s σ H R I h => ?_⟩
  refine thn (he.run pins s σ H _ I h) fun u s1 ⟨x, H1, I1, rx, d, o, ex, q⟩ => ?_
  subst ex
  obtain rfl : u = Value.ref d := rx
  rcases q with ⟨kvs, hd, q⟩ | ⟨kvs, hd, q⟩
  · obtain ⟨hs, hgd, hx, es, ep, vs, hdt, hsz, kv, hm⟩ := I1.frzK hd
    refine iter_keys hs hgd hx hdt (pi_one (tk := s1.toks) I1 _ (turn_keys _ hdt) ⟨_, Heap.get?_push_size _ rfl, rfl, ?_⟩ q)
    rw [hsz] <;> rfl
  · obtain ⟨hs, hgd, hx, es, ep, hdt, hsz, ent⟩ := I1.frzT hd
    refine iter_keys hs hgd hx hdt (pi_one (tk := s1.toks) I1 _ (turn_keysQ _ hdt) ⟨_, Heap.get?_push_size _ rfl, rfl, ?_⟩ q)
    rw [hsz] <;> rfl
def iKyA (w : WE) : WI := fun ρ μ Q E => w ρ μ (fun d μ1 => match d with
  | .dct kvs => Q (keysD kvs) μ1
  | .dcp ks _ => Q (ks.map fun k => .tup (k.map keyD)) μ1
  | _ => False) E
theorem reps_keys {K : PySem.W.Frag} {T : Tab} {F : Hp} {m : List Addr} : ∀ k : List DK, Reps K T F m (k.map keyD) ((k.map DK.key).map kV)
  | [] => .nil
  | x :: r => .cons (by cases x <;> constructor) (reps_keys r)
theorem jok_keysQ {K : PySem.W.Frag} {T : Tab} {F : Hp} {m : List Addr} {d : Addr} {o : Obj} {ks : List (List DK)} {vs : List V} (h : F d = some (.frz o (.dT ((keysK ks).zip vs)))) (ka : KeyAt F o (keysK ks)) (hl : ks.length = vs.length) : JOk K T F m (Itq d o ((keysK ks).zip vs)) (ks.map fun k => .tup (k.map keyD)) where
  go := fun i H x s e => by
    refine ⟨s _ _ h, ?_⟩
    have := (List.getElem?_eq_some_iff.mp e).1
    rw [List.length_map] at this
    rw [List.length_zip, keysK, List.length_map]
    omega
  stop := fun i H s e => by
    refine ⟨s _ _ h, ?_⟩
    rw [List.length_map] at e
    rw [List.length_zip, keysK, List.length_map]
    omega
  yld := fun i H x H' y s e ⟨e1, es, ep, en, q, e2, e3, e4, e5⟩ => by
    refine .inl ⟨e1, ?_⟩
    rw [List.getElem?_map] at e
    cases w : ks[i]? with
    | none => rw [w] at e; cases e
    | some k =>
      rw [w] at e
      injection e with e
      obtain ⟨es', ep', g1, g2⟩ := ka
      obtain ⟨en', q', h1, h2, h3⟩ := g2 i (k.map DK.key) (by unfold keysK; rw [List.getElem?_map, w]; rfl)
      obtain ⟨rfl, rfl⟩ := dict_ep e2 g1
      rw [h1] at e3
      injection e3 with e3
      subst e3
      rw [h2] at e4
      injection e4 with e4
      subst e4 e5 e
      exact .tup (SqT.of h3) (reps_keys k)
theorem di_keysA {tg : Expr} (h : DE X z e w) : DI X z tg e (iKyA w) := fun Wd tk =>
  piI (pi_keysA (h Wd tk)) fun σ H R ⟨F, m, μ, ρ, Qd, S, h, k⟩ => ⟨F, m, μ, ρ, _, S, h, fun F1 m1 μ1 d1 v1 H1 x1 S1 r1 q1 => by
    split at q1
    · cases r1 with
      | dct hf rk => exact ⟨_, _, rfl, .inl ⟨_, S1.same _ _ hf, k F1 m1 μ1 _ _ H1 x1 S1 (jok_keys hf rk) q1⟩⟩
    · cases r1 with
      | dcp hf ka hl rk => exact ⟨_, _, rfl, .inr ⟨_, S1.same _ _ hf, k F1 m1 μ1 _ _ H1 x1 S1 (jok_keysQ hf ka (hl.trans rk.length)) q1⟩⟩
    · exact q1.elim⟩
end
end Pk

/-! The data layer, part Z: min, max of one thing; sorted pairs; calls with keywords. -/
namespace Pk
open PySem PySem.Spec PyProof.Rows L2 RZ
section
variable {prog : Program} {w : World} {A : Around} {E : Value → Shared → Prop} {s : Shared} {l : Addr} {xs : Array (Int × Tok)}
theorem it_intTup {Q : Value → Shared → Prop} (hl : s.heap.IsTuple l (intItems xs))
    (h : ∀ s₂ : Shared, s₂ = { s with heap := s.heap.push { cls := .type "tuple_iterator", data := .fields #[.ref l, .int 0 0] } } →
      (s₂.heap.IsTupleIter s.heap.objs.size l 0 ∧ s₂.heap.IsTuple l (intItems xs)) → (∀ b ∈ [s.heap.objs.size, l], b < s₂.heap.objs.size) → l ≠ s.heap.objs.size → Q (.ref s.heap.objs.size) s₂) :
    wpAny (model prog w) A (pyIter (.ref l)) Q E s := by
  have hlt : l < s.heap.objs.size := by obtain ⟨_, e, _⟩ := hl; exact Heap.lt_size e
  refine wpAny_pyIter_tuple hl (h _ rfl ⟨⟨_, Heap.get?_push_size _ rfl, rfl, rfl⟩, hl.push _⟩ (fun b hb => ?_) (Nat.ne_of_lt hlt))
  show b < (s.heap.push _).objs.size
  rw [Heap.size_push]
  rcases List.mem_cons.mp hb with rfl | hb
  · exact Nat.lt_succ_self _
  · rcases List.mem_cons.mp hb with rfl | hb
    · exact Nat.lt_succ_of_lt hlt
    · cases hb
theorem tup_kept {h' : Heap} (hk : ∀ b o, b ∉ [s.heap.objs.size] → (s.heap.push { cls := .type "tuple_iterator", data := .fields #[.ref l, .int 0 0] }).get? b = some o → h'.get? b = some o) :
    ∀ b o, s.heap.get? b = some o → h'.get? b = some o := fun b o e => by
  refine hk b o (fun hm => ?_) (Heap.get?_push_of_some _ e)
  rcases List.mem_cons.mp hm with e1 | hm
  · exact absurd (e1 ▸ Heap.lt_size e) (Nat.lt_irrefl _)
  · cases hm
theorem max_intTup {Q : Value → Shared → Prop} (hh : A.handled = none) (hl : s.heap.IsTuple l (intItems xs)) (hne : 0 < xs.size)
    (h : ∀ v h' tk, (intItems xs)[argBest (fun i j => decide (numAt xs i > numAt xs j)) (xs.size - 1)]? = some v → (∀ b o, s.heap.get? b = some o → h'.get? b = some o) → Q v { s with heap := h', toks := tk }) :
    wpAny (model prog w) A (call (.builtin "max") [.ref l]) Q E s := by
  refine call_max_walk (it_intTup hl fun s₂ e st hfp hlI => ?_)
  subst e
  refine ⟨_, _, _, _, _, _, _, rfl, Walks.tuple (A := A.in1) hh _ l hlI (intItems xs), st, hfp, by simpa [intItems] using hne, CmpOf.ints_gt (numAt xs) (fun _ _ => intItems_at), fun v h' tk hP hk => ?_⟩
  exact h v h' tk (by simpa [intItems] using hP) (tup_kept hk)
theorem min_intTup {Q : Value → Shared → Prop} (hh : A.handled = none) (hl : s.heap.IsTuple l (intItems xs)) (hne : 0 < xs.size)
    (h : ∀ v h' tk, (intItems xs)[argBest (fun i j => decide (numAt xs i < numAt xs j)) (xs.size - 1)]? = some v → (∀ b o, s.heap.get? b = some o → h'.get? b = some o) → Q v { s with heap := h', toks := tk }) :
    wpAny (model prog w) A (call (.builtin "min") [.ref l]) Q E s := by
  refine call_min_walk (it_intTup hl fun s₂ e st hfp hlI => ?_)
  subst e
  refine ⟨_, _, _, _, _, _, _, rfl, Walks.tuple (A := A.in1) hh _ l hlI (intItems xs), st, hfp, by simpa [intItems] using hne, CmpOf.ints_lt (numAt xs) (fun _ _ => intItems_at), fun v h' tk hP hk => ?_⟩
  exact h v h' tk (by simpa [intItems] using hP) (tup_kept hk)
end
section
variable {X : Cx} {z : Zx} {pos : Pos} {e : Expr} {es : List Expr} {w : WE} {wr wa : WA} {p : Pos}
def rMaxA (K : PySem.W.Frag) : List V → Hp → VK → Prop := fun vs H Q => ∃ (a : Addr) (ns : List Int), vs = [V.ref a] ∧ (SqL K H a (ns.map V.int) ∨ SqT K H a (ns.map V.int)) ∧ 0 < ns.length ∧ ∀ m, m ∈ ns → (∀ y, y ∈ ns → y ≤ m) → Q (.int m) H
def rMinA (K : PySem.W.Frag) : List V → Hp → VK → Prop := fun vs H Q => ∃ (a : Addr) (ns : List Int), vs = [V.ref a] ∧ (SqL K H a (ns.map V.int) ∨ SqT K H a (ns.map V.int)) ∧ 0 < ns.length ∧ ∀ m, m ∈ ns → (∀ y, y ∈ ns → m ≤ y) → Q (.int m) H
theorem c_maxA (hc : X.calm = true) : CallR X (.builtin "max") (rMaxA X.K) := by
  intro pins s σ H vs us Q I r ⟨a, ns, e1, hs, hne, q⟩
  rcases hs with hs | hs
  · exact cr_max hc pins s σ H vs us Q I r ⟨a, ns, e1, hs, hne, q⟩
  · subst e1
    obtain ⟨its, rv, hl, _⟩ := I.tuple hs
    rw [Vals.ref1 r]
    obtain ⟨xs, ex⟩ := rv.ints.allInts.items
    have hn : numsOf (intItems xs).toList = ns := by rw [← ex]; exact rv.ints.numsOf
    rw [nums_intItems] at hn
    subst hn
    have hl' : s.heap.IsTuple a (intItems xs) := by
      obtain ⟨o, h1, h2, n, h3⟩ := hl
      rw [ex] at h3
      exact ⟨o, h1, h2, n, h3⟩
    have hsz : 0 < xs.size := by simpa using hne
    refine max_intTup (I.ok.hd hc) hl' hsz fun v h' tk hv hk => ?_
    obtain ⟨t, rfl⟩ := intItems_at hv
    obtain ⟨h1, h2⟩ := argBest_gt (numAt xs) (xs.size - 1)
    refine ⟨.int _, H, I.kept hk, ⟨t, rfl⟩, q _ ?_ fun y hy => ?_⟩
    · rw [numAt_eq]
      exact PySem.getD_mem (by rw [List.length_map, Array.length_toList]; omega)
    · obtain ⟨j, hj, rfl⟩ := mem_getD hy
      rw [List.length_map, Array.length_toList] at hj
      rw [← numAt_eq]
      exact h2 j (by omega)
theorem c_minA (hc : X.calm = true) : CallR X (.builtin "min") (rMinA X.K) := by
  intro pins s σ H vs us Q I r ⟨a, ns, e1, hs, hne, q⟩
  rcases hs with hs | hs
  · exact cr_min hc pins s σ H vs us Q I r ⟨a, ns, e1, hs, hne, q⟩
  · subst e1
    obtain ⟨its, rv, hl, _⟩ := I.tuple hs
    rw [Vals.ref1 r]
    obtain ⟨xs, ex⟩ := rv.ints.allInts.items
    have hn : numsOf (intItems xs).toList = ns := by rw [← ex]; exact rv.ints.numsOf
    rw [nums_intItems] at hn
    subst hn
    have hl' : s.heap.IsTuple a (intItems xs) := by
      obtain ⟨o, h1, h2, n, h3⟩ := hl
      rw [ex] at h3
      exact ⟨o, h1, h2, n, h3⟩
    have hsz : 0 < xs.size := by simpa using hne
    refine min_intTup (I.ok.hd hc) hl' hsz fun v h' tk hv hk => ?_
    obtain ⟨t, rfl⟩ := intItems_at hv
    obtain ⟨h1, h2⟩ := argBest_lt (numAt xs) (xs.size - 1)
    refine ⟨.int _, H, I.kept hk, ⟨t, rfl⟩, q _ ?_ fun y hy => ?_⟩
    · rw [numAt_eq]
      exact PySem.getD_mem (by rw [List.length_map, Array.length_toList]; omega)
    · obtain ⟨j, hj, rfl⟩ := mem_getD hy
      rw [List.length_map, Array.length_toList] at hj
      rw [← numAt_eq]
      exact h2 j (by omega)
def maxL : Int → List Int → Int
  | m, [] => m
  | m, x :: r => maxL (match decide (m < x) with
    | true => x
    | false => m) r
def minL : Int → List Int → Int
  | m, [] => m
  | m, x :: r => minL (match decide (x < m) with
    | true => x
    | false => m) r
theorem maxL_is : ∀ (r : List Int) (m : Int), (maxL m r = m ∨ maxL m r ∈ r) ∧ m ≤ maxL m r ∧ ∀ y ∈ r, y ≤ maxL m r
  | [], m => ⟨.inl rfl, Int.le_refl _, fun _ h => nomatch h⟩
  | x :: r, m => by
    unfold maxL
    by_cases q : m < x
    · simp only [q, decide_true]
      obtain ⟨h1, h2, h3⟩ := maxL_is r x
      refine ⟨?_, by omega, fun y hy => ?_⟩
      · rcases h1 with h | h
        · rw [h]
          exact .inr (List.mem_cons_self ..)
        · exact .inr (List.mem_cons_of_mem _ h)
      · rcases List.mem_cons.mp hy with e | e
        · rw [e]
          exact h2
        · exact h3 y e
    · simp only [q, decide_false]
      obtain ⟨h1, h2, h3⟩ := maxL_is r m
      refine ⟨?_, h2, fun y hy => ?_⟩
      · rcases h1 with h | h
        · exact .inl h
        · exact .inr (List.mem_cons_of_mem _ h)
      · rcases List.mem_cons.mp hy with e | e
        · rw [e]
          omega
        · exact h3 y e
theorem minL_is : ∀ (r : List Int) (m : Int), (minL m r = m ∨ minL m r ∈ r) ∧ minL m r ≤ m ∧ ∀ y ∈ r, minL m r ≤ y
  | [], m => ⟨.inl rfl, Int.le_refl _, fun _ h => nomatch h⟩
  | x :: r, m => by
    unfold minL
    by_cases q : x < m
    · simp only [q, decide_true]
      obtain ⟨h1, h2, h3⟩ := minL_is r x
      refine ⟨?_, by omega, fun y hy => ?_⟩
      · rcases h1 with h | h
        · rw [h]
          exact .inr (List.mem_cons_self ..)
        · exact .inr (List.mem_cons_of_mem _ h)
      · rcases List.mem_cons.mp hy with e | e
        · rw [e]
          exact h2
        · exact h3 y e
    · simp only [q, decide_false]
      obtain ⟨h1, h2, h3⟩ := minL_is r m
      refine ⟨?_, h2, fun y hy => ?_⟩
      · rcases h1 with h | h
        · exact .inl h
        · exact .inr (List.mem_cons_of_mem _ h)
      · rcases List.mem_cons.mp hy with e | e
        · rw [e]
          omega
        · exact h3 y e
def maxOf : D → Option D
  | .lst xs => match intsD xs with
    | some (m :: r) => some (.int (maxL m r))
    | _ => none
  | .tup xs => match intsD xs with
    | some (m :: r) => some (.int (maxL m r))
    | _ => none
  | _ => none
def minOf : D → Option D
  | .lst xs => match intsD xs with
    | some (m :: r) => some (.int (minL m r))
    | _ => none
  | .tup xs => match intsD xs with
    | some (m :: r) => some (.int (minL m r))
    | _ => none
  | _ => none
theorem ok_maxA : BuOk X z (rMaxA X.K) (b1 maxOf) := bu1 fun F m μ ρ σ H x v d Qd Q S vx e q k => by
  have fin : ∀ (n : Int) (r : List Int) (a : Addr), (SqL X.K H a ((n :: r).map V.int) ∨ SqT X.K H a ((n :: r).map V.int)) → d = .int (maxL n r) → v = .ref a → rMaxA X.K [v] H Q := by
    rintro n r a hs rfl rfl
    refine ⟨a, n :: r, rfl, hs, by simp, fun y h1 h2 => ?_⟩
    obtain ⟨g1, g2, g3⟩ := maxL_is r n
    have : y = maxL n r := by
      apply Int.le_antisymm
      · rcases List.mem_cons.mp h1 with e | e
        · rw [e]
          exact g2
        · exact g3 y e
      · refine h2 _ ?_
        rcases g1 with e | e
        · rw [e]
          exact List.mem_cons_self ..
        · exact List.mem_cons_of_mem _ e
    rw [this]
    exact k.now S .int q
  unfold maxOf at e
  split at e
  · split at e
    · rename_i n r hb
      injection e with e
      obtain ⟨a, vs, rfl, h1, r1⟩ := vx.list S.same
      rw [r1.ints hb] at h1
      exact fin n r a (.inl (SqL.of h1)) e.symm rfl
    · cases e
  · split at e
    · rename_i n r hb
      injection e with e
      obtain ⟨a, vs, rfl, h1, r1⟩ := vx.tup S.same
      rw [r1.ints hb] at h1
      exact fin n r a (.inr h1) e.symm rfl
    · cases e
  · cases e
theorem ok_minA : BuOk X z (rMinA X.K) (b1 minOf) := bu1 fun F m μ ρ σ H x v d Qd Q S vx e q k => by
  have fin : ∀ (n : Int) (r : List Int) (a : Addr), (SqL X.K H a ((n :: r).map V.int) ∨ SqT X.K H a ((n :: r).map V.int)) → d = .int (minL n r) → v = .ref a → rMinA X.K [v] H Q := by
    rintro n r a hs rfl rfl
    refine ⟨a, n :: r, rfl, hs, by simp, fun y h1 h2 => ?_⟩
    obtain ⟨g1, g2, g3⟩ := minL_is r n
    have : y = minL n r := by
      apply Int.le_antisymm
      · refine h2 _ ?_
        rcases g1 with e | e
        · rw [e]
          exact List.mem_cons_self ..
        · exact List.mem_cons_of_mem _ e
      · rcases List.mem_cons.mp h1 with e | e
        · rw [e]
          exact g2
        · exact g3 y e
    rw [this]
    exact k.now S .int q
  unfold minOf at e
  split at e
  · split at e
    · rename_i n r hb
      injection e with e
      obtain ⟨a, vs, rfl, h1, r1⟩ := vx.list S.same
      rw [r1.ints hb] at h1
      exact fin n r a (.inl (SqL.of h1)) e.symm rfl
    · cases e
  · split at e
    · rename_i n r hb
      injection e with e
      obtain ⟨a, vs, rfl, h1, r1⟩ := vx.tup S.same
      rw [r1.ints hb] at h1
      exact fin n r a (.inr h1) e.symm rfl
    · cases e
  · cases e
theorem k_max1 (hc : X.calm = true) (hm : X.mg "max" = none) (ha : DA X z [e] wa) (hg : Gl X "max" := by rfl) (he : starEach [e] X.env = (false, eval e X.env) :: starEach [] X.env := by rfl) (hpl : (backTo pos (starEach [] X.env)).any (·.1) = false := by rfl) : DE X z (.Call (.Name "max" p) [e] [] pos) (wBu (b1 maxOf) wa) := de_callB (c_maxA hc) ok_maxA hg hm ha (he := he) (hpl := hpl)
theorem k_min1 (hc : X.calm = true) (hm : X.mg "min" = none) (ha : DA X z [e] wa) (hg : Gl X "min" := by rfl) (he : starEach [e] X.env = (false, eval e X.env) :: starEach [] X.env := by rfl) (hpl : (backTo pos (starEach [] X.env)).any (·.1) = false := by rfl) : DE X z (.Call (.Name "min" p) [e] [] pos) (wBu (b1 minOf) wa) := de_callB (c_minA hc) ok_minA hg hm ha (he := he) (hpl := hpl)
/-! ### sorted pairs -/
def prsI : List D → Option (List (Int × Int))
  | [] => some []
  | .ttp [.int i, .int j] :: r => match prsI r with
    | some ps => some ((i, j) :: ps)
    | none => none
  | _ => none
def insP (x : Int × Int) : List (Int × Int) → List (Int × Int)
  | [] => [x]
  | y :: r => match SrtO.lexB y x with
    | true => y :: insP x r
    | false => x :: y :: r
def sortP : List (Int × Int) → List (Int × Int)
  | [] => []
  | x :: r => insP x (sortP r)
theorem insP_perm (x : Int × Int) : ∀ l, (insP x l).Perm (x :: l)
  | [] => .refl _
  | y :: r => by
    unfold insP
    split
    · exact ((insP_perm x r).cons y).trans (.swap x y r)
    · exact .refl _
theorem sortP_perm : ∀ l, (sortP l).Perm l
  | [] => .refl _
  | x :: r => (insP_perm x _).trans ((sortP_perm r).cons x)
abbrev leP (p q : Int × Int) : Prop := SrtO.lexB q p = false
theorem leP_tr {a b c : Int × Int} (h1 : leP a b) (h2 : leP b c) : leP a c := by
  have := SrtO.lexB_no.mp h1
  have := SrtO.lexB_no.mp h2
  exact SrtO.lexB_no.mpr (by omega)
theorem leP_anti {a b : Int × Int} (h1 : leP a b) (h2 : leP b a) : a = b := by
  have := SrtO.lexB_no.mp h1
  have := SrtO.lexB_no.mp h2
  exact Prod.ext (by omega) (by omega)
theorem insP_rises (x : Int × Int) : ∀ l, l.Pairwise leP → (insP x l).Pairwise leP
  | [], _ => List.pairwise_singleton _ _
  | y :: r, h => by
    obtain ⟨h1, h2⟩ := List.pairwise_cons.mp h
    unfold insP
    split
    · rename_i hd
      refine .cons (fun w hw => ?_) (insP_rises x r h2)
      rcases List.mem_cons.mp ((insP_perm x r).mem_iff.mp hw) with rfl | hw
      · have := SrtO.lexB_iff.mp hd
        exact SrtO.lexB_no.mpr (by omega)
      · exact h1 w hw
    · rename_i hd
      refine .cons (fun w hw => ?_) h
      rcases List.mem_cons.mp hw with rfl | hw
      · exact hd
      · exact leP_tr hd (h1 w hw)
theorem sortP_rises : ∀ l, (sortP l).Pairwise leP
  | [] => .nil
  | x :: r => insP_rises x _ (sortP_rises r)
theorem eq_sortP {ns ns' : List (Int × Int)} (hp : ns'.Perm ns) (hs : ns'.Pairwise leP) : ns' = sortP ns :=
  List.Perm.eq_of_pairwise (fun _ _ _ _ a b => leP_anti a b) hs (sortP_rises ns) (hp.trans (sortP_perm ns).symm)
def tupI (q : Int × Int) : D := .tup [.int q.1, .int q.2]
def sortedPD : D → Option (List D)
  | .lst xs => match prsI xs with
    | some ns => some ((sortP ns).map tupI)
    | none => none
  | _ => none
theorem prsI_V {K : PySem.W.Frag} {T : Tab} {F : Hp} {m : List Addr} {k : V → Int × Int} (hk : ∀ t i j, F t = some (.tup [.int i, .int j]) → k (.ref t) = (i, j)) : ∀ {ds : List D} {vs : List V} {ps : List (Int × Int)}, Reps K T F m ds vs → prsI ds = some ps →
    vs.map k = ps ∧ ∀ x ∈ vs, ∃ t, x = V.ref t ∧ F t = some (.tup [.int (k x).1, .int (k x).2])
  | _, _, ps, .nil, e => by
    injection e with e
    subst e
    exact ⟨rfl, fun x hx => nomatch hx⟩
  | _, _, ps, .cons (d := d) h rs, e => by
    unfold prsI at e
    split at e
    · rename_i heq
      cases heq
    · rename_i i j r heq
      injection heq with h1 h2
      subst h1 h2
      split at e
      · rename_i ps' hp
        injection e with e
        subst e
        cases h with
        | ttp hf r2 =>
          cases r2 with
          | cons ra r2 =>
            cases r2 with
            | cons rb r2 =>
              cases r2
              cases ra
              cases rb
              obtain ⟨g1, g2⟩ := prsI_V hk rs hp
              have hk1 := hk _ _ _ hf
              refine ⟨by rw [List.map_cons, hk1, g1], fun x hx => ?_⟩
              rcases List.mem_cons.mp hx with z | z
              · subst z
                exact ⟨_, rfl, by rw [hk1]; exact hf⟩
              · exact g2 x z
      · cases e
    · cases e
def keyOf (F : Hp) : V → Int × Int
  | .ref t => match F t with
    | some (.tup [.int i, .int j]) => (i, j)
    | _ => (0, 0)
  | _ => (0, 0)
theorem reps_tupI {K : PySem.W.Frag} {T : Tab} {F : Hp} {m : List Addr} {k : V → Int × Int} : ∀ {ys : List V}, (∀ x ∈ ys, ∃ t, x = V.ref t ∧ F t = some (.tup [.int (k x).1, .int (k x).2])) → Reps K T F m ((ys.map k).map tupI) ys
  | [], _ => .nil
  | y :: r, h => by
    obtain ⟨t, e1, e2⟩ := h y (List.mem_cons_self ..)
    have q := reps_tupI (K := K) (T := T) (m := m) (ys := r) fun x hx => h x (List.mem_cons_of_mem _ hx)
    rw [List.map_cons, List.map_cons]
    refine .cons ?_ q
    subst e1
    exact .tup (SqT.of e2) (.cons .int (.cons .int .nil))
theorem ok_sortedP {own : Bool} : BuOk X z (rSortedPO X.K) (b1L own sortedPD) := bu1L fun F m μ ρ σ H x v ds Qd Q S vx e q k => by
  unfold sortedPD at e
  split at e
  · split at e
    · rename_i ns hb
      injection e with e
      subst e
      obtain ⟨a, vs, rfl, h1, r1⟩ := vx.list S.same
      obtain ⟨g1, g2⟩ := prsI_V (k := keyOf F) (fun t i j hf => by simp only [keyOf, hf]) r1 hb
      refine ⟨a, vs, keyOf F, rfl, SqL.of h1, fun x hx => ?_, fun ys p hs hst hn => ?_⟩
      · obtain ⟨t, e1, e2⟩ := g2 x hx
        exact ⟨t, e1, S.same _ _ e2⟩
      · have ey : ys.map (keyOf F) = sortP ns := by
          refine eq_sortP ?_ ?_
          · rw [← g1]
            exact hst.perm.map _
          · exact List.pairwise_map.mpr hs
        rw [← ey] at q
        exact give_new k S hn (reps_tupI fun x hx => g2 x (hst.perm.mem_iff.mp hx)) q
    · cases e
  · cases e
theorem k_sortedP (own : Bool) (hm : X.mg "sorted" = none) (ha : DA X z [e] wa) (hg : Gl X "sorted" := by rfl) (he : starEach [e] X.env = (false, eval e X.env) :: starEach [] X.env := by rfl) (hpl : (backTo pos (starEach [] X.env)).any (·.1) = false := by rfl) : DE X z (.Call (.Name "sorted" p) [e] [] pos) (wBu (b1L own sortedPD) wa) := de_callB cr_sortedPO ok_sortedP hg hm ha (he := he) (hpl := hpl)
end
end Pk

/-! The data layer, part Z2: calls whose arguments are all passed by name. -/
namespace Pk
open PySem PySem.Spec PyProof.Rows L2
def pick {α : Type} : List Nat → List α → List α
  | [], _ => []
  | i :: r, xs => match nthG xs i with
    | some x => x :: pick r xs
    | none => pick r xs
theorem pick_vals : ∀ (gp : List Nat) {zs : List V} {ws : List Value}, Vals zs ws → Vals (pick gp zs) (pick gp ws)
  | [], _, _, _ => .nil
  | i :: r, zs, ws, h => by
    have ih := pick_vals r h
    unfold pick
    rw [nthG_eq, nthG_eq]
    cases e : zs[i]? with
    | none =>
      have : ws[i]? = none := by
        rw [List.getElem?_eq_none_iff] at e ⊢
        rw [← h.length]
        exact e
      rw [this]
      exact ih
    | some x =>
      obtain ⟨u, h1, h2⟩ := h.get e
      rw [h1]
      exact .cons h2 ih
theorem pick_reps {K : PySem.W.Frag} {T : Tab} {F : Hp} {m : List Addr} : ∀ (gp : List Nat) {ds : List D} {vs : List V}, Reps K T F m ds vs → Reps K T F m (pick gp ds) (pick gp vs)
  | [], _, _, _ => .nil
  | i :: r, ds, vs, h => by
    have ih := pick_reps r h
    unfold pick
    rw [nthG_eq, nthG_eq]
    cases e : ds[i]? with
    | none =>
      have : vs[i]? = none := by
        rw [List.getElem?_eq_none_iff] at e ⊢
        rw [← h.length]
        exact e
      rw [this]
      exact ih
    | some x =>
      obtain ⟨u, h1, h2⟩ := h.get e
      rw [h1]
      exact .cons h2 ih
/-- all parameters by name: ks are the names as they are passed, gp the places of the parameters among them -/
def KB (K : PySem.W.Frag) (fd : FuncData) (ps ks : List Str) (gp : List Nat) : Prop :=
  ∀ (s : Shared) (ws : List Value), K.In s.heap → ws.length = ks.length → BindsTo s fd ⟨[], ks.zip ws⟩ (ps.zip (pick gp ws))
theorem kb_of {K : PySem.W.Frag} {x qual : Str} {params : Arguments} {body : List Stmt} {scope : Scope} {kws : List (Str × V)} {f : Addr} {fd : FuncData} {ps ks : List Str} {gp : List Nat} (F : FunD K x qual params body scope [] kws f fd)
    (h : ∀ (kV doc pm : Value) (an : Option Addr) (cdv ct : Value) (ws : List Value), ws.length = ks.length → bindArgs (PySem.W.fnOf x qual params body scope .none kV doc pm an cdv ct) ⟨[], ks.zip ws⟩ = pure (ps.zip (pick gp ws))) : KB K fd ps ks gp := by
  obtain ⟨oc, od, dV, kV, doc, pm, an, cdv, ct, osl, rfl, lk, hcd, hD, hK⟩ := F.ex
  rcases hD with ⟨_, rfl⟩ | ⟨e, _⟩
  · exact fun s ws _ hl => .of_eq (h kV doc pm an cdv ct ws hl)
  · exact absurd rfl e
structure OkFk (P : Program) (w0 : World) (K : PySem.W.Frag) (mg : Str → Option Value) (base : Heap) (T : Tab) (k : Nat) (a : Addr) (ps ks : List Str) (gp : List Nat) (c : Con) : Prop where
  ex : ∃ fd, FnC P w0 K mg base T k a fd ps c ∧ KB K fd ps ks gp ∧ PySem.W.keepIn K (.ref a) = true
section
variable {X : Cx} {z : Zx} {k n : Nat} {a f : Addr} {fd : FuncData} {ps ks : List Str} {gp : List Nat} {c : Con} {x : Str} {p pos kpos : Pos} {e : Expr} {w : WE} {wa : WA} {kws : List Keyword} {nm : Option Str} {CX : CXT} {sp : Sp} {E : L2.St → XK}
theorem run_fnSK {pins : List (Addr × Obj)} {σ : L2.St} {H : Hp} {s : Shared} {Q : VK} {ws : List Value} {zs : List V} (F : FnOk X.prog X.w X.K X.mg X.base CX k f fd ps sp) (hr : Room k X.A) (hb : KB X.K fd ps ks gp) (hx : PassesAt CX X σ (E σ))
    (I : Inv X pins σ H s) (rz : Vals zs ws) (hl : zs.length = ks.length) (h : sp (pick gp zs) H Q (E σ)) : wpAny (model X.prog X.w) X.A (call (.ref f) [] (ks.zip ws)) (EP X pins σ Q) X.xe s := by
  refine wpAny_call (codeAny_mono (F.run X.A X.stack s H ⟨[], ks.zip ws⟩ (pick gp ws) (pick gp zs) Q (E σ) hr I.env0 (hb s ws I.kIn (rz.length.symm.trans hl)) (pick_vals gp rz) h) fun r s' hq => ?_)
  cases r with
  | error e => exact hx pins H s e s' I hq
  | ok fl =>
    cases fl with
    | ret u => exact I.after hq
    | next => exact False.elim hq
    | brk => exact False.elim hq
    | cont => exact False.elim hq
def DKw (X : Cx) (z : Zx) (kws : List Keyword) (w : WA) : Prop := ∀ Wd, Takes X (XW X.K z Wd) → PK X kws (tDA X.K z Wd w)
theorem pkI {t t' : TA} (h : PK X kws t) (f : ∀ σ H Q, t' σ H Q → t σ H Q) : PK X kws t' := ⟨fun pos pins s σ H Q I q => h.run pos pins s σ H Q I (f _ _ _ q)⟩
theorem dk_nil : DKw X z [] aNil := fun Wd tk => pkI pk_nil fun σ H Q ⟨F, m, μ, ρ, Qd, S, h, k⟩ => k _ _ _ _ _ _ (Ext.refl _ _ _) S .nil h
theorem dk_cons (h : DE X z e w) (hr : DKw X z kws wa) : DKw X z (⟨nm, e, kpos⟩ :: kws) (aCons w wa) := fun Wd tk =>
  pkI (pk_cons (h Wd tk) (hr Wd tk)) fun σ H Q ⟨F, m, μ, ρ, Qd, S, h, k⟩ => ⟨F, m, μ, ρ, _, S, h, fun F1 m1 μ1 d1 v1 H1 x1 S1 r1 q1 => ⟨F1, m1, μ1, ρ, _, S1, q1, fun F2 m2 μ2 ds vs H2 x2 S2 r2 q2 =>
    k _ _ _ _ _ _ (x1.trans x2) S2 (.cons (r1.mono x2.gr) r2) q2⟩⟩
def wCallK (c : Con) (n : Nat) (gp : List Nat) (wa : WA) : WE := fun ρ μ Q E => wa ρ μ (fun ds μ1 => match Nat.beq ds.length n, Nat.beq (pick gp ds).length n with
  | true, true => c (pick gp ds) μ1 Q E
  | _, _ => False) E
theorem c_fnK (ok : OkFk X.prog X.w X.K X.mg X.base z.T k a ps ks gp c) (hr : Room k X.A) (hm : X.mg x = some (.ref a)) (ha : DKw X z kws wa) (hg : Gl X x := by rfl) (hdb : (x == ("__debug__" : Str)) = false := by decide)
    (hall : (backToKw pos (keywordEach kws X.env)).all (·.1.isSome) = true := by rfl) (hks : (backToKw pos (keywordEach kws X.env)).filterMap (·.1) = ks := by rfl)
    (hpl : ((backTo pos (starEach [] X.env)).any (·.1) || (backToKw pos (keywordEach kws X.env)).any (·.1.isNone)) = false := by rfl) (hn : ps.length = n := by rfl) (hn2 : ks.length = n := by rfl) : DE X z (.Call (.Name x p) [] kws pos) (wCallK c n gp wa) := fun Wd tk => by
  subst hn
  obtain ⟨fd, Fc, hb, kp⟩ := ok.ex
  refine ⟨fun pins s σ H Q I ⟨F, m, μ, ρ, Qd, S, h, kk⟩ => ?_⟩
  refine wpAny_Call_Name_kw (ld_glob I hg hm ?_ hdb)
  refine PySem.W.callWith_KW0 (h₀ := X.base) I.ok.mod.kin kp hall (thn ((ha Wd tk).run pos pins s σ H (fun zs H2 => zs.length = ks.length ∧ spD X.K z.T c ps.length (pick gp zs) H2 Q (XW X.K z Wd · · σ ·)) I ⟨F, m, μ, ρ, _, S, h, fun F1 m1 μ1 ds vs H1 x1 S1 r1 q1 => ?_⟩) fun ws s2 ⟨zs, H2, I2, rz, hl, q2⟩ => ⟨I2.kIn, ?_⟩) hpl
  · cases e1 : Nat.beq ds.length ps.length with
    | false => rw [e1] at q1; exact q1.elim
    | true =>
      cases e2 : Nat.beq (pick gp ds).length ps.length with
      | false => rw [e1, e2] at q1; exact q1.elim
      | true =>
        rw [e1, e2] at q1
        refine ⟨by rw [← r1.length, Nat.eq_of_beq_eq_true e1, hn2], ?_⟩
        exact sp_run S1 (pick_reps gp r1) (Nat.eq_of_beq_eq_true e2) q1 (fun F4 m4 μ4 d4 v4 H4 x4 => kk F4 m4 μ4 d4 v4 H4 (x1.trans x4)) fun F' m' μ' y cls d H' x2 S2 xr q => ⟨F', m', μ', ρ, y, S2, xr, q⟩
  · rw [hks]
    exact run_fnSK (E := fun σ cls d H => XW X.K z Wd cls d σ H) Fc hr hb (passAt tk σ) I2 rz hl q2
end
end Pk

/-! The data layer, part Z3: a, b = a list. -/
namespace Pk
open PySem PySem.Spec PyProof.Rows L2
def gTL (gs : List GF) : GF := fun d ρ => match d with
  | .lst ds => gEach gs ds ρ
  | _ => none
theorem gEach_len : ∀ {gs : List GF} {ds : List D} {ρ ρ' : Slots}, gEach gs ds ρ = some ρ' → gs.length = ds.length
  | [], [], _, _, _ => rfl
  | [], _ :: _, _, _, e => by cases e
  | _ :: _, [], _, _, e => by cases e
  | g :: gs, d :: ds, ρ, ρ', e => by
    unfold gEach at e
    cases q : g d ρ with
    | none => rw [q] at e; cases e
    | some ρ1 =>
      rw [q] at e
      simp only [List.length_cons, gEach_len e]
section
variable {X : Cx} {z : Zx} {pos : Pos}
theorem dg_unl {es : List Expr} {k : Nat} {gs : List GF} {js : List Nat} {n : Nat} (hc : X.calm = true) (h : DGs X z es gs js) (hl : gs.length = n := by rfl)
    (hn : (assignEach es X.env).length = n := by rfl) (hst : (assignEach es X.env).findIdx? (·.1) = none := by rfl) : DG X z (.Tuple es k pos) (gTL gs) js :=
  pgI (pg_unl hc h hn hst) fun v σ H Q ⟨F, m, μ, ρ, d, ρ', S, r, e, k⟩ => by
    unfold gTL at e
    split at e
    · rename_i ds
      cases r with
      | lst hq rs =>
        have l := gEach_len e
        exact ⟨_, _, rfl, SqL.of (S.same _ _ hq), by rw [← rs.length, ← l, hl], F, m, μ, ρ, ds, ρ', S, rs, e, k⟩
    · cases e
end
end Pk

/-! The data layer, part Z4: repr of lists and tuples, texts compared. -/
namespace Pk
open PySem PySem.Spec PyProof.Rows L2
mutual
/-- how much a text of it takes at most; small integers only -/
def wtD : D → Option Nat
  | .non => some 0
  | .bl _ => some 0
  | .int i => match Nat.blt i.natAbs 1000000000000 with
    | true => some 41
    | false => none
  | .str s => some s.length
  | .tup xs => wtDs xs
  | .lst xs => wtDs xs
  | .ttp xs => wtDs xs
  | _ => none
def wtDs : List D → Option Nat
  | [] => some 0
  | x :: r => match wtD x, wtDs r with
    | some a, some b => some (a + 1 + b)
    | _, _ => none
end
/-- the text -/
def txD (d : D) : Tx := (toPy d).shown.cps.toList
def isSq : D → Bool
  | .tup _ => true
  | .lst _ => true
  | .ttp _ => true
  | _ => false
def fitD (d : D) : Bool := match isSq d, pureD 60 d, wtD d with
  | true, true, some n => Nat.ble n 1048576
  | _, _, _ => false
def reprD (d : D) : Option D := match fitD d with
  | true => some (.str (txD d))
  | false => none
theorem tx_of (x : Str) : tx x.cps.toList = x := rfl
mutual
theorem wt_py : ∀ (n : Nat) (d : D) (w : Nat), pureD n d = true → wtD d = some w → (toPy d).showable = true ∧ (toPy d).intsShort 13 = true ∧ (toPy d).weight ≤ w
  | _, .non, w, _, e => by
    cases e
    exact ⟨rfl, rfl, Nat.le_refl _⟩
  | _, .bl _, w, _, e => by
    cases e
    exact ⟨rfl, rfl, Nat.le_refl _⟩
  | _, .str s, w, _, e => by
    unfold wtD at e
    injection e with e
    subst e
    refine ⟨rfl, rfl, ?_⟩
    show (tx s).cps.size ≤ s.length
    unfold tx
    simp
  | _, .int i, w, _, e => by
    unfold wtD at e
    split at e
    · rename_i q
      injection e with e
      subst e
      have lt : i.natAbs < 1000000000000 := Nat.le_of_ble_eq_true q
      have l2 : i.natAbs.log2 < 40 := by
        by_cases z : i.natAbs = 0
        · rw [z]; decide
        · exact (Nat.log2_lt z).mpr (Nat.lt_trans lt (by decide))
      refine ⟨decide_eq_true (Nat.lt_trans l2 (by decide)), decide_eq_true (PyData.shown_int_le lt), ?_⟩
      show (if i == 0 then 0 else i.natAbs.log2 + 1) ≤ 41
      split <;> omega
    · cases e
  | 0, .tup _, _, h, _ => by simp [pureD] at h
  | 0, .lst _, _, h, _ => by simp [pureD] at h
  | 0, .ttp _, _, h, _ => by simp [pureD] at h
  | n + 1, .tup xs, w, h, e => wts_py n xs w (by simpa [pureD] using h) e
  | n + 1, .ttp xs, w, h, e => wts_py n xs w (by simpa [pureD] using h) e
  | n + 1, .lst xs, w, h, e => wts_py n xs w (by simpa [pureD] using h) e
  | n, .dct _, _, h, _ => by cases n <;> simp [pureD] at h
  | n, .scr _, _, h, _ => by cases n <;> simp [pureD] at h
  | n, .ins _ _, _, h, _ => by cases n <;> simp [pureD] at h
  | n, .mref _, _, h, _ => by cases n <;> simp [pureD] at h
  | n, .cls _, _, h, _ => by cases n <;> simp [pureD] at h
  | n, .ty _, _, h, _ => by cases n <;> simp [pureD] at h
  | n, .ptp _, _, h, _ => by cases n <;> simp [pureD] at h
  | n, .dcp _ _, _, h, _ => by cases n <;> simp [pureD] at h
theorem wts_py : ∀ (n : Nat) (xs : List D) (w : Nat), pureDs n xs = true → wtDs xs = some w → PyData.showableAll (toPys xs) = true ∧ PyData.intsShortAll 13 (toPys xs) = true ∧ PyData.weightAll (toPys xs) ≤ w
  | _, [], w, _, e => by
    cases e
    exact ⟨rfl, rfl, Nat.le_refl _⟩
  | n, x :: r, w, h, e => by
    unfold pureDs at h
    unfold wtDs at e
    cases q : pureD n x with
    | false => rw [q] at h; cases h
    | true =>
      rw [q] at h
      cases e1 : wtD x with
      | none => rw [e1] at e; cases e
      | some a =>
        cases e2 : wtDs r with
        | none => rw [e1, e2] at e; cases e
        | some b =>
          rw [e1, e2] at e
          injection e with e
          subst e
          obtain ⟨a1, a2, a3⟩ := wt_py n x a q e1
          obtain ⟨b1, b2, b3⟩ := wts_py n r b h e2
          refine ⟨?_, ?_, ?_⟩
          · show ((toPy x).showable && PyData.showableAll (toPys r)) = true
            rw [a1, b1]
            rfl
          · show ((toPy x).intsShort 13 && PyData.intsShortAll 13 (toPys r)) = true
            rw [a2, b2]
            rfl
          · show (toPy x).weight + 1 + PyData.weightAll (toPys r) ≤ a + 1 + b
            omega
end
/-- repr of what lies as a list or a tuple -/
def rRep (K : PySem.W.Frag) : List V → Hp → VK → Prop := fun xs H Q => ∃ a d, xs = [.ref a] ∧ Dp K H (.ref a) d ∧ d.showable = true ∧ d.hasDict = false ∧ d.depth ≤ 62 ∧ d.shown.length ≤ sizeLine ∧ Q (.str d.shown) H
section
variable {X : Cx} {z : Zx}
theorem call_rep (hg : X.A.guards = some []) (hu : X.A.units + 65 < cLine) : CallR X (.builtin "repr") (rRep X.K) := by
  rintro pins s σ H _ us Q I rv ⟨a, d, rfl, dp, sh, nd, dd, sz, q⟩
  match us, rv with
  | [_], .cons ra .nil =>
    cases ra
    obtain ⟨as, rd⟩ := Dp.reads I d (.ref a) (.ref a) dp rfl
    exact repr_of_reads' rd sh (PyData.noDict_hsm nd) hg (by omega) (fun _ _ e => e) (fun h' u tk kp => ⟨.str d.shown, H, I.kept (t' := tk) kp, ⟨u, rfl⟩, q⟩) sz
theorem okRep : BuOk X z (rRep X.K) (b1 reprD) := bu1 fun F m μ ρ σ H x v d Qd Q S vx e q k => by
  unfold reprD at e
  split at e
  · rename_i ft
    injection e with e
    subst e
    unfold fitD at ft
    split at ft
    · rename_i n sq pr wt
      obtain ⟨g1, g2, g3⟩ := wt_py 60 x n pr wt
      obtain ⟨c1, c2⟩ := canLay_of 60 x pr
      have le : n ≤ 1048576 := Nat.le_of_ble_eq_true ft
      have dp := vx.dp S.same pr
      have fits := PyData.shown_fits (B := 13) (by decide) (by decide) (PyData.leavesShort_of_canLay0 13 _ c1 g2) (Nat.le_trans g3 (Nat.le_trans le (by decide)))
      have isr : ∃ a, v = .ref a := by
        cases x <;> first | cases sq | skip
        all_goals
          cases dp
          exact ⟨_, rfl⟩
      obtain ⟨a, rfl⟩ := isr
      refine ⟨a, toPy x, rfl, dp, g1, PyData.hasDict_of_canLay _ c1, by omega, fits, ?_⟩
      exact k.now S .str q
    · cases ft
  · cases e
def eqT : D → D → Option D
  | .str s, .str t => some (.bl (eqTx s t))
  | _, _ => none
def neT : D → D → Option D
  | .str s, .str t => some (.bl (!eqTx s t))
  | _, _ => none
theorem okEqT : OpD X z rEq eqT := by
  intro F m μ ρ σ H x y v u d Qd Q S vx vy e q k
  unfold eqT at e
  split at e
  · injection e with e
    subst e
    have e1 := vx.str
    have e2 := vy.str
    subst e1 e2
    refine ⟨rfl, ?_⟩
    rename_i s t
    have : decide (V.str (tx s) = V.str (tx t)) = eqTx s t := by
      rw [eqTx_dec, Bool.eq_iff_iff, decide_eq_true_iff, decide_eq_true_iff]
      constructor
      · intro e
        injection e with e
        exact tx_inj.mp e
      · intro e
        rw [e]
    rw [this]
    exact k.now S .bl q
  · cases e
theorem okNeT : OpD X z rNe neT := by
  intro F m μ ρ σ H x y v u d Qd Q S vx vy e q k
  unfold neT at e
  split at e
  · injection e with e
    subst e
    have e1 := vx.str
    have e2 := vy.str
    subst e1 e2
    refine ⟨rfl, ?_⟩
    rename_i s t
    have : decide (V.str (tx s) = V.str (tx t)) = eqTx s t := by
      rw [eqTx_dec, Bool.eq_iff_iff, decide_eq_true_iff, decide_eq_true_iff]
      constructor
      · intro e
        injection e with e
        exact tx_inj.mp e
      · intro e
        rw [e]
    rw [this]
    exact k.now S .bl q
  · cases e
end
section
variable {X : Cx} {z : Zx} {e a b : Expr} {p pos : Pos} {wa wb : WE} {w : WA}
theorem k_repr (hg0 : X.A.guards = some []) (hu : X.A.units + 65 < cLine) (hm : X.mg "repr" = none) (ha : DA X z [e] w) (hg : Gl X "repr" := by rfl) (he : starEach [e] X.env = (false, eval e X.env) :: starEach [] X.env := by rfl) (hpl : (backTo pos (starEach [] X.env)).any (·.1) = false := by rfl) :
    DE X z (.Call (.Name "repr" p) [e] [] pos) (wBu (b1 reprD) w) := de_callB (call_rep hg0 hu) okRep hg hm ha (he := he) (hpl := hpl)
theorem cmp_eqT (ha : DE X z a wa) (hb : DE X z b wb) (hm : behindInMarks .Eq b = false := by rfl) : DE X z (.Compare a [.Eq] [b] pos) (w2 eqT wa wb) := de_cmp op_eq okEqT hm ha hb
theorem cmp_neT (ha : DE X z a wa) (hb : DE X z b wb) (hm : behindInMarks .NotEq b = false := by rfl) : DE X z (.Compare a [.NotEq] [b] pos) (w2 neT wa wb) := de_cmp op_ne okNeT hm ha hb
theorem t_eqT (ha : DE X z a wa) (hb : DE X z b wb) (hm : behindInMarks .Eq b = false := by rfl) : DT X z (.Compare a [.Eq] [b] pos) (tBl (w2 eqT wa wb)) := dt_cmp op_eq okEqT hm ha hb
theorem t_neT (ha : DE X z a wa) (hb : DE X z b wb) (hm : behindInMarks .NotEq b = false := by rfl) : DT X z (.Compare a [.NotEq] [b] pos) (tBl (w2 neT wa wb)) := dt_cmp op_ne okNeT hm ha hb
end
end Pk

/-! The data layer, part Z5: sorted(set(a list of integers)). -/
namespace Pk
open PySem PySem.Spec PyProof.Rows L2
section
variable {P : Program} {w : World} {A : Around} {E : Value → Shared → Prop} {t : Shared}
/-- a set, empty -/
abbrev set0 (w : World) : Obj := { cls := .type "set", dict := none, data := .set #[] 0 (.fresh 0 0 (!w.params.followText "set-order")) }
/-- its __init__ by a list of integers -/
theorem set_init_list {l : Addr} {xs : Array Value} {is : List Int} {F0 : Value → Shared → Prop} (nh : A.handled = none) (at_ : t.heap.IsList l xs) (ia : IntsAre xs.toList is) (few : is.length + 1 < scanBound)
    (k : ∀ (g : Heap) (u c : Nat), SetR w g t.heap.objs.size (fun j => decide (j ∈ is)) c → c ≤ is.length → (∀ b o, t.heap.get? b = some o → g.get? b = some o) → F0 .none { t with heap := g, toks := u }) :
    wpAny (model P w) A.in1.in1 (Builtin.«set.__init__» ⟨[.ref t.heap.objs.size, .ref l], []⟩)
      (fun fin s' => match fin with
        | .done f => wants F0 E (.ok f) s'
        | .again c' => c'.quiet = true ∧ codeAny (model P w) A.in1 c' (wants F0 E) s') (fun e s' => wants F0 E (.error e) s') { t with heap := t.heap.push (set0 w) } := by
  have len : xs.size = is.length := by
    have q := ia.length
    rwa [Array.length_toList] at q
  have new : (t.heap.push (set0 w)).get? t.heap.objs.size = some (set0 w) := Heap.get?_push_size _ rfl
  have lo : l < t.heap.objs.size := by
    obtain ⟨o, e, _⟩ := at_
    exact Heap.lt_size e
  have at1 : (t.heap.push (set0 w)).IsList l xs := at_.push _
  have vals : ∀ (i : Nat) (v : Value), xs[i]? = some v → ∃ k u, is[i]? = some k ∧ v = .int k u := fun i v e => by
    have lt : i < is.length := by rw [← len]; exact (Array.getElem?_eq_some_iff.mp e).1
    obtain ⟨u, q⟩ := PyProof.Rows.IntsAre.int_at ia i v (by rw [Array.getElem?_toList]; exact e)
    refine ⟨is[i], u, List.getElem?_eq_getElem lt, ?_⟩
    rw [q, List.getD_eq_getElem?_getD, List.getElem?_eq_getElem lt]
    rfl
  obtain ⟨⟨cc, dd, da, ss⟩, e1, e2, n1, e3⟩ := id at1
  simp only at e2 e3
  subst e2 e3
  have e4 := e1
  have s1 := F.sub_list_set
  have s2 := F.sub_list_frozenset
  have s3 : (Value.type "list" == Value.type "dict") = false := by decide
  unfold Builtin.«set.__init__» noKeywords Builtin.Frozenset.updateFrom
  generalize eq : pyIter = PI
  wp_walk
  subst eq
  refine wpAny_pyIter_list at1 ?_
  refine wpAny_bind (wpAny_runValue ?_)
  have sz : (t.heap.push (set0 w)).objs.size = t.heap.objs.size + 1 := Heap.size_push ..
  have d1 : l ≠ (t.heap.push (set0 w)).objs.size := by
    rw [sz]
    exact Nat.ne_of_lt (Nat.lt_succ_of_lt lo)
  have d2 : t.heap.objs.size ∉ [(t.heap.push (set0 w)).objs.size, l] := by
    rw [sz]
    simp only [List.mem_cons, List.not_mem_nil, or_false, not_or]
    exact ⟨Nat.ne_of_lt (Nat.lt_succ_self _), Nat.ne_of_gt lo⟩
  refine set_update_ints ((Walks.list (show A.in1.in1.in1.handled = none by simp [nh]) _ l d1 xs).toS) t.heap.objs.size d2 is len few vals (xs.size - 0) 0 _ rfl (Nat.zero_le _)
    ⟨⟨_, Heap.get?_push_size _ rfl, rfl, rfl⟩, at1.push _⟩ ⟨0, Nat.le_refl 0, setR_new_at (Heap.get?_push_of_some _ new)⟩ fun s' c mv hc R => ?_
  obtain ⟨g, g2, dr, u, os⟩ := s'
  cases (show g2 = t.gens from mv.gens)
  cases (show dr = t.drawn from mv.drawn)
  cases (show os = t.os from mv.os)
  show wpAny _ _ _ _ _ _
  refine wpAny_pure ?_
  show wpAny _ _ (ret Value.none) _ _ _
  rw [len] at hc
  refine wpAny_pure (k g u c R hc fun b o e => ?_)
  have lt := Heap.lt_size e
  refine mv.heap b o ?_ (Heap.get?_push_of_some _ (Heap.get?_push_of_some _ e))
  rw [sz]
  simp only [List.mem_cons, List.not_mem_nil, or_false, not_or]
  exact ⟨Nat.ne_of_lt lt, Nat.ne_of_lt (Nat.lt_succ_of_lt lt)⟩
/-- set(a list of integers) -/
theorem call_setL {l : Addr} {xs : Array Value} {is : List Int} {Q : Value → Shared → Prop} (nh : A.handled = none) (at_ : t.heap.IsList l xs) (ia : IntsAre xs.toList is) (few : is.length + 1 < scanBound)
    (k : ∀ (g : Heap) (u c : Nat), SetR w g t.heap.objs.size (fun j => decide (j ∈ is)) c → c ≤ is.length → (∀ b o, t.heap.get? b = some o → g.get? b = some o) → Q (.ref t.heap.objs.size) { t with heap := g, toks := u }) :
    wpAny (model P w) A (call (.type "set") [.ref l]) Q E t := by
  obtain ⟨c0, r0, hmro⟩ := F.called_set.mro
  have hmade := F.called_set.made
  have hsub := F.called_set.sub
  have h1 := F.called_set.notType
  have h2 := F.called_set.canCreate
  have hct := F.typeCall_set_1 (.ref l)
  refine wpAny_call (codeAny_of_tree (show wpAny _ _ (callAny (.type "set") _) _ _ _ from wpAny_pure ⟨Code.quiet_builtin _ (by decide +kernel), codeAny_builtin F.entry_type_call ?_⟩))
  rw [Around.under_plain (weight_type_call_type "set" [.ref l] []) rfl]
  repeat (any_goals (first | assumption | wp_step))
  refine codeAny_mono (code_set_led1 (.ref l) (E := E) (Q₁ := fun v s1 => v = .ref t.heap.objs.size ∧ s1 = { t with heap := t.heap.push (set0 w) }) ⟨rfl, rfl⟩) fun r s1 q => ?_
  match r, q with
  | .error e, q => exact q
  | .ok .next, q => exact q.elim
  | .ok .brk, q => exact q.elim
  | .ok .cont, q => exact q.elim
  | .ok (.ret v), ⟨q1, q2⟩ =>
    subst q1 q2
    have ty : Shared.TypeIs { t with heap := t.heap.push (set0 w) } (.ref t.heap.objs.size) "set" := ⟨_, Heap.get?_push_size _ rfl, rfl⟩
    have hli := F.called_set.init.lookup
    have hbi := F.called_set.init.bind (.ref t.heap.objs.size)
    repeat (any_goals (first | assumption | wp_step))
    refine codeAny_mono (codeAny_call_builtin F.called_set.init.plain F.entry_set_init (check_set_init_1 ty
      (set_init_list (E := E) (F0 := fun v s2 => v = .none ∧ Q (.ref t.heap.objs.size) s2) nh at_ ia few fun g u c R hc kp => ⟨rfl, k g u c R hc kp⟩))) fun r2 s2 q2 => ?_
    match r2, q2 with
    | .error e, q2 => exact q2
    | .ok .next, q2 => exact q2.elim
    | .ok .brk, q2 => exact q2.elim
    | .ok .cont, q2 => exact q2.elim
    | .ok (.ret v2), ⟨q3, q4⟩ =>
      subst q3
      repeat (any_goals (first | assumption | wp_step))
end
end Pk

/-! The data layer, part Z6: the members, rising. -/
namespace Pk
open PySem PySem.Spec PyProof.Rows L2
theorem nodupI_len : ∀ (n : Nat) (xs : List Int), xs.Nodup → (∀ x ∈ xs, 0 ≤ x ∧ x < (n : Int)) → xs.length ≤ n
  | 0, [], _, _ => Nat.le_refl _
  | 0, x :: _, _, h => by
    have := h x (List.mem_cons_self ..)
    omega
  | n + 1, xs, nd, h => by
    have i := nodupI_len n (xs.erase (n : Int)) (nd.erase _) fun x hx => by
      obtain ⟨h1, h2⟩ := (nd.mem_erase_iff).mp hx
      have := h x h2
      omega
    have := List.length_erase (l := xs) (a := (n : Int))
    split at this <;> omega
/-- its members, rising -/
def risenI (ns : List Int) : List Int := ((List.range 63).filter fun k => ns.any fun i => decide (i = ((k : Nat) : Int))).map fun k => ((k : Nat) : Int)
def lowI (ns : List Int) : Bool := ns.all fun i => decide (0 ≤ i) && decide (i < 63)
def setSortI : D → Option (List D)
  | .lst xs => match intsD xs with
    | some ns => match Nat.blt ns.length 4000, lowI ns with
      | true, true => some ((risenI ns).map .int)
      | _, _ => none
    | none => none
  | _ => none
theorem mem_risenI {ns : List Int} {i : Int} (l : lowI ns = true) : i ∈ risenI ns ↔ i ∈ ns := by
  unfold risenI
  rw [List.mem_map]
  constructor
  · rintro ⟨k, hk, e⟩
    obtain ⟨_, h2⟩ := List.mem_filter.mp hk
    obtain ⟨j, hj, e2⟩ := List.any_eq_true.mp h2
    have := of_decide_eq_true e2
    rw [← e, ← this]
    exact hj
  · intro h
    have q := List.all_eq_true.mp l i h
    rw [Bool.and_eq_true, decide_eq_true_iff, decide_eq_true_iff] at q
    refine ⟨i.toNat, List.mem_filter.mpr ⟨List.mem_range.mpr (by omega), List.any_eq_true.mpr ⟨i, h, decide_eq_true (by omega)⟩⟩, by omega⟩
theorem risenI_rises (ns : List Int) : (risenI ns).Pairwise (· < ·) := by
  unfold risenI
  refine List.pairwise_map.mpr (List.Pairwise.imp (fun h => ?_) (List.pairwise_lt_range.sublist List.filter_sublist))
  omega
theorem rises_same {xs ys : List Int} (h1 : xs.Pairwise (· < ·)) (h2 : ys.Pairwise (· < ·)) (h : ∀ i, i ∈ xs ↔ i ∈ ys) : xs = ys := by
  have n1 : xs.Nodup := h1.imp fun h => by omega
  have n2 : ys.Nodup := h2.imp fun h => by omega
  have p : xs.Perm ys := (List.perm_ext_iff_of_nodup n1 n2).mpr h
  exact List.Perm.eq_of_pairwise (le := fun a b => a ≤ b) (fun _ _ _ _ a b => Int.le_antisymm a b) (h1.imp Int.le_of_lt) (h2.imp Int.le_of_lt) p
end Pk

/-! The data layer, part Z7: sorted(set(..)) as a word. -/
namespace Pk
open PySem PySem.Spec PyProof.Rows L2
def rSetS (K : PySem.W.Frag) : List V → Hp → VK → Prop := fun vs H Q => ∃ (l : Addr) (ns : List Int), vs = [V.ref l] ∧ SqL K H l (ns.map V.int) ∧ ns.length ≤ 4000 ∧ lowI ns = true ∧ ∀ p, H p = none → Q (.ref p) (upd H p (.lst ((risenI ns).map V.int)))
section
variable {X : Cx} {z : Zx} {e : Expr} {p p2 pos q : Pos} {ta : TA} {wa : WA}
theorem pe_setS (hc : X.calm = true) (hm : X.mg "sorted" = none) (hm2 : X.mg "set" = none) (hg : Gl X "sorted") (hg2 : Gl X "set") (ha : PA X [e] ta)
    (hpl : (backTo pos (starEach [] X.env)).any (·.1) = false := by rfl) (hs2 : starEach [e] X.env = (false, eval e X.env) :: starEach [] X.env := by rfl) (hpl2 : (backTo q (starEach [] X.env)).any (·.1) = false := by rfl) :
    PE X (.Call (.Name "sorted" p) [.Call (.Name "set" p2) [e] [] q] [] pos) (tCB (rSetS X.K) ta) := by
  refine ⟨fun pins s σ H Q I h => ?_⟩
  refine Call_ (ld_blt I hg hm PyProof.Rows.boot_sorted ?_)
  have h0 : starEach [.Call (.Name "set" p2) [e] [] q] X.env = (false, eval (.Call (.Name "set" p2) [e] [] q) X.env) :: starEach [] X.env := by rfl
  refine PyProof.Rows.callWith_builtin1 (PyProof.Rows.args_cons (rest := []) ?_ h0) h0 hpl
  refine Call_ (ld_blt I hg2 hm2 PyProof.Rows.boot_set (PyProof.Rows.callWith_type1 (thn (ha.run q pins s σ H _ I h) fun us s1 ⟨vs, H1, I1, rv, q1⟩ => ?_) hs2 hpl2))
  obtain ⟨l, ns, rfl, sq, len, low, q1⟩ := q1
  rw [Vals.ref1 rv]
  obtain ⟨its, r, pl, hz⟩ := I1.list sq
  refine call_setL (I1.ok.hd hc) pl.isList (by simpa using ints_of_vals r) (by unfold scanBound; omega) fun g u c R hc2 kp => ?_
  refine PyProof.Rows.args_nil ?_
  have I2 : Inv X pins σ H1 { s1 with heap := g, toks := u } := I1.kept (t' := u) kp
  have c64 : c < 64 := by
    obtain ⟨o, es, ep, tb, ho, _, hd, _, nd, hm3, _, _, hn, _⟩ := id R
    have := nodupI_len 63 _ nd fun x hx => by
      have e1 := of_decide_eq_true ((hm3 x).mpr hx)
      have q := List.all_eq_true.mp low x e1
      rw [Bool.and_eq_true, decide_eq_true_iff, decide_eq_true_iff] at q
      exact q
    rw [List.length_map, Array.length_toList] at this
    omega
  have R2 : SetR X.w ({ s1 with heap := g, toks := u } : Shared).heap s1.heap.objs.size (fun j => decide (j ∈ ns)) c := R
  generalize ({ s1 with heap := g, toks := u } : Shared) = s3 at I2 R2 ⊢
  refine sorted_set R2 (I2.ok.hd hc) c64 fun s2 a out c2 ms kp2 eg eo le at2 ia rs mm ml => ?_
  have em : ms = risenI ns := rises_same rs (risenI_rises ns) fun i => by
    rw [mm i, mem_risenI low]
    exact decide_eq_true_iff
  subst em
  have fr : H1 a = none := I2.hok.fresh le
  have J : Inv X pins σ (upd H1 a (.lst ((risenI ns).map V.int))) { s3 with heap := s2.heap, gens := s2.gens, drawn := s2.drawn, toks := s2.toks } :=
    I2.call (ch := []) (Un.laid kp2 le fr) (I2.hok.laid kp2 le ⟨by rw [List.length_map, ml, sizeLine_eq]; omega, out.toList, c2, vals_of_ints ia, at2⟩) (by rw [eg]; exact I2.bare) (fun _ y => nomatch y)
  have es : s2 = { s3 with heap := s2.heap, gens := s2.gens, drawn := s2.drawn, toks := s2.toks } := by
    cases s2
    cases s3
    cases eo
    rfl
  rw [es]
  exact ⟨.ref a, _, J, rfl, q1 a fr⟩
theorem ok_setS {own : Bool} : BuOk X z (rSetS X.K) (b1L own setSortI) := bu1L fun F m μ ρ σ H x v ds Qd Q S vx e q k => by
  unfold setSortI at e
  split at e
  · split at e
    · rename_i ns hb
      split at e
      · rename_i h1 h2
        injection e with e
        subst e
        obtain ⟨a, vs, rfl, h3, r1⟩ := vx.list S.same
        rw [r1.ints hb] at h3
        refine ⟨a, ns, rfl, SqL.of h3, Nat.le_of_lt (Nat.le_of_ble_eq_true h1), h2, fun p hn => ?_⟩
        exact give_new k S hn (reps_ints _) q
      · cases e
    · cases e
  · cases e
theorem k_setS (own : Bool) (hc : X.calm = true) (hm : X.mg "sorted" = none) (hm2 : X.mg "set" = none) (ha : DA X z [e] wa) (hg : Gl X "sorted" := by rfl) (hg2 : Gl X "set" := by rfl)
    (hpl : (backTo pos (starEach [] X.env)).any (·.1) = false := by rfl) (hs2 : starEach [e] X.env = (false, eval e X.env) :: starEach [] X.env := by rfl) (hpl2 : (backTo q (starEach [] X.env)).any (·.1) = false := by rfl) :
    DE X z (.Call (.Name "sorted" p) [.Call (.Name "set" p2) [e] [] q] [] pos) (wBu (b1L own setSortI) wa) := fun Wd tk =>
  peI (pe_setS hc hm hm2 hg hg2 (ha Wd tk) hpl hs2 hpl2) fun σ H Q h => bu_run ok_setS h
end
end Pk

/-! The data layer, part Z8: list(range(a, b)). -/
namespace Pk
open PySem PySem.Spec PyProof.Rows L2
def rgI (i j : Int) : List Int := (List.range (j - i).toNat).map fun k => i + ((k : Nat) : Int)
def smallR (i j : Int) : Bool := decide (0 ≤ i) && decide (i ≤ 1000000) && decide (0 ≤ j) && decide (j ≤ 1000000)
def bRgL (own : Bool) : BF := fun ds μ Q => match ds with
  | [.int i, .int j] => match smallR i j with
    | true => giveL own ((rgI i j).map .int) μ Q
    | false => False
  | _ => False
def rRgL : List V → Hp → VK → Prop := fun vs H Q => ∃ i j : Int, vs = [V.int i, V.int j] ∧ smallR i j = true ∧ ∀ p, H p = none → Q (.ref p) (upd H p (.lst ((rgI i j).map V.int)))
theorem vals_rg {i : Int} : ∀ (n : Nat) (f : Nat → Int) (us : List Value), us.length = n → (∀ k v, us[k]? = some v → ∃ t, v = Value.int (f k) t) → Vals ((List.range n).map fun k => V.int (f k)) us
  | 0, f, us, hl, _ => by
    cases us with
    | nil => exact .nil
    | cons a b => simp at hl
  | n + 1, f, [], hl, _ => by simp at hl
  | n + 1, f, u :: r, hl, h => by
    rw [List.range_succ_eq_map, List.map_cons, List.map_map]
    obtain ⟨t, e⟩ := h 0 u rfl
    exact .cons ⟨t, e⟩ (vals_rg (i := i) n (fun k => f (k + 1)) r (by simpa using hl) fun k v e => h (k + 1) v e)
section
variable {X : Cx} {z : Zx} {e e2 : Expr} {p p2 pos q : Pos} {ta : TA} {wa : WA}
theorem pe_rgL (hc : X.calm = true) (hm : X.mg "list" = none) (hm2 : X.mg "range" = none) (hg : Gl X "list") (hg2 : Gl X "range") (ha : PA X [e, e2] ta)
    (hpl : (backTo pos (starEach [] X.env)).any (·.1) = false := by rfl) (hs2 : starEach [e, e2] X.env = (false, eval e X.env) :: starEach [e2] X.env := by rfl) (hpl2 : (backTo q (starEach [e2] X.env)).any (·.1) = false := by rfl) :
    PE X (.Call (.Name "list" p) [.Call (.Name "range" p2) [e, e2] [] q] [] pos) (tCB rRgL ta) := by
  refine ⟨fun pins s σ H Q I h => ?_⟩
  refine Call_ (ld_blt I hg hm PyProof.Rows.boot_list ?_)
  have h0 : starEach [.Call (.Name "range" p2) [e, e2] [] q] X.env = (false, eval (.Call (.Name "range" p2) [e, e2] [] q) X.env) :: starEach [] X.env := by rfl
  refine PyProof.Rows.callWith_type1 (PyProof.Rows.args_cons (rest := []) ?_ h0) h0 hpl
  refine Call_ (ld_blt I hg2 hm2 PyProof.Rows.boot_range (PyProof.Rows.callWith_type1 (thn (ha.run q pins s σ H _ I h) fun us s1 ⟨vs, H1, I1, rv, q1⟩ => ?_) hs2 hpl2))
  obtain ⟨i, j, e0, sm, q1⟩ := q1
  rw [e0] at rv
  obtain ⟨u1, u2, rfl, r1, r2⟩ := rv.two
  obtain ⟨t1, rfl⟩ := r1
  obtain ⟨t2, rfl⟩ := r2
  unfold smallR at sm
  rw [Bool.and_eq_true, Bool.and_eq_true, Bool.and_eq_true, decide_eq_true_iff, decide_eq_true_iff, decide_eq_true_iff, decide_eq_true_iff] at sm
  obtain ⟨⟨⟨b1, b2⟩, b3⟩, b4⟩ := sm
  refine call_range_2 ?_
  refine PyProof.Rows.args_nil ?_
  have I2 : Inv X pins σ H1 { s1 with heap := s1.heap.push { cls := .type "range", data := .fields #[.int i t1, .int j t2, .int 1 s1.toks] }, toks := s1.toks + 1 } := I1.kept (t' := s1.toks + 1) fun b u e => Heap.get?_push_of_some _ e
  have rg : IsRange (s1.heap.push { cls := .type "range", data := .fields #[.int i t1, .int j t2, .int 1 s1.toks] }) s1.heap.objs.size i j 1 t1 t2 s1.toks := IsRange.new _ _ _ _ _ _ _
  generalize hs3 : ({ s1 with heap := s1.heap.push { cls := .type "range", data := .fields #[.int i t1, .int j t2, .int 1 s1.toks] }, toks := s1.toks + 1 } : Shared) = s3 at I2 ⊢
  have rg3 : IsRange s3.heap s1.heap.objs.size i j 1 t1 t2 s1.toks := by rw [← hs3]; exact rg
  have n3 : Builtin.Range.rangeSize i j 1 = ((j - i).toNat : Nat) := by
    rw [rangeSize_one]
    split <;> omega
  have fl : ∀ x : Int, -2000000 ≤ x → x ≤ 2000000 → Builtin.Range.rangeFitsLong x = true := fun x h1 h2 => by
    unfold Builtin.Range.rangeFitsLong
    simp
    omega
  have sml : Builtin.Range.small i j 1 = true := by
    unfold Builtin.Range.small
    rw [fl i (by omega) (by omega), fl j (by omega) (by omega), fl 1 (by omega) (by omega), n3, fl _ (by omega) (by omega), if_pos (by decide), fl _ (by omega) (by omega)]
    simp
  refine call_list_range (I2.ok.hd hc) rg3 sml n3 (by omega) fun h' tk acc c kp at2 it => ?_
  have fr : H1 s3.heap.objs.size = none := I2.hok.fresh (Nat.le_refl _)
  have len : acc.toList.length = (j - i).toNat := by rw [Array.length_toList]; exact it.1
  have J : Inv X pins σ (upd H1 s3.heap.objs.size (.lst ((rgI i j).map V.int))) { s3 with heap := h', toks := tk } := by
    refine I2.laid (t' := tk) kp (Nat.le_refl _) ⟨by unfold rgI; rw [List.length_map, List.length_map, List.length_range, sizeLine_eq]; omega, acc.toList, c, ?_, by simpa using at2⟩
    unfold rgI
    rw [List.map_map]
    refine vals_rg (i := i) _ _ _ len fun k v ek => ?_
    obtain ⟨t, et⟩ := it.2 k v (by rw [← Array.getElem?_toList]; exact ek)
    exact ⟨t, by rw [et]; simp⟩
  exact ⟨.ref s3.heap.objs.size, _, J, rfl, q1 _ fr⟩
theorem ok_rgL {own : Bool} : BuOk X z rRgL (bRgL own) := fun F m μ ρ σ H ds vs Qd Q S rr q k => by
  unfold bRgL at q
  split at q
  · rename_i i j
    split at q
    · rename_i sm
      match vs, rr with
      | [_, _], .cons a (.cons b .nil) =>
        cases a
        cases b
        exact ⟨i, j, rfl, sm, fun p hn => give_new k S hn (reps_ints _) q⟩
    · exact q.elim
  · exact q.elim
theorem k_rgL (own : Bool) (hc : X.calm = true) (hm : X.mg "list" = none) (hm2 : X.mg "range" = none) (ha : DA X z [e, e2] wa) (hg : Gl X "list" := by rfl) (hg2 : Gl X "range" := by rfl)
    (hpl : (backTo pos (starEach [] X.env)).any (·.1) = false := by rfl) (hs2 : starEach [e, e2] X.env = (false, eval e X.env) :: starEach [e2] X.env := by rfl) (hpl2 : (backTo q (starEach [e2] X.env)).any (·.1) = false := by rfl) :
    DE X z (.Call (.Name "list" p) [.Call (.Name "range" p2) [e, e2] [] q] [] pos) (wBu (bRgL own) wa) := fun Wd tk =>
  peI (pe_rgL hc hm hm2 hg hg2 (ha Wd tk) hpl hs2 hpl2) fun σ H Q h => bu_run ok_rgL h
end
end Pk

/-! The data layer, part Z9: a tuple times nought or one. -/
namespace Pk
open PySem PySem.Spec PyProof.Rows L2
theorem tupMul0 (l : Addr) (its : Array Value) (n : Nat) (dd : Option Addr) (sl : Array (Option Value)) (u : Tok) (h1 : its.isEmpty = false) :
    Meets (Builtin.«tuple.__mul__» ⟨[.ref l, .int 0 u], []⟩) (fun _ R s => s.heap.get? l = some { cls := .type "tuple", dict := dd, data := .seq its n, slots := sl } ∧
      R (.ok (.ret (Value.ref s.heap.objs.size))) { s with heap := s.heap.push { cls := Value.type "tuple", data := Data.seq #[] }, toks := s.toks }) :=
  .of_wp fun prog w A R s h => by
    obtain ⟨hp, g, d, tk, os⟩ := s
    obtain ⟨hl, h⟩ := h
    have f1 := AutoSeq1.idx_int
    have c1 : (its.isEmpty || (0 : Int) == 1) = false := by rw [h1]; rfl
    wp_walk using wpAny_loadPart' hl
    exact ⟨_, rfl, h⟩
theorem tupMul1 (l : Addr) (its : Array Value) (n : Nat) (dd : Option Addr) (sl : Array (Option Value)) (u : Tok) (h1 : its.isEmpty = false) :
    Meets (Builtin.«tuple.__mul__» ⟨[.ref l, .int 1 u], []⟩) (fun _ R s => s.heap.get? l = some { cls := .type "tuple", dict := dd, data := .seq its n, slots := sl } ∧
      R (.ok (.ret (Value.ref l))) s) :=
  .of_wp fun prog w A R s h => by
    obtain ⟨hp, g, d, tk, os⟩ := s
    obtain ⟨hl, h⟩ := h
    have f1 := AutoSeq1.idx_int
    have c1 : (its.isEmpty || (1 : Int) == 1) = true := by rw [h1]; rfl
    wp_walk using wpAny_loadPart' hl
    exact ⟨_, rfl, h⟩
/-- a tuple times nought or one -/
def rRepT01 (K : PySem.W.Frag) : R2 := fun x y H Q => ∃ l k xs, x = .ref l ∧ y = .int k ∧ SqT K H l xs ∧ xs ≠ [] ∧ ((k = 0 ∧ ∀ p, H p = none → Q (.ref p) (upd H p (.tup []))) ∨ (k = 1 ∧ Q (.ref l) H))
theorem op_repT01 {X : Cx} : OpR X (binaryOp .Mult) (rRepT01 X.K) := by
  intro pins s σ H x y v u Q I rx ry h
  obtain ⟨l, k, xs, rfl, rfl, hT, ne, q⟩ := h
  cases rx
  obtain ⟨t, rfl⟩ := ry
  obtain ⟨its, r, ⟨⟨cls, dd, data, sl⟩, ho, hc, n, hd⟩, hs⟩ := I.tuple hT
  simp only at hc hd
  subst hc hd
  have em : its.toArray.isEmpty = false := by
    cases its with
    | nil =>
      have := r.length
      exact absurd (List.eq_nil_of_length_eq_zero this) ne
    | cons a b => rfl
  rcases q with ⟨rfl, q⟩ | ⟨rfl, q⟩
  · refine wpAny_binaryOp_repeat_ref (T := "tuple") (U := "int") (by decide) ⟨_, ho, rfl⟩ (fun s' => typeIs_int s' 0 t) noFill_tuple_mul F.fills_int_mul F.slot_int_rmul repeat_tuple F.slot_int_index.lookup
      (call_meets F.slot_int_rmul (typeIs_int s 0 t) F.entry_int_rmul (F.args_int_rmul_2 _ _) (int_rmul_tuple 0 t l its.toArray n dd sl)
        ⟨ho, rfl, ⟨_, ho, rfl⟩, call_meets F.slot_tuple_mul ⟨_, ho, rfl⟩ F.entry_tuple_mul (F.args_tuple_mul_2 _ _) (tupMul0 l its.toArray n dd sl t em) ⟨ho, ?_⟩⟩)
    exact ⟨.ref s.heap.objs.size, _, I.laid (t' := s.toks) (o := .tup []) (fun b ob e => Heap.get?_push_of_some _ e) (Nat.le_refl _) ⟨Nat.zero_le _, [], .nil, IsTup.new _ _⟩, rfl, q _ (I.hok.fresh (Nat.le_refl _))⟩
  · refine wpAny_binaryOp_repeat_ref (T := "tuple") (U := "int") (by decide) ⟨_, ho, rfl⟩ (fun s' => typeIs_int s' 1 t) noFill_tuple_mul F.fills_int_mul F.slot_int_rmul repeat_tuple F.slot_int_index.lookup
      (call_meets F.slot_int_rmul (typeIs_int s 1 t) F.entry_int_rmul (F.args_int_rmul_2 _ _) (int_rmul_tuple 1 t l its.toArray n dd sl)
        ⟨ho, rfl, ⟨_, ho, rfl⟩, call_meets F.slot_tuple_mul ⟨_, ho, rfl⟩ F.entry_tuple_mul (F.args_tuple_mul_2 _ _) (tupMul1 l its.toArray n dd sl t em) ⟨ho, ?_⟩⟩)
    exact ⟨.ref l, H, I, rfl, q⟩
/-- a tuple times an integer, none or some -/
def mulT : D → D → Option D
  | .tup (x :: xs), .int k => match k with
    | .ofNat n => match Nat.ble n 1000 && Nat.ble (x :: xs).length 1000 with
      | true => some (.tup (repD n (x :: xs)))
      | false => none
    | _ => none
  | _, _ => none
section
variable {X : Cx} {z : Zx} {a b : Expr} {pos : Pos} {wa wb : WE}
theorem okMulT : OpD X z (fun x y H Q => rRepT X.K x y H Q ∨ rRepT01 X.K x y H Q) mulT := by
  intro F m μ ρ σ H x y v u d Qd Q S vx vy e q k
  unfold mulT at e
  split at e
  · rename_i x0 xs i
    split at e
    · rename_i n
      split at e
      · rename_i hl
        injection e with e
        subst e
        obtain ⟨l1, l2⟩ := Bool.and_eq_true_iff.mp hl
        have g1 := Nat.le_of_ble_eq_true l1
        have g2 := Nat.le_of_ble_eq_true l2
        have e2 := vy.int
        subst e2
        obtain ⟨a, vs, rfl, h1, r1⟩ := vx.tup S.same
        have ne : vs ≠ [] := fun e => by
          have := r1.length
          rw [e] at this
          simp at this
        match n with
        | 0 => exact .inr ⟨a, 0, vs, rfl, rfl, h1, ne, .inl ⟨rfl, fun p hp => k.tup S hp .nil q⟩⟩
        | 1 =>
          refine .inr ⟨a, 1, vs, rfl, rfl, h1, ne, .inr ⟨rfl, ?_⟩⟩
          have e1 : repD 1 (x0 :: xs) = x0 :: xs := by simp [repD]
          rw [e1] at q
          cases vx with
          | of r => exact k.now S r q
        | n + 2 =>
          refine .inl ⟨a, ((n + 2 : Nat) : Int), vs, rfl, rfl, h1, ne, by omega, by omega, by rw [← r1.length]; exact g2, fun p hp => ?_⟩
          exact k.tup S hp (r1.replicate _) q
      · cases e
    · cases e
  · cases e
theorem o_mulT (ha : DE X z a wa) (hb : DE X z b wb) : DE X z (.BinOp a .Mult b pos) (w2 mulT wa wb) := de_op (op_repT.or op_repT01) okMulT ha hb
end
end Pk

/-! The data layer, part ZA: a class made and frozen, the arguments looked at outside. -/
namespace Pk
open PySem PySem.Spec PyProof.Rows L2
theorem sim_hide {X : Cx} {z : Zx} {F : Hp} {m : List Addr} {μ : Sto} {ρ : Slots} {σ : L2.St} {H : Hp} (S : SimZ X.K z F m μ ρ σ H) : Sim X.K z.T F [] H F [] [] (ρ.map hideM) σ H :=
  ⟨Ext.refl _ _ _, S.same, rfl, List.nodup_nil, fun a h => absurd h (by simp), fun k a o e => by simp at e, by rw [List.length_map]; exact S.sl, fun i d e => by
    rw [List.getElem?_map] at e
    cases q : ρ[i]? with
    | none => rw [q] at e; cases e
    | some o =>
      rw [q] at e
      injection e with e
      cases o with
      | none => cases e
      | some d' =>
        unfold hideM at e
        split at e
        · rename_i hd heq
          split at e
          · rename_i hm
            injection e with e
            injection heq with heq
            subst e heq
            obtain ⟨v, h1, h2⟩ := S.slot i _ q
            exact ⟨v, h1, h2.noM hm⟩
          · cases e
        · cases e⟩
def wMkF (fz cn : Nat) (c : Con) (n : Nat) (dds : List D) (wa : WA) : WE := fun ρ μ Q E => wa ρ μ (fun ds μ1 => match noMs ds with
  | true => mkD cn c n dds ds [] (fun d μ3 => match deepD fz μ3 d with
    | (d', _) => match noM d' with
      | true => Q d' μ1
      | false => False) nox
  | false => False) E
section
variable {X : Cx} {z : Zx} {k cn n : Nat} {f : Addr} {fd : FuncData} {ps : List Str} {c : Con} {x m : Str} {p pos apos : Pos} {e o : Expr} {es : List Expr} {wo : WE} {wa : WA} {dvs : List V} {ds0 : List Value} {dds : List D}
theorem de_mkF {fz : Nat} (M : Mk X.K (z.T.ca cn) f) (Fc : FnC X.prog X.w X.K X.mg X.base z.T k f fd ps c) (hr : Room (k + 1) X.A) (hg : Gl X x) (hm : X.mg x = some (.ref (z.T.ca cn))) (hb : Binds X.K fd ps ds0) (hd : Vals dvs ds0) (hdd : ∀ F m, Reps X.K z.T F m dds dvs) (ha : DA X z (e :: es) wa)
    (hdb : (x == ("__debug__" : Str)) = false := by decide) (he : starEach (e :: es) X.env = (false, eval e X.env) :: starEach es X.env := by rfl) (hpl : (backTo pos (starEach es X.env)).any (·.1) = false := by rfl) : DE X z (.Call (.Name x p) (e :: es) [] pos) (wMkF fz cn c ps.length dds wa) := fun Wd tk =>
  peI (pe_makeS (E := fun σ cls d H => XW X.K z Wd cls d σ H) M Fc hr hg hm hb hd (fun σ => passAt tk σ) (ha Wd tk) hdb he hpl) fun σ H Q ⟨F, m, μ, ρ, Qd, S, h, kk⟩ => ⟨F, m, μ, ρ, _, S, h, fun F1 m1 μ1 ds vs H1 x1 S1 r1 q1 => by
    split at q1
    · rename_i hn
      have S0 : SimZ X.K ⟨z.T, F1, [], H1⟩ F1 [] [] (ρ.map hideM) σ H1 := sim_hide (X := X) (z := z) S1
      refine mk_run (z := ⟨z.T, F1, [], H1⟩) S0 (r1.noM hn) hdd q1 (fun F4 m4 μ4 d4 v4 H4 x4 S4 r4 q4 => ?_) fun F' m' μ' y cls d H' x2 S2 xr q => q.elim
      obtain ⟨F5, x5, S5, r5⟩ := deep_ok X.K z.T fz S4 r4
      have q5 : (match noM (deepD fz μ4 d4).1 with
        | true => Qd (deepD fz μ4 d4).1 μ1
        | false => False) := q4
      split at q5
      · rename_i hd'
        obtain ⟨xx, S6⟩ := loc_back S1 (x4.trans x5) S5.same
        exact kk _ _ _ _ _ _ (x1.trans xx) S6 (r5.noM hd') q5
      · exact q5.elim
    · exact q1.elim⟩
theorem c_mkF {a : Addr} (fz : Nat) (ok : OkF X.prog X.w X.K X.mg X.base z.T k a ps c) (M : Mk X.K (z.T.ca cn) a) (hr : Room (k + 1) X.A) (hm : X.mg x = some (.ref (z.T.ca cn))) (ha : DA X z (e :: es) wa) (hg : Gl X x := by rfl)
    (hdb : (x == ("__debug__" : Str)) = false := by decide) (he : starEach (e :: es) X.env = (false, eval e X.env) :: starEach es X.env := by rfl) (hpl : (backTo pos (starEach es X.env)).any (·.1) = false := by rfl) (hn : ps.length = n := by rfl) : DE X z (.Call (.Name x p) (e :: es) [] pos) (wMkF fz cn c n [] wa) := by
  subst hn
  obtain ⟨fd, F, b, kp⟩ := ok.ex
  exact de_mkF M F hr hg hm b .nil (fun _ _ => .nil) ha hdb he hpl
end
end Pk

/-! The data layer, part ZB: len of an instance with an own __len__. -/
namespace Pk
open PySem PySem.Spec PyProof.Rows L2
section
variable {prog : Program} {w : World} {A : Around} {E : Value → Shared → Prop} {s : Shared} {K : PySem.W.Frag} {x C f : Addr} {ox : Obj} {odd : Option Obj}
theorem len_own {Q : Value → Shared → Prop} (X : K.In s.heap) (I : PySem.W.InstAt s.heap x ox C odd) (hs : PySem.W.findIn K (.ref C) "__len__" = some (some (.ref f))) (hf : PySem.W.isFn K (.ref f) = true)
    (h : wpAny (model prog w) A.in1 (call (.ref f) [.ref x]) (fun r s₁ => ∃ (n : Nat) (u : Tok), r = Value.int n u ∧ (n : Int) < 2 ^ 63 ∧ Q (.int n s₁.toks) { s₁ with toks := s₁.toks + 1 }) E s) : wpAny (model prog w) A (call (.builtin "len") [.ref x]) Q E s := by
  refine Calls.call_function_entry kind_len plain_len entry_len (args_len1 _) ?_
  unfold Builtin.«len»
  refine wpAny_bind (m := oneArg "len" _) (wpAny_pure ?_)
  refine wpAny_bind (m := callSpecial? (.ref x) (PySem.Str.ofString "__len__")) (PySem.W.special_fn X I hs (beq_iff_eq.mp hf) (wpAny_mono h (fun r s' hr => ?_) fun _ _ y => y))
  obtain ⟨n, u, rfl, hlt, hq⟩ := hr
  refine wpAny_bind (wpAny_holding (wpAny_pure ?_))
  refine wpAny_bind (wpAny_letGo ?_)
  show wpAny _ _ (if ((n : Nat) : Int) < 0 then _ else _) _ _ _
  rw [if_neg (by omega)]
  show wpAny _ _ (if ((n : Nat) : Int) ≥ 2 ^ 63 then _ else _) _ _ _
  rw [if_neg (by omega)]
  exact wpAny_bind (wpAny_mkInt (wpAny_pure ⟨_, rfl, hq⟩))
end
def rLenOwn (C : Addr) (sp : Sp) : List V → Hp → VK → Prop := fun xs H Q => ∃ a dx fs, xs = [V.ref a] ∧ H a = some (.ins C dx fs) ∧ sp [.ref a] H (fun z H' => ∃ n : Nat, z = .int n ∧ (n : Int) < 2 ^ 63 ∧ Q (.int n) H') (fun _ _ _ => False)
section
variable {X : Cx} {k : Nat} {C f : Addr} {fd : FuncData} {ps : List Str} {sp : Sp}
theorem call_lenOwn (hs : PySem.W.findIn X.K (.ref C) "__len__" = some (some (.ref f))) (hf : PySem.W.isFn X.K (.ref f) = true) (Fo : FnOk X.prog X.w X.K X.mg X.base (L2.CX X.prog X.w) k f fd ps sp) (rm : Room (k + 1) X.A) (bd : Binds X.K fd ps []) : CallR X (.builtin "len") (rLenOwn C sp) := by
  intro pins s σ H xs us Q I r h
  obtain ⟨a, dx, fs, rfl, ea, z⟩ := h
  obtain ⟨u, rfl, ru⟩ := r.one
  cases (show u = Value.ref a from ru)
  obtain ⟨mA, O, -⟩ := ins_get I.hok ea
  obtain ⟨od, J, -⟩ := O.look
  have nl : ([Value.ref a] ++ ([] : List Value)).length = ps.length := by
    rw [← Fo.len _ _ _ _ z]
    rfl
  have go := Fo.run X.A.in1 X.stack s H ⟨[.ref a], []⟩ [.ref a] [.ref a] _ _ rm.in1 I.env0.in1 (bd _ [.ref a] I.kIn nl) (.cons rfl .nil) z
  refine len_own I.kIn J hs hf (wpAny_call (codeAny_mono go fun r t2 => ?_))
  match r with
  | .error er => exact fun q => (pass_no (Y := X.nox) pins σ H s er t2 (I.wish _) q).elim
  | .ok (.ret u) =>
    intro q
    obtain ⟨v, G, I3, rv, n, ev, hlt, q3⟩ := I.after q
    subst ev
    obtain ⟨t, rfl⟩ := rv
    exact ⟨n, t, rfl, hlt, .int n, G, I3.tok _, ⟨_, rfl⟩, q3⟩
  | .ok .next => exact fun q => q.elim
  | .ok .brk => exact fun q => q.elim
  | .ok .cont => exact fun q => q.elim
end
def natD : D → Option Nat
  | .int (.ofNat n) => match Nat.ble n 1000000 with
    | true => some n
    | false => none
  | _ => none
/-- len of an instance of the class cn, whose __len__ is c -/
def bLen (cn : Nat) (c : Con) : BF := fun ds μ Q => match ds with
  | [x] => match look μ x with
    | .ins c' _ => match Nat.beq c' cn with
      | true => c [x] μ (fun d μ' => match natD d with
        | some n => Q (.int (n : Nat)) μ'
        | none => False) nox
      | false => False
    | _ => False
  | _ => False
section
variable {X : Cx} {z : Zx} {cn k : Nat} {c : Con} {a : Addr} {p pos : Pos} {e : Expr} {wa : WA} {x : Str}
theorem ok_lenOwn : BuOk X z (rLenOwn (z.T.ca cn) (spD X.K z.T c 1)) (bLen cn c) := fun F m μ ρ σ H ds vs Qd Q S rr q kk => by
  unfold bLen at q
  split at q
  · rename_i d1
    match vs, rr with
    | [_], .cons ra .nil =>
      have vx := S.view ra
      split at q
      · rename_i c' fs hx
        rw [hx] at vx
        split at q
        · rename_i hc
          have := Nat.eq_of_beq_eq_true hc
          subst this
          obtain ⟨b, dx, us, rfl, h1, r2⟩ := vx.inst S.same
          refine ⟨b, dx, _, rfl, h1, sp_run S (.cons ra .nil) rfl q (fun F4 m4 μ4 d4 v4 H4 x4 S4 r4 q4 => ?_) fun _ _ _ _ _ _ _ _ _ _ q => q⟩
          unfold natD at q4
          split at q4
          · rename_i n heq
            split at heq
            · rename_i n'
              split at heq
              · rename_i hb
                injection heq with heq
                subst heq
                have hb := Nat.le_of_ble_eq_true hb
                cases r4
                exact ⟨n', rfl, by omega, kk F4 m4 μ4 _ _ H4 x4 S4 .int q4⟩
              · cases heq
            · cases heq
          · exact q4.elim
        · exact q.elim
      · exact q.elim
  · exact q.elim
theorem k_lenO (ok : OkF X.prog X.w X.K X.mg X.base z.T k a [x] c) (mf : Meth X.K (z.T.ca cn) "__len__" a) (hr : Room (k + 1) X.A) (hm : X.mg "len" = none) (ha : DA X z [e] wa) (hg : Gl X "len" := by rfl) (he : starEach [e] X.env = (false, eval e X.env) :: starEach [] X.env := by rfl) (hpl : (backTo pos (starEach [] X.env)).any (·.1) = false := by rfl) : DE X z (.Call (.Name "len" p) [e] [] pos) (wBu (bLen cn c) wa) := by
  obtain ⟨fd, F, b, kp⟩ := ok.ex
  exact de_callB (call_lenOwn mf.at_ mf.fn F hr b) ok_lenOwn hg hm ha (he := he) (hpl := hpl)
end
end Pk

/-! The data layer, part U2: what a suite leaves of the store. -/
namespace Pk
open PySem PySem.Spec PyProof.Rows L2
def keepK (n : Nat) : Option D → Option D
  | some (.mref k) => match Nat.blt k n with
    | true => some (.mref k)
    | false => none
  | some d => match noM d with
    | true => some d
    | false => none
  | none => none
def cutS (n : Nat) (k : Slots → Sto → Prop) : Slots → Sto → Prop := fun ρ μ => match noMOs (μ.take n) with
  | true => k (ρ.map (keepK n)) (μ.take n)
  | false => False
/-- what is new in the store behind the suite is forgotten, names of it too; nothing is raised -/
def sGc (w : WS) : WS := fun De ρ μ => w ⟨cutS μ.length De.nx, gcQ μ.length De.rt, cutS μ.length De.bk, cutS μ.length De.ct, fun _ _ _ => False⟩ ρ μ
theorem keepK_some {n : Nat} {o : Option D} {d : D} (h : keepK n o = some d) : o = some d ∧ (noM d = true ∨ mIn n d) := by
  unfold keepK at h
  split at h
  · split at h
    · rename_i hk
      injection h with h
      subst h
      exact ⟨rfl, .inr (Nat.le_of_ble_eq_true hk)⟩
    · cases h
  · split at h
    · rename_i hk
      injection h with h
      subst h
      exact ⟨rfl, .inl hk⟩
    · cases h
  · cases h
theorem Sim.truncS {K : PySem.W.Frag} {T : Tab} {F0 F F' H0 : Hp} {m0 m m' : List Addr} {μ μ' : Sto} {ρ ρ' : Slots} {σ σ' : L2.St} {H H' : Hp} {Fb : Hp} {mb : List Addr} {Hb : Hp} (S : Sim K T F0 m0 H0 F m μ ρ σ H) (x : Ext F m H F' m' H') (B : Sim K T Fb mb Hb F' m' μ' ρ' σ' H') (hk : noMOs (μ'.take μ.length) = true) :
    Ext F m H F' m H' ∧ Sim K T F0 m0 H0 F' m (μ'.take μ.length) (ρ'.map (keepK μ.length)) σ' H' := by
  obtain ⟨r, er⟩ := x.gr.mem
  have g : Gr F m F' m := ⟨x.gr.fr, [], by simp⟩
  have xx : Ext F m H F' m H' := ⟨g, fun b o e w n h => by
    obtain ⟨e1, n1, h1⟩ := x.frm b o e w n h
    exact ⟨e1, n1, h⟩, x.up⟩
  refine ⟨xx, S.ext.trans xx, B.same, ?_, S.nd, fun a h => (x.up a).2 (S.al a h), fun k a o e1 e2 n => ?_, by rw [List.length_map]; exact B.sl, fun i d e => ?_⟩
  · have h1 := B.len
    rw [er, List.length_append] at h1
    rw [List.length_take, S.len]
    have h2 := S.len
    omega
  · have hk1 := (List.getElem?_eq_some_iff.mp e1).1
    have e3 : m'[k]? = some a := by
      rw [er, List.getElem?_append_left hk1]
      exact e1
    have hl : k < μ.length := by rw [← S.len]; exact hk1
    have e4 : μ'[k]? = some o := by
      rw [List.getElem?_take_of_lt hl] at e2
      exact e2
    obtain ⟨h1, h2⟩ := B.sto k a o e3 e4 n
    exact ⟨h1, h2.noM (noMOs_at hk e2)⟩
  · rw [List.getElem?_map] at e
    cases q : ρ'[i]? with
    | none => rw [q] at e; cases e
    | some o =>
      rw [q] at e
      have e : some (keepK μ.length o) = some (some d) := e
      injection e with e
      obtain ⟨e1, e2⟩ := keepK_some e
      subst e1
      obtain ⟨v, h1, h2⟩ := B.slot i d q
      rcases e2 with e2 | e2
      · exact ⟨v, h1, h2.noM e2⟩
      · rw [er] at h2
        exact ⟨v, h1, h2.less (by rw [S.len]; exact e2)⟩
theorem dss_gc {X : Cx} {z : Zx} {b : List Stmt} {w : WS} (h : ∀ F0 m0 H0, DSs X ⟨z.T, F0, m0, H0⟩ b w) : DSs X z b (sGc w) := fun Wd tk => by
  refine ⟨fun pins s σ H Dd I ⟨F, m, μ, ρ, De, S, h', ex, k⟩ => ?_⟩
  have S1 : Sim X.K z.T F m H F m μ ρ σ H := ⟨Ext.refl _ _ _, S.same, S.len, S.nd, S.al, S.sto, S.sl, S.slot⟩
  refine (h F m H (fun _ _ _ => False) (tk.imp fun cls d σ' H' hx => ?_)).run pins s σ H Dd I ⟨F, m, μ, ρ, _, S1, h', rfl, ⟨fun F' m' μ' ρ' σ' H' x B q => ?_, fun F' m' μ' ρ' σ' d v H' x B r q => ?_, fun F' m' μ' ρ' σ' H' x B q => ?_, fun F' m' μ' ρ' σ' H' x B q => ?_⟩⟩
  · obtain ⟨_, _, _, _, _, _, _, q⟩ := hx
    exact q.elim
  · have q : cutS μ.length De.nx ρ' μ' := q
    unfold cutS at q
    split at q
    · rename_i hm
      obtain ⟨xx, S2⟩ := S.truncS x B hm
      exact k.nx _ _ _ _ _ _ xx S2 q
    · exact q.elim
  · have q : gcQ μ.length De.rt d μ' := q
    unfold gcQ at q
    split at q
    · rename_i hn
      split at q
      · rename_i hm
        obtain ⟨xx, S2⟩ := S.truncS x B hm
        exact k.rt _ _ _ _ _ _ _ _ xx S2 (r.noM hn) q
      · exact q.elim
    · exact q.elim
  · have q : cutS μ.length De.bk ρ' μ' := q
    unfold cutS at q
    split at q
    · rename_i hm
      obtain ⟨xx, S2⟩ := S.truncS x B hm
      exact k.bk _ _ _ _ _ _ xx S2 q
    · exact q.elim
  · have q : cutS μ.length De.ct ρ' μ' := q
    unfold cutS at q
    split at q
    · rename_i hm
      obtain ⟨xx, S2⟩ := S.truncS x B hm
      exact k.ct _ _ _ _ _ _ xx S2 q
    · exact q.elim
end Pk

namespace K47
open PySem PySem.Spec PyProof.Rows L2 Pk K58
def w__law_alone_right : WS := (sSeq (sAsg (w2 addD (wC (.int 1)) (wGc (wCallN c__law_sip 2 [] (aCons (wVar 0) (aCons (wC (.int 12)) aNil))))) (gN 1))
  (sSeq (sAsg (wGc (wCallN c__law_sip 2 [] (aCons (wVar 0) (aCons (w2 addD (wVar 1) (wC (.int 1))) aNil)))) (gN 2))
  (sSeq (sAsg (wTup (aCons (wTup (aCons (wC (.str [115, 111, 99, 107])) (aCons (wC (.str [114, 101, 100])) (aCons (wVar 1) aNil)))) aNil)) (gN 3))
  (sSeq (sAsg (w2 mulT (wTup (aCons (wC (.str [119, 97, 115, 104, 32, 115, 111, 99, 107, 32, 43, 32, 114, 101, 100])) aNil)) (wVar 2)) (gN 4))
  (sSeq (sIf (tOr' (tBl (w2 neqD (wCallN c_known 1 [] (aCons (wLoc (wFz 9 (wMake 0 c_Book_init 3 [] (aCons (wVar 3) (aCons (wVar 4) aNil))))) aNil)) (wTup (aCons (wTup (aCons (wVar 2) (aCons (wVar 1) aNil))) aNil)))) (tBl (w2 neqD (wCallN c_known 1 [] (aCons (wLoc (wFz 9 (wMake 0 c_Book_init 3 [] (aCons (wVar 3) (aCons (w2 addD (wVar 4) (wTup (aCons (wC (.str [119, 97, 115, 104, 32, 115, 111, 99, 107])) aNil))) aNil))))) aNil)) (wTup (aCons (wTup (aCons (wVar 2) (aCons (wVar 2) aNil))) aNil)))))
  (sRet (wC (.bl false))) sNil)
  (sSeq (sIf (tBl (w2 neqD (wCallN c_known 1 [] (aCons (wLoc (wFz 9 (wMake 0 c_Book_init 3 [] (aCons (wVar 3) (aCons (w2 addD (wVar 4) (wTup (aCons (wC (.str [114, 101, 110, 101, 119, 32, 115, 111, 99, 107])) aNil))) aNil))))) aNil)) (wTup (aCons (wTup (aCons (wVar 2) (aCons (wVar 1) aNil))) (aCons (wTup (aCons (wC (.int 0)) (aCons (wVar 1) aNil))) aNil)))))
  (sRet (wC (.bl false))) sNil)
  (sSeq (sIf (tTru (wCallN c_possible 1 [] (aCons (wLoc (wFz 9 (wMake 0 c_Book_init 3 [] (aCons (wVar 3) (aCons (w2 addD (wVar 4) (wTup (aCons (wC (.str [119, 97, 115, 104, 32, 115, 111, 99, 107])) (aCons (wC (.str [119, 97, 115, 104, 32, 115, 111, 99, 107, 32, 43, 32, 114, 101, 100])) aNil)))) aNil))))) aNil)))
  (sRet (wC (.bl false))) sNil)
  (sRet (w2 eqqD (wCallN c_known 1 [] (aCons (wLoc (wFz 9 (wMake 0 c_Book_init 3 [] (aCons (wVar 3) (aCons (w2 mulT (wTup (aCons (wC (.str [119, 97, 115, 104, 32, 115, 111, 99, 107, 32, 63, 32, 114, 101, 100])) aNil)) (wVar 1)) aNil))))) aNil)) (wTup (aCons (wTup (aCons (wC (.int 0)) (aCons (wVar 1) aNil))) aNil)))))))))))
def c__law_alone_right : Con := loc (conB 5 1 w__law_alone_right)
def w__law_two_right : WS := (sSeq (sPar2 1 2 (aCons (w2 addD (wC (.int 2)) (wGc (wCallN c__law_sip 2 [] (aCons (wVar 0) (aCons (wC (.int 11)) aNil))))) (aCons (w2 addD (wC (.int 1)) (wGc (wCallN c__law_sip 2 [] (aCons (wVar 0) (aCons (wC (.int 5)) aNil))))) aNil)))
  (sSeq (sAsg (wBu (b2' minD) (aCons (wVar 2) (aCons (w2 subD (wVar 1) (wC (.int 1))) aNil))) (gN 2))
  (sSeq (sAsg (wTup (aCons (wTup (aCons (wC (.str [115, 111, 99, 107])) (aCons (wC (.str [114, 101, 100])) (aCons (wVar 1) aNil)))) (aCons (wTup (aCons (wC (.str [114, 117, 103])) (aCons (wC (.str [114, 101, 100])) (aCons (wVar 1) aNil)))) aNil))) (gN 3))
  (sSeq (sAsg (w2 mulT (wTup (aCons (wC (.str [119, 97, 115, 104, 32, 115, 111, 99, 107, 32, 114, 117, 103, 32, 43, 32, 114, 101, 100])) aNil)) (wVar 2)) (gN 4))
  (sSeq (sIf (tBl (w2 neqD (wCallN c_known 1 [] (aCons (wLoc (wFz 9 (wMake 0 c_Book_init 3 [] (aCons (wVar 3) (aCons (wVar 4) aNil))))) aNil)) (wTup (aCons (wTup (aCons (wC (.int 0)) (aCons (wVar 1) aNil))) (aCons (wTup (aCons (wC (.int 0)) (aCons (wVar 1) aNil))) aNil)))))
  (sRet (wC (.bl false))) sNil)
  (sSeq (sIf (tBl (w2 neqD (wCallN c_known 1 [] (aCons (wLoc (wFz 9 (wMake 0 c_Book_init 3 [] (aCons (wVar 3) (aCons (w2 addD (wVar 4) (wTup (aCons (wC (.str [119, 97, 115, 104, 32, 114, 117, 103])) aNil))) aNil))))) aNil)) (wTup (aCons (wTup (aCons (wC (.int 0)) (aCons (wVar 1) aNil))) (aCons (wTup (aCons (wC (.int 0)) (aCons (wVar 2) aNil))) aNil)))))
  (sRet (wC (.bl false))) sNil)
  (sSeq (sIf (tBl (w2 neqD (wCallN c_known 1 [] (aCons (wLoc (wFz 9 (wMake 0 c_Book_init 3 [] (aCons (wVar 3) (aCons (w2 addD (wTup (aCons (wC (.str [119, 97, 115, 104, 32, 114, 117, 103])) aNil)) (wVar 4)) aNil))))) aNil)) (wTup (aCons (wTup (aCons (wVar 2) (aCons (wVar 1) aNil))) (aCons (wTup (aCons (wC (.int 0)) (aCons (wC (.int 0)) aNil))) aNil)))))
  (sRet (wC (.bl false))) sNil)
  (sSeq (sIf (tBl (w2 neqD (wCallN c_known 1 [] (aCons (wLoc (wFz 9 (wMake 0 c_Book_init 3 [] (aCons (wVar 3) (aCons (w2 addD (wTup (aCons (wC (.str [119, 97, 115, 104, 32, 114, 117, 103])) (aCons (wC (.str [114, 101, 110, 101, 119, 32, 114, 117, 103])) aNil))) (wVar 4)) aNil))))) aNil)) (wTup (aCons (wTup (aCons (wC (.int 0)) (aCons (wVar 1) aNil))) (aCons (wTup (aCons (wC (.int 0)) (aCons (wC (.int 0)) aNil))) (aCons (wTup (aCons (wC (.int 0)) (aCons (wVar 1) aNil))) aNil))))))
  (sRet (wC (.bl false))) sNil)
  (sRet (w2 eqqD (wCallN c_known 1 [] (aCons (wLoc (wFz 9 (wMake 0 c_Book_init 3 [] (aCons (wVar 3) (aCons (w2 addD (wVar 4) (wTup (aCons (wC (.str [119, 97, 115, 104, 32, 115, 111, 99, 107, 32, 114, 117, 103])) aNil))) aNil))))) aNil)) (wTup (aCons (wTup (aCons (wC (.int 0)) (aCons (wVar 2) aNil))) (aCons (wTup (aCons (wC (.int 0)) (aCons (wVar 2) aNil))) aNil)))))))))))))
def c__law_two_right : Con := loc (conB 5 1 w__law_two_right)
def w_Book___len__ : WS := (sRet (wBu (b1 lenD) (aCons (wFld 0 1 (wVar 0)) aNil)))
def c_Book___len__ : Con := loc (conB 1 1 w_Book___len__)
def w__law_right : WS := (sSeq (sIf (tOr' (tNo (tTru (wCallN c__law_alone_right 1 [] (aCons (wVar 0) aNil)))) (tNo (tTru (wCallN c__law_two_right 1 [] (aCons (wVar 0) aNil)))))
  (sRet (wC (.bl false))) sNil)
  (sSeq (sAsg (w2 addD (wC (.int 1)) (wGc (wCallN c__law_sip 2 [] (aCons (wVar 0) (aCons (wC (.int 8)) aNil))))) (gN 1))
  (sSeq (sAsg (wBu (b1 tupD) (aCons (wLc false (iRg1 (wVar 1)) (gN 5) tAll (wTup (aCons (w2 addD (wC (.str [103])) (w2 ixD (wC (.str [97, 98, 99, 100, 101, 102, 103, 104])) (wVar 5))) (aCons (w2 addD (wC (.str [100])) (w2 ixD (wC (.str [97, 98, 99, 100, 101, 102, 103, 104])) (wGc (wCallN c__law_sip 2 [] (aCons (wVar 0) (aCons (wC (.int 3)) aNil)))))) (aCons (wGc (wCallN c__law_sip 2 [] (aCons (wVar 0) (aCons (wC (.int 13)) aNil)))) aNil)))) [5]) aNil)) (gN 2))
  (sSeq (sAsg (wMkF 9 0 c_Book_init 3 [] (aCons (wVar 2) (aCons (w2 mulT (wTup (aCons (wC (.str [114, 101, 110, 101, 119, 32, 103, 97])) aNil)) (wGc (wCallN c__law_sip 2 [] (aCons (wVar 0) (aCons (wC (.int 9)) aNil))))) aNil))) (gN 3))
  (sSeq (sAsg (w2 addD (w2 mulD (wLst (aCons (wTup (aCons (wC (.int 0)) (aCons (w2 ixD (w2 ixD (wVar 2) (wC (.int 0))) (wC (.int 2))) aNil))) aNil)) (w2 addD (wBu (bLen 0 c_Book___len__) (aCons (wVar 3) aNil)) (wC (.int 1)))) (wLc false (iSeq (wFz 1 (wSl (wVar 2) (oYes (wC (.int 1))) oNo))) (gN 6) tAll (wTup (aCons (wC (.int 0)) (aCons (w2 ixD (wVar 6) (wC (.int 2))) aNil))) [6])) (gN 4))
  (sRet (wAnd (w2 eqqD (wCallN c_known 1 [] (aCons (wVar 3) aNil)) (wBu (b1 tupD) (aCons (wVar 4) aNil))) (w2 eqqD (wCallN c_tops 1 [] (aCons (wVar 3) aNil)) (wBu (b1 tupD) (aCons (wLc false (iSeq (wFz 1 (wVar 4))) (gN 7) tAll (w2 ixD (wVar 7) (wC (.int 1))) [7]) aNil))))))))))
def c__law_right : Con := loc (conB 8 1 w__law_right)
def w_law : WS := (sRet (wBu (b1 allD) (aCons (wLc false (iRg1 (wBu (b2' maxD) (aCons (wC (.int 2)) (aCons (wBu (b2' minD) (aCons (wBu (b1 lenD) (aCons (wVar 0) aNil)) (aCons (wC (.int 5)) aNil))) aNil)))) (gN 1) tAll (wLoc (wCallN c__law_right 1 [] (aCons (wCallN c__law_cup 2 [] (aCons (wVar 0) (aCons (wVar 1) aNil))) aNil))) [1]) aNil)))
def c_law : Con := loc (conB 2 1 w_law)
theorem r__law_alone_right {a0 : D} {r : D} (h1 : noMs [a0] = true) (h2 : noM r = true) (h : ∀ (Q : QD) (E : QX), ∃ μ', w__law_alone_right (endR Q E) [some a0, none, none, none, none] [] = Q r μ') : Ret c__law_alone_right [a0] r := ret_loc rfl rfl h1 h2 h
theorem x__law_alone_right {a0 : D} {r : Exc} (h1 : noMs [a0] = true) (h2 : noMs r.fs = true) (h : ∀ (Q : QD) (E : QX), ∃ μ', w__law_alone_right (endR Q E) [some a0, none, none, none, none] [] = E r μ') : Rai c__law_alone_right [a0] r := rai_loc rfl rfl h1 h2 h
theorem u__law_alone_right {a0 : D} (h1 : noMs [a0] = false) (μ : Sto) (Q : QD) (E : QX) : c__law_alone_right [a0] μ Q E = w__law_alone_right (endR Q E) [some a0, none, none, none, none] μ := use_loc rfl rfl h1 μ Q E
theorem r__law_two_right {a0 : D} {r : D} (h1 : noMs [a0] = true) (h2 : noM r = true) (h : ∀ (Q : QD) (E : QX), ∃ μ', w__law_two_right (endR Q E) [some a0, none, none, none, none] [] = Q r μ') : Ret c__law_two_right [a0] r := ret_loc rfl rfl h1 h2 h
theorem x__law_two_right {a0 : D} {r : Exc} (h1 : noMs [a0] = true) (h2 : noMs r.fs = true) (h : ∀ (Q : QD) (E : QX), ∃ μ', w__law_two_right (endR Q E) [some a0, none, none, none, none] [] = E r μ') : Rai c__law_two_right [a0] r := rai_loc rfl rfl h1 h2 h
theorem u__law_two_right {a0 : D} (h1 : noMs [a0] = false) (μ : Sto) (Q : QD) (E : QX) : c__law_two_right [a0] μ Q E = w__law_two_right (endR Q E) [some a0, none, none, none, none] μ := use_loc rfl rfl h1 μ Q E
theorem r_Book___len__ {a0 : D} {r : D} (h1 : noMs [a0] = true) (h2 : noM r = true) (h : ∀ (Q : QD) (E : QX), ∃ μ', w_Book___len__ (endR Q E) [some a0] [] = Q r μ') : Ret c_Book___len__ [a0] r := ret_loc rfl rfl h1 h2 h
theorem x_Book___len__ {a0 : D} {r : Exc} (h1 : noMs [a0] = true) (h2 : noMs r.fs = true) (h : ∀ (Q : QD) (E : QX), ∃ μ', w_Book___len__ (endR Q E) [some a0] [] = E r μ') : Rai c_Book___len__ [a0] r := rai_loc rfl rfl h1 h2 h
theorem u_Book___len__ {a0 : D} (h1 : noMs [a0] = false) (μ : Sto) (Q : QD) (E : QX) : c_Book___len__ [a0] μ Q E = w_Book___len__ (endR Q E) [some a0] μ := use_loc rfl rfl h1 μ Q E
theorem r__law_right {a0 : D} {r : D} (h1 : noMs [a0] = true) (h2 : noM r = true) (h : ∀ (Q : QD) (E : QX), ∃ μ', w__law_right (endR Q E) [some a0, none, none, none, none, none, none, none] [] = Q r μ') : Ret c__law_right [a0] r := ret_loc rfl rfl h1 h2 h
theorem x__law_right {a0 : D} {r : Exc} (h1 : noMs [a0] = true) (h2 : noMs r.fs = true) (h : ∀ (Q : QD) (E : QX), ∃ μ', w__law_right (endR Q E) [some a0, none, none, none, none, none, none, none] [] = E r μ') : Rai c__law_right [a0] r := rai_loc rfl rfl h1 h2 h
theorem u__law_right {a0 : D} (h1 : noMs [a0] = false) (μ : Sto) (Q : QD) (E : QX) : c__law_right [a0] μ Q E = w__law_right (endR Q E) [some a0, none, none, none, none, none, none, none] μ := use_loc rfl rfl h1 μ Q E
theorem r_law {a0 : D} {r : D} (h1 : noMs [a0] = true) (h2 : noM r = true) (h : ∀ (Q : QD) (E : QX), ∃ μ', w_law (endR Q E) [some a0, none] [] = Q r μ') : Ret c_law [a0] r := ret_loc rfl rfl h1 h2 h
theorem x_law {a0 : D} {r : Exc} (h1 : noMs [a0] = true) (h2 : noMs r.fs = true) (h : ∀ (Q : QD) (E : QX), ∃ μ', w_law (endR Q E) [some a0, none] [] = E r μ') : Rai c_law [a0] r := rai_loc rfl rfl h1 h2 h
theorem u_law {a0 : D} (h1 : noMs [a0] = false) (μ : Sto) (Q : QD) (E : QX) : c_law [a0] μ Q E = w_law (endR Q E) [some a0, none] μ := use_loc rfl rfl h1 μ Q E
end K47

namespace K47
open PySem PySem.Spec PyProof.Rows L2 Pk K58
abbrev top (i : Nat) : Stmt := nth PySem.Challenge.pw_pinkwash_k47_known_books.main.body i
def tab (K : PySem.W.Frag) : Tab := ⟨fun n => match n with | 0 => He.ga K "Book" | 1 => He.ga K "Walk" | _ => 0, fun n => match n with | 0 => ["clothes", "told", "parsed", "walk"] | 1 => ["owners", "life_rows", "tally_row", "load_rows", "look_rows", "span_rows"] | _ => []⟩
abbrev s__law_sip : Stmt := top 53
theorem S__law_sip : FnScope ["_law_cup_here", "_law_top", "_law_digit"] ["_law_cup_here", "_law_top"] (defScope s__law_sip) := ⟨rfl, rfl, rfl, by decide +kernel, rfl, by decide +kernel, by decide +kernel⟩
abbrev s_check_book : Stmt := top 38
theorem S_check_book : FnScope ["value"] ["value"] (defScope s_check_book) := ⟨rfl, rfl, rfl, by decide +kernel, rfl, by decide +kernel, by decide +kernel⟩
abbrev s_Book_looks : Stmt := nth (clsBody (top 37)) 6
theorem S_Book_looks : FnScope ["self"] ["self"] (defScope s_Book_looks) := ⟨rfl, rfl, rfl, by decide +kernel, rfl, by decide +kernel, by decide +kernel⟩
abbrev s_Book_spans : Stmt := nth (clsBody (top 37)) 8
theorem S_Book_spans : FnScope ["self"] ["self"] (defScope s_Book_spans) := ⟨rfl, rfl, rfl, by decide +kernel, rfl, by decide +kernel, by decide +kernel⟩
abbrev s_fits_tops : Stmt := top 43
theorem S_fits_tops : FnScope ["book", "greatest", "skipped", "index", "look", "is_asked", "life", "number"] ["book", "greatest", "skipped"] (defScope s_fits_tops) := ⟨rfl, rfl, rfl, by decide +kernel, rfl, by decide +kernel, by decide +kernel⟩
abbrev s_Book_lives : Stmt := nth (clsBody (top 37)) 5
theorem S_Book_lives : FnScope ["self"] ["self"] (defScope s_Book_lives) := ⟨rfl, rfl, rfl, by decide +kernel, rfl, by decide +kernel, by decide +kernel⟩
abbrev s_Book_garments : Stmt := nth (clsBody (top 37)) 2
theorem S_Book_garments : FnScope ["self"] ["self"] (defScope s_Book_garments) := ⟨rfl, rfl, rfl, by decide +kernel, rfl, by decide +kernel, by decide +kernel⟩
abbrev s_names_in : Stmt := top 27
theorem S_names_in : FnScope ["garments", "garment"] ["garments"] (defScope s_names_in) := ⟨rfl, rfl, rfl, by decide +kernel, rfl, by decide +kernel, by decide +kernel⟩
abbrev s_garment_of : Stmt := top 39
theorem S_garment_of : FnScope ["book", "life"] ["book", "life"] (defScope s_garment_of) := ⟨rfl, rfl, rfl, by decide +kernel, rfl, by decide +kernel, by decide +kernel⟩
abbrev s_top_of : Stmt := top 40
theorem S_top_of : FnScope ["book", "life"] ["book", "life"] (defScope s_top_of) := ⟨rfl, rfl, rfl, by decide +kernel, rfl, by decide +kernel, by decide +kernel⟩
abbrev s_tops_of : Stmt := top 42
theorem S_tops_of : FnScope ["book", "skipped", "found", "index", "look", "life", "number"] ["book", "skipped"] (defScope s_tops_of) := ⟨rfl, rfl, rfl, by decide +kernel, rfl, by decide +kernel, by decide +kernel⟩
abbrev s_is_possible : Stmt := top 45
theorem S_is_possible : FnScope ["book"] ["book"] (defScope s_is_possible) := ⟨rfl, rfl, rfl, by decide +kernel, rfl, by decide +kernel, by decide +kernel⟩
abbrev s_check_possible : Stmt := top 46
theorem S_check_possible : FnScope ["book"] ["book"] (defScope s_check_possible) := ⟨rfl, rfl, rfl, by decide +kernel, rfl, by decide +kernel, by decide +kernel⟩
abbrev s_least_by : Stmt := top 44
theorem S_least_by : FnScope ["book", "greatest", "life", "skipped", "found", "index", "look", "numbers", "other"] ["book", "greatest", "life", "skipped"] (defScope s_least_by) := ⟨rfl, rfl, rfl, by decide +kernel, rfl, by decide +kernel, by decide +kernel⟩
abbrev s_known_of : Stmt := top 47
theorem S_known_of : FnScope ["book", "greatest", "life", "top"] ["book"] (defScope s_known_of) := ⟨rfl, rfl, rfl, by decide +kernel, rfl, by decide +kernel, by decide +kernel⟩
abbrev s_known : Stmt := top 50
theorem S_known : FnScope ["book"] ["book"] (defScope s_known) := ⟨rfl, rfl, rfl, by decide +kernel, rfl, by decide +kernel, by decide +kernel⟩
abbrev s_is_name : Stmt := top 14
theorem S_is_name : FnScope ["value", "sign"] ["value"] (defScope s_is_name) := ⟨rfl, rfl, rfl, by decide +kernel, rfl, by decide +kernel, by decide +kernel⟩
abbrev s_is_integer : Stmt := top 12
theorem S_is_integer : FnScope ["value"] ["value"] (defScope s_is_integer) := ⟨rfl, rfl, rfl, by decide +kernel, rfl, by decide +kernel, by decide +kernel⟩
abbrev s_is_between : Stmt := top 13
theorem S_is_between : FnScope ["value", "least", "most"] ["value", "least", "most"] (defScope s_is_between) := ⟨rfl, rfl, rfl, by decide +kernel, rfl, by decide +kernel, by decide +kernel⟩
abbrev s_is_garment : Stmt := top 25
theorem S_is_garment : FnScope ["value"] ["value"] (defScope s_is_garment) := ⟨rfl, rfl, rfl, by decide +kernel, rfl, by decide +kernel, by decide +kernel⟩
abbrev s_check_garments : Stmt := top 26
theorem S_check_garments : FnScope ["garments", "index", "value", "garment"] ["garments"] (defScope s_check_garments) := ⟨rfl, rfl, rfl, by decide +kernel, rfl, by decide +kernel, by decide +kernel⟩
abbrev s_parted_at : Stmt := top 29
theorem S_parted_at : FnScope ["words", "mark", "at"] ["words", "mark"] (defScope s_parted_at) := ⟨rfl, rfl, rfl, by decide +kernel, rfl, by decide +kernel, by decide +kernel⟩
abbrev s_dyes_in : Stmt := top 28
theorem S_dyes_in : FnScope ["garments", "garment"] ["garments"] (defScope s_dyes_in) := ⟨rfl, rfl, rfl, by decide +kernel, rfl, by decide +kernel, by decide +kernel⟩
abbrev s_are_different : Stmt := top 30
theorem S_are_different : FnScope ["words", "at", "word"] ["words"] (defScope s_are_different) := ⟨rfl, rfl, rfl, by decide +kernel, rfl, by decide +kernel, by decide +kernel⟩
abbrev s_wash_in : Stmt := top 31
theorem S_wash_in : FnScope ["garments", "words", "rest", "skipped", "names", "found", "told", "here", "looked", "garment", "name", "dye"] ["garments", "words"] (defScope s_wash_in) := ⟨rfl, rfl, rfl, by decide +kernel, rfl, by decide +kernel, by decide +kernel⟩
abbrev s_entry_in : Stmt := top 32
theorem S_entry_in : FnScope ["garments", "line", "words"] ["garments", "line"] (defScope s_entry_in) := ⟨rfl, rfl, rfl, by decide +kernel, rfl, by decide +kernel, by decide +kernel⟩
abbrev s_check_lines : Stmt := top 33
theorem S_check_lines : FnScope ["garments", "lines", "index", "line"] ["garments", "lines"] (defScope s_check_lines) := ⟨rfl, rfl, rfl, by decide +kernel, rfl, by decide +kernel, by decide +kernel⟩
abbrev s_Walk_wash : Stmt := nth (clsBody (top 36)) 2
theorem S_Walk_wash : FnScope ["self", "garments", "index", "lives", "looks", "life", "pairs", "dye", "is_seen", "pair"] ["self", "garments", "index", "lives", "looks"] (defScope s_Walk_wash) := ⟨rfl, rfl, rfl, by decide +kernel, rfl, by decide +kernel, by decide +kernel⟩
abbrev s_Walk_go : Stmt := nth (clsBody (top 36)) 1
theorem S_Walk_go : FnScope ["self", "garments", "entries", "here", "index", "word", "names", "looks", "name"] ["self", "garments", "entries"] (defScope s_Walk_go) := ⟨rfl, rfl, rfl, by decide +kernel, rfl, by decide +kernel, by decide +kernel⟩
abbrev s_Walk_init : Stmt := nth (clsBody (top 36)) 0
theorem S_Walk_init : FnScope ["self", "garments", "entries", "owner", "garment", "many", "entry", "turn"] ["self", "garments", "entries"] (defScope s_Walk_init) := ⟨rfl, rfl, rfl, by decide +kernel, rfl, by decide +kernel, by decide +kernel⟩
abbrev s_Book_init : Stmt := nth (clsBody (top 37)) 0
theorem S_Book_init : FnScope ["self", "garments", "lines", "line"] ["self", "garments", "lines"] (defScope s_Book_init) := ⟨rfl, rfl, rfl, by decide +kernel, rfl, by decide +kernel, by decide +kernel⟩
abbrev s_possible : Stmt := top 49
theorem S_possible : FnScope ["book"] ["book"] (defScope s_possible) := ⟨rfl, rfl, rfl, by decide +kernel, rfl, by decide +kernel, by decide +kernel⟩
abbrev s__law_alone_right : Stmt := top 54
theorem S__law_alone_right : FnScope ["_law_cup_here", "_law_top", "_law_bleeds", "_law_mine", "_law_rows"] ["_law_cup_here"] (defScope s__law_alone_right) := ⟨rfl, rfl, rfl, by decide +kernel, rfl, by decide +kernel, by decide +kernel⟩
abbrev s__law_two_right : Stmt := top 55
theorem S__law_two_right : FnScope ["_law_cup_here", "_law_top", "_law_both", "_law_mine", "_law_rows"] ["_law_cup_here"] (defScope s__law_two_right) := ⟨rfl, rfl, rfl, by decide +kernel, rfl, by decide +kernel, by decide +kernel⟩
abbrev s_Book___len__ : Stmt := nth (clsBody (top 37)) 15
theorem S_Book___len__ : FnScope ["self"] ["self"] (defScope s_Book___len__) := ⟨rfl, rfl, rfl, by decide +kernel, rfl, by decide +kernel, by decide +kernel⟩
abbrev s_tops : Stmt := top 48
theorem S_tops : FnScope ["book"] ["book"] (defScope s_tops) := ⟨rfl, rfl, rfl, by decide +kernel, rfl, by decide +kernel, by decide +kernel⟩
abbrev s__law_right : Stmt := top 56
theorem S__law_right : FnScope ["_law_cup_here", "_law_many", "_law_cloths", "_law_bare", "_law_due", "_law_k", "_law_cloth", "_law_pair"] ["_law_cup_here"] (defScope s__law_right) := ⟨rfl, rfl, rfl, by decide +kernel, rfl, by decide +kernel, by decide +kernel⟩
abbrev s__law_cup : Stmt := top 52
theorem S__law_cup : FnScope ["_law_cells", "_law_turn", "_law_cell", "_law_mixed", "_law_each"] ["_law_cells", "_law_turn"] (defScope s__law_cup) := ⟨rfl, rfl, rfl, by decide +kernel, rfl, by decide +kernel, by decide +kernel⟩
abbrev s_law : Stmt := top 57
theorem S_law : FnScope ["_law_cells", "_law_turn"] ["_law_cells"] (defScope s_law) := ⟨rfl, rfl, rfl, by decide +kernel, rfl, by decide +kernel, by decide +kernel⟩
structure Facts (K : PySem.W.Frag) (mg : Str → Option Value) : Prop where
  gl_law : mg "law" = some (.ref (He.ga K "law"))
  fr_len : mg "len" = none
  fr_min : mg "min" = none
  fr_max : mg "max" = none
  fr_range : mg "range" = none
  gl__law_cup : mg "_law_cup" = some (.ref (He.ga K "_law_cup"))
  gl__law_right : mg "_law_right" = some (.ref (He.ga K "_law_right"))
  fr_all : mg "all" = none
  gl__law_alone_right : mg "_law_alone_right" = some (.ref (He.ga K "_law_alone_right"))
  gl__law_two_right : mg "_law_two_right" = some (.ref (He.ga K "_law_two_right"))
  gl__law_sip : mg "_law_sip" = some (.ref (He.ga K "_law_sip"))
  fr_tuple : mg "tuple" = none
  mk_Book : Mk K (He.ga K "Book") (pM "Book" "__init__" K)
  gl_Book : mg "Book" = some (.ref (He.ga K "Book"))
  me_Book___len__ : Meth K (He.ga K "Book") "__len__" (pM "Book" "__len__" K)
  gl_known : mg "known" = some (.ref (He.ga K "known"))
  gl_tops : mg "tops" = some (.ref (He.ga K "tops"))
  gl_possible : mg "possible" = some (.ref (He.ga K "possible"))
  fr_divmod : mg "divmod" = none
  fr_int : mg "int" = none
  gl_check_book : mg "check_book" = some (.ref (He.ga K "check_book"))
  gl_check_possible : mg "check_possible" = some (.ref (He.ga K "check_possible"))
  gl_known_of : mg "known_of" = some (.ref (He.ga K "known_of"))
  is_Book : fIsi "Book" K = true
  cl_Book : Cls K (He.ga K "Book")
  fr_isinstance : mg "isinstance" = none
  gl_is_possible : mg "is_possible" = some (.ref (He.ga K "is_possible"))
  gl_tops_of : mg "tops_of" = some (.ref (He.ga K "tops_of"))
  gl_fits_tops : mg "fits_tops" = some (.ref (He.ga K "fits_tops"))
  pr_Book_looks : PropOf K (He.ga K "Book") "looks" (pM "Book" "looks" K) (pP "Book" "looks" K)
  fr_enumerate : mg "enumerate" = none
  pr_Book_spans : PropOf K (He.ga K "Book") "spans" (pM "Book" "spans" K) (pP "Book" "spans" K)
  fr_any : mg "any" = none
  na_Book_walk : NoAttr K (He.ga K "Book") "walk"
  cl_Walk : Cls K (He.ga K "Walk")
  na_Walk_look_rows : NoAttr K (He.ga K "Walk") "look_rows"
  na_Walk_span_rows : NoAttr K (He.ga K "Walk") "span_rows"
  pr_Book_lives : PropOf K (He.ga K "Book") "lives" (pM "Book" "lives" K) (pP "Book" "lives" K)
  gl_top_of : mg "top_of" = some (.ref (He.ga K "top_of"))
  na_Walk_life_rows : NoAttr K (He.ga K "Walk") "life_rows"
  gl_garment_of : mg "garment_of" = some (.ref (He.ga K "garment_of"))
  pr_Book_garments : PropOf K (He.ga K "Book") "garments" (pM "Book" "garments" K) (pP "Book" "garments" K)
  gl_names_in : mg "names_in" = some (.ref (He.ga K "names_in"))
  na_Book_clothes : NoAttr K (He.ga K "Book") "clothes"
  gl_least_by : mg "least_by" = some (.ref (He.ga K "least_by"))
  fr_dict : mg "dict" = none
  gl_check_garments : mg "check_garments" = some (.ref (He.ga K "check_garments"))
  gl_check_lines : mg "check_lines" = some (.ref (He.ga K "check_lines"))
  na_Book_told : NoAttr K (He.ga K "Book") "told"
  na_Book_parsed : NoAttr K (He.ga K "Book") "parsed"
  gl_entry_in : mg "entry_in" = some (.ref (He.ga K "entry_in"))
  mk_Walk : Mk K (He.ga K "Walk") (pM "Walk" "__init__" K)
  gl_Walk : mg "Walk" = some (.ref (He.ga K "Walk"))
  gi_MOST_GARMENTS : ∃ t, mg "MOST_GARMENTS" = some (.int (8) t)
  gl_is_garment : mg "is_garment" = some (.ref (He.ga K "is_garment"))
  gl_is_name : mg "is_name" = some (.ref (He.ga K "is_name"))
  gi_MOST_WASHES : ∃ t, mg "MOST_WASHES" = some (.int (12) t)
  gl_is_between : mg "is_between" = some (.ref (He.ga K "is_between"))
  fr_str : mg "str" = none
  gs_LETTERS : ∃ t, mg "LETTERS" = some (.str "abcdefghijklmnopqrstuvwxyz" t)
  gl_is_integer : mg "is_integer" = some (.ref (He.ga K "is_integer"))
  fr_bool : mg "bool" = none
  gi_MOST_LINES : ∃ t, mg "MOST_LINES" = some (.int (30) t)
  gs_WASH : ∃ t, mg "WASH" = some (.str "wash" t)
  gl_wash_in : mg "wash_in" = some (.ref (He.ga K "wash_in"))
  gs_RENEW : ∃ t, mg "RENEW" = some (.str "renew" t)
  gs_SKIPPED : ∃ t, mg "SKIPPED" = some (.str "?" t)
  gl_parted_at : mg "parted_at" = some (.ref (He.ga K "parted_at"))
  gs_SEEN : ∃ t, mg "SEEN" = some (.str "+" t)
  gl_dyes_in : mg "dyes_in" = some (.ref (He.ga K "dyes_in"))
  gl_are_different : mg "are_different" = some (.ref (He.ga K "are_different"))
  fr_list : mg "list" = none
  na_Walk_owners : NoAttr K (He.ga K "Walk") "owners"
  na_Walk_tally_row : NoAttr K (He.ga K "Walk") "tally_row"
  na_Walk_load_rows : NoAttr K (He.ga K "Walk") "load_rows"
  me_Walk_go : Meth K (He.ga K "Walk") "go" (pM "Walk" "go" K)
  me_Walk_wash : Meth K (He.ga K "Walk") "wash" (pM "Walk" "wash" K)
  fr_sorted : mg "sorted" = none
  fr_abs : mg "abs" = none
  em_fits_tops : emB K (He.dflAt ("fits_tops", none) 0 K) = true
  em_least_by : emB K (He.dflAt ("least_by", none) 0 K) = true
  em_tops_of : emB K (He.dflAt ("tops_of", none) 0 K) = true
  fl_Book_walk : FldF K (tab K) 0 "walk" 3
  fl_Walk_look_rows : FldF K (tab K) 1 "look_rows" 4
  fl_Walk_span_rows : FldF K (tab K) 1 "span_rows" 5
  fl_Walk_life_rows : FldF K (tab K) 1 "life_rows" 1
  fl_Book_clothes : FldF K (tab K) 0 "clothes" 0
  fl_Book_told : FldF K (tab K) 0 "told" 1
  fl_Book_parsed : FldF K (tab K) 0 "parsed" 2
  fl_Walk_owners : FldF K (tab K) 1 "owners" 0
  fl_Walk_tally_row : FldF K (tab K) 1 "tally_row" 2
  fl_Walk_load_rows : FldF K (tab K) 1 "load_rows" 3
  mf_Walk_go : MethF K (tab K) 1 "go" (pM "Walk" "go" K)
  mf_Walk_wash : MethF K (tab K) 1 "wash" (pM "Walk" "wash" K)
section
variable {P : Program} {w0 : World} {K : PySem.W.Frag} {mg : Str → Option Value} {base : Heap}
theorem ok__law_sip (G : Facts K mg) (F : ∃ fd, FunD K "_law_sip" "_law_sip" (defArgs s__law_sip) (defBody s__law_sip) (defScope s__law_sip) [] [] ((pG "_law_sip") K) fd)  : OkF P w0 K mg base (tab K) 1 ((pG "_law_sip") K) ["_law_cup_here", "_law_top"] c__law_sip := by
  obtain ⟨fd, F⟩ := F
  refine ⟨fd, (fn_con (k := 0) F S__law_sip (w := w__law_sip) fun cdv A outer s H E F0 m0 H0 hr => ?_).imp fun _ _ _ _ h => loc_sp h, F.bindsN fun _ _ _ _ _ _ us hl => match us, hl with | [_, _], _ => rfl, F.kp⟩
  exact (dss_cons (ds_asg2 (o_add (de_ix (hu1 hr) (vr 0) de_int) de_int) (d2_sub (hu1 hr) (vr 0) de_int))
  (dss_cons (ds_if (t_gt (de_ix (hu1 hr) (vr 0) de_int) de_int)
  (dss_cons (ds_asg2T rfl (k_divmod G.fr_divmod (da_cons (de_ix (hu1 hr) (vr 0) de_int) (da_cons (vr 1) da_nil))) (d2s_cons (d2_sub (hu1 hr) (vr 0) de_int) (d2s_cons (gn2 2 S__law_sip.nd) d2s_nil)))
  (dss_one (ds_ret (vr 2)))) dss_nil)
  (dss_cons (ds_asg2 (o_mod (k_int G.fr_int (da_cons (o_add (o_mul (de_ix (hu1 hr) (vr 0) de_int) de_int) (o_mul de_int (de_ix (hu1 hr) (vr 0) de_int))) da_nil)) de_int) (d2_sub (hu1 hr) (vr 0) de_int))
  (dss_one (ds_ret (o_mod (k_int G.fr_int (da_cons (o_fdiv (de_ix (hu1 hr) (vr 0) de_int) de_int) da_nil)) (vr 1)))))))
theorem ok_check_book (G : Facts K mg) (F : ∃ fd, FunD K "check_book" "check_book" (defArgs s_check_book) (defBody s_check_book) (defScope s_check_book) [] [] ((pG "check_book") K) fd)  : OkF P w0 K mg base (tab K) 1 ((pG "check_book") K) ["value"] c_check_book := by
  obtain ⟨fd, F⟩ := F
  refine ⟨fd, (fn_con (k := 0) F S_check_book (w := w_check_book) fun cdv A outer s H E F0 m0 H0 hr => ?_).imp fun _ _ _ _ h => loc_sp h, F.bindsN fun _ _ _ _ _ _ us hl => match us, hl with | [_], _ => rfl, F.kp⟩
  exact (dss_one (ds_if (dt_not (dt_truth (k_isiC (cn := 0) (fIsi_ok rfl G.cl_Book G.is_Book) G.fr_isinstance (da_cons (vr 0) (da_cons (de_gcls rfl G.gl_Book) da_nil)))))
  (dss_one ds_never) dss_nil))
theorem ok_Book_looks (G : Facts K mg) (F : ∃ fd, FunD K "looks" "Book.looks" (defArgs s_Book_looks) (defBody s_Book_looks) (defScope s_Book_looks) [] [] ((pP "Book" "looks") K) fd)  : OkF P w0 K mg base (tab K) 1 ((pP "Book" "looks") K) ["self"] c_Book_looks := by
  obtain ⟨fd, F⟩ := F
  refine ⟨fd, (fn_con (k := 0) F S_Book_looks (w := w_Book_looks) fun cdv A outer s H E F0 m0 H0 hr => ?_).imp fun _ _ _ _ h => loc_sp h, F.bindsN fun _ _ _ _ _ _ us hl => match us, hl with | [_], _ => rfl, F.kp⟩
  exact (dss_one (ds_ret (k_tuple G.fr_tuple (da_cons (de_fld G.fl_Walk_look_rows (de_fld G.fl_Book_walk (vr 0))) da_nil))))
theorem ok_Book_spans (G : Facts K mg) (F : ∃ fd, FunD K "spans" "Book.spans" (defArgs s_Book_spans) (defBody s_Book_spans) (defScope s_Book_spans) [] [] ((pP "Book" "spans") K) fd)  : OkF P w0 K mg base (tab K) 1 ((pP "Book" "spans") K) ["self"] c_Book_spans := by
  obtain ⟨fd, F⟩ := F
  refine ⟨fd, (fn_con (k := 0) F S_Book_spans (w := w_Book_spans) fun cdv A outer s H E F0 m0 H0 hr => ?_).imp fun _ _ _ _ h => loc_sp h, F.bindsN fun _ _ _ _ _ _ us hl => match us, hl with | [_], _ => rfl, F.kp⟩
  exact (dss_one (ds_ret (k_tuple G.fr_tuple (da_cons (de_fld G.fl_Walk_span_rows (de_fld G.fl_Book_walk (vr 0))) da_nil))))
theorem ok_fits_tops {dv_fits_tops : List V} (hdv : dv_fits_tops.length = 1) (G : Facts K mg) (F : ∃ fd, FunD K "fits_tops" "fits_tops" (defArgs s_fits_tops) (defBody s_fits_tops) (defScope s_fits_tops) dv_fits_tops [] ((pG "fits_tops") K) fd) (o_Book_looks : OkF P w0 K mg base (tab K) 1 ((pP "Book" "looks") K) ["self"] c_Book_looks) (o_Book_spans : OkF P w0 K mg base (tab K) 1 ((pP "Book" "spans") K) ["self"] c_Book_spans) : OkF P w0 K mg base (tab K) 3 ((pG "fits_tops") K) ["book", "greatest", "skipped"] c_fits_tops := by
  obtain ⟨fd, F⟩ := F
  have bb : Binds K fd ["book", "greatest", "skipped"] [] := by
    obtain ⟨ds, v, bb⟩ := F.binds1 (ps := ["book", "greatest", "skipped"]) 3 1 (fun e => by rw [e] at hdv; cases hdv) (by rw [hdv] <;> rfl) fun _ _ _ _ _ _ _ us its hl h2 => match us, hl, its, h2.trans hdv with | [_, _, _], _, [_], _ => ⟨_, rfl, rfl⟩
    have e : dv_fits_tops.drop 1 = [] := List.drop_eq_nil_of_le (by omega)
    rw [e] at v
    cases v
    exact bb
  refine ⟨fd, (fn_con (k := 2) F S_fits_tops (w := w_fits_tops) fun cdv A outer s H E F0 m0 H0 hr => ?_).imp fun _ _ _ _ h => loc_sp h, bb, F.kp⟩
  exact (dss_cons (ds_for (passes_of rfl) rfl (di_enum rfl G.fr_enumerate (de_fz 1 (c_pr o_Book_looks ⟨G.cl_Book, G.pr_Book_looks⟩ (hr.mono (by decide)) (vr 0)))) (dg_tup rfl (dgs_cons (gn 3 S_fits_tops.nd) (dgs_cons (gn 4 S_fits_tops.nd) dgs_nil)))
  (dss_cons (ds_asg (de_and (de_ix (hu1 hr) (vr 4) de_int) (de_one (cmp_nin (hu65 hr) (vr 3) (vr 2)))) (gn 5 S_fits_tops.nd))
  (dss_one (ds_if (DW.dt (dw_and (dt_truth (vr 5)) (dw_and1 (dt_not (dt_truth (k_any rfl G.fr_any (da_cons (de_lc (own := false) (ow := [("life", 6), ("number", 7)]) rfl S_fits_tops.nd (di_seq (de_fz 1 (de_ix (hu1 hr) (c_pr o_Book_spans ⟨G.cl_Book, G.pr_Book_spans⟩ (hr.mono (by decide)) (vr 0)) (vr 3)))) (blkOk_by (by kernel_rfl)) (by decide) (fun _ _ _ _ _ => (dg_tup rfl (dgs_cons (gn 6 S_fits_tops.nd) (dgs_cons (gn 7 S_fits_tops.nd) dgs_nil)))) (fun _ _ _ _ _ => dts_nil) (fun _ _ _ _ _ => (cmp_le (vr 7) (de_ix (hu1 hr) (vr 1) (vr 6))))) da_nil)))))))
  (dss_one (ds_ret de_bl)) dss_nil))))
  (dss_one (ds_ret de_bl)))
theorem okd_fits_tops (G : Facts K mg) (F : ∃ fd, FunD K "fits_tops" "fits_tops" (defArgs s_fits_tops) (defBody s_fits_tops) (defScope s_fits_tops) [.ref (He.dflAt ("fits_tops", none) 0 K)] [] ((pG "fits_tops") K) fd) (o_Book_looks : OkF P w0 K mg base (tab K) 1 ((pP "Book" "looks") K) ["self"] c_Book_looks) (o_Book_spans : OkF P w0 K mg base (tab K) 1 ((pP "Book" "spans") K) ["self"] c_Book_spans) : OkFd P w0 K mg base (tab K) 3 ((pG "fits_tops") K) ["book", "greatest", "skipped"] [.tup []] c_fits_tops := by
  obtain ⟨fd, F⟩ := F
  have bb : ∃ ds, Vals [V.ref (He.dflAt ("fits_tops", none) 0 K)] ds ∧ Binds K fd ["book", "greatest", "skipped"] ds := by
    obtain ⟨ds, v, bb⟩ := F.binds1 (ps := ["book", "greatest", "skipped"]) 2 0 (fun e => by cases e) (by rfl) fun _ _ _ _ _ _ _ us its hl h2 => match us, hl, its, h2 with | [_, _], _, [_], _ => ⟨_, rfl, rfl⟩
    exact ⟨ds, v, bb⟩
  obtain ⟨ds, v, bb⟩ := bb
  refine ⟨fd, ds, _, (fn_con (k := 2) F S_fits_tops (w := w_fits_tops) fun cdv A outer s H E F0 m0 H0 hr => ?_).imp fun _ _ _ _ h => loc_sp h, bb, v, fun F m => .cons (emB_ok G.em_fits_tops F m) .nil, F.kp⟩
  exact (dss_cons (ds_for (passes_of rfl) rfl (di_enum rfl G.fr_enumerate (de_fz 1 (c_pr o_Book_looks ⟨G.cl_Book, G.pr_Book_looks⟩ (hr.mono (by decide)) (vr 0)))) (dg_tup rfl (dgs_cons (gn 3 S_fits_tops.nd) (dgs_cons (gn 4 S_fits_tops.nd) dgs_nil)))
  (dss_cons (ds_asg (de_and (de_ix (hu1 hr) (vr 4) de_int) (de_one (cmp_nin (hu65 hr) (vr 3) (vr 2)))) (gn 5 S_fits_tops.nd))
  (dss_one (ds_if (DW.dt (dw_and (dt_truth (vr 5)) (dw_and1 (dt_not (dt_truth (k_any rfl G.fr_any (da_cons (de_lc (own := false) (ow := [("life", 6), ("number", 7)]) rfl S_fits_tops.nd (di_seq (de_fz 1 (de_ix (hu1 hr) (c_pr o_Book_spans ⟨G.cl_Book, G.pr_Book_spans⟩ (hr.mono (by decide)) (vr 0)) (vr 3)))) (blkOk_by (by kernel_rfl)) (by decide) (fun _ _ _ _ _ => (dg_tup rfl (dgs_cons (gn 6 S_fits_tops.nd) (dgs_cons (gn 7 S_fits_tops.nd) dgs_nil)))) (fun _ _ _ _ _ => dts_nil) (fun _ _ _ _ _ => (cmp_le (vr 7) (de_ix (hu1 hr) (vr 1) (vr 6))))) da_nil)))))))
  (dss_one (ds_ret de_bl)) dss_nil))))
  (dss_one (ds_ret de_bl)))
theorem ok_Book_lives (G : Facts K mg) (F : ∃ fd, FunD K "lives" "Book.lives" (defArgs s_Book_lives) (defBody s_Book_lives) (defScope s_Book_lives) [] [] ((pP "Book" "lives") K) fd)  : OkF P w0 K mg base (tab K) 1 ((pP "Book" "lives") K) ["self"] c_Book_lives := by
  obtain ⟨fd, F⟩ := F
  refine ⟨fd, (fn_con (k := 0) F S_Book_lives (w := w_Book_lives) fun cdv A outer s H E F0 m0 H0 hr => ?_).imp fun _ _ _ _ h => loc_sp h, F.bindsN fun _ _ _ _ _ _ us hl => match us, hl with | [_], _ => rfl, F.kp⟩
  exact (dss_one (ds_ret (k_tuple G.fr_tuple (da_cons (de_fld G.fl_Walk_life_rows (de_fld G.fl_Book_walk (vr 0))) da_nil))))
theorem ok_Book_garments (G : Facts K mg) (F : ∃ fd, FunD K "garments" "Book.garments" (defArgs s_Book_garments) (defBody s_Book_garments) (defScope s_Book_garments) [] [] ((pP "Book" "garments") K) fd)  : OkF P w0 K mg base (tab K) 1 ((pP "Book" "garments") K) ["self"] c_Book_garments := by
  obtain ⟨fd, F⟩ := F
  refine ⟨fd, (fn_con (k := 0) F S_Book_garments (w := w_Book_garments) fun cdv A outer s H E F0 m0 H0 hr => ?_).imp fun _ _ _ _ h => loc_sp h, F.bindsN fun _ _ _ _ _ _ us hl => match us, hl with | [_], _ => rfl, F.kp⟩
  exact (dss_one (ds_ret (de_fld G.fl_Book_clothes (vr 0))))
theorem ok_names_in (G : Facts K mg) (F : ∃ fd, FunD K "names_in" "names_in" (defArgs s_names_in) (defBody s_names_in) (defScope s_names_in) [] [] ((pG "names_in") K) fd)  : OkF P w0 K mg base (tab K) 1 ((pG "names_in") K) ["garments"] c_names_in := by
  obtain ⟨fd, F⟩ := F
  refine ⟨fd, (fn_con (k := 0) F S_names_in (w := w_names_in) fun cdv A outer s H E F0 m0 H0 hr => ?_).imp fun _ _ _ _ h => loc_sp h, F.bindsN fun _ _ _ _ _ _ us hl => match us, hl with | [_], _ => rfl, F.kp⟩
  exact (dss_one (ds_ret (de_lc (own := false) (ow := [("garment", 1)]) rfl S_names_in.nd (di_seq (de_fz 1 (vr 0))) (blkOk_by (by kernel_rfl)) (by decide) (fun _ _ _ _ _ => (gn 1 S_names_in.nd)) (fun _ _ _ _ _ => dts_nil) (fun _ _ _ _ _ => (de_ix (hu1 hr) (vr 1) de_int)))))
theorem ok_garment_of (G : Facts K mg) (F : ∃ fd, FunD K "garment_of" "garment_of" (defArgs s_garment_of) (defBody s_garment_of) (defScope s_garment_of) [] [] ((pG "garment_of") K) fd) (o_Book_garments : OkF P w0 K mg base (tab K) 1 ((pP "Book" "garments") K) ["self"] c_Book_garments) (o_names_in : OkF P w0 K mg base (tab K) 1 ((pG "names_in") K) ["garments"] c_names_in) (o_Book_lives : OkF P w0 K mg base (tab K) 1 ((pP "Book" "lives") K) ["self"] c_Book_lives) : OkF P w0 K mg base (tab K) 3 ((pG "garment_of") K) ["book", "life"] c_garment_of := by
  obtain ⟨fd, F⟩ := F
  refine ⟨fd, (fn_con (k := 2) F S_garment_of (w := w_garment_of) fun cdv A outer s H E F0 m0 H0 hr => ?_).imp fun _ _ _ _ h => loc_sp h, F.bindsN fun _ _ _ _ _ _ us hl => match us, hl with | [_, _], _ => rfl, F.kp⟩
  exact (dss_one (ds_ret (de_ix (hu1 hr) (c_pr o_Book_garments ⟨G.cl_Book, G.pr_Book_garments⟩ (hr.mono (by decide)) (vr 0)) (m_index (hu65 hr) (c_fn o_names_in (hr.mono (by decide)) G.gl_names_in (da_cons (c_pr o_Book_garments ⟨G.cl_Book, G.pr_Book_garments⟩ (hr.mono (by decide)) (vr 0)) da_nil)) (da_cons (de_ix (hu1 hr) (de_ix (hu1 hr) (c_pr o_Book_lives ⟨G.cl_Book, G.pr_Book_lives⟩ (hr.mono (by decide)) (vr 0)) (vr 1)) de_int) da_nil)))))
theorem ok_top_of (G : Facts K mg) (F : ∃ fd, FunD K "top_of" "top_of" (defArgs s_top_of) (defBody s_top_of) (defScope s_top_of) [] [] ((pG "top_of") K) fd) (o_garment_of : OkF P w0 K mg base (tab K) 3 ((pG "garment_of") K) ["book", "life"] c_garment_of) : OkF P w0 K mg base (tab K) 4 ((pG "top_of") K) ["book", "life"] c_top_of := by
  obtain ⟨fd, F⟩ := F
  refine ⟨fd, (fn_con (k := 3) F S_top_of (w := w_top_of) fun cdv A outer s H E F0 m0 H0 hr => ?_).imp fun _ _ _ _ h => loc_sp h, F.bindsN fun _ _ _ _ _ _ us hl => match us, hl with | [_, _], _ => rfl, F.kp⟩
  exact (dss_one (ds_ret (de_ix (hu1 hr) (c_fn o_garment_of (hr.mono (by decide)) G.gl_garment_of (da_cons (vr 0) (da_cons (vr 1) da_nil))) de_int)))
theorem ok_tops_of {dv_tops_of : List V} (hdv : dv_tops_of.length = 1) (G : Facts K mg) (F : ∃ fd, FunD K "tops_of" "tops_of" (defArgs s_tops_of) (defBody s_tops_of) (defScope s_tops_of) dv_tops_of [] ((pG "tops_of") K) fd) (o_Book_lives : OkF P w0 K mg base (tab K) 1 ((pP "Book" "lives") K) ["self"] c_Book_lives) (o_top_of : OkF P w0 K mg base (tab K) 4 ((pG "top_of") K) ["book", "life"] c_top_of) (o_Book_looks : OkF P w0 K mg base (tab K) 1 ((pP "Book" "looks") K) ["self"] c_Book_looks) (o_Book_spans : OkF P w0 K mg base (tab K) 1 ((pP "Book" "spans") K) ["self"] c_Book_spans) : OkF P w0 K mg base (tab K) 5 ((pG "tops_of") K) ["book", "skipped"] c_tops_of := by
  obtain ⟨fd, F⟩ := F
  have bb : Binds K fd ["book", "skipped"] [] := by
    obtain ⟨ds, v, bb⟩ := F.binds1 (ps := ["book", "skipped"]) 2 1 (fun e => by rw [e] at hdv; cases hdv) (by rw [hdv] <;> rfl) fun _ _ _ _ _ _ _ us its hl h2 => match us, hl, its, h2.trans hdv with | [_, _], _, [_], _ => ⟨_, rfl, rfl⟩
    have e : dv_tops_of.drop 1 = [] := List.drop_eq_nil_of_le (by omega)
    rw [e] at v
    cases v
    exact bb
  refine ⟨fd, (fn_con (k := 4) F S_tops_of (w := w_tops_of) fun cdv A outer s H E F0 m0 H0 hr => ?_).imp fun _ _ _ _ h => loc_sp h, bb, F.kp⟩
  exact (dss_cons (ds_setLc (i := 2) (own := true) (ow := [("life", 5)]) rfl S_tops_of.nd (di_range1 rfl G.fr_range (k_len G.fr_len (da_cons (c_pr o_Book_lives ⟨G.cl_Book, G.pr_Book_lives⟩ (hr.mono (by decide)) (vr 0)) da_nil))) (blkOk_by (by kernel_rfl)) (by decide) (fun _ _ _ _ _ => (gn 5 S_tops_of.nd)) (fun _ _ _ _ _ => dts_nil) (fun _ _ _ _ _ => (c_fn o_top_of (hr.mono (by decide)) G.gl_top_of (da_cons (vr 0) (da_cons (vr 5) da_nil)))))
  (dss_cons (ds_for (passes_of rfl) rfl (di_enum rfl G.fr_enumerate (de_fz 1 (c_pr o_Book_looks ⟨G.cl_Book, G.pr_Book_looks⟩ (hr.mono (by decide)) (vr 0)))) (dg_tup rfl (dgs_cons (gn 3 S_tops_of.nd) (dgs_cons (gn 4 S_tops_of.nd) dgs_nil)))
  (dss_one (ds_if (DW.dt (dw_and (dt_not (dt_truth (de_ix (hu1 hr) (vr 4) de_int))) (dw_and1 (t_nin (hu65 hr) (vr 3) (vr 1)))))
  (dss_one (ds_for (passes_of rfl) rfl (di_seq (de_fz 1 (de_ix (hu1 hr) (c_pr o_Book_spans ⟨G.cl_Book, G.pr_Book_spans⟩ (hr.mono (by decide)) (vr 0)) (vr 3)))) (dg_tup rfl (dgs_cons (gn 5 S_tops_of.nd) (dgs_cons (gn 6 S_tops_of.nd) dgs_nil)))
  (dss_one (ds_asg2 (k_min2 rfl G.fr_min (da_cons (de_ix (hu1 hr) (vr 2) (vr 5)) (da_cons (o_sub (vr 6) de_int) da_nil))) (d2_sub (hu1 hr) (vr 2) (vr 5)))))) dss_nil)))
  (dss_one (ds_ret (de_fz 1 (vr 2))))))
theorem okd_tops_of (G : Facts K mg) (F : ∃ fd, FunD K "tops_of" "tops_of" (defArgs s_tops_of) (defBody s_tops_of) (defScope s_tops_of) [.ref (He.dflAt ("tops_of", none) 0 K)] [] ((pG "tops_of") K) fd) (o_Book_lives : OkF P w0 K mg base (tab K) 1 ((pP "Book" "lives") K) ["self"] c_Book_lives) (o_top_of : OkF P w0 K mg base (tab K) 4 ((pG "top_of") K) ["book", "life"] c_top_of) (o_Book_looks : OkF P w0 K mg base (tab K) 1 ((pP "Book" "looks") K) ["self"] c_Book_looks) (o_Book_spans : OkF P w0 K mg base (tab K) 1 ((pP "Book" "spans") K) ["self"] c_Book_spans) : OkFd P w0 K mg base (tab K) 5 ((pG "tops_of") K) ["book", "skipped"] [.tup []] c_tops_of := by
  obtain ⟨fd, F⟩ := F
  have bb : ∃ ds, Vals [V.ref (He.dflAt ("tops_of", none) 0 K)] ds ∧ Binds K fd ["book", "skipped"] ds := by
    obtain ⟨ds, v, bb⟩ := F.binds1 (ps := ["book", "skipped"]) 1 0 (fun e => by cases e) (by rfl) fun _ _ _ _ _ _ _ us its hl h2 => match us, hl, its, h2 with | [_], _, [_], _ => ⟨_, rfl, rfl⟩
    exact ⟨ds, v, bb⟩
  obtain ⟨ds, v, bb⟩ := bb
  refine ⟨fd, ds, _, (fn_con (k := 4) F S_tops_of (w := w_tops_of) fun cdv A outer s H E F0 m0 H0 hr => ?_).imp fun _ _ _ _ h => loc_sp h, bb, v, fun F m => .cons (emB_ok G.em_tops_of F m) .nil, F.kp⟩
  exact (dss_cons (ds_setLc (i := 2) (own := true) (ow := [("life", 5)]) rfl S_tops_of.nd (di_range1 rfl G.fr_range (k_len G.fr_len (da_cons (c_pr o_Book_lives ⟨G.cl_Book, G.pr_Book_lives⟩ (hr.mono (by decide)) (vr 0)) da_nil))) (blkOk_by (by kernel_rfl)) (by decide) (fun _ _ _ _ _ => (gn 5 S_tops_of.nd)) (fun _ _ _ _ _ => dts_nil) (fun _ _ _ _ _ => (c_fn o_top_of (hr.mono (by decide)) G.gl_top_of (da_cons (vr 0) (da_cons (vr 5) da_nil)))))
  (dss_cons (ds_for (passes_of rfl) rfl (di_enum rfl G.fr_enumerate (de_fz 1 (c_pr o_Book_looks ⟨G.cl_Book, G.pr_Book_looks⟩ (hr.mono (by decide)) (vr 0)))) (dg_tup rfl (dgs_cons (gn 3 S_tops_of.nd) (dgs_cons (gn 4 S_tops_of.nd) dgs_nil)))
  (dss_one (ds_if (DW.dt (dw_and (dt_not (dt_truth (de_ix (hu1 hr) (vr 4) de_int))) (dw_and1 (t_nin (hu65 hr) (vr 3) (vr 1)))))
  (dss_one (ds_for (passes_of rfl) rfl (di_seq (de_fz 1 (de_ix (hu1 hr) (c_pr o_Book_spans ⟨G.cl_Book, G.pr_Book_spans⟩ (hr.mono (by decide)) (vr 0)) (vr 3)))) (dg_tup rfl (dgs_cons (gn 5 S_tops_of.nd) (dgs_cons (gn 6 S_tops_of.nd) dgs_nil)))
  (dss_one (ds_asg2 (k_min2 rfl G.fr_min (da_cons (de_ix (hu1 hr) (vr 2) (vr 5)) (da_cons (o_sub (vr 6) de_int) da_nil))) (d2_sub (hu1 hr) (vr 2) (vr 5)))))) dss_nil)))
  (dss_one (ds_ret (de_fz 1 (vr 2))))))
theorem ok_is_possible (G : Facts K mg) (F : ∃ fd, FunD K "is_possible" "is_possible" (defArgs s_is_possible) (defBody s_is_possible) (defScope s_is_possible) [] [] ((pG "is_possible") K) fd) (od_fits_tops : OkFd P w0 K mg base (tab K) 3 ((pG "fits_tops") K) ["book", "greatest", "skipped"] [.tup []] c_fits_tops) (od_tops_of : OkFd P w0 K mg base (tab K) 5 ((pG "tops_of") K) ["book", "skipped"] [.tup []] c_tops_of) : OkF P w0 K mg base (tab K) 6 ((pG "is_possible") K) ["book"] c_is_possible := by
  obtain ⟨fd, F⟩ := F
  refine ⟨fd, (fn_con (k := 5) F S_is_possible (w := w_is_possible) fun cdv A outer s H E F0 m0 H0 hr => ?_).imp fun _ _ _ _ h => loc_sp h, F.bindsN fun _ _ _ _ _ _ us hl => match us, hl with | [_], _ => rfl, F.kp⟩
  exact (dss_one (ds_ret (c_fnD od_fits_tops (hr.mono (by decide)) G.gl_fits_tops (da_cons (vr 0) (da_cons (c_fnD od_tops_of (hr.mono (by decide)) G.gl_tops_of (da_cons (vr 0) da_nil)) da_nil)))))
theorem ok_check_possible (G : Facts K mg) (F : ∃ fd, FunD K "check_possible" "check_possible" (defArgs s_check_possible) (defBody s_check_possible) (defScope s_check_possible) [] [] ((pG "check_possible") K) fd) (o_is_possible : OkF P w0 K mg base (tab K) 6 ((pG "is_possible") K) ["book"] c_is_possible) : OkF P w0 K mg base (tab K) 7 ((pG "check_possible") K) ["book"] c_check_possible := by
  obtain ⟨fd, F⟩ := F
  refine ⟨fd, (fn_con (k := 6) F S_check_possible (w := w_check_possible) fun cdv A outer s H E F0 m0 H0 hr => ?_).imp fun _ _ _ _ h => loc_sp h, F.bindsN fun _ _ _ _ _ _ us hl => match us, hl with | [_], _ => rfl, F.kp⟩
  exact (dss_one (ds_if (dt_not (dt_truth (c_fn o_is_possible (hr.mono (by decide)) G.gl_is_possible (da_cons (vr 0) da_nil))))
  (dss_one ds_never) dss_nil))
theorem ok_least_by {dv_least_by : List V} (hdv : dv_least_by.length = 1) (G : Facts K mg) (F : ∃ fd, FunD K "least_by" "least_by" (defArgs s_least_by) (defBody s_least_by) (defScope s_least_by) dv_least_by [] ((pG "least_by") K) fd) (o_Book_looks : OkF P w0 K mg base (tab K) 1 ((pP "Book" "looks") K) ["self"] c_Book_looks) (o_Book_spans : OkF P w0 K mg base (tab K) 1 ((pP "Book" "spans") K) ["self"] c_Book_spans) : OkF P w0 K mg base (tab K) 3 ((pG "least_by") K) ["book", "greatest", "life", "skipped"] c_least_by := by
  obtain ⟨fd, F⟩ := F
  have bb : Binds K fd ["book", "greatest", "life", "skipped"] [] := by
    obtain ⟨ds, v, bb⟩ := F.binds1 (ps := ["book", "greatest", "life", "skipped"]) 4 1 (fun e => by rw [e] at hdv; cases hdv) (by rw [hdv] <;> rfl) fun _ _ _ _ _ _ _ us its hl h2 => match us, hl, its, h2.trans hdv with | [_, _, _, _], _, [_], _ => ⟨_, rfl, rfl⟩
    have e : dv_least_by.drop 1 = [] := List.drop_eq_nil_of_le (by omega)
    rw [e] at v
    cases v
    exact bb
  refine ⟨fd, (fn_con (k := 2) F S_least_by (w := w_least_by) fun cdv A outer s H E F0 m0 H0 hr => ?_).imp fun _ _ _ _ h => loc_sp h, bb, F.kp⟩
  exact (dss_cons (ds_asg de_int (gn 4 S_least_by.nd))
  (dss_cons (ds_for (passes_of rfl) rfl (di_enum rfl G.fr_enumerate (de_fz 1 (c_pr o_Book_looks ⟨G.cl_Book, G.pr_Book_looks⟩ (hr.mono (by decide)) (vr 0)))) (dg_tup rfl (dgs_cons (gn 5 S_least_by.nd) (dgs_cons (gn 6 S_least_by.nd) dgs_nil)))
  (dss_cons (ds_asg (de_if (DW.dt (dw_and (dt_truth (de_ix (hu1 hr) (vr 6) de_int)) (dw_and1 (t_nin (hu65 hr) (vr 5) (vr 3))))) (k_dictT false rfl G.fr_dict (da_cons (de_ix (hu1 hr) (c_pr o_Book_spans ⟨G.cl_Book, G.pr_Book_spans⟩ (hr.mono (by decide)) (vr 0)) (vr 5)) da_nil)) (de_dct0 false)) (gn 7 S_least_by.nd))
  (dss_one (ds_if (DW.dt (dw_and (t_in (hu65 hr) (vr 2) (vr 7)) (dw_and1 (dt_not (dt_truth (k_any rfl G.fr_any (da_cons (de_lc (own := false) (ow := [("other", 8)]) rfl S_least_by.nd (di_keys (vr 7)) (blkOk_by (by kernel_rfl)) (by decide) (fun _ _ _ _ _ => (gn 8 S_least_by.nd)) (fun _ _ _ _ _ => (dts_one (t_ne (hu64 hr) (vr 8) (vr 2)))) (fun _ _ _ _ _ => (cmp_le (de_ix (hu1 hr) (vr 7) (vr 8)) (de_ix (hu1 hr) (vr 1) (vr 8))))) da_nil)))))))
  (dss_one (ds_asg (k_max2 rfl G.fr_max (da_cons (vr 4) (da_cons (de_ix (hu1 hr) (vr 7) (vr 2)) da_nil))) (gn 4 S_least_by.nd))) dss_nil))))
  (dss_one (ds_ret (vr 4)))))
theorem okd_least_by (G : Facts K mg) (F : ∃ fd, FunD K "least_by" "least_by" (defArgs s_least_by) (defBody s_least_by) (defScope s_least_by) [.ref (He.dflAt ("least_by", none) 0 K)] [] ((pG "least_by") K) fd) (o_Book_looks : OkF P w0 K mg base (tab K) 1 ((pP "Book" "looks") K) ["self"] c_Book_looks) (o_Book_spans : OkF P w0 K mg base (tab K) 1 ((pP "Book" "spans") K) ["self"] c_Book_spans) : OkFd P w0 K mg base (tab K) 3 ((pG "least_by") K) ["book", "greatest", "life", "skipped"] [.tup []] c_least_by := by
  obtain ⟨fd, F⟩ := F
  have bb : ∃ ds, Vals [V.ref (He.dflAt ("least_by", none) 0 K)] ds ∧ Binds K fd ["book", "greatest", "life", "skipped"] ds := by
    obtain ⟨ds, v, bb⟩ := F.binds1 (ps := ["book", "greatest", "life", "skipped"]) 3 0 (fun e => by cases e) (by rfl) fun _ _ _ _ _ _ _ us its hl h2 => match us, hl, its, h2 with | [_, _, _], _, [_], _ => ⟨_, rfl, rfl⟩
    exact ⟨ds, v, bb⟩
  obtain ⟨ds, v, bb⟩ := bb
  refine ⟨fd, ds, _, (fn_con (k := 2) F S_least_by (w := w_least_by) fun cdv A outer s H E F0 m0 H0 hr => ?_).imp fun _ _ _ _ h => loc_sp h, bb, v, fun F m => .cons (emB_ok G.em_least_by F m) .nil, F.kp⟩
  exact (dss_cons (ds_asg de_int (gn 4 S_least_by.nd))
  (dss_cons (ds_for (passes_of rfl) rfl (di_enum rfl G.fr_enumerate (de_fz 1 (c_pr o_Book_looks ⟨G.cl_Book, G.pr_Book_looks⟩ (hr.mono (by decide)) (vr 0)))) (dg_tup rfl (dgs_cons (gn 5 S_least_by.nd) (dgs_cons (gn 6 S_least_by.nd) dgs_nil)))
  (dss_cons (ds_asg (de_if (DW.dt (dw_and (dt_truth (de_ix (hu1 hr) (vr 6) de_int)) (dw_and1 (t_nin (hu65 hr) (vr 5) (vr 3))))) (k_dictT false rfl G.fr_dict (da_cons (de_ix (hu1 hr) (c_pr o_Book_spans ⟨G.cl_Book, G.pr_Book_spans⟩ (hr.mono (by decide)) (vr 0)) (vr 5)) da_nil)) (de_dct0 false)) (gn 7 S_least_by.nd))
  (dss_one (ds_if (DW.dt (dw_and (t_in (hu65 hr) (vr 2) (vr 7)) (dw_and1 (dt_not (dt_truth (k_any rfl G.fr_any (da_cons (de_lc (own := false) (ow := [("other", 8)]) rfl S_least_by.nd (di_keys (vr 7)) (blkOk_by (by kernel_rfl)) (by decide) (fun _ _ _ _ _ => (gn 8 S_least_by.nd)) (fun _ _ _ _ _ => (dts_one (t_ne (hu64 hr) (vr 8) (vr 2)))) (fun _ _ _ _ _ => (cmp_le (de_ix (hu1 hr) (vr 7) (vr 8)) (de_ix (hu1 hr) (vr 1) (vr 8))))) da_nil)))))))
  (dss_one (ds_asg (k_max2 rfl G.fr_max (da_cons (vr 4) (da_cons (de_ix (hu1 hr) (vr 7) (vr 2)) da_nil))) (gn 4 S_least_by.nd))) dss_nil))))
  (dss_one (ds_ret (vr 4)))))
theorem ok_known_of (G : Facts K mg) (F : ∃ fd, FunD K "known_of" "known_of" (defArgs s_known_of) (defBody s_known_of) (defScope s_known_of) [] [] ((pG "known_of") K) fd) (od_tops_of : OkFd P w0 K mg base (tab K) 5 ((pG "tops_of") K) ["book", "skipped"] [.tup []] c_tops_of) (od_least_by : OkFd P w0 K mg base (tab K) 3 ((pG "least_by") K) ["book", "greatest", "life", "skipped"] [.tup []] c_least_by) : OkF P w0 K mg base (tab K) 6 ((pG "known_of") K) ["book"] c_known_of := by
  obtain ⟨fd, F⟩ := F
  refine ⟨fd, (fn_con (k := 5) F S_known_of (w := w_known_of) fun cdv A outer s H E F0 m0 H0 hr => ?_).imp fun _ _ _ _ h => loc_sp h, F.bindsN fun _ _ _ _ _ _ us hl => match us, hl with | [_], _ => rfl, F.kp⟩
  exact (dss_cons (ds_asg (c_fnD od_tops_of (hr.mono (by decide)) G.gl_tops_of (da_cons (vr 0) da_nil)) (gn 1 S_known_of.nd))
  (dss_one (ds_ret (de_lc (own := false) (ow := [("life", 2), ("top", 3)]) rfl S_known_of.nd (di_enum rfl G.fr_enumerate (de_fz 1 (vr 1))) (blkOk_by (by kernel_rfl)) (by decide) (fun _ _ _ _ _ => (dg_tup rfl (dgs_cons (gn 2 S_known_of.nd) (dgs_cons (gn 3 S_known_of.nd) dgs_nil)))) (fun _ _ _ _ _ => dts_nil) (fun _ _ _ _ _ => (de_tup (da_cons (c_fnD od_least_by (hr.mono (by decide)) G.gl_least_by (da_cons (vr 0) (da_cons (vr 1) (da_cons (vr 2) da_nil)))) (da_cons (vr 3) da_nil))))))))
theorem ok_known (G : Facts K mg) (F : ∃ fd, FunD K "known" "known" (defArgs s_known) (defBody s_known) (defScope s_known) [] [] ((pG "known") K) fd) (o_check_book : OkF P w0 K mg base (tab K) 1 ((pG "check_book") K) ["value"] c_check_book) (o_check_possible : OkF P w0 K mg base (tab K) 7 ((pG "check_possible") K) ["book"] c_check_possible) (o_known_of : OkF P w0 K mg base (tab K) 6 ((pG "known_of") K) ["book"] c_known_of) : OkF P w0 K mg base (tab K) 8 ((pG "known") K) ["book"] c_known := by
  obtain ⟨fd, F⟩ := F
  refine ⟨fd, (fn_con (k := 7) F S_known (w := w_known) fun cdv A outer s H E F0 m0 H0 hr => ?_).imp fun _ _ _ _ h => loc_sp h, F.bindsN fun _ _ _ _ _ _ us hl => match us, hl with | [_], _ => rfl, F.kp⟩
  exact (dss_cons (ds_expr (c_fn o_check_book (hr.mono (by decide)) G.gl_check_book (da_cons (vr 0) da_nil)))
  (dss_cons (ds_expr (c_fn o_check_possible (hr.mono (by decide)) G.gl_check_possible (da_cons (vr 0) da_nil)))
  (dss_one (ds_ret (k_tuple G.fr_tuple (da_cons (c_fn o_known_of (hr.mono (by decide)) G.gl_known_of (da_cons (vr 0) da_nil)) da_nil))))))
theorem ok_is_name (G : Facts K mg) (F : ∃ fd, FunD K "is_name" "is_name" (defArgs s_is_name) (defBody s_is_name) (defScope s_is_name) [] [] ((pG "is_name") K) fd)  : OkF P w0 K mg base (tab K) 1 ((pG "is_name") K) ["value"] c_is_name := by
  obtain ⟨fd, F⟩ := F
  refine ⟨fd, (fn_con (k := 0) F S_is_name (w := w_is_name) fun cdv A outer s H E F0 m0 H0 hr => ?_).imp fun _ _ _ _ h => loc_sp h, F.bindsN fun _ _ _ _ _ _ us hl => match us, hl with | [_], _ => rfl, F.kp⟩
  exact (dss_one (ds_ret (de_and (k_isi G.fr_isinstance (da_cons (vr 0) (da_cons (de_bty rfl G.fr_str rfl) da_nil))) (de_and (de_chain op_lt okLt op_lt okLt de_int (k_len G.fr_len (da_cons (vr 0) da_nil)) de_int) (de_one (k_all rfl G.fr_all (da_cons (de_lc (own := false) (ow := [("sign", 1)]) rfl S_is_name.nd (di_seq (de_fz 1 (vr 0))) (blkOk_by (by kernel_rfl)) (by decide) (fun _ _ _ _ _ => (gn 1 S_is_name.nd)) (fun _ _ _ _ _ => dts_nil) (fun _ _ _ _ _ => (cmp_in (hu65 hr) (vr 1) (de_gstr rfl G.gs_LETTERS rfl)))) da_nil)))))))
theorem ok_is_integer (G : Facts K mg) (F : ∃ fd, FunD K "is_integer" "is_integer" (defArgs s_is_integer) (defBody s_is_integer) (defScope s_is_integer) [] [] ((pG "is_integer") K) fd)  : OkF P w0 K mg base (tab K) 1 ((pG "is_integer") K) ["value"] c_is_integer := by
  obtain ⟨fd, F⟩ := F
  refine ⟨fd, (fn_con (k := 0) F S_is_integer (w := w_is_integer) fun cdv A outer s H E F0 m0 H0 hr => ?_).imp fun _ _ _ _ h => loc_sp h, F.bindsN fun _ _ _ _ _ _ us hl => match us, hl with | [_], _ => rfl, F.kp⟩
  exact (dss_one (ds_ret (de_and (k_isi G.fr_isinstance (da_cons (vr 0) (da_cons (de_bty rfl G.fr_int rfl) da_nil))) (de_one (de_not (k_isi G.fr_isinstance (da_cons (vr 0) (da_cons (de_bty rfl G.fr_bool rfl) da_nil))))))))
theorem ok_is_between (G : Facts K mg) (F : ∃ fd, FunD K "is_between" "is_between" (defArgs s_is_between) (defBody s_is_between) (defScope s_is_between) [] [] ((pG "is_between") K) fd) (o_is_integer : OkF P w0 K mg base (tab K) 1 ((pG "is_integer") K) ["value"] c_is_integer) : OkF P w0 K mg base (tab K) 2 ((pG "is_between") K) ["value", "least", "most"] c_is_between := by
  obtain ⟨fd, F⟩ := F
  refine ⟨fd, (fn_con (k := 1) F S_is_between (w := w_is_between) fun cdv A outer s H E F0 m0 H0 hr => ?_).imp fun _ _ _ _ h => loc_sp h, F.bindsN fun _ _ _ _ _ _ us hl => match us, hl with | [_, _, _], _ => rfl, F.kp⟩
  exact (dss_one (ds_ret (de_and (c_fn o_is_integer (hr.mono (by decide)) G.gl_is_integer (da_cons (vr 0) da_nil)) (de_one (de_chain op_le okLe op_le okLe (vr 1) (vr 0) (vr 2))))))
theorem ok_is_garment (G : Facts K mg) (F : ∃ fd, FunD K "is_garment" "is_garment" (defArgs s_is_garment) (defBody s_is_garment) (defScope s_is_garment) [] [] ((pG "is_garment") K) fd) (o_is_name : OkF P w0 K mg base (tab K) 1 ((pG "is_name") K) ["value"] c_is_name) (o_is_between : OkF P w0 K mg base (tab K) 2 ((pG "is_between") K) ["value", "least", "most"] c_is_between) : OkF P w0 K mg base (tab K) 3 ((pG "is_garment") K) ["value"] c_is_garment := by
  obtain ⟨fd, F⟩ := F
  refine ⟨fd, (fn_con (k := 2) F S_is_garment (w := w_is_garment) fun cdv A outer s H E F0 m0 H0 hr => ?_).imp fun _ _ _ _ h => loc_sp h, F.bindsN fun _ _ _ _ _ _ us hl => match us, hl with | [_], _ => rfl, F.kp⟩
  exact (dss_cons (ds_if (DW.dt (dw_or (dt_not (dt_truth (k_isi G.fr_isinstance (da_cons (vr 0) (da_cons (de_bty rfl G.fr_tuple rfl) da_nil))))) (dw_or1 (t_ne (hu64 hr) (k_len G.fr_len (da_cons (vr 0) da_nil)) de_int))))
  (dss_one (ds_ret de_bl)) dss_nil)
  (dss_one (ds_ret (de_and (c_fn o_is_name (hr.mono (by decide)) G.gl_is_name (da_cons (de_ix (hu1 hr) (vr 0) de_int) da_nil)) (de_and (c_fn o_is_name (hr.mono (by decide)) G.gl_is_name (da_cons (de_ix (hu1 hr) (vr 0) de_int) da_nil)) (de_one (c_fn o_is_between (hr.mono (by decide)) G.gl_is_between (da_cons (de_ix (hu1 hr) (vr 0) de_int) (da_cons de_int (da_cons (de_gint rfl G.gi_MOST_WASHES) da_nil))))))))))
theorem ok_check_garments (G : Facts K mg) (F : ∃ fd, FunD K "check_garments" "check_garments" (defArgs s_check_garments) (defBody s_check_garments) (defScope s_check_garments) [] [] ((pG "check_garments") K) fd) (o_is_garment : OkF P w0 K mg base (tab K) 3 ((pG "is_garment") K) ["value"] c_is_garment) : OkF P w0 K mg base (tab K) 4 ((pG "check_garments") K) ["garments"] c_check_garments := by
  obtain ⟨fd, F⟩ := F
  refine ⟨fd, (fn_con (k := 3) F S_check_garments (w := w_check_garments) fun cdv A outer s H E F0 m0 H0 hr => ?_).imp fun _ _ _ _ h => loc_sp h, F.bindsN fun _ _ _ _ _ _ us hl => match us, hl with | [_], _ => rfl, F.kp⟩
  exact (dss_cons (ds_if (DW.dt (dw_or (dt_not (dt_truth (k_isi G.fr_isinstance (da_cons (vr 0) (da_cons (de_bty rfl G.fr_tuple rfl) da_nil))))) (dw_or1 (t_eq (hu64 hr) (k_len G.fr_len (da_cons (vr 0) da_nil)) de_int))))
  (dss_one ds_never) dss_nil)
  (dss_one (ds_for (passes_of rfl) rfl (di_enum rfl G.fr_enumerate (de_fz 1 (vr 0))) (dg_tup rfl (dgs_cons (gn 1 S_check_garments.nd) (dgs_cons (gn 2 S_check_garments.nd) dgs_nil)))
  (dss_cons (ds_if (DW.dt (dw_or (t_eq (hu64 hr) (vr 1) (de_gint rfl G.gi_MOST_GARMENTS)) (dw_or1 (dt_not (dt_truth (c_fn o_is_garment (hr.mono (by decide)) G.gl_is_garment (da_cons (vr 2) da_nil)))))))
  (dss_one ds_never) dss_nil)
  (dss_one (ds_if (t_in (hu65 hr) (de_ix (hu1 hr) (vr 2) de_int) (de_lc (own := false) (ow := [("garment", 3)]) rfl S_check_garments.nd (di_seq (de_fz 1 (de_slice (vr 0) do_none (do_some (vr 1))))) (blkOk_by (by kernel_rfl)) (by decide) (fun _ _ _ _ _ => (gn 3 S_check_garments.nd)) (fun _ _ _ _ _ => dts_nil) (fun _ _ _ _ _ => (de_ix (hu1 hr) (vr 3) de_int))))
  (dss_one ds_never) dss_nil))))))
theorem ok_parted_at (G : Facts K mg) (F : ∃ fd, FunD K "parted_at" "parted_at" (defArgs s_parted_at) (defBody s_parted_at) (defScope s_parted_at) [] [] ((pG "parted_at") K) fd)  : OkF P w0 K mg base (tab K) 1 ((pG "parted_at") K) ["words", "mark"] c_parted_at := by
  obtain ⟨fd, F⟩ := F
  refine ⟨fd, (fn_con (k := 0) F S_parted_at (w := w_parted_at) fun cdv A outer s H E F0 m0 H0 hr => ?_).imp fun _ _ _ _ h => loc_sp h, F.bindsN fun _ _ _ _ _ _ us hl => match us, hl with | [_, _], _ => rfl, F.kp⟩
  exact (dss_cons (ds_if (t_nin (hu65 hr) (vr 1) (vr 0))
  (dss_one (ds_ret (de_tup (da_cons (vr 0) (da_cons de_non da_nil))))) dss_nil)
  (dss_cons (ds_asg (m_index (hu65 hr) (vr 0) (da_cons (vr 1) da_nil)) (gn 2 S_parted_at.nd))
  (dss_one (ds_ret (de_tup (da_cons (de_slice (vr 0) do_none (do_some (vr 2))) (da_cons (de_slice (vr 0) (do_some (o_add (vr 2) de_int)) do_none) da_nil)))))))
theorem ok_dyes_in (G : Facts K mg) (F : ∃ fd, FunD K "dyes_in" "dyes_in" (defArgs s_dyes_in) (defBody s_dyes_in) (defScope s_dyes_in) [] [] ((pG "dyes_in") K) fd)  : OkF P w0 K mg base (tab K) 1 ((pG "dyes_in") K) ["garments"] c_dyes_in := by
  obtain ⟨fd, F⟩ := F
  refine ⟨fd, (fn_con (k := 0) F S_dyes_in (w := w_dyes_in) fun cdv A outer s H E F0 m0 H0 hr => ?_).imp fun _ _ _ _ h => loc_sp h, F.bindsN fun _ _ _ _ _ _ us hl => match us, hl with | [_], _ => rfl, F.kp⟩
  exact (dss_one (ds_ret (k_list false rfl G.fr_list (da_cons (k_dict false rfl G.fr_dict (da_cons (de_lc (own := false) (ow := [("garment", 1)]) rfl S_dyes_in.nd (di_seq (de_fz 1 (vr 0))) (blkOk_by (by kernel_rfl)) (by decide) (fun _ _ _ _ _ => (gn 1 S_dyes_in.nd)) (fun _ _ _ _ _ => dts_nil) (fun _ _ _ _ _ => (de_tup (da_cons (de_ix (hu1 hr) (vr 1) de_int) (da_cons de_bl da_nil))))) da_nil)) da_nil))))
theorem ok_are_different (G : Facts K mg) (F : ∃ fd, FunD K "are_different" "are_different" (defArgs s_are_different) (defBody s_are_different) (defScope s_are_different) [] [] ((pG "are_different") K) fd)  : OkF P w0 K mg base (tab K) 1 ((pG "are_different") K) ["words"] c_are_different := by
  obtain ⟨fd, F⟩ := F
  refine ⟨fd, (fn_con (k := 0) F S_are_different (w := w_are_different) fun cdv A outer s H E F0 m0 H0 hr => ?_).imp fun _ _ _ _ h => loc_sp h, F.bindsN fun _ _ _ _ _ _ us hl => match us, hl with | [_], _ => rfl, F.kp⟩
  exact (dss_one (ds_ret (k_all rfl G.fr_all (da_cons (de_lc (own := false) (ow := [("at", 1), ("word", 2)]) rfl S_are_different.nd (di_enum rfl G.fr_enumerate (de_fz 1 (vr 0))) (blkOk_by (by kernel_rfl)) (by decide) (fun _ _ _ _ _ => (dg_tup rfl (dgs_cons (gn 1 S_are_different.nd) (dgs_cons (gn 2 S_are_different.nd) dgs_nil)))) (fun _ _ _ _ _ => dts_nil) (fun _ _ _ _ _ => (cmp_eq (hu64 hr) (m_index (hu65 hr) (vr 0) (da_cons (vr 2) da_nil)) (vr 1)))) da_nil))))
theorem ok_wash_in (G : Facts K mg) (F : ∃ fd, FunD K "wash_in" "wash_in" (defArgs s_wash_in) (defBody s_wash_in) (defScope s_wash_in) [] [] ((pG "wash_in") K) fd) (o_parted_at : OkF P w0 K mg base (tab K) 1 ((pG "parted_at") K) ["words", "mark"] c_parted_at) (o_dyes_in : OkF P w0 K mg base (tab K) 1 ((pG "dyes_in") K) ["garments"] c_dyes_in) (o_are_different : OkF P w0 K mg base (tab K) 1 ((pG "are_different") K) ["words"] c_are_different) (o_names_in : OkF P w0 K mg base (tab K) 1 ((pG "names_in") K) ["garments"] c_names_in) : OkF P w0 K mg base (tab K) 2 ((pG "wash_in") K) ["garments", "words"] c_wash_in := by
  obtain ⟨fd, F⟩ := F
  refine ⟨fd, (fn_con (k := 1) F S_wash_in (w := w_wash_in) fun cdv A outer s H E F0 m0 H0 hr => ?_).imp fun _ _ _ _ h => loc_sp h, F.bindsN fun _ _ _ _ _ _ us hl => match us, hl with | [_, _], _ => rfl, F.kp⟩
  exact (dss_cons (ds_asg (c_fn o_parted_at (hr.mono (by decide)) G.gl_parted_at (da_cons (vr 1) (da_cons (de_gstr rfl G.gs_SKIPPED rfl) da_nil))) (dg_tup rfl (dgs_cons (gn 2 S_wash_in.nd) (dgs_cons (gn 3 S_wash_in.nd) dgs_nil))))
  (dss_cons (ds_asg (c_fn o_parted_at (hr.mono (by decide)) G.gl_parted_at (da_cons (vr 2) (da_cons (de_gstr rfl G.gs_SEEN rfl) da_nil))) (dg_tup rfl (dgs_cons (gn 4 S_wash_in.nd) (dgs_cons (gn 5 S_wash_in.nd) dgs_nil))))
  (dss_cons (ds_asg (o_add (de_or (vr 5) (de_one (de_lst da_nil))) (de_or (vr 3) (de_one (de_lst da_nil)))) (gn 6 S_wash_in.nd))
  (dss_cons (ds_asg (c_fn o_dyes_in (hr.mono (by decide)) G.gl_dyes_in (da_cons (de_lc (own := false) (ow := [("garment", 9)]) rfl S_wash_in.nd (di_seq (de_fz 1 (vr 0))) (blkOk_by (by kernel_rfl)) (by decide) (fun _ _ _ _ _ => (gn 9 S_wash_in.nd)) (fun _ _ _ _ _ => (dts_one (t_in (hu65 hr) (de_ix (hu1 hr) (vr 9) de_int) (vr 4)))) (fun _ _ _ _ _ => (vr 9))) da_nil)) (gn 7 S_wash_in.nd))
  (dss_cons (ds_if (DW.dt (dw_or (t_eq (hu64 hr) (vr 4) (de_lst da_nil)) (dw_or (t_eq (hu64 hr) (vr 5) (de_lst da_nil)) (dw_or (t_eq (hu64 hr) (vr 3) (de_lst da_nil)) (dw_or (dt_not (dt_truth (c_fn o_are_different (hr.mono (by decide)) G.gl_are_different (da_cons (vr 4) da_nil)))) (dw_or1 (dt_not (dt_truth (c_fn o_are_different (hr.mono (by decide)) G.gl_are_different (da_cons (vr 6) da_nil))))))))))
  (dss_one (ds_ret de_non)) dss_nil)
  (dss_cons (ds_if (DW.dt (dw_or (dt_not (dt_truth (k_all rfl G.fr_all (da_cons (de_lc (own := false) (ow := [("name", 10)]) rfl S_wash_in.nd (di_seq (de_fz 1 (vr 4))) (blkOk_by (by kernel_rfl)) (by decide) (fun _ _ _ _ _ => (gn 10 S_wash_in.nd)) (fun _ _ _ _ _ => dts_nil) (fun _ _ _ _ _ => (cmp_in (hu65 hr) (vr 10) (c_fn o_names_in (hr.mono (by decide)) G.gl_names_in (da_cons (vr 0) da_nil))))) da_nil)))) (dw_or1 (dt_not (dt_truth (k_all rfl G.fr_all (da_cons (de_lc (own := false) (ow := [("dye", 11)]) rfl S_wash_in.nd (di_seq (de_fz 1 (vr 6))) (blkOk_by (by kernel_rfl)) (by decide) (fun _ _ _ _ _ => (gn 11 S_wash_in.nd)) (fun _ _ _ _ _ => dts_nil) (fun _ _ _ _ _ => (cmp_in (hu65 hr) (vr 11) (vr 7)))) da_nil)))))))
  (dss_one (ds_ret de_non)) dss_nil)
  (dss_cons (ds_setLc (i := 8) (own := false) (ow := [("dye", 11)]) rfl S_wash_in.nd (di_seq (de_fz 1 (c_fn o_dyes_in (hr.mono (by decide)) G.gl_dyes_in (da_cons (vr 0) da_nil)))) (blkOk_by (by kernel_rfl)) (by decide) (fun _ _ _ _ _ => (gn 11 S_wash_in.nd)) (fun _ _ _ _ _ => (dts_one (DW.dt (dw_and (t_in (hu65 hr) (vr 11) (vr 7)) (dw_and1 (t_nin (hu65 hr) (vr 11) (de_or (vr 3) (de_one (de_lst da_nil))))))))) (fun _ _ _ _ _ => (vr 11)))
  (dss_one (ds_ret (de_tup (da_cons (de_gstr rfl G.gs_WASH rfl) (da_cons (k_tuple G.fr_tuple (da_cons (vr 4) da_nil)) (da_cons (k_tuple G.fr_tuple (da_cons (de_lc (own := false) (ow := [("dye", 11)]) rfl S_wash_in.nd (di_seq (de_fz 1 (vr 8))) (blkOk_by (by kernel_rfl)) (by decide) (fun _ _ _ _ _ => (gn 11 S_wash_in.nd)) (fun _ _ _ _ _ => dts_nil) (fun _ _ _ _ _ => (de_tup (da_cons (vr 11) (da_cons (cmp_in (hu65 hr) (vr 11) (de_or (vr 5) (de_one (de_lst da_nil)))) da_nil))))) da_nil)) da_nil)))))))))))))
theorem ok_entry_in (G : Facts K mg) (F : ∃ fd, FunD K "entry_in" "entry_in" (defArgs s_entry_in) (defBody s_entry_in) (defScope s_entry_in) [] [] ((pG "entry_in") K) fd) (o_wash_in : OkF P w0 K mg base (tab K) 2 ((pG "wash_in") K) ["garments", "words"] c_wash_in) (o_names_in : OkF P w0 K mg base (tab K) 1 ((pG "names_in") K) ["garments"] c_names_in) : OkF P w0 K mg base (tab K) 3 ((pG "entry_in") K) ["garments", "line"] c_entry_in := by
  obtain ⟨fd, F⟩ := F
  refine ⟨fd, (fn_con (k := 2) F S_entry_in (w := w_entry_in) fun cdv A outer s H E F0 m0 H0 hr => ?_).imp fun _ _ _ _ h => loc_sp h, F.bindsN fun _ _ _ _ _ _ us hl => match us, hl with | [_, _], _ => rfl, F.kp⟩
  exact (dss_cons (ds_asg (de_if (dt_truth (k_isi G.fr_isinstance (da_cons (vr 1) (da_cons (de_bty rfl G.fr_str rfl) da_nil)))) (m_split false (vr 1) (da_cons (de_str rfl) da_nil)) (de_lst (da_cons (de_str rfl) da_nil))) (gn 2 S_entry_in.nd))
  (dss_cons (ds_if (t_eq (hu64 hr) (de_ix (hu1 hr) (vr 2) de_int) (de_gstr rfl G.gs_WASH rfl))
  (dss_one (ds_ret (c_fn o_wash_in (hr.mono (by decide)) G.gl_wash_in (da_cons (vr 0) (da_cons (de_slice (vr 2) (do_some de_int) do_none) da_nil))))) dss_nil)
  (dss_cons (ds_if (DW.dt (dw_and (t_eq (hu64 hr) (de_ix (hu1 hr) (vr 2) de_int) (de_gstr rfl G.gs_RENEW rfl)) (dw_and (t_eq (hu64 hr) (k_len G.fr_len (da_cons (vr 2) da_nil)) de_int) (dw_and1 (t_in (hu65 hr) (de_ix (hu1 hr) (vr 2) de_int) (c_fn o_names_in (hr.mono (by decide)) G.gl_names_in (da_cons (vr 0) da_nil)))))))
  (dss_one (ds_ret (de_tup (da_cons (de_gstr rfl G.gs_RENEW rfl) (da_cons (de_tup (da_cons (de_ix (hu1 hr) (vr 2) de_int) da_nil)) (da_cons (de_tup da_nil) da_nil)))))) dss_nil)
  (dss_one (ds_ret de_non)))))
theorem ok_check_lines (G : Facts K mg) (F : ∃ fd, FunD K "check_lines" "check_lines" (defArgs s_check_lines) (defBody s_check_lines) (defScope s_check_lines) [] [] ((pG "check_lines") K) fd) (o_entry_in : OkF P w0 K mg base (tab K) 3 ((pG "entry_in") K) ["garments", "line"] c_entry_in) : OkF P w0 K mg base (tab K) 4 ((pG "check_lines") K) ["garments", "lines"] c_check_lines := by
  obtain ⟨fd, F⟩ := F
  refine ⟨fd, (fn_con (k := 3) F S_check_lines (w := w_check_lines) fun cdv A outer s H E F0 m0 H0 hr => ?_).imp fun _ _ _ _ h => loc_sp h, F.bindsN fun _ _ _ _ _ _ us hl => match us, hl with | [_, _], _ => rfl, F.kp⟩
  exact (dss_cons (ds_if (dt_not (dt_truth (k_isi G.fr_isinstance (da_cons (vr 1) (da_cons (de_bty rfl G.fr_tuple rfl) da_nil)))))
  (dss_one ds_never) dss_nil)
  (dss_one (ds_for (passes_of rfl) rfl (di_enum rfl G.fr_enumerate (de_fz 1 (vr 1))) (dg_tup rfl (dgs_cons (gn 2 S_check_lines.nd) (dgs_cons (gn 3 S_check_lines.nd) dgs_nil)))
  (dss_one (ds_if (DW.dt (dw_or (t_eq (hu64 hr) (vr 2) (de_gint rfl G.gi_MOST_LINES)) (dw_or1 (t_is (c_fn o_entry_in (hr.mono (by decide)) G.gl_entry_in (da_cons (vr 0) (da_cons (vr 3) da_nil))) de_non))))
  (dss_one ds_never) dss_nil)))))
theorem ok_Walk_wash (G : Facts K mg) (F : ∃ fd, FunD K "wash" "Walk.wash" (defArgs s_Walk_wash) (defBody s_Walk_wash) (defScope s_Walk_wash) [] [] ((pM "Walk" "wash") K) fd)  : OkF P w0 K mg base (tab K) 1 ((pM "Walk" "wash") K) ["self", "garments", "index", "lives", "looks"] c_Walk_wash := by
  obtain ⟨fd, F⟩ := F
  refine ⟨fd, (fn_con (k := 0) F S_Walk_wash (w := w_Walk_wash) fun cdv A outer s H E F0 m0 H0 hr => ?_).imp fun _ _ _ _ h => loc_sp h, F.bindsN fun _ _ _ _ _ _ us hl => match us, hl with | [_, _, _, _, _], _ => rfl, F.kp⟩
  exact (dss_cons (ds_for (passes_of rfl) rfl (di_seq (de_fz 1 (vr 3))) (gn 5 S_Walk_wash.nd)
  (dss_one (ds_augS (hu1 hr) ip_add (de_fld G.fl_Walk_tally_row (vr 0)) (vr 5) de_int)))
  (dss_cons (ds_asg (k_tuple G.fr_tuple (da_cons (de_lc (own := false) (ow := [("life", 5)]) rfl S_Walk_wash.nd (di_seq (de_fz 1 (vr 3))) (blkOk_by (by kernel_rfl)) (by decide) (fun _ _ _ _ _ => (gn 5 S_Walk_wash.nd)) (fun _ _ _ _ _ => dts_nil) (fun _ _ _ _ _ => (de_tup (da_cons (vr 5) (da_cons (de_ix (hu1 hr) (de_fld G.fl_Walk_tally_row (vr 0)) (vr 5)) da_nil))))) da_nil)) (gn 6 S_Walk_wash.nd))
  (dss_cons (ds_expr (m_append (de_fld G.fl_Walk_load_rows (vr 0)) (da_cons (vr 6) da_nil)))
  (dss_one (ds_for (passes_of rfl) rfl (di_seq (de_fz 1 (vr 4))) (dg_tup rfl (dgs_cons (gn 7 S_Walk_wash.nd) (dgs_cons (gn 8 S_Walk_wash.nd) dgs_nil)))
  (dss_cons (ds_expr (m_append (de_fld G.fl_Walk_look_rows (vr 0)) (da_cons (de_tup (da_cons (vr 2) (da_cons (vr 7) (da_cons (vr 8) da_nil)))) da_nil)))
  (dss_one (ds_expr (m_append (de_fld G.fl_Walk_span_rows (vr 0)) (da_cons (k_ptuple G.fr_tuple (da_cons (de_lc (own := false) (ow := [("pair", 9)]) rfl S_Walk_wash.nd (di_seq (de_fz 1 (vr 6))) (blkOk_by (by kernel_rfl)) (by decide) (fun _ _ _ _ _ => (gn 9 S_Walk_wash.nd)) (fun _ _ _ _ _ => (dts_one (t_eq (hu64 hr) (de_ix (hu1 hr) (de_ix (hu1 hr) (vr 1) (de_ix (hu1 hr) (de_fld G.fl_Walk_owners (vr 0)) (de_ix (hu1 hr) (vr 9) de_int))) de_int) (vr 7)))) (fun _ _ _ _ _ => (vr 9))) da_nil)) da_nil))))))))))
theorem ok_Walk_go (G : Facts K mg) (F : ∃ fd, FunD K "go" "Walk.go" (defArgs s_Walk_go) (defBody s_Walk_go) (defScope s_Walk_go) [] [] ((pM "Walk" "go") K) fd) (o_names_in : OkF P w0 K mg base (tab K) 1 ((pG "names_in") K) ["garments"] c_names_in) (o_Walk_wash : OkF P w0 K mg base (tab K) 1 ((pM "Walk" "wash") K) ["self", "garments", "index", "lives", "looks"] c_Walk_wash) : OkF P w0 K mg base (tab K) 2 ((pM "Walk" "go") K) ["self", "garments", "entries"] c_Walk_go := by
  obtain ⟨fd, F⟩ := F
  refine ⟨fd, (fn_con (k := 1) F S_Walk_go (w := w_Walk_go) fun cdv A outer s H E F0 m0 H0 hr => ?_).imp fun _ _ _ _ h => loc_sp h, F.bindsN fun _ _ _ _ _ _ us hl => match us, hl with | [_, _, _], _ => rfl, F.kp⟩
  exact (dss_cons (ds_asg (k_dict true rfl G.fr_dict (da_cons (de_lc (own := false) (ow := [("name", 8)]) rfl S_Walk_go.nd (di_seq (de_fz 1 (c_fn o_names_in (hr.mono (by decide)) G.gl_names_in (da_cons (vr 1) da_nil)))) (blkOk_by (by kernel_rfl)) (by decide) (fun _ _ _ _ _ => (gn 8 S_Walk_go.nd)) (fun _ _ _ _ _ => dts_nil) (fun _ _ _ _ _ => (de_tup (da_cons (vr 8) (da_cons (m_index (hu65 hr) (de_fld G.fl_Walk_life_rows (vr 0)) (da_cons (de_tup (da_cons (vr 8) (da_cons de_int da_nil))) da_nil)) da_nil))))) da_nil)) (gn 3 S_Walk_go.nd))
  (dss_one (ds_for (passes_of rfl) rfl (di_enum rfl G.fr_enumerate (de_fz 1 (vr 2))) (dg_tup rfl (dgs_cons (gn 4 S_Walk_go.nd) (dgs_cons (dg_tup rfl (dgs_cons (gn 5 S_Walk_go.nd) (dgs_cons (gn 6 S_Walk_go.nd) (dgs_cons (gn 7 S_Walk_go.nd) dgs_nil)))) dgs_nil)))
  (dss_one (ds_if (t_eq (hu64 hr) (vr 5) (de_gstr rfl G.gs_RENEW rfl))
  (dss_cons (ds_augS (hu1 hr) ip_add (vr 3) (de_ix (hu1 hr) (vr 6) de_int) de_int)
  (dss_one (ds_expr (m_append (de_fld G.fl_Walk_load_rows (vr 0)) (da_cons (de_tup da_nil) da_nil))))) (dss_one (ds_expr (c_me o_Walk_wash G.mf_Walk_wash (hr.mono (by decide)) (vr 0) (da_cons (vr 1) (da_cons (vr 4) (da_cons (k_sorted false G.fr_sorted (da_cons (de_lc (own := false) (ow := [("name", 8)]) rfl S_Walk_go.nd (di_seq (de_fz 1 (vr 6))) (blkOk_by (by kernel_rfl)) (by decide) (fun _ _ _ _ _ => (gn 8 S_Walk_go.nd)) (fun _ _ _ _ _ => dts_nil) (fun _ _ _ _ _ => (de_ix (hu1 hr) (vr 3) (vr 8)))) da_nil)) (da_cons (vr 7) da_nil))))))))))))
theorem ok_Walk_init (G : Facts K mg) (F : ∃ fd, FunD K "__init__" "Walk.__init__" (defArgs s_Walk_init) (defBody s_Walk_init) (defScope s_Walk_init) [] [] ((pM "Walk" "__init__") K) fd) (o_Walk_go : OkF P w0 K mg base (tab K) 2 ((pM "Walk" "go") K) ["self", "garments", "entries"] c_Walk_go) : OkF P w0 K mg base (tab K) 3 ((pM "Walk" "__init__") K) ["self", "garments", "entries"] c_Walk_init := by
  obtain ⟨fd, F⟩ := F
  refine ⟨fd, (fn_con (k := 2) F S_Walk_init (w := w_Walk_init) fun cdv A outer s H E F0 m0 H0 hr => ?_).imp fun _ _ _ _ h => loc_sp h, F.bindsN fun _ _ _ _ _ _ us hl => match us, hl with | [_, _, _], _ => rfl, F.kp⟩
  exact (dss_cons (ds_fld G.fl_Walk_owners (vr 0) (de_lstO da_nil))
  (dss_cons (ds_fld G.fl_Walk_life_rows (vr 0) (de_lstO da_nil))
  (dss_cons (ds_for (passes_of rfl) rfl (di_enum rfl G.fr_enumerate (de_fz 1 (vr 1))) (dg_tup rfl (dgs_cons (gn 3 S_Walk_init.nd) (dgs_cons (gn 4 S_Walk_init.nd) dgs_nil)))
  (dss_cons (ds_asg (k_len G.fr_len (da_cons (de_lc (own := false) (ow := [("entry", 6)]) rfl S_Walk_init.nd (di_seq (de_fz 1 (vr 2))) (blkOk_by (by kernel_rfl)) (by decide) (fun _ _ _ _ _ => (gn 6 S_Walk_init.nd)) (fun _ _ _ _ _ => (dts_one (DW.dt (dw_and (t_eq (hu64 hr) (de_ix (hu1 hr) (vr 6) de_int) (de_gstr rfl G.gs_RENEW rfl)) (dw_and1 (t_eq (hu64 hr) (de_ix (hu1 hr) (vr 6) de_int) (de_tup (da_cons (de_ix (hu1 hr) (vr 4) de_int) da_nil)))))))) (fun _ _ _ _ _ => (vr 6))) da_nil)) (gn 5 S_Walk_init.nd))
  (dss_cons (ds_fldaug G.fl_Walk_owners (vr 0) (o_mul (de_lst (da_cons (vr 3) da_nil)) (o_add (vr 5) de_int)))
  (dss_one (ds_fldaug G.fl_Walk_life_rows (vr 0) (de_lc (own := false) (ow := [("turn", 7)]) rfl S_Walk_init.nd (di_range1 rfl G.fr_range (o_add (vr 5) de_int)) (blkOk_by (by kernel_rfl)) (by decide) (fun _ _ _ _ _ => (gn 7 S_Walk_init.nd)) (fun _ _ _ _ _ => dts_nil) (fun _ _ _ _ _ => (de_tup (da_cons (de_ix (hu1 hr) (vr 4) de_int) (da_cons (vr 7) da_nil))))))))))
  (dss_cons (ds_fld G.fl_Walk_tally_row (vr 0) (de_mulO (de_lst (da_cons de_int da_nil)) (k_len G.fr_len (da_cons (de_fld G.fl_Walk_life_rows (vr 0)) da_nil))))
  (dss_cons (ds_fld G.fl_Walk_load_rows (vr 0) (de_lstO da_nil))
  (dss_cons (ds_fld G.fl_Walk_look_rows (vr 0) (de_lstO da_nil))
  (dss_cons (ds_fld G.fl_Walk_span_rows (vr 0) (de_lstO da_nil))
  (dss_one (ds_expr (c_me o_Walk_go G.mf_Walk_go (hr.mono (by decide)) (vr 0) (da_cons (vr 1) (da_cons (vr 2) da_nil))))))))))))
theorem ok_Book_init {dv_Book_init : List V} (hdv : dv_Book_init.length = 1) (G : Facts K mg) (F : ∃ fd, FunD K "__init__" "Book.__init__" (defArgs s_Book_init) (defBody s_Book_init) (defScope s_Book_init) dv_Book_init [] ((pM "Book" "__init__") K) fd) (o_check_garments : OkF P w0 K mg base (tab K) 4 ((pG "check_garments") K) ["garments"] c_check_garments) (o_check_lines : OkF P w0 K mg base (tab K) 4 ((pG "check_lines") K) ["garments", "lines"] c_check_lines) (o_entry_in : OkF P w0 K mg base (tab K) 3 ((pG "entry_in") K) ["garments", "line"] c_entry_in) (o_Walk_init : OkF P w0 K mg base (tab K) 3 ((pM "Walk" "__init__") K) ["self", "garments", "entries"] c_Walk_init) : OkF P w0 K mg base (tab K) 5 ((pM "Book" "__init__") K) ["self", "garments", "lines"] c_Book_init := by
  obtain ⟨fd, F⟩ := F
  have bb : Binds K fd ["self", "garments", "lines"] [] := by
    obtain ⟨ds, v, bb⟩ := F.binds1 (ps := ["self", "garments", "lines"]) 3 1 (fun e => by rw [e] at hdv; cases hdv) (by rw [hdv] <;> rfl) fun _ _ _ _ _ _ _ us its hl h2 => match us, hl, its, h2.trans hdv with | [_, _, _], _, [_], _ => ⟨_, rfl, rfl⟩
    have e : dv_Book_init.drop 1 = [] := List.drop_eq_nil_of_le (by omega)
    rw [e] at v
    cases v
    exact bb
  refine ⟨fd, (fn_con (k := 4) F S_Book_init (w := w_Book_init) fun cdv A outer s H E F0 m0 H0 hr => ?_).imp fun _ _ _ _ h => loc_sp h, bb, F.kp⟩
  exact (dss_cons (ds_expr (c_fn o_check_garments (hr.mono (by decide)) G.gl_check_garments (da_cons (vr 1) da_nil)))
  (dss_cons (ds_expr (c_fn o_check_lines (hr.mono (by decide)) G.gl_check_lines (da_cons (vr 1) (da_cons (vr 2) da_nil))))
  (dss_cons (ds_fld G.fl_Book_clothes (vr 0) (vr 1))
  (dss_cons (ds_fld G.fl_Book_told (vr 0) (vr 2))
  (dss_cons (ds_fld G.fl_Book_parsed (vr 0) (k_tuple G.fr_tuple (da_cons (de_lc (own := false) (ow := [("line", 3)]) rfl S_Book_init.nd (di_seq (de_fz 1 (vr 2))) (blkOk_by (by kernel_rfl)) (by decide) (fun _ _ _ _ _ => (gn 3 S_Book_init.nd)) (fun _ _ _ _ _ => dts_nil) (fun _ _ _ _ _ => (c_fn o_entry_in (hr.mono (by decide)) G.gl_entry_in (da_cons (vr 1) (da_cons (vr 3) da_nil))))) da_nil)))
  (dss_one (ds_fld G.fl_Book_walk (vr 0) (c_mk o_Walk_init G.mk_Walk (hr.mono (by decide)) G.gl_Walk (da_cons (vr 1) (da_cons (de_fld G.fl_Book_parsed (vr 0)) da_nil))))))))))
theorem ok_possible (G : Facts K mg) (F : ∃ fd, FunD K "possible" "possible" (defArgs s_possible) (defBody s_possible) (defScope s_possible) [] [] ((pG "possible") K) fd) (o_check_book : OkF P w0 K mg base (tab K) 1 ((pG "check_book") K) ["value"] c_check_book) (o_is_possible : OkF P w0 K mg base (tab K) 6 ((pG "is_possible") K) ["book"] c_is_possible) : OkF P w0 K mg base (tab K) 7 ((pG "possible") K) ["book"] c_possible := by
  obtain ⟨fd, F⟩ := F
  refine ⟨fd, (fn_con (k := 6) F S_possible (w := w_possible) fun cdv A outer s H E F0 m0 H0 hr => ?_).imp fun _ _ _ _ h => loc_sp h, F.bindsN fun _ _ _ _ _ _ us hl => match us, hl with | [_], _ => rfl, F.kp⟩
  exact (dss_cons (ds_expr (c_fn o_check_book (hr.mono (by decide)) G.gl_check_book (da_cons (vr 0) da_nil)))
  (dss_one (ds_ret (c_fn o_is_possible (hr.mono (by decide)) G.gl_is_possible (da_cons (vr 0) da_nil)))))
theorem ok__law_alone_right (G : Facts K mg) (F : ∃ fd, FunD K "_law_alone_right" "_law_alone_right" (defArgs s__law_alone_right) (defBody s__law_alone_right) (defScope s__law_alone_right) [] [] ((pG "_law_alone_right") K) fd) (o__law_sip : OkF P w0 K mg base (tab K) 1 ((pG "_law_sip") K) ["_law_cup_here", "_law_top"] c__law_sip) (o_known : OkF P w0 K mg base (tab K) 8 ((pG "known") K) ["book"] c_known) (o_Book_init : OkF P w0 K mg base (tab K) 5 ((pM "Book" "__init__") K) ["self", "garments", "lines"] c_Book_init) (o_possible : OkF P w0 K mg base (tab K) 7 ((pG "possible") K) ["book"] c_possible) : OkF P w0 K mg base (tab K) 9 ((pG "_law_alone_right") K) ["_law_cup_here"] c__law_alone_right := by
  obtain ⟨fd, F⟩ := F
  refine ⟨fd, (fn_con (k := 8) F S__law_alone_right (w := w__law_alone_right) fun cdv A outer s H E F0 m0 H0 hr => ?_).imp fun _ _ _ _ h => loc_sp h, F.bindsN fun _ _ _ _ _ _ us hl => match us, hl with | [_], _ => rfl, F.kp⟩
  exact (dss_cons (ds_asg (o_add de_int (de_gc fun _ _ _ => (c_fn o__law_sip (hr.mono (by decide)) G.gl__law_sip (da_cons (vr 0) (da_cons de_int da_nil))))) (gn 1 S__law_alone_right.nd))
  (dss_cons (ds_asg (de_gc fun _ _ _ => (c_fn o__law_sip (hr.mono (by decide)) G.gl__law_sip (da_cons (vr 0) (da_cons (o_add (vr 1) de_int) da_nil)))) (gn 2 S__law_alone_right.nd))
  (dss_cons (ds_asg (de_tup (da_cons (de_tup (da_cons (de_str rfl) (da_cons (de_str rfl) (da_cons (vr 1) da_nil)))) da_nil)) (gn 3 S__law_alone_right.nd))
  (dss_cons (ds_asg (o_mulT (de_tup (da_cons (de_str rfl) da_nil)) (vr 2)) (gn 4 S__law_alone_right.nd))
  (dss_cons (ds_if (DW.dt (dw_or (t_ne (hu64 hr) (c_fn o_known (hr.mono (by decide)) G.gl_known (da_cons (de_loc fun _ _ _ => de_fz 9 (c_mk o_Book_init G.mk_Book (hr.mono (by decide)) G.gl_Book (da_cons (vr 3) (da_cons (vr 4) da_nil)))) da_nil)) (de_tup (da_cons (de_tup (da_cons (vr 2) (da_cons (vr 1) da_nil))) da_nil))) (dw_or1 (t_ne (hu64 hr) (c_fn o_known (hr.mono (by decide)) G.gl_known (da_cons (de_loc fun _ _ _ => de_fz 9 (c_mk o_Book_init G.mk_Book (hr.mono (by decide)) G.gl_Book (da_cons (vr 3) (da_cons (o_add (vr 4) (de_tup (da_cons (de_str rfl) da_nil))) da_nil)))) da_nil)) (de_tup (da_cons (de_tup (da_cons (vr 2) (da_cons (vr 2) da_nil))) da_nil))))))
  (dss_one (ds_ret de_bl)) dss_nil)
  (dss_cons (ds_if (t_ne (hu64 hr) (c_fn o_known (hr.mono (by decide)) G.gl_known (da_cons (de_loc fun _ _ _ => de_fz 9 (c_mk o_Book_init G.mk_Book (hr.mono (by decide)) G.gl_Book (da_cons (vr 3) (da_cons (o_add (vr 4) (de_tup (da_cons (de_str rfl) da_nil))) da_nil)))) da_nil)) (de_tup (da_cons (de_tup (da_cons (vr 2) (da_cons (vr 1) da_nil))) (da_cons (de_tup (da_cons de_int (da_cons (vr 1) da_nil))) da_nil))))
  (dss_one (ds_ret de_bl)) dss_nil)
  (dss_cons (ds_if (dt_truth (c_fn o_possible (hr.mono (by decide)) G.gl_possible (da_cons (de_loc fun _ _ _ => de_fz 9 (c_mk o_Book_init G.mk_Book (hr.mono (by decide)) G.gl_Book (da_cons (vr 3) (da_cons (o_add (vr 4) (de_tup (da_cons (de_str rfl) (da_cons (de_str rfl) da_nil)))) da_nil)))) da_nil)))
  (dss_one (ds_ret de_bl)) dss_nil)
  (dss_one (ds_ret (cmp_eq (hu64 hr) (c_fn o_known (hr.mono (by decide)) G.gl_known (da_cons (de_loc fun _ _ _ => de_fz 9 (c_mk o_Book_init G.mk_Book (hr.mono (by decide)) G.gl_Book (da_cons (vr 3) (da_cons (o_mulT (de_tup (da_cons (de_str rfl) da_nil)) (vr 1)) da_nil)))) da_nil)) (de_tup (da_cons (de_tup (da_cons de_int (da_cons (vr 1) da_nil))) da_nil))))))))))))
theorem ok__law_two_right (G : Facts K mg) (F : ∃ fd, FunD K "_law_two_right" "_law_two_right" (defArgs s__law_two_right) (defBody s__law_two_right) (defScope s__law_two_right) [] [] ((pG "_law_two_right") K) fd) (o__law_sip : OkF P w0 K mg base (tab K) 1 ((pG "_law_sip") K) ["_law_cup_here", "_law_top"] c__law_sip) (o_known : OkF P w0 K mg base (tab K) 8 ((pG "known") K) ["book"] c_known) (o_Book_init : OkF P w0 K mg base (tab K) 5 ((pM "Book" "__init__") K) ["self", "garments", "lines"] c_Book_init) : OkF P w0 K mg base (tab K) 9 ((pG "_law_two_right") K) ["_law_cup_here"] c__law_two_right := by
  obtain ⟨fd, F⟩ := F
  refine ⟨fd, (fn_con (k := 8) F S__law_two_right (w := w__law_two_right) fun cdv A outer s H E F0 m0 H0 hr => ?_).imp fun _ _ _ _ h => loc_sp h, F.bindsN fun _ _ _ _ _ _ us hl => match us, hl with | [_], _ => rfl, F.kp⟩
  exact (dss_cons (ds_par (i := 1) (j := 2) rfl S__law_two_right.nd rfl rfl (by decide) rfl rfl (da_cons (o_add de_int (de_gc fun _ _ _ => (c_fn o__law_sip (hr.mono (by decide)) G.gl__law_sip (da_cons (vr 0) (da_cons de_int da_nil))))) (da_cons (o_add de_int (de_gc fun _ _ _ => (c_fn o__law_sip (hr.mono (by decide)) G.gl__law_sip (da_cons (vr 0) (da_cons de_int da_nil))))) da_nil)) rfl)
  (dss_cons (ds_asg (k_min2 rfl G.fr_min (da_cons (vr 2) (da_cons (o_sub (vr 1) de_int) da_nil))) (gn 2 S__law_two_right.nd))
  (dss_cons (ds_asg (de_tup (da_cons (de_tup (da_cons (de_str rfl) (da_cons (de_str rfl) (da_cons (vr 1) da_nil)))) (da_cons (de_tup (da_cons (de_str rfl) (da_cons (de_str rfl) (da_cons (vr 1) da_nil)))) da_nil))) (gn 3 S__law_two_right.nd))
  (dss_cons (ds_asg (o_mulT (de_tup (da_cons (de_str rfl) da_nil)) (vr 2)) (gn 4 S__law_two_right.nd))
  (dss_cons (ds_if (t_ne (hu64 hr) (c_fn o_known (hr.mono (by decide)) G.gl_known (da_cons (de_loc fun _ _ _ => de_fz 9 (c_mk o_Book_init G.mk_Book (hr.mono (by decide)) G.gl_Book (da_cons (vr 3) (da_cons (vr 4) da_nil)))) da_nil)) (de_tup (da_cons (de_tup (da_cons de_int (da_cons (vr 1) da_nil))) (da_cons (de_tup (da_cons de_int (da_cons (vr 1) da_nil))) da_nil))))
  (dss_one (ds_ret de_bl)) dss_nil)
  (dss_cons (ds_if (t_ne (hu64 hr) (c_fn o_known (hr.mono (by decide)) G.gl_known (da_cons (de_loc fun _ _ _ => de_fz 9 (c_mk o_Book_init G.mk_Book (hr.mono (by decide)) G.gl_Book (da_cons (vr 3) (da_cons (o_add (vr 4) (de_tup (da_cons (de_str rfl) da_nil))) da_nil)))) da_nil)) (de_tup (da_cons (de_tup (da_cons de_int (da_cons (vr 1) da_nil))) (da_cons (de_tup (da_cons de_int (da_cons (vr 2) da_nil))) da_nil))))
  (dss_one (ds_ret de_bl)) dss_nil)
  (dss_cons (ds_if (t_ne (hu64 hr) (c_fn o_known (hr.mono (by decide)) G.gl_known (da_cons (de_loc fun _ _ _ => de_fz 9 (c_mk o_Book_init G.mk_Book (hr.mono (by decide)) G.gl_Book (da_cons (vr 3) (da_cons (o_add (de_tup (da_cons (de_str rfl) da_nil)) (vr 4)) da_nil)))) da_nil)) (de_tup (da_cons (de_tup (da_cons (vr 2) (da_cons (vr 1) da_nil))) (da_cons (de_tup (da_cons de_int (da_cons de_int da_nil))) da_nil))))
  (dss_one (ds_ret de_bl)) dss_nil)
  (dss_cons (ds_if (t_ne (hu64 hr) (c_fn o_known (hr.mono (by decide)) G.gl_known (da_cons (de_loc fun _ _ _ => de_fz 9 (c_mk o_Book_init G.mk_Book (hr.mono (by decide)) G.gl_Book (da_cons (vr 3) (da_cons (o_add (de_tup (da_cons (de_str rfl) (da_cons (de_str rfl) da_nil))) (vr 4)) da_nil)))) da_nil)) (de_tup (da_cons (de_tup (da_cons de_int (da_cons (vr 1) da_nil))) (da_cons (de_tup (da_cons de_int (da_cons de_int da_nil))) (da_cons (de_tup (da_cons de_int (da_cons (vr 1) da_nil))) da_nil)))))
  (dss_one (ds_ret de_bl)) dss_nil)
  (dss_one (ds_ret (cmp_eq (hu64 hr) (c_fn o_known (hr.mono (by decide)) G.gl_known (da_cons (de_loc fun _ _ _ => de_fz 9 (c_mk o_Book_init G.mk_Book (hr.mono (by decide)) G.gl_Book (da_cons (vr 3) (da_cons (o_add (vr 4) (de_tup (da_cons (de_str rfl) da_nil))) da_nil)))) da_nil)) (de_tup (da_cons (de_tup (da_cons de_int (da_cons (vr 2) da_nil))) (da_cons (de_tup (da_cons de_int (da_cons (vr 2) da_nil))) da_nil))))))))))))))
theorem ok_Book___len__ (G : Facts K mg) (F : ∃ fd, FunD K "__len__" "Book.__len__" (defArgs s_Book___len__) (defBody s_Book___len__) (defScope s_Book___len__) [] [] ((pM "Book" "__len__") K) fd)  : OkF P w0 K mg base (tab K) 1 ((pM "Book" "__len__") K) ["self"] c_Book___len__ := by
  obtain ⟨fd, F⟩ := F
  refine ⟨fd, (fn_con (k := 0) F S_Book___len__ (w := w_Book___len__) fun cdv A outer s H E F0 m0 H0 hr => ?_).imp fun _ _ _ _ h => loc_sp h, F.bindsN fun _ _ _ _ _ _ us hl => match us, hl with | [_], _ => rfl, F.kp⟩
  exact (dss_one (ds_ret (k_len G.fr_len (da_cons (de_fld G.fl_Book_told (vr 0)) da_nil))))
theorem ok_tops (G : Facts K mg) (F : ∃ fd, FunD K "tops" "tops" (defArgs s_tops) (defBody s_tops) (defScope s_tops) [] [] ((pG "tops") K) fd) (o_check_book : OkF P w0 K mg base (tab K) 1 ((pG "check_book") K) ["value"] c_check_book) (od_tops_of : OkFd P w0 K mg base (tab K) 5 ((pG "tops_of") K) ["book", "skipped"] [.tup []] c_tops_of) : OkF P w0 K mg base (tab K) 6 ((pG "tops") K) ["book"] c_tops := by
  obtain ⟨fd, F⟩ := F
  refine ⟨fd, (fn_con (k := 5) F S_tops (w := w_tops) fun cdv A outer s H E F0 m0 H0 hr => ?_).imp fun _ _ _ _ h => loc_sp h, F.bindsN fun _ _ _ _ _ _ us hl => match us, hl with | [_], _ => rfl, F.kp⟩
  exact (dss_cons (ds_expr (c_fn o_check_book (hr.mono (by decide)) G.gl_check_book (da_cons (vr 0) da_nil)))
  (dss_one (ds_ret (k_tuple G.fr_tuple (da_cons (c_fnD od_tops_of (hr.mono (by decide)) G.gl_tops_of (da_cons (vr 0) da_nil)) da_nil)))))
theorem ok__law_right (G : Facts K mg) (F : ∃ fd, FunD K "_law_right" "_law_right" (defArgs s__law_right) (defBody s__law_right) (defScope s__law_right) [] [] ((pG "_law_right") K) fd) (o__law_alone_right : OkF P w0 K mg base (tab K) 9 ((pG "_law_alone_right") K) ["_law_cup_here"] c__law_alone_right) (o__law_two_right : OkF P w0 K mg base (tab K) 9 ((pG "_law_two_right") K) ["_law_cup_here"] c__law_two_right) (o__law_sip : OkF P w0 K mg base (tab K) 1 ((pG "_law_sip") K) ["_law_cup_here", "_law_top"] c__law_sip) (o_Book_init : OkF P w0 K mg base (tab K) 5 ((pM "Book" "__init__") K) ["self", "garments", "lines"] c_Book_init) (o_Book___len__ : OkF P w0 K mg base (tab K) 1 ((pM "Book" "__len__") K) ["self"] c_Book___len__) (o_known : OkF P w0 K mg base (tab K) 8 ((pG "known") K) ["book"] c_known) (o_tops : OkF P w0 K mg base (tab K) 6 ((pG "tops") K) ["book"] c_tops) : OkF P w0 K mg base (tab K) 10 ((pG "_law_right") K) ["_law_cup_here"] c__law_right := by
  obtain ⟨fd, F⟩ := F
  refine ⟨fd, (fn_con (k := 9) F S__law_right (w := w__law_right) fun cdv A outer s H E F0 m0 H0 hr => ?_).imp fun _ _ _ _ h => loc_sp h, F.bindsN fun _ _ _ _ _ _ us hl => match us, hl with | [_], _ => rfl, F.kp⟩
  exact (dss_cons (ds_if (DW.dt (dw_or (dt_not (dt_truth (c_fn o__law_alone_right (hr.mono (by decide)) G.gl__law_alone_right (da_cons (vr 0) da_nil)))) (dw_or1 (dt_not (dt_truth (c_fn o__law_two_right (hr.mono (by decide)) G.gl__law_two_right (da_cons (vr 0) da_nil)))))))
  (dss_one (ds_ret de_bl)) dss_nil)
  (dss_cons (ds_asg (o_add de_int (de_gc fun _ _ _ => (c_fn o__law_sip (hr.mono (by decide)) G.gl__law_sip (da_cons (vr 0) (da_cons de_int da_nil))))) (gn 1 S__law_right.nd))
  (dss_cons (ds_asg (k_tuple G.fr_tuple (da_cons (de_lc (own := false) (ow := [("_law_k", 5)]) rfl S__law_right.nd (di_range1 rfl G.fr_range (vr 1)) (blkOk_by (by kernel_rfl)) (by decide) (fun _ _ _ _ _ => (gn 5 S__law_right.nd)) (fun _ _ _ _ _ => dts_nil) (fun _ _ _ _ _ => (de_tup (da_cons (o_add (de_str rfl) (de_ix (hu1 hr) (de_str rfl) (vr 5))) (da_cons (o_add (de_str rfl) (de_ix (hu1 hr) (de_str rfl) (de_gc fun _ _ _ => (c_fn o__law_sip (hr.mono (by decide)) G.gl__law_sip (da_cons (vr 0) (da_cons de_int da_nil)))))) (da_cons (de_gc fun _ _ _ => (c_fn o__law_sip (hr.mono (by decide)) G.gl__law_sip (da_cons (vr 0) (da_cons de_int da_nil)))) da_nil)))))) da_nil)) (gn 2 S__law_right.nd))
  (dss_cons (ds_asg (c_mkF 9 o_Book_init G.mk_Book (hr.mono (by decide)) G.gl_Book (da_cons (vr 2) (da_cons (o_mulT (de_tup (da_cons (de_str rfl) da_nil)) (de_gc fun _ _ _ => (c_fn o__law_sip (hr.mono (by decide)) G.gl__law_sip (da_cons (vr 0) (da_cons de_int da_nil))))) da_nil))) (gn 3 S__law_right.nd))
  (dss_cons (ds_asg (o_add (o_mul (de_lst (da_cons (de_tup (da_cons de_int (da_cons (de_ix (hu1 hr) (de_ix (hu1 hr) (vr 2) de_int) de_int) da_nil))) da_nil)) (o_add (k_lenO o_Book___len__ G.me_Book___len__ (hr.mono (by decide)) G.fr_len (da_cons (vr 3) da_nil)) de_int)) (de_lc (own := false) (ow := [("_law_cloth", 6)]) rfl S__law_right.nd (di_seq (de_fz 1 (de_slice (vr 2) (do_some de_int) do_none))) (blkOk_by (by kernel_rfl)) (by decide) (fun _ _ _ _ _ => (gn 6 S__law_right.nd)) (fun _ _ _ _ _ => dts_nil) (fun _ _ _ _ _ => (de_tup (da_cons de_int (da_cons (de_ix (hu1 hr) (vr 6) de_int) da_nil)))))) (gn 4 S__law_right.nd))
  (dss_one (ds_ret (de_and (cmp_eq (hu64 hr) (c_fn o_known (hr.mono (by decide)) G.gl_known (da_cons (vr 3) da_nil)) (k_tuple G.fr_tuple (da_cons (vr 4) da_nil))) (de_one (cmp_eq (hu64 hr) (c_fn o_tops (hr.mono (by decide)) G.gl_tops (da_cons (vr 3) da_nil)) (k_tuple G.fr_tuple (da_cons (de_lc (own := false) (ow := [("_law_pair", 7)]) rfl S__law_right.nd (di_seq (de_fz 1 (vr 4))) (blkOk_by (by kernel_rfl)) (by decide) (fun _ _ _ _ _ => (gn 7 S__law_right.nd)) (fun _ _ _ _ _ => dts_nil) (fun _ _ _ _ _ => (de_ix (hu1 hr) (vr 7) de_int))) da_nil))))))))))))
theorem ok__law_cup (G : Facts K mg) (F : ∃ fd, FunD K "_law_cup" "_law_cup" (defArgs s__law_cup) (defBody s__law_cup) (defScope s__law_cup) [] [] ((pG "_law_cup") K) fd)  : OkF P w0 K mg base (tab K) 1 ((pG "_law_cup") K) ["_law_cells", "_law_turn"] c__law_cup := by
  obtain ⟨fd, F⟩ := F
  refine ⟨fd, (fn_con (k := 0) F S__law_cup (w := w__law_cup) fun cdv A outer s H E F0 m0 H0 hr => ?_), F.bindsN fun _ _ _ _ _ _ us hl => match us, hl with | [_, _], _ => rfl, F.kp⟩
  exact (dss_cons (ds_asg (de_if (t_lt (vr 1) (k_len G.fr_len (da_cons (vr 0) da_nil))) (de_ix (hu1 hr) (vr 0) (vr 1)) (o_add (vr 1) de_int)) (gn 2 S__law_cup.nd))
  (dss_cons (ds_asg (o_add de_int (o_mul de_int (vr 1))) (gn 3 S__law_cup.nd))
  (dss_cons (ds_for (passes_of rfl) rfl (di_seq (o_add (de_slice (vr 0) do_none (do_some de_int)) (de_lst (da_cons (vr 2) da_nil)))) (gn 4 S__law_cup.nd)
  (dss_one (ds_asg (o_mod (k_int G.fr_int (da_cons (o_add (o_mul (vr 3) de_int) (vr 4)) da_nil)) de_int) (gn 3 S__law_cup.nd))))
  (dss_one (ds_ret (de_lstO (da_cons (de_if (DW.dt (dw_or (t_lt (vr 2) de_int) (dw_or1 (t_ge (vr 2) (o_pow de_int de_int))))) (k_abs G.fr_abs (da_cons (vr 2) da_nil)) de_int) (da_cons (vr 3) (da_cons de_int da_nil)))))))))
theorem ok_law (G : Facts K mg) {fd : FuncData} (F : FunD K "law" "law" (defArgs s_law) (defBody s_law) (defScope s_law) [] [] ((pG "law") K) fd) (o__law_right : OkF P w0 K mg base (tab K) 10 ((pG "_law_right") K) ["_law_cup_here"] c__law_right) (o__law_cup : OkF P w0 K mg base (tab K) 1 ((pG "_law_cup") K) ["_law_cells", "_law_turn"] c__law_cup) : FnC P w0 K mg base (tab K) 11 ((pG "law") K) fd ["_law_cells"] c_law := by
  refine (fn_con (k := 10) F S_law (w := w_law) fun cdv A outer s H E F0 m0 H0 hr => ?_).imp fun _ _ _ _ h => loc_sp h
  exact (dss_one (ds_ret (k_all rfl G.fr_all (da_cons (de_lc (own := false) (ow := [("_law_turn", 1)]) rfl S_law.nd (di_range1 rfl G.fr_range (k_max2 rfl G.fr_max (da_cons de_int (da_cons (k_min2 rfl G.fr_min (da_cons (k_len G.fr_len (da_cons (vr 0) da_nil)) (da_cons de_int da_nil))) da_nil)))) (blkOk_by (by kernel_rfl)) (by decide) (fun _ _ _ _ _ => (gn 1 S_law.nd)) (fun _ _ _ _ _ => dts_nil) (fun _ _ _ _ _ => (de_loc fun _ _ _ => (c_fn o__law_right (hr.mono (by decide)) G.gl__law_right (da_cons (c_fn o__law_cup (hr.mono (by decide)) G.gl__law_cup (da_cons (vr 0) (da_cons (vr 1) da_nil))) da_nil))))) da_nil))))
end
end K47

/-! Books as plain data: lives, numbers, rows by garment and life. -/
namespace Bk
open Pk
/-- a list of rows, N.length of them, the k-th with N[k] items f k j -/
def row {α : Type} : List Nat → (Nat → Nat → α) → List α
  | [], _ => []
  | n :: N, f => (List.range n).map (f 0) ++ row N (fun k j => f (k + 1) j)
def base : List Nat → Nat → Nat
  | _, 0 => 0
  | [], _ + 1 => 0
  | n :: N, k + 1 => n + base N k
theorem row_len {α : Type} : ∀ (N : List Nat) (f : Nat → Nat → α), (row N f).length = base N N.length
  | [], _ => rfl
  | n :: N, f => by simp [row, base, row_len N]
theorem base_lt : ∀ {N : List Nat} {k j n : Nat}, N[k]? = some n → j < n → base N k + j < base N N.length
  | [], k, j, n, h, _ => by simp at h
  | m :: N, 0, j, n, h, hj => by
    simp at h
    subst h
    simp only [base, List.length_cons]
    omega
  | m :: N, k + 1, j, n, h, hj => by
    have := base_lt (N := N) (k := k) (by simpa using h) hj
    simp only [base, List.length_cons]
    omega
theorem row_get {α : Type} : ∀ {N : List Nat} {f : Nat → Nat → α} {k j n : Nat}, N[k]? = some n → j < n → (row N f)[base N k + j]? = some (f k j)
  | [], f, k, j, n, h, _ => by simp at h
  | m :: N, f, 0, j, n, h, hj => by
    simp at h
    subst h
    simp only [row, base, Nat.zero_add]
    rw [List.getElem?_append_left (by simpa using hj)]
    simp [hj]
  | m :: N, f, k + 1, j, n, h, hj => by
    have ih := row_get (N := N) (f := fun k j => f (k + 1) j) (k := k) (by simpa using h) hj
    simp only [row, base]
    rw [List.getElem?_append_right (by simp; omega), ← ih]
    congr 1
    simp
    omega
theorem row_map {α β : Type} (g : α → β) : ∀ (N : List Nat) (f : Nat → Nat → α), (row N f).map g = row N (fun k j => g (f k j))
  | [], _ => rfl
  | n :: N, f => by simp [row, row_map g N, Function.comp_def]
theorem row_congr {α : Type} : ∀ {N : List Nat} {f g : Nat → Nat → α}, (∀ k j n, N[k]? = some n → j < n → f k j = g k j) → row N f = row N g
  | [], _, _, _ => rfl
  | n :: N, f, g, h => by
    have ih := row_congr (N := N) (f := fun k j => f (k + 1) j) (g := fun k j => g (k + 1) j) fun k j m e hj => h (k + 1) j m (by simpa using e) hj
    simp only [row, ih]
    congr 1
    apply List.map_congr_left
    intro j hj
    exact h 0 j n (by simp) (by simpa using hj)
theorem row_set {α : Type} : ∀ {N : List Nat} {f g : Nat → Nat → α} {k j n : Nat} {v : α}, N[k]? = some n → j < n → g k j = v → (∀ k' j', (k' = k → j' ≠ j) → g k' j' = f k' j') → (row N f).set (base N k + j) v = row N g
  | [], f, g, k, j, n, v, h, _, _, _ => by simp at h
  | m :: N, f, g, 0, j, n, v, h, hj, e, ne => by
    simp at h
    subst h
    simp only [row, base, Nat.zero_add]
    rw [List.set_append_left _ _ (by simpa using hj)]
    have e2 : row N (fun k j => f (k + 1) j) = row N (fun k j => g (k + 1) j) := row_congr fun k j n _ _ => (ne (k + 1) j (fun h => by omega)).symm
    rw [e2]
    congr 1
    apply List.ext_getElem?
    intro i
    by_cases hi : i = j
    · subst hi
      rw [List.getElem?_set_self (by simpa using hj)]
      simp [hj, e]
    · rw [List.getElem?_set_ne (by omega)]
      by_cases hl : i < m
      · simp [hl]
        exact (ne 0 i fun _ => hi).symm
      · simp [hl]
  | m :: N, f, g, k + 1, j, n, v, h, hj, e, ne => by
    have ih := row_set (N := N) (f := fun k j => f (k + 1) j) (g := fun k j => g (k + 1) j) (k := k) (v := v) (by simpa using h) hj e fun k' j' hh => ne (k' + 1) j' fun q => hh (by omega)
    simp only [row, base]
    have e1 : (List.range m).map (f 0) = (List.range m).map (g 0) := by
      apply List.map_congr_left
      intro i hi
      exact (ne 0 i fun q => by omega).symm
    rw [List.set_append_right _ _ (by simp; omega), ← ih, e1]
    congr 2
    simp
    omega
theorem base_mono : ∀ {N : List Nat} {k k' : Nat}, k ≤ k' → base N k ≤ base N k'
  | _, 0, k', _ => by simp [base]
  | [], k + 1, k', h => by simp [base]
  | n :: N, k + 1, 0, h => by omega
  | n :: N, k + 1, k' + 1, h => by
    have := base_mono (N := N) (k := k) (k' := k') (by omega)
    simp only [base]
    omega
theorem base_succ : ∀ {N : List Nat} {k n : Nat}, N[k]? = some n → base N (k + 1) = base N k + n
  | [], k, n, h => by simp at h
  | m :: N, 0, n, h => by
    simp at h
    subst h
    simp [base]
  | m :: N, k + 1, n, h => by
    have := base_succ (N := N) (k := k) (by simpa using h)
    simp only [base] at this ⊢
    omega
/-- different garments' lives lie apart -/
theorem base_apart {N : List Nat} {k k' j n : Nat} (h : N[k]? = some n) (hj : j < n) (hk : k < k') : base N k + j < base N k' := by
  have h1 := base_succ h
  have h2 := base_mono (N := N) (show k + 1 ≤ k' from hk)
  omega
theorem row_idx_inj {N : List Nat} {k k' j j' n n' : Nat} (h : N[k]? = some n) (h' : N[k']? = some n') (hj : j < n) (hj' : j' < n') (e : base N k + j = base N k' + j') : k = k' ∧ j = j' := by
  rcases Nat.lt_trichotomy k k' with q | q | q
  · have := base_apart h hj q
    omega
  · subst q
    exact ⟨rfl, by omega⟩
  · have := base_apart h' hj' q
    omega
/-- each index is some life's -/
theorem row_split : ∀ {N : List Nat} {i : Nat}, i < base N N.length → ∃ k j n, N[k]? = some n ∧ j < n ∧ i = base N k + j
  | [], i, h => by simp [base] at h
  | m :: N, i, h => by
    by_cases hi : i < m
    · exact ⟨0, i, m, rfl, hi, by simp [base]⟩
    · have h' : i - m < base N N.length := by
        simp only [base, List.length_cons] at h
        omega
      obtain ⟨k, j, n, e, hj, ei⟩ := row_split h'
      refine ⟨k + 1, j, n, by simpa using e, hj, ?_⟩
      simp only [base]
      omega

/-! ### deeds -/
structure Gar where
  n : Tx
  d : Tx
  t : Nat
inductive LE where
  | wash (ks : List Nat) (seen hid : List Tx)
  | renew (k : Nat)
/-- how often garment k was renewed -/
def beg : List LE → Nat → Nat
  | [], _ => 0
  | .renew k' :: r, k => (if k' = k then 1 else 0) + beg r k
  | .wash .. :: r, k => beg r k
/-- how many washes the life j of garment k had -/
def cnt : List LE → Nat → Nat → Nat
  | [], _, _ => 0
  | .wash ks _ _ :: r, k, j => (if j = 0 ∧ k ∈ ks then 1 else 0) + cnt r k j
  | .renew k' :: r, k, j => if k' = k then (match j with
    | 0 => 0
    | j + 1 => cnt r k j) else cnt r k j
theorem beg_app : ∀ (a b : List LE) (k : Nat), beg (a ++ b) k = beg a k + beg b k
  | [], b, k => by simp [beg]
  | .renew k' :: r, b, k => by
    simp only [List.cons_append, beg, beg_app r b k]
    omega
  | .wash _ _ _ :: r, b, k => by simp only [List.cons_append, beg, beg_app r b k]
theorem cnt_app : ∀ (a b : List LE) (k j : Nat), cnt (a ++ b) k j = cnt a k j + (if beg a k ≤ j then cnt b k (j - beg a k) else 0)
  | [], b, k, j => by simp [beg, cnt]
  | .renew k' :: r, b, k, j => by
    simp only [List.cons_append, beg, cnt]
    by_cases h : k' = k
    · subst h
      cases j with
      | zero => simp
      | succ j =>
        simp only [if_pos, cnt_app r b k' j]
        have e : (1 + beg r k' ≤ j + 1) = (beg r k' ≤ j) := by
          apply propext
          omega
        have e2 : j + 1 - (1 + beg r k') = j - beg r k' := by omega
        simp only [e, e2]
    · simp only [if_neg h, cnt_app r b k j, Nat.zero_add]
  | .wash ks _ _ :: r, b, k, j => by
    simp only [List.cons_append, beg, cnt, cnt_app r b k j, Nat.add_assoc]
    congr 1
theorem cnt_far : ∀ (a : List LE) (k j : Nat), beg a k < j → cnt a k j = 0
  | [], _, _, _ => rfl
  | .renew k' :: r, k, j, h => by
    simp only [beg, cnt] at h ⊢
    by_cases q : k' = k
    · simp only [if_pos q] at h ⊢
      cases j with
      | zero => rfl
      | succ j => exact cnt_far r k j (by omega)
    · simp only [if_neg q] at h ⊢
      exact cnt_far r k j (by omega)
  | .wash ks _ _ :: r, k, j, h => by
    simp only [beg, cnt] at h ⊢
    rw [cnt_far r k j h, if_neg (by omega)]
theorem cnt_wash (a : List LE) (ks : List Nat) (s u : List Tx) (k j : Nat) : cnt (a ++ [.wash ks s u]) k j = cnt a k j + (if j = beg a k ∧ k ∈ ks then 1 else 0) := by
  rw [cnt_app]
  simp only [cnt, Nat.add_zero]
  congr 1
  by_cases h : beg a k ≤ j
  · rw [if_pos h]
    by_cases h2 : j = beg a k
    · simp [h2]
    · rw [if_neg (by omega), if_neg (by omega)]
  · rw [if_neg h, if_neg (by omega)]
theorem cnt_renew (a : List LE) (k' k j : Nat) : cnt (a ++ [.renew k']) k j = cnt a k j := by
  rw [cnt_app]
  simp only [cnt]
  by_cases h : beg a k ≤ j
  · rw [if_pos h]
    by_cases q : k' = k
    · rw [if_pos q]
      cases j - beg a k <;> rfl
    · rw [if_neg q]
      rfl
  · rw [if_neg h]
    rfl
theorem beg_le (a b : List LE) (k : Nat) : beg a k ≤ beg (a ++ b) k := by rw [beg_app]; omega

/-! ### dyes, names -/
def dedupF : List Tx → List Tx → List Tx
  | acc, [] => acc
  | acc, x :: r => if x ∈ acc then dedupF acc r else dedupF (acc ++ [x]) r
def dedup (xs : List Tx) : List Tx := dedupF [] xs
theorem mem_dedupF : ∀ (xs acc : List Tx) (x : Tx), x ∈ dedupF acc xs ↔ x ∈ acc ∨ x ∈ xs
  | [], acc, x => by simp [dedupF]
  | y :: r, acc, x => by
    unfold dedupF
    split
    · rename_i h
      rw [mem_dedupF r acc x]
      simp only [List.mem_cons]
      constructor
      · rintro (h1 | h1)
        · exact .inl h1
        · exact .inr (.inr h1)
      · rintro (h1 | h1 | h1)
        · exact .inl h1
        · subst h1
          exact .inl h
        · exact .inr h1
    · rw [mem_dedupF r _ x]
      simp only [List.mem_append, List.mem_cons, List.not_mem_nil, or_false, or_assoc]
theorem mem_dedup {xs : List Tx} {x : Tx} : x ∈ dedup xs ↔ x ∈ xs := by
  unfold dedup
  rw [mem_dedupF]
  simp
theorem nodup_dedupF : ∀ (xs acc : List Tx), acc.Nodup → (dedupF acc xs).Nodup
  | [], acc, h => h
  | y :: r, acc, h => by
    unfold dedupF
    split
    · exact nodup_dedupF r acc h
    · rename_i q
      apply nodup_dedupF r
      rw [List.nodup_append]
      refine ⟨h, by simp, ?_⟩
      intro a ha b hb
      simp at hb
      subst hb
      intro e
      subst e
      exact q ha
theorem nodup_dedup (xs : List Tx) : (dedup xs).Nodup := nodup_dedupF xs [] List.nodup_nil
def gD (G : List Gar) (k : Nat) : Tx := ((G[k]?).map (·.d)).getD []
def gN (G : List Gar) (k : Nat) : Tx := ((G[k]?).map (·.n)).getD []
def gT (G : List Gar) (k : Nat) : Nat := ((G[k]?).map (·.t)).getD 0
def hues (G : List Gar) : List Tx := dedup (G.map (·.d))
/-- how many lives -/
def lv (G : List Gar) (E : List LE) : List Nat := (List.range G.length).map fun k => beg E k + 1
theorem lv_at {G : List Gar} {E : List LE} {k : Nat} (h : k < G.length) : (lv G E)[k]? = some (beg E k + 1) := by
  unfold lv
  simp [h]
theorem lv_len (G : List Gar) (E : List LE) : (lv G E).length = G.length := by simp [lv]
/-- the garments' places that a load has, ascending -/
def plc (G : List Gar) (ks : List Nat) : List Nat := (List.range G.length).filter fun k => decide (k ∈ ks)
structure Lk where
  at_ : Nat
  dye : Tx
  sn : Bool
  sp : List (Nat × Nat)
/-- the dyes of a load that were looked for, with whether they are seen -/
def looked (G : List Gar) (ks : List Nat) (seen hid : List Tx) : List (Tx × Bool) := ((hues G).filter fun d => decide (∃ k ∈ ks, gD G k = d) && !decide (d ∈ hid)).map fun d => (d, decide (d ∈ seen))
/-- the pairs of a load -/
def prs (G : List Gar) (E pre : List LE) (ks : List Nat) : List (Nat × Nat) := (plc G ks).map fun k => (base (lv G E) k + beg pre k, cnt pre k (beg pre k) + 1)
/-- .. of one dye -/
def prsD (G : List Gar) (E pre : List LE) (ks : List Nat) (d : Tx) : List (Nat × Nat) := ((plc G ks).filter fun k => decide (gD G k = d)).map fun k => (base (lv G E) k + beg pre k, cnt pre k (beg pre k) + 1)
def looksOf (G : List Gar) (E pre : List LE) : LE → List Lk
  | .renew _ => []
  | .wash ks s u => (looked G ks s u).map fun p => ⟨pre.length, p.1, p.2, prsD G E pre ks p.1⟩
def looksFrom (G : List Gar) (E : List LE) : List LE → List LE → List Lk
  | _, [] => []
  | pre, e :: r => looksOf G E pre e ++ looksFrom G E (pre ++ [e]) r
def looks (G : List Gar) (E : List LE) : List Lk := looksFrom G E [] E
def loadOf (G : List Gar) (E pre : List LE) : LE → List (Nat × Nat)
  | .renew _ => []
  | .wash ks _ _ => prs G E pre ks
def loadsFrom (G : List Gar) (E : List LE) : List LE → List LE → List (List (Nat × Nat))
  | _, [] => []
  | pre, e :: r => loadOf G E pre e :: loadsFrom G E (pre ++ [e]) r
def lives (G : List Gar) (E : List LE) : List (Tx × Nat) := row (lv G E) fun k j => (gN G k, j)
def owners (G : List Gar) (E : List LE) : List Nat := row (lv G E) fun k _ => k
def tallies (G : List Gar) (E pre : List LE) : List Nat := row (lv G E) fun k j => cnt pre k j
def mosts (G : List Gar) (E : List LE) : List Nat := row (lv G E) fun k _ => gT G k
theorem mem_plc {G : List Gar} {ks : List Nat} {k : Nat} : k ∈ plc G ks ↔ k < G.length ∧ k ∈ ks := by
  unfold plc
  simp
theorem nodup_plc (G : List Gar) (ks : List Nat) : (plc G ks).Nodup := List.Nodup.sublist List.filter_sublist List.nodup_range
theorem plc_rises (G : List Gar) (ks : List Nat) : (plc G ks).Pairwise (· < ·) := List.Pairwise.sublist List.filter_sublist List.pairwise_lt_range
end Bk

namespace Bk
open Pk
structure NameOk (s : Tx) : Prop where
  lo : 0 < s.length
  hi : s.length < 9
  ab : ∀ c ∈ s, 97 ≤ c ∧ c ≤ 122
structure GarOk (g : Gar) : Prop where
  n : NameOk g.n
  d : NameOk g.d
  t : g.t ≤ 12
structure GarsOk (G : List Gar) : Prop where
  lo : 0 < G.length
  hi : G.length ≤ 8
  ok : ∀ g ∈ G, GarOk g
  nd : (G.map (·.n)).Nodup
def eG (g : Gar) : D := .tup [.str g.n, .str g.d, .int g.t]
theorem NameOk.okc {s : Tx} (h : NameOk s) : okc s = true := by
  unfold Pk.okc
  rw [List.all_eq_true]
  intro c hc
  have := (h.ab c hc).2
  exact Nat.ble_eq_true_of_le (by omega)
theorem noM_eG (g : Gar) : noM (eG g) = true := rfl
theorem noMs_G (G : List Gar) : noMs (G.map eG) = true := noMs_map noM_eG G
theorem noMs_S (ws : List Tx) : noMs (ws.map D.str) = true := noMs_map (fun _ => rfl) ws
theorem noM_tG (G : List Gar) : noM (.tup (G.map eG)) = true := noMs_G G
theorem noM_lG (G : List Gar) : noM (.lst (G.map eG)) = true := noMs_G G
theorem noM_lS (ws : List Tx) : noM (.lst (ws.map D.str)) = true := noMs_S ws
theorem noM_tS (ws : List Tx) : noM (.tup (ws.map D.str)) = true := noMs_S ws
theorem signs_map : ∀ s : Tx, Pk.signs s = s.map fun c => D.str [c]
  | [] => rfl
  | c :: r => by simp only [Pk.signs, List.map_cons, signs_map r]
end Bk
namespace K58
open PySem PySem.Spec PyProof.Rows L2 Pk Bk
abbrev abc : Tx := [97, 98, 99, 100, 101, 102, 103, 104, 105, 106, 107, 108, 109, 110, 111, 112, 113, 114, 115, 116, 117, 118, 119, 120, 121, 122]
theorem mem_abc {c : Nat} (h : 97 ≤ c ∧ c ≤ 122) : memTx c abc = true := by
  obtain ⟨h1, h2⟩ := h
  have : c ∈ abc := by
    have e : abc = (List.range 26).map (· + 97) := by rfl
    rw [e, List.mem_map]
    exact ⟨c - 97, by rw [List.mem_range]; omega, by omega⟩
  rw [← memTx_iff]
  exact decide_eq_true this
theorem m_is_name {s : Tx} (h : NameOk s) : Ret c_is_name [.str s] (.bl true) := r_is_name rfl rfl fun Q E => ⟨[], by
  have h1 : isiD (.str s) (.ty .str) = some (.bl true) := rfl
  have h2 : lenD (.str s) = some (.int s.length) := by
    have := h.hi
    simp only [lenD, lineB_ok (show s.length ≤ 16777216 by omega)]
  have h3 : decide ((0 : Int) < s.length) = true := by
    have := h.lo
    rw [decide_eq_true_iff]
    omega
  have h4 : decide ((s.length : Int) < 9) = true := by
    have := h.hi
    rw [decide_eq_true_iff]
    omega
  have h6 : seqD (.str s) = some (s.map fun c => .str [c]) := by simp only [seqD, signs_map]
  have h7 : Nat.blt (s.map fun c => D.str [c]).length 16777216 = true := by
    have := h.hi
    rw [List.length_map]
    exact blt_ok (by omega)
  unfold w_is_name
  simp only [wp0, wp1, lk_mref, lineBs, Nat.beq_refl, List.append_nil, List.length_cons, List.length_nil, Nat.zero_add, Nat.reduceAdd, List.getElem?_cons_zero, List.getElem?_cons_succ, List.set_cons_zero, List.set_cons_succ, Bool.not_true, Bool.not_false, *]
  rw [lc_all (fun _ => .bl true)]
  · rw [all_map, all_tt]
  · intro c hc
    refine ⟨_, rfl, fun Q E => ?_⟩
    have h8 : inD (.str [c]) (.str abc) = some (.bl true) := by
      simp only [inD, inD?, mem_abc (h.ab c hc)]
    simp only [wp0, wp1, lk_mref, lineBs, Nat.beq_refl, List.append_nil, List.length_cons, List.length_nil, Nat.zero_add, Nat.reduceAdd, List.getElem?_cons_zero, List.getElem?_cons_succ, List.set_cons_zero, List.set_cons_succ, Bool.not_true, Bool.not_false, *]⟩
theorem m_is_integer {i : Int} : Ret c_is_integer [.int i] (.bl true) := r_is_integer rfl rfl fun Q E => ⟨[], rfl⟩
theorem m_is_between {i a b : Int} : Ret c_is_between [.int i, .int a, .int b] (.bl (decide (a ≤ i) && decide (i ≤ b))) := r_is_between rfl rfl fun Q E => ⟨[], by
  have h1 := fun μ Q E => m_is_integer (i := i) μ Q E
  unfold w_is_between
  simp only [wp0, wp1, lk_mref, lineBs, Nat.beq_refl, List.append_nil, List.length_cons, List.length_nil, Nat.zero_add, Nat.reduceAdd, List.getElem?_cons_zero, List.getElem?_cons_succ, List.set_cons_zero, List.set_cons_succ, Bool.not_true, Bool.not_false, *]
  cases decide (a ≤ i) <;> simp⟩
theorem m_is_garment {g : Gar} (h : GarOk g) : Ret c_is_garment [eG g] (.bl true) := r_is_garment rfl rfl fun Q E => ⟨[], by
  have h1 : isiD (eG g) (.ty .tup) = some (.bl true) := rfl
  have h2 : lenD (eG g) = some (.int 3) := rfl
  have h3 : ∀ μ, look μ (eG g) = eG g := fun _ => rfl
  have h4 : ixD (eG g) (.int 0) = some (.str g.n) := rfl
  have h5 : ixD (eG g) (.int 1) = some (.str g.d) := rfl
  have h6 : ixD (eG g) (.int 2) = some (.int g.t) := rfl
  have h7 := fun μ Q E => m_is_name h.n μ Q E
  have h8 := fun μ Q E => m_is_name h.d μ Q E
  have h9 := fun μ Q E => m_is_between (i := g.t) (a := 0) (b := 12) μ Q E
  have h10 : decide ((0 : Int) ≤ (g.t : Int)) = true := by
    rw [decide_eq_true_iff]
    omega
  have h11 : decide ((g.t : Int) ≤ 12) = true := by
    have := h.t
    rw [decide_eq_true_iff]
    omega
  have h12 : decide ((3 : Int) = 3) = true := rfl
  unfold w_is_garment
  simp only [wp0, wp1, lk_mref, lineBs, Nat.beq_refl, List.append_nil, List.length_cons, List.length_nil, Nat.zero_add, Nat.reduceAdd, List.getElem?_cons_zero, List.getElem?_cons_succ, List.set_cons_zero, List.set_cons_succ, Bool.not_true, Bool.not_false, *]
  rfl⟩
theorem m_names_in {G : List Gar} (h : G.length ≤ 8) : Ret c_names_in [.tup (G.map eG)] (.lst ((G.map (·.n)).map .str)) := by
  have n1 := noMs_G G
  have n2 := noMs_S (G.map (·.n))
  refine r_names_in (by simp only [noMs, noM, n1]) n2 fun Q E => ⟨[], ?_⟩
  have h1 : Nat.blt (G.map eG).length 16777216 = true := blt_ok (by rw [List.length_map]; omega)
  unfold w_names_in
  simp only [wp0, wp1, lk_mref, lineBs, Nat.beq_refl, List.append_nil, List.length_cons, List.length_nil, Nat.zero_add, Nat.reduceAdd, List.getElem?_cons_zero, List.getElem?_cons_succ, List.set_cons_zero, List.set_cons_succ, Bool.not_true, Bool.not_false, *]
  rw [lc_all (fun g => .str g.n)]
  · simp only [List.map_map]
    rfl
  · intro g hg
    refine ⟨_, rfl, fun Q E => ?_⟩
    have h2 : ∀ μ, look μ (eG g) = eG g := fun _ => rfl
    have h3 : ixD (eG g) (.int 0) = some (.str g.n) := rfl
    simp only [wp0, wp1, lk_mref, lineBs, Nat.beq_refl, List.append_nil, List.length_cons, List.length_nil, Nat.zero_add, Nat.reduceAdd, List.getElem?_cons_zero, List.getElem?_cons_succ, List.set_cons_zero, List.set_cons_succ, Bool.not_true, Bool.not_false, *]
end K58

namespace Bk
open Pk
theorem mergeD_new {α : Type} (f : α → Tx) (v : D) : ∀ (xs : List α) (acc : List (DK × D)), mergeD acc (xs.map fun a => (DK.ks (f a), v)) = xs.foldl (fun acc a => putE acc (.ks (f a)) v) acc
  | [], acc => rfl
  | x :: r, acc => by simp only [List.map_cons, mergeD, List.foldl_cons, mergeD_new f v r]
theorem hasK_keys {v : D} {s : Tx} : ∀ acc : List Tx, hasK (acc.map fun t => (DK.ks t, v)) (.ks s) = decide (s ∈ acc)
  | [] => by simp [hasK]
  | t :: r => by
    simp only [List.map_cons, hasK, eqDK, eqTx_dec, hasK_keys r]
    by_cases h : t = s
    · subst h
      simp
    · have h2 : ¬ s = t := fun e => h e.symm
      simp [h, h2]
theorem mapK_same {v : D} {s : Tx} : ∀ acc : List Tx, mapK (.ks s) v (acc.map fun t => (DK.ks t, v)) = acc.map fun t => (DK.ks t, v)
  | [] => rfl
  | t :: r => by
    simp only [List.map_cons, mapK, mapK_same r]
    cases eqDK (.ks t) (.ks s) <;> rfl
theorem putE_keys {v : D} {s : Tx} (acc : List Tx) : putE (acc.map fun t => (DK.ks t, v)) (.ks s) v = (if s ∈ acc then acc else acc ++ [s]).map fun t => (DK.ks t, v) := by
  unfold putE
  rw [hasK_keys]
  by_cases h : s ∈ acc
  · simp only [h, decide_true, if_true]
    exact mapK_same acc
  · simp only [h, decide_false, if_false, List.map_append, List.map_cons, List.map_nil]
theorem dict_dedup {v : D} : ∀ (xs acc : List Tx), mergeD (acc.map fun t => (DK.ks t, v)) (xs.map fun t => (DK.ks t, v)) = (dedupF acc xs).map fun t => (DK.ks t, v)
  | [], acc => rfl
  | x :: r, acc => by
    simp only [List.map_cons, mergeD, dedupF, putE_keys]
    split
    · exact dict_dedup r acc
    · exact dict_dedup r (acc ++ [x])
theorem keys_of {v : D} : ∀ xs : List Tx, keysD (xs.map fun t => (DK.ks t, v)) = xs.map D.str
  | [] => rfl
  | x :: r => by simp only [List.map_cons, keysD, keyD, keys_of r]
theorem pairsD_of {v : D} : ∀ xs : List Tx, pairsD (xs.map fun t => .tup [.str t, v]) = some (xs.map fun t => (DK.ks t, v))
  | [] => rfl
  | x :: r => by simp only [List.map_cons, pairsD, toK, pairsD_of r]
theorem dedupF_len : ∀ (xs acc : List Tx), (dedupF acc xs).length ≤ acc.length + xs.length
  | [], acc => by simp [dedupF]
  | x :: r, acc => by
    unfold dedupF
    split
    · have := dedupF_len r acc
      simp only [List.length_cons]
      omega
    · have := dedupF_len r (acc ++ [x])
      simp only [List.length_append, List.length_cons, List.length_nil] at this ⊢
      omega
theorem dedup_len (xs : List Tx) : (dedup xs).length ≤ xs.length := by
  have := dedupF_len xs []
  simp only [List.length_nil, Nat.zero_add] at this
  exact this
end Bk
namespace K58
open PySem PySem.Spec PyProof.Rows L2 Pk Bk
/-- a tuple or a list of garments -/
theorem dyes_core {G : List Gar} {d : D} (hs : seqD d = some (G.map eG)) (hd : ∀ μ, deepD 1 μ d = (d, μ)) (hm : noMs [d] = true) (h : G.length ≤ 100) : Ret c_dyes_in [d] (.lst ((dedup (G.map (·.d))).map .str)) := by
  refine r_dyes_in hm (noM_lS _) fun Q E => ⟨[], ?_⟩
  have h1 : Nat.blt (G.map eG).length 16777216 = true := blt_ok (by rw [List.length_map]; omega)
  have hd' : ∀ μ, deepD 1 μ d = (d, μ) := hd
  unfold w_dyes_in
  simp only [wp0, wp1, lk_mref, lineBs, Nat.beq_refl, List.append_nil, List.length_cons, List.length_nil, Nat.zero_add, Nat.reduceAdd, List.getElem?_cons_zero, List.getElem?_cons_succ, List.set_cons_zero, List.set_cons_succ, Bool.not_true, Bool.not_false, *]
  rw [lc_all (fun g => .tup [.str g.d, .bl true])]
  · have e : (G.map fun g => D.tup [.str g.d, .bl true]) = (G.map (·.d)).map fun t => .tup [.str t, .bl true] := by rw [List.map_map] <;> rfl
    rw [e, pairsD_of]
    have e2 := dict_dedup (v := .bl true) (G.map (·.d)) []
    simp only [List.map_nil] at e2
    simp only [e2]
    simp only [wp0, wp1, lk_mref, lineBs, Nat.beq_refl, List.append_nil, List.length_cons, List.length_nil, Nat.zero_add, Nat.reduceAdd, List.getElem?_cons_zero, List.getElem?_cons_succ, List.set_cons_zero, List.set_cons_succ, Bool.not_true, Bool.not_false, itemsOf, keys_of]
    rfl
  · intro g hg
    refine ⟨_, rfl, fun Q E => ?_⟩
    have h2 : ∀ μ, look μ (eG g) = eG g := fun _ => rfl
    have h3 : ixD (eG g) (.int 1) = some (.str g.d) := rfl
    simp only [wp0, wp1, lk_mref, lineBs, Nat.beq_refl, List.append_nil, List.length_cons, List.length_nil, Nat.zero_add, Nat.reduceAdd, List.getElem?_cons_zero, List.getElem?_cons_succ, List.set_cons_zero, List.set_cons_succ, Bool.not_true, Bool.not_false, *]
theorem m_dyes_tup {G : List Gar} (h : G.length ≤ 100) : Ret c_dyes_in [.tup (G.map eG)] (.lst ((dedup (G.map (·.d))).map .str)) :=
  dyes_core rfl (fun _ => rfl) (by simp only [noMs, noM, noMs_G]) h
theorem m_dyes_lst {G : List Gar} (h : G.length ≤ 100) : Ret c_dyes_in [.lst (G.map eG)] (.lst ((dedup (G.map (·.d))).map .str)) :=
  dyes_core rfl (fun _ => rfl) (by simp only [noMs, noM, noMs_G]) h
theorem m_check_garments {G : List Gar} (h : GarsOk G) : Ret c_check_garments [.tup (G.map eG)] .non := by
  refine r_check_garments (by simp only [noMs, noM, noMs_G]) rfl fun Q E => ⟨[], ?_⟩
  have h1 : isiD (.tup (G.map eG)) (.ty .tup) = some (.bl true) := rfl
  have h2 : decide ((G.length : Int) = 0) = false := by
    have := h.lo
    rw [decide_eq_false_iff_not]
    omega
  unfold w_check_garments
  simp only [wp0, wp1, lk_mref, lineBs, Nat.beq_refl, List.append_nil, List.length_cons, List.length_nil, Nat.zero_add, Nat.reduceAdd, List.getElem?_cons_zero, List.getElem?_cons_succ, List.set_cons_zero, List.set_cons_succ, Bool.not_true, Bool.not_false, h1, h2, List.length_map, enum_map]
  refine for_fold (fun _ _ => ()) (fun _ ρ μ => ∃ a b c, ρ = [some (.tup (G.map eG)), a, b, c] ∧ μ = []) (G.zipIdx 0) () _ _ ⟨none, none, none, rfl, rfl⟩ ?_ (fun ρ μ ⟨a, b, c, e1, e2⟩ => by subst e1 e2; rfl)
  rintro ⟨g, i⟩ _ ρ μ hg ⟨a, b, c, e1, e2⟩
  subst e1 e2
  have hm := List.mem_zipIdx hg
  simp only [Nat.zero_add, Nat.sub_zero] at hm
  obtain ⟨_, hi, eg⟩ := hm
  have hok := h.ok g (eg ▸ List.getElem_mem _)
  have hnew : ¬ g.n ∈ (G.take i).map (·.n) := by
    intro hm
    obtain ⟨g', hg', e⟩ := List.mem_map.mp hm
    obtain ⟨j, hj, ej⟩ := List.mem_take_iff_getElem.mp hg'
    have hj' : j < i := by omega
    have := List.nodup_iff_pairwise_ne.mp h.nd
    rw [List.pairwise_iff_getElem] at this
    refine this j i (by rw [List.length_map]; omega) (by rw [List.length_map]; exact hi) hj' ?_
    simp only [List.getElem_map, ej, ← eg]
    exact e
  clear eg hg
  refine ⟨_, rfl, [some (.tup (G.map eG)), some (.int i), some (eG g), c], [], ⟨_, _, _, rfl, rfl⟩, fun k => ?_⟩
  have h3 : decide (((i : Nat) : Int) = 8) = false := by
    have := h.hi
    rw [decide_eq_false_iff_not]
    omega
  have h4 := fun μ Q E => m_is_garment hok μ Q E
  have h5 : ∀ μ, look μ (eG g) = eG g := fun _ => rfl
  have h6 : ixD (eG g) (.int 0) = some (.str g.n) := rfl
  have h7 : slD (.tup (G.map eG)) none (some (i : Int)) = some (.tup ((G.take i).map eG)) := by
    rw [slD_tup, cut_take, List.map_take]
  have h8 : Nat.blt ((G.take i).map eG).length 16777216 = true := blt_ok (by have := h.hi; rw [List.length_map, List.length_take]; omega)
  simp only [wp0, wp1, lk_mref, lineBs, Nat.beq_refl, List.append_nil, List.length_cons, List.length_nil, Nat.zero_add, Nat.reduceAdd, List.getElem?_cons_zero, List.getElem?_cons_succ, List.set_cons_zero, List.set_cons_succ, Bool.not_true, Bool.not_false, *]
  rw [lc_all (fun g => .str g.n)]
  · have h9 : inD (.str g.n) (.lst (((G.take i).map (·.n)).map .str)) = some (.bl false) := by
      rw [in_strs hok.n.okc]
      · simp only [hnew, decide_false]
      · intro t ht
        obtain ⟨g', hg', e⟩ := List.mem_map.mp ht
        subst e
        exact (h.ok g' (List.mem_of_mem_take hg')).n.okc
    rw [List.map_map] at h9
    have h10 : (List.map (D.str ∘ fun x => x.n) (G.take i)) = (G.take i).map (fun g => D.str g.n) := rfl
    rw [h10] at h9
    simp only [wp0, wp1, lk_mref, lineBs, Nat.beq_refl, List.append_nil, List.length_cons, List.length_nil, Nat.zero_add, Nat.reduceAdd, List.getElem?_cons_zero, List.getElem?_cons_succ, List.set_cons_zero, List.set_cons_succ, Bool.not_true, Bool.not_false, *]
  · intro g hg
    refine ⟨_, rfl, fun Q E => ?_⟩
    have h2 : ∀ μ, look μ (eG g) = eG g := fun _ => rfl
    have h3 : ixD (eG g) (.int 0) = some (.str g.n) := rfl
    simp only [wp0, wp1, lk_mref, lineBs, Nat.beq_refl, List.append_nil, List.length_cons, List.length_nil, Nat.zero_add, Nat.reduceAdd, List.getElem?_cons_zero, List.getElem?_cons_succ, List.set_cons_zero, List.set_cons_succ, Bool.not_true, Bool.not_false, *]
end K58

namespace Bk
open Pk
/-! ### words, lines -/
abbrev tWash : Tx := [119, 97, 115, 104]
abbrev tRenew : Tx := [114, 101, 110, 101, 119]
abbrev tPlus : Tx := [43]
abbrev tAsk : Tx := [63]
/-- a deed of a book with these garments -/
structure WashOk (G : List Gar) (ks : List Nat) (s u : List Tx) : Prop where
  ne : ks ≠ []
  lt : ∀ k ∈ ks, k < G.length
  nd : ks.Nodup
  su : (s ++ u).Nodup
  ds : ∀ d ∈ s ++ u, ∃ k ∈ ks, gD G k = d
def LEok (G : List Gar) : LE → Prop
  | .wash ks s u => WashOk G ks s u
  | .renew k => k < G.length
/-- what stands behind the first word -/
def tailW (G : List Gar) (ks : List Nat) (s u : List Tx) : List Tx := ks.map (gN G) ++ (if s = [] then [] else tPlus :: s) ++ (if u = [] then [] else tAsk :: u)
def wordsOf (G : List Gar) : LE → List Tx
  | .wash ks s u => tWash :: tailW G ks s u
  | .renew k => [tRenew, gN G k]
def lineOf (G : List Gar) (e : LE) : Tx := TL.joinL [32] (wordsOf G e)
/-- the entry of a deed, as data -/
def eEnt (G : List Gar) : LE → D
  | .wash ks s u => .tup [.str tWash, .tup ((ks.map (gN G)).map .str), .tup ((looked G ks s u).map fun p => .tup [.str p.1, .bl p.2])]
  | .renew k => .tup [.str tRenew, .tup [.str (gN G k)], .tup []]
section
variable {G : List Gar} {k : Nat} {ks : List Nat} {s u : List Tx}
theorem gN_ok (h : GarsOk G) (hk : k < G.length) : NameOk (gN G k) := by
  unfold gN
  rw [List.getElem?_eq_getElem hk]
  exact (h.ok _ (List.getElem_mem hk)).n
theorem gD_ok (h : GarsOk G) (hk : k < G.length) : NameOk (gD G k) := by
  unfold gD
  rw [List.getElem?_eq_getElem hk]
  exact (h.ok _ (List.getElem_mem hk)).d
theorem gN_inj (h : GarsOk G) {i j : Nat} (hi : i < G.length) (hj : j < G.length) (e : gN G i = gN G j) : i = j := by
  have nd := h.nd
  have h1 : (G.map (·.n))[i]? = some (gN G i) := by
    unfold gN
    rw [List.getElem?_map, List.getElem?_eq_getElem hi] <;> rfl
  have h2 : (G.map (·.n))[j]? = some (gN G j) := by
    unfold gN
    rw [List.getElem?_map, List.getElem?_eq_getElem hj] <;> rfl
  rw [e] at h1
  exact (List.getElem?_inj (by rw [List.length_map]; exact hi) nd).mp (h1.trans h2.symm)
theorem gN_mem (hk : k < G.length) : gN G k ∈ G.map (·.n) := by
  unfold gN
  rw [List.getElem?_eq_getElem hk]
  exact List.mem_map.mpr ⟨_, List.getElem_mem hk, rfl⟩
theorem NameOk.ne32 {t : Tx} (h : NameOk t) : 32 ∉ t := fun q => by have := h.ab _ q; omega
theorem NameOk.ne43 {t : Tx} (h : NameOk t) : t ≠ tPlus := fun q => by subst q; have := h.ab 43 (by simp); omega
theorem NameOk.ne63 {t : Tx} (h : NameOk t) : t ≠ tAsk := fun q => by subst q; have := h.ab 63 (by simp); omega
theorem dyes_ok (h : GarsOk G) (w : WashOk G ks s u) {d : Tx} (hd : d ∈ s ++ u) : NameOk d := by
  obtain ⟨k, hk, e⟩ := w.ds d hd
  subst e
  exact gD_ok h (w.lt k hk)
theorem map_gN_nodup (h : GarsOk G) (hl : ∀ k ∈ ks, k < G.length) (nd : ks.Nodup) : (ks.map (gN G)).Nodup := by
  rw [List.nodup_iff_pairwise_ne, List.pairwise_map]
  rw [List.nodup_iff_pairwise_ne] at nd
  refine List.Pairwise.imp_of_mem ?_ nd
  intro a b ha hb hab e
  exact hab (gN_inj h (hl a ha) (hl b hb) e)
theorem idx_split {x : Tx} : ∀ {a b : List Tx}, x ∉ a → (a ++ x :: b).idxOf x = a.length
  | [], b, _ => by simp
  | y :: r, b, h => by
    have h1 : (y == x) = false := by
      simp only [List.mem_cons, not_or] at h
      simpa using fun e => h.1 e.symm
    have h2 : x ∉ r := fun q => h (List.mem_cons_of_mem _ q)
    rw [List.cons_append, List.idxOf_cons, h1, cond_false, idx_split h2, List.length_cons]
theorem idx_nodup : ∀ {ws : List Tx} {i : Nat} (hi : i < ws.length), ws.Nodup → ws.idxOf ws[i] = i
  | [], i, hi, _ => by simp at hi
  | y :: r, 0, _, _ => by simp
  | y :: r, i + 1, hi, nd => by
    have hi' : i < r.length := by simpa using hi
    have h1 : (y == r[i]) = false := by
      have := (List.nodup_cons.mp nd).1
      have h : y ≠ r[i] := fun e => this (e ▸ List.getElem_mem hi')
      simpa using h
    rw [List.idxOf_cons]
    simp only [List.getElem_cons_succ, h1, cond_false, idx_nodup hi' (List.nodup_cons.mp nd).2]
end
end Bk
namespace K58
open PySem PySem.Spec PyProof.Rows L2 Pk Bk
/-- the mark does not stand there -/
theorem m_parted_no {ws : List Tx} {x : Tx} (h : ∀ t ∈ ws, okc t = true) (hx : okc x = true) (hn : x ∉ ws) : Ret c_parted_at [.lst (ws.map .str), .str x] (.tup [.lst (ws.map .str), .non]) := by
  refine r_parted_at (by simp only [noMs, noM, noMs_S]) (by simp only [noMs, noM, noMs_S]) fun Q E => ⟨[], ?_⟩
  have h1 := nin_strs hx h
  simp only [hn, decide_false, Bool.not_false] at h1
  unfold w_parted_at
  simp only [wp0, wp1, lk_mref, lineBs, Nat.beq_refl, List.append_nil, List.length_cons, List.length_nil, Nat.zero_add, Nat.reduceAdd, List.getElem?_cons_zero, List.getElem?_cons_succ, List.set_cons_zero, List.set_cons_succ, Bool.not_true, Bool.not_false, *]
theorem m_parted {ws us : List Tx} {x : Tx} (h : ∀ t ∈ ws ++ x :: us, okc t = true) (hn : x ∉ ws) : Ret c_parted_at [.lst ((ws ++ x :: us).map .str), .str x] (.tup [.lst (ws.map .str), .lst (us.map .str)]) := by
  refine r_parted_at (by simp only [noMs, noM, noMs_S]) (by simp only [noMs, noM, noMs_S]) fun Q E => ⟨[], ?_⟩
  have hx : okc x = true := h x (by simp)
  have hm : x ∈ ws ++ x :: us := by simp
  have h1 := nin_strs hx h
  simp only [hm, decide_true, Bool.not_true] at h1
  have h2 := idx_strs 0 hm
  rw [idx_split hn, Nat.zero_add] at h2
  have h3 : pureD 60 (.lst ((ws ++ x :: us).map .str)) = true := by show pureDs 59 _ = true; exact pures_strs h
  have h4 : pureD 60 (.str x) = true := by rw [pure_str]; exact hx
  have h5 : isL (.lst ((ws ++ x :: us).map .str)) = true := rfl
  have h6 : slD (.lst ((ws ++ x :: us).map .str)) none (some (ws.length : Int)) = some (.lst (ws.map .str)) := by
    rw [slD_lst, cut_take]
    congr 2
    rw [← List.map_take, List.take_left']
    rfl
  have h7 : slD (.lst ((ws ++ x :: us).map .str)) (some ((ws.length : Int) + 1)) none = some (.lst (us.map .str)) := by
    have e : (ws.length : Int) + 1 = ((ws.length + 1 : Nat) : Int) := by omega
    rw [slD_lst, e, cut_drop]
    congr 2
    rw [← List.map_drop]
    have e2 : ws ++ x :: us = (ws ++ [x]) ++ us := by simp
    rw [e2, List.drop_left']
    simp
  unfold w_parted_at
  simp only [wp0, wp1, lk_mref, lineBs, Nat.beq_refl, List.append_nil, List.length_cons, List.length_nil, Nat.zero_add, Nat.reduceAdd, List.getElem?_cons_zero, List.getElem?_cons_succ, List.set_cons_zero, List.set_cons_succ, Bool.not_true, Bool.not_false, h1, h2, h3, h4, h5, h6, h7, idxF, Bool.and_self]
theorem m_are_different {ws : List Tx} (h : ∀ t ∈ ws, okc t = true) (nd : ws.Nodup) (hl : ws.length < 1000) : Ret c_are_different [.lst (ws.map .str)] (.bl true) := by
  refine r_are_different (by simp only [noMs, noM, noMs_S]) rfl fun Q E => ⟨[], ?_⟩
  have h1 : Nat.blt (((ws.zipIdx 0).map fun p => D.tup [.int (p.2 : Nat), .str p.1])).length 16777216 = true := blt_ok (by rw [List.length_map, List.length_zipIdx]; omega)
  have h5 : isL (.lst (ws.map .str)) = true := rfl
  have h3 : pureD 60 (.lst (ws.map .str)) = true := by show pureDs 59 _ = true; exact pures_strs h
  unfold w_are_different
  simp only [wp0, wp1, lk_mref, lineBs, Nat.beq_refl, List.append_nil, List.length_cons, List.length_nil, Nat.zero_add, Nat.reduceAdd, List.getElem?_cons_zero, List.getElem?_cons_succ, List.set_cons_zero, List.set_cons_succ, Bool.not_true, Bool.not_false, h1, enum_map]
  rw [lc_all (fun _ => .bl true)]
  · rw [all_map, all_tt]
  · rintro ⟨t, i⟩ hp
    have hm := List.mem_zipIdx hp
    simp only [Nat.zero_add, Nat.sub_zero] at hm
    obtain ⟨_, hi, et⟩ := hm
    have ht : t ∈ ws := et ▸ List.getElem_mem hi
    refine ⟨_, rfl, fun Q E => ?_⟩
    have h4 : pureD 60 (.str t) = true := by rw [pure_str]; exact h t ht
    have h2 := idx_strs 0 ht
    rw [Nat.zero_add] at h2
    have h6 : ws.idxOf t = i := by rw [et]; exact idx_nodup hi nd
    rw [h6] at h2
    have h7 : decide ((i : Int) = (i : Int)) = true := decide_eq_true rfl
    simp only [wp0, wp1, lk_mref, lineBs, Nat.beq_refl, List.append_nil, List.length_cons, List.length_nil, Nat.zero_add, Nat.reduceAdd, List.getElem?_cons_zero, List.getElem?_cons_succ, List.set_cons_zero, List.set_cons_succ, Bool.not_true, Bool.not_false, h2, h3, h4, h5, h7, idxF, Bool.and_self, decide_true]
end K58

namespace Bk
open Pk
/-- the dyes of the garments of a load -/
def hereD (G : List Gar) (ks : List Nat) : List Tx := dedup ((G.filter fun g => decide (g.n ∈ ks.map (gN G))).map (·.d))
theorem mem_here {G : List Gar} {ks : List Nat} (h : GarsOk G) (hl : ∀ k ∈ ks, k < G.length) {d : Tx} : d ∈ hereD G ks ↔ ∃ k ∈ ks, gD G k = d := by
  unfold hereD
  rw [mem_dedup, List.mem_map]
  constructor
  · rintro ⟨g, hg, e⟩
    rw [List.mem_filter] at hg
    obtain ⟨hg, hn⟩ := hg
    obtain ⟨k, hk, en⟩ := List.mem_map.mp (of_decide_eq_true hn)
    obtain ⟨j, hj, ej⟩ := List.getElem_of_mem hg
    have e2 : gN G j = g.n := by
      unfold gN
      rw [List.getElem?_eq_getElem hj, ej] <;> rfl
    have e3 := gN_inj h (hl k hk) hj (en.trans e2.symm)
    subst e3
    refine ⟨k, hk, ?_⟩
    unfold gD
    rw [List.getElem?_eq_getElem hj, ej]
    exact e
  · rintro ⟨k, hk, e⟩
    have hj := hl k hk
    refine ⟨G[k], ?_, ?_⟩
    · rw [List.mem_filter]
      refine ⟨List.getElem_mem hj, decide_eq_true ?_⟩
      refine List.mem_map.mpr ⟨k, hk, ?_⟩
      unfold gN
      rw [List.getElem?_eq_getElem hj] <;> rfl
    · unfold gD at e
      rw [List.getElem?_eq_getElem hj] at e
      exact e
theorem okc_hues {G : List Gar} (h : GarsOk G) : ∀ t ∈ hues G, okc t = true := by
  intro t ht
  unfold hues at ht
  rw [mem_dedup] at ht
  obtain ⟨g, hg, e⟩ := List.mem_map.mp ht
  subst e
  exact (h.ok g hg).d.okc
theorem looked_eq {G : List Gar} {ks : List Nat} (h : GarsOk G) (hl : ∀ k ∈ ks, k < G.length) (s u : List Tx) : ((hues G).filter fun d => decide (d ∈ hereD G ks) && !decide (d ∈ u)).map (fun d => (d, decide (d ∈ s))) = looked G ks s u := by
  unfold looked
  congr 1
  apply List.filter_congr
  intro d _
  congr 1
  exact decide_eq_decide.mpr (mem_here h hl)
end Bk
namespace K58
open PySem PySem.Spec PyProof.Rows L2 Pk Bk
section
variable {G : List Gar} {ks : List Nat} {s u : List Tx}
/-- or [] -/
def orD (s : List Tx) : D := match s with
  | [] => .non
  | _ => .lst (s.map .str)
theorem orD_tru (s : List Tx) : (truD (orD s) = some false ∧ s = []) ∨ (truD (orD s) = some true ∧ orD s = .lst (s.map .str)) := by
  cases s with
  | nil => exact .inl ⟨rfl, rfl⟩
  | cons a r => exact .inr ⟨rfl, rfl⟩
theorem look_or (s : List Tx) (μ : Sto) : look μ (orD s) = orD s := by cases s <;> rfl
/-- x or [] -/
theorem or_run {s : List Tx} {w : WE} {ρ : Slots} {μ : Sto} {Q : QD} {E : QX} (hw : ∀ Q E, w ρ μ Q E = Q (orD s) μ) : wOr w (wLst aNil) ρ μ Q E = Q (.lst (s.map .str)) μ := by
  unfold wOr
  rw [hw]
  simp only [look_or]
  rcases orD_tru s with ⟨e, e2⟩ | ⟨e, e2⟩
  · simp only [e]
    subst e2
    rfl
  · simp only [e]
    rw [e2]
theorem or_eq {s : List Tx} (h : ∀ t ∈ s, okc t = true) : eqqD (orD s) (.lst []) = some (.bl false) := by
  cases s with
  | nil => rfl
  | cons a r =>
    have := eq_strs (us := []) h (by simp)
    simp only [List.map_nil] at this
    show eqqD (.lst ((a :: r).map .str)) (.lst []) = _
    rw [this]
    rfl
theorem noM_or (s : List Tx) : noM (orD s) = true := by
  cases s with
  | nil => rfl
  | cons a r => exact noM_lS (a :: r)
theorem parts1 (h : GarsOk G) (w : WashOk G ks s u) : Ret c_parted_at [.lst ((tailW G ks s u).map .str), .str tAsk] (.tup [.lst ((ks.map (gN G) ++ (if s = [] then [] else tPlus :: s)).map .str), orD u]) := by
  have hn : ∀ t ∈ ks.map (gN G), NameOk t := fun t ht => by
    obtain ⟨k, hk, e⟩ := List.mem_map.mp ht
    subst e
    exact gN_ok h (w.lt k hk)
  have hs : ∀ t ∈ s, NameOk t := fun t ht => dyes_ok h w (List.mem_append_left _ ht)
  have hu : ∀ t ∈ u, NameOk t := fun t ht => dyes_ok h w (List.mem_append_right _ ht)
  have ha : ∀ t ∈ ks.map (gN G) ++ (if s = [] then [] else tPlus :: s), okc t = true ∧ t ≠ tAsk := fun t ht => by
    rcases List.mem_append.mp ht with q | q
    · exact ⟨(hn t q).okc, (hn t q).ne63⟩
    · split at q
      · cases q
      · rcases List.mem_cons.mp q with q | q
        · subst q
          exact ⟨rfl, by decide⟩
        · exact ⟨(hs t q).okc, (hs t q).ne63⟩
  have hq : tAsk ∉ ks.map (gN G) ++ (if s = [] then [] else tPlus :: s) := fun q => (ha _ q).2 rfl
  unfold tailW
  by_cases e : u = []
  · subst e
    simp only [if_true, List.append_nil]
    exact m_parted_no (fun t ht => (ha t ht).1) rfl hq
  · have e2 : orD u = .lst (u.map .str) := by
      cases u with
      | nil => exact absurd rfl e
      | cons a r => rfl
    rw [if_neg e, e2]
    refine m_parted (fun t ht => ?_) hq
    rcases List.mem_append.mp ht with q | q
    · exact (ha t q).1
    · rcases List.mem_cons.mp q with q | q
      · subst q
        rfl
      · exact (hu t q).okc
theorem parts2 (h : GarsOk G) (w : WashOk G ks s u) : Ret c_parted_at [.lst ((ks.map (gN G) ++ (if s = [] then [] else tPlus :: s)).map .str), .str tPlus] (.tup [.lst ((ks.map (gN G)).map .str), orD s]) := by
  have hn : ∀ t ∈ ks.map (gN G), NameOk t := fun t ht => by
    obtain ⟨k, hk, e⟩ := List.mem_map.mp ht
    subst e
    exact gN_ok h (w.lt k hk)
  have hs : ∀ t ∈ s, NameOk t := fun t ht => dyes_ok h w (List.mem_append_left _ ht)
  have hq : tPlus ∉ ks.map (gN G) := fun q => (hn _ q).ne43 rfl
  by_cases e : s = []
  · subst e
    simp only [if_true, List.append_nil]
    exact m_parted_no (fun t ht => (hn t ht).okc) rfl hq
  · have e2 : orD s = .lst (s.map .str) := by
      cases s with
      | nil => exact absurd rfl e
      | cons a r => rfl
    rw [if_neg e, e2]
    refine m_parted (fun t ht => ?_) hq
    rcases List.mem_append.mp ht with q | q
    · exact (hn t q).okc
    · rcases List.mem_cons.mp q with q | q
      · subst q
        rfl
      · exact (hs t q).okc
theorem nodup_len {xs : List Nat} {n : Nat} (nd : xs.Nodup) (h : ∀ x ∈ xs, x < n) : xs.length ≤ n := by
  have := List.Nodup.length_le_of_subset nd (l₂ := List.range n) fun x hx => by
    rw [List.mem_range]
    exact h x hx
  simpa using this
theorem m_wash_in (h : GarsOk G) (w : WashOk G ks s u) : Ret c_wash_in [.tup (G.map eG), .lst ((tailW G ks s u).map .str)] (eEnt G (.wash ks s u)) := by
  have n1 : noMs ((looked G ks s u).map fun p => D.tup [.str p.1, .bl p.2]) = true := noMs_map (fun _ => rfl) _
  refine r_wash_in (by simp only [noMs, noM, noMs_S, noMs_G]) (by simp only [eEnt, noM, noMs, noMs_S, n1]) fun Q E => ⟨[], ?_⟩
  have hn : ∀ t ∈ ks.map (gN G), NameOk t := fun t ht => by
    obtain ⟨k, hk, e⟩ := List.mem_map.mp ht
    subst e
    exact gN_ok h (w.lt k hk)
  have hn' : ∀ t ∈ ks.map (gN G), okc t = true := fun t ht => (hn t ht).okc
  have hs : ∀ t ∈ s, okc t = true := fun t ht => (dyes_ok h w (List.mem_append_left _ ht)).okc
  have hu : ∀ t ∈ u, okc t = true := fun t ht => (dyes_ok h w (List.mem_append_right _ ht)).okc
  have hsu : ∀ t ∈ s ++ u, okc t = true := fun t ht => (dyes_ok h w ht).okc
  have lks : ks.length ≤ 8 := Nat.le_trans (nodup_len w.nd w.lt) h.hi
  have lsu : (s ++ u).length ≤ 8 := by
    have h1 := List.Nodup.length_le_of_subset w.su (l₂ := hues G) fun d hd => by
      obtain ⟨k, hk, e⟩ := w.ds d hd
      unfold hues
      rw [mem_dedup]
      have hj := w.lt k hk
      unfold gD at e
      rw [List.getElem?_eq_getElem hj] at e
      exact List.mem_map.mpr ⟨_, List.getElem_mem hj, e⟩
    have h2 := dedup_len (G.map (·.d))
    rw [List.length_map] at h2
    have h3 := h.hi
    unfold hues at h1
    omega
  have p1 := fun μ Q E => parts1 h w μ Q E
  have p2 := fun μ Q E => parts2 h w μ Q E
  have c1 : ∀ μ Q E, c_dyes_in [.tup (G.map eG)] μ Q E = Q (.lst ((hues G).map .str)) μ := fun μ Q E => m_dyes_tup (G := G) (by have := h.hi; omega) μ Q E
  have c2 : ∀ μ Q E, c_dyes_in [.lst ((G.filter fun g => decide (g.n ∈ ks.map (gN G))).map eG)] μ Q E = Q (.lst ((hereD G ks).map .str)) μ := fun μ Q E => m_dyes_lst (G := G.filter fun g => decide (g.n ∈ ks.map (gN G))) (by have := h.hi; have := List.length_filter_le (fun g => decide (g.n ∈ ks.map (gN G))) G; omega) μ Q E
  have c3 := fun μ Q E => m_are_different hn' (map_gN_nodup h w.lt w.nd) (by rw [List.length_map]; omega) μ Q E
  have c4 := fun μ Q E => m_are_different hsu w.su (by omega) μ Q E
  have c5 := fun μ Q E => m_names_in (G := G) h.hi μ Q E
  have b1 : Nat.blt (G.map eG).length 16777216 = true := blt_ok (by have := h.hi; rw [List.length_map]; omega)
  have b2 : Nat.blt (((ks.map (gN G)).map D.str)).length 16777216 = true := blt_ok (by rw [List.length_map, List.length_map]; omega)
  have b3 : Nat.blt (((s ++ u).map D.str)).length 16777216 = true := blt_ok (by rw [List.length_map]; omega)
  have b4 : Nat.blt (((hues G).map D.str)).length 16777216 = true := blt_ok (by
    have h2 := dedup_len (G.map (·.d))
    rw [List.length_map] at h2
    have h3 := h.hi
    rw [List.length_map]
    unfold hues
    omega)
  have d1 : addD (.lst (s.map .str)) (.lst (u.map .str)) = some (.lst ((s ++ u).map .str)) := by
    simp only [addD, lineB_ok (show (s.map D.str).length + (u.map D.str).length ≤ 16777216 by rw [List.length_map, List.length_map]; rw [List.length_append] at lsu; omega), List.map_append]
  have e1 : eqqD (.lst ((ks.map (gN G)).map .str)) (.lst []) = some (.bl false) := by
    have := eq_strs (us := []) hn' (by simp)
    simp only [List.map_nil] at this
    rw [this]
    have : ks.map (gN G) ≠ [] := fun q => w.ne (List.map_eq_nil_iff.mp q)
    simp [this]
  have o1 := or_eq hs
  have o2 := or_eq hu
  have hh : ∀ t ∈ hereD G ks, okc t = true := fun t ht => by
    obtain ⟨k, hk, e⟩ := (mem_here h w.lt).mp ht
    subst e
    exact (gD_ok h (w.lt k hk)).okc
  unfold w_wash_in
  simp only [wp0, wp1, lk_mref, lineBs, Nat.beq_refl, List.append_nil, List.length_cons, List.length_nil, Nat.zero_add, Nat.reduceAdd, List.getElem?_cons_zero, List.getElem?_cons_succ, List.set_cons_zero, List.set_cons_succ, Bool.not_true, Bool.not_false, p1]
  simp only [wp0, wp1, lk_mref, lineBs, Nat.beq_refl, List.append_nil, List.length_cons, List.length_nil, Nat.zero_add, Nat.reduceAdd, List.getElem?_cons_zero, List.getElem?_cons_succ, List.set_cons_zero, List.set_cons_succ, Bool.not_true, Bool.not_false, p2]
  rw [or_run (s := s) (fun Q E => rfl)]
  rw [or_run (s := u) (fun Q E => rfl)]
  simp only [wp0, wp1, lk_mref, lineBs, Nat.beq_refl, List.append_nil, List.length_cons, List.length_nil, Nat.zero_add, Nat.reduceAdd, List.getElem?_cons_zero, List.getElem?_cons_succ, List.set_cons_zero, List.set_cons_succ, Bool.not_true, Bool.not_false, d1, b1]
  rw [lc_map (fun g => decide (g.n ∈ ks.map (gN G))) eG]
  · simp only [wp0, wp1, lk_mref, lineBs, Nat.beq_refl, List.append_nil, List.length_cons, List.length_nil, Nat.zero_add, Nat.reduceAdd, List.getElem?_cons_zero, List.getElem?_cons_succ, List.set_cons_zero, List.set_cons_succ, Bool.not_true, Bool.not_false, c2, c3, c4, e1, o1, o2, look_or, b2]
    rw [lc_all (fun _ => .bl true)]
    · simp only [wp0, wp1, lk_mref, lineBs, Nat.beq_refl, List.append_nil, List.length_cons, List.length_nil, Nat.zero_add, Nat.reduceAdd, List.getElem?_cons_zero, List.getElem?_cons_succ, List.set_cons_zero, List.set_cons_succ, Bool.not_true, Bool.not_false, all_map, all_tt, b3]
      rw [lc_all (fun _ => .bl true)]
      · simp only [wp0, wp1, lk_mref, lineBs, Nat.beq_refl, List.append_nil, List.length_cons, List.length_nil, Nat.zero_add, Nat.reduceAdd, List.getElem?_cons_zero, List.getElem?_cons_succ, List.set_cons_zero, List.set_cons_succ, Bool.not_true, Bool.not_false, all_map, all_tt, c1, b4]
        rw [lc_map (fun d => decide (d ∈ hereD G ks) && !decide (d ∈ u)) D.str]
        · have b5 : Nat.blt ((((hues G).filter fun d => decide (d ∈ hereD G ks) && !decide (d ∈ u)).map D.str)).length 16777216 = true := blt_ok (by
            have h2 := dedup_len (G.map (·.d))
            have h4 := List.length_filter_le (fun d => decide (d ∈ hereD G ks) && !decide (d ∈ u)) (hues G)
            rw [List.length_map] at h2
            have h3 := h.hi
            rw [List.length_map]
            unfold hues at h4 ⊢
            omega)
          simp only [wp0, wp1, lk_mref, lineBs, Nat.beq_refl, List.append_nil, List.length_cons, List.length_nil, Nat.zero_add, Nat.reduceAdd, List.getElem?_cons_zero, List.getElem?_cons_succ, List.set_cons_zero, List.set_cons_succ, Bool.not_true, Bool.not_false, b5]
          rw [lc_all (fun d => .tup [.str d, .bl (decide (d ∈ s))])]
          · have := looked_eq h w.lt s u
            have e9 : (looked G ks s u).map (fun p => D.tup [.str p.1, .bl p.2]) = ((hues G).filter fun d => decide (d ∈ hereD G ks) && !decide (d ∈ u)).map (fun d => .tup [.str d, .bl (decide (d ∈ s))]) := by
              rw [← this, List.map_map]
              rfl
            simp only [eEnt, e9]
          · intro d hd
            refine ⟨_, rfl, fun Q E => ?_⟩
            have hd2 := okc_hues h d (List.mem_filter.mp hd).1
            have i1 := in_strs hd2 hs
            simp only [wp0, wp1, lk_mref, lineBs, Nat.beq_refl, List.append_nil, List.length_cons, List.length_nil, Nat.zero_add, Nat.reduceAdd, List.getElem?_cons_zero, List.getElem?_cons_succ, List.set_cons_zero, List.set_cons_succ, Bool.not_true, Bool.not_false, *]
            rw [or_run (s := s) (fun Q E => rfl)]
            simp only [wp0, wp1, lk_mref, lineBs, Nat.beq_refl, List.append_nil, List.length_cons, List.length_nil, Nat.zero_add, Nat.reduceAdd, List.getElem?_cons_zero, List.getElem?_cons_succ, List.set_cons_zero, List.set_cons_succ, Bool.not_true, Bool.not_false, *]
        · intro d hd
          have hd2 := okc_hues h d hd
          have i1 := in_strs hd2 hh
          have i2 := nin_strs hd2 hu
          refine ⟨_, rfl, fun Q E => ?_, fun _ Q E => ?_⟩
          · simp only [wp0, wp1, lk_mref, lineBs, Nat.beq_refl, List.append_nil, List.length_cons, List.length_nil, Nat.zero_add, Nat.reduceAdd, List.getElem?_cons_zero, List.getElem?_cons_succ, List.set_cons_zero, List.set_cons_succ, Bool.not_true, Bool.not_false, *]
            cases decide (d ∈ hereD G ks)
            · rfl
            · simp only []
              rw [or_run (s := u) (fun Q E => rfl)]
              simp only [wp0, wp1, lk_mref, lineBs, Nat.beq_refl, List.append_nil, List.length_cons, List.length_nil, Nat.zero_add, Nat.reduceAdd, List.getElem?_cons_zero, List.getElem?_cons_succ, List.set_cons_zero, List.set_cons_succ, Bool.not_true, Bool.not_false, *]
              rfl
          · simp only [wp0, wp1, lk_mref, lineBs, Nat.beq_refl, List.append_nil, List.length_cons, List.length_nil, Nat.zero_add, Nat.reduceAdd, List.getElem?_cons_zero, List.getElem?_cons_succ, List.set_cons_zero, List.set_cons_succ, Bool.not_true, Bool.not_false, *]
      · intro d hd
        have i1 := in_strs (hsu d hd) hh
        have i3 : decide (d ∈ hereD G ks) = true := decide_eq_true ((mem_here h w.lt).mpr (w.ds d hd))
        refine ⟨_, rfl, fun Q E => ?_⟩
        simp only [wp0, wp1, lk_mref, lineBs, Nat.beq_refl, List.append_nil, List.length_cons, List.length_nil, Nat.zero_add, Nat.reduceAdd, List.getElem?_cons_zero, List.getElem?_cons_succ, List.set_cons_zero, List.set_cons_succ, Bool.not_true, Bool.not_false, *]
    · intro t ht
      have okG : ∀ t ∈ G.map (·.n), okc t = true := fun t ht => by
        obtain ⟨g, hg, e⟩ := List.mem_map.mp ht
        subst e
        exact (h.ok g hg).n.okc
      have i1 := in_strs (hn' t ht) okG
      have i3 : decide (t ∈ G.map (·.n)) = true := decide_eq_true (by
        obtain ⟨k, hk, e⟩ := List.mem_map.mp ht
        subst e
        exact gN_mem (w.lt k hk))
      refine ⟨_, rfl, fun Q E => ?_⟩
      simp only [wp0, wp1, lk_mref, lineBs, Nat.beq_refl, List.append_nil, List.length_cons, List.length_nil, Nat.zero_add, Nat.reduceAdd, List.getElem?_cons_zero, List.getElem?_cons_succ, List.set_cons_zero, List.set_cons_succ, Bool.not_true, Bool.not_false, *]
  · intro g hg
    have i1 := in_strs (h.ok g hg).n.okc hn'
    have h2 : ∀ μ, look μ (eG g) = eG g := fun _ => rfl
    have h3 : ixD (eG g) (.int 0) = some (.str g.n) := rfl
    refine ⟨_, rfl, fun Q E => ?_, fun _ Q E => ?_⟩
    · simp only [wp0, wp1, lk_mref, lineBs, Nat.beq_refl, List.append_nil, List.length_cons, List.length_nil, Nat.zero_add, Nat.reduceAdd, List.getElem?_cons_zero, List.getElem?_cons_succ, List.set_cons_zero, List.set_cons_succ, Bool.not_true, Bool.not_false, *]
    · simp only [wp0, wp1, lk_mref, lineBs, Nat.beq_refl, List.append_nil, List.length_cons, List.length_nil, Nat.zero_add, Nat.reduceAdd, List.getElem?_cons_zero, List.getElem?_cons_succ, List.set_cons_zero, List.set_cons_succ, Bool.not_true, Bool.not_false, *]
end
end K58

namespace Bk
open Pk
theorem join_len : ∀ (ws : List Tx), (∀ t ∈ ws, t.length ≤ 9) → (TL.joinL [32] ws).length ≤ 10 * ws.length
  | [], _ => by simp [TL.joinL]
  | [x], h => by
    have := h x (by simp)
    simp [TL.joinL]
    omega
  | x :: y :: r, h => by
    have h1 := h x (by simp)
    have h2 := join_len (y :: r) fun t ht => h t (List.mem_cons_of_mem _ ht)
    simp only [TL.joinL, List.length_append, List.length_cons, List.length_nil] at h2 ⊢
    omega
theorem words_ok {G : List Gar} (h : GarsOk G) {e : LE} (he : LEok G e) : (∀ t ∈ wordsOf G e, t.length ≤ 9 ∧ 32 ∉ t ∧ okc t = true) ∧ wordsOf G e ≠ [] ∧ (wordsOf G e).length ≤ 30 := by
  have base : ∀ {t : Tx}, NameOk t → t.length ≤ 9 ∧ 32 ∉ t ∧ okc t = true := fun q => ⟨by have := q.hi; omega, q.ne32, q.okc⟩
  cases e with
  | renew k =>
    refine ⟨fun t ht => ?_, by simp [wordsOf], by simp [wordsOf]⟩
    simp only [wordsOf, List.mem_cons, List.not_mem_nil, or_false] at ht
    rcases ht with q | q
    · subst q
      exact ⟨by decide, by decide, rfl⟩
    · subst q
      exact base (gN_ok h he)
  | wash ks s u =>
    have w : WashOk G ks s u := he
    have l1 : ks.length ≤ 8 := by
      have := List.Nodup.length_le_of_subset w.nd (l₂ := List.range G.length) fun x hx => by rw [List.mem_range]; exact w.lt x hx
      have h2 := h.hi
      rw [List.length_range] at this
      omega
    have l2 : (s ++ u).length ≤ 8 := by
      have h1 := List.Nodup.length_le_of_subset w.su (l₂ := G.map (·.d)) fun d hd => by
        obtain ⟨k, hk, e⟩ := w.ds d hd
        have hj := w.lt k hk
        unfold gD at e
        rw [List.getElem?_eq_getElem hj] at e
        exact List.mem_map.mpr ⟨_, List.getElem_mem hj, e⟩
      have h3 := h.hi
      rw [List.length_map] at h1
      omega
    refine ⟨fun t ht => ?_, by simp [wordsOf], ?_⟩
    · simp only [wordsOf, tailW, List.mem_cons, List.mem_append] at ht
      rcases ht with q | (q | q) | q
      · subst q
        exact ⟨by decide, by decide, rfl⟩
      · obtain ⟨k, hk, e⟩ := List.mem_map.mp q
        subst e
        exact base (gN_ok h (w.lt k hk))
      · split at q
        · cases q
        · rcases List.mem_cons.mp q with q | q
          · subst q
            exact ⟨by decide, by decide, rfl⟩
          · exact base (dyes_ok h w (List.mem_append_left _ q))
      · split at q
        · cases q
        · rcases List.mem_cons.mp q with q | q
          · subst q
            exact ⟨by decide, by decide, rfl⟩
          · exact base (dyes_ok h w (List.mem_append_right _ q))
    · rw [List.length_append] at l2
      simp only [wordsOf, tailW, List.length_cons, List.length_append, List.length_map]
      have : (if s = [] then ([] : List Tx) else tPlus :: s).length ≤ s.length + 1 := by split <;> simp
      have : (if u = [] then ([] : List Tx) else tAsk :: u).length ≤ u.length + 1 := by split <;> simp
      omega
theorem line_split {G : List Gar} (h : GarsOk G) {e : LE} (he : LEok G e) : TL.spl [32] 0 [] (lineOf G e) = wordsOf G e := by
  obtain ⟨h1, h2, h3⟩ := words_ok h he
  exact TL.spl_join h2 fun p hp => (h1 p hp).2.1
theorem line_len {G : List Gar} (h : GarsOk G) {e : LE} (he : LEok G e) : (lineOf G e).length ≤ 300 := by
  obtain ⟨h1, h2, h3⟩ := words_ok h he
  have := join_len (wordsOf G e) fun t ht => (h1 t ht).1
  unfold lineOf
  omega
theorem noM_eEnt {G : List Gar} (e : LE) : noM (eEnt G e) = true := by
  cases e with
  | renew k => rfl
  | wash ks s u =>
    have n1 : noMs ((looked G ks s u).map fun p => D.tup [.str p.1, .bl p.2]) = true := noMs_map (fun _ => rfl) _
    simp only [eEnt, noM, noMs, noMs_S, n1]
end Bk
namespace K58
open PySem PySem.Spec PyProof.Rows L2 Pk Bk
theorem m_entry_in {G : List Gar} (h : GarsOk G) {e : LE} (he : LEok G e) : Ret c_entry_in [.tup (G.map eG), .str (lineOf G e)] (eEnt G e) := by
  refine r_entry_in (by simp only [noMs, noM, noMs_G]) (noM_eEnt e) fun Q E => ⟨[], ?_⟩
  obtain ⟨wo1, wo2, wo3⟩ := words_ok h he
  have h1 : isiD (.str (lineOf G e)) (.ty .str) = some (.bl true) := rfl
  have h2 : isS (.str (lineOf G e)) = true := rfl
  have h3 : Nat.ble (lineOf G e).length 16777000 = true := Nat.ble_eq_true_of_le (by have := line_len h he; omega)
  have h4 := line_split h he
  have h5 : splF false (.str (lineOf G e)) [.str [32]] [] = fun Q => Q (.lst ((wordsOf G e).map .str)) [] := by
    funext Q
    simp only [splF, h3, h4]
    rfl
  unfold w_entry_in
  cases e with
  | wash ks s u =>
    have w : WashOk G ks s u := he
    have c1 := fun μ Q E => m_wash_in h w μ Q E
    have i1 : eqqD (.str [119, 97, 115, 104]) (.str [119, 97, 115, 104]) = some (.bl true) := rfl
    have s1 : slD (.lst (D.str tWash :: (tailW G ks s u).map .str)) (some 1) none = some (.lst ((tailW G ks s u).map .str)) := by
      have := cut_drop (D.str tWash :: (tailW G ks s u).map .str) 1
      rw [slD_lst]
      have e1 : ((1 : Nat) : Int) = 1 := rfl
      rw [e1] at this
      rw [this]
      rfl
    simp only [wp0, wp1, lk_mref, lineBs, Nat.beq_refl, List.append_nil, List.length_cons, List.length_nil, Nat.zero_add, Nat.reduceAdd, List.getElem?_cons_zero, List.getElem?_cons_succ, List.set_cons_zero, List.set_cons_succ, Bool.not_true, Bool.not_false, h1, h2, h5, Bk.wordsOf, List.map_cons, i1, s1, c1]
  | renew k =>
    have hk : k < G.length := he
    have i1 : eqqD (.str [114, 101, 110, 101, 119]) (.str [119, 97, 115, 104]) = some (.bl false) := rfl
    have i2 : eqqD (.str [114, 101, 110, 101, 119]) (.str [114, 101, 110, 101, 119]) = some (.bl true) := rfl
    have c5 := fun μ Q E => m_names_in (G := G) h.hi μ Q E
    have okG : ∀ t ∈ G.map (·.n), okc t = true := fun t ht => by
      obtain ⟨g, hg, e⟩ := List.mem_map.mp ht
      subst e
      exact (h.ok g hg).n.okc
    have i3 := in_strs (gN_ok h hk).okc okG
    simp only [gN_mem hk, decide_true] at i3
    simp only [wp0, wp1, lk_mref, lineBs, Nat.beq_refl, List.append_nil, List.length_cons, List.length_nil, Nat.zero_add, Nat.reduceAdd, List.getElem?_cons_zero, List.getElem?_cons_succ, List.set_cons_zero, List.set_cons_succ, Bool.not_true, Bool.not_false, h1, h2, h5, Bk.wordsOf, List.map_cons, List.map_nil, i1, i2, i3, c5]
    rfl
theorem m_check_lines {G : List Gar} (h : GarsOk G) {E0 : List LE} (he : ∀ e ∈ E0, LEok G e) (hl : E0.length ≤ 30) : Ret c_check_lines [.tup (G.map eG), .tup ((E0.map (lineOf G)).map .str)] .non := by
  refine r_check_lines (by simp only [noMs, noM, noMs_G, noMs_S]) rfl fun Q E => ⟨[], ?_⟩
  have h1 : isiD (.tup ((E0.map (lineOf G)).map .str)) (.ty .tup) = some (.bl true) := rfl
  have e1 : (E0.map (lineOf G)).map D.str = E0.map fun e => .str (lineOf G e) := by rw [List.map_map] <;> rfl
  rw [e1] at h1 ⊢
  unfold w_check_lines
  simp only [wp0, wp1, lk_mref, lineBs, Nat.beq_refl, List.append_nil, List.length_cons, List.length_nil, Nat.zero_add, Nat.reduceAdd, List.getElem?_cons_zero, List.getElem?_cons_succ, List.set_cons_zero, List.set_cons_succ, Bool.not_true, Bool.not_false, h1, enum_map]
  refine for_fold (fun _ _ => ()) (fun _ ρ μ => ∃ a b, ρ = [some (.tup (G.map eG)), some (.tup (E0.map fun e => .str (lineOf G e))), a, b] ∧ μ = []) (E0.zipIdx 0) () _ _ ⟨none, none, rfl, rfl⟩ ?_ (fun ρ μ ⟨a, b, e1, e2⟩ => by subst e1 e2; rfl)
  rintro ⟨g, i⟩ _ ρ μ hg ⟨a, b, e1, e2⟩
  subst e1 e2
  have hm := List.mem_zipIdx hg
  simp only [Nat.zero_add, Nat.sub_zero] at hm
  obtain ⟨_, hi, eg⟩ := hm
  have hok := he g (eg ▸ List.getElem_mem _)
  clear eg hg
  refine ⟨_, rfl, [some (.tup (G.map eG)), some (.tup (E0.map fun e => .str (lineOf G e))), some (.int i), some (.str (lineOf G g))], [], ⟨_, _, rfl, rfl⟩, fun k => ?_⟩
  have h3 : decide (((i : Nat) : Int) = 30) = false := by
    rw [decide_eq_false_iff_not]
    omega
  have c1 := fun μ Q E => m_entry_in h hok μ Q E
  have h4 : ∀ μ, look μ (eEnt G g) = eEnt G g := fun _ => by cases g <;> rfl
  have h5 : isD (eEnt G g) .non = some (.bl false) := by cases g <;> rfl
  simp only [wp0, wp1, lk_mref, lineBs, Nat.beq_refl, List.append_nil, List.length_cons, List.length_nil, Nat.zero_add, Nat.reduceAdd, List.getElem?_cons_zero, List.getElem?_cons_succ, List.set_cons_zero, List.set_cons_succ, Bool.not_true, Bool.not_false, h3, c1, h4, h5]
end K58

namespace Bk
open Pk
/-- one more at a place -/
def bump (t : List Nat) (l : Nat) : List Nat := t.set l ((t[l]?).getD 0 + 1)
theorem bump_row {N : List Nat} {f : Nat → Nat → Nat} {k j n : Nat} (h : N[k]? = some n) (hj : j < n) : bump (row N f) (base N k + j) = row N fun k' j' => if k' = k ∧ j' = j then f k j + 1 else f k' j' := by
  unfold bump
  rw [row_get h hj]
  refine row_set h hj (by simp) fun k' j' hh => ?_
  rw [if_neg]
  rintro ⟨a, b⟩
  exact hh a b
theorem bump_rows {N : List Nat} {b : Nat → Nat} : ∀ (ps : List Nat) (f : Nat → Nat → Nat), (∀ k ∈ ps, ∃ n, N[k]? = some n ∧ b k < n) → ps.Nodup →
    (ps.map fun k => base N k + b k).foldl bump (row N f) = row N fun k j => if k ∈ ps ∧ j = b k then f k j + 1 else f k j
  | [], f, _, _ => by simp
  | k :: r, f, h, nd => by
    obtain ⟨n, h1, h2⟩ := h k (by simp)
    have ⟨nk, nr⟩ := List.nodup_cons.mp nd
    rw [List.map_cons, List.foldl_cons, bump_row h1 h2, bump_rows r _ (fun k hk => h k (List.mem_cons_of_mem _ hk)) nr]
    apply row_congr
    intro k' j' n' _ _
    by_cases e : k' = k
    · subst e
      by_cases e2 : j' = b k'
      · subst e2
        simp [nk]
      · simp [nk, e2]
    · simp [e]
theorem tally_wash {G : List Gar} {E pre rest : List LE} {ks : List Nat} {s u : List Tx} (hE : E = pre ++ .wash ks s u :: rest) : ((prs G E pre ks).map (·.1)).foldl bump (tallies G E pre) = tallies G E (pre ++ [.wash ks s u]) := by
  have hb : ∀ k, beg pre k ≤ beg E k := fun k => by rw [hE]; exact beg_le _ _ _
  unfold prs tallies
  rw [List.map_map]
  have := bump_rows (N := lv G E) (b := beg pre) (plc G ks) (fun k j => cnt pre k j) (fun k hk => by
    have hk := (mem_plc.mp hk).1
    exact ⟨_, lv_at hk, by have := hb k; omega⟩) (nodup_plc G ks)
  refine Eq.trans ?_ (this.trans ?_)
  · rfl
  · apply row_congr
    intro k j n hk hj
    have hkl : k < G.length := by
      have := (List.getElem?_eq_some_iff.mp hk).1
      rw [lv_len] at this
      exact this
    rw [cnt_wash]
    by_cases q : k ∈ ks
    · have : k ∈ plc G ks := mem_plc.mpr ⟨hkl, q⟩
      by_cases e : j = beg pre k
      · simp [this, q, e]
      · simp [this, q, e]
    · have : ¬ k ∈ plc G ks := fun z => q (mem_plc.mp z).2
      simp [this, q]
theorem tally_renew {G : List Gar} {E pre : List LE} {k : Nat} : tallies G E (pre ++ [.renew k]) = tallies G E pre := by
  unfold tallies
  apply row_congr
  intro k' j n _ _
  exact cnt_renew _ _ _ _
/-- the pairs' numbers stand in the tallies behind -/
theorem tally_at {G : List Gar} {E pre rest : List LE} {ks : List Nat} {s u : List Tx} (hE : E = pre ++ .wash ks s u :: rest) {p : Nat × Nat} (hp : p ∈ prs G E pre ks) : (tallies G E (pre ++ [.wash ks s u]))[p.1]? = some p.2 := by
  unfold prs at hp
  obtain ⟨k, hk, e⟩ := List.mem_map.mp hp
  subst e
  obtain ⟨hkl, hks⟩ := mem_plc.mp hk
  have hb : beg pre k ≤ beg E k := by rw [hE]; exact beg_le _ _ _
  unfold tallies
  rw [row_get (lv_at hkl) (by omega), cnt_wash]
  simp [hks]
theorem owner_at {G : List Gar} {E pre rest : List LE} {ks : List Nat} (hb : ∀ k, beg pre k ≤ beg E k) {p : Nat × Nat} (hp : p ∈ prs G E pre ks) : ∃ k, (owners G E)[p.1]? = some k ∧ k < G.length ∧ k ∈ ks ∧ p = (base (lv G E) k + beg pre k, cnt pre k (beg pre k) + 1) := by
  unfold prs at hp
  obtain ⟨k, hk, e⟩ := List.mem_map.mp hp
  obtain ⟨hkl, hks⟩ := mem_plc.mp hk
  refine ⟨k, ?_, hkl, hks, e.symm⟩
  subst e
  unfold owners
  exact row_get (lv_at hkl) (by have := hb k; omega)
theorem tallies_len {G : List Gar} {E pre : List LE} : (tallies G E pre).length = base (lv G E) G.length := by
  unfold tallies
  rw [row_len, lv_len]
theorem life_lt {G : List Gar} {E pre : List LE} {ks : List Nat} (hb : ∀ k, beg pre k ≤ beg E k) {p : Nat × Nat} (hp : p ∈ prs G E pre ks) : p.1 < base (lv G E) G.length := by
  unfold prs at hp
  obtain ⟨k, hk, e⟩ := List.mem_map.mp hp
  obtain ⟨hkl, hks⟩ := mem_plc.mp hk
  subst e
  have := base_lt (N := lv G E) (k := k) (j := beg pre k) (lv_at hkl) (by have := hb k; omega)
  rw [lv_len] at this
  exact this
/-- the lives of a load ascend -/
theorem prs_rises {G : List Gar} {E pre : List LE} {ks : List Nat} (hb : ∀ k, beg pre k ≤ beg E k) : ((prs G E pre ks).map (·.1)).Pairwise (· < ·) := by
  unfold prs
  rw [List.map_map, List.pairwise_map]
  refine List.Pairwise.imp_of_mem ?_ (plc_rises G ks)
  intro a b ha hb' hab
  have hal := (mem_plc.mp ha).1
  have h1 := base_apart (j := beg pre a) (lv_at (E := E) hal) (by have := hb a; omega) hab
  simp only [Function.comp]
  omega
theorem plc_perm {G : List Gar} {ks : List Nat} (hl : ∀ k ∈ ks, k < G.length) (nd : ks.Nodup) : (plc G ks).Perm ks := by
  rw [List.perm_ext_iff_of_nodup (nodup_plc G ks) nd]
  intro k
  rw [mem_plc]
  exact ⟨fun h => h.2, fun h => ⟨hl k h, h⟩⟩
/-- .. and are these -/
theorem sort_here {G : List Gar} {E pre : List LE} {ks : List Nat} (hb : ∀ k, beg pre k ≤ beg E k) (hl : ∀ k ∈ ks, k < G.length) (nd : ks.Nodup) :
    sortJ (ks.map fun k => ((base (lv G E) k + beg pre k : Nat) : Int)) = (prs G E pre ks).map fun p => ((p.1 : Nat) : Int) := by
  refine (eq_sortJ ?_ ?_).symm
  · have := (plc_perm hl nd).map fun k => ((base (lv G E) k + beg pre k : Nat) : Int)
    unfold prs
    rw [List.map_map]
    exact this
  · have := prs_rises (G := G) (ks := ks) hb
    rw [List.pairwise_map] at this ⊢
    exact this.imp fun h => by omega
theorem prsD_eq {G : List Gar} {E pre : List LE} {ks : List Nat} {d : Tx} (hb : ∀ k, beg pre k ≤ beg E k) : (prs G E pre ks).filter (fun p => decide (gD G (((owners G E)[p.1]?).getD 0) = d)) = prsD G E pre ks d := by
  unfold prs prsD
  rw [List.filter_map]
  congr 1
  apply List.filter_congr
  intro k hk
  have hkl := (mem_plc.mp hk).1
  simp only [Function.comp]
  have : (owners G E)[base (lv G E) k + beg pre k]? = some k := by
    unfold owners
    exact row_get (lv_at hkl) (by have := hb k; omega)
  rw [this]
  rfl
/-- where a life begins in the list of the lives -/
theorem lives_idx {G : List Gar} {E : List LE} (h : (G.map (·.n)).Nodup) {k : Nat} (hk : k < G.length) : ∀ i, i < base (lv G E) k → (lives G E)[i]? ≠ some (gN G k, 0) := by
  intro i hi e
  have hl : i < base (lv G E) (lv G E).length := by
    rw [lv_len]
    have := base_mono (N := lv G E) (show k ≤ G.length by omega)
    omega
  obtain ⟨k', j, n, h1, h2, h3⟩ := row_split hl
  have hk' : k' < G.length := by
    have := (List.getElem?_eq_some_iff.mp h1).1
    rw [lv_len] at this
    exact this
  unfold lives at e
  rw [h3, row_get h1 h2] at e
  injection e with e
  injection e with e1 e2
  subst e2
  have h4 : (G.map (·.n))[k']? = some (gN G k') := by
    unfold gN
    rw [List.getElem?_map, List.getElem?_eq_getElem hk'] <;> rfl
  have h5 : (G.map (·.n))[k]? = some (gN G k) := by
    unfold gN
    rw [List.getElem?_map, List.getElem?_eq_getElem hk] <;> rfl
  rw [e1] at h4
  have := (List.getElem?_inj (by rw [List.length_map]; exact hk') h).mp (h4.trans h5.symm)
  subst this
  omega
theorem lives_at0 {G : List Gar} {E : List LE} {k : Nat} (hk : k < G.length) : (lives G E)[base (lv G E) k]? = some (gN G k, 0) := by
  have := row_get (f := fun k j => (gN G k, j)) (lv_at (E := E) hk) (Nat.succ_pos _)
  exact this
end Bk

namespace Bk
open Pk
def eP (p : Nat × Nat) : D := .tup [.int (p.1 : Nat), .int (p.2 : Nat)]
def eLv (p : Tx × Nat) : D := .tup [.str p.1, .int (p.2 : Nat)]
def eN (n : Nat) : D := .int (n : Nat)
def eLoad (ps : List (Nat × Nat)) : D := .tup (ps.map eP)
def eLook (l : Lk) : D := .tup [.int (l.at_ : Nat), .str l.dye, .bl l.sn]
def eSpan (l : Lk) : D := .ptp (l.sp.map eP)
theorem noMs_eP (ps : List (Nat × Nat)) : noMs (ps.map eP) = true := noMs_map (fun _ => rfl) _
theorem noMs_eLv (ps : List (Tx × Nat)) : noMs (ps.map eLv) = true := noMs_map (fun _ => rfl) _
theorem noMs_eN (ps : List Nat) : noMs (ps.map eN) = true := noMs_map (fun _ => rfl) _
theorem noMs_eLoad (ps : List (List (Nat × Nat))) : noMs (ps.map eLoad) = true := noMs_map (fun a => by unfold eLoad noM; exact noMs_eP a) _
theorem noMs_eLook (ps : List Lk) : noMs (ps.map eLook) = true := noMs_map (fun _ => rfl) _
theorem noMs_eSpan (ps : List Lk) : noMs (ps.map eSpan) = true := noMs_map (fun a => by unfold eSpan noM; exact noMs_eP a.sp) _
/-- the store while a walk goes -/
abbrev walkS (b : MO) (ow : List Nat) (lvs : List (Tx × Nat)) (ta : List Nat) (lo : List (List (Nat × Nat))) (lk : List Lk) (he : List MO) : Sto :=
  b :: .ins 1 [.mref 2, .mref 3, .mref 4, .mref 5, .mref 6, .mref 7] :: .lst (ow.map eN) :: .lst (lvs.map eLv) :: .lst (ta.map eN) :: .lst (lo.map eLoad) :: .lst (lk.map eLook) :: .lst (lk.map eSpan) :: he
theorem getA_nat {xs : List D} {n : Nat} : getA (.lst xs) (.int (n : Nat)) = nthG xs n := rfl
theorem ixG_nat {m n : Nat} (h : n < m) : ixG m ((n : Nat) : Int) = some n := by
  have e : Nat.blt n m = true := Nat.ble_eq_true_of_le h
  show (match Nat.blt n m with
    | true => some n
    | false => none) = some n
  rw [e]
theorem setD_nat {xs : List D} {n : Nat} {d : D} (h : n < xs.length) : setD (.lst xs) (.int (n : Nat)) d = some (.lst (xs.set n d)) := by
  simp only [setD, ixG_nat h]
end Bk
namespace K58
open PySem PySem.Spec PyProof.Rows L2 Pk Bk
theorem nth_tal {ta : List Nat} {l : Nat} (h : l < ta.length) : nthG (ta.map eN) l = some (.int (((ta[l]?).getD 0 : Nat))) := by
  rw [nth_map, nthG_eq, List.getElem?_eq_getElem h]
  rfl
theorem bump_len : ∀ (ls ta : List Nat), (ls.foldl Bk.bump ta).length = ta.length
  | [], ta => rfl
  | l :: r, ta => by
    rw [List.foldl_cons, bump_len r]
    unfold Bk.bump
    rw [List.length_set]
theorem looked_len {G : List Gar} (h : GarsOk G) (ks : List Nat) (s u : List Tx) : (looked G ks s u).length ≤ 8 := by
  unfold looked
  rw [List.length_map]
  have h2 := dedup_len (G.map (·.d))
  have h4 := List.length_filter_le (fun d => decide (∃ k ∈ ks, gD G k = d) && !decide (d ∈ u)) (hues G)
  rw [List.length_map] at h2
  have h3 := h.hi
  unfold hues at h4 ⊢
  omega
theorem looked_okc {G : List Gar} (h : GarsOk G) {ks : List Nat} {s u : List Tx} {p : Tx × Bool} (hp : p ∈ looked G ks s u) : okc p.1 = true := by
  unfold looked at hp
  obtain ⟨d, hd, e⟩ := List.mem_map.mp hp
  subst e
  exact okc_hues h d (List.mem_filter.mp hd).1
theorem foldl_snoc {α β : Type} (f : α → β) : ∀ (xs : List α) (acc : List β), xs.foldl (fun acc a => acc ++ [f a]) acc = acc ++ xs.map f
  | [], acc => by simp
  | x :: r, acc => by rw [List.foldl_cons, foldl_snoc f r]; simp
theorem m_wash {G : List Gar} {E0 pre rest : List LE} {ks : List Nat} {s u : List Tx} (h : GarsOk G) (hE : E0 = pre ++ .wash ks s u :: rest) (w : WashOk G ks s u) (hL : E0.length ≤ 30)
    {b : MO} {lo : List (List (Nat × Nat))} {lk : List Lk} {he : List MO} (hlo : lo.length ≤ 30) (hlk : lk.length ≤ 300) (Q : QD) (E : QX) :
    c_Walk_wash [.mref 1, .tup (G.map eG), .int (pre.length : Nat), .lst ((prs G E0 pre ks).map fun p => .int (p.1 : Nat)), .tup ((looked G ks s u).map fun p => .tup [.str p.1, .bl p.2])] (walkS b (owners G E0) (lives G E0) (tallies G E0 pre) lo lk he) Q E
    = Q .non (walkS b (owners G E0) (lives G E0) (tallies G E0 (pre ++ [.wash ks s u])) (lo ++ [prs G E0 pre ks]) (lk ++ looksOf G E0 pre (.wash ks s u)) he) := by
  have hb : ∀ k, beg pre k ≤ beg E0 k := fun k => by rw [hE]; exact beg_le _ _ _
  rw [u_Walk_wash rfl]
  unfold w_Walk_wash
  have e1 : (prs G E0 pre ks).map (fun p => D.int (p.1 : Nat)) = ((prs G E0 pre ks).map (·.1)).map eN := by rw [List.map_map]; rfl
  rw [e1]
  have hlen : (tallies G E0 pre).length = base (lv G E0) G.length := tallies_len
  have hlt : ∀ l ∈ (prs G E0 pre ks).map (·.1), l < (tallies G E0 pre).length := fun l hl => by
    obtain ⟨p, hp, e⟩ := List.mem_map.mp hl
    subst e
    rw [hlen]
    exact life_lt hb hp
  have hfin := tally_wash (G := G) (ks := ks) (s := s) (u := u) hE
  simp only [wp0, wp1, lk_mref, lineBs, Nat.beq_refl, List.append_nil, List.length_cons, List.length_nil, Nat.zero_add, Nat.reduceAdd, List.getElem?_cons_zero, List.getElem?_cons_succ, List.set_cons_zero, List.set_cons_succ, Bool.not_true, Bool.not_false, ]
  refine for_fold Bk.bump (fun ta ρ μ => ta.length = (tallies G E0 pre).length ∧ ∃ e, ρ = [some (D.mref 1), some (D.tup (G.map eG)), some (D.int pre.length), some (D.lst (((prs G E0 pre ks).map (·.1)).map eN)), some (D.tup ((looked G ks s u).map fun p => D.tup [D.str p.1, D.bl p.2])), e, none, none, none, none] ∧ μ = walkS b (owners G E0) (lives G E0) ta lo lk he) _ _ _ _ ⟨rfl, none, rfl, rfl⟩ ?_ ?_
  · rintro l ta ρ μ hl ⟨ht, e, e1, e2⟩
    subst e1 e2
    have hl2 : l < ta.length := by rw [ht]; exact hlt l hl
    have g1 : getA (.lst (ta.map eN)) (eN l) = some (.int (((ta[l]?).getD 0 : Nat))) := nth_tal hl2
    have g2 : setD (.lst (ta.map eN)) (eN l) (.int ((((ta[l]?).getD 0 : Nat) : Int) + 1)) = some (.lst ((Bk.bump ta l).map eN)) := by
      show setD _ (.int (l : Nat)) _ = _
      rw [setD_nat (by rw [List.length_map]; exact hl2)]
      unfold Bk.bump
      rw [List.map_set]
      rfl
    refine ⟨_, rfl, _, _, ⟨?_, some (eN l), rfl, rfl⟩, fun k => ?_⟩
    · unfold Bk.bump
      rw [List.length_set]
      exact ht
    · simp only [wp0, wp1, lk_mref, lineBs, Nat.beq_refl, List.append_nil, List.length_cons, List.length_nil, Nat.zero_add, Nat.reduceAdd, List.getElem?_cons_zero, List.getElem?_cons_succ, List.set_cons_zero, List.set_cons_succ, Bool.not_true, Bool.not_false, g1, g2]
  · rintro ρ μ ⟨_, e, e1, e2⟩
    subst e1 e2
    rw [hfin]
    have b1 : Nat.blt (((prs G E0 pre ks).map (·.1)).map eN).length 16777216 = true := blt_ok (by
      rw [List.length_map, List.length_map]
      unfold prs
      rw [List.length_map]
      have := nodup_len (nodup_plc G ks) (n := G.length) fun k hk => (mem_plc.mp hk).1
      have := h.hi
      omega)
    have b2 : Nat.blt (lo.map eLoad).length 16777216 = true := blt_ok (by rw [List.length_map]; omega)
    have i1 : isL (.lst (lo.map eLoad)) = true := rfl
    simp only [wp0, wp1, lk_mref, lineBs, Nat.beq_refl, List.append_nil, List.length_cons, List.length_nil, Nat.zero_add, Nat.reduceAdd, List.getElem?_cons_zero, List.getElem?_cons_succ, List.set_cons_zero, List.set_cons_succ, Bool.not_true, Bool.not_false, b1]
    simp only [List.map_map]
    rw [lc_all eP]
    · simp only [wp0, wp1, lk_mref, lineBs, Nat.beq_refl, List.append_nil, List.length_cons, List.length_nil, Nat.zero_add, Nat.reduceAdd, List.getElem?_cons_zero, List.getElem?_cons_succ, List.set_cons_zero, List.set_cons_succ, Bool.not_true, Bool.not_false, isL, appF, b2]
      have hk := looked_len h ks s u
      refine for_foldR (fun acc (p : Tx × Bool) => acc ++ [⟨pre.length, p.1, p.2, prsD G E0 pre ks p.1⟩]) (fun xs acc ρ μ => acc.length + xs.length ≤ 1000 ∧ (∀ p ∈ xs, okc p.1 = true) ∧ ∃ f g, ρ = [some (D.mref 1), some (D.tup (List.map eG G)), some (D.int ↑pre.length), some (D.lst (List.map (eN ∘ fun x => x.fst) (prs G E0 pre ks))), some (D.tup (List.map (fun p => D.tup [D.str p.fst, D.bl p.snd]) (looked G ks s u))), e, some (D.tup (List.map eP (prs G E0 pre ks))), f, g, none] ∧
        μ = walkS b (owners G E0) (lives G E0) (tallies G E0 (pre ++ [LE.wash ks s u])) (lo ++ [prs G E0 pre ks]) acc he) (looked G ks s u) lk _ _ ⟨by omega, fun p hp => looked_okc h hp, none, none, rfl, by simp only [walkS, List.map_append, List.map_cons, List.map_nil]; rfl⟩ ?_ ?_
      · rintro ⟨d, sn⟩ r acc ρ μ ⟨ha, hd, f, g, e1, e2⟩
        subst e1 e2
        have b3 : Nat.blt (acc.map eLook).length 16777216 = true := blt_ok (by rw [List.length_map]; simp only [List.length_cons] at ha; omega)
        have b4 : Nat.blt (acc.map eSpan).length 16777216 = true := blt_ok (by rw [List.length_map]; simp only [List.length_cons] at ha; omega)
        have b5 : Nat.blt ((prs G E0 pre ks).map eP).length 16777216 = true := blt_ok (by
          rw [List.length_map]
          unfold prs
          rw [List.length_map]
          have := nodup_len (nodup_plc G ks) (n := G.length) fun k hk => (mem_plc.mp hk).1
          have := h.hi
          omega)
        refine ⟨_, rfl, _, _, ⟨?_, fun p hp => hd p (List.mem_cons_of_mem _ hp), some (.str d), some (.bl sn), rfl, rfl⟩, fun k => ?_⟩
        · simp only [List.length_append, List.length_cons, List.length_nil] at ha ⊢
          omega
        · simp only [wp0, wp1, lk_mref, lineBs, Nat.beq_refl, List.append_nil, List.length_cons, List.length_nil, Nat.zero_add, Nat.reduceAdd, List.getElem?_cons_zero, List.getElem?_cons_succ, List.set_cons_zero, List.set_cons_succ, Bool.not_true, Bool.not_false, isL, appF, b3, b4, b5, walkS]
          rw [lc_map (fun p => decide (gD G (((owners G E0)[p.1]?).getD 0) = d)) eP]
          · rw [prsD_eq hb]
            simp only [wp0, wp1, lk_mref, lineBs, Nat.beq_refl, List.append_nil, List.length_cons, List.length_nil, Nat.zero_add, Nat.reduceAdd, List.getElem?_cons_zero, List.getElem?_cons_succ, List.set_cons_zero, List.set_cons_succ, Bool.not_true, Bool.not_false, isL, appF, b3, b4, b5]
            simp only [List.map_append, List.map_cons, List.map_nil, eLook, eSpan]
          · intro p hp
            obtain ⟨kk, o1, o2, o3, o4⟩ := owner_at (rest := rest) hb hp
            have h3 : nthG ((owners G E0).map eN) p.1 = some (.int (kk : Nat)) := by
              rw [nth_map, nthG_eq, o1]
              rfl
            have h4 : nthG (G.map eG) kk = some (eG G[kk]) := by
              rw [nth_map, nthG_eq, List.getElem?_eq_getElem o2]
              rfl
            have h5 : ixD (eG G[kk]) (.int 1) = some (.str (gD G kk)) := by
              unfold gD
              rw [List.getElem?_eq_getElem o2]
              rfl
            have h6 : ∀ μ, look μ (eG G[kk]) = eG G[kk] := fun _ => rfl
            have h7 := eq_str (gD_ok h o2).okc (hd (d, sn) (by simp))
            have h8 : ixD (eP p) (.int 0) = some (.int (p.1 : Nat)) := rfl
            have h9 : ∀ μ, look μ (eP p) = eP p := fun _ => rfl
            refine ⟨_, rfl, fun Q E => ?_, fun _ Q E => ?_⟩
            · simp only [wp0, wp1, lk_mref, lineBs, Nat.beq_refl, List.append_nil, List.length_cons, List.length_nil, Nat.zero_add, Nat.reduceAdd, List.getElem?_cons_zero, List.getElem?_cons_succ, List.set_cons_zero, List.set_cons_succ, Bool.not_true, Bool.not_false, h3, h4, h5, h6, h7, h8, h9, o1, Option.getD_some]
            · simp only [wp0, wp1, lk_mref, lineBs, Nat.beq_refl, List.append_nil, List.length_cons, List.length_nil, Nat.zero_add, Nat.reduceAdd, List.getElem?_cons_zero, List.getElem?_cons_succ, List.set_cons_zero, List.set_cons_succ, Bool.not_true, Bool.not_false, ]
      · rintro ρ μ ⟨_, _, f, g, e1, e2⟩
        subst e1 e2
        have := foldl_snoc (fun p : Tx × Bool => (⟨pre.length, p.1, p.2, prsD G E0 pre ks p.1⟩ : Lk)) (looked G ks s u) lk
        rw [this]
        rfl
    · intro p hp
      have ht := tally_at hE hp
      have h3 : nthG ((tallies G E0 (pre ++ [.wash ks s u])).map eN) p.1 = some (.int (p.2 : Nat)) := by
        rw [nth_map, nthG_eq, ht]
        rfl
      refine ⟨_, rfl, fun Q E => ?_⟩
      simp only [wp0, wp1, lk_mref, lineBs, Nat.beq_refl, List.append_nil, List.length_cons, List.length_nil, Nat.zero_add, Nat.reduceAdd, List.getElem?_cons_zero, List.getElem?_cons_succ, List.set_cons_zero, List.set_cons_succ, Bool.not_true, Bool.not_false, Function.comp, eN, h3]
      rfl
end K58

namespace Bk
open Pk
theorem names_range (G : List Gar) : (G.map (·.n)).map D.str = (List.range G.length).map fun k => D.str (gN G k) := by
  rw [List.map_map]
  apply List.ext_getElem
  · simp
  · intro i h1 h2
    have hi : i < G.length := by simpa using h1
    have : gN G i = G[i].n := by
      unfold gN
      rw [List.getElem?_eq_getElem hi] <;> rfl
    simp [this]
theorem idxD_at {x : D} : ∀ {xs : List D} {i : Nat} (n : Nat) {y : D}, xs[i]? = some y → eqD y x = true → (∀ j z, j < i → xs[j]? = some z → eqD z x = false) → idxD x xs n = some (n + i)
  | [], i, n, y, h, _, _ => by simp at h
  | a :: r, 0, n, y, h, e, _ => by
    simp at h
    subst h
    simp [idxD, e]
  | a :: r, i + 1, n, y, h, e, hf => by
    have h0 := hf 0 a (by omega) rfl
    have ih := idxD_at (xs := r) (i := i) (n + 1) (by simpa using h) e fun j z hj hz => hf (j + 1) z (by omega) (by simpa using hz)
    simp only [idxD, h0, ih]
    congr 1
    omega
theorem eq_life {a : Tx × Nat} {s : Tx} {n : Nat} : eqD (eLv a) (.tup [.str s, .int (n : Nat)]) = decide (a = (s, n)) := by
  obtain ⟨t, m⟩ := a
  simp only [eLv, eqD, eqDs, eqTx_dec]
  by_cases h : t = s
  · subst h
    by_cases h2 : m = n
    · subst h2
      simp
    · have : ¬ (m : Int) = (n : Int) := by omega
      simp [h2, this]
  · simp [h]
theorem idx_life {G : List Gar} {E : List LE} (nd : (G.map (·.n)).Nodup) {k : Nat} (hk : k < G.length) : idxD (.tup [.str (gN G k), .int 0]) ((lives G E).map eLv) 0 = some (base (lv G E) k) := by
  have h1 := lives_at0 (E := E) hk
  have := idxD_at (x := .tup [.str (gN G k), .int 0]) (xs := (lives G E).map eLv) (i := base (lv G E) k) 0 (y := eLv (gN G k, 0)) (by rw [List.getElem?_map, h1] <;> rfl)
    (by have := eq_life (a := (gN G k, 0)) (s := gN G k) (n := 0); simpa using this) fun j z hj hz => by
      rw [List.getElem?_map] at hz
      cases q : (lives G E)[j]? with
      | none => rw [q] at hz; cases hz
      | some p =>
        rw [q] at hz
        injection hz with hz
        subst hz
        have h2 := lives_idx nd hk j hj
        rw [q] at h2
        have := eq_life (a := p) (s := gN G k) (n := 0)
        rw [show ((0 : Nat) : Int) = 0 from rfl] at this
        rw [this]
        exact decide_eq_false fun e => h2 (congrArg some e)
  rw [Nat.zero_add] at this
  exact this
theorem lives_pure {G : List Gar} {E : List LE} (h : GarsOk G) : pureD 60 (.lst ((lives G E).map eLv)) = true := by
  show pureDs 59 _ = true
  have : ∀ p ∈ lives G E, okc p.1 = true := by
    intro p hp
    obtain ⟨i, hi, e⟩ := List.getElem_of_mem hp
    have hi' : i < base (lv G E) (lv G E).length := by
      unfold lives at hi
      rw [row_len] at hi
      exact hi
    obtain ⟨k, j, n, h1, h2, h3⟩ := row_split hi'
    have hk : k < G.length := by
      have := (List.getElem?_eq_some_iff.mp h1).1
      rw [lv_len] at this
      exact this
    have e2 : (lives G E)[i]? = some (gN G k, j) := by
      unfold lives
      rw [h3]
      exact row_get h1 h2
    rw [List.getElem?_eq_getElem hi] at e2
    injection e2 with e2
    rw [← e, e2]
    exact (gN_ok h hk).okc
  revert this
  generalize lives G E = xs
  intro this
  induction xs with
  | nil => rfl
  | cons p r ih =>
    have hp := this p (by simp)
    have e : pureD 59 (eLv p) = true := by
      show pureDs 58 [.str p.1, .int (p.2 : Nat)] = true
      simp only [pureDs, pure_str, hp]
      rfl
    simp only [List.map_cons, pureDs, e]
    exact ih fun q hq => this q (List.mem_cons_of_mem _ hq)
theorem pairs_keys {α : Type} (f : α → Tx) (v : α → D) : ∀ xs : List α, pairsD (xs.map fun a => .tup [.str (f a), v a]) = some (xs.map fun a => (DK.ks (f a), v a))
  | [] => rfl
  | x :: r => by simp only [List.map_cons, pairsD, toK, pairs_keys f v r]
theorem putE_new {s : Tx} {v : D} : ∀ {kvs : List (DK × D)}, (∀ p ∈ kvs, p.1 ≠ .ks s) → putE kvs (.ks s) v = kvs ++ [(.ks s, v)] := by
  intro kvs h
  have : hasK kvs (.ks s) = false := by
    induction kvs with
    | nil => rfl
    | cons p r ih =>
      obtain ⟨k, d⟩ := p
      have h1 : eqDK k (.ks s) = false := by
        cases e : eqDK k (.ks s) with
        | false => rfl
        | true => exact absurd (eqDK_iff.mp e) (h (k, d) (by simp))
      simp only [hasK, h1]
      exact ih fun p hp => h p (List.mem_cons_of_mem _ hp)
  simp only [putE, this]
theorem merge_nodup {α : Type} (f : α → Tx) (v : α → D) : ∀ (xs : List α) (acc : List (DK × D)), (xs.map f).Nodup → (∀ p ∈ acc, ∀ a ∈ xs, p.1 ≠ .ks (f a)) → mergeD acc (xs.map fun a => (DK.ks (f a), v a)) = acc ++ xs.map fun a => (DK.ks (f a), v a)
  | [], acc, _, _ => by simp [mergeD]
  | x :: r, acc, nd, h => by
    rw [List.map_cons] at nd
    obtain ⟨n1, n2⟩ := List.nodup_cons.mp nd
    simp only [List.map_cons, mergeD]
    rw [putE_new fun p hp => h p hp x (by simp), merge_nodup f v r _ n2, List.append_assoc]
    · rfl
    · intro p hp a ha
      rcases List.mem_append.mp hp with q | q
      · exact h p q a (List.mem_cons_of_mem _ ha)
      · rw [List.mem_singleton.mp q]
        intro e
        injection e with e
        exact n1 (e ▸ List.mem_map.mpr ⟨a, ha, rfl⟩)
theorem getK_map {α : Type} {f : α → Tx} {v : α → D} {a : α} : ∀ {xs : List α}, a ∈ xs → (∀ b ∈ xs, f b = f a → b = a) → getK (xs.map fun a => (DK.ks (f a), v a)) (.ks (f a)) = some (v a)
  | [], h, _ => by simp at h
  | x :: r, h, hi => by
    simp only [List.map_cons, getK, eqDK, eqTx_dec]
    by_cases e : f x = f a
    · have := hi x (by simp) e
      subst this
      simp
    · simp only [e, decide_false]
      refine getK_map ?_ fun b hb => hi b (List.mem_cons_of_mem _ hb)
      rcases List.mem_cons.mp h with q | q
      · exact absurd (congrArg f q.symm) e
      · exact q
theorem putE_map {α : Type} {f : α → Tx} {v : α → D} {a : α} {w : D} {xs : List α} (h : a ∈ xs) : putE (xs.map fun a => (DK.ks (f a), v a)) (.ks (f a)) w = xs.map fun b => (DK.ks (f b), if f b = f a then w else v b) := by
  have h1 : hasK (xs.map fun a => (DK.ks (f a), v a)) (.ks (f a)) = true := by
    induction xs with
    | nil => simp at h
    | cons x r ih =>
      simp only [List.map_cons, hasK, eqDK, eqTx_dec]
      by_cases e : f x = f a
      · simp [e]
      · simp only [e, decide_false]
        rcases List.mem_cons.mp h with q | q
        · exact absurd (congrArg f q.symm) e
        · exact ih q
  simp only [putE, h1]
  clear h h1
  induction xs with
  | nil => rfl
  | cons x r ih =>
    simp only [List.map_cons, mapK, ih, eqDK, eqTx_dec]
    by_cases e : f x = f a
    · simp [e]
    · simp [e]
def hereL (G : List Gar) (E pre : List LE) : List (DK × D) := (List.range G.length).map fun k => (DK.ks (gN G k), D.int ((base (lv G E) k + beg pre k : Nat)))
theorem here_get {G : List Gar} {E pre : List LE} (h : GarsOk G) {k : Nat} (hk : k < G.length) : getK (hereL G E pre) (.ks (gN G k)) = some (.int ((base (lv G E) k + beg pre k : Nat))) :=
  getK_map (a := k) (List.mem_range.mpr hk) fun b hb e => gN_inj h (List.mem_range.mp hb) hk e
theorem here_put {G : List Gar} {E pre : List LE} (h : GarsOk G) {k : Nat} (hk : k < G.length) : putE (hereL G E pre) (.ks (gN G k)) (.int (((base (lv G E) k + beg pre k : Nat) : Int) + 1)) = hereL G E (pre ++ [.renew k]) := by
  unfold hereL
  rw [putE_map (a := k) (List.mem_range.mpr hk)]
  apply List.map_congr_left
  intro j hj
  have hj := List.mem_range.mp hj
  rw [beg_app]
  by_cases e : j = k
  · subst e
    simp [beg]
    omega
  · have e2 : ¬ gN G j = gN G k := fun q => e (gN_inj h hj hk q)
    have e3 : ¬ k = j := fun q => e q.symm
    simp [e2, beg, e3]
theorem here_wash {G : List Gar} {E pre : List LE} {ks : List Nat} {s u : List Tx} : hereL G E (pre ++ [.wash ks s u]) = hereL G E pre := by
  unfold hereL
  apply List.map_congr_left
  intro j _
  rw [beg_app]
  simp [beg]
theorem looksFrom_snoc {G : List Gar} {E : List LE} (e : LE) : ∀ (r a : List LE), looksFrom G E a (r ++ [e]) = looksFrom G E a r ++ looksOf G E (a ++ r) e
  | [], a => by simp [looksFrom]
  | x :: r, a => by simp [looksFrom, looksFrom_snoc e r, List.append_assoc]
theorem loadsFrom_snoc {G : List Gar} {E : List LE} (e : LE) : ∀ (r a : List LE), loadsFrom G E a (r ++ [e]) = loadsFrom G E a r ++ [loadOf G E (a ++ r) e]
  | [], a => by simp [loadsFrom]
  | x :: r, a => by simp [loadsFrom, loadsFrom_snoc e r, List.append_assoc]
theorem loadsFrom_len {G : List Gar} {E : List LE} : ∀ (r a : List LE), (loadsFrom G E a r).length = r.length
  | [], a => rfl
  | x :: r, a => by simp [loadsFrom, loadsFrom_len r]
theorem looksFrom_len {G : List Gar} (h : GarsOk G) {E : List LE} : ∀ (r a : List LE), (looksFrom G E a r).length ≤ 8 * r.length
  | [], a => by simp [looksFrom]
  | x :: r, a => by
    have := looksFrom_len h (E := E) r (a ++ [x])
    simp only [looksFrom, List.length_append, List.length_cons]
    have : (looksOf G E a x).length ≤ 8 := by
      cases x with
      | renew k => simp [looksOf]
      | wash ks s u =>
        simp only [looksOf, List.length_map]
        exact K58.looked_len h ks s u
    omega
end Bk

namespace K58
open PySem PySem.Spec PyProof.Rows L2 Pk Bk
theorem ints_map {α : Type} (f : α → Int) : ∀ xs : List α, intsD (xs.map fun a => D.int (f a)) = some (xs.map f)
  | [] => rfl
  | x :: r => by simp only [List.map_cons, intsD, ints_map f r]
theorem ents_len {G : List Gar} {E0 : List LE} : (E0.map (eEnt G)).length = E0.length := by simp
theorem m_go {G : List Gar} {E0 : List LE} (h : GarsOk G) (he : ∀ e ∈ E0, LEok G e) (hL : E0.length ≤ 30) {b : MO} (Q : QD) (E : QX) :
    c_Walk_go [.mref 1, .tup (G.map eG), .tup (E0.map (eEnt G))] (walkS b (owners G E0) (lives G E0) (tallies G E0 []) [] [] []) Q E
    = Q .non (walkS b (owners G E0) (lives G E0) (tallies G E0 E0) (loadsFrom G E0 [] E0) (looks G E0) [.dct (hereL G E0 E0)]) := by
  rw [u_Walk_go rfl]
  unfold w_Walk_go
  have c5 : ∀ μ Q E, c_names_in [.tup (G.map eG)] μ Q E = Q (.lst ((List.range G.length).map fun k => D.str (gN G k))) μ := fun μ Q E => by
    rw [← names_range]
    exact m_names_in (G := G) h.hi μ Q E
  have b1 : Nat.blt ((List.range G.length).map fun k => D.str (gN G k)).length 16777216 = true := blt_ok (by rw [List.length_map, List.length_range]; have := h.hi; omega)
  have lp := lives_pure (E := E0) h
  simp only [wp0, wp1, lk_mref, lineBs, Nat.beq_refl, List.append_nil, List.length_cons, List.length_nil, Nat.zero_add, Nat.reduceAdd, List.getElem?_cons_zero, List.getElem?_cons_succ, List.set_cons_zero, List.set_cons_succ, Bool.not_true, Bool.not_false, c5, b1, walkS]
  rw [lc_all (fun k => .tup [.str (gN G k), .int (base (lv G E0) k : Nat)])]
  · have e1 := pairs_keys (gN G) (fun k => D.int (base (lv G E0) k : Nat)) (List.range G.length)
    have e2 := merge_nodup (gN G) (fun k => D.int (base (lv G E0) k : Nat)) (List.range G.length) [] (map_gN_nodup h (fun k hk => List.mem_range.mp hk) List.nodup_range) (by simp)
    have e3 : ((List.range G.length).map fun a => (DK.ks (gN G a), D.int (base (lv G E0) a : Nat))) = hereL G E0 [] := by
      unfold hereL
      simp [beg]
    rw [List.nil_append, e3] at e2
    simp only [wp0, wp1, lk_mref, lineBs, Nat.beq_refl, List.append_nil, List.length_cons, List.length_nil, Nat.zero_add, Nat.reduceAdd, List.getElem?_cons_zero, List.getElem?_cons_succ, List.set_cons_zero, List.set_cons_succ, Bool.not_true, Bool.not_false, e1, e2, e3, List.cons_append, List.nil_append]
    have ex : enumD 0 (E0.map (eEnt G)) = (E0.zipIdx 0).map fun p => .tup [.int (p.2 : Nat), eEnt G p.1] := enum_map (eEnt G) E0 0
    rw [ex]
    refine for_foldR (fun (pre : List LE) (p : LE × Nat) => pre ++ [p.1]) (fun xs pre ρ μ => (∃ rest, E0 = pre ++ rest ∧ xs = rest.zipIdx pre.length) ∧ (∃ f1 f2 f3 f4, ρ = [some (.mref 1), some (.tup (G.map eG)), some (.tup (E0.map (eEnt G))), some (.mref 8), f1, f2, f3, f4, none]) ∧
      μ = walkS b (owners G E0) (lives G E0) (tallies G E0 pre) (loadsFrom G E0 [] pre) (looksFrom G E0 [] pre) [.dct (hereL G E0 pre)]) (E0.zipIdx 0) [] _ _ ⟨⟨E0, rfl, rfl⟩, ⟨none, none, none, none, rfl⟩, rfl⟩ ?_ ?_
    · rintro ⟨e, i⟩ r pre ρ μ ⟨⟨rest, hE, hx⟩, ⟨f1, f2, f3, f4, e1⟩, e2⟩
      cases rest with
      | nil => simp at hx
      | cons e' rest' =>
        rw [List.zipIdx_cons] at hx
        injection hx with hx1 hx2
        injection hx1 with hx3 hx4
        subst hx3 hx4 e1 e2
        have hok : LEok G e := he e (by rw [hE]; simp)
        have hlen : pre.length < 31 := by rw [hE, List.length_append] at hL; omega
        have l1 := loadsFrom_len (G := G) (E := E0) pre []
        have l2 := looksFrom_len h (E := E0) pre []
        have b3 : Nat.blt ((loadsFrom G E0 [] pre).map eLoad).length 16777216 = true := blt_ok (by rw [List.length_map]; omega)
        have hb : ∀ k, beg pre k ≤ beg E0 k := fun k => by rw [hE]; exact beg_le _ _ _
        cases e with
        | renew k0 =>
          have hk0 : k0 < G.length := hok
          have i1 : eqqD (.str [114, 101, 110, 101, 119]) (.str [114, 101, 110, 101, 119]) = some (.bl true) := rfl
          have g1 : getA (.dct (hereL G E0 pre)) (.str (gN G k0)) = some (.int ((base (lv G E0) k0 + beg pre k0 : Nat))) := by
            simp only [getA, toK, here_get h hk0]
          have b4 : Nat.blt (hereL G E0 pre).length 16777216 = true := blt_ok (by unfold hereL; rw [List.length_map, List.length_range]; have := h.hi; omega)
          have g2 : setD (.dct (hereL G E0 pre)) (.str (gN G k0)) (.int (((base (lv G E0) k0 + beg pre k0 : Nat) : Int) + 1)) = some (.dct (hereL G E0 (pre ++ [.renew k0]))) := by
            simp only [setD, toK, b4, here_put h hk0]
          refine ⟨_, rfl, _, _, ⟨⟨rest', by rw [hE, List.append_assoc]; rfl, by rw [List.length_append]; exact hx2⟩, ⟨some (.int (pre.length : Nat)), some (.str tRenew), some (.tup [.str (gN G k0)]), some (.tup []), rfl⟩, rfl⟩, fun k => ?_⟩
          simp only [wp0, wp1, lk_mref, lineBs, Nat.beq_refl, List.append_nil, List.length_cons, List.length_nil, Nat.zero_add, Nat.reduceAdd, List.getElem?_cons_zero, List.getElem?_cons_succ, List.set_cons_zero, List.set_cons_succ, Bool.not_true, Bool.not_false, walkS, i1, g1, g2, isL, appF, b3]
          rw [loadsFrom_snoc, looksFrom_snoc, tally_renew]
          simp only [looksOf, loadOf, List.append_nil, List.map_append, List.map_cons, List.map_nil]
          rfl
        | wash ks s u =>
          have w : WashOk G ks s u := hok
          have i1 : eqqD (.str [119, 97, 115, 104]) (.str [114, 101, 110, 101, 119]) = some (.bl false) := rfl
          have b4 : Nat.blt (((ks.map (gN G)).map D.str)).length 16777216 = true := blt_ok (by rw [List.length_map, List.length_map]; have := nodup_len w.nd w.lt; have := h.hi; omega)
          refine ⟨_, rfl, _, _, ⟨⟨rest', by rw [hE, List.append_assoc]; rfl, by rw [List.length_append]; exact hx2⟩, ⟨some (.int (pre.length : Nat)), some (.str tWash), some (.tup ((ks.map (gN G)).map .str)), some (.tup ((looked G ks s u).map fun p => .tup [.str p.1, .bl p.2])), rfl⟩, rfl⟩, fun k => ?_⟩
          have w1 := m_wash (b := b) (lo := loadsFrom G E0 [] pre) (lk := looksFrom G E0 [] pre) (he := [.dct (hereL G E0 pre)]) h hE w hL (by omega) (by omega)
          have sh := sort_here (G := G) (E := E0) hb w.lt w.nd
          have so : sortedD (.lst (ks.map fun k => D.int ((base (lv G E0) k + beg pre k : Nat)))) = some ((prs G E0 pre ks).map fun p => D.int (p.1 : Nat)) := by
            simp only [sortedD, ints_map, sh, List.map_map]
            rfl
          simp only [wp0, wp1, lk_mref, lineBs, Nat.beq_refl, List.append_nil, List.length_cons, List.length_nil, Nat.zero_add, Nat.reduceAdd, List.getElem?_cons_zero, List.getElem?_cons_succ, List.set_cons_zero, List.set_cons_succ, Bool.not_true, Bool.not_false, walkS, i1, b4]
          simp only [List.map_map]
          rw [lc_all (fun k => D.int ((base (lv G E0) k + beg pre k : Nat)))]
          · simp only [wp0, wp1, lk_mref, lineBs, Nat.beq_refl, List.append_nil, List.length_cons, List.length_nil, Nat.zero_add, Nat.reduceAdd, List.getElem?_cons_zero, List.getElem?_cons_succ, List.set_cons_zero, List.set_cons_succ, Bool.not_true, Bool.not_false, so]
            refine (w1 _ _).trans ?_
            rw [loadsFrom_snoc, looksFrom_snoc, here_wash]
            rfl
          · intro k1 hk1
            have g1 := here_get (E := E0) (pre := pre) h (w.lt k1 hk1)
            refine ⟨_, rfl, fun Q E => ?_⟩
            simp only [wp0, wp1, lk_mref, lineBs, Nat.beq_refl, List.append_nil, List.length_cons, List.length_nil, Nat.zero_add, Nat.reduceAdd, List.getElem?_cons_zero, List.getElem?_cons_succ, List.set_cons_zero, List.set_cons_succ, Bool.not_true, Bool.not_false, Function.comp]
            simp only [ixD, toK, g1]
    · rintro ρ μ ⟨⟨rest, hE, hx⟩, ⟨f1, f2, f3, f4, e1⟩, e2⟩
      subst e1 e2
      have hf : (E0.zipIdx 0).foldl (fun (pre : List LE) (p : LE × Nat) => pre ++ [p.1]) [] = E0 := by
        have := foldl_snoc (fun p : LE × Nat => p.1) (E0.zipIdx 0) []
        rw [this]
        simp
      rw [hf]
      rfl
  · intro k hk
    have hk := List.mem_range.mp hk
    have p1 : pureD 60 (.tup [.str (gN G k), .int 0]) = true := by
      show pureDs 59 [.str (gN G k), .int 0] = true
      simp only [pureDs, pure_str, (gN_ok h hk).okc]
      rfl
    have i1 := idx_life (E := E0) h.nd hk
    refine ⟨_, rfl, fun Q E => ?_⟩
    simp only [wp0, wp1, lk_mref, lineBs, Nat.beq_refl, List.append_nil, List.length_cons, List.length_nil, Nat.zero_add, Nat.reduceAdd, List.getElem?_cons_zero, List.getElem?_cons_succ, List.set_cons_zero, List.set_cons_succ, Bool.not_true, Bool.not_false, isL, idxF, lp, p1, i1, Bool.and_self]
theorem zeros_eq {G : List Gar} {E0 : List LE} : (tallies G E0 []).map eN = List.replicate (lives G E0).length (D.int 0) := by
  unfold tallies lives
  rw [row_len, row_map]
  have : ∀ (N : List Nat), row N (fun k j => eN (cnt [] k j)) = List.replicate (base N N.length) (D.int 0) := by
    intro N
    apply List.ext_getElem
    · rw [row_len, List.length_replicate]
    · intro i h1 h2
      have h3 : i < base N N.length := by rw [row_len] at h1; exact h1
      obtain ⟨k, j, n, e1, e2, e3⟩ := row_split h3
      have e4 := row_get (f := fun k j => eN (cnt [] k j)) e1 e2
      rw [← e3, List.getElem?_eq_getElem h1] at e4
      injection e4 with e4
      rw [e4, List.getElem_replicate]
      rfl
  exact this _
theorem repL_one (n : Nat) (d : D) : repL n [d] = List.replicate n d := by
  induction n with
  | zero => rfl
  | succ n ih => simp only [repL, ih, List.replicate_succ]; rfl
/-- how often a garment is renewed, by the entries -/
theorem renews {G : List Gar} (h : GarsOk G) {E0 : List LE} (he : ∀ e ∈ E0, LEok G e) {k : Nat} (hk : k < G.length) : (E0.filter fun e => match e with
    | .renew k' => decide (gN G k' = gN G k)
    | .wash .. => false).length = beg E0 k := by
  induction E0 with
  | nil => rfl
  | cons e r ih =>
    have ih := ih fun e he' => he e (List.mem_cons_of_mem _ he')
    cases e with
    | wash ks s u => simp only [List.filter_cons, beg, ih, Bool.false_eq_true, if_false]
    | renew k' =>
      have hk' : k' < G.length := he (.renew k') (by simp)
      by_cases q : k' = k
      · subst q
        simp only [List.filter_cons, beg, decide_true, if_true, List.length_cons, ih]
        omega
      · have q2 : ¬ gN G k' = gN G k := fun e => q (gN_inj h hk' hk e)
        simp only [List.filter_cons, beg, q2, decide_false, Bool.false_eq_true, if_false, ih, q]
        omega
/-- the first garments' parts of a row -/
theorem row_snoc {α : Type} : ∀ (N : List Nat) (n : Nat) (f : Nat → Nat → α), row (N ++ [n]) f = row N f ++ (List.range n).map (f N.length)
  | [], n, f => by simp [row]
  | m :: N, n, f => by
    simp only [List.cons_append, row, row_snoc N n, List.append_assoc, List.length_cons]
theorem rg_small {n : Nat} (h : n ≤ 30) : rgOk ((n : Int) + 1) = true := rgOk_of (by omega) (by omega)
theorem small4 {n : Nat} (h : n ≤ 30) : smallI (((n : Int) + 1) * 4) = true := smallI_of (by omega) (by omega)
theorem rep_one (n : Nat) (i : Nat) : repD n [D.int (i : Nat)] = ((List.range n).map fun _ => i).map eN := by
  unfold repD
  rw [List.map_map]
  apply List.ext_getElem
  · simp
  · intro j h1 h2
    simp [eN]
theorem own_mul {n i : Nat} (h : n ≤ 30) : mulD (.lst [.int (i : Nat)]) (.int ((n : Int) + 1)) = some (.lst (((List.range (n + 1)).map fun _ => i).map eN)) := by
  have s2 : ((n : Int) + 1).toNat = n + 1 := by omega
  have s3 : lineB ([D.int (i : Nat)].length * (n + 1)) = true := by
    have e : [D.int (i : Nat)].length = 1 := rfl
    rw [e]
    exact lineB_ok (by omega)
  rw [mulD_lst (small4 h) (by rw [s2]; exact s3), s2, rep_one]
theorem own_run {n i : Nat} {ds : List D} {ρ : Slots} {μ : Sto} {Q : QD} {E : QX} (h : mulD (.lst [.int (i : Nat)]) (.int ((n : Int) + 1)) = some (.lst ds)) (h3 : ρ[3]? = some (some (.int (i : Nat)))) (h5 : ρ[5]? = some (some (.int (n : Nat)))) :
    w2 mulD (wLst (aCons (wVar 3) aNil)) (w2 addD (wVar 5) (wC (.int 1))) ρ μ Q E = Q (.lst ds) μ := by
  refine w2_of (x := .lst [.int (i : Nat)]) (y := .int ((n : Int) + 1)) ?_ ?_ rfl rfl h
  · intro Q E
    simp only [wLst, aCons, aNil, wVar, h3, List.length_cons, List.length_nil, Nat.zero_add, lineBs]
  · intro Q E
    simp only [w2, wVar, wC, h5, look, addD]
theorem m_init {G : List Gar} {E0 : List LE} (h : GarsOk G) (he : ∀ e ∈ E0, LEok G e) (hL : E0.length ≤ 30) {b : MO} (Q : QD) (E : QX) :
    c_Walk_init [.mref 1, .tup (G.map eG), .tup (E0.map (eEnt G))] [b, .ins 1 []] Q E
    = Q .non (walkS b (owners G E0) (lives G E0) (tallies G E0 E0) (loadsFrom G E0 [] E0) (looks G E0) [.dct (hereL G E0 E0)]) := by
  rw [u_Walk_init rfl]
  unfold w_Walk_init
  have hbeg : ∀ k, beg E0 k ≤ 30 := fun k => by
    have : ∀ E : List LE, beg E k ≤ E.length := by
      intro E
      induction E with
      | nil => simp [beg]
      | cons e r ih =>
        cases e with
        | wash _ _ _ => simp only [beg, List.length_cons]; omega
        | renew k' => simp only [beg, List.length_cons]; split <;> omega
    have := this E0
    omega
  have hbl : ∀ i, i ≤ 8 → base (lv G E0) i ≤ 31 * i := fun i hi => by
    have : ∀ (N : List Nat) (i : Nat), (∀ n ∈ N, n ≤ 31) → base N i ≤ 31 * i := by
      intro N
      induction N with
      | nil => intro i _; cases i <;> simp [base]
      | cons n N ih =>
        intro i hn
        cases i with
        | zero => simp [base]
        | succ i =>
          have := ih i fun x hx => hn x (List.mem_cons_of_mem _ hx)
          have := hn n (by simp)
          simp only [base]
          omega
    refine this _ _ fun n hn => ?_
    unfold lv at hn
    obtain ⟨k, _, e⟩ := List.mem_map.mp hn
    have := hbeg k
    omega
  have hrow : ∀ {α : Type} (i : Nat) (f : Nat → Nat → α), i ≤ G.length → (row ((lv G E0).take i) f).length ≤ 248 := fun i f hi => by
    rw [row_len]
    have e1 : ((lv G E0).take i).length = i := by rw [List.length_take, lv_len]; omega
    have e2 : ∀ (N : List Nat) (i j : Nat), j ≤ i → base (N.take i) j = base N j := by
      intro N
      induction N with
      | nil => intro i j _; simp
      | cons n N ih =>
        intro i j hj
        cases j with
        | zero => simp [base]
        | succ j =>
          cases i with
          | zero => omega
          | succ i =>
            simp only [List.take_succ_cons, base, ih i j (by omega)]
    rw [e1, e2 _ _ _ (Nat.le_refl _)]
    have := hbl i (by have := h.hi; omega)
    have := h.hi
    omega
  have n12 : Nat.beq 1 2 = false := rfl
  have n13 : Nat.beq 1 3 = false := rfl
  simp only [wp0, wp1, lk_mref, lineBs, Nat.beq_refl, List.append_nil, List.length_cons, List.length_nil, Nat.zero_add, Nat.reduceAdd, List.getElem?_cons_zero, List.getElem?_cons_succ, List.set_cons_zero, List.set_cons_succ, Bool.not_true, Bool.not_false, setAts, List.cons_append, List.nil_append]
  have ex : enumD 0 (G.map eG) = (G.zipIdx 0).map fun p => .tup [.int (p.2 : Nat), eG p.1] := enum_map eG G 0
  rw [ex]
  refine for_foldR (fun (i : Nat) (p : Gar × Nat) => i + 1) (fun xs i ρ μ => (i ≤ G.length ∧ xs = (G.drop i).zipIdx i) ∧ (∃ f1 f2 f3, ρ = [some (.mref 1), some (.tup (G.map eG)), some (.tup (E0.map (eEnt G))), f1, f2, f3, none, none]) ∧
    μ = [b, .ins 1 [.mref 2, .mref 3], .lst ((row ((lv G E0).take i) fun k _ => k).map eN), .lst ((row ((lv G E0).take i) fun k j => (gN G k, j)).map eLv)]) (G.zipIdx 0) 0 _ _ ⟨⟨Nat.zero_le _, by rw [List.drop_zero]⟩, ⟨none, none, none, rfl⟩, rfl⟩ ?_ ?_
  · rintro ⟨g, i0⟩ r i ρ μ ⟨⟨hi, hx⟩, ⟨f1, f2, f3, e1⟩, e2⟩
    have hlt : i < G.length := by
      by_cases q : i < G.length
      · exact q
      · rw [List.drop_of_length_le (by omega)] at hx
        simp at hx
    rw [List.drop_eq_getElem_cons hlt, List.zipIdx_cons] at hx
    injection hx with hx1 hx2
    injection hx1 with hx3 hx4
    have hx5 := hx4.symm
    subst hx5
    subst e1 e2
    have hg : eG g = .tup [.str (gN G i), .str g.d, .int g.t] := by
      unfold Bk.gN
      rw [List.getElem?_eq_getElem hlt, hx3]
      rfl
    clear hx3
    have hts : (lv G E0).take (i + 1) = (lv G E0).take i ++ [beg E0 i + 1] := by
      rw [List.take_succ, lv_at hlt]
      rfl
    have htl : ((lv G E0).take i).length = i := by rw [List.length_take, lv_len]; omega
    have b1 : Nat.blt (E0.map (eEnt G)).length 16777216 = true := blt_ok (by rw [List.length_map]; omega)
    have ren := renews h he hlt
    have hb1 := hbeg i
    have l1 := hrow i (fun k _ => k) hi
    have l2 := hrow i (fun k j => (gN G k, j)) hi
    refine ⟨_, rfl, _, _, ⟨⟨hlt, hx2⟩, ⟨some (.int i), some (eG g), some (.int (beg E0 i : Nat)), rfl⟩, rfl⟩, fun k => ?_⟩
    rw [hg]
    simp only [wp0, wp1, lk_mref, lineBs, Nat.beq_refl, List.append_nil, List.length_cons, List.length_nil, Nat.zero_add, Nat.reduceAdd, List.getElem?_cons_zero, List.getElem?_cons_succ, List.set_cons_zero, List.set_cons_succ, Bool.not_true, Bool.not_false, b1]
    rw [lc_map (fun e => match e with
      | .renew k' => decide (gN G k' = gN G i)
      | .wash .. => false) (eEnt G)]
    · have m1 := own_mul (i := i) hb1
      have n1 : Nat.ble ((row ((lv G E0).take i) fun k _ => k).length + (List.range (beg E0 i + 1)).length) 16777216 = true := ble_ok (by
        rw [List.length_range]
        omega)
      have n2 : Nat.ble ((row ((lv G E0).take i) fun k j => (Bk.gN G k, j)).length + (List.range (beg E0 i + 1)).length) 16777216 = true := ble_ok (by
        rw [List.length_range]
        omega)
      have n22 : Nat.beq 2 2 = true := rfl
      have r1 := rg_small hb1
      have r2 : (((beg E0 i : Nat) : Int) + 1).toNat = beg E0 i + 1 := by omega
      have b2 : Nat.blt (List.range (beg E0 i + 1)).length 16777216 = true := blt_ok (by rw [List.length_range]; omega)
      simp only [wp0, wp1, lk_mref, lineBs, Nat.beq_refl, List.append_nil, List.length_cons, List.length_nil, Nat.zero_add, Nat.reduceAdd, List.getElem?_cons_zero, List.getElem?_cons_succ, List.set_cons_zero, List.set_cons_succ, Bool.not_true, Bool.not_false, List.length_map, ren]
      rw [fldaug (k := 1) (l := 2) (fun Q E => rfl) rfl rfl (ys := ((List.range (beg E0 i + 1)).map fun _ => i).map eN) (fun Q E => own_run m1 rfl rfl) rfl (by simp only [List.length_map, List.length_range]; omega) (by decide)]
      simp only [wp0, wp1, lk_mref, lineBs, Nat.beq_refl, List.append_nil, List.length_cons, List.length_nil, Nat.zero_add, Nat.reduceAdd, List.getElem?_cons_zero, List.getElem?_cons_succ, List.set_cons_zero, List.set_cons_succ, Bool.not_true, Bool.not_false, ]
      rw [fldaug (k := 1) (l := 3) (fun Q E => rfl) rfl rfl (ys := (List.range (beg E0 i + 1)).map fun j => eLv (Bk.gN G i, j)) (fun Q E => by
        have b2' : Nat.blt ((List.range (beg E0 i + 1)).map fun j => D.int (0 + (j : Nat))).length 16777216 = true := blt_ok (by rw [List.length_map, List.length_range]; omega)
        simp only [wp0, wp1, lk_mref, lineBs, Nat.beq_refl, List.append_nil, List.length_cons, List.length_nil, Nat.zero_add, Nat.reduceAdd, List.getElem?_cons_zero, List.getElem?_cons_succ, List.set_cons_zero, List.set_cons_succ, Bool.not_true, Bool.not_false, r1, r2, rng_map, b2']
        rw [lc_all (fun j => eLv (Bk.gN G i, j))]
        intro j hj
        have z1 : (0 : Int) + (j : Nat) = (j : Nat) := by omega
        refine ⟨_, rfl, fun Q E => ?_⟩
        simp only [wp0, wp1, lk_mref, lineBs, Nat.beq_refl, List.append_nil, List.length_cons, List.length_nil, Nat.zero_add, Nat.reduceAdd, List.getElem?_cons_zero, List.getElem?_cons_succ, List.set_cons_zero, List.set_cons_succ, Bool.not_true, Bool.not_false, z1]
        rfl) rfl (by simp only [List.length_map, List.length_range]; omega) (by decide)]
      simp only [wp0, wp1, lk_mref, lineBs, Nat.beq_refl, List.append_nil, List.length_cons, List.length_nil, Nat.zero_add, Nat.reduceAdd, List.getElem?_cons_zero, List.getElem?_cons_succ, List.set_cons_zero, List.set_cons_succ, Bool.not_true, Bool.not_false, ]
      rw [hts, row_snoc, row_snoc, htl]
      simp only [List.map_append, List.map_map]
      rfl
    · intro e hee
      have hok := he e hee
      cases e with
      | wash ks s u =>
        have i1 : eqqD (.str [119, 97, 115, 104]) (.str [114, 101, 110, 101, 119]) = some (.bl false) := rfl
        refine ⟨_, rfl, fun Q E => ?_, fun hh => by cases hh⟩
        simp only [wp0, wp1, lk_mref, lineBs, Nat.beq_refl, List.append_nil, List.length_cons, List.length_nil, Nat.zero_add, Nat.reduceAdd, List.getElem?_cons_zero, List.getElem?_cons_succ, List.set_cons_zero, List.set_cons_succ, Bool.not_true, Bool.not_false, i1, eEnt]
      | renew k0 =>
        have hk0 : k0 < G.length := hok
        have i1 : eqqD (.str [114, 101, 110, 101, 119]) (.str [114, 101, 110, 101, 119]) = some (.bl true) := rfl
        have i2 : eqqD (.tup [.str (gN G k0)]) (.tup [.str (gN G i)]) = some (.bl (decide (gN G k0 = gN G i))) := by
          have o1 := (gN_ok h hk0).okc
          have o2 := (gN_ok h hlt).okc
          have p1 : ∀ {s : Tx}, okc s = true → pureD 60 (.tup [.str s]) = true := fun {s} hs => by
            show pureDs 59 [.str s] = true
            simp only [pureDs, pure_str, hs]
          simp only [eqqD, p1 o1, p1 o2, Bool.and_self, eqD, eqDs, eqTx_dec]
          cases decide (gN G k0 = gN G i) <;> rfl
        refine ⟨_, rfl, fun Q E => ?_, fun hh Q E => ?_⟩
        · simp only [wp0, wp1, lk_mref, lineBs, Nat.beq_refl, List.append_nil, List.length_cons, List.length_nil, Nat.zero_add, Nat.reduceAdd, List.getElem?_cons_zero, List.getElem?_cons_succ, List.set_cons_zero, List.set_cons_succ, Bool.not_true, Bool.not_false, i1, i2, eEnt]
        · simp only [wp0, wp1, lk_mref, lineBs, Nat.beq_refl, List.append_nil, List.length_cons, List.length_nil, Nat.zero_add, Nat.reduceAdd, List.getElem?_cons_zero, List.getElem?_cons_succ, List.set_cons_zero, List.set_cons_succ, Bool.not_true, Bool.not_false, ]
  · rintro ρ μ ⟨⟨hi, hx⟩, ⟨f1, f2, f3, e1⟩, e2⟩
    subst e1 e2
    have hf : (G.zipIdx 0).foldl (fun (i : Nat) (p : Gar × Nat) => i + 1) 0 = G.length := by
      have : ∀ (xs : List (Gar × Nat)) (n : Nat), xs.foldl (fun (i : Nat) (p : Gar × Nat) => i + 1) n = n + xs.length := by
        intro xs
        induction xs with
        | nil => intro n; rfl
        | cons x r ih => intro n; rw [List.foldl_cons, ih, List.length_cons]; omega
      rw [this, List.length_zipIdx]
      omega
    rw [hf]
    have ht : (lv G E0).take G.length = lv G E0 := List.take_of_length_le (by rw [lv_len]; exact Nat.le_refl _)
    rw [ht]
    have e1 : row (lv G E0) (fun k _ => k) = owners G E0 := rfl
    have e2 : row (lv G E0) (fun k j => (Bk.gN G k, j)) = lives G E0 := rfl
    rw [e1, e2]
    have hll : (lives G E0).length ≤ 248 := by
      have := hrow G.length (fun k j => (Bk.gN G k, j)) (Nat.le_refl _)
      rw [ht, e2] at this
      exact this
    have mb : mulB ((lives G E0).length : Int) = true := Nat.ble_eq_true_of_le (show (lives G E0).length + 1 ≤ 100000 by omega)
    have n1 : Nat.ble 1 100 = true := rfl
    have tn : ((lives G E0).length : Int).toNat = (lives G E0).length := by omega
    simp only [wp0, wp1, lk_mref, lineBs, Nat.beq_refl, List.append_nil, List.length_cons, List.length_nil, Nat.zero_add, Nat.reduceAdd, List.getElem?_cons_zero, List.getElem?_cons_succ, List.set_cons_zero, List.set_cons_succ, Bool.not_true, Bool.not_false, List.length_map, mb, n1, tn, repL_one, Bool.and_self, setAts, List.cons_append, List.nil_append]
    rw [← zeros_eq]
    exact m_go h he hL (fun _ μ1 => Q .non μ1) E
end K58

namespace Bk
open Pk
/-- a book, as data -/
def walkD (G : List Gar) (E : List LE) : D := .ins 1 [.lst ((owners G E).map eN), .lst ((lives G E).map eLv), .lst ((tallies G E E).map eN), .lst ((loadsFrom G E [] E).map eLoad), .lst ((looks G E).map eLook), .lst ((looks G E).map eSpan)]
def bookD (G : List Gar) (E : List LE) : D := .ins 0 [.tup (G.map eG), .tup ((E.map (lineOf G)).map .str), .tup (E.map (eEnt G)), walkD G E]
theorem noM_walk (G : List Gar) (E : List LE) : noM (walkD G E) = true := by
  simp only [walkD, noM, noMs, noMs_eN, noMs_eLv, noMs_eLoad, noMs_eLook, noMs_eSpan]
theorem noM_book (G : List Gar) (E : List LE) : noM (bookD G E) = true := by
  have h1 : noMs (E.map (eEnt G)) = true := noMs_map (fun e => noM_eEnt e) E
  simp only [bookD, noM, noMs, noMs_G, noMs_S, h1, noM_walk]
end Bk
namespace K58
open PySem PySem.Spec PyProof.Rows L2 Pk Bk
theorem m_book_init {G : List Gar} {E0 : List LE} (h : GarsOk G) (he : ∀ e ∈ E0, LEok G e) (hL : E0.length ≤ 30) (Q : QD) (E : QX) :
    c_Book_init [.mref 0, .tup (G.map eG), .tup ((E0.map (lineOf G)).map .str)] [.ins 0 []] Q E
    = Q .non (walkS (.ins 0 [.tup (G.map eG), .tup ((E0.map (lineOf G)).map .str), .tup (E0.map (eEnt G)), .mref 1]) (owners G E0) (lives G E0) (tallies G E0 E0) (loadsFrom G E0 [] E0) (looks G E0) [.dct (hereL G E0 E0)]) := by
  rw [u_Book_init rfl]
  unfold w_Book_init
  have c1 := fun μ Q E => m_check_garments h μ Q E
  have c2 := fun μ Q E => m_check_lines h he hL μ Q E
  have b1 : Nat.blt (((E0.map (lineOf G)).map D.str)).length 16777216 = true := blt_ok (by rw [List.length_map, List.length_map]; omega)
  simp only [wp0, wp1, lk_mref, lineBs, Nat.beq_refl, List.append_nil, List.length_cons, List.length_nil, Nat.zero_add, Nat.reduceAdd, List.getElem?_cons_zero, List.getElem?_cons_succ, List.set_cons_zero, List.set_cons_succ, Bool.not_true, Bool.not_false, c1, c2, b1, setAts, List.cons_append, List.nil_append]
  have e1 : (E0.map (lineOf G)).map D.str = E0.map fun e => .str (lineOf G e) := by rw [List.map_map] <;> rfl
  rw [e1, lc_all (eEnt G)]
  · simp only [wp0, wp1, lk_mref, lineBs, Nat.beq_refl, List.append_nil, List.length_cons, List.length_nil, Nat.zero_add, Nat.reduceAdd, List.getElem?_cons_zero, List.getElem?_cons_succ, List.set_cons_zero, List.set_cons_succ, Bool.not_true, Bool.not_false, mkD, setAts, List.cons_append, List.nil_append]
    rw [m_init h he hL]
    simp only [wp0, wp1, lk_mref, lineBs, Nat.beq_refl, List.append_nil, List.length_cons, List.length_nil, Nat.zero_add, Nat.reduceAdd, List.getElem?_cons_zero, List.getElem?_cons_succ, List.set_cons_zero, List.set_cons_succ, Bool.not_true, Bool.not_false, setAts, walkS]
  · intro e hee
    have c3 := fun μ Q E => m_entry_in h (he e hee) μ Q E
    refine ⟨_, rfl, fun Q E => ?_⟩
    rw [← e1]
    simp only [wp0, wp1, lk_mref, lineBs, Nat.beq_refl, List.append_nil, List.length_cons, List.length_nil, Nat.zero_add, Nat.reduceAdd, List.getElem?_cons_zero, List.getElem?_cons_succ, List.set_cons_zero, List.set_cons_succ, Bool.not_true, Bool.not_false, c3]
theorem deep_no : ∀ {n : Nat} {μ : Sto} {d : D}, noM d = true → deepD n μ d = (d, μ)
  | 0, μ, d, _ => by cases d <;> rfl
  | n + 1, μ, d, h => by cases d <;> first | rfl | cases h
theorem maps_no {n : Nat} : ∀ {ds : List D} {μ : Sto}, noMs ds = true → mapS (deepD n) ds μ = (ds, μ)
  | [], μ, _ => rfl
  | d :: r, μ, h => by
    unfold noMs at h
    cases e : noM d with
    | false => rw [e] at h; cases h
    | true =>
      rw [e] at h
      simp only [mapS, deep_no e, maps_no (ds := r) h]
theorem deep_lst {n k : Nat} {μ : Sto} {ds : List D} (h : μ[k]? = some (.lst ds)) (hn : noMs ds = true) : deepD (n + 1) μ (.mref k) = (.lst ds, (μ.set k .gone).set k (.fz (.lst ds))) := by
  simp only [deepD, h, maps_no hn]
theorem deep_book {G : List Gar} {E0 : List LE} {he : List MO} : ∃ μ', deepD 9 (walkS (.ins 0 [.tup (G.map eG), .tup ((E0.map (lineOf G)).map .str), .tup (E0.map (eEnt G)), .mref 1]) (owners G E0) (lives G E0) (tallies G E0 E0) (loadsFrom G E0 [] E0) (looks G E0) he) (.mref 0) = (bookD G E0, μ') := by
  have h1 : noM (.tup (E0.map (eEnt G))) = true := noMs_map (fun e => noM_eEnt e) E0
  have d1 : ∀ n μ, deepD n μ (.tup (G.map eG)) = (.tup (G.map eG), μ) := fun n μ => deep_no (noM_tG G)
  have d2 : ∀ n μ, deepD n μ (.tup ((E0.map (lineOf G)).map .str)) = (.tup ((E0.map (lineOf G)).map .str), μ) := fun n μ => deep_no (noM_tS _)
  have d3 : ∀ n μ, deepD n μ (.tup (E0.map (eEnt G))) = (.tup (E0.map (eEnt G)), μ) := fun n μ => deep_no h1
  suffices hh : (deepD 9 (walkS (.ins 0 [.tup (G.map eG), .tup ((E0.map (lineOf G)).map .str), .tup (E0.map (eEnt G)), .mref 1]) (owners G E0) (lives G E0) (tallies G E0 E0) (loadsFrom G E0 [] E0) (looks G E0) he) (.mref 0)).1 = bookD G E0 from ⟨_, Prod.ext hh rfl⟩
  unfold walkS
  rw [deepD]
  simp only [List.getElem?_cons_zero, mapS, d1, d2, d3, List.set_cons_zero]
  rw [deepD]
  simp only [List.getElem?_cons_zero, List.getElem?_cons_succ, mapS, List.set_cons_zero, List.set_cons_succ]
  rw [deep_lst rfl (noMs_eN _)]
  simp only [List.set_cons_zero, List.set_cons_succ]
  rw [deep_lst rfl (noMs_eLv _)]
  simp only [List.set_cons_zero, List.set_cons_succ]
  rw [deep_lst rfl (noMs_eN _)]
  simp only [List.set_cons_zero, List.set_cons_succ]
  rw [deep_lst rfl (noMs_eLoad _)]
  simp only [List.set_cons_zero, List.set_cons_succ]
  rw [deep_lst rfl (noMs_eLook _)]
  simp only [List.set_cons_zero, List.set_cons_succ]
  rw [deep_lst rfl (noMs_eSpan _)]
  rfl
/-- a book is made -/
theorem book_make {G : List Gar} {E0 : List LE} (h : GarsOk G) (he : ∀ e ∈ E0, LEok G e) (hL : E0.length ≤ 30) {wa : WA} {ρ : Slots} {μ : Sto} {Q : QD} {E : QX}
    (ha : ∀ Q E, wa (ρ.map hideM) [] Q E = Q [.tup (G.map eG), .tup ((E0.map (lineOf G)).map .str)] []) : wLoc (wFz 9 (wMake 0 c_Book_init 3 [] wa)) ρ μ Q E = Q (bookD G E0) μ := by
  obtain ⟨μ', e⟩ := deep_book (G := G) (E0 := E0) (he := [.dct (hereL G E0 E0)])
  simp only [wLoc, wFz, wMake]
  rw [ha]
  have hb : ∀ n, Nat.beq n n = true := Nat.beq_refl
  simp only [mkD, List.append_nil, List.length_cons, List.length_nil, Nat.zero_add, Nat.reduceAdd, hb, List.nil_append]
  rw [m_book_init h he hL]
  simp only [e, noM_book]
end K58

/-! Bounds as plain data. -/
namespace Bk
open Pk
def geti (f : List Int) (k : Nat) : Int := (f[k]?).getD 0
def lower (f : List Int) (p : Nat × Nat) : List Int := f.set p.1 (match decide ((p.2 : Int) - 1 < geti f p.1) with
  | true => (p.2 : Int) - 1
  | false => geti f p.1)
def topStep (f : List Int) (l : Lk) : List Int := match l.sn with
  | true => f
  | false => l.sp.foldl lower f
def topsB (T : List Int) (L : List Lk) : List Int := L.foldl topStep T
def anyUp (g : List Int) (sp : List (Nat × Nat)) : Bool := sp.any fun p => decide ((p.2 : Int) ≤ geti g p.1)
def fitsT (L : List Lk) (g : List Int) : Bool := L.all fun l => !l.sn || anyUp g l.sp
def othersUp (g : List Int) (sp : List (Nat × Nat)) (k : Nat) : Bool := (sp.filter fun p => !decide (p.1 = k)).any fun p => decide ((p.2 : Int) ≤ geti g p.1)
def numOf : List (Nat × Nat) → Nat → Option Nat
  | [], _ => none
  | p :: r, k => match decide (p.1 = k) with
    | true => some p.2
    | false => numOf r k
def leastStep (g : List Int) (k : Nat) (f : Int) (l : Lk) : Int := match l.sn with
  | true => match numOf l.sp k with
    | some n => match othersUp g l.sp k with
      | true => f
      | false => (match decide ((n : Int) > f) with
        | true => (n : Int)
        | false => f)
    | none => f
  | false => f
def leastB (L : List Lk) (g : List Int) (k : Nat) : Int := L.foldl (leastStep g k) 0
def mostsI (G : List Gar) (E : List LE) : List Int := (mosts G E).map Int.ofNat
def topsL (G : List Gar) (E : List LE) : List Int := topsB (mostsI G E) (looks G E)
def possL (G : List Gar) (E : List LE) : Bool := fitsT (looks G E) (topsL G E)
def knownL (G : List Gar) (E : List LE) : List (Int × Int) := (topsL G E).zipIdx.map fun p => (leastB (looks G E) (topsL G E) p.2, p.1)
/-! ### what looks are -/
theorem looksFrom_mem {G : List Gar} {E : List LE} {l : Lk} : ∀ {r a : List LE}, l ∈ looksFrom G E a r → ∃ b ks s u c, r = b ++ .wash ks s u :: c ∧ l.at_ = (a ++ b).length ∧ (l.dye, l.sn) ∈ looked G ks s u ∧ l.sp = prsD G E (a ++ b) ks l.dye
  | [], a, h => by simp [looksFrom] at h
  | x :: r, a, h => by
    simp only [looksFrom, List.mem_append] at h
    rcases h with h | h
    · cases x with
      | renew k => simp [looksOf] at h
      | wash ks s u =>
        simp only [looksOf, List.mem_map] at h
        obtain ⟨p, hp, e⟩ := h
        subst e
        exact ⟨[], ks, s, u, r, rfl, by simp, hp, by simp⟩
    · obtain ⟨b, ks, s, u, c, e1, e2, e3, e4⟩ := looksFrom_mem h
      refine ⟨x :: b, ks, s, u, c, by rw [e1]; rfl, ?_, e3, ?_⟩
      · rw [e2]
        simp
      · rw [e4]
        simp
theorem looks_mem {G : List Gar} {E : List LE} {l : Lk} (h : l ∈ looks G E) : ∃ pre ks s u rest, E = pre ++ .wash ks s u :: rest ∧ l.at_ = pre.length ∧ (l.dye, l.sn) ∈ looked G ks s u ∧ l.sp = prsD G E pre ks l.dye := by
  obtain ⟨b, ks, s, u, c, e1, e2, e3, e4⟩ := looksFrom_mem h
  exact ⟨b, ks, s, u, c, e1, by simpa using e2, e3, by simpa using e4⟩
theorem mosts_len {G : List Gar} {E : List LE} : (mosts G E).length = base (lv G E) G.length := by
  unfold mosts
  rw [row_len, lv_len]
theorem lives_len {G : List Gar} {E : List LE} : (lives G E).length = base (lv G E) G.length := by
  unfold lives
  rw [row_len, lv_len]
theorem prsD_sub {G : List Gar} {E pre : List LE} {ks : List Nat} {d : Tx} {p : Nat × Nat} (h : p ∈ prsD G E pre ks d) : p ∈ prs G E pre ks := by
  unfold prsD at h
  obtain ⟨k, hk, e⟩ := List.mem_map.mp h
  unfold prs
  exact List.mem_map.mpr ⟨k, (List.mem_filter.mp hk).1, e⟩
theorem span_lt {G : List Gar} {E : List LE} {l : Lk} (h : l ∈ looks G E) {p : Nat × Nat} (hp : p ∈ l.sp) : p.1 < base (lv G E) G.length ∧ 1 ≤ p.2 := by
  obtain ⟨pre, ks, s, u, rest, e1, e2, e3, e4⟩ := looks_mem h
  rw [e4] at hp
  have hb : ∀ k, beg pre k ≤ beg E k := fun k => by rw [e1]; exact beg_le _ _ _
  have h1 := prsD_sub hp
  refine ⟨life_lt hb h1, ?_⟩
  unfold prs at h1
  obtain ⟨k, _, e⟩ := List.mem_map.mp h1
  subst e
  simp
theorem span_nodup {G : List Gar} {E : List LE} {l : Lk} (h : l ∈ looks G E) : (l.sp.map (·.1)).Nodup := by
  obtain ⟨pre, ks, s, u, rest, e1, e2, e3, e4⟩ := looks_mem h
  have hb : ∀ k, beg pre k ≤ beg E k := fun k => by rw [e1]; exact beg_le _ _ _
  rw [e4, ← prsD_eq hb]
  have h1 := prs_rises (G := G) (ks := ks) hb
  have h2 : (((prs G E pre ks).filter fun p => decide (gD G (((owners G E)[p.1]?).getD 0) = l.dye)).map (·.1)).Pairwise (· < ·) := h1.sublist (List.filter_sublist.map _)
  rw [List.nodup_iff_pairwise_ne]
  exact h2.imp fun h => by omega
theorem span_short {G : List Gar} {E : List LE} {l : Lk} (h : l ∈ looks G E) : l.sp.length ≤ G.length := by
  obtain ⟨pre, ks, s, u, rest, e1, e2, e3, e4⟩ := looks_mem h
  rw [e4]
  unfold prsD
  rw [List.length_map]
  have h1 := List.length_filter_le (fun k => decide (gD G k = l.dye)) (plc G ks)
  have h2 := List.length_filter_le (fun k => decide (k ∈ ks)) (List.range G.length)
  rw [List.length_range] at h2
  unfold plc at h1
  unfold plc
  omega
theorem lower_len (f : List Int) (p : Nat × Nat) : (lower f p).length = f.length := by
  unfold lower
  rw [List.length_set]
theorem lowers_len : ∀ (sp : List (Nat × Nat)) (f : List Int), (sp.foldl lower f).length = f.length
  | [], f => rfl
  | p :: r, f => by rw [List.foldl_cons, lowers_len r, lower_len]
theorem topStep_len (f : List Int) (l : Lk) : (topStep f l).length = f.length := by
  unfold topStep
  cases l.sn with
  | true => rfl
  | false => exact lowers_len _ _
theorem topsB_len : ∀ (L : List Lk) (T : List Int), (topsB T L).length = T.length
  | [], T => rfl
  | l :: r, T => by
    show (topsB (topStep T l) r).length = _
    rw [topsB_len r, topStep_len]
theorem topsL_len {G : List Gar} {E : List LE} : (topsL G E).length = base (lv G E) G.length := by
  unfold topsL
  rw [topsB_len]
  unfold mostsI
  rw [List.length_map, mosts_len]
end Bk

namespace K58
open PySem PySem.Spec PyProof.Rows L2 Pk Bk
section
variable {G : List Gar} {E0 : List LE}
structure BookOk (G : List Gar) (E0 : List LE) : Prop where
  g : GarsOk G
  e : ∀ e ∈ E0, LEok G e
  l : E0.length ≤ 30
theorem m_lives : Ret c_Book_lives [bookD G E0] (.tup ((lives G E0).map eLv)) := by
  refine r_Book_lives (by simp only [noMs, noM_book]) (noMs_eLv _) fun Q E => ⟨[], ?_⟩
  unfold w_Book_lives bookD walkD
  simp only [wp0, wp1, lk_mref, lineBs, Nat.beq_refl, List.append_nil, List.length_cons, List.length_nil, Nat.zero_add, Nat.reduceAdd, List.getElem?_cons_zero, List.getElem?_cons_succ, List.set_cons_zero, List.set_cons_succ, Bool.not_true, Bool.not_false, ]
theorem m_looks : Ret c_Book_looks [bookD G E0] (.tup ((looks G E0).map eLook)) := by
  refine r_Book_looks (by simp only [noMs, noM_book]) (noMs_eLook _) fun Q E => ⟨[], ?_⟩
  unfold w_Book_looks bookD walkD
  simp only [wp0, wp1, lk_mref, lineBs, Nat.beq_refl, List.append_nil, List.length_cons, List.length_nil, Nat.zero_add, Nat.reduceAdd, List.getElem?_cons_zero, List.getElem?_cons_succ, List.set_cons_zero, List.set_cons_succ, Bool.not_true, Bool.not_false, ]
theorem m_spans : Ret c_Book_spans [bookD G E0] (.tup ((looks G E0).map eSpan)) := by
  refine r_Book_spans (by simp only [noMs, noM_book]) (noMs_eSpan _) fun Q E => ⟨[], ?_⟩
  unfold w_Book_spans bookD walkD
  simp only [wp0, wp1, lk_mref, lineBs, Nat.beq_refl, List.append_nil, List.length_cons, List.length_nil, Nat.zero_add, Nat.reduceAdd, List.getElem?_cons_zero, List.getElem?_cons_succ, List.set_cons_zero, List.set_cons_succ, Bool.not_true, Bool.not_false, ]
theorem m_garments : Ret c_Book_garments [bookD G E0] (.tup (G.map eG)) := by
  refine r_Book_garments (by simp only [noMs, noM_book]) (noM_tG G) fun Q E => ⟨[], ?_⟩
  unfold w_Book_garments bookD walkD
  simp only [wp0, wp1, lk_mref, lineBs, Nat.beq_refl, List.append_nil, List.length_cons, List.length_nil, Nat.zero_add, Nat.reduceAdd, List.getElem?_cons_zero, List.getElem?_cons_succ, List.set_cons_zero, List.set_cons_succ, Bool.not_true, Bool.not_false, ]
theorem m_check_book : Ret c_check_book [bookD G E0] .non := by
  refine r_check_book (by simp only [noMs, noM_book]) rfl fun Q E => ⟨[], ?_⟩
  have h1 : isiC 0 (bookD G E0) (.cls 0) = some (.bl true) := rfl
  have h2 : look [] (bookD G E0) = bookD G E0 := rfl
  unfold w_check_book
  simp only [wp0, wp1, lk_mref, lineBs, Nat.beq_refl, List.append_nil, List.length_cons, List.length_nil, Nat.zero_add, Nat.reduceAdd, List.getElem?_cons_zero, List.getElem?_cons_succ, List.set_cons_zero, List.set_cons_succ, Bool.not_true, Bool.not_false, h1, h2]
def bookFs (G : List Gar) (E0 : List LE) : List D := [.tup (G.map eG), .tup ((E0.map (lineOf G)).map .str), .tup (E0.map (eEnt G)), walkD G E0]
theorem lkb (μ : Sto) : look μ (bookD G E0) = .ins 0 (bookFs G E0) := rfl
theorem cgar (μ : Sto) (Q : QD) (E : QX) : c_Book_garments [bookD G E0] μ Q E = Q (.tup (G.map eG)) μ := m_garments μ Q E
theorem cliv (μ : Sto) (Q : QD) (E : QX) : c_Book_lives [bookD G E0] μ Q E = Q (.tup ((lives G E0).map eLv)) μ := m_lives μ Q E
theorem cloo (μ : Sto) (Q : QD) (E : QX) : c_Book_looks [bookD G E0] μ Q E = Q (.tup ((looks G E0).map eLook)) μ := m_looks μ Q E
theorem cspa (μ : Sto) (Q : QD) (E : QX) : c_Book_spans [bookD G E0] μ Q E = Q (.tup ((looks G E0).map eSpan)) μ := m_spans μ Q E
theorem cchk (μ : Sto) (Q : QD) (E : QX) : c_check_book [bookD G E0] μ Q E = Q .non μ := m_check_book μ Q E
theorem m_top_of (h : BookOk G E0) {l : Nat} (hl : l < base (lv G E0) G.length) : Ret c_top_of [bookD G E0, .int (l : Nat)] (.int (((mosts G E0)[l]?).getD 0 : Nat)) := by
  have hl' : l < base (lv G E0) (lv G E0).length := by rw [lv_len]; exact hl
  obtain ⟨k, j, n, h1, h2, h3⟩ := row_split hl'
  have hk : k < G.length := by
    have := (List.getElem?_eq_some_iff.mp h1).1
    rw [lv_len] at this
    exact this
  have e1 : (lives G E0)[l]? = some (gN G k, j) := by unfold lives; rw [h3]; exact row_get h1 h2
  have e2 : (mosts G E0)[l]? = some (Bk.gT G k) := by unfold mosts; rw [h3]; exact row_get h1 h2
  have c5 := fun μ Q E => m_names_in (G := G) h.g.hi μ Q E
  have g1 : nthG ((lives G E0).map eLv) l = some (.tup [.str (gN G k), .int (j : Nat)]) := by
    rw [nth_map, nthG_eq, e1]
    rfl
  have okG : ∀ t ∈ G.map (·.n), okc t = true := fun t ht => by
    obtain ⟨g, hg, e⟩ := List.mem_map.mp ht
    subst e
    exact (h.g.ok g hg).n.okc
  have p1 : pureD 60 (.lst ((G.map (·.n)).map .str)) = true := by show pureDs 59 _ = true; exact pures_strs okG
  have p2 : pureD 60 (.str (gN G k)) = true := by rw [pure_str]; exact (gN_ok h.g hk).okc
  have i1 := idx_strs 0 (gN_mem hk)
  have i2 : (G.map (·.n)).idxOf (gN G k) = k := by
    have hk' : k < (G.map (·.n)).length := by rw [List.length_map]; exact hk
    have : (G.map (·.n))[k] = gN G k := by
      unfold Bk.gN
      rw [List.getElem?_eq_getElem hk]
      simp
    rw [← this]
    exact idx_nodup hk' h.g.nd
  rw [i2, Nat.zero_add] at i1
  have g2 : nthG (G.map eG) k = some (eG G[k]) := by
    rw [nth_map, nthG_eq, List.getElem?_eq_getElem hk]
    rfl
  have g3 : ixD (eG G[k]) (.int 2) = some (.int (Bk.gT G k : Nat)) := by
    unfold Bk.gT
    rw [List.getElem?_eq_getElem hk]
    rfl
  have hg : Ret c_garment_of [bookD G E0, .int (l : Nat)] (eG G[k]) := by
    refine r_garment_of (by simp only [noMs, noM_book, noM]) rfl fun Q E => ⟨[], ?_⟩
    unfold w_garment_of
    simp only [wp0, wp1, lk_mref, lineBs, Nat.beq_refl, List.append_nil, List.length_cons, List.length_nil, Nat.zero_add, Nat.reduceAdd, List.getElem?_cons_zero, List.getElem?_cons_succ, List.set_cons_zero, List.set_cons_succ, Bool.not_true, Bool.not_false, lkb, cgar, cliv, c5, isL, g1, idxF, p1, p2, i1, g2, Bool.and_self]
  refine r_top_of (by simp only [noMs, noM_book, noM]) rfl fun Q E => ⟨[], ?_⟩
  unfold w_top_of
  have hg' := fun μ Q E => hg μ Q E
  have hk2 : ∀ μ, look μ (eG G[k]) = eG G[k] := fun _ => rfl
  simp only [wp0, wp1, lk_mref, lineBs, Nat.beq_refl, List.append_nil, List.length_cons, List.length_nil, Nat.zero_add, Nat.reduceAdd, List.getElem?_cons_zero, List.getElem?_cons_succ, List.set_cons_zero, List.set_cons_succ, Bool.not_true, Bool.not_false, hg', hk2, g3, e2, Option.getD_some]
theorem nin_nil (i : Int) : ninD (.int i) (.tup []) = some (.bl true) := rfl
theorem geti_map {f : List Int} {k : Nat} (h : k < f.length) : nthG (f.map D.int) k = some (.int (geti f k)) := by
  rw [nth_map, nthG_eq, List.getElem?_eq_getElem h]
  unfold geti
  rw [List.getElem?_eq_getElem h]
  rfl
theorem look_at {l : Lk} {i : Nat} (h : (l, i) ∈ (looks G E0).zipIdx 0) : l ∈ looks G E0 ∧ nthG ((looks G E0).map eSpan) i = some (.ptp (l.sp.map eP)) := by
  have hm := List.mem_zipIdx h
  simp only [Nat.zero_add, Nat.sub_zero] at hm
  obtain ⟨_, hi, eg⟩ := hm
  refine ⟨eg ▸ List.getElem_mem _, ?_⟩
  rw [nth_map, nthG_eq, List.getElem?_eq_getElem hi, ← eg]
  rfl
theorem beg_len : ∀ (E : List LE) (k : Nat), beg E k ≤ E.length
  | [], k => by simp [beg]
  | .wash _ _ _ :: r, k => by have := beg_len r k; simp only [beg, List.length_cons]; omega
  | .renew k' :: r, k => by have := beg_len r k; simp only [beg, List.length_cons]; split <;> omega
theorem base_few : ∀ (N : List Nat) (i : Nat), (∀ n ∈ N, n ≤ 31) → base N i ≤ 31 * i
  | [], i, _ => by cases i <;> simp [base]
  | n :: N, 0, _ => by simp [base]
  | n :: N, i + 1, h => by
    have := base_few N i fun x hx => h x (List.mem_cons_of_mem _ hx)
    have := h n (by simp)
    simp only [base]
    omega
theorem lives_few (h : BookOk G E0) : base (lv G E0) G.length ≤ 248 := by
  have := base_few (lv G E0) G.length fun n hn => by
    unfold lv at hn
    obtain ⟨k, _, e⟩ := List.mem_map.mp hn
    have := beg_len E0 k
    have := h.l
    omega
  have := h.g.hi
  omega
theorem m_tops_of (h : BookOk G E0) : Ret c_tops_of [bookD G E0, .tup []] (.lst ((topsL G E0).map .int)) := by
  have hn : noMs ((topsL G E0).map D.int) = true := noMs_map (fun _ => rfl) _
  refine r_tops_of (by simp only [noMs, noM_book, noM]) hn fun Q E => ⟨[.fz (.lst ((topsL G E0).map .int))], ?_⟩
  have ll : (lives G E0).length = base (lv G E0) G.length := lives_len
  have hll := lives_few h
  have r1 : rgOk ((lives G E0).length : Int) = true := rgOk_of (by omega) (by omega)
  have r2 : ((lives G E0).length : Int).toNat = (lives G E0).length := by omega
  have b1 : Nat.blt ((List.range (lives G E0).length).map fun i => D.int (0 + (i : Nat))).length 16777216 = true := blt_ok (by rw [List.length_map, List.length_range]; omega)
  unfold w_tops_of
  simp only [wp0, wp1, lk_mref, lineBs, Nat.beq_refl, List.append_nil, List.length_cons, List.length_nil, Nat.zero_add, Nat.reduceAdd, List.getElem?_cons_zero, List.getElem?_cons_succ, List.set_cons_zero, List.set_cons_succ, Bool.not_true, Bool.not_false, lkb, cliv, r1, r2, rng_map, List.length_map (f := eLv), b1]
  rw [lc_all (fun i => .int (((mosts G E0)[i]?).getD 0 : Nat))]
  · have e1 : (List.range (lives G E0).length).map (fun i => D.int (((mosts G E0)[i]?).getD 0 : Nat)) = (mostsI G E0).map D.int := by
      unfold mostsI
      apply List.ext_getElem
      · simp [ll, mosts_len]
      · intro i h1 h2
        have hi : i < (mosts G E0).length := by
          rw [List.length_map, List.length_map] at h2
          exact h2
        simp [List.getElem?_eq_getElem hi]
    rw [e1]
    simp only [wp0, wp1, lk_mref, lineBs, Nat.beq_refl, List.append_nil, List.length_cons, List.length_nil, Nat.zero_add, Nat.reduceAdd, List.getElem?_cons_zero, List.getElem?_cons_succ, List.set_cons_zero, List.set_cons_succ, Bool.not_true, Bool.not_false, lkb, cloo, List.nil_append, List.length_nil]
    rw [enum_map]
    refine for_foldC (fun f (p : Lk × Nat) => topStep f p.1) (fun f ρ μ => f.length = base (lv G E0) G.length ∧ (∃ a b c d, ρ = [some (bookD G E0), some (.tup []), some (.mref 0), a, b, c, d]) ∧ μ = [.lst (f.map D.int)]) ((looks G E0).zipIdx 0) (mostsI G E0) _ _ ⟨by unfold mostsI; rw [List.length_map, mosts_len], ⟨none, none, none, none, rfl⟩, rfl⟩ ?_ ?_
    · rintro ⟨l, i⟩ f ρ μ hl ⟨hf, ⟨a, b, c, d, e2⟩, e3⟩
      subst e2 e3
      obtain ⟨hmem, hsp⟩ := look_at hl
      have k1 : ixD (eLook l) (.int 2) = some (.bl l.sn) := rfl
      have k2 : ∀ μ, look μ (eLook l) = eLook l := fun _ => rfl
      cases hs : l.sn with
      | true =>
        refine ⟨_, rfl, fun k R hk => ?_⟩
        rw [hs] at k1
        simp only [wp0, wp1, lk_mref, lineBs, Nat.beq_refl, List.append_nil, List.length_cons, List.length_nil, Nat.zero_add, Nat.reduceAdd, List.getElem?_cons_zero, List.getElem?_cons_succ, List.set_cons_zero, List.set_cons_succ, Bool.not_true, Bool.not_false, k1, k2]
        refine hk _ _ ⟨by rw [topStep_len]; exact hf, ⟨some (.int (i : Nat)), some (eLook l), c, d, rfl⟩, ?_⟩
        simp only [topStep, hs]
      | false =>
        refine ⟨_, rfl, fun k R hk => ?_⟩
        rw [hs] at k1
        simp only [wp0, wp1, lk_mref, lineBs, Nat.beq_refl, List.append_nil, List.length_cons, List.length_nil, Nat.zero_add, Nat.reduceAdd, List.getElem?_cons_zero, List.getElem?_cons_succ, List.set_cons_zero, List.set_cons_succ, Bool.not_true, Bool.not_false, k1, k2, nin_nil, lkb, cspa, hsp]
        refine for_fold lower (fun f ρ μ => f.length = base (lv G E0) G.length ∧ (∃ c d, ρ = [some (bookD G E0), some (.tup []), some (.mref 0), some (.int (i : Nat)), some (eLook l), c, d]) ∧ μ = [.lst (f.map D.int)]) l.sp f _ _ ⟨hf, ⟨c, d, rfl⟩, rfl⟩ ?_ ?_
        · rintro p f ρ μ hp ⟨hf, ⟨c, d, e2⟩, e3⟩
          subst e2 e3
          have hlt : p.1 < f.length := by rw [hf]; exact (span_lt hmem hp).1
          have g1 := geti_map hlt
          have g2 : setD (.lst (f.map D.int)) (.int (p.1 : Nat)) (.int (match decide ((p.2 : Int) - 1 < geti f p.1) with
            | true => (p.2 : Int) - 1
            | false => geti f p.1)) = some (.lst ((lower f p).map D.int)) := by
            rw [setD_nat (by rw [List.length_map]; exact hlt)]
            unfold lower
            rw [List.map_set]
            all_goals rfl
          have g3 : minD (.int (geti f p.1)) (.int ((p.2 : Int) - 1)) = some (.int (match decide ((p.2 : Int) - 1 < geti f p.1) with
            | true => (p.2 : Int) - 1
            | false => geti f p.1)) := rfl
          refine ⟨_, rfl, _, _, ⟨by rw [lower_len]; exact hf, ⟨some (.int (p.1 : Nat)), some (.int (p.2 : Nat)), rfl⟩, rfl⟩, fun k => ?_⟩
          simp only [wp0, wp1, lk_mref, lineBs, Nat.beq_refl, List.append_nil, List.length_cons, List.length_nil, Nat.zero_add, Nat.reduceAdd, List.getElem?_cons_zero, List.getElem?_cons_succ, List.set_cons_zero, List.set_cons_succ, Bool.not_true, Bool.not_false, g1, g2, g3]
        · rintro ρ μ ⟨hf, ⟨c, d, e2⟩, e3⟩
          subst e2 e3
          refine hk _ _ ⟨by rw [topStep_len]; assumption, ⟨_, _, _, _, rfl⟩, ?_⟩
          simp only [topStep, hs]
    · rintro ρ μ ⟨hf, ⟨a, b, c, d, e2⟩, e3⟩
      subst e2 e3
      have e4 : ((looks G E0).zipIdx 0).foldl (fun f (p : Lk × Nat) => topStep f p.1) (mostsI G E0) = topsL G E0 := by
        unfold topsL topsB
        have : ∀ (L : List Lk) (n : Nat) (f : List Int), (L.zipIdx n).foldl (fun f (p : Lk × Nat) => topStep f p.1) f = L.foldl topStep f := by
          intro L
          induction L with
          | nil => intro n f; rfl
          | cons l r ih => intro n f; rw [List.zipIdx_cons, List.foldl_cons, List.foldl_cons, ih]
        exact this _ _ _
      rw [e4]
      simp only [wp0, wp1, lk_mref, lineBs, Nat.beq_refl, List.append_nil, List.length_cons, List.length_nil, Nat.zero_add, Nat.reduceAdd, List.getElem?_cons_zero, List.getElem?_cons_succ, List.set_cons_zero, List.set_cons_succ, Bool.not_true, Bool.not_false, ]
      rw [fz_lst rfl (fun d hd μ => by obtain ⟨x, _, e⟩ := List.mem_map.mp hd; subst e; rfl)]
      rfl
  · intro i hi
    have hi' : i < base (lv G E0) G.length := by rw [← ll]; exact List.mem_range.mp hi
    have z1 : (0 : Int) + (i : Nat) = (i : Nat) := by omega
    have c1 := fun μ Q E => m_top_of h hi' μ Q E
    refine ⟨_, rfl, fun Q E => ?_⟩
    simp only [wp0, wp1, lk_mref, lineBs, Nat.beq_refl, List.append_nil, List.length_cons, List.length_nil, Nat.zero_add, Nat.reduceAdd, List.getElem?_cons_zero, List.getElem?_cons_succ, List.set_cons_zero, List.set_cons_succ, Bool.not_true, Bool.not_false, z1, c1]
theorem up_run {g : List Int} (hg : g.length = base (lv G E0) G.length) {l : Lk} (hl : l ∈ looks G E0) : ∀ p ∈ l.sp, nthG (g.map D.int) p.1 = some (.int (geti g p.1)) := fun p hp => geti_map (by rw [hg]; exact (span_lt hl hp).1)
theorem m_fits_tops (h : BookOk G E0) {g : List Int} (hg : g.length = base (lv G E0) G.length) : Ret c_fits_tops [bookD G E0, .lst (g.map .int), .tup []] (.bl (fitsT (looks G E0) g)) := by
  have hn : noMs (g.map D.int) = true := noMs_map (fun _ => rfl) _
  refine r_fits_tops (by simp only [noMs, noM_book, noM, hn]) rfl fun Q E => ⟨[], ?_⟩
  unfold w_fits_tops
  simp only [wp0, wp1, lk_mref, lineBs, Nat.beq_refl, List.append_nil, List.length_cons, List.length_nil, Nat.zero_add, Nat.reduceAdd, List.getElem?_cons_zero, List.getElem?_cons_succ, List.set_cons_zero, List.set_cons_succ, Bool.not_true, Bool.not_false, lkb, cloo]
  rw [enum_map]
  refine (for_rec (fun (xs : List (Lk × Nat)) (_ : Unit) => Q (.bl (xs.all fun p => !p.1.sn || anyUp g p.1.sp)) []) (fun _ ρ μ => (∃ a b c d e, ρ = [some (bookD G E0), some (.lst (g.map .int)), some (.tup []), a, b, c, d, e]) ∧ μ = []) ((looks G E0).zipIdx 0) () _ _ ⟨⟨none, none, none, none, none, rfl⟩, rfl⟩ ?_ ?_).trans ?_
  · rintro _ ρ μ ⟨⟨a, b, c, d, e, e1⟩, e2⟩
    subst e1 e2
    simp only [wp0, wp1, lk_mref, lineBs, Nat.beq_refl, List.append_nil, List.length_cons, List.length_nil, Nat.zero_add, Nat.reduceAdd, List.getElem?_cons_zero, List.getElem?_cons_succ, List.set_cons_zero, List.set_cons_succ, Bool.not_true, Bool.not_false, ]
    rfl
  · rintro ⟨l, i⟩ r _ ρ μ hl ⟨⟨a, b, c, d, e, e1⟩, e2⟩
    subst e1 e2
    obtain ⟨hmem, hsp⟩ := look_at hl
    have k1 : ixD (eLook l) (.int 2) = some (.bl l.sn) := rfl
    have k2 : ∀ μ, look μ (eLook l) = eLook l := fun _ => rfl
    cases hs : l.sn with
    | false =>
      rw [hs] at k1
      refine ⟨_, rfl, .inl ⟨(), ?_, _, _, ⟨⟨some (.int (i : Nat)), some (eLook l), some (.bl false), d, e, rfl⟩, rfl⟩, fun k => ?_⟩⟩
      · simp [hs]
      · simp only [wp0, wp1, lk_mref, lineBs, Nat.beq_refl, List.append_nil, List.length_cons, List.length_nil, Nat.zero_add, Nat.reduceAdd, List.getElem?_cons_zero, List.getElem?_cons_succ, List.set_cons_zero, List.set_cons_succ, Bool.not_true, Bool.not_false, k1, k2]
    | true =>
      rw [hs] at k1
      have b1 : Nat.blt (l.sp.map eP).length 16777216 = true := blt_ok (by rw [List.length_map]; have := span_short hmem; have := h.g.hi; omega)
      have hlc : ∀ (ρ : Slots) (Q : List D → Sto → Prop), ρ = [some (bookD G E0), some (.lst (g.map .int)), some (.tup []), some (.int (i : Nat)), some (eLook l), some (.bl true), none, none] → lcW (Pk.gT [Pk.gN 6, Pk.gN 7]) tAll (w2 leD (wVar 7) (w2 ixD (wVar 1) (wVar 6))) (l.sp.map eP) ρ [] Q = Q (l.sp.map fun p => .bl (decide ((p.2 : Int) ≤ geti g p.1))) [] := by
        intro ρ Q e
        subst e
        refine lc_all _ _ _ fun p hp => ?_
        have g1 := up_run hg hmem p hp
        refine ⟨_, rfl, fun Q E => ?_⟩
        simp only [wp0, wp1, lk_mref, lineBs, Nat.beq_refl, List.append_nil, List.length_cons, List.length_nil, Nat.zero_add, Nat.reduceAdd, List.getElem?_cons_zero, List.getElem?_cons_succ, List.set_cons_zero, List.set_cons_succ, Bool.not_true, Bool.not_false, g1]
      cases hu : anyUp g l.sp with
      | true =>
        refine ⟨_, rfl, .inl ⟨(), ?_, _, _, ⟨⟨some (.int (i : Nat)), some (eLook l), some (.bl true), d, e, rfl⟩, rfl⟩, fun k => ?_⟩⟩
        · simp [hs, hu]
        · have hu2 : (l.sp.any fun p => decide ((p.2 : Int) ≤ geti g p.1)) = true := hu
          simp only [wp0, wp1, lk_mref, lineBs, Nat.beq_refl, List.append_nil, List.length_cons, List.length_nil, Nat.zero_add, Nat.reduceAdd, List.getElem?_cons_zero, List.getElem?_cons_succ, List.set_cons_zero, List.set_cons_succ, Bool.not_true, Bool.not_false, k1, k2, nin_nil, lkb, cspa, hsp, b1]
          rw [hlc _ _ rfl]
          simp only [wp0, wp1, lk_mref, lineBs, Nat.beq_refl, List.append_nil, List.length_cons, List.length_nil, Nat.zero_add, Nat.reduceAdd, List.getElem?_cons_zero, List.getElem?_cons_succ, List.set_cons_zero, List.set_cons_succ, Bool.not_true, Bool.not_false, any_map, hu2]
      | false =>
        refine ⟨_, rfl, .inr fun k => ?_⟩
        have hu2 : (l.sp.any fun p => decide ((p.2 : Int) ≤ geti g p.1)) = false := hu
        simp only [wp0, wp1, lk_mref, lineBs, Nat.beq_refl, List.append_nil, List.length_cons, List.length_nil, Nat.zero_add, Nat.reduceAdd, List.getElem?_cons_zero, List.getElem?_cons_succ, List.set_cons_zero, List.set_cons_succ, Bool.not_true, Bool.not_false, k1, k2, nin_nil, lkb, cspa, hsp, b1]
        rw [hlc _ _ rfl]
        simp only [wp0, wp1, lk_mref, lineBs, Nat.beq_refl, List.append_nil, List.length_cons, List.length_nil, Nat.zero_add, Nat.reduceAdd, List.getElem?_cons_zero, List.getElem?_cons_succ, List.set_cons_zero, List.set_cons_succ, Bool.not_true, Bool.not_false, any_map, hu2]
        simp [hs, hu]
  · unfold fitsT
    have : ∀ (L : List Lk) (n : Nat), ((L.zipIdx n).all fun p => !p.1.sn || anyUp g p.1.sp) = L.all fun l => !l.sn || anyUp g l.sp := by
      intro L
      induction L with
      | nil => intro n; rfl
      | cons l r ih => intro n; rw [List.zipIdx_cons, List.all_cons, List.all_cons, ih]
    rw [this]
theorem m_is_possible (h : BookOk G E0) : Ret c_is_possible [bookD G E0] (.bl (possL G E0)) := by
  refine r_is_possible (by simp only [noMs, noM_book]) rfl fun Q E => ⟨[], ?_⟩
  have c1 := fun μ Q E => m_tops_of h μ Q E
  have c2 := fun μ Q E => m_fits_tops h topsL_len μ Q E
  unfold w_is_possible
  simp only [wp0, wp1, lk_mref, lineBs, Nat.beq_refl, List.append_nil, List.length_cons, List.length_nil, Nat.zero_add, Nat.reduceAdd, List.getElem?_cons_zero, List.getElem?_cons_succ, List.set_cons_zero, List.set_cons_succ, Bool.not_true, Bool.not_false, c1, c2, List.cons_append, List.nil_append]
  rfl
theorem m_possible (h : BookOk G E0) : Ret c_possible [bookD G E0] (.bl (possL G E0)) := by
  refine r_possible (by simp only [noMs, noM_book]) rfl fun Q E => ⟨[], ?_⟩
  have c1 := fun μ Q E => m_is_possible h μ Q E
  unfold w_possible
  simp only [wp0, wp1, lk_mref, lineBs, Nat.beq_refl, List.append_nil, List.length_cons, List.length_nil, Nat.zero_add, Nat.reduceAdd, List.getElem?_cons_zero, List.getElem?_cons_succ, List.set_cons_zero, List.set_cons_succ, Bool.not_true, Bool.not_false, c1, cchk]
theorem m_tops (h : BookOk G E0) : Ret c_tops [bookD G E0] (.tup ((topsL G E0).map .int)) := by
  have hn : noMs ((topsL G E0).map D.int) = true := noMs_map (fun _ => rfl) _
  refine r_tops (by simp only [noMs, noM_book]) hn fun Q E => ⟨[], ?_⟩
  have c1 := fun μ Q E => m_tops_of h μ Q E
  unfold w_tops
  simp only [wp0, wp1, lk_mref, lineBs, Nat.beq_refl, List.append_nil, List.length_cons, List.length_nil, Nat.zero_add, Nat.reduceAdd, List.getElem?_cons_zero, List.getElem?_cons_succ, List.set_cons_zero, List.set_cons_succ, Bool.not_true, Bool.not_false, c1, cchk, List.cons_append, List.nil_append]
theorem m_check_possible (h : BookOk G E0) (hp : possL G E0 = true) : Ret c_check_possible [bookD G E0] .non := by
  refine r_check_possible (by simp only [noMs, noM_book]) rfl fun Q E => ⟨[], ?_⟩
  have c1 := fun μ Q E => m_is_possible h μ Q E
  unfold w_check_possible
  simp only [wp0, wp1, lk_mref, lineBs, Nat.beq_refl, List.append_nil, List.length_cons, List.length_nil, Nat.zero_add, Nat.reduceAdd, List.getElem?_cons_zero, List.getElem?_cons_succ, List.set_cons_zero, List.set_cons_succ, Bool.not_true, Bool.not_false, c1, hp]
end
end K58

namespace Bk
open Pk
def kvD (sp : List (Nat × Nat)) : List (DK × D) := sp.map fun p => (DK.ki (p.1 : Nat), D.int (p.2 : Nat))
theorem pairs_eP : ∀ sp : List (Nat × Nat), pairsD (sp.map eP) = some (kvD sp)
  | [] => rfl
  | p :: r => by
    have := pairs_eP r
    simp only [List.map_cons, eP, pairsD, toK, kvD] at this ⊢
    simp only [this]
theorem merge_kvD : ∀ (sp : List (Nat × Nat)) (acc : List (DK × D)), (sp.map (·.1)).Nodup → (∀ q ∈ acc, ∀ p ∈ sp, q.1 ≠ .ki (p.1 : Nat)) → mergeD acc (kvD sp) = acc ++ kvD sp
  | [], acc, _, _ => by simp [kvD, mergeD]
  | p :: r, acc, nd, h => by
    rw [List.map_cons] at nd
    obtain ⟨n1, n2⟩ := List.nodup_cons.mp nd
    have hh : hasK acc (.ki (p.1 : Nat)) = false := by
      have h1 : ∀ q ∈ acc, q.1 ≠ .ki (p.1 : Nat) := fun q hq => h q hq p (by simp)
      clear h
      induction acc with
      | nil => rfl
      | cons q r ih =>
        obtain ⟨k, d⟩ := q
        have h2 : eqDK k (.ki (p.1 : Nat)) = false := by
          cases e : eqDK k (.ki (p.1 : Nat)) with
          | false => rfl
          | true => exact absurd (eqDK_iff.mp e) (h1 (k, d) (by simp))
        simp only [hasK, h2]
        exact ih fun q hq => h1 q (List.mem_cons_of_mem _ hq)
    have e1 : putE acc (.ki (p.1 : Nat)) (.int (p.2 : Nat)) = acc ++ [(.ki (p.1 : Nat), .int (p.2 : Nat))] := by simp only [putE, hh]
    have ih := merge_kvD r (acc ++ [(.ki (p.1 : Nat), .int (p.2 : Nat))]) n2 fun q hq p' hp' => by
      rcases List.mem_append.mp hq with z | z
      · exact h q z p' (List.mem_cons_of_mem _ hp')
      · rw [List.mem_singleton.mp z]
        intro e
        injection e with e
        have : p.1 = p'.1 := by omega
        exact n1 (this ▸ List.mem_map.mpr ⟨p', hp', rfl⟩)
    show mergeD (putE acc (.ki (p.1 : Nat)) (.int (p.2 : Nat))) (kvD r) = _
    rw [e1, ih, List.append_assoc]
    rfl
theorem get_kvD (k : Nat) : ∀ sp : List (Nat × Nat), getK (kvD sp) (.ki (k : Nat)) = (numOf sp k).map fun n => D.int (n : Nat)
  | [] => rfl
  | p :: r => by
    have ih := get_kvD k r
    simp only [kvD, List.map_cons, getK, eqDK, numOf] at ih ⊢
    by_cases h : p.1 = k
    · have : ((p.1 : Int) = (k : Int)) := by omega
      simp [h]
    · have : ¬ ((p.1 : Int) = (k : Int)) := by omega
      simp only [this, decide_false, h]
      exact ih
theorem numOf_mem : ∀ {sp : List (Nat × Nat)} {p : Nat × Nat}, (sp.map (·.1)).Nodup → p ∈ sp → numOf sp p.1 = some p.2
  | [], p, _, h => by simp at h
  | q :: r, p, nd, h => by
    rw [List.map_cons] at nd
    obtain ⟨n1, n2⟩ := List.nodup_cons.mp nd
    simp only [numOf]
    rcases List.mem_cons.mp h with e | e
    · subst e
      simp
    · have : ¬ q.1 = p.1 := fun z => n1 (z ▸ List.mem_map.mpr ⟨p, e, rfl⟩)
      simp only [this, decide_false]
      exact numOf_mem n2 e
theorem keys_kvD : ∀ sp : List (Nat × Nat), keysD (kvD sp) = sp.map fun p => D.int (p.1 : Nat)
  | [] => rfl
  | p :: r => by
    have ih := keys_kvD r
    simp only [kvD, List.map_cons, keysD, keyD] at ih ⊢
    rw [ih]
theorem noM_kvD : ∀ sp : List (Nat × Nat), noMk (kvD sp) = true
  | [] => rfl
  | p :: r => by
    have ih := noM_kvD r
    simp only [kvD, List.map_cons, noMk, noM] at ih ⊢
    exact ih
end Bk
namespace K58
open PySem PySem.Spec PyProof.Rows L2 Pk Bk
section
variable {G : List Gar} {E0 : List LE}
theorem m_least_by (h : BookOk G E0) {g : List Int} (hg : g.length = base (lv G E0) G.length) {k : Nat} (hk : k < base (lv G E0) G.length) : Ret c_least_by [bookD G E0, .lst (g.map .int), .int (k : Nat), .tup []] (.int (leastB (looks G E0) g k)) := by
  have hn : noMs (g.map D.int) = true := noMs_map (fun _ => rfl) _
  refine r_least_by (by simp only [noMs, noM_book, noM, hn]) rfl fun Q E => ⟨[], ?_⟩
  unfold w_least_by
  simp only [wp0, wp1, lk_mref, lineBs, Nat.beq_refl, List.append_nil, List.length_cons, List.length_nil, Nat.zero_add, Nat.reduceAdd, List.getElem?_cons_zero, List.getElem?_cons_succ, List.set_cons_zero, List.set_cons_succ, Bool.not_true, Bool.not_false, lkb, cloo]
  rw [enum_map]
  refine for_foldC (fun f (p : Lk × Nat) => leastStep g k f p.1) (fun f ρ μ => (∃ a b c d, ρ = [some (bookD G E0), some (.lst (g.map .int)), some (.int (k : Nat)), some (.tup []), some (.int f), a, b, c, d]) ∧ μ = []) ((looks G E0).zipIdx 0) 0 _ _ ⟨⟨none, none, none, none, rfl⟩, rfl⟩ ?_ ?_
  · rintro ⟨l, i⟩ f ρ μ hl ⟨⟨a, b, c, d, e1⟩, e2⟩
    subst e1 e2
    obtain ⟨hmem, hsp⟩ := look_at hl
    have k1 : ixD (eLook l) (.int 2) = some (.bl l.sn) := rfl
    have k2 : ∀ μ, look μ (eLook l) = eLook l := fun _ => rfl
    refine ⟨_, rfl, fun kk R hk' => ?_⟩
    cases hs : l.sn with
    | false =>
      rw [hs] at k1
      have k3 : inD (.int (k : Nat)) (.dct []) = some (.bl false) := rfl
      simp only [wp0, wp1, lk_mref, lineBs, Nat.beq_refl, List.append_nil, List.length_cons, List.length_nil, Nat.zero_add, Nat.reduceAdd, List.getElem?_cons_zero, List.getElem?_cons_succ, List.set_cons_zero, List.set_cons_succ, Bool.not_true, Bool.not_false, k1, k2, k3]
      refine hk' _ _ ⟨⟨some (.int (i : Nat)), some (eLook l), some (.dct []), d, ?_⟩, rfl⟩
      simp only [leastStep, hs]
    | true =>
      rw [hs] at k1
      have m1 := merge_kvD l.sp [] (span_nodup hmem) (by simp)
      rw [List.nil_append] at m1
      have k3 : inD (.int (k : Nat)) (.dct (kvD l.sp)) = some (.bl (numOf l.sp k).isSome) := by
        have e : inD? (.int (k : Nat)) (.dct (kvD l.sp)) = some (getK (kvD l.sp) (.ki (k : Nat))).isSome := rfl
        simp only [inD, e, get_kvD, Option.isSome_map]
      cases hu : numOf l.sp k with
      | none =>
        rw [hu] at k3
        simp only [wp0, wp1, lk_mref, lineBs, Nat.beq_refl, List.append_nil, List.length_cons, List.length_nil, Nat.zero_add, Nat.reduceAdd, List.getElem?_cons_zero, List.getElem?_cons_succ, List.set_cons_zero, List.set_cons_succ, Bool.not_true, Bool.not_false, k1, k2, nin_nil, lkb, cspa, hsp, pairs_eP, m1, k3, Option.isSome_none]
        refine hk' _ _ ⟨⟨some (.int (i : Nat)), some (eLook l), some (.dct (kvD l.sp)), d, ?_⟩, rfl⟩
        simp only [leastStep, hs, hu]
      | some n =>
        rw [hu] at k3
        have b1 : Nat.blt (l.sp.map fun p => D.int (p.1 : Nat)).length 16777216 = true := blt_ok (by rw [List.length_map]; have := span_short hmem; have := h.g.hi; omega)
        have hlc : ∀ (ρ : Slots) (Q : List D → Sto → Prop), ρ = [some (bookD G E0), some (.lst (g.map .int)), some (.int (k : Nat)), some (.tup []), some (.int f), some (.int (i : Nat)), some (eLook l), some (.dct (kvD l.sp)), none] → lcW (Pk.gN 8) (tBl (w2 neqD (wVar 8) (wVar 2))) (w2 leD (w2 ixD (wVar 7) (wVar 8)) (w2 ixD (wVar 1) (wVar 8))) (l.sp.map fun p => D.int (p.1 : Nat)) ρ [] Q = Q ((l.sp.filter fun p => !decide (p.1 = k)).map fun p => .bl (decide ((p.2 : Int) ≤ geti g p.1))) [] := by
          intro ρ Q e
          subst e
          refine lc_map (α := Nat × Nat) (fun p => !decide (p.1 = k)) (fun p => .bl (decide ((p.2 : Int) ≤ geti g p.1))) _ _ fun p hp => ?_
          have g1 := up_run hg hmem p hp
          have e1 : decide (((p.1 : Nat) : Int) = ((k : Nat) : Int)) = decide (p.1 = k) := decide_eq_decide.mpr (by omega)
          have e2 : ixD (.dct (kvD l.sp)) (.int (p.1 : Nat)) = some (.int (p.2 : Nat)) := by
            have e : ixD (.dct (kvD l.sp)) (.int (p.1 : Nat)) = getK (kvD l.sp) (.ki (p.1 : Nat)) := rfl
            rw [e, get_kvD, numOf_mem (span_nodup hmem) hp]
            rfl
          refine ⟨_, rfl, fun Q E => ?_, fun _ Q E => ?_⟩
          · simp only [wp0, wp1, lk_mref, lineBs, Nat.beq_refl, List.append_nil, List.length_cons, List.length_nil, Nat.zero_add, Nat.reduceAdd, List.getElem?_cons_zero, List.getElem?_cons_succ, List.set_cons_zero, List.set_cons_succ, Bool.not_true, Bool.not_false, e1]
          · simp only [wp0, wp1, lk_mref, lineBs, Nat.beq_refl, List.append_nil, List.length_cons, List.length_nil, Nat.zero_add, Nat.reduceAdd, List.getElem?_cons_zero, List.getElem?_cons_succ, List.set_cons_zero, List.set_cons_succ, Bool.not_true, Bool.not_false, e2, g1]
        have e3 : ixD (.dct (kvD l.sp)) (.int (k : Nat)) = some (.int (n : Nat)) := by
          have e : ixD (.dct (kvD l.sp)) (.int (k : Nat)) = getK (kvD l.sp) (.ki (k : Nat)) := rfl
          rw [e, get_kvD, hu]
          rfl
        simp only [wp0, wp1, lk_mref, lineBs, Nat.beq_refl, List.append_nil, List.length_cons, List.length_nil, Nat.zero_add, Nat.reduceAdd, List.getElem?_cons_zero, List.getElem?_cons_succ, List.set_cons_zero, List.set_cons_succ, Bool.not_true, Bool.not_false, k1, k2, nin_nil, lkb, cspa, hsp, pairs_eP, m1, k3, Option.isSome_some, keys_kvD, b1]
        rw [hlc _ _ rfl]
        have ho : ((l.sp.filter fun p => !decide (p.1 = k)).any fun p => decide ((p.2 : Int) ≤ geti g p.1)) = othersUp g l.sp k := rfl
        cases hou : othersUp g l.sp k with
        | true =>
          rw [hou] at ho
          simp only [wp0, wp1, lk_mref, lineBs, Nat.beq_refl, List.append_nil, List.length_cons, List.length_nil, Nat.zero_add, Nat.reduceAdd, List.getElem?_cons_zero, List.getElem?_cons_succ, List.set_cons_zero, List.set_cons_succ, Bool.not_true, Bool.not_false, any_map, ho]
          refine hk' _ _ ⟨⟨some (.int (i : Nat)), some (eLook l), some (.dct (kvD l.sp)), d, ?_⟩, rfl⟩
          simp only [leastStep, hs, hu, hou]
        | false =>
          rw [hou] at ho
          have e4 : maxD (.int f) (.int (n : Nat)) = some (.int (match decide ((n : Int) > f) with
            | true => (n : Int)
            | false => f)) := rfl
          simp only [wp0, wp1, lk_mref, lineBs, Nat.beq_refl, List.append_nil, List.length_cons, List.length_nil, Nat.zero_add, Nat.reduceAdd, List.getElem?_cons_zero, List.getElem?_cons_succ, List.set_cons_zero, List.set_cons_succ, Bool.not_true, Bool.not_false, any_map, ho, e3, e4]
          refine hk' _ _ ⟨⟨some (.int (i : Nat)), some (eLook l), some (.dct (kvD l.sp)), d, ?_⟩, rfl⟩
          simp only [leastStep, hs, hu, hou]
          all_goals rfl
  · rintro ρ μ ⟨⟨a, b, c, d, e1⟩, e2⟩
    subst e1 e2
    have e4 : ((looks G E0).zipIdx 0).foldl (fun f (p : Lk × Nat) => leastStep g k f p.1) 0 = leastB (looks G E0) g k := by
      unfold leastB
      have : ∀ (L : List Lk) (n : Nat) (f : Int), (L.zipIdx n).foldl (fun f (p : Lk × Nat) => leastStep g k f p.1) f = L.foldl (leastStep g k) f := by
        intro L
        induction L with
        | nil => intro n f; rfl
        | cons l r ih => intro n f; rw [List.zipIdx_cons, List.foldl_cons, List.foldl_cons, ih]
      exact this _ _ _
    rw [e4]
    simp only [wp0, wp1, lk_mref, lineBs, Nat.beq_refl, List.append_nil, List.length_cons, List.length_nil, Nat.zero_add, Nat.reduceAdd, List.getElem?_cons_zero, List.getElem?_cons_succ, List.set_cons_zero, List.set_cons_succ, Bool.not_true, Bool.not_false, ]
def eKn (p : Int × Int) : D := .tup [.int p.1, .int p.2]
theorem noMs_eKn (ps : List (Int × Int)) : noMs (ps.map eKn) = true := noMs_map (fun _ => rfl) _
theorem m_known_of (h : BookOk G E0) : Ret c_known_of [bookD G E0] (.lst ((knownL G E0).map eKn)) := by
  refine r_known_of (by simp only [noMs, noM_book]) (noMs_eKn _) fun Q E => ⟨[], ?_⟩
  have c1 := fun μ Q E => m_tops_of h μ Q E
  have tl := topsL_len (G := G) (E := E0)
  have few := lives_few h
  have b1 : Nat.blt (((topsL G E0).zipIdx 0).map fun p => D.tup [.int (p.2 : Nat), .int p.1]).length 16777216 = true := blt_ok (by rw [List.length_map, List.length_zipIdx]; omega)
  unfold w_known_of
  simp only [wp0, wp1, lk_mref, lineBs, Nat.beq_refl, List.append_nil, List.length_cons, List.length_nil, Nat.zero_add, Nat.reduceAdd, List.getElem?_cons_zero, List.getElem?_cons_succ, List.set_cons_zero, List.set_cons_succ, Bool.not_true, Bool.not_false, c1, enum_map, b1, List.cons_append, List.nil_append]
  rw [lc_all (fun p => eKn (leastB (looks G E0) (topsL G E0) p.2, p.1))]
  · unfold knownL
    simp only [List.map_map]
    rfl
  · rintro ⟨t, i⟩ hp
    have hm := List.mem_zipIdx hp
    simp only [Nat.zero_add, Nat.sub_zero] at hm
    obtain ⟨_, hi, eg⟩ := hm
    have c2 := fun μ Q E => m_least_by h tl (k := i) (by rw [← tl]; exact hi) μ Q E
    clear eg hp
    refine ⟨_, rfl, fun Q E => ?_⟩
    simp only [wp0, wp1, lk_mref, lineBs, Nat.beq_refl, List.append_nil, List.length_cons, List.length_nil, Nat.zero_add, Nat.reduceAdd, List.getElem?_cons_zero, List.getElem?_cons_succ, List.set_cons_zero, List.set_cons_succ, Bool.not_true, Bool.not_false, c2, List.cons_append, List.nil_append]
    rfl
theorem m_known (h : BookOk G E0) (hp : possL G E0 = true) : Ret c_known [bookD G E0] (.tup ((knownL G E0).map eKn)) := by
  refine r_known (by simp only [noMs, noM_book]) (noMs_eKn _) fun Q E => ⟨[], ?_⟩
  have c1 := fun μ Q E => m_known_of h μ Q E
  have c2 := fun μ Q E => m_check_possible h hp μ Q E
  unfold w_known
  simp only [wp0, wp1, lk_mref, lineBs, Nat.beq_refl, List.append_nil, List.length_cons, List.length_nil, Nat.zero_add, Nat.reduceAdd, List.getElem?_cons_zero, List.getElem?_cons_succ, List.set_cons_zero, List.set_cons_succ, Bool.not_true, Bool.not_false, c1, c2, cchk]
end
end K58

namespace K58
open PySem PySem.Spec PyProof.Rows L2 Pk Bk
/-- what draws come from -/
def IsCup (c : MO) : Prop := ∃ g s n : Int, c = .lst [.int g, .int s, .int n]
theorem IsCup.noM {c : MO} (h : IsCup c) : noMO c = true := by
  obtain ⟨g, s, n, rfl⟩ := h
  rfl
theorem sd3 {a b c d : D} : setD (.lst [a, b, c]) (.int 0) d = some (.lst [d, b, c]) ∧ setD (.lst [a, b, c]) (.int 1) d = some (.lst [a, d, c]) ∧ setD (.lst [a, b, c]) (.int 2) d = some (.lst [a, b, d]) := ⟨rfl, rfl, rfl⟩
theorem mul_l {i j : Int} (h : smallI i = true) : mulD (.int i) (.int j) = some (.int (i * j)) := by simp only [mulD, h, Bool.true_or]
theorem mul_r {i j : Int} (h : smallI j = true) : mulD (.int i) (.int j) = some (.int (i * j)) := by simp only [mulD, h, Bool.or_true]
theorem mod_ok {i j : Int} (h0 : 0 < j) : modD (.int i) (.int j) = some (.int (i % j)) := by simp only [modD, decide_eq_true h0]
theorem dm_ok {i j : Int} (h0 : 0 < j) (h1 : j < 1073741824) : divmodD (.int i) (.int j) = some (.tup [.int (i / j), .int (i % j)]) := by simp only [divmodD, decide_eq_true h0, decide_eq_true h1]
theorem fdiv_ok {i j : Int} (h0 : 0 < j) (h1 : j < 1073741824) : fdivD (.int i) (.int j) = some (.int (i / j)) := by simp only [fdivD, decide_eq_true h0, decide_eq_true h1, Bool.and_self]
theorem int_int {i : Int} : Pk.intD (.int i) = some (.int i) := rfl
theorem m_sip {c : MO} (hc : IsCup c) {rest : Sto} {size : Int} {Q : QD} {E : QX} (h0 : 0 < size) (h1 : size < 1000000) (h : ∀ c' f, IsCup c' → 0 ≤ f → f < size → Q (.int f) (c' :: rest)) :
    c__law_sip [.mref 0, .int size] (c :: rest) Q E := by
  obtain ⟨g, s, n, rfl⟩ := hc
  rw [u__law_sip rfl]
  unfold w__law_sip
  have a1 := mul_r (i := s) (show smallI 48271 = true from rfl)
  have a2 : ∀ j, mulD (.int 6089) (.int j) = some (.int (6089 * j)) := fun j => mul_l (show smallI 6089 = true from rfl)
  have a3 : ∀ i, modD (.int i) (.int 2147483477) = some (.int (i % 2147483477)) := fun i => mod_ok (by decide)
  have a4 : ∀ i, fdivD (.int i) (.int 1024) = some (.int (i / 1024)) := fun i => fdiv_ok (by decide) (by decide)
  have a5 : ∀ i, modD (.int i) (.int size) = some (.int (i % size)) := fun i => mod_ok h0
  have a6 := dm_ok (i := g) h0 (by omega)
  have r1 := Int.emod_nonneg g (by omega : size ≠ 0)
  have r2 := Int.emod_lt_of_pos g h0
  simp only [wp0, wp1, lk_mref, lineBs, Nat.beq_refl, List.append_nil, List.length_cons, List.length_nil, Nat.zero_add, Nat.reduceAdd, List.getElem?_cons_zero, List.getElem?_cons_succ, List.set_cons_zero, List.set_cons_succ, Bool.not_true, Bool.not_false, sd3, a1, a2, a3, a4, a5, a6, int_int]
  cases decide (0 < g) with
  | true => exact h _ _ ⟨_, _, _, rfl⟩ r1 r2
  | false => exact h _ _ ⟨_, _, _, rfl⟩ (Int.emod_nonneg _ (by omega)) (Int.emod_lt_of_pos _ h0)
/-- a draw in a def's body -/
theorem sip_run {c : MO} (hc : IsCup c) {rest : Sto} (hr : noMOs rest = true) {size : Int} {w : WE} {ρ : Slots} {Q : QD} {E : QX} (h0 : 0 < size) (h1 : size < 1000000) (hv : ρ[0]? = some (some (.mref 0))) (hw : ∀ Q E, w ρ (c :: rest) Q E = Q (.int size) (c :: rest))
    (h : ∀ c' f, IsCup c' → 0 ≤ f → f < size → Q (.int f) (c' :: rest)) : wGc (wCallN c__law_sip 2 [] (aCons (wVar 0) (aCons w aNil))) ρ (c :: rest) Q E := by
  simp only [wp0, wp1, lk_mref, lineBs, Nat.beq_refl, List.append_nil, List.length_cons, List.length_nil, Nat.zero_add, Nat.reduceAdd, List.getElem?_cons_zero, List.getElem?_cons_succ, List.set_cons_zero, List.set_cons_succ, Bool.not_true, Bool.not_false, hv, hw, wGc]
  refine m_sip hc h0 h1 fun c' f h2 h3 h4 => ?_
  have e : (c' :: rest).take (rest.length + 1) = c' :: rest := List.take_of_length_le (by simp)
  unfold gcQ
  simp only [noM, e, noMOs, h2.noM, hr]
  exact h c' f h2 h3 h4
end K58

namespace K58
open PySem PySem.Spec PyProof.Rows L2 Pk Bk
structure LabOk (many : Nat) (ws : List Tx) : Prop where
  len : ws.length = many
  ok : ∀ w ∈ ws, NameOk w
  nd : ws.Nodup
  nz : ∀ w ∈ ws, w ≠ [122, 122, 122]
theorem nameOk_of {s : Tx} (h : (decide (0 < s.length) && (decide (s.length < 9) && s.all fun c => decide (97 ≤ c) && decide (c ≤ 122))) = true) : NameOk s := by
  rw [Bool.and_eq_true, Bool.and_eq_true, decide_eq_true_iff, decide_eq_true_iff, List.all_eq_true] at h
  refine ⟨h.1, h.2.1, fun c hc => ?_⟩
  have := h.2.2 c hc
  rw [Bool.and_eq_true, decide_eq_true_iff, decide_eq_true_iff] at this
  exact this
abbrev fixed : List Tx := [[119, 97, 115, 104], [97], [114, 101, 110, 101, 119], [103, 97, 114, 109, 101, 110, 116], [98, 108, 101, 101, 100, 115], [117, 110, 100, 111], [122, 122], [110, 97, 109, 101, 115]]
theorem fixed_ok : ∀ w ∈ fixed, NameOk w := by
  intro w hw
  apply nameOk_of
  have : ∀ w ∈ fixed, (decide (0 < w.length) && (decide (w.length < 9) && w.all fun c => decide (97 ≤ c) && decide (c ≤ 122))) = true := by decide
  exact this w hw
theorem fixed_nd : fixed.Nodup := by decide
theorem fixed_nz : ∀ w ∈ fixed, w ≠ [122, 122, 122] := by decide
theorem abc_at : ∀ i, i < 26 → nthG abc i = some (97 + i) := by decide
def made (stem : Tx) (many : Nat) : List Tx := (List.range many).map fun i => stem ++ [97 + i]
theorem made_ok {stem : Tx} {many : Nat} (hs : stem = [] ∨ stem = [120] ∨ stem = [97, 98, 99]) (h : many ≤ 8) : LabOk many (made stem many) := by
  refine ⟨by simp [made], fun w hw => ?_, ?_, fun w hw => ?_⟩
  · obtain ⟨i, hi, e⟩ := List.mem_map.mp hw
    have hi := List.mem_range.mp hi
    subst e
    refine ⟨by simp, ?_, fun c hc => ?_⟩
    · rcases hs with e | e | e <;> subst e <;> simp
    · rcases List.mem_append.mp hc with q | q
      · rcases hs with e | e | e <;> subst e <;> simp at q <;> omega
      · simp at q
        omega
  · unfold made
    rw [List.nodup_iff_pairwise_ne, List.pairwise_map]
    have := List.nodup_range (n := many)
    rw [List.nodup_iff_pairwise_ne] at this
    refine this.imp fun h e => h ?_
    have := List.append_cancel_left e
    injection this with this
    omega
  · obtain ⟨i, hi, e⟩ := List.mem_map.mp hw
    subst e
    intro q
    have := congrArg List.length q
    rcases hs with e | e | e <;> subst e <;> simp at this
theorem lab_rev {many : Nat} {ws : List Tx} (h : LabOk many ws) : LabOk many ws.reverse := ⟨by rw [List.length_reverse]; exact h.len, fun w hw => h.ok w (List.mem_reverse.mp hw), (List.nodup_iff_pairwise_ne.mpr (List.pairwise_reverse.mpr ((List.nodup_iff_pairwise_ne.mp h.nd).imp fun q => q.symm))), fun w hw => h.nz w (List.mem_reverse.mp hw)⟩
theorem m_labels {c : MO} (hc : IsCup c) {many : Nat} (h8 : many ≤ 8) {Q : QD} {E : QX} (h : ∀ c' junk ws, IsCup c' → LabOk many ws → Q (.lst (ws.map .str)) (c' :: junk)) :
    c__law_labels [.mref 0, .int (many : Nat)] [c] Q E := by
  rw [u__law_labels rfl]
  unfold w__law_labels
  have e1 : decide ((many : Int) < 9) = true := decide_eq_true (by omega)
  simp only [sSeq, sAsg, wC, Pk.gN, List.set_cons_zero, List.set_cons_succ, sIf, tAn, tBl, w2, wVar, List.getElem?_cons_zero, List.getElem?_cons_succ, look, ltD, e1]
  refine sip_run hc rfl (by decide) (by decide) rfl (fun Q E => rfl) fun c1 f1 hc1 f10 f11 => ?_
  simp only [wp1]
  cases q1 : decide (f1 = 0) with
  | true =>
    have sl := cut_take (fixed.map D.str) many
    simp only [wp0, wp1, lk_mref, lineBs, Nat.beq_refl, List.append_nil, List.length_cons, List.length_nil, Nat.zero_add, Nat.reduceAdd, List.getElem?_cons_zero, List.getElem?_cons_succ, List.set_cons_zero, List.set_cons_succ, Bool.not_true, Bool.not_false, slD_lst]
    have e2 : cutG [D.str [119, 97, 115, 104], D.str [97], D.str [114, 101, 110, 101, 119], D.str [103, 97, 114, 109, 101, 110, 116], D.str [98, 108, 101, 101, 100, 115], D.str [117, 110, 100, 111], D.str [122, 122], D.str [110, 97, 109, 101, 115]] none (some (many : Int)) = (fixed.take many).map D.str := by
      rw [List.map_take]
      exact sl
    rw [e2]
    refine h c1 [] _ hc1 ⟨?_, fun w hw => fixed_ok w (List.mem_of_mem_take hw), fixed_nd.sublist (List.take_sublist _ _), fun w hw => fixed_nz w (List.mem_of_mem_take hw)⟩
    rw [List.length_take]
    show min many 8 = many
    omega
  | false =>
    have l3 : lineB 3 = true := rfl
    simp only [wp0, wp1, lk_mref, lineBs, Nat.beq_refl, List.append_nil, List.length_cons, List.length_nil, Nat.zero_add, Nat.reduceAdd, List.getElem?_cons_zero, List.getElem?_cons_succ, List.set_cons_zero, List.set_cons_succ, Bool.not_true, Bool.not_false, ]
    refine sip_run hc1 rfl (by decide) (by decide) rfl (fun Q E => rfl) fun c2 f2 hc2 f20 f21 => ?_
    obtain ⟨stem, hs1, hs2⟩ : ∃ stem : Tx, ixD (.lst [.str [], .str [120], .str [97, 98, 99]]) (.int f2) = some (.str stem) ∧ (stem = [] ∨ stem = [120] ∨ stem = [97, 98, 99]) := by
      have : f2 = 0 ∨ f2 = 1 ∨ f2 = 2 := by omega
      rcases this with e | e | e <;> subst e
      · exact ⟨[], rfl, .inl rfl⟩
      · exact ⟨[120], rfl, .inr (.inl rfl)⟩
      · exact ⟨[97, 98, 99], rfl, .inr (.inr rfl)⟩
    have r1 : rgOk (many : Int) = true := rgOk_of (by omega) (by omega)
    have r2 : (many : Int).toNat = many := by omega
    simp only [wp0, wp1, lk_mref, lineBs, Nat.beq_refl, List.append_nil, List.length_cons, List.length_nil, Nat.zero_add, Nat.reduceAdd, List.getElem?_cons_zero, List.getElem?_cons_succ, List.set_cons_zero, List.set_cons_succ, Bool.not_true, Bool.not_false, hs1, r1, r2, rng_map, List.cons_append, List.nil_append]
    have hfor : ∀ (De : DEnds) (R : Prop), (∀ e, De.nx [some (.mref 0), some (.int (many : Nat)), some (.str abc), some (.str stem), some (.mref 1), e] [c2, .lst ((made stem many).map .str)] = R) →
        forW (Pk.gN 5) (sExpr (wMe isL appF (wVar 4) (aCons (w2 addD (wVar 3) (w2 ixD (wVar 2) (wVar 5))) aNil))) ((List.range many).map fun i => D.int (0 + (i : Nat))) De [some (.mref 0), some (.int (many : Nat)), some (.str abc), some (.str stem), some (.mref 1), none] [c2, .lst []] = R := by
      intro De R hR
      refine for_foldR (fun acc i => acc ++ [stem ++ [97 + i]]) (fun xs acc ρ μ => (acc.length + xs.length ≤ 8 ∧ ∀ i ∈ xs, i < 26) ∧ (∃ e, ρ = [some (.mref 0), some (.int (many : Nat)), some (.str abc), some (.str stem), some (.mref 1), e]) ∧ μ = [c2, .lst (acc.map D.str)]) (List.range many) [] _ _ ⟨⟨by simp; omega, fun i hi => by have := List.mem_range.mp hi; omega⟩, ⟨none, rfl⟩, rfl⟩ ?_ ?_
      · rintro i r acc ρ μ ⟨⟨ha, hi⟩, ⟨e, e1⟩, e2⟩
        subst e1 e2
        have z1 : (0 : Int) + (i : Nat) = (i : Nat) := by omega
        have i26 := hi i (by simp)
        have g1 : ixD (.str abc) (.int (i : Nat)) = some (.str [97 + i]) := by
          have q := abc_at i i26
          have q2 : lineB abc.length = true := rfl
          simp only [ixD, q2, atG_nat, q]
        have g2 : addD (.str stem) (.str [97 + i]) = some (.str (stem ++ [97 + i])) := by
          have q2 : lineB (stem.length + [97 + i].length) = true := lineB_ok (by rcases hs2 with e | e | e <;> subst e <;> simp)
          simp only [addD, q2]
        have b1 : Nat.blt (acc.map D.str).length 16777216 = true := blt_ok (by rw [List.length_map]; simp only [List.length_cons] at ha; omega)
        refine ⟨_, rfl, _, _, ⟨⟨?_, fun j hj => hi j (List.mem_cons_of_mem _ hj)⟩, ⟨some (.int (i : Nat)), rfl⟩, rfl⟩, fun k => ?_⟩
        · simp only [List.length_append, List.length_cons, List.length_nil] at ha ⊢
          omega
        · rw [z1]
          simp only [wp0, wp1, lk_mref, lineBs, Nat.beq_refl, List.append_nil, List.length_cons, List.length_nil, Nat.zero_add, Nat.reduceAdd, List.getElem?_cons_zero, List.getElem?_cons_succ, List.set_cons_zero, List.set_cons_succ, Bool.not_true, Bool.not_false, isL, appF, g1, g2, b1]
          simp only [List.map_append, List.map_cons, List.map_nil]
      · rintro ρ μ ⟨_, ⟨e, e1⟩, e2⟩
        subst e1 e2
        have e3 : (List.range many).foldl (fun acc i => acc ++ [stem ++ [97 + i]]) [] = made stem many := by
          have := foldl_snoc (fun i => stem ++ [97 + i]) (List.range many) []
          rw [this]
          rfl
        rw [e3]
        exact hR e
    refine of_eq_true (hfor _ True fun e => eq_true ?_)
    have ml := made_ok (many := many) hs2 h8
    have hnm : noMOs [MO.lst ((made stem many).map D.str)] = true := by
      simp only [noMOs, noMO, noMs_S]
    have dz : ∀ d ∈ (made stem many).map D.str, ∀ μ, deepD 0 μ d = (d, μ) := fun d hd μ => by obtain ⟨x, _, e⟩ := List.mem_map.mp hd; subst e; rfl
    simp only [wp0, wp1, lk_mref, lineBs, Nat.beq_refl, List.append_nil, List.length_cons, List.length_nil, Nat.zero_add, Nat.reduceAdd, List.getElem?_cons_zero, List.getElem?_cons_succ, List.set_cons_zero, List.set_cons_succ, Bool.not_true, Bool.not_false, ]
    refine sip_run hc2 hnm (by decide) (by decide) rfl (fun Q E => rfl) fun c3 f3 hc3 f30 f31 => ?_
    simp only [wp0, wp1, lk_mref, lineBs, Nat.beq_refl, List.append_nil, List.length_cons, List.length_nil, Nat.zero_add, Nat.reduceAdd, List.getElem?_cons_zero, List.getElem?_cons_succ, List.set_cons_zero, List.set_cons_succ, Bool.not_true, Bool.not_false, ]
    cases decide (f3 = 0) with
    | true =>
      simp only [wp0, wp1, lk_mref, lineBs, Nat.beq_refl, List.append_nil, List.length_cons, List.length_nil, Nat.zero_add, Nat.reduceAdd, List.getElem?_cons_zero, List.getElem?_cons_succ, List.set_cons_zero, List.set_cons_succ, Bool.not_true, Bool.not_false, ]
      rw [← List.map_reverse]
      exact h c3 _ _ hc3 (lab_rev ml)
    | false =>
      simp only [wp0, wp1, lk_mref, lineBs, Nat.beq_refl, List.append_nil, List.length_cons, List.length_nil, Nat.zero_add, Nat.reduceAdd, List.getElem?_cons_zero, List.getElem?_cons_succ, List.set_cons_zero, List.set_cons_succ, Bool.not_true, Bool.not_false, ]
      rw [fz_lst rfl dz]
      exact h c3 _ _ hc3 ml
end K58

namespace K58
open PySem PySem.Spec PyProof.Rows L2 Pk Bk
theorem take_all {c : MO} {rest : Sto} : (c :: rest).take (rest.length + 1) = c :: rest := List.take_of_length_le (by simp)
/-- what a gathered call leaves -/
theorem gc_run {c c' : MO} {junk : Sto} {rest rest' : Sto} {Q : QD} {d : D} (hd : noM d = true) (hc : IsCup c') (hl : rest'.length = rest.length) (hr : noMOs rest' = true) (h : Q d (c' :: rest')) : gcQ (c :: rest).length Q d (c' :: (rest' ++ junk)) := by
  have e : (c' :: (rest' ++ junk)).take ((c :: rest).length) = c' :: rest' := by
    rw [List.length_cons, List.take_succ_cons, ← hl, List.take_left']
    rfl
  unfold gcQ
  simp only [hd, e, noMOs, hc.noM, hr]
  exact h
theorem labels_run {c : MO} (hc : IsCup c) {many : Nat} (h8 : many ≤ 8) {w : WE} {ρ : Slots} {Q : QD} {E : QX} (hv : ρ[0]? = some (some (.mref 0))) (hw : ∀ Q E, w ρ [c] Q E = Q (.int (many : Nat)) [c])
    (h : ∀ c' ws, IsCup c' → LabOk many ws → Q (.lst (ws.map .str)) [c']) : wGc (wCallN c__law_labels 2 [] (aCons (wVar 0) (aCons w aNil))) ρ [c] Q E := by
  simp only [wp0, wp1, lk_mref, lineBs, Nat.beq_refl, List.append_nil, List.length_cons, List.length_nil, Nat.zero_add, Nat.reduceAdd, List.getElem?_cons_zero, List.getElem?_cons_succ, List.set_cons_zero, List.set_cons_succ, Bool.not_true, Bool.not_false, hv, hw, wGc]
  refine m_labels hc h8 fun c' junk ws hc' hl => ?_
  exact gc_run (c := c) (rest := []) (rest' := []) (noM_lS ws) hc' rfl rfl (h c' ws hc' hl)
/-- red, blue, wash, a -/
abbrev dyes4 : List Tx := [[114, 101, 100], [98, 108, 117, 101], [119, 97, 115, 104], [97]]
structure Cloths (mm mt : Nat) (G : List Gar) : Prop where
  ok : GarsOk G
  few : G.length ≤ mm
  low : ∀ g ∈ G, g.t ≤ mt
  nz : ∀ g ∈ G, g.n ≠ [122, 122, 122]
  dy : ∀ g ∈ G, g.d ∈ dyes4
theorem m_cloths {c : MO} (hc : IsCup c) {mm mt : Nat} (h1 : 1 ≤ mm) (h8 : mm ≤ 8) (ht : mt ≤ 12) {Q : QD} {E : QX} (h : ∀ c' junk G, IsCup c' → Cloths mm mt G → Q (.lst (G.map eG)) (c' :: junk)) :
    c__law_cloths [.mref 0, .int (mm : Nat), .int (mt : Nat)] [c] Q E := by
  rw [u__law_cloths rfl]
  unfold w__law_cloths
  simp only [wp0, wp1, lk_mref, lineBs, Nat.beq_refl, List.append_nil, List.length_cons, List.length_nil, Nat.zero_add, Nat.reduceAdd, List.getElem?_cons_zero, List.getElem?_cons_succ, List.set_cons_zero, List.set_cons_succ, Bool.not_true, Bool.not_false, ]
  refine sip_run hc rfl (size := (mm : Int)) (by omega) (by omega) rfl (fun Q E => rfl) fun c1 f1 hc1 f10 f11 => ?_
  obtain ⟨n, hn⟩ : ∃ n : Nat, 1 + f1 = (n : Int) := ⟨(1 + f1).toNat, by omega⟩
  simp only [wp0, wp1, lk_mref, lineBs, Nat.beq_refl, List.append_nil, List.length_cons, List.length_nil, Nat.zero_add, Nat.reduceAdd, List.getElem?_cons_zero, List.getElem?_cons_succ, List.set_cons_zero, List.set_cons_succ, Bool.not_true, Bool.not_false, hn]
  refine labels_run hc1 (many := n) (by omega) rfl (fun Q E => rfl) fun c2 ws hc2 hl => ?_
  simp only [wp0, wp1, lk_mref, lineBs, Nat.beq_refl, List.append_nil, List.length_cons, List.length_nil, Nat.zero_add, Nat.reduceAdd, List.getElem?_cons_zero, List.getElem?_cons_succ, List.set_cons_zero, List.set_cons_succ, Bool.not_true, Bool.not_false, ]
  refine sip_run hc2 rfl (by decide) (by decide) rfl (fun Q E => rfl) fun c3 f3 hc3 f30 f31 => ?_
  obtain ⟨d0, d1, hd, hd0, hd1⟩ : ∃ d0 d1 : Tx, ixD (.lst [.lst [.str [114, 101, 100], .str [98, 108, 117, 101]], .lst [.str [119, 97, 115, 104], .str [97]], .lst [.str [114, 101, 100], .str [114, 101, 100]]]) (.int f3) = some (.lst [.str d0, .str d1]) ∧ (NameOk d0 ∧ d0 ∈ dyes4) ∧ NameOk d1 ∧ d1 ∈ dyes4 := by
    have : f3 = 0 ∨ f3 = 1 ∨ f3 = 2 := by omega
    rcases this with e | e | e <;> subst e
    · exact ⟨_, _, rfl, ⟨nameOk_of (by decide), by decide⟩, nameOk_of (by decide), by decide⟩
    · exact ⟨_, _, rfl, ⟨nameOk_of (by decide), by decide⟩, nameOk_of (by decide), by decide⟩
    · exact ⟨_, _, rfl, ⟨nameOk_of (by decide), by decide⟩, nameOk_of (by decide), by decide⟩
  have b1 : Nat.blt (ws.map D.str).length 16777216 = true := blt_ok (by rw [List.length_map, hl.len]; omega)
  simp only [wp0, wp1, lk_mref, lineBs, Nat.beq_refl, List.append_nil, List.length_cons, List.length_nil, Nat.zero_add, Nat.reduceAdd, List.getElem?_cons_zero, List.getElem?_cons_succ, List.set_cons_zero, List.set_cons_succ, Bool.not_true, Bool.not_false, hd, b1]
  refine lc_imp (fun (rest : List Tx) ds μ => ∃ (c : MO) (G : List Gar), IsCup c ∧ μ = [c] ∧ ds = G.map eG ∧ G.map (·.n) ++ rest = ws ∧ ∀ g ∈ G, (NameOk g.d ∧ g.d ∈ dyes4) ∧ g.t ≤ mt) ?_ ws [] [c3] _ ⟨c3, [], hc3, rfl, rfl, rfl, by simp⟩ ?_
  · rintro w r ds μ ⟨c, G, hc, e1, e2, e3, e4⟩
    subst e1 e2
    refine ⟨_, rfl, fun Q E hQ => ?_⟩
    refine hQ true _ (fun _ Q' E' hQ' => ?_) (fun z => by cases z)
    simp only [wp0, wp1, lk_mref, lineBs, Nat.beq_refl, List.append_nil, List.length_cons, List.length_nil, Nat.zero_add, Nat.reduceAdd, List.getElem?_cons_zero, List.getElem?_cons_succ, List.set_cons_zero, List.set_cons_succ, Bool.not_true, Bool.not_false, ]
    refine sip_run hc rfl (by decide) (by decide) rfl (fun Q E => rfl) fun c4 f4 hc4 f40 f41 => ?_
    obtain ⟨d, hd, hdn⟩ : ∃ d : Tx, ixD (.lst [.str d0, .str d1]) (.int f4) = some (.str d) ∧ NameOk d ∧ d ∈ dyes4 := by
      have : f4 = 0 ∨ f4 = 1 := by omega
      rcases this with e | e <;> subst e
      · exact ⟨d0, rfl, hd0⟩
      · exact ⟨d1, rfl, hd1⟩
    simp only [wp0, wp1, lk_mref, lineBs, Nat.beq_refl, List.append_nil, List.length_cons, List.length_nil, Nat.zero_add, Nat.reduceAdd, List.getElem?_cons_zero, List.getElem?_cons_succ, List.set_cons_zero, List.set_cons_succ, Bool.not_true, Bool.not_false, hd]
    refine sip_run hc4 rfl (size := (mt : Int) + 1) (by omega) (by omega) rfl (fun Q E => rfl) fun c5 f5 hc5 f50 f51 => ?_
    obtain ⟨t, ht'⟩ : ∃ t : Nat, f5 = (t : Int) := ⟨f5.toNat, by omega⟩
    subst ht'
    refine hQ' _ _ ⟨c5, G ++ [⟨w, d, t⟩], hc5, rfl, by simp only [List.map_append, List.map_cons, List.map_nil]; rfl, by simp only [List.map_append, List.map_cons, List.map_nil, List.append_assoc]; exact e3, fun g hg => ?_⟩
    rcases List.mem_append.mp hg with q | q
    · exact e4 g q
    · rw [List.mem_singleton.mp q]
      exact ⟨hdn, by show t ≤ mt; omega⟩
  · rintro ys μ ⟨c, G, hc, e1, e2, e3, e4⟩
    subst e1
    rw [List.append_nil] at e3
    rw [List.nil_append] at e2
    subst e2
    have hlen : G.length = n := by
      have := hl.len
      rw [← e3, List.length_map] at this
      exact this
    refine h c [] G hc ⟨⟨by omega, by omega, fun g hg => ⟨hl.ok _ (e3 ▸ List.mem_map.mpr ⟨g, hg, rfl⟩), (e4 g hg).1.1, Nat.le_trans (e4 g hg).2 ht⟩, e3 ▸ hl.nd⟩, by omega, fun g hg => (e4 g hg).2, fun g hg => hl.nz _ (e3 ▸ List.mem_map.mpr ⟨g, hg, rfl⟩), fun g hg => (e4 g hg).1.2⟩
end K58

namespace Bk
open Pk
def eLE : LE → D
  | .wash ks s u => .tup [.str tWash, .lst (ks.map eN), .lst (s.map .str), .lst (u.map .str)]
  | .renew k => .tup [.str tRenew, .int (k : Nat)]
theorem noM_eLE (e : LE) : noM (eLE e) = true := by
  cases e with
  | wash ks s u => simp only [eLE, noM, noMs, noMs_eN, noMs_S]
  | renew k => rfl
theorem noMs_eLE (E : List LE) : noMs (E.map eLE) = true := noMs_map noM_eLE E
def huesF : List Tx → List Gar → List Tx
  | acc, [] => acc
  | acc, g :: r => huesF (if g.d ∈ acc then acc else acc ++ [g.d]) r
theorem huesF_eq : ∀ (G : List Gar) (acc : List Tx), G.foldl (fun acc (g : Gar) => if g.d ∈ acc then acc else acc ++ [g.d]) acc = dedupF acc (G.map (·.d))
  | [], acc => rfl
  | g :: r, acc => by
    rw [List.foldl_cons, huesF_eq r]
    simp only [List.map_cons, dedupF]
    split <;> rfl
theorem pures_eN {n : Nat} : ∀ ks : List Nat, pureDs n (ks.map eN) = true
  | [] => by cases n <;> rfl
  | k :: r => by
    have : pureD n (eN k) = true := by cases n <;> rfl
    simp only [List.map_cons, pureDs, this, pures_eN r]
theorem eq_eN_nil (ks : List Nat) : eqqD (.lst (ks.map eN)) (.lst []) = some (.bl (decide (ks = []))) := by
  have h1 : pureD 60 (.lst (ks.map eN)) = true := pures_eN ks
  have h2 : pureD 60 (.lst []) = true := rfl
  simp only [eqqD, h1, h2, Bool.and_self, eqD]
  cases ks with
  | nil => rfl
  | cons k r => simp [eqDs]
end Bk
namespace K58
open PySem PySem.Spec PyProof.Rows L2 Pk Bk
theorem m_hues {G : List Gar} (h : GarsOk G) : Ret c__law_hues [.lst (G.map eG)] (.lst ((hues G).map .str)) := by
  refine r__law_hues (by simp only [noMs, noM, noMs_G]) (noM_lS _) fun Q E => ⟨[.fz (.lst ((hues G).map .str))], ?_⟩
  unfold w__law_hues
  simp only [wp0, wp1, lk_mref, lineBs, Nat.beq_refl, List.append_nil, List.length_cons, List.length_nil, Nat.zero_add, Nat.reduceAdd, List.getElem?_cons_zero, List.getElem?_cons_succ, List.set_cons_zero, List.set_cons_succ, Bool.not_true, Bool.not_false, List.nil_append]
  refine for_foldC (fun acc (g : Gar) => if g.d ∈ acc then acc else acc ++ [g.d]) (fun acc ρ μ => ((∀ t ∈ acc, okc t = true) ∧ acc.length ≤ 8 ∧ acc.Nodup ∧ ∀ t ∈ acc, t ∈ G.map (·.d)) ∧ (∃ a, ρ = [some (.lst (G.map eG)), some (.mref 0), a]) ∧ μ = [.lst (acc.map D.str)]) G [] _ _ ⟨⟨by simp, by simp, by simp, by simp⟩, ⟨none, rfl⟩, rfl⟩ ?_ ?_
  · rintro g acc ρ μ hg ⟨⟨h1, h2, h3, h4⟩, ⟨a, e1⟩, e2⟩
    subst e1 e2
    have k1 : ixD (eG g) (.int 1) = some (.str g.d) := rfl
    have k2 : ∀ μ, look μ (eG g) = eG g := fun _ => rfl
    have k3 := nin_strs (h.ok g hg).d.okc h1
    have b1 : Nat.blt (acc.map D.str).length 16777216 = true := blt_ok (by rw [List.length_map]; omega)
    refine ⟨_, rfl, fun k R hk => ?_⟩
    by_cases q : g.d ∈ acc
    · simp only [q, decide_true, Bool.not_true] at k3
      simp only [wp0, wp1, lk_mref, lineBs, Nat.beq_refl, List.append_nil, List.length_cons, List.length_nil, Nat.zero_add, Nat.reduceAdd, List.getElem?_cons_zero, List.getElem?_cons_succ, List.set_cons_zero, List.set_cons_succ, Bool.not_true, Bool.not_false, k1, k2, k3]
      refine hk _ _ ⟨?_, ⟨_, rfl⟩, ?_⟩
      · rw [if_pos q]
        exact ⟨h1, h2, h3, h4⟩
      · rw [if_pos q]
    · simp only [q, decide_false, Bool.not_false] at k3
      simp only [wp0, wp1, lk_mref, lineBs, Nat.beq_refl, List.append_nil, List.length_cons, List.length_nil, Nat.zero_add, Nat.reduceAdd, List.getElem?_cons_zero, List.getElem?_cons_succ, List.set_cons_zero, List.set_cons_succ, Bool.not_true, Bool.not_false, k1, k2, k3, isL, appF, b1]
      have n2 : (acc ++ [g.d]).Nodup := by
        rw [List.nodup_append]
        refine ⟨h3, by simp, fun a ha b hb => ?_⟩
        rw [List.mem_singleton.mp hb]
        intro e
        exact q (e ▸ ha)
      have sub : ∀ t ∈ acc ++ [g.d], t ∈ G.map (·.d) := fun t ht => by
        rcases List.mem_append.mp ht with z | z
        · exact h4 t z
        · rw [List.mem_singleton.mp z]
          exact List.mem_map.mpr ⟨g, hg, rfl⟩
      refine hk _ _ ⟨?_, ⟨_, rfl⟩, ?_⟩
      · rw [if_neg q]
        refine ⟨fun t ht => ?_, ?_, n2, sub⟩
        · obtain ⟨g', hg', e⟩ := List.mem_map.mp (sub t ht)
          subst e
          exact (h.ok g' hg').d.okc
        · have := List.Nodup.length_le_of_subset n2 sub
          rw [List.length_map] at this
          have := h.hi
          omega
      · rw [if_neg q]
        simp only [List.map_append, List.map_cons, List.map_nil]
  · rintro ρ μ ⟨_, ⟨a, e1⟩, e2⟩
    rw [huesF_eq] at e2
    subst e1 e2
    have e3 : dedupF [] (G.map (·.d)) = hues G := rfl
    rw [e3]
    simp only [wp0, wp1, lk_mref, lineBs, Nat.beq_refl, List.append_nil, List.length_cons, List.length_nil, Nat.zero_add, Nat.reduceAdd, List.getElem?_cons_zero, List.getElem?_cons_succ, List.set_cons_zero, List.set_cons_succ, Bool.not_true, Bool.not_false, ]
    rw [fz_lst rfl (fun d hd μ => by obtain ⟨x, _, e⟩ := List.mem_map.mp hd; subst e; rfl)]
    rfl
/-- items kept by draws -/
theorem draw_filter {α : Type} {enc : α → D} {g : GF} {we : WE} {ρ : Slots} {rest : Sto} (hr : noMOs rest = true) {m : Int} (f : α → D) (h0 : 0 < m) (h1 : m < 1000000)
    (hg : ∀ a, ∃ ρ1, g (enc a) ρ = some ρ1 ∧ ρ1[0]? = some (some (.mref 0)) ∧ ∀ μ Q E, we ρ1 μ Q E = Q (f a) μ) (xs : List α) {c : MO} (hc : IsCup c) (Q : List D → Sto → Prop)
    (h : ∀ c' (ys : List α), IsCup c' → ys.Sublist xs → Q (ys.map f) (c' :: rest)) : lcW g (tBl (w2 eqqD (wGc (wCallN c__law_sip 2 [] (aCons (wVar 0) (aCons (wC (.int m)) aNil)))) (wC (.int 0)))) we (xs.map enc) ρ (c :: rest) Q := by
  refine lc_imp (fun (r : List α) ds μ => ∃ (c : MO) (ys : List α), IsCup c ∧ μ = c :: rest ∧ ds = ys.map f ∧ (ys ++ r).Sublist xs) ?_ xs [] (c :: rest) Q ⟨c, [], hc, rfl, rfl, List.Sublist.refl _⟩ ?_
  · rintro a r ds μ ⟨c, ys, hc, e1, e2, e3⟩
    subst e1 e2
    obtain ⟨ρ1, g1, g2, g3⟩ := hg a
    refine ⟨ρ1, g1, fun Q E hQ => ?_⟩
    simp only [wp0, wp1, lk_mref, lineBs, Nat.beq_refl, List.append_nil, List.length_cons, List.length_nil, Nat.zero_add, Nat.reduceAdd, List.getElem?_cons_zero, List.getElem?_cons_succ, List.set_cons_zero, List.set_cons_succ, Bool.not_true, Bool.not_false, ]
    refine sip_run hc hr h0 h1 g2 (fun Q E => rfl) fun c4 f4 hc4 f40 f41 => ?_
    simp only [wp0, wp1, lk_mref, lineBs, Nat.beq_refl, List.append_nil, List.length_cons, List.length_nil, Nat.zero_add, Nat.reduceAdd, List.getElem?_cons_zero, List.getElem?_cons_succ, List.set_cons_zero, List.set_cons_succ, Bool.not_true, Bool.not_false, ]
    refine hQ _ _ (fun _ Q' E' hQ' => ?_) fun _ => ⟨c4, ys, hc4, rfl, rfl, ?_⟩
    · rw [g3]
      refine hQ' _ _ ⟨c4, ys ++ [a], hc4, rfl, by simp only [List.map_append, List.map_cons, List.map_nil], ?_⟩
      rw [List.append_assoc]
      exact e3
    · exact List.Sublist.trans (List.Sublist.append_left (List.sublist_cons_self a r) ys) e3
  · rintro ys μ ⟨c, zs, hc, e1, e2, e3⟩
    subst e1
    rw [List.nil_append] at e2
    subst e2
    rw [List.append_nil] at e3
    exact h c zs hc e3
end K58

namespace K58
open PySem PySem.Spec PyProof.Rows L2 Pk Bk
/-- some ints, so many -/
def Ints (n : Nat) (o : MO) : Prop := ∃ xs : List Int, xs.length = n ∧ o = .lst (xs.map .int)
theorem noMs_I (xs : List Int) : noMs (xs.map D.int) = true := noMs_map (fun _ => rfl) xs
theorem ints_get {xs : List Int} {k : Nat} (h : k < xs.length) : ∃ v, nthG (xs.map D.int) k = some (.int v) := by
  rw [nth_map, nthG_eq, List.getElem?_eq_getElem h]
  exact ⟨_, rfl⟩
theorem gar_t {G : List Gar} {k : Nat} (hk : k < G.length) : nthG (G.map eG) k = some (eG G[k]) ∧ ixD (eG G[k]) (.int 2) = some (.int (Bk.gT G k : Nat)) ∧ ixD (eG G[k]) (.int 1) = some (.str (gD G k)) ∧ ixD (eG G[k]) (.int 0) = some (.str (Bk.gN G k)) ∧ ∀ μ, look μ (eG G[k]) = eG G[k] := by
  refine ⟨?_, ?_, ?_, ?_, fun _ => rfl⟩
  · rw [nth_map, nthG_eq, List.getElem?_eq_getElem hk]
    rfl
  · unfold Bk.gT
    rw [List.getElem?_eq_getElem hk]
    rfl
  · unfold gD
    rw [List.getElem?_eq_getElem hk]
    rfl
  · unfold Bk.gN
    rw [List.getElem?_eq_getElem hk]
    rfl
theorem gT_low {G : List Gar} (h : GarsOk G) {k : Nat} (hk : k < G.length) : Bk.gT G k ≤ 12 := by
  unfold Bk.gT
  rw [List.getElem?_eq_getElem hk]
  exact (h.ok _ (List.getElem_mem hk)).t
def wT : WS := (sSeq (sFor (iSeq (wFz 1 (wVar 8))) (gN 7)
  (sAsg2 (w2 addD (w2 ixD (wVar 5) (wVar 7)) (wC (.int 1))) fun E d ρ μ Q => (g2S (wVar 5) (wVar 7)) d ρ μ Q (fun x μ' => E x ρ μ')))
  (sSeq (sAsg (wLc false (iSeq (wFz 1 (wCallN c__law_hues 1 [] (aCons (wVar 1) aNil)))) (gN 14) (tBl (w2 inD (wVar 14) (wLc false (iSeq (wFz 1 (wVar 8))) (gN 7) tAll (w2 ixD (w2 ixD (wVar 1) (wVar 7)) (wC (.int 1))) [7]))) (wVar 14) [14]) (gN 9))
  (sSeq (sAsg (wLc false (iSeq (wFz 1 (wVar 8))) (gN 7) (tBl (w2 leD (w2 ixD (wVar 5) (wVar 7)) (w2 ixD (wVar 4) (wVar 7)))) (w2 ixD (w2 ixD (wVar 1) (wVar 7)) (wC (.int 1))) [7]) (gN 10))
  (sSeq (sAsg (wLc false (iSeq (wFz 1 (wVar 9))) (gN 14) (tBl (w2 eqqD (wGc (wCallN c__law_sip 2 [] (aCons (wVar 0) (aCons (wC (.int 6)) aNil)))) (wC (.int 0)))) (wVar 14) [14]) (gN 11))
  (sSeq (sAsg (wLc false (iSeq (wFz 1 (wVar 9))) (gN 14) (tAn (tBl (w2 ninD (wVar 14) (wVar 11))) (tBl (w2 neqD (w2 inD (wVar 14) (wVar 10)) (w2 eqqD (wGc (wCallN c__law_sip 2 [] (aCons (wVar 0) (aCons (wC (.int 12)) aNil)))) (wC (.int 0)))))) (wVar 14) [14]) (gN 12))
  (sExpr (wMe isL appF (wVar 3) (aCons (wTup (aCons (wC (.str [119, 97, 115, 104])) (aCons (wVar 8) (aCons (wVar 12) (aCons (wVar 11) aNil))))) aNil))))))))
def wP : WS := (sSeq (sIf (tBl (w2 eqqD (wGc (wCallN c__law_sip 2 [] (aCons (wVar 0) (aCons (wC (.int 2)) aNil)))) (wC (.int 0))))
  (sAsg (wRev (wVar 8)) (gN 8)) sNil)
  wT)
theorem drawn_eq : w__law_drawn = (sSeq (sAsg (wTup (aCons (wLstO aNil) (aCons (wLc true (iSeq (wFz 1 (wVar 1))) (gN 13) tAll (wGc (wCallN c__law_sip 2 [] (aCons (wVar 0) (aCons (w2 addD (w2 ixD (wVar 13) (wC (.int 2))) (wC (.int 1))) aNil)))) [13]) aNil))) (gT [(gN 3), (gN 4)]))
  (sSeq (sAsg (wMulO (wLst (aCons (wC (.int 0)) aNil)) (wBu (b1 lenD) (aCons (wVar 1) aNil))) (gN 5))
  (sSeq (sFor (iRg1 (wGc (wCallN c__law_sip 2 [] (aCons (wVar 0) (aCons (w2 addD (wVar 2) (wC (.int 1))) aNil))))) (gN 6)
  (sIf (tBl (w2 eqqD (wGc (wCallN c__law_sip 2 [] (aCons (wVar 0) (aCons (wC (.int 7)) aNil)))) (wC (.int 0))))
  (sSeq (sAsg (wGc (wCallN c__law_sip 2 [] (aCons (wVar 0) (aCons (wBu (b1 lenD) (aCons (wVar 1) aNil)) aNil)))) (gN 7))
  (sSeq (sExpr (wMe isL appF (wVar 3) (aCons (wTup (aCons (wC (.str [114, 101, 110, 101, 119])) (aCons (wVar 7) aNil))) aNil)))
  (sAsg2 (wTup (aCons (wGc (wCallN c__law_sip 2 [] (aCons (wVar 0) (aCons (w2 addD (w2 ixD (w2 ixD (wVar 1) (wVar 7)) (wC (.int 2))) (wC (.int 1))) aNil)))) (aCons (wC (.int 0)) aNil))) fun E => g2T 2 (g2Cons (g2S (wVar 4) (wVar 7)) (g2Cons (g2S (wVar 5) (wVar 7)) g2Nil)) E))) (sSeq (sAsg (wLc false (iRg1 (wBu (b1 lenD) (aCons (wVar 1) aNil))) (gN 7) (tBl (w2 eqqD (wGc (wCallN c__law_sip 2 [] (aCons (wVar 0) (aCons (wC (.int 2)) aNil)))) (wC (.int 0)))) (wVar 7) [7]) (gN 8))
  (sSeq (sAsg (wIf (tBl (w2 eqqD (wVar 8) (wLst aNil))) (wLst (aCons (wGc (wCallN c__law_sip 2 [] (aCons (wVar 0) (aCons (wBu (b1 lenD) (aCons (wVar 1) aNil)) aNil)))) aNil)) (wVar 8)) (gN 8))
  wP))))
  (sRet (wFz 1 (wVar 3)))))) := rfl
theorem hues_mem {G : List Gar} {d : Tx} (h : d ∈ hues G) : d ∈ G.map (·.d) := by
  have : ∀ (xs acc : List Tx), d ∈ dedupF acc xs → d ∈ acc ∨ d ∈ xs := by
    intro xs
    induction xs with
    | nil => exact fun acc h => Or.inl h
    | cons x r ih =>
      intro acc h
      unfold dedupF at h
      split at h
      · rcases ih _ h with q | q
        · exact Or.inl q
        · exact Or.inr (List.mem_cons_of_mem _ q)
      · rcases ih _ h with q | q
        · rcases List.mem_append.mp q with q | q
          · exact Or.inl q
          · exact Or.inr (by rw [List.mem_singleton.mp q]; exact List.mem_cons_self ..)
        · exact Or.inr (List.mem_cons_of_mem _ q)
  rcases this _ _ h with q | q
  · cases q
  · exact q
theorem hues_okc {G : List Gar} (hG : GarsOk G) {d : Tx} (h : d ∈ hues G) : okc d = true := by
  obtain ⟨g, hg, e⟩ := List.mem_map.mp (hues_mem h)
  subst e
  exact (hG.ok g hg).d.okc
theorem hues_run {G : List Gar} (hG : GarsOk G) (ρ : Slots) (μ : Sto) (Q : QD) (E : QX) (h1 : ρ[1]? = some (some (.lst (G.map eG)))) : wCallN c__law_hues 1 [] (aCons (wVar 1) aNil) ρ μ Q E = Q (.lst ((hues G).map .str)) μ := by
  have k : ∀ μ Q E, c__law_hues [.lst (G.map eG)] μ Q E = Q (.lst ((hues G).map .str)) μ := m_hues hG
  simp only [wp0, wp1, lk_mref, lineBs, Nat.beq_refl, List.append_nil, List.length_cons, List.length_nil, Nat.zero_add, Nat.reduceAdd, List.getElem?_cons_zero, List.getElem?_cons_succ, List.set_cons_zero, List.set_cons_succ, Bool.not_true, Bool.not_false, h1, k]
theorem m_T {G : List Gar} (hG : GarsOk G) {De : DEnds} {E0 : List LE} {ks : List Nat} {tr go : List Int} {c : MO} (hc : IsCup c) {ln : D} {a6 a7 a9 a10 a11 a12 : Option D} (ne : ks ≠ []) (nd : ks.Nodup) (lt : ∀ k ∈ ks, k < G.length) (hE : E0.length < 30)
    (htr : tr.length = G.length) (hgo : go.length = G.length)
    (h : ∀ (c' : MO) (s u : List Tx) (go' : List Int) (b7 b9 b10 b11 b12 : Option D), IsCup c' → WashOk G ks s u → go'.length = G.length → De.nx [some (.mref 0), some (.lst (G.map eG)), some ln, some (.mref 1), some (.mref 2), some (.mref 3), a6, b7, some (.lst (ks.map eN)), b9, b10, b11, b12, none, none] [c', .lst ((E0 ++ [LE.wash ks s u]).map eLE), .lst (tr.map D.int), .lst (go'.map D.int)]) :
    wT De [some (.mref 0), some (.lst (G.map eG)), some ln, some (.mref 1), some (.mref 2), some (.mref 3), a6, a7, some (.lst (ks.map eN)), a9, a10, a11, a12, none, none] [c, .lst (E0.map eLE), .lst (tr.map D.int), .lst (go.map D.int)] := by
  have ghi := hG.hi
  unfold wT
  have nk := noMs_eN ks
  simp only [wp0, wp1, lk_mref, lineBs, Nat.beq_refl, List.append_nil, List.length_cons, List.length_nil, Nat.zero_add, Nat.reduceAdd, List.getElem?_cons_zero, List.getElem?_cons_succ, List.set_cons_zero, List.set_cons_succ, Bool.not_true, Bool.not_false, ]
  refine for_imp (fun (r : List Nat) ρ μ => ∃ (go : List Int), go.length = G.length ∧ (∀ k ∈ r, k < G.length) ∧ (∃ a7, ρ = [some (.mref 0), some (.lst (G.map eG)), some ln, some (.mref 1), some (.mref 2), some (.mref 3), a6, a7, some (.lst (ks.map eN)), a9, a10, a11, a12, none, none]) ∧
      μ = [c, .lst (E0.map eLE), .lst (tr.map D.int), .lst (go.map D.int)]) ks _ _ ⟨go, hgo, lt, ⟨_, rfl⟩, rfl⟩ ?_ ?_
  · rintro ρ μ ⟨go, hgo, _, ⟨a7, e1⟩, e2⟩
    subst e1 e2
    have hr1 : noMOs [MO.lst (E0.map eLE), .lst (tr.map D.int), .lst (go.map D.int)] = true := by
      simp only [noMOs, noMO, noMs_I, noMs_eLE]
    have kh : ∀ μ Q E, c__law_hues [.lst (G.map eG)] μ Q E = Q (.lst ((hues G).map .str)) μ := m_hues hG
    have kn : ks.length ≤ 8 := by
      have := List.Nodup.length_le_of_subset nd (fun k hk => List.mem_range.mpr (lt k hk) : ks ⊆ List.range G.length)
      rw [List.length_range] at this
      omega
    have hn : (hues G).length ≤ 8 := by
      have := dedup_len (G.map (·.d))
      rw [List.length_map] at this
      have : (hues G).length ≤ G.length := this
      omega
    have b1 : Nat.blt ((hues G).map D.str).length 16777216 = true := blt_ok (by rw [List.length_map]; omega)
    have b2 : Nat.blt (ks.map eN).length 16777216 = true := blt_ok (by rw [List.length_map]; omega)
    simp only [wp0, wp1, lk_mref, lineBs, Nat.beq_refl, List.append_nil, List.length_cons, List.length_nil, Nat.zero_add, Nat.reduceAdd, List.getElem?_cons_zero, List.getElem?_cons_succ, List.set_cons_zero, List.set_cons_succ, Bool.not_true, Bool.not_false, kh, b1]
    rw [lc_map (fun d : Tx => decide (d ∈ ks.map (gD G))) D.str (hues G) _ fun d hd => ⟨_, rfl, fun Q E => ?_, fun _ Q E => rfl⟩]
    · simp only [wp0, wp1, lk_mref, lineBs, Nat.beq_refl, List.append_nil, List.length_cons, List.length_nil, Nat.zero_add, Nat.reduceAdd, List.getElem?_cons_zero, List.getElem?_cons_succ, List.set_cons_zero, List.set_cons_succ, Bool.not_true, Bool.not_false, b2]
      rw [lc_map (fun k : Nat => decide ((go[k]?).getD 0 ≤ (tr[k]?).getD 0)) (fun k => D.str (gD G k)) ks _ fun k hk => ⟨_, rfl, fun Q E => ?_, fun _ Q E => ?_⟩]
      · have b3 : ∀ p : Tx → Bool, Nat.blt (((hues G).filter p).map D.str).length 16777216 = true := fun p => blt_ok (by
          have := List.length_filter_le p (hues G)
          rw [List.length_map]
          omega)
        have e0 : ∀ p : Nat → Bool, ((ks.filter p).map fun k => D.str (gD G k)) = ((ks.filter p).map (gD G)).map D.str := fun p => by rw [List.map_map]; rfl
        simp only [wp0, wp1, lk_mref, lineBs, Nat.beq_refl, List.append_nil, List.length_cons, List.length_nil, Nat.zero_add, Nat.reduceAdd, List.getElem?_cons_zero, List.getElem?_cons_succ, List.set_cons_zero, List.set_cons_succ, Bool.not_true, Bool.not_false, b3, e0]
        have hth : ∀ d ∈ (hues G).filter fun d => decide (d ∈ ks.map (gD G)), d ∈ hues G ∧ ∃ k ∈ ks, gD G k = d := fun d hd => by
          rw [List.mem_filter, decide_eq_true_iff] at hd
          exact ⟨hd.1, List.mem_map.mp hd.2⟩
        have nth : ((hues G).filter fun d => decide (d ∈ ks.map (gD G))).Nodup := List.Nodup.sublist List.filter_sublist (nodup_dedup _)
        have lth : ((hues G).filter fun d => decide (d ∈ ks.map (gD G))).length ≤ 8 := Nat.le_trans (List.length_filter_le _ _) hn
        generalize (hues G).filter (fun d => decide (d ∈ ks.map (gD G))) = th at hth nth lth ⊢
        have hsu : ∀ d ∈ (ks.filter fun k : Nat => decide ((go[k]?).getD 0 ≤ (tr[k]?).getD 0)).map (gD G), okc d = true := fun d hd => by
          obtain ⟨k, hk, e⟩ := List.mem_map.mp hd
          subst e
          exact (gD_ok hG (lt k (List.mem_filter.mp hk).1)).okc
        generalize (ks.filter fun k : Nat => decide ((go[k]?).getD 0 ≤ (tr[k]?).getD 0)).map (gD G) = su at hsu ⊢
        refine draw_filter hr1 (m := 6) D.str (by decide) (by decide) (fun d => ⟨_, rfl, rfl, fun μ Q E => rfl⟩) th hc _ fun c2 ys hc2 sub2 => ?_
        have b4 : Nat.blt (th.map D.str).length 16777216 = true := blt_ok (by rw [List.length_map]; omega)
        have oky : ∀ d ∈ ys, okc d = true := fun d hd => hues_okc hG (hth d (sub2.subset hd)).1
        refine lc_imp (fun (r : List Tx) ds μ => ∃ (c : MO) (zs : List Tx), IsCup c ∧ μ = c :: [MO.lst (E0.map eLE), .lst (tr.map D.int), .lst (go.map D.int)] ∧ ds = zs.map D.str ∧ (zs ++ r).Sublist th ∧ ∀ z ∈ zs, z ∉ ys) ?_ th [] _ _ ⟨c2, [], hc2, rfl, rfl, List.Sublist.refl _, by simp⟩ ?_
        · rintro d r ds μ ⟨c, zs, hc, e1, e2, e3, e4⟩
          subst e1 e2
          have okd := hues_okc hG (hth d (e3.subset (by simp))).1
          have k1 := nin_strs okd oky
          have k2 := in_strs okd hsu
          refine ⟨_, rfl, fun Q E hQ => ?_⟩
          simp only [wp0, wp1, lk_mref, lineBs, Nat.beq_refl, List.append_nil, List.length_cons, List.length_nil, Nat.zero_add, Nat.reduceAdd, List.getElem?_cons_zero, List.getElem?_cons_succ, List.set_cons_zero, List.set_cons_succ, Bool.not_true, Bool.not_false, k1, k2]
          have sb : (zs ++ r).Sublist th := List.Sublist.trans (List.Sublist.append_left (List.sublist_cons_self d r) zs) e3
          by_cases q : d ∈ ys
          · simp only [q, decide_true, Bool.not_true]
            exact hQ false _ (fun e => by cases e) fun _ => ⟨c, zs, hc, rfl, rfl, sb, e4⟩
          · simp only [q, decide_false, Bool.not_false]
            refine sip_run hc hr1 (by decide) (by decide) rfl (fun Q E => rfl) fun c4 f4 hc4 f40 f41 => ?_
            have k3 : ∀ (a b : Bool), neqD (.bl a) (.bl b) = some (.bl (!decide (a = b))) := by intro a b; cases a <;> cases b <;> rfl
            simp only [wp0, wp1, lk_mref, lineBs, Nat.beq_refl, List.append_nil, List.length_cons, List.length_nil, Nat.zero_add, Nat.reduceAdd, List.getElem?_cons_zero, List.getElem?_cons_succ, List.set_cons_zero, List.set_cons_succ, Bool.not_true, Bool.not_false, k3]
            refine hQ _ _ (fun _ Q' E' hQ' => ?_) fun _ => ⟨c4, zs, hc4, rfl, rfl, sb, e4⟩
            refine hQ' _ _ ⟨c4, zs ++ [d], hc4, rfl, by simp only [List.map_append, List.map_cons, List.map_nil], ?_, fun z hz => ?_⟩
            · rw [List.append_assoc]
              exact e3
            · rcases List.mem_append.mp hz with w | w
              · exact e4 z w
              · rw [List.mem_singleton.mp w]
                exact q
        · rintro zs μ ⟨c, zs', hc3, e1, e2, e3, e4⟩
          subst e1
          rw [List.nil_append] at e2
          subst e2
          rw [List.append_nil] at e3
          have b5 : Nat.blt (E0.map eLE).length 16777216 = true := blt_ok (by rw [List.length_map]; omega)
          simp only [wp0, wp1, lk_mref, lineBs, Nat.beq_refl, List.append_nil, List.length_cons, List.length_nil, Nat.zero_add, Nat.reduceAdd, List.getElem?_cons_zero, List.getElem?_cons_succ, List.set_cons_zero, List.set_cons_succ, Bool.not_true, Bool.not_false, isL, appF, b5]
          have hw : WashOk G ks zs' ys := ⟨ne, lt, nd, List.nodup_append.mpr ⟨nth.sublist e3, nth.sublist sub2, fun a ha b hb e => e4 a ha (e ▸ hb)⟩, fun d hd => by
            rcases List.mem_append.mp hd with w | w
            · exact (hth d (e3.subset w)).2
            · exact (hth d (sub2.subset w)).2⟩
          have := h c zs' ys go a7 (some (D.lst (List.map D.str th))) (some (D.lst (List.map D.str su))) (some (D.lst (List.map D.str ys))) (some (D.lst (List.map D.str zs'))) hc3 hw hgo
          rw [List.map_append] at this
          exact this
      · have kl := lt k hk
        have g1 : nthG (go.map D.int) k = some (.int ((go[k]?).getD 0)) := by
          rw [nth_map, nthG_eq, List.getElem?_eq_getElem (by omega)]
          rfl
        have g2 : nthG (tr.map D.int) k = some (.int ((tr[k]?).getD 0)) := by
          rw [nth_map, nthG_eq, List.getElem?_eq_getElem (by omega)]
          rfl
        simp only [wp0, wp1, lk_mref, lineBs, Nat.beq_refl, List.append_nil, List.length_cons, List.length_nil, Nat.zero_add, Nat.reduceAdd, List.getElem?_cons_zero, List.getElem?_cons_succ, List.set_cons_zero, List.set_cons_succ, Bool.not_true, Bool.not_false, g1, g2, eN, leD]
      · obtain ⟨g1, g2, g3, g4, g5⟩ := gar_t (lt k hk)
        have kl := lt k hk
        have g6 : ixD (.lst (G.map eG)) (.int (k : Nat)) = some (eG G[k]) := by
          simp only [wp0, wp1, lk_mref, lineBs, Nat.beq_refl, List.append_nil, List.length_cons, List.length_nil, Nat.zero_add, Nat.reduceAdd, List.getElem?_cons_zero, List.getElem?_cons_succ, List.set_cons_zero, List.set_cons_succ, Bool.not_true, Bool.not_false, g1]
        simp only [wp0, wp1, lk_mref, lineBs, Nat.beq_refl, List.append_nil, List.length_cons, List.length_nil, Nat.zero_add, Nat.reduceAdd, List.getElem?_cons_zero, List.getElem?_cons_succ, List.set_cons_zero, List.set_cons_succ, Bool.not_true, Bool.not_false, g6, g3, g5, eN]
    · simp only [wp0, wp1, lk_mref, lineBs, Nat.beq_refl, List.append_nil, List.length_cons, List.length_nil, Nat.zero_add, Nat.reduceAdd, List.getElem?_cons_zero, List.getElem?_cons_succ, List.set_cons_zero, List.set_cons_succ, Bool.not_true, Bool.not_false, b2]
      rw [lc_all (fun k => D.str (gD G k)) ks _ fun k hk => ⟨_, rfl, fun Q E => by
        obtain ⟨g1, g2, g3, g4, g5⟩ := gar_t (lt k hk)
        have kl := lt k hk
        have g6 : ixD (.lst (G.map eG)) (.int (k : Nat)) = some (eG G[k]) := by
          simp only [wp0, wp1, lk_mref, lineBs, Nat.beq_refl, List.append_nil, List.length_cons, List.length_nil, Nat.zero_add, Nat.reduceAdd, List.getElem?_cons_zero, List.getElem?_cons_succ, List.set_cons_zero, List.set_cons_succ, Bool.not_true, Bool.not_false, g1]
        simp only [wp0, wp1, lk_mref, lineBs, Nat.beq_refl, List.append_nil, List.length_cons, List.length_nil, Nat.zero_add, Nat.reduceAdd, List.getElem?_cons_zero, List.getElem?_cons_succ, List.set_cons_zero, List.set_cons_succ, Bool.not_true, Bool.not_false, g6, g3, g5, eN]⟩]
      have e1 : (ks.map fun k => D.str (gD G k)) = (ks.map (gD G)).map D.str := by rw [List.map_map]; rfl
      have e2 := in_strs (hues_okc hG hd) (ws := ks.map (gD G)) fun t ht => by
        obtain ⟨k, hk, e⟩ := List.mem_map.mp ht
        subst e
        exact (gD_ok hG (lt k hk)).okc
      simp only [wp0, wp1, lk_mref, lineBs, Nat.beq_refl, List.append_nil, List.length_cons, List.length_nil, Nat.zero_add, Nat.reduceAdd, List.getElem?_cons_zero, List.getElem?_cons_succ, List.set_cons_zero, List.set_cons_succ, Bool.not_true, Bool.not_false, e1, e2]
  · rintro k r ρ μ ⟨go, hgo, hlt, ⟨a7, e1⟩, e2⟩
    subst e1 e2
    refine ⟨_, rfl, fun kk hk => ?_⟩
    have kl := hlt k (by simp)
    obtain ⟨v, hv⟩ := ints_get (xs := go) (k := k) (by omega)
    have s1 : setD (.lst (go.map D.int)) (.int (k : Nat)) (.int (v + 1)) = some (.lst ((go.set k (v + 1)).map D.int)) := by
      rw [setD_nat (by rw [List.length_map]; omega), List.map_set]
    simp only [wp0, wp1, lk_mref, lineBs, Nat.beq_refl, List.append_nil, List.length_cons, List.length_nil, Nat.zero_add, Nat.reduceAdd, List.getElem?_cons_zero, List.getElem?_cons_succ, List.set_cons_zero, List.set_cons_succ, Bool.not_true, Bool.not_false, s1, hv, eN]
    refine hk _ _ ⟨go.set k (v + 1), by rw [List.length_set]; exact hgo, fun z hz => hlt z (List.mem_cons_of_mem _ hz), ⟨_, rfl⟩, rfl⟩
theorem m_P {G : List Gar} (hG : GarsOk G) {De : DEnds} {E0 : List LE} {ks : List Nat} {tr go : List Int} {c : MO} (hc : IsCup c) {ln : D} {a6 a7 a9 a10 a11 a12 : Option D} (ne : ks ≠ []) (nd : ks.Nodup) (lt : ∀ k ∈ ks, k < G.length) (hE : E0.length < 30)
    (htr : tr.length = G.length) (hgo : go.length = G.length)
    (h : ∀ (c' : MO) (ks s u : List _) (go' : List Int) (b7 b9 b10 b11 b12 : Option D), IsCup c' → WashOk G ks s u → go'.length = G.length → De.nx [some (.mref 0), some (.lst (G.map eG)), some ln, some (.mref 1), some (.mref 2), some (.mref 3), a6, b7, some (.lst (ks.map eN)), b9, b10, b11, b12, none, none] [c', .lst ((E0 ++ [LE.wash ks s u]).map eLE), .lst (tr.map D.int), .lst (go'.map D.int)]) :
    wP De [some (.mref 0), some (.lst (G.map eG)), some ln, some (.mref 1), some (.mref 2), some (.mref 3), a6, a7, some (.lst (ks.map eN)), a9, a10, a11, a12, none, none] [c, .lst (E0.map eLE), .lst (tr.map D.int), .lst (go.map D.int)] := by
  have hr1 : noMOs [MO.lst (E0.map eLE), .lst (tr.map D.int), .lst (go.map D.int)] = true := by
    simp only [noMOs, noMO, noMs_I, noMs_eLE]
  unfold wP
  simp only [wp0, wp1, lk_mref, lineBs, Nat.beq_refl, List.append_nil, List.length_cons, List.length_nil, Nat.zero_add, Nat.reduceAdd, List.getElem?_cons_zero, List.getElem?_cons_succ, List.set_cons_zero, List.set_cons_succ, Bool.not_true, Bool.not_false, ]
  refine sip_run hc hr1 (by decide) (by decide) rfl (fun Q E => rfl) fun c4 f4 hc4 f40 f41 => ?_
  simp only [wp0, wp1, lk_mref, lineBs, Nat.beq_refl, List.append_nil, List.length_cons, List.length_nil, Nat.zero_add, Nat.reduceAdd, List.getElem?_cons_zero, List.getElem?_cons_succ, List.set_cons_zero, List.set_cons_succ, Bool.not_true, Bool.not_false, ]
  cases decide (f4 = 0) with
  | true =>
    simp only [wp0, wp1, lk_mref, lineBs, Nat.beq_refl, List.append_nil, List.length_cons, List.length_nil, Nat.zero_add, Nat.reduceAdd, List.getElem?_cons_zero, List.getElem?_cons_succ, List.set_cons_zero, List.set_cons_succ, Bool.not_true, Bool.not_false, ]
    rw [← List.map_reverse]
    refine m_T hG hc4 (by simpa using ne) ?_ (fun k hk => lt k (List.mem_reverse.mp hk)) hE htr hgo fun c' s u go' b7 b9 b10 b11 b12 => h c' ks.reverse s u go' b7 b9 b10 b11 b12
    exact List.nodup_iff_pairwise_ne.mpr (List.pairwise_reverse.mpr ((List.nodup_iff_pairwise_ne.mp nd).imp fun q => q.symm))
  | false =>
    simp only [wp0, wp1, lk_mref, lineBs, Nat.beq_refl, List.append_nil, List.length_cons, List.length_nil, Nat.zero_add, Nat.reduceAdd, List.getElem?_cons_zero, List.getElem?_cons_succ, List.set_cons_zero, List.set_cons_succ, Bool.not_true, Bool.not_false, ]
    exact m_T hG hc4 ne nd lt hE htr hgo fun c' s u go' b7 b9 b10 b11 b12 => h c' ks s u go' b7 b9 b10 b11 b12
theorem m_drawn {c : MO} (hc : IsCup c) {G : List Gar} (hG : GarsOk G) {len : Nat} (hl : len ≤ 30) {Q : QD} {E : QX} (h : ∀ c' junk (E0 : List LE), IsCup c' → (∀ e ∈ E0, LEok G e) → E0.length ≤ len → Q (.lst (E0.map eLE)) (c' :: junk)) :
    c__law_drawn [.mref 0, .lst (G.map eG), .int (len : Nat)] [c] Q E := by
  have ghi := hG.hi
  have glo := hG.lo
  rw [u__law_drawn rfl]
  rw [drawn_eq]
  have b1 : Nat.blt (G.map eG).length 16777216 = true := blt_ok (by rw [List.length_map]; omega)
  simp only [wp0, wp1, lk_mref, lineBs, Nat.beq_refl, List.append_nil, List.length_cons, List.length_nil, Nat.zero_add, Nat.reduceAdd, List.getElem?_cons_zero, List.getElem?_cons_succ, List.set_cons_zero, List.set_cons_succ, Bool.not_true, Bool.not_false, List.cons_append, List.nil_append, b1]
  refine lc_imp (fun (r : List Gar) ds μ => ∃ (c : MO) (xs : List Int), IsCup c ∧ μ = [c, .lst []] ∧ ds = xs.map D.int ∧ xs.length + r.length = G.length ∧ ∀ g ∈ r, g ∈ G) ?_ G [] [c, .lst []] _ ⟨c, [], hc, rfl, rfl, by simp, fun g hg => hg⟩ ?_
  · rintro g r ds μ ⟨c, xs, hc, e1, e2, e3, e4⟩
    subst e1 e2
    have k1 : ixD (eG g) (.int 2) = some (.int (g.t : Nat)) := rfl
    have k2 : ∀ μ, look μ (eG g) = eG g := fun _ => rfl
    have gt := (hG.ok g (e4 g (by simp))).t
    refine ⟨_, rfl, fun Q E hQ => ?_⟩
    refine hQ true _ (fun _ Q' E' hQ' => ?_) (fun z => by cases z)
    refine sip_run hc rfl (size := (g.t : Int) + 1) (by omega) (by omega) rfl (fun Q E => by simp only [wp0, wp1, lk_mref, lineBs, Nat.beq_refl, List.append_nil, List.length_cons, List.length_nil, Nat.zero_add, Nat.reduceAdd, List.getElem?_cons_zero, List.getElem?_cons_succ, List.set_cons_zero, List.set_cons_succ, Bool.not_true, Bool.not_false, k1, k2]) fun c4 f4 hc4 f40 f41 => ?_
    refine hQ' _ _ ⟨c4, xs ++ [f4], hc4, rfl, by simp only [List.map_append, List.map_cons, List.map_nil], ?_, fun g hg => e4 g (List.mem_cons_of_mem _ hg)⟩
    simp only [List.length_append, List.length_cons, List.length_nil] at e3 ⊢
    omega
  · rintro ys μ ⟨c1, xs, hc1, e1, e2, e3, _⟩
    subst e1
    rw [List.nil_append] at e2
    subst e2
    rw [List.length_nil, Nat.add_zero] at e3
    have mb : mulB (G.length : Int) = true := Nat.ble_eq_true_of_le (show G.length + 1 ≤ 100000 by omega)
    have n1 : Nat.ble 1 100 = true := rfl
    have tn : (G.length : Int).toNat = G.length := by omega
    have ez : List.replicate G.length (D.int 0) = (List.replicate G.length (0 : Int)).map D.int := by simp
    simp only [wp0, wp1, lk_mref, lineBs, Nat.beq_refl, List.append_nil, List.length_cons, List.length_nil, Nat.zero_add, Nat.reduceAdd, List.getElem?_cons_zero, List.getElem?_cons_succ, List.set_cons_zero, List.set_cons_succ, Bool.not_true, Bool.not_false, List.cons_append, List.nil_append, List.length_map, mb, n1, tn, repL_one, Bool.and_self, ez]
    have hr0 : noMOs [MO.lst [], .lst (xs.map D.int), .lst ((List.replicate G.length (0 : Int)).map D.int)] = true := by
      simp only [noMOs, noMO, noMs_I, noMs]
    refine sip_run hc1 hr0 (size := (len : Int) + 1) (by omega) (by omega) rfl (fun Q E => rfl) fun c2 f2 hc2 f20 f21 => ?_
    obtain ⟨n, hn⟩ : ∃ n : Nat, f2 = (n : Int) := ⟨f2.toNat, by omega⟩
    subst hn
    have r1 : rgOk (n : Int) = true := rgOk_of (by omega) (by omega)
    have r2 : (n : Int).toNat = n := by omega
    simp only [wp0, wp1, lk_mref, lineBs, Nat.beq_refl, List.append_nil, List.length_cons, List.length_nil, Nat.zero_add, Nat.reduceAdd, List.getElem?_cons_zero, List.getElem?_cons_succ, List.set_cons_zero, List.set_cons_succ, Bool.not_true, Bool.not_false, r1, r2, rng_map]
    refine for_imp (fun (r : List Nat) ρ μ => ∃ (c : MO) (E0 : List LE) (tr go : List Int), IsCup c ∧ (∀ e ∈ E0, LEok G e) ∧ E0.length + r.length ≤ n ∧ tr.length = G.length ∧ go.length = G.length ∧
      (∃ a6 a7 a8 a9 a10 a11 a12, ρ = [some (.mref 0), some (.lst (G.map eG)), some (.int (len : Nat)), some (.mref 1), some (.mref 2), some (.mref 3), a6, a7, a8, a9, a10, a11, a12, none, none]) ∧
      μ = [c, .lst (E0.map eLE), .lst (tr.map D.int), .lst (go.map D.int)]) (List.range n) _ _ ⟨c2, [], xs, List.replicate G.length 0, hc2, by simp, by simp, e3, by simp, ⟨none, none, none, none, none, none, none, rfl⟩, rfl⟩ ?_ ?_
    · rintro ρ μ ⟨c3, E0, tr, go, hc3, hok, hlen, htr, hgo, ⟨a6, a7, a8, a9, a10, a11, a12, e1⟩, e2⟩
      subst e1 e2
      simp only [wp0, wp1, lk_mref, lineBs, Nat.beq_refl, List.append_nil, List.length_cons, List.length_nil, Nat.zero_add, Nat.reduceAdd, List.getElem?_cons_zero, List.getElem?_cons_succ, List.set_cons_zero, List.set_cons_succ, Bool.not_true, Bool.not_false, ]
      rw [fz_lst rfl (fun d hd μ => by obtain ⟨x, _, e⟩ := List.mem_map.mp hd; subst e; cases x <;> rfl)]
      exact h c3 _ E0 hc3 hok (by simp at hlen; omega)
    · rintro i r ρ μ ⟨c3, E0, tr, go, hc3, hok, hlen, htr, hgo, ⟨a6, a7, a8, a9, a10, a11, a12, e1⟩, e2⟩
      subst e1 e2
      have hr1 : noMOs [MO.lst (E0.map eLE), .lst (tr.map D.int), .lst (go.map D.int)] = true := by
        simp only [noMOs, noMO, noMs_I, noMs_eLE]
      have b2 : Nat.blt (E0.map eLE).length 16777216 = true := blt_ok (by rw [List.length_map]; simp only [List.length_cons] at hlen; omega)
      refine ⟨_, rfl, fun k hk => ?_⟩
      simp only [wp0, wp1, lk_mref, lineBs, Nat.beq_refl, List.append_nil, List.length_cons, List.length_nil, Nat.zero_add, Nat.reduceAdd, List.getElem?_cons_zero, List.getElem?_cons_succ, List.set_cons_zero, List.set_cons_succ, Bool.not_true, Bool.not_false, ]
      refine sip_run hc3 hr1 (by decide) (by decide) rfl (fun Q E => rfl) fun c4 f4 hc4 f40 f41 => ?_
      simp only [wp0, wp1, lk_mref, lineBs, Nat.beq_refl, List.append_nil, List.length_cons, List.length_nil, Nat.zero_add, Nat.reduceAdd, List.getElem?_cons_zero, List.getElem?_cons_succ, List.set_cons_zero, List.set_cons_succ, Bool.not_true, Bool.not_false, ]
      cases decide (f4 = 0) with
      | true =>
        simp only [wp0, wp1, lk_mref, lineBs, Nat.beq_refl, List.append_nil, List.length_cons, List.length_nil, Nat.zero_add, Nat.reduceAdd, List.getElem?_cons_zero, List.getElem?_cons_succ, List.set_cons_zero, List.set_cons_succ, Bool.not_true, Bool.not_false, ]
        refine sip_run hc4 hr1 (size := (G.length : Int)) (by omega) (by omega) rfl (fun Q E => by simp only [wp0, wp1, lk_mref, lineBs, Nat.beq_refl, List.append_nil, List.length_cons, List.length_nil, Nat.zero_add, Nat.reduceAdd, List.getElem?_cons_zero, List.getElem?_cons_succ, List.set_cons_zero, List.set_cons_succ, Bool.not_true, Bool.not_false, List.length_map]) fun c5 f5 hc5 f50 f51 => ?_
        obtain ⟨kk, hkk⟩ : ∃ kk : Nat, f5 = (kk : Int) := ⟨f5.toNat, by omega⟩
        subst hkk
        have hkl : kk < G.length := by omega
        obtain ⟨g1, g2, g3, g4, g5⟩ := gar_t hkl
        have gt := gT_low hG hkl
        simp only [wp0, wp1, lk_mref, lineBs, Nat.beq_refl, List.append_nil, List.length_cons, List.length_nil, Nat.zero_add, Nat.reduceAdd, List.getElem?_cons_zero, List.getElem?_cons_succ, List.set_cons_zero, List.set_cons_succ, Bool.not_true, Bool.not_false, isL, appF, b2]
        have hr2 : noMOs [MO.lst (E0.map eLE ++ [.tup [.str [114, 101, 110, 101, 119], .int (kk : Nat)]]), .lst (tr.map D.int), .lst (go.map D.int)] = true := by
          simp only [noMOs, noMO, noMs_I, noMs_app _ _ (noMs_eLE E0) (show noMs [D.tup [.str [114, 101, 110, 101, 119], .int (kk : Nat)]] = true from rfl)]
        refine sip_run hc5 hr2 (size := ((Bk.gT G kk : Nat) : Int) + 1) (by omega) (by omega) rfl (fun Q E => by simp only [wp0, wp1, lk_mref, lineBs, Nat.beq_refl, List.append_nil, List.length_cons, List.length_nil, Nat.zero_add, Nat.reduceAdd, List.getElem?_cons_zero, List.getElem?_cons_succ, List.set_cons_zero, List.set_cons_succ, Bool.not_true, Bool.not_false, g1, g2, g5]) fun c6 f6 hc6 f60 f61 => ?_
        have s1 : setD (.lst (tr.map D.int)) (.int (kk : Nat)) (.int f6) = some (.lst ((tr.set kk f6).map D.int)) := by
          rw [setD_nat (by rw [List.length_map]; omega), List.map_set]
        have s2 : setD (.lst (go.map D.int)) (.int (kk : Nat)) (.int 0) = some (.lst ((go.set kk 0).map D.int)) := by
          rw [setD_nat (by rw [List.length_map]; omega), List.map_set]
        simp only [wp0, wp1, lk_mref, lineBs, Nat.beq_refl, List.append_nil, List.length_cons, List.length_nil, Nat.zero_add, Nat.reduceAdd, List.getElem?_cons_zero, List.getElem?_cons_succ, List.set_cons_zero, List.set_cons_succ, Bool.not_true, Bool.not_false, s1, s2]
        refine hk _ _ ⟨c6, E0 ++ [.renew kk], tr.set kk f6, go.set kk 0, hc6, fun e he => ?_, ?_, by rw [List.length_set]; exact htr, by rw [List.length_set]; exact hgo, ⟨_, _, _, _, _, _, _, rfl⟩, ?_⟩
        · rcases List.mem_append.mp he with q | q
          · exact hok e q
          · rw [List.mem_singleton.mp q]
            exact hkl
        · simp only [List.length_append, List.length_cons, List.length_nil] at hlen ⊢
          omega
        · simp only [List.map_append, List.map_cons, List.map_nil]
          rfl
      | false =>
        have r3 : rgOk (G.length : Int) = true := rgOk_of (by omega) (by omega)
        have r4 : rngD 0 (G.length : Nat) = (List.range G.length).map eN := by
          rw [rng_map]
          exact List.map_congr_left fun i _ => by simp only [Int.zero_add, eN]
        have b6 : Nat.blt (List.range G.length).length 16777216 = true := blt_ok (by rw [List.length_range]; omega)
        simp only [wp0, wp1, lk_mref, lineBs, Nat.beq_refl, List.append_nil, List.length_cons, List.length_nil, Nat.zero_add, Nat.reduceAdd, List.getElem?_cons_zero, List.getElem?_cons_succ, List.set_cons_zero, List.set_cons_succ, Bool.not_true, Bool.not_false, List.length_map, r3, tn, r4, b6]
        refine draw_filter hr1 (m := 2) (enc := eN) eN (by decide) (by decide) ?_ (List.range G.length) hc4 _ fun c5 ps hc5 sub => ?_
        · exact fun d => ⟨_, rfl, rfl, fun μ Q E => rfl⟩
        have nd : ps.Nodup := List.Nodup.sublist sub List.nodup_range
        have lt : ∀ k ∈ ps, k < G.length := fun k hk => List.mem_range.mp (sub.subset hk)
        have fin : ∀ (c' : MO) (ks s u : List _) (go' : List Int) (b7 b9 b10 b11 b12 : Option D), IsCup c' → WashOk G ks s u → go'.length = G.length → k [some (.mref 0), some (.lst (G.map eG)), some (.int (len : Nat)), some (.mref 1), some (.mref 2), some (.mref 3), some (.int (0 + (i : Nat))), b7, some (.lst (ks.map eN)), b9, b10, b11, b12, none, none] [c', .lst ((E0 ++ [LE.wash ks s u]).map eLE), .lst (tr.map D.int), .lst (go'.map D.int)] := fun c' ks s u go' b7 b9 b10 b11 b12 hc' hw hgo' =>
          hk _ _ ⟨c', E0 ++ [LE.wash ks s u], tr, go', hc', fun e he => by
            rcases List.mem_append.mp he with q | q
            · exact hok e q
            · rw [List.mem_singleton.mp q]
              exact hw, by
            simp only [List.length_append, List.length_cons, List.length_nil] at hlen ⊢
            omega, htr, hgo', ⟨_, _, _, _, _, _, _, rfl⟩, rfl⟩
        have hE30 : E0.length < 30 := by
          simp only [List.length_cons] at hlen
          omega
        have en := eq_eN_nil ps
        by_cases q : ps = []
        · subst q
          simp only [wp0, wp1, lk_mref, lineBs, Nat.beq_refl, List.append_nil, List.length_cons, List.length_nil, Nat.zero_add, Nat.reduceAdd, List.getElem?_cons_zero, List.getElem?_cons_succ, List.set_cons_zero, List.set_cons_succ, Bool.not_true, Bool.not_false, en]
          refine sip_run hc5 hr1 (size := (G.length : Int)) (by omega) (by omega) rfl (fun Q E => by simp only [wp0, wp1, lk_mref, lineBs, Nat.beq_refl, List.append_nil, List.length_cons, List.length_nil, Nat.zero_add, Nat.reduceAdd, List.getElem?_cons_zero, List.getElem?_cons_succ, List.set_cons_zero, List.set_cons_succ, Bool.not_true, Bool.not_false, List.length_map]) fun c6 f6 hc6 f60 f61 => ?_
          obtain ⟨kk, hkk⟩ : ∃ kk : Nat, f6 = (kk : Int) := ⟨f6.toNat, by omega⟩
          subst hkk
          exact m_P hG hc6 (ks := [kk]) (by simp) (by simp) (fun z hz => by rw [List.mem_singleton.mp hz]; omega) hE30 htr hgo fin
        · simp only [q, decide_false] at en
          simp only [wp0, wp1, lk_mref, lineBs, Nat.beq_refl, List.append_nil, List.length_cons, List.length_nil, Nat.zero_add, Nat.reduceAdd, List.getElem?_cons_zero, List.getElem?_cons_succ, List.set_cons_zero, List.set_cons_succ, Bool.not_true, Bool.not_false, en]
          exact m_P hG hc5 q nd lt hE30 htr hgo fin
end K58

namespace K58
open PySem PySem.Spec PyProof.Rows L2 Pk Bk
theorem cloths_run {c : MO} (hc : IsCup c) {mm mt : Nat} (h1 : 1 ≤ mm) (h8 : mm ≤ 8) (ht : mt ≤ 12) {wm wt : WE} {ρ : Slots} {Q : QD} {E : QX} (hv : ρ[0]? = some (some (.mref 0))) (hm : ∀ Q E, wm ρ [c] Q E = Q (.int (mm : Nat)) [c]) (hw : ∀ Q E, wt ρ [c] Q E = Q (.int (mt : Nat)) [c])
    (h : ∀ c' G, IsCup c' → Cloths mm mt G → Q (.lst (G.map eG)) [c']) : wGc (wCallN c__law_cloths 3 [] (aCons (wVar 0) (aCons wm (aCons wt aNil)))) ρ [c] Q E := by
  simp only [wp0, wp1, lk_mref, lineBs, Nat.beq_refl, List.append_nil, List.length_cons, List.length_nil, Nat.zero_add, Nat.reduceAdd, List.getElem?_cons_zero, List.getElem?_cons_succ, List.set_cons_zero, List.set_cons_succ, Bool.not_true, Bool.not_false, hv, hm, hw, wGc]
  refine m_cloths hc h1 h8 ht fun c' junk G hc' hG => ?_
  exact gc_run (c := c) (rest := []) (rest' := []) (noMs_G G) hc' rfl rfl (h c' G hc' hG)
theorem drawn_run {c : MO} (hc : IsCup c) {G : List Gar} (hG : GarsOk G) {len : Nat} (hl : len ≤ 30) {wl : WE} {ρ : Slots} {Q : QD} {E : QX} (hv : ρ[0]? = some (some (.mref 0))) (h1 : ρ[1]? = some (some (.lst (G.map eG)))) (hw : ∀ Q E, wl ρ [c] Q E = Q (.int (len : Nat)) [c])
    (h : ∀ (c' : MO) (E0 : List LE), IsCup c' → (∀ e ∈ E0, LEok G e) → E0.length ≤ len → Q (.lst (E0.map eLE)) [c']) : wGc (wCallN c__law_drawn 3 [] (aCons (wVar 0) (aCons (wVar 1) (aCons wl aNil)))) ρ [c] Q E := by
  simp only [wp0, wp1, lk_mref, lineBs, Nat.beq_refl, List.append_nil, List.length_cons, List.length_nil, Nat.zero_add, Nat.reduceAdd, List.getElem?_cons_zero, List.getElem?_cons_succ, List.set_cons_zero, List.set_cons_succ, Bool.not_true, Bool.not_false, hv, h1, hw, wGc]
  refine m_drawn hc hG hl fun c' junk E0 hc' hE hn => ?_
  exact gc_run (c := c) (rest := []) (rest' := []) (show noM (.lst (E0.map eLE)) = true from noMs_eLE E0) hc' rfl rfl (h c' E0 hc' hE hn)
theorem strsD_map : ∀ ws : List Tx, strsD (ws.map .str) = some ws
  | [] => rfl
  | w :: r => by simp only [List.map_cons, strsD, strsD_map r]
theorem sumN_le : ∀ ws : List Tx, (∀ t ∈ ws, t.length ≤ 9) → sumN (ws.map List.length) ≤ 9 * ws.length
  | [], _ => by simp [sumN]
  | w :: r, h => by
    have := sumN_le r fun t ht => h t (List.mem_cons_of_mem _ ht)
    have := h w (by simp)
    simp only [List.map_cons, sumN, List.length_cons]
    omega
theorem join_strs {ws : List Tx} (h : ∀ t ∈ ws, t.length ≤ 9) (hl : ws.length ≤ 30) (μ : Sto) (Q : QD) : joinF (.str [32]) [.lst (ws.map .str)] μ Q = Q (.str (TL.joinL [32] ws)) μ := by
  have := sumN_le ws h
  have b : Nat.ble (sumN (ws.map List.length) + ws.length * [32].length) 16777216 = true := ble_ok (by simp only [List.length_cons, List.length_nil]; omega)
  simp only [joinF, look, seqOf, strsD_map, b]
theorem addl {a b : List Tx} (h : a.length + b.length ≤ 1000) : addD (.lst (a.map .str)) (.lst (b.map .str)) = some (.lst ((a ++ b).map .str)) := by
  simp only [addD, lineB_ok (show (a.map D.str).length + (b.map D.str).length ≤ 16777216 by rw [List.length_map, List.length_map]; omega), List.map_append]
theorem m_row {G : List Gar} (hG : GarsOk G) {e : LE} (he : LEok G e) : Ret c__law_row [.lst (G.map eG), eLE e] (.str (lineOf G e)) := by
  refine r__law_row (by simp only [noMs, noM, noMs_G, noM_eLE, Bool.and_self]) rfl fun Q E => ⟨[], ?_⟩
  have ghi := hG.hi
  unfold w__law_row
  cases e with
  | renew k =>
    have kl : k < G.length := he
    obtain ⟨g1, g2, g3, g4, g5⟩ := gar_t kl
    have l1 : ∀ μ, look μ (eLE (.renew k)) = eLE (.renew k) := fun _ => rfl
    have k0 : ixD (eLE (.renew k)) (.int 0) = some (.str tRenew) := rfl
    have k1 : ixD (eLE (.renew k)) (.int 1) = some (.int (k : Nat)) := rfl
    have q1 : eqqD (.str tRenew) (.str [114, 101, 110, 101, 119]) = some (.bl true) := rfl
    simp only [wp0, wp1, lk_mref, lineBs, Nat.beq_refl, List.append_nil, List.length_cons, List.length_nil, Nat.zero_add, Nat.reduceAdd, List.getElem?_cons_zero, List.getElem?_cons_succ, List.set_cons_zero, List.set_cons_succ, Bool.not_true, Bool.not_false, l1, k0, k1, q1, g1, g4, g5]
    have n1 := (gN_ok hG kl).hi
    have a1 : addD (.str [114, 101, 110, 101, 119, 32]) (.str (Bk.gN G k)) = some (.str ([114, 101, 110, 101, 119, 32] ++ Bk.gN G k)) := by
      simp only [addD, lineB_ok (show [114, 101, 110, 101, 119, 32].length + (Bk.gN G k).length ≤ 16777216 by simp only [List.length_cons, List.length_nil]; omega)]
    simp only [wp0, wp1, lk_mref, lineBs, Nat.beq_refl, List.append_nil, List.length_cons, List.length_nil, Nat.zero_add, Nat.reduceAdd, List.getElem?_cons_zero, List.getElem?_cons_succ, List.set_cons_zero, List.set_cons_succ, Bool.not_true, Bool.not_false, a1]
    rfl
  | wash ks s u =>
    have w : WashOk G ks s u := he
    have l1 : ∀ μ, look μ (eLE (.wash ks s u)) = eLE (.wash ks s u) := fun _ => rfl
    have k0 : ixD (eLE (.wash ks s u)) (.int 0) = some (.str tWash) := rfl
    have k1 : ixD (eLE (.wash ks s u)) (.int 1) = some (.lst (ks.map eN)) := rfl
    have k2 : ixD (eLE (.wash ks s u)) (.int 2) = some (.lst (s.map .str)) := rfl
    have k3 : ixD (eLE (.wash ks s u)) (.int 3) = some (.lst (u.map .str)) := rfl
    have q1 : eqqD (.str tWash) (.str [114, 101, 110, 101, 119]) = some (.bl false) := rfl
    have kn : ks.length ≤ 8 := by
      have := List.Nodup.length_le_of_subset w.nd (fun k hk => List.mem_range.mpr (w.lt k hk) : ks ⊆ List.range G.length)
      rw [List.length_range] at this
      omega
    have b2 : Nat.blt (ks.map eN).length 16777216 = true := blt_ok (by rw [List.length_map]; omega)
    have nk := noMs_eN ks
    simp only [wp0, wp1, lk_mref, lineBs, Nat.beq_refl, List.append_nil, List.length_cons, List.length_nil, Nat.zero_add, Nat.reduceAdd, List.getElem?_cons_zero, List.getElem?_cons_succ, List.set_cons_zero, List.set_cons_succ, Bool.not_true, Bool.not_false, l1, k0, k1, q1, b2]
    rw [lc_all (fun k => D.str (gN G k)) ks _ fun k hk => ⟨_, rfl, fun Q E => by
        have kl := w.lt k hk
        obtain ⟨g1, g2, g3, g4, g5⟩ := gar_t kl
        have g6 : ixD (.lst (G.map eG)) (.int (k : Nat)) = some (eG G[k]) := by
          simp only [wp0, wp1, lk_mref, lineBs, Nat.beq_refl, List.append_nil, List.length_cons, List.length_nil, Nat.zero_add, Nat.reduceAdd, List.getElem?_cons_zero, List.getElem?_cons_succ, List.set_cons_zero, List.set_cons_succ, Bool.not_true, Bool.not_false, g1]
        simp only [wp0, wp1, lk_mref, lineBs, Nat.beq_refl, List.append_nil, List.length_cons, List.length_nil, Nat.zero_add, Nat.reduceAdd, List.getElem?_cons_zero, List.getElem?_cons_succ, List.set_cons_zero, List.set_cons_succ, Bool.not_true, Bool.not_false, g6, g4, g5, eN]⟩]
    obtain ⟨wo1, wo2, wo3⟩ := words_ok hG he
    have e1 : (ks.map fun k => D.str (gN G k)) = (ks.map (gN G)).map D.str := by rw [List.map_map]; rfl
    have okd : ∀ d ∈ s ++ u, okc d = true := fun d hd => (dyes_ok hG w hd).okc
    have ns := ne_strs (ws := s) (us := []) (fun t ht => okd t (List.mem_append_left _ ht)) (by simp)
    have nu := ne_strs (ws := u) (us := []) (fun t ht => okd t (List.mem_append_right _ ht)) (by simp)
    have jn : ∀ ws : List Tx, ws = Bk.wordsOf G (.wash ks s u) → ∀ μ Q, joinF (.str [32]) [.lst (ws.map .str)] μ Q = Q (.str (lineOf G (.wash ks s u))) μ := fun ws e μ Q => by
      subst e
      exact join_strs (fun t ht => (wo1 t ht).1) wo3 μ Q
    have wlen : ks.length + s.length + u.length ≤ 30 := by
      have : (Bk.wordsOf G (.wash ks s u)).length ≤ 30 := wo3
      unfold Bk.wordsOf tailW at this
      simp only [List.length_cons, List.length_append, List.length_map] at this
      have i1 : s.length ≤ (if s = [] then [] else tPlus :: s).length := by split <;> simp_all
      have i2 : u.length ≤ (if u = [] then [] else tAsk :: u).length := by split <;> simp_all
      omega
    have l0 : (D.lst [.str [119, 97, 115, 104]]) = .lst ([tWash].map .str) := rfl
    have l2 : (D.lst [.str [43]]) = .lst ([tPlus].map .str) := rfl
    have l3 : (D.lst [.str [63]]) = .lst ([tAsk].map .str) := rfl
    have l4 : (D.lst []) = .lst (([] : List Tx).map .str) := rfl
    have a0 := addl (a := [tWash]) (b := ks.map (gN G)) (by rw [List.length_map]; simp only [List.length_cons, List.length_nil]; omega)
    have lk : ∀ (μ : Sto) (ws : List Tx), look μ (.lst (ws.map .str)) = .lst (ws.map .str) := fun _ _ => rfl
    have iS : isS (.str [32]) = true := rfl
    rw [l4] at *
    rw [e1]
    simp only [l0, l2, l3, a0, k2, k3, lk, ns, nu, iS]
    have al := fun (a b : List Tx) (h : a.length + b.length ≤ 1000) => addl h
    by_cases qs : s = []
    · by_cases qu : u = []
      · subst qs qu
        simp only [decide_true, Bool.not_true]
        rw [al _ _ (by simp only [List.length_append, List.length_map, List.length_cons, List.length_nil]; omega)]
        exact jn _ (by simp only [Bk.wordsOf, tailW, if_true, List.append_nil]; rfl) _ _
      · subst qs
        simp only [decide_true, Bool.not_true, qu, decide_false, Bool.not_false]
        rw [al _ _ (by simp only [List.length_append, List.length_map, List.length_cons, List.length_nil]; omega)]
        simp only [lk]
        rw [al _ _ (by simp only [List.length_append, List.length_map, List.length_cons, List.length_nil]; omega)]
        exact jn _ (by simp only [Bk.wordsOf, tailW, if_true, qu, if_false, List.append_nil]; rfl) _ _
    · simp only [qs, decide_false, Bool.not_false]
      rw [al _ _ (by simp only [List.length_append, List.length_map, List.length_cons, List.length_nil]; omega)]
      simp only [lk]
      rw [al _ _ (by simp only [List.length_append, List.length_map, List.length_cons, List.length_nil]; omega)]
      by_cases qu : u = []
      · subst qu
        simp only [decide_true, Bool.not_true, lk]
        rw [al _ _ (by simp only [List.length_append, List.length_map, List.length_cons, List.length_nil]; omega)]
        exact jn _ (by simp only [Bk.wordsOf, tailW, if_true, qs, if_false, List.append_nil, List.append_assoc]; rfl) _ _
      · simp only [qu, decide_false, Bool.not_false, lk]
        rw [al _ _ (by simp only [List.length_append, List.length_map, List.length_cons, List.length_nil]; omega)]
        simp only [lk]
        rw [al _ _ (by simp only [List.length_append, List.length_map, List.length_cons, List.length_nil]; omega)]
        exact jn _ (by simp only [Bk.wordsOf, tailW, qu, qs, if_false, List.append_assoc]; rfl) _ _
theorem m_book {G : List Gar} (hG : GarsOk G) {E0 : List LE} (he : ∀ e ∈ E0, LEok G e) (hL : E0.length ≤ 30) : Ret c__law_book [.lst (G.map eG), .lst (E0.map eLE)] (bookD G E0) := by
  refine r__law_book (by simp only [noMs, noM, noMs_G, noMs_eLE, Bool.and_self]) (by simp only [noM_book]) fun Q E => ⟨[], ?_⟩
  unfold w__law_book
  have b1 : Nat.blt (E0.map eLE).length 16777216 = true := blt_ok (by rw [List.length_map]; omega)
  simp only [sRet]
  refine book_make hG he hL fun Q E => ?_
  have h1 : hideM (some (.lst (G.map eG))) = some (.lst (G.map eG)) := by simp only [hideM, noM, noMs_G, if_true]
  have h2 : hideM (some (.lst (E0.map eLE))) = some (.lst (E0.map eLE)) := by simp only [hideM, noM, noMs_eLE, if_true]
  have h3 : hideM none = none := rfl
  simp only [List.map_cons, List.map_nil, h1, h2, h3]
  have n2 := noMs_eLE E0
  simp only [wp0, wp1, lk_mref, lineBs, Nat.beq_refl, List.append_nil, List.length_cons, List.length_nil, Nat.zero_add, Nat.reduceAdd, List.getElem?_cons_zero, List.getElem?_cons_succ, List.set_cons_zero, List.set_cons_succ, Bool.not_true, Bool.not_false, b1]
  rw [lc_all (fun e => D.str (lineOf G e)) E0 _ fun e hm => ⟨_, rfl, fun Q E => by
    have k : ∀ μ Q E, c__law_row [.lst (G.map eG), eLE e] μ Q E = Q (.str (lineOf G e)) μ := m_row hG (he e hm)
    simp only [wp0, wp1, lk_mref, lineBs, Nat.beq_refl, List.append_nil, List.length_cons, List.length_nil, Nat.zero_add, Nat.reduceAdd, List.getElem?_cons_zero, List.getElem?_cons_succ, List.set_cons_zero, List.set_cons_succ, Bool.not_true, Bool.not_false, k]⟩]
  have e1 : (E0.map fun e => D.str (lineOf G e)) = (E0.map (lineOf G)).map D.str := by rw [List.map_map]; rfl
  simp only [wp0, wp1, lk_mref, lineBs, Nat.beq_refl, List.append_nil, List.length_cons, List.length_nil, Nat.zero_add, Nat.reduceAdd, List.getElem?_cons_zero, List.getElem?_cons_succ, List.set_cons_zero, List.set_cons_succ, Bool.not_true, Bool.not_false, e1]
end K58

namespace K58
open PySem PySem.Spec PyProof.Rows L2 Pk Bk
theorem mul_ok {i j : Int} (h : (smallI i || smallI j) = true) : mulD (.int i) (.int j) = some (.int (i * j)) := by simp only [mulD, h]
section
variable {i j : Int} {xs : List Int} {t : Nat} {μ : Sto}
theorem lks : look μ (.scr xs) = .scr xs := rfl
theorem m3001 : mulD (.int 3001) (.int i) = some (.int (3001 * i)) := mul_ok (by rw [show smallI 3001 = true from rfl, Bool.true_or])
theorem m26021 : mulD (.int i) (.int 26021) = some (.int (i * 26021)) := mul_ok (by rw [show smallI 26021 = true from rfl, Bool.or_true])
theorem mdC : modD (.int i) (.int 2147483477) = some (.int (i % 2147483477)) := rfl
theorem inI : Pk.intD (.int i) = some (.int i) := rfl
theorem abI : absD (.int i) = some (.int (match decide (i < 0) with | true => -i | false => i)) := rfl
theorem lnS : lenD (.scr xs) = some (.int xs.length) := rfl
theorem ixS : ixD (.scr xs) (.int i) = match atG xs i with | some k => some (.int k) | none => none := rfl
theorem slS {lo hi : Option Int} : slD (.scr xs) lo hi = some (.lst ((cutG xs lo hi).map .int)) := rfl
theorem pwD : powD (.int 10) (.int 18) = some (.int 1000000000000000000) := rfl
theorem gtE : geD (.int i) (.int j) = some (.bl (decide (i ≥ j))) := rfl
theorem ltE : ltD (.int i) (.int j) = some (.bl (decide (i < j))) := rfl
end
theorem m_cup {ns : List Int} (hn : ns.length ≤ 63) {t : Nat} {Q : QD} {E : QX} (h : ∀ c, IsCup c → Q (.mref 0) [c]) : c__law_cup [.scr ns, .int (t : Nat)] [] Q E := by
  have e0 : c__law_cup [.scr ns, .int (t : Nat)] [] Q E = w__law_cup (endR Q E) [some (.scr ns), some (.int (t : Nat)), none, none, none] [] := rfl
  rw [e0]
  unfold w__law_cup
  have go : ∀ x : Int, ∀ ρ2, ρ2 = some (D.int x) → (sSeq (sAsg (w2 addD (wC (.int 120011)) (w2 mulD (wC (.int 3001)) (wVar 1))) (gN 3))
  (sSeq (sFor (iSeq (w2 addD (wSl (wVar 0) oNo (oYes (wC (.int 4)))) (wLst (aCons (wVar 2) aNil)))) (gN 4)
  (sAsg (w2 modD (wBu (b1 Pk.intD) (aCons (w2 addD (w2 mulD (wVar 3) (wC (.int 26021))) (wVar 4)) aNil)) (wC (.int 2147483477))) (gN 3)))
  (sRet (wLstO (aCons (wIf (tOr' (tBl (w2 ltD (wVar 2) (wC (.int 0)))) (tBl (w2 geD (wVar 2) (w2 powD (wC (.int 10)) (wC (.int 18)))))) (wBu (b1 absD) (aCons (wVar 2) aNil)) (wC (.int 0))) (aCons (wVar 3) (aCons (wC (.int 0)) aNil))))))) (endR Q E) [some (.scr ns), some (.int (t : Nat)), ρ2, none, none] [] := by
    rintro x _ rfl
    have cl : (cutG ns none (some 4)).length ≤ 1000 := by
      unfold cutG
      rw [List.length_take, List.length_drop]
      omega
    have a1 : addD (.lst ((cutG ns none (some 4)).map .int)) (.lst [.int x]) = some (.lst ((cutG ns none (some 4) ++ [x]).map .int)) := by
      simp only [addD, lineB_ok (show ((cutG ns none (some 4)).map D.int).length + [D.int x].length ≤ 16777216 by rw [List.length_map]; simp only [List.length_cons, List.length_nil]; omega), List.map_append, List.map_cons, List.map_nil]
    simp only [wp0, wp1, lk_mref, lineBs, Nat.beq_refl, List.append_nil, List.length_cons, List.length_nil, Nat.zero_add, Nat.reduceAdd, List.getElem?_cons_zero, List.getElem?_cons_succ, List.set_cons_zero, List.set_cons_succ, Bool.not_true, Bool.not_false, lks, m3001, slS, a1]
    refine for_imp (fun (r : List Int) ρ μ => ∃ s : Int, (∃ a4, ρ = [some (.scr ns), some (.int (t : Nat)), some (.int x), some (.int s), a4]) ∧ μ = []) _ _ _ ⟨_, ⟨_, rfl⟩, rfl⟩ ?_ ?_
    · rintro ρ μ ⟨s, ⟨a4, e1⟩, e2⟩
      subst e1 e2
      simp only [wp0, wp1, lk_mref, lineBs, Nat.beq_refl, List.append_nil, List.length_cons, List.length_nil, Nat.zero_add, Nat.reduceAdd, List.getElem?_cons_zero, List.getElem?_cons_succ, List.set_cons_zero, List.set_cons_succ, Bool.not_true, Bool.not_false, ltE, gtE, pwD, abI]
      cases decide (x < 0) with
      | true =>
        simp only [wp0, wp1, lk_mref, lineBs, Nat.beq_refl, List.append_nil, List.length_cons, List.length_nil, Nat.zero_add, Nat.reduceAdd, List.getElem?_cons_zero, List.getElem?_cons_succ, List.set_cons_zero, List.set_cons_succ, Bool.not_true, Bool.not_false, ]
        exact h _ ⟨_, _, _, rfl⟩
      | false =>
        simp only [wp0, wp1, lk_mref, lineBs, Nat.beq_refl, List.append_nil, List.length_cons, List.length_nil, Nat.zero_add, Nat.reduceAdd, List.getElem?_cons_zero, List.getElem?_cons_succ, List.set_cons_zero, List.set_cons_succ, Bool.not_true, Bool.not_false, ]
        cases decide (x ≥ 1000000000000000000) with
        | true =>
          simp only [wp0, wp1, lk_mref, lineBs, Nat.beq_refl, List.append_nil, List.length_cons, List.length_nil, Nat.zero_add, Nat.reduceAdd, List.getElem?_cons_zero, List.getElem?_cons_succ, List.set_cons_zero, List.set_cons_succ, Bool.not_true, Bool.not_false, ]
          exact h _ ⟨_, _, _, rfl⟩
        | false =>
          simp only [wp0, wp1, lk_mref, lineBs, Nat.beq_refl, List.append_nil, List.length_cons, List.length_nil, Nat.zero_add, Nat.reduceAdd, List.getElem?_cons_zero, List.getElem?_cons_succ, List.set_cons_zero, List.set_cons_succ, Bool.not_true, Bool.not_false, ]
          exact h _ ⟨_, _, _, rfl⟩
    · rintro v r ρ μ ⟨s, ⟨a4, e1⟩, e2⟩
      subst e1 e2
      refine ⟨_, rfl, fun k hk => ?_⟩
      simp only [wp0, wp1, lk_mref, lineBs, Nat.beq_refl, List.append_nil, List.length_cons, List.length_nil, Nat.zero_add, Nat.reduceAdd, List.getElem?_cons_zero, List.getElem?_cons_succ, List.set_cons_zero, List.set_cons_succ, Bool.not_true, Bool.not_false, m26021, mdC, inI]
      exact hk _ _ ⟨_, ⟨_, rfl⟩, rfl⟩
  by_cases hl : (t : Int) < (ns.length : Int)
  · obtain ⟨x, hx⟩ : ∃ x, nthG ns t = some x := ⟨ns[t]'(by omega), by rw [nthG_eq]; exact List.getElem?_eq_getElem (by omega)⟩
    have e1 : ixD (.scr ns) (.int (t : Nat)) = some (.int x) := by
      show (match nthG ns t with | some k => some (D.int k) | none => none) = _
      rw [hx]
    have e2 : ltD (.int (t : Nat)) (.int (ns.length : Nat)) = some (.bl true) := by rw [ltE, decide_eq_true hl]
    rw [show ∀ (a b : WS) De ρ μ, sSeq a b De ρ μ = a { De with nx := b De } ρ μ from fun _ _ _ _ _ => rfl]
    simp only [sAsg, wIf, tBl, w2, wBu, Pk.b1, aCons, aNil, wVar, wC, lks, lnS, e1, e2, List.getElem?_cons_zero, List.getElem?_cons_succ, look]
    exact go x _ rfl
  · have e2 : ltD (.int (t : Nat)) (.int (ns.length : Nat)) = some (.bl false) := by rw [ltE, decide_eq_false hl]
    rw [show ∀ (a b : WS) De ρ μ, sSeq a b De ρ μ = a { De with nx := b De } ρ μ from fun _ _ _ _ _ => rfl]
    have a1 : addD (.int (t : Nat)) (.int 2) = some (.int ((t : Nat) + 2)) := rfl
    simp only [sAsg, wIf, tBl, w2, wBu, Pk.b1, aCons, aNil, wVar, wC, lks, lnS, a1, e2, List.getElem?_cons_zero, List.getElem?_cons_succ, look]
    exact go _ _ rfl
end K58

/-! Exchanged neighbours: the plain law. -/
namespace Bk
open Pk
/-- the garments of a deed -/
def gs : LE → List Nat
  | .wash ks _ _ => ks
  | .renew k => [k]
/-- two stretches of deeds are alike for garment k -/
def Same (k : Nat) (p q : List LE) : Prop := beg p k = beg q k ∧ ∀ j, cnt p k j = cnt q k j
theorem Same.refl (k : Nat) (p : List LE) : Same k p p := ⟨rfl, fun _ => rfl⟩
theorem Same.symm {k : Nat} {p q : List LE} (h : Same k p q) : Same k q p := ⟨h.1.symm, fun j => (h.2 j).symm⟩
theorem Same.trans {k : Nat} {p q r : List LE} (h : Same k p q) (h2 : Same k q r) : Same k p r := ⟨h.1.trans h2.1, fun j => (h.2 j).trans (h2.2 j)⟩
theorem Same.app {k : Nat} {p q : List LE} (h : Same k p q) (r : List LE) : Same k (p ++ r) (q ++ r) := ⟨by rw [beg_app, beg_app, h.1], fun j => by rw [cnt_app, cnt_app, h.1, h.2]⟩
theorem same_off {k : Nat} {x : LE} (h : k ∉ gs x) (p : List LE) : Same k (p ++ [x]) p := by
  cases x with
  | renew k' =>
    have : k' ≠ k := fun e => h (by simp [gs, e])
    refine ⟨?_, fun j => cnt_renew _ _ _ _⟩
    rw [beg_app]
    simp [beg, this]
  | wash ks s u =>
    have : k ∉ ks := h
    refine ⟨?_, fun j => ?_⟩
    · rw [beg_app]
      simp [beg]
    · rw [cnt_wash]
      simp [this]
theorem same_swap {x y : LE} (d : ∀ k ∈ gs x, k ∉ gs y) (k : Nat) (a : List LE) : Same k (a ++ [x] ++ [y]) (a ++ [y] ++ [x]) := by
  by_cases h : k ∈ gs x
  · exact (same_off (d k h) _).trans (((same_off (d k h) a).app [x]).symm)
  · exact ((same_off h a).app [y]).trans (same_off h _).symm
def stp (l : Lk) : Lk := { l with at_ := 0 }
theorem looksOf_congr {G : List Gar} {E E' pre pre' : List LE} {x : LE} (hE : lv G E = lv G E') (h : ∀ k ∈ gs x, Same k pre pre') : (looksOf G E pre x).map stp = (looksOf G E' pre' x).map stp := by
  cases x with
  | renew k => rfl
  | wash ks s u =>
    simp only [looksOf, List.map_map]
    apply List.map_congr_left
    intro p _
    have : prsD G E pre ks p.1 = prsD G E' pre' ks p.1 := by
      unfold prsD
      apply List.map_congr_left
      intro k hk
      have hk := (mem_plc.mp (List.mem_filter.mp hk).1).2
      have hs := h k hk
      rw [hE, hs.1, hs.2]
    simp only [Function.comp, stp, this]
theorem looksFrom_congr {G : List Gar} {E E' : List LE} (hE : lv G E = lv G E') : ∀ (r pre pre' : List LE), (∀ k, Same k pre pre') → (looksFrom G E pre r).map stp = (looksFrom G E' pre' r).map stp
  | [], _, _, _ => rfl
  | x :: r, pre, pre', h => by
    simp only [looksFrom, List.map_append]
    rw [looksOf_congr hE fun k _ => h k, looksFrom_congr hE r _ _ fun k => (h k).app [x]]
theorem looksFrom_app {G : List Gar} {E : List LE} : ∀ (a b pre : List LE), looksFrom G E pre (a ++ b) = looksFrom G E pre a ++ looksFrom G E (pre ++ a) b
  | [], b, pre => by simp [looksFrom]
  | x :: a, b, pre => by simp only [List.cons_append, looksFrom, looksFrom_app a b, List.append_assoc, List.singleton_append, List.nil_append]
theorem lv_swap {G : List Gar} {a b : List LE} {x y : LE} : lv G (a ++ y :: x :: b) = lv G (a ++ x :: y :: b) := by
  unfold lv
  apply List.map_congr_left
  intro k _
  have e1 : a ++ y :: x :: b = a ++ [y] ++ [x] ++ b := by simp
  have e2 : a ++ x :: y :: b = a ++ [x] ++ [y] ++ b := by simp
  rw [e1, e2]
  simp only [beg_app]
  omega
theorem looks_swap {G : List Gar} {a b : List LE} {x y : LE} (d : ∀ k ∈ gs x, k ∉ gs y) : ((looks G (a ++ y :: x :: b)).map stp).Perm ((looks G (a ++ x :: y :: b)).map stp) := by
  have hv := lv_swap (G := G) (a := a) (b := b) (x := x) (y := y)
  generalize hE : a ++ x :: y :: b = E at hv
  generalize hE' : a ++ y :: x :: b = E' at hv
  have e1 : looks G E' = looksFrom G E' [] a ++ (looksOf G E' a y ++ (looksOf G E' (a ++ [y]) x ++ looksFrom G E' (a ++ [y] ++ [x]) b)) := by
    unfold looks
    conv => lhs; arg 4; rw [← hE']
    rw [looksFrom_app]
    rfl
  have e2 : looks G E = looksFrom G E [] a ++ (looksOf G E a x ++ (looksOf G E (a ++ [x]) y ++ looksFrom G E (a ++ [x] ++ [y]) b)) := by
    unfold looks
    conv => lhs; arg 4; rw [← hE]
    rw [looksFrom_app]
    rfl
  rw [e1, e2]
  simp only [List.map_append]
  rw [looksFrom_congr hv a [] [] fun k => Same.refl _ _, looksFrom_congr hv b _ _ fun k => (same_swap d k a).symm,
    looksOf_congr hv (fun k hk => (same_off (x := x) (fun hx => d k hx hk) a).symm : ∀ k ∈ gs y, Same k a (a ++ [x])),
    looksOf_congr hv (fun k hk => same_off (d k hk) a : ∀ k ∈ gs x, Same k (a ++ [y]) a)]
  apply List.Perm.append_left
  rw [← List.append_assoc, ← List.append_assoc]
  exact List.Perm.append_right _ List.perm_append_comm
/-! ### the bounds do not ask for the order -/
theorem geti_set_ne {f : List Int} {i j : Nat} {v : Int} (h : i ≠ j) : geti (f.set i v) j = geti f j := by
  unfold geti
  rw [List.getElem?_set_ne h]
theorem geti_set_self {f : List Int} {i : Nat} {v : Int} (h : i < f.length) : geti (f.set i v) i = v := by
  unfold geti
  rw [List.getElem?_set_self h]
  rfl
theorem lower_comm (f : List Int) (p q : Nat × Nat) : lower (lower f p) q = lower (lower f q) p := by
  unfold lower
  by_cases e : p.1 = q.1
  · rw [e]
    by_cases h : q.1 < f.length
    · rw [geti_set_self h, geti_set_self h, List.set_set, List.set_set]
      congr 1
      by_cases h1 : (p.2 : Int) - 1 < geti f q.1 <;> by_cases h2 : (q.2 : Int) - 1 < geti f q.1 <;> simp only [h1, h2, decide_true, decide_false] <;>
        by_cases h3 : (p.2 : Int) - 1 < (q.2 : Int) - 1 <;> by_cases h4 : (q.2 : Int) - 1 < (p.2 : Int) - 1 <;> simp only [h1, h2, h3, h4, decide_true, decide_false] <;> omega
    · simp only [List.set_eq_of_length_le (show f.length ≤ q.1 by omega)]
  · rw [geti_set_ne e, geti_set_ne (fun h => e h.symm)]
    exact List.set_comm _ _ e
theorem topStep_comm (f : List Int) (l m : Lk) : topStep (topStep f l) m = topStep (topStep f m) l := by
  unfold topStep
  cases l.sn <;> cases m.sn <;> simp only
  rw [← List.foldl_append, ← List.foldl_append]
  exact List.Perm.foldl_eq' List.perm_append_comm (fun x _ y _ z => lower_comm z x y) f
theorem topsB_stp (T : List Int) (L : List Lk) : topsB T (L.map stp) = topsB T L := by
  unfold topsB
  rw [List.foldl_map]
  rfl
theorem topsB_perm {T : List Int} {L M : List Lk} (h : L.Perm M) : topsB T L = topsB T M := List.Perm.foldl_eq' h (fun x _ y _ z => topStep_comm z x y) T
theorem fitsT_stp (L : List Lk) (g : List Int) : fitsT (L.map stp) g = fitsT L g := by
  unfold fitsT
  rw [List.all_map]
  rfl
theorem fitsT_perm {L M : List Lk} (h : L.Perm M) (g : List Int) : fitsT L g = fitsT M g := by
  unfold fitsT
  rw [Bool.eq_iff_iff, List.all_eq_true, List.all_eq_true]
  exact ⟨fun q x hx => q x (h.mem_iff.mpr hx), fun q x hx => q x (h.mem_iff.mp hx)⟩
theorem leastStep_comm (g : List Int) (k : Nat) (f : Int) (l m : Lk) : leastStep g k (leastStep g k f l) m = leastStep g k (leastStep g k f m) l := by
  have : ∀ l : Lk, (∀ f, leastStep g k f l = f) ∨ ∃ n : Int, ∀ f, leastStep g k f l = if n > f then n else f := by
    intro l
    unfold leastStep
    cases l.sn with
    | false => exact .inl fun _ => rfl
    | true =>
      cases numOf l.sp k with
      | none => exact .inl fun _ => rfl
      | some n =>
        cases othersUp g l.sp k with
        | true => exact .inl fun _ => rfl
        | false =>
          refine .inr ⟨n, fun f => ?_⟩
          by_cases q : (n : Int) > f
          · simp [q]
          · simp [q]
  rcases this l with h1 | ⟨n, h1⟩ <;> rcases this m with h2 | ⟨n', h2⟩ <;> simp only [h1, h2]
  split <;> split <;> (try split) <;> (try split) <;> omega
theorem leastB_stp (L : List Lk) (g : List Int) (k : Nat) : leastB (L.map stp) g k = leastB L g k := by
  unfold leastB
  rw [List.foldl_map]
  rfl
theorem leastB_perm {L M : List Lk} (h : L.Perm M) (g : List Int) (k : Nat) : leastB L g k = leastB M g k := List.Perm.foldl_eq' h (fun x _ y _ z => leastStep_comm g k z x y) 0
/-- what a book tells -/
def SameB (G : List Gar) (E' E : List LE) : Prop := lives G E' = lives G E ∧ topsL G E' = topsL G E ∧ possL G E' = possL G E ∧ knownL G E' = knownL G E
theorem sameB_of {G : List Gar} {E' E : List LE} (hv : lv G E' = lv G E) (hp : ((looks G E').map stp).Perm ((looks G E).map stp)) : SameB G E' E := by
  have h2 : topsL G E' = topsL G E := by
    unfold topsL mostsI mosts
    rw [hv, ← topsB_stp _ (looks G E'), ← topsB_stp _ (looks G E), topsB_perm hp]
  refine ⟨by unfold lives; rw [hv], h2, ?_, ?_⟩
  · unfold possL
    rw [h2, ← fitsT_stp (looks G E'), ← fitsT_stp (looks G E), fitsT_perm hp]
  · unfold knownL
    rw [h2]
    apply List.map_congr_left
    intro p _
    rw [← leastB_stp (looks G E'), ← leastB_stp (looks G E), leastB_perm hp]
theorem swap_same {G : List Gar} {a b : List LE} {x y : LE} (d : ∀ k ∈ gs x, k ∉ gs y) : SameB G (a ++ y :: x :: b) (a ++ x :: y :: b) := sameB_of lv_swap (looks_swap d)
end Bk

/-! The bounds by what lies below them. -/
namespace Bk
open Pk
theorem le_lower {f : List Int} {p : Nat × Nat} {k : Nat} {v : Int} (hk : k < f.length) : v ≤ geti (lower f p) k ↔ v ≤ geti f k ∧ (p.1 = k → v ≤ (p.2 : Int) - 1) := by
  unfold lower
  by_cases e : p.1 = k
  · rw [e, geti_set_self hk]
    by_cases h : (p.2 : Int) - 1 < geti f k
    · simp only [h, decide_true, true_implies]
      omega
    · simp only [h, decide_false, true_implies]
      omega
  · rw [geti_set_ne e]
    simp [e]
theorem le_lowers {k : Nat} {v : Int} : ∀ (sp : List (Nat × Nat)) (f : List Int), k < f.length → (v ≤ geti (sp.foldl lower f) k ↔ v ≤ geti f k ∧ ∀ p ∈ sp, p.1 = k → v ≤ (p.2 : Int) - 1)
  | [], f, _ => by simp
  | p :: r, f, h => by
    rw [List.foldl_cons, le_lowers r _ (by rw [lower_len]; exact h), le_lower h]
    simp only [List.mem_cons, forall_eq_or_imp]
    constructor
    · rintro ⟨⟨a, b⟩, c⟩
      exact ⟨a, b, c⟩
    · rintro ⟨a, b, c⟩
      exact ⟨⟨a, b⟩, c⟩
theorem le_topStep {k : Nat} {v : Int} {f : List Int} {l : Lk} (h : k < f.length) : v ≤ geti (topStep f l) k ↔ v ≤ geti f k ∧ (l.sn = false → ∀ p ∈ l.sp, p.1 = k → v ≤ (p.2 : Int) - 1) := by
  unfold topStep
  cases e : l.sn with
  | true => simp
  | false =>
    simp only [true_implies]
    exact le_lowers l.sp f h
theorem le_tops {k : Nat} {v : Int} : ∀ (L : List Lk) (f : List Int), k < f.length → (v ≤ geti (topsB f L) k ↔ v ≤ geti f k ∧ ∀ l ∈ L, l.sn = false → ∀ p ∈ l.sp, p.1 = k → v ≤ (p.2 : Int) - 1)
  | [], f, _ => by simp [topsB]
  | l :: r, f, h => by
    show v ≤ geti (topsB (topStep f l) r) k ↔ _
    rw [le_tops r _ (by rw [topStep_len]; exact h), le_topStep h]
    simp only [List.mem_cons, forall_eq_or_imp]
    constructor
    · rintro ⟨⟨a, b⟩, c⟩
      exact ⟨a, b, c⟩
    · rintro ⟨a, b, c⟩
      exact ⟨⟨a, b⟩, c⟩
theorem ext_geti {f g : List Int} (hl : f.length = g.length) (h : ∀ k, k < f.length → ∀ v, v ≤ geti f k ↔ v ≤ geti g k) : f = g := by
  apply List.ext_getElem? 
  intro k
  by_cases hk : k < f.length
  · have h1 := h k hk
    have e : geti f k = geti g k := Int.le_antisymm ((h1 _).mp (Int.le_refl _)) ((h1 _).mpr (Int.le_refl _))
    unfold geti at e
    rw [List.getElem?_eq_getElem hk, List.getElem?_eq_getElem (hl ▸ hk)] at e ⊢
    exact congrArg some e
  · rw [List.getElem?_eq_none (by omega), List.getElem?_eq_none (by omega)]
/-- mosts lowered to the tops: the tops stay -/
theorem topsB_idem (T : List Int) (L : List Lk) : topsB (topsB T L) L = topsB T L := by
  refine ext_geti (topsB_len _ _) fun k hk v => ?_
  rw [topsB_len] at hk
  rw [le_tops L _ hk]
  constructor
  · exact fun h => h.1
  · intro h
    rw [topsB_len] at hk
    exact ⟨h, ((le_tops L T hk).mp h).2⟩
/-- greater mosts -/
theorem topsB_wider {T U : List Int} {L : List Lk} (hl : T.length = U.length) {k : Nat} (hk : k < T.length) (hu : geti T k ≤ geti U k) : geti (topsB T L) k = min (geti (topsB U L) k) (geti T k) := by
  apply Int.le_antisymm
  · have h := (le_tops L T hk).mp (Int.le_refl _)
    exact Int.le_min.mpr ⟨(le_tops L U (hl ▸ hk)).mpr ⟨Int.le_trans h.1 hu, h.2⟩, h.1⟩
  · rw [le_tops L T hk]
    exact ⟨Int.min_le_right _ _, ((le_tops L U (hl ▸ hk)).mp (Int.min_le_left _ _)).2⟩
/-- smaller mosts, smaller tops -/
theorem topsB_mono {T U : List Int} {L : List Lk} (hl : T.length = U.length) {k : Nat} (hk : k < T.length) (hu : geti T k ≤ geti U k) : geti (topsB T L) k ≤ geti (topsB U L) k := by
  have h := (le_tops L T hk).mp (Int.le_refl _)
  exact (le_tops L U (hl ▸ hk)).mpr ⟨Int.le_trans h.1 hu, h.2⟩
theorem least_some (g : List Int) (k : Nat) : ∀ (L : List Lk) (f : Int), L.foldl (leastStep g k) f = f ∨ ∃ l ∈ L, l.sn = true ∧ othersUp g l.sp k = false ∧ ∃ n, numOf l.sp k = some n ∧ (n : Int) = L.foldl (leastStep g k) f
  | [], f => .inl rfl
  | l :: r, f => by
    rw [List.foldl_cons]
    rcases least_some g k r (leastStep g k f l) with h | ⟨m, hm, h1, h2, h3⟩
    · have : leastStep g k f l = f ∨ (l.sn = true ∧ othersUp g l.sp k = false ∧ ∃ n, numOf l.sp k = some n ∧ (n : Int) = leastStep g k f l) := by
        unfold leastStep
        cases l.sn with
        | false => exact .inl rfl
        | true =>
          cases numOf l.sp k with
          | none => exact .inl rfl
          | some n =>
            cases othersUp g l.sp k with
            | true => exact .inl rfl
            | false =>
              by_cases q : (n : Int) > f
              · simp [q]
              · simp [q]
      rcases this with q | ⟨q1, q2, n, q3, q4⟩
      · exact .inl (h.trans q)
      · exact .inr ⟨l, by simp, q1, q2, n, q3, q4.trans h.symm⟩
    · exact .inr ⟨m, List.mem_cons_of_mem _ hm, h1, h2, h3⟩
theorem numOf_only : ∀ {sp : List (Nat × Nat)} {k n : Nat}, (sp.map (·.1)).Nodup → numOf sp k = some n → ∀ p ∈ sp, p.1 = k → p.2 = n
  | [], _, _, _, _, p, hp, _ => by cases hp
  | q :: r, k, n, nd, h, p, hp, e => by
    rw [List.map_cons, List.nodup_cons] at nd
    unfold numOf at h
    by_cases w : q.1 = k
    · simp only [w, decide_true] at h
      injection h with h
      rcases List.mem_cons.mp hp with z | z
      · rw [z]
        exact h
      · exact absurd (List.mem_map.mpr ⟨p, z, e.trans w.symm⟩) nd.1
    · simp only [w, decide_false] at h
      rcases List.mem_cons.mp hp with z | z
      · rw [z] at e
        exact absurd e w
      · exact numOf_only nd.2 h p z e
/-- a most below the least: nothing fits -/
theorem less_unfit {T : List Int} {L : List Lk} {k : Nat} (hk : k < T.length) (nd : ∀ l ∈ L, (l.sp.map (·.1)).Nodup) (hs : ∀ l ∈ L, ∀ p ∈ l.sp, p.1 < T.length) (hp : 0 < leastB L (topsB T L) k) (hT : leastB L (topsB T L) k - 1 ≤ geti T k) :
    fitsT L (topsB (T.set k (leastB L (topsB T L) k - 1)) L) = false := by
  rcases least_some (topsB T L) k L 0 with h | ⟨l, hl, h1, h2, n, h3, h4⟩
  · have : leastB L (topsB T L) k = 0 := h
    omega
  · have h4 : (n : Int) = leastB L (topsB T L) k := h4
    rw [← h4] at hT ⊢
    cases e : fitsT L (topsB (T.set k ((n : Int) - 1)) L) with
    | false => rfl
    | true =>
      unfold fitsT at e
      rw [List.all_eq_true] at e
      have := e l hl
      rw [h1, Bool.not_true, Bool.false_or] at this
      unfold anyUp at this
      rw [List.any_eq_true] at this
      obtain ⟨p, hp, q⟩ := this
      rw [decide_eq_true_iff] at q
      have pl := hs l hl p hp
      have le : ∀ j, j < T.length → geti (T.set k ((n : Int) - 1)) j ≤ geti T j := fun j hj => by
        by_cases w : k = j
        · rw [← w, geti_set_self hk]
          exact hT
        · rw [geti_set_ne w]
          exact Int.le_refl _
      by_cases w : p.1 = k
      · have := numOf_only (nd l hl) h3 p hp w
        have h5 := (le_tops L (T.set k ((n : Int) - 1)) (k := k) (by rw [List.length_set]; exact hk)).mp (Int.le_refl _)
        have h6 := h5.1
        rw [geti_set_self hk] at h6
        rw [w] at q
        omega
      · have mono := topsB_mono (T := T.set k ((n : Int) - 1)) (U := T) (L := L) (by rw [List.length_set]) (k := p.1) (by rw [List.length_set]; exact pl) (le _ pl)
        have : othersUp (topsB T L) l.sp k = true := by
          unfold othersUp
          rw [List.any_eq_true]
          refine ⟨p, List.mem_filter.mpr ⟨hp, by simp [w]⟩, ?_⟩
          rw [decide_eq_true_iff]
          omega
        rw [h2] at this
        cases this
/-- the least lies within the top -/
theorem least_le {L : List Lk} {g : List Int} {k : Nat} (hf : fitsT L g = true) (nd : ∀ l ∈ L, (l.sp.map (·.1)).Nodup) (hp : 0 < leastB L g k) : leastB L g k ≤ geti g k := by
  rcases least_some g k L 0 with h | ⟨l, hl, h1, h2, n, h3, h4⟩
  · have : leastB L g k = 0 := h
    omega
  · have h4 : (n : Int) = leastB L g k := h4
    unfold fitsT at hf
    rw [List.all_eq_true] at hf
    have := hf l hl
    rw [h1, Bool.not_true, Bool.false_or] at this
    unfold anyUp at this
    rw [List.any_eq_true] at this
    obtain ⟨p, hp, q⟩ := this
    rw [decide_eq_true_iff] at q
    by_cases w : p.1 = k
    · have := numOf_only (nd l hl) h3 p hp w
      rw [w] at q
      omega
    · have : othersUp g l.sp k = true := by
        unfold othersUp
        rw [List.any_eq_true]
        refine ⟨p, List.mem_filter.mpr ⟨hp, by simp [w]⟩, ?_⟩
        rw [decide_eq_true_iff]
        exact q
      rw [h2] at this
      cases this
/-! ### other mosts, the same looks -/
theorem gD_same {G G' : List Gar} (h : G'.map (·.d) = G.map (·.d)) : gD G' = gD G := by
  funext k
  unfold gD
  rw [← List.getElem?_map, ← List.getElem?_map, h]
theorem len_same {G G' : List Gar} (h : G'.map (·.d) = G.map (·.d)) : G'.length = G.length := by
  have := congrArg List.length h
  rwa [List.length_map, List.length_map] at this
theorem lv_same {G G' : List Gar} (h : G'.map (·.d) = G.map (·.d)) (E : List LE) : lv G' E = lv G E := by
  unfold lv
  rw [len_same h]
theorem looksOf_same {G G' : List Gar} (h : G'.map (·.d) = G.map (·.d)) (E pre : List LE) (e : LE) : looksOf G' E pre e = looksOf G E pre e := by
  cases e with
  | renew k => rfl
  | wash ks s u => simp only [looksOf, looked, hues, prsD, plc, h, gD_same h, lv_same h, len_same h]
theorem looksFrom_same {G G' : List Gar} (h : G'.map (·.d) = G.map (·.d)) (E : List LE) : ∀ (r pre : List LE), looksFrom G' E pre r = looksFrom G E pre r
  | [], _ => rfl
  | e :: r, pre => by simp only [looksFrom, looksOf_same h, looksFrom_same h E r]
theorem looks_same {G G' : List Gar} (h : G'.map (·.d) = G.map (·.d)) (E : List LE) : looks G' E = looks G E := looksFrom_same h E E []
end Bk

namespace Bk
open Pk
mutual
theorem eqD_refl : ∀ (n : Nat) (d : D), pureD n d = true → eqD d d = true
  | n, .non, _ => by simp [eqD]
  | n, .bl b, _ => by cases b <;> simp [eqD]
  | n, .int _, _ => by simp [eqD]
  | n, .str s, h => by simp [eqD, eqTx_dec]
  | 0, .tup _, h => by simp [pureD] at h
  | 0, .lst _, h => by simp [pureD] at h
  | n + 1, .tup xs, h => by
    simp only [eqD]
    exact eqDs_refl n xs (by simpa [pureD] using h)
  | n + 1, .lst xs, h => by
    simp only [eqD]
    exact eqDs_refl n xs (by simpa [pureD] using h)
  | 0, .ttp _, h => by simp [pureD] at h
  | n + 1, .ttp xs, h => by
    simp only [eqD]
    exact eqDs_refl n xs (by simpa [pureD] using h)
  | n, .dct _, h => by cases n <;> simp [pureD] at h
  | n, .scr _, h => by cases n <;> simp [pureD] at h
  | n, .ins _ _, h => by cases n <;> simp [pureD] at h
  | n, .mref _, h => by cases n <;> simp [pureD] at h
  | n, .cls _, h => by cases n <;> simp [pureD] at h
  | n, .ty _, h => by cases n <;> simp [pureD] at h
  | n, .ptp _, h => by cases n <;> simp [pureD] at h
theorem eqDs_refl : ∀ (n : Nat) (ds : List D), pureDs n ds = true → eqDs ds ds = true
  | n, [], _ => by simp [eqDs]
  | n, d :: ds, h => by
    unfold pureDs at h
    cases q : pureD n d with
    | false => simp [q] at h
    | true =>
      have h1 := eqD_refl n d q
      have h2 := eqDs_refl n ds (by simpa [q] using h)
      simp only [eqDs, h1, h2]
end
theorem eqq_self {d : D} (h : pureD 60 d = true) : eqqD d d = some (.bl true) := by
  simp only [eqqD, h, Bool.and_self, eqD_refl 60 d h]
theorem ne_self {d : D} (h : pureD 60 d = true) : neqD d d = some (.bl false) := eqqD_some (eqq_self h)
theorem pures_map {α : Type} {n : Nat} {f : α → D} : ∀ {xs : List α}, (∀ a ∈ xs, pureD n (f a) = true) → pureDs n (xs.map f) = true
  | [], _ => by cases n <;> rfl
  | a :: r, h => by
    simp only [List.map_cons, pureDs, h a (by simp), pures_map fun b hb => h b (List.mem_cons_of_mem _ hb)]
end Bk

namespace Bk
open Pk
/-- other mosts -/
def withT (G : List Gar) (f : Nat → Nat) : List Gar := (List.range G.length).map fun k => ⟨gN G k, gD G k, f k⟩
theorem withT_len {G : List Gar} {f : Nat → Nat} : (withT G f).length = G.length := by simp [withT]
theorem withT_at {G : List Gar} {f : Nat → Nat} {k : Nat} (h : k < G.length) : (withT G f)[k]? = some ⟨gN G k, gD G k, f k⟩ := by
  unfold withT
  simp [h]
theorem withT_n {G : List Gar} {f : Nat → Nat} : (withT G f).map (·.n) = G.map (·.n) := by
  apply List.ext_getElem?
  intro k
  by_cases h : k < G.length
  · rw [List.getElem?_map, List.getElem?_map, withT_at h]
    unfold gN
    rw [List.getElem?_eq_getElem h]
    rfl
  · rw [List.getElem?_eq_none (by rw [List.length_map, withT_len]; omega), List.getElem?_eq_none (by rw [List.length_map]; omega)]
theorem withT_d {G : List Gar} {f : Nat → Nat} : (withT G f).map (·.d) = G.map (·.d) := by
  apply List.ext_getElem?
  intro k
  by_cases h : k < G.length
  · rw [List.getElem?_map, List.getElem?_map, withT_at h]
    unfold gD
    rw [List.getElem?_eq_getElem h]
    rfl
  · rw [List.getElem?_eq_none (by rw [List.length_map, withT_len]; omega), List.getElem?_eq_none (by rw [List.length_map]; omega)]
theorem withT_t {G : List Gar} {f : Nat → Nat} {k : Nat} (h : k < G.length) : gT (withT G f) k = f k := by
  unfold gT
  rw [withT_at h]
  rfl
theorem withT_ok {G : List Gar} {f : Nat → Nat} (h : GarsOk G) (hf : ∀ k, k < G.length → f k ≤ 12) : GarsOk (withT G f) := by
  refine ⟨by rw [withT_len]; exact h.lo, by rw [withT_len]; exact h.hi, fun g hg => ?_, by rw [withT_n]; exact h.nd⟩
  unfold withT at hg
  obtain ⟨k, hk, e⟩ := List.mem_map.mp hg
  have hk := List.mem_range.mp hk
  subst e
  exact ⟨gN_ok h hk, gD_ok h hk, hf k hk⟩
/-- no renewals -/
def isW : LE → Bool
  | .wash .. => true
  | .renew _ => false
theorem beg_W : ∀ {E : List LE} (k : Nat), (∀ e ∈ E, isW e = true) → beg E k = 0
  | [], _, _ => rfl
  | .wash .. :: r, k, h => by
    simp only [beg]
    exact beg_W k fun e he => h e (List.mem_cons_of_mem _ he)
  | .renew _ :: r, k, h => by
    have := h _ (List.mem_cons_self ..)
    cases this
theorem lv_W {G : List Gar} {E : List LE} (h : ∀ e ∈ E, isW e = true) : lv G E = List.replicate G.length 1 := by
  unfold lv
  rw [List.eq_replicate_iff]
  refine ⟨by simp, fun b hb => ?_⟩
  obtain ⟨k, _, e⟩ := List.mem_map.mp hb
  rw [← e, beg_W k h]
theorem base_one : ∀ (n k : Nat), k ≤ n → base (List.replicate n 1) k = k
  | n, 0, _ => by cases n <;> rfl
  | 0, k + 1, h => by omega
  | n + 1, k + 1, h => by
    simp only [List.replicate_succ, base, base_one n k (by omega)]
    omega
theorem mosts_at {G : List Gar} {E : List LE} (h : ∀ e ∈ E, isW e = true) {k : Nat} (hk : k < G.length) : geti (mostsI G E) k = (gT G k : Nat) := by
  have hl := lv_W (G := G) h
  have : (mosts G E)[k]? = some (gT G k) := by
    unfold mosts
    have h1 : (lv G E)[k]? = some 1 := by rw [hl, List.getElem?_replicate, if_pos hk]
    have := row_get (f := fun k _ => gT G k) h1 (Nat.zero_lt_one)
    rw [hl, base_one _ _ (by omega), Nat.add_zero] at this
    rw [hl]
    exact this
  unfold geti mostsI
  rw [List.getElem?_map, this]
  rfl
theorem mostsW_len {G : List Gar} {E : List LE} (h : ∀ e ∈ E, isW e = true) : (mostsI G E).length = G.length := by
  unfold mostsI
  rw [List.length_map, mosts_len, lv_W h, base_one _ _ (Nat.le_refl _)]
theorem topsW_lo {G : List Gar} {E : List LE} (h : ∀ e ∈ E, isW e = true) {k : Nat} (hk : k < G.length) : 0 ≤ geti (topsL G E) k :=
  (le_tops _ _ (by rw [mostsW_len h]; exact hk)).mpr ⟨by rw [mosts_at h hk]; omega, fun l hl _ p hp _ => by have := (span_lt hl hp).2; omega⟩
theorem topsW_hi {G : List Gar} {E : List LE} (h : ∀ e ∈ E, isW e = true) {k : Nat} (hk : k < G.length) : geti (topsL G E) k ≤ (gT G k : Nat) := by
  have := ((le_tops (looks G E) (mostsI G E) (k := k) (v := geti (topsL G E) k) (by rw [mostsW_len h]; exact hk)).mp (Int.le_refl _)).1
  rw [mosts_at h hk] at this
  exact this
/-- the mosts of the changed list -/
theorem mosts_withT {G : List Gar} {E : List LE} (h : ∀ e ∈ E, isW e = true) {f : Nat → Nat} {T : List Int} (hl : T.length = G.length) (hT : ∀ k, k < G.length → geti T k = (f k : Nat)) : mostsI (withT G f) E = T := by
  refine ext_geti (by rw [mostsW_len h, withT_len, hl]) fun k hk v => ?_
  rw [mostsW_len h, withT_len] at hk
  rw [mosts_at h (by rw [withT_len]; exact hk), withT_t hk, hT k hk]
theorem tops_withT {G : List Gar} {E : List LE} (h : ∀ e ∈ E, isW e = true) {f : Nat → Nat} {T : List Int} (hl : T.length = G.length) (hT : ∀ k, k < G.length → geti T k = (f k : Nat)) : topsL (withT G f) E = topsB T (looks G E) := by
  unfold topsL
  rw [mosts_withT h hl hT, looks_same withT_d]
theorem LEok_withT {G : List Gar} {f : Nat → Nat} {e : LE} (h : LEok G e) : LEok (withT G f) e := by
  cases e with
  | renew k =>
    show k < (withT G f).length
    rw [withT_len]
    exact h
  | wash ks s u =>
    have w : WashOk G ks s u := h
    exact (⟨w.ne, by rw [withT_len]; exact w.lt, w.nd, w.su, by rw [gD_same withT_d]; exact w.ds⟩ : WashOk (withT G f) ks s u)
theorem mate_same {G : List Gar} {E : List LE} (h : ∀ e ∈ E, isW e = true) {f : Nat → Nat} (hf : ∀ k, k < G.length → geti (topsL G E) k = (f k : Nat)) :
    topsL (withT G f) E = topsL G E ∧ possL (withT G f) E = possL G E ∧ knownL (withT G f) E = knownL G E := by
  have tl : (topsL G E).length = G.length := by rw [topsL_len, lv_W h, base_one _ _ (Nat.le_refl _)]
  have h1 : topsL (withT G f) E = topsL G E := by
    rw [tops_withT h tl hf]
    exact topsB_idem _ _
  refine ⟨h1, ?_, ?_⟩
  · unfold possL
    rw [h1, looks_same withT_d]
  · unfold knownL
    rw [h1, looks_same withT_d]
theorem wide_tops {G : List Gar} {E : List LE} (hG : GarsOk G) (h : ∀ e ∈ E, isW e = true) {k : Nat} (hk : k < G.length) : geti (topsL G E) k = min (geti (topsL (withT G fun _ => 12) E) k) (gT G k : Nat) := by
  have m1 := mostsW_len (G := G) h
  have m2 := mostsW_len (G := withT G fun _ => 12) h
  rw [withT_len] at m2
  have := topsB_wider (T := mostsI G E) (U := mostsI (withT G fun _ => 12) E) (L := looks G E) (by rw [m1, m2]) (k := k) (by rw [m1]; exact hk) (by
    rw [mosts_at h hk, mosts_at h (by rw [withT_len]; exact hk), withT_t hk]
    have := K58.gT_low hG hk
    omega)
  rw [mosts_at h hk] at this
  unfold topsL
  rw [looks_same (G := G) withT_d]
  exact this
theorem less_no {G : List Gar} {E : List LE} (h : ∀ e ∈ E, isW e = true) {k : Nat} (hk : k < G.length) (hf : possL G E = true) {n : Int} (hn : n = leastB (looks G E) (topsL G E) k) (hp : 0 < n) :
    n - 1 ≤ gT G k ∧ possL (withT G fun j => if j = k then (n - 1).toNat else gT G j) E = false := by
  have nd : ∀ l ∈ looks G E, (l.sp.map (·.1)).Nodup := fun l hl => span_nodup hl
  have m1 := mostsW_len (G := G) h
  have hl := least_le (L := looks G E) (g := topsL G E) (k := k) hf nd (by omega)
  have hi := topsW_hi (G := G) h hk
  refine ⟨by omega, ?_⟩
  have T1 : mostsI (withT G fun j => if j = k then (n - 1).toNat else gT G j) E = (mostsI G E).set k (n - 1) := by
    refine mosts_withT h (by rw [List.length_set, m1]) fun j hj => ?_
    by_cases q : j = k
    · subst q
      rw [geti_set_self (by rw [m1]; exact hj), if_pos rfl]
      omega
    · rw [geti_set_ne (fun e => q e.symm), mosts_at h hj, if_neg q]
  have := less_unfit (T := mostsI G E) (L := looks G E) (k := k) (by rw [m1]; exact hk) nd (fun l hl p hp => by
    have := (span_lt hl hp).1
    rw [lv_W h, base_one _ _ (Nat.le_refl _)] at this
    rw [m1]
    exact this) (by show 0 < leastB (looks G E) (topsL G E) k; omega) (by
    show leastB (looks G E) (topsL G E) k - 1 ≤ _
    rw [mosts_at h hk]
    omega)
  have e : leastB (looks G E) (topsB (mostsI G E) (looks G E)) k = n := hn.symm
  rw [e] at this
  unfold possL topsL
  rw [T1, looks_same (G := G) withT_d]
  exact this
theorem withT_map {G : List Gar} {f : Nat → Nat} : (withT G f) = (List.range G.length).map fun k => ⟨gN G k, gD G k, f k⟩ := rfl
theorem gar_eta {G : List Gar} {k : Nat} (h : k < G.length) : G[k] = ⟨gN G k, gD G k, gT G k⟩ := by
  unfold gN gD gT
  rw [List.getElem?_eq_getElem h]
  rfl
theorem withT_const {G : List Gar} {c : Nat} : (withT G fun _ => c) = G.map fun g => ⟨g.n, g.d, c⟩ := by
  apply List.ext_getElem?
  intro k
  by_cases h : k < G.length
  · rw [withT_at h, List.getElem?_map, List.getElem?_eq_getElem h, gar_eta h]
    rfl
  · rw [List.getElem?_eq_none (by rw [withT_len]; omega), List.getElem?_eq_none (by rw [List.length_map]; omega)]
/-- one garment's most otherwise, as three slices -/
theorem withT_one {G : List Gar} {k c : Nat} (h : k < G.length) : (withT G fun j => if j = k then c else gT G j) = G.take k ++ [⟨gN G k, gD G k, c⟩] ++ G.drop (k + 1) := by
  have e1 : G.take k ++ [⟨gN G k, gD G k, c⟩] ++ G.drop (k + 1) = G.set k ⟨gN G k, gD G k, c⟩ := by
    rw [List.set_eq_take_append_cons_drop, if_pos h]
    simp
  rw [e1]
  apply List.ext_getElem?
  intro j
  by_cases hj : j < G.length
  · rw [withT_at hj]
    by_cases q : j = k
    · subst q
      rw [List.getElem?_set_self h, if_pos rfl]
    · rw [List.getElem?_set_ne (fun e => q e.symm), if_neg q, List.getElem?_eq_getElem hj, gar_eta hj]
  · rw [List.getElem?_eq_none (by rw [withT_len]; omega), List.getElem?_eq_none (by rw [List.length_set]; omega)]
end Bk

/-! Books by hand: what is known of them. -/
namespace Bk
open Pk
abbrev xSock : Tx := [115, 111, 99, 107]
abbrev xRug : Tx := [114, 117, 103]
abbrev xRed : Tx := [114, 101, 100]
abbrev h1 (t : Nat) : List Gar := [⟨xSock, xRed, t⟩]
abbrev h2 (t : Nat) : List Gar := [⟨xSock, xRed, t⟩, ⟨xRug, xRed, t⟩]
abbrev eSeen : LE := .wash [0] [xRed] []
abbrev eClean : LE := .wash [0] [] []
abbrev eHid : LE := .wash [0] [] [xRed]
abbrev eBoth : LE := .wash [0, 1] [xRed] []
abbrev eBothC : LE := .wash [0, 1] [] []
abbrev eRugC : LE := .wash [1] [] []
def eqP : List (Int × Int) → List (Int × Int) → Bool
  | [], [] => true
  | p :: r, q :: s => decide (p.1 = q.1) && (decide (p.2 = q.2) && eqP r s)
  | _, _ => false
theorem eqP_eq : ∀ {r s : List (Int × Int)}, eqP r s = true → r = s
  | [], [], _ => rfl
  | p :: r, q :: s, h => by
    unfold eqP at h
    rw [Bool.and_eq_true, Bool.and_eq_true, decide_eq_true_iff, decide_eq_true_iff] at h
    rw [eqP_eq h.2.2, Prod.ext h.1 h.2.1]
  | [], q :: s, h => by cases h
  | p :: r, [], h => by cases h
def kn (G : List Gar) (E : List LE) (ps : List (Int × Int)) : Bool := possL G E && eqP (knownL G E) ps
theorem kn_poss {G : List Gar} {E : List LE} {ps : List (Int × Int)} (h : kn G E ps = true) : possL G E = true := (Bool.and_eq_true_iff.mp h).1
theorem kn_eq {G : List Gar} {E : List LE} {ps : List (Int × Int)} (h : kn G E ps = true) : knownL G E = ps := eqP_eq (Bool.and_eq_true_iff.mp h).2
structure One (t b : Nat) : Prop where
  qa : kn (h1 t) (List.replicate b eSeen) [((b : Nat), (t : Nat))] = true
  qb : kn (h1 t) (List.replicate b eSeen ++ [eClean]) [((b : Nat), (b : Nat))] = true
  qc : kn (h1 t) (List.replicate b eSeen ++ [.renew 0]) [((b : Nat), (t : Nat)), (0, (t : Nat))] = true
  qd : possL (h1 t) (List.replicate b eSeen ++ [eClean, eSeen]) = false
  qe : kn (h1 t) (List.replicate t eHid) [(0, (t : Nat))] = true
def chk1 (t b : Nat) : Bool := kn (h1 t) (List.replicate b eSeen) [((b : Nat), (t : Nat))] && (kn (h1 t) (List.replicate b eSeen ++ [eClean]) [((b : Nat), (b : Nat))] && (kn (h1 t) (List.replicate b eSeen ++ [.renew 0]) [((b : Nat), (t : Nat)), (0, (t : Nat))] && (!possL (h1 t) (List.replicate b eSeen ++ [eClean, eSeen]) && kn (h1 t) (List.replicate t eHid) [(0, (t : Nat))])))
theorem one_all : ((List.range 13).all fun t => (List.range 13).all fun b => Nat.ble t 0 || !Nat.ble b t || chk1 t b) = true := by decide +kernel
theorem one {t b : Nat} (h0 : 1 ≤ t) (h1 : t ≤ 12) (h2 : b ≤ t) : One t b := by
  have h := one_all
  rw [List.all_eq_true] at h
  have h := h t (List.mem_range.mpr (by omega))
  rw [List.all_eq_true] at h
  have h := h b (List.mem_range.mpr (by omega))
  have e1 : Nat.ble t 0 = false := by
    cases e : Nat.ble t 0 with
    | false => rfl
    | true => have := Nat.le_of_ble_eq_true e; omega
  have e2 : Nat.ble b t = true := Nat.ble_eq_true_of_le h2
  rw [e1, e2, Bool.not_true, Bool.or_false, Bool.false_or] at h
  unfold chk1 at h
  simp only [Bool.and_eq_true, Bool.not_eq_true'] at h
  obtain ⟨a1, a2, a3, a4, a5⟩ := h
  exact ⟨a1, a2, a3, a4, a5⟩
structure Two (t b : Nat) : Prop where
  qa : kn (h2 t) (List.replicate b eBoth) [(0, (t : Nat)), (0, (t : Nat))] = true
  qb : kn (h2 t) (List.replicate b eBoth ++ [eRugC]) [(0, (t : Nat)), (0, (b : Nat))] = true
  qc : kn (h2 t) ([eRugC] ++ List.replicate b eBoth) [((b : Nat), (t : Nat)), (0, 0)] = true
  qd : kn (h2 t) ([eRugC, .renew 1] ++ List.replicate b eBoth) [(0, (t : Nat)), (0, 0), (0, (t : Nat))] = true
  qe : kn (h2 t) (List.replicate b eBoth ++ [eBothC]) [(0, (b : Nat)), (0, (b : Nat))] = true
def chk2 (t b : Nat) : Bool := kn (h2 t) (List.replicate b eBoth) [(0, (t : Nat)), (0, (t : Nat))] && (kn (h2 t) (List.replicate b eBoth ++ [eRugC]) [(0, (t : Nat)), (0, (b : Nat))] && (kn (h2 t) ([eRugC] ++ List.replicate b eBoth) [((b : Nat), (t : Nat)), (0, 0)] && (kn (h2 t) ([eRugC, .renew 1] ++ List.replicate b eBoth) [(0, (t : Nat)), (0, 0), (0, (t : Nat))] && kn (h2 t) (List.replicate b eBoth ++ [eBothC]) [(0, (b : Nat)), (0, (b : Nat))])))
theorem two_all : ((List.range 13).all fun t => (List.range 6).all fun b => Nat.ble t 1 || Nat.ble b 0 || !Nat.ble (b + 1) t || chk2 t b) = true := by decide +kernel
theorem two {t b : Nat} (h0 : 2 ≤ t) (h1 : t ≤ 12) (h2 : 1 ≤ b) (h3 : b ≤ 5) (h4 : b + 1 ≤ t) : Two t b := by
  have h := two_all
  rw [List.all_eq_true] at h
  have h := h t (List.mem_range.mpr (by omega))
  rw [List.all_eq_true] at h
  have h := h b (List.mem_range.mpr (by omega))
  have e1 : Nat.ble t 1 = false := by
    cases e : Nat.ble t 1 with
    | false => rfl
    | true => have := Nat.le_of_ble_eq_true e; omega
  have e3 : Nat.ble b 0 = false := by
    cases e : Nat.ble b 0 with
    | false => rfl
    | true => have := Nat.le_of_ble_eq_true e; omega
  have e2 : Nat.ble (b + 1) t = true := Nat.ble_eq_true_of_le h4
  rw [e1, e2, e3, Bool.not_true, Bool.or_false, Bool.or_false, Bool.false_or] at h
  unfold chk2 at h
  simp only [Bool.and_eq_true] at h
  obtain ⟨a1, a2, a3, a4, a5⟩ := h
  exact ⟨a1, a2, a3, a4, a5⟩
/-! ### a book in which nothing is looked for -/
theorem looks_bare {G : List Gar} {E : List LE} : ∀ (n k : Nat) (pre : List LE), looksFrom G E pre (List.replicate n (.renew k)) = []
  | 0, k, pre => rfl
  | n + 1, k, pre => by rw [List.replicate_succ, looksFrom, looks_bare n k]; rfl
theorem beg_bare : ∀ (n k j : Nat), beg (List.replicate n (.renew k)) j = if k = j then n else 0
  | 0, k, j => by simp [beg]
  | n + 1, k, j => by
    rw [List.replicate_succ, beg, beg_bare n k j]
    split <;> omega
theorem row_ones {f : Nat → Nat → Nat} : ∀ (m : Nat), row (List.replicate m 1) f = (List.range m).map fun k => f k 0
  | 0 => rfl
  | m + 1 => by
    rw [List.replicate_succ, row, row_ones (f := fun k j => f (k + 1) j) m, List.range_succ_eq_map (n := m), List.map_cons, List.map_map]
    simp [Function.comp_def]
theorem mosts_bare {g : Gar} {G : List Gar} {n : Nat} : mosts (g :: G) (List.replicate n (.renew 0)) = List.replicate (n + 1) g.t ++ G.map (·.t) := by
  have e : lv (g :: G) (List.replicate n (.renew 0)) = (n + 1) :: List.replicate G.length 1 := by
    unfold lv
    rw [List.length_cons, List.range_succ_eq_map, List.map_cons, List.map_map]
    congr 1
    · rw [beg_bare, if_pos rfl]
    · apply List.ext_getElem
      · simp
      · intro i a1 a2
        simp [beg_bare]
  unfold mosts
  rw [e, row, row_ones]
  congr 1
  · apply List.ext_getElem
    · simp
    · intro i a1 a2
      simp [gT]
  · apply List.ext_getElem
    · simp
    · intro i a1 a2
      have : i < G.length := by simpa using a1
      simp [gT, List.getElem?_eq_getElem this]
theorem tops_bare {g : Gar} {G : List Gar} {n : Nat} : topsL (g :: G) (List.replicate n (.renew 0)) = (List.replicate (n + 1) g.t ++ G.map (·.t)).map Int.ofNat := by
  unfold topsL looks mostsI
  rw [looks_bare, mosts_bare]
  rfl
theorem poss_bare {G : List Gar} {n : Nat} : possL G (List.replicate n (.renew 0)) = true := by
  unfold possL looks
  rw [looks_bare]
  rfl
theorem zipIdx_map_fst {α β : Type} (f : α → β) : ∀ (xs : List α) (n : Nat), (xs.zipIdx n).map (fun p => f p.1) = xs.map f
  | [], _ => rfl
  | x :: r, n => by rw [List.zipIdx_cons, List.map_cons, List.map_cons, zipIdx_map_fst f r]
theorem known_bare {g : Gar} {G : List Gar} {n : Nat} : knownL (g :: G) (List.replicate n (.renew 0)) = (List.replicate (n + 1) g.t ++ G.map (·.t)).map fun t : Nat => ((0 : Int), (t : Int)) := by
  unfold knownL
  rw [tops_bare]
  unfold looks
  rw [looks_bare]
  have e : ∀ k, leastB [] ((List.replicate (n + 1) g.t ++ G.map (·.t)).map Int.ofNat) k = 0 := fun k => rfl
  simp only [e]
  rw [zipIdx_map_fst (fun t => ((0 : Int), t)), List.map_map]
  rfl
end Bk
namespace K58
open PySem PySem.Spec PyProof.Rows L2 Pk Bk
theorem nm_sock : NameOk xSock := ⟨by decide, by decide, by decide⟩
theorem nm_rug : NameOk xRug := ⟨by decide, by decide, by decide⟩
theorem nm_red : NameOk xRed := ⟨by decide, by decide, by decide⟩
theorem gars1 {t : Nat} (h : t ≤ 12) : GarsOk (h1 t) := ⟨by simp, by simp, fun g hg => by
  rw [List.mem_singleton] at hg
  subst hg
  exact ⟨nm_sock, nm_red, h⟩, by simp⟩
theorem gars2 {t : Nat} (h : t ≤ 12) : GarsOk (h2 t) := ⟨by simp, by simp, fun g hg => by
  simp only [List.mem_cons, List.not_mem_nil, or_false] at hg
  rcases hg with e | e <;> subst e
  · exact ⟨nm_sock, nm_red, h⟩
  · exact ⟨nm_rug, nm_red, h⟩, by simp⟩
theorem ok_seen {t : Nat} : LEok (h1 t) eSeen := (⟨by simp, by simp, by simp, by simp, by simp [gD]⟩ : WashOk _ _ _ _)
theorem ok_clean {t : Nat} : LEok (h1 t) eClean := (⟨by simp, by simp, by simp, by simp, by simp⟩ : WashOk _ _ _ _)
theorem ok_hid {t : Nat} : LEok (h1 t) eHid := (⟨by simp, by simp, by simp, by simp, by simp [gD]⟩ : WashOk _ _ _ _)
theorem ok_ren {t : Nat} : LEok (h1 t) (.renew 0) := (by simp : 0 < (h1 t).length)
theorem ok_both {t : Nat} : LEok (h2 t) eBoth := (⟨by simp, by simp, by simp, by simp, by simp [gD]⟩ : WashOk _ _ _ _)
theorem ok_bothC {t : Nat} : LEok (h2 t) eBothC := (⟨by simp, by simp, by simp, by simp, by simp⟩ : WashOk _ _ _ _)
theorem ok_rugC {t : Nat} : LEok (h2 t) eRugC := (⟨by simp, by simp, by simp, by simp, by simp⟩ : WashOk _ _ _ _)
theorem ok_ren2 {t : Nat} : LEok (h2 t) (.renew 1) := (by simp : 1 < (h2 t).length)
end K58

namespace K47
open PySem PySem.Spec PyProof.Rows L2 Pk Bk K58
/-! ### steps -/
section
variable {ρ ρ' : Slots} {μ μ' : Sto} {De : DEnds} {rest a b : WS} {t u : WT} {w w' : WE} {d : D}
theorem st_asg {g : GF} (hw : ∀ Q E, w ρ μ Q E = Q d μ) (hg : g d ρ = some ρ') : sSeq (sAsg w g) rest De ρ μ = rest De ρ' μ := by simp only [sSeq, sAsg, hw, hg]
theorem st_no (h : ∀ Q E, t ρ μ Q E = Q false μ) : sSeq (sIf t a sNil) rest De ρ μ = rest De ρ μ := by simp only [sSeq, sIf, h, sNil]
theorem st_ret (h : ∀ Q E, w ρ μ Q E = Q d μ) : sRet w De ρ μ = De.rt d μ := by simp only [sRet, h]
theorem t_tru {b : Bool} (h : ∀ Q E, w ρ μ Q E = Q (.bl b) μ) (Q : Bool → Sto → Prop) (E : QX) : tTru w ρ μ Q E = Q b μ := by
  have l : look μ (.bl b) = .bl b := rfl
  have tr : truD (.bl b) = some b := rfl
  simp only [tTru, h, l, tr]
theorem t_or (h1 : ∀ Q E, t ρ μ Q E = Q false μ) (h2 : ∀ Q E, u ρ μ Q E = Q false μ) (Q : Bool → Sto → Prop) (E : QX) : tOr' t u ρ μ Q E = Q false μ := by simp only [tOr', h1, h2]
theorem t_ne {e : D} (h1 : ∀ Q E, w ρ μ Q E = Q d μ) (h2 : ∀ Q E, w' ρ μ Q E = Q e μ) (l1 : look μ d = d) (l2 : look μ e = e) (hn : neqD d e = some (.bl false)) (Q : Bool → Sto → Prop) (E : QX) : tBl (w2 neqD w w') ρ μ Q E = Q false μ := by
  simp only [tBl, w2, h1, h2, l1, l2, hn]
theorem rep_one (n : Nat) (x : D) : repD n [x] = List.replicate n x := by
  unfold repD
  rw [List.flatten_replicate_singleton]
theorem mulT_one {n : Nat} (h : n ≤ 1000) (x : D) : mulT (.tup [x]) (.int (n : Nat)) = some (.tup (List.replicate n x)) := by
  have e : mulT (.tup [x]) (.int (n : Nat)) = match Nat.ble n 1000 && Nat.ble [x].length 1000 with
    | true => some (.tup (repD n [x]))
    | false => none := rfl
  rw [e, Nat.ble_eq_true_of_le h, rep_one]
  rfl
theorem addT {xs ys : List D} (h : xs.length + ys.length ≤ 1000) : addD (.tup xs) (.tup ys) = some (.tup (xs ++ ys)) := by
  simp only [addD, lineB_ok (show xs.length + ys.length ≤ 16777216 by omega)]
end
section
variable {G : List Gar} {E0 : List LE} {wg wl : WE} {ls : List D} {ρ : Slots} {μ : Sto}
theorem known_run (h : BookOk G E0) (hp : possL G E0 = true) (el : (E0.map (lineOf G)).map D.str = ls) (hg : ∀ Q E, wg (ρ.map hideM) [] Q E = Q (.tup (G.map eG)) []) (hl : ∀ Q E, wl (ρ.map hideM) [] Q E = Q (.tup ls) []) (Q : QD) (E : QX) :
    wCallN c_known 1 [] (aCons (wLoc (wFz 9 (wMake 0 c_Book_init 3 [] (aCons wg (aCons wl aNil))))) aNil) ρ μ Q E = Q (.tup ((knownL G E0).map eKn)) μ := by
  subst el
  have k : ∀ μ Q E, c_known [bookD G E0] μ Q E = Q (.tup ((knownL G E0).map eKn)) μ := m_known h hp
  have bm := fun Q E => book_make h.g h.e h.l (ρ := ρ) (μ := μ) (Q := Q) (E := E) (wa := aCons wg (aCons wl aNil)) (fun Q E => by simp only [aCons, aNil, hg, hl])
  simp only [wCallN]
  show wLoc (wFz 9 (wMake 0 c_Book_init 3 [] (aCons wg (aCons wl aNil)))) ρ μ _ E = _
  rw [bm]
  exact k μ Q E
theorem poss_run (h : BookOk G E0) (el : (E0.map (lineOf G)).map D.str = ls) (hg : ∀ Q E, wg (ρ.map hideM) [] Q E = Q (.tup (G.map eG)) []) (hl : ∀ Q E, wl (ρ.map hideM) [] Q E = Q (.tup ls) []) (Q : QD) (E : QX) :
    wCallN c_possible 1 [] (aCons (wLoc (wFz 9 (wMake 0 c_Book_init 3 [] (aCons wg (aCons wl aNil))))) aNil) ρ μ Q E = Q (.bl (possL G E0)) μ := by
  subst el
  have k : ∀ μ Q E, c_possible [bookD G E0] μ Q E = Q (.bl (possL G E0)) μ := m_possible h
  have bm := fun Q E => book_make h.g h.e h.l (ρ := ρ) (μ := μ) (Q := Q) (E := E) (wa := aCons wg (aCons wl aNil)) (fun Q E => by simp only [aCons, aNil, hg, hl])
  simp only [wCallN]
  show wLoc (wFz 9 (wMake 0 c_Book_init 3 [] (aCons wg (aCons wl aNil)))) ρ μ _ E = _
  rw [bm]
  exact k μ Q E
/-- known, held against a tuple written here -/
theorem t_known {ps : List (Int × Int)} {dr : D} {w' : WE} (h : BookOk G E0) (hk : kn G E0 ps = true) (el : (E0.map (lineOf G)).map D.str = ls) (hg : ∀ Q E, wg (ρ.map hideM) [] Q E = Q (.tup (G.map eG)) []) (hl : ∀ Q E, wl (ρ.map hideM) [] Q E = Q (.tup ls) [])
    (hw : ∀ Q E, w' ρ μ Q E = Q dr μ) (hd : .tup (ps.map eKn) = dr) (Q : Bool → Sto → Prop) (E : QX) :
    tBl (w2 neqD (wCallN c_known 1 [] (aCons (wLoc (wFz 9 (wMake 0 c_Book_init 3 [] (aCons wg (aCons wl aNil))))) aNil)) w') ρ μ Q E = Q false μ := by
  subst hd
  refine t_ne (fun Q E => known_run h (kn_poss hk) el hg hl Q E) hw rfl rfl ?_ Q E
  rw [kn_eq hk]
  exact ne_self (pures_map fun a ha => rfl)
theorem e_known {ps : List (Int × Int)} {dr : D} {w' : WE} (h : BookOk G E0) (hk : kn G E0 ps = true) (el : (E0.map (lineOf G)).map D.str = ls) (hg : ∀ Q E, wg (ρ.map hideM) [] Q E = Q (.tup (G.map eG)) []) (hl : ∀ Q E, wl (ρ.map hideM) [] Q E = Q (.tup ls) [])
    (hw : ∀ Q E, w' ρ μ Q E = Q dr μ) (hd : .tup (ps.map eKn) = dr) (Q : QD) (E : QX) :
    w2 eqqD (wCallN c_known 1 [] (aCons (wLoc (wFz 9 (wMake 0 c_Book_init 3 [] (aCons wg (aCons wl aNil))))) aNil)) w' ρ μ Q E = Q (.bl true) μ := by
  subst hd
  have l1 : ∀ (xs : List D), look μ (.tup xs) = .tup xs := fun _ => rfl
  have e : eqqD (.tup ((knownL G E0).map eKn)) (.tup (ps.map eKn)) = some (.bl true) := by
    rw [kn_eq hk]
    exact eqq_self (pures_map fun a ha => rfl)
  simp only [w2, known_run h (kn_poss hk) el hg hl, hw, l1, e]
end
theorem book_all {G : List Gar} {E : List LE} (hg : GarsOk G) (hl : E.length ≤ 30) (h : ∀ e ∈ E, LEok G e) : BookOk G E := ⟨hg, h, hl⟩
theorem rep_ok {G : List Gar} {e : LE} (h : LEok G e) (n : Nat) : ∀ x ∈ List.replicate n e, LEok G x := fun x hx => (List.eq_of_mem_replicate hx).symm ▸ h
theorem app_ok {G : List Gar} {E E' : List LE} (h : ∀ e ∈ E, LEok G e) (h' : ∀ e ∈ E', LEok G e) : ∀ e ∈ E ++ E', LEok G e := fun e he => (List.mem_append.mp he).elim (h e) (h' e)
theorem one_ok {G : List Gar} {e : LE} (h : LEok G e) : ∀ x ∈ [e], LEok G x := fun x hx => (List.mem_singleton.mp hx).symm ▸ h
theorem two_ok {G : List Gar} {e f : LE} (h : LEok G e) (h' : LEok G f) : ∀ x ∈ [e, f], LEok G x := fun x hx => by
  simp only [List.mem_cons, List.not_mem_nil, or_false] at hx
  rcases hx with q | q <;> subst q <;> assumption
abbrev dSeen : D := .str [119, 97, 115, 104, 32, 115, 111, 99, 107, 32, 43, 32, 114, 101, 100]
abbrev dClean : D := .str [119, 97, 115, 104, 32, 115, 111, 99, 107]
abbrev dRen : D := .str [114, 101, 110, 101, 119, 32, 115, 111, 99, 107]
abbrev dHid : D := .str [119, 97, 115, 104, 32, 115, 111, 99, 107, 32, 63, 32, 114, 101, 100]
theorem l_seen {t : Nat} : lineOf (h1 t) eSeen = [119, 97, 115, 104, 32, 115, 111, 99, 107, 32, 43, 32, 114, 101, 100] := rfl
theorem l_clean {t : Nat} : lineOf (h1 t) eClean = [119, 97, 115, 104, 32, 115, 111, 99, 107] := rfl
theorem l_ren {t : Nat} : lineOf (h1 t) (.renew 0) = [114, 101, 110, 101, 119, 32, 115, 111, 99, 107] := rfl
theorem l_hid {t : Nat} : lineOf (h1 t) eHid = [119, 97, 115, 104, 32, 115, 111, 99, 107, 32, 63, 32, 114, 101, 100] := rfl
/-- slots, hidden -/
theorem hide_int (i : Int) : hideM (some (.int i)) = some (.int i) := rfl
theorem hide_t1 (t : Nat) : hideM (some (.tup ((h1 t).map eG))) = some (.tup ((h1 t).map eG)) := rfl
theorem hide_t2 (t : Nat) : hideM (some (.tup ((h2 t).map eG))) = some (.tup ((h2 t).map eG)) := rfl
theorem noMs_rep (x : Tx) : ∀ n, noMs (List.replicate n (D.str x)) = true
  | 0 => rfl
  | n + 1 => by rw [List.replicate_succ]; simp only [noMs, noM, noMs_rep x n]
theorem hide_rep (x : Tx) (n : Nat) : hideM (some (.tup (List.replicate n (.str x)))) = some (.tup (List.replicate n (.str x))) := by
  simp only [hideM, noM, noMs_rep x n, if_true]
theorem hide_m : hideM (some (.mref 0)) = none := rfl
theorem add_run {w w' : WE} {ρ : Slots} {μ : Sto} {xs ys : List D} (h1 : ∀ Q E, w ρ μ Q E = Q (.tup xs) μ) (h2 : ∀ Q E, w' ρ μ Q E = Q (.tup ys) μ) (h : xs.length + ys.length ≤ 1000) (Q : QD) (E : QX) : w2 addD w w' ρ μ Q E = Q (.tup (xs ++ ys)) μ := by
  have l1 : ∀ (zs : List D), look μ (.tup zs) = .tup zs := fun _ => rfl
  simp only [w2, h1, h2, l1, addT h]
theorem mul_run {w : WE} {ρ : Slots} {μ : Sto} {x : D} {n : Nat} (h1 : ∀ Q E, w ρ μ Q E = Q (.int (n : Nat)) μ) (hx : ∀ Q E, wTup (aCons (wC x) aNil) ρ μ Q E = Q (.tup [x]) μ) (h : n ≤ 1000) (Q : QD) (E : QX) : w2 mulT (wTup (aCons (wC x) aNil)) w ρ μ Q E = Q (.tup (List.replicate n x)) μ := by
  have l1 : ∀ (zs : List D), look μ (.tup zs) = .tup zs := fun _ => rfl
  have l2 : ∀ i : Int, look μ (.int i) = .int i := fun _ => rfl
  simp only [w2, h1, hx, l1, l2, mulT_one h]
section
variable {c : MO} {ρ : Slots} {De : DEnds} {rest : WS} {size i : Int} {w : WE} {g : GF}
theorem st_draw (hc : IsCup c) (hv : ρ[0]? = some (some (.mref 0))) (h0 : 0 < size) (h1 : size < 1000000) (hw : ∀ Q E, w ρ [c] Q E = Q (.int size) [c]) (h : ∀ c' f, IsCup c' → 0 ≤ f → f < size → ∃ ρ', g (.int f) ρ = some ρ' ∧ rest De ρ' [c']) :
    sSeq (sAsg (wGc (wCallN c__law_sip 2 [] (aCons (wVar 0) (aCons w aNil)))) g) rest De ρ [c] := by
  simp only [sSeq, sAsg]
  refine sip_run hc rfl h0 h1 hv hw fun c' f hc' f0 f1 => ?_
  obtain ⟨ρ', e, q⟩ := h c' f hc' f0 f1
  simp only [e]
  exact q
theorem st_draw1 (hc : IsCup c) (hv : ρ[0]? = some (some (.mref 0))) (h0 : 0 < size) (h1 : size < 1000000) (hw : ∀ Q E, w ρ [c] Q E = Q (.int size) [c]) (h : ∀ c' f, IsCup c' → 0 ≤ f → f < size → ∃ ρ', g (.int (i + f)) ρ = some ρ' ∧ rest De ρ' [c']) :
    sSeq (sAsg (w2 addD (wC (.int i)) (wGc (wCallN c__law_sip 2 [] (aCons (wVar 0) (aCons w aNil))))) g) rest De ρ [c] := by
  simp only [sSeq, sAsg, w2, wC]
  refine sip_run hc rfl h0 h1 hv hw fun c' f hc' f0 f1 => ?_
  obtain ⟨ρ', e, q⟩ := h c' f hc' f0 f1
  have l : ∀ j : Int, look [c'] (.int j) = .int j := fun _ => rfl
  have a : addD (.int i) (.int f) = some (.int (i + f)) := rfl
  simp only [l, a, e]
  exact q
end
abbrev bk (wl : WE) : WE := wLoc (wFz 9 (wMake 0 c_Book_init 3 [] (aCons (wVar 3) (aCons wl aNil))))
abbrev kno (w : WE) : WE := wCallN c_known 1 [] (aCons w aNil)
abbrev pos (w : WE) : WE := wCallN c_possible 1 [] (aCons w aNil)
abbrev sFl : WS := sRet (wC (.bl false))
section
variable {t b : Nat} {rest : WS} {De : DEnds} {μ : Sto}
def rA (t b : Nat) : Slots := [some (.mref 0), some (.int (t : Nat)), some (.int (b : Nat)), some (.tup ((h1 t).map eG)), some (.tup (List.replicate b dSeen))]
theorem v1 (Q : QD) (E : QX) : wVar 1 (rA t b) μ Q E = Q (.int (t : Nat)) μ := rfl
theorem v2 (Q : QD) (E : QX) : wVar 2 (rA t b) μ Q E = Q (.int (b : Nat)) μ := rfl
theorem v1' (Q : QD) (E : QX) : wVar 1 ((rA t b).map hideM) [] Q E = Q (.int (t : Nat)) [] := rfl
theorem v3 (Q : QD) (E : QX) : wVar 3 ((rA t b).map hideM) [] Q E = Q (.tup ((h1 t).map eG)) [] := rfl
theorem v4 (Q : QD) (E : QX) : wVar 4 ((rA t b).map hideM) [] Q E = Q (.tup (List.replicate b dSeen)) [] := by
  have e : (((rA t b).map hideM)[4]?) = some (some (.tup (List.replicate b dSeen))) := by
    show some (hideM (some (.tup (List.replicate b dSeen)))) = _
    rw [hide_rep]
  simp only [wVar, e]
theorem eS (n : Nat) : ((List.replicate n eSeen).map (lineOf (h1 t))).map D.str = List.replicate n dSeen := by rw [List.map_replicate, List.map_replicate, l_seen]
theorem eS1 (n : Nat) (e : LE) (d : D) (h : D.str (lineOf (h1 t) e) = d) : ((List.replicate n eSeen ++ [e]).map (lineOf (h1 t))).map D.str = List.replicate n dSeen ++ [d] := by
  rw [List.map_append, List.map_append, eS, List.map_cons, List.map_nil, List.map_cons, List.map_nil, h]
theorem eS2 (n : Nat) (e f : LE) (d d' : D) (h : D.str (lineOf (h1 t) e) = d) (h' : D.str (lineOf (h1 t) f) = d') : ((List.replicate n eSeen ++ [e, f]).map (lineOf (h1 t))).map D.str = List.replicate n dSeen ++ [d, d'] := by
  rw [List.map_append, List.map_append, eS]
  simp only [List.map_cons, List.map_nil, h, h']
theorem tup1 {ρ : Slots} {w : WE} {d : D} (h : ∀ Q E, w ρ μ Q E = Q d μ) (Q : QD) (E : QX) : wTup (aCons w aNil) ρ μ Q E = Q (.tup [d]) μ := by
  have l : lineB [d].length = true := rfl
  simp only [wTup, aCons, aNil, h, l]
theorem tup2 {ρ : Slots} {w w' : WE} {d d' : D} (h : ∀ Q E, w ρ μ Q E = Q d μ) (h' : ∀ Q E, w' ρ μ Q E = Q d' μ) (Q : QD) (E : QX) : wTup (aCons w (aCons w' aNil)) ρ μ Q E = Q (.tup [d, d']) μ := by
  have l : lineB [d, d'].length = true := rfl
  simp only [wTup, aCons, aNil, h, h', l]
theorem tup3 {ρ : Slots} {w w' w'' : WE} {d d' d'' : D} (h : ∀ Q E, w ρ μ Q E = Q d μ) (h' : ∀ Q E, w' ρ μ Q E = Q d' μ) (h'' : ∀ Q E, w'' ρ μ Q E = Q d'' μ) (Q : QD) (E : QX) : wTup (aCons w (aCons w' (aCons w'' aNil))) ρ μ Q E = Q (.tup [d, d', d'']) μ := by
  have l : lineB [d, d', d''].length = true := rfl
  simp only [wTup, aCons, aNil, h, h', h'', l]
theorem con {ρ : Slots} {d : D} (Q : QD) (E : QX) : wC d ρ μ Q E = Q d μ := rfl
theorem lenR (n : Nat) (d : D) (ds : List D) (h : n + ds.length ≤ 1000) : (List.replicate n d).length + ds.length ≤ 1000 := by rw [List.length_replicate]; exact h
end
section
variable {t b : Nat} {rest : WS} {De : DEnds} {μ : Sto} (t0 : 1 ≤ t) (t1 : t ≤ 12) (b1 : b ≤ t)
include t0 t1 b1
theorem sA5 : sSeq (sIf (tOr' (tBl (w2 neqD (kno (bk (wVar 4))) (wTup (aCons (wTup (aCons (wVar 2) (aCons (wVar 1) aNil))) aNil)))) (tBl (w2 neqD (kno (bk (w2 addD (wVar 4) (wTup (aCons (wC dClean) aNil))))) (wTup (aCons (wTup (aCons (wVar 2) (aCons (wVar 2) aNil))) aNil))))) sFl sNil) rest De (rA t b) μ = rest De (rA t b) μ := by
  have O := one t0 t1 b1
  have G := gars1 t1
  have okS := rep_ok (ok_seen (t := t)) b
  have B1 : BookOk (h1 t) (List.replicate b eSeen) := book_all G (by simp; omega) okS
  have B2 : BookOk (h1 t) (List.replicate b eSeen ++ [eClean]) := book_all G (by simp; omega) (app_ok okS (one_ok ok_clean))
  refine st_no (t_or (t_known B1 O.qa (eS b) v3 v4 (tup1 (tup2 v2 v1)) rfl) (t_known B2 O.qb (eS1 b _ _ rfl) v3 (add_run v4 (tup1 con) (lenR _ _ _ (by simp; omega))) (tup1 (tup2 v2 v2)) rfl))
theorem sA6 : sSeq (sIf (tBl (w2 neqD (kno (bk (w2 addD (wVar 4) (wTup (aCons (wC dRen) aNil))))) (wTup (aCons (wTup (aCons (wVar 2) (aCons (wVar 1) aNil))) (aCons (wTup (aCons (wC (.int 0)) (aCons (wVar 1) aNil))) aNil))))) sFl sNil) rest De (rA t b) μ = rest De (rA t b) μ := by
  have O := one t0 t1 b1
  have G := gars1 t1
  have B3 : BookOk (h1 t) (List.replicate b eSeen ++ [.renew 0]) := book_all G (by simp; omega) (app_ok (rep_ok ok_seen b) (one_ok ok_ren))
  exact st_no (t_known B3 O.qc (eS1 b _ _ rfl) v3 (add_run v4 (tup1 con) (lenR _ _ _ (by simp; omega))) (tup2 (tup2 v2 v1) (tup2 con v1)) rfl)
theorem sA7 : sSeq (sIf (tTru (pos (bk (w2 addD (wVar 4) (wTup (aCons (wC dClean) (aCons (wC dSeen) aNil))))))) sFl sNil) rest De (rA t b) μ = rest De (rA t b) μ := by
  have O := one t0 t1 b1
  have G := gars1 t1
  have B4 : BookOk (h1 t) (List.replicate b eSeen ++ [eClean, eSeen]) := book_all G (by simp; omega) (app_ok (rep_ok ok_seen b) (two_ok ok_clean ok_seen))
  have k := poss_run B4 (μ := μ) (ρ := rA t b) (wg := wVar 3) (eS2 b eClean eSeen dClean dSeen rfl rfl) v3 (add_run v4 (tup2 con con) (lenR _ _ _ (by simp; omega)))
  rw [O.qd] at k
  exact st_no (t_tru k)
theorem sA8 : sRet (w2 eqqD (kno (bk (w2 mulT (wTup (aCons (wC dHid) aNil)) (wVar 1)))) (wTup (aCons (wTup (aCons (wC (.int 0)) (aCons (wVar 1) aNil))) aNil))) De (rA t b) μ = De.rt (.bl true) μ := by
  have O := one t0 t1 b1
  have G := gars1 t1
  have B5 : BookOk (h1 t) (List.replicate t eHid) := book_all G (by simp; omega) (rep_ok ok_hid t)
  exact st_ret (e_known B5 O.qe (by rw [List.map_replicate, List.map_replicate, l_hid]) v3 (mul_run v1' (tup1 con) (by omega)) (tup1 (tup2 con v1)) rfl)
end
theorem m_alone {c : MO} (hc : IsCup c) {Q : QD} {E : QX} (h : ∀ c', IsCup c' → Q (.bl true) [c']) : c__law_alone_right [.mref 0] [c] Q E := by
  rw [u__law_alone_right rfl]
  unfold w__law_alone_right
  refine st_draw1 hc rfl (by decide) (by decide) (fun Q E => rfl) fun c1 f1 hc1 p0 p1 => ⟨_, rfl, ?_⟩
  obtain ⟨t, ht⟩ : ∃ t : Nat, 1 + f1 = (t : Int) := ⟨(1 + f1).toNat, by omega⟩
  rw [ht]
  have t0 : 1 ≤ t := by omega
  have t1 : t ≤ 12 := by omega
  refine st_draw hc1 rfl (size := (t : Int) + 1) (by omega) (by omega) (fun Q E => rfl) fun c2 f2 hc2 p0 p1 => ⟨_, rfl, ?_⟩
  obtain ⟨b, hb⟩ : ∃ b : Nat, f2 = (b : Int) := ⟨f2.toNat, by omega⟩
  subst hb
  have b1 : b ≤ t := by omega
  refine Eq.mpr (st_asg (d := .tup ((h1 t).map eG)) (fun Q E => rfl) rfl) ?_
  refine Eq.mpr (st_asg (d := .tup (List.replicate b dSeen)) (fun Q E => mul_run (fun Q E => rfl) (fun Q E => rfl) (by omega) Q E) rfl) ?_
  show sSeq _ _ _ (rA t b) _
  rw [sA5 t0 t1 b1, sA6 t0 t1 b1, sA7 t0 t1 b1, sA8 t0 t1 b1]
  exact h c2 hc2

/-! ### two of one dye -/
abbrev dBoth : D := .str [119, 97, 115, 104, 32, 115, 111, 99, 107, 32, 114, 117, 103, 32, 43, 32, 114, 101, 100]
abbrev dBothC : D := .str [119, 97, 115, 104, 32, 115, 111, 99, 107, 32, 114, 117, 103]
abbrev dRugC : D := .str [119, 97, 115, 104, 32, 114, 117, 103]
abbrev dRen2 : D := .str [114, 101, 110, 101, 119, 32, 114, 117, 103]
theorem l_both {t : Nat} : lineOf (h2 t) eBoth = [119, 97, 115, 104, 32, 115, 111, 99, 107, 32, 114, 117, 103, 32, 43, 32, 114, 101, 100] := rfl
section
variable {t b : Nat} {rest : WS} {De : DEnds} {μ : Sto}
def rB (t b : Nat) : Slots := [some (.mref 0), some (.int (t : Nat)), some (.int (b : Nat)), some (.tup ((h2 t).map eG)), some (.tup (List.replicate b dBoth))]
theorem u1 (Q : QD) (E : QX) : wVar 1 (rB t b) μ Q E = Q (.int (t : Nat)) μ := rfl
theorem u2 (Q : QD) (E : QX) : wVar 2 (rB t b) μ Q E = Q (.int (b : Nat)) μ := rfl
theorem u3 (Q : QD) (E : QX) : wVar 3 ((rB t b).map hideM) [] Q E = Q (.tup ((h2 t).map eG)) [] := rfl
theorem u4 (Q : QD) (E : QX) : wVar 4 ((rB t b).map hideM) [] Q E = Q (.tup (List.replicate b dBoth)) [] := by
  have e : (((rB t b).map hideM)[4]?) = some (some (.tup (List.replicate b dBoth))) := by
    show some (hideM (some (.tup (List.replicate b dBoth)))) = _
    rw [hide_rep]
  simp only [wVar, e]
theorem fS (n : Nat) : ((List.replicate n eBoth).map (lineOf (h2 t))).map D.str = List.replicate n dBoth := by rw [List.map_replicate, List.map_replicate, l_both]
theorem fS1 (n : Nat) (e : LE) (d : D) (h : D.str (lineOf (h2 t) e) = d) : ((List.replicate n eBoth ++ [e]).map (lineOf (h2 t))).map D.str = List.replicate n dBoth ++ [d] := by
  rw [List.map_append, List.map_append, fS, List.map_cons, List.map_nil, List.map_cons, List.map_nil, h]
theorem fS1' (n : Nat) (e : LE) (d : D) (h : D.str (lineOf (h2 t) e) = d) : (([e] ++ List.replicate n eBoth).map (lineOf (h2 t))).map D.str = [d] ++ List.replicate n dBoth := by
  rw [List.map_append, List.map_append, fS, List.map_cons, List.map_nil, List.map_cons, List.map_nil, h]
theorem fS2' (n : Nat) (e f : LE) (d d' : D) (h : D.str (lineOf (h2 t) e) = d) (h' : D.str (lineOf (h2 t) f) = d') : (([e, f] ++ List.replicate n eBoth).map (lineOf (h2 t))).map D.str = [d, d'] ++ List.replicate n dBoth := by
  rw [List.map_append, List.map_append, fS]
  simp only [List.map_cons, List.map_nil, h, h']
theorem lenL (n : Nat) (d : D) (ds : List D) (h : ds.length + n ≤ 1000) : ds.length + (List.replicate n d).length ≤ 1000 := by rw [List.length_replicate]; exact h
end
section
variable {t b : Nat} {rest : WS} {De : DEnds} {μ : Sto} (t0 : 2 ≤ t) (t1 : t ≤ 12) (b0 : 1 ≤ b) (b1 : b ≤ 5) (b2 : b + 1 ≤ t)
include t0 t1 b0 b1 b2
theorem sB5 : sSeq (sIf (tBl (w2 neqD (kno (bk (wVar 4))) (wTup (aCons (wTup (aCons (wC (.int 0)) (aCons (wVar 1) aNil))) (aCons (wTup (aCons (wC (.int 0)) (aCons (wVar 1) aNil))) aNil))))) sFl sNil) rest De (rB t b) μ = rest De (rB t b) μ := by
  have O := two t0 t1 b0 b1 b2
  have G := gars2 t1
  have B1 : BookOk (h2 t) (List.replicate b eBoth) := book_all G (by simp; omega) (rep_ok ok_both b)
  exact st_no (t_known B1 O.qa (fS b) u3 u4 (tup2 (tup2 con u1) (tup2 con u1)) rfl)
theorem sB6 : sSeq (sIf (tBl (w2 neqD (kno (bk (w2 addD (wVar 4) (wTup (aCons (wC dRugC) aNil))))) (wTup (aCons (wTup (aCons (wC (.int 0)) (aCons (wVar 1) aNil))) (aCons (wTup (aCons (wC (.int 0)) (aCons (wVar 2) aNil))) aNil))))) sFl sNil) rest De (rB t b) μ = rest De (rB t b) μ := by
  have O := two t0 t1 b0 b1 b2
  have G := gars2 t1
  have B2 : BookOk (h2 t) (List.replicate b eBoth ++ [eRugC]) := book_all G (by simp; omega) (app_ok (rep_ok ok_both b) (one_ok ok_rugC))
  exact st_no (t_known B2 O.qb (fS1 b _ _ rfl) u3 (add_run u4 (tup1 con) (lenR _ _ _ (by simp; omega))) (tup2 (tup2 con u1) (tup2 con u2)) rfl)
theorem sB7 : sSeq (sIf (tBl (w2 neqD (kno (bk (w2 addD (wTup (aCons (wC dRugC) aNil)) (wVar 4)))) (wTup (aCons (wTup (aCons (wVar 2) (aCons (wVar 1) aNil))) (aCons (wTup (aCons (wC (.int 0)) (aCons (wC (.int 0)) aNil))) aNil))))) sFl sNil) rest De (rB t b) μ = rest De (rB t b) μ := by
  have O := two t0 t1 b0 b1 b2
  have G := gars2 t1
  have B3 : BookOk (h2 t) ([eRugC] ++ List.replicate b eBoth) := book_all G (by simp; omega) (app_ok (one_ok ok_rugC) (rep_ok ok_both b))
  exact st_no (t_known B3 O.qc (fS1' b _ _ rfl) u3 (add_run (tup1 con) u4 (lenL _ _ _ (by simp; omega))) (tup2 (tup2 u2 u1) (tup2 con con)) rfl)
theorem sB8 : sSeq (sIf (tBl (w2 neqD (kno (bk (w2 addD (wTup (aCons (wC dRugC) (aCons (wC dRen2) aNil))) (wVar 4)))) (wTup (aCons (wTup (aCons (wC (.int 0)) (aCons (wVar 1) aNil))) (aCons (wTup (aCons (wC (.int 0)) (aCons (wC (.int 0)) aNil))) (aCons (wTup (aCons (wC (.int 0)) (aCons (wVar 1) aNil))) aNil)))))) sFl sNil) rest De (rB t b) μ = rest De (rB t b) μ := by
  have O := two t0 t1 b0 b1 b2
  have G := gars2 t1
  have B3 : BookOk (h2 t) ([eRugC, .renew 1] ++ List.replicate b eBoth) := book_all G (by simp; omega) (app_ok (two_ok ok_rugC ok_ren2) (rep_ok ok_both b))
  exact st_no (t_known B3 O.qd (fS2' b _ _ _ _ rfl rfl) u3 (add_run (tup2 con con) u4 (lenL _ _ _ (by simp; omega))) (tup3 (tup2 con u1) (tup2 con con) (tup2 con u1)) rfl)
theorem sB9 : sRet (w2 eqqD (kno (bk (w2 addD (wVar 4) (wTup (aCons (wC dBothC) aNil))))) (wTup (aCons (wTup (aCons (wC (.int 0)) (aCons (wVar 2) aNil))) (aCons (wTup (aCons (wC (.int 0)) (aCons (wVar 2) aNil))) aNil)))) De (rB t b) μ = De.rt (.bl true) μ := by
  have O := two t0 t1 b0 b1 b2
  have G := gars2 t1
  have B5 : BookOk (h2 t) (List.replicate b eBoth ++ [eBothC]) := book_all G (by simp; omega) (app_ok (rep_ok ok_both b) (one_ok ok_bothC))
  exact st_ret (e_known B5 O.qe (fS1 b _ _ rfl) u3 (add_run u4 (tup1 con) (lenR _ _ _ (by simp; omega))) (tup2 (tup2 con u2) (tup2 con u2)) rfl)
end
theorem st_par {c : MO} (hc : IsCup c) {rest : WS} {De : DEnds} {a b cc : Option D} (h : ∀ c' f g, IsCup c' → 0 ≤ f → f < 11 → 0 ≤ g → g < 5 → rest De [some (.mref 0), some (.int (2 + f)), some (.int (1 + g)), b, cc] [c']) :
    sSeq (sPar2 1 2 (aCons (w2 addD (wC (.int 2)) (wGc (wCallN c__law_sip 2 [] (aCons (wVar 0) (aCons (wC (.int 11)) aNil))))) (aCons (w2 addD (wC (.int 1)) (wGc (wCallN c__law_sip 2 [] (aCons (wVar 0) (aCons (wC (.int 5)) aNil))))) aNil))) rest De [some (.mref 0), a, none, b, cc] [c] := by
  have l : ∀ c i, look [c] (.int i) = .int i := fun _ _ => rfl
  have ad : ∀ i j, addD (.int i) (.int j) = some (.int (i + j)) := fun _ _ => rfl
  simp only [sSeq, sPar2, aCons, aNil, w2, wC]
  refine sip_run hc rfl (by decide) (by decide) rfl (fun Q E => rfl) fun c1 f hc1 f0 f1 => ?_
  simp only [l, ad]
  refine sip_run hc1 rfl (by decide) (by decide) rfl (fun Q E => rfl) fun c2 g hc2 g0 g1 => ?_
  simp only [l, ad]
  exact h c2 f g hc2 f0 f1 g0 g1
theorem m_two {c : MO} (hc : IsCup c) {Q : QD} {E : QX} (h : ∀ c', IsCup c' → Q (.bl true) [c']) : c__law_two_right [.mref 0] [c] Q E := by
  rw [u__law_two_right rfl]
  unfold w__law_two_right
  refine st_par hc fun c2 f g hc2 f0 f1 g0 g1 => ?_
  obtain ⟨t, ht⟩ : ∃ t : Nat, 2 + f = (t : Int) := ⟨(2 + f).toNat, by omega⟩
  rw [ht]
  have t0 : 2 ≤ t := by omega
  have t1 : t ≤ 12 := by omega
  obtain ⟨b, hb, b0, b1, b2⟩ : ∃ b : Nat, minD (.int (1 + g)) (.int ((t : Int) - 1)) = some (.int (b : Nat)) ∧ 1 ≤ b ∧ b ≤ 5 ∧ b + 1 ≤ t := by
    by_cases q : ((t : Int) - 1 < 1 + g)
    · exact ⟨t - 1, by simp only [minD, decide_eq_true q]; congr 2; omega, by omega, by omega, by omega⟩
    · exact ⟨(1 + g).toNat, by simp only [minD, decide_eq_false q]; congr 2; omega, by omega, by omega, by omega⟩
  refine Eq.mpr (st_asg (d := .int (b : Nat)) (fun Q E => ?_) rfl) ?_
  · have l : ∀ μ i, look μ (.int i) = .int i := fun _ _ => rfl
    have e : ∀ (ρ : Slots) μ Q E, ρ = [some (.mref 0), some (.int (t : Nat)), some (.int (1 + g)), none, none] → wBu (b2' minD) (aCons (wVar 2) (aCons (w2 subD (wVar 1) (wC (.int 1))) aNil)) ρ μ Q E = Q (.int (b : Nat)) μ := fun ρ μ Q E e => by
      subst e
      simp only [wp0, wp1, lk_mref, lineBs, Nat.beq_refl, List.append_nil, List.length_cons, List.length_nil, Nat.zero_add, Nat.reduceAdd, List.getElem?_cons_zero, List.getElem?_cons_succ, List.set_cons_zero, List.set_cons_succ, Bool.not_true, Bool.not_false, hb]
    exact e _ _ Q E rfl
  refine Eq.mpr (st_asg (d := .tup ((h2 t).map eG)) (fun Q E => rfl) rfl) ?_
  refine Eq.mpr (st_asg (d := .tup (List.replicate b dBoth)) (fun Q E => mul_run (fun Q E => rfl) (fun Q E => rfl) (by omega) Q E) rfl) ?_
  show sSeq _ _ _ (rB t b) _
  rw [sB5 t0 t1 b0 b1 b2, sB6 t0 t1 b0 b1 b2, sB7 t0 t1 b0 b1 b2, sB8 t0 t1 b0 b1 b2, sB9 t0 t1 b0 b1 b2]
  exact h c2 hc2
end K47

namespace K47
open PySem PySem.Spec PyProof.Rows L2 Pk Bk K58
/-! ### a bare book -/
theorem t_call {cc : Con} {ρ : Slots} {μ : Sto} {Q : Bool → Sto → Prop} {E : QX} (hv : ∀ Q E, wVar 0 ρ μ Q E = Q (.mref 0) μ) (h : cc [.mref 0] μ (fun d μ1 => match truD (look μ1 d) with
    | some b => Q (!b) μ1
    | none => False) E) : tNo (tTru (wCallN cc 1 [] (aCons (wVar 0) aNil))) ρ μ Q E := by
  have hb : Nat.beq (([D.mref 0] : List D) ++ []).length 1 = true := rfl
  simp only [tNo, tTru, wCallN, aCons, aNil, hv, hb]
  exact h
theorem st_bothG {ca cb : Con} (ha : ∀ (c : MO) (Q : QD) (E : QX), IsCup c → (∀ c', IsCup c' → Q (.bl true) [c']) → ca [.mref 0] [c] Q E) (hb : ∀ (c : MO) (Q : QD) (E : QX), IsCup c → (∀ c', IsCup c' → Q (.bl true) [c']) → cb [.mref 0] [c] Q E) {c : MO} (hc : IsCup c) {rest : WS} {De : DEnds} {a b d e f g h : Option D} (hh : ∀ c', IsCup c' → rest De [some (.mref 0), a, b, d, e, f, g, h] [c']) :
    sSeq (sIf (tOr' (tNo (tTru (wCallN ca 1 [] (aCons (wVar 0) aNil)))) (tNo (tTru (wCallN cb 1 [] (aCons (wVar 0) aNil))))) sFl sNil) rest De [some (.mref 0), a, b, d, e, f, g, h] [c] := by
  have l : ∀ μ b, look μ (.bl b) = .bl b := fun _ _ => rfl
  have tr : ∀ b, truD (.bl b) = some b := fun _ => rfl
  simp only [sSeq, sIf, tOr']
  refine t_call (fun Q E => rfl) (ha c _ _ hc fun c1 hc1 => ?_)
  simp only [l, tr, Bool.not_true]
  refine t_call (fun Q E => rfl) (hb c1 _ _ hc1 fun c2 hc2 => ?_)
  simp only [l, tr, Bool.not_true]
  exact hh c2 hc2
theorem st_both {c : MO} (hc : IsCup c) {rest : WS} {De : DEnds} {a b d e f g h : Option D} (hh : ∀ c', IsCup c' → rest De [some (.mref 0), a, b, d, e, f, g, h] [c']) :
    sSeq (sIf (tOr' (tNo (tTru (wCallN c__law_alone_right 1 [] (aCons (wVar 0) aNil)))) (tNo (tTru (wCallN c__law_two_right 1 [] (aCons (wVar 0) aNil))))) sFl sNil) rest De [some (.mref 0), a, b, d, e, f, g, h] [c] :=
  st_bothG (fun c Q E hc h => m_alone hc h) (fun c Q E hc h => m_two hc h) hc hh
abbrev abc : Tx := [97, 98, 99, 100, 101, 102, 103, 104]
theorem abc_ix {k : Nat} (h : k < 8) : ixD (.str abc) (.int (k : Nat)) = some (.str [97 + k]) := by
  have : k = 0 ∨ k = 1 ∨ k = 2 ∨ k = 3 ∨ k = 4 ∨ k = 5 ∨ k = 6 ∨ k = 7 := by omega
  rcases this with e | e | e | e | e | e | e | e <;> subst e <;> rfl
theorem add1 (x y : Nat) : addD (.str [x]) (.str [y]) = some (.str [x, y]) := by
  simp only [addD, lineB_ok (show [x].length + [y].length ≤ 16777216 by simp)]
  rfl
def nm (k : Nat) : Tx := [103, 97 + k]
theorem nm_ok {k : Nat} (h : k < 8) : NameOk (nm k) := ⟨by simp [nm], by simp [nm], fun c hc => by
  simp only [nm, List.mem_cons, List.not_mem_nil, or_false] at hc
  omega⟩
theorem dy_ok {k : Nat} (h : k < 8) : NameOk [100, 97 + k] := ⟨by simp, by simp, fun c hc => by
  simp only [List.mem_cons, List.not_mem_nil, or_false] at hc
  omega⟩
theorem nm_inj {i j : Nat} (h : nm i = nm j) : i = j := by
  unfold nm at h
  injection h with _ h
  injection h with h _
  omega
/-- the garments of the bare book -/
structure Bare (G : List Gar) (n : Nat) : Prop where
  ns : G.map (·.n) = (List.range n).map nm
  ok : ∀ g ∈ G, NameOk g.d ∧ g.t ≤ 12
theorem Bare.gars {G : List Gar} {n : Nat} (h : Bare G n) (h0 : 1 ≤ n) (h8 : n ≤ 8) : GarsOk G := by
  have hl : G.length = n := by
    have := congrArg List.length h.ns
    simpa using this
  refine ⟨by omega, by omega, fun g hg => ⟨?_, (h.ok g hg).1, (h.ok g hg).2⟩, ?_⟩
  · have : g.n ∈ (List.range n).map nm := h.ns ▸ List.mem_map.mpr ⟨g, hg, rfl⟩
    obtain ⟨k, hk, e⟩ := List.mem_map.mp this
    rw [← e]
    exact nm_ok (by have := List.mem_range.mp hk; omega)
  · rw [h.ns]
    exact List.Pairwise.map nm (fun i j h e => h (nm_inj e)) List.nodup_range
theorem st_cl {c : MO} (hc : IsCup c) {n : Nat} (h0 : 1 ≤ n) (h8 : n ≤ 8) {rest : WS} {De : DEnds} {b d e f g h : Option D} (hh : ∀ c' G, IsCup c' → Bare G n → rest De [some (.mref 0), some (.int (n : Nat)), some (.tup (G.map eG)), d, e, f, g, h] [c']) :
    sSeq (sAsg (wBu (b1 tupD) (aCons (wLc false (iRg1 (wVar 1)) (gN 5) tAll (wTup (aCons (w2 addD (wC (.str [103])) (w2 ixD (wC (.str abc)) (wVar 5))) (aCons (w2 addD (wC (.str [100])) (w2 ixD (wC (.str abc)) (wGc (wCallN c__law_sip 2 [] (aCons (wVar 0) (aCons (wC (.int 3)) aNil)))))) (aCons (wGc (wCallN c__law_sip 2 [] (aCons (wVar 0) (aCons (wC (.int 13)) aNil)))) aNil)))) [5]) aNil)) (gN 2)) rest De [some (.mref 0), some (.int (n : Nat)), b, d, e, f, g, h] [c] := by
  have r0 : rgOk ((n : Nat) : Int) = true := rgOk_of (by omega) (by omega)
  have tn : ((n : Nat) : Int).toNat = n := by omega
  have b6 : Nat.blt ((List.range n).map fun i => D.int (0 + (i : Nat))).length 16777216 = true := blt_ok (by rw [List.length_map, List.length_range]; omega)
  simp only [wp0, wp1, lk_mref, lineBs, Nat.beq_refl, List.append_nil, List.length_cons, List.length_nil, Nat.zero_add, Nat.reduceAdd, List.getElem?_cons_zero, List.getElem?_cons_succ, List.set_cons_zero, List.set_cons_succ, Bool.not_true, Bool.not_false, r0, tn, rng_map, b6]
  refine lc_imp (fun (rest : List Nat) ds μ => ∃ (c : MO) (G : List Gar), IsCup c ∧ μ = [c] ∧ ds = G.map eG ∧ G.map (·.n) ++ rest.map nm = (List.range n).map nm ∧ ∀ g ∈ G, NameOk g.d ∧ g.t ≤ 12) ?_ (List.range n) [] [c] _ ⟨c, [], hc, rfl, rfl, rfl, by simp⟩ ?_
  · rintro k r ds μ ⟨c, G, hc, e1, e2, e3, e4⟩
    subst e1 e2
    have hk : k < n := by
      have : nm k ∈ (List.range n).map nm := by rw [← e3]; simp
      obtain ⟨j, hj, e⟩ := List.mem_map.mp this
      rw [← nm_inj e]
      exact List.mem_range.mp hj
    have z1 : (0 : Int) + ((k : Nat) : Int) = (k : Nat) := by omega
    have i1 := abc_ix (k := k) (by omega)
    refine ⟨_, rfl, fun Q E hQ => ?_⟩
    refine hQ true _ (fun _ Q' E' hQ' => ?_) (fun z => by cases z)
    simp only [wp0, wp1, lk_mref, lineBs, Nat.beq_refl, List.append_nil, List.length_cons, List.length_nil, Nat.zero_add, Nat.reduceAdd, List.getElem?_cons_zero, List.getElem?_cons_succ, List.set_cons_zero, List.set_cons_succ, Bool.not_true, Bool.not_false, z1, i1, add1]
    refine sip_run hc rfl (by decide) (by decide) rfl (fun Q E => rfl) fun c4 f4 hc4 f40 f41 => ?_
    obtain ⟨j, hj⟩ : ∃ j : Nat, f4 = (j : Int) := ⟨f4.toNat, by omega⟩
    subst hj
    have i2 := abc_ix (k := j) (by omega)
    simp only [wp0, wp1, lk_mref, lineBs, Nat.beq_refl, List.append_nil, List.length_cons, List.length_nil, Nat.zero_add, Nat.reduceAdd, List.getElem?_cons_zero, List.getElem?_cons_succ, List.set_cons_zero, List.set_cons_succ, Bool.not_true, Bool.not_false, i2, add1]
    refine sip_run hc4 rfl (by decide) (by decide) rfl (fun Q E => rfl) fun c5 f5 hc5 f50 f51 => ?_
    obtain ⟨t, ht'⟩ : ∃ t : Nat, f5 = (t : Int) := ⟨f5.toNat, by omega⟩
    subst ht'
    refine hQ' _ _ ⟨c5, G ++ [⟨nm k, [100, 97 + j], t⟩], hc5, rfl, by simp only [List.map_append, List.map_cons, List.map_nil]; rfl, by simp only [List.map_append, List.map_cons, List.map_nil, List.append_assoc]; exact e3, fun g hg => ?_⟩
    rcases List.mem_append.mp hg with q | q
    · exact e4 g q
    · rw [List.mem_singleton.mp q]
      exact ⟨dy_ok (by omega), by show t ≤ 12; omega⟩
  · rintro ys μ ⟨c, G, hc, e1, e2, e3, e4⟩
    subst e1
    rw [List.map_nil, List.append_nil] at e3
    rw [List.nil_append] at e2
    subst e2
    exact hh c G hc ⟨e3, e4⟩
def mkA (fz cn : Nat) (c : Con) (n : Nat) (ds : List D) (μ1 : Sto) (Q : QD) : Prop := match noMs ds with
  | true => mkD cn c n [] ds [] (fun d μ3 => match deepD fz μ3 d with
    | (d', _) => match noM d' with
      | true => Q d' μ1
      | false => False) nox
  | false => False
theorem mkA_key {fz cn n : Nat} {c : Con} {wa : WA} {ρ : Slots} {μ : Sto} {Q : QD} {E : QX} : wMkF fz cn c n [] wa ρ μ Q E = wa ρ μ (fun ds μ1 => mkA fz cn c n ds μ1 Q) E := rfl
theorem mkA_book {G : List Gar} {E0 : List LE} (h : BookOk G E0) (μ1 : Sto) (Q : QD) : mkA 9 0 c_Book_init 3 [.tup (G.map eG), .tup ((E0.map (lineOf G)).map .str)] μ1 Q = Q (bookD G E0) μ1 := by
  have bm := book_make h.g h.e h.l (wa := fun _ _ Q _ => Q [.tup (G.map eG), .tup ((E0.map (lineOf G)).map .str)] []) (ρ := []) (μ := μ1) (Q := Q) (E := nox) (fun Q E => rfl)
  have nn : noMs [D.tup (G.map eG), .tup ((E0.map (lineOf G)).map .str)] = true := by
    simp only [noMs, noM, noMs_G, noMs_S]
  simp only [wLoc, wFz, wMake] at bm
  unfold mkA
  simp only [nn]
  exact bm
theorem bare_lines {G : List Gar} {n m : Nat} (hG : Bare G n) (h0 : 1 ≤ n) : ((List.replicate m (.renew 0)).map (lineOf G)).map D.str = List.replicate m (.str [114, 101, 110, 101, 119, 32, 103, 97]) := by
  have e : gN G 0 = [103, 97] := by
    cases G with
    | nil =>
      have := congrArg List.length hG.ns
      simp at this
      omega
    | cons g r =>
      have e2 := hG.ns
      obtain ⟨k, rfl⟩ : ∃ k, n = k + 1 := ⟨n - 1, by omega⟩
      rw [List.range_succ_eq_map, List.map_cons, List.map_cons] at e2
      exact (List.cons.inj e2).1
  rw [List.map_replicate, List.map_replicate]
  have : lineOf G (.renew 0) = [114, 101, 110, 101, 119, 32, 103, 97] := by
    show TL.joinL [32] [tRenew, Bk.gN G 0] = _
    rw [e]
    all_goals rfl
  rw [this]
theorem noMs_repS (x : Tx) (n : Nat) : noMs (List.replicate n (D.str x)) = true := noMs_rep x n
theorem st_bare {c : MO} (hc : IsCup c) {n : Nat} {G : List Gar} (hG : Bare G n) (h0 : 1 ≤ n) (h8 : n ≤ 8) {rest : WS} {De : DEnds} {a d e f g h : Option D} (hh : ∀ c' m, IsCup c' → m ≤ 8 → rest De [some (.mref 0), a, some (.tup (G.map eG)), some (bookD G (List.replicate m (.renew 0))), e, f, g, h] [c']) :
    sSeq (sAsg (wMkF 9 0 c_Book_init 3 [] (aCons (wVar 2) (aCons (w2 mulT (wTup (aCons (wC (.str [114, 101, 110, 101, 119, 32, 103, 97])) aNil)) (wGc (wCallN c__law_sip 2 [] (aCons (wVar 0) (aCons (wC (.int 9)) aNil))))) aNil))) (gN 3)) rest De [some (.mref 0), a, some (.tup (G.map eG)), d, e, f, g, h] [c] := by
  have g0 := hG.gars h0 h8
  have v2 : ∀ μ Q E, wVar 2 [some (.mref 0), a, some (.tup (G.map eG)), d, e, f, g, h] μ Q E = Q (.tup (G.map eG)) μ := fun _ _ _ => rfl
  have l1 : ∀ μ (zs : List D), look μ (.tup zs) = .tup zs := fun _ _ => rfl
  have l2 : ∀ μ (i : Int), look μ (.int i) = .int i := fun _ _ => rfl
  have tu : ∀ (ρ : Slots) μ Q E, wTup (aCons (wC (.str [114, 101, 110, 101, 119, 32, 103, 97])) aNil) ρ μ Q E = Q (.tup [.str [114, 101, 110, 101, 119, 32, 103, 97]]) μ := fun _ _ Q E => tup1 con Q E
  have ap : ∀ (ρ : Slots) μ (w w' : WE) (Q : List D → Sto → Prop) E, aCons w (aCons w' aNil) ρ μ Q E = w ρ μ (fun x μ1 => w' ρ μ1 (fun y μ2 => Q [x, y] μ2) E) E := fun _ _ _ _ _ _ => rfl
  have w2e : ∀ (ρ : Slots) μ (w w' : WE) Q E, w2 mulT w w' ρ μ Q E = w ρ μ (fun x μ1 => w' ρ μ1 (fun y μ2 => match mulT (look μ2 x) (look μ2 y) with
    | some d => Q d μ2
    | none => False) E) E := fun _ _ _ _ _ _ => rfl
  simp only [sSeq, sAsg]
  rw [mkA_key, ap, v2, w2e, tu]
  refine sip_run hc rfl (by decide) (by decide) rfl (fun Q E => rfl) fun c1 f1 hc1 f10 f11 => ?_
  obtain ⟨m, hm⟩ : ∃ m : Nat, f1 = (m : Int) := ⟨f1.toNat, by omega⟩
  subst hm
  have B : BookOk G (List.replicate m (.renew 0)) := book_all g0 (by simp; omega) (rep_ok (show LEok G (.renew 0) from g0.lo) m)
  rw [l1, l2, mulT_one (by omega)]
  show mkA 9 0 c_Book_init 3 [.tup (G.map eG), .tup (List.replicate m (.str [114, 101, 110, 101, 119, 32, 103, 97]))] [c1] _
  rw [← bare_lines hG h0, mkA_book B]
  exact hh c1 m hc1 (by omega)
theorem m_len {G : List Gar} {E0 : List LE} (hl : E0.length ≤ 30) : Ret c_Book___len__ [bookD G E0] (.int (E0.length : Nat)) := by
  refine r_Book___len__ (by simp only [noMs, noM_book]) rfl fun Q E => ⟨[], ?_⟩
  have e : lenD (.tup ((E0.map (lineOf G)).map D.str)) = some (.int (E0.length : Nat)) := by
    show some (D.int (((E0.map (lineOf G)).map D.str).length : Nat)) = _
    rw [List.length_map, List.length_map]
  unfold w_Book___len__ bookD
  simp only [wp0, wp1, lk_mref, lineBs, Nat.beq_refl, List.append_nil, List.length_cons, List.length_nil, Nat.zero_add, Nat.reduceAdd, List.getElem?_cons_zero, List.getElem?_cons_succ, List.set_cons_zero, List.set_cons_succ, Bool.not_true, Bool.not_false, e]
/-- the pair of a life that is open -/
def opn (t : Nat) : D := .tup [.int 0, .int (t : Nat)]
theorem bLen_run {G : List Gar} {E0 : List LE} (hl : E0.length ≤ 30) (μ : Sto) (Q : QD) : bLen 0 c_Book___len__ [bookD G E0] μ Q = Q (.int (E0.length : Nat)) μ := by
  have e := m_len (G := G) hl
  have n1 : natD (.int (E0.length : Nat)) = some E0.length := by
    show (match Nat.ble E0.length 1000000 with
      | true => some E0.length
      | false => none) = _
    rw [Nat.ble_eq_true_of_le (by omega)]
  have b0 : Nat.beq 0 0 = true := rfl
  unfold bLen
  simp only [lkb, b0]
  rw [e]
  simp only [n1]
theorem st_due {g : Gar} {G : List Gar} {m : Nat} (hm : m ≤ 8) (hg : G.length ≤ 8) {rest : WS} {De : DEnds} {μ : Sto} {a d e f h : Option D} :
    sSeq (sAsg (w2 addD (w2 mulD (wLst (aCons (wTup (aCons (wC (.int 0)) (aCons (w2 ixD (w2 ixD (wVar 2) (wC (.int 0))) (wC (.int 2))) aNil))) aNil)) (w2 addD (wBu (bLen 0 c_Book___len__) (aCons (wVar 3) aNil)) (wC (.int 1)))) (wLc false (iSeq (wFz 1 (wSl (wVar 2) (oYes (wC (.int 1))) oNo))) (gN 6) tAll (wTup (aCons (wC (.int 0)) (aCons (w2 ixD (wVar 6) (wC (.int 2))) aNil))) [6])) (gN 4)) rest De
      [some (.mref 0), a, some (.tup ((g :: G).map eG)), some (bookD (g :: G) (List.replicate m (.renew 0))), e, f, none, h] μ
    = rest De [some (.mref 0), a, some (.tup ((g :: G).map eG)), some (bookD (g :: G) (List.replicate m (.renew 0))), some (.lst ((List.replicate (m + 1) g.t ++ G.map (·.t)).map opn)), f, none, h] μ := by
  have bl : ∀ μ Q, bLen 0 c_Book___len__ [bookD (g :: G) (List.replicate m (.renew 0))] μ Q = Q (.int (m : Nat)) μ := fun μ Q => by
    have := bLen_run (G := g :: G) (E0 := List.replicate m (.renew 0)) (by simp; omega) μ Q
    rw [List.length_replicate] at this
    exact this
  have i0 : ixD (.tup ((g :: G).map eG)) (.int 0) = some (eG g) := rfl
  have k0 : ∀ μ, look μ (eG g) = eG g := fun _ => rfl
  have i2 : ∀ g : Gar, ixD (eG g) (.int 2) = some (.int (g.t : Nat)) := fun g => rfl
  have k2 : ∀ μ (g : Gar), look μ (eG g) = eG g := fun _ _ => rfl
  have sl : slD (.tup ((g :: G).map eG)) (some 1) none = some (.tup (G.map eG)) := by
    have h1 : HT.sIx ((g :: G).map eG).length 0 (some 1) = 1 := by
      rw [List.length_map, List.length_cons]
      unfold HT.sIx
      simp
    have h2 : HT.sIx ((g :: G).map eG).length ((g :: G).map eG).length none = G.length + 1 := by
      rw [List.length_map, List.length_cons]
      rfl
    show some (D.tup (cutG _ _ _)) = _
    unfold cutG
    rw [h1, h2, List.map_cons, List.drop_succ_cons, List.drop_zero, List.take_of_length_le (by rw [List.length_map]; omega)]
  have mu : mulD (.lst [opn g.t]) (.int ((m : Nat) + 1)) = some (.lst (List.replicate (m + 1) (opn g.t))) := by
    have s1 : smallI (((m : Nat) + 1 : Int) * 4) = true := smallI_of (by omega) (by omega)
    have s2 : (((m : Nat) : Int) + 1).toNat = m + 1 := by omega
    have s3 : lineB ([opn g.t].length * (m + 1)) = true := lineB_ok (by simp; omega)
    simp only [mulD, s1, s2, s3, Bool.and_self, rep_one]
  have ad : addD (.lst (List.replicate (m + 1) (opn g.t))) (.lst (G.map fun g => opn g.t)) = some (.lst ((List.replicate (m + 1) g.t ++ G.map (·.t)).map opn)) := by
    simp only [addD, lineB_ok (show (List.replicate (m + 1) (opn g.t)).length + (G.map fun g => opn g.t).length ≤ 16777216 by rw [List.length_replicate, List.length_map]; omega)]
    rw [List.map_append, List.map_replicate, List.map_map]
    rfl
  have b1 : Nat.blt (G.map eG).length 16777216 = true := blt_ok (by rw [List.length_map]; omega)
  have o0 : (D.tup [.int 0, .int (g.t : Nat)]) = opn g.t := rfl
  simp only [wp0, wp1, lk_mref, lineBs, Nat.beq_refl, List.append_nil, List.length_cons, List.length_nil, Nat.zero_add, Nat.reduceAdd, List.getElem?_cons_zero, List.getElem?_cons_succ, List.set_cons_zero, List.set_cons_succ, Bool.not_true, Bool.not_false, i0, k0, i2, bl, o0, mu, sl, b1]
  rw [lc_all (fun g : Gar => opn g.t) G _ fun g' hg' => ⟨_, rfl, fun Q E => by
    simp only [wp0, wp1, lk_mref, lineBs, Nat.beq_refl, List.append_nil, List.length_cons, List.length_nil, Nat.zero_add, Nat.reduceAdd, List.getElem?_cons_zero, List.getElem?_cons_succ, List.set_cons_zero, List.set_cons_succ, Bool.not_true, Bool.not_false, k2, i2]
    rfl⟩]
  simp only [wp0, wp1, lk_mref, lineBs, Nat.beq_refl, List.append_nil, List.length_cons, List.length_nil, Nat.zero_add, Nat.reduceAdd, List.getElem?_cons_zero, List.getElem?_cons_succ, List.set_cons_zero, List.set_cons_succ, Bool.not_true, Bool.not_false, ad]
theorem known_op {g : Gar} {G : List Gar} {m : Nat} : ((knownL (g :: G) (List.replicate m (.renew 0))).map eKn) = (List.replicate (m + 1) g.t ++ G.map (·.t)).map opn := by
  rw [known_bare, List.map_map]
  rfl
theorem eqq_opn (ts : List Nat) : eqqD (.tup (ts.map opn)) (.tup (ts.map opn)) = some (.bl true) := eqq_self (pures_map fun a ha => rfl)
theorem st_last {g : Gar} {G : List Gar} {m : Nat} (B : BookOk (g :: G) (List.replicate m (.renew 0))) {De : DEnds} {μ : Sto} {a e f h d7 : Option D} (hf : f = none) (h7 : d7 = none) :
    sRet (wAnd (w2 eqqD (wCallN c_known 1 [] (aCons (wVar 3) aNil)) (wBu (b1 tupD) (aCons (wVar 4) aNil))) (w2 eqqD (wCallN c_tops 1 [] (aCons (wVar 3) aNil)) (wBu (b1 tupD) (aCons (wLc false (iSeq (wFz 1 (wVar 4))) (gN 7) tAll (w2 ixD (wVar 7) (wC (.int 1))) [7]) aNil)))) De
      [some (.mref 0), a, some (.tup ((g :: G).map eG)), some (bookD (g :: G) (List.replicate m (.renew 0))), some (.lst ((List.replicate (m + 1) g.t ++ G.map (·.t)).map opn)), f, e, d7] μ = De.rt (.bl true) μ := by
  subst hf h7
  have few : (List.replicate (m + 1) g.t ++ G.map (·.t)).length ≤ 1000 := by
    have h1 := B.l
    have h2 := B.g.hi
    rw [List.length_replicate] at h1
    rw [List.length_cons] at h2
    rw [List.length_append, List.length_replicate, List.length_map]
    omega
  have k0 : ∀ μ Q E, c_known [bookD (g :: G) (List.replicate m (.renew 0))] μ Q E = Q (.tup ((List.replicate (m + 1) g.t ++ G.map (·.t)).map opn)) μ := fun μ Q E => by
    have := m_known B poss_bare μ Q E
    rw [known_op] at this
    exact this
  have t0 : ∀ μ Q E, c_tops [bookD (g :: G) (List.replicate m (.renew 0))] μ Q E = Q (.tup ((List.replicate (m + 1) g.t ++ G.map (·.t)).map eN)) μ := fun μ Q E => by
    have := m_tops B μ Q E
    rw [tops_bare, List.map_map] at this
    exact this
  generalize List.replicate (m + 1) g.t ++ G.map (·.t) = ts at few k0 t0 ⊢
  have b1 : Nat.blt (ts.map opn).length 16777216 = true := blt_ok (by rw [List.length_map]; omega)
  have e1 := eqq_opn ts
  have e2 : eqqD (.tup (ts.map eN)) (.tup (ts.map eN)) = some (.bl true) := eqq_self (pures_map fun a ha => rfl)
  have i1 : ∀ t, ixD (opn t) (.int 1) = some (eN t) := fun _ => rfl
  have l1 : ∀ μ t, look μ (opn t) = opn t := fun _ _ => rfl
  simp only [wp0, wp1, lk_mref, lineBs, Nat.beq_refl, List.append_nil, List.length_cons, List.length_nil, Nat.zero_add, Nat.reduceAdd, List.getElem?_cons_zero, List.getElem?_cons_succ, List.set_cons_zero, List.set_cons_succ, Bool.not_true, Bool.not_false, k0, t0, e1, b1]
  rw [lc_all (fun t : Nat => eN t) ts _ fun t ht => ⟨_, rfl, fun Q E => by
    simp only [wp0, wp1, lk_mref, lineBs, Nat.beq_refl, List.append_nil, List.length_cons, List.length_nil, Nat.zero_add, Nat.reduceAdd, List.getElem?_cons_zero, List.getElem?_cons_succ, List.set_cons_zero, List.set_cons_succ, Bool.not_true, Bool.not_false, i1, l1]⟩]
  simp only [wp0, wp1, lk_mref, lineBs, Nat.beq_refl, List.append_nil, List.length_cons, List.length_nil, Nat.zero_add, Nat.reduceAdd, List.getElem?_cons_zero, List.getElem?_cons_succ, List.set_cons_zero, List.set_cons_succ, Bool.not_true, Bool.not_false, e2]
theorem m_right {c : MO} (hc : IsCup c) {Q : QD} {E : QX} (h : ∀ μ, Q (.bl true) μ) : c__law_right [.mref 0] [c] Q E := by
  rw [u__law_right rfl]
  unfold w__law_right
  refine st_both hc fun c2 hc2 => ?_
  refine st_draw1 hc2 rfl (by decide) (by decide) (fun Q E => rfl) fun c3 f3 hc3 p0 p1 => ⟨_, rfl, ?_⟩
  obtain ⟨n, hn⟩ : ∃ n : Nat, 1 + f3 = (n : Int) := ⟨(1 + f3).toNat, by omega⟩
  rw [hn]
  have n0 : 1 ≤ n := by omega
  have n8 : n ≤ 8 := by omega
  refine st_cl hc3 n0 n8 fun c4 G hc4 hG => ?_
  have g0 := hG.gars n0 n8
  refine st_bare hc4 hG n0 n8 fun c5 m hc5 hm => ?_
  have B : BookOk G (List.replicate m (.renew 0)) := book_all g0 (by simp; omega) (rep_ok (show LEok G (.renew 0) from g0.lo) m)
  cases G with
  | nil => exact absurd g0.lo (by simp)
  | cons g G =>
    have ghi := g0.hi
    rw [List.length_cons] at ghi
    refine Eq.mpr (st_due (d := none) hm (by omega)) ?_
    refine Eq.mpr (st_last (h := none) B rfl rfl) ?_
    exact h _
end K47

namespace K47
open PySem PySem.Spec PyProof.Rows L2 Pk Bk K58
theorem m_turns {ns : List Int} (hl : ns.length ≤ 63) {e : Option D} {Q : List D → Sto → Prop} (h : ∀ m, Q (List.replicate m (.bl true)) []) : ∀ (xs : List Nat), lcW (Pk.gN 1) tAll (wLoc (wCallN c__law_right 1 [] (aCons (wCallN c__law_cup 2 [] (aCons (wVar 0) (aCons (wVar 1) aNil))) aNil))) (xs.map eN) [some (.scr ns), e] [] Q := by
  intro xs
  refine lc_imp (fun (r : List Nat) ds μ => μ = [] ∧ ∃ m, ds = List.replicate m (D.bl true)) ?_ xs [] [] Q ⟨rfl, 0, rfl⟩ ?_
  · rintro a r ds μ ⟨e1, m, e2⟩
    subst e1 e2
    refine ⟨_, rfl, fun Q E hQ => ?_⟩
    refine hQ true _ (fun _ Q' E' hQ' => ?_) (fun z => by cases z)
    simp only [wp0, wp1, lk_mref, lineBs, Nat.beq_refl, List.append_nil, List.length_cons, List.length_nil, Nat.zero_add, Nat.reduceAdd, List.getElem?_cons_zero, List.getElem?_cons_succ, List.set_cons_zero, List.set_cons_succ, Bool.not_true, Bool.not_false, wLoc]
    refine K58.m_cup hl fun c hc => ?_
    refine m_right hc fun μ => ?_
    exact hQ' _ _ ⟨rfl, m + 1, by rw [List.replicate_succ']⟩
  · rintro ys μ ⟨e1, m, e2⟩
    subst e1
    rw [List.nil_append] at e2
    subst e2
    exact h m
theorem law_data (ns : List Int) (hl : ns.length ≤ 63) : c_law [.scr ns] [] (fun d _ => d = .bl true) nox := by
  unfold c_law loc conB w_law
  have b : Nat.beq [D.scr ns].length 1 = true := rfl
  have st : startD 2 [.scr ns] = [some (.scr ns), none] := rfl
  have all0 : ∀ m, ∃ bs, blsD (List.replicate m (.bl true)) = some bs ∧ Pk.allB bs = true := fun m => by
    induction m with
    | zero => exact ⟨[], rfl, rfl⟩
    | succ m ih =>
      obtain ⟨bs, i1, i2⟩ := ih
      exact ⟨true :: bs, by simp only [List.replicate_succ, blsD, i1], by simp only [Pk.allB, i2]⟩
  have all1 : ∀ m, allD (.lst (List.replicate m (.bl true))) = some (.bl true) := fun m => by
    obtain ⟨bs, i1, i2⟩ := all0 m
    simp only [allD, i1, i2]
  obtain ⟨x, j, h1, h2, j0, j1⟩ : ∃ (x : Int) (j : Nat), minD (.int (ns.length : Nat)) (.int 5) = some (.int x) ∧ maxD (.int 2) (.int x) = some (.int (j : Nat)) ∧ 2 ≤ j ∧ j ≤ 5 := by
    by_cases q : (5 : Int) < (ns.length : Nat)
    · exact ⟨5, 5, by simp only [minD, decide_eq_true q], rfl, by omega, by omega⟩
    · by_cases q2 : ((ns.length : Nat) : Int) > 2
      · exact ⟨(ns.length : Nat), ns.length, by simp only [minD, decide_eq_false q], by simp only [maxD, decide_eq_true q2], by omega, by omega⟩
      · exact ⟨(ns.length : Nat), 2, by simp only [minD, decide_eq_false q], by simp only [maxD, decide_eq_false q2]; rfl, by omega, by omega⟩
  have r0 : rgOk (j : Int) = true := rgOk_of (by omega) (by omega)
  have r1 : rngD 0 j = (List.range j).map eN := by
    rw [rng_map]
    exact List.map_congr_left fun i _ => by simp only [Int.zero_add, eN]
  have b6 : Nat.blt ((List.range j).map eN).length 16777216 = true := blt_ok (by rw [List.length_map, List.length_range]; omega)
  have tn : (j : Int).toNat = j := by omega
  simp only [b, st]
  simp only [wp0, wp1, lk_mref, lineBs, Nat.beq_refl, List.append_nil, List.length_cons, List.length_nil, Nat.zero_add, Nat.reduceAdd, List.getElem?_cons_zero, List.getElem?_cons_succ, List.set_cons_zero, List.set_cons_succ, Bool.not_true, Bool.not_false, lks, lnS, h1, h2, r0, tn, r1, b6]
  refine m_turns hl (fun m => ?_) (List.range j)
  rw [all1]
  rfl
end K47

namespace K47
open PySem PySem.Spec PyProof.Rows L2 Pk K58
def fs0_0 : List (PySem.W.Frag → Bool) := [fa (.glo "law"),
  fa (.free "len"),
  fa (.free "min"),
  fa (.free "max"),
  fa (.free "range"),
  fa (.glo "_law_cup"),
  fa (.glo "_law_right"),
  fa (.free "all"),
  fa (.glo "_law_alone_right"),
  fa (.glo "_law_two_right"),
  fa (.glo "_law_sip"),
  fa (.free "tuple"),
  fa (.mkr "Book"),
  fa (.glo "Book"),
  fa (.meth "Book" "__len__"),
  fa (.glo "known"),
  fa (.glo "tops"),
  fa (.glo "possible"),
  fa (.free "divmod"),
  fa (.free "int"),
  fa (.glo "check_book"),
  fa (.glo "check_possible"),
  fa (.glo "known_of"),
  fIsi "Book",
  fa (.cls "Book"),
  fa (.free "isinstance"),
  fa (.glo "is_possible"),
  fa (.glo "tops_of"),
  fa (.glo "fits_tops"),
  fProp "Book" "looks"]
def fs0_1 : List (PySem.W.Frag → Bool) := [fa (.free "enumerate"),
  fProp "Book" "spans",
  fa (.free "any"),
  fa (.noat "Book" "walk"),
  fa (.cls "Walk"),
  fa (.noat "Walk" "look_rows"),
  fa (.noat "Walk" "span_rows"),
  fProp "Book" "lives",
  fa (.glo "top_of"),
  fa (.noat "Walk" "life_rows"),
  fa (.glo "garment_of"),
  fProp "Book" "garments",
  fa (.glo "names_in"),
  fa (.noat "Book" "clothes"),
  fa (.glo "least_by"),
  fa (.free "dict"),
  fa (.glo "check_garments"),
  fa (.glo "check_lines"),
  fa (.noat "Book" "told"),
  fa (.noat "Book" "parsed"),
  fa (.glo "entry_in"),
  fa (.mkr "Walk"),
  fa (.glo "Walk"),
  fa (.int "MOST_GARMENTS" (8)),
  fa (.glo "is_garment"),
  fa (.glo "is_name"),
  fa (.int "MOST_WASHES" (12)),
  fa (.glo "is_between"),
  fa (.free "str"),
  fa (.str "LETTERS" "abcdefghijklmnopqrstuvwxyz")]
def fs0_2 : List (PySem.W.Frag → Bool) := [fa (.glo "is_integer"),
  fa (.free "bool"),
  fa (.int "MOST_LINES" (30)),
  fa (.str "WASH" "wash"),
  fa (.glo "wash_in"),
  fa (.str "RENEW" "renew"),
  fa (.str "SKIPPED" "?"),
  fa (.glo "parted_at"),
  fa (.str "SEEN" "+"),
  fa (.glo "dyes_in"),
  fa (.glo "are_different"),
  fa (.free "list"),
  fa (.noat "Walk" "owners"),
  fa (.noat "Walk" "tally_row"),
  fa (.noat "Walk" "load_rows"),
  fa (.meth "Walk" "go"),
  fa (.meth "Walk" "wash"),
  fa (.free "sorted"),
  fa (.free "abs"),
  fEm ("fits_tops", none) 0,
  fEm ("least_by", none) 0,
  fEm ("tops_of", none) 0]
def fs0 : List (PySem.W.Frag → Bool) := fs0_0 ++ (fs0_1 ++ (fs0_2))
def fn0_0 : List DefP := [⟨pG "_law_sip", "_law_sip", "_law_sip", defArgs s__law_sip, defBody s__law_sip, defScope s__law_sip, []⟩,
  ⟨pG "check_book", "check_book", "check_book", defArgs s_check_book, defBody s_check_book, defScope s_check_book, []⟩,
  ⟨pP "Book" "looks", "looks", "Book.looks", defArgs s_Book_looks, defBody s_Book_looks, defScope s_Book_looks, []⟩,
  ⟨pP "Book" "spans", "spans", "Book.spans", defArgs s_Book_spans, defBody s_Book_spans, defScope s_Book_spans, []⟩,
  ⟨pG "fits_tops", "fits_tops", "fits_tops", defArgs s_fits_tops, defBody s_fits_tops, defScope s_fits_tops, [He.Dv.adr (He.dflAt ("fits_tops", none) 0)]⟩,
  ⟨pP "Book" "lives", "lives", "Book.lives", defArgs s_Book_lives, defBody s_Book_lives, defScope s_Book_lives, []⟩,
  ⟨pP "Book" "garments", "garments", "Book.garments", defArgs s_Book_garments, defBody s_Book_garments, defScope s_Book_garments, []⟩,
  ⟨pG "names_in", "names_in", "names_in", defArgs s_names_in, defBody s_names_in, defScope s_names_in, []⟩,
  ⟨pG "garment_of", "garment_of", "garment_of", defArgs s_garment_of, defBody s_garment_of, defScope s_garment_of, []⟩,
  ⟨pG "top_of", "top_of", "top_of", defArgs s_top_of, defBody s_top_of, defScope s_top_of, []⟩,
  ⟨pG "tops_of", "tops_of", "tops_of", defArgs s_tops_of, defBody s_tops_of, defScope s_tops_of, [He.Dv.adr (He.dflAt ("tops_of", none) 0)]⟩,
  ⟨pG "is_possible", "is_possible", "is_possible", defArgs s_is_possible, defBody s_is_possible, defScope s_is_possible, []⟩,
  ⟨pG "check_possible", "check_possible", "check_possible", defArgs s_check_possible, defBody s_check_possible, defScope s_check_possible, []⟩,
  ⟨pG "least_by", "least_by", "least_by", defArgs s_least_by, defBody s_least_by, defScope s_least_by, [He.Dv.adr (He.dflAt ("least_by", none) 0)]⟩,
  ⟨pG "known_of", "known_of", "known_of", defArgs s_known_of, defBody s_known_of, defScope s_known_of, []⟩,
  ⟨pG "known", "known", "known", defArgs s_known, defBody s_known, defScope s_known, []⟩,
  ⟨pG "is_name", "is_name", "is_name", defArgs s_is_name, defBody s_is_name, defScope s_is_name, []⟩,
  ⟨pG "is_integer", "is_integer", "is_integer", defArgs s_is_integer, defBody s_is_integer, defScope s_is_integer, []⟩,
  ⟨pG "is_between", "is_between", "is_between", defArgs s_is_between, defBody s_is_between, defScope s_is_between, []⟩,
  ⟨pG "is_garment", "is_garment", "is_garment", defArgs s_is_garment, defBody s_is_garment, defScope s_is_garment, []⟩,
  ⟨pG "check_garments", "check_garments", "check_garments", defArgs s_check_garments, defBody s_check_garments, defScope s_check_garments, []⟩,
  ⟨pG "parted_at", "parted_at", "parted_at", defArgs s_parted_at, defBody s_parted_at, defScope s_parted_at, []⟩,
  ⟨pG "dyes_in", "dyes_in", "dyes_in", defArgs s_dyes_in, defBody s_dyes_in, defScope s_dyes_in, []⟩,
  ⟨pG "are_different", "are_different", "are_different", defArgs s_are_different, defBody s_are_different, defScope s_are_different, []⟩,
  ⟨pG "wash_in", "wash_in", "wash_in", defArgs s_wash_in, defBody s_wash_in, defScope s_wash_in, []⟩,
  ⟨pG "entry_in", "entry_in", "entry_in", defArgs s_entry_in, defBody s_entry_in, defScope s_entry_in, []⟩,
  ⟨pG "check_lines", "check_lines", "check_lines", defArgs s_check_lines, defBody s_check_lines, defScope s_check_lines, []⟩,
  ⟨pM "Walk" "wash", "wash", "Walk.wash", defArgs s_Walk_wash, defBody s_Walk_wash, defScope s_Walk_wash, []⟩,
  ⟨pM "Walk" "go", "go", "Walk.go", defArgs s_Walk_go, defBody s_Walk_go, defScope s_Walk_go, []⟩,
  ⟨pM "Walk" "__init__", "__init__", "Walk.__init__", defArgs s_Walk_init, defBody s_Walk_init, defScope s_Walk_init, []⟩]
def fn0_1 : List DefP := [⟨pM "Book" "__init__", "__init__", "Book.__init__", defArgs s_Book_init, defBody s_Book_init, defScope s_Book_init, [He.Dv.adr (He.dflAt ("Book", some "__init__") 0)]⟩,
  ⟨pG "possible", "possible", "possible", defArgs s_possible, defBody s_possible, defScope s_possible, []⟩,
  ⟨pG "_law_alone_right", "_law_alone_right", "_law_alone_right", defArgs s__law_alone_right, defBody s__law_alone_right, defScope s__law_alone_right, []⟩,
  ⟨pG "_law_two_right", "_law_two_right", "_law_two_right", defArgs s__law_two_right, defBody s__law_two_right, defScope s__law_two_right, []⟩,
  ⟨pM "Book" "__len__", "__len__", "Book.__len__", defArgs s_Book___len__, defBody s_Book___len__, defScope s_Book___len__, []⟩,
  ⟨pG "tops", "tops", "tops", defArgs s_tops, defBody s_tops, defScope s_tops, []⟩,
  ⟨pG "_law_right", "_law_right", "_law_right", defArgs s__law_right, defBody s__law_right, defScope s__law_right, []⟩,
  ⟨pG "_law_cup", "_law_cup", "_law_cup", defArgs s__law_cup, defBody s__law_cup, defScope s__law_cup, []⟩,
  ⟨pG "law", "law", "law", defArgs s_law, defBody s_law, defScope s_law, []⟩]
def fn0 : List DefP := fn0_0 ++ (fn0_1)
theorem facts {K : PySem.W.Frag} {h : Heap} {mg : Str → Option Value} (X : K.In h) (Gm : h.Ns mainGlobals mg) (c0 : SaysP fs0 fn0 K) : Facts K mg := by
  have gl_law : mg "law" = some (.ref (He.ga K "law")) := He.glo_ok X Gm (c0.fact 0 (f := fa (.glo "law")) rfl)
  have fr_len : mg "len" = none := He.free_ok X Gm (c0.fact 1 (f := fa (.free "len")) rfl)
  have fr_min : mg "min" = none := He.free_ok X Gm (c0.fact 2 (f := fa (.free "min")) rfl)
  have fr_max : mg "max" = none := He.free_ok X Gm (c0.fact 3 (f := fa (.free "max")) rfl)
  have fr_range : mg "range" = none := He.free_ok X Gm (c0.fact 4 (f := fa (.free "range")) rfl)
  have gl__law_cup : mg "_law_cup" = some (.ref (He.ga K "_law_cup")) := He.glo_ok X Gm (c0.fact 5 (f := fa (.glo "_law_cup")) rfl)
  have gl__law_right : mg "_law_right" = some (.ref (He.ga K "_law_right")) := He.glo_ok X Gm (c0.fact 6 (f := fa (.glo "_law_right")) rfl)
  have fr_all : mg "all" = none := He.free_ok X Gm (c0.fact 7 (f := fa (.free "all")) rfl)
  have gl__law_alone_right : mg "_law_alone_right" = some (.ref (He.ga K "_law_alone_right")) := He.glo_ok X Gm (c0.fact 8 (f := fa (.glo "_law_alone_right")) rfl)
  have gl__law_two_right : mg "_law_two_right" = some (.ref (He.ga K "_law_two_right")) := He.glo_ok X Gm (c0.fact 9 (f := fa (.glo "_law_two_right")) rfl)
  have gl__law_sip : mg "_law_sip" = some (.ref (He.ga K "_law_sip")) := He.glo_ok X Gm (c0.fact 10 (f := fa (.glo "_law_sip")) rfl)
  have fr_tuple : mg "tuple" = none := He.free_ok X Gm (c0.fact 11 (f := fa (.free "tuple")) rfl)
  have mk_Book : Mk K (He.ga K "Book") (pM "Book" "__init__" K) := He.mkr_ok (c0.fact 12 (f := fa (.mkr "Book")) rfl)
  have gl_Book : mg "Book" = some (.ref (He.ga K "Book")) := He.glo_ok X Gm (c0.fact 13 (f := fa (.glo "Book")) rfl)
  have me_Book___len__ : Meth K (He.ga K "Book") "__len__" (pM "Book" "__len__" K) := He.meth_ok (c0.fact 14 (f := fa (.meth "Book" "__len__")) rfl)
  have gl_known : mg "known" = some (.ref (He.ga K "known")) := He.glo_ok X Gm (c0.fact 15 (f := fa (.glo "known")) rfl)
  have gl_tops : mg "tops" = some (.ref (He.ga K "tops")) := He.glo_ok X Gm (c0.fact 16 (f := fa (.glo "tops")) rfl)
  have gl_possible : mg "possible" = some (.ref (He.ga K "possible")) := He.glo_ok X Gm (c0.fact 17 (f := fa (.glo "possible")) rfl)
  have fr_divmod : mg "divmod" = none := He.free_ok X Gm (c0.fact 18 (f := fa (.free "divmod")) rfl)
  have fr_int : mg "int" = none := He.free_ok X Gm (c0.fact 19 (f := fa (.free "int")) rfl)
  have gl_check_book : mg "check_book" = some (.ref (He.ga K "check_book")) := He.glo_ok X Gm (c0.fact 20 (f := fa (.glo "check_book")) rfl)
  have gl_check_possible : mg "check_possible" = some (.ref (He.ga K "check_possible")) := He.glo_ok X Gm (c0.fact 21 (f := fa (.glo "check_possible")) rfl)
  have gl_known_of : mg "known_of" = some (.ref (He.ga K "known_of")) := He.glo_ok X Gm (c0.fact 22 (f := fa (.glo "known_of")) rfl)
  have is_Book : fIsi "Book" K = true := id (c0.fact 23 (f := fIsi "Book") rfl)
  have cl_Book : Cls K (He.ga K "Book") := He.cls_ok (c0.fact 24 (f := fa (.cls "Book")) rfl)
  have fr_isinstance : mg "isinstance" = none := He.free_ok X Gm (c0.fact 25 (f := fa (.free "isinstance")) rfl)
  have gl_is_possible : mg "is_possible" = some (.ref (He.ga K "is_possible")) := He.glo_ok X Gm (c0.fact 26 (f := fa (.glo "is_possible")) rfl)
  have gl_tops_of : mg "tops_of" = some (.ref (He.ga K "tops_of")) := He.glo_ok X Gm (c0.fact 27 (f := fa (.glo "tops_of")) rfl)
  have gl_fits_tops : mg "fits_tops" = some (.ref (He.ga K "fits_tops")) := He.glo_ok X Gm (c0.fact 28 (f := fa (.glo "fits_tops")) rfl)
  have pr_Book_looks : PropOf K (He.ga K "Book") "looks" (pM "Book" "looks" K) (pP "Book" "looks" K) := fProp_ok (c0.fact 29 (f := fProp "Book" "looks") rfl)
  have fr_enumerate : mg "enumerate" = none := He.free_ok X Gm (c0.fact 30 (f := fa (.free "enumerate")) rfl)
  have pr_Book_spans : PropOf K (He.ga K "Book") "spans" (pM "Book" "spans" K) (pP "Book" "spans" K) := fProp_ok (c0.fact 31 (f := fProp "Book" "spans") rfl)
  have fr_any : mg "any" = none := He.free_ok X Gm (c0.fact 32 (f := fa (.free "any")) rfl)
  have na_Book_walk : NoAttr K (He.ga K "Book") "walk" := He.noat_ok (c0.fact 33 (f := fa (.noat "Book" "walk")) rfl)
  have cl_Walk : Cls K (He.ga K "Walk") := He.cls_ok (c0.fact 34 (f := fa (.cls "Walk")) rfl)
  have na_Walk_look_rows : NoAttr K (He.ga K "Walk") "look_rows" := He.noat_ok (c0.fact 35 (f := fa (.noat "Walk" "look_rows")) rfl)
  have na_Walk_span_rows : NoAttr K (He.ga K "Walk") "span_rows" := He.noat_ok (c0.fact 36 (f := fa (.noat "Walk" "span_rows")) rfl)
  have pr_Book_lives : PropOf K (He.ga K "Book") "lives" (pM "Book" "lives" K) (pP "Book" "lives" K) := fProp_ok (c0.fact 37 (f := fProp "Book" "lives") rfl)
  have gl_top_of : mg "top_of" = some (.ref (He.ga K "top_of")) := He.glo_ok X Gm (c0.fact 38 (f := fa (.glo "top_of")) rfl)
  have na_Walk_life_rows : NoAttr K (He.ga K "Walk") "life_rows" := He.noat_ok (c0.fact 39 (f := fa (.noat "Walk" "life_rows")) rfl)
  have gl_garment_of : mg "garment_of" = some (.ref (He.ga K "garment_of")) := He.glo_ok X Gm (c0.fact 40 (f := fa (.glo "garment_of")) rfl)
  have pr_Book_garments : PropOf K (He.ga K "Book") "garments" (pM "Book" "garments" K) (pP "Book" "garments" K) := fProp_ok (c0.fact 41 (f := fProp "Book" "garments") rfl)
  have gl_names_in : mg "names_in" = some (.ref (He.ga K "names_in")) := He.glo_ok X Gm (c0.fact 42 (f := fa (.glo "names_in")) rfl)
  have na_Book_clothes : NoAttr K (He.ga K "Book") "clothes" := He.noat_ok (c0.fact 43 (f := fa (.noat "Book" "clothes")) rfl)
  have gl_least_by : mg "least_by" = some (.ref (He.ga K "least_by")) := He.glo_ok X Gm (c0.fact 44 (f := fa (.glo "least_by")) rfl)
  have fr_dict : mg "dict" = none := He.free_ok X Gm (c0.fact 45 (f := fa (.free "dict")) rfl)
  have gl_check_garments : mg "check_garments" = some (.ref (He.ga K "check_garments")) := He.glo_ok X Gm (c0.fact 46 (f := fa (.glo "check_garments")) rfl)
  have gl_check_lines : mg "check_lines" = some (.ref (He.ga K "check_lines")) := He.glo_ok X Gm (c0.fact 47 (f := fa (.glo "check_lines")) rfl)
  have na_Book_told : NoAttr K (He.ga K "Book") "told" := He.noat_ok (c0.fact 48 (f := fa (.noat "Book" "told")) rfl)
  have na_Book_parsed : NoAttr K (He.ga K "Book") "parsed" := He.noat_ok (c0.fact 49 (f := fa (.noat "Book" "parsed")) rfl)
  have gl_entry_in : mg "entry_in" = some (.ref (He.ga K "entry_in")) := He.glo_ok X Gm (c0.fact 50 (f := fa (.glo "entry_in")) rfl)
  have mk_Walk : Mk K (He.ga K "Walk") (pM "Walk" "__init__" K) := He.mkr_ok (c0.fact 51 (f := fa (.mkr "Walk")) rfl)
  have gl_Walk : mg "Walk" = some (.ref (He.ga K "Walk")) := He.glo_ok X Gm (c0.fact 52 (f := fa (.glo "Walk")) rfl)
  have gi_MOST_GARMENTS : ∃ t, mg "MOST_GARMENTS" = some (.int (8) t) := He.int_ok X Gm (c0.fact 53 (f := fa (.int "MOST_GARMENTS" (8))) rfl)
  have gl_is_garment : mg "is_garment" = some (.ref (He.ga K "is_garment")) := He.glo_ok X Gm (c0.fact 54 (f := fa (.glo "is_garment")) rfl)
  have gl_is_name : mg "is_name" = some (.ref (He.ga K "is_name")) := He.glo_ok X Gm (c0.fact 55 (f := fa (.glo "is_name")) rfl)
  have gi_MOST_WASHES : ∃ t, mg "MOST_WASHES" = some (.int (12) t) := He.int_ok X Gm (c0.fact 56 (f := fa (.int "MOST_WASHES" (12))) rfl)
  have gl_is_between : mg "is_between" = some (.ref (He.ga K "is_between")) := He.glo_ok X Gm (c0.fact 57 (f := fa (.glo "is_between")) rfl)
  have fr_str : mg "str" = none := He.free_ok X Gm (c0.fact 58 (f := fa (.free "str")) rfl)
  have gs_LETTERS : ∃ t, mg "LETTERS" = some (.str "abcdefghijklmnopqrstuvwxyz" t) := He.str_ok X Gm (c0.fact 59 (f := fa (.str "LETTERS" "abcdefghijklmnopqrstuvwxyz")) rfl)
  have gl_is_integer : mg "is_integer" = some (.ref (He.ga K "is_integer")) := He.glo_ok X Gm (c0.fact 60 (f := fa (.glo "is_integer")) rfl)
  have fr_bool : mg "bool" = none := He.free_ok X Gm (c0.fact 61 (f := fa (.free "bool")) rfl)
  have gi_MOST_LINES : ∃ t, mg "MOST_LINES" = some (.int (30) t) := He.int_ok X Gm (c0.fact 62 (f := fa (.int "MOST_LINES" (30))) rfl)
  have gs_WASH : ∃ t, mg "WASH" = some (.str "wash" t) := He.str_ok X Gm (c0.fact 63 (f := fa (.str "WASH" "wash")) rfl)
  have gl_wash_in : mg "wash_in" = some (.ref (He.ga K "wash_in")) := He.glo_ok X Gm (c0.fact 64 (f := fa (.glo "wash_in")) rfl)
  have gs_RENEW : ∃ t, mg "RENEW" = some (.str "renew" t) := He.str_ok X Gm (c0.fact 65 (f := fa (.str "RENEW" "renew")) rfl)
  have gs_SKIPPED : ∃ t, mg "SKIPPED" = some (.str "?" t) := He.str_ok X Gm (c0.fact 66 (f := fa (.str "SKIPPED" "?")) rfl)
  have gl_parted_at : mg "parted_at" = some (.ref (He.ga K "parted_at")) := He.glo_ok X Gm (c0.fact 67 (f := fa (.glo "parted_at")) rfl)
  have gs_SEEN : ∃ t, mg "SEEN" = some (.str "+" t) := He.str_ok X Gm (c0.fact 68 (f := fa (.str "SEEN" "+")) rfl)
  have gl_dyes_in : mg "dyes_in" = some (.ref (He.ga K "dyes_in")) := He.glo_ok X Gm (c0.fact 69 (f := fa (.glo "dyes_in")) rfl)
  have gl_are_different : mg "are_different" = some (.ref (He.ga K "are_different")) := He.glo_ok X Gm (c0.fact 70 (f := fa (.glo "are_different")) rfl)
  have fr_list : mg "list" = none := He.free_ok X Gm (c0.fact 71 (f := fa (.free "list")) rfl)
  have na_Walk_owners : NoAttr K (He.ga K "Walk") "owners" := He.noat_ok (c0.fact 72 (f := fa (.noat "Walk" "owners")) rfl)
  have na_Walk_tally_row : NoAttr K (He.ga K "Walk") "tally_row" := He.noat_ok (c0.fact 73 (f := fa (.noat "Walk" "tally_row")) rfl)
  have na_Walk_load_rows : NoAttr K (He.ga K "Walk") "load_rows" := He.noat_ok (c0.fact 74 (f := fa (.noat "Walk" "load_rows")) rfl)
  have me_Walk_go : Meth K (He.ga K "Walk") "go" (pM "Walk" "go" K) := He.meth_ok (c0.fact 75 (f := fa (.meth "Walk" "go")) rfl)
  have me_Walk_wash : Meth K (He.ga K "Walk") "wash" (pM "Walk" "wash" K) := He.meth_ok (c0.fact 76 (f := fa (.meth "Walk" "wash")) rfl)
  have fr_sorted : mg "sorted" = none := He.free_ok X Gm (c0.fact 77 (f := fa (.free "sorted")) rfl)
  have fr_abs : mg "abs" = none := He.free_ok X Gm (c0.fact 78 (f := fa (.free "abs")) rfl)
  have em_fits_tops : emB K (He.dflAt ("fits_tops", none) 0 K) = true := id (c0.fact 79 (f := fEm ("fits_tops", none) 0) rfl)
  have em_least_by : emB K (He.dflAt ("least_by", none) 0 K) = true := id (c0.fact 80 (f := fEm ("least_by", none) 0) rfl)
  have em_tops_of : emB K (He.dflAt ("tops_of", none) 0 K) = true := id (c0.fact 81 (f := fEm ("tops_of", none) 0) rfl)
  have fl_Book_walk : FldF K (tab K) 0 "walk" 3 := ⟨cl_Book, na_Book_walk, rfl, of_decide_eq_true rfl⟩
  have fl_Walk_look_rows : FldF K (tab K) 1 "look_rows" 4 := ⟨cl_Walk, na_Walk_look_rows, rfl, of_decide_eq_true rfl⟩
  have fl_Walk_span_rows : FldF K (tab K) 1 "span_rows" 5 := ⟨cl_Walk, na_Walk_span_rows, rfl, of_decide_eq_true rfl⟩
  have fl_Walk_life_rows : FldF K (tab K) 1 "life_rows" 1 := ⟨cl_Walk, na_Walk_life_rows, rfl, of_decide_eq_true rfl⟩
  have fl_Book_clothes : FldF K (tab K) 0 "clothes" 0 := ⟨cl_Book, na_Book_clothes, rfl, of_decide_eq_true rfl⟩
  have fl_Book_told : FldF K (tab K) 0 "told" 1 := ⟨cl_Book, na_Book_told, rfl, of_decide_eq_true rfl⟩
  have fl_Book_parsed : FldF K (tab K) 0 "parsed" 2 := ⟨cl_Book, na_Book_parsed, rfl, of_decide_eq_true rfl⟩
  have fl_Walk_owners : FldF K (tab K) 1 "owners" 0 := ⟨cl_Walk, na_Walk_owners, rfl, of_decide_eq_true rfl⟩
  have fl_Walk_tally_row : FldF K (tab K) 1 "tally_row" 2 := ⟨cl_Walk, na_Walk_tally_row, rfl, of_decide_eq_true rfl⟩
  have fl_Walk_load_rows : FldF K (tab K) 1 "load_rows" 3 := ⟨cl_Walk, na_Walk_load_rows, rfl, of_decide_eq_true rfl⟩
  have mf_Walk_go : MethF K (tab K) 1 "go" (pM "Walk" "go" K) := ⟨cl_Walk, me_Walk_go, rfl⟩
  have mf_Walk_wash : MethF K (tab K) 1 "wash" (pM "Walk" "wash" K) := ⟨cl_Walk, me_Walk_wash, rfl⟩
  constructor <;> assumption
def nms_0 : List PySem.Str := ["_wall",
  "NotRight",
  "InvalidText",
  "InvalidPlace",
  "NotABook",
  "InvalidGarments",
  "InvalidLines",
  "CannotBe",
  "Impossible",
  "LETTERS",
  "is_integer",
  "is_between",
  "is_name",
  "MOST_GARMENTS",
  "MOST_WASHES",
  "MOST_LINES",
  "WASH",
  "RENEW",
  "GARMENT",
  "SEEN",
  "SKIPPED",
  "DIGITS",
  "is_garment",
  "check_garments",
  "names_in",
  "dyes_in",
  "parted_at",
  "are_different",
  "wash_in",
  "entry_in"]
def nms_1 : List PySem.Str := ["check_lines",
  "garment_in",
  "rows_parted",
  "Walk",
  "Book",
  "check_book",
  "garment_of",
  "top_of",
  "tops_of",
  "fits_tops",
  "least_by",
  "is_possible",
  "check_possible",
  "known_of",
  "tops",
  "possible",
  "known",
  "_law_cup",
  "_law_sip",
  "_law_alone_right",
  "_law_two_right",
  "_law_right"]
def nms : List PySem.Str := nms_0 ++ (nms_1)
abbrev R : PySem.W.OpenRow := PySem.W.OpenLaw.row PySem.Challenge.rw_pinkwash_k47_known_books
theorem run0 (w : World) : RunP R (PySem.W.view R.prog [57]) 1200 (fs0, fn0) 30000 nms w := by
  intro os
  kernel_rfl
def pts : List PartP := [(fs0, fn0)]
theorem run (w : World) : HandSHeadRun.RunEq R (PySem.W.view R.prog [57]) (hookL 1200 pts) (obL 1200 pts) 30000 nms w := runL_one (run0 w)
theorem lawOk {P : Program} {w0 : World} {K : PySem.W.Frag} {mg : Str → Option Value} {base : Heap} (G : Facts K mg) (c0 : SaysP fs0 fn0 K) {fd : FuncData} (F : FunD K "law" "law" (defArgs s_law) (defBody s_law) (defScope s_law) [] [] ((pG "law") K) fd) : FnC P w0 K mg base (tab K) 11 ((pG "law") K) fd ["_law_cells"] c_law := by
  have o__law_sip : OkF P w0 K mg base (tab K) 1 ((pG "_law_sip") K) ["_law_cup_here", "_law_top"] c__law_sip := ok__law_sip G (c0.def_ 0 rfl) 
  have o_check_book : OkF P w0 K mg base (tab K) 1 ((pG "check_book") K) ["value"] c_check_book := ok_check_book G (c0.def_ 1 rfl) 
  have o_Book_looks : OkF P w0 K mg base (tab K) 1 ((pP "Book" "looks") K) ["self"] c_Book_looks := ok_Book_looks G (c0.def_ 2 rfl) 
  have o_Book_spans : OkF P w0 K mg base (tab K) 1 ((pP "Book" "spans") K) ["self"] c_Book_spans := ok_Book_spans G (c0.def_ 3 rfl) 
  have o_fits_tops : OkF P w0 K mg base (tab K) 3 ((pG "fits_tops") K) ["book", "greatest", "skipped"] c_fits_tops := ok_fits_tops (hdv := rfl) G (c0.def_ 4 rfl) o_Book_looks o_Book_spans
  have od_fits_tops : OkFd P w0 K mg base (tab K) 3 ((pG "fits_tops") K) ["book", "greatest", "skipped"] [.tup []] c_fits_tops := okd_fits_tops G (c0.def_ 4 rfl) o_Book_looks o_Book_spans
  have o_Book_lives : OkF P w0 K mg base (tab K) 1 ((pP "Book" "lives") K) ["self"] c_Book_lives := ok_Book_lives G (c0.def_ 5 rfl) 
  have o_Book_garments : OkF P w0 K mg base (tab K) 1 ((pP "Book" "garments") K) ["self"] c_Book_garments := ok_Book_garments G (c0.def_ 6 rfl) 
  have o_names_in : OkF P w0 K mg base (tab K) 1 ((pG "names_in") K) ["garments"] c_names_in := ok_names_in G (c0.def_ 7 rfl) 
  have o_garment_of : OkF P w0 K mg base (tab K) 3 ((pG "garment_of") K) ["book", "life"] c_garment_of := ok_garment_of G (c0.def_ 8 rfl) o_Book_garments o_names_in o_Book_lives
  have o_top_of : OkF P w0 K mg base (tab K) 4 ((pG "top_of") K) ["book", "life"] c_top_of := ok_top_of G (c0.def_ 9 rfl) o_garment_of
  have o_tops_of : OkF P w0 K mg base (tab K) 5 ((pG "tops_of") K) ["book", "skipped"] c_tops_of := ok_tops_of (hdv := rfl) G (c0.def_ 10 rfl) o_Book_lives o_top_of o_Book_looks o_Book_spans
  have od_tops_of : OkFd P w0 K mg base (tab K) 5 ((pG "tops_of") K) ["book", "skipped"] [.tup []] c_tops_of := okd_tops_of G (c0.def_ 10 rfl) o_Book_lives o_top_of o_Book_looks o_Book_spans
  have o_is_possible : OkF P w0 K mg base (tab K) 6 ((pG "is_possible") K) ["book"] c_is_possible := ok_is_possible G (c0.def_ 11 rfl) od_fits_tops od_tops_of
  have o_check_possible : OkF P w0 K mg base (tab K) 7 ((pG "check_possible") K) ["book"] c_check_possible := ok_check_possible G (c0.def_ 12 rfl) o_is_possible
  have o_least_by : OkF P w0 K mg base (tab K) 3 ((pG "least_by") K) ["book", "greatest", "life", "skipped"] c_least_by := ok_least_by (hdv := rfl) G (c0.def_ 13 rfl) o_Book_looks o_Book_spans
  have od_least_by : OkFd P w0 K mg base (tab K) 3 ((pG "least_by") K) ["book", "greatest", "life", "skipped"] [.tup []] c_least_by := okd_least_by G (c0.def_ 13 rfl) o_Book_looks o_Book_spans
  have o_known_of : OkF P w0 K mg base (tab K) 6 ((pG "known_of") K) ["book"] c_known_of := ok_known_of G (c0.def_ 14 rfl) od_tops_of od_least_by
  have o_known : OkF P w0 K mg base (tab K) 8 ((pG "known") K) ["book"] c_known := ok_known G (c0.def_ 15 rfl) o_check_book o_check_possible o_known_of
  have o_is_name : OkF P w0 K mg base (tab K) 1 ((pG "is_name") K) ["value"] c_is_name := ok_is_name G (c0.def_ 16 rfl) 
  have o_is_integer : OkF P w0 K mg base (tab K) 1 ((pG "is_integer") K) ["value"] c_is_integer := ok_is_integer G (c0.def_ 17 rfl) 
  have o_is_between : OkF P w0 K mg base (tab K) 2 ((pG "is_between") K) ["value", "least", "most"] c_is_between := ok_is_between G (c0.def_ 18 rfl) o_is_integer
  have o_is_garment : OkF P w0 K mg base (tab K) 3 ((pG "is_garment") K) ["value"] c_is_garment := ok_is_garment G (c0.def_ 19 rfl) o_is_name o_is_between
  have o_check_garments : OkF P w0 K mg base (tab K) 4 ((pG "check_garments") K) ["garments"] c_check_garments := ok_check_garments G (c0.def_ 20 rfl) o_is_garment
  have o_parted_at : OkF P w0 K mg base (tab K) 1 ((pG "parted_at") K) ["words", "mark"] c_parted_at := ok_parted_at G (c0.def_ 21 rfl) 
  have o_dyes_in : OkF P w0 K mg base (tab K) 1 ((pG "dyes_in") K) ["garments"] c_dyes_in := ok_dyes_in G (c0.def_ 22 rfl) 
  have o_are_different : OkF P w0 K mg base (tab K) 1 ((pG "are_different") K) ["words"] c_are_different := ok_are_different G (c0.def_ 23 rfl) 
  have o_wash_in : OkF P w0 K mg base (tab K) 2 ((pG "wash_in") K) ["garments", "words"] c_wash_in := ok_wash_in G (c0.def_ 24 rfl) o_parted_at o_dyes_in o_are_different o_names_in
  have o_entry_in : OkF P w0 K mg base (tab K) 3 ((pG "entry_in") K) ["garments", "line"] c_entry_in := ok_entry_in G (c0.def_ 25 rfl) o_wash_in o_names_in
  have o_check_lines : OkF P w0 K mg base (tab K) 4 ((pG "check_lines") K) ["garments", "lines"] c_check_lines := ok_check_lines G (c0.def_ 26 rfl) o_entry_in
  have o_Walk_wash : OkF P w0 K mg base (tab K) 1 ((pM "Walk" "wash") K) ["self", "garments", "index", "lives", "looks"] c_Walk_wash := ok_Walk_wash G (c0.def_ 27 rfl) 
  have o_Walk_go : OkF P w0 K mg base (tab K) 2 ((pM "Walk" "go") K) ["self", "garments", "entries"] c_Walk_go := ok_Walk_go G (c0.def_ 28 rfl) o_names_in o_Walk_wash
  have o_Walk_init : OkF P w0 K mg base (tab K) 3 ((pM "Walk" "__init__") K) ["self", "garments", "entries"] c_Walk_init := ok_Walk_init G (c0.def_ 29 rfl) o_Walk_go
  have o_Book_init : OkF P w0 K mg base (tab K) 5 ((pM "Book" "__init__") K) ["self", "garments", "lines"] c_Book_init := ok_Book_init (hdv := rfl) G (c0.def_ 30 rfl) o_check_garments o_check_lines o_entry_in o_Walk_init
  have o_possible : OkF P w0 K mg base (tab K) 7 ((pG "possible") K) ["book"] c_possible := ok_possible G (c0.def_ 31 rfl) o_check_book o_is_possible
  have o__law_alone_right : OkF P w0 K mg base (tab K) 9 ((pG "_law_alone_right") K) ["_law_cup_here"] c__law_alone_right := ok__law_alone_right G (c0.def_ 32 rfl) o__law_sip o_known o_Book_init o_possible
  have o__law_two_right : OkF P w0 K mg base (tab K) 9 ((pG "_law_two_right") K) ["_law_cup_here"] c__law_two_right := ok__law_two_right G (c0.def_ 33 rfl) o__law_sip o_known o_Book_init
  have o_Book___len__ : OkF P w0 K mg base (tab K) 1 ((pM "Book" "__len__") K) ["self"] c_Book___len__ := ok_Book___len__ G (c0.def_ 34 rfl) 
  have o_tops : OkF P w0 K mg base (tab K) 6 ((pG "tops") K) ["book"] c_tops := ok_tops G (c0.def_ 35 rfl) o_check_book od_tops_of
  have o__law_right : OkF P w0 K mg base (tab K) 10 ((pG "_law_right") K) ["_law_cup_here"] c__law_right := ok__law_right G (c0.def_ 36 rfl) o__law_alone_right o__law_two_right o__law_sip o_Book_init o_Book___len__ o_known o_tops
  have o__law_cup : OkF P w0 K mg base (tab K) 1 ((pG "_law_cup") K) ["_law_cells", "_law_turn"] c__law_cup := ok__law_cup G (c0.def_ 37 rfl) 
  exact ok_law G F o__law_right o__law_cup
end K47
open PySem PySem.W PySem.Calls PyProof.Rows
theorem PySem.Challenge.cw_pinkwash_k47_known_books_holds : PySem.Challenge.rw_pinkwash_k47_known_books.Holds := by
  w_on; o_law
  refine HandSHeadRun.head_any (r := OpenLaw.row PySem.Challenge.rw_pinkwash_k47_known_books) (q := view (OpenLaw.row PySem.Challenge.rw_pinkwash_k47_known_books).prog [57]) (H := Pk.hookL 1200 K47.pts) (ob := Pk.obL 1200 K47.pts) (M := 30000) (loose := K47.nms) (d := HandSHeadRun.topDef (OpenLaw.row PySem.Challenge.rw_pinkwash_k47_known_books).prog 57) (kwd := []) (Pk.obL_eq 1200 K47.pts)
    (by kernel_rfl) (fun s => by kernel_rfl) K47.run (by kernel_rfl) (by kernel_rfl) (by kernel_rfl) (by rfl) (by first | assumption | decide +kernel) (by decide +kernel) ⟨rfl, rfl, rfl, rfl, rfl, by decide +kernel⟩ ?hw ?hc
  case hw => w_witness2
  case hc =>
    refine Pk.walk_ofG (l := PySem.Challenge.rw_pinkwash_k47_known_books) (n := 63) (k := 11) (nm := "_law_cells") (CX := Pk.CX00) rfl (by decide) (by kernel_rfl) ⟨⟨rfl, by decide, by decide⟩, rfl⟩ ?F (fun _ _ _ _ z => z)
    intro w mg fa h Y G hmg0
    obtain ⟨K, KX, c⟩ := Y
    have hmg : mg ("law" : PySem.Str) = some (.ref fa) := by
      have e : (HandSHeadRun.topDef (OpenLaw.row PySem.Challenge.rw_pinkwash_k47_known_books).prog 57).name = ("law" : PySem.Str) := by kernel_rfl
      rw [← e]
      exact hmg0
    have hp : ∀ p ∈ K47.pts, Pk.SaysP p.1 p.2 K := c
    unfold K47.pts at hp
    have c0 : Pk.SaysP K47.fs0 K47.fn0 K := hp (K47.fs0, K47.fn0) (by simp)
    have Fx := K47.facts KX G c0
    have e := hmg.symm.trans (He.glo_ok KX G (c0.fact 0 (f := Pk.fa (.glo "law")) rfl))
    cases e
    obtain ⟨fd, F⟩ := c0.def_ 38 rfl
    have b := L2.FunD.bindsA (ps := ["_law_cells"]) F fun _ _ _ _ _ _ us hl => match us, hl with | [_], _ => rfl
    exact ⟨K, fd, fun vs H Q _ => Pk.spD K (K47.tab K) K47.c_law 1 vs H Q Pk.E00, KX, fun s v => b s [v] rfl, fun H a ns hl _ hS => Pk.law_sp hS (K47.law_data ns hl) fun _ => rfl, fun base _ _ => Pk.calmOk (K47.lawOk Fx c0 F)⟩

