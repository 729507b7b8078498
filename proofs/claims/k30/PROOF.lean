import PyProof.Rows.All
import Wide.All
import OpenK.AllK
import Wide.FinOn
import HandS.ForMost
import HandS.ForExc
import HandS.Property
import HandS.ClsMeth
import HandS.Style
import HandS.TupAny
import HandS.TupMul
import HandS.Deep
import HandS.Zip
import HandS.Lambda
import HandS.Defaults
import HandS.IsInst
import HandS.Flow
import KE.GoesEnum
import HandS.SortInts
import HandS.Codes
import HandS.Small
import HandS.CallSlots
import HandS.CallLocal
import KE.KStateDown
import HandS.Head0
import HandS.Head1
import HandS.Head2
import HandS.HeadEnd
import HandS.HeadHook1
import HandS.HeadHook2
import HandS.Star
import KE.KDictPairs
import PySem.Challenge.RW_pinkwash_k30_known_loads
set_option Elab.async false
set_option linter.all false
set_option maxRecDepth 100000
set_option maxHeartbeats 0
/-! The data layer, part A: data, how they lie, states, the judgements. -/
namespace Pk
open PySem PySem.Spec PyProof.Rows L2

abbrev Tx := List Nat
inductive DK where
  | ki (i : Int) | ks (s : Tx)
  deriving DecidableEq
inductive Ty where
  | int | str | tup | lst | bool | dict
  deriving DecidableEq
def Ty.nm : Ty → String
  | .int => "int" | .str => "str" | .tup => "tuple" | .lst => "list" | .bool => "bool" | .dict => "dict"
/-- data: scr is the script; ins an instance that changes no more; mref a thing of the store -/
inductive D where
  | non | bl (b : Bool) | int (i : Int) | str (s : Tx)
  | tup (xs : List D) | lst (xs : List D) | dct (kvs : List (DK × D)) | scr (xs : List Int)
  | ins (c : Nat) (fs : List D) | mref (k : Nat) | cls (c : Nat) | ty (t : Ty)
  /-- a tuple that has no dict of its own -/
  | ptp (xs : List D)
  /-- a tuple that stands by itself; a dict whose keys are such tuples, and changes no more: its keys, its values -/
  | ttp (xs : List D)
  | dcp (ks : List (List DK)) (xs : List D)
/-- things that change -/
inductive MO where
  | lst (xs : List D) | dct (kvs : List (DK × D)) | ins (c : Nat) (fs : List D) | fz (d : D) | gone
def MO.isFz : MO → Bool
  | .fz _ => true
  | _ => false
abbrev Sto := List MO
abbrev Slots := List (Option D)
structure Exc where
  c : Nat
  fs : List D
def tx (s : Tx) : Str := ⟨s.toArray⟩
def DK.key : DK → Key
  | .ki i => .inl i
  | .ks s => .inr (tx s)
/-- the keys of the dict object o are tuples of F -/
def KeyAt (F : Hp) (o : Obj) (ks : List (List Key)) : Prop := ∃ es ep, o.data = .dict es ep ∧ ∀ (i : Nat) (k : List Key), ks[i]? = some k → ∃ (en : DictEntry) (q : Addr), es[i]? = some en ∧ en.key = .ref q ∧ F q = some (.tup (k.map kV))
theorem KeyAt.mono {F F' : Hp} {o : Obj} {ks : List (List Key)} (s : Same F F') (h : KeyAt F o ks) : KeyAt F' o ks := by
  obtain ⟨es, ep, e, q⟩ := h
  exact ⟨es, ep, e, fun i k hk => by
    obtain ⟨en, a, h1, h2, h3⟩ := q i k hk
    exact ⟨en, a, h1, h2, s _ _ h3⟩⟩
def keysK (ks : List (List DK)) : List (List Key) := ks.map fun k => k.map DK.key
/-- what the text's names stand for -/
structure Tab where
  ca : Nat → Addr
  fn : Nat → List Str

section
variable (K : PySem.W.Frag) (T : Tab)
mutual
inductive Rep (F : Hp) (m : List Addr) : D → V → Prop
  | non : Rep F m .non .non
  | bl {b} : Rep F m (.bl b) (.bl b)
  | int {i} : Rep F m (.int i) (.int i)
  | str {s} : Rep F m (.str s) (.str (tx s))
  | tup {ds vs a} : SqT K F a vs → Reps F m ds vs → Rep F m (.tup ds) (.ref a)
  | lst {ds vs a} : F a = some (.lst vs) → Reps F m ds vs → Rep F m (.lst ds) (.ref a)
  | dct {ds vs a o} : F a = some (.frz o (.dK vs)) → RepK F m ds vs → Rep F m (.dct ds) (.ref a)
  | scr {xs a} : SqL K F a (xs.map V.int) → Rep F m (.scr xs) (.ref a)
  | ins {c ds vs a dx} : F a = some (.ins (T.ca c) dx ((T.fn c).zip vs)) → F dx = some (.own a) → Reps F m ds vs → Rep F m (.ins c ds) (.ref a)
  | mref {k a} : m[k]? = some a → Rep F m (.mref k) (.ref a)
  | cls {c} : Rep F m (.cls c) (.ref (T.ca c))
  | ty {t} : Rep F m (.ty t) (.ty t.nm)
  | ptp {ds vs a o} : F a = some (.frz o (.tup vs)) → o.dict = none → Reps F m ds vs → Rep F m (.ptp ds) (.ref a)
  | ttp {ds vs a} : F a = some (.tup vs) → Reps F m ds vs → Rep F m (.ttp ds) (.ref a)
  | dcp {ks ds vs a o} : F a = some (.frz o (.dT ((keysK ks).zip vs))) → KeyAt F o (keysK ks) → ks.length = ds.length → Reps F m ds vs → Rep F m (.dcp ks ds) (.ref a)
inductive Reps (F : Hp) (m : List Addr) : List D → List V → Prop
  | nil : Reps F m [] []
  | cons {d v ds vs} : Rep F m d v → Reps F m ds vs → Reps F m (d :: ds) (v :: vs)
inductive RepK (F : Hp) (m : List Addr) : List (DK × D) → List (Key × V) → Prop
  | nil : RepK F m [] []
  | cons {k d v ds vs} : Rep F m d v → RepK F m ds vs → RepK F m ((k, d) :: ds) ((k.key, v) :: vs)
end
end

/-- what is frozen, where the store's things lie: both only grow -/
structure Gr (F : Hp) (m : List Addr) (F' : Hp) (m' : List Addr) : Prop where
  fr : Same F F'
  mem : ∃ r, m' = m ++ r
theorem Gr.refl (F : Hp) (m : List Addr) : Gr F m F m := ⟨Same.refl F, [], by simp⟩
theorem Gr.trans {F F1 F2 : Hp} {m m1 m2 : List Addr} (a : Gr F m F1 m1) (b : Gr F1 m1 F2 m2) : Gr F m F2 m2 := by
  obtain ⟨h1, r1, e1⟩ := a
  obtain ⟨h2, r2, e2⟩ := b
  exact ⟨h1.trans h2, r1 ++ r2, by rw [e2, e1, List.append_assoc]⟩
/-- nothing goes, an instance's dict stays its own -/
def Up (H H' : Hp) : Prop := ∀ b, (∀ a, H b = some (.own a) → H' b = some (.own a)) ∧ (H b ≠ none → H' b ≠ none)
theorem Up.refl (H : Hp) : Up H H := fun _ => ⟨fun _ h => h, fun h => h⟩
theorem Up.trans {H H1 H2 : Hp} (x : Up H H1) (y : Up H1 H2) : Up H H2 := fun b => ⟨fun a h => (y b).1 a ((x b).1 a h), fun h => (y b).2 ((x b).2 h)⟩
theorem Up.upd {H : Hp} {p : Addr} {o : HO} (h : ∀ a, H p ≠ some (.own a)) : Up H (L2.upd H p o) := fun b => ⟨fun a e => by
  rw [upd_ne fun q => ?_]
  · exact e
  · subst q
    exact h a e, fun e => by
  by_cases q : b = p
  · rw [q, upd_same]
    simp
  · rw [upd_ne q]
    exact e⟩
theorem Up.keep {H H' : Hp} (k : ∀ b u, H b = some u → H' b = some u) : Up H H' := fun b => ⟨fun a e => k b _ e, fun e => by
  cases q : H b with
  | none => exact absurd q e
  | some u => rw [k b u q]; simp⟩
/-- .. and what is neither stays as it is -/
structure Ext (F : Hp) (m : List Addr) (H F' : Hp) (m' : List Addr) (H' : Hp) : Prop where
  gr : Gr F m F' m'
  frm : ∀ b o, H b = some o → (∀ a, o ≠ .own a) → F b = none → b ∉ m → H' b = some o ∧ F' b = none ∧ b ∉ m'
  up : Up H H'
theorem Ext.refl (F : Hp) (m : List Addr) (H : Hp) : Ext F m H F m H := ⟨Gr.refl F m, fun _ _ e _ n h => ⟨e, n, h⟩, Up.refl H⟩
theorem Ext.trans {F F1 F2 H H1 H2 : Hp} {m m1 m2 : List Addr} (a : Ext F m H F1 m1 H1) (b : Ext F1 m1 H1 F2 m2 H2) : Ext F m H F2 m2 H2 :=
  ⟨a.gr.trans b.gr, fun c o e w n h => by
    obtain ⟨e1, n1, h1⟩ := a.frm c o e w n h
    exact b.frm c o e1 w n1 h1, a.up.trans b.up⟩
theorem Same.sqt {K : PySem.W.Frag} {H H' : Hp} {a : Addr} {xs : List V} (e : Same H H') (h : SqT K H a xs) : SqT K H' a xs := by
  rcases h with (h | ⟨o, h⟩) | h
  · exact .inl (.inl (e _ _ h))
  · exact .inl (.inr ⟨o, e _ _ h⟩)
  · exact .inr h
section
variable {K : PySem.W.Frag} {T : Tab} {F F' : Hp} {m m' : List Addr}
mutual
theorem Rep.mono (x : Gr F m F' m') : ∀ {d : D} {v : V}, Rep K T F m d v → Rep K T F' m' d v
  | _, _, .non => .non
  | _, _, .bl => .bl
  | _, _, .int => .int
  | _, _, .str => .str
  | _, _, .tup h r => .tup (Same.sqt x.fr h) (Reps.mono x r)
  | _, _, .lst h r => .lst (x.fr _ _ h) (Reps.mono x r)
  | _, _, .dct h r => .dct (x.fr _ _ h) (RepK.mono x r)
  | _, _, .scr h => .scr (x.fr.seq h)
  | _, _, .ins h h2 r => .ins (x.fr _ _ h) (x.fr _ _ h2) (Reps.mono x r)
  | _, _, .mref h => .mref (by
    obtain ⟨r, e⟩ := x.mem
    rw [e]
    exact List.getElem?_append_left (List.getElem?_eq_some_iff.mp h).1 ▸ h)
  | _, _, .cls => .cls
  | _, _, .ty => .ty
  | _, _, .ptp h e r => .ptp (x.fr _ _ h) e (Reps.mono x r)
  | _, _, .ttp h r => .ttp (x.fr _ _ h) (Reps.mono x r)
  | _, _, .dcp h q l r => .dcp (x.fr _ _ h) (q.mono x.fr) l (Reps.mono x r)
theorem Reps.mono (x : Gr F m F' m') : ∀ {ds : List D} {vs : List V}, Reps K T F m ds vs → Reps K T F' m' ds vs
  | _, _, .nil => .nil
  | _, _, .cons h r => .cons (Rep.mono x h) (Reps.mono x r)
theorem RepK.mono (x : Gr F m F' m') : ∀ {ds : List (DK × D)} {vs : List (Key × V)}, RepK K T F m ds vs → RepK K T F' m' ds vs
  | _, _, .nil => .nil
  | _, _, .cons h r => .cons (Rep.mono x h) (RepK.mono x r)
end
theorem Reps.length : ∀ {ds : List D} {vs : List V}, Reps K T F m ds vs → ds.length = vs.length
  | _, _, .nil => rfl
  | _, _, .cons _ r => congrArg (· + 1) (Reps.length r)
theorem RepK.length : ∀ {ds : List (DK × D)} {vs : List (Key × V)}, RepK K T F m ds vs → ds.length = vs.length
  | _, _, .nil => rfl
  | _, _, .cons _ r => congrArg (· + 1) (RepK.length r)
theorem Reps.append : ∀ {ds es : List D} {vs us : List V}, Reps K T F m ds vs → Reps K T F m es us → Reps K T F m (ds ++ es) (vs ++ us)
  | _, _, _, _, .nil, s => s
  | _, _, _, _, .cons h r, s => .cons h (Reps.append r s)
theorem Reps.get : ∀ {ds : List D} {vs : List V} {i : Nat} {d : D}, Reps K T F m ds vs → ds[i]? = some d → ∃ v, vs[i]? = some v ∧ Rep K T F m d v
  | _, _, _, _, .nil, e => by simp at e
  | _, _, 0, _, .cons h _, e => by
    simp at e
    subst e
    exact ⟨_, rfl, h⟩
  | _, _, i + 1, d, .cons _ r, e => by
    obtain ⟨v, h1, h2⟩ := Reps.get (i := i) (d := d) r (by simpa using e)
    exact ⟨v, by simpa using h1, h2⟩
theorem Reps.getV : ∀ {ds : List D} {vs : List V} {i : Nat} {v : V}, Reps K T F m ds vs → vs[i]? = some v → ∃ d, ds[i]? = some d ∧ Rep K T F m d v
  | _, _, _, _, .nil, e => by simp at e
  | _, _, 0, _, .cons h _, e => by
    simp at e
    subst e
    exact ⟨_, rfl, h⟩
  | _, _, i + 1, d, .cons _ r, e => by
    obtain ⟨v, h1, h2⟩ := Reps.getV (i := i) (v := d) r (by simpa using e)
    exact ⟨v, by simpa using h1, h2⟩
theorem Reps.set {d : D} {v : V} (h : Rep K T F m d v) : ∀ {ds : List D} {vs : List V} (i : Nat), Reps K T F m ds vs → Reps K T F m (ds.set i d) (vs.set i v)
  | _, _, _, .nil => .nil
  | _, _, 0, .cons _ r => .cons h r
  | _, _, i + 1, .cons q r => .cons q (Reps.set h i r)
theorem Reps.take : ∀ {ds : List D} {vs : List V} (n : Nat), Reps K T F m ds vs → Reps K T F m (ds.take n) (vs.take n)
  | _, _, 0, _ => .nil
  | _, _, _ + 1, .nil => .nil
  | _, _, n + 1, .cons h r => .cons h (Reps.take n r)
theorem Reps.drop : ∀ {ds : List D} {vs : List V} (n : Nat), Reps K T F m ds vs → Reps K T F m (ds.drop n) (vs.drop n)
  | _, _, 0, r => r
  | _, _, _ + 1, .nil => .nil
  | _, _, n + 1, .cons _ r => Reps.drop n r
end

section
variable (K : PySem.W.Frag) (T : Tab)
/-- a thing of the store as it lies -/
def MRep (F : Hp) (m : List Addr) (H : Hp) (a : Addr) : MO → Prop
  | .lst ds => ∃ vs, H a = some (.lst vs) ∧ Reps K T F m ds vs
  | .dct ds => ∃ vs, H a = some (.dK vs) ∧ RepK K T F m ds vs
  | .ins c ds => ∃ dx vs, H a = some (.ins (T.ca c) dx ((T.fn c).zip vs)) ∧ H dx = some (.own a) ∧ True ∧ ds.length ≤ (T.fn c).length ∧ Reps K T F m ds vs
  | .fz d => Rep K T F m d (.ref a)
  | .gone => True
structure Sim (F0 : Hp) (m0 : List Addr) (H0 : Hp) (F : Hp) (m : List Addr) (μ : Sto) (ρ : Slots) (σ : L2.St) (H : Hp) : Prop where
  ext : Ext F0 m0 H0 F m H
  same : Same F H
  len : m.length = μ.length
  nd : m.Nodup
  al : ∀ a, a ∈ m → H a ≠ none
  sto : ∀ (k : Nat) (a : Addr) (o : MO), m[k]? = some a → μ[k]? = some o → o ≠ .gone → (o.isFz = false → F a = none) ∧ MRep K T F m H a o
  sl : ρ.length = σ.length
  slot : ∀ (i : Nat) (d : D), ρ[i]? = some (some d) → ∃ v, σ[i]? = some (some v) ∧ Rep K T F m d v
/-- an exception's class and own dict -/
def XRep (F : Hp) (m : List Addr) (H : Hp) (x : Exc) (cls : Value) (d : Option Addr) : Prop :=
  cls = .ref (T.ca x.c) ∧ ((x.fs = [] ∧ T.fn x.c = []) ∨ ∃ dd vs, d = some dd ∧ H dd = some (.xd ((T.fn x.c).zip vs)) ∧ F dd = none ∧ Reps K T F m x.fs vs ∧ (T.fn x.c).length = vs.length)
end
end Pk

/-! The data layer, part B: what states keep, the judgements, names, constants, operators. -/
namespace Pk
open PySem PySem.Spec PyProof.Rows L2

structure Zx where
  T : Tab
  F0 : Hp
  m0 : List Addr
  H0 : Hp
abbrev SimZ (K : PySem.W.Frag) (z : Zx) := Sim K z.T z.F0 z.m0 z.H0
abbrev QD := D → Sto → Prop
abbrev QX := Exc → Sto → Prop
abbrev WE := Slots → Sto → QD → QX → Prop
abbrev WXd := Exc → Slots → Sto → Prop

section
variable {K : PySem.W.Frag} {T : Tab} {F0 F F' H0 : Hp} {m0 m m' : List Addr} {μ μ' : Sto} {ρ : Slots} {σ : L2.St} {H H' : Hp} {p a : Addr} {ds : List D} {vs : List V}
/-- every thing of the store lies in H -/
theorem MRep.at {o : MO} (h : MRep K T F m H a o) (n : o ≠ .gone) (nf : o.isFz = false) : ∃ u, H a = some u ∧ Mut (some u) := by
  cases o with
  | lst ds => obtain ⟨vs, e, _⟩ := h; exact ⟨_, e, trivial⟩
  | dct ds => obtain ⟨vs, e, _⟩ := h; exact ⟨_, e, trivial⟩
  | ins c ds => obtain ⟨dx, vs, e, _⟩ := h; exact ⟨_, e, trivial⟩
  | fz d => cases nf
  | gone => exact absurd rfl n
theorem MRep.mono {o : MO} (x : Gr F m F' m') (k : ∀ b u, H b = some u → H' b = some u) (kn : ∀ b, H b ≠ none → F b = none → F' b = none) (h : MRep K T F m H a o) : MRep K T F' m' H' a o := by
  cases o with
  | lst ds => obtain ⟨vs, e, r⟩ := h; exact ⟨vs, k _ _ e, r.mono x⟩
  | dct ds => obtain ⟨vs, e, r⟩ := h; exact ⟨vs, k _ _ e, r.mono x⟩
  | ins c ds => obtain ⟨dx, vs, e, e2, n, l, r⟩ := h; exact ⟨dx, vs, k _ _ e, k _ _ e2, trivial, l, r.mono x⟩
  | fz d => exact Rep.mono x h
  | gone => trivial
theorem upd_keep {o : HO} (hp : H p = none) : ∀ b u, H b = some u → upd H p o b = some u := fun b u e => by
  rw [upd_ne (ne_of_none e hp)]
  exact e
/-- frozen things grow, the heap grows, nothing else is touched -/
theorem Sim.grow (S : Sim K T F0 m0 H0 F m μ ρ σ H) (x : Same F F') (s : Same F' H') (k : ∀ b u, H b = some u → H' b = some u) (kn : ∀ b, H b ≠ none → F b = none → F' b = none) : Sim K T F0 m0 H0 F' m μ ρ σ H' where
  ext := S.ext.trans ⟨⟨x, [], by simp⟩, fun b o e _ n h => ⟨k b o e, kn b (by rw [e]; simp) n, h⟩, Up.keep k⟩
  same := s
  len := S.len
  nd := S.nd
  al := fun a h e => by
    cases q : H a with
    | none => exact S.al a h q
    | some u =>
      rw [k a u q] at e
      cases e
  sto := fun i b o e1 e2 n => by
    obtain ⟨h1, h2⟩ := S.sto i b o e1 e2 n
    exact ⟨fun nf => by
      obtain ⟨u, hu, _⟩ := MRep.at h2 n nf
      exact kn b (by rw [hu]; simp) (h1 nf), MRep.mono ⟨x, [], by simp⟩ k kn h2⟩
  sl := S.sl
  slot := fun i d e => by
    obtain ⟨v, h1, h2⟩ := S.slot i d e
    exact ⟨v, h1, h2.mono ⟨x, [], by simp⟩⟩
theorem Sim.fNone (S : Sim K T F0 m0 H0 F m μ ρ σ H) (hp : H p = none) : F p = none := S.same.free hp
/-- a new frozen thing -/
theorem Sim.new (S : Sim K T F0 m0 H0 F m μ ρ σ H) (hp : H p = none) (o : HO) : Ext F m H (upd F p o) m (upd H p o) ∧ Sim K T F0 m0 H0 (upd F p o) m μ ρ σ (upd H p o) := by
  have hf := S.fNone hp
  have x : Same F (upd F p o) := upd_keep hf
  refine ⟨⟨⟨x, [], by simp⟩, fun b u e _ n h => ⟨upd_keep hp b u e, by rw [upd_ne (ne_of_none e hp)]; exact n, h⟩, Up.upd (fun a z => by rw [hp] at z; cases z)⟩, S.grow x (fun b u e => ?_) (upd_keep hp) (fun b hb hn => ?_)⟩
  · by_cases q : b = p
    · rw [q, upd_same] at e
      rw [q, upd_same]
      exact e
    · rw [upd_ne q] at e
      rw [upd_ne q]
      exact S.same b u e
  · have q : b ≠ p := fun e => hb (by rw [e]; exact hp)
    rw [upd_ne q]
    exact hn
/-- the slots are set -/
theorem Sim.set (S : Sim K T F0 m0 H0 F m μ ρ σ H) {i : Nat} {d : D} {v : V} (r : Rep K T F m d v) : Sim K T F0 m0 H0 F m μ (ρ.set i (some d)) (σ.set i (some v)) H where
  ext := S.ext
  same := S.same
  len := S.len
  nd := S.nd
  al := S.al
  sto := S.sto
  sl := by simpa using S.sl
  slot := fun j e h => by
    by_cases hj : i = j
    · subst hj
      have hl : i < ρ.length := by
        have := (List.getElem?_eq_some_iff.mp h).1
        simpa using this
      rw [List.getElem?_set_self hl] at h
      cases h
      exact ⟨v, by rw [List.getElem?_set_self (by rw [← S.sl]; exact hl)], r⟩
    · rw [List.getElem?_set_ne hj] at h
      obtain ⟨v', h1, h2⟩ := S.slot j e h
      exact ⟨v', by rw [List.getElem?_set_ne hj]; exact h1, h2⟩
/-- other slots, known by less -/
theorem Sim.slots {ρ' : Slots} {σ' : L2.St} (S : Sim K T F0 m0 H0 F m μ ρ σ H) (hl : ρ'.length = σ'.length) (h : ∀ (i : Nat) (d : D), ρ'[i]? = some (some d) → ∃ v, σ'[i]? = some (some v) ∧ Rep K T F m d v) : Sim K T F0 m0 H0 F m μ ρ' σ' H :=
  ⟨S.ext, S.same, S.len, S.nd, S.al, S.sto, hl, h⟩
end

/-- a mref's thing, as data -/
def look (μ : Sto) : D → D
  | .mref k => match μ[k]? with
    | some (.lst ds) => .lst ds
    | some (.dct ds) => .dct ds
    | some (.ins c fs) => .ins c fs
    | some (.fz d) => d
    | _ => .mref k
  | .ptp xs => .tup xs
  | .ttp xs => .tup xs
  | d => d
/-- what is to be read now at v: frozen, or of the store -/
inductive Vw (K : PySem.W.Frag) (T : Tab) (F : Hp) (m : List Addr) (H : Hp) : D → V → Prop
  | of {d v} : Rep K T F m d v → Vw K T F m H d v
  | lst {ds vs a} : H a = some (.lst vs) → Reps K T F m ds vs → Vw K T F m H (.lst ds) (.ref a)
  | dct {ds vs a} : H a = some (.dK vs) → RepK K T F m ds vs → Vw K T F m H (.dct ds) (.ref a)
  | ins {c ds vs a dx} : H a = some (.ins (T.ca c) dx ((T.fn c).zip vs)) → Reps K T F m ds vs → Vw K T F m H (.ins c ds) (.ref a)
section
variable {K : PySem.W.Frag} {T : Tab} {F0 F F' H0 : Hp} {m0 m m' : List Addr} {μ μ' : Sto} {ρ : Slots} {σ : L2.St} {H H' : Hp} {p a : Addr} {ds : List D} {vs : List V} {d : D} {v : V}
theorem Sim.view (S : Sim K T F0 m0 H0 F m μ ρ σ H) (r : Rep K T F m d v) : Vw K T F m H (look μ d) v := by
  cases d with
  | mref k =>
    cases r with
    | mref e =>
      cases q : μ[k]? with
      | none =>
        simp only [look, q]
        exact .of (.mref e)
      | some o =>
        cases o with
        | lst ds =>
          obtain ⟨_, vs, h1, h2⟩ := S.sto k _ _ e q (fun z => nomatch z)
          simp only [look, q]
          exact .lst h1 h2
        | dct ds =>
          obtain ⟨_, vs, h1, h2⟩ := S.sto k _ _ e q (fun z => nomatch z)
          simp only [look, q]
          exact .dct h1 h2
        | ins c ds =>
          obtain ⟨_, dx, vs, h1, h2, _, _, h3⟩ := S.sto k _ _ e q (fun z => nomatch z)
          simp only [look, q]
          exact .ins h1 h3
        | fz d =>
          obtain ⟨_, h1⟩ := S.sto k _ _ e q (fun z => nomatch z)
          simp only [look, q]
          exact .of h1
        | gone =>
          simp only [look, q]
          exact .of (.mref e)
  | ptp xs => cases r with | ptp h e q => exact .of (.tup (.inl (.inr ⟨_, h⟩)) q)
  | ttp xs => cases r with | ttp h q => exact .of (.tup (SqT.of h) q)
  | _ => exact .of r
theorem Vw.int {i : Int} (r : Vw K T F m H (.int i) v) : v = .int i := by cases r with | of r => cases r; rfl
theorem Vw.str {s : Tx} (r : Vw K T F m H (.str s) v) : v = .str (tx s) := by cases r with | of r => cases r; rfl
theorem Vw.bl {b : Bool} (r : Vw K T F m H (.bl b) v) : v = .bl b := by cases r with | of r => cases r; rfl
theorem Vw.non (r : Vw K T F m H .non v) : v = .non := by cases r with | of r => cases r; rfl
theorem Vw.ty {t : Ty} (r : Vw K T F m H (.ty t) v) : v = .ty t.nm := by cases r with | of r => cases r; rfl
theorem Vw.cls {c : Nat} (r : Vw K T F m H (.cls c) v) : v = .ref (T.ca c) := by cases r with | of r => cases r; rfl
theorem Vw.tup (s : Same F H) (r : Vw K T F m H (.tup ds) v) : ∃ a vs, v = .ref a ∧ SqT K H a vs ∧ Reps K T F m ds vs := by
  cases r with | of r => cases r with | tup h q => exact ⟨_, _, rfl, Same.sqt s h, q⟩
theorem Vw.scr {xs : List Int} (s : Same F H) (r : Vw K T F m H (.scr xs) v) : ∃ a, v = .ref a ∧ SqL K H a (xs.map V.int) := by
  cases r with | of r => cases r with | scr h => exact ⟨_, rfl, s.seq h⟩
theorem Vw.list (s : Same F H) (r : Vw K T F m H (.lst ds) v) : ∃ a vs, v = .ref a ∧ H a = some (.lst vs) ∧ Reps K T F m ds vs := by
  cases r with
  | of r => cases r with | lst h q => exact ⟨_, _, rfl, s _ _ h, q⟩
  | lst h q => exact ⟨_, _, rfl, h, q⟩
theorem Vw.dict {kvs : List (DK × D)} (s : Same F H) (r : Vw K T F m H (.dct kvs) v) : ∃ a vs, v = .ref a ∧ Rd H a (.dK vs) ∧ RepK K T F m kvs vs := by
  cases r with
  | of r => cases r with | dct h q => exact ⟨_, _, rfl, .inr ⟨_, s _ _ h⟩, q⟩
  | dct h q => exact ⟨_, _, rfl, .inl h, q⟩
theorem Vw.dcp {ks : List (List DK)} (s : Same F H) (r : Vw K T F m H (.dcp ks ds) v) : ∃ a o vs, v = .ref a ∧ F a = some (.frz o (.dT ((keysK ks).zip vs))) ∧ KeyAt F o (keysK ks) ∧ ks.length = ds.length ∧ Reps K T F m ds vs := by
  cases r with
  | of r => cases r with | dcp h h2 l q => exact ⟨_, _, _, rfl, h, h2, l, q⟩
theorem Vw.inst {c : Nat} (s : Same F H) (r : Vw K T F m H (.ins c ds) v) : ∃ a dx vs, v = .ref a ∧ H a = some (.ins (T.ca c) dx ((T.fn c).zip vs)) ∧ Reps K T F m ds vs := by
  cases r with
  | of r => cases r with | ins h _ q => exact ⟨_, _, _, rfl, s _ _ h, q⟩
  | ins h q => exact ⟨_, _, _, rfl, h, q⟩
end

/-! ### the judgements -/
/-- what follows, at the level of values -/
def Fin (K : PySem.W.Frag) (z : Zx) (F : Hp) (m : List Addr) (H : Hp) (ρ : Slots) (σ : L2.St) (Qd : QD) (Q : VK) : Prop :=
  ∀ F' m' μ' d v H', Ext F m H F' m' H' → SimZ K z F' m' μ' ρ σ H' → Rep K z.T F' m' d v → Qd d μ' → Q v H'
def tD (K : PySem.W.Frag) (z : Zx) (Wd : WXd) (w : WE) : TE := fun σ H Q => ∃ F m μ ρ Qd, SimZ K z F m μ ρ σ H ∧ w ρ μ Qd (fun x μ' => Wd x ρ μ') ∧ Fin K z F m H ρ σ Qd Q
def XW (K : PySem.W.Frag) (z : Zx) (Wd : WXd) : WX := fun cls d σ H => ∃ F m μ ρ x, SimZ K z F m μ ρ σ H ∧ XRep K z.T F m H x cls d ∧ Wd x ρ μ
def DE (X : Cx) (z : Zx) (e : Expr) (w : WE) : Prop := ∀ Wd, Takes X (XW X.K z Wd) → PE X e (tD X.K z Wd w)
theorem peI {X : Cx} {e : Expr} {t t' : TE} (h : PE X e t) (f : ∀ σ H Q, t' σ H Q → t σ H Q) : PE X e t' := ⟨fun pins s σ H Q I q => h.run pins s σ H Q I (f _ _ _ q)⟩

/-! ### names, constants -/
def wVar (i : Nat) : WE := fun ρ μ Q _ => match ρ[i]? with
  | some (some d) => Q d μ
  | _ => False
def wC (d : D) : WE := fun _ μ Q _ => Q d μ
section
variable {X : Cx} {z : Zx} {pos : Pos} {a b c e : Expr} {wa wb wc : WE}
theorem de_var {i : Nat} {x : Str} (hN : X.N[i]? = some x) (hv : Vis X.env.scope x) (hd : (x == ("__debug__" : Str)) = false := by decide) (hcd : (x == ("__classdict__" : Str)) = false := by decide) : DE X z (.Name x pos) (wVar i) := fun Wd tk =>
  peI (pe_var hN hv hd hcd) fun σ H Q ⟨F, m, μ, ρ, Qd, S, h, k⟩ => by
    unfold wVar at h
    split at h
    · rename_i d e
      obtain ⟨v, h1, h2⟩ := S.slot i d e
      exact ⟨v, h1, k F m μ d v H (Ext.refl _ _ _) S h2 h⟩
    · exact h.elim
theorem de_const {t : V} {d : D} (h : PE X e (tC t)) (r : ∀ K T F m, Rep K T F m d t) : DE X z e (wC d) := fun Wd tk =>
  peI h fun σ H Q ⟨F, m, μ, ρ, Qd, S, h, k⟩ => k F m μ d t H (Ext.refl _ _ _) S (r _ _ _ _) h
theorem de_int {i j} : DE X z (.Constant (.int i) j pos) (wC (.int i)) := de_const pe_int fun _ _ _ _ => .int
theorem de_bl {i j} : DE X z (.Constant (.bool i) j pos) (wC (.bl i)) := de_const pe_bl fun _ _ _ _ => .bl
theorem de_non {j} : DE X z (.Constant .none j pos) (wC .non) := de_const pe_non fun _ _ _ _ => .non
theorem de_str {x : Str} {j} {s : Tx} (h : x.cps.toList = s) : DE X z (.Constant (.str x) j pos) (wC (.str s)) := de_const pe_str fun _ _ _ _ => by
  have e : x = tx s := by
    obtain ⟨c⟩ := x
    unfold tx
    rw [← h] <;> rfl
  rw [e]
  exact .str
/-- a module's constant -/
theorem de_gint {x : Str} {i : Int} (hg : Gl X x) (hm : ∃ t, X.mg x = some (.int i t)) (hd : (x == ("__debug__" : Str)) = false := by decide) : DE X z (.Name x pos) (wC (.int i)) := by
  obtain ⟨t, hm⟩ := hm
  exact de_const (pe_glob (v := .int i) hg hm ⟨t, rfl⟩ hd) fun _ _ _ _ => .int
theorem de_gstr {x y : Str} {s : Tx} (hg : Gl X x) (hm : ∃ t, X.mg x = some (.str y t)) (h : y.cps.toList = s) (hd : (x == ("__debug__" : Str)) = false := by decide) : DE X z (.Name x pos) (wC (.str s)) := by
  obtain ⟨t, hm⟩ := hm
  have e : y = tx s := by
    obtain ⟨c⟩ := y
    unfold tx
    rw [← h] <;> rfl
  exact de_const (pe_glob (v := .str y) hg hm ⟨t, rfl⟩ hd) fun _ _ _ _ => by rw [e]; exact .str
theorem de_gcls {x : Str} {c : Nat} (hg : Gl X x) (hm : X.mg x = some (.ref (z.T.ca c))) (hd : (x == ("__debug__" : Str)) = false := by decide) : DE X z (.Name x pos) (wC (.cls c)) := fun Wd tk =>
  peI (pe_glob (v := .ref (z.T.ca c)) hg hm rfl hd) fun σ H Q ⟨F, m, μ, ρ, Qd, S, h, k⟩ => k F m μ _ _ H (Ext.refl _ _ _) S .cls h
theorem de_bty {x : Str} {t : Ty} (hg : Gl X x) (hm : X.mg x = none) (hv : bootBuiltins x = some (.type t.nm)) (hn : x ≠ "__name__" := by decide) (hd : (x == ("__debug__" : Str)) = false := by decide) : DE X z (.Name x pos) (wC (.ty t)) :=
  de_const (pe_bltn (v := .ty t.nm) hg hm hv rfl hn hd) fun _ _ _ _ => .ty

/-! ### operators -/
/-- by values, from views; f tells the answer, where there is one -/
def OpD (X : Cx) (z : Zx) (r : R2) (f : D → D → Option D) : Prop :=
  ∀ F m μ ρ σ H x y v u d (Qd : QD) (Q : VK), SimZ X.K z F m μ ρ σ H → Vw X.K z.T F m H x v → Vw X.K z.T F m H y u → f x y = some d → Qd d μ → Fin X.K z F m H ρ σ Qd Q → r v u H Q
def w2 (f : D → D → Option D) (wa wb : WE) : WE := fun ρ μ Q E => wa ρ μ (fun x μ1 => wb ρ μ1 (fun y μ2 => match f (look μ2 x) (look μ2 y) with
  | some d => Q d μ2
  | none => False) E) E
theorem op_run {r : R2} {f : D → D → Option D} {Wd : WXd} (ok : OpD X z r f) {σ : L2.St} {H : Hp} {Q : VK} (h : tD X.K z Wd (w2 f wa wb) σ H Q) : tD X.K z Wd wa σ H fun x H1 => tD X.K z Wd wb σ H1 fun y H2 => r x y H2 Q := by
  obtain ⟨F, m, μ, ρ, Qd, S, h, k⟩ := h
  refine ⟨F, m, μ, ρ, _, S, h, fun F1 m1 μ1 d1 v1 H1 x1 S1 r1 q1 => ⟨F1, m1, μ1, ρ, _, S1, q1, fun F2 m2 μ2 d2 v2 H2 x2 S2 r2 q2 => ?_⟩⟩
  cases e : f (look μ2 d1) (look μ2 d2) with
  | none =>
    rw [e] at q2
    exact q2.elim
  | some d =>
    rw [e] at q2
    exact ok F2 m2 μ2 ρ σ H2 _ _ _ _ d Qd Q S2 (S2.view (r1.mono x2.gr)) (S2.view r2) e q2 fun F3 m3 μ3 d3 v3 H3 x3 => k F3 m3 μ3 d3 v3 H3 (x1.trans (x2.trans x3))
theorem de_op {op : Operator} {r : R2} {f : D → D → Option D} (ho : OpR X (binaryOp op) r) (ok : OpD X z r f) (ha : DE X z a wa) (hb : DE X z b wb) : DE X z (.BinOp a op b pos) (w2 f wa wb) := fun Wd tk =>
  peI (pe_op ho (ha Wd tk) (hb Wd tk)) fun σ H Q h => op_run ok h
theorem de_cmp {op : CmpOp} {r : R2} {f : D → D → Option D} (ho : OpR X (compareOp op) r) (ok : OpD X z r f) (hm : behindInMarks op b = false) (ha : DE X z a wa) (hb : DE X z b wb) : DE X z (.Compare a [op] [b] pos) (w2 f wa wb) := fun Wd tk =>
  peI (pe_cmpR ho (ha Wd tk) (hb Wd tk) hm) fun σ H Q h => op_run ok h
theorem OpD.or {r r' : R2} {f f' : D → D → Option D} (h : OpD X z r f) (h' : OpD X z r' f') : OpD X z (fun x y H Q => r x y H Q ∨ r' x y H Q) (fun x y => match f x y with | some d => some d | none => f' x y) := by
  intro F m μ ρ σ H x y v u d Qd Q S vx vy e q k
  cases q1 : f x y with
  | some d1 =>
    simp only [q1, Option.some.injEq] at e
    subst e
    exact .inl (h _ _ _ _ _ _ _ _ _ _ _ Qd Q S vx vy q1 q k)
  | none =>
    simp only [q1] at e
    exact .inr (h' _ _ _ _ _ _ _ _ _ _ _ Qd Q S vx vy e q k)
theorem OpD.imp {r : R2} {f f' : D → D → Option D} (h : OpD X z r f) (e : ∀ x y d, f' x y = some d → f x y = some d) : OpD X z r f' :=
  fun F m μ ρ σ H x y v u d Qd Q S vx vy q => h F m μ ρ σ H x y v u d Qd Q S vx vy (e _ _ _ q)
theorem Fin.now {F : Hp} {m : List Addr} {μ : Sto} {ρ : Slots} {σ : L2.St} {H : Hp} {Qd : QD} {Q : VK} {d : D} {v : V} (k : Fin X.K z F m H ρ σ Qd Q) (S : SimZ X.K z F m μ ρ σ H) (r : Rep X.K z.T F m d v) (q : Qd d μ) : Q v H := k F m μ d v H (Ext.refl _ _ _) S r q
/-- a new tuple, list -/
theorem Fin.tup {F : Hp} {m : List Addr} {μ : Sto} {ρ : Slots} {σ : L2.St} {H : Hp} {Qd : QD} {Q : VK} {ds : List D} {vs : List V} {p : Addr} (k : Fin X.K z F m H ρ σ Qd Q) (S : SimZ X.K z F m μ ρ σ H) (hp : H p = none) (r : Reps X.K z.T F m ds vs) (q : Qd (.tup ds) μ) : Q (.ref p) (upd H p (.tup vs)) := by
  obtain ⟨x, S'⟩ := S.new hp (.tup vs)
  exact k _ m μ _ _ _ x S' (.tup (SqT.of upd_same) (r.mono x.gr)) q
theorem Fin.lst {F : Hp} {m : List Addr} {μ : Sto} {ρ : Slots} {σ : L2.St} {H : Hp} {Qd : QD} {Q : VK} {ds : List D} {vs : List V} {p : Addr} (k : Fin X.K z F m H ρ σ Qd Q) (S : SimZ X.K z F m μ ρ σ H) (hp : H p = none) (r : Reps X.K z.T F m ds vs) (q : Qd (.lst ds) μ) : Q (.ref p) (upd H p (.lst vs)) := by
  obtain ⟨x, S'⟩ := S.new hp (.lst vs)
  exact k _ m μ _ _ _ x S' (.lst upd_same (r.mono x.gr)) q
theorem Fin.dct {F : Hp} {m : List Addr} {μ : Sto} {ρ : Slots} {σ : L2.St} {H : Hp} {Qd : QD} {Q : VK} {ds : List (DK × D)} {vs : List (Key × V)} {p : Addr} {o : Obj} (k : Fin X.K z F m H ρ σ Qd Q) (S : SimZ X.K z F m μ ρ σ H) (hp : H p = none) (r : RepK X.K z.T F m ds vs) (q : Qd (.dct ds) μ) : Q (.ref p) (upd H p (.frz o (.dK vs))) := by
  obtain ⟨x, S'⟩ := S.new hp (.frz o (.dK vs))
  exact k _ m μ _ _ _ x S' (.dct upd_same (r.mono x.gr)) q
end
end Pk

/-! The data layer, part C: operators on data. -/
namespace Pk
open PySem PySem.Spec PyProof.Rows L2

/-! ### texts, keys -/
def eqTx : Tx → Tx → Bool
  | [], [] => true
  | a :: s, b :: t => match Nat.beq a b with
    | true => eqTx s t
    | false => false
  | _, _ => false
theorem eqTx_iff : ∀ {s t : Tx}, eqTx s t = true ↔ s = t
  | [], [] => by simp [eqTx]
  | [], _ :: _ => by simp [eqTx]
  | _ :: _, [] => by simp [eqTx]
  | a :: s, b :: t => by
    unfold eqTx
    cases h : Nat.beq a b with
    | true =>
      have e := Nat.eq_of_beq_eq_true h
      subst e
      simpa using eqTx_iff (s := s) (t := t)
    | false =>
      have e : a ≠ b := Nat.ne_of_beq_eq_false h
      simp [e]
theorem eqTx_dec (s t : Tx) : eqTx s t = decide (s = t) := by
  rw [Bool.eq_iff_iff, eqTx_iff, decide_eq_true_iff]
theorem tx_inj {s t : Tx} : tx s = tx t ↔ s = t := by
  unfold tx
  constructor
  · intro e
    injection e with e
    simpa using congrArg Array.toList e
  · intro e
    rw [e]
theorem tx_len (s : Tx) : (tx s).length = s.length := by
  unfold tx Str.length
  simp
def eqDK : DK → DK → Bool
  | .ki i, .ki j => decide (i = j)
  | .ks s, .ks t => eqTx s t
  | _, _ => false
theorem eqDK_iff {a b : DK} : eqDK a b = true ↔ a = b := by
  cases a <;> cases b <;> simp [eqDK, eqTx_iff]
theorem key_inj {a b : DK} : a.key = b.key ↔ a = b := by
  cases a <;> cases b <;> simp [DK.key, tx_inj]
def getK : List (DK × D) → DK → Option D
  | [], _ => none
  | (k, d) :: r, x => match eqDK k x with
    | true => some d
    | false => getK r x
def putD : List (DK × D) → DK → D → List (DK × D)
  | [], x, v => [(x, v)]
  | (k, d) :: r, x, v => match eqDK k x with
    | true => (k, v) :: r
    | false => (k, d) :: putD r x v
def toK : D → Option DK
  | .int i => some (.ki i)
  | .str s => some (.ks s)
  | _ => none

/-! ### data that is compared by == -/
mutual
def pureD : Nat → D → Bool
  | _, .non => true
  | _, .bl _ => true
  | _, .int _ => true
  | _, .str s => s.all fun c => Nat.blt c 1114112
  | 0, .tup _ => false
  | 0, .lst _ => false
  | 0, .ttp _ => false
  | n + 1, .tup xs => pureDs n xs
  | n + 1, .ttp xs => pureDs n xs
  | n + 1, .lst xs => pureDs n xs
  | _, _ => false
def pureDs : Nat → List D → Bool
  | _, [] => true
  | n, x :: xs => match pureD n x with
    | true => pureDs n xs
    | false => false
end
mutual
def toPy : D → PyData
  | .bl b => .bool b
  | .int i => .int i
  | .str s => .str (tx s)
  | .tup xs => .tuple (toPys xs)
  | .ttp xs => .tuple (toPys xs)
  | .lst xs => .list (toPys xs)
  | _ => .none
def toPys : List D → List PyData
  | [] => []
  | x :: xs => toPy x :: toPys xs
end
def b2 (b : Bool) : Int := match b with
  | true => 1
  | false => 0
mutual
def eqD : D → D → Bool
  | .bl a, .bl b => match a with
    | true => b
    | false => !b
  | .bl a, .int j => decide (b2 a = j)
  | .int i, .bl b => decide (i = b2 b)
  | .int i, .int j => decide (i = j)
  | .str s, .str t => eqTx s t
  | .tup xs, .tup ys => eqDs xs ys
  | .tup xs, .ttp ys => eqDs xs ys
  | .ttp xs, .tup ys => eqDs xs ys
  | .ttp xs, .ttp ys => eqDs xs ys
  | .lst xs, .lst ys => eqDs xs ys
  | .non, .non => true
  | _, _ => false
def eqDs : List D → List D → Bool
  | [], [] => true
  | x :: xs, y :: ys => match eqD x y with
    | true => eqDs xs ys
    | false => false
  | _, _ => false
end
mutual
theorem canLay_of : ∀ (n : Nat) (d : D), pureD n d = true → (toPy d).canLay0 = true ∧ (toPy d).depth ≤ n
  | n, .non, _ => ⟨rfl, Nat.zero_le _⟩
  | n, .bl _, _ => ⟨rfl, Nat.zero_le _⟩
  | n, .int _, _ => ⟨rfl, Nat.zero_le _⟩
  | n, .str s, h => ⟨by
      unfold pureD at h
      show PySem.PyData.strOk (tx s) = true
      unfold PySem.PyData.strOk tx
      simp only [List.all_toArray]
      rw [List.all_eq_true] at h ⊢
      intro c hc
      have := h c hc
      rw [decide_eq_true_iff]
      have h2 := Nat.le_of_ble_eq_true (show Nat.ble (c + 1) 1114112 = true from this)
      omega, Nat.zero_le _⟩
  | 0, .tup _, h => by simp [pureD] at h
  | 0, .lst _, h => by simp [pureD] at h
  | 0, .ttp _, h => by simp [pureD] at h
  | n + 1, .ttp xs, h => by
    obtain ⟨h1, h2⟩ := canLays_of n xs (by simpa [pureD] using h)
    exact ⟨h1, Nat.succ_le_succ h2⟩
  | n + 1, .tup xs, h => by
    obtain ⟨h1, h2⟩ := canLays_of n xs (by simpa [pureD] using h)
    exact ⟨h1, Nat.succ_le_succ h2⟩
  | n + 1, .lst xs, h => by
    obtain ⟨h1, h2⟩ := canLays_of n xs (by simpa [pureD] using h)
    exact ⟨h1, Nat.succ_le_succ h2⟩
  | n, .dct _, h => by cases n <;> simp [pureD] at h
  | n, .scr _, h => by cases n <;> simp [pureD] at h
  | n, .ins _ _, h => by cases n <;> simp [pureD] at h
  | n, .mref _, h => by cases n <;> simp [pureD] at h
  | n, .cls _, h => by cases n <;> simp [pureD] at h
  | n, .ty _, h => by cases n <;> simp [pureD] at h
  | n, .ptp _, h => by cases n <;> simp [pureD] at h
  | n, .dcp _ _, h => by cases n <;> simp [pureD] at h
theorem canLays_of : ∀ (n : Nat) (ds : List D), pureDs n ds = true → PyData.canLayAll0 (toPys ds) = true ∧ PyData.depthAll (toPys ds) ≤ n
  | n, [], _ => ⟨rfl, Nat.zero_le _⟩
  | n, d :: ds, h => by
    unfold pureDs at h
    cases q : pureD n d with
    | false => simp [q] at h
    | true =>
      obtain ⟨h1, h2⟩ := canLay_of n d q
      obtain ⟨h3, h4⟩ := canLays_of n ds (by simpa [q] using h)
      refine ⟨?_, ?_⟩
      · show (PyData.canLay0 (toPy d) && PyData.canLayAll0 (toPys ds)) = true
        rw [h1, h3]
        rfl
      · show max (toPy d).depth (PyData.depthAll (toPys ds)) ≤ n
        omega
end
mutual
theorem eqD_py : ∀ (n k : Nat) (d e : D), pureD n d = true → pureD k e = true → eqD d e = PyData.eqv (toPy d) (toPy e)
  | n, k, d, e, hd, he => by
    cases d with
    | tup xs =>
      cases n with
      | zero => simp [pureD] at hd
      | succ n =>
        cases e with
        | tup ys =>
          cases k with
          | zero => simp [pureD] at he
          | succ k => exact eqDs_py n k xs ys (by simpa [pureD] using hd) (by simpa [pureD] using he)
        | ttp ys =>
          cases k with
          | zero => simp [pureD] at he
          | succ k => exact eqDs_py n k xs ys (by simpa [pureD] using hd) (by simpa [pureD] using he)
        | _ => first | rfl | (cases k <;> simp [pureD] at he)
    | ttp xs =>
      cases n with
      | zero => simp [pureD] at hd
      | succ n =>
        cases e with
        | tup ys =>
          cases k with
          | zero => simp [pureD] at he
          | succ k => exact eqDs_py n k xs ys (by simpa [pureD] using hd) (by simpa [pureD] using he)
        | ttp ys =>
          cases k with
          | zero => simp [pureD] at he
          | succ k => exact eqDs_py n k xs ys (by simpa [pureD] using hd) (by simpa [pureD] using he)
        | _ => first | rfl | (cases k <;> simp [pureD] at he)
    | lst xs =>
      cases n with
      | zero => simp [pureD] at hd
      | succ n =>
        cases e with
        | lst ys =>
          cases k with
          | zero => simp [pureD] at he
          | succ k => exact eqDs_py n k xs ys (by simpa [pureD] using hd) (by simpa [pureD] using he)
        | _ => first | rfl | (cases k <;> simp [pureD] at he)
    | non => cases e <;> first | rfl | (cases k <;> simp [pureD] at he)
    | bl a =>
      cases e with
      | bl b => cases a <;> cases b <;> rfl
      | int j => cases a <;> simp [eqD, b2, toPy, PyData.eqv] <;> rfl
      | _ => first | rfl | (cases k <;> simp [pureD] at he)
    | int i =>
      cases e with
      | bl b => cases b <;> simp [eqD, b2, toPy, PyData.eqv] <;> rfl
      | int j => simp [eqD, toPy, PyData.eqv] <;> rfl
      | _ => first | rfl | (cases k <;> simp [pureD] at he)
    | str s =>
      cases e with
      | str t =>
        show eqTx s t = (tx s == tx t)
        rw [eqTx_dec, Bool.eq_iff_iff, decide_eq_true_iff, beq_iff_eq, tx_inj]
      | _ => first | rfl | (cases k <;> simp [pureD] at he)
    | _ => cases n <;> simp [pureD] at hd
theorem eqDs_py : ∀ (n k : Nat) (ds es : List D), pureDs n ds = true → pureDs k es = true → eqDs ds es = PyData.eqvAll (toPys ds) (toPys es)
  | n, k, [], [], _, _ => rfl
  | n, k, [], _ :: _, _, _ => rfl
  | n, k, _ :: _, [], _, _ => rfl
  | n, k, d :: ds, e :: es, hd, he => by
    unfold pureDs at hd he
    cases q1 : pureD n d with
    | false => simp [q1] at hd
    | true =>
      cases q2 : pureD k e with
      | false => simp [q2] at he
      | true =>
        have h1 := eqD_py n k d e q1 q2
        have h2 := eqDs_py n k ds es (by simpa [q1] using hd) (by simpa [q2] using he)
        show (match eqD d e with | true => eqDs ds es | false => false) = (PyData.eqv (toPy d) (toPy e) && PyData.eqvAll (toPys ds) (toPys es))
        rw [h1, h2]
        cases PyData.eqv (toPy d) (toPy e) <;> rfl
end
section
variable {K : PySem.W.Frag} {T : Tab} {F : Hp} {m : List Addr} {H : Hp}
mutual
theorem Rep.dp (s : Same F H) : ∀ {n : Nat} {d : D} {v : V}, Rep K T F m d v → pureD n d = true → Dp K H v (toPy d)
  | _, _, _, .non, _ => .non
  | _, _, _, .bl, _ => .bl _
  | _, _, _, .int, _ => .int _
  | _, _, _, .str, _ => .str _
  | 0, _, _, .tup _ _, h => by simp [pureD] at h
  | 0, _, _, .lst _ _, h => by simp [pureD] at h
  | 0, _, _, .ttp _ _, h => by simp [pureD] at h
  | n + 1, _, _, .ttp h r, q => .tup (SqT.of (s _ _ h)) (Reps.dp s r (by simpa [pureD] using q))
  | n + 1, _, _, .tup h r, q => .tup (Same.sqt s h) (Reps.dp s r (by simpa [pureD] using q))
  | n + 1, _, _, .lst h r, q => .lst (SqL.of (s _ _ h)) (Reps.dp s r (by simpa [pureD] using q))
  | n, _, _, .dct _ _, h => by cases n <;> simp [pureD] at h
  | n, _, _, .scr _, h => by cases n <;> simp [pureD] at h
  | n, _, _, .ins _ _ _, h => by cases n <;> simp [pureD] at h
  | n, _, _, .mref _, h => by cases n <;> simp [pureD] at h
  | n, _, _, .cls, h => by cases n <;> simp [pureD] at h
  | n, _, _, .ty, h => by cases n <;> simp [pureD] at h
  | n, _, _, .ptp _ _ _, h => by cases n <;> simp [pureD] at h
  | n, _, _, .dcp _ _ _ _, h => by cases n <;> simp [pureD] at h
theorem Reps.dp (s : Same F H) : ∀ {n : Nat} {ds : List D} {vs : List V}, Reps K T F m ds vs → pureDs n ds = true → DpAll K H vs (toPys ds)
  | _, _, _, .nil, _ => .nil
  | n, _, _, .cons (d := d) r rs, h => by
    unfold pureDs at h
    cases q : pureD n d with
    | false => simp [q] at h
    | true => exact .cons (Rep.dp s r q) (Reps.dp s rs (by simpa [q] using h))
end
theorem Vw.dp (s : Same F H) {n : Nat} {d : D} {v : V} (r : Vw K T F m H d v) (h : pureD n d = true) : Dp K H v (toPy d) := by
  cases r with
  | of r => exact r.dp s h
  | lst e r =>
    cases n with
    | zero => simp [pureD] at h
    | succ n => exact .lst (SqL.of e) (r.dp s (by simpa [pureD] using h))
  | dct e r => cases n <;> simp [pureD] at h
  | ins e r => cases n <;> simp [pureD] at h
end
theorem shaped_of {n : Nat} {d : D} (h : pureD n d = true) (hn : n ≤ 64) : PySem.SeqAt.shaped (toPy d) = true := by
  obtain ⟨h1, h2⟩ := canLay_of n d h
  unfold PySem.SeqAt.shaped
  rw [h1, decide_eq_true (Nat.le_trans h2 hn)]
  rfl

/-! ### the operators -/
def lineB (n : Nat) : Bool := Nat.ble n 16777216
theorem lineB_le {n : Nat} (h : lineB n = true) : n ≤ sizeLine := by
  rw [sizeLine_eq]
  exact Nat.le_of_ble_eq_true h
def addD : D → D → Option D
  | .int i, .int j => some (.int (i + j))
  | .str s, .str t => match lineB (s.length + t.length) with
    | true => some (.str (s ++ t))
    | false => none
  | .lst a, .lst b => match lineB (a.length + b.length) with
    | true => some (.lst (a ++ b))
    | false => none
  | .tup a, .tup b => match lineB (a.length + b.length) with
    | true => some (.tup (a ++ b))
    | false => none
  | _, _ => none
def subD : D → D → Option D
  | .int i, .int j => some (.int (i - j))
  | _, _ => none
def smallI : Int → Bool
  | .ofNat n => Nat.blt n 18446744073709551616
  | .negSucc n => Nat.blt (n + 1) 18446744073709551616
theorem smallI_of {i : Int} (h1 : -18446744073709551616 < i) (h2 : i < 18446744073709551616) : smallI i = true := by
  cases i with
  | ofNat n => exact Nat.ble_eq_true_of_le (by have : (n : Int) < 18446744073709551616 := h2; omega)
  | negSucc n => exact Nat.ble_eq_true_of_le (by omega)
def repD (n : Nat) (xs : List D) : List D := (List.replicate n xs).flatten
def mulD : D → D → Option D
  | .int i, .int j => match smallI i || smallI j with
    | true => some (.int (i * j))
    | false => none
  | .lst a, .int k => match smallI (k * 4) && lineB (a.length * k.toNat) with
    | true => some (.lst (repD k.toNat a))
    | false => none
  | _, _ => none
def fdivD : D → D → Option D
  | .int i, .int j => match decide (0 < j) && decide (j < 1073741824) with
    | true => some (.int (i / j))
    | false => none
  | _, _ => none
def modD : D → D → Option D
  | .int i, .int j => match decide (0 < j) with
    | true => some (.int (i % j))
    | false => none
  | _, _ => none
def eqqD (x y : D) : Option D := match pureD 60 x && pureD 60 y with
  | true => some (.bl (eqD x y))
  | false => none
def neqD (x y : D) : Option D := match pureD 60 x && pureD 60 y with
  | true => some (.bl (!eqD x y))
  | false => none
def leD : D → D → Option D
  | .int i, .int j => some (.bl (decide (i ≤ j)))
  | _, _ => none
def ltD : D → D → Option D
  | .int i, .int j => some (.bl (decide (i < j)))
  | _, _ => none
def geD : D → D → Option D
  | .int i, .int j => some (.bl (decide (j ≤ i)))
  | _, _ => none
def gtD : D → D → Option D
  | .int i, .int j => some (.bl (decide (j < i)))
  | _, _ => none
def isNonD : D → Bool
  | .non => true
  | _ => false
def eqB (a b : Bool) : Bool := match a with
  | true => b
  | false => !b
theorem eqB_dec (a b : Bool) : decide (a = b) = eqB a b := by cases a <;> cases b <;> rfl
def isD : D → D → Option D
  | x, .non => some (.bl (isNonD x))
  | .bl a, .bl b => some (.bl (eqB a b))
  | _, _ => none
def isnotD : D → D → Option D
  | x, .non => some (.bl (!isNonD x))
  | .bl a, .bl b => some (.bl (!eqB a b))
  | _, _ => none
def anyEq (x : D) : List D → Bool
  | [] => false
  | y :: r => match eqD y x with
    | true => true
    | false => anyEq x r
def memTx (c : Nat) : Tx → Bool
  | [] => false
  | d :: r => match Nat.beq d c with
    | true => true
    | false => memTx c r
def flatD : D → Bool
  | .non => true
  | .bl _ => true
  | .int _ => true
  | .str _ => true
  | _ => false
def inD? : D → D → Option Bool
  | x, .lst ys => match pureD 60 x && pureD 60 (.lst ys) with
    | true => some (anyEq x ys)
    | false => none
  | x, .tup ys => match flatD x && ys.all flatD with
    | true => some (anyEq x ys)
    | false => none
  | .str [c], .str t => some (memTx c t)
  | x, .dct kvs => match toK x with
    | some k => some (getK kvs k).isSome
    | none => none
  | _, _ => none
def inD (x y : D) : Option D := match inD? x y with
  | some b => some (.bl b)
  | none => none
def ninD (x y : D) : Option D := match inD? x y with
  | some b => some (.bl !b)
  | none => none
end Pk

/-! The data layer, part D: the operators' rules. -/
namespace Pk
open PySem PySem.Spec PyProof.Rows L2
section
variable {X : Cx} {z : Zx}

theorem tx_app (s t : Tx) : tx s ++ tx t = tx (s ++ t) := by
  show (⟨s.toArray ++ t.toArray⟩ : Str) = ⟨(s ++ t).toArray⟩
  simp
theorem okAdd : OpD X z (fun x y H Q => rI0 (fun i j => V.int (i + j)) x y H Q ∨ (∃ i j, x = .str i ∧ y = .str j ∧ i.length + j.length ≤ sizeLine ∧ Q (.str (i ++ j)) H) ∨ rCat x y H Q ∨ rCatA X.K x y H Q) addD := by
  intro F m μ ρ σ H x y v u d Qd Q S vx vy e q k
  unfold addD at e
  split at e
  · injection e with e
    subst e
    have e1 := vx.int
    have e2 := vy.int
    subst e1 e2
    exact .inl ⟨_, _, rfl, rfl, k.now S .int q⟩
  · split at e
    · rename_i s t hl
      injection e with e
      subst e
      have e1 := vx.str
      have e2 := vy.str
      subst e1 e2
      refine .inr (.inl ⟨_, _, rfl, rfl, ?_, ?_⟩)
      · rw [tx_len, tx_len]
        exact lineB_le hl
      · rw [tx_app]
        exact k.now S .str q
    · cases e
  · split at e
    · rename_i s t hl
      injection e with e
      subst e
      obtain ⟨a, xs, rfl, h1, r1⟩ := vx.list S.same
      obtain ⟨b, ys, rfl, h2, r2⟩ := vy.list S.same
      refine .inr (.inr (.inl ⟨a, b, xs, ys, rfl, rfl, h1, h2, ?_, fun p hp => k.lst S hp (r1.append r2) q⟩))
      rw [← r1.length, ← r2.length]
      exact lineB_le hl
    · cases e
  · split at e
    · rename_i s t _ hl
      injection e with e
      subst e
      obtain ⟨a, xs, rfl, h1, r1⟩ := vx.tup S.same
      obtain ⟨b, ys, rfl, h2, r2⟩ := vy.tup S.same
      refine .inr (.inr (.inr ⟨a, b, xs, ys, rfl, rfl, h1, h2, ?_, fun e => ?_, fun n e => ?_, fun n1 n2 p hp => k.tup S hp (r1.append r2) q⟩))
      · rw [← r1.length, ← r2.length]
        exact lineB_le hl
      · subst e
        have : s = [] := List.length_eq_zero_iff.mp (by rw [r1.length]; rfl)
        subst this
        cases vy with | of vy => exact k.now S vy q
      · subst e
        have : t = [] := List.length_eq_zero_iff.mp (by rw [r2.length]; rfl)
        subst this
        rw [List.append_nil] at q
        cases vx with | of vx => exact k.now S vx q
    · cases e
  · cases e
theorem orAdd : OpR X (binaryOp .Add) (fun x y H Q => rI0 (fun i j => V.int (i + j)) x y H Q ∨ (∃ i j, x = .str i ∧ y = .str j ∧ i.length + j.length ≤ sizeLine ∧ Q (.str (i ++ j)) H) ∨ rCat x y H Q ∨ rCatA X.K x y H Q) :=
  op_add.or (op_add_str.or (op_cat.or op_catA))
theorem okSub : OpD X z (rI0 fun i j => V.int (i - j)) subD := by
  intro F m μ ρ σ H x y v u d Qd Q S vx vy e q k
  unfold subD at e
  split at e
  · injection e with e
    subst e
    have e1 := vx.int
    have e2 := vy.int
    subst e1 e2
    exact ⟨_, _, rfl, rfl, k.now S .int q⟩
  · cases e
theorem smallI_ok {i : Int} (h : smallI i = true) : -(2 ^ 64) < i ∧ i < 2 ^ 64 := by
  cases i with
  | ofNat n =>
    have := Nat.le_of_ble_eq_true (show Nat.ble (n + 1) 18446744073709551616 = true from h)
    simp only [Int.ofNat_eq_natCast]
    omega
  | negSucc n =>
    have := Nat.le_of_ble_eq_true (show Nat.ble (n + 1 + 1) 18446744073709551616 = true from h)
    omega
theorem Reps.replicate {K : PySem.W.Frag} {T : Tab} {F : Hp} {m : List Addr} {ds : List D} {vs : List V} (r : Reps K T F m ds vs) : ∀ n : Nat, Reps K T F m (repD n ds) (List.replicate n vs).flatten
  | 0 => .nil
  | n + 1 => by
    unfold repD
    rw [List.replicate_succ, List.flatten_cons, List.replicate_succ, List.flatten_cons]
    exact r.append (Reps.replicate r n)
theorem okMul : OpD X z (fun x y H Q => rI CMul (fun i j => V.int (i * j)) x y H Q ∨ rRep x y H Q) mulD := by
  intro F m μ ρ σ H x y v u d Qd Q S vx vy e q k
  unfold mulD at e
  split at e
  · split at e
    · rename_i i j hl
      injection e with e
      subst e
      have e1 := vx.int
      have e2 := vy.int
      subst e1 e2
      refine .inl ⟨_, _, rfl, rfl, ?_, k.now S .int q⟩
      rcases Bool.or_eq_true_iff.mp hl with h | h
      · exact .inl (smallI_ok h)
      · exact .inr (smallI_ok h)
    · cases e
  · split at e
    · rename_i a n _ hl
      injection e with e
      subst e
      obtain ⟨a, xs, rfl, h1, r1⟩ := vx.list S.same
      have e2 := vy.int
      subst e2
      obtain ⟨g1, g2⟩ := Bool.and_eq_true_iff.mp hl
      have g3 := smallI_ok g1
      refine .inr ⟨a, n, xs, rfl, rfl, h1, by omega, by omega, ?_, fun p hp => k.lst S hp (r1.replicate _) q⟩
      rw [← r1.length]
      exact lineB_le g2
    · cases e
  · cases e
theorem orMul : OpR X (binaryOp .Mult) (fun x y H Q => rI CMul (fun i j => V.int (i * j)) x y H Q ∨ rRep x y H Q) := op_mul.or op_rep
theorem okFdiv : OpD X z (rI CDiv fun i j => V.int (i / j)) fdivD := by
  intro F m μ ρ σ H x y v u d Qd Q S vx vy e q k
  unfold fdivD at e
  split at e
  · split at e
    · rename_i i j hl
      injection e with e
      subst e
      have e1 := vx.int
      have e2 := vy.int
      subst e1 e2
      obtain ⟨g1, g2⟩ := Bool.and_eq_true_iff.mp hl
      exact ⟨_, _, rfl, rfl, ⟨of_decide_eq_true g1, of_decide_eq_true g2⟩, k.now S .int q⟩
    · cases e
  · cases e
theorem okMod : OpD X z (rI (fun _ j => 0 < j) fun i j => V.int (i % j)) modD := by
  intro F m μ ρ σ H x y v u d Qd Q S vx vy e q k
  unfold modD at e
  split at e
  · split at e
    · rename_i i j hl
      injection e with e
      subst e
      have e1 := vx.int
      have e2 := vy.int
      subst e1 e2
      exact ⟨_, _, rfl, rfl, of_decide_eq_true hl, k.now S .int q⟩
    · cases e
  · cases e
theorem okEq : OpD X z (rEqD X.K) eqqD := by
  intro F m μ ρ σ H x y v u d Qd Q S vx vy e q k
  unfold eqqD at e
  split at e
  · rename_i hl
    injection e with e
    subst e
    obtain ⟨g1, g2⟩ := Bool.and_eq_true_iff.mp hl
    refine ⟨_, _, vx.dp S.same g1, vy.dp S.same g2, shaped_of g1 (by decide), shaped_of g2 (by decide), ?_⟩
    rw [← eqD_py 60 60 x y g1 g2]
    exact k.now S .bl q
  · cases e
theorem okNe : OpD X z (rNeD X.K) neqD := by
  intro F m μ ρ σ H x y v u d Qd Q S vx vy e q k
  unfold neqD at e
  split at e
  · rename_i hl
    injection e with e
    subst e
    obtain ⟨g1, g2⟩ := Bool.and_eq_true_iff.mp hl
    refine ⟨_, _, vx.dp S.same g1, vy.dp S.same g2, shaped_of g1 (by decide), shaped_of g2 (by decide), ?_⟩
    rw [← eqD_py 60 60 x y g1 g2]
    exact k.now S .bl q
  · cases e
theorem okLe : OpD X z (rI0 fun i j => V.bl (decide (i ≤ j))) leD := by
  intro F m μ ρ σ H x y v u d Qd Q S vx vy e q k
  unfold leD at e
  split at e
  · injection e with e
    subst e
    have e1 := vx.int
    have e2 := vy.int
    subst e1 e2
    exact ⟨_, _, rfl, rfl, k.now S .bl q⟩
  · cases e
theorem okLt : OpD X z (rI0 fun i j => V.bl (decide (i < j))) ltD := by
  intro F m μ ρ σ H x y v u d Qd Q S vx vy e q k
  unfold ltD at e
  split at e
  · injection e with e
    subst e
    have e1 := vx.int
    have e2 := vy.int
    subst e1 e2
    exact ⟨_, _, rfl, rfl, k.now S .bl q⟩
  · cases e
theorem okGe : OpD X z (rI0 fun i j => V.bl (decide (j ≤ i))) geD := by
  intro F m μ ρ σ H x y v u d Qd Q S vx vy e q k
  unfold geD at e
  split at e
  · injection e with e
    subst e
    have e1 := vx.int
    have e2 := vy.int
    subst e1 e2
    exact ⟨_, _, rfl, rfl, k.now S .bl q⟩
  · cases e
theorem okGt : OpD X z (rI0 fun i j => V.bl (decide (j < i))) gtD := by
  intro F m μ ρ σ H x y v u d Qd Q S vx vy e q k
  unfold gtD at e
  split at e
  · injection e with e
    subst e
    have e1 := vx.int
    have e2 := vy.int
    subst e1 e2
    exact ⟨_, _, rfl, rfl, k.now S .bl q⟩
  · cases e
theorem isNon_v {K : PySem.W.Frag} {T : Tab} {F : Hp} {m : List Addr} {H : Hp} {d : D} {v : V} (r : Vw K T F m H d v) : decide (v = .non) = isNonD d := by
  cases r with
  | of r => cases r <;> simp [isNonD]
  | lst _ _ => simp [isNonD]
  | dct _ _ => simp [isNonD]
  | ins _ _ => simp [isNonD]
theorem okIs : OpD X z (fun x y H Q => (y = .non ∧ Q (.bl (decide (x = .non))) H) ∨ ∃ a b, x = V.bl a ∧ y = .bl b ∧ Q (.bl (decide (a = b))) H) isD := by
  intro F m μ ρ σ H x y v u d Qd Q S vx vy e q k
  unfold isD at e
  split at e
  · injection e with e
    subst e
    refine .inl ⟨vy.non, ?_⟩
    rw [isNon_v vx]
    exact k.now S .bl q
  · injection e with e
    subst e
    rename_i a b
    refine .inr ⟨a, b, vx.bl, vy.bl, ?_⟩
    rw [eqB_dec]
    exact k.now S .bl q
  · cases e
theorem okIsnot : OpD X z (fun x y H Q => (y = .non ∧ Q (.bl (!decide (x = .non))) H) ∨ ∃ a b, x = V.bl a ∧ y = .bl b ∧ Q (.bl (!decide (a = b))) H) isnotD := by
  intro F m μ ρ σ H x y v u d Qd Q S vx vy e q k
  unfold isnotD at e
  split at e
  · injection e with e
    subst e
    refine .inl ⟨vy.non, ?_⟩
    rw [isNon_v vx]
    exact k.now S .bl q
  · injection e with e
    subst e
    rename_i a b
    refine .inr ⟨a, b, vx.bl, vy.bl, ?_⟩
    rw [eqB_dec]
    exact k.now S .bl q
  · cases e
theorem orIs : OpR X (compareOp .Is) (fun x y H Q => (y = .non ∧ Q (.bl (decide (x = .non))) H) ∨ ∃ a b, x = V.bl a ∧ y = .bl b ∧ Q (.bl (decide (a = b))) H) := op_isN.or op_isBl
theorem orIsnot : OpR X (compareOp .IsNot) (fun x y H Q => (y = .non ∧ Q (.bl (!decide (x = .non))) H) ∨ ∃ a b, x = V.bl a ∧ y = .bl b ∧ Q (.bl (!decide (a = b))) H) := op_notN.or op_notBl
end
end Pk

/-! The data layer, part F: in, subscripts, slices, tests, and / or / not, displays. -/
namespace Pk
open PySem PySem.Spec PyProof.Rows L2
section
variable {X : Cx} {z : Zx} {pos : Pos} {a b c e : Expr} {wa wb wc : WE}

/-! ### in -/
def rDIn (f : Bool → Bool) : R2 := fun y x H Q => ∃ a o, x = .ref a ∧ DGet H a y o ∧ Q (.bl (f o.isSome)) H
theorem op_inDict (hu : X.A.units + 1 < cLine) : OpR X (compareOp .In) (rDIn fun b => b) := by
  intro pins s σ H x y v u Q I rx ry ⟨a, o, e, g, q⟩
  subst e
  obtain rfl : u = Value.ref a := ry
  exact d_in hu I g rx fun s3 I3 => ⟨.bl o.isSome, H, I3, rfl, q⟩
theorem op_ninDict (hu : X.A.units + 1 < cLine) : OpR X (compareOp .NotIn) (rDIn fun b => !b) := by
  intro pins s σ H x y v u Q I rx ry ⟨a, o, e, g, q⟩
  subst e
  obtain rfl : u = Value.ref a := ry
  exact d_notIn hu I g rx fun s3 I3 => ⟨.bl (!o.isSome), H, I3, rfl, q⟩
def rInAll (K : PySem.W.Frag) (f : Bool → Bool) : R2 := fun x y H Q =>
  (∃ d ds, Dp K H x d ∧ Dp K H y (.list ds) ∧ PySem.SeqAt.shaped d = true ∧ PySem.SeqAt.shaped (.list ds) = true ∧ Q (.bl (f (ds.any fun z => PyData.eqv z d))) H) ∨
  (∃ p xs, y = .ref p ∧ (SqL K H p xs ∨ SqT K H p xs) ∧ flatV x = true ∧ xs.all flatV = true ∧ Q (.bl (f (inV x xs))) H) ∨
  (∃ (c : Nat) (z : Str), x = .str ⟨#[c]⟩ ∧ y = .str z ∧ Q (.bl (f (decide (c ∈ z.cps.toList)))) H) ∨ rDIn f x y H Q
theorem orIn (hu : X.A.units + 65 < cLine) : OpR X (compareOp .In) (rInAll X.K fun b => b) := by
  have h := (op_inD hu).or (op_in_seq.or (op_in_sign.or (op_inDict (X := X) (by omega))))
  intro pins s σ H x y v u Q I rx ry q
  exact h pins s σ H x y v u Q I rx ry q
theorem orNin (hu : X.A.units + 65 < cLine) : OpR X (compareOp .NotIn) (rInAll X.K fun b => !b) := by
  have h := (op_notInD hu).or (op_notIn_seq.or (op_notIn_sign.or (op_ninDict (X := X) (by omega))))
  intro pins s σ H x y v u Q I rx ry q
  exact h pins s σ H x y v u Q I rx ry q
theorem anyEq_py {n k : Nat} {d : D} (hd : pureD k d = true) : ∀ {ds : List D}, pureDs n ds = true → ((toPys ds).any fun z => PyData.eqv z (toPy d)) = anyEq d ds
  | [], _ => rfl
  | x :: xs, h => by
    unfold pureDs at h
    cases q : pureD n x with
    | false => simp [q] at h
    | true =>
      show (PyData.eqv (toPy x) (toPy d) || (toPys xs).any fun z => PyData.eqv z (toPy d)) = (match eqD x d with | true => true | false => anyEq d xs)
      rw [anyEq_py hd (by simpa [q] using h), eqD_py n k x d q hd]
      cases PyData.eqv (toPy x) (toPy d) <;> rfl
theorem flat_V {K : PySem.W.Frag} {T : Tab} {F : Hp} {m : List Addr} {d : D} {v : V} (r : Rep K T F m d v) (h : flatD d = true) : flatV v = true := by
  cases r <;> first | rfl | simp [flatD] at h
theorem flats_V {K : PySem.W.Frag} {T : Tab} {F : Hp} {m : List Addr} : ∀ {ds : List D} {vs : List V}, Reps K T F m ds vs → ds.all flatD = true → vs.all flatV = true
  | _, _, .nil, _ => rfl
  | _, _, .cons r rs, h => by
    rw [List.all_cons, Bool.and_eq_true] at h ⊢
    exact ⟨flat_V r h.1, flats_V rs h.2⟩
theorem eqFlat {K : PySem.W.Frag} {T : Tab} {F : Hp} {m : List Addr} {d e : D} {v u : V} (r : Rep K T F m d v) (q : Rep K T F m e u) (hd : flatD d = true) (he : flatD e = true) : eqV v u = eqD d e := by
  have st : ∀ s t : Tx, (tx s == tx t) = eqTx s t := fun s t => by rw [eqTx_dec, Bool.eq_iff_iff, decide_eq_true_iff, beq_iff_eq, tx_inj]
  cases r <;> first | (simp [flatD] at hd; done) | skip
  all_goals (cases q <;> first | (simp [flatD] at he; done) | skip)
  all_goals first
    | rfl
    | exact st _ _
    | (rename_i b b'; cases b <;> cases b' <;> rfl)
    | (rename_i b i; cases b <;> (simp [eqV, eqD, b2]; try rfl))
    | (rename_i i b; cases b <;> (simp [eqV, eqD, b2]; try rfl))
    | (simp [eqV, eqD]; try rfl)
theorem anyFlat {K : PySem.W.Frag} {T : Tab} {F : Hp} {m : List Addr} {d : D} {v : V} (r : Rep K T F m d v) (hd : flatD d = true) : ∀ {ds : List D} {vs : List V}, Reps K T F m ds vs → ds.all flatD = true → inV v vs = anyEq d ds
  | _, _, .nil, _ => rfl
  | _, _, .cons (d := x) (v := u) q rs, h => by
    rw [List.all_cons, Bool.and_eq_true] at h
    show (eqV u v || inV v _) = (match eqD x d with | true => true | false => anyEq d _)
    rw [anyFlat r hd rs h.2, eqFlat q r h.1 hd]
    cases eqD x d <;> rfl
theorem memTx_iff (c : Nat) : ∀ s : Tx, decide (c ∈ s) = memTx c s
  | [] => rfl
  | d :: s => by
    unfold memTx
    cases h : Nat.beq d c with
    | true =>
      have e := Nat.eq_of_beq_eq_true h
      subst e
      simp
    | false =>
      have e : d ≠ c := Nat.ne_of_beq_eq_false h
      show decide (c ∈ d :: s) = memTx c s
      rw [← memTx_iff c s]
      simp [Ne.symm e]
theorem toK_V {K : PySem.W.Frag} {T : Tab} {F : Hp} {m : List Addr} {H : Hp} {d : D} {v : V} {k : DK} (r : Vw K T F m H d v) (h : toK d = some k) : v = kV k.key := by
  cases d with
  | int i =>
    injection h with h
    subst h
    exact r.int
  | str s =>
    injection h with h
    subst h
    exact r.str
  | _ => cases h
theorem getK_V {K : PySem.W.Frag} {T : Tab} {F : Hp} {m : List Addr} {k : DK} : ∀ {ds : List (DK × D)} {vs : List (Key × V)}, RepK K T F m ds vs →
    (∀ d, getK ds k = some d → ∃ v, valV vs k.key = some v ∧ Rep K T F m d v) ∧ (getK ds k = none → valV vs k.key = none)
  | _, _, .nil => ⟨(fun d h => by cases h), (fun _ => rfl)⟩
  | _, _, .cons (k := j) (d := x) (v := u) r rs => by
    have ih := getK_V (k := k) rs
    unfold getK
    cases q : eqDK j k with
    | true =>
      have e := eqDK_iff.mp q
      subst e
      refine ⟨fun d h => ?_, (fun h => by cases h)⟩
      injection h with h
      subst h
      exact ⟨_, valV_pos rfl, r⟩
    | false =>
      have e : ¬ j.key = k.key := fun e => by
        have := eqDK_iff.mpr (key_inj.mp e)
        rw [q] at this
        cases this
      rw [valV_neg e]
      exact ih
theorem getK_some {K : PySem.W.Frag} {T : Tab} {F : Hp} {m : List Addr} {k : DK} {ds : List (DK × D)} {vs : List (Key × V)} (r : RepK K T F m ds vs) : (valV vs k.key).isSome = (getK ds k).isSome := by
  obtain ⟨h1, h2⟩ := getK_V (k := k) r
  cases q : getK ds k with
  | none => rw [h2 q] <;> rfl
  | some d =>
    obtain ⟨v, h3, _⟩ := h1 d q
    rw [h3] <;> rfl
theorem okIn (f : Bool → Bool) {g : D → D → Option D} (hg : ∀ x y d, g x y = some d → ∃ b, inD? x y = some b ∧ d = .bl (f b)) : OpD X z (rInAll X.K f) g := by
  intro F m μ ρ σ H x y v u d Qd Q S vx vy e q k
  obtain ⟨b, e', rfl⟩ := hg x y d e
  clear e
  have e := e'
  clear e'
  unfold inD? at e
  split at e
  · split at e
    · rename_i ys _ hl
      injection e with e
      subst e
      obtain ⟨g1, g2⟩ := Bool.and_eq_true_iff.mp hl
      have g3 : pureDs 59 ys = true := by simpa [pureD] using g2
      refine .inl ⟨_, _, vx.dp S.same g1, vy.dp S.same g2, shaped_of g1 (by decide), shaped_of g2 (by decide), ?_⟩
      rw [anyEq_py g1 g3]
      exact k.now S .bl q
    · cases e
  · split at e
    · rename_i ys _ hl
      injection e with e
      subst e
      obtain ⟨g1, g2⟩ := Bool.and_eq_true_iff.mp hl
      obtain ⟨a, xs, rfl, h1, r1⟩ := vy.tup S.same
      have vx' : Rep X.K z.T F m x v := by
        cases vx with
        | of r => exact r
        | _ => simp [flatD] at g1
      refine .inr (.inl ⟨a, xs, rfl, .inr h1, flat_V vx' g1, flats_V r1 g2, ?_⟩)
      rw [anyFlat vx' g1 r1 g2]
      exact k.now S .bl q
    · cases e
  · injection e with e
    subst e
    refine .inr (.inr (.inl ⟨_, _, vx.str, vy.str, ?_⟩))
    have e2 : ∀ t : Tx, (tx t).cps.toList = t := fun t => by simp [tx]
    rw [e2, memTx_iff]
    exact k.now S .bl q
  · split at e
    · rename_i kvs _ kk hk
      injection e with e
      subst e
      obtain ⟨a, vs, rfl, h1, r1⟩ := vy.dict S.same
      refine .inr (.inr (.inr ⟨a, _, rfl, .inl ⟨vs, kk.key, h1, toK_V vx hk, rfl⟩, ?_⟩))
      rw [getK_some r1]
      exact k.now S .bl q
    · cases e
  · cases e
theorem de_in (hu : X.A.units + 65 < cLine) (ha : DE X z a wa) (hb : DE X z b wb) (hm : behindInMarks .In b = false := by rfl) : DE X z (.Compare a [.In] [b] pos) (w2 inD wa wb) :=
  de_cmp (orIn hu) (okIn (fun b => b) fun x y d e => by
    unfold inD at e
    split at e
    · rename_i b h
      injection e with e
      exact ⟨b, h, e.symm⟩
    · cases e) hm ha hb
theorem de_nin (hu : X.A.units + 65 < cLine) (ha : DE X z a wa) (hb : DE X z b wb) (hm : behindInMarks .NotIn b = false := by rfl) : DE X z (.Compare a [.NotIn] [b] pos) (w2 ninD wa wb) :=
  de_cmp (orNin hu) (okIn (fun b => !b) fun x y d e => by
    unfold ninD at e
    split at e
    · rename_i b h
      injection e with e
      exact ⟨b, h, e.symm⟩
    · cases e) hm ha hb

/-! ### one item -/
def rIxD : R2 := fun x y H Q => ∃ a kvs k v, x = .ref a ∧ Rd H a (.dK kvs) ∧ y = kV k ∧ valV kvs k = some v ∧ Q v H
theorem ix_dict (hu : X.A.units + 1 < cLine) : IxR X rIxD := by
  intro value slice pins s σ H x y v u Q I rx ry ⟨a, kvs, k, w, e, ea, ey, ev, q⟩ hs
  subst e
  obtain rfl : v = Value.ref a := rx
  have g : DGet H a y (some w) := .inl ⟨kvs, k, ea, ey, ev.symm⟩
  exact tail_any (dict_typeIs I g) PySem.F.slot_dict_getitem.lookup (d_getItem hu I g ry fun w' s3 I3 rw' => ⟨w, H, I3, rw', q⟩) hs
theorem IxR.or {r r' : R2} (h : IxR X r) (h' : IxR X r') : IxR X (fun x y H Q => r x y H Q ∨ r' x y H Q) := by
  intro value slice pins s σ H x y v u Q I rx ry q hs
  rcases q with q | q
  · exact h value slice pins s σ H x y v u Q I rx ry q hs
  · exact h' value slice pins s σ H x y v u Q I rx ry q hs
def nthG {α : Type} : List α → Nat → Option α
  | [], _ => none
  | x :: _, 0 => some x
  | _ :: r, n + 1 => nthG r n
theorem nthG_eq {α : Type} : ∀ (xs : List α) (n : Nat), nthG xs n = xs[n]?
  | [], _ => by simp [nthG]
  | x :: r, 0 => by simp [nthG]
  | x :: r, n + 1 => by simpa [nthG] using nthG_eq r n
/-- xs[i], i of any sign -/
def atG {α : Type} (xs : List α) (i : Int) : Option α := match i with
  | .ofNat n => nthG xs n
  | .negSucc n => match Nat.ble (n + 1) xs.length with
    | true => nthG xs (xs.length - (n + 1))
    | false => none
theorem atG_eq {α : Type} {xs : List α} {i : Int} {x : α} (h : atG xs i = some x) : atI xs i = some x := by
  unfold atG at h
  split at h
  · rename_i n
    rw [nthG_eq] at h
    exact atI_nat h
  · rename_i n
    split at h
    · rename_i hb
      have hle := Nat.le_of_ble_eq_true hb
      rw [nthG_eq] at h
      unfold atI ixN
      have e0 : ¬ (0 : Int) ≤ Int.negSucc n := by omega
      have e1 : -((xs.length : Nat) : Int) ≤ Int.negSucc n := by omega
      have e2 : (Int.negSucc n + (xs.length : Int)).toNat = xs.length - (n + 1) := by omega
      rw [if_neg e0, if_pos e1, e2]
      exact h
    · cases h
/-- d[t], t a tuple -/
def rIxP (K : PySem.W.Frag) : R2 := fun x y H Q => ∃ a kvs b k v, x = .ref a ∧ Rd H a (.dT kvs) ∧ y = .ref b ∧ SqT K H b (k.map kV) ∧ valV kvs k = some v ∧ Q v H
theorem ix_dictP (hu : X.A.units + 1 < cLine) : IxR X (rIxP X.K) := by
  intro value slice pins s σ H x y v u Q I rx ry ⟨a, kvs, b, k, w, e, ea, ey, eb, ev, q⟩ hs
  subst e
  obtain rfl : v = Value.ref a := rx
  subst ey
  obtain rfl : u = Value.ref b := ry
  obtain ⟨z, hd, xs, rel, dd⟩ := dt_rd I.hok ea
  obtain ⟨its, r, ⟨o, h1, h2, n, h3⟩, hz⟩ := I.tuple eb
  have key : (tupleKind (mixKind X.prog X.w)).is s.heap k b := ⟨o, its.toArray, n, h1, h2, h3, by simpa using items_are r⟩
  obtain ⟨w', hw, rw'⟩ := RelO.some_of (v := w) (o := (atKey xs k).map (·.2)) (by rw [← ev]; exact rel.val k)
  obtain ⟨p, hp, hp2⟩ := Option.map_eq_some_iff.mp hw
  refine tail_any dd.typeIs PySem.F.slot_dict_getitem.lookup (wpAny_getItem_heap (tupleKind_room_in1 hu) key dd hp ?_) hs
  rw [hp2]
  exact ⟨w, H, I.tok _, rw', q⟩
def toKs : List D → Option (List DK)
  | [] => some []
  | x :: r => match toK x, toKs r with
    | some k, some ks => some (k :: ks)
    | _, _ => none
def getP : List (List DK) → List D → List DK → Option D
  | k :: ks, d :: ds, q => match decide (k = q) with
    | true => some d
    | false => getP ks ds q
  | _, _, _ => none
theorem keys_inj : ∀ {a b : List DK}, a.map DK.key = b.map DK.key → a = b
  | [], [], _ => rfl
  | [], _ :: _, h => by cases h
  | _ :: _, [], h => by cases h
  | x :: a, y :: b, h => by
    injection h with h1 h2
    rw [key_inj.mp h1, keys_inj h2]
theorem getP_V {K : PySem.W.Frag} {T : Tab} {F : Hp} {m : List Addr} {q : List DK} {d : D} : ∀ {ks : List (List DK)} {ds : List D} {vs : List V}, Reps K T F m ds vs → getP ks ds q = some d → ∃ v, valV ((keysK ks).zip vs) (q.map DK.key) = some v ∧ Rep K T F m d v
  | [], _, _, _, e => by simp [getP] at e
  | _ :: _, [], _, _, e => by simp [getP] at e
  | k :: ks, _, _, .cons (d := x) (v := v) (vs := vs) h r, e => by
    unfold getP at e
    have z : (keysK (k :: ks)).zip (v :: vs) = (k.map DK.key, v) :: (keysK ks).zip vs := rfl
    rw [z]
    by_cases w : k = q
    · subst w
      simp only [decide_true, Option.some.injEq] at e
      subst e
      exact ⟨v, valV_pos rfl, h⟩
    · simp only [w, decide_false] at e
      rw [valV_neg (fun z => w (keys_inj z))]
      exact getP_V r e
theorem toKs_V {K : PySem.W.Frag} {T : Tab} {F : Hp} {m : List Addr} {H : Hp} : ∀ {ds : List D} {vs : List V} {ks : List DK}, Reps K T F m ds vs → toKs ds = some ks → vs = (ks.map DK.key).map kV
  | _, _, ks, .nil, e => by
    injection e with e
    subst e
    rfl
  | _, _, ks, .cons h r, e => by
    unfold toKs at e
    split at e
    · rename_i k ks' h1 h2
      injection e with e
      subst e
      rw [toK_V (H := H) (.of h) h1, toKs_V (H := H) r h2]
      rfl
    · cases e
def ixD : D → D → Option D
  | .lst xs, .int i => atG xs i
  | .tup xs, .int i => atG xs i
  | .str s, .int i => match lineB s.length, atG s i with
    | true, some c => some (.str [c])
    | _, _ => none
  | .scr xs, .int i => match atG xs i with
    | some k => some (.int k)
    | none => none
  | .dct kvs, k => match toK k with
    | some k => getK kvs k
    | none => none
  | .dcp ks ds, .tup xs => match toKs xs with
    | some q => getP ks ds q
    | none => none
  | _, _ => none
def rIxAll (K : PySem.W.Frag) : R2 := fun x y H Q => rIxL K x y H Q ∨ rIxT K x y H Q ∨ rIxS x y H Q ∨ rIxD x y H Q ∨ rIxP K x y H Q
theorem ixAll (hu : X.A.units + 1 < cLine) : IxR X (rIxAll X.K) := IxR.or ix_list (IxR.or ix_tup (IxR.or ix_str (IxR.or (ix_dict hu) (ix_dictP hu))))
theorem Reps.at_ {K : PySem.W.Frag} {T : Tab} {F : Hp} {m : List Addr} {ds : List D} {vs : List V} {i : Int} {d : D} (r : Reps K T F m ds vs) (h : atG ds i = some d) : ∃ v, atI vs i = some v ∧ Rep K T F m d v := by
  have h2 := atG_eq h
  unfold atI at h2 ⊢
  rw [← r.length]
  cases q : ixN ds.length i with
  | none => rw [q] at h2; cases h2
  | some j =>
    rw [q] at h2
    exact r.get h2
theorem okIx : OpD X z (rIxAll X.K) ixD := by
  intro F m μ ρ σ H x y v u d Qd Q S vx vy e q k
  unfold ixD at e
  split at e
  · obtain ⟨a, xs, rfl, h1, r1⟩ := vx.list S.same
    obtain ⟨w, h2, r2⟩ := r1.at_ e
    exact .inl ⟨a, xs, _, w, rfl, vy.int, SqL.of h1, h2, k.now S r2 q⟩
  · obtain ⟨a, xs, rfl, h1, r1⟩ := vx.tup S.same
    obtain ⟨w, h2, r2⟩ := r1.at_ e
    exact .inr (.inl ⟨a, xs, _, w, rfl, vy.int, h1, h2, k.now S r2 q⟩)
  · rename_i s i
    split at e
    · rename_i c h1 h2
      injection e with e
      subst e
      refine .inr (.inr (.inl ⟨_, i, c, vx.str, vy.int, by rw [tx_len]; exact lineB_le h1, ?_, k.now S .str q⟩))
      have e2 : (tx s).cps.toList = s := by simp [tx]
      rw [e2]
      exact atG_eq h2
    · cases e
  · split at e
    · rename_i xs i _ j h1
      injection e with e
      subst e
      obtain ⟨a, rfl, h2⟩ := vx.scr S.same
      refine .inl ⟨a, _, i, .int j, rfl, vy.int, h2, ?_, k.now S .int q⟩
      have h3 := atG_eq h1
      unfold atI at h3 ⊢
      rw [List.length_map]
      cases q1 : ixN xs.length i with
      | none => rw [q1] at h3; cases h3
      | some j' =>
        rw [q1] at h3
        show (xs.map V.int)[j']? = some (.int j)
        rw [List.getElem?_map]
        have h4 : xs[j']? = some j := h3
        rw [h4] <;> rfl
    · cases e
  · split at e
    · rename_i kvs _ kk hk
      obtain ⟨a, vs, rfl, h1, r1⟩ := vx.dict S.same
      obtain ⟨w, h2, r2⟩ := (getK_V (k := kk) r1).1 d e
      exact .inr (.inr (.inr (.inl ⟨a, vs, _, w, rfl, h1, toK_V vy hk, h2, k.now S r2 q⟩)))
    · cases e
  · split at e
    · rename_i ks ds xs q hq
      obtain ⟨a, o, vs, rfl, h1, _, _, r1⟩ := vx.dcp S.same
      obtain ⟨b, us, rfl, h2, r2⟩ := vy.tup S.same
      obtain ⟨w, h3, r3⟩ := getP_V r1 e
      have h4 := toKs_V (H := H) r2 hq
      subst h4
      exact .inr (.inr (.inr (.inr ⟨a, _, b, _, w, rfl, .inr ⟨o, S.same _ _ h1⟩, rfl, h2, h3, k.now S r3 (by assumption)⟩)))
    · cases e
  · cases e
theorem de_ix (hu : X.A.units + 1 < cLine) (ha : DE X z a wa) (hb : DE X z b wb) (hs : PlainIx b := by exact fun _ _ => rfl) : DE X z (.Subscript a b pos) (w2 ixD wa wb) := fun Wd tk =>
  peI (pe_ix (ixAll hu) (ha Wd tk) (hb Wd tk) hs) fun σ H Q h => op_run okIx h
end
end Pk

/-! The data layer, part G: tests, and / or / not, slices, displays, arguments. -/
namespace Pk
open PySem PySem.Spec PyProof.Rows L2

/-! ### truth -/
def nilB {α : Type} : List α → Bool
  | [] => true
  | _ => false
def truD : D → Option Bool
  | .non => some false
  | .bl b => some b
  | .int i => some (!decide (i = 0))
  | .str s => match lineB s.length with
    | true => some (!nilB s)
    | false => none
  | .lst xs => some (!nilB xs)
  | .tup xs => some (!nilB xs)
  | _ => none
theorem nilB_eq {α : Type} (xs : List α) : nilB xs = xs.isEmpty := by cases xs <;> rfl
section
variable {K : PySem.W.Frag} {T : Tab} {F : Hp} {m : List Addr} {H : Hp}
theorem Reps.emp {ds : List D} {vs : List V} (r : Reps K T F m ds vs) : nilB ds = vs.isEmpty := by cases r <;> rfl
theorem RepK.emp {ds : List (DK × D)} {vs : List (Key × V)} (r : RepK K T F m ds vs) : nilB ds = vs.isEmpty := by cases r <;> rfl
theorem truV_of (s : Same F H) {d : D} {v : V} {k : Bool} (r : Vw K T F m H d v) (h : truD d = some k) : TruV K v H k := by
  unfold truD at h
  split at h
  · injection h with h
    subst h
    rw [r.non]
    exact rfl
  · injection h with h
    subst h
    rw [r.bl]
    exact rfl
  · injection h with h
    subst h
    rename_i i
    rw [r.int]
    show (!decide (i = 0)) = (i != 0)
    rw [bne, Bool.beq_eq_decide_eq]
  · split at h
    · rename_i s _ hl
      injection h with h
      subst h
      rw [r.str]
      refine ⟨by rw [tx_len]; exact lineB_le hl, ?_⟩
      rw [tx_len]
      cases s with
      | nil => rfl
      | cons c s =>
        show true = ((((c :: s).length : Nat) : Int) != 0)
        have : (((c :: s).length : Nat) : Int) ≠ 0 := by simp only [List.length_cons]; omega
        simpa using this
    · cases h
  · injection h with h
    subst h
    obtain ⟨a, vs, rfl, h1, r1⟩ := r.list s
    exact .inl ⟨vs, SqL.of h1, by rw [r1.emp]⟩
  · injection h with h
    subst h
    obtain ⟨a, vs, rfl, h1, r1⟩ := r.tup s
    exact .inr (.inl ⟨vs, h1, by rw [r1.emp]⟩)
  · cases h
end

/-! ### tests -/
abbrev WT := Slots → Sto → (Bool → Sto → Prop) → QX → Prop
def tDT (K : PySem.W.Frag) (z : Zx) (Wd : WXd) (w : WT) : TT := fun σ H Q => ∃ F m μ ρ Qd, SimZ K z F m μ ρ σ H ∧ w ρ μ Qd (fun x μ' => Wd x ρ μ') ∧
  ∀ F' m' μ' b H', Ext F m H F' m' H' → SimZ K z F' m' μ' ρ σ H' → Qd b μ' → Q b H'
def DT (X : Cx) (z : Zx) (e : Expr) (w : WT) : Prop := ∀ Wd, Takes X (XW X.K z Wd) → PT X e (tDT X.K z Wd w)
def DW (X : Cx) (z : Zx) (e : Expr) (w : WT) : Prop := ∀ Wd, Takes X (XW X.K z Wd) → PW X e (tDT X.K z Wd w)
theorem ptI {X : Cx} {e : Expr} {t t' : TT} (h : PT X e t) (f : ∀ σ H Q, t' σ H Q → t σ H Q) : PT X e t' := ⟨fun pins s σ H Q I q => h.run pins s σ H Q I (f _ _ _ q)⟩
theorem pwI {X : Cx} {e : Expr} {t t' : TT} (h : PW X e t) (f : ∀ σ H Q, t' σ H Q → t σ H Q) : PW X e t' := ⟨fun wh pins s σ H Q I q => h.run wh pins s σ H Q I (f _ _ _ q)⟩
/-- a value as a test -/
def tTru (w : WE) : WT := fun ρ μ Q E => w ρ μ (fun x μ1 => match truD (look μ1 x) with
  | some b => Q b μ1
  | none => False) E
/-- an answer True or False as a test -/
def tBl (w : WE) : WT := fun ρ μ Q E => w ρ μ (fun x μ1 => match x with
  | .bl b => Q b μ1
  | _ => False) E
def tAn (t u : WT) : WT := fun ρ μ Q E => t ρ μ (fun b μ1 => match b with
  | true => u ρ μ1 Q E
  | false => Q false μ1) E
def tOr' (t u : WT) : WT := fun ρ μ Q E => t ρ μ (fun b μ1 => match b with
  | true => Q true μ1
  | false => u ρ μ1 Q E) E
def tNo (t : WT) : WT := fun ρ μ Q E => t ρ μ (fun b μ1 => Q (!b) μ1) E
def wAnd (wa wb : WE) : WE := fun ρ μ Q E => wa ρ μ (fun x μ1 => match truD (look μ1 x) with
  | some true => wb ρ μ1 Q E
  | some false => Q x μ1
  | none => False) E
def wOr (wa wb : WE) : WE := fun ρ μ Q E => wa ρ μ (fun x μ1 => match truD (look μ1 x) with
  | some true => Q x μ1
  | some false => wb ρ μ1 Q E
  | none => False) E
def wNot (wa : WE) : WE := fun ρ μ Q E => wa ρ μ (fun x μ1 => match truD (look μ1 x) with
  | some b => Q (.bl (!b)) μ1
  | none => False) E
def wIf (t : WT) (wa wb : WE) : WE := fun ρ μ Q E => t ρ μ (fun b μ1 => match b with
  | true => wa ρ μ1 Q E
  | false => wb ρ μ1 Q E) E
def wCh (f g : D → D → Option D) (wa wb wc : WE) : WE := fun ρ μ Q E => wa ρ μ (fun x μ1 => wb ρ μ1 (fun y μ2 => match f (look μ2 x) (look μ2 y) with
  | some (.bl true) => wc ρ μ2 (fun u μ3 => match g (look μ3 y) (look μ3 u) with
    | some d => Q d μ3
    | none => False) E
  | some (.bl false) => Q (.bl false) μ2
  | _ => False) E) E
section
variable {X : Cx} {z : Zx} {pos : Pos} {a b c e : Expr} {wa wb wc w : WE} {t u : WT} {rest : List Expr}
theorem dt_truth (h : DE X z e w) (he : ∀ whole, isTrue e X.env whole = (do let v ← whole; standAt e.pos; holding [v] (truthy v)) := by intro _; rfl) : DT X z e (tTru w) := fun Wd tk =>
  ptI (pt_truth (h Wd tk) he) fun σ H Q ⟨F, m, μ, ρ, Qd, S, h, k⟩ => ⟨F, m, μ, ρ, _, S, h, fun F1 m1 μ1 d1 v1 H1 x1 S1 r1 q1 => by
    cases q : truD (look μ1 d1) with
    | none =>
      rw [q] at q1
      exact q1.elim
    | some b =>
      rw [q] at q1
      exact ⟨b, truV_of S1.same (S1.view r1) q, k _ _ _ _ _ x1 S1 q1⟩⟩
theorem test_run {r : R2} {f : D → D → Option D} {Wd : WXd} (ok : OpD X z r f) {σ : L2.St} {H : Hp} {Q : Bool → Hp → Prop} (h : tDT X.K z Wd (tBl (w2 f wa wb)) σ H Q) : tTest (tOp r (tD X.K z Wd wa) (tD X.K z Wd wb)) σ H Q := by
  obtain ⟨F, m, μ, ρ, Qd, S, h, k⟩ := h
  refine op_run ok ⟨F, m, μ, ρ, _, S, h, fun F1 m1 μ1 d1 v1 H1 x1 S1 r1 q1 => ?_⟩
  cases r1 with
  | bl => exact ⟨_, rfl, k _ _ _ _ _ x1 S1 q1⟩
  | _ => exact q1.elim
theorem dt_cmp {op : CmpOp} {r : R2} {f : D → D → Option D} (ho : OpR X (compareOp op) r) (ok : OpD X z r f) (hm : behindInMarks op b = false) (ha : DE X z a wa) (hb : DE X z b wb) : DT X z (.Compare a [op] [b] pos) (tBl (w2 f wa wb)) := fun Wd tk =>
  ptI (pt_cmpR ho (ha Wd tk) (hb Wd tk) hm) fun σ H Q h => test_run ok h
theorem okIn1 : OpD X z (rInAll X.K fun b => b) inD := okIn (fun b => b) fun x y d e => by
  unfold inD at e
  split at e
  · rename_i b h
    injection e with e
    exact ⟨b, h, e.symm⟩
  · cases e
theorem okNin1 : OpD X z (rInAll X.K fun b => !b) ninD := okIn (fun b => !b) fun x y d e => by
  unfold ninD at e
  split at e
  · rename_i b h
    injection e with e
    exact ⟨b, h, e.symm⟩
  · cases e
theorem DW.dt (h : DW X z e t) : DT X z e t := fun Wd tk => (h Wd tk).pt
theorem dw_and1 (ha : DT X z a t) : DW X z (.BoolOp .And [a] pos) t := fun Wd tk => pw_and1 (ha Wd tk)
theorem dw_or1 (ha : DT X z a t) : DW X z (.BoolOp .Or [a] pos) t := fun Wd tk => pw_or1 (ha Wd tk)
theorem dw_and (ha : DT X z a t) (hb : DW X z (.BoolOp .And (b :: rest) pos) u) : DW X z (.BoolOp .And (a :: b :: rest) pos) (tAn t u) := fun Wd tk =>
  pwI (pw_and (ha Wd tk) (hb Wd tk)) fun σ H Q ⟨F, m, μ, ρ, Qd, S, h, k⟩ => ⟨F, m, μ, ρ, _, S, h, fun F1 m1 μ1 b H1 x1 S1 q1 => by
    cases b with
    | true =>
      rw [if_pos rfl]
      exact ⟨F1, m1, μ1, ρ, Qd, S1, q1, fun F2 m2 μ2 b H2 x2 => k F2 m2 μ2 b H2 (x1.trans x2)⟩
    | false =>
      rw [if_neg (by decide)]
      exact k _ _ _ _ _ x1 S1 q1⟩
theorem dw_or (ha : DT X z a t) (hb : DW X z (.BoolOp .Or (b :: rest) pos) u) : DW X z (.BoolOp .Or (a :: b :: rest) pos) (tOr' t u) := fun Wd tk =>
  pwI (pw_or (ha Wd tk) (hb Wd tk)) fun σ H Q ⟨F, m, μ, ρ, Qd, S, h, k⟩ => ⟨F, m, μ, ρ, _, S, h, fun F1 m1 μ1 b H1 x1 S1 q1 => by
    cases b with
    | false =>
      rw [if_neg (by decide)]
      exact ⟨F1, m1, μ1, ρ, Qd, S1, q1, fun F2 m2 μ2 b H2 x2 => k F2 m2 μ2 b H2 (x1.trans x2)⟩
    | true =>
      rw [if_pos rfl]
      exact k _ _ _ _ _ x1 S1 q1⟩
theorem dt_not (ha : DT X z a t) : DT X z (.UnaryOp .Not a pos) (tNo t) := fun Wd tk =>
  ptI (pt_not (ha Wd tk)) fun σ H Q ⟨F, m, μ, ρ, Qd, S, h, k⟩ => ⟨F, m, μ, ρ, _, S, h, fun F1 m1 μ1 b H1 x1 S1 q1 => k _ _ _ _ _ x1 S1 q1⟩
theorem de_one {op} (h : DE X z a w) : DE X z (.BoolOp op [a] pos) w := fun Wd tk => pe_one (h Wd tk)
theorem de_and (ha : DE X z a wa) (hb : DE X z (.BoolOp .And (b :: rest) pos) wb) : DE X z (.BoolOp .And (a :: b :: rest) pos) (wAnd wa wb) := fun Wd tk =>
  peI (pe_andT (ha Wd tk) (hb Wd tk)) fun σ H Q ⟨F, m, μ, ρ, Qd, S, h, k⟩ => ⟨F, m, μ, ρ, _, S, h, fun F1 m1 μ1 d1 v1 H1 x1 S1 r1 q1 => by
    cases q : truD (look μ1 d1) with
    | none => rw [q] at q1; exact q1.elim
    | some b =>
      rw [q] at q1
      refine ⟨b, truV_of S1.same (S1.view r1) q, ?_⟩
      cases b with
      | true =>
        rw [if_pos rfl]
        exact ⟨F1, m1, μ1, ρ, Qd, S1, q1, fun F2 m2 μ2 d v H2 x2 => k F2 m2 μ2 d v H2 (x1.trans x2)⟩
      | false =>
        rw [if_neg (by decide)]
        exact k _ _ _ _ _ _ x1 S1 r1 q1⟩
theorem de_or (ha : DE X z a wa) (hb : DE X z (.BoolOp .Or (b :: rest) pos) wb) : DE X z (.BoolOp .Or (a :: b :: rest) pos) (wOr wa wb) := fun Wd tk =>
  peI (pe_orT (ha Wd tk) (hb Wd tk)) fun σ H Q ⟨F, m, μ, ρ, Qd, S, h, k⟩ => ⟨F, m, μ, ρ, _, S, h, fun F1 m1 μ1 d1 v1 H1 x1 S1 r1 q1 => by
    cases q : truD (look μ1 d1) with
    | none => rw [q] at q1; exact q1.elim
    | some b =>
      rw [q] at q1
      refine ⟨b, truV_of S1.same (S1.view r1) q, ?_⟩
      cases b with
      | false =>
        rw [if_neg (by decide)]
        exact ⟨F1, m1, μ1, ρ, Qd, S1, q1, fun F2 m2 μ2 d v H2 x2 => k F2 m2 μ2 d v H2 (x1.trans x2)⟩
      | true =>
        rw [if_pos rfl]
        exact k _ _ _ _ _ _ x1 S1 r1 q1⟩
theorem de_not (ha : DE X z a wa) : DE X z (.UnaryOp .Not a pos) (wNot wa) := fun Wd tk =>
  peI (pe_notT (ha Wd tk)) fun σ H Q ⟨F, m, μ, ρ, Qd, S, h, k⟩ => ⟨F, m, μ, ρ, _, S, h, fun F1 m1 μ1 d1 v1 H1 x1 S1 r1 q1 => by
    cases q : truD (look μ1 d1) with
    | none => rw [q] at q1; exact q1.elim
    | some b =>
      rw [q] at q1
      exact ⟨b, truV_of S1.same (S1.view r1) q, k _ _ _ _ _ _ x1 S1 .bl q1⟩⟩
theorem de_if (hc : DT X z c t) (ha : DE X z a wa) (hb : DE X z b wb) : DE X z (.IfExp c a b pos) (wIf t wa wb) := fun Wd tk =>
  peI (pe_ifExp (hc Wd tk) (ha Wd tk) (hb Wd tk)) fun σ H Q ⟨F, m, μ, ρ, Qd, S, h, k⟩ => ⟨F, m, μ, ρ, _, S, h, fun F1 m1 μ1 b H1 x1 S1 q1 => by
    cases b with
    | true =>
      rw [if_pos rfl]
      exact ⟨F1, m1, μ1, ρ, Qd, S1, q1, fun F2 m2 μ2 d v H2 x2 => k F2 m2 μ2 d v H2 (x1.trans x2)⟩
    | false =>
      rw [if_neg (by decide)]
      exact ⟨F1, m1, μ1, ρ, Qd, S1, q1, fun F2 m2 μ2 d v H2 x2 => k F2 m2 μ2 d v H2 (x1.trans x2)⟩⟩
theorem chain_run {r r' : R2} {f g : D → D → Option D} {Wd : WXd} (ok : OpD X z r f) (ok' : OpD X z r' g) {σ : L2.St} {H : Hp} {Q : VK} (h : tD X.K z Wd (wCh f g wa wb wc) σ H Q) :
    tChain r r' (tD X.K z Wd wa) (tD X.K z Wd wb) (tD X.K z Wd wc) σ H Q := by
  obtain ⟨F, m, μ, ρ, Qd, S, h, k⟩ := h
  refine ⟨F, m, μ, ρ, _, S, h, fun F1 m1 μ1 d1 v1 H1 x1 S1 r1 q1 => ⟨F1, m1, μ1, ρ, _, S1, q1, fun F2 m2 μ2 d2 v2 H2 x2 S2 r2 q2 => ?_⟩⟩
  cases e : f (look μ2 d1) (look μ2 d2) with
  | none => rw [e] at q2; exact q2.elim
  | some d =>
    rw [e] at q2
    have q3 : (match d with
      | .bl true => wc ρ μ2 (fun u μ3 => match g (look μ3 d2) (look μ3 u) with | some d => Qd d μ3 | none => False) (fun x μ' => Wd x ρ μ')
      | .bl false => Qd (.bl false) μ2
      | _ => False) := by
      cases d with
      | bl b => cases b <;> exact q2
      | _ => exact q2
    refine ok F2 m2 μ2 ρ σ H2 _ _ _ _ d (fun d' μ' => d' = d ∧ μ' = μ2) _ S2 (S2.view (r1.mono x2.gr)) (S2.view r2) e ⟨rfl, rfl⟩ fun F3 m3 μ3 d3 v3 H3 x3 S3 r3 q4 => ?_
    obtain ⟨e1, e2⟩ := q4
    subst e1 e2
    cases r3 with
    | bl =>
      rename_i b
      refine ⟨b, rfl, ?_⟩
      cases b with
      | true =>
        rw [if_pos rfl]
        refine ⟨F3, m3, _, ρ, _, S3, q3, fun F4 m4 μ4 d4 v4 H4 x4 S4 r4 q5 => ?_⟩
        cases e3 : g (look μ4 d2) (look μ4 d4) with
        | none => rw [e3] at q5; exact q5.elim
        | some d5 =>
          rw [e3] at q5
          exact ok' F4 m4 μ4 ρ σ H4 _ _ _ _ d5 Qd Q S4 (S4.view (r2.mono (x3.trans x4).gr)) (S4.view r4) e3 q5 fun F5 m5 μ5 d5 v5 H5 x5 => k F5 m5 μ5 d5 v5 H5 (x1.trans (x2.trans (x3.trans (x4.trans x5))))
      | false =>
        rw [if_neg (by decide)]
        exact k _ _ _ _ _ _ (x1.trans (x2.trans x3)) S3 .bl q3
    | _ => exact q3.elim
theorem de_chain {op op' : CmpOp} {r r' : R2} {f g : D → D → Option D} (ho : OpR X (compareOp op) r) (ok : OpD X z r f) (ho' : OpR X (compareOp op') r') (ok' : OpD X z r' g) (ha : DE X z a wa) (hb : DE X z b wb) (hc : DE X z c wc)
    (hm : lastMarks [op, op'] [b, c] = false := by with_unfolding_all rfl) : DE X z (.Compare a [op, op'] [b, c] pos) (wCh f g wa wb wc) := fun Wd tk =>
  peI (pe_chain ho ho' (ha Wd tk) (hb Wd tk) (hc Wd tk) hm) fun σ H Q h => chain_run ok ok' h
theorem dt_chain {op op' : CmpOp} {r r' : R2} {f g : D → D → Option D} (ho : OpR X (compareOp op) r) (ok : OpD X z r f) (ho' : OpR X (compareOp op') r') (ok' : OpD X z r' g) (ha : DE X z a wa) (hb : DE X z b wb) (hc : DE X z c wc)
    (hm : lastMarks [op, op'] [b, c] = false := by with_unfolding_all rfl) : DT X z (.Compare a [op, op'] [b, c] pos) (tBl (wCh f g wa wb wc)) := fun Wd tk =>
  ptI (pt_chain ho ho' (ha Wd tk) (hb Wd tk) (hc Wd tk) hm) fun σ H Q ⟨F, m, μ, ρ, Qd, S, h, k⟩ => chain_run ok ok' ⟨F, m, μ, ρ, _, S, h, fun F1 m1 μ1 d1 v1 H1 x1 S1 r1 q1 => by
    cases r1 with
    | bl => exact ⟨_, rfl, k _ _ _ _ _ x1 S1 q1⟩
    | _ => exact q1.elim⟩

/-! ### slices -/
abbrev WO := Slots → Sto → (Option Int → Sto → Prop) → QX → Prop
def tDO (K : PySem.W.Frag) (z : Zx) (Wd : WXd) (w : WO) : TO := fun σ H Q => ∃ F m μ ρ Qd, SimZ K z F m μ ρ σ H ∧ w ρ μ Qd (fun x μ' => Wd x ρ μ') ∧
  ∀ F' m' μ' o H', Ext F m H F' m' H' → SimZ K z F' m' μ' ρ σ H' → Qd o μ' → Q o H'
def DO (X : Cx) (z : Zx) (e : Option Expr) (w : WO) : Prop := ∀ Wd, Takes X (XW X.K z Wd) → PO X e (tDO X.K z Wd w)
theorem poI {X : Cx} {e : Option Expr} {t t' : TO} (h : PO X e t) (f : ∀ σ H Q, t' σ H Q → t σ H Q) : PO X e t' := ⟨fun pins s σ H Q I q => h.run pins s σ H Q I (f _ _ _ q)⟩
def oNo : WO := fun _ μ Q _ => Q none μ
def oYes (w : WE) : WO := fun ρ μ Q E => w ρ μ (fun x μ1 => match x with
  | .int i => Q (some i) μ1
  | _ => False) E
theorem do_none : DO X z none oNo := fun Wd tk => poI po_none fun σ H Q ⟨F, m, μ, ρ, Qd, S, h, k⟩ => k _ _ _ _ _ (Ext.refl _ _ _) S h
theorem do_some (h : DE X z e w) : DO X z (some e) (oYes w) := fun Wd tk => poI (po_some (h Wd tk)) fun σ H Q ⟨F, m, μ, ρ, Qd, S, h, k⟩ => ⟨F, m, μ, ρ, _, S, h, fun F1 m1 μ1 d1 v1 H1 x1 S1 r1 q1 => by
  cases r1 with
  | int => exact ⟨_, rfl, k _ _ _ _ _ x1 S1 q1⟩
  | _ => exact q1.elim⟩
def cutG {α : Type} (xs : List α) (lo hi : Option Int) : List α := (xs.drop (HT.sIx xs.length 0 lo)).take (HT.sIx xs.length xs.length hi - HT.sIx xs.length 0 lo)
def slD : D → Option Int → Option Int → Option D
  | .lst xs, lo, hi => some (.lst (cutG xs lo hi))
  | .tup xs, lo, hi => some (.tup (cutG xs lo hi))
  | .scr xs, lo, hi => some (.lst ((cutG xs lo hi).map .int))
  | _, _, _ => none
def wSl (w : WE) (wl wh : WO) : WE := fun ρ μ Q E => w ρ μ (fun x μ1 => wl ρ μ1 (fun lo μ2 => wh ρ μ2 (fun hi μ3 => match slD (look μ3 x) lo hi with
  | some d => Q d μ3
  | none => False) E) E) E
theorem Reps.cut {K : PySem.W.Frag} {T : Tab} {F : Hp} {m : List Addr} {ds : List D} {vs : List V} (r : Reps K T F m ds vs) (lo hi : Option Int) : Reps K T F m (cutG ds lo hi) (cutV vs lo hi) := by
  unfold cutG cutV
  rw [r.length]
  exact (r.drop _).take _
theorem cut_whole {α : Type} {xs : List α} {lo hi : Option Int} (h1 : HT.sIx xs.length 0 lo = 0) (h2 : HT.sIx xs.length xs.length hi = xs.length) : cutG xs lo hi = xs := by
  unfold cutG
  rw [h1, h2]
  simp
theorem reps_ints {K : PySem.W.Frag} {T : Tab} {F : Hp} {m : List Addr} : ∀ ns : List Int, Reps K T F m (ns.map .int) (ns.map V.int)
  | [] => .nil
  | n :: r => .cons .int (reps_ints r)
theorem cut_map {ns : List Int} {lo hi : Option Int} : cutV (ns.map V.int) lo hi = (cutG ns lo hi).map V.int := by
  unfold cutV cutG
  rw [List.length_map, ← List.map_drop, ← List.map_take]
theorem de_slice {lo hi : Option Expr} {wl wh : WO} {p2 : Pos} (h : DE X z e w) (hl : DO X z lo wl) (hh : DO X z hi wh) : DE X z (.Subscript e (.Slice lo hi none p2) pos) (wSl w wl wh) := fun Wd tk =>
  peI (pe_slice (sl_list.or sl_tupA) (h Wd tk) (hl Wd tk) (hh Wd tk)) fun σ H Q ⟨F, m, μ, ρ, Qd, S, h, k⟩ =>
    ⟨F, m, μ, ρ, _, S, h, fun F1 m1 μ1 d1 v1 H1 x1 S1 r1 q1 => ⟨F1, m1, μ1, ρ, _, S1, q1, fun F2 m2 μ2 lo H2 x2 S2 q2 => ⟨F2, m2, μ2, ρ, _, S2, q2, fun F3 m3 μ3 hi H3 x3 S3 q3 => by
      have r3 := S3.view (r1.mono (x2.trans x3).gr)
      have kk : Fin X.K z F3 m3 H3 ρ σ Qd Q := fun F4 m4 μ4 d4 v4 H4 x4 => k F4 m4 μ4 d4 v4 H4 (x1.trans (x2.trans (x3.trans x4)))
      cases e : slD (look μ3 d1) lo hi with
      | none => rw [e] at q3; exact q3.elim
      | some d =>
        rw [e] at q3
        generalize look μ3 d1 = dd at *
        unfold slD at e
        split at e
        · injection e with e
          subst e
          obtain ⟨a, vs, rfl, h1, r4⟩ := r3.list S3.same
          exact .inl ⟨a, vs, rfl, SqL.of h1, fun p hp => kk.lst S3 hp (r4.cut lo hi) q3⟩
        · injection e with e
          subst e
          obtain ⟨a, vs, rfl, h1, r4⟩ := r3.tup S3.same
          refine .inr ⟨a, vs, rfl, h1, fun ⟨e1, e2⟩ => ?_, fun _ p hp => kk.tup S3 hp (r4.cut lo hi) q3⟩
          rw [← r4.length] at e1 e2
          rw [cut_whole e1 e2] at q3
          cases r3 with | of r3 => exact kk.now S3 r3 q3
        · injection e with e
          subst e
          obtain ⟨a, rfl, h1⟩ := r3.scr S3.same
          refine .inl ⟨a, _, rfl, h1, fun p hp => ?_⟩
          rw [cut_map]
          exact kk.lst S3 hp (reps_ints _) q3
        · cases e⟩⟩⟩

/-! ### arguments, displays -/
abbrev WA := Slots → Sto → (List D → Sto → Prop) → QX → Prop
def tDA (K : PySem.W.Frag) (z : Zx) (Wd : WXd) (w : WA) : TA := fun σ H Q => ∃ F m μ ρ Qd, SimZ K z F m μ ρ σ H ∧ w ρ μ Qd (fun x μ' => Wd x ρ μ') ∧
  ∀ F' m' μ' ds vs H', Ext F m H F' m' H' → SimZ K z F' m' μ' ρ σ H' → Reps K z.T F' m' ds vs → Qd ds μ' → Q vs H'
def DA (X : Cx) (z : Zx) (es : List Expr) (w : WA) : Prop := ∀ Wd, Takes X (XW X.K z Wd) → PA X es (tDA X.K z Wd w)
theorem paI {X : Cx} {e : List Expr} {t t' : TA} (h : PA X e t) (f : ∀ σ H Q, t' σ H Q → t σ H Q) : PA X e t' := ⟨fun pos pins s σ H Q I q => h.run pos pins s σ H Q I (f _ _ _ q)⟩
def aNil : WA := fun _ μ Q _ => Q [] μ
def aCons (w : WE) (r : WA) : WA := fun ρ μ Q E => w ρ μ (fun x μ1 => r ρ μ1 (fun xs μ2 => Q (x :: xs) μ2) E) E
variable {es : List Expr} {wr : WA}
theorem da_nil : DA X z [] aNil := fun Wd tk => paI pa_nil fun σ H Q ⟨F, m, μ, ρ, Qd, S, h, k⟩ => k _ _ _ _ _ _ (Ext.refl _ _ _) S .nil h
theorem da_cons (h : DE X z e w) (hr : DA X z es wr) (hs : starEach (e :: es) X.env = (false, eval e X.env) :: starEach es X.env := by rfl) : DA X z (e :: es) (aCons w wr) := fun Wd tk =>
  paI (pa_cons (h Wd tk) (hr Wd tk) hs) fun σ H Q ⟨F, m, μ, ρ, Qd, S, h, k⟩ => ⟨F, m, μ, ρ, _, S, h, fun F1 m1 μ1 d1 v1 H1 x1 S1 r1 q1 => ⟨F1, m1, μ1, ρ, _, S1, q1, fun F2 m2 μ2 ds vs H2 x2 S2 r2 q2 =>
    k _ _ _ _ _ _ (x1.trans x2) S2 (.cons (r1.mono x2.gr) r2) q2⟩⟩
def wTup (w : WA) : WE := fun ρ μ Q E => w ρ μ (fun xs μ1 => match lineB xs.length with
  | true => Q (.tup xs) μ1
  | false => False) E
def wLst (w : WA) : WE := fun ρ μ Q E => w ρ μ (fun xs μ1 => match lineB xs.length with
  | true => Q (.lst xs) μ1
  | false => False) E
theorem de_tup {x1} (h : DA X z es wr) : DE X z (.Tuple es x1 pos) (wTup wr) := fun Wd tk =>
  peI (pe_tup (h Wd tk)) fun σ H Q ⟨F, m, μ, ρ, Qd, S, h, k⟩ => ⟨F, m, μ, ρ, _, S, h, fun F1 m1 μ1 ds vs H1 x1 S1 r1 q1 => by
    cases e : lineB ds.length with
    | false => rw [e] at q1; exact q1.elim
    | true =>
      rw [e] at q1
      refine ⟨by rw [← r1.length]; exact lineB_le e, fun p hp => ?_⟩
      have kk : Fin X.K z F1 m1 H1 ρ σ Qd Q := fun F4 m4 μ4 d4 v4 H4 x4 => k F4 m4 μ4 d4 v4 H4 (x1.trans x4)
      exact kk.tup S1 hp r1 q1⟩
theorem de_lst (h : DA X z es wr) : DE X z (.List es pos) (wLst wr) := fun Wd tk =>
  peI (pe_lst (h Wd tk)) fun σ H Q ⟨F, m, μ, ρ, Qd, S, h, k⟩ => ⟨F, m, μ, ρ, _, S, h, fun F1 m1 μ1 ds vs H1 x1 S1 r1 q1 => by
    cases e : lineB ds.length with
    | false => rw [e] at q1; exact q1.elim
    | true =>
      rw [e] at q1
      refine ⟨by rw [← r1.length]; exact lineB_le e, fun p hp => ?_⟩
      have kk : Fin X.K z F1 m1 H1 ρ σ Qd Q := fun F4 m4 μ4 d4 v4 H4 x4 => k F4 m4 μ4 d4 v4 H4 (x1.trans x4)
      exact kk.lst S1 hp r1 q1⟩
end
end Pk

/-! The data layer, part H: statements, targets, loops, comprehensions. -/
namespace Pk
open PySem PySem.Spec PyProof.Rows L2

/-! ### ends, statements -/
structure DEnds where
  nx : Slots → Sto → Prop
  rt : QD
  bk : Slots → Sto → Prop
  ct : Slots → Sto → Prop
  ex : WXd
abbrev WS := DEnds → Slots → Sto → Prop
structure FinS (K : PySem.W.Frag) (z : Zx) (F : Hp) (m : List Addr) (H : Hp) (De : DEnds) (Dd : Ends) : Prop where
  nx : ∀ F' m' μ' ρ' σ' H', Ext F m H F' m' H' → SimZ K z F' m' μ' ρ' σ' H' → De.nx ρ' μ' → Dd.nx σ' H'
  rt : ∀ F' m' μ' ρ' σ' d v H', Ext F m H F' m' H' → SimZ K z F' m' μ' ρ' σ' H' → Rep K z.T F' m' d v → De.rt d μ' → Dd.rt v H'
  bk : ∀ F' m' μ' ρ' σ' H', Ext F m H F' m' H' → SimZ K z F' m' μ' ρ' σ' H' → De.bk ρ' μ' → Dd.bk σ' H'
  ct : ∀ F' m' μ' ρ' σ' H', Ext F m H F' m' H' → SimZ K z F' m' μ' ρ' σ' H' → De.ct ρ' μ' → Dd.ct σ' H'
theorem FinS.on {K : PySem.W.Frag} {z : Zx} {F F' : Hp} {m m' : List Addr} {H H' : Hp} {De : DEnds} {Dd : Ends} (k : FinS K z F m H De Dd) (x : Ext F m H F' m' H') : FinS K z F' m' H' De Dd :=
  ⟨fun _ _ _ _ _ _ y => k.nx _ _ _ _ _ _ (x.trans y), fun _ _ _ _ _ _ _ _ y => k.rt _ _ _ _ _ _ _ _ (x.trans y), fun _ _ _ _ _ _ y => k.bk _ _ _ _ _ _ (x.trans y), fun _ _ _ _ _ _ y => k.ct _ _ _ _ _ _ (x.trans y)⟩
def tDS (K : PySem.W.Frag) (z : Zx) (Wd : WXd) (w : WS) : TS := fun Dd σ H => ∃ F m μ ρ De, SimZ K z F m μ ρ σ H ∧ w De ρ μ ∧ De.ex = Wd ∧ FinS K z F m H De Dd
def DS (X : Cx) (z : Zx) (st : Stmt) (w : WS) : Prop := ∀ Wd, Takes X (XW X.K z Wd) → PS X st (tDS X.K z Wd w)
def DSs (X : Cx) (z : Zx) (st : List Stmt) (w : WS) : Prop := ∀ Wd, Takes X (XW X.K z Wd) → PSs X st (tDS X.K z Wd w)
theorem psI {X : Cx} {e : Stmt} {t t' : TS} (h : PS X e t) (f : ∀ D σ H, t' D σ H → t D σ H) : PS X e t' := ⟨fun pins s σ H D I q => h.run pins s σ H D I (f _ _ _ q)⟩
theorem pssI {X : Cx} {e : List Stmt} {t t' : TS} (h : PSs X e t) (f : ∀ D σ H, t' D σ H → t D σ H) : PSs X e t' := ⟨fun pins s σ H D I q => h.run pins s σ H D I (f _ _ _ q)⟩
def sNil : WS := fun De ρ μ => De.nx ρ μ
def sSeq (a b : WS) : WS := fun De ρ μ => a { De with nx := b De } ρ μ
def sRet (w : WE) : WS := fun De ρ μ => w ρ μ De.rt (fun x μ' => De.ex x ρ μ')
def sRetN : WS := fun De _ μ => De.rt .non μ
def sExpr (w : WE) : WS := fun De ρ μ => w ρ μ (fun _ μ1 => De.nx ρ μ1) (fun x μ' => De.ex x ρ μ')
def sIf (t : WT) (a b : WS) : WS := fun De ρ μ => t ρ μ (fun c μ1 => match c with
  | true => a De ρ μ1
  | false => b De ρ μ1) (fun x μ' => De.ex x ρ μ')
def sBrk : WS := fun De ρ μ => De.bk ρ μ
def sCont : WS := fun De ρ μ => De.ct ρ μ
def sNever : WS := fun _ _ _ => False
section
variable {X : Cx} {z : Zx} {st : Stmt} {rest : List Stmt} {a b : WS} {e : Expr} {w : WE} {pos : Pos}
theorem dss_nil : DSs X z [] sNil := fun Wd tk => pssI pss_nil fun D σ H ⟨F, m, μ, ρ, De, S, h, _, k⟩ => k.nx _ _ _ _ _ _ (Ext.refl _ _ _) S h
theorem dss_cons (h1 : DS X z st a) (h2 : DSs X z rest b) : DSs X z (st :: rest) (sSeq a b) := fun Wd tk => pssI (pss_cons (h1 Wd tk) (h2 Wd tk)) fun D σ H ⟨F, m, μ, ρ, De, S, h, ex, k⟩ =>
  ⟨F, m, μ, ρ, _, S, h, ex, ⟨fun F' m' μ' ρ' σ' H' x S' q => ⟨F', m', μ', ρ', De, S', q, ex, k.on x⟩, k.rt, k.bk, k.ct⟩⟩
theorem dss_one (h1 : DS X z st a) : DSs X z [st] a := fun Wd tk => pssI (pss_one (h1 Wd tk)) fun _ _ _ h => h
theorem ds_ret (h : DE X z e w) : DS X z (.Return (some e) pos) (sRet w) := fun Wd tk => psI (ps_ret (h Wd tk)) fun D σ H ⟨F, m, μ, ρ, De, S, h, ex, k⟩ =>
  ⟨F, m, μ, ρ, _, S, by rw [← ex]; exact h, fun F' m' μ' d v H' x S' r q => k.rt _ _ _ _ _ _ _ _ x S' r q⟩
theorem ds_retN : DS X z (.Return none pos) sRetN := fun Wd tk => psI ps_retN fun D σ H ⟨F, m, μ, ρ, De, S, h, ex, k⟩ => k.rt _ _ _ _ _ _ _ _ (Ext.refl _ _ _) S .non h
theorem ds_expr (h : DE X z e w) (hs : swapsWith e none pos.line X.env = pure false := by rfl) : DS X z (.Expr e pos) (sExpr w) := fun Wd tk => psI (ps_expr (h Wd tk) hs) fun D σ H ⟨F, m, μ, ρ, De, S, h, ex, k⟩ =>
  ⟨F, m, μ, ρ, _, S, by rw [← ex]; exact h, fun F' m' μ' d v H' x S' r q => k.nx _ _ _ _ _ _ x S' q⟩
theorem ds_if {c : Expr} {p q : List Stmt} {t : WT} (hc : DT X z c t) (ha : DSs X z p a) (hb : DSs X z q b) : DS X z (.If c p q pos) (sIf t a b) := fun Wd tk => psI (ps_if (hc Wd tk) (ha Wd tk) (hb Wd tk)) fun D σ H ⟨F, m, μ, ρ, De, S, h, ex, k⟩ =>
  ⟨F, m, μ, ρ, (fun c μ1 => match c with | true => a De ρ μ1 | false => b De ρ μ1), S, by rw [← ex]; exact h, fun F' m' μ' c H' x S' q => by
    cases c with
    | true =>
      rw [if_pos rfl]
      exact ⟨F', m', μ', ρ, De, S', q, ex, k.on x⟩
    | false =>
      rw [if_neg (by decide)]
      exact ⟨F', m', μ', ρ, De, S', q, ex, k.on x⟩⟩
theorem ds_pass : DS X z (.Pass pos) sNil := fun Wd tk => psI ps_pass fun D σ H ⟨F, m, μ, ρ, De, S, h, _, k⟩ => k.nx _ _ _ _ _ _ (Ext.refl _ _ _) S h
theorem ds_break : DS X z (.Break pos) sBrk := fun Wd tk => psI ps_break fun D σ H ⟨F, m, μ, ρ, De, S, h, _, k⟩ => k.bk _ _ _ _ _ _ (Ext.refl _ _ _) S h
theorem ds_continue : DS X z (.Continue pos) sCont := fun Wd tk => psI ps_continue fun D σ H ⟨F, m, μ, ρ, De, S, h, _, k⟩ => k.ct _ _ _ _ _ _ (Ext.refl _ _ _) S h
theorem ds_never : DS X z st sNever := fun Wd tk => psI ps_never fun D σ H ⟨F, m, μ, ρ, De, S, h, _, k⟩ => h
theorem dss_never : DSs X z rest sNever := fun Wd tk => pssI pss_never fun D σ H ⟨F, m, μ, ρ, De, S, h, _, k⟩ => h
end

/-! ### targets -/
abbrev GF := D → Slots → Option Slots
def Off (js : List Nat) (σ σ' : L2.St) : Prop := σ'.length = σ.length ∧ ∀ i, i ∉ js → σ'[i]? = σ[i]?
def tGD (K : PySem.W.Frag) (z : Zx) (g : GF) (js : List Nat) : TG := fun v σ H Q => ∃ F m μ ρ d ρ', SimZ K z F m μ ρ σ H ∧ Rep K z.T F m d v ∧ g d ρ = some ρ' ∧ ∀ σ', SimZ K z F m μ ρ' σ' H → Off js σ σ' → Q σ' H
def DG (X : Cx) (z : Zx) (tg : Expr) (g : GF) (js : List Nat) : Prop := PG X tg (tGD X.K z g js)
def gEach : List GF → List D → Slots → Option Slots
  | [], [], ρ => some ρ
  | g :: gs, d :: ds, ρ => match g d ρ with
    | some ρ1 => gEach gs ds ρ1
    | none => none
  | _, _, _ => none
def tGs (K : PySem.W.Frag) (z : Zx) (gs : List GF) (js : List Nat) : TGs := fun vs σ H Q => ∃ F m μ ρ ds ρ', SimZ K z F m μ ρ σ H ∧ Reps K z.T F m ds vs ∧ gEach gs ds ρ = some ρ' ∧ ∀ σ', SimZ K z F m μ ρ' σ' H → Off js σ σ' → Q σ' H
def DGs (X : Cx) (z : Zx) (es : List Expr) (gs : List GF) (js : List Nat) : Prop := PGs X es (tGs X.K z gs js)
def gN (i : Nat) : GF := fun d ρ => some (ρ.set i (some d))
def gT (gs : List GF) : GF := fun d ρ => match d with
  | .tup ds => gEach gs ds ρ
  | _ => none
section
variable {X : Cx} {z : Zx} {pos : Pos}
theorem pgI {X : Cx} {e : Expr} {t t' : TG} (h : PG X e t) (f : ∀ v σ H Q, t' v σ H Q → t v σ H Q) : PG X e t' := ⟨fun pins s σ H v u Q I r q => h.run pins s σ H v u Q I r (f _ _ _ _ q)⟩
theorem pgsI {X : Cx} {e : List Expr} {t t' : TGs} (h : PGs X e t) (f : ∀ v σ H Q, t' v σ H Q → t v σ H Q) : PGs X e t' := ⟨fun pins s σ H vs us Q I r q => h.run pins s σ H vs us Q I r (f _ _ _ _ q)⟩
theorem dg_name {i : Nat} {x : Str} (hN : X.N.Nodup) (hi : X.N[i]? = some x) (hx : Loc X.env.scope x) (hf : X.fn x = true ∨ X.env.scope.names.lookup x = some .local := by first | exact .inl rfl | exact .inr rfl | assumption) : DG X z (.Name x pos) (gN i) [i] :=
  pgI (pg_name hN hi hx hf) fun v σ H Q ⟨F, m, μ, ρ, d, ρ', S, r, e, k⟩ => by
    injection e with e
    subst e
    refine k _ (S.set r) ⟨by simp, fun j hj => ?_⟩
    rw [List.getElem?_set_ne]
    intro e
    exact hj (by simp [e])
theorem dgs_nil : DGs X z [] [] [] := pgsI pgs_nil fun vs σ H Q ⟨F, m, μ, ρ, ds, ρ', S, r, e, k⟩ => by
  cases r with
  | nil =>
    injection e with e
    subst e
    exact ⟨rfl, k _ S ⟨rfl, fun _ _ => rfl⟩⟩
  | cons _ _ => cases e
theorem dgs_cons {e : Expr} {es : List Expr} {g : GF} {gs : List GF} {j js : List Nat} (h1 : DG X z e g j) (h2 : DGs X z es gs js) (hs : (assignEach (e :: es) X.env).map (·.2) = assign e X.env :: (assignEach es X.env).map (·.2) := by rfl) : DGs X z (e :: es) (g :: gs) (j ++ js) :=
  pgsI (pgs_cons h1 h2 hs) fun vs σ H Q ⟨F, m, μ, ρ, ds, ρ', S, r, e, k⟩ => by
    cases r with
    | nil => cases e
    | @cons d v ds vs r rs =>
      unfold gEach at e
      cases q : g d ρ with
      | none =>
        rw [q] at e
        cases e
      | some ρ1 =>
        rw [q] at e
        refine ⟨v, vs, rfl, F, m, μ, ρ, d, ρ1, S, r, q, fun σ1 S1 o1 => ⟨F, m, μ, ρ1, ds, ρ', S1, rs, e, fun σ2 S2 o2 => k σ2 S2 ⟨o2.1.trans o1.1, fun i hi => ?_⟩⟩⟩
        rw [List.mem_append, not_or] at hi
        rw [o2.2 i hi.2, o1.2 i hi.1]
theorem dg_tup {es : List Expr} {k : Nat} {gs : List GF} {js : List Nat} {n : Nat} (hc : X.calm = true) (h : DGs X z es gs js) (hl : gs.length = n := by rfl)
    (hn : (assignEach es X.env).length = n := by rfl) (hst : (assignEach es X.env).findIdx? (·.1) = none := by rfl) : DG X z (.Tuple es k pos) (gT gs) js :=
  pgI (pg_tup hc h hn hst) fun v σ H Q ⟨F, m, μ, ρ, d, ρ', S, r, e, k⟩ => by
    unfold gT at e
    split at e
    · rename_i ds
      cases r with
      | tup hq rs =>
        have len : ∀ (gs : List GF) (ds : List D) (ρ ρ' : Slots), gEach gs ds ρ = some ρ' → gs.length = ds.length := by
          intro gs
          induction gs with
          | nil => intro ds ρ ρ' e; cases ds with
            | nil => rfl
            | cons _ _ => cases e
          | cons g gs ih => intro ds ρ ρ' e; cases ds with
            | nil => cases e
            | cons d ds =>
              unfold gEach at e
              split at e
              · exact congrArg (· + 1) (ih _ _ _ e)
              · cases e
        exact ⟨_, _, rfl, Same.sqt S.same hq, by rw [← rs.length, ← len _ _ _ _ e]; exact hl, F, m, μ, ρ, _, ρ', S, rs, e, k⟩
    · cases e

/-! ### assignments -/
def sAsg (w : WE) (g : GF) : WS := fun De ρ μ => w ρ μ (fun d μ1 => match g d ρ with
  | some ρ1 => De.nx ρ1 μ1
  | none => False) (fun x μ' => De.ex x ρ μ')
variable {e tg : Expr} {w : WE} {g : GF} {js : List Nat}
theorem asg_run {Wd : WXd} {D : Ends} {σ : L2.St} {H : Hp} (h : tDS X.K z Wd (sAsg w g) D σ H) : tAsg (tD X.K z Wd w) (tGD X.K z g js) D σ H := by
  obtain ⟨F, m, μ, ρ, De, S, h, ex, k⟩ := h
  refine ⟨F, m, μ, ρ, _, S, by rw [← ex]; exact h, fun F' m' μ' d v H' x S' r q => ?_⟩
  cases e : g d ρ with
  | none =>
    rw [e] at q
    exact q.elim
  | some ρ1 =>
    rw [e] at q
    exact ⟨F', m', μ', ρ, d, ρ1, S', r, e, fun σ2 S2 _ => k.nx _ _ _ _ _ _ x S2 q⟩
theorem ds_asg (he : DE X z e w) (hg : DG X z tg g js) (hs : swapsWithSole [tg] e pos.line X.env = pure false := by rfl) (hw : swappedStores [tg] e X.env = pure none := by rfl)
    (h1 : (assignEach [tg] X.env).map (·.2) = [assign tg X.env] := by rfl) : DS X z (.Assign [tg] e pos) (sAsg w g) := fun Wd tk => psI (ps_asg (he Wd tk) hg hs hw h1) fun D σ H h => asg_run h
/-- a, b = x, y: no tuple is made -/
def sPar2 (i j : Nat) (wa : WA) : WS := fun De ρ μ => wa ρ μ (fun ds μ1 => match ds with
  | [a, b] => De.nx ((ρ.set i (some a)).set j (some b)) μ1
  | _ => False) (fun x μ' => De.ex x ρ μ')
theorem ds_par {i j : Nat} {x y : Str} {a b : Expr} {wa : WA} {px py pt : Pos} {kt k2 pt2} (hc : X.calm = true) (hN : X.N.Nodup) (hi : X.N[i]? = some x) (hj : X.N[j]? = some y) (hij : i ≠ j)
    (hx : X.env.scope.names.lookup x = some .local) (hy : X.env.scope.names.lookup y = some .local) (ha : DA X z [a, b] wa)
    (hw : swappedStores [.Tuple [.Name x px, .Name y py] kt pt] (.Tuple [a, b] k2 pt2) X.env = pure (some [x, y])) (hs : swapsWithSole [.Tuple [.Name x px, .Name y py] kt pt] (.Tuple [a, b] k2 pt2) pos.line X.env = pure false := by rfl) :
    DS X z (.Assign [.Tuple [.Name x px, .Name y py] kt pt] (.Tuple [a, b] k2 pt2) pos) (sPar2 i j wa) := fun Wd tk => psI (ps_par hc hN hi hj hij hx hy (ha Wd tk) hw hs) fun D σ H ⟨F, m, μ, ρ, De, S, h, ex, k⟩ =>
  ⟨F, m, μ, ρ, (fun ds μ1 => match ds with | [a, b] => De.nx ((ρ.set i (some a)).set j (some b)) μ1 | _ => False), S, by rw [← ex]; exact h, fun F' m' μ' ds vs H' x S' r q => by
    cases r with
    | nil => exact q.elim
    | @cons d1 v1 ds vs r1 r =>
      cases r with
      | nil => exact q.elim
      | @cons d2 v2 ds vs r2 r =>
        cases r with
        | nil => exact ⟨v1, v2, rfl, k.nx _ _ _ _ _ _ x ((S'.set r1).set r2) q⟩
        | cons _ _ => exact q.elim⟩
def sPar3 (i j l : Nat) (wa : WA) : WS := fun De ρ μ => wa ρ μ (fun ds μ1 => match ds with
  | [a, b, c] => De.nx (((ρ.set i (some a)).set j (some b)).set l (some c)) μ1
  | _ => False) (fun x μ' => De.ex x ρ μ')
theorem ds_par3 {i j l : Nat} {x y u : Str} {a b c : Expr} {wa : WA} {px py pz pt : Pos} {kt k2 pt2} (hc : X.calm = true) (hN : X.N.Nodup) (hi : X.N[i]? = some x) (hj : X.N[j]? = some y) (hl : X.N[l]? = some u) (hij : i ≠ j) (hil : i ≠ l) (hjl : j ≠ l)
    (hx : X.env.scope.names.lookup x = some .local) (hy : X.env.scope.names.lookup y = some .local) (hz : X.env.scope.names.lookup u = some .local) (ha : DA X z [a, b, c] wa)
    (hw : swappedStores [.Tuple [.Name x px, .Name y py, .Name u pz] kt pt] (.Tuple [a, b, c] k2 pt2) X.env = pure (some [x, y, u])) (hs : swapsWithSole [.Tuple [.Name x px, .Name y py, .Name u pz] kt pt] (.Tuple [a, b, c] k2 pt2) pos.line X.env = pure false := by rfl) :
    DS X z (.Assign [.Tuple [.Name x px, .Name y py, .Name u pz] kt pt] (.Tuple [a, b, c] k2 pt2) pos) (sPar3 i j l wa) := fun Wd tk => psI (ps_par3 hc hN hi hj hl hij hil hjl hx hy hz (ha Wd tk) hw hs) fun D σ H ⟨F, m, μ, ρ, De, S, h, ex, k⟩ =>
  ⟨F, m, μ, ρ, (fun ds μ1 => match ds with | [a, b, c] => De.nx (((ρ.set i (some a)).set j (some b)).set l (some c)) μ1 | _ => False), S, by rw [← ex]; exact h, fun F' m' μ' ds vs H' x S' r q => by
    cases r with
    | nil => exact q.elim
    | @cons d1 v1 ds vs r1 r =>
      cases r with
      | nil => exact q.elim
      | @cons d2 v2 ds vs r2 r =>
        cases r with
        | nil => exact q.elim
        | @cons d3 v3 ds vs r3 r =>
          cases r with
          | nil => exact ⟨v1, v2, v3, rfl, k.nx _ _ _ _ _ _ x (((S'.set r1).set r2).set r3) q⟩
          | cons _ _ => exact q.elim⟩

/-! ### what a for walks -/
abbrev WI := Slots → Sto → (List D → Sto → Prop) → QX → Prop
/-- J gives these -/
structure JOk (K : PySem.W.Frag) (T : Tab) (F : Hp) (m : List Addr) (J : It) (ds : List D) : Prop where
  go : ∀ i H d, Same F H → ds[i]? = some d → J.go i H
  stop : ∀ i H, Same F H → ds.length ≤ i → J.stop i H
  yld : ∀ i H x H' d, Same F H → ds[i]? = some d → J.yld i H x H' → (H' = H ∧ Rep K T F m d x) ∨ ∃ es t vs, d = .tup es ∧ x = .ref t ∧ H t = none ∧ H' = upd H t (.tup vs) ∧ Reps K T F m es vs
def tDI (K : PySem.W.Frag) (z : Zx) (Wd : WXd) (w : WI) : TI := fun σ H R => ∃ F m μ ρ Qd, SimZ K z F m μ ρ σ H ∧ w ρ μ Qd (fun x μ' => Wd x ρ μ') ∧
  ∀ F' m' μ' ds J H', Ext F m H F' m' H' → SimZ K z F' m' μ' ρ σ H' → JOk K z.T F' m' J ds → Qd ds μ' → R J H'
def DI (X : Cx) (z : Zx) (tg iter : Expr) (w : WI) : Prop := ∀ Wd, Takes X (XW X.K z Wd) → PI X tg iter (tDI X.K z Wd w)
theorem piI {X : Cx} {tg e : Expr} {t t' : TI} (h : PI X tg e t) (f : ∀ σ H Q, t' σ H Q → t σ H Q) : PI X tg e t' := ⟨fun pins s σ H R I q => h.run pins s σ H R I (f _ _ _ q)⟩
def forW (g : GF) (wb : WS) : List D → WS
  | [], De, ρ, μ => De.nx ρ μ
  | d :: r, De, ρ, μ => match g d ρ with
    | some ρ1 => wb ⟨fun ρ2 μ2 => forW g wb r De ρ2 μ2, De.rt, De.nx, fun ρ2 μ2 => forW g wb r De ρ2 μ2, De.ex⟩ ρ1 μ
    | none => False
def sFor (wi : WI) (g : GF) (wb : WS) : WS := fun De ρ μ => wi ρ μ (fun ds μ1 => forW g wb ds De ρ μ1) (fun x μ' => De.ex x ρ μ')
/-- the next item is taken -/
theorem JOk.next {J : It} {K : PySem.W.Frag} {F F1 : Hp} {m m1 : List Addr} {ds : List D} {μ : Sto} {ρ : Slots} {σ : L2.St} {H H' : Hp} {i : Nat} {d : D} {x : V} (j : JOk K z.T F m J ds) (gr : Gr F m F1 m1) (S : SimZ K z F1 m1 μ ρ σ H)
    (e : ds[i]? = some d) (y : J.yld i H x H') : ∃ F2, Ext F1 m1 H F2 m1 H' ∧ SimZ K z F2 m1 μ ρ σ H' ∧ Rep K z.T F2 m1 d x := by
  rcases j.yld i H x H' d (gr.fr.trans S.same) e y with ⟨e, r⟩ | ⟨es, t, vs, e1, e2, n, e3, r⟩
  · subst e
    exact ⟨F1, Ext.refl _ _ _, S, r.mono gr⟩
  · subst e1 e2 e3
    obtain ⟨x2, S2⟩ := S.new n (.tup vs)
    exact ⟨_, x2, S2, .tup (SqT.of upd_same) (r.mono (gr.trans x2.gr))⟩
theorem ds_for {iter : Expr} {body : List Stmt} {wi : WI} {wb : WS} (hp : PassesOwn (model X.prog X.w) X.A X.env X.xe) (hc : X.calm = true) (hi : DI X z tg iter wi) (hg : DG X z tg g js) (hb : DSs X z body wb) (hs : ∀ x, foldedSetIterable iter X.env x = pure x := by intro _; rfl) : DS X z (.For tg iter body [] pos) (sFor wi g wb) := fun Wd tk =>
  psI (ps_for hp hc (hi Wd tk) hg (hb Wd tk) hs) fun Dd σ H ⟨F, m, μ, ρ, De, S, h, ex, k⟩ =>
    ⟨F, m, μ, ρ, (fun ds μ1 => forW g wb ds De ρ μ1), S, by rw [← ex]; exact h, fun F' m' μ' ds J H' x S' j q => by
      have k' := k.on x
      refine ⟨fun i mm σ H => mm + i = ds.length ∧ ∃ F1 m1 μ1 ρ1, Ext F' m' H' F1 m1 H ∧ SimZ X.K z F1 m1 μ1 ρ1 σ H ∧ forW g wb (ds.drop i) De ρ1 μ1, ⟨ds.length, rfl, F', m', μ', ρ, Ext.refl _ _ _, S', q⟩, fun i mm σ1 H1 ⟨hm, F1, m1, μ1, ρ1, x1, S1, q1⟩ => ?_⟩
      cases e : ds[i]? with
      | none =>
        have hl : ds.length ≤ i := List.getElem?_eq_none_iff.mp e
        rw [List.drop_eq_nil_of_le hl] at q1
        exact .inl ⟨j.stop i H1 (x1.gr.fr.trans S1.same) hl, k'.nx _ _ _ _ _ _ x1 S1 q1⟩
      | some d =>
        obtain ⟨hl, ed⟩ := List.getElem?_eq_some_iff.mp e
        rw [List.drop_eq_getElem_cons hl, ed] at q1
        refine .inr ⟨j.go i H1 d (x1.gr.fr.trans S1.same) e, fun σ H => ∃ F1 m1 μ1 ρ1, Ext F' m' H' F1 m1 H ∧ SimZ X.K z F1 m1 μ1 ρ1 σ H ∧ forW g wb (ds.drop (i + 1)) De ρ1 μ1, fun σ' H' h => ⟨mm - 1, by omega, by omega, h⟩, fun y H2 hy => ?_⟩
        obtain ⟨F2, x2, S2, r2⟩ := j.next x1.gr S1 e hy
        unfold forW at q1
        cases eg : g d ρ1 with
        | none =>
          rw [eg] at q1
          exact q1.elim
        | some ρ2 =>
          rw [eg] at q1
          have x12 := x1.trans x2
          exact ⟨F2, m1, μ1, ρ1, d, ρ2, S2, r2, eg, fun σ3 S3 _ => ⟨F2, m1, μ1, ρ2, _, S3, q1, ex, ⟨fun F4 m4 μ4 ρ4 σ4 H4 x4 S4 q4 => ⟨F4, m4, μ4, ρ4, x12.trans x4, S4, q4⟩,
            fun F4 m4 μ4 ρ4 σ4 d4 v4 H4 x4 => k'.rt _ _ _ _ _ _ _ _ (x12.trans x4), fun F4 m4 μ4 ρ4 σ4 H4 x4 => k'.nx _ _ _ _ _ _ (x12.trans x4),
            fun F4 m4 μ4 ρ4 σ4 H4 x4 S4 q4 => ⟨F4, m4, μ4, ρ4, x12.trans x4, S4, q4⟩⟩⟩⟩⟩
end
end Pk

/-! The data layer, part I1: enumerate over a tuple. -/
namespace Pk
open PySem PySem.Spec PyProof.Rows L2
set_option maxHeartbeats 1000000 in
theorem meets_enum1 {v : Value} {o : Obj} {H : Heap → Prop} (B : Begins v o H) : Meets (Builtin.«enumerate.__new__» ⟨[.type "enumerate", v], []⟩)
    (fun _ R s => H s.heap ∧ R (.ok (.ret (.ref (s.heap.push o).objs.size))) { s with heap := (s.heap.push o).push { cls := .type "enumerate", data := .fields #[.none, .bool false, .ref s.heap.objs.size, rawInt 0, .none, .none] } }) :=
  .of_wp fun prog w A R s hh => by
    obtain ⟨hp, g, d, tk, os⟩ := s
    obtain ⟨h1, hR⟩ := hh
    have hsub := sub_enumerate
    have qq : ∀ {A' : Around} {E : Value → Shared → Prop} {Q : Value → Shared → Prop}, Q (.ref hp.objs.size) ⟨hp.push o, g, d, tk, os⟩ → wpAny (model prog w) A' (pyIter v) Q E ⟨hp, g, d, tk, os⟩ :=
      fun q => B.iter prog w _ _ ⟨hp, g, d, tk, os⟩ _ h1 q
    wp_walk using qq
    refine wpAny_stack_any fun st => wpAny_pure ?_
    split
    · rename_i c _ _ _ _ _
      cases (c == Value.type "enumerate") <;> (wp_walk using qq) <;> exact ⟨_, rfl, hR⟩
    · wp_walk using qq
      exact ⟨_, rfl, hR⟩
end Pk

/-! The data layer, part I2: what a for walks. -/
namespace Pk
open PySem PySem.Spec PyProof.Rows L2
/-- enumerate of a tuple that stands -/
def IteT (K : PySem.W.Frag) (a : Addr) : It := ⟨fun i H => ∃ (xs : List V) (x : V), SqT K H a xs ∧ xs[i]? = some x,
  fun i H v H' => ∃ t x, v = .ref t ∧ H t = none ∧ H' = upd H t (.tup [.int (i : Nat), x]) ∧ ∀ xs, SqT K H a xs → xs[i]? = some x,
  fun i H => ∃ xs : List V, SqT K H a xs ∧ xs.length ≤ i⟩
theorem turn_enumT {P : Program} {w : World} {K : PySem.W.Frag} {elts : List Expr} {kk : Nat} {tpos : Pos} (a e it : Addr) (hea : e ≠ it) (hia : a ≠ it) (haa : a ≠ e) :
    Turn P w K (.Tuple elts kk tpos) (IteT K a) [e, it] e (fun i h => (∃ old, IsEnum h e it ((i : Nat) : Int) old) ∧ h.IsTupleIter it a i) where
  mem := by simp
  obj := fun i h st b hb => by
    obtain ⟨⟨old, he⟩, ⟨o, ho, hc, hd⟩⟩ := st
    have e' : b = e ∨ b = it := by simpa using hb
    rcases e' with r | r
    · rw [r]
      exact ⟨_, he, fun v q => by cases q⟩
    · rw [r]
      exact ⟨o, ho, fun v q => by rw [hd] at q; cases q⟩
  keep := fun i h h' st k => by
    obtain ⟨⟨old, he⟩, hi⟩ := st
    exact ⟨⟨old, k e (by simp) _ he⟩, hi.at fun o q => k it (by simp) o q⟩
  item := by
    intro X hP hw hK hc i pins s σ H E I hf st hg
    subst hP hw hK
    obtain ⟨⟨old, he⟩, hit⟩ := st
    obtain ⟨xs, x, hq, hx⟩ := hg
    obtain ⟨its, rv, p, hz⟩ := I.tuple hq
    obtain ⟨u, hu, ru⟩ := rv.get hx
    have hel : e < s.heap.objs.size := Heap.lt_size he
    have hil : it < s.heap.objs.size := by
      obtain ⟨_, q, _⟩ := hit
      exact Heap.lt_size q
    have hlt : i < its.toArray.size := by
      have := (List.getElem?_eq_some_iff.mp hu).1
      simpa using this
    have hD := Draws.tuple (prog := X.prog) (w := X.w) (A := X.A.in1) (I.ok.hd hc) it a hia its.toArray
    refine wpAny_pyNext_enum_itemD hD he ⟨hit, p⟩ hlt hea (by simp only [List.mem_cons, List.not_mem_nil, or_false, not_or]; exact ⟨hea, Ne.symm haa⟩) fun y h' tk hy ho hst hT hsz hk => ?_
    have ey : y = u := by
      have h2 : its.toArray[i]? = some u := by simpa using hu
      rw [h2] at hy
      exact (Option.some.inj hy).symm
    subst ey
    refine ⟨_, rfl, wpAny_letOwnedTupleGo_enum (s := { s with heap := h', toks := tk + 1 }) ho fun h'' he' sb => ?_⟩
    have hT2 : h''.get? s.heap.objs.size = some { cls := .type "tuple", data := .seq #[.int i tk, y] } := (sb.2 _ (Nat.ne_of_gt hel)).trans hT
    have new : ObjOk X.prog X.w (upd H s.heap.objs.size (.tup [.int (i : Nat), x])) h'' s.heap.objs.size (.tup [.int (i : Nat), x]) :=
      ⟨by show 2 ≤ sizeLine; decide, [.int i tk, y], .cons ⟨_, rfl⟩ (.cons ru .nil), ⟨_, hT2, rfl, _, rfl⟩⟩
    have I1 : Inv X pins σ (upd H s.heap.objs.size (.tup [.int (i : Nat), x])) { s with heap := h'', toks := tk + 1 } :=
      I.turnedNew (ch := [e, it]) (fun b ob hb q => (sb.2 b (fun r => hb (by simp [r]))).trans (hk b ob (fun r => hb (by simp [r])) (fun r => hb (by simp [r])) q)) hf (Nat.le_refl _) new
    refine ⟨.ref s.heap.objs.size, _, I1, rfl, ⟨_, x, rfl, I.hok.fresh (Nat.le_refl _), rfl, fun ys hy => by rw [I.tuple_inj hy hq]; exact hx⟩, ⟨⟨y, ?_⟩, hst.1.at fun o q => (sb.2 it (Ne.symm hea)).trans q⟩, fun b hb => ?_⟩
    · have e1 : ((i + 1 : Nat) : Int) = (i : Int) + 1 := by omega
      rw [e1]
      exact he'
    · have hb' : b < s.heap.objs.size := by
        have e' : b = e ∨ b = it := by simpa using hb
        rcases e' with r | r
        · rw [r]; exact hel
        · rw [r]; exact hil
      rw [upd_ne (Nat.ne_of_lt hb')]
      exact (hf b hb).1
  done := by
    intro X hP hw hK hc i pins s σ H E I hf st hg
    subst hP hw hK
    obtain ⟨⟨old, he⟩, hit⟩ := st
    obtain ⟨xs, hq, hx⟩ := hg
    obtain ⟨its, rv, p, hz⟩ := I.tuple hq
    obtain ⟨f0, f1, f2, f3, f4, f5⟩ := hf it (by simp)
    have hl := rv.length
    have hhd := I.ok.hd hc
    have none_ : its.toArray[i]? = none := by
      rw [List.getElem?_toArray]
      exact List.getElem?_eq_none (by omega)
    have hT : s.TypeIs (.ref e) "enumerate" := ⟨_, he, rfl⟩
    unfold pyNext
    refine wpAny_bind (wpAny_attempt (wpAny_callSpecial?_slot (name := Str.ofString "__next__") hT F.slot_enumerate_next
      (wpAny_call_entry F.slot_enumerate_next hT F.entry_enumerate_next ?_ (F.args_enumerate_next_1 _))))
    show wpAny _ _ (field (.ref e) 2 >>= _) _ _ _
    refine wpAny_bind (wpAny_field he rfl (x := .ref it) rfl ?_)
    refine wpAny_bind (wpAny_nextOf_tuple_end (A := X.A.in1) hhd hit p none_ fun h' x he' hx' => ?_)
    obtain ⟨o, ho, hc⟩ := hx'
    refine wpAny_bind (wpAny_isInstance (T := "StopIteration") (b := true) ⟨o, ho, hc⟩ isSubtype_stop ?_)
    exact wpAny_pure ⟨rfl, I.turned (t' := s.toks) (fun b o hb q => he' b o hb q) f0 f1 f3 f4 f5⟩
  self := fun A i s Q E st h => wpAny_pyIter_enum st.1.choose_spec h
end Pk

/-! The data layer, part I3: sources of loops. -/
namespace Pk
open PySem PySem.Spec PyProof.Rows L2 RZ
def signs : Tx → List D
  | [] => []
  | c :: r => .str [c] :: signs r
/-- what is walked, if it stands still -/
def seqD : D → Option (List D)
  | .lst xs => some xs
  | .tup xs => some xs
  | .ptp xs => some xs
  | .ttp xs => some xs
  | .str s => some (signs s)
  | .scr xs => some (xs.map .int)
  | _ => none
def enumD : Nat → List D → List D
  | _, [] => []
  | n, d :: r => .tup [.int n, d] :: enumD (n + 1) r
def zipD : List D → List D → List D
  | a :: r, b :: s => .tup [a, b] :: zipD r s
  | _, _ => []
def rngD : Int → Nat → List D
  | _, 0 => []
  | i, n + 1 => .int i :: rngD (i + 1) n
theorem signs_at : ∀ (s : Tx) (i : Nat), (signs s)[i]? = (s[i]?).map fun c => .str [c]
  | [], i => by simp [signs]
  | c :: r, 0 => by simp [signs]
  | c :: r, i + 1 => by simpa [signs] using signs_at r i
theorem enumD_at : ∀ (n : Nat) (ds : List D) (i : Nat), (enumD n ds)[i]? = (ds[i]?).map fun d => .tup [.int ((n + i : Nat) : Int), d]
  | n, [], i => by simp [enumD]
  | n, d :: r, 0 => by simp [enumD]
  | n, d :: r, i + 1 => by
    have h := enumD_at (n + 1) r i
    simp only [enumD, List.getElem?_cons_succ, h]
    congr 1
    funext d
    rw [show n + 1 + i = n + (i + 1) by omega]
theorem zipD_at : ∀ (xs ys : List D) (i : Nat), (zipD xs ys)[i]? = match xs[i]?, ys[i]? with
    | some x, some y => some (.tup [x, y])
    | _, _ => none
  | [], _, i => by simp [zipD]
  | _ :: _, [], i => by
    simp only [zipD, List.getElem?_nil]
    split <;> simp_all
  | a :: r, b :: s, 0 => by simp [zipD]
  | a :: r, b :: s, i + 1 => by simpa [zipD] using zipD_at r s i
theorem rngD_at : ∀ (n : Nat) (a : Int) (i : Nat), (rngD a n)[i]? = if i < n then some (.int (a + i)) else none
  | 0, a, i => by simp [rngD]
  | n + 1, a, 0 => by simp [rngD]
  | n + 1, a, i + 1 => by
    have h := rngD_at n (a + 1) i
    simp only [rngD, List.getElem?_cons_succ, h]
    by_cases q : i < n
    · rw [if_pos q, if_pos (by omega)]
      congr 2
      omega
    · rw [if_neg q, if_neg (by omega)]
theorem enumD_len (n : Nat) (ds : List D) : (enumD n ds).length = ds.length := by
  induction ds generalizing n with
  | nil => rfl
  | cons d r ih => exact congrArg (· + 1) (ih _)
theorem rngD_len (n : Nat) (a : Int) : (rngD a n).length = n := by
  induction n generalizing a with
  | zero => rfl
  | succ n ih => exact congrArg (· + 1) (ih _)
theorem signs_len (s : Tx) : (signs s).length = s.length := by
  induction s with
  | nil => rfl
  | cons c r ih => exact congrArg (· + 1) ih
section
variable {K : PySem.W.Frag} {T : Tab} {F : Hp} {m : List Addr} {a b : Addr} {ds es : List D} {vs us : List V}
theorem Same.sql {K : PySem.W.Frag} {H H' : Hp} {a : Addr} {xs : List V} (e : Same H H') (h : SqL K H a xs) : SqL K H' a xs := e.seq h
theorem none_of {ds : List D} {vs : List V} {i : Nat} (r : Reps K T F m ds vs) (h : ds.length ≤ i) : vs.length ≤ i := by rw [← r.length]; exact h
theorem jok_list (h : SqL K F a vs) (r : Reps K T F m ds vs) : JOk K T F m (Itl K a) ds where
  go := fun i H d s e => by
    obtain ⟨v, h1, _⟩ := r.get e
    exact ⟨vs, v, s.seq h, h1⟩
  stop := fun i H s hl => ⟨vs, s.seq h, none_of r hl⟩
  yld := fun i H x H' d s e y => by
    obtain ⟨v, h1, h2⟩ := r.get e
    obtain ⟨e1, e2⟩ := y
    have := e2 vs (s.seq h)
    rw [h1] at this
    cases this
    exact .inl ⟨e1, h2⟩
theorem jok_tup (h : SqT K F a vs) (r : Reps K T F m ds vs) : JOk K T F m (Itt K a) ds where
  go := fun i H d s e => by
    obtain ⟨v, h1, _⟩ := r.get e
    exact ⟨vs, v, Same.sqt s h, h1⟩
  stop := fun i H s hl => ⟨vs, Same.sqt s h, none_of r hl⟩
  yld := fun i H x H' d s e y => by
    obtain ⟨v, h1, h2⟩ := r.get e
    obtain ⟨e1, e2⟩ := y
    have := e2 vs (Same.sqt s h)
    rw [h1] at this
    cases this
    exact .inl ⟨e1, h2⟩
theorem jok_str (s : Tx) : JOk K T F m (Its (tx s)) (signs s) where
  go := fun i H d _ e => by
    have := (List.getElem?_eq_some_iff.mp e).1
    rw [signs_len] at this
    show i < (tx s).cps.size
    simpa [tx] using this
  stop := fun i H _ hl => by
    rw [signs_len] at hl
    show (tx s).cps.size ≤ i
    simpa [tx] using hl
  yld := fun i H x H' d _ e y => by
    obtain ⟨e1, c, e2, e3⟩ := y
    rw [signs_at] at e
    have e4 : s[i]? = some c := by simpa [tx] using e2
    rw [e4] at e
    cases e
    subst e3
    exact .inl ⟨e1, .str⟩
theorem jok_enumL (h : SqL K F a vs) (r : Reps K T F m ds vs) : JOk K T F m (Ite K a) (enumD 0 ds) where
  go := fun i H d s e => by
    rw [enumD_at] at e
    cases q : ds[i]? with
    | none => rw [q] at e; cases e
    | some d =>
      obtain ⟨v, h1, _⟩ := r.get q
      exact ⟨vs, v, s.seq h, h1⟩
  stop := fun i H s hl => ⟨vs, s.seq h, none_of r (by rw [enumD_len] at hl; exact hl)⟩
  yld := fun i H x H' d s e y => by
    rw [enumD_at] at e
    obtain ⟨t, u, e1, n, e2, e3⟩ := y
    cases q : ds[i]? with
    | none => rw [q] at e; cases e
    | some d' =>
      rw [q] at e
      cases e
      obtain ⟨v, h1, h2⟩ := r.get q
      have := e3 vs (s.seq h)
      rw [h1] at this
      cases this
      refine .inr ⟨_, t, _, rfl, e1, n, e2, .cons ?_ (.cons h2 .nil)⟩
      rw [Nat.zero_add]
      exact .int
theorem jok_enumT (h : SqT K F a vs) (r : Reps K T F m ds vs) : JOk K T F m (IteT K a) (enumD 0 ds) where
  go := fun i H d s e => by
    rw [enumD_at] at e
    cases q : ds[i]? with
    | none => rw [q] at e; cases e
    | some d =>
      obtain ⟨v, h1, _⟩ := r.get q
      exact ⟨vs, v, Same.sqt s h, h1⟩
  stop := fun i H s hl => ⟨vs, Same.sqt s h, none_of r (by rw [enumD_len] at hl; exact hl)⟩
  yld := fun i H x H' d s e y => by
    rw [enumD_at] at e
    obtain ⟨t, u, e1, n, e2, e3⟩ := y
    cases q : ds[i]? with
    | none => rw [q] at e; cases e
    | some d' =>
      rw [q] at e
      cases e
      obtain ⟨v, h1, h2⟩ := r.get q
      have := e3 vs (Same.sqt s h)
      rw [h1] at this
      cases this
      refine .inr ⟨_, t, _, rfl, e1, n, e2, .cons ?_ (.cons h2 .nil)⟩
      rw [Nat.zero_add]
      exact .int
theorem zip_some {xs ys : List D} {i : Nat} {d : D} (e : (zipD xs ys)[i]? = some d) : ∃ x y, xs[i]? = some x ∧ ys[i]? = some y ∧ d = .tup [x, y] := by
  rw [zipD_at] at e
  split at e
  · rename_i x y h1 h2
    injection e with e
    exact ⟨x, y, h1, h2, e.symm⟩
  · cases e
theorem zip_none {xs ys : List D} {i : Nat} (e : (zipD xs ys).length ≤ i) : xs.length ≤ i ∨ ys.length ≤ i := by
  have h := List.getElem?_eq_none_iff.mpr e
  rw [zipD_at] at h
  cases q1 : xs[i]? with
  | none => exact .inl (List.getElem?_eq_none_iff.mp q1)
  | some x =>
    cases q2 : ys[i]? with
    | none => exact .inr (List.getElem?_eq_none_iff.mp q2)
    | some y => simp [q1, q2] at h
theorem jok_zipL (h : SqL K F a vs) (r : Reps K T F m ds vs) (h' : SqL K F b us) (r' : Reps K T F m es us) : JOk K T F m (Itz K a b) (zipD ds es) where
  go := fun i H d s e => by
    obtain ⟨x, y, e1, e2, _⟩ := zip_some e
    obtain ⟨v, h1, _⟩ := r.get e1
    obtain ⟨u, h2, _⟩ := r'.get e2
    exact ⟨vs, us, v, u, s.seq h, s.seq h', h1, h2⟩
  stop := fun i H s hl => ⟨vs, us, s.seq h, s.seq h', (zip_none hl).imp (none_of r) (none_of r')⟩
  yld := fun i H x H' d s e y => by
    obtain ⟨d1, d2, e1, e2, e3⟩ := zip_some e
    obtain ⟨v, h1, g1⟩ := r.get e1
    obtain ⟨u, h2, g2⟩ := r'.get e2
    obtain ⟨t, x1, y1, q1, n, q2, q3, q4⟩ := y
    have z1 := q3 vs (s.seq h)
    have z2 := q4 us (s.seq h')
    rw [h1] at z1
    rw [h2] at z2
    cases z1
    cases z2
    exact .inr ⟨_, t, _, e3, q1, n, q2, .cons g1 (.cons g2 .nil)⟩
theorem jok_zipT (h : SqT K F a vs) (r : Reps K T F m ds vs) (h' : SqT K F b us) (r' : Reps K T F m es us) : JOk K T F m (ItzT K a b) (zipD ds es) where
  go := fun i H d s e => by
    obtain ⟨x, y, e1, e2, _⟩ := zip_some e
    obtain ⟨v, h1, _⟩ := r.get e1
    obtain ⟨u, h2, _⟩ := r'.get e2
    exact ⟨vs, us, v, u, Same.sqt s h, Same.sqt s h', h1, h2⟩
  stop := fun i H s hl => ⟨vs, us, Same.sqt s h, Same.sqt s h', (zip_none hl).imp (none_of r) (none_of r')⟩
  yld := fun i H x H' d s e y => by
    obtain ⟨d1, d2, e1, e2, e3⟩ := zip_some e
    obtain ⟨v, h1, g1⟩ := r.get e1
    obtain ⟨u, h2, g2⟩ := r'.get e2
    obtain ⟨t, x1, y1, q1, n, q2, q3, q4⟩ := y
    have z1 := q3 vs (Same.sqt s h)
    have z2 := q4 us (Same.sqt s h')
    rw [h1] at z1
    rw [h2] at z2
    cases z1
    cases z2
    exact .inr ⟨_, t, _, e3, q1, n, q2, .cons g1 (.cons g2 .nil)⟩
theorem jok_rng (lo : Int) (n : Nat) : JOk K T F m (Itr lo n) (rngD lo n) where
  go := fun i H d _ e => by
    have := (List.getElem?_eq_some_iff.mp e).1
    rw [rngD_len] at this
    exact this
  stop := fun i H _ hl => by
    rw [rngD_len] at hl
    exact hl
  yld := fun i H x H' d _ e y => by
    obtain ⟨e1, e2⟩ := y
    rw [rngD_at] at e
    split at e
    · cases e
      subst e2
      exact .inl ⟨e1, .int⟩
    · cases e
end
end Pk

/-! The data layer, part I4: loops over sequences, ranges, enumerate, zip. -/
namespace Pk
open PySem PySem.Spec PyProof.Rows L2 RZ
def iSeq (w : WE) : WI := fun ρ μ Q E => w ρ μ (fun d μ1 => match seqD d with
  | some ds => Q ds μ1
  | none => False) E
def iEnm (w : WE) : WI := fun ρ μ Q E => w ρ μ (fun d μ1 => match d with
  | .lst ds => Q (enumD 0 ds) μ1
  | .tup ds => Q (enumD 0 ds) μ1
  | _ => False) E
def iZp (wa wb : WE) : WI := fun ρ μ Q E => wa ρ μ (fun d μ1 => wb ρ μ1 (fun e μ2 => match d, e with
  | .lst ds, .lst es => Q (zipD ds es) μ2
  | .tup ds, .tup es => Q (zipD ds es) μ2
  | _, _ => False) E) E
def rgOk : Int → Bool
  | .ofNat n => Nat.blt n 4611686018427387904
  | .negSucc n => Nat.blt n 4611686018427387904
theorem rgOk_of {i : Int} (h1 : -4611686018427387904 ≤ i) (h2 : i < 4611686018427387904) : rgOk i = true := by
  cases i with
  | ofNat n => exact Nat.ble_eq_true_of_le (by have : (n : Int) < 4611686018427387904 := h2; omega)
  | negSucc n => exact Nat.ble_eq_true_of_le (by omega)
def iRg1 (w : WE) : WI := fun ρ μ Q E => w ρ μ (fun d μ1 => match d with
  | .int j => match rgOk j with
    | true => Q (rngD 0 j.toNat) μ1
    | false => False
  | _ => False) E
def iRg2 (wa wb : WE) : WI := fun ρ μ Q E => wa ρ μ (fun d μ1 => wb ρ μ1 (fun e μ2 => match d, e with
  | .int i, .int j => match rgOk i && rgOk j with
    | true => Q (rngD i (j - i).toNat) μ2
    | false => False
  | _, _ => False) E) E
/-- a list, a tuple or a text, walked -/
def iAny (K : PySem.W.Frag) (t : TE) : TI := fun σ H R => t σ H fun x H1 => (∃ a, x = .ref a ∧ (∃ xs, SqL K H1 a xs) ∧ R (Itl K a) H1) ∨ (∃ a, x = .ref a ∧ (∃ xs, SqT K H1 a xs) ∧ R (Itt K a) H1) ∨ ∃ s, x = .str s ∧ R (Its s) H1
section
variable {X : Cx} {z : Zx} {pos : Pos} {tg e e2 : Expr} {w wa wb : WE}
theorem pi_any {t : TE} (he : PE X e t) : PI X tg e (iAny X.K t) := by
  refine ⟨fun pins s σ H R I h => ?_⟩
  refine thn (he.run pins s σ H _ I h) fun v s1 hh => ?_
  obtain ⟨x, H1, I1, r1, q⟩ := hh
  rcases q with ⟨a, e, ⟨xs, hq⟩, q⟩ | ⟨a, e, ⟨xs, hq⟩, q⟩ | ⟨s, e, q⟩
  · subst e
    cases r1
    obtain ⟨its, rv, p, hz⟩ := I1.list hq
    exact wpAny_pyIter_list p.isList (pi_one (tk := s1.toks) I1 _ (turn_list a _) ⟨_, Heap.get?_push_size _ rfl, rfl, rfl⟩ q)
  · subst e
    cases r1
    obtain ⟨its, rv, p, hz⟩ := I1.tuple hq
    exact wpAny_pyIter_tuple (show s1.heap.IsTuple a its.toArray from p) (pi_one (tk := s1.toks) I1 _ (turn_tuple a _) ⟨_, Heap.get?_push_size _ rfl, rfl, rfl⟩ q)
  · subst e
    obtain ⟨t, rfl⟩ := r1
    cases ha : s.cps.all (· < 128)
    · exact wpAny_pyIter_wide ha (pi_one (tk := s1.toks) I1 _ (turn_str _ s t "str_iterator" (.inr rfl)) ⟨_, Heap.get?_push_size _ rfl, rfl, rfl⟩ q)
    · exact wpAny_pyIter_ascii ha (pi_one (tk := s1.toks) I1 _ (turn_str _ s t "str_ascii_iterator" (.inl rfl)) ⟨_, Heap.get?_push_size _ rfl, rfl, rfl⟩ q)
theorem di_seq (h : DE X z e w) : DI X z tg e (iSeq w) := fun Wd tk => piI (pi_any (h Wd tk)) fun σ H R ⟨F, m, μ, ρ, Qd, S, h, k⟩ =>
  ⟨F, m, μ, ρ, (fun d μ1 => match seqD d with | some ds => Qd ds μ1 | none => False), S, h, fun F1 m1 μ1 d1 v1 H1 x1 S1 r1 q1 => by
    cases e : seqD d1 with
    | none => simp only [e] at q1
    | some ds =>
      simp only [e] at q1
      cases r1 with
      | tup h r =>
        cases e
        exact .inr (.inl ⟨_, rfl, ⟨_, Same.sqt S1.same h⟩, k _ _ _ _ _ _ x1 S1 (jok_tup h r) q1⟩)
      | lst h r =>
        cases e
        exact .inl ⟨_, rfl, ⟨_, SqL.of (S1.same _ _ h)⟩, k _ _ _ _ _ _ x1 S1 (jok_list (SqL.of h) r) q1⟩
      | ptp h hn r =>
        cases e
        have hq : SqT X.K F1 _ _ := .inl (.inr ⟨_, h⟩)
        exact .inr (.inl ⟨_, rfl, ⟨_, Same.sqt S1.same hq⟩, k _ _ _ _ _ _ x1 S1 (jok_tup hq r) q1⟩)
      | ttp h r =>
        cases e
        have hq : SqT X.K F1 _ _ := SqT.of h
        exact .inr (.inl ⟨_, rfl, ⟨_, Same.sqt S1.same hq⟩, k _ _ _ _ _ _ x1 S1 (jok_tup hq r) q1⟩)
      | scr h =>
        cases e
        exact .inl ⟨_, rfl, ⟨_, S1.same.seq h⟩, k _ _ _ _ _ _ x1 S1 (jok_list h (reps_ints _)) q1⟩
      | str =>
        cases e
        exact .inr (.inr ⟨_, rfl, k _ _ _ _ _ _ x1 S1 (jok_str _) q1⟩)
      | _ => cases e⟩
/-- enumerate(e), e a list or a tuple -/
def iEnA (K : PySem.W.Frag) (ta : TA) : TI := fun σ H R => ta σ H fun vs H1 => ∃ a, vs = [.ref a] ∧ ((∃ xs, SqL K H1 a xs ∧ R (Ite K a) H1) ∨ ∃ xs, SqT K H1 a xs ∧ R (IteT K a) H1)
theorem pi_enA {ta : TA} {p tpos : Pos} {elts : List Expr} {kk : Nat} (hg : Gl X "enumerate") (hm : X.mg "enumerate" = none) (ha : PA X [e] ta) (hs : starEach [e] X.env = [(false, eval e X.env)] := by rfl) : PI X (.Tuple elts kk tpos) (.Call (.Name "enumerate" p) [e] [] pos) (iEnA X.K ta) := by
  refine ⟨fun pins s σ H R I h => ?_⟩
  refine Call_ (ld_blt I hg hm boot_enumerate (PyProof.Rows.callWith_type1 (thn (ha.run pos pins s σ H _ I h) fun us s1 hh => ?_) hs rfl))
  obtain ⟨vs, H1, I1, r1, a, ex, q⟩ := hh
  subst ex
  cases r1 with
  | cons r rr =>
    cases rr
    cases r
    have fp2 : ∀ (b : Addr), b ∈ [s1.heap.objs.size + 1, s1.heap.objs.size] → FpOk X pins H1 b := fun b hb => by
      have hle : s1.heap.objs.size ≤ b := by
        have e' : b = s1.heap.objs.size + 1 ∨ b = s1.heap.objs.size := by simpa using hb
        rcases e' with r | r
        · rw [r]; exact Nat.le_add_right _ _
        · rw [r]; exact Nat.le_refl _
      exact I1.fpOk hle (I1.hok.fresh hle)
    rcases q with ⟨xs, hq, q⟩ | ⟨xs, hq, q⟩
    · obtain ⟨its, rv, p', hz⟩ := I1.list hq
      refine call_enumerate_list p'.isList fun h' he hit hsz hk => wpAny_pyIter_enum he ?_
      have I2 : Inv X pins σ H1 { s1 with heap := h' } := I1.kept (t' := s1.toks) hk
      exact ⟨s1.heap.objs.size + 1, [s1.heap.objs.size + 1, s1.heap.objs.size], _, _, H1, rfl, I2, turn_enum a (s1.heap.objs.size + 1) s1.heap.objs.size, ⟨⟨.none, he⟩, hit, Nat.succ_ne_self _⟩, fp2, q⟩
    · obtain ⟨its, rv, p', hz⟩ := I1.tuple hq
      have hal : a < s1.heap.objs.size := p'.lt
      have hB := begins_tuple a its.toArray
      refine callType_new F.called_enumerate (by decide) (F.typeCall_enumerate_1 _) (F.newCall_enumerate_1 _) (fun obj => F.args_object_init_2 obj _) F.entry_enumerate_new (meets_enum1 hB) ⟨p', ?_⟩
      generalize ho : ({ cls := .type "tuple_iterator", data := .fields #[.ref a, .int 0 0] } : Obj) = o
      have hz1 : (s1.heap.push o).objs.size = s1.heap.objs.size + 1 := Heap.size_push ..
      show _ ∧ _
      rw [hz1]
      have he : IsEnum ((s1.heap.push o).push { cls := .type "enumerate", data := .fields #[.none, .bool false, .ref s1.heap.objs.size, rawInt 0, .none, .none] }) (s1.heap.objs.size + 1) s1.heap.objs.size 0 .none := by
        have := Heap.get?_push_size (s1.heap.push o) (o := { cls := .type "enumerate", data := .fields #[.none, .bool false, .ref s1.heap.objs.size, rawInt 0, .none, .none] }) rfl
        rw [hz1] at this
        exact this
      refine ⟨⟨_, he, rfl⟩, wpAny_pyIter_enum he ?_⟩
      have hk : ∀ b u, s1.heap.get? b = some u → ((s1.heap.push o).push { cls := .type "enumerate", data := .fields #[.none, .bool false, .ref s1.heap.objs.size, rawInt 0, .none, .none] }).get? b = some u := fun b u x => Heap.get?_push_of_some _ (Heap.get?_push_of_some _ x)
      have I2 : Inv X pins σ H1 { s1 with heap := (s1.heap.push o).push { cls := .type "enumerate", data := .fields #[.none, .bool false, .ref s1.heap.objs.size, rawInt 0, .none, .none] } } := I1.kept (t' := s1.toks) hk
      have hit : ((s1.heap.push o).push { cls := .type "enumerate", data := .fields #[.none, .bool false, .ref s1.heap.objs.size, rawInt 0, .none, .none] }).IsTupleIter s1.heap.objs.size a 0 :=
        ⟨o, Heap.get?_push_of_some _ (Heap.get?_push_size _ (by rw [← ho]; rfl)), by rw [← ho], by rw [← ho]; rfl⟩
      exact ⟨s1.heap.objs.size + 1, [s1.heap.objs.size + 1, s1.heap.objs.size], _, _, H1, rfl, I2, turn_enumT a (s1.heap.objs.size + 1) s1.heap.objs.size (Nat.succ_ne_self _) (Nat.ne_of_lt hal) (Nat.ne_of_lt (Nat.lt_succ_of_lt hal)), ⟨⟨.none, he⟩, hit⟩, fp2, q⟩
theorem di_enum {p tpos : Pos} {elts : List Expr} {kk : Nat} (hg : Gl X "enumerate") (hm : X.mg "enumerate" = none) (h : DE X z e w) (hs : starEach [e] X.env = [(false, eval e X.env)] := by rfl) : DI X z (.Tuple elts kk tpos) (.Call (.Name "enumerate" p) [e] [] pos) (iEnm w) := fun Wd tk =>
  piI (pi_enA hg hm (da_cons h da_nil hs Wd tk) hs) fun σ H R ⟨F, m, μ, ρ, Qd, S, h, k⟩ =>
    ⟨F, m, μ, ρ, (fun ds μ1 => match ds with | [.lst ds] => Qd (enumD 0 ds) μ1 | [.tup ds] => Qd (enumD 0 ds) μ1 | _ => False), S, by
      refine cast (congrArg (fun f => w ρ μ f fun x μ' => Wd x ρ μ') ?_) h
      funext d μ1
      cases d <;> rfl, fun F1 m1 μ1 ds vs H1 x1 S1 r1 q1 => by
      cases r1 with
      | nil => exact q1.elim
      | cons r rs =>
        cases rs with
        | cons _ _ => cases r <;> exact q1.elim
        | nil =>
          cases r with
          | tup h r => exact ⟨_, rfl, .inr ⟨_, Same.sqt S1.same h, k _ _ _ _ _ _ x1 S1 (jok_enumT h r) q1⟩⟩
          | lst h r => exact ⟨_, rfl, .inl ⟨_, SqL.of (S1.same _ _ h), k _ _ _ _ _ _ x1 S1 (jok_enumL (SqL.of h) r) q1⟩⟩
          | _ => exact q1.elim⟩
theorem di_zip {p tpos : Pos} {elts : List Expr} {kk : Nat} (hg : Gl X "zip") (hm : X.mg "zip" = none) (h : DE X z e wa) (h2 : DE X z e2 wb) (hs : starEach [e, e2] X.env = (false, eval e X.env) :: starEach [e2] X.env := by rfl) (hs2 : starEach [e2] X.env = (false, eval e2 X.env) :: starEach [] X.env := by rfl)
    (hpl : (backTo pos (starEach [e2] X.env)).any (·.1) = false := by rfl) : DI X z (.Tuple elts kk tpos) (.Call (.Name "zip" p) [e, e2] [] pos) (iZp wa wb) := fun Wd tk =>
  piI (pi_zipA hg hm (da_cons h (da_cons h2 da_nil hs2) hs Wd tk) hs hpl) fun σ H R ⟨F, m, μ, ρ, Qd, S, h, k⟩ =>
    ⟨F, m, μ, ρ, (fun ds μ1 => match ds with | [.lst ds, .lst es] => Qd (zipD ds es) μ1 | [.tup ds, .tup es] => Qd (zipD ds es) μ1 | _ => False), S, by
      refine cast (congrArg (fun f => wa ρ μ f fun x μ' => Wd x ρ μ') ?_) h
      funext d μ1
      refine congrArg (fun f => wb ρ μ1 f fun x μ' => Wd x ρ μ') ?_
      funext e μ2
      cases d <;> cases e <;> rfl, fun F1 m1 μ1 ds vs H1 x1 S1 r1 q1 => by
      cases r1 with
      | nil => exact q1.elim
      | cons r rs =>
        cases rs with
        | nil => cases r <;> exact q1.elim
        | cons r' rs =>
          cases rs with
          | cons _ _ => cases r <;> cases r' <;> exact q1.elim
          | nil =>
            cases r with
            | tup h r =>
              cases r' with
              | tup h' r' => exact ⟨_, _, _, _, rfl, .inr ⟨Same.sqt S1.same h, Same.sqt S1.same h', k _ _ _ _ _ _ x1 S1 (jok_zipT h r h' r') q1⟩⟩
              | _ => exact q1.elim
            | lst h r =>
              cases r' with
              | lst h' r' => exact ⟨_, _, _, _, rfl, .inl ⟨SqL.of (S1.same _ _ h), SqL.of (S1.same _ _ h'), k _ _ _ _ _ _ x1 S1 (jok_zipL (SqL.of h) r (SqL.of h') r') q1⟩⟩
              | _ => exact q1.elim
            | _ => cases r' <;> exact q1.elim⟩
theorem rgOk_ok {i : Int} (h : rgOk i = true) : -(2 ^ 62) ≤ i ∧ i < 2 ^ 62 := by
  cases i with
  | ofNat n =>
    have := Nat.le_of_ble_eq_true (show Nat.ble (n + 1) 4611686018427387904 = true from h)
    simp only [Int.ofNat_eq_natCast]
    omega
  | negSucc n =>
    have := Nat.le_of_ble_eq_true (show Nat.ble (n + 1) 4611686018427387904 = true from h)
    omega
theorem di_range1 {p : Pos} (hg : Gl X "range") (hm : X.mg "range" = none) (h : DE X z e w) (hs : starEach [e] X.env = [(false, eval e X.env)] := by rfl) : DI X z tg (.Call (.Name "range" p) [e] [] pos) (iRg1 w) := fun Wd tk =>
  piI (pi_range1 hg hm (da_cons h da_nil hs Wd tk) hs) fun σ H R ⟨F, m, μ, ρ, Qd, S, h, k⟩ =>
    ⟨F, m, μ, ρ, (fun ds μ1 => match ds with | [.int j] => (match rgOk j with | true => Qd (rngD 0 j.toNat) μ1 | false => False) | _ => False), S, by
      refine cast (congrArg (fun f => w ρ μ f fun x μ' => Wd x ρ μ') ?_) h
      funext d μ1
      cases d <;> rfl, fun F1 m1 μ1 ds vs H1 x1 S1 r1 q1 => by
      cases r1 with
      | nil => exact q1.elim
      | cons r rs =>
        cases rs with
        | cons _ _ => cases r <;> exact q1.elim
        | nil =>
          cases r with
          | @int j =>
            cases e : rgOk j with
            | false => simp only [e] at q1
            | true =>
              simp only [e] at q1
              obtain ⟨g1, g2⟩ := rgOk_ok e
              exact ⟨_, rfl, g1, g2, k _ _ _ _ _ _ x1 S1 (jok_rng 0 _) q1⟩
          | _ => exact q1.elim⟩
theorem di_range2 {p : Pos} (hg : Gl X "range") (hm : X.mg "range" = none) (h : DE X z e wa) (h2 : DE X z e2 wb) (hs : starEach [e, e2] X.env = [(false, eval e X.env), (false, eval e2 X.env)] := by rfl) (hs2 : starEach [e2] X.env = [(false, eval e2 X.env)] := by rfl) :
    DI X z tg (.Call (.Name "range" p) [e, e2] [] pos) (iRg2 wa wb) := fun Wd tk =>
  piI (pi_range2 hg hm (da_cons h (da_cons h2 da_nil hs2) (by rw [hs, hs2]) Wd tk) hs hs2) fun σ H R ⟨F, m, μ, ρ, Qd, S, h, k⟩ =>
    ⟨F, m, μ, ρ, (fun ds μ1 => match ds with | [.int i, .int j] => (match rgOk i && rgOk j with | true => Qd (rngD i (j - i).toNat) μ1 | false => False) | _ => False), S, by
      refine cast (congrArg (fun f => wa ρ μ f fun x μ' => Wd x ρ μ') ?_) h
      funext d μ1
      refine congrArg (fun f => wb ρ μ1 f fun x μ' => Wd x ρ μ') ?_
      funext e μ2
      cases d <;> cases e <;> rfl, fun F1 m1 μ1 ds vs H1 x1 S1 r1 q1 => by
      cases r1 with
      | nil => exact q1.elim
      | cons r rs =>
        cases rs with
        | nil => cases r <;> exact q1.elim
        | cons r' rs =>
          cases rs with
          | cons _ _ => cases r <;> cases r' <;> exact q1.elim
          | nil =>
            cases r with
            | @int i =>
              cases r' with
              | @int j =>
                cases e : rgOk i && rgOk j with
                | false => simp only [e] at q1
                | true =>
                  simp only [e] at q1
                  obtain ⟨g0, g1⟩ := Bool.and_eq_true_iff.mp e
                  obtain ⟨a1, a2⟩ := rgOk_ok g0
                  obtain ⟨a3, a4⟩ := rgOk_ok g1
                  exact ⟨_, _, rfl, ⟨a1, a2, a3, a4⟩, k _ _ _ _ _ _ x1 S1 (jok_rng i _) q1⟩
              | _ => exact q1.elim
            | _ => cases r' <;> exact q1.elim⟩
end
end Pk

/-! The data layer, part J: comprehensions, new lists of one's own. -/
namespace Pk
open PySem PySem.Spec PyProof.Rows L2

/-- a new list: frozen, or of the store -/
def giveL (own : Bool) (ds : List D) (μ : Sto) (Q : QD) : Prop := match own with
  | false => Q (.lst ds) μ
  | true => Q (.mref μ.length) (μ ++ [.lst ds])
section
variable {K : PySem.W.Frag} {T : Tab} {F0 F F' H0 : Hp} {m0 m m' : List Addr} {μ μ' : Sto} {ρ : Slots} {σ : L2.St} {H H' : Hp} {p a : Addr} {ds : List D} {vs : List V}
theorem Sim.notIn (S : Sim K T F0 m0 H0 F m μ ρ σ H) (hp : H p = none) : p ∉ m := fun h => S.al p h hp
/-- the heap grows by what is not tracked -/
theorem Sim.more (S : Sim K T F0 m0 H0 F m μ ρ σ H) (hp : H p = none) (o : HO) : Ext F m H F m (upd H p o) ∧ Sim K T F0 m0 H0 F m μ ρ σ (upd H p o) :=
  ⟨⟨Gr.refl F m, fun b u e w n h => ⟨upd_keep hp b u e, n, h⟩, Up.upd (fun a z => by rw [hp] at z; cases z)⟩, S.grow (Same.refl F) (fun b u e => upd_keep hp b u (S.same b u e)) (upd_keep hp) (fun _ _ n => n)⟩
/-- p is younger than the entry -/
def Yng (F0 : Hp) (m0 : List Addr) (H0 : Hp) (p : Addr) : Prop := ∀ o, H0 p = some o → (∀ a, o ≠ .own a) → F0 p = none → p ∉ m0 → False
theorem Sim.yng (S : Sim K T F0 m0 H0 F m μ ρ σ H) (hp : H p = none) : Yng F0 m0 H0 p := fun o e w n h => by
  rw [(S.ext.frm p o e w n h).1] at hp
  cases hp
/-- a list that nobody tracks is changed -/
theorem Sim.poke (S : Sim K T F0 m0 H0 F m μ ρ σ H) (hp : H p = some (.lst vs)) (hf : F p = none) (hm : p ∉ m) (y : Yng F0 m0 H0 p) (us : List V) : Sim K T F0 m0 H0 F m μ ρ σ (upd H p (.lst us)) where
  ext := ⟨S.ext.gr, fun b o e w n h => by
    obtain ⟨e1, n1, h1⟩ := S.ext.frm b o e w n h
    refine ⟨?_, n1, h1⟩
    rw [upd_ne fun q => ?_]
    · exact e1
    · subst q
      exact y o e w n h, S.ext.up.trans (Up.upd (fun a z => by rw [hp] at z; cases z))⟩
  same := fun b o e => by
    rw [upd_ne (ne_of_none e hf)]
    exact S.same b o e
  len := S.len
  nd := S.nd
  al := fun a h e => by
    have q : a ≠ p := fun e => hm (e ▸ h)
    rw [upd_ne q] at e
    exact S.al a h e
  sto := fun i b o e1 e2 n => by
    obtain ⟨h1, h2⟩ := S.sto i b o e1 e2 n
    have q : b ≠ p := fun e => hm (e ▸ List.mem_of_getElem? e1)
    refine ⟨h1, ?_⟩
    cases o with
    | lst ds => obtain ⟨vs, e, r⟩ := h2; exact ⟨vs, by rw [upd_ne q]; exact e, r⟩
    | dct ds => obtain ⟨vs, e, r⟩ := h2; exact ⟨vs, by rw [upd_ne q]; exact e, r⟩
    | ins c ds =>
      obtain ⟨dx, vs, e, e2, n, l, r⟩ := h2
      have q2 : dx ≠ p := ne_of e2 hp (by intro z; cases z)
      exact ⟨dx, vs, by rw [upd_ne q]; exact e, by rw [upd_ne q2]; exact e2, n, l, r⟩
    | fz d => exact h2
    | gone => trivial
  sl := S.sl
  slot := S.slot
/-- .. is frozen -/
theorem Sim.freeze (S : Sim K T F0 m0 H0 F m μ ρ σ H) (hp : H p = some (.lst vs)) (hf : F p = none) (hm : p ∉ m) (y : Yng F0 m0 H0 p) : Sim K T F0 m0 H0 (upd F p (.lst vs)) m μ ρ σ H := by
  have x : Same F (upd F p (.lst vs)) := upd_keep hf
  refine ⟨⟨⟨S.ext.gr.fr.trans x, S.ext.gr.mem⟩, fun b o e w n h => ?_, S.ext.up⟩, fun b o e => ?_, S.len, S.nd, S.al, fun i b o e1 e2 n => ?_, S.sl, fun i d e => ?_⟩
  · obtain ⟨e1, n1, h1⟩ := S.ext.frm b o e w n h
    have q : b ≠ p := fun q => by
      subst q
      exact y o e w n h
    exact ⟨e1, by rw [upd_ne q]; exact n1, h1⟩
  · by_cases q : b = p
    · rw [q, upd_same] at e
      rw [q, hp]
      exact e
    · rw [upd_ne q] at e
      exact S.same b o e
  · obtain ⟨h1, h2⟩ := S.sto i b o e1 e2 n
    have q : b ≠ p := fun e => hm (e ▸ List.mem_of_getElem? e1)
    refine ⟨fun nf => by rw [upd_ne q]; exact h1 nf, ?_⟩
    cases o with
    | lst ds => obtain ⟨vs, e, r⟩ := h2; exact ⟨vs, e, r.mono ⟨x, [], by simp⟩⟩
    | dct ds => obtain ⟨vs, e, r⟩ := h2; exact ⟨vs, e, r.mono ⟨x, [], by simp⟩⟩
    | ins c ds =>
      obtain ⟨dx, vs, e, e2, n, l, r⟩ := h2
      have q2 : dx ≠ p := ne_of e2 hp (by intro z; cases z)
      exact ⟨dx, vs, e, e2, n, l, r.mono ⟨x, [], by simp⟩⟩
    | fz d => exact Rep.mono ⟨x, [], by simp⟩ h2
    | gone => trivial
  · obtain ⟨v, h1, h2⟩ := S.slot i d e
    exact ⟨v, h1, h2.mono ⟨x, [], by simp⟩⟩
/-- .. goes into the store -/
theorem Sim.keep {mo : MO} (S : Sim K T F0 m0 H0 F m μ ρ σ H) (hf : F p = none) (hm : p ∉ m) (y : Yng F0 m0 H0 p) (hr : MRep K T F m H p mo) (hg : mo ≠ .gone) (hz : mo.isFz = false := by rfl) : Sim K T F0 m0 H0 F (m ++ [p]) (μ ++ [mo]) ρ σ H := by
  have g : Gr F m F (m ++ [p]) := ⟨Same.refl F, [p], rfl⟩
  have mm : ∀ {a : Addr} {o : MO}, MRep K T F m H a o → MRep K T F (m ++ [p]) H a o := fun {a o} h => MRep.mono g (fun _ _ e => e) (fun _ _ n => n) h
  refine ⟨⟨S.ext.gr.trans g, fun b o e w n h => ?_, S.ext.up⟩, S.same, by simp [S.len], ?_, fun a h => ?_, fun i b o e1 e2 n => ?_, S.sl, fun i d e => ?_⟩
  · obtain ⟨e1, n1, h1⟩ := S.ext.frm b o e w n h
    refine ⟨e1, n1, fun q => ?_⟩
    rcases List.mem_append.mp q with q | q
    · exact h1 q
    · rw [List.mem_singleton.mp q] at e n h
      exact y o e w n h
  · rw [List.nodup_append]
    refine ⟨S.nd, by simp, fun a h b q => ?_⟩
    rw [List.mem_singleton.mp q]
    exact fun e => hm (e ▸ h)
  · rcases List.mem_append.mp h with h | h
    · exact S.al a h
    · rw [List.mem_singleton.mp h]
      obtain ⟨u, hu, _⟩ := hr.at hg hz
      rw [hu]
      simp
  · by_cases q : i < m.length
    · rw [List.getElem?_append_left q] at e1
      rw [List.getElem?_append_left (by rw [← S.len]; exact q)] at e2
      obtain ⟨h1, h2⟩ := S.sto i b o e1 e2 n
      exact ⟨h1, mm h2⟩
    · have q2 : i = m.length := by
        have := (List.getElem?_eq_some_iff.mp e1).1
        simp only [List.length_append, List.length_singleton] at this
        omega
      subst q2
      rw [List.getElem?_append_right (Nat.le_refl _), Nat.sub_self] at e1
      rw [S.len, List.getElem?_append_right (Nat.le_refl _), Nat.sub_self] at e2
      simp only [List.getElem?_cons_zero, Option.some.injEq] at e1 e2
      subst e1 e2
      exact ⟨fun _ => hf, mm hr⟩
  · obtain ⟨v, h1, h2⟩ := S.slot i d e
    exact ⟨v, h1, h2.mono g⟩
end
section
variable {X : Cx} {z : Zx}
/-- a new list that stands already -/
theorem give_run {F F1 : Hp} {m m1 : List Addr} {μ1 : Sto} {ρ : Slots} {σ : L2.St} {H H1 : Hp} {Qd : QD} {Q : VK} {own : Bool} {ds : List D} {vs : List V} {p : Addr} (k : Fin X.K z F m H ρ σ Qd Q) (hn : H p = none) (x : Ext F m H F1 m1 H1) (S : SimZ X.K z F1 m1 μ1 ρ σ H1)
    (hp : H1 p = some (.lst vs)) (hf : F1 p = none) (hm : p ∉ m1) (y : Yng z.F0 z.m0 z.H0 p) (r : Reps X.K z.T F1 m1 ds vs) (q : giveL own ds μ1 Qd) : Q (.ref p) H1 := by
  have np : ∀ b o, H b = some o → b ≠ p := fun b o e q => by rw [q, hn] at e; cases e
  cases own with
  | false =>
    have S2 := S.freeze hp hf hm y
    have g : Same F1 (upd F1 p (.lst vs)) := upd_keep hf
    refine k _ _ _ _ _ _ ⟨x.gr.trans ⟨g, [], by simp⟩, fun b o e w n h => ?_, x.up⟩ S2 (.lst upd_same (r.mono ⟨g, [], by simp⟩)) q
    obtain ⟨e1, n1, h1⟩ := x.frm b o e w n h
    exact ⟨e1, by rw [upd_ne (np b o e)]; exact n1, h1⟩
  | true =>
    have S2 := S.keep hf hm y (mo := .lst ds) ⟨vs, hp, r⟩ (fun z => by cases z)
    have g : Gr F1 m1 F1 (m1 ++ [p]) := ⟨Same.refl F1, [p], rfl⟩
    refine k _ _ _ _ _ _ ⟨x.gr.trans g, fun b o e w n h => ?_, x.up⟩ S2 (.mref ?_) q
    · obtain ⟨e1, n1, h1⟩ := x.frm b o e w n h
      refine ⟨e1, n1, fun q => ?_⟩
      rcases List.mem_append.mp q with q | q
      · exact h1 q
      · exact np b o e (List.mem_singleton.mp q)
    · rw [← S.len, List.getElem?_append_right (Nat.le_refl _), Nat.sub_self]
      rfl
theorem give_new {F : Hp} {m : List Addr} {μ : Sto} {ρ : Slots} {σ : L2.St} {H : Hp} {Qd : QD} {Q : VK} {own : Bool} {ds : List D} {vs : List V} {p : Addr} (k : Fin X.K z F m H ρ σ Qd Q) (S : SimZ X.K z F m μ ρ σ H) (hn : H p = none)
    (r : Reps X.K z.T F m ds vs) (q : giveL own ds μ Qd) : Q (.ref p) (upd H p (.lst vs)) := by
  obtain ⟨x, S1⟩ := S.more hn (.lst vs)
  exact give_run k hn x S1 upd_same (S.fNone hn) (S.notIn hn) (S.yng hn) r q

/-! ### comprehensions -/
def wipeD (ρ : Slots) : List Nat → Slots
  | [] => ρ
  | v :: vs => (wipeD ρ vs).set v none
def lcW (g : GF) (wt : WT) (we : WE) : List D → Slots → Sto → (List D → Sto → Prop) → Prop
  | [], _, μ, Q => Q [] μ
  | d :: r, ρ, μ, Q => match g d ρ with
    | some ρ1 => wt ρ1 μ (fun b μ1 => match b with
      | true => we ρ1 μ1 (fun y μ2 => lcW g wt we r ρ μ2 fun ys μ3 => Q (y :: ys) μ3) (fun _ _ => False)
      | false => lcW g wt we r ρ μ1 Q) (fun _ _ => False)
    | none => False
def tAll : WT := fun _ μ Q _ => Q true μ
def wLc (own : Bool) (wi : WI) (g : GF) (wt : WT) (we : WE) (vs : List Nat) : WE := fun ρ μ Q E => wi ρ μ (fun ds μ1 => match Nat.blt ds.length 16777216 with
  | true => lcW g wt we ds (wipeD ρ vs) μ1 fun ys μ2 => giveL own ys μ2 Q
  | false => False) E
theorem wipe_at (σ : L2.St) : ∀ (vs : List Nat) (i : Nat), (wipe σ vs)[i]? = if i ∈ vs ∧ i < σ.length then some none else σ[i]?
  | [], i => by simp [wipe]
  | v :: vs, i => by
    unfold wipe
    by_cases h : v = i
    · subst h
      by_cases hl : v < σ.length
      · rw [List.getElem?_set_self (by rw [wipe_length]; exact hl), if_pos ⟨List.mem_cons_self, hl⟩]
      · rw [if_neg (fun q => hl q.2), List.getElem?_eq_none (by rw [List.length_set, wipe_length]; omega), List.getElem?_eq_none (by omega)]
    · rw [List.getElem?_set_ne h, wipe_at σ vs i]
      have : (i ∈ v :: vs) ↔ i ∈ vs := by simp [Ne.symm h]
      simp only [this]
theorem wipe_off {js vs : List Nat} {σ σ' : L2.St} (o : Off js (wipe σ vs) σ') (hj : ∀ j, j ∈ js → j ∈ vs) : wipe σ' vs = wipe σ vs := by
  have hl : σ'.length = σ.length := o.1.trans (wipe_length σ vs)
  apply List.ext_getElem?
  intro i
  rw [wipe_at, wipe_at, hl]
  by_cases h : i ∈ vs ∧ i < σ.length
  · rw [if_pos h, if_pos h]
  · rw [if_neg h, if_neg h]
    by_cases hi : i ∈ vs
    · have hz : ¬ i < σ.length := fun q => h ⟨hi, q⟩
      rw [List.getElem?_eq_none (by omega), List.getElem?_eq_none (by omega)]
    · rw [o.2 i fun q => hi (hj i q), wipe_at, if_neg fun q => hi q.1]
theorem wipeD_len (ρ : Slots) : ∀ vs : List Nat, (wipeD ρ vs).length = ρ.length
  | [] => rfl
  | v :: vs => by unfold wipeD; rw [List.length_set, wipeD_len ρ vs]
theorem wipeD_some {ρ : Slots} {i : Nat} {d : D} : ∀ {vs : List Nat}, (wipeD ρ vs)[i]? = some (some d) → ρ[i]? = some (some d) ∧ i ∉ vs
  | [], h => ⟨h, by simp⟩
  | v :: vs, h => by
    unfold wipeD at h
    by_cases hi : v = i
    · subst hi
      by_cases hv : v < (wipeD ρ vs).length
      · rw [List.getElem?_set_self hv] at h
        cases h
      · rw [List.getElem?_eq_none (by simpa using hv)] at h
        cases h
    · rw [List.getElem?_set_ne hi] at h
      obtain ⟨h1, h2⟩ := wipeD_some h
      exact ⟨h1, by simp only [List.mem_cons, not_or]; exact ⟨fun e => hi e.symm, h2⟩⟩
theorem Sim.wiped {K : PySem.W.Frag} {F : Hp} {m : List Addr} {μ : Sto} {ρ : Slots} {σ : L2.St} {H : Hp} (S : SimZ K z F m μ ρ σ H) (vs : List Nat) : SimZ K z F m μ (wipeD ρ vs) (wipe σ vs) H :=
  S.slots (by rw [wipeD_len, wipe_length]; exact S.sl) fun i d e => by
    obtain ⟨h1, h2⟩ := wipeD_some e
    obtain ⟨v, h3, h4⟩ := S.slot i d h1
    exact ⟨v, by rw [wipe_at, if_neg fun q => h2 q.1]; exact h3, h4⟩
theorem iteY {p q : Prop} (h : p) : if true = true then p else q := by rw [if_pos rfl]; exact h
theorem iteN {p q : Prop} (h : q) : if false = true then p else q := by rw [if_neg (by decide)]; exact h
theorem lc_run {own : Bool} {ow : List (Str × Nat)} {wi : WI} {g : GF} {js : List Nat} {wt : WT} {we : WE} {Wd : WXd} {σ : L2.St} {H : Hp} {Q : VK} (hj : ∀ j, j ∈ js → j ∈ ow.map (·.2)) (h : tD X.K z Wd (wLc own wi g wt we (ow.map (·.2))) σ H Q) :
    tLc (tDI X.K z Wd wi) (tGD X.K z g js) (tDT X.K z (fun _ _ _ => False) wt) (tD X.K z (fun _ _ _ => False) we) (ow.map (·.2)) σ H Q := by
  obtain ⟨F, m, μ, ρ, Qd, S, h, k⟩ := h
  exact
    ⟨F, m, μ, ρ, (fun ds μ1 => match Nat.blt ds.length 16777216 with | true => lcW g wt we ds (wipeD ρ (ow.map (·.2))) μ1 fun ys μ2 => giveL own ys μ2 Qd | false => False), S, h, fun F' m' μ' ds J H' x S' j q Dd hD => by
      have k' : Fin X.K z F' m' H' ρ σ Qd Q := fun F4 m4 μ4 d4 v4 H4 x4 => k F4 m4 μ4 d4 v4 H4 (x.trans x4)
      cases hlen : Nat.blt ds.length 16777216 with
      | false => simp only [hlen] at q
      | true =>
        simp only [hlen] at q
        have hlt : ds.length < sizeLine := by rw [sizeLine_eq]; exact Nat.le_of_ble_eq_true hlen
        obtain ⟨x0, S0⟩ := S'.more hD (.lst [])
        refine ⟨fun i mm Hc => mm + i = ds.length ∧ ∃ F1 m1 μ1 acc vs, Ext F' m' H' F1 m1 Hc ∧ SimZ X.K z F1 m1 μ1 ρ σ Hc ∧ Hc Dd = some (.lst vs) ∧ F1 Dd = none ∧ Dd ∉ m1 ∧ Reps X.K z.T F1 m1 acc vs ∧ vs.length ≤ i ∧ lcW g wt we (ds.drop i) (wipeD ρ (ow.map (·.2))) μ1 fun ys μ2 => giveL own (acc ++ ys) μ2 Qd,
          ⟨ds.length, rfl, F', m', μ', [], [], x0, S0, upd_same, S'.fNone hD, S'.notIn hD, .nil, Nat.zero_le _, q⟩, fun i mm Hc ⟨hm, F1, m1, μ1, acc, vs, x1, S1, hDd, hfD, hmD, racc, hvl, q1⟩ => ?_⟩
        cases e : ds[i]? with
        | none =>
          have hl : ds.length ≤ i := List.getElem?_eq_none_iff.mp e
          rw [List.drop_eq_nil_of_le hl] at q1
          have q2 : giveL own acc μ1 Qd := by
            have : giveL own (acc ++ []) μ1 Qd := q1
            rw [List.append_nil] at this
            exact this
          exact .inl ⟨j.stop i Hc (x1.gr.fr.trans S1.same) hl, give_run k' hD x1 S1 hDd hfD hmD (S'.yng hD) racc q2⟩
        | some d =>
          obtain ⟨hl, ed⟩ := List.getElem?_eq_some_iff.mp e
          rw [List.drop_eq_getElem_cons hl, ed] at q1
          refine .inr ⟨j.go i Hc d (x1.gr.fr.trans S1.same) e, fun Hn => ∃ F1 m1 μ1 acc vs, Ext F' m' H' F1 m1 Hn ∧ SimZ X.K z F1 m1 μ1 ρ σ Hn ∧ Hn Dd = some (.lst vs) ∧ F1 Dd = none ∧ Dd ∉ m1 ∧ Reps X.K z.T F1 m1 acc vs ∧ vs.length ≤ i + 1 ∧
            lcW g wt we (ds.drop (i + 1)) (wipeD ρ (ow.map (·.2))) μ1 fun ys μ2 => giveL own (acc ++ ys) μ2 Qd, fun Hn h => ⟨mm - 1, by omega, by omega, h⟩, fun y H2 hy => ?_⟩
          obtain ⟨F2, x2, S2, r2⟩ := j.next x1.gr S1 e hy
          unfold lcW at q1
          cases eg : g d (wipeD ρ (ow.map (·.2))) with
          | none =>
            rw [eg] at q1
            exact q1.elim
          | some ρ2 =>
            rw [eg] at q1
            obtain ⟨hD2, hf2, hm2⟩ := x2.frm Dd _ hDd (fun _ z => by cases z) hfD hmD
            refine ⟨F2, m1, μ1, _, d, ρ2, S2.wiped _, r2, eg, fun σ3 S3 o3 => ⟨wipe_off o3 hj, F2, m1, μ1, ρ2, _, S3, q1, fun F3 m3 μ3 b H3 x3 S4 q4 => ?_⟩⟩
            have back : ∀ {F4 : Hp} {m4 : List Addr} {μ4 : Sto} {H4 : Hp}, SimZ X.K z F4 m4 μ4 ρ2 σ3 H4 → Gr F2 m1 F4 m4 → SimZ X.K z F4 m4 μ4 ρ σ H4 := fun {F4 m4 μ4 H4} S5 g5 => S5.slots S.sl fun i' d' e' => by
              obtain ⟨v, h1, h2⟩ := S2.slot i' d' e'
              exact ⟨v, h1, h2.mono g5⟩
            obtain ⟨hD3, hf3, hm3⟩ := x3.frm Dd _ hD2 (fun _ z => by cases z) hf2 hm2
            have x13 := x1.trans (x2.trans x3)
            cases b with
            | false =>
              refine iteN ?_
              exact ⟨F3, m3, μ3, acc, vs, x13, back S4 x3.gr, hD3, hf3, hm3, racc.mono (x2.trans x3).gr, Nat.le_succ_of_le hvl, q4⟩
            | true =>
              refine iteY ?_
              refine ⟨F3, m3, μ3, ρ2, _, S4, q4, fun F5 m5 μ5 d5 v5 H5 x5 S5 r5 q5 => ?_⟩
              obtain ⟨hD5, hf5, hm5⟩ := x5.frm Dd _ hD3 (fun _ z => by cases z) hf3 hm3
              have x15 := x13.trans x5
              have S6 := (back S5 (x3.trans x5).gr).poke hD5 hf5 hm5 (S'.yng hD) (vs ++ [v5])
              refine ⟨vs, hD5, Nat.lt_of_le_of_lt hvl (Nat.lt_trans hl hlt), F5, m5, μ5, acc ++ [d5], vs ++ [v5], ⟨x15.gr, fun b o e w n h => ?_, x15.up.trans (Up.upd (fun a z => by rw [hD5] at z; cases z))⟩, S6, upd_same, hf5, hm5, (racc.mono (x2.trans (x3.trans x5)).gr).append (.cons r5 .nil), by simp only [List.length_append, List.length_singleton]; omega, ?_⟩
              · obtain ⟨e1, n1, h1⟩ := x15.frm b o e w n h
                exact ⟨by rw [upd_ne (ne_of_none e hD)]; exact e1, n1, h1⟩
              · have : (fun ys μ3 => giveL own (acc ++ d5 :: ys) μ3 Qd) = fun ys μ2 => giveL own (acc ++ [d5] ++ ys) μ2 Qd := by
                  funext ys μ3
                  rw [List.append_assoc]
                  rfl
                rw [← this]
                exact q5⟩
theorem de_lc {own : Bool} {tg iter elt : Expr} {ifs : List Expr} {scope : Scope} {ow : List (Str × Nat)} {pos : Pos} {wi : WI} {g : GF} {js : List Nat} {wt : WT} {we : WE} (hc : X.calm = true) (hN : X.N.Nodup) (hi : DI X z tg iter wi) (ok : BlkOk X.N X.env.scope scope ow)
    (hj : ∀ j, j ∈ js → j ∈ ow.map (·.2)) (hg : ∀ (s : Shared) (H : Hp) (C : Addr) (cl : List (Str × Addr)) (fp : List Addr), DG (X.blk s H scope (compEnvC scope cl C X.env) fp) z tg g js)
    (ht : ∀ (s : Shared) (H : Hp) (C : Addr) (cl : List (Str × Addr)) (fp : List Addr), PTs (X.blk s H scope (compEnvC scope cl C X.env) fp) ifs (tDT X.K z (fun _ _ _ => False) wt))
    (he : ∀ (s : Shared) (H : Hp) (C : Addr) (cl : List (Str × Addr)) (fp : List Addr), DE (X.blk s H scope (compEnvC scope cl C X.env) fp) z elt we) (hs : ∀ x, foldedSetIterable iter X.env x = pure x := by intro _; rfl) :
    DE X z (.ListComp elt [⟨tg, iter, ifs, 0⟩] scope pos) (wLc own wi g wt we (ow.map (·.2))) := fun Wd tk =>
  peI (pe_lc (g := tGD X.K z g js) (tt := tDT X.K z (fun _ _ _ => False) wt) (te := tD X.K z (fun _ _ _ => False) we) hc hN (hi Wd tk) ok hg ht (fun s H C cl fp => he s H C cl fp (fun _ _ _ => False) (takes0.imp fun c d σ H q => by
    obtain ⟨_, _, _, _, _, _, _, q⟩ := q
    exact q)) hs) fun σ H Q h => lc_run hj h
/-- name = [..] on one line -/
theorem ds_setLc {own : Bool} {i : Nat} {y : Str} {py spos : Pos} {tg iter elt : Expr} {ifs : List Expr} {scope : Scope} {ow : List (Str × Nat)} {pos : Pos} {wi : WI} {g : GF} {js : List Nat} {wt : WT} {we : WE} (hc : X.calm = true) (hN : X.N.Nodup) (hi : DI X z tg iter wi) (ok : BlkOk X.N X.env.scope scope ow)
    (hj : ∀ j, j ∈ js → j ∈ ow.map (·.2)) (hg : ∀ (s : Shared) (H : Hp) (C : Addr) (cl : List (Str × Addr)) (fp : List Addr), DG (X.blk s H scope (compEnvC scope cl C X.env) fp) z tg g js)
    (ht : ∀ (s : Shared) (H : Hp) (C : Addr) (cl : List (Str × Addr)) (fp : List Addr), PTs (X.blk s H scope (compEnvC scope cl C X.env) fp) ifs (tDT X.K z (fun _ _ _ => False) wt))
    (he : ∀ (s : Shared) (H : Hp) (C : Addr) (cl : List (Str × Addr)) (fp : List Addr), DE (X.blk s H scope (compEnvC scope cl C X.env) fp) z elt we) (hy : X.N[i]? = some y := by rfl) (hyl : X.env.scope.names.lookup y = some .local := by rfl) (hk : X.env.scope.kind = .function := by rfl)
    (hl : (py.line == pos.line) = true := by rfl) (ha : (scope.names.any fun (n, k) => n == y && (k == .local || k == .cell)) = false := by rfl) (hs : ∀ x, foldedSetIterable iter X.env x = pure x := by intro _; rfl) :
    DS X z (.Assign [.Name y py] (.ListComp elt [⟨tg, iter, ifs, 0⟩] scope pos) spos) (sAsg (wLc own wi g wt we (ow.map (·.2))) (gN i)) := fun Wd tk =>
  psI (ps_setLc (g := tGD X.K z g js) (tt := tDT X.K z (fun _ _ _ => False) wt) (te := tD X.K z (fun _ _ _ => False) we) hc hN hy hyl (sw_true hk hyl hl ha) (hi Wd tk) ok hg ht (fun s H C cl fp => he s H C cl fp (fun _ _ _ => False) (takes0.imp fun c d σ H q => by
    obtain ⟨_, _, _, _, _, _, _, q⟩ := q
    exact q)) hs) fun D σ H ⟨F, m, μ, ρ, De, S, h, ex, k⟩ => by
    subst ex
    exact lc_run hj ⟨F, m, μ, ρ, (fun d μ1 => De.nx (ρ.set i (some d)) μ1), S, h, fun F' m' μ' d v H' x S' r q => k.nx _ _ _ _ _ _ x (S'.set r) q⟩
end
end Pk

/-! The data layer, part K: calls of builtins. -/
namespace Pk
open PySem PySem.Spec PyProof.Rows L2

abbrev BF := List D → Sto → QD → Prop
def BuOk (X : Cx) (z : Zx) (r : List V → Hp → VK → Prop) (w : BF) : Prop :=
  ∀ F m μ ρ σ H ds vs (Qd : QD) (Q : VK), SimZ X.K z F m μ ρ σ H → Reps X.K z.T F m ds vs → w ds μ Qd → Fin X.K z F m H ρ σ Qd Q → r vs H Q
def wBu (w : BF) (wa : WA) : WE := fun ρ μ Q E => wa ρ μ (fun ds μ1 => w ds μ1 Q) E
def b1 (f : D → Option D) : BF := fun ds μ Q => match ds with
  | [x] => match f (look μ x) with
    | some d => Q d μ
    | none => False
  | _ => False
def b2' (f : D → D → Option D) : BF := fun ds μ Q => match ds with
  | [x, y] => match f (look μ x) (look μ y) with
    | some d => Q d μ
    | none => False
  | _ => False
/-- a new list from a look at the argument -/
def b1L (own : Bool) (f : D → Option (List D)) : BF := fun ds μ Q => match ds with
  | [x] => match f (look μ x) with
    | some xs => giveL own xs μ Q
    | none => False
  | _ => False
section
variable {X : Cx} {z : Zx} {x : Str} {p pos : Pos} {e : Expr} {es : List Expr} {id T : String} {r : List V → Hp → VK → Prop} {w : BF} {wa : WA}
theorem bu_run {Wd : WXd} (ok : BuOk X z r w) {σ : L2.St} {H : Hp} {Q : VK} (h : tD X.K z Wd (wBu w wa) σ H Q) : tCB r (tDA X.K z Wd wa) σ H Q := by
  obtain ⟨F, m, μ, ρ, Qd, S, h, k⟩ := h
  exact ⟨F, m, μ, ρ, _, S, h, fun F1 m1 μ1 ds vs H1 x1 S1 r1 q1 => ok F1 m1 μ1 ρ σ H1 ds vs Qd Q S1 r1 q1 fun F4 m4 μ4 d4 v4 H4 x4 => k F4 m4 μ4 d4 v4 H4 (x1.trans x4)⟩
theorem de_callB (hc : CallR X (.builtin id) r) (ok : BuOk X z r w) (hg : Gl X x) (hm : X.mg x = none) (ha : DA X z (e :: es) wa) (hv : bootBuiltins x = some (.builtin id) := by rfl) (hn : x ≠ "__name__" := by decide) (hdb : (x == ("__debug__" : Str)) = false := by decide)
    (he : starEach (e :: es) X.env = (false, eval e X.env) :: starEach es X.env := by rfl) (hpl : (backTo pos (starEach es X.env)).any (·.1) = false := by rfl) : DE X z (.Call (.Name x p) (e :: es) [] pos) (wBu w wa) := fun Wd tk =>
  peI (pe_callB hc hg hm hv (ha Wd tk) hn hdb he hpl) fun σ H Q h => bu_run ok h
theorem de_callTy (hc : CallR X (.type T) r) (ok : BuOk X z r w) (hg : Gl X x) (hm : X.mg x = none) (ha : DA X z (e :: es) wa) (hv : bootBuiltins x = some (.type T) := by rfl) (hn : x ≠ "__name__" := by decide) (hdb : (x == ("__debug__" : Str)) = false := by decide)
    (he : starEach (e :: es) X.env = (false, eval e X.env) :: starEach es X.env := by rfl) (hpl : (backTo pos (starEach es X.env)).any (·.1) = false := by rfl) : DE X z (.Call (.Name x p) (e :: es) [] pos) (wBu w wa) := fun Wd tk =>
  peI (pe_callTy hc hg hm hv (ha Wd tk) hn hdb he hpl) fun σ H Q h => bu_run ok h
theorem BuOk.or {r' : List V → Hp → VK → Prop} (h : BuOk X z r w) (hi : ∀ xs H Q, r xs H Q → r' xs H Q) : BuOk X z r' w := fun F m μ ρ σ H ds vs Qd Q S rr q k => hi _ _ _ (h F m μ ρ σ H ds vs Qd Q S rr q k)
theorem CallR.or {f : Value} {r r' : List V → Hp → VK → Prop} (h : CallR X f r) (h' : CallR X f r') : CallR X f (fun xs H Q => r xs H Q ∨ r' xs H Q) := fun pins s σ H xs us Q I rr q => by
  rcases q with q | q
  · exact h pins s σ H xs us Q I rr q
  · exact h' pins s σ H xs us Q I rr q
/-- one argument, by its view -/
theorem bu1 {f : D → Option D} (h : ∀ F m μ ρ σ H x v d (Qd : QD) (Q : VK), SimZ X.K z F m μ ρ σ H → Vw X.K z.T F m H x v → f x = some d → Qd d μ → Fin X.K z F m H ρ σ Qd Q → r [v] H Q) : BuOk X z r (b1 f) := by
  intro F m μ ρ σ H ds vs Qd Q S rr q k
  unfold b1 at q
  split at q
  · rename_i x
    cases rr with
    | cons r1 r2 =>
      cases r2
      split at q
      · rename_i d e
        exact h F m μ ρ σ H _ _ d Qd Q S (S.view r1) e q k
      · exact q.elim
  · exact q.elim
theorem bu1L {own : Bool} {f : D → Option (List D)} (h : ∀ F m μ ρ σ H x v ds (Qd : QD) (Q : VK), SimZ X.K z F m μ ρ σ H → Vw X.K z.T F m H x v → f x = some ds → giveL own ds μ Qd → Fin X.K z F m H ρ σ Qd Q → r [v] H Q) : BuOk X z r (b1L own f) := by
  intro F m μ ρ σ H ds vs Qd Q S rr q k
  unfold b1L at q
  split at q
  · rename_i x
    cases rr with
    | cons r1 r2 =>
      cases r2
      split at q
      · rename_i d e
        exact h F m μ ρ σ H _ _ d Qd Q S (S.view r1) e q k
      · exact q.elim
  · exact q.elim
theorem bu2 {f : D → D → Option D} (h : ∀ F m μ ρ σ H x y v u d (Qd : QD) (Q : VK), SimZ X.K z F m μ ρ σ H → Vw X.K z.T F m H x v → Vw X.K z.T F m H y u → f x y = some d → Qd d μ → Fin X.K z F m H ρ σ Qd Q → r [v, u] H Q) : BuOk X z r (b2' f) := by
  intro F m μ ρ σ H ds vs Qd Q S rr q k
  unfold b2' at q
  split at q
  · rename_i x y
    cases rr with
    | cons r1 rr =>
      cases rr with
      | cons r2 rr =>
        cases rr
        split at q
        · rename_i d e
          exact h F m μ ρ σ H _ _ _ _ d Qd Q S (S.view r1) (S.view r2) e q k
        · exact q.elim
  · exact q.elim
end

/-! ### len -/
def lenD : D → Option D
  | .str s => match lineB s.length with
    | true => some (.int s.length)
    | false => none
  | .lst xs => some (.int xs.length)
  | .tup xs => some (.int xs.length)
  | .scr xs => some (.int xs.length)
  | .dct xs => some (.int xs.length)
  | _ => none
def rLen (K : PySem.W.Frag) : List V → Hp → VK → Prop := fun xs H Q => (∃ x n, xs = [x] ∧ LenV K x H n ∧ Q (.int n) H) ∨ (∃ a kvs, xs = [V.ref a] ∧ Rd H a (.dK kvs) ∧ Q (.int kvs.length) H)
section
variable {X : Cx} {z : Zx}
theorem len_dR : CallR X (.builtin "len") (fun xs H Q => ∃ a kvs, xs = [V.ref a] ∧ Rd H a (.dK kvs) ∧ Q (.int kvs.length) H) := by
  intro pins s σ H xs us Q I r ⟨a, kvs, e, ha, q⟩
  subst e
  obtain ⟨u, e, ru⟩ := vals1 r
  subst e
  cases ru
  exact d_len I ha fun t s' I' => ⟨V.int kvs.length, H, I', ⟨t, rfl⟩, q⟩
theorem c_len : CallR X (.builtin "len") (rLen X.K) := CallR.or call_len len_dR
theorem ok_len : BuOk X z (rLen X.K) (b1 lenD) := bu1 fun F m μ ρ σ H x v d Qd Q S vx e q k => by
  unfold lenD at e
  split at e
  · split at e
    · rename_i s _ hl
      injection e with e
      subst e
      refine .inl ⟨v, s.length, rfl, ?_, k.now S .int q⟩
      rw [vx.str]
      exact ⟨by rw [tx_len]; exact lineB_le hl, (tx_len s).symm⟩
    · cases e
  · rename_i xs
    injection e with e
    subst e
    obtain ⟨a, vs, rfl, h1, r1⟩ := vx.list S.same
    exact .inl ⟨_, xs.length, rfl, .inl ⟨vs, SqL.of h1, r1.length⟩, k.now S .int q⟩
  · rename_i xs
    injection e with e
    subst e
    obtain ⟨a, vs, rfl, h1, r1⟩ := vx.tup S.same
    exact .inl ⟨_, xs.length, rfl, .inr ⟨vs, h1, r1.length⟩, k.now S .int q⟩
  · rename_i xs
    injection e with e
    subst e
    obtain ⟨a, rfl, h1⟩ := vx.scr S.same
    exact .inl ⟨_, xs.length, rfl, .inl ⟨_, h1, by simp⟩, k.now S .int q⟩
  · rename_i xs
    injection e with e
    subst e
    obtain ⟨a, vs, rfl, h1, r1⟩ := vx.dict S.same
    refine .inr ⟨a, vs, rfl, h1, ?_⟩
    rw [← r1.length]
    exact k.now S .int q
  · cases e

/-! ### any, all, sum -/
def blsD : List D → Option (List Bool)
  | [] => some []
  | .bl b :: r => match blsD r with
    | some bs => some (b :: bs)
    | none => none
  | _ => none
def intsD : List D → Option (List Int)
  | [] => some []
  | .int b :: r => match intsD r with
    | some bs => some (b :: bs)
    | none => none
  | _ => none
def anyB : List Bool → Bool
  | [] => false
  | true :: _ => true
  | false :: r => anyB r
def allB : List Bool → Bool
  | [] => true
  | true :: r => allB r
  | false :: _ => false
theorem anyB_eq : ∀ bs : List Bool, bs.any (fun x => x) = anyB bs
  | [] => rfl
  | true :: r => by simp [anyB]
  | false :: r => by simp [anyB, anyB_eq r]
theorem allB_eq : ∀ bs : List Bool, bs.all (fun x => x) = allB bs
  | [] => rfl
  | true :: r => by simp [allB, allB_eq r]
  | false :: r => by simp [allB]
variable {K : PySem.W.Frag} {T : Tab} {F : Hp} {m : List Addr}
theorem Reps.bls : ∀ {ds : List D} {vs : List V} {bs : List Bool}, Reps K T F m ds vs → blsD ds = some bs → vs = bs.map V.bl
  | [], _, bs, .nil, e => by
    injection e with e
    subst e
    rfl
  | d :: ds, _, bs, .cons h r, e => by
    cases h with
    | bl =>
      unfold blsD at e
      split at e
      · rename_i bs' e'
        injection e with e
        subst e
        rw [Reps.bls r e']
        rfl
      · cases e
    | _ => cases e
theorem Reps.ints : ∀ {ds : List D} {vs : List V} {bs : List Int}, Reps K T F m ds vs → intsD ds = some bs → vs = bs.map V.int
  | [], _, bs, .nil, e => by
    injection e with e
    subst e
    rfl
  | d :: ds, _, bs, .cons h r, e => by
    cases h with
    | int =>
      unfold intsD at e
      split at e
      · rename_i bs' e'
        injection e with e
        subst e
        rw [Reps.ints r e']
        rfl
      · cases e
    | _ => cases e
def allD : D → Option D
  | .lst xs => match blsD xs with
    | some bs => some (.bl (allB bs))
    | none => none
  | _ => none
def anyD : D → Option D
  | .lst xs => match blsD xs with
    | some bs => some (.bl (anyB bs))
    | none => none
  | _ => none
def sumI : List Int → Int
  | [] => 0
  | x :: r => x + sumI r
theorem sumI_eq : ∀ xs : List Int, xs.sum = sumI xs
  | [] => rfl
  | x :: r => by rw [List.sum_cons, sumI_eq r]; rfl
def sumD : D → Option D
  | .lst xs => match intsD xs with
    | some bs => some (.int (sumI bs))
    | none => none
  | _ => none
theorem ok_all : BuOk X z (rAll X.K) (b1 allD) := bu1 fun F m μ ρ σ H x v d Qd Q S vx e q k => by
  unfold allD at e
  split at e
  · split at e
    · rename_i bs hb
      injection e with e
      subst e
      obtain ⟨a, vs, rfl, h1, r1⟩ := vx.list S.same
      rw [r1.bls hb] at h1
      refine ⟨a, bs, rfl, SqL.of h1, ?_⟩
      have : bs.all id = allB bs := allB_eq bs
      rw [this]
      exact k.now S .bl q
    · cases e
  · cases e
theorem ok_any : BuOk X z (rAny X.K) (b1 anyD) := bu1 fun F m μ ρ σ H x v d Qd Q S vx e q k => by
  unfold anyD at e
  split at e
  · split at e
    · rename_i bs hb
      injection e with e
      subst e
      obtain ⟨a, vs, rfl, h1, r1⟩ := vx.list S.same
      rw [r1.bls hb] at h1
      refine ⟨a, bs, rfl, SqL.of h1, ?_⟩
      have : bs.any id = anyB bs := anyB_eq bs
      rw [this]
      exact k.now S .bl q
    · cases e
  · cases e
theorem ok_sum : BuOk X z (rSum X.K) (b1 sumD) := bu1 fun F m μ ρ σ H x v d Qd Q S vx e q k => by
  unfold sumD at e
  split at e
  · split at e
    · rename_i bs hb
      injection e with e
      subst e
      obtain ⟨a, vs, rfl, h1, r1⟩ := vx.list S.same
      rw [r1.ints hb] at h1
      refine ⟨a, bs, rfl, SqL.of h1, ?_⟩
      rw [sumI_eq]
      exact k.now S .int q
    · cases e
  · cases e

/-! ### ints -/
def absD : D → Option D
  | .int i => some (.int (match decide (i < 0) with | true => -i | false => i))
  | _ => none
def rAbs : List V → Hp → VK → Prop := fun xs H Q => ∃ i, xs = [V.int i] ∧ Q (.int (if i < 0 then -i else i)) H
theorem ok_abs : BuOk X z rAbs (b1 absD) := bu1 fun F m μ ρ σ H x v d Qd Q S vx e q k => by
  unfold absD at e
  split at e
  · rename_i i
    injection e with e
    subst e
    refine ⟨i, by rw [vx.int], ?_⟩
    have : (if i < 0 then -i else i) = (match decide (i < 0) with | true => -i | false => i) := by
      by_cases h : i < 0
      · rw [if_pos h, decide_eq_true h]
      · rw [if_neg h, decide_eq_false h]
    rw [this]
    exact k.now S .int q
  · cases e
def maxD (a b : D) : Option D := match a, b with
  | .int i, .int j => some (.int (match decide (j > i) with | true => j | false => i))
  | _, _ => none
def minD (a b : D) : Option D := match a, b with
  | .int i, .int j => some (.int (match decide (j < i) with | true => j | false => i))
  | _, _ => none
def rMax2 : List V → Hp → VK → Prop := fun xs H Q => ∃ i j, xs = [V.int i, .int j] ∧ Q (.int (if j > i then j else i)) H
def rMin2 : List V → Hp → VK → Prop := fun xs H Q => ∃ i j, xs = [V.int i, .int j] ∧ Q (.int (if j < i then j else i)) H
theorem ok_max2 : BuOk X z rMax2 (b2' maxD) := bu2 fun F m μ ρ σ H x y v u d Qd Q S vx vy e q k => by
  unfold maxD at e
  split at e
  · rename_i i j
    injection e with e
    subst e
    refine ⟨i, j, by rw [vx.int, vy.int], ?_⟩
    have : (if j > i then j else i) = (match decide (j > i) with | true => j | false => i) := by
      by_cases h : j > i
      · rw [if_pos h, decide_eq_true h]
      · rw [if_neg h, decide_eq_false h]
    rw [this]
    exact k.now S .int q
  · cases e
theorem ok_min2 : BuOk X z rMin2 (b2' minD) := bu2 fun F m μ ρ σ H x y v u d Qd Q S vx vy e q k => by
  unfold minD at e
  split at e
  · rename_i i j
    injection e with e
    subst e
    refine ⟨i, j, by rw [vx.int, vy.int], ?_⟩
    have : (if j < i then j else i) = (match decide (j < i) with | true => j | false => i) := by
      by_cases h : j < i
      · rw [if_pos h, decide_eq_true h]
      · rw [if_neg h, decide_eq_false h]
    rw [this]
    exact k.now S .int q
  · cases e
def digB : Tx → Bool
  | [] => true
  | c :: r => match Nat.ble 48 c && Nat.ble c 57 with
    | true => digB r
    | false => false
def valN : Nat → Tx → Nat
  | n, [] => n
  | n, c :: r => valN (n * 10 + (c - 48)) r
def intD : D → Option D
  | .int i => some (.int i)
  | .bl b => some (.int (b2 b))
  | .str s => match s, digB s, Nat.ble s.length 640 with
    | [], _, _ => none
    | _, true, true => some (.int (valN 0 s))
    | _, _, _ => none
  | _ => none
def rInt : List V → Hp → VK → Prop := fun xs H Q => ((∃ i, xs = [V.int i] ∧ Q (.int i) H) ∨ ∃ k, xs = [V.bl k] ∧ Q (.int (if k then 1 else 0)) H) ∨ (∃ a n, xs = [V.str a] ∧ PySem.intText? a = some n ∧ a.length ≤ 640 ∧ Q (.int n) H)
theorem c_int : CallR X (.type "int") rInt := CallR.or call_int1 call_int_str
theorem digB_all : ∀ {s : Tx}, digB s = true → s.all (fun c => decide (48 ≤ c) && decide (c ≤ 57)) = true
  | [], _ => rfl
  | c :: r, h => by
    unfold digB at h
    split at h
    · rename_i h1
      rw [Bool.and_eq_true] at h1
      have a1 := Nat.le_of_ble_eq_true h1.1
      have a2 := Nat.le_of_ble_eq_true h1.2
      rw [List.all_cons, digB_all h]
      simp [a1, a2]
    · cases h
theorem valN_eq (s : Tx) : valN 0 s = NumText.digitsVal s := by
  have : ∀ (s : Tx) (n : Nat), valN n s = s.foldl (fun acc c => acc * 10 + (c - 48)) n := by
    intro s
    induction s with
    | nil => intro n; rfl
    | cons c r ih => intro n; exact ih _
  rw [this]
  rfl
theorem ok_int : BuOk X z rInt (b1 intD) := bu1 fun F m μ ρ σ H x v d Qd Q S vx e q k => by
  unfold intD at e
  split at e
  · injection e with e
    subst e
    exact .inl (.inl ⟨_, by rw [vx.int], k.now S .int q⟩)
  · rename_i b
    injection e with e
    subst e
    refine .inl (.inr ⟨b, by rw [vx.bl], ?_⟩)
    have : (if b = true then (1 : Int) else 0) = b2 b := by cases b <;> rfl
    rw [this]
    exact k.now S .int q
  · rename_i s
    split at e
    · cases e
    · rename_i hne h1 h2
      injection e with e
      subst e
      refine .inr ⟨tx _, valN 0 _, by rw [vx.str], ?_, by rw [tx_len]; exact Nat.le_of_ble_eq_true h2, k.now S .int q⟩
      rw [valN_eq]
      exact SX.int_S (digB_all h1) (fun e => hne e) (Nat.le_trans (Nat.le_of_ble_eq_true h2) (by decide))
    · cases e
  · cases e
end
end Pk

/-! The data layer, part L: str(int), divmod, list, tuple, dict, sorted, isinstance. -/
namespace Pk
open PySem PySem.Spec PyProof.Rows L2
section
variable {X : Cx} {z : Zx}
/-! ### str(int) -/
def digN : Nat → Nat → Tx → Tx
  | 0, _, acc => acc
  | f + 1, n, acc => match Nat.blt n 10 with
    | true => (48 + n) :: acc
    | false => digN f (n / 10) ((48 + n % 10) :: acc)
def small : List Tx := (List.range 200).map fun n => digN 4 n []
def strD : D → Option D
  | .int i => match decide (0 ≤ i), decide (i < 200) with
    | true, true => some (.str (digN 4 i.toNat []))
    | _, _ => none
  | .str s => some (.str s)
  | _ => none
def rStr : List V → Hp → VK → Prop := fun xs H Q => ∃ i, xs = [V.int i] ∧ i.natAbs.log2 < 1920 ∧ Q (.str (toString i)) H
theorem str_small : ∀ n : Nat, n < 200 → (Str.ofString (toString (n : Int))) = tx (digN 4 n []) := by
  intro n hn
  rw [SX.num_S]
  have : ∀ n, n < 200 → TL.numL n = digN 4 n [] := by decide +kernel
  rw [this n hn]
  rfl
def strI (d : D) : Option D := match d with
  | .int i => strD (.int i)
  | _ => none
theorem ok_str : BuOk X z rStr (b1 strI) := bu1 fun F m μ ρ σ H x v d Qd Q S vx e q k => by
  unfold strI at e
  split at e
  · rename_i i
    simp only [strD] at e
    split at e
    · rename_i h1 h2
      injection e with e
      subst e
      have h1 := of_decide_eq_true h1
      have h2 := of_decide_eq_true h2
      refine ⟨i, by rw [vx.int], ?_, ?_⟩
      · have : i.natAbs < 200 := by omega
        exact Nat.lt_of_le_of_lt (Nat.log2_le_self _) (by omega)
      · obtain ⟨n, rfl⟩ := Int.eq_ofNat_of_zero_le h1
        have e2 : (toString ((n : Nat) : Int) : Str) = tx (digN 4 n []) := str_small n (by omega)
        have e3 := k.now S (.str (s := digN 4 n [])) q
        exact e2 ▸ e3
    · cases e
  · cases e
/-! ### divmod -/
def divmodD (a b : D) : Option D := match a, b with
  | .int i, .int j => match decide (0 < j), decide (j < 1073741824) with
    | true, true => some (.tup [.int (i / j), .int (i % j)])
    | _, _ => none
  | _, _ => none
def rDivmod : List V → Hp → VK → Prop := fun xs H Q => ∃ i j, xs = [V.int i, .int j] ∧ CDiv i j ∧ ∀ p, H p = none → Q (.ref p) (upd H p (.tup [.int (i / j), .int (i % j)]))
theorem ok_divmod : BuOk X z rDivmod (b2' divmodD) := bu2 fun F m μ ρ σ H x y v u d Qd Q S vx vy e q k => by
  unfold divmodD at e
  split at e
  · rename_i i j
    split at e
    · rename_i h1 h2
      injection e with e
      subst e
      exact ⟨i, j, by rw [vx.int, vy.int], ⟨of_decide_eq_true h1, of_decide_eq_true h2⟩, fun p hp => k.tup S hp (.cons .int (.cons .int .nil)) q⟩
    · cases e
  · cases e
/-! ### list, tuple -/
def keyD : DK → D
  | .ki i => .int i
  | .ks s => .str s
def keysD : List (DK × D) → List D
  | [] => []
  | (k, _) :: r => keyD k :: keysD r
def itemsOf : D → Option (List D)
  | .lst xs => some xs
  | .tup xs => some xs
  | .scr xs => some (xs.map .int)
  | .dct kvs => some (keysD kvs)
  | _ => none
def rListA (K : PySem.W.Frag) : List V → Hp → VK → Prop := fun xs H Q => (∃ p ys, xs = [V.ref p] ∧ (SqL K H p ys ∨ SqT K H p ys) ∧ ∀ l, H l = none → Q (.ref l) (upd H l (.lst ys))) ∨
  (∃ (a : Addr) (kvs : List (Key × V)), xs = [.ref a] ∧ Rd H a (.dK kvs) ∧ ∀ p, H p = none → Q (.ref p) (upd H p (.lst (kvs.map fun kv => kV kv.1))))
theorem c_list (hc : X.calm = true) : CallR X (.type "list") (rListA X.K) := CallR.or call_list_of (call_listD hc)
theorem RepK.keys {K : PySem.W.Frag} {T : Tab} {F : Hp} {m : List Addr} : ∀ {ds : List (DK × D)} {vs : List (Key × V)}, RepK K T F m ds vs → Reps K T F m (keysD ds) (vs.map fun kv => kV kv.1)
  | _, _, .nil => .nil
  | _, _, .cons (k := k) h r => .cons (by cases k <;> constructor) (RepK.keys r)
theorem ok_list {own : Bool} : BuOk X z (rListA X.K) (b1L own itemsOf) := bu1L fun F m μ ρ σ H x v ds Qd Q S vx e q k => by
  unfold itemsOf at e
  split at e
  · injection e with e
    subst e
    obtain ⟨a, vs, rfl, h1, r1⟩ := vx.list S.same
    exact .inl ⟨a, vs, rfl, .inl (SqL.of h1), fun l hl => give_new k S hl r1 q⟩
  · injection e with e
    subst e
    obtain ⟨a, vs, rfl, h1, r1⟩ := vx.tup S.same
    exact .inl ⟨a, vs, rfl, .inr h1, fun l hl => give_new k S hl r1 q⟩
  · injection e with e
    subst e
    obtain ⟨a, rfl, h1⟩ := vx.scr S.same
    exact .inl ⟨a, _, rfl, .inl h1, fun l hl => give_new k S hl (reps_ints _) q⟩
  · injection e with e
    subst e
    obtain ⟨a, vs, rfl, h1, r1⟩ := vx.dict S.same
    exact .inr ⟨a, vs, rfl, h1, fun l hl => give_new k S hl r1.keys q⟩
  · cases e
def tupD : D → Option D
  | .lst xs => some (.tup xs)
  | .tup xs => some (.tup xs)
  | .scr xs => some (.tup (xs.map .int))
  | _ => none
def rTuple (K : PySem.W.Frag) : List V → Hp → VK → Prop := fun xs H Q => ∃ p ys, xs = [V.ref p] ∧ ((SqL K H p ys ∧ ∀ l, H l = none → Q (.ref l) (upd H l (.tup ys))) ∨ (SqT K H p ys ∧ Q (.ref p) H))
theorem ok_tuple : BuOk X z (rTuple X.K) (b1 tupD) := bu1 fun F m μ ρ σ H x v d Qd Q S vx e q k => by
  unfold tupD at e
  split at e
  · injection e with e
    subst e
    obtain ⟨a, vs, rfl, h1, r1⟩ := vx.list S.same
    exact ⟨a, vs, rfl, .inl ⟨SqL.of h1, fun l hl => k.tup S hl r1 q⟩⟩
  · injection e with e
    subst e
    cases vx with
    | of r =>
      cases r with
      | tup h r => exact ⟨_, _, rfl, .inr ⟨Same.sqt S.same h, k.now S (.tup h r) q⟩⟩
  · injection e with e
    subst e
    obtain ⟨a, rfl, h1⟩ := vx.scr S.same
    exact ⟨a, _, rfl, .inl ⟨h1, fun l hl => k.tup S hl (reps_ints _) q⟩⟩
  · cases e
/-! ### sorted -/
def insJ (x : Int) : List Int → List Int
  | [] => [x]
  | y :: r => match decide (x ≤ y) with
    | true => x :: y :: r
    | false => y :: insJ x r
def sortJ : List Int → List Int
  | [] => []
  | x :: r => insJ x (sortJ r)
theorem insJ_perm (x : Int) : ∀ l, (insJ x l).Perm (x :: l)
  | [] => .refl _
  | y :: r => by
    unfold insJ
    split
    · exact .refl _
    · exact ((insJ_perm x r).cons y).trans (.swap x y r)
theorem sortJ_perm : ∀ l, (sortJ l).Perm l
  | [] => .refl _
  | x :: r => (insJ_perm x _).trans ((sortJ_perm r).cons x)
theorem insJ_rises (x : Int) : ∀ l, l.Pairwise (· ≤ ·) → (insJ x l).Pairwise (· ≤ ·)
  | [], _ => List.pairwise_singleton _ _
  | y :: r, h => by
    unfold insJ
    split
    · rename_i hd
      have hd := of_decide_eq_true hd
      refine .cons (fun w hw => ?_) h
      rcases List.mem_cons.mp hw with rfl | hw
      · exact hd
      · exact Int.le_trans hd ((List.pairwise_cons.mp h).1 w hw)
    · rename_i hd
      have hd := of_decide_eq_false hd
      obtain ⟨h1, h2⟩ := List.pairwise_cons.mp h
      refine .cons (fun w hw => ?_) (insJ_rises x r h2)
      rcases List.mem_cons.mp ((insJ_perm x r).mem_iff.mp hw) with rfl | hw
      · omega
      · exact h1 w hw
theorem sortJ_rises : ∀ l, (sortJ l).Pairwise (· ≤ ·)
  | [] => .nil
  | x :: r => insJ_rises x _ (sortJ_rises r)
theorem eq_sortJ {ns ns' : List Int} (hp : ns'.Perm ns) (hs : ns'.Pairwise (· ≤ ·)) : ns' = sortJ ns :=
  List.Perm.eq_of_pairwise (fun _ _ _ _ a b => Int.le_antisymm a b) hs (sortJ_rises ns) (hp.trans (sortJ_perm ns).symm)
def sortedD : D → Option (List D)
  | .lst xs => match intsD xs with
    | some ns => some ((sortJ ns).map .int)
    | none => none
  | _ => none
theorem ok_sorted {own : Bool} : BuOk X z (rSortedI X.K) (b1L own sortedD) := bu1L fun F m μ ρ σ H x v ds Qd Q S vx e q k => by
  unfold sortedD at e
  split at e
  · split at e
    · rename_i ns hb
      injection e with e
      subst e
      obtain ⟨a, vs, rfl, h1, r1⟩ := vx.list S.same
      rw [r1.ints hb] at h1
      refine ⟨a, ns, rfl, SqL.of h1, fun ns' p hp hs hn => ?_⟩
      rw [eq_sortJ hp hs]
      exact give_new k S hn (reps_ints _) q
    · cases e
  · cases e
/-! ### isinstance -/
def tyOf : D → Option Ty
  | .bl _ => some .bool
  | .int _ => some .int
  | .str _ => some .str
  | .tup _ => some .tup
  | .lst _ => some .lst
  | .scr _ => some .lst
  | .dct _ => some .dict
  | _ => none
def subTy : Ty → Ty → Bool
  | .int, .int => true
  | .bool, .int => true
  | .bool, .bool => true
  | .str, .str => true
  | .tup, .tup => true
  | .lst, .lst => true
  | .dict, .dict => true
  | _, _ => false
def isiD (x y : D) : Option D := match y with
  | .ty t => match x with
    | .non => some (.bl false)
    | _ => match tyOf x with
      | some t' => some (.bl (subTy t' t))
      | none => none
  | _ => none
theorem kit_sub (K : PySem.W.Frag) (t t' : Ty) : PySem.W.kitOne K (.type t.nm) (.type t'.nm) = some (subTy t t') := by
  apply kit_ty
  cases t <;> cases t' <;> decide +kernel
theorem kit_non (K : PySem.W.Frag) (t' : Ty) : PySem.W.kitOne K (.type "NoneType") (.type t'.nm) = some false := by
  apply kit_ty
  cases t' <;> decide +kernel
theorem Vw.tyx {K : PySem.W.Frag} {T : Tab} {F : Hp} {m : List Addr} {H : Hp} (s : Same F H) {x : D} {v : V} {t : Ty} (r : Vw K T F m H x v) (h : tyOf x = some t) : TyX K H v (.type t.nm) := by
  unfold tyOf at h
  split at h <;> first | (injection h with h; subst h) | cases h
  · rw [r.bl]; exact .base (.bl _)
  · rw [r.int]; exact .base (.int _)
  · rw [r.str]; exact .base (.str _)
  · obtain ⟨a, vs, rfl, h1, _⟩ := r.tup s
    rcases h1 with (h1 | ⟨o, h1⟩) | ⟨o, _, _, h1, h2, _⟩
    · exact .base (.tup h1)
    · exact .fTuple h1
    · exact .kTuple h1 h2
  · obtain ⟨a, vs, rfl, h1, _⟩ := r.list s
    exact .base (.lst h1)
  · obtain ⟨a, rfl, h1⟩ := r.scr s
    rcases h1 with (h1 | ⟨o, h1⟩) | ⟨o, _, _, h1, h2, _⟩
    · exact .base (.lst h1)
    · exact .base (.frz h1)
    · exact .kList h1 h2
  · obtain ⟨a, vs, rfl, h1, _⟩ := r.dict s
    rcases h1 with h1 | ⟨o, h1⟩
    · exact .base (.dK h1)
    · exact .fDict h1
theorem ok_isi : BuOk X z (rIsi X.K) (b2' isiD) := bu2 fun F m μ ρ σ H x y v u d Qd Q S vx vy e q k => by
  unfold isiD at e
  split at e
  · rename_i t
    split at e
    · injection e with e
      subst e
      refine ⟨v, u, _, _, false, rfl, ?_, ?_, kit_non X.K t, k.now S .bl q⟩
      · rw [vy.ty]; exact .ty _
      · rw [vx.non]; exact .base .non
    · split at e
      · rename_i t' ht
        injection e with e
        subst e
        refine ⟨v, u, _, _, _, rfl, ?_, vx.tyx S.same ht, kit_sub X.K t' t, k.now S .bl q⟩
        rw [vy.ty]; exact .ty _
      · cases e
  · cases e
end
end Pk

/-! The data layer, part M1: writing into the store, freezing. -/
namespace Pk
open PySem PySem.Spec PyProof.Rows L2
section
variable {K : PySem.W.Frag} {T : Tab} {F0 F F' H0 : Hp} {m0 m m' : List Addr} {μ μ' : Sto} {ρ : Slots} {σ : L2.St} {H H' : Hp} {p a : Addr} {ds : List D} {vs : List V} {k : Nat}
theorem MRep.mut {o : MO} (h : MRep K T F m H a o) (n : o ≠ .gone) (nf : o.isFz = false) : (∃ vs, H a = some (.lst vs)) ∨ (∃ vs, H a = some (.dK vs)) ∨ ∃ C dx fs, H a = some (.ins C dx fs) := by
  cases o with
  | lst ds => obtain ⟨vs, e, _⟩ := h; exact .inl ⟨_, e⟩
  | dct ds => obtain ⟨vs, e, _⟩ := h; exact .inr (.inl ⟨_, e⟩)
  | ins c ds => obtain ⟨dx, vs, e, _⟩ := h; exact .inr (.inr ⟨_, _, _, e⟩)
  | fz d => cases nf
  | gone => exact absurd rfl n
/-- a thing of the store is written -/
theorem Sim.wr {o o' : MO} {u : HO} (S : Sim K T F0 m0 H0 F m μ ρ σ H) (e : m[k]? = some a) (q : μ[k]? = some o) (n : o ≠ .gone) (nf : o.isFz = false) (r : MRep K T F m (upd H a u) a o') (nf' : o'.isFz = false := by rfl) :
    Ext F m H F m (upd H a u) ∧ Sim K T F0 m0 H0 F m (μ.set k o') ρ σ (upd H a u) := by
  obtain ⟨s1, s2⟩ := S.sto k a o e q n
  have fa := s1 nf
  have hm := MRep.mut s2 n nf
  have no : ∀ b, H a ≠ some (.own b) := fun b z => by
    rcases hm with ⟨_, h⟩ | ⟨_, h⟩ | ⟨_, _, _, h⟩ <;> rw [h] at z <;> cases z
  have ma : a ∈ m := List.mem_of_getElem? e
  have x : Ext F m H F m (upd H a u) := ⟨Gr.refl F m, fun b v e1 _ e2 h => ⟨by rw [upd_ne (fun z => h (by rw [z]; exact ma))]; exact e1, e2, h⟩, Up.upd no⟩
  refine ⟨x, S.ext.trans x, fun b v e1 => ?_, by rw [List.length_set]; exact S.len, S.nd, fun b h z => ?_, fun i b v e1 e2 n1 => ?_, S.sl, S.slot⟩
  · rw [upd_ne fun z => ?_]
    · exact S.same b v e1
    · rw [z, fa] at e1
      cases e1
  · by_cases w : b = a
    · rw [w, upd_same] at z
      cases z
    · rw [upd_ne w] at z
      exact S.al b h z
  · by_cases hk : k = i
    · subst hk
      rw [e] at e1
      cases e1
      have hl : k < μ.length := (List.getElem?_eq_some_iff.mp q).1
      rw [List.getElem?_set_self hl] at e2
      cases e2
      exact ⟨fun _ => fa, r⟩
    · rw [List.getElem?_set_ne hk] at e2
      obtain ⟨h1, h2⟩ := S.sto i b v e1 e2 n1
      have nb : b ≠ a := fun z => by
        subst z
        have l1 := (List.getElem?_eq_some_iff.mp e).1
        have l2 := (List.getElem?_eq_some_iff.mp e1).1
        have g1 := (List.getElem?_eq_some_iff.mp e).2
        have g2 := (List.getElem?_eq_some_iff.mp e1).2
        exact hk ((List.getElem_inj S.nd).mp (g1.trans g2.symm))
      refine ⟨h1, ?_⟩
      cases v with
      | lst ds => obtain ⟨vs, e, r⟩ := h2; exact ⟨vs, by rw [upd_ne nb]; exact e, r⟩
      | dct ds => obtain ⟨vs, e, r⟩ := h2; exact ⟨vs, by rw [upd_ne nb]; exact e, r⟩
      | ins c ds =>
        obtain ⟨dx, vs, e, e2, n, l, r⟩ := h2
        have nd : dx ≠ a := fun z => no b (z ▸ e2)
        exact ⟨dx, vs, by rw [upd_ne nb]; exact e, by rw [upd_ne nd]; exact e2, n, l, r⟩
      | fz d => exact h2
      | gone => trivial
/-- what stands in the heap is frozen: F grows by what lies at a -/
theorem Sim.ice {o : HO} (S : Sim K T F0 m0 H0 F m μ ρ σ H) (ha : H a = some o) (hf : F a = none) (hk : ∀ (k : Nat) (o' : MO), m[k]? = some a → μ[k]? = some o' → o' ≠ .gone → o'.isFz = true)
    (hd : ∀ (k : Nat) (b : Addr) (dx : Addr), m[k]? = some b → H dx = some (.own b) → dx = a → μ[k]? = some .gone ∨ μ[k]? = none) (hx : ∀ v, H0 a = some v → (∀ b, v ≠ .own b) → F0 a = none → a ∈ m0) : Sim K T F0 m0 H0 (upd F a o) m μ ρ σ H := by
  have g : Gr F m (upd F a o) m := ⟨upd_keep hf, [], by simp⟩
  refine ⟨⟨S.ext.gr.trans g, fun b v e w n h => ?_, S.ext.up⟩, fun b v e => ?_, S.len, S.nd, S.al, fun i b v e1 e2 n => ?_, S.sl, fun i d e => ?_⟩
  · obtain ⟨e1, n1, h1⟩ := S.ext.frm b v e w n h
    refine ⟨e1, ?_, h1⟩
    rw [upd_ne fun z => ?_]
    · exact n1
    · subst z
      exact h (hx v e w n)
  · by_cases w : b = a
    · rw [w, upd_same] at e
      rw [w, ha]
      exact e
    · rw [upd_ne w] at e
      exact S.same b v e
  · obtain ⟨h1, h2⟩ := S.sto i b v e1 e2 n
    refine ⟨fun nf => ?_, ?_⟩
    · rw [upd_ne fun z => ?_]
      · exact h1 nf
      · subst z
        rw [hk i v e1 e2 n] at nf
        cases nf
    · cases v with
      | lst ds => obtain ⟨vs, e, r⟩ := h2; exact ⟨vs, e, r.mono g⟩
      | dct ds => obtain ⟨vs, e, r⟩ := h2; exact ⟨vs, e, r.mono g⟩
      | ins c ds =>
        obtain ⟨dx, vs, e, e3, n3, l, r⟩ := h2
        exact ⟨dx, vs, e, e3, trivial, l, r.mono g⟩
      | fz d => exact Rep.mono g h2
      | gone => trivial
  · obtain ⟨v, h1, h2⟩ := S.slot i d e
    exact ⟨v, h1, h2.mono g⟩
/-- a mref's thing is known to be frozen data -/
theorem Sim.setFz {d : D} (S : Sim K T F0 m0 H0 F m μ ρ σ H) (e : m[k]? = some a) (r : Rep K T F m d (.ref a)) : Sim K T F0 m0 H0 F m (μ.set k (.fz d)) ρ σ H := by
  refine ⟨S.ext, S.same, by rw [List.length_set]; exact S.len, S.nd, S.al, fun i b v e1 e2 n1 => ?_, S.sl, S.slot⟩
  by_cases hk : k = i
  · subst hk
    rw [e] at e1
    cases e1
    have hl : k < μ.length := by
      have := (List.getElem?_eq_some_iff.mp e2).1
      simpa using this
    rw [List.getElem?_set_self hl] at e2
    cases e2
    exact ⟨fun z => (by cases z), r⟩
  · rw [List.getElem?_set_ne hk] at e2
    exact S.sto i b v e1 e2 n1
end

/-! ### deep freezing -/
def mapS (f : Sto → D → D × Sto) : List D → Sto → List D × Sto
  | [], μ => ([], μ)
  | d :: ds, μ => match f μ d with
    | (d', μ1) => match mapS f ds μ1 with
      | (ds', μ2) => (d' :: ds', μ2)
def deepD : Nat → Sto → D → D × Sto
  | 0, μ, d => (d, μ)
  | n + 1, μ, d => match d with
    | .mref k => match μ[k]? with
      | some (.fz d) => (d, μ)
      | some (.lst ds) => match mapS (deepD n) ds (μ.set k .gone) with
        | (ds', μ1) => (.lst ds', μ1.set k (.fz (.lst ds')))
      | some (.ins c ds) => match mapS (deepD n) ds (μ.set k .gone) with
        | (ds', μ1) => (.ins c ds', μ1.set k (.fz (.ins c ds')))
      | _ => (.mref k, μ)
    | d => (d, μ)
section
variable {K : PySem.W.Frag} {T : Tab} {F0 F F' H0 : Hp} {m0 m m' : List Addr} {μ μ' : Sto} {ρ : Slots} {σ : L2.St} {H H' : Hp} {p a : Addr} {ds : List D} {vs : List V} {k : Nat}
theorem Sim.forget (S : Sim K T F0 m0 H0 F m μ ρ σ H) (k : Nat) : Sim K T F0 m0 H0 F m (μ.set k .gone) ρ σ H := by
  refine ⟨S.ext, S.same, by rw [List.length_set]; exact S.len, S.nd, S.al, fun i b v e1 e2 n1 => ?_, S.sl, S.slot⟩
  by_cases hk : k = i
  · subst hk
    have hl : k < μ.length := by
      have := (List.getElem?_eq_some_iff.mp e2).1
      simpa using this
    rw [List.getElem?_set_self hl] at e2
    cases e2
    exact absurd rfl n1
  · rw [List.getElem?_set_ne hk] at e2
    exact S.sto i b v e1 e2 n1
theorem Sim.hxm (S : Sim K T F0 m0 H0 F m μ ρ σ H) (ma : a ∈ m) : ∀ v, H0 a = some v → (∀ b, v ≠ .own b) → F0 a = none → a ∈ m0 := fun v e w n => by
  by_cases h : a ∈ m0
  · exact h
  · exact absurd ma (S.ext.frm a v e w n h).2.2
theorem nd_eq {i j : Nat} (nd : m.Nodup) (e1 : m[i]? = some a) (e2 : m[j]? = some a) : i = j := by
  have g1 := (List.getElem?_eq_some_iff.mp e1).2
  have g2 := (List.getElem?_eq_some_iff.mp e2).2
  exact (List.getElem_inj nd).mp (g1.trans g2.symm)
/-- .. at a place of the store that is given up -/
theorem Sim.iceM {o : HO} (S : Sim K T F0 m0 H0 F m μ ρ σ H) (e : m[k]? = some a) (ha : H a = some o) (no : ∀ b, o ≠ .own b) (hg : ∀ v, μ[k]? = some v → v = .gone) : ∃ F', F' a = some o ∧ Ext F m H F' m H ∧ Sim K T F0 m0 H0 F' m μ ρ σ H := by
  cases hf : F a with
  | some o' =>
    have := S.same a o' hf
    rw [ha] at this
    cases this
    exact ⟨F, hf, Ext.refl _ _ _, S⟩
  | none =>
    have ma : a ∈ m := List.mem_of_getElem? e
    refine ⟨upd F a o, upd_same, ⟨⟨upd_keep hf, [], by simp⟩, fun b v e1 w n h => ⟨e1, by rw [upd_ne (fun z => h (by rw [z]; exact ma))]; exact n, h⟩, Up.refl H⟩, S.ice ha hf (fun i o' e1 e2 n => ?_) (fun i b dx e1 e2 z => ?_) (S.hxm ma)⟩
    · have := nd_eq S.nd e e1
      subst this
      exact absurd (hg _ e2) n
    · rw [z, ha] at e2
      injection e2 with e2
      exact absurd e2 (no b)
theorem Sim.iceO {dx : Addr} (S : Sim K T F0 m0 H0 F m μ ρ σ H) (e : m[k]? = some a) (ha : H dx = some (.own a)) (hg : ∀ v, μ[k]? = some v → v = .gone) : ∃ F', F' dx = some (.own a) ∧ Ext F m H F' m H ∧ Sim K T F0 m0 H0 F' m μ ρ σ H := by
  cases hf : F dx with
  | some o' =>
    have := S.same dx o' hf
    rw [ha] at this
    cases this
    exact ⟨F, hf, Ext.refl _ _ _, S⟩
  | none =>
    refine ⟨upd F dx (.own a), upd_same, ⟨⟨upd_keep hf, [], by simp⟩, fun b v e1 w n h => ⟨e1, ?_, h⟩, Up.refl H⟩, S.ice ha hf (fun i o' e1 e2 n => ?_) (fun i b dx e1 e2 z => ?_) (fun v e1 w n => ?_)⟩
    · rw [upd_ne (fun z => ?_)]
      · exact n
      · rw [z, ha] at e1
        injection e1 with e1
        exact w a e1.symm
    · cases nf : o'.isFz with
      | true => rfl
      | false =>
        obtain ⟨_, h2⟩ := S.sto i dx o' e1 e2 n
        rcases MRep.mut h2 n nf with ⟨_, h⟩ | ⟨_, h⟩ | ⟨_, _, _, h⟩ <;> rw [ha] at h <;> cases h
    · rw [z, ha] at e2
      injection e2 with e2
      injection e2 with e2
      subst e2
      have := nd_eq S.nd e e1
      subst this
      cases q : μ[k]? with
      | none => exact .inr rfl
      | some v => exact .inl (by rw [hg v q])
    · by_cases h : dx ∈ m0
      · exact h
      · have := (S.ext.frm dx v e1 w n h).1
        rw [ha] at this
        injection this with this
        exact absurd this.symm (w a)
def DeepOk (K : PySem.W.Frag) (T : Tab) (f : Sto → D → D × Sto) : Prop := ∀ {F0 F H0 : Hp} {m0 m : List Addr} {μ : Sto} {ρ : Slots} {σ : L2.St} {H : Hp} {d : D} {v : V}, Sim K T F0 m0 H0 F m μ ρ σ H → Rep K T F m d v →
  ∃ F', Ext F m H F' m H ∧ Sim K T F0 m0 H0 F' m (f μ d).2 ρ σ H ∧ Rep K T F' m (f μ d).1 v
theorem mapS_ok {f : Sto → D → D × Sto} (ok : DeepOk K T f) {F0 H0 : Hp} {m0 m : List Addr} {ρ : Slots} {σ : L2.St} {H : Hp} : ∀ {ds : List D} {vs : List V} {F : Hp} {μ : Sto}, Sim K T F0 m0 H0 F m μ ρ σ H → Reps K T F m ds vs →
    ∃ F', Ext F m H F' m H ∧ Sim K T F0 m0 H0 F' m (mapS f ds μ).2 ρ σ H ∧ Reps K T F' m (mapS f ds μ).1 vs
  | _, _, F, μ, S, .nil => ⟨F, Ext.refl _ _ _, S, .nil⟩
  | _, _, F, μ, S, .cons (d := d) (ds := ds) h r => by
    obtain ⟨F1, x1, S1, r1⟩ := ok S h
    obtain ⟨F2, x2, S2, r2⟩ := mapS_ok ok S1 (r.mono x1.gr)
    exact ⟨F2, x1.trans x2, S2, .cons (r1.mono x2.gr) r2⟩
theorem deep_ok (K : PySem.W.Frag) (T : Tab) : ∀ n, DeepOk K T (deepD n)
  | 0 => fun S r => ⟨_, Ext.refl _ _ _, S, r⟩
  | n + 1 => by
    intro S r
    rename_i F0 F H0 m0 m μ ρ σ H d v
    cases r with
    | mref e =>
      rename_i k a
      cases q : μ[k]? with
      | none =>
        simp only [deepD, q]
        exact ⟨_, Ext.refl _ _ _, S, .mref e⟩
      | some o =>
        cases o with
        | fz d =>
          simp only [deepD, q]
          exact ⟨_, Ext.refl _ _ _, S, (S.sto k a _ e q (fun z => nomatch z)).2⟩
        | gone =>
          simp only [deepD, q]
          exact ⟨_, Ext.refl _ _ _, S, .mref e⟩
        | dct kvs =>
          simp only [deepD, q]
          exact ⟨_, Ext.refl _ _ _, S, .mref e⟩
        | lst ds =>
          obtain ⟨_, vs, h1, h2⟩ := S.sto k a _ e q (fun z => nomatch z)
          obtain ⟨F1, x1, S1, r1⟩ := mapS_ok (deep_ok K T n) (S.forget k) h2
          obtain ⟨F2, f2, x2, S2⟩ := (S1.forget k).iceM e h1 (fun b z => nomatch z) fun v hv => by
            have hl := (List.getElem?_eq_some_iff.mp hv).1
            rw [List.getElem?_set_self (by simpa using hl)] at hv
            exact (Option.some.inj hv).symm
          have r2 : Rep K T F2 m (.lst (mapS (deepD n) ds (μ.set k .gone)).1) (.ref a) := .lst f2 (r1.mono x2.gr)
          have S3 := S2.setFz e r2
          rw [List.set_set] at S3
          simp only [deepD, q]
          exact ⟨F2, x1.trans x2, S3, r2⟩
        | ins c ds =>
          obtain ⟨_, dx, vs, h1, h3, _, _, h2⟩ := S.sto k a _ e q (fun z => nomatch z)
          obtain ⟨F1, x1, S1, r1⟩ := mapS_ok (deep_ok K T n) (S.forget k) h2
          have hg : ∀ v, ((mapS (deepD n) ds (μ.set k .gone)).2.set k .gone)[k]? = some v → v = .gone := fun v hv => by
            have hl := (List.getElem?_eq_some_iff.mp hv).1
            rw [List.getElem?_set_self (by simpa using hl)] at hv
            exact (Option.some.inj hv).symm
          obtain ⟨F2, f2, x2, S2⟩ := (S1.forget k).iceM e h1 (fun b z => nomatch z) hg
          obtain ⟨F3, f3, x3, S3⟩ := S2.iceO e h3 hg
          have r2 : Rep K T F3 m (.ins c (mapS (deepD n) ds (μ.set k .gone)).1) (.ref a) := .ins (x3.gr.fr _ _ f2) f3 (r1.mono (x2.trans x3).gr)
          have S4 := S3.setFz e r2
          rw [List.set_set] at S4
          simp only [deepD, q]
          exact ⟨F3, x1.trans (x2.trans x3), S4, r2⟩
    | _ =>
      refine ⟨_, Ext.refl _ _ _, ?_, ?_⟩
      · simpa only [deepD] using S
      · simp only [deepD]
        first | constructor | skip
        all_goals assumption
end
/-- what e gives is frozen from here on -/
def wFz (n : Nat) (w : WE) : WE := fun ρ μ Q E => w ρ μ (fun x μ1 => match deepD n μ1 x with
  | (d, μ2) => Q d μ2) E
theorem de_fz {X : Cx} {z : Zx} {e : Expr} {w : WE} (n : Nat) (h : DE X z e w) : DE X z e (wFz n w) := fun Wd tk =>
  peI (h Wd tk) fun σ H Q ⟨F, m, μ, ρ, Qd, S, h, k⟩ => ⟨F, m, μ, ρ, _, S, h, fun F1 m1 μ1 d1 v1 H1 x1 S1 r1 q1 => by
    obtain ⟨F2, x2, S2, r2⟩ := deep_ok X.K z.T n S1 r1
    exact k _ _ _ _ _ _ (x1.trans x2) S2 r2 q1⟩
end Pk

/-! The data layer, part M2: methods of built-in things, new lists that change. -/
namespace Pk
open PySem PySem.Spec PyProof.Rows L2

/-! ### methods -/
abbrev MF := D → BF
def MeOk (X : Cx) (z : Zx) (r : V → List V → Hp → VK → Prop) (w : MF) : Prop :=
  ∀ F m μ ρ σ H x v ds vs (Qd : QD) (Q : VK), SimZ X.K z F m μ ρ σ H → Rep X.K z.T F m x v → Reps X.K z.T F m ds vs → w x ds μ Qd → Fin X.K z F m H ρ σ Qd Q → r v vs H Q
def tyN : D → Option String
  | .lst _ => some "list"
  | .scr _ => some "list"
  | .str _ => some "str"
  | .dct _ => some "dict"
  | _ => none
def wMe (t : D → Bool) (w : MF) (wo : WE) (wa : WA) : WE := fun ρ μ Q E => wo ρ μ (fun x μ1 => match t (look μ1 x) with
  | true => wa ρ μ1 (fun ds μ2 => w x ds μ2 Q) E
  | false => False) E
def isL : D → Bool
  | .lst _ => true
  | .scr _ => true
  | _ => false
def isS : D → Bool
  | .str _ => true
  | _ => false
def isDc : D → Bool
  | .dct _ => true
  | _ => false
def TyOk (T : String) (t : D → Bool) : Prop := ∀ {K : PySem.W.Frag} {Tb : Tab} {F : Hp} {m : List Addr} {H : Hp} {x : D} {v : V}, Same F H → Vw K Tb F m H x v → t x = true → tyV K T v H
theorem ty_list : TyOk "list" isL := by
  intro K Tb F m H x v s r h
  cases x with
  | lst xs =>
    obtain ⟨a, vs, rfl, h1, _⟩ := r.list s
    exact .inl ⟨rfl, vs, SqL.of h1⟩
  | scr xs =>
    obtain ⟨a, rfl, h1⟩ := r.scr s
    exact .inl ⟨rfl, _, h1⟩
  | _ => cases h
theorem ty_str : TyOk "str" isS := by
  intro K Tb F m H x v s r h
  cases x with
  | str xs =>
    rw [r.str]
    exact rfl
  | _ => cases h
section
variable {X : Cx} {z : Zx} {o e : Expr} {es : List Expr} {name : Str} {apos cpos : Pos} {T id : String} {r : V → List V → Hp → VK → Prop} {t : D → Bool} {w : MF} {wo : WE} {wa : WA}
theorem de_bm (pa : PlainAttrs T) (slot : Slot T name id) (hty : typeOf (.builtin id) = pure (.type "method_descriptor")) (hm : MtR X id r) (ht : TyOk T t) (ok : MeOk X z r w) (ho : DE X z o wo) (ha : DA X z (e :: es) wa)
    (hbase : attributeBase o name X.env (eval o X.env) = eval o X.env := by rfl)
    (hfew : ((backTo cpos (starEach (e :: es) X.env)).all (fun x => !x.1) && (backToKw cpos (keywordEach [] X.env)).all (fun x => x.1.isSome)
      && decide ((e :: es).length + ([] : List Keyword).length + (if ([] : List Keyword).isEmpty then 0 else 1) < 30)) = true := by rfl)
    (hline : (apos.endLine == cpos.line) = true := by rfl) (hs : starEach (e :: es) X.env = (false, eval e X.env) :: starEach es X.env := by rfl) (hplain : (backTo cpos (starEach es X.env)).any (·.1) = false := by rfl) :
    DE X z (.Call (.Attribute o name apos) (e :: es) [] cpos) (wMe t w wo wa) := fun Wd tk =>
  peI (pe_bm pa slot hty hm (ho Wd tk) (ha Wd tk) hbase hfew hline hs hplain) fun σ H Q ⟨F, m, μ, ρ, Qd, S, h, k⟩ => ⟨F, m, μ, ρ, _, S, h, fun F1 m1 μ1 d1 v1 H1 x1 S1 r1 q1 => by
    cases e : t (look μ1 d1) with
    | false => rw [e] at q1; exact q1.elim
    | true =>
      rw [e] at q1
      refine ⟨ht S1.same (S1.view r1) e, F1, m1, μ1, ρ, _, S1, q1, fun F2 m2 μ2 ds vs H2 x2 S2 r2 q2 => ?_⟩
      exact ok _ _ _ _ _ _ _ _ _ _ _ _ S2 (r1.mono x2.gr) r2 q2 fun F4 m4 μ4 d4 v4 H4 x4 => k F4 m4 μ4 d4 v4 H4 (x1.trans (x2.trans x4))⟩
theorem de_bm0 (pa : PlainAttrs T) (slot : Slot T name id) (hty : typeOf (.builtin id) = pure (.type "method_descriptor")) (hm : MtR X id r) (ht : TyOk T t) (ok : MeOk X z r w) (ho : DE X z o wo)
    (hbase : attributeBase o name X.env (eval o X.env) = eval o X.env := by rfl) (hline : (apos.endLine == cpos.line) = true := by rfl) :
    DE X z (.Call (.Attribute o name apos) [] [] cpos) (wMe t w wo aNil) := fun Wd tk =>
  peI (pe_bm0 pa slot hty hm (ho Wd tk) hbase hline) fun σ H Q ⟨F, m, μ, ρ, Qd, S, h, k⟩ => ⟨F, m, μ, ρ, _, S, h, fun F1 m1 μ1 d1 v1 H1 x1 S1 r1 q1 => by
    cases e : t (look μ1 d1) with
    | false => rw [e] at q1; exact q1.elim
    | true =>
      rw [e] at q1
      exact ⟨ht S1.same (S1.view r1) e, ok _ _ _ _ _ _ _ _ _ _ _ _ S1 r1 .nil q1 fun F4 m4 μ4 d4 v4 H4 x4 => k F4 m4 μ4 d4 v4 H4 (x1.trans x4)⟩⟩
/-- x.split(sep) -/
def splF (own : Bool) : MF := fun x ds μ Q => match x, ds with
  | .str a, [.str b] => match !nilB b && (b.all (fun c => Nat.blt c 256) && Nat.ble a.length 16777000) with
    | true => giveL own ((TL.spl b 0 [] a).map .str) μ Q
    | false => False
  | _, _ => False
def rSplit : V → List V → Hp → VK → Prop := fun x xs H Q => ∃ a b, x = .str a ∧ xs = [.str b] ∧ (b.length == 0) = false ∧ a.length + 2 ≤ sizeLine ∧ rNewStrs (Txt.split a b) H Q
theorem reps_strs {K : PySem.W.Frag} {Tb : Tab} {F : Hp} {m : List Addr} : ∀ xs : List Tx, Reps K Tb F m (xs.map .str) ((xs.map tx).map V.str)
  | [] => .nil
  | _ :: r => .cons .str (reps_strs r)
theorem ok_split {own : Bool} : MeOk X z rSplit (splF own) := fun F m μ ρ σ H x v ds vs Qd Q S rx rs q k => by
  unfold splF at q
  split at q
  · rename_i a b
    cases rx
    cases rs with
    | cons r1 rs =>
      cases rs
      cases r1
      split at q
      · rename_i hh
        simp only [Bool.and_eq_true, Bool.not_eq_true'] at hh
        obtain ⟨h0, h1, h2⟩ := hh
        have hb : b ≠ [] := fun e => by subst e; cases h0
        refine ⟨tx a, tx b, rfl, rfl, ?_, ?_, fun p hp => ?_⟩
        · rw [tx_len]
          cases b with
          | nil => exact absurd rfl hb
          | cons c r => simp
        · rw [tx_len, sizeLine_eq]
          have := Nat.le_of_ble_eq_true h2
          omega
        · have e : Txt.split (tx a) (tx b) = (TL.spl b 0 [] a).map tx := SX.split_S hb (by
            rw [← h1]
            congr 1
            funext c
            exact Bool.eq_iff_iff.mpr ⟨fun h => Nat.ble_eq_true_of_le (of_decide_eq_true h), fun h => decide_eq_true (Nat.le_of_ble_eq_true h)⟩)
          rw [e]
          exact give_new k S hp (reps_strs _) q
      · exact q.elim
  · exact q.elim
/-- sep.join(xs) -/
def strsD : List D → Option (List Tx)
  | [] => some []
  | .str s :: r => match strsD r with
    | some ss => some (s :: ss)
    | none => none
  | _ => none
def seqOf : D → Option (List D)
  | .lst xs => some xs
  | .tup xs => some xs
  | _ => none
def sumN : List Nat → Nat
  | [] => 0
  | x :: r => x + sumN r
def joinF : MF := fun x ds μ Q => match x, ds with
  | .str a, [y] => match seqOf (look μ y) with
    | some xs => match strsD xs with
      | some ss => match Nat.ble (sumN (ss.map List.length) + ss.length * a.length) 16777216 with
        | true => Q (.str (TL.joinL a ss)) μ
        | false => False
      | none => False
    | none => False
  | _, _ => False
def rJoin (K : PySem.W.Frag) : V → List V → Hp → VK → Prop := fun x xs H Q => ∃ a p, ∃ ys : List Str, x = .str a ∧ xs = [.ref p] ∧ (SqL K H p (ys.map V.str) ∨ SqT K H p (ys.map V.str)) ∧
    (ys.map (·.length)).sum + ys.length * a.length ≤ 16777216 ∧ Q (.str (Txt.join a ys)) H
theorem Reps.strs {K : PySem.W.Frag} {Tb : Tab} {F : Hp} {m : List Addr} : ∀ {ds : List D} {vs : List V} {ss : List Tx}, Reps K Tb F m ds vs → strsD ds = some ss → vs = (ss.map tx).map V.str
  | [], _, bs, .nil, e => by
    injection e with e
    subst e
    rfl
  | d :: ds, _, bs, .cons h r, e => by
    cases h with
    | str =>
      unfold strsD at e
      split at e
      · rename_i bs' e'
        injection e with e
        subst e
        rw [Reps.strs r e']
        rfl
      · cases e
    | _ => cases e
theorem sumN_eq : ∀ l : List Nat, l.sum = sumN l
  | [] => rfl
  | x :: r => by rw [List.sum_cons, sumN_eq r]; rfl
theorem ok_join : MeOk X z (rJoin X.K) joinF := fun F m μ ρ σ H x v ds vs Qd Q S rx rs q k => by
  unfold joinF at q
  split at q
  · rename_i a y
    cases rx
    cases rs with
    | cons r1 rs =>
      cases rs
      have vy := S.view r1
      split at q
      · rename_i xs hx
        split at q
        · rename_i ss hs
          split at q
          · rename_i hl
            have hl := Nat.le_of_ble_eq_true hl
            have hsz : ((ss.map tx).map (·.length)).sum + (ss.map tx).length * (tx a).length ≤ 16777216 := by
              rw [tx_len, List.map_map, List.length_map]
              have : (ss.map ((fun x => x.length) ∘ tx)) = ss.map List.length := List.map_congr_left fun s _ => tx_len s
              rw [this, sumN_eq]
              exact hl
            have hj : Txt.join (tx a) (ss.map tx) = tx (TL.joinL a ss) := SX.join_S a ss
            have fin : Q (.str (Txt.join (tx a) (ss.map tx))) H := by
              rw [hj]
              exact k.now S .str q
            generalize hy : look μ y = y' at vy hx
            cases y' with
            | lst ys =>
              injection hx with hx
              subst hx
              obtain ⟨p, us, rfl, h1, r2⟩ := vy.list S.same
              rw [r2.strs hs] at h1
              exact ⟨tx a, p, ss.map tx, rfl, rfl, .inl (SqL.of h1), hsz, fin⟩
            | tup ys =>
              injection hx with hx
              subst hx
              obtain ⟨p, us, rfl, h1, r2⟩ := vy.tup S.same
              rw [r2.strs hs] at h1
              exact ⟨tx a, p, ss.map tx, rfl, rfl, .inr h1, hsz, fin⟩
            | _ => cases hx
          · exact q.elim
        · exact q.elim
      · exact q.elim
  · exact q.elim
/-- xs.append(y) -/
def appF : MF := fun x ds μ Q => match x, ds with
  | .mref k, [y] => match μ[k]? with
    | some (.lst xs) => match Nat.blt xs.length 16777216 with
      | true => Q .non (μ.set k (.lst (xs ++ [y])))
      | false => False
    | _ => False
  | _, _ => False
theorem ok_app : MeOk X z rAppend appF := fun F m μ ρ σ H x v ds vs Qd Q S rx rs q k => by
  unfold appF at q
  split at q
  · rename_i i y
    cases rx with
    | mref e =>
      cases rs with
      | cons r1 rs =>
        cases rs
        split at q
        · rename_i xs hx
          split at q
          · rename_i hl
            have hl := Nat.le_of_ble_eq_true hl
            obtain ⟨_, us, h1, r2⟩ := S.sto i _ _ e hx (fun z => nomatch z)
            obtain ⟨x1, S1⟩ := S.wr (o' := .lst (xs ++ [y])) e hx (fun z => nomatch z) rfl ⟨_, upd_same, r2.append (.cons r1 .nil)⟩
            refine ⟨_, us, _, rfl, rfl, h1, ?_, k _ _ _ _ _ _ x1 S1 .non q⟩
            rw [← r2.length, sizeLine_eq]
            exact hl
          · exact q.elim
        · exact q.elim
  · exact q.elim
/-- l.index(x) -/
def idxD (x : D) : List D → Nat → Option Nat
  | [], _ => none
  | y :: r, n => match eqD y x with
    | true => some n
    | false => idxD x r (n + 1)
def idxF : MF := fun x ds μ Q => match look μ x, ds with
  | .lst xs, [y] => match pureD 60 y && pureD 60 (.lst xs), idxD y xs 0 with
    | true, some j => Q (.int (j : Nat)) μ
    | _, _ => False
  | _, _ => False
theorem toPys_get : ∀ {xs : List D} {j : Nat}, (toPys xs)[j]? = (xs[j]?).map toPy
  | [], j => by simp [toPys]
  | x :: xs, 0 => by simp [toPys]
  | x :: xs, j + 1 => by simp [toPys, toPys_get (xs := xs) (j := j)]
theorem idxD_spec {x : D} : ∀ {xs : List D} {n j : Nat}, idxD x xs n = some j → ∃ i y, j = n + i ∧ xs[i]? = some y ∧ eqD y x = true ∧ ∀ l y', l < i → xs[l]? = some y' → eqD y' x = false
  | [], n, j, h => by cases h
  | y :: r, n, j, h => by
    unfold idxD at h
    split at h
    · rename_i e
      injection h with h
      exact ⟨0, y, by omega, rfl, e, fun l _ hl => absurd hl (Nat.not_lt_zero _)⟩
    · rename_i e
      obtain ⟨i, y', h1, h2, h3, h4⟩ := idxD_spec h
      refine ⟨i + 1, y', by omega, by simpa using h2, h3, fun l y2 hl hy => ?_⟩
      cases l with
      | zero =>
        simp only [List.getElem?_cons_zero, Option.some.injEq] at hy
        subst hy
        exact e
      | succ l => exact h4 l y2 (by omega) (by simpa using hy)
theorem ok_idx : MeOk X z (rIndexD X.K) idxF := fun F m μ ρ σ H x v ds vs Qd Q S rx rs q k => by
  unfold idxF at q
  split at q
  · rename_i xs y hx
    have vx := S.view rx
    rw [hx] at vx
    cases rs with
    | cons r1 rs =>
      cases rs
      split at q
      · rename_i j hp hj
        rw [Bool.and_eq_true] at hp
        obtain ⟨g1, g2⟩ := hp
        obtain ⟨a, us, rfl, h1, r2⟩ := vx.list S.same
        obtain ⟨i, y', e1, e2, e3, e4⟩ := idxD_spec hj
        have e1 : j = i := by omega
        subst e1
        have pl : pureDs 59 xs = true := by simpa [pureD] using g2
        have pu : ∀ {n : Nat} {ds : List D} {l : Nat} {y : D}, pureDs n ds = true → ds[l]? = some y → pureD n y = true := by
          intro n ds
          induction ds with
          | nil => intro l y _ h; simp at h
          | cons d ds ih =>
            intro l y h hl
            unfold pureDs at h
            split at h
            · rename_i hd
              cases l with
              | zero =>
                simp only [List.getElem?_cons_zero, Option.some.injEq] at hl
                subst hl
                exact hd
              | succ l => exact ih h (by simpa using hl)
            · cases h
        refine ⟨a, _, toPy y, toPys xs, j, toPy y', rfl, rfl, vx.dp S.same g2, (Vw.of r1).dp S.same g1, shaped_of g2 (by decide), shaped_of g1 (by decide), by rw [toPys_get, e2]; rfl, ?_, fun l z' hl hz => ?_, k.now S .int q⟩
        · rw [← eqD_py 59 60 _ _ (pu pl e2) g1]
          exact e3
        · rw [toPys_get] at hz
          cases hq : xs[l]? with
          | none =>
            rw [hq] at hz
            cases hz
          | some y2 =>
            rw [hq] at hz
            injection hz with hz
            subst hz
            rw [← eqD_py 59 60 _ _ (pu pl hq) g1]
            exact e4 l y2 hl hq
      · exact q.elim
  · exact q.elim
/-! ### new lists that change -/
def wLstO (w : WA) : WE := fun ρ μ Q E => w ρ μ (fun xs μ1 => match lineB xs.length with
  | true => giveL true xs μ1 Q
  | false => False) E
theorem de_lstO (h : DA X z es wa) : DE X z (.List es cpos) (wLstO wa) := fun Wd tk =>
  peI (pe_lst (h Wd tk)) fun σ H Q ⟨F, m, μ, ρ, Qd, S, h, k⟩ => ⟨F, m, μ, ρ, _, S, h, fun F1 m1 μ1 ds vs H1 x1 S1 r1 q1 => by
    cases e : lineB ds.length with
    | false => rw [e] at q1; exact q1.elim
    | true =>
      rw [e] at q1
      refine ⟨by rw [← r1.length]; exact lineB_le e, fun p hp => ?_⟩
      have kk : Fin X.K z F1 m1 H1 ρ σ Qd Q := fun F4 m4 μ4 d4 v4 H4 x4 => k F4 m4 μ4 d4 v4 H4 (x1.trans x4)
      exact give_new kk S1 hp r1 q1⟩
/-- [..] * n -/
def repL {α : Type} : Nat → List α → List α
  | 0, _ => []
  | n + 1, xs => xs ++ repL n xs
def mulB : Int → Bool
  | .ofNat n => Nat.blt n 100000
  | .negSucc n => Nat.blt n 1000
theorem mulB_ok {i : Int} (h : mulB i = true) : -100000 < i ∧ i < 100000 := by
  cases i with
  | ofNat n =>
    have := Nat.le_of_ble_eq_true (show Nat.ble (n + 1) 100000 = true from h)
    simp only [Int.ofNat_eq_natCast]
    omega
  | negSucc n =>
    have := Nat.le_of_ble_eq_true (show Nat.ble (n + 1) 1000 = true from h)
    omega
def wMulO (wa wb : WE) : WE := fun ρ μ Q E => wa ρ μ (fun x μ1 => wb ρ μ1 (fun y μ2 => match look μ2 x, y with
  | .lst xs, .int i => match mulB i && Nat.ble xs.length 100 with
    | true => giveL true (repL i.toNat xs) μ2 Q
    | false => False
  | _, _ => False) E) E
theorem repL_eq {α : Type} (xs : List α) : ∀ n, (List.replicate n xs).flatten = repL n xs
  | 0 => rfl
  | n + 1 => by rw [List.replicate_succ, List.flatten_cons, repL_eq xs n]; rfl
theorem Reps.repL {K : PySem.W.Frag} {Tb : Tab} {F : Hp} {m : List Addr} {ds : List D} {vs : List V} (r : Reps K Tb F m ds vs) : ∀ n, Reps K Tb F m (Pk.repL n ds) (Pk.repL n vs)
  | 0 => .nil
  | n + 1 => r.append (Reps.repL r n)
theorem de_mulO {a b : Expr} {wx wy : WE} (ha : DE X z a wx) (hb : DE X z b wy) : DE X z (.BinOp a .Mult b cpos) (wMulO wx wy) := fun Wd tk =>
  peI (pe_op op_rep (ha Wd tk) (hb Wd tk)) fun σ H Q ⟨F, m, μ, ρ, Qd, S, h, k⟩ => ⟨F, m, μ, ρ, _, S, h, fun F1 m1 μ1 d1 v1 H1 x1 S1 r1 q1 => ⟨F1, m1, μ1, ρ, _, S1, q1, fun F2 m2 μ2 d2 v2 H2 x2 S2 r2 q2 => by
    have kk : Fin X.K z F2 m2 H2 ρ σ Qd Q := fun F4 m4 μ4 d4 v4 H4 x4 => k F4 m4 μ4 d4 v4 H4 (x1.trans (x2.trans x4))
    have vx := S2.view (r1.mono x2.gr)
    split at q2
    · rename_i xs i hx
      rw [hx] at vx
      cases r2
      obtain ⟨a, us, rfl, h1, r3⟩ := vx.list S2.same
      split at q2
      · rename_i hh
        rw [Bool.and_eq_true] at hh
        have g0 := (mulB_ok hh.1).1
        have g1 := (mulB_ok hh.1).2
        have g2 := Nat.le_of_ble_eq_true hh.2
        refine ⟨a, i, us, rfl, rfl, h1, by omega, by omega, ?_, fun p hp => ?_⟩
        · rw [← r3.length, sizeLine_eq]
          calc xs.length * i.toNat ≤ 100 * 100000 := Nat.mul_le_mul g2 (by omega)
            _ ≤ 16777216 := by decide
        · rw [repL_eq]
          exact give_new kk S2 hp (r3.repL _) q2
      · exact q2.elim
    · exact q2.elim⟩⟩
end
end Pk

/-! The data layer, part M3: attributes, stores. -/
namespace Pk
open PySem PySem.Spec PyProof.Rows L2

/-! ### attributes -/
def fldIx (f : Str) : List Str → Option Nat
  | [] => none
  | g :: r => if g = f then some 0 else (fldIx f r).map (· + 1)
structure FldF (K : PySem.W.Frag) (T : Tab) (c : Nat) (f : Str) (j : Nat) : Prop where
  cl : Cls K (T.ca c)
  na : NoAttr K (T.ca c) f
  ix : fldIx f (T.fn c) = some j
  few : (T.fn c).length < 1000
section
variable {K : PySem.W.Frag} {T : Tab} {F : Hp} {m : List Addr}
theorem fld_get : ∀ {fn : List Str} {f : Str} {j : Nat} {ds : List D} {vs : List V} {d : D}, fldIx f fn = some j → Reps K T F m ds vs → ds[j]? = some d → ∃ v, (fn.zip vs).lookup f = some v ∧ Rep K T F m d v
  | [], f, j, ds, vs, d, h, _, _ => by cases h
  | g :: fn, f, j, _, _, d, h, .nil, e => by simp at e
  | g :: fn, f, j, _, _, d, h, .cons (d := d0) (v := v0) (vs := vs) r rs, e => by
    unfold fldIx at h
    by_cases hg : g = f
    · rw [if_pos hg] at h
      injection h with h
      subst h
      simp only [List.getElem?_cons_zero, Option.some.injEq] at e
      subst e
      refine ⟨v0, ?_, r⟩
      rw [List.zip_cons_cons]
      simp [List.lookup, beq_iff_eq.mpr hg.symm]
    · rw [if_neg hg] at h
      cases q : fldIx f fn with
      | none => rw [q] at h; cases h
      | some i =>
        rw [q] at h
        injection h with h
        subst h
        obtain ⟨v, h1, h2⟩ := fld_get q rs (by simpa using e)
        refine ⟨v, ?_, h2⟩
        rw [List.zip_cons_cons]
        have hb : (f == g) = false := beq_eq_false_iff_ne.mpr (Ne.symm hg)
        simp only [List.lookup, hb]
        exact h1
/-- setting: there already, or the next one -/
def setAt (ds : List D) (j : Nat) (d : D) : Option (List D) := match Nat.blt j ds.length with
  | true => some (ds.set j d)
  | false => match Nat.beq j ds.length with
    | true => some (ds ++ [d])
    | false => none
theorem fld_put : ∀ {fn : List Str} {f : Str} {j : Nat} {ds ds' : List D} {vs : List V} {d : D} {v : V}, fldIx f fn = some j → Reps K T F m ds vs → Rep K T F m d v → setAt ds j d = some ds' →
    ∃ vs', putF f v (fn.zip vs) = fn.zip vs' ∧ Reps K T F m ds' vs' ∧ ds'.length ≤ max ds.length (j + 1) := by
  intro fn f j ds ds' vs d v h r rv e
  have main : ∀ {fn : List Str} {f : Str} {j : Nat} {vs : List V}, fldIx f fn = some j → (j < vs.length → putF f v (fn.zip vs) = fn.zip (vs.set j v)) ∧ (j = vs.length → putF f v (fn.zip vs) = fn.zip (vs ++ [v])) := by
    intro fn
    induction fn with
    | nil => intro f j vs h; cases h
    | cons g fn ih =>
      intro f j vs h
      unfold fldIx at h
      by_cases hg : g = f
      · rw [if_pos hg] at h
        injection h with h
        subst h
        refine ⟨fun hl => ?_, fun hl => ?_⟩
        · cases vs with
          | nil => simp at hl
          | cons v0 vs =>
            rw [List.zip_cons_cons]
            simp [putF, hg]
        · cases vs with
          | nil => simp [putF, hg]
          | cons v0 vs => simp at hl
      · rw [if_neg hg] at h
        cases q : fldIx f fn with
        | none => rw [q] at h; cases h
        | some i =>
          rw [q] at h
          injection h with h
          subst h
          cases vs with
          | nil => exact ⟨fun hl => by simp at hl, fun hl => by simp at hl⟩
          | cons v0 vs =>
            obtain ⟨h1, h2⟩ := ih (vs := vs) q
            refine ⟨fun hl => ?_, fun hl => ?_⟩
            · have := h1 (by simpa using hl)
              rw [List.zip_cons_cons]
              simp [putF, hg, this]
            · have := h2 (by simpa using hl)
              rw [List.zip_cons_cons]
              simp [putF, hg, this]
  obtain ⟨h1, h2⟩ := main (vs := vs) h
  unfold setAt at e
  have hl := r.length
  split at e
  · rename_i hb
    injection e with e
    subst e
    exact ⟨_, h1 (by rw [← hl]; exact Nat.le_of_ble_eq_true hb), r.set rv j, by rw [List.length_set]; omega⟩
  · split at e
    · rename_i hb
      injection e with e
      subst e
      exact ⟨_, h2 (by rw [← hl]; exact Nat.eq_of_beq_eq_true hb), r.append (.cons rv .nil), by rw [List.length_append, List.length_singleton, ← Nat.eq_of_beq_eq_true hb]; omega⟩
    · cases e
theorem fldIx_lt : ∀ {fn : List Str} {f : Str} {j : Nat}, fldIx f fn = some j → j < fn.length
  | [], _, _, h => by cases h
  | g :: fn, f, j, h => by
    unfold fldIx at h
    split at h
    · injection h with h
      subst h
      exact Nat.zero_lt_succ _
    · cases q : fldIx f fn with
      | none => rw [q] at h; cases h
      | some i =>
        rw [q] at h
        injection h with h
        subst h
        exact Nat.succ_lt_succ (fldIx_lt q)
end
theorem own_ne {H : Hp} {a dx b : Addr} {C : Addr} {fs : List (Str × V)} (h1 : H a = some (.ins C dx fs)) (h3 : H dx = some (.own b)) : dx ≠ a := fun z => by
  rw [← z, h3] at h1
  cases h1
def wFld (c j : Nat) (w : WE) : WE := fun ρ μ Q E => w ρ μ (fun x μ1 => match look μ1 x with
  | .ins c' fs => match Nat.beq c' c, fs[j]? with
    | true, some d => Q d μ1
    | _, _ => False
  | _ => False) E
section
variable {X : Cx} {z : Zx} {o e : Expr} {pos pos' : Pos} {w wo we : WE} {c j : Nat} {f : Str}
theorem de_fld (ff : FldF X.K z.T c f j) (h : DE X z e w) (hb : attributeBase e f X.env (eval e X.env) = eval e X.env := by rfl) : DE X z (.Attribute e f pos) (wFld c j w) := fun Wd tk =>
  peI (pe_fld (h Wd tk) hb) fun σ H Q ⟨F, m, μ, ρ, Qd, S, h, k⟩ => ⟨F, m, μ, ρ, _, S, h, fun F1 m1 μ1 d1 v1 H1 x1 S1 r1 q1 => by
    have vx := S1.view r1
    split at q1
    · rename_i c' fs hx
      rw [hx] at vx
      split at q1
      · rename_i d hc hj
        have := Nat.eq_of_beq_eq_true hc
        subst this
        obtain ⟨a, dx, vs, rfl, h1, r2⟩ := vx.inst S1.same
        obtain ⟨u, h2, r3⟩ := fld_get ff.ix r2 hj
        exact ⟨a, _, dx, _, u, rfl, h1, ff.cl, ff.na, h2, k _ _ _ _ _ _ x1 S1 r3 q1⟩
      · exact q1.elim
    · exact q1.elim⟩
/-- o.f = e -/
def sFldD (c j : Nat) (wo we : WE) : WS := fun De ρ μ => we ρ μ (fun y μ1 => wo ρ μ1 (fun x μ2 => match x with
  | .mref k => match μ2[k]? with
    | some (.ins c' fs) => match Nat.beq c' c, setAt fs j y with
      | true, some fs' => De.nx ρ (μ2.set k (.ins c fs'))
      | _, _ => False
    | _ => False
  | _ => False) (fun x μ' => De.ex x ρ μ')) (fun x μ' => De.ex x ρ μ')
theorem ds_fld (ff : FldF X.K z.T c f j) (ho : DE X z o wo) (he : DE X z e we) (hs : swapsWith e (some (.Attribute o f pos')) pos.line X.env = pure false := by rfl) : DS X z (.Assign [.Attribute o f pos'] e pos) (sFldD c j wo we) := fun Wd tk =>
  psI (ps_fld (ho Wd tk) (he Wd tk) hs) fun D σ H ⟨F, m, μ, ρ, De, S, h, ex, k⟩ => by
  subst ex
  exact ⟨F, m, μ, ρ, _, S, h, fun F1 m1 μ1 d1 v1 H1 x1 S1 r1 q1 => ⟨F1, m1, μ1, ρ, _, S1, q1, fun F2 m2 μ2 d2 v2 H2 x2 S2 r2 q2 => by
    split at q2
    · rename_i i
      cases r2 with
      | mref e2 =>
        split at q2
        · rename_i c' fs hx
          split at q2
          · rename_i fs' hc hj
            have := Nat.eq_of_beq_eq_true hc
            subst this
            obtain ⟨_, dx, vs, h1, h3, n3, l3, r3⟩ := S2.sto i _ _ e2 hx (fun z => nomatch z)
            obtain ⟨vs', p1, p2, p3⟩ := fld_put ff.ix r3 (r1.mono x2.gr) hj
            have ne := own_ne h1 h3
            obtain ⟨x4, S4⟩ := S2.wr (u := .ins (z.T.ca c') dx ((z.T.fn c').zip vs')) (o' := .ins c' fs') e2 hx (fun z => nomatch z) rfl
              ⟨dx, vs', upd_same, by rw [upd_ne ne]; exact h3, n3, by have := fldIx_lt ff.ix; omega, p2⟩
            refine ⟨_, _, dx, _, rfl, h1, ff.cl, ff.na, ?_, ?_⟩
            · rw [List.length_zip]
              have := ff.few
              omega
            · rw [p1]
              exact k.nx _ _ _ _ _ _ (x1.trans (x2.trans x4)) S4 q2
          · exact q2.elim
        · exact q2.elim
    · exact q2.elim⟩⟩
/-- o.f += e, lists -/
def sFldAugD (c j : Nat) (wo we : WE) : WS := fun De ρ μ => wo ρ μ (fun x μ1 => match x with
  | .mref k => match μ1[k]? with
    | some (.ins c' fs) => match Nat.beq c' c, fs[j]? with
      | true, some (.mref l) => we ρ μ1 (fun y μ2 => match μ2[l]?, look μ2 y, μ2[k]? with
        | some (.lst xs), .lst ys, some (.ins c2 fs2) => match Nat.beq c2 c, fs2[j]?, Nat.ble (xs.length + ys.length) 16777216 && !Nat.beq k l with
          | true, some (.mref l2), true => match Nat.beq l2 l with
            | true => De.nx ρ (μ2.set l (.lst (xs ++ ys)))
            | false => False
          | _, _, _ => False
        | _, _, _ => False) (fun x μ' => De.ex x ρ μ')
      | _, _ => False
    | _ => False
  | _ => False) (fun x μ' => De.ex x ρ μ')
theorem List.set_same {α : Type} {l : List α} {i : Nat} {a : α} (h : l[i]? = some a) : l.set i a = l := by
  obtain ⟨hl, e⟩ := List.getElem?_eq_some_iff.mp h
  rw [← e]
  exact List.set_getElem_self hl
theorem ds_fldaug (ff : FldF X.K z.T c f j) (ho : DE X z o wo) (he : DE X z e we) : DS X z (.AugAssign (.Attribute o f pos') .Add e pos) (sFldAugD c j wo we) := fun Wd tk =>
  psI (ps_fldaug (rd := rExt2) (ho Wd tk) (he Wd tk) iop_ext) fun D σ H ⟨F, m, μ, ρ, De, S, h, ex, k⟩ => by
  subst ex
  exact ⟨F, m, μ, ρ, _, S, h, fun F1 m1 μ1 d1 v1 H1 x1 S1 r1 q1 => by
    split at q1
    · rename_i i
      cases r1 with
      | mref e1 =>
        split at q1
        · rename_i c' fs hx
          split at q1
          · rename_i l hc hj
            have := Nat.eq_of_beq_eq_true hc
            subst this
            obtain ⟨_, dx, vs, h1, h3, n3, l3, r3⟩ := S1.sto i _ _ e1 hx (fun z => nomatch z)
            obtain ⟨u, g1, g2⟩ := fld_get ff.ix r3 hj
            refine ⟨_, _, dx, _, u, rfl, h1, ff.cl, ff.na, g1, F1, m1, μ1, ρ, _, S1, q1, fun F2 m2 μ2 d2 v2 H2 x2 S2 r2 q2 => ?_⟩
            cases g2 with
            | mref el =>
              split at q2
              · rename_i xs ys c2 fs2 hxs hys hk
                split at q2
                · rename_i l2 hc2 hj2 hz
                  split at q2
                  · rename_i hl2
                    have e3 := Nat.eq_of_beq_eq_true hc2
                    have e4 := Nat.eq_of_beq_eq_true hl2
                    subst e3 e4
                    rw [Bool.and_eq_true] at hz
                    have el2 := (Rep.mono x2.gr (.mref el) : Rep X.K z.T F2 m2 (.mref l2) _)
                    have ei2 := (Rep.mono x2.gr (.mref e1) : Rep X.K z.T F2 m2 (.mref i) _)
                    cases el2 with
                    | mref el2 =>
                      cases ei2 with
                      | mref ei2 =>
                        obtain ⟨_, us, p1, p2⟩ := S2.sto l2 _ _ el2 hxs (fun z => nomatch z)
                        obtain ⟨_, dx2, vs2, q3, q4, q5, q6, q7⟩ := S2.sto i _ _ ei2 hk (fun z => nomatch z)
                        have vy := S2.view r2
                        rw [hys] at vy
                        obtain ⟨b, zs, rfl, p3, p4⟩ := vy.list S2.same
                        obtain ⟨x4, S4⟩ := S2.wr (u := .lst (us ++ zs)) (o' := .lst (xs ++ ys)) el2 hxs (fun z => nomatch z) rfl ⟨_, upd_same, p2.append p4⟩
                        have ne : i ≠ l2 := fun z => by
                          rw [z] at hk
                          rw [hxs] at hk
                          cases hk
                        have hk4 : (μ2.set l2 (.lst (xs ++ ys)))[i]? = some (.ins c2 fs2) := by rw [List.getElem?_set_ne (Ne.symm ne)]; exact hk
                        obtain ⟨_, dx3, vs3, t1, t2, t3, t4, t5⟩ := S4.sto i _ _ ei2 hk4 (fun z => nomatch z)
                        refine ⟨_, b, us, zs, rfl, rfl, p1, p3, ?_, ?_⟩
                        · rw [← p2.length, ← p4.length, sizeLine_eq]
                          exact Nat.le_of_ble_eq_true hz.1
                        · have hj3 : setAt fs2 j (.mref l2) = some fs2 := by
                            unfold setAt
                            have hlt : j < fs2.length := (List.getElem?_eq_some_iff.mp hj2).1
                            have : Nat.blt j fs2.length = true := Nat.ble_eq_true_of_le hlt
                            rw [this]
                            show some (fs2.set j _) = some fs2
                            rw [List.set_same hj2]
                          obtain ⟨vs', w1, w2, w3⟩ := fld_put ff.ix t5 (.mref el2) hj3
                          have nd := own_ne t1 t2
                          obtain ⟨x5, S5⟩ := S4.wr (u := .ins (z.T.ca c2) dx3 ((z.T.fn c2).zip vs')) (o' := .ins c2 fs2) ei2 hk4 (fun z => nomatch z) rfl
                            ⟨dx3, vs', upd_same, by rw [upd_ne nd]; exact t2, t3, t4, w2⟩
                          refine ⟨dx3, _, t1, ?_, ?_⟩
                          · rw [List.length_zip]
                            have := ff.few
                            omega
                          · rw [w1]
                            refine k.nx _ _ _ _ _ _ (x1.trans (x2.trans (x4.trans x5))) S5 ?_
                            rw [List.set_same hk4]
                            exact q2
                  · exact q2.elim
                · exact q2.elim
              · exact q2.elim
          · exact q1.elim
        · exact q1.elim
    · exact q1.elim⟩
end
end Pk

/-! The data layer, part M4: stores by subscript, augmented assignments, while. -/
namespace Pk
open PySem PySem.Spec PyProof.Rows L2

/-! ### o[i] = v -/
def ixG (n : Nat) (i : Int) : Option Nat := match i with
  | .ofNat k => match Nat.blt k n with
    | true => some k
    | false => none
  | .negSucc k => match Nat.ble (k + 1) n with
    | true => some (n - (k + 1))
    | false => none
theorem ixG_eq {n : Nat} {i : Int} {j : Nat} (h : ixG n i = some j) : ixN n i = some j := by
  unfold ixG at h
  unfold ixN
  split at h
  · rename_i k
    split at h
    · rename_i hk
      injection h with h
      subst h
      have := Nat.le_of_ble_eq_true hk
      have h0 : (0 : Int) ≤ Int.ofNat k := Int.ofNat_nonneg k
      have h1 : Int.ofNat k < (n : Int) := by simp only [Int.ofNat_eq_natCast]; omega
      rw [if_pos h0, if_pos h1]
      rfl
    · cases h
  · rename_i k
    split at h
    · rename_i hk
      injection h with h
      subst h
      have := Nat.le_of_ble_eq_true hk
      have h0 : ¬ (0 : Int) ≤ Int.negSucc k := by omega
      have h1 : -(n : Int) ≤ Int.negSucc k := by omega
      rw [if_neg h0, if_pos h1]
      congr 1
      omega
    · cases h
def hasK : List (DK × D) → DK → Bool
  | [], _ => false
  | (k, _) :: r, x => match eqDK k x with
    | true => true
    | false => hasK r x
def mapK (x : DK) (v : D) : List (DK × D) → List (DK × D)
  | [] => []
  | (k, d) :: r => match eqDK k x with
    | true => (k, v) :: mapK x v r
    | false => (k, d) :: mapK x v r
def putE (kvs : List (DK × D)) (x : DK) (v : D) : List (DK × D) := match hasK kvs x with
  | true => mapK x v kvs
  | false => kvs ++ [(x, v)]
def setD : MO → D → D → Option MO
  | .lst xs, .int i, v => match ixG xs.length i with
    | some j => some (.lst (xs.set j v))
    | none => none
  | .dct kvs, i, v => match toK i, Nat.blt kvs.length 16777216 with
    | some k, true => some (.dct (putE kvs k v))
    | _, _ => none
  | _, _, _ => none
def rSetA : TSet := fun o i v H Q => rSetL o i v H Q ∨ rSetD o i v H Q
section
variable {X : Cx}
theorem set_all (hu : X.A.units + 1 < cLine) : PSet X rSetA := by
  intro pins s σ H o i v ov iv u Q I ro ri rv h
  rcases h with h | h
  · exact set_list pins s σ H o i v ov iv u Q I ro ri rv h
  · exact set_dict hu pins s σ H o i v ov iv u Q I ro ri rv h
end
section
variable {K : PySem.W.Frag} {T : Tab} {F0 F F' H0 : Hp} {m0 m m' : List Addr} {μ μ' : Sto} {ρ : Slots} {σ : L2.St} {H H' : Hp} {p a : Addr} {ds : List D} {vs : List V} {k : Nat}
theorem iteR {α : Type} {p : α → Prop} {x y : α} (h : p x) : p (if true = true then x else y) := h
theorem iteL {α : Type} {p : α → Prop} {x y : α} (h : p y) : p (if false = true then x else y) := h
theorem RepK.app {d : D} {v : V} {k : DK} (rv : Rep K T F m d v) : ∀ {ds : List (DK × D)} {vs : List (Key × V)}, RepK K T F m ds vs → RepK K T F m (ds ++ [(k, d)]) (vs ++ [(k.key, v)])
  | _, _, .nil => .cons rv .nil
  | _, _, .cons r rs => .cons r (RepK.app rv rs)
theorem key_dec {j k : DK} : decide (j.key = k.key) = eqDK j k := by
  rw [Bool.eq_iff_iff, decide_eq_true_iff, key_inj, eqDK_iff]
theorem hasK_V {k : DK} : ∀ {ds : List (DK × D)} {vs : List (Key × V)}, RepK K T F m ds vs → (vs.any fun kv => decide (kv.1 = k.key)) = hasK ds k
  | _, _, .nil => rfl
  | _, _, .cons (k := j) r rs => by
    rw [List.any_cons, hasK_V rs]
    show (decide (j.key = k.key) || _) = (match eqDK j k with | true => true | false => _)
    rw [key_dec]
    cases eqDK j k <;> rfl
theorem mapK_V {k : DK} {d : D} {v : V} (rv : Rep K T F m d v) : ∀ {ds : List (DK × D)} {vs : List (Key × V)}, RepK K T F m ds vs → RepK K T F m (mapK k d ds) (vs.map fun kv => if kv.1 = k.key then (kv.1, v) else kv)
  | _, _, .nil => .nil
  | _, _, .cons (k := j) (d := x) (v := u) (ds := ds) (vs := vs) r rs => by
    rw [List.map_cons]
    unfold mapK
    have e1 := key_dec (j := j) (k := k)
    cases q : eqDK j k with
    | true =>
      rw [q] at e1
      rw [if_pos (of_decide_eq_true e1)]
      exact .cons rv (mapK_V rv rs)
    | false =>
      rw [q] at e1
      rw [if_neg (of_decide_eq_false e1)]
      exact .cons r (mapK_V rv rs)
theorem putK_V {k : DK} {d : D} {v : V} (rv : Rep K T F m d v) {ds : List (DK × D)} {vs : List (Key × V)} (r : RepK K T F m ds vs) : RepK K T F m (putE ds k d) (putK vs k.key v) := by
  unfold putE putK
  rw [hasK_V r]
  cases hasK ds k with
  | true => exact iteR (p := fun w => RepK K T F m _ w) (mapK_V rv r)
  | false => exact iteL (p := fun w => RepK K T F m _ w) (RepK.app rv r)
theorem set_run {z : Zx} {mo mo' : MO} {i d : D} {iv v : V} {Q : Hp → Prop} (S : SimZ K z F m μ ρ σ H) (e : m[k]? = some a) (q : μ[k]? = some mo) (hs : setD mo i d = some mo') (ri : Rep K z.T F m i iv) (rv : Rep K z.T F m d v)
    (fin : ∀ H', Ext F m H F m H' → SimZ K z F m (μ.set k mo') ρ σ H' → Q H') : rSetA (.ref a) iv v H Q := by
  unfold setD at hs
  split at hs
  · split at hs
    · rename_i xs n _ j hj
      injection hs with hs
      subst hs
      cases ri
      obtain ⟨_, vs, h1, r⟩ := S.sto k a _ e q (fun z => nomatch z)
      obtain ⟨x1, S1⟩ := S.wr (u := .lst (vs.set j v)) (o' := .lst (xs.set j d)) e q (fun z => nomatch z) rfl ⟨_, upd_same, r.set rv j⟩
      exact .inl ⟨a, vs, _, j, rfl, rfl, h1, by rw [← r.length]; exact ixG_eq hj, fin _ x1 S1⟩
    · cases hs
  · split at hs
    · rename_i kk hk hl
      injection hs with hs
      subst hs
      obtain ⟨_, vs, h1, r⟩ := S.sto k a _ e q (fun z => nomatch z)
      have hkv := toK_V (H := H) (.of ri) hk
      subst hkv
      obtain ⟨x1, S1⟩ := S.wr (u := .dK (putK vs kk.key v)) (o' := .dct (putE _ kk d)) e q (fun z => nomatch z) rfl ⟨_, upd_same, putK_V rv r⟩
      have hl : vs.length < sizeLine := by
        rw [← r.length, sizeLine_eq]
        exact Nat.le_of_ble_eq_true hl
      exact .inr ⟨a, _, rfl, DPut.k h1 hl, fin _ x1 S1⟩
    · cases hs
  · cases hs
end

/-! ### targets that store -/
abbrev WG := D → Slots → Sto → (Slots → Sto → Prop) → QX → Prop
def tG2 (K : PySem.W.Frag) (z : Zx) (Wd : WXd) (w : WG) : TG := fun v σ H Q => ∃ F m μ ρ d Qd, SimZ K z F m μ ρ σ H ∧ Rep K z.T F m d v ∧ w d ρ μ Qd (fun x μ' => Wd x ρ μ') ∧
  ∀ F' m' μ' ρ' σ' H', Ext F m H F' m' H' → SimZ K z F' m' μ' ρ' σ' H' → Qd ρ' μ' → Q σ' H'
def tG2s (K : PySem.W.Frag) (z : Zx) (Wd : WXd) (w : List D → Slots → Sto → (Slots → Sto → Prop) → WXd → Prop) : TGs := fun vs σ H Q => ∃ F m μ ρ ds Qd, SimZ K z F m μ ρ σ H ∧ Reps K z.T F m ds vs ∧ w ds ρ μ Qd Wd ∧
  ∀ F' m' μ' ρ' σ' H', Ext F m H F' m' H' → SimZ K z F' m' μ' ρ' σ' H' → Qd ρ' μ' → Q σ' H'
def DG2 (X : Cx) (z : Zx) (tg : Expr) (w : WG) : Prop := ∀ Wd, Takes X (XW X.K z Wd) → PG X tg (tG2 X.K z Wd w)
def DG2s (X : Cx) (z : Zx) (es : List Expr) (w : List D → Slots → Sto → (Slots → Sto → Prop) → WXd → Prop) : Prop := ∀ Wd, Takes X (XW X.K z Wd) → PGs X es (tG2s X.K z Wd w)
def g2N (i : Nat) : WG := fun d ρ μ Q _ => Q (ρ.set i (some d)) μ
def g2S (wo wi : WE) : WG := fun d ρ μ Q E => wo ρ μ (fun x μ1 => wi ρ μ1 (fun i μ2 => match x with
  | .mref k => match μ2[k]? with
    | some mo => match setD mo i d with
      | some mo' => Q ρ (μ2.set k mo')
      | none => False
    | none => False
  | _ => False) E) E
def g2Nil : List D → Slots → Sto → (Slots → Sto → Prop) → WXd → Prop := fun ds ρ μ Q _ => match ds with
  | [] => Q ρ μ
  | _ => False
def g2Cons (w : WG) (r : List D → Slots → Sto → (Slots → Sto → Prop) → WXd → Prop) : List D → Slots → Sto → (Slots → Sto → Prop) → WXd → Prop := fun ds ρ μ Q E => match ds with
  | d :: ds => w d ρ μ (fun ρ1 μ1 => r ds ρ1 μ1 Q E) (fun x μ' => E x ρ μ')
  | [] => False
def g2T (n : Nat) (r : List D → Slots → Sto → (Slots → Sto → Prop) → WXd → Prop) (E : WXd) : D → Slots → Sto → (Slots → Sto → Prop) → Prop := fun d ρ μ Q => match d with
  | .tup ds => match Nat.beq ds.length n with
    | true => r ds ρ μ Q E
    | false => False
  | _ => False
section
variable {X : Cx} {z : Zx} {pos : Pos} {e o i tg : Expr} {es : List Expr} {w : WE} {wo wi : WE} {g : WG} {gs : List D → Slots → Sto → (Slots → Sto → Prop) → WXd → Prop}
theorem d2_name {j : Nat} {x : Str} (hN : X.N.Nodup) (hi : X.N[j]? = some x) (hx : Loc X.env.scope x) (hf : X.fn x = true ∨ X.env.scope.names.lookup x = some .local := by first | exact .inl rfl | exact .inr rfl | assumption) : DG2 X z (.Name x pos) (g2N j) := fun Wd tk =>
  pgI (pg_name hN hi hx hf) fun v σ H Q ⟨F, m, μ, ρ, d, Qd, S, r, h, k⟩ => k _ _ _ _ _ _ (Ext.refl _ _ _) (S.set r) h
theorem d2_sub (hu : X.A.units + 1 < cLine) (ho : DE X z o wo) (hi : DE X z i wi)
    (ha : ∀ v, assign (.Subscript o i pos) X.env v = (do
      let ov ← holding [v] (eval o X.env)
      let iv ← holding [v, ov] (eval i X.env)
      standAt pos
      holding [v, ov, iv] (setItem ov iv v)
      release [v, ov, iv] []) := by intro _; rfl) : DG2 X z (.Subscript o i pos) (g2S wo wi) := fun Wd tk =>
  pgI (pg_sub (ho Wd tk) (hi Wd tk) (set_all hu) ha) fun v σ H Q ⟨F, m, μ, ρ, d, Qd, S, r, h, k⟩ => ⟨F, m, μ, ρ, _, S, h, fun F1 m1 μ1 d1 v1 H1 x1 S1 r1 q1 => ⟨F1, m1, μ1, ρ, _, S1, q1, fun F2 m2 μ2 d2 v2 H2 x2 S2 r2 q2 => by
    split at q2
    · rename_i n
      split at q2
      · rename_i mo hmo
        split at q2
        · rename_i mo' hs
          have rn := r1.mono x2.gr
          cases rn with
          | mref e =>
            exact set_run S2 e hmo hs r2 (r.mono (x1.trans x2).gr) fun H' x3 S3 => k _ _ _ _ _ _ (x1.trans (x2.trans x3)) S3 q2
        · exact q2.elim
      · exact q2.elim
    · exact q2.elim⟩⟩
theorem d2s_nil : DG2s X z [] g2Nil := fun Wd tk => pgsI pgs_nil fun vs σ H Q ⟨F, m, μ, ρ, ds, Qd, S, r, h, k⟩ => by
  cases r with
  | nil => exact ⟨rfl, k _ _ _ _ _ _ (Ext.refl _ _ _) S h⟩
  | cons _ _ => exact h.elim
theorem d2s_cons (h1 : DG2 X z e g) (h2 : DG2s X z es gs) (hs : (assignEach (e :: es) X.env).map (·.2) = assign e X.env :: (assignEach es X.env).map (·.2) := by rfl) : DG2s X z (e :: es) (g2Cons g gs) := fun Wd tk =>
  pgsI (pgs_cons (h1 Wd tk) (h2 Wd tk) hs) fun vs σ H Q ⟨F, m, μ, ρ, ds, Qd, S, r, h, k⟩ => by
    cases r with
    | nil => exact h.elim
    | cons r rs =>
      exact ⟨_, _, rfl, F, m, μ, ρ, _, _, S, r, h, fun F1 m1 μ1 ρ1 σ1 H1 x1 S1 q1 => ⟨F1, m1, μ1, ρ1, _, _, S1, rs.mono x1.gr, q1, fun F2 m2 μ2 ρ2 σ2 H2 x2 => k _ _ _ _ _ _ (x1.trans x2)⟩⟩
/-- tg = e, tg a name, o[i], a tuple of such -/
def sAsg2 (w : WE) (g : WXd → D → Slots → Sto → (Slots → Sto → Prop) → Prop) : WS := fun De ρ μ => w ρ μ (fun d μ1 => g De.ex d ρ μ1 De.nx) (fun x μ' => De.ex x ρ μ')
theorem ds_asg2 (he : DE X z e w) (hg : DG2 X z tg g) (hs : swapsWithSole [tg] e pos.line X.env = pure false := by rfl) (hw : swappedStores [tg] e X.env = pure none := by rfl)
    (h1 : (assignEach [tg] X.env).map (·.2) = [assign tg X.env] := by rfl) : DS X z (.Assign [tg] e pos) (sAsg2 w fun E d ρ μ Q => g d ρ μ Q (fun x μ' => E x ρ μ')) := fun Wd tk => psI (ps_asg (he Wd tk) (hg Wd tk) hs hw h1) fun D σ H ⟨F, m, μ, ρ, De, S, h, ex, k⟩ => by
  subst ex
  exact ⟨F, m, μ, ρ, _, S, h, fun F1 m1 μ1 d1 v1 H1 x1 S1 r1 q1 => ⟨F1, m1, μ1, ρ, _, _, S1, r1, q1, fun F2 m2 μ2 ρ2 σ2 H2 x2 => k.nx _ _ _ _ _ _ (x1.trans x2)⟩⟩
theorem ds_asg2T {k n : Nat} {ps : Pos} (hc : X.calm = true) (he : DE X z e w) (hg : DG2s X z es gs) (hn : (assignEach es X.env).length = n := by rfl) (hst : (assignEach es X.env).findIdx? (·.1) = none := by rfl)
    (hs : swapsWithSole [.Tuple es k ps] e pos.line X.env = pure false := by rfl) (hw : swappedStores [.Tuple es k ps] e X.env = pure none := by rfl)
    (h1 : (assignEach [.Tuple es k ps] X.env).map (·.2) = [assign (.Tuple es k ps) X.env] := by rfl) : DS X z (.Assign [.Tuple es k ps] e pos) (sAsg2 w fun E => g2T n gs E) := fun Wd tk => psI (ps_asg (he Wd tk) (pg_tup hc (hg Wd tk) hn hst) hs hw h1) fun D σ H ⟨F, m, μ, ρ, De, S, h, ex, k⟩ => by
  subst ex
  refine ⟨F, m, μ, ρ, _, S, h, fun F1 m1 μ1 d1 v1 H1 x1 S1 r1 q1 => ?_⟩
  simp only [g2T] at q1
  split at q1
  · rename_i ds
    split at q1
    · rename_i hl
      cases r1 with
      | tup hq rs =>
        exact ⟨_, _, rfl, Same.sqt S1.same hq, by rw [← rs.length]; exact Nat.eq_of_beq_eq_true hl, F1, m1, μ1, ρ, ds, _, S1, rs, q1, fun F2 m2 μ2 ρ2 σ2 H2 x2 => k.nx _ _ _ _ _ _ (x1.trans x2)⟩
    · exact q1.elim
  · exact q1.elim

/-! ### augmented -/
theorem get_list : PGet X (fun x y H Q => ∃ p xs i v, x = .ref p ∧ y = .int i ∧ SqL X.K H p xs ∧ atI xs i = some v ∧ Q v H) := by
  intro pins s σ H x y v u Q I rx ry h
  obtain ⟨p, xs, i, z, rfl, rfl, hq, he, q⟩ := h
  cases rx
  obtain ⟨t, rfl⟩ := ry
  obtain ⟨its, r, pl, hz⟩ := I.list hq
  obtain ⟨j, h1, h2, h3, h4, h5⟩ := atI_get he
  obtain ⟨w, ew, rw'⟩ := r.get h2
  have hl := r.length
  have hn := line63
  have fin : EP X pins σ Q w s := ⟨z, H, I, rw', q⟩
  by_cases h0 : 0 ≤ i
  · have hj : i.toNat = j := by
      rw [seqIndex_of h0 h5] at h1
      exact Option.some.inj h1
    exact wpAny_getItem_list pl.isList h0 (by omega) (by rw [hj]; simpa using ew) fin
  · have hj : (i + (its.toArray.size : Int)).toNat = j := by
      rw [seqIndex_neg (by omega) h4] at h1
      rw [List.size_toArray, ← hl]
      exact Option.some.inj h1
    exact wpAny_getItem_list_neg pl.isList (by omega) (by rw [List.size_toArray] <;> omega) (by omega) (by rw [hj]; simpa using ew) fin
def rGetA (K : PySem.W.Frag) : V → V → Hp → VK → Prop := fun x y H Q => (∃ p xs i v, x = .ref p ∧ y = .int i ∧ SqL K H p xs ∧ atI xs i = some v ∧ Q v H) ∨ (∃ a v, x = .ref a ∧ DGet H a y (some v) ∧ Q v H)
theorem get_all (hu : X.A.units + 1 < cLine) : PGet X (rGetA X.K) := by
  intro pins s σ H x y v u Q I rx ry h
  rcases h with h | ⟨a, w, ex, g, q⟩
  · exact get_list pins s σ H x y v u Q I rx ry h
  · subst ex
    cases rx
    exact d_getItem hu I g ry fun w' s' I' r' => ⟨_, _, I', r', q⟩
/-- o[i] += e, ints -/
def getA : D → D → Option D
  | .lst xs, .int i => atG xs i
  | .dct kvs, i => match toK i with
    | some k => getK kvs k
    | none => none
  | _, _ => none
def sAugS (f : Int → Int → Int) (wo wi we : WE) : WS := fun De ρ μ => wo ρ μ (fun x μ1 => wi ρ μ1 (fun i μ2 => match getA (look μ2 x) i with
  | some (.int a) => we ρ μ2 (fun y μ3 => match y with
    | .int b => match x with
      | .mref k => match μ3[k]? with
        | some mo => match setD mo i (.int (f a b)) with
          | some mo' => De.nx ρ (μ3.set k mo')
          | none => False
        | none => False
      | _ => False
    | _ => False) (fun x μ' => De.ex x ρ μ')
  | _ => False) (fun x μ' => De.ex x ρ μ')) (fun x μ' => De.ex x ρ μ')
theorem get_run {K : PySem.W.Frag} {F : Hp} {m : List Addr} {μ : Sto} {ρ : Slots} {σ : L2.St} {H : Hp} {x i d : D} {v u : V} {Q : VK} (S : SimZ K z F m μ ρ σ H) (vx : Vw K z.T F m H x v) (ri : Rep K z.T F m i u) (h : getA x i = some d) (fin : ∀ w, Rep K z.T F m d w → Q w H) : rGetA K v u H Q := by
  unfold getA at h
  split at h
  · rename_i xs i
    cases ri
    obtain ⟨a, vs, rfl, h1, r⟩ := vx.list S.same
    have e1 := atG_eq h
    unfold atI at e1
    cases hj : ixN _ _ with
    | none => rw [hj] at e1; cases e1
    | some j =>
      rw [hj] at e1
      obtain ⟨w, h2, r2⟩ := r.get e1
      have e2 : atI vs i = some w := by
        unfold atI
        rw [← r.length, hj]
        exact h2
      exact .inl ⟨a, vs, _, w, rfl, rfl, SqL.of h1, e2, fin w r2⟩
  · split at h
    · rename_i kk hk
      obtain ⟨a, vs, rfl, h1, r⟩ := vx.dict S.same
      have hkv := toK_V (H := H) (.of ri) hk
      subst hkv
      obtain ⟨w, h2, r2⟩ := (getK_V r).1 d h
      exact .inr ⟨a, w, rfl, .inl ⟨vs, kk.key, h1, rfl, h2.symm⟩, fin w r2⟩
    · cases h
  · cases h
theorem ds_augS {op : Operator} {f : Int → Int → Int} {tpos : Pos} (hu : X.A.units + 1 < cLine) (hp : PIp X op (ipI f)) (ho : DE X z o wo) (hi : DE X z i wi) (he : DE X z e w)
    (ha : ∀ ov iv new, augStore i ov iv new = (do holding [new, ov, iv] (setItem ov iv new); release [new, ov, iv] []; pure .next) := by intros; rfl) : DS X z (.AugAssign (.Subscript o i tpos) op e pos) (sAugS f wo wi w) := fun Wd tk =>
  psI (ps_augS (ho Wd tk) (hi Wd tk) (get_all hu) (he Wd tk) hp (set_all hu) ha) fun D σ H ⟨F, m, μ, ρ, De, S, h, ex, k⟩ => by
    subst ex
    refine ⟨F, m, μ, ρ, _, S, h, fun F1 m1 μ1 d1 v1 H1 x1 S1 r1 q1 => ⟨F1, m1, μ1, ρ, _, S1, q1, fun F2 m2 μ2 d2 v2 H2 x2 S2 r2 q2 => ?_⟩⟩
    split at q2
    · rename_i a hg
      refine get_run S2 (S2.view (r1.mono x2.gr)) r2 hg fun w rw => ?_
      cases rw
      refine ⟨F2, m2, μ2, ρ, _, S2, q2, fun F3 m3 μ3 d3 v3 H3 x3 S3 r3 q3 => ?_⟩
      split at q3
      · rename_i b
        cases r3
        split at q3
        · rename_i n
          split at q3
          · rename_i mo hmo
            split at q3
            · rename_i mo' hs
              have rn := r1.mono (x2.trans x3).gr
              cases rn with
              | mref e =>
                exact ⟨a, b, rfl, rfl, set_run S3 e hmo hs (r2.mono x3.gr) .int fun H' x4 S4 => k.nx _ _ _ _ _ _ (x1.trans (x2.trans (x3.trans x4))) S4 q3⟩
            · exact q3.elim
          · exact q3.elim
        · exact q3.elim
      · exact q3.elim
    · exact q2.elim
/-- x += e, ints -/
def sAug (f : Int → Int → Int) (i : Nat) (w : WE) : WS := fun De ρ μ => match ρ[i]? with
  | some (some (.int a)) => w ρ μ (fun y μ1 => match y with
    | .int b => De.nx (ρ.set i (some (.int (f a b)))) μ1
    | _ => False) (fun x μ' => De.ex x ρ μ')
  | _ => False
theorem ds_aug {op : Operator} {f : Int → Int → Int} {j : Nat} {x : Str} {pos' : Pos} (hN : X.N.Nodup) (hi : X.N[j]? = some x) (hx : Loc X.env.scope x) (hp : PIp X op (ipI f)) (he : DE X z e w) (hf : X.fn x = true ∨ X.env.scope.names.lookup x = some .local := by first | exact .inl rfl | exact .inr rfl | assumption) :
    DS X z (.AugAssign (.Name x pos') op e pos) (sAug f j w) := fun Wd tk => psI (ps_aug hN hi hx (he Wd tk) hp hf) fun D σ H ⟨F, m, μ, ρ, De, S, h, ex, k⟩ => by
  subst ex
  unfold sAug at h
  split at h
  · rename_i a ha
    obtain ⟨v, h1, h2⟩ := S.slot j _ ha
    cases h2
    refine ⟨_, h1, F, m, μ, ρ, _, S, h, fun F1 m1 μ1 d1 v1 H1 x1 S1 r1 q1 => ?_⟩
    split at q1
    · cases r1
      exact ⟨_, _, rfl, rfl, k.nx _ _ _ _ _ _ x1 (S1.set .int) q1⟩
    · exact q1.elim
  · exact h.elim

/-! ### while -/
def whW (t : WT) (wb : WS) : Nat → WS
  | 0, _, _, _ => False
  | n + 1, De, ρ, μ => t ρ μ (fun b μ1 => match b with
    | true => wb ⟨fun ρ2 μ2 => whW t wb n De ρ2 μ2, De.rt, De.nx, fun ρ2 μ2 => whW t wb n De ρ2 μ2, De.ex⟩ ρ μ1
    | false => De.nx ρ μ1) (fun x μ' => De.ex x ρ μ')
def sWhile (n : Nat) (t : WT) (wb : WS) : WS := whW t wb n
theorem ds_while {c : Expr} {body : List Stmt} {t : WT} {wb : WS} (n : Nat) (hp : PassesOwn (model X.prog X.w) X.A X.env X.xe) (hc : DT X z c t) (hb : DSs X z body wb) : DS X z (.While c body [] pos) (sWhile n t wb) := fun Wd tk =>
  psI (ps_while hp (hc Wd tk) (hb Wd tk)) fun D σ H ⟨F, m, μ, ρ, De, S, h, ex, k⟩ => by
    subst ex
    refine ⟨fun mm σ1 H1 => ∃ F1 m1 μ1 ρ1, Ext F m H F1 m1 H1 ∧ SimZ X.K z F1 m1 μ1 ρ1 σ1 H1 ∧ whW t wb mm De ρ1 μ1, ⟨n, F, m, μ, ρ, Ext.refl _ _ _, S, h⟩, fun mm σ1 H1 ⟨F1, m1, μ1, ρ1, x1, S1, q1⟩ => ?_⟩
    cases mm with
    | zero => exact q1.elim
    | succ mm =>
      refine ⟨F1, m1, μ1, ρ1, _, S1, q1, fun F2 m2 μ2 b H2 x2 S2 q2 => ?_⟩
      have x12 := x1.trans x2
      cases b with
      | false => exact iteN (k.nx _ _ _ _ _ _ x12 S2 q2)
      | true =>
        refine iteY ⟨fun σ' H' => ∃ F1 m1 μ1 ρ1, Ext F m H F1 m1 H' ∧ SimZ X.K z F1 m1 μ1 ρ1 σ' H' ∧ whW t wb mm De ρ1 μ1, fun σ' H' h => ⟨mm, Nat.lt_succ_self _, h⟩, F2, m2, μ2, ρ1, _, S2, q2, rfl, ?_⟩
        exact ⟨fun F4 m4 μ4 ρ4 σ4 H4 x4 S4 q4 => ⟨F4, m4, μ4, ρ4, x12.trans x4, S4, q4⟩, fun F4 m4 μ4 ρ4 σ4 d4 v4 H4 x4 => k.rt _ _ _ _ _ _ _ _ (x12.trans x4),
          fun F4 m4 μ4 ρ4 σ4 H4 x4 => k.nx _ _ _ _ _ _ (x12.trans x4), fun F4 m4 μ4 ρ4 σ4 H4 x4 S4 q4 => ⟨F4, m4, μ4, ρ4, x12.trans x4, S4, q4⟩⟩
end
end Pk

/-! The data layer, part N0: promises of defs that are called where no repr is under way. -/
namespace Pk
open PySem PySem.Spec PyProof.Rows L2
/-- room, and no guard on the stack -/
structure Room (k : Nat) (A : Around) : Prop extends L2.Room k A where
  g : A.guards = some []
section
variable {j k : Nat} {A : Around}
theorem Room.mono (h : Room k A) (l : j ≤ k) : Room j A := ⟨h.toRoom.mono l, h.g⟩
theorem Room.deeper (h : Room (k + 1) A) (env : Env) : Room k (A.deeper env) := ⟨h.toRoom.deeper env, h.g⟩
theorem Room.make (h : Room (k + 1) A) (C : Addr) (us : List Value) (kw : List (Str × Value)) : Room k (A.under (.builtin "type.__call__" ⟨.ref C :: us, kw⟩)) := ⟨h.toRoom.make C us kw, h.g⟩
theorem Room.in1 (h : Room (k + 1) A) : Room k A.in1 := ⟨h.toRoom.in1, h.g⟩
end
/-- the promise of a def, over such callers -/
structure FnOk (P : Program) (w : World) (K : PySem.W.Frag) (mg : Str → Option Value) (base : Heap) (CX : CXT) (k : Nat) (f : Addr) (fd : FuncData) (ps : List Str) (sp : Sp) : Prop where
  len : ∀ ys G Qv Ev, sp ys G Qv Ev → ys.length = ps.length
  run : ∀ (A : Around) (os : List Env) (t : Shared) (G : Hp) (ag : Args) (us : List Value) (ys : List V) (Qv : VK) (Ev : XK), Room k A → Env0 P w K mg base A os t G → BindsTo t fd ag (ps.zip us) → Vals ys us → sp ys G Qv Ev →
    codeAny (model P w) A (.call (.ref f) ag) (CR CX os P w G t Qv Ev) t
theorem FnOk.imp {P : Program} {w : World} {K : PySem.W.Frag} {mg : Str → Option Value} {base : Heap} {CX : CXT} {k : Nat} {f : Addr} {fd : FuncData} {ps : List Str} {sp sq : Sp} (Fo : FnOk P w K mg base CX k f fd ps sp) (h : ∀ ys G Qv Ev, sq ys G Qv Ev → sp ys G Qv Ev) : FnOk P w K mg base CX k f fd ps sq where
  len := fun ys G Qv Ev z => Fo.len ys G Qv Ev (h _ _ _ _ z)
  run := fun A os t G ag us ys Qv Ev rm e0 bd vl z => Fo.run A os t G ag us ys Qv Ev rm e0 bd vl (h _ _ _ _ z)
/-- from the body's walk -/
theorem fn_ofG {CX : CXT} {P : Program} {w : World} {K : PySem.W.Frag} {mg : Str → Option Value} {base : Heap} {k : Nat} {f : Addr} {name qual : Str} {params : Arguments} {body : List Stmt} {scope : Scope} {dV kV doc pm cdv ct oc : Value} {an od : Option Addr}
    {osl : Array (Option Value)} {N ps : List Str} {sp : Sp} (look : K.lookup f = some ⟨oc, od, .func (PySem.W.fnOf name qual params body scope dV kV doc pm an cdv ct), osl⟩) (code : PySem.W.codeIn K cdv qual = true) (S : FnScope N ps scope)
    (len : ∀ ys G Qv Ev, sp ys G Qv Ev → ys.length = ps.length)
    (walk : ∀ (A : Around) (os : List Env) (t : Shared) (G : Hp) (ys : List V) (Qv : VK) (Ev : XK), Room k (A.deeper (envOfC qual scope t.heap.objs.size f cdv)) → sp ys G Qv Ev →
      ∃ tb, PSs (cxOf CX P w K mg base N qual scope f cdv A os t G Ev) body tb ∧ tb { nx := fun _ G' => Qv .non G', rt := Qv } (start N ys) G) :
    FnOk P w K mg base CX (k + 1) f (PySem.W.fnOf name qual params body scope dV kV doc pm an cdv ct) ps sp where
  len := len
  run := by
    intro A os t G ag us ys Qv Ev rm e0 bd vl z
    have nl := len _ _ _ _ z
    have inK : K.In t.heap := e0.mod.kin.keeps fun b o eb => (e0.bs b o eb).1
    have noLim : t.heap.NoLimit := e0.mod.nolimit.keeps fun b o eb => (e0.bs b o eb).1
    have kinds : ∀ y ∈ ps.zip us, scope.names.lookup y.1 = some .local ∨ (scope.names.lookup y.1 = some .cell ∧ ((cellsFrom (t.heap.objs.size + 1) scope.names []).lookup y.1).isSome = true) := by
      rintro ⟨nm, v⟩ hy
      exact (S.par nm (List.of_mem_zip hy).1).imp id fun q => ⟨q, PySem.W.cellsFrom_some _ _ _ (.inl q)⟩
    refine codeAny_call_function rm.depth (inK _ _ look) rfl S.co S.gen rfl (PySem.W.codeRec_of inK code) (bd _ _ _ _ (wpAny_newFunctionEnv_cells S.kind kinds fun env he t1 x => ?_))
    subst he
    refine ⟨noLim.keeps x.toInCall.keep, codeAny_func ?_⟩
    obtain ⟨tb, ps1, q⟩ := walk A os t G ys Qv Ev (rm.deeper _) z
    have I0 : Inv (cxOf CX P w K mg base N qual scope f cdv A os t G Ev) [] (start N ys) G t1 := inv_start S rm.hd e0 nl vl x
    refine wpAny_mono (ps1.run [] t1 (start N ys) G _ I0 q) (fun fl t2 => ?_) fun _ _ e => e
    match fl with
    | .ret u => exact fun ⟨v, _, G', J, rv, q⟩ => ⟨v, G', J.os, J.bare, J.base, J.hok, rv, q⟩
    | .next => exact fun ⟨_, G', J, q⟩ => ⟨.non, G', J.os, J.bare, J.base, J.hok, rfl, q⟩
    | .brk => exact fun ⟨_, _, _, q⟩ => q.elim
    | .cont => exact fun ⟨_, _, _, q⟩ => q.elim
section
variable {X : Cx} {CX : CXT} {k : Nat} {f C p0 g a dx : Addr} {fd : FuncData} {ps : List Str} {sp : Sp} {dvs : List V} {ds : List Value} {E : L2.St → XK} {x : Str} {p pos : Pos} {e : Expr} {es : List Expr} {t : TA} {ta : TE} {fs : List (Str × V)}
theorem run_fnSD {pins : List (Addr × Obj)} {σ : L2.St} {H : Hp} {s : Shared} {Q : VK} {us : List Value} {vs : List V} (Fo : FnOk X.prog X.w X.K X.mg X.base CX k f fd ps sp) (rm : Room k X.A) (bd : Binds X.K fd ps ds) (hd : Vals dvs ds) (px : PassesAt CX X σ (E σ))
    (I : Inv X pins σ H s) (rv : Vals vs us) (z : sp (vs ++ dvs) H Q (E σ)) : wpAny (model X.prog X.w) X.A (call (.ref f) us) (EP X pins σ Q) X.xe s := by
  have all := rv.append hd
  have go := Fo.run X.A X.stack s H ⟨us, []⟩ (us ++ ds) (vs ++ dvs) Q (E σ) rm I.env0 (bd s us I.kIn (all.length.symm.trans (Fo.len _ _ _ _ z))) all z
  refine wpAny_call (codeAny_mono go fun r t2 => ?_)
  match r with
  | .error er => exact fun q => px pins H s er t2 I q
  | .ok (.ret u) => exact fun q => I.after q
  | .ok .next => exact fun q => q.elim
  | .ok .brk => exact fun q => q.elim
  | .ok .cont => exact fun q => q.elim
theorem pe_callSD (Fo : FnOk X.prog X.w X.K X.mg X.base CX k f fd ps sp) (rm : Room k X.A) (gl : Gl X x) (hm : X.mg x = some (.ref f)) (kp : PySem.W.keepIn X.K (.ref f) = true) (bd : Binds X.K fd ps ds) (hd : Vals dvs ds) (px : ∀ σ, PassesAt CX X σ (E σ))
    (ha : PA X (e :: es) t) (hdb : (x == ("__debug__" : Str)) = false := by decide) (he : starEach (e :: es) X.env = (false, eval e X.env) :: starEach es X.env := by rfl) (hpl : (backTo pos (starEach es X.env)).any (·.1) = false := by rfl) :
    PE X (.Call (.Name x p) (e :: es) [] pos) (tCallSD sp dvs E t) where
  run := fun pins s σ H Q I h => wpAny_Call_Name_kw (ld_glob I gl hm (PySem.W.callWith_K (h₀ := X.base) I.ok.mod.kin kp
    (thn (ha.run pos pins s σ H _ I h) fun us s1 ⟨vs, H1, I1, r, q⟩ => ⟨I1.kIn, run_fnSD Fo rm bd hd (px σ) I1 r q⟩) he hpl) hdb)
/-- o.f, a property's getter -/
theorem getpropG {pins : List (Addr × Obj)} {σ : L2.St} {H : Hp} {s : Shared} {Q : VK} {b : Bool} {E' : Value → Shared → Prop} {E : XK} {m : Str} (I : Inv X pins σ H s) (ea : H a = some (.ins C dx fs)) (c : Cls X.K C) (hp : PropOf X.K C m p0 g)
    (Fo : FnOk X.prog X.w X.K X.mg X.base CX k g fd ps sp) (rm : Room (k + 1) X.A) (bd : Binds X.K fd ps ds) (hd : Vals dvs ds) (px : Passes CX X.nox E) (z : sp (.ref a :: dvs) H Q E) :
    wpAny (model X.prog X.w) X.A (getAttr (.ref a) m b) (EP X pins σ Q) E' s := by
  obtain ⟨mA, O, -⟩ := ins_get I.hok ea
  obtain ⟨od, J, -⟩ := O.look
  obtain ⟨rest, hrec⟩ := hp.rec_
  have It := I.tok (s.toks + 1)
  have nl : ([Value.ref a] ++ ds).length = ps.length := by
    rw [← Fo.len _ _ _ _ z, List.length_cons, hd.length]
    rfl
  have cl : (PySem.W.clsIn X.K C).isSome = true := by
    obtain ⟨cd, e1, -⟩ := PySem.W.any_some c.hd
    exact e1 ▸ rfl
  have go := Fo.run X.A.in1 X.stack { s with toks := s.toks + 1 } H ⟨[.ref a], []⟩ (.ref a :: ds) (.ref a :: dvs) Q E rm.in1 It.env0.in1 (bd _ [.ref a] It.kIn nl) (.cons rfl hd) z
  refine PySem.W.get_bind I.kIn J (PySem.W.plainGet_of (c.get m)).1 (PySem.W.findObj_data cl hp.at_ hp.get hp.tak) (PySem.W.plainGet_of (c.get m)).2 (wpAny_call (PySem.W.prop_get (s := { s with toks := s.toks + 1 }) I.kIn hrec (codeAny_mono go fun r t2 => ?_)))
  match r with
  | .error er => exact fun q => (px pins σ H { s with toks := s.toks + 1 } er t2 (It.wish _) q).elim
  | .ok (.ret u) =>
    intro q
    obtain ⟨v, G, I3, rv, q3⟩ := It.after q
    show wpAny _ _ (handedOut u) _ _ _
    rw [PySem.W.handedOut_of (handed_of rv)]
    exact wpAny_pure ⟨v, G, I3, rv, q3⟩
  | .ok .next => exact fun q => q.elim
  | .ok .brk => exact fun q => q.elim
  | .ok .cont => exact fun q => q.elim
theorem pe_prop {E : XK} {m : Str} (he : PE X e ta) (c : Cls X.K C) (hp : PropOf X.K C m p0 g) (Fo : FnOk X.prog X.w X.K X.mg X.base CX k g fd ps sp) (rm : Room (k + 1) X.A) (bd : Binds X.K fd ps ds) (hd : Vals dvs ds) (px : Passes CX X.nox E)
    (hab : attributeBase e m X.env (eval e X.env) = eval e X.env) : PE X (.Attribute e m pos) (tProp C sp dvs E ta) where
  run := fun pins s σ H Q I h => attr_of hab (thn (he.run pins s σ H _ I h) fun u s1 ⟨y, H1, I1, ry, a, dx, fs, ey, ea, q⟩ => by
    subst ey
    cases ry
    exact getpropG I1 ea c hp Fo rm bd hd px q)
/-- a classmethod's record is called -/
theorem run_cmG {pins : List (Addr × Obj)} {σ : L2.St} {H : Hp} {s : Shared} {Q : VK} {q : Addr} {us : List Value} {vs : List V} (Fo : FnOk X.prog X.w X.K X.mg X.base CX k g fd ps sp) (rm : Room k X.A) (bd : Binds X.K fd ps ds) (hd : Vals dvs ds) (px : PassesAt CX X σ (E σ))
    (I : Inv X ((q, PySem.W.methodObj (.ref g) (.ref C)) :: pins) σ H s) (rv : Vals vs us) (z : sp (.ref C :: vs ++ dvs) H Q (E σ)) : wpAny (model X.prog X.w) X.A (call (.ref q) us) (EP X pins σ Q) X.xe s := by
  have all : Vals (.ref C :: vs ++ dvs) (.ref C :: us ++ ds) := Vals.append (.cons rfl rv) hd
  have go := Fo.run X.A X.stack s H ⟨.ref C :: us, []⟩ (.ref C :: us ++ ds) (.ref C :: vs ++ dvs) Q (E σ) rm I.env0 (bd s (.ref C :: us) I.kIn (all.length.symm.trans (Fo.len _ _ _ _ z))) all z
  refine thn (Q := EP X ((q, PySem.W.methodObj (.ref g) (.ref C)) :: pins) σ Q) (wpAny_call (PySem.W.method_call (ClX.pin_at I) (codeAny_mono go fun r t2 => ?_))) fun _ _ y => ClX.unpinE y
  match r with
  | .error er => exact fun q => px _ H s er t2 I q
  | .ok (.ret u) => exact fun q => I.after q
  | .ok .next => exact fun q => q.elim
  | .ok .brk => exact fun q => q.elim
  | .ok .cont => exact fun q => q.elim
/-- C.m(..), a classmethod -/
theorem pe_cmG {o : Expr} {apos : Pos} {m : Str} {mc : Value} {pl : Sem Bool} (ho : PE X o ta) (r : ClX.CRead X.K C mc) (c : ClX.CMet X.K C mc m p0 g) (Fo : FnOk X.prog X.w X.K X.mg X.base CX k g fd ps sp) (rm : Room k X.A) (bd : Binds X.K fd ps ds) (hd : Vals dvs ds)
    (px : ∀ σ, PassesAt CX X σ (E σ)) (ha : PA X (e :: es) t)
    (hst : starEach (e :: es) X.env = (false, eval e X.env) :: starEach es X.env) (hpl : (backTo pos (starEach es X.env)).any (·.1) = false)
    (ht : eval (.Call (.Attribute o m apos) (e :: es) [] pos) X.env = (eval o X.env >>= fun ov => standAt apos.atName >>= fun _ => holding [ov] (getMethod ov m pl) >>= fun r => callWith pos r.1 r.2 (backTo pos (starEach (e :: es) X.env)) (backToKw pos (keywordEach [] X.env)))) :
    PE X (.Call (.Attribute o m apos) (e :: es) [] pos) (fun σ H Q => ta σ H fun x H1 => x = .ref C ∧ t σ H1 fun ws H2 => sp (.ref C :: ws ++ dvs) H2 Q (E σ)) := by
  refine ⟨fun pins s σ H Q I h => PySem.W.methodCall_KW (pl := pl) (thn (ho.run pins s σ H _ I h) fun u s1 ⟨x, H1, I1, rx, ex, q⟩ => ?_) ht⟩
  subst ex
  cases (show u = Value.ref C from rx)
  exact ClX.getmethcm_ok I1 r c fun s2 I2 => ClX.callwith_cm I2 (ClX.base_none I1 (Nat.le_refl _)) c.fi (thn (ha.run pos _ s2 σ H1 _ I2 q) fun us s3 ⟨vs, H2, I3, rv, q2⟩ => ⟨⟨ClX.pin_at I3, I3.kIn⟩, run_cmG Fo rm bd hd (px σ) I3 rv q2⟩) hst hpl
end
/-- the def's facts give its promise -/
theorem okG {P : Program} {w : World} {K : PySem.W.Frag} {mg : Str → Option Value} {base : Heap} {x qual : Str} {params : Arguments} {body : List Stmt} {scope : Scope} {dvs : List V} {kws : List (Str × V)} {f : Addr} {fd : FuncData} {CX : CXT} {N ps : List Str} {k : Nat} {sp : Sp}
    (F : FunD K x qual params body scope dvs kws f fd) (S : FnScope N ps scope) (len : ∀ ys G Qv Ev, sp ys G Qv Ev → ys.length = ps.length)
    (walk : ∀ (cdv : Value) (A : Around) (os : List Env) (t : Shared) (G : Hp) (ys : List V) (Qv : VK) (Ev : XK), Room k (A.deeper (envOfC qual scope t.heap.objs.size f cdv)) → sp ys G Qv Ev →
      ∃ tb, PSs (cxOf CX P w K mg base N qual scope f cdv A os t G Ev) body tb ∧ tb { nx := fun _ G' => Qv .non G', rt := Qv } (start N ys) G) : FnOk P w K mg base CX (k + 1) f fd ps sp := by
  obtain ⟨_, _, _, _, _, _, _, cd, _, _, rfl, look, code, _, _⟩ := F.ex
  exact fn_ofG look code S len (walk cd)
end Pk

/-! The data layer, part N1: promises of defs, calls. -/
namespace Pk
open PySem PySem.Spec PyProof.Rows L2

abbrev Con := List D → Sto → QD → QX → Prop
/-- the promise of a def whose contract is c, over the values -/
def spD (K : PySem.W.Frag) (T : Tab) (c : Con) (n : Nat) : Sp := fun vs H Q E => ∃ F m μ ds Qd Qx, Sim K T F m H F m μ [] [] H ∧ Reps K T F m ds vs ∧ ds.length = n ∧ c ds μ Qd Qx ∧
  (∀ F' m' μ' d v H', Ext F m H F' m' H' → Sim K T F m H F' m' μ' [] [] H' → Rep K T F' m' d v → Qd d μ' → Q v H') ∧
  (∀ F' m' μ' x cls d H', Ext F m H F' m' H' → Sim K T F m H F' m' μ' [] [] H' → XRep K T F' m' H' x cls d → Qx x μ' → E cls d H')
section
variable {K : PySem.W.Frag} {T : Tab} {F0 F F' H0 : Hp} {m0 m m' : List Addr} {μ μ' : Sto} {ρ : Slots} {σ : L2.St} {H H' : Hp}
theorem Sim.entry (S : Sim K T F0 m0 H0 F m μ ρ σ H) : Sim K T F m H F m μ [] [] H :=
  ⟨Ext.refl _ _ _, S.same, S.len, S.nd, S.al, S.sto, rfl, fun i d e => by simp at e⟩
theorem Sim.back (S : Sim K T F0 m0 H0 F m μ ρ σ H) (x : Ext F m H F' m' H') (B : Sim K T F m H F' m' μ' [] [] H') : Sim K T F0 m0 H0 F' m' μ' ρ σ H' :=
  ⟨S.ext.trans x, B.same, B.len, B.nd, B.al, B.sto, S.sl, fun i d e => by
    obtain ⟨v, h1, h2⟩ := S.slot i d e
    exact ⟨v, h1, h2.mono x.gr⟩⟩
theorem Sim.bare (S : Sim K T F0 m0 H0 F m μ ρ σ H) : Sim K T F0 m0 H0 F m μ [] [] H := S.slots rfl fun i d e => by simp at e
end
def startD (N : Nat) (ds : List D) : Slots := ds.map some ++ List.replicate (N - ds.length) none
def conB (N n : Nat) (w : WS) : Con := fun ds μ Q E => match Nat.beq ds.length n with
  | true => w ⟨fun _ μ' => Q .non μ', Q, fun _ _ => False, fun _ _ => False, fun x _ μ' => E x μ'⟩ (startD N ds) μ
  | false => False
theorem start_slot {K : PySem.W.Frag} {T : Tab} {F : Hp} {m : List Addr} {N : List Str} {ds : List D} {vs : List V} (r : Reps K T F m ds vs) : (startD N.length ds).length = (start N vs).length ∧ ∀ (i : Nat) (d : D), (startD N.length ds)[i]? = some (some d) → ∃ v, (start N vs)[i]? = some (some v) ∧ Rep K T F m d v := by
  have hl := r.length
  refine ⟨by simp [startD, L2.start, hl], fun i d e => ?_⟩
  unfold startD at e
  by_cases hi : i < ds.length
  · rw [List.getElem?_append_left (by simpa using hi), List.getElem?_map] at e
    cases q : ds[i]? with
    | none => rw [q] at e; cases e
    | some d' =>
      rw [q] at e
      injection e with e
      injection e with e
      subst e
      obtain ⟨v, h1, h2⟩ := r.get q
      refine ⟨v, ?_, h2⟩
      unfold L2.start
      rw [List.getElem?_append_left (by simpa using (by omega : i < vs.length)), List.getElem?_map, h1]
      rfl
  · rw [List.getElem?_append_right (by simpa using hi), List.getElem?_replicate] at e
    split at e <;> cases e
/-- what a def's facts give -/
abbrev FnC (P : Program) (w0 : World) (K : PySem.W.Frag) (mg : Str → Option Value) (base : Heap) (T : Tab) (k : Nat) (f : Addr) (fd : FuncData) (ps : List Str) (c : Con) : Prop := FnOk P w0 K mg base (L2.CX P w0) k f fd ps (spD K T c ps.length)
section
variable {P : Program} {w0 : World} {K : PySem.W.Frag} {mg : Str → Option Value} {base : Heap} {T : Tab} {x qual : Str} {params : Arguments} {body : List Stmt} {scope : Scope} {dvs : List V} {kws : List (Str × V)} {f : Addr} {fd : FuncData} {N ps : List Str} {k : Nat}
theorem fn_con {w : WS} (Fd : FunD K x qual params body scope dvs kws f fd) (S : FnScope N ps scope)
    (hb : ∀ (cdv : Value) (A : Around) (outer : List Env) (s : Shared) (H : Hp) (E : XK) (F0 : Hp) (m0 : List Addr) (H0 : Hp), Room k (A.deeper (envOfC qual scope s.heap.objs.size f cdv)) →
      DSs (cxOf (L2.CX P w0) P w0 K mg base N qual scope f cdv A outer s H E) ⟨T, F0, m0, H0⟩ body w) : FnC P w0 K mg base T (k + 1) f fd ps (conB N.length ps.length w) := by
  refine okG Fd S (fun vs H Q E h => ?_) (fun cdv A outer s H vs Q E hr h => ?_)
  · obtain ⟨F, m, μ, ds, Qd, Qx, _, r, hl, _⟩ := h
    rw [← r.length]
    exact hl
  · obtain ⟨F, m, μ, ds, Qd, Qx, S0, r, hl, hc, kd, kx⟩ := h
    have hs := start_slot (N := N) r
    have hc' : w ⟨fun _ μ' => Qd .non μ', Qd, fun _ _ => False, fun _ _ => False, fun x _ μ' => Qx x μ'⟩ (startD N.length ds) μ := by
      unfold conB at hc
      have : Nat.beq ds.length ps.length = true := by rw [hl]; exact Nat.beq_refl _
      rw [this] at hc
      exact hc
    have tk : Takes (cxOf (L2.CX P w0) P w0 K mg base N qual scope f cdv A outer s H E) (XW K ⟨T, F, m, H⟩ fun x _ μ' => Qx x μ') :=
      (takes_of (X := cxOf (L2.CX P w0) P w0 K mg base N qual scope f cdv A outer s H E) rfl rfl rfl rfl).imp fun cls d σ H' ⟨F', m', μ', ρ, x, S', xr, q⟩ => kx F' m' μ' x cls d H' S'.ext S'.bare xr q
    exact ⟨_, hb cdv A outer s H E F m H hr _ tk, F, m, μ, startD N.length ds, _, S0.slots hs.1 hs.2, hc', rfl,
      ⟨fun F' m' μ' ρ' σ' H' x S' q => kd _ _ _ _ _ _ x S'.bare .non q, fun F' m' μ' ρ' σ' d v H' x S' r q => kd _ _ _ _ _ _ x S'.bare r q, fun _ _ _ _ _ _ _ _ q => q.elim, fun _ _ _ _ _ _ _ _ q => q.elim⟩⟩
end

/-! ### calls -/
def wCall (c : Con) (wa : WA) : WE := fun ρ μ Q E => wa ρ μ (fun ds μ1 => c ds μ1 Q E) E
/-- .. with the defaults behind -/
def wCallD (c : Con) (dds : List D) (wa : WA) : WE := fun ρ μ Q E => wa ρ μ (fun ds μ1 => c (ds ++ dds) μ1 Q E) E
/-- no exception leaves -/
def nox : QX := fun _ _ => False
section
variable {X : Cx} {z : Zx} {k n : Nat} {f : Addr} {fd : FuncData} {ps : List Str} {c : Con} {x : Str} {p pos : Pos} {e : Expr} {es : List Expr} {wa : WA} {dvs : List V} {ds0 : List Value} {dds : List D}
/-- the promise, from a state of the caller -/
theorem sp_run {F : Hp} {m : List Addr} {μ : Sto} {ρ : Slots} {σ : L2.St} {H : Hp} {Qd : QD} {Qx : QX} {Q : VK} {E : XK} {ds : List D} {vs : List V} (S : SimZ X.K z F m μ ρ σ H) (r : Reps X.K z.T F m ds vs) (hl : ds.length = n) (hc : c ds μ Qd Qx) (k : Fin X.K z F m H ρ σ Qd Q)
    (kx : ∀ F' m' μ' x cls d H', Ext F m H F' m' H' → SimZ X.K z F' m' μ' ρ σ H' → XRep X.K z.T F' m' H' x cls d → Qx x μ' → E cls d H') : spD X.K z.T c n vs H Q E :=
  ⟨F, m, μ, ds, Qd, Qx, S.entry, r, hl, hc, fun F' m' μ' d v H' x1 B r1 q => k F' m' μ' d v H' x1 (S.back x1 B) r1 q, fun F' m' μ' x cls d H' x1 B xr q => kx F' m' μ' x cls d H' x1 (S.back x1 B) xr q⟩
def wCallN (c : Con) (n : Nat) (dds : List D) (wa : WA) : WE := fun ρ μ Q E => wa ρ μ (fun ds μ1 => match Nat.beq (ds ++ dds).length n with
  | true => c (ds ++ dds) μ1 Q E
  | false => False) E
theorem de_call (Fc : FnC X.prog X.w X.K X.mg X.base z.T k f fd ps c) (hr : Room k X.A) (hg : Gl X x) (hm : X.mg x = some (.ref f)) (hk : PySem.W.keepIn X.K (.ref f) = true) (hb : Binds X.K fd ps ds0) (hd : Vals dvs ds0) (hdd : ∀ F m, Reps X.K z.T F m dds dvs)
    (ha : DA X z (e :: es) wa) (hdb : (x == ("__debug__" : Str)) = false := by decide) (he : starEach (e :: es) X.env = (false, eval e X.env) :: starEach es X.env := by rfl) (hpl : (backTo pos (starEach es X.env)).any (·.1) = false := by rfl) :
    DE X z (.Call (.Name x p) (e :: es) [] pos) (wCallN c ps.length dds wa) := fun Wd tk =>
  peI (pe_callSD (E := fun σ cls d H => XW X.K z Wd cls d σ H) Fc hr hg hm hk hb hd (fun σ => passAt tk σ) (ha Wd tk) hdb he hpl) fun σ H Q ⟨F, m, μ, ρ, Qd, S, h, kk⟩ => ⟨F, m, μ, ρ, _, S, h, fun F1 m1 μ1 ds vs H1 x1 S1 r1 q1 => by
    cases e : Nat.beq (ds ++ dds).length ps.length with
    | false => rw [e] at q1; exact q1.elim
    | true =>
      rw [e] at q1
      exact sp_run S1 (r1.append (hdd _ _)) (Nat.eq_of_beq_eq_true e) q1 (fun F4 m4 μ4 d4 v4 H4 x4 => kk F4 m4 μ4 d4 v4 H4 (x1.trans x4)) fun F' m' μ' y cls d H' x2 S2 xr q => ⟨F', m', μ', ρ, y, S2, xr, q⟩⟩
theorem de_call0 (Fc : FnC X.prog X.w X.K X.mg X.base z.T k f fd ps c) (hr : Room k X.A) (hg : Gl X x) (hm : X.mg x = some (.ref f)) (hk : PySem.W.keepIn X.K (.ref f) = true) (hb : Binds X.K fd ps []) (hn : ps = [])
    (hdb : (x == ("__debug__" : Str)) = false := by decide) : DE X z (.Call (.Name x p) [] [] pos) (wCallN c 0 [] aNil) := fun Wd tk => by
  refine ⟨fun pins s σ H Q I ⟨F, m, μ, ρ, Qd, S, h, kk⟩ => ?_⟩
  refine wpAny_Call_Name_kw (ld_glob I hg hm ?_ hdb)
  have h' : c [] μ Qd (fun x μ' => Wd x ρ μ') := h
  exact PySem.W.callWith_K0 I.kIn hk (run_fnSD (us := []) (vs := []) (dvs := []) (E := fun σ cls d H => XW X.K z Wd cls d σ H) Fc hr hb .nil (passAt tk σ) I .nil
    (sp_run S .nil (by rw [hn]; rfl) h' kk fun F' m' μ' y cls d H' x2 S2 xr q => ⟨F', m', μ', ρ, y, S2, xr, q⟩))
end

/-! ### calls that see no store -/
mutual
def noM : D → Bool
  | .mref _ => false
  | .tup xs => noMs xs
  | .lst xs => noMs xs
  | .dct kvs => noMk kvs
  | .ins _ fs => noMs fs
  | .ptp xs => noMs xs
  | .ttp xs => noMs xs
  | .dcp _ xs => noMs xs
  | _ => true
def noMs : List D → Bool
  | [] => true
  | x :: r => match noM x with
    | true => noMs r
    | false => false
def noMk : List (DK × D) → Bool
  | [] => true
  | (_, x) :: r => match noM x with
    | true => noMk r
    | false => false
end
section
variable {K : PySem.W.Frag} {T : Tab} {F : Hp} {m m' : List Addr}
mutual
theorem Rep.noM : ∀ {d : D} {v : V}, Rep K T F m d v → Pk.noM d = true → Rep K T F m' d v
  | _, _, .non, _ => .non
  | _, _, .bl, _ => .bl
  | _, _, .int, _ => .int
  | _, _, .str, _ => .str
  | _, _, .tup h r, e => .tup h (Reps.noM r (by simpa [Pk.noM] using e))
  | _, _, .lst h r, e => .lst h (Reps.noM r (by simpa [Pk.noM] using e))
  | _, _, .dct h r, e => .dct h (RepK.noM r (by simpa [Pk.noM] using e))
  | _, _, .scr h, _ => .scr h
  | _, _, .ins h h2 r, e => .ins h h2 (Reps.noM r (by simpa [Pk.noM] using e))
  | _, _, .mref h, e => by simp [Pk.noM] at e
  | _, _, .cls, _ => .cls
  | _, _, .ty, _ => .ty
  | _, _, .ptp h n r, e => .ptp h n (Reps.noM r (by simpa [Pk.noM] using e))
  | _, _, .ttp h r, e => .ttp h (Reps.noM r (by simpa [Pk.noM] using e))
  | _, _, .dcp h h2 l r, e => .dcp h h2 l (Reps.noM r (by simpa [Pk.noM] using e))
theorem Reps.noM : ∀ {ds : List D} {vs : List V}, Reps K T F m ds vs → Pk.noMs ds = true → Reps K T F m' ds vs
  | _, _, .nil, _ => .nil
  | _, _, .cons h r, e => by
    unfold Pk.noMs at e
    split at e
    · rename_i e1
      exact .cons (Rep.noM h e1) (Reps.noM r e)
    · cases e
theorem RepK.noM : ∀ {ds : List (DK × D)} {vs : List (Key × V)}, RepK K T F m ds vs → Pk.noMk ds = true → RepK K T F m' ds vs
  | _, _, .nil, _ => .nil
  | _, _, .cons h r, e => by
    unfold Pk.noMk at e
    split at e
    · rename_i e1
      exact .cons (Rep.noM h e1) (RepK.noM r e)
    · cases e
end
end
/-- .. where the arguments name nothing of the store: the def runs over an empty one -/
def loc (c : Con) : Con := fun ds μ Q E => match noMs ds with
  | true => c ds [] (fun d _ => match noM d with
    | true => Q d μ
    | false => False) (fun x _ => match noMs x.fs with
    | true => E x μ
    | false => False)
  | false => c ds μ Q E
theorem loc_sp {K : PySem.W.Frag} {T : Tab} {c : Con} {n : Nat} {vs : List V} {H : Hp} {Q : VK} {E : XK} (h : spD K T (loc c) n vs H Q E) : spD K T c n vs H Q E := by
  obtain ⟨F, m, μ, ds, Qd, Qx, S, r, hl, hc, kd, kx⟩ := h
  unfold loc at hc
  split at hc
  · rename_i hn
    have S0 : Sim K T F [] H F [] [] [] [] H := ⟨Ext.refl _ _ _, S.same, rfl, List.nodup_nil, fun a h => absurd h (by simp), fun k a o e => by simp at e, rfl, fun i d e => by simp at e⟩
    have back : ∀ {F' : Hp} {m' : List Addr} {μ' : Sto} {H' : Hp}, Ext F [] H F' m' H' → Sim K T F [] H F' m' μ' [] [] H' → Ext F m H F' m H' ∧ Sim K T F m H F' m μ [] [] H' := by
      intro F' m' μ' H' x B
      have g : Gr F m F' m := ⟨x.gr.fr, [], by simp⟩
      have xx : Ext F m H F' m H' := ⟨g, fun b o e w n h => by
        obtain ⟨e1, n1, _⟩ := x.frm b o e w n (by simp)
        exact ⟨e1, n1, h⟩, x.up⟩
      refine ⟨xx, xx, B.same, S.len, S.nd, fun a h => (x.up a).2 (S.al a h), fun k a o e1 e2 n => ?_, rfl, fun i d e => by simp at e⟩
      obtain ⟨h1, h2⟩ := S.sto k a o e1 e2 n
      cases o with
      | gone => exact absurd rfl n
      | fz d => exact ⟨fun z => (by cases z), Rep.mono g h2⟩
      | lst ds =>
        obtain ⟨vs, e, r⟩ := h2
        obtain ⟨e3, n3, _⟩ := x.frm a _ e (fun _ z => by cases z) (h1 rfl) (by simp)
        exact ⟨fun _ => n3, vs, e3, r.mono g⟩
      | dct ds =>
        obtain ⟨vs, e, r⟩ := h2
        obtain ⟨e3, n3, _⟩ := x.frm a _ e (fun _ z => by cases z) (h1 rfl) (by simp)
        exact ⟨fun _ => n3, vs, e3, r.mono g⟩
      | ins c ds =>
        obtain ⟨dx, vs, e, eo, _, l, r⟩ := h2
        obtain ⟨e3, n3, _⟩ := x.frm a _ e (fun _ z => by cases z) (h1 rfl) (by simp)
        exact ⟨fun _ => n3, dx, vs, e3, (x.up dx).1 a eo, trivial, l, r.mono g⟩
    refine ⟨F, [], [], ds, _, _, S0, r.noM hn, hl, hc, fun F' m' μ' d v H' x B rd q => ?_, fun F' m' μ' y cls d H' x B xr q => ?_⟩
    · split at q
      · rename_i hd
        obtain ⟨xx, S2⟩ := back x B
        exact kd F' m μ d v H' xx S2 (rd.noM hd) q
      · exact q.elim
    · split at q
      · rename_i hd
        obtain ⟨xx, S2⟩ := back x B
        obtain ⟨e1, e2⟩ := xr
        refine kx F' m μ y cls d H' xx S2 ⟨e1, ?_⟩ q
        rcases e2 with e2 | ⟨dd, vs, a1, a2, a3, a4, a5⟩
        · exact .inl e2
        · exact .inr ⟨dd, vs, a1, a2, a3, a4.noM hd, a5⟩
      · exact q.elim
  · exact ⟨F, m, μ, ds, Qd, Qx, S, r, hl, hc, kd, kx⟩
end Pk

/-! The data layer, part N2: methods, classes made, properties, classmethods, isinstance of own classes, try without exceptions. -/
namespace Pk
open PySem PySem.Spec PyProof.Rows L2

/-! ### what a call may let out, at the slots: methods and makes -/
section
variable {X : Cx} {CX : CXT} {k : Nat} {f C : Addr} {fd : FuncData} {ps : List Str} {sp : Sp} {dvs : List V} {ds : List Value} {E : L2.St → XK} {x m : Str} {p pos apos : Pos} {e o : Expr} {es : List Expr} {ta : TE} {t : TA}
def tMethS (C : Addr) (m : Str) (sp : Sp) (dvs : List V) (E : L2.St → XK) (ta : TE) (t : TA) : TE := fun σ H Q => ta σ H fun x H1 => ∃ a dx fs, x = .ref a ∧ H1 a = some (.ins C dx fs) ∧ fs.lookup m = none ∧ t σ H1 fun vs H2 => sp (x :: (vs ++ dvs)) H2 Q (E σ)
def tMakeS (C : Addr) (sp : Sp) (dvs : List V) (E : L2.St → XK) (t : TA) : TE := fun σ H Q => t σ H fun vs H1 => ∀ x dx, H1 x = none → H1 dx = none → dx ≠ x →
  sp (.ref x :: (vs ++ dvs)) (upd (upd H1 dx (.own x)) x (.ins C dx [])) (fun v H2 => v = .non ∧ Q (.ref x) H2) (E σ)
theorem pe_methS {pl : Sem Bool} (he : PE X o ta) (c : Cls X.K C) (hm : Meth X.K C m f) (Fo : FnOk X.prog X.w X.K X.mg X.base CX k f fd ps sp) (hr : Room k X.A) (hb : Binds X.K fd ps ds) (hd : Vals dvs ds) (hx : ∀ σ, PassesAt CX X σ (E σ)) (ha : PA X (e :: es) t)
    (hst : starEach (e :: es) X.env = (false, eval e X.env) :: starEach es X.env) (hpl : (backTo pos (starEach es X.env)).any (·.1) = false)
    (ht : eval (.Call (.Attribute o m apos) (e :: es) [] pos) X.env = (eval o X.env >>= fun ov => standAt apos.atName >>= fun _ => holding [ov] (getMethod ov m pl) >>= fun r => callWith pos r.1 r.2 (backTo pos (starEach (e :: es) X.env)) (backToKw pos (keywordEach [] X.env)))) :
    PE X (.Call (.Attribute o m apos) (e :: es) [] pos) (tMethS C m sp dvs E ta t) :=
  ⟨fun pins s σ H Q I h => PySem.W.methodCall_KW (pl := pl) (thn (he.run pins s σ H _ I h) fun u s1 ⟨x, H1, I1, rx, a, dx, fs, ex, ea, l, q⟩ => by
    subst ex
    cases rx
    exact getmeth_ok I1 ea c hm l (PySem.W.callWith_K (first := [.ref a]) (h₀ := X.base) I.ok.mod.kin hm.kp
      (thn (ha.run pos pins s1 σ H1 _ I1 q) fun us s2 ⟨vs, H2, I2, r, q2⟩ => ⟨I2.kIn, run_fnSD (us := .ref a :: us) (vs := .ref a :: vs) Fo hr hb hd (hx σ) I2 (.cons rfl r) q2⟩) hst hpl)) ht⟩
theorem pe_methS0 {pl : Sem Bool} (he : PE X o ta) (c : Cls X.K C) (hm : Meth X.K C m f) (Fo : FnOk X.prog X.w X.K X.mg X.base CX k f fd ps sp) (hr : Room k X.A) (hb : Binds X.K fd ps ds) (hd : Vals dvs ds) (hx : ∀ σ, PassesAt CX X σ (E σ))
    (ht : eval (.Call (.Attribute o m apos) [] [] pos) X.env = (eval o X.env >>= fun ov => standAt apos.atName >>= fun _ => holding [ov] (getMethod ov m pl) >>= fun r => callWith pos r.1 r.2 (backTo pos (starEach [] X.env)) (backToKw pos (keywordEach [] X.env)))) :
    PE X (.Call (.Attribute o m apos) [] [] pos) (tMethS C m sp dvs E ta tNil) :=
  ⟨fun pins s σ H Q I h => PySem.W.methodCall_KW (pl := pl) (thn (he.run pins s σ H _ I h) fun u s1 ⟨x, H1, I1, rx, a, dx, fs, ex, ea, l, q⟩ => by
    subst ex
    cases rx
    exact getmeth_ok I1 ea c hm l (PySem.W.callWith_K0 (first := [.ref a]) I1.kIn hm.kp (run_fnSD (us := [.ref a]) (vs := [.ref a]) Fo hr hb hd (hx σ) I1 (.cons rfl .nil) q))) ht⟩
theorem run_makeS {pins : List (Addr × Obj)} {σ : L2.St} {H : Hp} {s : Shared} {Q : VK} {us : List Value} {vs : List V} (M : Mk X.K C f) (Fo : FnOk X.prog X.w X.K X.mg X.base CX k f fd ps sp) (hr : Room (k + 1) X.A) (hb : Binds X.K fd ps ds) (hd : Vals dvs ds) (hx : PassesAt CX X σ (E σ)) (I : Inv X pins σ H s) (r : Vals vs us)
    (h : ∀ x dx, H x = none → H dx = none → dx ≠ x → sp (.ref x :: (vs ++ dvs)) (upd (upd H dx (.own x)) x (.ins C dx [])) (fun v H2 => v = .non ∧ Q (.ref x) H2) (E σ)) : wpAny (model X.prog X.w) X.A (call (.ref C) us) (EP X pins σ Q) X.xe s := by
  obtain ⟨n, hn⟩ : ∃ n, n = s.heap.objs.size := ⟨_, rfl⟩
  have hq := h (s.heap.objs.size + 1) s.heap.objs.size (I.hok.fresh (Nat.le_succ _)) (I.hok.fresh (Nat.le_refl _)) (Nat.ne_of_lt (Nat.lt_succ_self _))
  have I2 := I.made (C := C)
  have rr : Vals (V.ref (s.heap.objs.size + 1) :: (vs ++ dvs)) (Value.ref (s.heap.objs.size + 1) :: (us ++ ds)) := .cons rfl (r.append hd)
  have hlen : (Value.ref (s.heap.objs.size + 1) :: us ++ ds).length = ps.length := (rr.length.symm.trans (Fo.len _ _ _ _ hq) : _)
  have go := Fo.run _ X.stack _ _ ⟨Value.ref (s.heap.objs.size + 1) :: us, []⟩ (Value.ref (s.heap.objs.size + 1) :: (us ++ ds)) _ _ (E σ) (hr.make C us []) (I2.env0.make C us []) (hb _ (Value.ref (s.heap.objs.size + 1) :: us) I2.kIn hlen) rr hq
  refine wpAny_call (make_map (f := f) I.kIn M.makes M.init (beq_iff_eq.mp M.fn) (codeAny_mono go fun q s' hq' => ?_))
  match q, hq' with
  | .error er, hq' => exact hx pins _ _ er s' I2 hq'
  | .ok (.ret u), hq' =>
    obtain ⟨v, H', I3, rv, ev, q3⟩ := I2.after hq'
    subst ev
    exact ⟨rv, V.ref (s.heap.objs.size + 1), H', I3, rfl, q3⟩
  | .ok .next, hq' => exact hq'.elim
  | .ok .brk, hq' => exact hq'.elim
  | .ok .cont, hq' => exact hq'.elim
theorem pe_makeS (M : Mk X.K C f) (Fo : FnOk X.prog X.w X.K X.mg X.base CX k f fd ps sp) (hr : Room (k + 1) X.A) (hg : Gl X x) (hm : X.mg x = some (.ref C)) (hb : Binds X.K fd ps ds) (hd : Vals dvs ds) (hx : ∀ σ, PassesAt CX X σ (E σ)) (ha : PA X (e :: es) t)
    (hdb : (x == ("__debug__" : Str)) = false) (he : starEach (e :: es) X.env = (false, eval e X.env) :: starEach es X.env) (hpl : (backTo pos (starEach es X.env)).any (·.1) = false) : PE X (.Call (.Name x p) (e :: es) [] pos) (tMakeS C sp dvs E t) :=
  ⟨fun pins s σ H Q I h => wpAny_Call_Name_kw (ld_glob I hg hm (PySem.W.callWith_K (h₀ := X.base) I.ok.mod.kin M.kp
    (thn (ha.run pos pins s σ H _ I h) fun us s1 ⟨vs, H1, I1, r, q⟩ => ⟨I1.kIn, run_makeS M Fo hr hb hd (hx σ) I1 r q⟩) he hpl) hdb)⟩
/-- a class that a local name holds -/
theorem pe_makeL {i : Nat} {td : TE} (M : Mk X.K C f) (Fo : FnOk X.prog X.w X.K X.mg X.base CX k f fd ps sp) (hr : Room (k + 1) X.A) (hb : Binds X.K fd ps ds) (hd : Vals dvs ds) (hx : ∀ σ, PassesAt CX X σ (E σ)) (hN : X.N[i]? = some x) (hv : Vis X.env.scope x) (ha : PA X (e :: es) t)
    (hdb : (x == ("__debug__" : Str)) = false) (hcd : (x == ("__classdict__" : Str)) = false) (he : starEach (e :: es) X.env = (false, eval e X.env) :: starEach es X.env) (hpl : (backTo pos (starEach es X.env)).any (·.1) = false) :
    PE X (.Call (.Name x p) (e :: es) [] pos) (fun σ H Q => σ[i]? = some (some (.ref C)) ∧ tMakeS C sp dvs E t σ H Q) :=
  ⟨fun pins s σ H Q I ⟨hs, h⟩ => wpAny_Call_Name_kw (thn ((pe_var (pos := p) hN hv hdb hcd).run pins s σ H (fun v H1 => v = .ref C ∧ H1 = H) I ⟨.ref C, hs, rfl, rfl⟩) fun u s1 ⟨v, H1, I1, r1, q1⟩ => by
    obtain ⟨rfl, rfl⟩ := q1
    cases r1
    exact PySem.W.callWith_K (h₀ := X.base) I.ok.mod.kin M.kp (thn (ha.run pos pins s1 σ _ _ I1 h) fun us s2 ⟨vs, H2, I2, r, q⟩ => ⟨I2.kIn, run_makeS M Fo hr hb hd (hx σ) I2 r q⟩) he hpl)⟩
end
section
variable {X : Cx} {z : Zx} {k cn n : Nat} {f : Addr} {fd : FuncData} {ps : List Str} {c : Con} {x m : Str} {p pos apos : Pos} {e o : Expr} {es : List Expr} {wo : WE} {wa : WA} {dvs : List V} {ds0 : List Value} {dds : List D}
/-- a class's fields: no method of it is an attribute -/
def wMeth (cn : Nat) (c : Con) (n : Nat) (wo : WE) (wa : WA) : WE := fun ρ μ Q E => wo ρ μ (fun x μ1 => match look μ1 x with
  | .ins c' _ => match Nat.beq c' cn with
    | true => wa ρ μ1 (fun ds μ2 => match Nat.beq (ds.length + 1) n with
      | true => c (x :: ds) μ2 Q E
      | false => False) E
    | false => False
  | _ => False) E
structure MethF (K : PySem.W.Frag) (T : Tab) (cn : Nat) (m : Str) (f : Addr) : Prop where
  cl : Cls K (T.ca cn)
  me : Meth K (T.ca cn) m f
  no : fldIx m (T.fn cn) = none
theorem fld_none {m : Str} : ∀ {fn : List Str} {vs : List V}, fldIx m fn = none → (fn.zip vs).lookup m = none
  | [], _, _ => by simp
  | g :: fn, [], _ => by simp
  | g :: fn, v :: vs, h => by
    unfold fldIx at h
    split at h
    · cases h
    · rename_i ng
      have h2 : fldIx m fn = none := by
        cases q : fldIx m fn with
        | none => rfl
        | some i => rw [q] at h; cases h
      rw [List.zip_cons_cons]
      have hb : (m == g) = false := beq_eq_false_iff_ne.mpr (Ne.symm ng)
      simp only [List.lookup, hb]
      exact fld_none h2
theorem meth_run {Wd : WXd} {σ : L2.St} {H : Hp} {Q : VK} (mf : MethF X.K z.T cn m f) (h : tD X.K z Wd (wMeth cn c n wo wa) σ H Q) :
    tMethS (z.T.ca cn) m (spD X.K z.T c n) [] (fun σ cls d H => XW X.K z Wd cls d σ H) (tD X.K z Wd wo) (tDA X.K z Wd wa) σ H Q := by
  obtain ⟨F, m, μ, ρ, Qd, S, h, kk⟩ := h
  refine ⟨F, m, μ, ρ, _, S, h, fun F1 m1 μ1 d1 v1 H1 x1 S1 r1 q1 => ?_⟩
  have vx := S1.view r1
  split at q1
  · rename_i c' fs hx
    rw [hx] at vx
    split at q1
    · rename_i hc
      have := Nat.eq_of_beq_eq_true hc
      subst this
      obtain ⟨a, dx, vs, rfl, h1, r2⟩ := vx.inst S1.same
      refine ⟨a, dx, _, rfl, h1, fld_none mf.no, F1, m1, μ1, ρ, _, S1, q1, fun F2 m2 μ2 ds vs H2 x2 S2 r2 q2 => ?_⟩
      show spD X.K z.T c n (V.ref a :: (vs ++ [])) H2 Q _
      rw [List.append_nil]
      split at q2
      · rename_i hn
        exact sp_run S2 (.cons (r1.mono x2.gr) r2) (Nat.eq_of_beq_eq_true hn) q2 (fun F4 m4 μ4 d4 v4 H4 x4 => kk F4 m4 μ4 d4 v4 H4 (x1.trans (x2.trans x4))) fun F' m' μ' y cls d H' x3 S3 xr q => ⟨F', m', μ', ρ, y, S3, xr, q⟩
      · exact q2.elim
    · exact q1.elim
  · exact q1.elim
theorem de_meth {pl : Sem Bool} (mf : MethF X.K z.T cn m f) (Fc : FnC X.prog X.w X.K X.mg X.base z.T k f fd ps c) (hr : Room k X.A) (hb : Binds X.K fd ps []) (ho : DE X z o wo) (ha : DA X z (e :: es) wa)
    (hst : starEach (e :: es) X.env = (false, eval e X.env) :: starEach es X.env := by rfl) (hpl : (backTo pos (starEach es X.env)).any (·.1) = false := by rfl)
    (ht : eval (.Call (.Attribute o m apos) (e :: es) [] pos) X.env = (eval o X.env >>= fun ov => standAt apos.atName >>= fun _ => holding [ov] (getMethod ov m pl) >>= fun r => callWith pos r.1 r.2 (backTo pos (starEach (e :: es) X.env)) (backToKw pos (keywordEach [] X.env))) := by rfl) :
    DE X z (.Call (.Attribute o m apos) (e :: es) [] pos) (wMeth cn c ps.length wo wa) := fun Wd tk =>
  peI (pe_methS (ho Wd tk) mf.cl mf.me Fc hr hb .nil (fun σ => passAt tk σ) (ha Wd tk) hst hpl ht) fun σ H Q h => meth_run mf h
theorem de_meth0 {pl : Sem Bool} (mf : MethF X.K z.T cn m f) (Fc : FnC X.prog X.w X.K X.mg X.base z.T k f fd ps c) (hr : Room k X.A) (hb : Binds X.K fd ps []) (ho : DE X z o wo)
    (ht : eval (.Call (.Attribute o m apos) [] [] pos) X.env = (eval o X.env >>= fun ov => standAt apos.atName >>= fun _ => holding [ov] (getMethod ov m pl) >>= fun r => callWith pos r.1 r.2 (backTo pos (starEach [] X.env)) (backToKw pos (keywordEach [] X.env))) := by rfl) :
    DE X z (.Call (.Attribute o m apos) [] [] pos) (wMeth cn c ps.length wo aNil) := fun Wd tk =>
  peI (pe_methS0 (ho Wd tk) mf.cl mf.me Fc hr hb .nil (fun σ => passAt tk σ) ht) fun σ H Q h => by
    obtain ⟨F, m, μ, ρ, Qd, S, h, kk⟩ := meth_run mf h
    exact ⟨F, m, μ, ρ, Qd, S, h, fun F1 m1 μ1 d1 v1 H1 x1 S1 r1 q1 => by
      obtain ⟨a, dx, fs, e1, e2, e3, F2, m2, μ2, ρ2, Qd2, S2, q2, k2⟩ := kk _ _ _ _ _ _ x1 S1 r1 q1
      exact ⟨a, dx, fs, e1, e2, e3, k2 _ _ _ _ _ _ (Ext.refl _ _ _) S2 .nil q2⟩⟩
/-- C(..) -/
def mkD (cn : Nat) (c : Con) (n : Nat) (dds ds : List D) : Sto → QD → QX → Prop := fun μ Q E => match Nat.beq ((ds ++ dds).length + 1) n with
  | true => c (.mref μ.length :: (ds ++ dds)) (μ ++ [.ins cn []]) (fun d μ3 => match d with
    | .non => Q (.mref μ.length) μ3
    | _ => False) E
  | false => False
def wMake (cn : Nat) (c : Con) (n : Nat) (dds : List D) (wa : WA) : WE := fun ρ μ Q E => wa ρ μ (fun ds μ1 => mkD cn c n dds ds μ1 Q E) E
theorem mk_run {F : Hp} {m : List Addr} {μ : Sto} {ρ : Slots} {σ : L2.St} {H : Hp} {Qd : QD} {Qx : QX} {Q : VK} {E : XK} {ds : List D} {vs : List V} (S : SimZ X.K z F m μ ρ σ H) (r : Reps X.K z.T F m ds vs) (hdd : ∀ F m, Reps X.K z.T F m dds dvs) (h : mkD cn c n dds ds μ Qd Qx) (kk : Fin X.K z F m H ρ σ Qd Q)
    (kx : ∀ F' m' μ' x cls d H', Ext F m H F' m' H' → SimZ X.K z F' m' μ' ρ σ H' → XRep X.K z.T F' m' H' x cls d → Qx x μ' → E cls d H') : ∀ x dx, H x = none → H dx = none → dx ≠ x →
    spD X.K z.T c n (.ref x :: (vs ++ dvs)) (upd (upd H dx (.own x)) x (.ins (z.T.ca cn) dx [])) (fun v H2 => v = .non ∧ Q (.ref x) H2) E := by
  intro x dx hx hdx hne
  unfold mkD at h
  split at h
  · rename_i hn
    obtain ⟨x1, S1⟩ := S.more hdx (.own x)
    have hx1 : upd H dx (.own x) x = none := by rw [upd_ne (Ne.symm hne)]; exact hx
    obtain ⟨x2, S2⟩ := S1.more hx1 (.ins (z.T.ca cn) dx [])
    have hk : MRep X.K z.T F m (upd (upd H dx (.own x)) x (.ins (z.T.ca cn) dx [])) x (.ins cn []) :=
      ⟨dx, [], by rw [upd_same, List.zip_nil_right], by rw [upd_ne hne, upd_same], trivial, Nat.zero_le _, .nil⟩
    have S3 := S2.keep (S.fNone hx) (S.notIn hx) (S.yng hx) hk (fun z => nomatch z)
    have g : Gr F m F (m ++ [x]) := ⟨Same.refl F, [x], rfl⟩
    have x3 : Ext F m H F (m ++ [x]) (upd (upd H dx (.own x)) x (.ins (z.T.ca cn) dx [])) := ⟨g, (fun b o e w nf h => by
      obtain ⟨e1, n1, h1⟩ := (x1.trans x2).frm b o e w nf h
      refine ⟨e1, n1, fun q => ?_⟩
      rcases List.mem_append.mp q with q | q
      · exact h1 q
      · rw [List.mem_singleton.mp q, hx] at e
        cases e), (x1.trans x2).up⟩
    have hm : (m ++ [x])[μ.length]? = some x := by
      rw [← S.len, List.getElem?_append_right (Nat.le_refl _), Nat.sub_self]
      rfl
    refine sp_run S3 (.cons (.mref hm) ((r.mono g).append (hdd _ _))) (Nat.eq_of_beq_eq_true hn) h (fun F4 m4 μ4 d4 v4 H4 x4 S4 r4 q4 => ?_) fun F' m' μ' y cls d H' x4 S4 xr q => kx _ _ _ _ _ _ _ (x3.trans x4) S4 xr q
    cases r4 with
    | non => exact ⟨rfl, kk _ _ _ _ _ _ (x3.trans x4) S4 ((Rep.mref hm).mono x4.gr) q4⟩
    | _ => exact q4.elim
  · exact h.elim
theorem de_make (M : Mk X.K (z.T.ca cn) f) (Fc : FnC X.prog X.w X.K X.mg X.base z.T k f fd ps c) (hr : Room (k + 1) X.A) (hg : Gl X x) (hm : X.mg x = some (.ref (z.T.ca cn))) (hb : Binds X.K fd ps ds0) (hd : Vals dvs ds0) (hdd : ∀ F m, Reps X.K z.T F m dds dvs) (ha : DA X z (e :: es) wa)
    (hdb : (x == ("__debug__" : Str)) = false := by decide) (he : starEach (e :: es) X.env = (false, eval e X.env) :: starEach es X.env := by rfl) (hpl : (backTo pos (starEach es X.env)).any (·.1) = false := by rfl) : DE X z (.Call (.Name x p) (e :: es) [] pos) (wMake cn c ps.length dds wa) := fun Wd tk =>
  peI (pe_makeS (E := fun σ cls d H => XW X.K z Wd cls d σ H) M Fc hr hg hm hb hd (fun σ => passAt tk σ) (ha Wd tk) hdb he hpl) fun σ H Q ⟨F, m, μ, ρ, Qd, S, h, kk⟩ => ⟨F, m, μ, ρ, _, S, h, fun F1 m1 μ1 ds vs H1 x1 S1 r1 q1 =>
    mk_run S1 r1 hdd q1 (fun F4 m4 μ4 d4 v4 H4 x4 => kk F4 m4 μ4 d4 v4 H4 (x1.trans x4)) fun F' m' μ' y cls d H' x2 S2 xr q => ⟨F', m', μ', ρ, y, S2, xr, q⟩⟩
def wMakeL (i cn : Nat) (c : Con) (n : Nat) (dds : List D) (wa : WA) : WE := fun ρ μ Q E => match ρ[i]? with
  | some (some (.cls c')) => match Nat.beq c' cn with
    | true => wMake cn c n dds wa ρ μ Q E
    | false => False
  | _ => False
theorem de_makeL {i : Nat} (M : Mk X.K (z.T.ca cn) f) (Fc : FnC X.prog X.w X.K X.mg X.base z.T k f fd ps c) (hr : Room (k + 1) X.A) (hb : Binds X.K fd ps ds0) (hd : Vals dvs ds0) (hdd : ∀ F m, Reps X.K z.T F m dds dvs) (hN : X.N[i]? = some x) (hv : Vis X.env.scope x) (ha : DA X z (e :: es) wa)
    (hdb : (x == ("__debug__" : Str)) = false := by decide) (hcd : (x == ("__classdict__" : Str)) = false := by decide) (he : starEach (e :: es) X.env = (false, eval e X.env) :: starEach es X.env := by rfl) (hpl : (backTo pos (starEach es X.env)).any (·.1) = false := by rfl) :
    DE X z (.Call (.Name x p) (e :: es) [] pos) (wMakeL i cn c ps.length dds wa) := fun Wd tk =>
  peI (pe_makeL (td := tD X.K z Wd (wC .non)) (E := fun σ cls d H => XW X.K z Wd cls d σ H) M Fc hr hb hd (fun σ => passAt tk σ) hN hv (ha Wd tk) hdb hcd he hpl) fun σ H Q ⟨F, m, μ, ρ, Qd, S, h, kk⟩ => by
    unfold wMakeL at h
    split at h
    · rename_i c' hc
      split at h
      · rename_i hcn
        have := Nat.eq_of_beq_eq_true hcn
        subst this
        obtain ⟨v, h1, h2⟩ := S.slot i _ hc
        cases h2
        exact ⟨h1, F, m, μ, ρ, _, S, h, fun F1 m1 μ1 ds vs H1 x1 S1 r1 q1 =>
          mk_run S1 r1 hdd q1 (fun F4 m4 μ4 d4 v4 H4 x4 => kk F4 m4 μ4 d4 v4 H4 (x1.trans x4)) fun F' m' μ' y cls d H' x2 S2 xr q => ⟨F', m', μ', ρ, y, S2, xr, q⟩⟩
      · exact h.elim
    · exact h.elim
end
end Pk

/-! The data layer, part N3: properties, classmethods, isinstance of own classes, try without exceptions. -/
namespace Pk
open PySem PySem.Spec PyProof.Rows L2
section
variable {X : Cx} {z : Zx} {k cn n : Nat} {f g p0 : Addr} {fd : FuncData} {ps : List Str} {c : Con} {x m : Str} {p pos apos : Pos} {e o : Expr} {es : List Expr} {wo : WE} {wa : WA} {mc : Value}
theorem pass_no {Y : Cx} : Passes (L2.CX Y.prog Y.w) Y (fun _ _ _ => False) := fun _ _ _ _ _ _ _ h => by
  obtain ⟨_, _, _, _, _, _, _, _, _, _, _, _, h⟩ := h
  exact h.elim
/-- o.f, a property -/
def wProp (cn : Nat) (c : Con) (wo : WE) : WE := fun ρ μ Q E => wo ρ μ (fun x μ1 => match look μ1 x with
  | .ins c' _ => match Nat.beq c' cn with
    | true => c [x] μ1 Q nox
    | false => False
  | _ => False) E
structure PropF (K : PySem.W.Frag) (T : Tab) (cn : Nat) (m : Str) (p g : Addr) : Prop where
  cl : Cls K (T.ca cn)
  pr : PropOf K (T.ca cn) m p g
theorem de_prop (pf : PropF X.K z.T cn m p0 g) (Fc : FnC X.prog X.w X.K X.mg X.base z.T k g fd [x] c) (hr : Room (k + 1) X.A) (hb : Binds X.K fd [x] []) (ho : DE X z o wo) (hab : attributeBase o m X.env (eval o X.env) = eval o X.env := by rfl) : DE X z (.Attribute o m pos) (wProp cn c wo) := fun Wd tk =>
  peI (pe_prop (E := fun _ _ _ => False) (ho Wd tk) pf.cl pf.pr Fc hr hb .nil (pass_no (Y := X.nox)) hab) fun σ H Q ⟨F, m, μ, ρ, Qd, S, h, kk⟩ => ⟨F, m, μ, ρ, _, S, h, fun F1 m1 μ1 d1 v1 H1 x1 S1 r1 q1 => by
    have vx := S1.view r1
    split at q1
    · rename_i c' fs hx
      rw [hx] at vx
      split at q1
      · rename_i hc
        have := Nat.eq_of_beq_eq_true hc
        subst this
        obtain ⟨a, dx, vs, rfl, h1, r2⟩ := vx.inst S1.same
        exact ⟨a, dx, _, rfl, h1, sp_run S1 (.cons r1 .nil) rfl q1 (fun F4 m4 μ4 d4 v4 H4 x4 => kk F4 m4 μ4 d4 v4 H4 (x1.trans x4)) fun _ _ _ _ _ _ _ _ _ _ q => q⟩
      · exact q1.elim
    · exact q1.elim⟩
theorem pass_noA {Y : Cx} {σ : L2.St} : PassesAt (L2.CX Y.prog Y.w) Y σ (fun _ _ _ => False) := fun _ _ _ _ _ _ h => by
  obtain ⟨_, _, _, _, _, _, _, _, _, _, _, _, h⟩ := h
  exact h.elim
/-- C.m(..), a classmethod; nothing is raised -/
def wCMeth (cn : Nat) (c : Con) (n : Nat) (wo : WE) (wa : WA) : WE := fun ρ μ Q E => wo ρ μ (fun x μ1 => match x with
  | .cls c' => match Nat.beq c' cn with
    | true => wa ρ μ1 (fun ds μ2 => match Nat.beq (ds.length + 1) n with
      | true => c (.cls cn :: ds) μ2 Q nox
      | false => False) E
    | false => False
  | _ => False) E
theorem de_cmeth {pl : Sem Bool} (r : ClX.CRead X.K (z.T.ca cn) mc) (cm : ClX.CMet X.K (z.T.ca cn) mc m p0 g) (Fc : FnC X.prog X.w X.K X.mg X.base z.T k g fd ps c) (hr : Room k X.A) (hb : Binds X.K fd ps []) (ho : DE X z o wo) (ha : DA X z (e :: es) wa)
    (hst : starEach (e :: es) X.env = (false, eval e X.env) :: starEach es X.env := by rfl) (hpl : (backTo pos (starEach es X.env)).any (·.1) = false := by rfl)
    (ht : eval (.Call (.Attribute o m apos) (e :: es) [] pos) X.env = (eval o X.env >>= fun ov => standAt apos.atName >>= fun _ => holding [ov] (getMethod ov m pl) >>= fun r => callWith pos r.1 r.2 (backTo pos (starEach (e :: es) X.env)) (backToKw pos (keywordEach [] X.env))) := by rfl) :
    DE X z (.Call (.Attribute o m apos) (e :: es) [] pos) (wCMeth cn c ps.length wo wa) := fun Wd tk =>
  peI (pe_cmG (E := fun _ _ _ _ => False) (ho Wd tk) r cm Fc hr hb .nil (fun _ => pass_noA) (ha Wd tk) hst hpl ht) fun σ H Q ⟨F, m, μ, ρ, Qd, S, h, kk⟩ => ⟨F, m, μ, ρ, _, S, h, fun F1 m1 μ1 d1 v1 H1 x1 S1 r1 q1 => by
    split at q1
    · rename_i c'
      split at q1
      · rename_i hc
        have := Nat.eq_of_beq_eq_true hc
        subst this
        cases r1
        refine ⟨rfl, F1, m1, μ1, ρ, _, S1, q1, fun F2 m2 μ2 ds vs H2 x2 S2 r2 q2 => ?_⟩
        split at q2
        · rename_i hn
          show spD X.K z.T c ps.length ((.ref (z.T.ca c') :: vs) ++ []) H2 Q _
          rw [List.append_nil]
          exact sp_run S2 (.cons .cls r2) (Nat.eq_of_beq_eq_true hn) q2 (fun F4 m4 μ4 d4 v4 H4 x4 => kk F4 m4 μ4 d4 v4 H4 (x1.trans (x2.trans x4))) fun _ _ _ _ _ _ _ _ _ _ q => q
        · exact q2.elim
      · exact q1.elim
    · exact q1.elim⟩
/-- isinstance(x, C), C an own class: instances of C, what is no instance of an own class -/
structure IsiF (K : PySem.W.Frag) (T : Tab) (cn : Nat) : Prop where
  me : C8.InsC K (T.ca cn)
  no : PySem.W.kitOne K (.type "NoneType") (.ref (T.ca cn)) = some false
  ty : ∀ t : Ty, PySem.W.kitOne K (.type t.nm) (.ref (T.ca cn)) = some false
def isiC (cn : Nat) (x y : D) : Option D := match y with
  | .cls c => match Nat.beq c cn with
    | true => match x with
      | .ins c' _ => match Nat.beq c' cn with
        | true => some (.bl true)
        | false => none
      | .non => some (.bl false)
      | x => match tyOf x with
        | some _ => some (.bl false)
        | none => none
    | false => none
  | _ => none
theorem ok_isiC (I : IsiF X.K z.T cn) : BuOk X z (rIsi X.K) (b2' (isiC cn)) := bu2 fun F m μ ρ σ H x y v u d Qd Q S vx vy e q k => by
  unfold isiC at e
  split at e
  · rename_i c
    split at e
    · rename_i hc
      have := Nat.eq_of_beq_eq_true hc
      subst this
      have hy : ClsV u (.ref (z.T.ca c)) := by rw [vy.cls]; exact .own _
      split at e
      · split at e
        · rename_i c' fs _ hc'
          have := Nat.eq_of_beq_eq_true hc'
          subst this
          injection e with e
          subst e
          obtain ⟨a, dx, vs, rfl, h1, _⟩ := vx.inst S.same
          exact ⟨_, u, _, _, true, rfl, hy, .base (.ins h1 I.me.cl I.me.ha I.me.hn I.me.htk I.me.hm), I.me.me, k.now S .bl q⟩
        · cases e
      · injection e with e
        subst e
        rw [vx.non]
        exact ⟨_, u, _, _, false, rfl, hy, .base .non, I.no, k.now S .bl q⟩
      · split at e
        · rename_i t ht
          injection e with e
          subst e
          exact ⟨v, u, _, _, false, rfl, hy, vx.tyx S.same ht, I.ty t, k.now S .bl q⟩
        · cases e
    · cases e
  · cases e
/-- try: body, nothing is raised -/
def sTry0 (w : WS) : WS := fun De ρ μ => w { De with ex := fun _ _ _ => False } ρ μ
theorem ds_try0 {body : List Stmt} {h₀ : ExceptHandler} {hs : List ExceptHandler} {w : WS} (hb : DSs X.nox z body w) : DS X z (.Try body (h₀ :: hs) [] [] pos) (sTry0 w) := fun Wd tk =>
  psI (ps_try_thru0 (hb (fun _ _ _ => False) (takes0.imp fun _ _ _ _ h => by
    obtain ⟨_, _, _, _, _, _, _, h⟩ := h
    exact h))) fun D σ H ⟨F, m, μ, ρ, De, S, h, ex, k⟩ => ⟨F, m, μ, ρ, { De with ex := fun _ _ _ => False }, S, h, rfl, ⟨k.nx, k.rt, k.bk, k.ct⟩⟩
end
/-! ### the law -/
theorem law_sp {K : PySem.W.Frag} {T : Tab} {c : Con} {a : Addr} {ns : List Int} {H : Hp} {Q : VK} {E : XK} (hS : SqL K H a (ns.map V.int)) (h : c [.scr ns] [] (fun d _ => d = .bl true) nox) (q : ∀ H', Q (.bl true) H') : spD K T c 1 [.ref a] H Q E :=
  ⟨H, [], [], [.scr ns], _, _, ⟨Ext.refl _ _ _, Same.refl _, rfl, List.nodup_nil, fun _ h => absurd h (by simp), fun k a o e => by simp at e, rfl, fun i d e => by simp at e⟩, .cons (.scr hS) .nil, rfl, h,
    fun F' m' μ' d v H' _ _ r e => by subst e; cases r; exact q _, fun _ _ _ _ _ _ _ _ _ _ h => h.elim⟩
end Pk

/-! The data layer, part O: dict(..), tests of comprehensions, isinstance of several classes at once. -/
namespace Pk
open PySem PySem.Spec PyProof.Rows L2
section
variable {X : Cx} {z : Zx}
theorem ptsI {ifs : List Expr} {t t' : TT} (h : PTs X ifs t) (f : ∀ σ H Q, t' σ H Q → t σ H Q) : PTs X ifs t' := ⟨fun pins s σ H Q I q => h.run pins s σ H Q I (f _ _ _ q)⟩
theorem dts_nil : PTs X [] (tDT X.K z (fun _ _ _ => False) tAll) := ptsI pts_nil fun σ H Q ⟨F, m, μ, ρ, Qd, S, h, k⟩ => k _ _ _ _ _ (Ext.refl _ _ _) S h
theorem dts_one {c : Expr} {t : WT} (h : DT X z c t) : PTs X [c] (tDT X.K z (fun _ _ _ => False) t) := pts_one (h (fun _ _ _ => False) (takes0.imp fun _ _ _ _ h => by
  obtain ⟨_, _, _, _, _, _, _, h⟩ := h
  exact h))
/-! ### dict(pairs) -/
def pairsD : List D → Option (List (DK × D))
  | [] => some []
  | .tup [k, v] :: r => match toK k, pairsD r with
    | some k, some ps => some ((k, v) :: ps)
    | _, _ => none
  | _ => none
def mergeD : List (DK × D) → List (DK × D) → List (DK × D)
  | acc, [] => acc
  | acc, (k, v) :: r => mergeD (putE acc k v) r
def giveD (own : Bool) (kvs : List (DK × D)) (μ : Sto) (Q : QD) : Prop := match own with
  | false => Q (.dct kvs) μ
  | true => Q (.mref μ.length) (μ ++ [.dct kvs])
def bDict (own : Bool) : BF := fun ds μ Q => match ds with
  | [x] => match look μ x with
    | .lst xs => match pairsD xs with
      | some ps => giveD own (mergeD [] ps) μ Q
      | none => False
    | _ => False
  | _ => False
/-- a new dict: one that is kept stays as it is, another one is locked -/
def givD (own : Bool) (p : Addr) (u : HO) (H : Hp) (Q : VK) : Prop := match own with
  | true => Q (.ref p) (upd H p u)
  | false => ∀ o, Q (.ref p) (upd H p (.frz o u))
theorem callR_lock {own : Bool} {f : Value} {r : List V → Hp → VK → Prop} (h : CallR X f r) : CallR X f (fun xs H Q => r xs H fun v H' => ∃ p u G, v = .ref p ∧ H' = upd G p u ∧ Mut (some u) ∧ givD own p u G Q) := by
  intro pins s σ H xs us Q I rr q
  refine thn (h pins s σ H xs us _ I rr q) fun w s1 ⟨x, H1, I1, rx, p, u, G, e, e2, mu, q1⟩ => ?_
  subst e e2
  cases own with
  | true => exact ⟨_, _, I1, rx, q1⟩
  | false =>
    obtain ⟨o, I2⟩ := I1.lock upd_same mu
    rw [upd_upd] at I2
    exact ⟨_, _, I2, rx, q1 o⟩
theorem give_dct {F : Hp} {m : List Addr} {μ : Sto} {ρ : Slots} {σ : L2.St} {H : Hp} {Qd : QD} {Q : VK} {own : Bool} {ds : List (DK × D)} {vs : List (Key × V)} {p : Addr} (k : Fin X.K z F m H ρ σ Qd Q) (S : SimZ X.K z F m μ ρ σ H) (hn : H p = none)
    (r : RepK X.K z.T F m ds vs) (q : giveD own ds μ Qd) : givD own p (.dK vs) H Q := by
  cases own with
  | false => exact fun o => k.dct S hn r q
  | true =>
    obtain ⟨x1, S1⟩ := S.more hn (.dK vs)
    have S2 := S1.keep (S.fNone hn) (S.notIn hn) (S.yng hn) (mo := .dct ds) ⟨vs, upd_same, r⟩ (fun z => nomatch z)
    have g : Gr F m F (m ++ [p]) := ⟨Same.refl F, [p], rfl⟩
    refine k _ _ _ _ _ _ ⟨g, fun b o e w n h => ?_, x1.up⟩ S2 (.mref ?_) q
    · obtain ⟨e1, n1, h1⟩ := x1.frm b o e w n h
      refine ⟨e1, n1, fun q => ?_⟩
      rcases List.mem_append.mp q with q | q
      · exact h1 q
      · rw [List.mem_singleton.mp q, hn] at e
        cases e
    · rw [← S.len, List.getElem?_append_right (Nat.le_refl _), Nat.sub_self]
      rfl
theorem mergeK_V {K : PySem.W.Frag} {T : Tab} {F : Hp} {m : List Addr} : ∀ {ps : List (DK × D)} {us : List (Key × V)} {ds : List (DK × D)} {vs : List (Key × V)}, RepK K T F m ds vs → RepK K T F m ps us → RepK K T F m (mergeD ds ps) (mergeK vs us)
  | _, _, _, _, r, .nil => r
  | _, _, _, _, r, .cons (k := k) h rs => by
    have q := mergeK_V (putK_V (k := k) h r) rs
    exact q
theorem pairs_V {K : PySem.W.Frag} {T : Tab} {F : Hp} {m : List Addr} {H : Hp} (s : Same F H) : ∀ {ds : List D} {vs : List V} {ps : List (DK × D)}, Reps K T F m ds vs → pairsD ds = some ps →
    ∃ (as : List Addr) (us : List (Key × V)), vs = as.map V.ref ∧ Paired (fun p kv => SqT K H p [kV kv.1, kv.2]) as us ∧ RepK K T F m ps us
  | _, _, ps, .nil, e => by
    injection e with e
    subst e
    exact ⟨[], [], rfl, .nil, .nil⟩
  | _, _, ps, .cons (d := d) h rs, e => by
    unfold pairsD at e
    split at e
    · rename_i heq
      cases heq
    · rename_i k v r heq
      injection heq with h1 h2
      subst h1 h2
      split at e
      · rename_i kk ps' hk hp
        injection e with e
        subst e
        cases h with
        | tup hq r2 =>
          cases r2 with
          | cons ra r2 =>
            cases r2 with
            | cons rb r2 =>
              cases r2
              obtain ⟨as, us, rfl, p1, p2⟩ := pairs_V s rs hp
              have hkv := toK_V (H := H) (.of ra) hk
              subst hkv
              exact ⟨_ :: as, (kk.key, _) :: us, rfl, .cons (Same.sqt s hq) p1, .cons rb p2⟩
      · cases e
    · cases e
def rDict (own : Bool) (K : PySem.W.Frag) : List V → Hp → VK → Prop := fun xs H Q => ∃ (a : Addr) (ps : List Addr) (kvs : List (Key × V)), xs = [V.ref a] ∧ SqL K H a (ps.map V.ref) ∧ Paired (fun p kv => SqT K H p [kV kv.1, kv.2]) ps kvs ∧
    ∀ p, H p = none → givD own p (.dK (mergeK [] kvs)) H Q
theorem ok_dict {own : Bool} : BuOk X z (rDict own X.K) (bDict own) := by
  intro F m μ ρ σ H ds vs Qd Q S rr q k
  unfold bDict at q
  split at q
  · rename_i x
    cases rr with
    | cons r1 r2 =>
      cases r2
      have vx := S.view r1
      split at q
      · rename_i xs hx
        rw [hx] at vx
        split at q
        · rename_i ps hp
          obtain ⟨a, us, rfl, h1, r2⟩ := vx.list S.same
          obtain ⟨as, kvs, rfl, p1, p2⟩ := pairs_V S.same r2 hp
          exact ⟨a, as, kvs, rfl, SqL.of h1, p1, fun p hn => give_dct k S hn (mergeK_V .nil p2) q⟩
        · exact q.elim
      · exact q.elim
  · exact q.elim
theorem c_dict (own : Bool) (hc : X.calm = true) : CallR X (.type "dict") (rDict own X.K) := by
  intro pins s σ H xs us Q I rr ⟨a, ps, kvs, e1, e2, e3, q⟩
  exact callR_lock (own := own) (call_dictP hc) pins s σ H xs us Q I rr ⟨a, ps, kvs, e1, e2, e3, fun p hn => ⟨p, _, H, rfl, rfl, trivial, q p hn⟩⟩
end
end Pk

/-! The data layer, part P: the head's facts, by paths. -/
namespace Pk
open PySem PySem.Spec PyProof.Rows L2

/-- a def by a path to its object -/
structure DefP where
  pth : PySem.W.Frag → Addr
  name : Str
  qual : Str
  params : Arguments
  body : List Stmt
  scope : Scope
  dfl : List He.Dv := []
def fnAt (K : PySem.W.Frag) (a : Addr) : He.FnW := match K.lookup a with
  | some ob => match ob.data with
    | .func fd => some (fd.name, fd.qualname, fd.params, fd.body, fd.scope, fd.globals, fd.closure, fd.builtins)
    | _ => none
  | none => none
def DefP.val (d : DefP) : He.FnW := some (d.name, d.qual, d.params, .stmts d.body, d.scope, mainGlobals, [], builtinsNs)
def codeD (K : PySem.W.Frag) (d : DefP) : Bool := match K.lookup (d.pth K) with
  | some ob => match ob.data with
    | .func fd => PySem.W.codeIn K fd.code d.qual && He.dflB K fd.defaults (d.dfl.map (He.Dv.v K))
    | _ => false
  | none => false
def DefP.chk (K : PySem.W.Frag) (d : DefP) : Bool := PySem.W.keepIn K (.ref (d.pth K)) && codeD K d
theorem DefP.funD {K : PySem.W.Frag} {d : DefP} (e : fnAt K (d.pth K) = d.val) (c : d.chk K = true) : ∃ fd, FunD K d.name d.qual d.params d.body d.scope (d.dfl.map (He.Dv.v K)) [] (d.pth K) fd := by
  obtain ⟨kp, c2⟩ := Bool.and_eq_true_iff.mp c
  cases q : K.lookup (d.pth K) with
  | none => simp only [codeD, q] at c2; cases c2
  | some ob =>
    obtain ⟨oc, od, dt, osl⟩ := ob
    cases dt with
    | func fd =>
      simp only [codeD, q] at c2
      simp only [fnAt, q] at e
      obtain ⟨k1, k3⟩ := Bool.and_eq_true_iff.mp c2
      obtain ⟨n1, n2, n3, n4, n5, n6, n7, n8, n9, n10, n11, n12, n13, n14, n15⟩ := fd
      simp only [DefP.val, Option.some.injEq, Prod.mk.injEq] at e
      obtain ⟨h1, h2, h3, h4, h5, h6, h7, h8⟩ := e
      subst h1 h2 h3 h4 h5 h6 h7 h8
      exact ⟨_, ⟨oc, od, n8, n9, n10, n11, n12, n13, n14, osl, rfl, q, k1, He.dflB_ok k3, .inl rfl⟩, kp⟩
    | _ => simp only [codeD, q] at c2; cases c2
/-! ### the Hook -/
def obsP (fs : List (PySem.W.Frag → Bool)) (fn : List DefP) (K : PySem.W.Frag) : Bool × List He.FnW := (fs.all (fun f => f K) && fn.all (fun d => d.chk K), fn.map fun d => fnAt K (d.pth K))
def SaysP (fs : List (PySem.W.Frag → Bool)) (fn : List DefP) (K : PySem.W.Frag) : Prop := obsP fs fn K = (true, fn.map DefP.val)
def obsPG (n : Nat) (fs : List (PySem.W.Frag → Bool)) (fn : List DefP) (g : Addr → Option Obj) : Bool × List He.FnW := obsP fs fn (He.frG g (cStatics :: He.asD g n))
def hookP (n : Nat) (fs : List (PySem.W.Frag → Bool)) (fn : List DefP) : PySem.W.Hook where
  α := Bool × List He.FnW
  obs := fun s => obsPG n fs fn s.heap.get?
  val := fun _ => (true, fn.map DefP.val)
  says := fun _ h => ∃ K : PySem.W.Frag, K.In h ∧ SaysP fs fn K
  of := fun _ _ e => ⟨_, He.frG_in, e⟩
  keeps := fun _ _ _ ⟨K, hK, c⟩ k => ⟨K, PySem.W.Frag.In.keeps hK k, c⟩
theorem obsPG_eq {n : Nat} {fs : List (PySem.W.Frag → Bool)} {fn : List DefP} {g : Addr → Option Obj} {s : Shared} (h : ∀ a, g a = s.heap.get? a) : obsPG n fs fn g = (hookP n fs fn).obs s := by
  have e : g = s.heap.get? := funext h
  rw [e] <;> rfl
section
variable {fs : List (PySem.W.Frag → Bool)} {fn : List DefP} {K : PySem.W.Frag}
theorem SaysP.fact (c : SaysP fs fn K) (i : Nat) {f : PySem.W.Frag → Bool} (h : fs[i]? = some f := by rfl) : f K = true := by
  have c1 : (fs.all (fun f => f K) && fn.all fun d => d.chk K) = true := congrArg (fun z : Bool × List He.FnW => z.1) c
  exact List.all_eq_true.mp (Bool.and_eq_true_iff.mp c1).1 f (List.mem_of_getElem? h)
theorem SaysP.def_ (c : SaysP fs fn K) (i : Nat) {d : DefP} (h : fn[i]? = some d := by rfl) : ∃ fd, FunD K d.name d.qual d.params d.body d.scope (d.dfl.map (He.Dv.v K)) [] (d.pth K) fd := by
  have c1 : (fs.all (fun f => f K) && fn.all fun d => d.chk K) = true := congrArg (fun z : Bool × List He.FnW => z.1) c
  have c2 : fn.map (fun d => fnAt K (d.pth K)) = fn.map DefP.val := congrArg (fun z : Bool × List He.FnW => z.2) c
  have e2 : (fn.map fun d => fnAt K (d.pth K))[i]? = (fn.map DefP.val)[i]? := by rw [c2]
  rw [List.getElem?_map, List.getElem?_map, h] at e2
  exact DefP.funD (Option.some.inj e2) (List.all_eq_true.mp (Bool.and_eq_true_iff.mp c1).2 d (List.mem_of_getElem? h))
end
/-! ### facts -/
abbrev pG (x : Str) : PySem.W.Frag → Addr := fun K => He.ga K x
abbrev pM (x m : Str) : PySem.W.Frag → Addr := fun K => He.ma K (He.ga K x) m
/-- the function under a property, a classmethod -/
def undr (K : PySem.W.Frag) (p : Addr) (T : String) : Addr := match PySem.W.recIn K p T with
  | some (.ref g :: _) => g
  | _ => 0
abbrev pP (x m : Str) : PySem.W.Frag → Addr := fun K => undr K (He.ma K (He.ga K x) m) "property"
abbrev pC (x m : Str) : PySem.W.Frag → Addr := fun K => undr K (He.ma K (He.ga K x) m) "classmethod"
def recB (K : PySem.W.Frag) (p : Addr) (T : String) : Bool := match PySem.W.recIn K p T with
  | some (.ref _ :: _) => true
  | _ => false
theorem recB_ok {K : PySem.W.Frag} {p : Addr} {T : String} (h : recB K p T = true) : ∃ rest, PySem.W.recIn K p T = some (.ref (undr K p T) :: rest) := by
  unfold recB at h
  split at h
  · rename_i g rest e
    exact ⟨rest, by rw [e]; unfold undr; rw [e]⟩
  · cases h
def fProp (x m : Str) : PySem.W.Frag → Bool := fun K => He.eqO (PySem.W.findIn K (.ref (He.ga K x)) m) (some (some (.ref (pM x m K)))) && (He.eqO (PySem.W.specialIn K (.ref (pM x m K)) "__get__") (some (some (.builtin "property.__get__"))) && (decide (PySem.W.takesIn K (.ref (pM x m K)) = some true) && recB K (pM x m K) "property"))
theorem fProp_ok {K : PySem.W.Frag} {x m : Str} (c : fProp x m K = true) : PropOf K (He.ga K x) m (pM x m K) (pP x m K) := by
  obtain ⟨c1, c⟩ := Bool.and_eq_true_iff.mp c
  obtain ⟨c2, c⟩ := Bool.and_eq_true_iff.mp c
  obtain ⟨c3, c4⟩ := Bool.and_eq_true_iff.mp c
  exact ⟨He.eqO_ok c1, He.eqO_ok c2, of_decide_eq_true c3, recB_ok c4⟩
def tyT : Value := .type "type"
def cfB (K : PySem.W.Frag) (x m : Str) : Bool := match PySem.W.findCls K (.ref (He.ga K x)) tyT m with
  | some (.get g a b c) => decide (g = .builtin "classmethod.__get__") && (decide (a = .ref (pM x m K)) && (decide (b = .none) && decide (c = .ref (He.ga K x))))
  | _ => false
def fCm (x m : Str) : PySem.W.Frag → Bool := fun K => PySem.W.readsIn K (He.ga K x) tyT && (He.eqO (PySem.W.specialIn K (.ref (He.ga K x)) "__getattribute__") (some (some (.builtin "type.__getattribute__"))) && (cfB K x m && (recB K (pM x m K) "classmethod" && PySem.W.fnIn K (pC x m K))))
theorem fCm_ok {K : PySem.W.Frag} {x m : Str} (c : fCm x m K = true) : ClX.CRead K (He.ga K x) tyT ∧ ClX.CMet K (He.ga K x) tyT m (pM x m K) (pC x m K) := by
  obtain ⟨c1, c⟩ := Bool.and_eq_true_iff.mp c
  obtain ⟨c2, c⟩ := Bool.and_eq_true_iff.mp c
  obtain ⟨c3, c⟩ := Bool.and_eq_true_iff.mp c
  obtain ⟨c4, c5⟩ := Bool.and_eq_true_iff.mp c
  refine ⟨⟨c1, He.eqO_ok c2⟩, ?_, recB_ok c4, c5⟩
  unfold cfB at c3
  split at c3
  · rename_i g a b c e
    obtain ⟨d1, c3⟩ := Bool.and_eq_true_iff.mp c3
    obtain ⟨d2, c3⟩ := Bool.and_eq_true_iff.mp c3
    obtain ⟨d3, d4⟩ := Bool.and_eq_true_iff.mp c3
    rw [e, of_decide_eq_true d1, of_decide_eq_true d2, of_decide_eq_true d3, of_decide_eq_true d4]
  · cases c3
def tys : List Ty := [.int, .str, .tup, .lst, .bool, .dict]
def fIsi (x : Str) : PySem.W.Frag → Bool := fun K => He.eqO (PySem.W.findIn K (.ref (He.ga K x)) "__class__") (some (some (.builtin "object.__class__"))) && (He.eqO (PySem.W.specialIn K (.builtin "object.__class__") "__get__") (some (some (.builtin "getset_descriptor.__get__"))) &&
  (decide (PySem.W.takesIn K (.builtin "object.__class__") = some true) && (decide (PySem.W.mroIn K (He.ga K x) (.type "object") = some true) && (decide (PySem.W.kitOne K (.ref (He.ga K x)) (.ref (He.ga K x)) = some true) &&
  (decide (PySem.W.kitOne K (.type "NoneType") (.ref (He.ga K x)) = some false) && tys.all fun t => decide (PySem.W.kitOne K (.type t.nm) (.ref (He.ga K x)) = some false))))))
theorem fIsi_ok {K : PySem.W.Frag} {T : Tab} {cn : Nat} {x : Str} (e : T.ca cn = He.ga K x) (cl : Cls K (He.ga K x)) (c : fIsi x K = true) : IsiF K T cn := by
  obtain ⟨c1, c⟩ := Bool.and_eq_true_iff.mp c
  obtain ⟨c2, c⟩ := Bool.and_eq_true_iff.mp c
  obtain ⟨c3, c⟩ := Bool.and_eq_true_iff.mp c
  obtain ⟨c4, c⟩ := Bool.and_eq_true_iff.mp c
  obtain ⟨c5, c⟩ := Bool.and_eq_true_iff.mp c
  obtain ⟨c6, c7⟩ := Bool.and_eq_true_iff.mp c
  refine ⟨?_, ?_, fun t => ?_⟩
  · rw [e]
    exact ⟨cl, He.eqO_ok c1, He.eqO_ok c2, of_decide_eq_true c3, of_decide_eq_true c4, of_decide_eq_true c5⟩
  · rw [e]
    exact of_decide_eq_true c6
  · rw [e]
    have := List.all_eq_true.mp c7 t (by cases t <;> decide)
    exact of_decide_eq_true this
abbrev fa (f : He.Fa) : PySem.W.Frag → Bool := fun K => f.ok K
end Pk

/-! The data layer, part Q: starred items, signs, short names for the printer. -/
namespace Pk
open PySem PySem.Spec PyProof.Rows L2
section
variable {X : Cx} {z : Zx} {pos p : Pos} {a b c e : Expr} {es : List Expr} {wa wb w : WE} {wr : WA}
def aStar (w : WE) (r : WA) : WA := fun ρ μ Q E => w ρ μ (fun x μ1 => match seqOf (look μ1 x) with
  | some xs => r ρ μ1 (fun ys μ2 => Q (xs ++ ys) μ2) E
  | none => False) E
theorem da_star (h : DE X z e w) (hr : DA X z es wr) (hs : starEach (.Starred e p :: es) X.env = (true, eval e X.env) :: starEach es X.env := by rfl) : DA X z (.Starred e p :: es) (aStar w wr) := fun Wd tk =>
  paI (StX.pa_star (h Wd tk) (hr Wd tk) hs) fun σ H Q ⟨F, m, μ, ρ, Qd, S, h, k⟩ => ⟨F, m, μ, ρ, _, S, h, fun F1 m1 μ1 d1 v1 H1 x1 S1 r1 q1 => by
    have vx := S1.view r1
    generalize look μ1 d1 = y at vx q1
    cases y with
    | lst xs =>
      obtain ⟨a, vs, rfl, h1, r2⟩ := vx.list S1.same
      exact ⟨a, vs, rfl, .inr (SqL.of h1), F1, m1, μ1, ρ, _, S1, q1, fun F2 m2 μ2 ds us H2 x2 S2 r3 q2 => k _ _ _ _ _ _ (x1.trans x2) S2 ((r2.mono x2.gr).append r3) q2⟩
    | tup xs =>
      obtain ⟨a, vs, rfl, h1, r2⟩ := vx.tup S1.same
      exact ⟨a, vs, rfl, .inl h1, F1, m1, μ1, ρ, _, S1, q1, fun F2 m2 μ2 ds us H2 x2 S2 r3 q2 => k _ _ _ _ _ _ (x1.trans x2) S2 ((r2.mono x2.gr).append r3) q2⟩
    | _ => exact q1.elim⟩
def wNeg (w : WE) : WE := fun ρ μ Q E => w ρ μ (fun x μ1 => match x with
  | .int i => Q (.int (-i)) μ1
  | _ => False) E
theorem de_neg (h : DE X z e w) : DE X z (.UnaryOp .USub e pos) (wNeg w) := fun Wd tk =>
  peI (pe_un un_neg (h Wd tk)) fun σ H Q ⟨F, m, μ, ρ, Qd, S, h, k⟩ => ⟨F, m, μ, ρ, _, S, h, fun F1 m1 μ1 d1 v1 H1 x1 S1 r1 q1 => by
    cases r1 with
    | int => exact ⟨_, rfl, k _ _ _ _ _ _ x1 S1 .int q1⟩
    | _ => exact q1.elim⟩
/-- a ** b, small -/
def powZ (i : Int) : Nat → Int
  | 0 => 1
  | n + 1 => powZ i n * i
def powD : D → D → Option D
  | .int i, .int j => match decide (0 ≤ j) && (decide (j ≤ 1000) && Nat.blt i.natAbs 18446744073709551616) with
    | true => some (.int (powZ i j.toNat))
    | false => none
  | _, _ => none
theorem powZ_eq (i : Int) : ∀ n, powZ i n = i ^ n
  | 0 => by rw [powZ, Int.pow_zero]
  | n + 1 => by rw [powZ, powZ_eq i n, Int.pow_succ]
theorem okPow : OpD X z (rI CPow fun i j => V.int (i ^ j.toNat)) powD := by
  intro F m μ ρ σ H x y v u d Qd Q S vx vy e q k
  unfold powD at e
  split at e
  · rename_i i j
    split at e
    · rename_i h
      injection e with e
      subst e
      rw [Bool.and_eq_true, Bool.and_eq_true] at h
      have h1 := of_decide_eq_true h.1
      have h2 := of_decide_eq_true h.2.1
      have h3 := Nat.le_of_ble_eq_true h.2.2
      refine ⟨i, j, vx.int, vy.int, ⟨h1, by omega, h3⟩, ?_⟩
      show Q (.int (i ^ j.toNat)) H
      rw [← powZ_eq]
      exact k.now S .int q
    · cases e
  · cases e
theorem o_pow (ha : DE X z a wa) (hb : DE X z b wb) : DE X z (.BinOp a .Pow b pos) (w2 powD wa wb) := de_op op_pow okPow ha hb
/-! ### short names -/
theorem hu65 {k : Nat} {A : Around} (r : Room k A) : A.units + 65 < cLine := by have := r.un; omega
theorem hu64 {k : Nat} {A : Around} (r : Room k A) : A.units + 64 < cLine := by have := r.un; omega
theorem hu1 {k : Nat} {A : Around} (r : Room k A) : A.units + 1 < cLine := by have := r.un; omega
theorem vr (i : Nat) {x : Str} (hN : X.N[i]? = some x := by rfl) (hv : Vis X.env.scope x := by first | exact Or.inl rfl | exact Or.inr (Or.inl rfl) | exact Or.inr (Or.inr rfl)) (hd : (x == ("__debug__" : Str)) = false := by decide) (hcd : (x == ("__classdict__" : Str)) = false := by decide) : DE X z (.Name x pos) (wVar i) := de_var hN hv hd hcd
theorem gn (i : Nat) {x : Str} (nd : X.N.Nodup) (hi : X.N[i]? = some x := by rfl) (hx : Loc X.env.scope x := by first | exact Or.inl rfl | exact Or.inr rfl) (hf : X.fn x = true ∨ X.env.scope.names.lookup x = some .local := by first | exact .inl rfl | exact .inr rfl) : DG X z (.Name x pos) (gN i) [i] := dg_name nd hi hx hf
theorem gn2 (i : Nat) {x : Str} (nd : X.N.Nodup) (hi : X.N[i]? = some x := by rfl) (hx : Loc X.env.scope x := by first | exact Or.inl rfl | exact Or.inr rfl) (hf : X.fn x = true ∨ X.env.scope.names.lookup x = some .local := by first | exact .inl rfl | exact .inr rfl) : DG2 X z (.Name x pos) (g2N i) := d2_name nd hi hx hf
theorem cmp_eq (hu : X.A.units + 64 < cLine) (ha : DE X z a wa) (hb : DE X z b wb) (hm : behindInMarks .Eq b = false := by rfl) : DE X z (.Compare a [.Eq] [b] pos) (w2 eqqD wa wb) := de_cmp (op_eqD hu) okEq hm ha hb
theorem cmp_ne (hu : X.A.units + 64 < cLine) (ha : DE X z a wa) (hb : DE X z b wb) (hm : behindInMarks .NotEq b = false := by rfl) : DE X z (.Compare a [.NotEq] [b] pos) (w2 neqD wa wb) := de_cmp (op_neD hu) okNe hm ha hb
theorem cmp_lt (ha : DE X z a wa) (hb : DE X z b wb) (hm : behindInMarks .Lt b = false := by rfl) : DE X z (.Compare a [.Lt] [b] pos) (w2 ltD wa wb) := de_cmp op_lt okLt hm ha hb
theorem cmp_le (ha : DE X z a wa) (hb : DE X z b wb) (hm : behindInMarks .LtE b = false := by rfl) : DE X z (.Compare a [.LtE] [b] pos) (w2 leD wa wb) := de_cmp op_le okLe hm ha hb
theorem cmp_gt (ha : DE X z a wa) (hb : DE X z b wb) (hm : behindInMarks .Gt b = false := by rfl) : DE X z (.Compare a [.Gt] [b] pos) (w2 gtD wa wb) := de_cmp op_gt okGt hm ha hb
theorem cmp_ge (ha : DE X z a wa) (hb : DE X z b wb) (hm : behindInMarks .GtE b = false := by rfl) : DE X z (.Compare a [.GtE] [b] pos) (w2 geD wa wb) := de_cmp op_ge okGe hm ha hb
theorem cmp_is (ha : DE X z a wa) (hb : DE X z b wb) (hm : behindInMarks .Is b = false := by rfl) : DE X z (.Compare a [.Is] [b] pos) (w2 isD wa wb) := de_cmp orIs okIs hm ha hb
theorem cmp_isnot (ha : DE X z a wa) (hb : DE X z b wb) (hm : behindInMarks .IsNot b = false := by rfl) : DE X z (.Compare a [.IsNot] [b] pos) (w2 isnotD wa wb) := de_cmp orIsnot okIsnot hm ha hb
theorem cmp_in (hu : X.A.units + 65 < cLine) (ha : DE X z a wa) (hb : DE X z b wb) (hm : behindInMarks .In b = false := by rfl) : DE X z (.Compare a [.In] [b] pos) (w2 inD wa wb) := de_cmp (orIn hu) okIn1 hm ha hb
theorem cmp_nin (hu : X.A.units + 65 < cLine) (ha : DE X z a wa) (hb : DE X z b wb) (hm : behindInMarks .NotIn b = false := by rfl) : DE X z (.Compare a [.NotIn] [b] pos) (w2 ninD wa wb) := de_cmp (orNin hu) okNin1 hm ha hb
theorem t_eq (hu : X.A.units + 64 < cLine) (ha : DE X z a wa) (hb : DE X z b wb) (hm : behindInMarks .Eq b = false := by rfl) : DT X z (.Compare a [.Eq] [b] pos) (tBl (w2 eqqD wa wb)) := dt_cmp (op_eqD hu) okEq hm ha hb
theorem t_ne (hu : X.A.units + 64 < cLine) (ha : DE X z a wa) (hb : DE X z b wb) (hm : behindInMarks .NotEq b = false := by rfl) : DT X z (.Compare a [.NotEq] [b] pos) (tBl (w2 neqD wa wb)) := dt_cmp (op_neD hu) okNe hm ha hb
theorem t_lt (ha : DE X z a wa) (hb : DE X z b wb) (hm : behindInMarks .Lt b = false := by rfl) : DT X z (.Compare a [.Lt] [b] pos) (tBl (w2 ltD wa wb)) := dt_cmp op_lt okLt hm ha hb
theorem t_le (ha : DE X z a wa) (hb : DE X z b wb) (hm : behindInMarks .LtE b = false := by rfl) : DT X z (.Compare a [.LtE] [b] pos) (tBl (w2 leD wa wb)) := dt_cmp op_le okLe hm ha hb
theorem t_gt (ha : DE X z a wa) (hb : DE X z b wb) (hm : behindInMarks .Gt b = false := by rfl) : DT X z (.Compare a [.Gt] [b] pos) (tBl (w2 gtD wa wb)) := dt_cmp op_gt okGt hm ha hb
theorem t_ge (ha : DE X z a wa) (hb : DE X z b wb) (hm : behindInMarks .GtE b = false := by rfl) : DT X z (.Compare a [.GtE] [b] pos) (tBl (w2 geD wa wb)) := dt_cmp op_ge okGe hm ha hb
theorem t_is (ha : DE X z a wa) (hb : DE X z b wb) (hm : behindInMarks .Is b = false := by rfl) : DT X z (.Compare a [.Is] [b] pos) (tBl (w2 isD wa wb)) := dt_cmp orIs okIs hm ha hb
theorem t_isnot (ha : DE X z a wa) (hb : DE X z b wb) (hm : behindInMarks .IsNot b = false := by rfl) : DT X z (.Compare a [.IsNot] [b] pos) (tBl (w2 isnotD wa wb)) := dt_cmp orIsnot okIsnot hm ha hb
theorem t_in (hu : X.A.units + 65 < cLine) (ha : DE X z a wa) (hb : DE X z b wb) (hm : behindInMarks .In b = false := by rfl) : DT X z (.Compare a [.In] [b] pos) (tBl (w2 inD wa wb)) := dt_cmp (orIn hu) okIn1 hm ha hb
theorem t_nin (hu : X.A.units + 65 < cLine) (ha : DE X z a wa) (hb : DE X z b wb) (hm : behindInMarks .NotIn b = false := by rfl) : DT X z (.Compare a [.NotIn] [b] pos) (tBl (w2 ninD wa wb)) := dt_cmp (orNin hu) okNin1 hm ha hb
theorem o_add (ha : DE X z a wa) (hb : DE X z b wb) : DE X z (.BinOp a .Add b pos) (w2 addD wa wb) := de_op orAdd okAdd ha hb
theorem o_sub (ha : DE X z a wa) (hb : DE X z b wb) : DE X z (.BinOp a .Sub b pos) (w2 subD wa wb) := de_op op_sub okSub ha hb
theorem o_mul (ha : DE X z a wa) (hb : DE X z b wb) : DE X z (.BinOp a .Mult b pos) (w2 mulD wa wb) := de_op orMul okMul ha hb
theorem o_fdiv (ha : DE X z a wa) (hb : DE X z b wb) : DE X z (.BinOp a .FloorDiv b pos) (w2 fdivD wa wb) := de_op op_fdiv okFdiv ha hb
theorem o_mod (ha : DE X z a wa) (hb : DE X z b wb) : DE X z (.BinOp a .Mod b pos) (w2 modD wa wb) := de_op op_mod okMod ha hb
end
/-! ### builtins, called -/
section
variable {X : Cx} {z : Zx} {p pos : Pos} {e e2 : Expr} {es : List Expr} {wa : WA}
theorem k_len (hm : X.mg "len" = none) (ha : DA X z [e] wa) (hg : Gl X "len" := by rfl) (he : starEach [e] X.env = (false, eval e X.env) :: starEach [] X.env := by rfl) (hpl : (backTo pos (starEach [] X.env)).any (·.1) = false := by rfl) : DE X z (.Call (.Name "len" p) [e] [] pos) (wBu (b1 lenD) wa) := de_callB c_len ok_len hg hm ha (he := he) (hpl := hpl)
theorem k_all (hc : X.calm = true) (hm : X.mg "all" = none) (ha : DA X z [e] wa) (hg : Gl X "all" := by rfl) (he : starEach [e] X.env = (false, eval e X.env) :: starEach [] X.env := by rfl) (hpl : (backTo pos (starEach [] X.env)).any (·.1) = false := by rfl) : DE X z (.Call (.Name "all" p) [e] [] pos) (wBu (b1 allD) wa) := de_callB (cr_all hc) ok_all hg hm ha (he := he) (hpl := hpl)
theorem k_any (hc : X.calm = true) (hm : X.mg "any" = none) (ha : DA X z [e] wa) (hg : Gl X "any" := by rfl) (he : starEach [e] X.env = (false, eval e X.env) :: starEach [] X.env := by rfl) (hpl : (backTo pos (starEach [] X.env)).any (·.1) = false := by rfl) : DE X z (.Call (.Name "any" p) [e] [] pos) (wBu (b1 anyD) wa) := de_callB (cr_any hc) ok_any hg hm ha (he := he) (hpl := hpl)
theorem k_sum (hc : X.calm = true) (hm : X.mg "sum" = none) (ha : DA X z [e] wa) (hg : Gl X "sum" := by rfl) (he : starEach [e] X.env = (false, eval e X.env) :: starEach [] X.env := by rfl) (hpl : (backTo pos (starEach [] X.env)).any (·.1) = false := by rfl) : DE X z (.Call (.Name "sum" p) [e] [] pos) (wBu (b1 sumD) wa) := de_callB (cr_sum hc) ok_sum hg hm ha (he := he) (hpl := hpl)
theorem k_abs (hm : X.mg "abs" = none) (ha : DA X z [e] wa) (hg : Gl X "abs" := by rfl) (he : starEach [e] X.env = (false, eval e X.env) :: starEach [] X.env := by rfl) (hpl : (backTo pos (starEach [] X.env)).any (·.1) = false := by rfl) : DE X z (.Call (.Name "abs" p) [e] [] pos) (wBu (b1 absD) wa) := de_callB call_abs ok_abs hg hm ha (he := he) (hpl := hpl)
theorem k_sorted (own : Bool) (hm : X.mg "sorted" = none) (ha : DA X z [e] wa) (hg : Gl X "sorted" := by rfl) (he : starEach [e] X.env = (false, eval e X.env) :: starEach [] X.env := by rfl) (hpl : (backTo pos (starEach [] X.env)).any (·.1) = false := by rfl) : DE X z (.Call (.Name "sorted" p) [e] [] pos) (wBu (b1L own sortedD) wa) := de_callB cr_sortedI ok_sorted hg hm ha (he := he) (hpl := hpl)
theorem k_isi (hm : X.mg "isinstance" = none) (ha : DA X z [e, e2] wa) (hg : Gl X "isinstance" := by rfl) (he : starEach [e, e2] X.env = (false, eval e X.env) :: starEach [e2] X.env := by rfl) (hpl : (backTo pos (starEach [e2] X.env)).any (·.1) = false := by rfl) : DE X z (.Call (.Name "isinstance" p) [e, e2] [] pos) (wBu (b2' isiD) wa) := de_callB call_isi ok_isi hg hm ha (he := he) (hpl := hpl)
theorem k_isiC {cn : Nat} (I : IsiF X.K z.T cn) (hm : X.mg "isinstance" = none) (ha : DA X z [e, e2] wa) (hg : Gl X "isinstance" := by rfl) (he : starEach [e, e2] X.env = (false, eval e X.env) :: starEach [e2] X.env := by rfl) (hpl : (backTo pos (starEach [e2] X.env)).any (·.1) = false := by rfl) : DE X z (.Call (.Name "isinstance" p) [e, e2] [] pos) (wBu (b2' (isiC cn)) wa) := de_callB call_isi (ok_isiC I) hg hm ha (he := he) (hpl := hpl)
theorem k_divmod (hm : X.mg "divmod" = none) (ha : DA X z [e, e2] wa) (hg : Gl X "divmod" := by rfl) (he : starEach [e, e2] X.env = (false, eval e X.env) :: starEach [e2] X.env := by rfl) (hpl : (backTo pos (starEach [e2] X.env)).any (·.1) = false := by rfl) : DE X z (.Call (.Name "divmod" p) [e, e2] [] pos) (wBu (b2' divmodD) wa) := de_callB call_divmod ok_divmod hg hm ha (he := he) (hpl := hpl)
theorem k_max2 (hc : X.calm = true) (hm : X.mg "max" = none) (ha : DA X z [e, e2] wa) (hg : Gl X "max" := by rfl) (he : starEach [e, e2] X.env = (false, eval e X.env) :: starEach [e2] X.env := by rfl) (hpl : (backTo pos (starEach [e2] X.env)).any (·.1) = false := by rfl) : DE X z (.Call (.Name "max" p) [e, e2] [] pos) (wBu (b2' maxD) wa) := de_callB (call_max2 hc) ok_max2 hg hm ha (he := he) (hpl := hpl)
theorem k_min2 (hc : X.calm = true) (hm : X.mg "min" = none) (ha : DA X z [e, e2] wa) (hg : Gl X "min" := by rfl) (he : starEach [e, e2] X.env = (false, eval e X.env) :: starEach [e2] X.env := by rfl) (hpl : (backTo pos (starEach [e2] X.env)).any (·.1) = false := by rfl) : DE X z (.Call (.Name "min" p) [e, e2] [] pos) (wBu (b2' minD) wa) := de_callB (call_min2 hc) ok_min2 hg hm ha (he := he) (hpl := hpl)
theorem k_int (hm : X.mg "int" = none) (ha : DA X z [e] wa) (hg : Gl X "int" := by rfl) (he : starEach [e] X.env = (false, eval e X.env) :: starEach [] X.env := by rfl) (hpl : (backTo pos (starEach [] X.env)).any (·.1) = false := by rfl) : DE X z (.Call (.Name "int" p) [e] [] pos) (wBu (b1 intD) wa) := de_callTy c_int ok_int hg hm ha (he := he) (hpl := hpl)
theorem k_str (hm : X.mg "str" = none) (ha : DA X z [e] wa) (hg : Gl X "str" := by rfl) (he : starEach [e] X.env = (false, eval e X.env) :: starEach [] X.env := by rfl) (hpl : (backTo pos (starEach [] X.env)).any (·.1) = false := by rfl) : DE X z (.Call (.Name "str" p) [e] [] pos) (wBu (b1 strI) wa) := de_callTy call_str_int ok_str hg hm ha (he := he) (hpl := hpl)
theorem k_list (own : Bool) (hc : X.calm = true) (hm : X.mg "list" = none) (ha : DA X z [e] wa) (hg : Gl X "list" := by rfl) (he : starEach [e] X.env = (false, eval e X.env) :: starEach [] X.env := by rfl) (hpl : (backTo pos (starEach [] X.env)).any (·.1) = false := by rfl) : DE X z (.Call (.Name "list" p) [e] [] pos) (wBu (b1L own itemsOf) wa) := de_callTy (c_list hc) ok_list hg hm ha (he := he) (hpl := hpl)
theorem k_tuple (hm : X.mg "tuple" = none) (ha : DA X z [e] wa) (hg : Gl X "tuple" := by rfl) (he : starEach [e] X.env = (false, eval e X.env) :: starEach [] X.env := by rfl) (hpl : (backTo pos (starEach [] X.env)).any (·.1) = false := by rfl) : DE X z (.Call (.Name "tuple" p) [e] [] pos) (wBu (b1 tupD) wa) := de_callTy call_tuple_of ok_tuple hg hm ha (he := he) (hpl := hpl)
theorem k_dict (own : Bool) (hc : X.calm = true) (hm : X.mg "dict" = none) (ha : DA X z [e] wa) (hg : Gl X "dict" := by rfl) (he : starEach [e] X.env = (false, eval e X.env) :: starEach [] X.env := by rfl) (hpl : (backTo pos (starEach [] X.env)).any (·.1) = false := by rfl) : DE X z (.Call (.Name "dict" p) [e] [] pos) (wBu (bDict own) wa) := de_callTy (c_dict own hc) ok_dict hg hm ha (he := he) (hpl := hpl)
end
end Pk

/-! The data layer, part R: defs with their promises, for the printer. -/
namespace Pk
open PySem PySem.Spec PyProof.Rows L2
structure OkF (P : Program) (w0 : World) (K : PySem.W.Frag) (mg : Str → Option Value) (base : Heap) (T : Tab) (k : Nat) (a : Addr) (ps : List Str) (c : Con) : Prop where
  ex : ∃ fd, FnC P w0 K mg base T k a fd ps c ∧ Binds K fd ps [] ∧ PySem.W.keepIn K (.ref a) = true
section
variable {X : Cx} {z : Zx} {k cn n : Nat} {a g p0 : Addr} {ps : List Str} {c : Con} {x m : Str} {p pos apos : Pos} {e o : Expr} {es : List Expr} {wo : WE} {wa : WA} {mc : Value}
theorem c_fn (ok : OkF X.prog X.w X.K X.mg X.base z.T k a ps c) (hr : Room k X.A) (hm : X.mg x = some (.ref a)) (ha : DA X z (e :: es) wa) (hg : Gl X x := by rfl)
    (hdb : (x == ("__debug__" : Str)) = false := by decide) (he : starEach (e :: es) X.env = (false, eval e X.env) :: starEach es X.env := by rfl) (hpl : (backTo pos (starEach es X.env)).any (·.1) = false := by rfl) (hn : ps.length = n := by rfl) : DE X z (.Call (.Name x p) (e :: es) [] pos) (wCallN c n [] wa) := by
  subst hn
  obtain ⟨fd, F, b, kp⟩ := ok.ex
  exact de_call F hr hg hm kp b .nil (fun _ _ => .nil) ha hdb he hpl
theorem c_fn0 (ok : OkF X.prog X.w X.K X.mg X.base z.T k a [] c) (hr : Room k X.A) (hm : X.mg x = some (.ref a)) (hg : Gl X x := by rfl) (hdb : (x == ("__debug__" : Str)) = false := by decide) : DE X z (.Call (.Name x p) [] [] pos) (wCallN c 0 [] aNil) := by
  obtain ⟨fd, F, b, kp⟩ := ok.ex
  exact de_call0 F hr hg hm kp b rfl hdb
theorem c_mk (ok : OkF X.prog X.w X.K X.mg X.base z.T k a ps c) (M : Mk X.K (z.T.ca cn) a) (hr : Room (k + 1) X.A) (hm : X.mg x = some (.ref (z.T.ca cn))) (ha : DA X z (e :: es) wa) (hg : Gl X x := by rfl)
    (hdb : (x == ("__debug__" : Str)) = false := by decide) (he : starEach (e :: es) X.env = (false, eval e X.env) :: starEach es X.env := by rfl) (hpl : (backTo pos (starEach es X.env)).any (·.1) = false := by rfl) (hn : ps.length = n := by rfl) : DE X z (.Call (.Name x p) (e :: es) [] pos) (wMake cn c n [] wa) := by
  subst hn
  obtain ⟨fd, F, b, kp⟩ := ok.ex
  exact de_make M F hr hg hm b .nil (fun _ _ => .nil) ha hdb he hpl
theorem c_mkL (i : Nat) (ok : OkF X.prog X.w X.K X.mg X.base z.T k a ps c) (M : Mk X.K (z.T.ca cn) a) (hr : Room (k + 1) X.A) (ha : DA X z (e :: es) wa) (hN : X.N[i]? = some x := by rfl) (hv : Vis X.env.scope x := by first | exact Or.inl rfl | exact Or.inr (Or.inl rfl) | exact Or.inr (Or.inr rfl))
    (hdb : (x == ("__debug__" : Str)) = false := by decide) (hcd : (x == ("__classdict__" : Str)) = false := by decide) (he : starEach (e :: es) X.env = (false, eval e X.env) :: starEach es X.env := by rfl) (hpl : (backTo pos (starEach es X.env)).any (·.1) = false := by rfl) (hn : ps.length = n := by rfl) : DE X z (.Call (.Name x p) (e :: es) [] pos) (wMakeL i cn c n [] wa) := by
  subst hn
  obtain ⟨fd, F, b, kp⟩ := ok.ex
  exact de_makeL M F hr b .nil (fun _ _ => .nil) hN hv ha hdb hcd he hpl
theorem c_me {pl : Sem Bool} (ok : OkF X.prog X.w X.K X.mg X.base z.T k a ps c) (mf : MethF X.K z.T cn m a) (hr : Room k X.A) (ho : DE X z o wo) (ha : DA X z (e :: es) wa)
    (hst : starEach (e :: es) X.env = (false, eval e X.env) :: starEach es X.env := by rfl) (hpl : (backTo pos (starEach es X.env)).any (·.1) = false := by rfl)
    (ht : eval (.Call (.Attribute o m apos) (e :: es) [] pos) X.env = (eval o X.env >>= fun ov => standAt apos.atName >>= fun _ => holding [ov] (getMethod ov m pl) >>= fun r => callWith pos r.1 r.2 (backTo pos (starEach (e :: es) X.env)) (backToKw pos (keywordEach [] X.env))) := by rfl) (hn : ps.length = n := by rfl) :
    DE X z (.Call (.Attribute o m apos) (e :: es) [] pos) (wMeth cn c n wo wa) := by
  subst hn
  obtain ⟨fd, F, b, kp⟩ := ok.ex
  exact de_meth mf F hr b ho ha hst hpl ht
theorem c_me0 {pl : Sem Bool} (ok : OkF X.prog X.w X.K X.mg X.base z.T k a ps c) (mf : MethF X.K z.T cn m a) (hr : Room k X.A) (ho : DE X z o wo)
    (ht : eval (.Call (.Attribute o m apos) [] [] pos) X.env = (eval o X.env >>= fun ov => standAt apos.atName >>= fun _ => holding [ov] (getMethod ov m pl) >>= fun r => callWith pos r.1 r.2 (backTo pos (starEach [] X.env)) (backToKw pos (keywordEach [] X.env))) := by rfl) (hn : ps.length = n := by rfl) :
    DE X z (.Call (.Attribute o m apos) [] [] pos) (wMeth cn c n wo aNil) := by
  subst hn
  obtain ⟨fd, F, b, kp⟩ := ok.ex
  exact de_meth0 mf F hr b ho ht
theorem c_pr (ok : OkF X.prog X.w X.K X.mg X.base z.T k g [x] c) (pf : PropF X.K z.T cn m p0 g) (hr : Room (k + 1) X.A) (ho : DE X z o wo) (hab : attributeBase o m X.env (eval o X.env) = eval o X.env := by rfl) : DE X z (.Attribute o m pos) (wProp cn c wo) := by
  obtain ⟨fd, F, b, kp⟩ := ok.ex
  exact de_prop pf F hr b ho hab
theorem c_cm {pl : Sem Bool} (ok : OkF X.prog X.w X.K X.mg X.base z.T k g ps c) (r : ClX.CRead X.K (z.T.ca cn) mc ∧ ClX.CMet X.K (z.T.ca cn) mc m p0 g) (hr : Room k X.A) (ho : DE X z o wo) (ha : DA X z (e :: es) wa)
    (hst : starEach (e :: es) X.env = (false, eval e X.env) :: starEach es X.env := by rfl) (hpl : (backTo pos (starEach es X.env)).any (·.1) = false := by rfl)
    (ht : eval (.Call (.Attribute o m apos) (e :: es) [] pos) X.env = (eval o X.env >>= fun ov => standAt apos.atName >>= fun _ => holding [ov] (getMethod ov m pl) >>= fun r => callWith pos r.1 r.2 (backTo pos (starEach (e :: es) X.env)) (backToKw pos (keywordEach [] X.env))) := by rfl) (hn : ps.length = n := by rfl) :
    DE X z (.Call (.Attribute o m apos) (e :: es) [] pos) (wCMeth cn c n wo wa) := by
  subst hn
  obtain ⟨fd, F, b, kp⟩ := ok.ex
  exact de_cmeth r.1 r.2 F hr b ho ha hst hpl ht
end
/-! ### of the text -/
def clsBody : Stmt → List Stmt
  | .ClassDef (body := b) .. => b
  | _ => []
def nth (l : List Stmt) (i : Nat) : Stmt := l.getD i (.Pass ⟨0, 0, 0, 0⟩)
theorem fld_of {K : PySem.W.Frag} {T : Tab} {c : Nat} {f : Str} {j : Nat} (cl : Cls K (T.ca c)) (na : NoAttr K (T.ca c) f) (ix : fldIx f (T.fn c) = some j) (few : (T.fn c).length < 1000) : FldF K T c f j := ⟨cl, na, ix, few⟩
section
variable {X : Cx} {z : Zx} {apos pos : Pos} {o e : Expr} {wo : WE} {wa : WA}
theorem m_split (own : Bool) (ho : DE X z o wo) (ha : DA X z [e] wa) (hbase : attributeBase o "split" X.env (eval o X.env) = eval o X.env := by rfl)
    (hfew : ((backTo pos (starEach [e] X.env)).all (fun x => !x.1) && (backToKw pos (keywordEach [] X.env)).all (fun x => x.1.isSome) && decide ([e].length + ([] : List Keyword).length + (if ([] : List Keyword).isEmpty then 0 else 1) < 30)) = true := by rfl)
    (hline : (apos.endLine == pos.line) = true := by rfl) (hs : starEach [e] X.env = (false, eval e X.env) :: starEach [] X.env := by rfl) (hplain : (backTo pos (starEach [] X.env)).any (·.1) = false := by rfl) :
    DE X z (.Call (.Attribute o "split" apos) [e] [] pos) (wMe isS (splF own) wo wa) := de_bm PySem.F.plainAttrs_str PySem.F.slot_str_split PySem.F.type_str_split mt_split ty_str ok_split ho ha hbase hfew hline hs hplain
theorem m_join (ho : DE X z o wo) (ha : DA X z [e] wa) (hbase : attributeBase o "join" X.env (eval o X.env) = eval o X.env := by rfl)
    (hfew : ((backTo pos (starEach [e] X.env)).all (fun x => !x.1) && (backToKw pos (keywordEach [] X.env)).all (fun x => x.1.isSome) && decide ([e].length + ([] : List Keyword).length + (if ([] : List Keyword).isEmpty then 0 else 1) < 30)) = true := by rfl)
    (hline : (apos.endLine == pos.line) = true := by rfl) (hs : starEach [e] X.env = (false, eval e X.env) :: starEach [] X.env := by rfl) (hplain : (backTo pos (starEach [] X.env)).any (·.1) = false := by rfl) :
    DE X z (.Call (.Attribute o "join" apos) [e] [] pos) (wMe isS joinF wo wa) := de_bm PySem.F.plainAttrs_str PySem.F.slot_str_join PySem.F.type_str_join mt_join ty_str ok_join ho ha hbase hfew hline hs hplain
theorem m_append (ho : DE X z o wo) (ha : DA X z [e] wa) (hbase : attributeBase o "append" X.env (eval o X.env) = eval o X.env := by rfl)
    (hfew : ((backTo pos (starEach [e] X.env)).all (fun x => !x.1) && (backToKw pos (keywordEach [] X.env)).all (fun x => x.1.isSome) && decide ([e].length + ([] : List Keyword).length + (if ([] : List Keyword).isEmpty then 0 else 1) < 30)) = true := by rfl)
    (hline : (apos.endLine == pos.line) = true := by rfl) (hs : starEach [e] X.env = (false, eval e X.env) :: starEach [] X.env := by rfl) (hplain : (backTo pos (starEach [] X.env)).any (·.1) = false := by rfl) :
    DE X z (.Call (.Attribute o "append" apos) [e] [] pos) (wMe isL appF wo wa) := de_bm PySem.F.plainAttrs_list PySem.F.slot_list_append PySem.F.type_list_append mt_append ty_list ok_app ho ha hbase hfew hline hs hplain
theorem m_index (hu : X.A.units + 65 < cLine) (ho : DE X z o wo) (ha : DA X z [e] wa) (hbase : attributeBase o "index" X.env (eval o X.env) = eval o X.env := by rfl)
    (hfew : ((backTo pos (starEach [e] X.env)).all (fun x => !x.1) && (backToKw pos (keywordEach [] X.env)).all (fun x => x.1.isSome) && decide ([e].length + ([] : List Keyword).length + (if ([] : List Keyword).isEmpty then 0 else 1) < 30)) = true := by rfl)
    (hline : (apos.endLine == pos.line) = true := by rfl) (hs : starEach [e] X.env = (false, eval e X.env) :: starEach [] X.env := by rfl) (hplain : (backTo pos (starEach [] X.env)).any (·.1) = false := by rfl) :
    DE X z (.Call (.Attribute o "index" apos) [e] [] pos) (wMe isL idxF wo wa) := de_bm PySem.F.plainAttrs_list PySem.F.slot_list_index PySem.F.type_list_index (mt_indexD hu) ty_list ok_idx ho ha hbase hfew hline hs hplain
end
end Pk

/-! The data layer, part S: the law's end. -/
namespace Pk
open PySem PySem.Spec PyProof.Rows L2
def E00 : XK := fun _ _ _ => False
def CX00 : CXT := fun _ _ _ _ _ _ => False
theorem calmOk {P : Program} {w0 : World} {K : PySem.W.Frag} {mg : Str → Option Value} {base : Heap} {k : Nat} {f : Addr} {fd : FuncData} {ps : List Str} {sp : Sp} (F : FnOk P w0 K mg base (L2.CX P w0) k f fd ps sp) :
    FnOk P w0 K mg base CX00 k f fd ps (fun vs H Q _ => sp vs H Q E00) :=
  ⟨fun vs H Q E h => F.len vs H Q _ h, fun A outer s H args us vs Q E hr he hb hv hs => codeAny_mono (F.run A outer s H args us vs Q E00 hr he hb hv hs) fun r s' hq => by
    cases r with
    | error e =>
      obtain ⟨_, _, _, _, _, _, _, _, _, _, _, _, z⟩ := (show L2.CX P w0 outer H s E00 e s' from hq)
      exact z.elim
    | ok fl => cases fl <;> exact hq⟩
/-- the end of a law: its promise, from the caller's own place -/
theorem law_callG {P : Program} {w0 : World} {K : PySem.W.Frag} {mg mz : Str → Option Value} {CX : CXT} {k : Nat} {f p : Addr} {fd : FuncData} {nm : Str} {sp : Sp} {t : Shared} {us : List Value} {is : List Int}
    (inK : K.In t.heap) (gl : t.heap.Ns mainGlobals mg) (bl : t.heap.Ns builtinsNs mz) (bb : ∀ y : Str, y ≠ "__name__" → mz y = bootBuiltins y) (nl : t.heap.NoLimit) (ng : t.gens = #[])
    (at_ : t.heap.get? p = some { cls := .type "list", data := .seq us.toArray }) (ia : IntsAre us is) (sz : is.length ≤ sizeLine) (rm : Room k callerA)
    (Fo : ∀ b : Heap, K.In b → b.Ns mainGlobals mg → FnOk P w0 K mg b CX k f fd [nm] sp) (bd : ∀ (s : Shared) (u : Value), BindsTo s fd ⟨[u], []⟩ [(nm, u)])
    (go : ∀ G : Hp, Only G → SqL K G p (is.map V.int) → sp [.ref p] G (fun v _ => v = .bl true) fun _ _ _ => False)
    (nx : ∀ G e t', CX [] G t (fun _ _ _ => False) e t' → False) :
    codeAny (model P w0) callerA (.call (.ref f) ⟨[.ref p], []⟩) (fun r t' => r = .ok (.ret (.bool true)) ∧ OldK t.heap t'.heap ∧ t'.os = t.os ∧ AllBare t'.gens) t := by
  have vi := vals_ints ia
  -- what is known of the abstract heap: at most the script is tracked
  have main : ∀ G : Hp, (∀ b, G b = none ∨ b = p ∧ ∃ o xs, G b = some (.frz o (.lst xs))) → SqL K G p (is.map V.int) → HOk P w0 G t.heap → (G p = none ∨ K.lookup p = none) →
      codeAny (model P w0) callerA (.call (.ref f) ⟨[.ref p], []⟩) (fun r t' => r = .ok (.ret (.bool true)) ∧ OldK t.heap t'.heap ∧ t'.os = t.os ∧ AllBare t'.gens) t := by
    intro G only sq ok kp
    have keepD : ∀ {b : Addr} {m : Str → Option Value}, t.heap.Ns b m → (hidT t.heap G).Ns b m := by
      rintro b m ⟨o, xs, n, e, d, r⟩
      refine ⟨o, xs, n, hidT_get e ((only b).resolve_right ?_), d, r⟩
      rintro ⟨rfl, _⟩
      cases Option.some.inj (at_.symm.trans e)
      exact absurd d (by simp)
    have inH : K.In (hidT t.heap G) := fun b o e => hidT_get (inK b o e) ((only b).elim id fun ⟨q, _⟩ => by
      subst q
      rcases kp with n | n
      · exact n
      · exact absurd (e.symm.trans n) (by simp))
    have env : Env0 P w0 K mg (hidT t.heap G) callerA [] t G :=
      { frames := rfl
        mod := ⟨inH, keepD gl, ⟨mz, keepD bl, bb⟩, let ⟨ml, l1, l2⟩ := nl; ⟨ml, keepD l1, l2⟩⟩
        bs := fun _ _ e => of_hidT e
        bsz := Nat.le_of_eq (hidT_size t.heap G)
        funs := trivial
        frf := fun _ m => by cases m
        hok := ok
        bare := .of_eq ng }
    have run := (Fo _ inH (keepD gl)).run callerA [] t G ⟨[.ref p], []⟩ [.ref p] [.ref p] _ _ rm env (bd t (.ref p)) (.cons rfl .nil) (go G (fun b => (only b).imp id And.right) sq)
    refine codeAny_mono run fun r t' q => ?_
    match r, q with
    | .error e, q => exact (nx G e t' q).elim
    | .ok .next, q => exact q.elim
    | .ok .brk, q => exact q.elim
    | .ok .cont, q => exact q.elim
    | .ok (.ret u), ⟨v, G', eo, br, un, ok', rv, ev⟩ =>
      subst ev
      cases (show u = Value.bool true from rv)
      refine ⟨rfl, OldK.of_keep fun b o e => ?_, eo, br⟩
      rcases only b with n | ⟨_, o1, xs, y⟩
      · exact un.keep b o e n (fun m => by cases m) (by simp)
      · have e1 := (ok b _ y).1
        have e2 := (ok' b _ (un.frzs b o1 _ y)).1
        exact e2.trans (e1.symm.trans e)
  cases lk : K.lookup p with
  | some o =>
    have eo := Option.some.inj ((inK p o lk).symm.trans at_)
    subst eo
    exact main (fun _ => none) (fun _ => .inl rfl) (.inr ⟨_, us.toArray, _, lk, rfl, rfl, rfl, by rw [List.size_toArray, ia.length]; exact sz, vi⟩) (fun _ _ z => by cases z) (.inl rfl)
  | none =>
    refine main (upd (fun _ => none) p (.frz { cls := .type "list", data := .seq us.toArray } (.lst (is.map V.int)))) (fun b => ?_) (.inl (.inr ⟨_, if_pos rfl⟩)) (fun b u z => ?_) (.inr lk)
    · by_cases q : b = p
      · exact .inr ⟨q, _, _, if_pos q⟩
      · exact .inl (if_neg q)
    · by_cases q : b = p
      · cases q
        cases (if_pos rfl : upd (fun _ => none) p _ p = _).symm.trans z
        exact ⟨at_, by rw [List.length_map]; exact sz, us, _, vi, at_⟩
      · cases (if_neg q : upd (fun _ => none) p _ b = _).symm.trans z
/-- .. over a head by facts -/
theorem walk_ofG {l : PySem.W.OpenLaw} {n k : Nat} {q : Program} {loose : List Str} {XP : (Str → Option Value) → Heap → Prop} {YP : World → Heap → Prop} {d : DefRec} {CX : CXT} {nm : Str}
    (e1 : l.most = some n) (e2 : n ≤ sizeLine) (e3 : d.params.defaults = []) (rm : Room k callerA)
    (Fo : ∀ (w : World) (mg : Str → Option Value) (f : Addr) (h : Heap), YP w h → h.Ns mainGlobals mg → mg d.name = some (.ref f) →
      ∃ (K : PySem.W.Frag) (fd : FuncData) (sp : Sp), K.In h ∧ (∀ (s : Shared) (u : Value), BindsTo s fd ⟨[u], []⟩ [(nm, u)]) ∧
        (∀ (G : Hp) (p : Addr) (is : List Int), is.length ≤ n → Only G → SqL K G p (is.map V.int) → sp [.ref p] G (fun v _ => v = .bl true) fun _ _ _ => False) ∧
        ∀ b : Heap, K.In b → b.Ns mainGlobals mg → FnOk l.prog w K mg b CX k f fd [nm] sp)
    (nx : ∀ (G : Hp) (t : Shared) (e : Value) (t' : Shared), CX [] G t (fun _ _ _ => False) e t' → False) :
    PySem.W.WalkO q loose XP YP l.row.toRowW d [] (fun f vs => PySem.call f vs) :=
  Att.attach_call e1 e3 fun w _ t mg _ f _ _ _ _ p _ is G Y _ _ _ hm at_ ia sz ng => by
    obtain ⟨K, fd, sp, inK, bd, go, F⟩ := Fo w mg f _ Y G.T.g hm
    exact law_callG inK G.T.g G.T.b G.T.builtins G.T.nolimit ng at_ ia (Nat.le_trans sz e2) rm F bd (fun H o q => go H p is sz o q) fun H e => nx H t e
end Pk

/-! The data layer, part T: expressions over an empty store. -/
namespace Pk
open PySem PySem.Spec PyProof.Rows L2
theorem loc_back {K : PySem.W.Frag} {T : Tab} {F F' : Hp} {m m' : List Addr} {μ : Sto} {H H' : Hp} {ρ : Slots} {σ : L2.St} {F0 : Hp} {m0 : List Addr} {H0 : Hp} (S : Sim K T F0 m0 H0 F m μ ρ σ H) (x : Ext F [] H F' m' H') (B : Same F' H') : Ext F m H F' m H' ∧ Sim K T F0 m0 H0 F' m μ ρ σ H' := by
  have g : Gr F m F' m := ⟨x.gr.fr, [], by simp⟩
  have xx : Ext F m H F' m H' := ⟨g, (fun b o e w n h => by
    obtain ⟨e1, n1, _⟩ := x.frm b o e w n (by simp)
    exact ⟨e1, n1, h⟩), x.up⟩
  refine ⟨xx, S.ext.trans xx, B, S.len, S.nd, fun a h => (x.up a).2 (S.al a h), fun k a o e1 e2 n => ?_, S.sl, fun i d e => ?_⟩
  · obtain ⟨h1, h2⟩ := S.sto k a o e1 e2 n
    cases o with
    | gone => exact absurd rfl n
    | fz d => exact ⟨fun z => (by cases z), Rep.mono g h2⟩
    | lst ds =>
      obtain ⟨vs, e, r⟩ := h2
      obtain ⟨e3, n3, _⟩ := x.frm a _ e (fun _ z => by cases z) (h1 rfl) (by simp)
      exact ⟨fun _ => n3, vs, e3, r.mono g⟩
    | dct ds =>
      obtain ⟨vs, e, r⟩ := h2
      obtain ⟨e3, n3, _⟩ := x.frm a _ e (fun _ z => by cases z) (h1 rfl) (by simp)
      exact ⟨fun _ => n3, vs, e3, r.mono g⟩
    | ins c ds =>
      obtain ⟨dx, vs, e, eo, _, l, r⟩ := h2
      obtain ⟨e3, n3, _⟩ := x.frm a _ e (fun _ z => by cases z) (h1 rfl) (by simp)
      exact ⟨fun _ => n3, dx, vs, e3, (x.up dx).1 a eo, trivial, l, r.mono g⟩
  · obtain ⟨v, h1, h2⟩ := S.slot i d e
    exact ⟨v, h1, h2.mono g⟩
def hideM : Option D → Option D
  | some d => match noM d with
    | true => some d
    | false => none
  | none => none
/-- over an empty store: nothing of the store is seen, nothing new of it is given, nothing is raised -/
def wLoc (w : WE) : WE := fun ρ μ Q _ => w (ρ.map hideM) [] (fun d _ => match noM d with
  | true => Q d μ
  | false => False) nox
theorem de_loc {X : Cx} {z : Zx} {e : Expr} {w : WE} (h : ∀ F0 m0 H0, DE X ⟨z.T, F0, m0, H0⟩ e w) : DE X z e (wLoc w) := fun Wd tk => by
  refine ⟨fun pins s σ H Q I ⟨F, m, μ, ρ, Qd, S, h', k⟩ => ?_⟩
  have S0 : Sim X.K z.T F [] H F [] [] (ρ.map hideM) σ H := ⟨Ext.refl _ _ _, S.same, rfl, List.nodup_nil, fun a h => absurd h (by simp), fun k a o e => by simp at e, by rw [List.length_map]; exact S.sl, fun i d e => by
    rw [List.getElem?_map] at e
    cases q : ρ[i]? with
    | none => rw [q] at e; cases e
    | some o =>
      rw [q] at e
      injection e with e
      cases o with
      | none => cases e
      | some d' =>
        unfold hideM at e
        split at e
        · rename_i hd heq
          split at e
          · rename_i hm
            injection e with e
            injection heq with heq
            subst e heq
            obtain ⟨v, h1, h2⟩ := S.slot i _ q
            exact ⟨v, h1, h2.noM hm⟩
          · cases e
        · cases e⟩
  refine (h F [] H (fun _ _ _ => False) (takes0.imp fun _ _ _ _ hx => by
    obtain ⟨_, _, _, _, _, _, _, hx⟩ := hx
    exact hx)).run pins s σ H Q I ⟨F, [], [], ρ.map hideM, _, S0, h', fun F' m' μ' d v H' x B r q => ?_⟩
  split at q
  · rename_i hd
    obtain ⟨xx, S2⟩ := loc_back S x B.same
    exact k F' m μ d v H' xx S2 (r.noM hd) q
  · exact q.elim
end Pk

/-! The data layer, part U: what a call leaves of the store. -/
namespace Pk
open PySem PySem.Spec PyProof.Rows L2
def noMO : MO → Bool
  | .lst xs => noMs xs
  | .dct kvs => noMk kvs
  | .ins _ fs => noMs fs
  | .fz d => noM d
  | .gone => true
def noMOs : Sto → Bool
  | [] => true
  | x :: r => match noMO x with
    | true => noMOs r
    | false => false
theorem noMOs_at : ∀ {μ : Sto} {k : Nat} {o : MO}, noMOs μ = true → μ[k]? = some o → noMO o = true
  | [], k, o, _, e => by simp at e
  | x :: r, k, o, h, e => by
    unfold noMOs at h
    cases q : noMO x with
    | false => rw [q] at h; cases h
    | true =>
      rw [q] at h
      cases k with
      | zero =>
        simp at e
        subst e
        exact q
      | succ k => exact noMOs_at h (by simpa using e)
section
variable {K : PySem.W.Frag} {T : Tab} {F0 F F' H0 : Hp} {m0 m m' : List Addr} {μ μ' : Sto} {ρ : Slots} {σ : L2.St} {H H' : Hp} {p a : Addr}
theorem MRep.noM {o : MO} (h : MRep K T F m H a o) (e : noMO o = true) : MRep K T F m' H a o := by
  cases o with
  | lst ds => obtain ⟨vs, e1, r⟩ := h; exact ⟨vs, e1, Reps.noM r e⟩
  | dct ds => obtain ⟨vs, e1, r⟩ := h; exact ⟨vs, e1, RepK.noM r e⟩
  | ins c ds => obtain ⟨dx, vs, e1, e2, t, l, r⟩ := h; exact ⟨dx, vs, e1, e2, t, l, Reps.noM r e⟩
  | fz d => exact Rep.noM h e
  | gone => trivial
mutual
def mIn (n : Nat) : D → Prop
  | .mref k => k < n
  | .tup xs => mIns n xs
  | .lst xs => mIns n xs
  | .dct kvs => mInk n kvs
  | .ins _ fs => mIns n fs
  | .ptp xs => mIns n xs
  | .ttp xs => mIns n xs
  | .dcp _ xs => mIns n xs
  | _ => True
def mIns (n : Nat) : List D → Prop
  | [] => True
  | x :: r => mIn n x ∧ mIns n r
def mInk (n : Nat) : List (DK × D) → Prop
  | [] => True
  | (_, x) :: r => mIn n x ∧ mInk n r
end
mutual
theorem Rep.mIn : ∀ {d : D} {v : V}, Rep K T F m d v → Pk.mIn m.length d
  | _, _, .non => trivial
  | _, _, .bl => trivial
  | _, _, .int => trivial
  | _, _, .str => trivial
  | _, _, .tup _ r => Reps.mIns r
  | _, _, .lst _ r => Reps.mIns r
  | _, _, .dct _ r => RepK.mInk r
  | _, _, .scr _ => trivial
  | _, _, .ins _ _ r => Reps.mIns r
  | _, _, .mref e => (List.getElem?_eq_some_iff.mp e).1
  | _, _, .cls => trivial
  | _, _, .ty => trivial
  | _, _, .ptp _ _ r => Reps.mIns r
  | _, _, .ttp _ r => Reps.mIns r
  | _, _, .dcp _ _ _ r => Reps.mIns r
theorem Reps.mIns : ∀ {ds : List D} {vs : List V}, Reps K T F m ds vs → Pk.mIns m.length ds
  | _, _, .nil => trivial
  | _, _, .cons h r => ⟨Rep.mIn h, Reps.mIns r⟩
theorem RepK.mInk : ∀ {ds : List (DK × D)} {vs : List (Key × V)}, RepK K T F m ds vs → Pk.mInk m.length ds
  | _, _, .nil => trivial
  | _, _, .cons h r => ⟨Rep.mIn h, RepK.mInk r⟩
end
mutual
theorem Rep.less {r : List Addr} : ∀ {d : D} {v : V}, Rep K T F (m ++ r) d v → Pk.mIn m.length d → Rep K T F m d v
  | _, _, .non, _ => .non
  | _, _, .bl, _ => .bl
  | _, _, .int, _ => .int
  | _, _, .str, _ => .str
  | _, _, .tup h q, e => .tup h (Reps.less q e)
  | _, _, .lst h q, e => .lst h (Reps.less q e)
  | _, _, .dct h q, e => .dct h (RepK.less q e)
  | _, _, .scr h, _ => .scr h
  | _, _, .ins h h2 q, e => .ins h h2 (Reps.less q e)
  | _, _, .mref h, e => .mref (by
    rw [List.getElem?_append_left e] at h
    exact h)
  | _, _, .cls, _ => .cls
  | _, _, .ty, _ => .ty
  | _, _, .ptp h n q, e => .ptp h n (Reps.less q e)
  | _, _, .ttp h q, e => .ttp h (Reps.less q e)
  | _, _, .dcp h h2 l q, e => .dcp h h2 l (Reps.less q e)
theorem Reps.less {r : List Addr} : ∀ {ds : List D} {vs : List V}, Reps K T F (m ++ r) ds vs → Pk.mIns m.length ds → Reps K T F m ds vs
  | _, _, .nil, _ => .nil
  | _, _, .cons h q, e => .cons (Rep.less h e.1) (Reps.less q e.2)
theorem RepK.less {r : List Addr} : ∀ {ds : List (DK × D)} {vs : List (Key × V)}, RepK K T F (m ++ r) ds vs → Pk.mInk m.length ds → RepK K T F m ds vs
  | _, _, .nil, _ => .nil
  | _, _, .cons h q, e => .cons (Rep.less h e.1) (RepK.less q e.2)
end
/-- what lies behind the first things of the store is forgotten -/
theorem Sim.trunc {Fb : Hp} {mb : List Addr} {Hb : Hp} {σ' : L2.St} (S : Sim K T F0 m0 H0 F m μ ρ σ H) (x : Ext F m H F' m' H') (B : Sim K T Fb mb Hb F' m' μ' ρ σ' H') (hk : noMOs (μ'.take μ.length) = true) :
    Ext F m H F' m H' ∧ Sim K T F0 m0 H0 F' m (μ'.take μ.length) ρ σ' H' := by
  obtain ⟨r, er⟩ := x.gr.mem
  have g : Gr F m F' m := ⟨x.gr.fr, [], by simp⟩
  have xx : Ext F m H F' m H' := ⟨g, fun b o e w n h => by
    obtain ⟨e1, n1, h1⟩ := x.frm b o e w n h
    exact ⟨e1, n1, h⟩, x.up⟩
  refine ⟨xx, S.ext.trans xx, B.same, ?_, S.nd, fun a h => (x.up a).2 (S.al a h), fun k a o e1 e2 n => ?_, B.sl, fun i d e => ?_⟩
  · have h1 := B.len
    rw [er, List.length_append] at h1
    rw [List.length_take, S.len]
    have h2 := S.len
    omega
  · have hk1 := (List.getElem?_eq_some_iff.mp e1).1
    have e3 : m'[k]? = some a := by
      rw [er, List.getElem?_append_left hk1]
      exact e1
    have hl : k < μ.length := by rw [← S.len]; exact hk1
    have e4 : μ'[k]? = some o := by
      rw [List.getElem?_take_of_lt hl] at e2
      exact e2
    obtain ⟨h1, h2⟩ := B.sto k a o e3 e4 n
    exact ⟨h1, h2.noM (noMOs_at hk e2)⟩
  · obtain ⟨v, h1, h2⟩ := B.slot i d e
    obtain ⟨v0, _, h3⟩ := S.slot i d e
    rw [er] at h2
    exact ⟨v, h1, h2.less h3.mIn⟩
end
def gcQ (n : Nat) (Q : QD) : QD := fun d μ' => match noM d with
  | true => match noMOs (μ'.take n) with
    | true => Q d (μ'.take n)
    | false => False
  | false => False
def gcE (n : Nat) (E : QX) : QX := fun x μ' => match noMs x.fs with
  | true => match noMOs (μ'.take n) with
    | true => E x (μ'.take n)
    | false => False
  | false => False
/-- what is new in the store behind w is forgotten -/
def wGc (w : WE) : WE := fun ρ μ Q E => w ρ μ (gcQ μ.length Q) (gcE μ.length E)
theorem de_gc {X : Cx} {z : Zx} {e : Expr} {w : WE} (h : ∀ F0 m0 H0, DE X ⟨z.T, F0, m0, H0⟩ e w) : DE X z e (wGc w) := fun Wd tk => by
  refine ⟨fun pins s σ H Q I ⟨F, m, μ, ρ, Qd, S, h', k⟩ => ?_⟩
  have S1 : Sim X.K z.T F m H F m μ ρ σ H := ⟨Ext.refl _ _ _, S.same, S.len, S.nd, S.al, S.sto, S.sl, S.slot⟩
  have back : ∀ F' m' μ' H', Ext F m H F' m' H' → Sim X.K z.T F m H F' m' μ' ρ σ H' → Sim X.K z.T z.F0 z.m0 z.H0 F' m' μ' ρ σ H' := fun F' m' μ' H' x B =>
    ⟨S.ext.trans x, B.same, B.len, B.nd, B.al, B.sto, B.sl, B.slot⟩
  refine (h F m H (fun x ρ' μ' => ρ' = ρ ∧ gcE μ.length (fun x μ' => Wd x ρ μ') x μ') (tk.imp fun cls d σ' H' hx => ?_)).run pins s σ H Q I ⟨F, m, μ, ρ, gcQ μ.length Qd, S1, ?_, fun F' m' μ' d v H' x B r q => ?_⟩
  · obtain ⟨F', m', μ', ρ', x, S2, xr, e, q⟩ := hx
    subst e
    unfold gcE at q
    split at q
    · rename_i hn
      split at q
      · rename_i hm
        obtain ⟨xx, S3⟩ := S.trunc S2.ext S2 hm
        refine ⟨F', m, _, ρ', x, S3, ⟨xr.1, ?_⟩, q⟩
        rcases xr.2 with ⟨a, b⟩ | ⟨dd, vs, e1, e2, e3, e4, e5⟩
        · exact .inl ⟨a, b⟩
        · exact .inr ⟨dd, vs, e1, e2, e3, Reps.noM e4 hn, e5⟩
      · exact q.elim
    · exact q.elim
  · have e : (gcE μ.length fun x μ' => Wd x ρ μ') = (fun x μ' => (ρ = ρ ∧ gcE μ.length (fun x μ' => Wd x ρ μ') x μ')) := by
      funext x μ'
      exact propext ⟨fun h => ⟨rfl, h⟩, fun h => h.2⟩
    rw [← e]
    exact h'
  · unfold gcQ at q
    split at q
    · rename_i hn
      split at q
      · rename_i hm
        obtain ⟨xx, S2⟩ := S.trunc x B hm
        exact k F' m _ d v H' xx S2 (r.noM hn) q
      · exact q.elim
    · exact q.elim
end Pk

/-! The data layer, part V: defaults, lists backwards, empty dicts, dicts walked. -/
namespace Pk
open PySem PySem.Spec PyProof.Rows L2

/-! ### a def called with its defaults -/
structure OkFd (P : Program) (w0 : World) (K : PySem.W.Frag) (mg : Str → Option Value) (base : Heap) (T : Tab) (k : Nat) (a : Addr) (ps : List Str) (dds : List D) (c : Con) : Prop where
  ex : ∃ fd ds dvs, FnC P w0 K mg base T k a fd ps c ∧ Binds K fd ps ds ∧ Vals dvs ds ∧ (∀ F m, Reps K T F m dds dvs) ∧ PySem.W.keepIn K (.ref a) = true
/-- the i-th default is an empty tuple -/
def emB (K : PySem.W.Frag) (a : Addr) : Bool := match K.lookup a with
  | some o => match o.data with
    | .seq its _ => decide (o.cls = .type "tuple") && Nat.beq its.size 0
    | _ => false
  | none => false
theorem emB_ok {K : PySem.W.Frag} {a : Addr} {T : Tab} (h : emB K a = true) (F : Hp) (m : List Addr) : Rep K T F m (.tup []) (.ref a) := by
  unfold emB at h
  split at h
  · rename_i o e
    split at h
    · rename_i its n e2
      obtain ⟨h1, h2⟩ := Bool.and_eq_true_iff.mp h
      have h3 := Nat.eq_of_beq_eq_true h2
      have h4 : its = #[] := Array.eq_empty_of_size_eq_zero h3
      subst h4
      exact .tup (.inr ⟨o, #[], n, e, of_decide_eq_true h1, e2, Nat.zero_le _, .nil⟩) .nil
    · cases h
  · cases h
def fEm (q : Str × Option Str) (i : Nat) : PySem.W.Frag → Bool := fun K => emB K (He.dflAt q i K)
section
variable {X : Cx} {z : Zx} {k cn n : Nat} {a g p0 : Addr} {ps : List Str} {c : Con} {x m : Str} {p pos apos : Pos} {e o : Expr} {es : List Expr} {w wo : WE} {wa : WA} {mc : Value} {dds : List D}
theorem c_fnD (ok : OkFd X.prog X.w X.K X.mg X.base z.T k a ps dds c) (hr : Room k X.A) (hm : X.mg x = some (.ref a)) (ha : DA X z (e :: es) wa) (hg : Gl X x := by rfl)
    (hdb : (x == ("__debug__" : Str)) = false := by decide) (he : starEach (e :: es) X.env = (false, eval e X.env) :: starEach es X.env := by rfl) (hpl : (backTo pos (starEach es X.env)).any (·.1) = false := by rfl) (hn : ps.length = n := by rfl) : DE X z (.Call (.Name x p) (e :: es) [] pos) (wCallN c n dds wa) := by
  subst hn
  obtain ⟨fd, ds, dvs, F, b, hd, hdd, kp⟩ := ok.ex
  exact de_call F hr hg hm kp b hd hdd ha hdb he hpl
theorem c_mkD (ok : OkFd X.prog X.w X.K X.mg X.base z.T k a ps dds c) (M : Mk X.K (z.T.ca cn) a) (hr : Room (k + 1) X.A) (hm : X.mg x = some (.ref (z.T.ca cn))) (ha : DA X z (e :: es) wa) (hg : Gl X x := by rfl)
    (hdb : (x == ("__debug__" : Str)) = false := by decide) (he : starEach (e :: es) X.env = (false, eval e X.env) :: starEach es X.env := by rfl) (hpl : (backTo pos (starEach es X.env)).any (·.1) = false := by rfl) (hn : ps.length = n := by rfl) : DE X z (.Call (.Name x p) (e :: es) [] pos) (wMake cn c n dds wa) := by
  subst hn
  obtain ⟨fd, ds, dvs, F, b, hd, hdd, kp⟩ := ok.ex
  exact de_make M F hr hg hm b hd hdd ha hdb he hpl

/-! ### xs[::-1] -/
def wRev (w : WE) : WE := fun ρ μ Q E => w ρ μ (fun x μ1 => match look μ1 x with
  | .lst xs => Q (.lst xs.reverse) μ1
  | _ => False) E
theorem Reps.rev {K : PySem.W.Frag} {T : Tab} {F : Hp} {m : List Addr} : ∀ {ds : List D} {vs : List V}, Reps K T F m ds vs → Reps K T F m ds.reverse vs.reverse
  | _, _, .nil => .nil
  | _, _, .cons h r => by
    rw [List.reverse_cons, List.reverse_cons]
    exact (Reps.rev r).append (.cons h .nil)
theorem de_rev {kk : Nat} {p1 p2 p3 : Pos} (h : DE X z e w) : DE X z (.Subscript e (.Slice none none (some (.UnaryOp .USub (.Constant (.int 1) kk p1) p2)) p3) pos) (wRev w) := fun Wd tk =>
  peI (pe_revL (h Wd tk)) fun σ H Q ⟨F, m, μ, ρ, Qd, S, h, k⟩ => ⟨F, m, μ, ρ, _, S, h, fun F1 m1 μ1 d1 v1 H1 x1 S1 r1 q1 => by
    have vx := S1.view r1
    split at q1
    · rename_i xs hx
      rw [hx] at vx
      obtain ⟨a, vs, rfl, h1, r⟩ := vx.list S1.same
      exact ⟨a, vs, rfl, SqL.of h1, fun p hp => Fin.lst (fun F4 m4 μ4 d4 v4 H4 x4 => k F4 m4 μ4 d4 v4 H4 (x1.trans x4)) S1 hp r.rev q1⟩
    · exact q1.elim⟩

/-! ### an empty dict -/
def wDct0 (own : Bool) : WE := fun _ μ Q _ => giveD own [] μ Q
theorem de_dct0 (own : Bool) : DE X z (.Dict [] [] pos) (wDct0 own) := fun Wd tk => by
  refine ⟨fun pins s σ H Q I ⟨F, m, μ, ρ, Qd, S, h, k⟩ => ?_⟩
  refine thn ((pe_dnewK (X := X) (pos := pos)).run pins s σ H (fun v H' => ∃ p G, v = .ref p ∧ H' = upd G p (.dK []) ∧ givD own p (.dK []) G Q) I fun p hp => ⟨p, H, rfl, rfl, give_dct k S hp .nil h⟩) fun w s1 ⟨x, H1, I1, rx, p, G, e, e2, q1⟩ => ?_
  subst e e2
  cases own with
  | true => exact ⟨_, _, I1, rx, q1⟩
  | false =>
    obtain ⟨o, I2⟩ := I1.lock upd_same trivial
    rw [upd_upd] at I2
    exact ⟨_, _, I2, rx, q1 o⟩

/-! ### for k in a dict that changes no more -/
def iKy (w : WE) : WI := fun ρ μ Q E => w ρ μ (fun d μ1 => match d with
  | .dct kvs => Q (keysD kvs) μ1
  | _ => False) E
theorem keys_at : ∀ (kvs : List (DK × D)) (i : Nat), (keysD kvs)[i]? = (kvs[i]?).map fun p => keyD p.1
  | [], i => by simp [keysD]
  | (k, d) :: r, 0 => by simp [keysD]
  | (k, d) :: r, i + 1 => by
    have := keys_at r i
    simpa [keysD] using this
theorem keys_len (kvs : List (DK × D)) : (keysD kvs).length = kvs.length := by
  induction kvs with
  | nil => rfl
  | cons p r ih =>
    obtain ⟨k, d⟩ := p
    simp only [keysD, List.length_cons, ih]
theorem RepK.keyAt {K : PySem.W.Frag} {T : Tab} {F : Hp} {m : List Addr} : ∀ {ds : List (DK × D)} {vs : List (Key × V)} {i : Nat} {p : DK × D}, RepK K T F m ds vs → ds[i]? = some p → ∃ v, vs[i]? = some (p.1.key, v)
  | _, _, i, p, .nil, e => by simp at e
  | _, _, 0, p, .cons (v := v) h _, e => by
    simp at e
    subst e
    exact ⟨v, rfl⟩
  | _, _, i + 1, p, .cons _ r, e => by
    obtain ⟨v, h⟩ := RepK.keyAt (i := i) r (by simpa using e)
    exact ⟨v, by simpa using h⟩
theorem jok_keys {K : PySem.W.Frag} {T : Tab} {F : Hp} {m : List Addr} {d : Addr} {o : Obj} {kvs : List (DK × D)} {vs : List (Key × V)} (h : F d = some (.frz o (.dK vs))) (r : RepK K T F m kvs vs) : JOk K T F m (Itk d o vs) (keysD kvs) where
  go := fun i H x s e => by
    refine ⟨s _ _ h, ?_⟩
    rw [← r.length, ← keys_len]
    exact (List.getElem?_eq_some_iff.mp e).1
  stop := fun i H s e => by
    refine ⟨s _ _ h, ?_⟩
    rw [← r.length, ← keys_len]
    exact e
  yld := fun i H x H' y s e ⟨e1, k, v, e2, e3⟩ => by
    refine .inl ⟨e1, ?_⟩
    rw [keys_at] at e
    cases q : kvs[i]? with
    | none => rw [q] at e; cases e
    | some p =>
      rw [q] at e
      injection e with e
      obtain ⟨v', h2⟩ := r.keyAt q
      rw [h2] at e2
      injection e2 with e2
      injection e2 with e2 _
      subst e e2 e3
      obtain ⟨dk, dd⟩ := p
      cases dk <;> constructor
theorem di_keys {tg : Expr} (h : DE X z e w) : DI X z tg e (iKy w) := fun Wd tk =>
  piI (pi_keys (h Wd tk)) fun σ H R ⟨F, m, μ, ρ, Qd, S, h, k⟩ => ⟨F, m, μ, ρ, _, S, h, fun F1 m1 μ1 d1 v1 H1 x1 S1 r1 q1 => by
    split at q1
    · cases r1 with
      | dct hf rk => exact ⟨_, _, rfl, .inl ⟨_, S1.same _ _ hf, k F1 m1 μ1 _ _ H1 x1 S1 (jok_keys hf rk) q1⟩⟩
    · exact q1.elim⟩
end
end Pk

/-! The data layer, part X: the head's facts in parts, each by a run of its own. -/
namespace Pk
open PySem PySem.Spec PySem.W PySem.Calls PyProof.Rows L2
abbrev PartP := List (PySem.W.Frag → Bool) × List DefP
def addrsP (_ : Addr → Option Obj) (n : Nat) : List Addr := List.range n
def obsPart (n : Nat) (p : PartP) (g : Addr → Option Obj) : Bool × List He.FnW := obsP p.1 p.2 (He.frG g (addrsP g n))
def valPart (p : PartP) : Bool × List He.FnW := (true, p.2.map DefP.val)
def SaysL (ps : List PartP) (K : PySem.W.Frag) : Prop := ∀ p ∈ ps, SaysP p.1 p.2 K
theorem obsL_says {K : PySem.W.Frag} : ∀ {ps : List PartP}, ps.map (fun p => obsP p.1 p.2 K) = ps.map valPart → SaysL ps K
  | [], _ => fun p h => by simp at h
  | p :: ps, e => by
    rw [List.map_cons, List.map_cons] at e
    injection e with e1 e2
    intro q hq
    rcases List.mem_cons.mp hq with h | h
    · subst h
      exact e1
    · exact obsL_says e2 q h
def hookL (n : Nat) (ps : List PartP) : PySem.W.Hook where
  α := List (Bool × List He.FnW)
  obs := fun s => ps.map fun p => obsPart n p s.heap.get?
  val := fun _ => ps.map valPart
  says := fun _ h => ∃ K : PySem.W.Frag, K.In h ∧ SaysL ps K
  of := fun _ _ e => ⟨_, He.frG_in, obsL_says e⟩
  keeps := fun _ _ _ ⟨K, hK, c⟩ k => ⟨K, PySem.W.Frag.In.keeps hK k, c⟩
def obL (n : Nat) (ps : List PartP) (s : PySem.W.SharedT) : List (Bool × List He.FnW) := ps.map fun p => obsPart n p (HandSHeadRun.getT s)
theorem obL_eq (n : Nat) (ps : List PartP) (s : PySem.W.SharedT) : obL n ps s = (hookL n ps).obs s.abs := by
  have e : HandSHeadRun.getT s = s.abs.heap.get? := funext (HandSHeadRun.getT_eq s)
  show (ps.map fun p => obsPart n p (HandSHeadRun.getT s)) = _
  rw [e]
  rfl
/-- one part's run -/
def RunP (r : PySem.W.OpenRow) (q : Program) (n : Nat) (p : PartP) (M : Nat) (loose : List PySem.Str) (w : World) : Prop :=
  ∀ os : OsState, (HandSHeadRun.endF (HandSHeadRun.stepQ (HandSHeadRun.denQ HandSHeadRun.tabQ) r.prog w) M r.prog w os).map (fun s => (HandSHeadRun.looksF r.prog (boot_heap w.params) s.abs, HandSHeadRun.seenQ q loose (importedModules r.prog.main.body) (fun s => PySem.W.xlAt q [] s && PySem.W.recOk r.toRowW.records s) s.abs, obsPart n p (HandSHeadRun.getT s))) = some (true, PySem.W.openGood q loose, valPart p)
theorem runL_one {r : PySem.W.OpenRow} {q : Program} {n : Nat} {p : PartP} {M : Nat} {loose : List PySem.Str} {w : World} (h : RunP r q n p M loose w) : HandSHeadRun.RunEq r q (hookL n [p]) (obL n [p]) M loose w := by
  intro os
  obtain ⟨s, e1, e2⟩ := Option.map_eq_some_iff.mp (h os)
  rw [e1]
  injection e2 with h1 h2
  injection h2 with h2 h3
  show some (_, _, [obsPart n p _]) = some (_, _, [valPart p])
  rw [h1, h2, h3]
theorem runL_cons {r : PySem.W.OpenRow} {q : Program} {n : Nat} {p : PartP} {ps : List PartP} {M : Nat} {loose : List PySem.Str} {w : World} (h : RunP r q n p M loose w) (hs : HandSHeadRun.RunEq r q (hookL n ps) (obL n ps) M loose w) : HandSHeadRun.RunEq r q (hookL n (p :: ps)) (obL n (p :: ps)) M loose w := by
  intro os
  obtain ⟨s, e1, e2⟩ := Option.map_eq_some_iff.mp (h os)
  have e3 := hs os
  rw [e1] at e3 ⊢
  injection e2 with h1 h2
  injection h2 with h2 h3
  have e4 := Option.some.inj e3
  injection e4 with h4 h5
  injection h5 with h5 h6
  show some (_, _, obsPart n p _ :: obL n ps s) = some (_, _, valPart p :: ps.map valPart)
  rw [h1, h2, h3, h6]
  rfl
end Pk

/-! The data layer, part W: tuples without a dict of their own, dict() of such. -/
namespace Pk
open PySem PySem.Spec PyProof.Rows L2
section
variable {X : Cx} {z : Zx} {e : Expr} {wa : WA} {p pos : Pos}
def rPtup (K : PySem.W.Frag) : List V → Hp → VK → Prop := fun xs H Q => ∃ p ys, xs = [V.ref p] ∧ SqL K H p ys ∧ ∀ l o, H l = none → o.dict = none → Q (.ref l) (upd H l (.frz o (.tup ys)))
theorem c_ptup : CallR X (.type "tuple") (rPtup X.K) := by
  intro pins s σ H xs us Q I r ⟨p, ys, e1, hq, q⟩
  subst e1
  obtain ⟨u, e2, rx⟩ := vals1 r
  subst e2
  cases rx
  obtain ⟨its, rv, pl, hz⟩ := I.list hq
  have hlen := rv.length
  refine call_tuple_list pl.isList (fun h' kp => ?_) (by simp only [List.size_toArray] <;> omega)
  have I1 : Inv X pins σ H { s with heap := h' } := I.kept (t' := s.toks) kp
  have ht := IsTup.new h' its.toArray
  have hg : (h'.push { cls := .type "tuple", data := .seq its.toArray }).get? h'.objs.size = some { cls := .type "tuple", data := .seq its.toArray } := Heap.get?_push_size _ rfl
  have I2 := I1.laid (t' := s.toks) (o := .frz { cls := .type "tuple", data := .seq its.toArray } (.tup ys)) (fun b o e => Heap.get?_push_of_some { cls := .type "tuple", data := .seq its.toArray } e) (Nat.le_refl _) ⟨hg, hz, its, rv, ht⟩
  exact ⟨.ref h'.objs.size, _, I2, rfl, q _ _ (I1.hok.fresh (Nat.le_refl _)) rfl⟩
def ptpD : D → Option D
  | .lst xs => some (.ptp xs)
  | _ => none
theorem ok_ptup : BuOk X z (rPtup X.K) (b1 ptpD) := bu1 fun F m μ ρ σ H x v d Qd Q S vx e q k => by
  unfold ptpD at e
  split at e
  · injection e with e
    subst e
    obtain ⟨a, vs, rfl, h1, r1⟩ := vx.list S.same
    refine ⟨a, vs, rfl, SqL.of h1, fun l o hl ho => ?_⟩
    obtain ⟨x1, S1⟩ := S.new hl (.frz o (.tup vs))
    exact k _ _ _ _ _ _ x1 S1 (.ptp upd_same ho (r1.mono x1.gr)) q
  · cases e
theorem k_ptuple (hm : X.mg "tuple" = none) (ha : DA X z [e] wa) (hg : Gl X "tuple" := by rfl) (he : starEach [e] X.env = (false, eval e X.env) :: starEach [] X.env := by rfl) (hpl : (backTo pos (starEach [] X.env)).any (·.1) = false := by rfl) :
    DE X z (.Call (.Name "tuple" p) [e] [] pos) (wBu (b1 ptpD) wa) := de_callTy c_ptup ok_ptup hg hm ha (he := he) (hpl := hpl)
/-! ### dict(t), t such a tuple of pairs -/
def rDictT (own : Bool) (K : PySem.W.Frag) : List V → Hp → VK → Prop := fun xs H Q => ∃ (a : Addr) (o : Obj) (ps : List Addr) (kvs : List (Key × V)), xs = [V.ref a] ∧ H a = some (.frz o (.tup (ps.map V.ref))) ∧ o.dict = none ∧ Paired (fun p kv => SqT K H p [kV kv.1, kv.2]) ps kvs ∧
    ∀ p, H p = none → givD own p (.dK (mergeK [] kvs)) H Q
theorem pair_vals {h : Heap} : ∀ {prs : List (Key × Value)} {ps : List Addr}, prs.length = ps.length → (∀ (j : Nat) (q : Key × Value), prs[j]? = some q → ∃ (b : Addr) (u : Value), ps[j]? = some b ∧ IsTup h b #[u, q.2] ∧ keyIs q.1 u = true) →
    ∃ us : List (Value × Value), us.length = prs.length ∧ ∀ (j : Nat) (k v : Value), us[j]? = some (k, v) → ∃ (b : Addr) (q : Key × Value), ps[j]? = some b ∧ prs[j]? = some q ∧ q.2 = v ∧ IsTup h b #[k, v] ∧ keyIs q.1 k = true
  | [], ps, _, _ => ⟨[], rfl, fun j k v e => by simp at e⟩
  | x :: r, [], hl, _ => by simp at hl
  | x :: r, p :: ps, hl, hp => by
    obtain ⟨b, u, h1, h2, h3⟩ := hp 0 x rfl
    obtain ⟨us, k1, k2⟩ := pair_vals (prs := r) (ps := ps) (by simpa using hl) fun j q e => by
      obtain ⟨b, u, g1, g2, g3⟩ := hp (j + 1) q (by simpa using e)
      exact ⟨b, u, by simpa using g1, g2, g3⟩
    refine ⟨(u, x.2) :: us, by simp [k1], fun j k v e => ?_⟩
    cases j with
    | zero =>
      injection e with e
      injection e with e1 e2
      subst e1 e2
      exact ⟨b, x, h1, rfl, rfl, h2, h3⟩
    | succ j =>
      obtain ⟨b', q, g1, g2, g3, g4, g5⟩ := k2 j k v (by simpa using e)
      exact ⟨b', q, by simpa using g1, by simpa using g2, g3, g4, g5⟩
theorem dictT_K (hcalm : X.calm = true) : CallR X (.type "dict") (fun xs H Q => ∃ (a : Addr) (o : Obj) (ps : List Addr) (kvs : List (Key × V)), xs = [V.ref a] ∧ H a = some (.frz o (.tup (ps.map V.ref))) ∧ o.dict = none ∧ Paired (fun p kv => SqT X.K H p [kV kv.1, kv.2]) ps kvs ∧
    ∀ p, H p = none → Q (.ref p) (upd H p (.dK (mergeK [] kvs)))) := by
  intro pins s σ H xs us Q I r ⟨a, o, ps, kvs, e1, hq, hd, hp, q⟩
  subst e1
  obtain ⟨u, e2, rx⟩ := vals1 r
  subst e2
  cases rx
  obtain ⟨ho, hz, its, rv, o2, ho2, hc, n, hdat⟩ := I.hok a _ hq
  rw [ho] at ho2
  injection ho2 with ho2
  subst ho2
  have ei := refs_at rv
  subst ei
  rw [List.length_map] at hz
  obtain ⟨prs, rel, hl, hpr⟩ := pairs_of I hp
  have hlk : kvs.length = prs.length := rel.length
  obtain ⟨us, hu1, hu2⟩ := pair_vals hl hpr
  have hit : ∀ b items, IsTup s.heap b items → s.heap.IsTuple b items := fun b items ⟨o, h1, h2, n, h3⟩ => ⟨o, h1, h2, n, h3⟩
  have hok : PlainSeq "tuple" s.heap a (ps.map Value.ref).toArray ∧ PairItems s.heap (ps.map Value.ref).toArray (fun j => ps.getD j 0) us := by
    refine ⟨⟨o, n, ho, hc, hd, hdat⟩, by simp [hu1, hl], fun j k v e => ?_⟩
    obtain ⟨b, q, g1, g2, g3, g4, g5⟩ := hu2 j k v e
    have gd : ps.getD j 0 = b := by rw [List.getD_eq_getElem?_getD, g1] <;> rfl
    simp only [gd]
    exact ⟨by simp [g1], .inl (hit _ _ g4)⟩
  refine PySem.call_dict_pairs (knd := mixKind X.prog X.w) (kvs := prs) (PairArg.tuple a (ps.map Value.ref).toArray (fun j => ps.getD j 0) us) (I.ok.hd hcalm) hok ⟨hu1.symm, fun i key v e => ?_⟩ (by omega) fun h' tk hd' kk => ?_
  · obtain ⟨b, q, g1, g2, g3, g4, g5⟩ := hu2 i key v e
    subst g3
    exact ⟨q.1, g2, g5⟩
  · have hm : (s.heap.objs.size == sysModules) = false := beq_eq_false_iff_ne.mpr (Nat.ne_of_gt I.big)
    have hlen : (mergeK [] kvs).length ≤ sizeLine := by
      have h1 := length_mergeK kvs []
      simp only [List.length_nil, Nat.zero_add] at h1
      omega
    have k0 : ∀ b ob, s.heap.get? b = some ob → h'.get? b = some ob := fun b ob e => kk b ob (by simp) e
    have new : ObjOk X.prog X.w (upd H s.heap.objs.size (.dK (mergeK [] kvs))) h' s.heap.objs.size (.dK (mergeK [] kvs)) := ⟨hlen, hm, merged [] prs, KV.merge rel .nil, hd'⟩
    exact ⟨.ref s.heap.objs.size, _, I.laid (t' := tk) k0 (Nat.le_refl _) new, rfl, q _ (I.hok.fresh (Nat.le_refl _))⟩
theorem c_dictT (own : Bool) (hc : X.calm = true) : CallR X (.type "dict") (rDictT own X.K) := by
  intro pins s σ H xs us Q I rr ⟨a, o, ps, kvs, e1, e2, e3, e4, q⟩
  exact callR_lock (own := own) (dictT_K hc) pins s σ H xs us Q I rr ⟨a, o, ps, kvs, e1, e2, e3, e4, fun p hn => ⟨p, _, H, rfl, rfl, trivial, q p hn⟩⟩
def bDictT (own : Bool) : BF := fun ds μ Q => match ds with
  | [x] => match x with
    | .ptp xs => match pairsD xs with
      | some ps => giveD own (mergeD [] ps) μ Q
      | none => False
    | _ => False
  | _ => False
theorem ok_dictT {own : Bool} : BuOk X z (rDictT own X.K) (bDictT own) := by
  intro F m μ ρ σ H ds vs Qd Q S rr q k
  unfold bDictT at q
  split at q
  · cases rr with
    | cons r1 r2 =>
      cases r2
      split at q
      · rename_i xs
        cases r1 with
        | ptp hf hn r2 =>
          split at q
          · rename_i ps hp
            obtain ⟨as, kvs, rfl, p1, p2⟩ := pairs_V S.same r2 hp
            exact ⟨_, _, as, kvs, rfl, S.same _ _ hf, hn, p1, fun p hn => give_dct k S hn (mergeK_V .nil p2) q⟩
          · exact q.elim
      · exact q.elim
  · exact q.elim
theorem k_dictT (own : Bool) (hc : X.calm = true) (hm : X.mg "dict" = none) (ha : DA X z [e] wa) (hg : Gl X "dict" := by rfl) (he : starEach [e] X.env = (false, eval e X.env) :: starEach [] X.env := by rfl) (hpl : (backTo pos (starEach [] X.env)).any (·.1) = false := by rfl) :
    DE X z (.Call (.Name "dict" p) [e] [] pos) (wBu (bDictT own) wa) := de_callTy (c_dictT own hc) ok_dictT hg hm ha (he := he) (hpl := hpl)
end
end Pk

/-! Reading the promises: what a def gives back, comprehensions, loops. -/
namespace Pk
open PySem PySem.Spec PyProof.Rows L2
abbrev endR (Q : QD) (E : QX) : DEnds := ⟨fun _ μ' => Q .non μ', Q, fun _ _ => False, fun _ _ => False, fun x _ μ' => E x μ'⟩
/-- the def gives back r, and leaves the store -/
def Ret (c : Con) (ds : List D) (r : D) : Prop := ∀ (μ : Sto) (Q : QD) (E : QX), c ds μ Q E = Q r μ
/-- .. or raises x -/
def Rai (c : Con) (ds : List D) (x : Exc) : Prop := ∀ (μ : Sto) (Q : QD) (E : QX), c ds μ Q E = E x μ
theorem ret_loc {N n : Nat} {w : WS} {ds : List D} {r : D} {sl : Slots} (hl : Nat.beq ds.length n = true) (hs : startD N ds = sl) (h1 : noMs ds = true) (h2 : noM r = true)
    (h : ∀ (Q : QD) (E : QX), ∃ μ', w (endR Q E) sl [] = Q r μ') : Ret (loc (conB N n w)) ds r := by
  intro μ Q E
  obtain ⟨μ', e⟩ := h (fun d _ => match noM d with
    | true => Q d μ
    | false => False) (fun x _ => match noMs x.fs with
    | true => E x μ
    | false => False)
  unfold loc conB
  simp only [h1, hl, hs]
  refine e.trans ?_
  simp only [h2]
theorem rai_loc {N n : Nat} {w : WS} {ds : List D} {r : Exc} {sl : Slots} (hl : Nat.beq ds.length n = true) (hs : startD N ds = sl) (h1 : noMs ds = true) (h2 : noMs r.fs = true)
    (h : ∀ (Q : QD) (E : QX), ∃ μ', w (endR Q E) sl [] = E r μ') : Rai (loc (conB N n w)) ds r := by
  intro μ Q E
  obtain ⟨μ', e⟩ := h (fun d _ => match noM d with
    | true => Q d μ
    | false => False) (fun x _ => match noMs x.fs with
    | true => E x μ
    | false => False)
  unfold loc conB
  simp only [h1, hl, hs]
  refine e.trans ?_
  simp only [h2]
/-- a def that is handed things of the store -/
theorem use_loc {N n : Nat} {w : WS} {ds : List D} {sl : Slots} (hl : Nat.beq ds.length n = true) (hs : startD N ds = sl) (h1 : noMs ds = false) (μ : Sto) (Q : QD) (E : QX) : loc (conB N n w) ds μ Q E = w (endR Q E) sl μ := by
  unfold loc conB
  simp only [h1, hl, hs]
theorem wp0 :
  (∀  De ρ μ, sNil  De ρ μ =  De.nx ρ μ) ∧
  (∀ (a b : WS) De ρ μ, sSeq a b De ρ μ =  a { De with nx := b De } ρ μ) ∧
  (∀ (w : WE) De ρ μ, sRet w De ρ μ =  w ρ μ De.rt (fun x μ' => De.ex x ρ μ')) ∧
  (∀  De z0_ μ, sRetN  De z0_ μ =  De.rt .non μ) ∧
  (∀ (w : WE) De ρ μ, sExpr w De ρ μ =  w ρ μ (fun _ μ1 => De.nx ρ μ1) (fun x μ' => De.ex x ρ μ')) ∧
  (∀ (t : WT) (a b : WS) De ρ μ, sIf t a b De ρ μ =  t ρ μ (fun c μ1 => match c with
  | true => a De ρ μ1
  | false => b De ρ μ1) (fun x μ' => De.ex x ρ μ')) ∧
  (∀  De ρ μ, sBrk  De ρ μ =  De.bk ρ μ) ∧
  (∀  De ρ μ, sCont  De ρ μ =  De.ct ρ μ) ∧
  (∀ (w : WE) (g : GF) De ρ μ, sAsg w g De ρ μ =  w ρ μ (fun d μ1 => match g d ρ with
  | some ρ1 => De.nx ρ1 μ1
  | none => False) (fun x μ' => De.ex x ρ μ')) ∧
  (∀ (w : WE) (g : WXd → D → Slots → Sto → (Slots → Sto → Prop) → Prop) De ρ μ, sAsg2 w g De ρ μ =  w ρ μ (fun d μ1 => g De.ex d ρ μ1 De.nx) (fun x μ' => De.ex x ρ μ')) ∧
  (∀ (wi : WI) (g : GF) (wb : WS) De ρ μ, sFor wi g wb De ρ μ =  wi ρ μ (fun ds μ1 => forW g wb ds De ρ μ1) (fun x μ' => De.ex x ρ μ')) ∧
  (∀ (c j : Nat) (wo we : WE) De ρ μ, sFldD c j wo we De ρ μ =  we ρ μ (fun y μ1 => wo ρ μ1 (fun x μ2 => match x with
  | .mref k => match μ2[k]? with
    | some (.ins c' fs) => match Nat.beq c' c, setAt fs j y with
      | true, some fs' => De.nx ρ (μ2.set k (.ins c fs'))
      | _, _ => False
    | _ => False
  | _ => False) (fun x μ' => De.ex x ρ μ')) (fun x μ' => De.ex x ρ μ')) ∧
  (∀ (f : Int → Int → Int) (wo wi we : WE) De ρ μ, sAugS f wo wi we De ρ μ =  wo ρ μ (fun x μ1 => wi ρ μ1 (fun i μ2 => match getA (look μ2 x) i with
  | some (.int a) => we ρ μ2 (fun y μ3 => match y with
    | .int b => match x with
      | .mref k => match μ3[k]? with
        | some mo => match setD mo i (.int (f a b)) with
          | some mo' => De.nx ρ (μ3.set k mo')
          | none => False
        | none => False
      | _ => False
    | _ => False) (fun x μ' => De.ex x ρ μ')
  | _ => False) (fun x μ' => De.ex x ρ μ')) (fun x μ' => De.ex x ρ μ')) ∧
  (∀ (i j : Nat) (wa : WA) De ρ μ, sPar2 i j wa De ρ μ =  wa ρ μ (fun ds μ1 => match ds with
  | [a, b] => De.nx ((ρ.set i (some a)).set j (some b)) μ1
  | _ => False) (fun x μ' => De.ex x ρ μ')) ∧
  (∀ (i : Nat) d ρ, gN i d ρ =  some (ρ.set i (some d))) ∧
  (∀ (gs : List GF) d ρ, gT gs d ρ =  match d with
  | .tup ds => gEach gs ds ρ
  | _ => none) ∧
  (∀ (i : Nat) ρ μ Q z0_, wVar i ρ μ Q z0_ =  match ρ[i]? with
  | some (some d) => Q d μ
  | _ => False) ∧
  (∀ (d : D) z0_ μ Q z1_, wC d z0_ μ Q z1_ =  Q d μ) ∧
  (∀ (f : D → D → Option D) (wa wb : WE) ρ μ Q E, w2 f wa wb ρ μ Q E =  wa ρ μ (fun x μ1 => wb ρ μ1 (fun y μ2 => match f (look μ2 x) (look μ2 y) with
  | some d => Q d μ2
  | none => False) E) E) ∧
  (∀ (wa : WE) ρ μ Q E, wNot wa ρ μ Q E =  wa ρ μ (fun x μ1 => match truD (look μ1 x) with
  | some b => Q (.bl (!b)) μ1
  | none => False) E) ∧
  (∀ (wa wb : WE) ρ μ Q E, wAnd wa wb ρ μ Q E =  wa ρ μ (fun x μ1 => match truD (look μ1 x) with
  | some true => wb ρ μ1 Q E
  | some false => Q x μ1
  | none => False) E) ∧
  (∀ (t : WT) (wa wb : WE) ρ μ Q E, wIf t wa wb ρ μ Q E =  t ρ μ (fun b μ1 => match b with
  | true => wa ρ μ1 Q E
  | false => wb ρ μ1 Q E) E) ∧
  (∀ (f g : D → D → Option D) (wa wb wc : WE) ρ μ Q E, wCh f g wa wb wc ρ μ Q E =  wa ρ μ (fun x μ1 => wb ρ μ1 (fun y μ2 => match f (look μ2 x) (look μ2 y) with
  | some (.bl true) => wc ρ μ2 (fun u μ3 => match g (look μ3 y) (look μ3 u) with
    | some d => Q d μ3
    | none => False) E
  | some (.bl false) => Q (.bl false) μ2
  | _ => False) E) E) ∧
  (∀ (w : WE) ρ μ Q E, wNeg w ρ μ Q E =  w ρ μ (fun x μ1 => match x with
  | .int i => Q (.int (-i)) μ1
  | _ => False) E) ∧
  (∀ (w : WA) ρ μ Q E, wTup w ρ μ Q E =  w ρ μ (fun xs μ1 => match lineB xs.length with
  | true => Q (.tup xs) μ1
  | false => False) E) ∧
  (∀ (w : WA) ρ μ Q E, wLst w ρ μ Q E =  w ρ μ (fun xs μ1 => match lineB xs.length with
  | true => Q (.lst xs) μ1
  | false => False) E) ∧
  (∀ (w : WA) ρ μ Q E, wLstO w ρ μ Q E =  w ρ μ (fun xs μ1 => match lineB xs.length with
  | true => giveL true xs μ1 Q
  | false => False) E) ∧
  (∀ (wa wb : WE) ρ μ Q E, wMulO wa wb ρ μ Q E =  wa ρ μ (fun x μ1 => wb ρ μ1 (fun y μ2 => match look μ2 x, y with
  | .lst xs, .int i => match mulB i && Nat.ble xs.length 100 with
    | true => giveL true (repL i.toNat xs) μ2 Q
    | false => False
  | _, _ => False) E) E) ∧
  (∀ (w : BF) (wa : WA) ρ μ Q E, wBu w wa ρ μ Q E =  wa ρ μ (fun ds μ1 => w ds μ1 Q) E) ∧
  (∀ (w : WE) (wl wh : WO) ρ μ Q E, wSl w wl wh ρ μ Q E =  w ρ μ (fun x μ1 => wl ρ μ1 (fun lo μ2 => wh ρ μ2 (fun hi μ3 => match slD (look μ3 x) lo hi with
  | some d => Q d μ3
  | none => False) E) E) E) ∧
  (∀  z0_ μ Q z1_, oNo  z0_ μ Q z1_ =  Q none μ) ∧
  (∀ (w : WE) ρ μ Q E, oYes w ρ μ Q E =  w ρ μ (fun x μ1 => match x with
  | .int i => Q (some i) μ1
  | _ => False) E) ∧
  (∀  z0_ μ Q z1_, aNil  z0_ μ Q z1_ =  Q [] μ) ∧
  (∀ (w : WE) (r : WA) ρ μ Q E, aCons w r ρ μ Q E =  w ρ μ (fun x μ1 => r ρ μ1 (fun xs μ2 => Q (x :: xs) μ2) E) E) ∧
  (∀ (w : WE) (r : WA) ρ μ Q E, aStar w r ρ μ Q E =  w ρ μ (fun x μ1 => match seqOf (look μ1 x) with
  | some xs => r ρ μ1 (fun ys μ2 => Q (xs ++ ys) μ2) E
  | none => False) E) ∧
  (∀ (w : WE) ρ μ Q E, tTru w ρ μ Q E =  w ρ μ (fun x μ1 => match truD (look μ1 x) with
  | some b => Q b μ1
  | none => False) E) ∧
  (∀ (w : WE) ρ μ Q E, tBl w ρ μ Q E =  w ρ μ (fun x μ1 => match x with
  | .bl b => Q b μ1
  | _ => False) E) ∧
  (∀ (t u : WT) ρ μ Q E, tAn t u ρ μ Q E =  t ρ μ (fun b μ1 => match b with
  | true => u ρ μ1 Q E
  | false => Q false μ1) E) ∧
  (∀ (t u : WT) ρ μ Q E, tOr' t u ρ μ Q E =  t ρ μ (fun b μ1 => match b with
  | true => Q true μ1
  | false => u ρ μ1 Q E) E) ∧
  (∀ (t : WT) ρ μ Q E, tNo t ρ μ Q E =  t ρ μ (fun b μ1 => Q (!b) μ1) E) ∧
  (∀  z0_ μ Q z1_, tAll  z0_ μ Q z1_ =  Q true μ) ∧
  (∀ (n : Nat) (w : WE) ρ μ Q E, wFz n w ρ μ Q E =  w ρ μ (fun x μ1 => match deepD n μ1 x with
  | (d, μ2) => Q d μ2) E) ∧
  (∀ (w : WE) ρ μ Q E, iSeq w ρ μ Q E =  w ρ μ (fun d μ1 => match seqD d with
  | some ds => Q ds μ1
  | none => False) E) ∧
  (∀ (w : WE) ρ μ Q E, iEnm w ρ μ Q E =  w ρ μ (fun d μ1 => match d with
  | .lst ds => Q (enumD 0 ds) μ1
  | .tup ds => Q (enumD 0 ds) μ1
  | _ => False) E) ∧
  (∀ (wa wb : WE) ρ μ Q E, iZp wa wb ρ μ Q E =  wa ρ μ (fun d μ1 => wb ρ μ1 (fun e μ2 => match d, e with
  | .lst ds, .lst es => Q (zipD ds es) μ2
  | .tup ds, .tup es => Q (zipD ds es) μ2
  | _, _ => False) E) E) ∧
  (∀ (w : WE) ρ μ Q E, iRg1 w ρ μ Q E =  w ρ μ (fun d μ1 => match d with
  | .int j => match rgOk j with
    | true => Q (rngD 0 j.toNat) μ1
    | false => False
  | _ => False) E) ∧
  (∀ (wa wb : WE) ρ μ Q E, iRg2 wa wb ρ μ Q E =  wa ρ μ (fun d μ1 => wb ρ μ1 (fun e μ2 => match d, e with
  | .int i, .int j => match rgOk i && rgOk j with
    | true => Q (rngD i (j - i).toNat) μ2
    | false => False
  | _, _ => False) E) E) ∧
  (∀ (w : WE) ρ μ Q E, iKy w ρ μ Q E =  w ρ μ (fun d μ1 => match d with
  | .dct kvs => Q (keysD kvs) μ1
  | _ => False) E) ∧
  (∀ (t : D → Bool) (w : MF) (wo : WE) (wa : WA) ρ μ Q E, wMe t w wo wa ρ μ Q E =  wo ρ μ (fun x μ1 => match t (look μ1 x) with
  | true => wa ρ μ1 (fun ds μ2 => w x ds μ2 Q) E
  | false => False) E) ∧
  (∀ (own : Bool) (wi : WI) (g : GF) (wt : WT) (we : WE) (vs : List Nat) ρ μ Q E, wLc own wi g wt we vs ρ μ Q E =  wi ρ μ (fun ds μ1 => match Nat.blt ds.length 16777216 with
  | true => lcW g wt we ds (wipeD ρ vs) μ1 fun ys μ2 => giveL own ys μ2 Q
  | false => False) E) ∧
  (∀ (c : Con) (n : Nat) (dds : List D) (wa : WA) ρ μ Q E, wCallN c n dds wa ρ μ Q E =  wa ρ μ (fun ds μ1 => match Nat.beq (ds ++ dds).length n with
  | true => c (ds ++ dds) μ1 Q E
  | false => False) E) ∧
  (∀ (cn : Nat) (c : Con) (n : Nat) (wo : WE) (wa : WA) ρ μ Q E, wMeth cn c n wo wa ρ μ Q E =  wo ρ μ (fun x μ1 => match look μ1 x with
  | .ins c' _ => match Nat.beq c' cn with
    | true => wa ρ μ1 (fun ds μ2 => match Nat.beq (ds.length + 1) n with
      | true => c (x :: ds) μ2 Q E
      | false => False) E
    | false => False
  | _ => False) E) ∧
  (∀ (cn : Nat) (c : Con) (n : Nat) (dds : List D) (wa : WA) ρ μ Q E, wMake cn c n dds wa ρ μ Q E =  wa ρ μ (fun ds μ1 => mkD cn c n dds ds μ1 Q E) E) ∧
  (∀ (c j : Nat) (w : WE) ρ μ Q E, wFld c j w ρ μ Q E =  w ρ μ (fun x μ1 => match look μ1 x with
  | .ins c' fs => match Nat.beq c' c, fs[j]? with
    | true, some d => Q d μ1
    | _, _ => False
  | _ => False) E) ∧
  (∀ (cn : Nat) (c : Con) (wo : WE) ρ μ Q E, wProp cn c wo ρ μ Q E =  wo ρ μ (fun x μ1 => match look μ1 x with
  | .ins c' _ => match Nat.beq c' cn with
    | true => c [x] μ1 Q nox
    | false => False
  | _ => False) E) ∧
  (∀ (w : WE) ρ μ Q E, wRev w ρ μ Q E =  w ρ μ (fun x μ1 => match look μ1 x with
  | .lst xs => Q (.lst xs.reverse) μ1
  | _ => False) E) ∧
  (∀ (own : Bool) z0_ μ Q z1_, wDct0 own z0_ μ Q z1_ =  giveD own [] μ Q) ∧
  (∀ (i : Nat) d ρ μ Q z0_, g2N i d ρ μ Q z0_ =  Q (ρ.set i (some d)) μ) ∧
  (∀ (wo wi : WE) d ρ μ Q E, g2S wo wi d ρ μ Q E =  wo ρ μ (fun x μ1 => wi ρ μ1 (fun i μ2 => match x with
  | .mref k => match μ2[k]? with
    | some mo => match setD mo i d with
      | some mo' => Q ρ (μ2.set k mo')
      | none => False
    | none => False
  | _ => False) E) E) ∧
  (∀  ds ρ μ Q z0_, g2Nil  ds ρ μ Q z0_ =  match ds with
  | [] => Q ρ μ
  | _ => False) ∧
  (∀ (w : WG) (r : List D → Slots → Sto → (Slots → Sto → Prop) → WXd → Prop) ds ρ μ Q E, g2Cons w r ds ρ μ Q E =  match ds with
  | d :: ds => w d ρ μ (fun ρ1 μ1 => r ds ρ1 μ1 Q E) (fun x μ' => E x ρ μ')
  | [] => False) ∧
  (∀ (n : Nat) (r : List D → Slots → Sto → (Slots → Sto → Prop) → WXd → Prop) (E : WXd) d ρ μ Q, g2T n r E d ρ μ Q = match d with
  | .tup ds => match Nat.beq ds.length n with
    | true => r ds ρ μ Q E
    | false => False
  | _ => False) :=
  ⟨by intros; rfl, by intros; rfl, by intros; rfl, by intros; rfl, by intros; rfl, by intros; rfl, by intros; rfl, by intros; rfl, by intros; rfl, by intros; rfl, by intros; rfl, by intros; rfl, by intros; rfl, by intros; rfl, by intros; rfl, by intros; rfl, by intros; rfl, by intros; rfl, by intros; rfl, by intros; rfl, by intros; rfl, by intros; rfl, by intros; rfl, by intros; rfl, by intros; rfl, by intros; rfl, by intros; rfl, by intros; rfl, by intros; rfl, by intros; rfl, by intros; rfl, by intros; rfl, by intros; rfl, by intros; rfl, by intros; rfl, by intros; rfl, by intros; rfl, by intros; rfl, by intros; rfl, by intros; rfl, by intros; rfl, by intros; rfl, by intros; rfl, by intros; rfl, by intros; rfl, by intros; rfl, by intros; rfl, by intros; rfl, by intros; rfl, by intros; rfl, by intros; rfl, by intros; rfl, by intros; rfl, by intros; rfl, by intros; rfl, by intros; rfl, by intros; rfl, by intros; rfl, by intros; rfl, by intros; rfl, by intros; rfl, by intros; rfl⟩
theorem wp1 :
  (∀ f x μ Q, b1 f [x] μ Q = match f (look μ x) with | some d => Q d μ | none => False) ∧
  (∀ f x y μ Q, b2' f [x, y] μ Q = match f (look μ x) (look μ y) with | some d => Q d μ | none => False) ∧
  (∀ o f x μ Q, b1L o f [x] μ Q = match f (look μ x) with | some ds => giveL o ds μ Q | none => False) ∧
  (∀ o x μ Q, bDict o [x] μ Q = match look μ x with
    | .lst xs => match pairsD xs with
      | some ps => giveD o (mergeD [] ps) μ Q
      | none => False
    | _ => False) ∧
  (∀ o x μ Q, bDictT o [x] μ Q = match x with
    | .ptp xs => match pairsD xs with
      | some ps => giveD o (mergeD [] ps) μ Q
      | none => False
    | _ => False) ∧
  (∀ ds μ Q, giveL false ds μ Q = Q (.lst ds) μ) ∧
  (∀ ds μ Q, giveL true ds μ Q = Q (.mref μ.length) (μ ++ [.lst ds])) ∧
  (∀ ds μ Q, giveD false ds μ Q = Q (.dct ds) μ) ∧
  (∀ ds μ Q, giveD true ds μ Q = Q (.mref μ.length) (μ ++ [.dct ds])) ∧
  (∀ ρ, wipeD ρ [] = ρ) ∧
  (∀ ρ v vs, wipeD ρ (v :: vs) = (wipeD ρ vs).set v none) ∧
  (∀ gs ds ρ, gT gs (.tup ds) ρ = gEach gs ds ρ) ∧
  (∀ ρ, gEach [] [] ρ = some ρ) ∧
  (∀ g gs d ds ρ, gEach (g :: gs) (d :: ds) ρ = match g d ρ with | some ρ1 => gEach gs ds ρ1 | none => none) ∧
  (∀ n μ b, deepD (n + 1) μ (.bl b) = (.bl b, μ)) ∧
  (∀ n μ b, deepD (n + 1) μ (.int b) = (.int b, μ)) ∧
  (∀ n μ b, deepD (n + 1) μ (.str b) = (.str b, μ)) ∧
  (∀ n μ b, deepD (n + 1) μ (.tup b) = (.tup b, μ)) ∧
  (∀ n μ b, deepD (n + 1) μ (.ptp b) = (.ptp b, μ)) ∧
  (∀ n μ b, deepD (n + 1) μ (.lst b) = (.lst b, μ)) ∧
  (∀ n μ b, deepD (n + 1) μ (.dct b) = (.dct b, μ)) ∧
  (∀ n μ b, deepD (n + 1) μ (.scr b) = (.scr b, μ)) ∧
  (∀ n μ c b, deepD (n + 1) μ (.ins c b) = (.ins c b, μ)) ∧
  (∀ n μ, deepD (n + 1) μ .non = (.non, μ)) ∧
  (∀ μ i, look μ (.int i) = .int i) ∧
  (∀ μ i, look μ (.str i) = .str i) ∧
  (∀ μ i, look μ (.bl i) = .bl i) ∧
  (∀ μ, look μ .non = .non) ∧
  (∀ μ i, look μ (.tup i) = .tup i) ∧
  (∀ μ i, look μ (.ptp i) = .tup i) ∧
  (∀ μ i, look μ (.lst i) = .lst i) ∧
  (∀ μ i, look μ (.dct i) = .dct i) ∧
  (∀ μ i, look μ (.scr i) = .scr i) ∧
  (∀ μ c i, look μ (.ins c i) = .ins c i) ∧
  (∀ μ i, look μ (.cls i) = .cls i) ∧
  (∀ μ i, look μ (.ty i) = .ty i) ∧
  (∀ xs i, ixD (.lst xs) (.int i) = atG xs i) ∧
  (∀ xs i, ixD (.tup xs) (.int i) = atG xs i) ∧
  (∀ xs, seqD (.lst xs) = some xs) ∧
  (∀ xs, seqD (.tup xs) = some xs) ∧
  (∀ xs, seqD (.ptp xs) = some xs) ∧
  (∀ xs, lenD (.lst xs) = some (.int xs.length)) ∧
  (∀ xs, lenD (.tup xs) = some (.int xs.length)) ∧
  (∀ xs, tupD (.lst xs) = some (.tup xs)) ∧
  (∀ xs, ptpD (.lst xs) = some (.ptp xs)) ∧
  (∀ b, truD (.bl b) = some b) ∧
  (∀ i j, addD (.int i) (.int j) = some (.int (i + j))) ∧
  (∀ i j, subD (.int i) (.int j) = some (.int (i - j))) ∧
  (∀ i j, leD (.int i) (.int j) = some (.bl (decide (i ≤ j)))) ∧
  (∀ i j, ltD (.int i) (.int j) = some (.bl (decide (i < j)))) ∧
  (∀ i j, geD (.int i) (.int j) = some (.bl (decide (j ≤ i)))) ∧
  (∀ i j, gtD (.int i) (.int j) = some (.bl (decide (j < i)))) ∧
  (∀ i j, eqqD (.int i) (.int j) = some (.bl (decide (i = j)))) ∧
  (∀ i j, neqD (.int i) (.int j) = some (.bl (!decide (i = j)))) ∧
  (∀ (a : D) r, atG (a :: r) 0 = some a) ∧
  (∀ (a b : D) r, atG (a :: b :: r) 1 = some b) ∧
  (∀ (a b c : D) r, atG (a :: b :: c :: r) 2 = some c) ∧
  (∀ (a b c d : D) r, atG (a :: b :: c :: d :: r) 3 = some d) ∧
  (∀ (xs : List D) (n : Nat), atG xs ((n : Nat) : Int) = nthG xs n) := by
  refine ⟨?_, ?_, ?_, ?_, ?_, ?_, ?_, ?_, ?_, ?_, ?_, ?_, ?_, ?_, ?_, ?_, ?_, ?_, ?_, ?_, ?_, ?_, ?_, ?_, ?_, ?_, ?_, ?_, ?_, ?_, ?_, ?_, ?_, ?_, ?_, ?_, ?_, ?_, ?_, ?_, ?_, ?_, ?_, ?_, ?_, ?_, ?_, ?_, ?_, ?_, ?_, ?_, ?_, ?_, ?_, ?_, ?_, ?_, ?_⟩ <;> intros <;> rfl
/-! ### small readings -/
section
variable {μ : Sto} {ρ : Slots} {Q : QD} {E : QX}
theorem lk_int {i : Int} : look μ (.int i) = .int i := rfl
theorem lk_str {s : Tx} : look μ (.str s) = .str s := rfl
theorem lk_bl {s : Bool} : look μ (.bl s) = .bl s := rfl
theorem lk_non : look μ .non = .non := rfl
theorem lk_tup {s : List D} : look μ (.tup s) = .tup s := rfl
theorem lk_ptp {s : List D} : look μ (.ptp s) = .tup s := rfl
theorem lk_lst {s : List D} : look μ (.lst s) = .lst s := rfl
theorem lk_dct {s : List (DK × D)} : look μ (.dct s) = .dct s := rfl
theorem lk_scr {s : List Int} : look μ (.scr s) = .scr s := rfl
theorem lk_ins {c : Nat} {s : List D} : look μ (.ins c s) = .ins c s := rfl
theorem lk_cls {c : Nat} : look μ (.cls c) = .cls c := rfl
theorem lk_ty {c : Ty} : look μ (.ty c) = .ty c := rfl
theorem blt_ok {n : Nat} (h : n < 16777216) : Nat.blt n 16777216 = true := Nat.ble_eq_true_of_le h
theorem lineB_ok {n : Nat} (h : n ≤ 16777216) : lineB n = true := Nat.ble_eq_true_of_le h
theorem ble_ok {n : Nat} (h : n ≤ 16777216) : Nat.ble n 16777216 = true := Nat.ble_eq_true_of_le h
theorem nth_cons0 {α : Type} {x : α} {r : List α} : nthG (x :: r) 0 = some x := rfl
theorem atG_nat {α : Type} {xs : List α} {n : Nat} : atG xs ((n : Nat) : Int) = nthG xs n := rfl
theorem nth_map {α β : Type} (f : α → β) : ∀ (xs : List α) (n : Nat), nthG (xs.map f) n = (nthG xs n).map f
  | [], _ => rfl
  | _ :: _, 0 => rfl
  | _ :: r, n + 1 => nth_map f r n
theorem atG_map {α β : Type} (f : α → β) (xs : List α) (i : Int) : atG (xs.map f) i = (atG xs i).map f := by
  unfold atG
  cases i with
  | ofNat n => exact nth_map f xs n
  | negSucc n =>
    simp only [List.length_map, nth_map]
    cases Nat.ble (n + 1) xs.length <;> rfl
end

theorem lineBs : lineB 0 = true ∧ lineB 1 = true ∧ lineB 2 = true ∧ lineB 3 = true ∧ lineB 4 = true ∧ lineB 5 = true ∧ lineB 6 = true ∧ lineB 7 = true ∧ lineB 8 = true := ⟨rfl, rfl, rfl, rfl, rfl, rfl, rfl, rfl, rfl⟩
/-! ### comprehensions -/
/-- each item is read by itself -/
theorem lc_map {α : Type} {enc : α → D} {g : GF} {wt : WT} {we : WE} {ρ : Slots} {μ : Sto} (p : α → Bool) (f : α → D) : ∀ (xs : List α) (Q : List D → Sto → Prop),
    (∀ a, a ∈ xs → ∃ ρ1, g (enc a) ρ = some ρ1 ∧ (∀ Q E, wt ρ1 μ Q E = Q (p a) μ) ∧ (p a = true → ∀ Q E, we ρ1 μ Q E = Q (f a) μ)) → lcW g wt we (xs.map enc) ρ μ Q = Q ((xs.filter p).map f) μ
  | [], Q, _ => rfl
  | a :: r, Q, h => by
    obtain ⟨ρ1, h1, h2, h3⟩ := h a (List.mem_cons_self ..)
    have ih := fun Q => lc_map p f r Q fun b hb => h b (List.mem_cons_of_mem _ hb)
    simp only [List.map_cons, lcW, h1, h2]
    cases e : p a with
    | true => simp only [h3 e, ih, List.filter_cons, e, if_true, List.map_cons]
    | false => simp only [ih, List.filter_cons, e, Bool.false_eq_true, if_false]
/-- without a test -/
theorem lc_all {α : Type} {enc : α → D} {g : GF} {we : WE} {ρ : Slots} {μ : Sto} (f : α → D) (xs : List α) (Q : List D → Sto → Prop)
    (h : ∀ a, a ∈ xs → ∃ ρ1, g (enc a) ρ = some ρ1 ∧ ∀ Q E, we ρ1 μ Q E = Q (f a) μ) : lcW g tAll we (xs.map enc) ρ μ Q = Q (xs.map f) μ := by
  have := lc_map (enc := enc) (wt := tAll) (we := we) (ρ := ρ) (μ := μ) (fun _ => true) f xs Q fun a ha => by
    obtain ⟨ρ1, h1, h2⟩ := h a ha
    exact ⟨ρ1, h1, fun _ _ => rfl, fun _ => h2⟩
  rw [this]
  congr 2
  simp
/-- by what is left and what is made -/
theorem lc_imp {α : Type} {enc : α → D} {g : GF} {wt : WT} {we : WE} {ρ : Slots} (S : List α → List D → Sto → Prop)
    (h : ∀ a r ds μ, S (a :: r) ds μ → ∃ ρ1, g (enc a) ρ = some ρ1 ∧ ∀ (Q : Bool → Sto → Prop) (E : QX), (∀ b μ1, (b = true → ∀ (Q' : QD) (E' : QX), (∀ y μ2, S r (ds ++ [y]) μ2 → Q' y μ2) → we ρ1 μ1 Q' E') → (b = false → S r ds μ1) → Q b μ1) → wt ρ1 μ Q E) :
    ∀ (xs : List α) (ds : List D) (μ : Sto) (Q : List D → Sto → Prop), S xs ds μ → (∀ ys μ', S [] (ds ++ ys) μ' → Q ys μ') → lcW g wt we (xs.map enc) ρ μ Q
  | [], ds, μ, Q, s, q => q [] μ (by rw [List.append_nil]; exact s)
  | a :: r, ds, μ, Q, s, q => by
    obtain ⟨ρ1, h1, h2⟩ := h a r ds μ s
    simp only [List.map_cons, lcW, h1]
    refine h2 _ _ fun b μ1 ht hf => ?_
    cases b with
    | true =>
      refine ht rfl _ _ fun y μ2 s2 => ?_
      exact lc_imp S h r (ds ++ [y]) μ2 _ s2 fun ys μ3 s3 => q (y :: ys) μ3 (by rw [List.append_assoc] at s3; exact s3)
    | false => exact lc_imp S h r ds μ1 _ (hf rfl) q

/-! ### loops -/
/-- the ends of a turn -/
abbrev turnE (De : DEnds) (k : Slots → Sto → Prop) : DEnds := ⟨k, De.rt, De.nx, k, De.ex⟩
theorem for_cons {g : GF} {wb : WS} {d : D} {r : List D} {De : DEnds} {ρ ρ1 : Slots} {μ : Sto} (h : g d ρ = some ρ1) : forW g wb (d :: r) De ρ μ = wb (turnE De fun ρ2 μ2 => forW g wb r De ρ2 μ2) ρ1 μ := by
  simp only [forW, h]
/-- a loop that is read as a recursion: S tells how the state stands -/
theorem for_rec {α β : Type} {enc : α → D} {g : GF} {wb : WS} {De : DEnds} (res : List α → β → Prop) (S : β → Slots → Sto → Prop) :
    ∀ (xs : List α) (acc : β) (ρ : Slots) (μ : Sto), S acc ρ μ → (∀ acc ρ μ, S acc ρ μ → De.nx ρ μ = res [] acc) →
    (∀ a r acc ρ μ, a ∈ xs → S acc ρ μ → ∃ ρ1, g (enc a) ρ = some ρ1 ∧ ((∃ acc', res (a :: r) acc = res r acc' ∧ ∃ ρ2 μ2, S acc' ρ2 μ2 ∧ ∀ k, wb (turnE De k) ρ1 μ = k ρ2 μ2) ∨ ∀ k, wb (turnE De k) ρ1 μ = res (a :: r) acc)) →
    forW g wb (xs.map enc) De ρ μ = res xs acc
  | [], acc, ρ, μ, s, h0, h1 => h0 acc ρ μ s
  | a :: r, acc, ρ, μ, s, h0, h1 => by
    obtain ⟨ρ1, e1, h⟩ := h1 a r acc ρ μ (List.mem_cons_self ..) s
    rw [List.map_cons, for_cons e1]
    rcases h with ⟨acc', er, ρ2, μ2, s2, e2⟩ | h
    · rw [e2, er]
      exact for_rec res S r acc' ρ2 μ2 s2 h0 fun b r' acc ρ μ hb => h1 b r' acc ρ μ (List.mem_cons_of_mem _ hb)
    · exact h _
/-- a loop that goes to its end -/
theorem for_fold {α β : Type} {enc : α → D} {g : GF} {wb : WS} {De : DEnds} {R : Prop} (step : β → α → β) (S : β → Slots → Sto → Prop) (xs : List α) (acc : β) (ρ : Slots) (μ : Sto) (s : S acc ρ μ)
    (h1 : ∀ a acc ρ μ, a ∈ xs → S acc ρ μ → ∃ ρ1, g (enc a) ρ = some ρ1 ∧ ∃ ρ2 μ2, S (step acc a) ρ2 μ2 ∧ ∀ k, wb (turnE De k) ρ1 μ = k ρ2 μ2)
    (h0 : ∀ ρ μ, S (xs.foldl step acc) ρ μ → De.nx ρ μ = R) : forW g wb (xs.map enc) De ρ μ = R := by
  induction xs generalizing acc ρ μ with
  | nil => exact h0 ρ μ s
  | cons a r ih =>
    obtain ⟨ρ1, e1, ρ2, μ2, s2, e2⟩ := h1 a acc ρ μ (List.mem_cons_self ..) s
    rw [List.map_cons, for_cons e1, e2]
    exact ih _ _ _ s2 (fun b acc ρ μ hb => h1 b acc ρ μ (List.mem_cons_of_mem _ hb)) h0
/-- .. where the turn is read by what follows it -/
theorem for_foldC {α β : Type} {enc : α → D} {g : GF} {wb : WS} {De : DEnds} {R : Prop} (step : β → α → β) (S : β → Slots → Sto → Prop) (xs : List α) (acc : β) (ρ : Slots) (μ : Sto) (s : S acc ρ μ)
    (h1 : ∀ a acc ρ μ, a ∈ xs → S acc ρ μ → ∃ ρ1, g (enc a) ρ = some ρ1 ∧ ∀ (k : Slots → Sto → Prop) (R : Prop), (∀ ρ2 μ2, S (step acc a) ρ2 μ2 → k ρ2 μ2 = R) → wb (turnE De k) ρ1 μ = R)
    (h0 : ∀ ρ μ, S (xs.foldl step acc) ρ μ → De.nx ρ μ = R) : forW g wb (xs.map enc) De ρ μ = R := by
  induction xs generalizing acc ρ μ with
  | nil => exact h0 ρ μ s
  | cons a r ih =>
    obtain ⟨ρ1, e1, e2⟩ := h1 a acc ρ μ (List.mem_cons_self ..) s
    rw [List.map_cons, for_cons e1]
    exact e2 _ R fun ρ2 μ2 s2 => ih _ _ _ s2 (fun b acc ρ μ hb => h1 b acc ρ μ (List.mem_cons_of_mem _ hb)) h0
/-- .. S knows what is left -/
theorem for_foldR {α β : Type} {enc : α → D} {g : GF} {wb : WS} {De : DEnds} {R : Prop} (step : β → α → β) (S : List α → β → Slots → Sto → Prop) (xs : List α) (acc : β) (ρ : Slots) (μ : Sto) (s : S xs acc ρ μ)
    (h1 : ∀ a r acc ρ μ, S (a :: r) acc ρ μ → ∃ ρ1, g (enc a) ρ = some ρ1 ∧ ∃ ρ2 μ2, S r (step acc a) ρ2 μ2 ∧ ∀ k, wb (turnE De k) ρ1 μ = k ρ2 μ2)
    (h0 : ∀ ρ μ, S [] (xs.foldl step acc) ρ μ → De.nx ρ μ = R) : forW g wb (xs.map enc) De ρ μ = R := by
  induction xs generalizing acc ρ μ with
  | nil => exact h0 ρ μ s
  | cons a r ih =>
    obtain ⟨ρ1, e1, ρ2, μ2, s2, e2⟩ := h1 a r acc ρ μ s
    rw [List.map_cons, for_cons e1, e2]
    exact ih _ _ _ s2 h0
/-- a loop by what is left -/
theorem for_imp {α : Type} {enc : α → D} {g : GF} {wb : WS} {De : DEnds} (S : List α → Slots → Sto → Prop) : ∀ (xs : List α) (ρ : Slots) (μ : Sto), S xs ρ μ → (∀ ρ μ, S [] ρ μ → De.nx ρ μ) →
    (∀ a r ρ μ, S (a :: r) ρ μ → ∃ ρ1, g (enc a) ρ = some ρ1 ∧ ∀ k : Slots → Sto → Prop, (∀ ρ2 μ2, S r ρ2 μ2 → k ρ2 μ2) → wb (turnE De k) ρ1 μ) → forW g wb (xs.map enc) De ρ μ
  | [], ρ, μ, s, h0, _ => h0 ρ μ s
  | a :: r, ρ, μ, s, h0, h1 => by
    obtain ⟨ρ1, e1, h⟩ := h1 a r ρ μ s
    rw [List.map_cons, for_cons e1]
    exact h _ fun ρ2 μ2 s2 => for_imp S r ρ2 μ2 s2 h0 h1
/-! ### lists that loops walk -/
theorem enum_map {α : Type} (enc : α → D) : ∀ (xs : List α) (n : Nat), enumD n (xs.map enc) = (xs.zipIdx n).map fun p => .tup [.int (p.2 : Nat), enc p.1]
  | [], _ => rfl
  | x :: r, n => by
    simp only [List.map_cons, enumD, List.zipIdx_cons, enum_map enc r (n + 1)]
theorem zip_map {α β : Type} (ea : α → D) (eb : β → D) : ∀ (xs : List α) (ys : List β), zipD (xs.map ea) (ys.map eb) = (xs.zip ys).map fun p => .tup [ea p.1, eb p.2]
  | [], _ => rfl
  | _ :: _, [] => rfl
  | x :: r, y :: s => by simp only [List.map_cons, zipD, List.zip_cons_cons, zip_map ea eb r s]
theorem rng_map (a : Int) : ∀ n : Nat, rngD a n = (List.range n).map fun i => .int (a + (i : Nat))
  | 0 => rfl
  | n + 1 => by
    rw [List.range_succ_eq_map]
    simp only [rngD, rng_map (a + 1) n, List.map_cons, List.map_map]
    congr 1
    · simp
    · apply List.map_congr_left
      intro i _
      simp only [Function.comp]
      congr 1
      omega
theorem blsD_map {α : Type} (f : α → Bool) : ∀ xs : List α, blsD (xs.map fun a => .bl (f a)) = some (xs.map f)
  | [] => rfl
  | x :: r => by simp only [List.map_cons, blsD, blsD_map f r]
theorem all_map {α : Type} (f : α → Bool) (xs : List α) : allD (.lst (xs.map fun a => .bl (f a))) = some (.bl (xs.all f)) := by
  simp only [allD, blsD_map, ← allB_eq, List.all_map]
  rfl
theorem any_map {α : Type} (f : α → Bool) (xs : List α) : anyD (.lst (xs.map fun a => .bl (f a))) = some (.bl (xs.any f)) := by
  simp only [anyD, blsD_map, ← anyB_eq, List.any_map]
  rfl
theorem noMs_map {α : Type} {enc : α → D} (h : ∀ a, noM (enc a) = true) : ∀ xs : List α, noMs (xs.map enc) = true
  | [] => rfl
  | x :: r => by simp only [List.map_cons, noMs, h x, noMs_map h r]
theorem noMs_app : ∀ (xs ys : List D), noMs xs = true → noMs ys = true → noMs (xs ++ ys) = true
  | [], ys, _, h => h
  | x :: r, ys, h, h2 => by
    unfold noMs at h
    cases e : noM x with
    | false => rw [e] at h; cases h
    | true =>
      rw [e] at h
      simp only [List.cons_append, noMs, e]
      exact noMs_app r ys h h2
theorem all_tt {α : Type} (xs : List α) : (xs.all fun _ => true) = true := by induction xs <;> simp_all
theorem all_ok {α : Type} {p : α → Bool} {xs : List α} (h : ∀ a ∈ xs, p a = true) : xs.all p = true := List.all_eq_true.mpr h
theorem any_no {α : Type} {p : α → Bool} {xs : List α} (h : ∀ a ∈ xs, p a = false) : xs.any p = false := by
  rw [List.any_eq_false]
  intro a ha
  rw [h a ha]
  decide
/-! ### texts in lists -/
def okc (s : Tx) : Bool := s.all fun c => Nat.blt c 1114112
theorem pure_str {n : Nat} {s : Tx} : pureD n (.str s) = okc s := by cases n <;> rfl
theorem pures_strs {n : Nat} : ∀ {ws : List Tx}, (∀ s ∈ ws, okc s = true) → pureDs n (ws.map .str) = true
  | [], _ => by cases n <;> rfl
  | s :: r, h => by
    simp only [List.map_cons, pureDs, pure_str, h s (List.mem_cons_self ..)]
    exact pures_strs fun t ht => h t (List.mem_cons_of_mem _ ht)
theorem anyEq_strs {s : Tx} : ∀ {ws : List Tx}, anyEq (.str s) (ws.map .str) = decide (s ∈ ws)
  | [] => by simp [anyEq]
  | t :: r => by
    have ih := anyEq_strs (s := s) (ws := r)
    simp only [List.map_cons, anyEq, eqD, eqTx_dec, ih]
    by_cases h : t = s
    · subst h
      simp
    · have h2 : ¬ s = t := fun e => h e.symm
      simp [h, h2]
theorem in_strs {s : Tx} {ws : List Tx} (h : okc s = true) (hs : ∀ t ∈ ws, okc t = true) : inD (.str s) (.lst (ws.map .str)) = some (.bl (decide (s ∈ ws))) := by
  have h1 : pureD 60 (.lst (ws.map .str)) = true := by
    show pureDs 59 _ = true
    exact pures_strs hs
  simp only [inD, inD?, pure_str, h, h1, Bool.and_self, anyEq_strs]
theorem nin_strs {s : Tx} {ws : List Tx} (h : okc s = true) (hs : ∀ t ∈ ws, okc t = true) : ninD (.str s) (.lst (ws.map .str)) = some (.bl (!decide (s ∈ ws))) := by
  have h1 : pureD 60 (.lst (ws.map .str)) = true := by
    show pureDs 59 _ = true
    exact pures_strs hs
  simp only [ninD, inD?, pure_str, h, h1, Bool.and_self, anyEq_strs]
theorem eq_str {s t : Tx} (h : okc s = true) (h2 : okc t = true) : eqqD (.str s) (.str t) = some (.bl (decide (s = t))) := by
  simp only [eqqD, pure_str, h, h2, Bool.and_self, eqD, eqTx_dec]
theorem ne_str {s t : Tx} (h : okc s = true) (h2 : okc t = true) : neqD (.str s) (.str t) = some (.bl (!decide (s = t))) := by
  simp only [neqD, pure_str, h, h2, Bool.and_self, eqD, eqTx_dec]
theorem eq_strs {ws us : List Tx} (h : ∀ t ∈ ws, okc t = true) (h2 : ∀ t ∈ us, okc t = true) : eqqD (.lst (ws.map .str)) (.lst (us.map .str)) = some (.bl (decide (ws = us))) := by
  have e1 : pureD 60 (.lst (ws.map .str)) = true := by show pureDs 59 _ = true; exact pures_strs h
  have e2 : pureD 60 (.lst (us.map .str)) = true := by show pureDs 59 _ = true; exact pures_strs h2
  have e3 : ∀ ws us : List Tx, eqDs (ws.map .str) (us.map .str) = decide (ws = us) := by
    intro ws
    induction ws with
    | nil => intro us; cases us <;> simp [eqDs]
    | cons a r ih =>
      intro us
      cases us with
      | nil => simp [eqDs]
      | cons b s =>
        simp only [List.map_cons, eqDs, eqD, eqTx_dec, ih]
        by_cases q : a = b <;> simp [q]
  simp only [eqqD, e1, e2, Bool.and_self, eqD, e3]
theorem eqqD_some {x y : D} {b : Bool} (h : eqqD x y = some (.bl b)) : neqD x y = some (.bl (!b)) := by
  unfold eqqD at h
  unfold neqD
  cases e : pureD 60 x && pureD 60 y with
  | true =>
    rw [e] at h
    injection h with h
    injection h with h
    subst h
    rfl
  | false =>
    rw [e] at h
    cases h
theorem ne_strs {ws us : List Tx} (h : ∀ t ∈ ws, okc t = true) (h2 : ∀ t ∈ us, okc t = true) : neqD (.lst (ws.map .str)) (.lst (us.map .str)) = some (.bl (!decide (ws = us))) := eqqD_some (eq_strs h h2)
theorem idx_strs {s : Tx} : ∀ {ws : List Tx} (n : Nat), s ∈ ws → idxD (.str s) (ws.map .str) n = some (n + ws.idxOf s)
  | [], n, h => by simp at h
  | t :: r, n, h => by
    by_cases e : t = s
    · subst e
      simp [idxD, eqD, eqTx_dec]
    · have h2 : s ∈ r := by
        rcases List.mem_cons.mp h with q | q
        · exact absurd q.symm e
        · exact q
      have ih := idx_strs (n + 1) h2
      simp only [List.map_cons, idxD, eqD, eqTx_dec, decide_eq_false e, ih]
      have e2 : (t == s) = false := by simpa using e
      rw [List.idxOf_cons, e2]
      simp only [cond_false]
      congr 1
      omega
/-! ### slices -/
theorem cut_take {α : Type} (xs : List α) (n : Nat) : cutG xs none (some (n : Int)) = xs.take n := by
  unfold cutG
  rw [HT.sIx_none, HT.sIx_nat, List.drop_zero, Nat.sub_zero]
  by_cases h : n ≤ xs.length
  · rw [Nat.min_eq_left h]
  · rw [Nat.min_eq_right (by omega), List.take_length, List.take_of_length_le (by omega)]
theorem cut_drop {α : Type} (xs : List α) (n : Nat) : cutG xs (some (n : Int)) none = xs.drop n := by
  unfold cutG
  rw [HT.sIx_none, HT.sIx_nat]
  by_cases h : n ≤ xs.length
  · rw [Nat.min_eq_left h]
    exact List.take_of_length_le (by rw [List.length_drop]; exact Nat.le_refl _)
  · rw [Nat.min_eq_right (by omega), Nat.sub_self, List.take_zero, List.drop_of_length_le (by omega)]
theorem slD_lst {xs : List D} {lo hi : Option Int} : slD (.lst xs) lo hi = some (.lst (cutG xs lo hi)) := rfl
theorem slD_tup {xs : List D} {lo hi : Option Int} : slD (.tup xs) lo hi = some (.tup (cutG xs lo hi)) := rfl
theorem lk_mref {μ : Sto} {k : Nat} : look μ (.mref k) = match μ[k]? with
    | some (.lst ds) => .lst ds
    | some (.dct ds) => .dct ds
    | some (.ins c fs) => .ins c fs
    | some (.fz d) => d
    | _ => .mref k := rfl
theorem fz_lst {n k : Nat} {μ : Sto} {ds : List D} (h : μ[k]? = some (.lst ds)) (hn : ∀ d ∈ ds, ∀ μ, deepD n μ d = (d, μ)) : deepD (n + 1) μ (.mref k) = (.lst ds, μ.set k (.fz (.lst ds))) := by
  have hm : ∀ (ds : List D) (μ : Sto), (∀ d ∈ ds, ∀ μ, deepD n μ d = (d, μ)) → mapS (deepD n) ds μ = (ds, μ) := by
    intro ds
    induction ds with
    | nil => intro μ _; rfl
    | cons d r ih =>
      intro μ h
      simp only [mapS, h d (by simp), ih μ fun e he => h e (List.mem_cons_of_mem _ he)]
  simp only [deepD, h, hm ds _ hn, List.set_set]
theorem setAts : (∀ (x : D), setAt [] 0 x = some [x]) ∧ (∀ a (x : D), setAt [a] 1 x = some [a, x]) ∧ (∀ a b (x : D), setAt [a, b] 2 x = some [a, b, x]) ∧ (∀ a b c (x : D), setAt [a, b, c] 3 x = some [a, b, c, x]) ∧ (∀ a b c d (x : D), setAt [a, b, c, d] 4 x = some [a, b, c, d, x]) ∧ (∀ a b c d e (x : D), setAt [a, b, c, d, e] 5 x = some [a, b, c, d, e, x]) ∧ (∀ a b c d e f (x : D), setAt [a, b, c, d, e, f] 6 x = some [a, b, c, d, e, f, x]) ∧ (∀ a b c d e f g (x : D), setAt [a, b, c, d, e, f, g] 7 x = some [a, b, c, d, e, f, g, x]) := by
  refine ⟨?_, ?_, ?_, ?_, ?_, ?_, ?_, ?_⟩ <;> intros <;> rfl
theorem mulD_lst {xs : List D} {k : Int} (h1 : smallI (k * 4) = true) (h2 : lineB (xs.length * k.toNat) = true) : mulD (.lst xs) (.int k) = some (.lst (repD k.toNat xs)) := by
  unfold mulD
  simp only [h1, h2, Bool.and_self]
theorem beq_no {k l : Nat} (h : k ≠ l) : Nat.beq k l = false := by
  cases e : Nat.beq k l with
  | false => rfl
  | true => exact absurd (Nat.eq_of_beq_eq_true e) h
/-- self.f += [..] -/
theorem fldaug {c j k l : Nat} {wo we : WE} {De : DEnds} {ρ : Slots} {μ : Sto} {xs ys fs : List D} (hwo : ∀ Q E, wo ρ μ Q E = Q (.mref k) μ) (hk : μ[k]? = some (.ins c fs)) (hj : fs[j]? = some (.mref l))
    (hwe : ∀ Q E, we ρ μ Q E = Q (.lst ys) μ) (hl : μ[l]? = some (.lst xs)) (hn : xs.length + ys.length ≤ 16777216) (hkl : k ≠ l) : sFldAugD c j wo we De ρ μ = De.nx ρ (μ.set l (.lst (xs ++ ys))) := by
  have b1 := ble_ok hn
  have b2 := beq_no hkl
  have b3 : ∀ n, Nat.beq n n = true := Nat.beq_refl
  unfold sFldAugD
  rw [hwo]
  simp only [hk, hj, b3]
  rw [hwe]
  simp only [hl, hk, hj, b1, b2, b3, look, Bool.not_false, Bool.and_self]
theorem w2_of {f : D → D → Option D} {wa wb : WE} {ρ : Slots} {μ : Sto} {Q : QD} {E : QX} {x y x' y' d : D} (ha : ∀ Q E, wa ρ μ Q E = Q x μ) (hb : ∀ Q E, wb ρ μ Q E = Q y μ) (hx : look μ x = x') (hy : look μ y = y') (hf : f x' y' = some d) : w2 f wa wb ρ μ Q E = Q d μ := by
  unfold w2
  rw [ha, hb, hx, hy, hf]
end Pk

namespace K58
open PySem PySem.Spec PyProof.Rows L2 Pk
def w__law_sip : WS := (sSeq (sAsg2 (w2 addD (w2 ixD (wVar 0) (wC (.int 2))) (wC (.int 1))) fun E d ρ μ Q => (g2S (wVar 0) (wC (.int 2))) d ρ μ Q (fun x μ' => E x ρ μ'))
  (sSeq (sIf (tBl (w2 gtD (w2 ixD (wVar 0) (wC (.int 0))) (wC (.int 0))))
  (sSeq (sAsg2 (wBu (b2' divmodD) (aCons (w2 ixD (wVar 0) (wC (.int 0))) (aCons (wVar 1) aNil))) fun E => g2T 2 (g2Cons (g2S (wVar 0) (wC (.int 0))) (g2Cons (g2N 2) g2Nil)) E)
  (sRet (wVar 2))) sNil)
  (sSeq (sAsg2 (w2 modD (wBu (b1 intD) (aCons (w2 addD (w2 mulD (w2 ixD (wVar 0) (wC (.int 1))) (wC (.int 48271))) (w2 mulD (wC (.int 6089)) (w2 ixD (wVar 0) (wC (.int 2))))) aNil)) (wC (.int 2147483477))) fun E d ρ μ Q => (g2S (wVar 0) (wC (.int 1))) d ρ μ Q (fun x μ' => E x ρ μ'))
  (sRet (w2 modD (wBu (b1 intD) (aCons (w2 fdivD (w2 ixD (wVar 0) (wC (.int 1))) (wC (.int 1024))) aNil)) (wVar 1))))))
def c__law_sip : Con := loc (conB 3 2 w__law_sip)
def w__law_labels : WS := (sSeq (sAsg (wC (.str [97, 98, 99, 100, 101, 102, 103, 104, 105, 106, 107, 108, 109, 110, 111, 112, 113, 114, 115, 116, 117, 118, 119, 120, 121, 122])) (gN 2))
  (sSeq (sIf (tAn (tBl (w2 ltD (wVar 1) (wC (.int 9)))) (tBl (w2 eqqD (wGc (wCallN c__law_sip 2 [] (aCons (wVar 0) (aCons (wC (.int 3)) aNil)))) (wC (.int 0)))))
  (sRet (wSl (wLst (aCons (wC (.str [119, 97, 115, 104])) (aCons (wC (.str [97])) (aCons (wC (.str [114, 101, 110, 101, 119])) (aCons (wC (.str [103, 97, 114, 109, 101, 110, 116])) (aCons (wC (.str [98, 108, 101, 101, 100, 115])) (aCons (wC (.str [117, 110, 100, 111])) (aCons (wC (.str [122, 122])) (aCons (wC (.str [110, 97, 109, 101, 115])) aNil))))))))) oNo (oYes (wVar 1)))) sNil)
  (sSeq (sPar2 3 4 (aCons (w2 ixD (wLst (aCons (wC (.str [])) (aCons (wC (.str [120])) (aCons (wC (.str [97, 98, 99])) aNil)))) (wGc (wCallN c__law_sip 2 [] (aCons (wVar 0) (aCons (wC (.int 3)) aNil))))) (aCons (wLstO aNil) aNil)))
  (sSeq (sFor (iRg1 (wVar 1)) (gN 5)
  (sExpr (wMe isL appF (wVar 4) (aCons (w2 addD (wVar 3) (w2 ixD (wVar 2) (wVar 5))) aNil))))
  (sRet (wFz 1 (wIf (tBl (w2 eqqD (wGc (wCallN c__law_sip 2 [] (aCons (wVar 0) (aCons (wC (.int 2)) aNil)))) (wC (.int 0)))) (wRev (wVar 4)) (wVar 4))))))))
def c__law_labels : Con := loc (conB 6 2 w__law_labels)
def w__law_cloths : WS := (sSeq (sAsg (w2 addD (wC (.int 1)) (wGc (wCallN c__law_sip 2 [] (aCons (wVar 0) (aCons (wVar 1) aNil))))) (gN 3))
  (sSeq (sAsg (wGc (wCallN c__law_labels 2 [] (aCons (wVar 0) (aCons (wVar 3) aNil)))) (gN 4))
  (sSeq (sAsg (w2 ixD (wLst (aCons (wLst (aCons (wC (.str [114, 101, 100])) (aCons (wC (.str [98, 108, 117, 101])) aNil))) (aCons (wLst (aCons (wC (.str [119, 97, 115, 104])) (aCons (wC (.str [97])) aNil))) (aCons (wLst (aCons (wC (.str [114, 101, 100])) (aCons (wC (.str [114, 101, 100])) aNil))) aNil)))) (wGc (wCallN c__law_sip 2 [] (aCons (wVar 0) (aCons (wC (.int 3)) aNil))))) (gN 5))
  (sRet (wLc false (iSeq (wFz 1 (wVar 4))) (gN 6) tAll (wTup (aCons (wVar 6) (aCons (w2 ixD (wVar 5) (wGc (wCallN c__law_sip 2 [] (aCons (wVar 0) (aCons (wC (.int 2)) aNil))))) (aCons (wGc (wCallN c__law_sip 2 [] (aCons (wVar 0) (aCons (w2 addD (wVar 2) (wC (.int 1))) aNil)))) aNil)))) [6])))))
def c__law_cloths : Con := loc (conB 7 3 w__law_cloths)
def w__law_hues : WS := (sSeq (sAsg (wLstO aNil) (gN 1))
  (sSeq (sFor (iSeq (wFz 1 (wVar 0))) (gN 2)
  (sIf (tBl (w2 ninD (w2 ixD (wVar 2) (wC (.int 1))) (wVar 1)))
  (sExpr (wMe isL appF (wVar 1) (aCons (w2 ixD (wVar 2) (wC (.int 1))) aNil))) sNil))
  (sRet (wFz 1 (wVar 1)))))
def c__law_hues : Con := loc (conB 3 1 w__law_hues)
def w__law_drawn : WS := (sSeq (sAsg (wTup (aCons (wLstO aNil) (aCons (wLc true (iSeq (wFz 1 (wVar 1))) (gN 13) tAll (wGc (wCallN c__law_sip 2 [] (aCons (wVar 0) (aCons (w2 addD (w2 ixD (wVar 13) (wC (.int 2))) (wC (.int 1))) aNil)))) [13]) aNil))) (gT [(gN 3), (gN 4)]))
  (sSeq (sAsg (wMulO (wLst (aCons (wC (.int 0)) aNil)) (wBu (b1 lenD) (aCons (wVar 1) aNil))) (gN 5))
  (sSeq (sFor (iRg1 (wGc (wCallN c__law_sip 2 [] (aCons (wVar 0) (aCons (w2 addD (wVar 2) (wC (.int 1))) aNil))))) (gN 6)
  (sIf (tBl (w2 eqqD (wGc (wCallN c__law_sip 2 [] (aCons (wVar 0) (aCons (wC (.int 7)) aNil)))) (wC (.int 0))))
  (sSeq (sAsg (wGc (wCallN c__law_sip 2 [] (aCons (wVar 0) (aCons (wBu (b1 lenD) (aCons (wVar 1) aNil)) aNil)))) (gN 7))
  (sSeq (sExpr (wMe isL appF (wVar 3) (aCons (wTup (aCons (wC (.str [114, 101, 110, 101, 119])) (aCons (wVar 7) aNil))) aNil)))
  (sAsg2 (wTup (aCons (wGc (wCallN c__law_sip 2 [] (aCons (wVar 0) (aCons (w2 addD (w2 ixD (w2 ixD (wVar 1) (wVar 7)) (wC (.int 2))) (wC (.int 1))) aNil)))) (aCons (wC (.int 0)) aNil))) fun E => g2T 2 (g2Cons (g2S (wVar 4) (wVar 7)) (g2Cons (g2S (wVar 5) (wVar 7)) g2Nil)) E))) (sSeq (sAsg (wLc false (iRg1 (wBu (b1 lenD) (aCons (wVar 1) aNil))) (gN 7) (tBl (w2 eqqD (wGc (wCallN c__law_sip 2 [] (aCons (wVar 0) (aCons (wC (.int 2)) aNil)))) (wC (.int 0)))) (wVar 7) [7]) (gN 8))
  (sSeq (sAsg (wIf (tBl (w2 eqqD (wVar 8) (wLst aNil))) (wLst (aCons (wGc (wCallN c__law_sip 2 [] (aCons (wVar 0) (aCons (wBu (b1 lenD) (aCons (wVar 1) aNil)) aNil)))) aNil)) (wVar 8)) (gN 8))
  (sSeq (sIf (tBl (w2 eqqD (wGc (wCallN c__law_sip 2 [] (aCons (wVar 0) (aCons (wC (.int 2)) aNil)))) (wC (.int 0))))
  (sAsg (wRev (wVar 8)) (gN 8)) sNil)
  (sSeq (sFor (iSeq (wFz 1 (wVar 8))) (gN 7)
  (sAsg2 (w2 addD (w2 ixD (wVar 5) (wVar 7)) (wC (.int 1))) fun E d ρ μ Q => (g2S (wVar 5) (wVar 7)) d ρ μ Q (fun x μ' => E x ρ μ')))
  (sSeq (sAsg (wLc false (iSeq (wFz 1 (wCallN c__law_hues 1 [] (aCons (wVar 1) aNil)))) (gN 14) (tBl (w2 inD (wVar 14) (wLc false (iSeq (wFz 1 (wVar 8))) (gN 7) tAll (w2 ixD (w2 ixD (wVar 1) (wVar 7)) (wC (.int 1))) [7]))) (wVar 14) [14]) (gN 9))
  (sSeq (sAsg (wLc false (iSeq (wFz 1 (wVar 8))) (gN 7) (tBl (w2 leD (w2 ixD (wVar 5) (wVar 7)) (w2 ixD (wVar 4) (wVar 7)))) (w2 ixD (w2 ixD (wVar 1) (wVar 7)) (wC (.int 1))) [7]) (gN 10))
  (sSeq (sAsg (wLc false (iSeq (wFz 1 (wVar 9))) (gN 14) (tBl (w2 eqqD (wGc (wCallN c__law_sip 2 [] (aCons (wVar 0) (aCons (wC (.int 6)) aNil)))) (wC (.int 0)))) (wVar 14) [14]) (gN 11))
  (sSeq (sAsg (wLc false (iSeq (wFz 1 (wVar 9))) (gN 14) (tAn (tBl (w2 ninD (wVar 14) (wVar 11))) (tBl (w2 neqD (w2 inD (wVar 14) (wVar 10)) (w2 eqqD (wGc (wCallN c__law_sip 2 [] (aCons (wVar 0) (aCons (wC (.int 12)) aNil)))) (wC (.int 0)))))) (wVar 14) [14]) (gN 12))
  (sExpr (wMe isL appF (wVar 3) (aCons (wTup (aCons (wC (.str [119, 97, 115, 104])) (aCons (wVar 8) (aCons (wVar 12) (aCons (wVar 11) aNil))))) aNil)))))))))))))
  (sRet (wFz 1 (wVar 3))))))
def c__law_drawn : Con := loc (conB 15 3 w__law_drawn)
def w_is_name : WS := (sRet (wAnd (wBu (b2' isiD) (aCons (wVar 0) (aCons (wC (.ty .str)) aNil))) (wAnd (wCh ltD ltD (wC (.int 0)) (wBu (b1 lenD) (aCons (wVar 0) aNil)) (wC (.int 9))) (wBu (b1 allD) (aCons (wLc false (iSeq (wFz 1 (wVar 0))) (gN 1) tAll (w2 inD (wVar 1) (wC (.str [97, 98, 99, 100, 101, 102, 103, 104, 105, 106, 107, 108, 109, 110, 111, 112, 113, 114, 115, 116, 117, 118, 119, 120, 121, 122]))) [1]) aNil)))))
def c_is_name : Con := loc (conB 2 1 w_is_name)
def w_is_integer : WS := (sRet (wAnd (wBu (b2' isiD) (aCons (wVar 0) (aCons (wC (.ty .int)) aNil))) (wNot (wBu (b2' isiD) (aCons (wVar 0) (aCons (wC (.ty .bool)) aNil))))))
def c_is_integer : Con := loc (conB 1 1 w_is_integer)
def w_is_between : WS := (sRet (wAnd (wCallN c_is_integer 1 [] (aCons (wVar 0) aNil)) (wCh leD leD (wVar 1) (wVar 0) (wVar 2))))
def c_is_between : Con := loc (conB 3 3 w_is_between)
def w_is_garment : WS := (sSeq (sIf (tOr' (tNo (tTru (wBu (b2' isiD) (aCons (wVar 0) (aCons (wC (.ty .tup)) aNil))))) (tBl (w2 neqD (wBu (b1 lenD) (aCons (wVar 0) aNil)) (wC (.int 3)))))
  (sRet (wC (.bl false))) sNil)
  (sRet (wAnd (wCallN c_is_name 1 [] (aCons (w2 ixD (wVar 0) (wC (.int 0))) aNil)) (wAnd (wCallN c_is_name 1 [] (aCons (w2 ixD (wVar 0) (wC (.int 1))) aNil)) (wCallN c_is_between 3 [] (aCons (w2 ixD (wVar 0) (wC (.int 2))) (aCons (wC (.int 0)) (aCons (wC (.int 12)) aNil))))))))
def c_is_garment : Con := loc (conB 1 1 w_is_garment)
def w_check_garments : WS := (sSeq (sIf (tOr' (tNo (tTru (wBu (b2' isiD) (aCons (wVar 0) (aCons (wC (.ty .tup)) aNil))))) (tBl (w2 eqqD (wBu (b1 lenD) (aCons (wVar 0) aNil)) (wC (.int 0)))))
  sNever sNil)
  (sFor (iEnm (wFz 1 (wVar 0))) (gT [(gN 1), (gN 2)])
  (sSeq (sIf (tOr' (tBl (w2 eqqD (wVar 1) (wC (.int 8)))) (tNo (tTru (wCallN c_is_garment 1 [] (aCons (wVar 2) aNil)))))
  sNever sNil)
  (sIf (tBl (w2 inD (w2 ixD (wVar 2) (wC (.int 0))) (wLc false (iSeq (wFz 1 (wSl (wVar 0) oNo (oYes (wVar 1))))) (gN 3) tAll (w2 ixD (wVar 3) (wC (.int 0))) [3])))
  sNever sNil))))
def c_check_garments : Con := loc (conB 4 1 w_check_garments)
def w_parted_at : WS := (sSeq (sIf (tBl (w2 ninD (wVar 1) (wVar 0)))
  (sRet (wTup (aCons (wVar 0) (aCons (wC .non) aNil)))) sNil)
  (sSeq (sAsg (wMe isL idxF (wVar 0) (aCons (wVar 1) aNil)) (gN 2))
  (sRet (wTup (aCons (wSl (wVar 0) oNo (oYes (wVar 2))) (aCons (wSl (wVar 0) (oYes (w2 addD (wVar 2) (wC (.int 1)))) oNo) aNil))))))
def c_parted_at : Con := loc (conB 3 2 w_parted_at)
def w_dyes_in : WS := (sRet (wBu (b1L false itemsOf) (aCons (wBu (bDict false) (aCons (wLc false (iSeq (wFz 1 (wVar 0))) (gN 1) tAll (wTup (aCons (w2 ixD (wVar 1) (wC (.int 1))) (aCons (wC (.bl true)) aNil))) [1]) aNil)) aNil)))
def c_dyes_in : Con := loc (conB 2 1 w_dyes_in)
def w_are_different : WS := (sRet (wBu (b1 allD) (aCons (wLc false (iEnm (wFz 1 (wVar 0))) (gT [(gN 1), (gN 2)]) tAll (w2 eqqD (wMe isL idxF (wVar 0) (aCons (wVar 2) aNil)) (wVar 1)) [1, 2]) aNil)))
def c_are_different : Con := loc (conB 3 1 w_are_different)
def w_names_in : WS := (sRet (wLc false (iSeq (wFz 1 (wVar 0))) (gN 1) tAll (w2 ixD (wVar 1) (wC (.int 0))) [1]))
def c_names_in : Con := loc (conB 2 1 w_names_in)
def w_wash_in : WS := (sSeq (sAsg (wCallN c_parted_at 2 [] (aCons (wVar 1) (aCons (wC (.str [63])) aNil))) (gT [(gN 2), (gN 3)]))
  (sSeq (sAsg (wCallN c_parted_at 2 [] (aCons (wVar 2) (aCons (wC (.str [43])) aNil))) (gT [(gN 4), (gN 5)]))
  (sSeq (sAsg (w2 addD (wOr (wVar 5) (wLst aNil)) (wOr (wVar 3) (wLst aNil))) (gN 6))
  (sSeq (sAsg (wCallN c_dyes_in 1 [] (aCons (wLc false (iSeq (wFz 1 (wVar 0))) (gN 9) (tBl (w2 inD (w2 ixD (wVar 9) (wC (.int 0))) (wVar 4))) (wVar 9) [9]) aNil)) (gN 7))
  (sSeq (sIf (tOr' (tBl (w2 eqqD (wVar 4) (wLst aNil))) (tOr' (tBl (w2 eqqD (wVar 5) (wLst aNil))) (tOr' (tBl (w2 eqqD (wVar 3) (wLst aNil))) (tOr' (tNo (tTru (wCallN c_are_different 1 [] (aCons (wVar 4) aNil)))) (tNo (tTru (wCallN c_are_different 1 [] (aCons (wVar 6) aNil))))))))
  (sRet (wC .non)) sNil)
  (sSeq (sIf (tOr' (tNo (tTru (wBu (b1 allD) (aCons (wLc false (iSeq (wFz 1 (wVar 4))) (gN 10) tAll (w2 inD (wVar 10) (wCallN c_names_in 1 [] (aCons (wVar 0) aNil))) [10]) aNil)))) (tNo (tTru (wBu (b1 allD) (aCons (wLc false (iSeq (wFz 1 (wVar 6))) (gN 11) tAll (w2 inD (wVar 11) (wVar 7)) [11]) aNil)))))
  (sRet (wC .non)) sNil)
  (sSeq (sAsg (wLc false (iSeq (wFz 1 (wCallN c_dyes_in 1 [] (aCons (wVar 0) aNil)))) (gN 11) (tAn (tBl (w2 inD (wVar 11) (wVar 7))) (tBl (w2 ninD (wVar 11) (wOr (wVar 3) (wLst aNil))))) (wVar 11) [11]) (gN 8))
  (sRet (wTup (aCons (wC (.str [119, 97, 115, 104])) (aCons (wBu (b1 tupD) (aCons (wVar 4) aNil)) (aCons (wBu (b1 tupD) (aCons (wLc false (iSeq (wFz 1 (wVar 8))) (gN 11) tAll (wTup (aCons (wVar 11) (aCons (w2 inD (wVar 11) (wOr (wVar 5) (wLst aNil))) aNil))) [11]) aNil)) aNil))))))))))))
def c_wash_in : Con := loc (conB 12 2 w_wash_in)
def w_entry_in : WS := (sSeq (sAsg (wIf (tTru (wBu (b2' isiD) (aCons (wVar 1) (aCons (wC (.ty .str)) aNil)))) (wMe isS (splF false) (wVar 1) (aCons (wC (.str [32])) aNil)) (wLst (aCons (wC (.str [])) aNil))) (gN 2))
  (sSeq (sIf (tBl (w2 eqqD (w2 ixD (wVar 2) (wC (.int 0))) (wC (.str [119, 97, 115, 104]))))
  (sRet (wCallN c_wash_in 2 [] (aCons (wVar 0) (aCons (wSl (wVar 2) (oYes (wC (.int 1))) oNo) aNil)))) sNil)
  (sSeq (sIf (tAn (tBl (w2 eqqD (w2 ixD (wVar 2) (wC (.int 0))) (wC (.str [114, 101, 110, 101, 119])))) (tAn (tBl (w2 eqqD (wBu (b1 lenD) (aCons (wVar 2) aNil)) (wC (.int 2)))) (tBl (w2 inD (w2 ixD (wVar 2) (wC (.int 1))) (wCallN c_names_in 1 [] (aCons (wVar 0) aNil))))))
  (sRet (wTup (aCons (wC (.str [114, 101, 110, 101, 119])) (aCons (wTup (aCons (w2 ixD (wVar 2) (wC (.int 1))) aNil)) (aCons (wTup aNil) aNil))))) sNil)
  (sRet (wC .non)))))
def c_entry_in : Con := loc (conB 3 2 w_entry_in)
def w_check_lines : WS := (sSeq (sIf (tNo (tTru (wBu (b2' isiD) (aCons (wVar 1) (aCons (wC (.ty .tup)) aNil)))))
  sNever sNil)
  (sFor (iEnm (wFz 1 (wVar 1))) (gT [(gN 2), (gN 3)])
  (sIf (tOr' (tBl (w2 eqqD (wVar 2) (wC (.int 30)))) (tBl (w2 isD (wCallN c_entry_in 2 [] (aCons (wVar 0) (aCons (wVar 3) aNil))) (wC .non))))
  sNever sNil)))
def c_check_lines : Con := loc (conB 4 2 w_check_lines)
def w_Walk_wash : WS := (sSeq (sFor (iSeq (wFz 1 (wVar 3))) (gN 5)
  (sAugS (fun i j => i + j) (wFld 1 2 (wVar 0)) (wVar 5) (wC (.int 1))))
  (sSeq (sAsg (wBu (b1 tupD) (aCons (wLc false (iSeq (wFz 1 (wVar 3))) (gN 5) tAll (wTup (aCons (wVar 5) (aCons (w2 ixD (wFld 1 2 (wVar 0)) (wVar 5)) aNil))) [5]) aNil)) (gN 6))
  (sSeq (sExpr (wMe isL appF (wFld 1 3 (wVar 0)) (aCons (wVar 6) aNil)))
  (sFor (iSeq (wFz 1 (wVar 4))) (gT [(gN 7), (gN 8)])
  (sSeq (sExpr (wMe isL appF (wFld 1 4 (wVar 0)) (aCons (wTup (aCons (wVar 2) (aCons (wVar 7) (aCons (wVar 8) aNil)))) aNil)))
  (sExpr (wMe isL appF (wFld 1 5 (wVar 0)) (aCons (wBu (b1 ptpD) (aCons (wLc false (iSeq (wFz 1 (wVar 6))) (gN 9) (tBl (w2 eqqD (w2 ixD (w2 ixD (wVar 1) (w2 ixD (wFld 1 0 (wVar 0)) (w2 ixD (wVar 9) (wC (.int 0))))) (wC (.int 1))) (wVar 7))) (wVar 9) [9]) aNil)) aNil))))))))
def c_Walk_wash : Con := loc (conB 10 5 w_Walk_wash)
def w_Walk_go : WS := (sSeq (sAsg (wBu (bDict true) (aCons (wLc false (iSeq (wFz 1 (wCallN c_names_in 1 [] (aCons (wVar 1) aNil)))) (gN 8) tAll (wTup (aCons (wVar 8) (aCons (wMe isL idxF (wFld 1 1 (wVar 0)) (aCons (wTup (aCons (wVar 8) (aCons (wC (.int 0)) aNil))) aNil)) aNil))) [8]) aNil)) (gN 3))
  (sFor (iEnm (wFz 1 (wVar 2))) (gT [(gN 4), (gT [(gN 5), (gN 6), (gN 7)])])
  (sIf (tBl (w2 eqqD (wVar 5) (wC (.str [114, 101, 110, 101, 119]))))
  (sSeq (sAugS (fun i j => i + j) (wVar 3) (w2 ixD (wVar 6) (wC (.int 0))) (wC (.int 1)))
  (sExpr (wMe isL appF (wFld 1 3 (wVar 0)) (aCons (wTup aNil) aNil)))) (sExpr (wMeth 1 c_Walk_wash 5 (wVar 0) (aCons (wVar 1) (aCons (wVar 4) (aCons (wBu (b1L false sortedD) (aCons (wLc false (iSeq (wFz 1 (wVar 6))) (gN 8) tAll (w2 ixD (wVar 3) (wVar 8)) [8]) aNil)) (aCons (wVar 7) aNil)))))))))
def c_Walk_go : Con := loc (conB 9 3 w_Walk_go)
def w_Walk_init : WS := (sSeq (sFldD 1 0 (wVar 0) (wLstO aNil))
  (sSeq (sFldD 1 1 (wVar 0) (wLstO aNil))
  (sSeq (sFor (iEnm (wFz 1 (wVar 1))) (gT [(gN 3), (gN 4)])
  (sSeq (sAsg (wBu (b1 lenD) (aCons (wLc false (iSeq (wFz 1 (wVar 2))) (gN 6) (tAn (tBl (w2 eqqD (w2 ixD (wVar 6) (wC (.int 0))) (wC (.str [114, 101, 110, 101, 119])))) (tBl (w2 eqqD (w2 ixD (wVar 6) (wC (.int 1))) (wTup (aCons (w2 ixD (wVar 4) (wC (.int 0))) aNil))))) (wVar 6) [6]) aNil)) (gN 5))
  (sSeq (sFldAugD 1 0 (wVar 0) (w2 mulD (wLst (aCons (wVar 3) aNil)) (w2 addD (wVar 5) (wC (.int 1)))))
  (sFldAugD 1 1 (wVar 0) (wLc false (iRg1 (w2 addD (wVar 5) (wC (.int 1)))) (gN 7) tAll (wTup (aCons (w2 ixD (wVar 4) (wC (.int 0))) (aCons (wVar 7) aNil))) [7])))))
  (sSeq (sFldD 1 2 (wVar 0) (wMulO (wLst (aCons (wC (.int 0)) aNil)) (wBu (b1 lenD) (aCons (wFld 1 1 (wVar 0)) aNil))))
  (sSeq (sFldD 1 3 (wVar 0) (wLstO aNil))
  (sSeq (sFldD 1 4 (wVar 0) (wLstO aNil))
  (sSeq (sFldD 1 5 (wVar 0) (wLstO aNil))
  (sExpr (wMeth 1 c_Walk_go 3 (wVar 0) (aCons (wVar 1) (aCons (wVar 2) aNil)))))))))))
def c_Walk_init : Con := loc (conB 8 3 w_Walk_init)
def w_Book_init : WS := (sSeq (sExpr (wCallN c_check_garments 1 [] (aCons (wVar 1) aNil)))
  (sSeq (sExpr (wCallN c_check_lines 2 [] (aCons (wVar 1) (aCons (wVar 2) aNil))))
  (sSeq (sFldD 0 0 (wVar 0) (wVar 1))
  (sSeq (sFldD 0 1 (wVar 0) (wVar 2))
  (sSeq (sFldD 0 2 (wVar 0) (wBu (b1 tupD) (aCons (wLc false (iSeq (wFz 1 (wVar 2))) (gN 3) tAll (wCallN c_entry_in 2 [] (aCons (wVar 1) (aCons (wVar 3) aNil))) [3]) aNil)))
  (sFldD 0 3 (wVar 0) (wMake 1 c_Walk_init 3 [] (aCons (wVar 1) (aCons (wFld 0 2 (wVar 0)) aNil)))))))))
def c_Book_init : Con := loc (conB 4 3 w_Book_init)
def w__law_row : WS := (sSeq (sIf (tBl (w2 eqqD (w2 ixD (wVar 1) (wC (.int 0))) (wC (.str [114, 101, 110, 101, 119]))))
  (sRet (w2 addD (wC (.str [114, 101, 110, 101, 119, 32])) (w2 ixD (w2 ixD (wVar 0) (w2 ixD (wVar 1) (wC (.int 1)))) (wC (.int 0))))) sNil)
  (sSeq (sAsg (w2 addD (wLst (aCons (wC (.str [119, 97, 115, 104])) aNil)) (wLc false (iSeq (wFz 1 (w2 ixD (wVar 1) (wC (.int 1))))) (gN 3) tAll (w2 ixD (w2 ixD (wVar 0) (wVar 3)) (wC (.int 0))) [3])) (gN 2))
  (sSeq (sIf (tBl (w2 neqD (w2 ixD (wVar 1) (wC (.int 2))) (wLst aNil)))
  (sAsg (w2 addD (w2 addD (wVar 2) (wLst (aCons (wC (.str [43])) aNil))) (w2 ixD (wVar 1) (wC (.int 2)))) (gN 2)) sNil)
  (sRet (wMe isS joinF (wC (.str [32])) (aCons (w2 addD (wVar 2) (wIf (tBl (w2 neqD (w2 ixD (wVar 1) (wC (.int 3))) (wLst aNil))) (w2 addD (wLst (aCons (wC (.str [63])) aNil)) (w2 ixD (wVar 1) (wC (.int 3)))) (wLst aNil))) aNil))))))
def c__law_row : Con := loc (conB 4 2 w__law_row)
def w__law_book : WS := (sRet (wLoc (wFz 9 (wMake 0 c_Book_init 3 [] (aCons (wBu (b1 tupD) (aCons (wVar 0) aNil)) (aCons (wBu (b1 tupD) (aCons (wLc false (iSeq (wFz 1 (wVar 1))) (gN 2) tAll (wCallN c__law_row 2 [] (aCons (wVar 0) (aCons (wVar 2) aNil))) [2]) aNil)) aNil))))))
def c__law_book : Con := loc (conB 3 2 w__law_book)
def w__law_places : WS := (sRet (wIf (tBl (w2 eqqD (w2 ixD (wVar 0) (wC (.int 0))) (wC (.str [114, 101, 110, 101, 119])))) (wLst (aCons (w2 ixD (wVar 0) (wC (.int 1))) aNil)) (w2 ixD (wVar 0) (wC (.int 1)))))
def c__law_places : Con := loc (conB 1 1 w__law_places)
def w__law_exchanged : WS := (sSeq (sAsg (wBu (b1L true itemsOf) (aCons (wVar 1) aNil)) (gN 2))
  (sSeq (sFor (iRg1 (wC (.int 3))) (gN 3)
  (sFor (iRg2 (wC (.int 1)) (wBu (b1 lenD) (aCons (wVar 2) aNil))) (gN 4)
  (sSeq (sAsg (wTup (aCons (wCallN c__law_places 1 [] (aCons (w2 ixD (wVar 2) (w2 subD (wVar 4) (wC (.int 1)))) aNil)) (aCons (wCallN c__law_places 1 [] (aCons (w2 ixD (wVar 2) (wVar 4)) aNil)) aNil))) (gT [(gN 5), (gN 6)]))
  (sIf (tAn (tBl (w2 eqqD (wLc false (iSeq (wFz 1 (wVar 5))) (gN 7) (tBl (w2 inD (wVar 7) (wVar 6))) (wVar 7) [7]) (wLst aNil))) (tBl (w2 eqqD (wGc (wCallN c__law_sip 2 [] (aCons (wVar 0) (aCons (wC (.int 2)) aNil)))) (wC (.int 0)))))
  (sAsg2 (wTup (aCons (w2 ixD (wVar 2) (wVar 4)) (aCons (w2 ixD (wVar 2) (w2 subD (wVar 4) (wC (.int 1)))) aNil))) fun E => g2T 2 (g2Cons (g2S (wVar 2) (w2 subD (wVar 4) (wC (.int 1)))) (g2Cons (g2S (wVar 2) (wVar 4)) g2Nil)) E) sNil))))
  (sRet (wFz 1 (wVar 2)))))
def c__law_exchanged : Con := loc (conB 8 2 w__law_exchanged)
def w_Book_lives : WS := (sRet (wBu (b1 tupD) (aCons (wFld 1 1 (wFld 0 3 (wVar 0))) aNil)))
def c_Book_lives : Con := loc (conB 1 1 w_Book_lives)
def w_check_book : WS := (sIf (tNo (tTru (wBu (b2' (isiC 0)) (aCons (wVar 0) (aCons (wC (.cls 0)) aNil)))))
  sNever sNil)
def c_check_book : Con := loc (conB 1 1 w_check_book)
def w_Book_garments : WS := (sRet (wFld 0 0 (wVar 0)))
def c_Book_garments : Con := loc (conB 1 1 w_Book_garments)
def w_garment_of : WS := (sRet (w2 ixD (wProp 0 c_Book_garments (wVar 0)) (wMe isL idxF (wCallN c_names_in 1 [] (aCons (wProp 0 c_Book_garments (wVar 0)) aNil)) (aCons (w2 ixD (w2 ixD (wProp 0 c_Book_lives (wVar 0)) (wVar 1)) (wC (.int 0))) aNil))))
def c_garment_of : Con := loc (conB 2 2 w_garment_of)
def w_top_of : WS := (sRet (w2 ixD (wCallN c_garment_of 2 [] (aCons (wVar 0) (aCons (wVar 1) aNil))) (wC (.int 2))))
def c_top_of : Con := loc (conB 2 2 w_top_of)
def w_Book_looks : WS := (sRet (wBu (b1 tupD) (aCons (wFld 1 4 (wFld 0 3 (wVar 0))) aNil)))
def c_Book_looks : Con := loc (conB 1 1 w_Book_looks)
def w_Book_spans : WS := (sRet (wBu (b1 tupD) (aCons (wFld 1 5 (wFld 0 3 (wVar 0))) aNil)))
def c_Book_spans : Con := loc (conB 1 1 w_Book_spans)
def w_tops_of : WS := (sSeq (sAsg (wLc true (iRg1 (wBu (b1 lenD) (aCons (wProp 0 c_Book_lives (wVar 0)) aNil))) (gN 5) tAll (wCallN c_top_of 2 [] (aCons (wVar 0) (aCons (wVar 5) aNil))) [5]) (gN 2))
  (sSeq (sFor (iEnm (wFz 1 (wProp 0 c_Book_looks (wVar 0)))) (gT [(gN 3), (gN 4)])
  (sIf (tAn (tNo (tTru (w2 ixD (wVar 4) (wC (.int 2))))) (tBl (w2 ninD (wVar 3) (wVar 1))))
  (sFor (iSeq (wFz 1 (w2 ixD (wProp 0 c_Book_spans (wVar 0)) (wVar 3)))) (gT [(gN 5), (gN 6)])
  (sAsg2 (wBu (b2' minD) (aCons (w2 ixD (wVar 2) (wVar 5)) (aCons (w2 subD (wVar 6) (wC (.int 1))) aNil))) fun E d ρ μ Q => (g2S (wVar 2) (wVar 5)) d ρ μ Q (fun x μ' => E x ρ μ'))) sNil))
  (sRet (wFz 1 (wVar 2)))))
def c_tops_of : Con := loc (conB 7 2 w_tops_of)
def w_tops : WS := (sSeq (sExpr (wCallN c_check_book 1 [] (aCons (wVar 0) aNil)))
  (sRet (wBu (b1 tupD) (aCons (wCallN c_tops_of 2 [.tup []] (aCons (wVar 0) aNil)) aNil))))
def c_tops : Con := loc (conB 1 1 w_tops)
def w_fits_tops : WS := (sSeq (sFor (iEnm (wFz 1 (wProp 0 c_Book_looks (wVar 0)))) (gT [(gN 3), (gN 4)])
  (sSeq (sAsg (wAnd (w2 ixD (wVar 4) (wC (.int 2))) (w2 ninD (wVar 3) (wVar 2))) (gN 5))
  (sIf (tAn (tTru (wVar 5)) (tNo (tTru (wBu (b1 anyD) (aCons (wLc false (iSeq (wFz 1 (w2 ixD (wProp 0 c_Book_spans (wVar 0)) (wVar 3)))) (gT [(gN 6), (gN 7)]) tAll (w2 leD (wVar 7) (w2 ixD (wVar 1) (wVar 6))) [6, 7]) aNil)))))
  (sRet (wC (.bl false))) sNil)))
  (sRet (wC (.bl true))))
def c_fits_tops : Con := loc (conB 8 3 w_fits_tops)
def w_is_possible : WS := (sRet (wCallN c_fits_tops 3 [.tup []] (aCons (wVar 0) (aCons (wCallN c_tops_of 2 [.tup []] (aCons (wVar 0) aNil)) aNil))))
def c_is_possible : Con := loc (conB 1 1 w_is_possible)
def w_possible : WS := (sSeq (sExpr (wCallN c_check_book 1 [] (aCons (wVar 0) aNil)))
  (sRet (wCallN c_is_possible 1 [] (aCons (wVar 0) aNil))))
def c_possible : Con := loc (conB 1 1 w_possible)
def w_check_possible : WS := (sIf (tNo (tTru (wCallN c_is_possible 1 [] (aCons (wVar 0) aNil))))
  sNever sNil)
def c_check_possible : Con := loc (conB 1 1 w_check_possible)
def w_least_by : WS := (sSeq (sAsg (wC (.int 0)) (gN 4))
  (sSeq (sFor (iEnm (wFz 1 (wProp 0 c_Book_looks (wVar 0)))) (gT [(gN 5), (gN 6)])
  (sSeq (sAsg (wIf (tAn (tTru (w2 ixD (wVar 6) (wC (.int 2)))) (tBl (w2 ninD (wVar 5) (wVar 3)))) (wBu (bDictT false) (aCons (w2 ixD (wProp 0 c_Book_spans (wVar 0)) (wVar 5)) aNil)) (wDct0 false)) (gN 7))
  (sIf (tAn (tBl (w2 inD (wVar 2) (wVar 7))) (tNo (tTru (wBu (b1 anyD) (aCons (wLc false (iKy (wVar 7)) (gN 8) (tBl (w2 neqD (wVar 8) (wVar 2))) (w2 leD (w2 ixD (wVar 7) (wVar 8)) (w2 ixD (wVar 1) (wVar 8))) [8]) aNil)))))
  (sAsg (wBu (b2' maxD) (aCons (wVar 4) (aCons (w2 ixD (wVar 7) (wVar 2)) aNil))) (gN 4)) sNil)))
  (sRet (wVar 4))))
def c_least_by : Con := loc (conB 9 4 w_least_by)
def w_known_of : WS := (sSeq (sAsg (wCallN c_tops_of 2 [.tup []] (aCons (wVar 0) aNil)) (gN 1))
  (sRet (wLc false (iEnm (wFz 1 (wVar 1))) (gT [(gN 2), (gN 3)]) tAll (wTup (aCons (wCallN c_least_by 4 [.tup []] (aCons (wVar 0) (aCons (wVar 1) (aCons (wVar 2) aNil)))) (aCons (wVar 3) aNil))) [2, 3])))
def c_known_of : Con := loc (conB 4 1 w_known_of)
def w_known : WS := (sSeq (sExpr (wCallN c_check_book 1 [] (aCons (wVar 0) aNil)))
  (sSeq (sExpr (wCallN c_check_possible 1 [] (aCons (wVar 0) aNil)))
  (sRet (wBu (b1 tupD) (aCons (wCallN c_known_of 1 [] (aCons (wVar 0) aNil)) aNil)))))
def c_known : Con := loc (conB 1 1 w_known)
def w__law_right : WS := (sSeq (sAsg (wGc (wCallN c__law_cloths 3 [] (aCons (wVar 0) (aCons (wC (.int 6)) (aCons (wC (.int 12)) aNil))))) (gN 1))
  (sSeq (sAsg (wGc (wCallN c__law_drawn 3 [] (aCons (wVar 0) (aCons (wVar 1) (aCons (wC (.int 20)) aNil))))) (gN 2))
  (sSeq (sPar2 3 4 (aCons (wCallN c__law_book 2 [] (aCons (wVar 1) (aCons (wVar 2) aNil))) (aCons (wCallN c__law_book 2 [] (aCons (wVar 1) (aCons (wGc (wCallN c__law_exchanged 2 [] (aCons (wVar 0) (aCons (wVar 2) aNil)))) aNil))) aNil)))
  (sSeq (sIf (tOr' (tBl (w2 neqD (wProp 0 c_Book_lives (wVar 4)) (wProp 0 c_Book_lives (wVar 3)))) (tOr' (tBl (w2 neqD (wCallN c_tops 1 [] (aCons (wVar 4) aNil)) (wCallN c_tops 1 [] (aCons (wVar 3) aNil)))) (tBl (w2 neqD (wCallN c_possible 1 [] (aCons (wVar 4) aNil)) (wCallN c_possible 1 [] (aCons (wVar 3) aNil))))))
  (sRet (wC (.bl false))) sNil)
  (sRet (wOr (wNot (wCallN c_possible 1 [] (aCons (wVar 3) aNil))) (w2 eqqD (wCallN c_known 1 [] (aCons (wVar 4) aNil)) (wCallN c_known 1 [] (aCons (wVar 3) aNil)))))))))
def c__law_right : Con := loc (conB 5 1 w__law_right)
def w__law_cup : WS := (sSeq (sAsg (wIf (tBl (w2 ltD (wVar 1) (wBu (b1 lenD) (aCons (wVar 0) aNil)))) (w2 ixD (wVar 0) (wVar 1)) (w2 addD (wVar 1) (wC (.int 2)))) (gN 2))
  (sSeq (sAsg (w2 addD (wC (.int 120011)) (w2 mulD (wC (.int 3001)) (wVar 1))) (gN 3))
  (sSeq (sFor (iSeq (w2 addD (wSl (wVar 0) oNo (oYes (wC (.int 4)))) (wLst (aCons (wVar 2) aNil)))) (gN 4)
  (sAsg (w2 modD (wBu (b1 intD) (aCons (w2 addD (w2 mulD (wVar 3) (wC (.int 26021))) (wVar 4)) aNil)) (wC (.int 2147483477))) (gN 3)))
  (sRet (wLstO (aCons (wIf (tOr' (tBl (w2 ltD (wVar 2) (wC (.int 0)))) (tBl (w2 geD (wVar 2) (w2 powD (wC (.int 10)) (wC (.int 18)))))) (wBu (b1 absD) (aCons (wVar 2) aNil)) (wC (.int 0))) (aCons (wVar 3) (aCons (wC (.int 0)) aNil))))))))
def c__law_cup : Con := (conB 5 2 w__law_cup)
def w_law : WS := (sRet (wBu (b1 allD) (aCons (wLc false (iRg1 (wBu (b2' maxD) (aCons (wC (.int 2)) (aCons (wBu (b2' minD) (aCons (wBu (b1 lenD) (aCons (wVar 0) aNil)) (aCons (wC (.int 4)) aNil))) aNil)))) (gN 1) tAll (wLoc (wCallN c__law_right 1 [] (aCons (wCallN c__law_cup 2 [] (aCons (wVar 0) (aCons (wVar 1) aNil))) aNil))) [1]) aNil)))
def c_law : Con := loc (conB 2 1 w_law)
theorem r__law_sip {a0 a1 : D} {r : D} (h1 : noMs [a0, a1] = true) (h2 : noM r = true) (h : ∀ (Q : QD) (E : QX), ∃ μ', w__law_sip (endR Q E) [some a0, some a1, none] [] = Q r μ') : Ret c__law_sip [a0, a1] r := ret_loc rfl rfl h1 h2 h
theorem x__law_sip {a0 a1 : D} {r : Exc} (h1 : noMs [a0, a1] = true) (h2 : noMs r.fs = true) (h : ∀ (Q : QD) (E : QX), ∃ μ', w__law_sip (endR Q E) [some a0, some a1, none] [] = E r μ') : Rai c__law_sip [a0, a1] r := rai_loc rfl rfl h1 h2 h
theorem u__law_sip {a0 a1 : D} (h1 : noMs [a0, a1] = false) (μ : Sto) (Q : QD) (E : QX) : c__law_sip [a0, a1] μ Q E = w__law_sip (endR Q E) [some a0, some a1, none] μ := use_loc rfl rfl h1 μ Q E
theorem r__law_labels {a0 a1 : D} {r : D} (h1 : noMs [a0, a1] = true) (h2 : noM r = true) (h : ∀ (Q : QD) (E : QX), ∃ μ', w__law_labels (endR Q E) [some a0, some a1, none, none, none, none] [] = Q r μ') : Ret c__law_labels [a0, a1] r := ret_loc rfl rfl h1 h2 h
theorem x__law_labels {a0 a1 : D} {r : Exc} (h1 : noMs [a0, a1] = true) (h2 : noMs r.fs = true) (h : ∀ (Q : QD) (E : QX), ∃ μ', w__law_labels (endR Q E) [some a0, some a1, none, none, none, none] [] = E r μ') : Rai c__law_labels [a0, a1] r := rai_loc rfl rfl h1 h2 h
theorem u__law_labels {a0 a1 : D} (h1 : noMs [a0, a1] = false) (μ : Sto) (Q : QD) (E : QX) : c__law_labels [a0, a1] μ Q E = w__law_labels (endR Q E) [some a0, some a1, none, none, none, none] μ := use_loc rfl rfl h1 μ Q E
theorem r__law_cloths {a0 a1 a2 : D} {r : D} (h1 : noMs [a0, a1, a2] = true) (h2 : noM r = true) (h : ∀ (Q : QD) (E : QX), ∃ μ', w__law_cloths (endR Q E) [some a0, some a1, some a2, none, none, none, none] [] = Q r μ') : Ret c__law_cloths [a0, a1, a2] r := ret_loc rfl rfl h1 h2 h
theorem x__law_cloths {a0 a1 a2 : D} {r : Exc} (h1 : noMs [a0, a1, a2] = true) (h2 : noMs r.fs = true) (h : ∀ (Q : QD) (E : QX), ∃ μ', w__law_cloths (endR Q E) [some a0, some a1, some a2, none, none, none, none] [] = E r μ') : Rai c__law_cloths [a0, a1, a2] r := rai_loc rfl rfl h1 h2 h
theorem u__law_cloths {a0 a1 a2 : D} (h1 : noMs [a0, a1, a2] = false) (μ : Sto) (Q : QD) (E : QX) : c__law_cloths [a0, a1, a2] μ Q E = w__law_cloths (endR Q E) [some a0, some a1, some a2, none, none, none, none] μ := use_loc rfl rfl h1 μ Q E
theorem r__law_hues {a0 : D} {r : D} (h1 : noMs [a0] = true) (h2 : noM r = true) (h : ∀ (Q : QD) (E : QX), ∃ μ', w__law_hues (endR Q E) [some a0, none, none] [] = Q r μ') : Ret c__law_hues [a0] r := ret_loc rfl rfl h1 h2 h
theorem x__law_hues {a0 : D} {r : Exc} (h1 : noMs [a0] = true) (h2 : noMs r.fs = true) (h : ∀ (Q : QD) (E : QX), ∃ μ', w__law_hues (endR Q E) [some a0, none, none] [] = E r μ') : Rai c__law_hues [a0] r := rai_loc rfl rfl h1 h2 h
theorem u__law_hues {a0 : D} (h1 : noMs [a0] = false) (μ : Sto) (Q : QD) (E : QX) : c__law_hues [a0] μ Q E = w__law_hues (endR Q E) [some a0, none, none] μ := use_loc rfl rfl h1 μ Q E
theorem r__law_drawn {a0 a1 a2 : D} {r : D} (h1 : noMs [a0, a1, a2] = true) (h2 : noM r = true) (h : ∀ (Q : QD) (E : QX), ∃ μ', w__law_drawn (endR Q E) [some a0, some a1, some a2, none, none, none, none, none, none, none, none, none, none, none, none] [] = Q r μ') : Ret c__law_drawn [a0, a1, a2] r := ret_loc rfl rfl h1 h2 h
theorem x__law_drawn {a0 a1 a2 : D} {r : Exc} (h1 : noMs [a0, a1, a2] = true) (h2 : noMs r.fs = true) (h : ∀ (Q : QD) (E : QX), ∃ μ', w__law_drawn (endR Q E) [some a0, some a1, some a2, none, none, none, none, none, none, none, none, none, none, none, none] [] = E r μ') : Rai c__law_drawn [a0, a1, a2] r := rai_loc rfl rfl h1 h2 h
theorem u__law_drawn {a0 a1 a2 : D} (h1 : noMs [a0, a1, a2] = false) (μ : Sto) (Q : QD) (E : QX) : c__law_drawn [a0, a1, a2] μ Q E = w__law_drawn (endR Q E) [some a0, some a1, some a2, none, none, none, none, none, none, none, none, none, none, none, none] μ := use_loc rfl rfl h1 μ Q E
theorem r_is_name {a0 : D} {r : D} (h1 : noMs [a0] = true) (h2 : noM r = true) (h : ∀ (Q : QD) (E : QX), ∃ μ', w_is_name (endR Q E) [some a0, none] [] = Q r μ') : Ret c_is_name [a0] r := ret_loc rfl rfl h1 h2 h
theorem x_is_name {a0 : D} {r : Exc} (h1 : noMs [a0] = true) (h2 : noMs r.fs = true) (h : ∀ (Q : QD) (E : QX), ∃ μ', w_is_name (endR Q E) [some a0, none] [] = E r μ') : Rai c_is_name [a0] r := rai_loc rfl rfl h1 h2 h
theorem u_is_name {a0 : D} (h1 : noMs [a0] = false) (μ : Sto) (Q : QD) (E : QX) : c_is_name [a0] μ Q E = w_is_name (endR Q E) [some a0, none] μ := use_loc rfl rfl h1 μ Q E
theorem r_is_integer {a0 : D} {r : D} (h1 : noMs [a0] = true) (h2 : noM r = true) (h : ∀ (Q : QD) (E : QX), ∃ μ', w_is_integer (endR Q E) [some a0] [] = Q r μ') : Ret c_is_integer [a0] r := ret_loc rfl rfl h1 h2 h
theorem x_is_integer {a0 : D} {r : Exc} (h1 : noMs [a0] = true) (h2 : noMs r.fs = true) (h : ∀ (Q : QD) (E : QX), ∃ μ', w_is_integer (endR Q E) [some a0] [] = E r μ') : Rai c_is_integer [a0] r := rai_loc rfl rfl h1 h2 h
theorem u_is_integer {a0 : D} (h1 : noMs [a0] = false) (μ : Sto) (Q : QD) (E : QX) : c_is_integer [a0] μ Q E = w_is_integer (endR Q E) [some a0] μ := use_loc rfl rfl h1 μ Q E
theorem r_is_between {a0 a1 a2 : D} {r : D} (h1 : noMs [a0, a1, a2] = true) (h2 : noM r = true) (h : ∀ (Q : QD) (E : QX), ∃ μ', w_is_between (endR Q E) [some a0, some a1, some a2] [] = Q r μ') : Ret c_is_between [a0, a1, a2] r := ret_loc rfl rfl h1 h2 h
theorem x_is_between {a0 a1 a2 : D} {r : Exc} (h1 : noMs [a0, a1, a2] = true) (h2 : noMs r.fs = true) (h : ∀ (Q : QD) (E : QX), ∃ μ', w_is_between (endR Q E) [some a0, some a1, some a2] [] = E r μ') : Rai c_is_between [a0, a1, a2] r := rai_loc rfl rfl h1 h2 h
theorem u_is_between {a0 a1 a2 : D} (h1 : noMs [a0, a1, a2] = false) (μ : Sto) (Q : QD) (E : QX) : c_is_between [a0, a1, a2] μ Q E = w_is_between (endR Q E) [some a0, some a1, some a2] μ := use_loc rfl rfl h1 μ Q E
theorem r_is_garment {a0 : D} {r : D} (h1 : noMs [a0] = true) (h2 : noM r = true) (h : ∀ (Q : QD) (E : QX), ∃ μ', w_is_garment (endR Q E) [some a0] [] = Q r μ') : Ret c_is_garment [a0] r := ret_loc rfl rfl h1 h2 h
theorem x_is_garment {a0 : D} {r : Exc} (h1 : noMs [a0] = true) (h2 : noMs r.fs = true) (h : ∀ (Q : QD) (E : QX), ∃ μ', w_is_garment (endR Q E) [some a0] [] = E r μ') : Rai c_is_garment [a0] r := rai_loc rfl rfl h1 h2 h
theorem u_is_garment {a0 : D} (h1 : noMs [a0] = false) (μ : Sto) (Q : QD) (E : QX) : c_is_garment [a0] μ Q E = w_is_garment (endR Q E) [some a0] μ := use_loc rfl rfl h1 μ Q E
theorem r_check_garments {a0 : D} {r : D} (h1 : noMs [a0] = true) (h2 : noM r = true) (h : ∀ (Q : QD) (E : QX), ∃ μ', w_check_garments (endR Q E) [some a0, none, none, none] [] = Q r μ') : Ret c_check_garments [a0] r := ret_loc rfl rfl h1 h2 h
theorem x_check_garments {a0 : D} {r : Exc} (h1 : noMs [a0] = true) (h2 : noMs r.fs = true) (h : ∀ (Q : QD) (E : QX), ∃ μ', w_check_garments (endR Q E) [some a0, none, none, none] [] = E r μ') : Rai c_check_garments [a0] r := rai_loc rfl rfl h1 h2 h
theorem u_check_garments {a0 : D} (h1 : noMs [a0] = false) (μ : Sto) (Q : QD) (E : QX) : c_check_garments [a0] μ Q E = w_check_garments (endR Q E) [some a0, none, none, none] μ := use_loc rfl rfl h1 μ Q E
theorem r_parted_at {a0 a1 : D} {r : D} (h1 : noMs [a0, a1] = true) (h2 : noM r = true) (h : ∀ (Q : QD) (E : QX), ∃ μ', w_parted_at (endR Q E) [some a0, some a1, none] [] = Q r μ') : Ret c_parted_at [a0, a1] r := ret_loc rfl rfl h1 h2 h
theorem x_parted_at {a0 a1 : D} {r : Exc} (h1 : noMs [a0, a1] = true) (h2 : noMs r.fs = true) (h : ∀ (Q : QD) (E : QX), ∃ μ', w_parted_at (endR Q E) [some a0, some a1, none] [] = E r μ') : Rai c_parted_at [a0, a1] r := rai_loc rfl rfl h1 h2 h
theorem u_parted_at {a0 a1 : D} (h1 : noMs [a0, a1] = false) (μ : Sto) (Q : QD) (E : QX) : c_parted_at [a0, a1] μ Q E = w_parted_at (endR Q E) [some a0, some a1, none] μ := use_loc rfl rfl h1 μ Q E
theorem r_dyes_in {a0 : D} {r : D} (h1 : noMs [a0] = true) (h2 : noM r = true) (h : ∀ (Q : QD) (E : QX), ∃ μ', w_dyes_in (endR Q E) [some a0, none] [] = Q r μ') : Ret c_dyes_in [a0] r := ret_loc rfl rfl h1 h2 h
theorem x_dyes_in {a0 : D} {r : Exc} (h1 : noMs [a0] = true) (h2 : noMs r.fs = true) (h : ∀ (Q : QD) (E : QX), ∃ μ', w_dyes_in (endR Q E) [some a0, none] [] = E r μ') : Rai c_dyes_in [a0] r := rai_loc rfl rfl h1 h2 h
theorem u_dyes_in {a0 : D} (h1 : noMs [a0] = false) (μ : Sto) (Q : QD) (E : QX) : c_dyes_in [a0] μ Q E = w_dyes_in (endR Q E) [some a0, none] μ := use_loc rfl rfl h1 μ Q E
theorem r_are_different {a0 : D} {r : D} (h1 : noMs [a0] = true) (h2 : noM r = true) (h : ∀ (Q : QD) (E : QX), ∃ μ', w_are_different (endR Q E) [some a0, none, none] [] = Q r μ') : Ret c_are_different [a0] r := ret_loc rfl rfl h1 h2 h
theorem x_are_different {a0 : D} {r : Exc} (h1 : noMs [a0] = true) (h2 : noMs r.fs = true) (h : ∀ (Q : QD) (E : QX), ∃ μ', w_are_different (endR Q E) [some a0, none, none] [] = E r μ') : Rai c_are_different [a0] r := rai_loc rfl rfl h1 h2 h
theorem u_are_different {a0 : D} (h1 : noMs [a0] = false) (μ : Sto) (Q : QD) (E : QX) : c_are_different [a0] μ Q E = w_are_different (endR Q E) [some a0, none, none] μ := use_loc rfl rfl h1 μ Q E
theorem r_names_in {a0 : D} {r : D} (h1 : noMs [a0] = true) (h2 : noM r = true) (h : ∀ (Q : QD) (E : QX), ∃ μ', w_names_in (endR Q E) [some a0, none] [] = Q r μ') : Ret c_names_in [a0] r := ret_loc rfl rfl h1 h2 h
theorem x_names_in {a0 : D} {r : Exc} (h1 : noMs [a0] = true) (h2 : noMs r.fs = true) (h : ∀ (Q : QD) (E : QX), ∃ μ', w_names_in (endR Q E) [some a0, none] [] = E r μ') : Rai c_names_in [a0] r := rai_loc rfl rfl h1 h2 h
theorem u_names_in {a0 : D} (h1 : noMs [a0] = false) (μ : Sto) (Q : QD) (E : QX) : c_names_in [a0] μ Q E = w_names_in (endR Q E) [some a0, none] μ := use_loc rfl rfl h1 μ Q E
theorem r_wash_in {a0 a1 : D} {r : D} (h1 : noMs [a0, a1] = true) (h2 : noM r = true) (h : ∀ (Q : QD) (E : QX), ∃ μ', w_wash_in (endR Q E) [some a0, some a1, none, none, none, none, none, none, none, none, none, none] [] = Q r μ') : Ret c_wash_in [a0, a1] r := ret_loc rfl rfl h1 h2 h
theorem x_wash_in {a0 a1 : D} {r : Exc} (h1 : noMs [a0, a1] = true) (h2 : noMs r.fs = true) (h : ∀ (Q : QD) (E : QX), ∃ μ', w_wash_in (endR Q E) [some a0, some a1, none, none, none, none, none, none, none, none, none, none] [] = E r μ') : Rai c_wash_in [a0, a1] r := rai_loc rfl rfl h1 h2 h
theorem u_wash_in {a0 a1 : D} (h1 : noMs [a0, a1] = false) (μ : Sto) (Q : QD) (E : QX) : c_wash_in [a0, a1] μ Q E = w_wash_in (endR Q E) [some a0, some a1, none, none, none, none, none, none, none, none, none, none] μ := use_loc rfl rfl h1 μ Q E
theorem r_entry_in {a0 a1 : D} {r : D} (h1 : noMs [a0, a1] = true) (h2 : noM r = true) (h : ∀ (Q : QD) (E : QX), ∃ μ', w_entry_in (endR Q E) [some a0, some a1, none] [] = Q r μ') : Ret c_entry_in [a0, a1] r := ret_loc rfl rfl h1 h2 h
theorem x_entry_in {a0 a1 : D} {r : Exc} (h1 : noMs [a0, a1] = true) (h2 : noMs r.fs = true) (h : ∀ (Q : QD) (E : QX), ∃ μ', w_entry_in (endR Q E) [some a0, some a1, none] [] = E r μ') : Rai c_entry_in [a0, a1] r := rai_loc rfl rfl h1 h2 h
theorem u_entry_in {a0 a1 : D} (h1 : noMs [a0, a1] = false) (μ : Sto) (Q : QD) (E : QX) : c_entry_in [a0, a1] μ Q E = w_entry_in (endR Q E) [some a0, some a1, none] μ := use_loc rfl rfl h1 μ Q E
theorem r_check_lines {a0 a1 : D} {r : D} (h1 : noMs [a0, a1] = true) (h2 : noM r = true) (h : ∀ (Q : QD) (E : QX), ∃ μ', w_check_lines (endR Q E) [some a0, some a1, none, none] [] = Q r μ') : Ret c_check_lines [a0, a1] r := ret_loc rfl rfl h1 h2 h
theorem x_check_lines {a0 a1 : D} {r : Exc} (h1 : noMs [a0, a1] = true) (h2 : noMs r.fs = true) (h : ∀ (Q : QD) (E : QX), ∃ μ', w_check_lines (endR Q E) [some a0, some a1, none, none] [] = E r μ') : Rai c_check_lines [a0, a1] r := rai_loc rfl rfl h1 h2 h
theorem u_check_lines {a0 a1 : D} (h1 : noMs [a0, a1] = false) (μ : Sto) (Q : QD) (E : QX) : c_check_lines [a0, a1] μ Q E = w_check_lines (endR Q E) [some a0, some a1, none, none] μ := use_loc rfl rfl h1 μ Q E
theorem r_Walk_wash {a0 a1 a2 a3 a4 : D} {r : D} (h1 : noMs [a0, a1, a2, a3, a4] = true) (h2 : noM r = true) (h : ∀ (Q : QD) (E : QX), ∃ μ', w_Walk_wash (endR Q E) [some a0, some a1, some a2, some a3, some a4, none, none, none, none, none] [] = Q r μ') : Ret c_Walk_wash [a0, a1, a2, a3, a4] r := ret_loc rfl rfl h1 h2 h
theorem x_Walk_wash {a0 a1 a2 a3 a4 : D} {r : Exc} (h1 : noMs [a0, a1, a2, a3, a4] = true) (h2 : noMs r.fs = true) (h : ∀ (Q : QD) (E : QX), ∃ μ', w_Walk_wash (endR Q E) [some a0, some a1, some a2, some a3, some a4, none, none, none, none, none] [] = E r μ') : Rai c_Walk_wash [a0, a1, a2, a3, a4] r := rai_loc rfl rfl h1 h2 h
theorem u_Walk_wash {a0 a1 a2 a3 a4 : D} (h1 : noMs [a0, a1, a2, a3, a4] = false) (μ : Sto) (Q : QD) (E : QX) : c_Walk_wash [a0, a1, a2, a3, a4] μ Q E = w_Walk_wash (endR Q E) [some a0, some a1, some a2, some a3, some a4, none, none, none, none, none] μ := use_loc rfl rfl h1 μ Q E
theorem r_Walk_go {a0 a1 a2 : D} {r : D} (h1 : noMs [a0, a1, a2] = true) (h2 : noM r = true) (h : ∀ (Q : QD) (E : QX), ∃ μ', w_Walk_go (endR Q E) [some a0, some a1, some a2, none, none, none, none, none, none] [] = Q r μ') : Ret c_Walk_go [a0, a1, a2] r := ret_loc rfl rfl h1 h2 h
theorem x_Walk_go {a0 a1 a2 : D} {r : Exc} (h1 : noMs [a0, a1, a2] = true) (h2 : noMs r.fs = true) (h : ∀ (Q : QD) (E : QX), ∃ μ', w_Walk_go (endR Q E) [some a0, some a1, some a2, none, none, none, none, none, none] [] = E r μ') : Rai c_Walk_go [a0, a1, a2] r := rai_loc rfl rfl h1 h2 h
theorem u_Walk_go {a0 a1 a2 : D} (h1 : noMs [a0, a1, a2] = false) (μ : Sto) (Q : QD) (E : QX) : c_Walk_go [a0, a1, a2] μ Q E = w_Walk_go (endR Q E) [some a0, some a1, some a2, none, none, none, none, none, none] μ := use_loc rfl rfl h1 μ Q E
theorem r_Walk_init {a0 a1 a2 : D} {r : D} (h1 : noMs [a0, a1, a2] = true) (h2 : noM r = true) (h : ∀ (Q : QD) (E : QX), ∃ μ', w_Walk_init (endR Q E) [some a0, some a1, some a2, none, none, none, none, none] [] = Q r μ') : Ret c_Walk_init [a0, a1, a2] r := ret_loc rfl rfl h1 h2 h
theorem x_Walk_init {a0 a1 a2 : D} {r : Exc} (h1 : noMs [a0, a1, a2] = true) (h2 : noMs r.fs = true) (h : ∀ (Q : QD) (E : QX), ∃ μ', w_Walk_init (endR Q E) [some a0, some a1, some a2, none, none, none, none, none] [] = E r μ') : Rai c_Walk_init [a0, a1, a2] r := rai_loc rfl rfl h1 h2 h
theorem u_Walk_init {a0 a1 a2 : D} (h1 : noMs [a0, a1, a2] = false) (μ : Sto) (Q : QD) (E : QX) : c_Walk_init [a0, a1, a2] μ Q E = w_Walk_init (endR Q E) [some a0, some a1, some a2, none, none, none, none, none] μ := use_loc rfl rfl h1 μ Q E
theorem r_Book_init {a0 a1 a2 : D} {r : D} (h1 : noMs [a0, a1, a2] = true) (h2 : noM r = true) (h : ∀ (Q : QD) (E : QX), ∃ μ', w_Book_init (endR Q E) [some a0, some a1, some a2, none] [] = Q r μ') : Ret c_Book_init [a0, a1, a2] r := ret_loc rfl rfl h1 h2 h
theorem x_Book_init {a0 a1 a2 : D} {r : Exc} (h1 : noMs [a0, a1, a2] = true) (h2 : noMs r.fs = true) (h : ∀ (Q : QD) (E : QX), ∃ μ', w_Book_init (endR Q E) [some a0, some a1, some a2, none] [] = E r μ') : Rai c_Book_init [a0, a1, a2] r := rai_loc rfl rfl h1 h2 h
theorem u_Book_init {a0 a1 a2 : D} (h1 : noMs [a0, a1, a2] = false) (μ : Sto) (Q : QD) (E : QX) : c_Book_init [a0, a1, a2] μ Q E = w_Book_init (endR Q E) [some a0, some a1, some a2, none] μ := use_loc rfl rfl h1 μ Q E
theorem r__law_row {a0 a1 : D} {r : D} (h1 : noMs [a0, a1] = true) (h2 : noM r = true) (h : ∀ (Q : QD) (E : QX), ∃ μ', w__law_row (endR Q E) [some a0, some a1, none, none] [] = Q r μ') : Ret c__law_row [a0, a1] r := ret_loc rfl rfl h1 h2 h
theorem x__law_row {a0 a1 : D} {r : Exc} (h1 : noMs [a0, a1] = true) (h2 : noMs r.fs = true) (h : ∀ (Q : QD) (E : QX), ∃ μ', w__law_row (endR Q E) [some a0, some a1, none, none] [] = E r μ') : Rai c__law_row [a0, a1] r := rai_loc rfl rfl h1 h2 h
theorem u__law_row {a0 a1 : D} (h1 : noMs [a0, a1] = false) (μ : Sto) (Q : QD) (E : QX) : c__law_row [a0, a1] μ Q E = w__law_row (endR Q E) [some a0, some a1, none, none] μ := use_loc rfl rfl h1 μ Q E
theorem r__law_book {a0 a1 : D} {r : D} (h1 : noMs [a0, a1] = true) (h2 : noM r = true) (h : ∀ (Q : QD) (E : QX), ∃ μ', w__law_book (endR Q E) [some a0, some a1, none] [] = Q r μ') : Ret c__law_book [a0, a1] r := ret_loc rfl rfl h1 h2 h
theorem x__law_book {a0 a1 : D} {r : Exc} (h1 : noMs [a0, a1] = true) (h2 : noMs r.fs = true) (h : ∀ (Q : QD) (E : QX), ∃ μ', w__law_book (endR Q E) [some a0, some a1, none] [] = E r μ') : Rai c__law_book [a0, a1] r := rai_loc rfl rfl h1 h2 h
theorem u__law_book {a0 a1 : D} (h1 : noMs [a0, a1] = false) (μ : Sto) (Q : QD) (E : QX) : c__law_book [a0, a1] μ Q E = w__law_book (endR Q E) [some a0, some a1, none] μ := use_loc rfl rfl h1 μ Q E
theorem r__law_places {a0 : D} {r : D} (h1 : noMs [a0] = true) (h2 : noM r = true) (h : ∀ (Q : QD) (E : QX), ∃ μ', w__law_places (endR Q E) [some a0] [] = Q r μ') : Ret c__law_places [a0] r := ret_loc rfl rfl h1 h2 h
theorem x__law_places {a0 : D} {r : Exc} (h1 : noMs [a0] = true) (h2 : noMs r.fs = true) (h : ∀ (Q : QD) (E : QX), ∃ μ', w__law_places (endR Q E) [some a0] [] = E r μ') : Rai c__law_places [a0] r := rai_loc rfl rfl h1 h2 h
theorem u__law_places {a0 : D} (h1 : noMs [a0] = false) (μ : Sto) (Q : QD) (E : QX) : c__law_places [a0] μ Q E = w__law_places (endR Q E) [some a0] μ := use_loc rfl rfl h1 μ Q E
theorem r__law_exchanged {a0 a1 : D} {r : D} (h1 : noMs [a0, a1] = true) (h2 : noM r = true) (h : ∀ (Q : QD) (E : QX), ∃ μ', w__law_exchanged (endR Q E) [some a0, some a1, none, none, none, none, none, none] [] = Q r μ') : Ret c__law_exchanged [a0, a1] r := ret_loc rfl rfl h1 h2 h
theorem x__law_exchanged {a0 a1 : D} {r : Exc} (h1 : noMs [a0, a1] = true) (h2 : noMs r.fs = true) (h : ∀ (Q : QD) (E : QX), ∃ μ', w__law_exchanged (endR Q E) [some a0, some a1, none, none, none, none, none, none] [] = E r μ') : Rai c__law_exchanged [a0, a1] r := rai_loc rfl rfl h1 h2 h
theorem u__law_exchanged {a0 a1 : D} (h1 : noMs [a0, a1] = false) (μ : Sto) (Q : QD) (E : QX) : c__law_exchanged [a0, a1] μ Q E = w__law_exchanged (endR Q E) [some a0, some a1, none, none, none, none, none, none] μ := use_loc rfl rfl h1 μ Q E
theorem r_Book_lives {a0 : D} {r : D} (h1 : noMs [a0] = true) (h2 : noM r = true) (h : ∀ (Q : QD) (E : QX), ∃ μ', w_Book_lives (endR Q E) [some a0] [] = Q r μ') : Ret c_Book_lives [a0] r := ret_loc rfl rfl h1 h2 h
theorem x_Book_lives {a0 : D} {r : Exc} (h1 : noMs [a0] = true) (h2 : noMs r.fs = true) (h : ∀ (Q : QD) (E : QX), ∃ μ', w_Book_lives (endR Q E) [some a0] [] = E r μ') : Rai c_Book_lives [a0] r := rai_loc rfl rfl h1 h2 h
theorem u_Book_lives {a0 : D} (h1 : noMs [a0] = false) (μ : Sto) (Q : QD) (E : QX) : c_Book_lives [a0] μ Q E = w_Book_lives (endR Q E) [some a0] μ := use_loc rfl rfl h1 μ Q E
theorem r_check_book {a0 : D} {r : D} (h1 : noMs [a0] = true) (h2 : noM r = true) (h : ∀ (Q : QD) (E : QX), ∃ μ', w_check_book (endR Q E) [some a0] [] = Q r μ') : Ret c_check_book [a0] r := ret_loc rfl rfl h1 h2 h
theorem x_check_book {a0 : D} {r : Exc} (h1 : noMs [a0] = true) (h2 : noMs r.fs = true) (h : ∀ (Q : QD) (E : QX), ∃ μ', w_check_book (endR Q E) [some a0] [] = E r μ') : Rai c_check_book [a0] r := rai_loc rfl rfl h1 h2 h
theorem u_check_book {a0 : D} (h1 : noMs [a0] = false) (μ : Sto) (Q : QD) (E : QX) : c_check_book [a0] μ Q E = w_check_book (endR Q E) [some a0] μ := use_loc rfl rfl h1 μ Q E
theorem r_Book_garments {a0 : D} {r : D} (h1 : noMs [a0] = true) (h2 : noM r = true) (h : ∀ (Q : QD) (E : QX), ∃ μ', w_Book_garments (endR Q E) [some a0] [] = Q r μ') : Ret c_Book_garments [a0] r := ret_loc rfl rfl h1 h2 h
theorem x_Book_garments {a0 : D} {r : Exc} (h1 : noMs [a0] = true) (h2 : noMs r.fs = true) (h : ∀ (Q : QD) (E : QX), ∃ μ', w_Book_garments (endR Q E) [some a0] [] = E r μ') : Rai c_Book_garments [a0] r := rai_loc rfl rfl h1 h2 h
theorem u_Book_garments {a0 : D} (h1 : noMs [a0] = false) (μ : Sto) (Q : QD) (E : QX) : c_Book_garments [a0] μ Q E = w_Book_garments (endR Q E) [some a0] μ := use_loc rfl rfl h1 μ Q E
theorem r_garment_of {a0 a1 : D} {r : D} (h1 : noMs [a0, a1] = true) (h2 : noM r = true) (h : ∀ (Q : QD) (E : QX), ∃ μ', w_garment_of (endR Q E) [some a0, some a1] [] = Q r μ') : Ret c_garment_of [a0, a1] r := ret_loc rfl rfl h1 h2 h
theorem x_garment_of {a0 a1 : D} {r : Exc} (h1 : noMs [a0, a1] = true) (h2 : noMs r.fs = true) (h : ∀ (Q : QD) (E : QX), ∃ μ', w_garment_of (endR Q E) [some a0, some a1] [] = E r μ') : Rai c_garment_of [a0, a1] r := rai_loc rfl rfl h1 h2 h
theorem u_garment_of {a0 a1 : D} (h1 : noMs [a0, a1] = false) (μ : Sto) (Q : QD) (E : QX) : c_garment_of [a0, a1] μ Q E = w_garment_of (endR Q E) [some a0, some a1] μ := use_loc rfl rfl h1 μ Q E
theorem r_top_of {a0 a1 : D} {r : D} (h1 : noMs [a0, a1] = true) (h2 : noM r = true) (h : ∀ (Q : QD) (E : QX), ∃ μ', w_top_of (endR Q E) [some a0, some a1] [] = Q r μ') : Ret c_top_of [a0, a1] r := ret_loc rfl rfl h1 h2 h
theorem x_top_of {a0 a1 : D} {r : Exc} (h1 : noMs [a0, a1] = true) (h2 : noMs r.fs = true) (h : ∀ (Q : QD) (E : QX), ∃ μ', w_top_of (endR Q E) [some a0, some a1] [] = E r μ') : Rai c_top_of [a0, a1] r := rai_loc rfl rfl h1 h2 h
theorem u_top_of {a0 a1 : D} (h1 : noMs [a0, a1] = false) (μ : Sto) (Q : QD) (E : QX) : c_top_of [a0, a1] μ Q E = w_top_of (endR Q E) [some a0, some a1] μ := use_loc rfl rfl h1 μ Q E
theorem r_Book_looks {a0 : D} {r : D} (h1 : noMs [a0] = true) (h2 : noM r = true) (h : ∀ (Q : QD) (E : QX), ∃ μ', w_Book_looks (endR Q E) [some a0] [] = Q r μ') : Ret c_Book_looks [a0] r := ret_loc rfl rfl h1 h2 h
theorem x_Book_looks {a0 : D} {r : Exc} (h1 : noMs [a0] = true) (h2 : noMs r.fs = true) (h : ∀ (Q : QD) (E : QX), ∃ μ', w_Book_looks (endR Q E) [some a0] [] = E r μ') : Rai c_Book_looks [a0] r := rai_loc rfl rfl h1 h2 h
theorem u_Book_looks {a0 : D} (h1 : noMs [a0] = false) (μ : Sto) (Q : QD) (E : QX) : c_Book_looks [a0] μ Q E = w_Book_looks (endR Q E) [some a0] μ := use_loc rfl rfl h1 μ Q E
theorem r_Book_spans {a0 : D} {r : D} (h1 : noMs [a0] = true) (h2 : noM r = true) (h : ∀ (Q : QD) (E : QX), ∃ μ', w_Book_spans (endR Q E) [some a0] [] = Q r μ') : Ret c_Book_spans [a0] r := ret_loc rfl rfl h1 h2 h
theorem x_Book_spans {a0 : D} {r : Exc} (h1 : noMs [a0] = true) (h2 : noMs r.fs = true) (h : ∀ (Q : QD) (E : QX), ∃ μ', w_Book_spans (endR Q E) [some a0] [] = E r μ') : Rai c_Book_spans [a0] r := rai_loc rfl rfl h1 h2 h
theorem u_Book_spans {a0 : D} (h1 : noMs [a0] = false) (μ : Sto) (Q : QD) (E : QX) : c_Book_spans [a0] μ Q E = w_Book_spans (endR Q E) [some a0] μ := use_loc rfl rfl h1 μ Q E
theorem r_tops_of {a0 a1 : D} {r : D} (h1 : noMs [a0, a1] = true) (h2 : noM r = true) (h : ∀ (Q : QD) (E : QX), ∃ μ', w_tops_of (endR Q E) [some a0, some a1, none, none, none, none, none] [] = Q r μ') : Ret c_tops_of [a0, a1] r := ret_loc rfl rfl h1 h2 h
theorem x_tops_of {a0 a1 : D} {r : Exc} (h1 : noMs [a0, a1] = true) (h2 : noMs r.fs = true) (h : ∀ (Q : QD) (E : QX), ∃ μ', w_tops_of (endR Q E) [some a0, some a1, none, none, none, none, none] [] = E r μ') : Rai c_tops_of [a0, a1] r := rai_loc rfl rfl h1 h2 h
theorem u_tops_of {a0 a1 : D} (h1 : noMs [a0, a1] = false) (μ : Sto) (Q : QD) (E : QX) : c_tops_of [a0, a1] μ Q E = w_tops_of (endR Q E) [some a0, some a1, none, none, none, none, none] μ := use_loc rfl rfl h1 μ Q E
theorem r_tops {a0 : D} {r : D} (h1 : noMs [a0] = true) (h2 : noM r = true) (h : ∀ (Q : QD) (E : QX), ∃ μ', w_tops (endR Q E) [some a0] [] = Q r μ') : Ret c_tops [a0] r := ret_loc rfl rfl h1 h2 h
theorem x_tops {a0 : D} {r : Exc} (h1 : noMs [a0] = true) (h2 : noMs r.fs = true) (h : ∀ (Q : QD) (E : QX), ∃ μ', w_tops (endR Q E) [some a0] [] = E r μ') : Rai c_tops [a0] r := rai_loc rfl rfl h1 h2 h
theorem u_tops {a0 : D} (h1 : noMs [a0] = false) (μ : Sto) (Q : QD) (E : QX) : c_tops [a0] μ Q E = w_tops (endR Q E) [some a0] μ := use_loc rfl rfl h1 μ Q E
theorem r_fits_tops {a0 a1 a2 : D} {r : D} (h1 : noMs [a0, a1, a2] = true) (h2 : noM r = true) (h : ∀ (Q : QD) (E : QX), ∃ μ', w_fits_tops (endR Q E) [some a0, some a1, some a2, none, none, none, none, none] [] = Q r μ') : Ret c_fits_tops [a0, a1, a2] r := ret_loc rfl rfl h1 h2 h
theorem x_fits_tops {a0 a1 a2 : D} {r : Exc} (h1 : noMs [a0, a1, a2] = true) (h2 : noMs r.fs = true) (h : ∀ (Q : QD) (E : QX), ∃ μ', w_fits_tops (endR Q E) [some a0, some a1, some a2, none, none, none, none, none] [] = E r μ') : Rai c_fits_tops [a0, a1, a2] r := rai_loc rfl rfl h1 h2 h
theorem u_fits_tops {a0 a1 a2 : D} (h1 : noMs [a0, a1, a2] = false) (μ : Sto) (Q : QD) (E : QX) : c_fits_tops [a0, a1, a2] μ Q E = w_fits_tops (endR Q E) [some a0, some a1, some a2, none, none, none, none, none] μ := use_loc rfl rfl h1 μ Q E
theorem r_is_possible {a0 : D} {r : D} (h1 : noMs [a0] = true) (h2 : noM r = true) (h : ∀ (Q : QD) (E : QX), ∃ μ', w_is_possible (endR Q E) [some a0] [] = Q r μ') : Ret c_is_possible [a0] r := ret_loc rfl rfl h1 h2 h
theorem x_is_possible {a0 : D} {r : Exc} (h1 : noMs [a0] = true) (h2 : noMs r.fs = true) (h : ∀ (Q : QD) (E : QX), ∃ μ', w_is_possible (endR Q E) [some a0] [] = E r μ') : Rai c_is_possible [a0] r := rai_loc rfl rfl h1 h2 h
theorem u_is_possible {a0 : D} (h1 : noMs [a0] = false) (μ : Sto) (Q : QD) (E : QX) : c_is_possible [a0] μ Q E = w_is_possible (endR Q E) [some a0] μ := use_loc rfl rfl h1 μ Q E
theorem r_possible {a0 : D} {r : D} (h1 : noMs [a0] = true) (h2 : noM r = true) (h : ∀ (Q : QD) (E : QX), ∃ μ', w_possible (endR Q E) [some a0] [] = Q r μ') : Ret c_possible [a0] r := ret_loc rfl rfl h1 h2 h
theorem x_possible {a0 : D} {r : Exc} (h1 : noMs [a0] = true) (h2 : noMs r.fs = true) (h : ∀ (Q : QD) (E : QX), ∃ μ', w_possible (endR Q E) [some a0] [] = E r μ') : Rai c_possible [a0] r := rai_loc rfl rfl h1 h2 h
theorem u_possible {a0 : D} (h1 : noMs [a0] = false) (μ : Sto) (Q : QD) (E : QX) : c_possible [a0] μ Q E = w_possible (endR Q E) [some a0] μ := use_loc rfl rfl h1 μ Q E
theorem r_check_possible {a0 : D} {r : D} (h1 : noMs [a0] = true) (h2 : noM r = true) (h : ∀ (Q : QD) (E : QX), ∃ μ', w_check_possible (endR Q E) [some a0] [] = Q r μ') : Ret c_check_possible [a0] r := ret_loc rfl rfl h1 h2 h
theorem x_check_possible {a0 : D} {r : Exc} (h1 : noMs [a0] = true) (h2 : noMs r.fs = true) (h : ∀ (Q : QD) (E : QX), ∃ μ', w_check_possible (endR Q E) [some a0] [] = E r μ') : Rai c_check_possible [a0] r := rai_loc rfl rfl h1 h2 h
theorem u_check_possible {a0 : D} (h1 : noMs [a0] = false) (μ : Sto) (Q : QD) (E : QX) : c_check_possible [a0] μ Q E = w_check_possible (endR Q E) [some a0] μ := use_loc rfl rfl h1 μ Q E
theorem r_least_by {a0 a1 a2 a3 : D} {r : D} (h1 : noMs [a0, a1, a2, a3] = true) (h2 : noM r = true) (h : ∀ (Q : QD) (E : QX), ∃ μ', w_least_by (endR Q E) [some a0, some a1, some a2, some a3, none, none, none, none, none] [] = Q r μ') : Ret c_least_by [a0, a1, a2, a3] r := ret_loc rfl rfl h1 h2 h
theorem x_least_by {a0 a1 a2 a3 : D} {r : Exc} (h1 : noMs [a0, a1, a2, a3] = true) (h2 : noMs r.fs = true) (h : ∀ (Q : QD) (E : QX), ∃ μ', w_least_by (endR Q E) [some a0, some a1, some a2, some a3, none, none, none, none, none] [] = E r μ') : Rai c_least_by [a0, a1, a2, a3] r := rai_loc rfl rfl h1 h2 h
theorem u_least_by {a0 a1 a2 a3 : D} (h1 : noMs [a0, a1, a2, a3] = false) (μ : Sto) (Q : QD) (E : QX) : c_least_by [a0, a1, a2, a3] μ Q E = w_least_by (endR Q E) [some a0, some a1, some a2, some a3, none, none, none, none, none] μ := use_loc rfl rfl h1 μ Q E
theorem r_known_of {a0 : D} {r : D} (h1 : noMs [a0] = true) (h2 : noM r = true) (h : ∀ (Q : QD) (E : QX), ∃ μ', w_known_of (endR Q E) [some a0, none, none, none] [] = Q r μ') : Ret c_known_of [a0] r := ret_loc rfl rfl h1 h2 h
theorem x_known_of {a0 : D} {r : Exc} (h1 : noMs [a0] = true) (h2 : noMs r.fs = true) (h : ∀ (Q : QD) (E : QX), ∃ μ', w_known_of (endR Q E) [some a0, none, none, none] [] = E r μ') : Rai c_known_of [a0] r := rai_loc rfl rfl h1 h2 h
theorem u_known_of {a0 : D} (h1 : noMs [a0] = false) (μ : Sto) (Q : QD) (E : QX) : c_known_of [a0] μ Q E = w_known_of (endR Q E) [some a0, none, none, none] μ := use_loc rfl rfl h1 μ Q E
theorem r_known {a0 : D} {r : D} (h1 : noMs [a0] = true) (h2 : noM r = true) (h : ∀ (Q : QD) (E : QX), ∃ μ', w_known (endR Q E) [some a0] [] = Q r μ') : Ret c_known [a0] r := ret_loc rfl rfl h1 h2 h
theorem x_known {a0 : D} {r : Exc} (h1 : noMs [a0] = true) (h2 : noMs r.fs = true) (h : ∀ (Q : QD) (E : QX), ∃ μ', w_known (endR Q E) [some a0] [] = E r μ') : Rai c_known [a0] r := rai_loc rfl rfl h1 h2 h
theorem u_known {a0 : D} (h1 : noMs [a0] = false) (μ : Sto) (Q : QD) (E : QX) : c_known [a0] μ Q E = w_known (endR Q E) [some a0] μ := use_loc rfl rfl h1 μ Q E
theorem r__law_right {a0 : D} {r : D} (h1 : noMs [a0] = true) (h2 : noM r = true) (h : ∀ (Q : QD) (E : QX), ∃ μ', w__law_right (endR Q E) [some a0, none, none, none, none] [] = Q r μ') : Ret c__law_right [a0] r := ret_loc rfl rfl h1 h2 h
theorem x__law_right {a0 : D} {r : Exc} (h1 : noMs [a0] = true) (h2 : noMs r.fs = true) (h : ∀ (Q : QD) (E : QX), ∃ μ', w__law_right (endR Q E) [some a0, none, none, none, none] [] = E r μ') : Rai c__law_right [a0] r := rai_loc rfl rfl h1 h2 h
theorem u__law_right {a0 : D} (h1 : noMs [a0] = false) (μ : Sto) (Q : QD) (E : QX) : c__law_right [a0] μ Q E = w__law_right (endR Q E) [some a0, none, none, none, none] μ := use_loc rfl rfl h1 μ Q E
theorem r_law {a0 : D} {r : D} (h1 : noMs [a0] = true) (h2 : noM r = true) (h : ∀ (Q : QD) (E : QX), ∃ μ', w_law (endR Q E) [some a0, none] [] = Q r μ') : Ret c_law [a0] r := ret_loc rfl rfl h1 h2 h
theorem x_law {a0 : D} {r : Exc} (h1 : noMs [a0] = true) (h2 : noMs r.fs = true) (h : ∀ (Q : QD) (E : QX), ∃ μ', w_law (endR Q E) [some a0, none] [] = E r μ') : Rai c_law [a0] r := rai_loc rfl rfl h1 h2 h
theorem u_law {a0 : D} (h1 : noMs [a0] = false) (μ : Sto) (Q : QD) (E : QX) : c_law [a0] μ Q E = w_law (endR Q E) [some a0, none] μ := use_loc rfl rfl h1 μ Q E
end K58

/-! The data layer, part U2: what a suite leaves of the store. -/
namespace Pk
open PySem PySem.Spec PyProof.Rows L2
def keepK (n : Nat) : Option D → Option D
  | some (.mref k) => match Nat.blt k n with
    | true => some (.mref k)
    | false => none
  | some d => match noM d with
    | true => some d
    | false => none
  | none => none
def cutS (n : Nat) (k : Slots → Sto → Prop) : Slots → Sto → Prop := fun ρ μ => match noMOs (μ.take n) with
  | true => k (ρ.map (keepK n)) (μ.take n)
  | false => False
/-- what is new in the store behind the suite is forgotten, names of it too; nothing is raised -/
def sGc (w : WS) : WS := fun De ρ μ => w ⟨cutS μ.length De.nx, gcQ μ.length De.rt, cutS μ.length De.bk, cutS μ.length De.ct, fun _ _ _ => False⟩ ρ μ
theorem keepK_some {n : Nat} {o : Option D} {d : D} (h : keepK n o = some d) : o = some d ∧ (noM d = true ∨ mIn n d) := by
  unfold keepK at h
  split at h
  · split at h
    · rename_i hk
      injection h with h
      subst h
      exact ⟨rfl, .inr (Nat.le_of_ble_eq_true hk)⟩
    · cases h
  · split at h
    · rename_i hk
      injection h with h
      subst h
      exact ⟨rfl, .inl hk⟩
    · cases h
  · cases h
theorem Sim.truncS {K : PySem.W.Frag} {T : Tab} {F0 F F' H0 : Hp} {m0 m m' : List Addr} {μ μ' : Sto} {ρ ρ' : Slots} {σ σ' : L2.St} {H H' : Hp} {Fb : Hp} {mb : List Addr} {Hb : Hp} (S : Sim K T F0 m0 H0 F m μ ρ σ H) (x : Ext F m H F' m' H') (B : Sim K T Fb mb Hb F' m' μ' ρ' σ' H') (hk : noMOs (μ'.take μ.length) = true) :
    Ext F m H F' m H' ∧ Sim K T F0 m0 H0 F' m (μ'.take μ.length) (ρ'.map (keepK μ.length)) σ' H' := by
  obtain ⟨r, er⟩ := x.gr.mem
  have g : Gr F m F' m := ⟨x.gr.fr, [], by simp⟩
  have xx : Ext F m H F' m H' := ⟨g, fun b o e w n h => by
    obtain ⟨e1, n1, h1⟩ := x.frm b o e w n h
    exact ⟨e1, n1, h⟩, x.up⟩
  refine ⟨xx, S.ext.trans xx, B.same, ?_, S.nd, fun a h => (x.up a).2 (S.al a h), fun k a o e1 e2 n => ?_, by rw [List.length_map]; exact B.sl, fun i d e => ?_⟩
  · have h1 := B.len
    rw [er, List.length_append] at h1
    rw [List.length_take, S.len]
    have h2 := S.len
    omega
  · have hk1 := (List.getElem?_eq_some_iff.mp e1).1
    have e3 : m'[k]? = some a := by
      rw [er, List.getElem?_append_left hk1]
      exact e1
    have hl : k < μ.length := by rw [← S.len]; exact hk1
    have e4 : μ'[k]? = some o := by
      rw [List.getElem?_take_of_lt hl] at e2
      exact e2
    obtain ⟨h1, h2⟩ := B.sto k a o e3 e4 n
    exact ⟨h1, h2.noM (noMOs_at hk e2)⟩
  · rw [List.getElem?_map] at e
    cases q : ρ'[i]? with
    | none => rw [q] at e; cases e
    | some o =>
      rw [q] at e
      have e : some (keepK μ.length o) = some (some d) := e
      injection e with e
      obtain ⟨e1, e2⟩ := keepK_some e
      subst e1
      obtain ⟨v, h1, h2⟩ := B.slot i d q
      rcases e2 with e2 | e2
      · exact ⟨v, h1, h2.noM e2⟩
      · rw [er] at h2
        exact ⟨v, h1, h2.less (by rw [S.len]; exact e2)⟩
theorem dss_gc {X : Cx} {z : Zx} {b : List Stmt} {w : WS} (h : ∀ F0 m0 H0, DSs X ⟨z.T, F0, m0, H0⟩ b w) : DSs X z b (sGc w) := fun Wd tk => by
  refine ⟨fun pins s σ H Dd I ⟨F, m, μ, ρ, De, S, h', ex, k⟩ => ?_⟩
  have S1 : Sim X.K z.T F m H F m μ ρ σ H := ⟨Ext.refl _ _ _, S.same, S.len, S.nd, S.al, S.sto, S.sl, S.slot⟩
  refine (h F m H (fun _ _ _ => False) (tk.imp fun cls d σ' H' hx => ?_)).run pins s σ H Dd I ⟨F, m, μ, ρ, _, S1, h', rfl, ⟨fun F' m' μ' ρ' σ' H' x B q => ?_, fun F' m' μ' ρ' σ' d v H' x B r q => ?_, fun F' m' μ' ρ' σ' H' x B q => ?_, fun F' m' μ' ρ' σ' H' x B q => ?_⟩⟩
  · obtain ⟨_, _, _, _, _, _, _, q⟩ := hx
    exact q.elim
  · have q : cutS μ.length De.nx ρ' μ' := q
    unfold cutS at q
    split at q
    · rename_i hm
      obtain ⟨xx, S2⟩ := S.truncS x B hm
      exact k.nx _ _ _ _ _ _ xx S2 q
    · exact q.elim
  · have q : gcQ μ.length De.rt d μ' := q
    unfold gcQ at q
    split at q
    · rename_i hn
      split at q
      · rename_i hm
        obtain ⟨xx, S2⟩ := S.truncS x B hm
        exact k.rt _ _ _ _ _ _ _ _ xx S2 (r.noM hn) q
      · exact q.elim
    · exact q.elim
  · have q : cutS μ.length De.bk ρ' μ' := q
    unfold cutS at q
    split at q
    · rename_i hm
      obtain ⟨xx, S2⟩ := S.truncS x B hm
      exact k.bk _ _ _ _ _ _ xx S2 q
    · exact q.elim
  · have q : cutS μ.length De.ct ρ' μ' := q
    unfold cutS at q
    split at q
    · rename_i hm
      obtain ⟨xx, S2⟩ := S.truncS x B hm
      exact k.ct _ _ _ _ _ _ xx S2 q
    · exact q.elim
end Pk

namespace K30
open PySem PySem.Spec PyProof.Rows L2 Pk K58
def w__law_urn : WS := (sSeq (sAsg (wIf (tBl (w2 ltD (wVar 1) (wBu (b1 lenD) (aCons (wVar 0) aNil)))) (wBu (b1 intD) (aCons (w2 ixD (wVar 0) (wVar 1)) aNil)) (w2 addD (w2 mulD (wC (.int 2609)) (wVar 1)) (wC (.int 83)))) (gN 2))
  (sSeq (sAsg (w2 addD (wC (.int 90031)) (w2 mulD (wC (.int 541)) (wVar 1))) (gN 3))
  (sSeq (sFor (iSeq (w2 addD (wSl (wVar 0) oNo (oYes (wC (.int 5)))) (wLst (aCons (wVar 2) aNil)))) (gN 4)
  (sAsg (w2 modD (wBu (b1 intD) (aCons (w2 addD (w2 mulD (wVar 3) (wC (.int 33013))) (wBu (b1 intD) (aCons (wVar 4) aNil))) aNil)) (wC (.int 2147483059))) (gN 3)))
  (sRet (wLstO (aCons (wIf (tOr' (tBl (w2 ltD (wVar 2) (wC (.int 0)))) (tBl (w2 geD (wVar 2) (w2 powD (wC (.int 10)) (wC (.int 18)))))) (wBu (b1 absD) (aCons (wVar 2) aNil)) (wC (.int 0))) (aCons (wVar 3) (aCons (wC (.int 0)) aNil))))))))
def c__law_urn : Con := (conB 5 2 w__law_urn)
def w__law_ladle : WS := (sSeq (sAsg2 (w2 addD (w2 ixD (wVar 0) (wC (.int 2))) (wC (.int 1))) fun E d ρ μ Q => (g2S (wVar 0) (wC (.int 2))) d ρ μ Q (fun x μ' => E x ρ μ'))
  (sSeq (sAsg (wBu (b1 intD) (aCons (w2 ixD (wVar 0) (wC (.int 1))) aNil)) (gN 2))
  (sSeq (sAsg2 (w2 modD (wBu (b1 intD) (aCons (w2 addD (w2 addD (w2 mulD (wVar 2) (w2 addD (w2 modD (wBu (b1 intD) (aCons (wVar 2) aNil)) (wC (.int 13007))) (wC (.int 24001)))) (w2 mulD (wC (.int 20011)) (w2 ixD (wVar 0) (wC (.int 2))))) (wC (.int 41))) aNil)) (wC (.int 2147483059))) fun E d ρ μ Q => (g2S (wVar 0) (wC (.int 1))) d ρ μ Q (fun x μ' => E x ρ μ'))
  (sSeq (sIf (tBl (w2 gtD (w2 ixD (wVar 0) (wC (.int 0))) (wC (.int 0))))
  (sSeq (sAsg2 (wBu (b2' divmodD) (aCons (w2 ixD (wVar 0) (wC (.int 0))) (aCons (wVar 1) aNil))) fun E => g2T 2 (g2Cons (g2S (wVar 0) (wC (.int 0))) (g2Cons (g2N 3) g2Nil)) E)
  (sRet (wVar 3))) sNil)
  (sRet (w2 modD (wBu (b1 intD) (aCons (w2 fdivD (w2 ixD (wVar 0) (wC (.int 1))) (wC (.int 96))) aNil)) (wVar 1)))))))
def c__law_ladle : Con := loc (conB 4 2 w__law_ladle)
def w__law_pick : WS := (sRet (w2 ixD (wVar 1) (wGc (wCallN c__law_ladle 2 [] (aCons (wVar 0) (aCons (wBu (b1 lenD) (aCons (wVar 1) aNil)) aNil))))))
def c__law_pick : Con := loc (conB 2 2 w__law_pick)
def w_has_name : WS := (sRet (w2 inD (wVar 1) (wCallN c_names_in 1 [] (aCons (wProp 0 c_Book_garments (wVar 0)) aNil))))
def c_has_name : Con := loc (conB 2 2 w_has_name)
def w_check_load : WS := (sSeq (sIf (tOr' (tNo (tTru (wBu (b2' isiD) (aCons (wVar 1) (aCons (wC (.ty .tup)) aNil))))) (tBl (w2 eqqD (wBu (b1 lenD) (aCons (wVar 1) aNil)) (wC (.int 0)))))
  sNever sNil)
  (sFor (iEnm (wFz 1 (wVar 1))) (gT [(gN 2), (gN 3)])
  (sIf (tOr' (tNo (tTru (wCallN c_has_name 2 [] (aCons (wVar 0) (aCons (wVar 3) aNil))))) (tBl (w2 inD (wVar 3) (wSl (wVar 1) oNo (oYes (wVar 2))))))
  sNever sNil)))
def c_check_load : Con := loc (conB 4 2 w_check_load)
def w_check_asked : WS := (sSeq (sExpr (wCallN c_check_book 1 [] (aCons (wVar 0) aNil)))
  (sSeq (sExpr (wCallN c_check_load 2 [] (aCons (wVar 0) (aCons (wVar 1) aNil))))
  (sExpr (wCallN c_check_possible 1 [] (aCons (wVar 0) aNil)))))
def c_check_asked : Con := loc (conB 2 2 w_check_asked)
def w_Book_dyes : WS := (sRet (wBu (b1 tupD) (aCons (wCallN c_dyes_in 1 [] (aCons (wFld 0 0 (wVar 0)) aNil)) aNil)))
def c_Book_dyes : Con := loc (conB 1 1 w_Book_dyes)
def w_dye_of : WS := (sRet (w2 ixD (wCallN c_garment_of 2 [] (aCons (wVar 0) (aCons (wVar 1) aNil))) (wC (.int 1))))
def c_dye_of : Con := loc (conB 2 2 w_dye_of)
def w_parts_by_dye : WS := (sSeq (sAsg (wLstO aNil) (gN 2))
  (sSeq (sFor (iSeq (wFz 1 (wProp 0 c_Book_dyes (wVar 0)))) (gN 3)
  (sSeq (sAsg (wLc false (iSeq (wFz 1 (wVar 1))) (gN 5) (tBl (w2 eqqD (wCallN c_dye_of 2 [] (aCons (wVar 0) (aCons (w2 ixD (wVar 5) (wC (.int 0))) aNil))) (wVar 3))) (wVar 5) [5]) (gN 4))
  (sIf (tBl (w2 neqD (wVar 4) (wLst aNil)))
  (sExpr (wMe isL appF (wVar 2) (aCons (wTup (aCons (wVar 3) (aCons (wVar 4) aNil))) aNil))) sNil)))
  (sRet (wFz 1 (wVar 2)))))
def c_parts_by_dye : Con := loc (conB 6 2 w_parts_by_dye)
def w_check_name : WS := (sIf (tNo (tTru (wCallN c_has_name 2 [] (aCons (wVar 0) (aCons (wVar 1) aNil)))))
  sNever sNil)
def c_check_name : Con := loc (conB 2 2 w_check_name)
def w_Book_present : WS := (sSeq (sExpr (wCallN c_check_name 2 [] (aCons (wVar 0) (aCons (wVar 1) aNil))))
  (sRet (w2 ixD (wLc false (iEnm (wFz 1 (wFld 1 1 (wFld 0 3 (wVar 0))))) (gT [(gN 2), (gN 3)]) (tBl (w2 eqqD (w2 ixD (wVar 3) (wC (.int 0))) (wVar 1))) (wVar 2) [2, 3]) (wNeg (wC (.int 1))))))
def c_Book_present : Con := loc (conB 4 2 w_Book_present)
def w_Book_tallies : WS := (sRet (wBu (b1 tupD) (aCons (wFld 1 2 (wFld 0 3 (wVar 0))) aNil)))
def c_Book_tallies : Con := loc (conB 1 1 w_Book_tallies)
def w_numbers_next : WS := (sSeq (sAsg (wLc false (iSeq (wFz 1 (wProp 0 c_Book_garments (wVar 0)))) (gT [(gN 3), (gN 4), (gN 5)]) (tBl (w2 inD (wVar 3) (wVar 1))) (wMeth 0 c_Book_present 2 (wVar 0) (aCons (wVar 3) aNil)) [3, 4, 5]) (gN 2))
  (sRet (wLc false (iSeq (wFz 1 (wVar 2))) (gN 6) tAll (wTup (aCons (wVar 6) (aCons (w2 addD (w2 ixD (wProp 0 c_Book_tallies (wVar 0)) (wVar 6)) (wC (.int 1))) aNil))) [6])))
def c_numbers_next : Con := loc (conB 7 2 w_numbers_next)
def w_lowered : WS := (sSeq (sAsg (wBu (b1L true itemsOf) (aCons (wVar 0) aNil)) (gN 2))
  (sSeq (sFor (iSeq (wFz 1 (wVar 1))) (gT [(gN 3), (gN 4)])
  (sAsg2 (wBu (b2' minD) (aCons (w2 ixD (wVar 2) (wVar 3)) (aCons (w2 subD (wVar 4) (wC (.int 1))) aNil))) fun E d ρ μ Q => (g2S (wVar 2) (wVar 3)) d ρ μ Q (fun x μ' => E x ρ μ')))
  (sRet (wFz 1 (wVar 2)))))
def c_lowered : Con := loc (conB 5 2 w_lowered)
def w_word_for : WS := (sSeq (sIf (tNo (tTru (wBu (b1 anyD) (aCons (wLc false (iSeq (wFz 1 (wVar 2))) (gT [(gN 3), (gN 4)]) tAll (w2 leD (wVar 4) (w2 ixD (wVar 1) (wVar 3))) [3, 4]) aNil))))
  (sRet (wC (.str [110, 101, 118, 101, 114]))) sNil)
  (sRet (wIf (tTru (wCallN c_fits_tops 3 [.tup []] (aCons (wVar 0) (aCons (wCallN c_lowered 2 [] (aCons (wVar 1) (aCons (wVar 2) aNil))) aNil)))) (wC (.str [112, 101, 114, 104, 97, 112, 115])) (wC (.str [115, 117, 114, 101, 108, 121])))))
def c_word_for : Con := loc (conB 5 3 w_word_for)
def w_seen : WS := (sSeq (sExpr (wCallN c_check_asked 2 [] (aCons (wVar 0) (aCons (wVar 1) aNil))))
  (sSeq (sAsg (wTup (aCons (wCallN c_tops_of 2 [.tup []] (aCons (wVar 0) aNil)) (aCons (wCallN c_parts_by_dye 2 [] (aCons (wVar 0) (aCons (wCallN c_numbers_next 2 [] (aCons (wVar 0) (aCons (wVar 1) aNil))) aNil))) aNil))) (gT [(gN 2), (gN 3)]))
  (sRet (wBu (b1 tupD) (aCons (wLc false (iSeq (wFz 1 (wVar 3))) (gT [(gN 4), (gN 5)]) tAll (wTup (aCons (wVar 4) (aCons (wCallN c_word_for 3 [] (aCons (wVar 0) (aCons (wVar 2) (aCons (wVar 5) aNil)))) aNil))) [4, 5]) aNil)))))
def c_seen : Con := loc (conB 6 2 w_seen)
def w_washes_left : WS := (sSeq (sExpr (wCallN c_check_book 1 [] (aCons (wVar 0) aNil)))
  (sSeq (sExpr (wCallN c_check_name 2 [] (aCons (wVar 0) (aCons (wVar 1) aNil))))
  (sSeq (sExpr (wCallN c_check_possible 1 [] (aCons (wVar 0) aNil)))
  (sSeq (sAsg (wMeth 0 c_Book_present 2 (wVar 0) (aCons (wVar 1) aNil)) (gN 2))
  (sRet (wBu (b2' maxD) (aCons (wC (.int 0)) (aCons (w2 subD (w2 ixD (wCallN c_tops_of 2 [.tup []] (aCons (wVar 0) aNil)) (wVar 2)) (w2 ixD (wProp 0 c_Book_tallies (wVar 0)) (wVar 2))) aNil))))))))
def c_washes_left : Con := loc (conB 3 2 w_washes_left)
def w_Book_numbers : WS := (sSeq (sIf (tOr' (tNo (tTru (wCallN c_is_between 3 [] (aCons (wVar 1) (aCons (wC (.int 0)) (aCons (w2 subD (wBu (b1 lenD) (aCons (wFld 0 1 (wVar 0)) aNil)) (wC (.int 1))) aNil)))))) (tBl (w2 neqD (w2 ixD (w2 ixD (wFld 0 2 (wVar 0)) (wVar 1)) (wC (.int 0))) (wC (.str [119, 97, 115, 104])))))
  sNever sNil)
  (sRet (w2 ixD (wFld 1 3 (wFld 0 3 (wVar 0))) (wVar 1))))
def c_Book_numbers : Con := loc (conB 2 2 w_Book_numbers)
def w_span_of : WS := (sSeq (sFor (iEnm (wFz 1 (wProp 0 c_Book_looks (wVar 0)))) (gT [(gN 3), (gN 4)])
  (sIf (tAn (tBl (w2 eqqD (w2 ixD (wVar 4) (wC (.int 0))) (wVar 1))) (tAn (tBl (w2 eqqD (w2 ixD (wVar 4) (wC (.int 1))) (wVar 2))) (tTru (w2 ixD (wVar 4) (wC (.int 2))))))
  (sRet (w2 ixD (wProp 0 c_Book_spans (wVar 0)) (wVar 3))) sNil))
  (sRet (wC .non)))
def c_span_of : Con := loc (conB 5 3 w_span_of)
def w_bleeders : WS := (sSeq (sExpr (wCallN c_check_book 1 [] (aCons (wVar 0) aNil)))
  (sSeq (sExpr (wMeth 0 c_Book_numbers 2 (wVar 0) (aCons (wVar 1) aNil)))
  (sSeq (sAsg (wIf (tTru (wBu (b2' isiD) (aCons (wVar 2) (aCons (wC (.ty .str)) aNil)))) (wCallN c_span_of 3 [] (aCons (wVar 0) (aCons (wVar 1) (aCons (wVar 2) aNil)))) (wC .non)) (gN 3))
  (sSeq (sIf (tBl (w2 isD (wVar 3) (wC .non)))
  sNever sNil)
  (sSeq (sExpr (wCallN c_check_possible 1 [] (aCons (wVar 0) aNil)))
  (sSeq (sAsg (wCallN c_tops_of 2 [.tup []] (aCons (wVar 0) aNil)) (gN 4))
  (sSeq (sAsg (wLc false (iSeq (wFz 1 (wVar 3))) (gT [(gN 6), (gN 7)]) (tBl (w2 geD (wCallN c_least_by 4 [.tup []] (aCons (wVar 0) (aCons (wVar 4) (aCons (wVar 6) aNil)))) (wVar 7))) (wVar 6) [6, 7]) (gN 5))
  (sRet (wTup (aCons (wBu (b1 tupD) (aCons (wVar 5) aNil)) (aCons (wBu (b1 tupD) (aCons (wLc false (iSeq (wFz 1 (wVar 3))) (gT [(gN 6), (gN 7)]) (tBl (w2 leD (wVar 7) (w2 ixD (wVar 4) (wVar 6)))) (wVar 6) [6, 7]) aNil)) aNil)))))))))))
def c_bleeders : Con := loc (conB 8 3 w_bleeders)
def w_safe_of : WS := (sSeq (sAsg (wCallN c_tops_of 2 [.tup []] (aCons (wVar 0) aNil)) (gN 2))
  (sRet (wBu (b1 allD) (aCons (wLc false (iSeq (wFz 1 (wCallN c_numbers_next 2 [] (aCons (wVar 0) (aCons (wVar 1) aNil))))) (gT [(gN 3), (gN 4)]) tAll (w2 gtD (wVar 4) (w2 ixD (wVar 2) (wVar 3))) [3, 4]) aNil))))
def c_safe_of : Con := loc (conB 5 2 w_safe_of)
def w_safe : WS := (sSeq (sExpr (wCallN c_check_asked 2 [] (aCons (wVar 0) (aCons (wVar 1) aNil))))
  (sRet (wCallN c_safe_of 2 [] (aCons (wVar 0) (aCons (wVar 1) aNil)))))
def c_safe : Con := loc (conB 2 2 w_safe)
def w_safe_garments : WS := (sSeq (sExpr (wCallN c_check_book 1 [] (aCons (wVar 0) aNil)))
  (sSeq (sExpr (wCallN c_check_possible 1 [] (aCons (wVar 0) aNil)))
  (sRet (wBu (b1 tupD) (aCons (wLc false (iSeq (wFz 1 (wProp 0 c_Book_garments (wVar 0)))) (gT [(gN 1), (gN 2), (gN 3)]) (tTru (wCallN c_safe_of 2 [] (aCons (wVar 0) (aCons (wTup (aCons (wVar 1) aNil)) aNil)))) (wVar 1) [1, 2, 3]) aNil)))))
def c_safe_garments : Con := loc (conB 4 1 w_safe_garments)
def w_Book_with_line : WS := (sSeq (sIf (tBl (w2 isD (wCallN c_entry_in 2 [] (aCons (wFld 0 0 (wVar 0)) (aCons (wVar 1) aNil))) (wC .non)))
  sNever sNil)
  (sSeq (sIf (tBl (w2 eqqD (wBu (b1 lenD) (aCons (wFld 0 1 (wVar 0)) aNil)) (wC (.int 30))))
  sNever sNil)
  (sRet (wLoc (wFz 9 (wMake 0 c_Book_init 3 [] (aCons (wFld 0 0 (wVar 0)) (aCons (wTup (aStar (wFld 0 1 (wVar 0)) (aCons (wVar 1) aNil))) aNil))))))))
def c_Book_with_line : Con := loc (conB 2 2 w_Book_with_line)
def w__law_single_right : WS := (sSeq (sAsg (w2 addD (w2 addD (w2 addD (wC (.str [119, 97, 115, 104, 32])) (wVar 0)) (wC (.str [32, 63, 32]))) (wVar 1)) (gN 4))
  (sSeq (sAsg (w2 addD (w2 mulD (wLst (aCons (wVar 4) aNil)) (w2 subD (wVar 2) (wC (.int 1)))) (wLst (aCons (w2 addD (w2 addD (w2 addD (wC (.str [119, 97, 115, 104, 32])) (wVar 0)) (wC (.str [32, 43, 32]))) (wVar 1)) aNil))) (gN 5))
  (sSeq (sAsg (wLoc (wFz 9 (wMake 0 c_Book_init 3 [] (aCons (wTup (aCons (wTup (aCons (wVar 0) (aCons (wVar 1) (aCons (wC (.int 12)) aNil)))) aNil)) (aCons (wBu (b1 tupD) (aCons (wVar 5) aNil)) aNil))))) (gN 6))
  (sSeq (sIf (tOr' (tBl (w2 neqD (wCallN c_seen 2 [] (aCons (wVar 6) (aCons (wTup (aCons (wVar 0) aNil)) aNil))) (wTup (aCons (wTup (aCons (wVar 1) (aCons (wIf (tBl (w2 ltD (wVar 2) (wC (.int 12)))) (wC (.str [112, 101, 114, 104, 97, 112, 115])) (wC (.str [110, 101, 118, 101, 114]))) aNil))) aNil)))) (tBl (w2 neqD (wCallN c_washes_left 2 [] (aCons (wVar 6) (aCons (wVar 0) aNil))) (w2 subD (wC (.int 12)) (wVar 2)))))
  (sRet (wC (.bl false))) sNil)
  (sSeq (sIf (tOr' (tBl (w2 neqD (wCallN c_bleeders 3 [] (aCons (wVar 6) (aCons (w2 subD (wVar 2) (wC (.int 1))) (aCons (wVar 1) aNil)))) (wTup (aCons (wTup (aCons (wC (.int 0)) aNil)) (aCons (wTup (aCons (wC (.int 0)) aNil)) aNil))))) (tBl (w2 neqD (wCallN c_safe 2 [] (aCons (wVar 6) (aCons (wTup (aCons (wVar 0) aNil)) aNil))) (w2 eqqD (wVar 2) (wC (.int 12))))))
  (sRet (wC (.bl false))) sNil)
  (sSeq (sAsg (wLoc (wFz 9 (wMake 0 c_Book_init 3 [] (aCons (wTup (aCons (wTup (aCons (wVar 0) (aCons (wVar 1) (aCons (wC (.int 12)) aNil)))) aNil)) (aCons (wBu (b1 tupD) (aCons (w2 addD (w2 addD (wVar 5) (w2 mulD (wLst (aCons (wVar 4) aNil)) (w2 subD (w2 subD (wVar 3) (wVar 2)) (wC (.int 1))))) (wLst (aCons (w2 addD (wC (.str [119, 97, 115, 104, 32])) (wVar 0)) aNil))) aNil)) aNil))))) (gN 7))
  (sSeq (sIf (tOr' (tBl (w2 neqD (wCallN c_safe_garments 1 [] (aCons (wVar 7) aNil)) (wTup (aCons (wVar 0) aNil)))) (tOr' (tBl (w2 neqD (wCallN c_seen 2 [] (aCons (wVar 7) (aCons (wTup (aCons (wVar 0) aNil)) aNil))) (wTup (aCons (wTup (aCons (wVar 1) (aCons (wC (.str [110, 101, 118, 101, 114])) aNil))) aNil)))) (tBl (w2 neqD (wCallN c_washes_left 2 [] (aCons (wVar 7) (aCons (wVar 0) aNil))) (wC (.int 0))))))
  (sRet (wC (.bl false))) sNil)
  (sSeq (sAsg (wMeth 0 c_Book_with_line 2 (wVar 7) (aCons (w2 addD (wC (.str [114, 101, 110, 101, 119, 32])) (wVar 0)) aNil)) (gN 8))
  (sRet (wAnd (w2 eqqD (wCallN c_seen 2 [] (aCons (wVar 8) (aCons (wTup (aCons (wVar 0) aNil)) aNil))) (wTup (aCons (wTup (aCons (wVar 1) (aCons (wC (.str [112, 101, 114, 104, 97, 112, 115])) aNil))) aNil))) (wAnd (w2 eqqD (wCallN c_washes_left 2 [] (aCons (wVar 8) (aCons (wVar 0) aNil))) (wC (.int 12))) (w2 eqqD (wCallN c_safe_garments 1 [] (aCons (wVar 8) aNil)) (wTup aNil)))))))))))))
def c__law_single_right : Con := loc (conB 9 4 w__law_single_right)
def w__law_pair_right : WS := (sSeq (sAsg (wTup (aCons (wTup (aCons (w2 ixD (wVar 0) (wC (.int 0))) (aCons (wVar 1) (aCons (wVar 2) aNil)))) (aCons (wTup (aCons (w2 ixD (wVar 0) (wC (.int 1))) (aCons (wVar 1) (aCons (wVar 2) aNil)))) aNil))) (gN 3))
  (sSeq (sAsg (w2 addD (w2 addD (w2 addD (w2 addD (w2 addD (wC (.str [119, 97, 115, 104, 32])) (w2 ixD (wVar 0) (wC (.int 0)))) (wC (.str [32]))) (w2 ixD (wVar 0) (wC (.int 1)))) (wC (.str [32, 43, 32]))) (wVar 1)) (gN 4))
  (sSeq (sAsg (wLoc (wFz 9 (wMake 0 c_Book_init 3 [] (aCons (wVar 3) (aCons (wTup (aCons (wVar 4) aNil)) aNil))))) (gN 5))
  (sSeq (sIf (tOr' (tBl (w2 neqD (wCallN c_bleeders 3 [] (aCons (wVar 5) (aCons (wC (.int 0)) (aCons (wVar 1) aNil)))) (wTup (aCons (wTup aNil) (aCons (wTup (aCons (wC (.int 0)) (aCons (wC (.int 1)) aNil))) aNil))))) (tBl (w2 neqD (wCallN c_safe_garments 1 [] (aCons (wVar 5) aNil)) (wIf (tBl (w2 gtD (wVar 2) (wC (.int 1)))) (wTup aNil) (wBu (b1 tupD) (aCons (wSl (wVar 0) oNo (oYes (wC (.int 2)))) aNil))))))
  (sRet (wC (.bl false))) sNil)
  (sSeq (sAsg (wLoc (wFz 9 (wMake 0 c_Book_init 3 [] (aCons (wTup (aCons (w2 ixD (wVar 3) (wC (.int 0))) (aCons (wTup (aCons (w2 ixD (wVar 0) (wC (.int 1))) (aCons (wVar 1) (aCons (wC (.int 0)) aNil)))) aNil))) (aCons (wTup (aCons (wVar 4) aNil)) aNil))))) (gN 6))
  (sSeq (sAsg (wBu (b1 tupD) (aCons (wSl (wVar 0) oNo (oYes (wC (.int 2)))) aNil)) (gN 7))
  (sSeq (sIf (tOr' (tBl (w2 neqD (wCallN c_bleeders 3 [] (aCons (wVar 6) (aCons (wC (.int 0)) (aCons (wVar 1) aNil)))) (wTup (aCons (wTup (aCons (wC (.int 0)) aNil)) (aCons (wTup (aCons (wC (.int 0)) aNil)) aNil))))) (tBl (w2 neqD (wCallN c_safe_garments 1 [] (aCons (wVar 6) aNil)) (wIf (tBl (w2 gtD (wVar 2) (wC (.int 1)))) (wSl (wVar 7) (oYes (wC (.int 1))) oNo) (wVar 7)))))
  (sRet (wC (.bl false))) sNil)
  (sSeq (sAsg (wLoc (wFz 9 (wMake 0 c_Book_init 3 [] (aCons (wVar 3) (aCons (wTup (aCons (wVar 4) (aCons (w2 addD (wC (.str [114, 101, 110, 101, 119, 32])) (w2 ixD (wVar 0) (wC (.int 0)))) (aCons (w2 addD (wC (.str [119, 97, 115, 104, 32])) (w2 ixD (wVar 0) (wC (.int 0)))) aNil)))) aNil))))) (gN 8))
  (sRet (wAnd (w2 eqqD (wCallN c_bleeders 3 [] (aCons (wVar 8) (aCons (wC (.int 0)) (aCons (wVar 1) aNil)))) (wTup (aCons (wTup aNil) (aCons (wTup (aCons (wC (.int 0)) (aCons (wC (.int 2)) aNil))) aNil)))) (w2 eqqD (wCallN c_safe_garments 1 [] (aCons (wVar 8) aNil)) (wIf (tBl (w2 gtD (wVar 2) (wC (.int 1)))) (wSl (wVar 7) oNo (oYes (wC (.int 1)))) (wVar 7)))))))))))))
def c__law_pair_right : Con := loc (conB 9 3 w__law_pair_right)
def w__law_right : WS := (sSeq (sAsg (wSl (wLst (aCons (wC (.str [115, 111, 99, 107])) (aCons (wC (.str [114, 117, 103])) (aCons (wC (.str [119, 97, 115, 104])) aNil)))) (oYes (wGc (wCallN c__law_ladle 2 [] (aCons (wVar 0) (aCons (wC (.int 2)) aNil))))) oNo) (gN 1))
  (sSeq (sPar2 2 3 (aCons (w2 addD (wC (.int 1)) (wGc (wCallN c__law_ladle 2 [] (aCons (wVar 0) (aCons (wC (.int 11)) aNil))))) (aCons (w2 addD (wC (.int 1)) (wGc (wCallN c__law_ladle 2 [] (aCons (wVar 0) (aCons (wC (.int 12)) aNil))))) aNil)))
  (sSeq (sPar2 4 5 (aCons (w2 addD (w2 addD (wVar 2) (wC (.int 1))) (wGc (wCallN c__law_ladle 2 [] (aCons (wVar 0) (aCons (w2 subD (wC (.int 12)) (wVar 2)) aNil))))) (aCons (wGc (wCallN c__law_pick 2 [] (aCons (wVar 0) (aCons (wLst (aCons (wC (.str [114, 101, 100])) (aCons (wC (.str [115, 111, 99, 107])) (aCons (wC (.str [100])) aNil)))) aNil)))) aNil)))
  (sRet (wAnd (wCallN c__law_single_right 4 [] (aCons (w2 ixD (wVar 1) (wC (.int 0))) (aCons (wVar 5) (aCons (wVar 2) (aCons (wVar 4) aNil))))) (wCallN c__law_pair_right 3 [] (aCons (wVar 1) (aCons (wVar 5) (aCons (wVar 3) aNil)))))))))
def c__law_right : Con := loc (conB 6 1 w__law_right)
def w_law : WS := (sSeq (sAsg (wLc false (iRg1 (wBu (b2' maxD) (aCons (wC (.int 2)) (aCons (wBu (b2' minD) (aCons (wBu (b1 lenD) (aCons (wVar 0) aNil)) (aCons (wC (.int 5)) aNil))) aNil)))) (gN 2) tAll (wCallN c__law_urn 2 [] (aCons (wVar 0) (aCons (wVar 2) aNil))) [2]) (gN 1))
  (sRet (wBu (b1 allD) (aCons (wLc false (iSeq (wFz 1 (wVar 1))) (gN 3) tAll (wGc (wCallN c__law_right 1 [] (aCons (wVar 3) aNil))) [3]) aNil))))
def c_law : Con := loc (conB 4 1 w_law)
theorem r__law_ladle {a0 a1 : D} {r : D} (h1 : noMs [a0, a1] = true) (h2 : noM r = true) (h : ∀ (Q : QD) (E : QX), ∃ μ', w__law_ladle (endR Q E) [some a0, some a1, none, none] [] = Q r μ') : Ret c__law_ladle [a0, a1] r := ret_loc rfl rfl h1 h2 h
theorem x__law_ladle {a0 a1 : D} {r : Exc} (h1 : noMs [a0, a1] = true) (h2 : noMs r.fs = true) (h : ∀ (Q : QD) (E : QX), ∃ μ', w__law_ladle (endR Q E) [some a0, some a1, none, none] [] = E r μ') : Rai c__law_ladle [a0, a1] r := rai_loc rfl rfl h1 h2 h
theorem u__law_ladle {a0 a1 : D} (h1 : noMs [a0, a1] = false) (μ : Sto) (Q : QD) (E : QX) : c__law_ladle [a0, a1] μ Q E = w__law_ladle (endR Q E) [some a0, some a1, none, none] μ := use_loc rfl rfl h1 μ Q E
theorem r__law_pick {a0 a1 : D} {r : D} (h1 : noMs [a0, a1] = true) (h2 : noM r = true) (h : ∀ (Q : QD) (E : QX), ∃ μ', w__law_pick (endR Q E) [some a0, some a1] [] = Q r μ') : Ret c__law_pick [a0, a1] r := ret_loc rfl rfl h1 h2 h
theorem x__law_pick {a0 a1 : D} {r : Exc} (h1 : noMs [a0, a1] = true) (h2 : noMs r.fs = true) (h : ∀ (Q : QD) (E : QX), ∃ μ', w__law_pick (endR Q E) [some a0, some a1] [] = E r μ') : Rai c__law_pick [a0, a1] r := rai_loc rfl rfl h1 h2 h
theorem u__law_pick {a0 a1 : D} (h1 : noMs [a0, a1] = false) (μ : Sto) (Q : QD) (E : QX) : c__law_pick [a0, a1] μ Q E = w__law_pick (endR Q E) [some a0, some a1] μ := use_loc rfl rfl h1 μ Q E
theorem r_has_name {a0 a1 : D} {r : D} (h1 : noMs [a0, a1] = true) (h2 : noM r = true) (h : ∀ (Q : QD) (E : QX), ∃ μ', w_has_name (endR Q E) [some a0, some a1] [] = Q r μ') : Ret c_has_name [a0, a1] r := ret_loc rfl rfl h1 h2 h
theorem x_has_name {a0 a1 : D} {r : Exc} (h1 : noMs [a0, a1] = true) (h2 : noMs r.fs = true) (h : ∀ (Q : QD) (E : QX), ∃ μ', w_has_name (endR Q E) [some a0, some a1] [] = E r μ') : Rai c_has_name [a0, a1] r := rai_loc rfl rfl h1 h2 h
theorem u_has_name {a0 a1 : D} (h1 : noMs [a0, a1] = false) (μ : Sto) (Q : QD) (E : QX) : c_has_name [a0, a1] μ Q E = w_has_name (endR Q E) [some a0, some a1] μ := use_loc rfl rfl h1 μ Q E
theorem r_check_load {a0 a1 : D} {r : D} (h1 : noMs [a0, a1] = true) (h2 : noM r = true) (h : ∀ (Q : QD) (E : QX), ∃ μ', w_check_load (endR Q E) [some a0, some a1, none, none] [] = Q r μ') : Ret c_check_load [a0, a1] r := ret_loc rfl rfl h1 h2 h
theorem x_check_load {a0 a1 : D} {r : Exc} (h1 : noMs [a0, a1] = true) (h2 : noMs r.fs = true) (h : ∀ (Q : QD) (E : QX), ∃ μ', w_check_load (endR Q E) [some a0, some a1, none, none] [] = E r μ') : Rai c_check_load [a0, a1] r := rai_loc rfl rfl h1 h2 h
theorem u_check_load {a0 a1 : D} (h1 : noMs [a0, a1] = false) (μ : Sto) (Q : QD) (E : QX) : c_check_load [a0, a1] μ Q E = w_check_load (endR Q E) [some a0, some a1, none, none] μ := use_loc rfl rfl h1 μ Q E
theorem r_check_asked {a0 a1 : D} {r : D} (h1 : noMs [a0, a1] = true) (h2 : noM r = true) (h : ∀ (Q : QD) (E : QX), ∃ μ', w_check_asked (endR Q E) [some a0, some a1] [] = Q r μ') : Ret c_check_asked [a0, a1] r := ret_loc rfl rfl h1 h2 h
theorem x_check_asked {a0 a1 : D} {r : Exc} (h1 : noMs [a0, a1] = true) (h2 : noMs r.fs = true) (h : ∀ (Q : QD) (E : QX), ∃ μ', w_check_asked (endR Q E) [some a0, some a1] [] = E r μ') : Rai c_check_asked [a0, a1] r := rai_loc rfl rfl h1 h2 h
theorem u_check_asked {a0 a1 : D} (h1 : noMs [a0, a1] = false) (μ : Sto) (Q : QD) (E : QX) : c_check_asked [a0, a1] μ Q E = w_check_asked (endR Q E) [some a0, some a1] μ := use_loc rfl rfl h1 μ Q E
theorem r_Book_dyes {a0 : D} {r : D} (h1 : noMs [a0] = true) (h2 : noM r = true) (h : ∀ (Q : QD) (E : QX), ∃ μ', w_Book_dyes (endR Q E) [some a0] [] = Q r μ') : Ret c_Book_dyes [a0] r := ret_loc rfl rfl h1 h2 h
theorem x_Book_dyes {a0 : D} {r : Exc} (h1 : noMs [a0] = true) (h2 : noMs r.fs = true) (h : ∀ (Q : QD) (E : QX), ∃ μ', w_Book_dyes (endR Q E) [some a0] [] = E r μ') : Rai c_Book_dyes [a0] r := rai_loc rfl rfl h1 h2 h
theorem u_Book_dyes {a0 : D} (h1 : noMs [a0] = false) (μ : Sto) (Q : QD) (E : QX) : c_Book_dyes [a0] μ Q E = w_Book_dyes (endR Q E) [some a0] μ := use_loc rfl rfl h1 μ Q E
theorem r_dye_of {a0 a1 : D} {r : D} (h1 : noMs [a0, a1] = true) (h2 : noM r = true) (h : ∀ (Q : QD) (E : QX), ∃ μ', w_dye_of (endR Q E) [some a0, some a1] [] = Q r μ') : Ret c_dye_of [a0, a1] r := ret_loc rfl rfl h1 h2 h
theorem x_dye_of {a0 a1 : D} {r : Exc} (h1 : noMs [a0, a1] = true) (h2 : noMs r.fs = true) (h : ∀ (Q : QD) (E : QX), ∃ μ', w_dye_of (endR Q E) [some a0, some a1] [] = E r μ') : Rai c_dye_of [a0, a1] r := rai_loc rfl rfl h1 h2 h
theorem u_dye_of {a0 a1 : D} (h1 : noMs [a0, a1] = false) (μ : Sto) (Q : QD) (E : QX) : c_dye_of [a0, a1] μ Q E = w_dye_of (endR Q E) [some a0, some a1] μ := use_loc rfl rfl h1 μ Q E
theorem r_parts_by_dye {a0 a1 : D} {r : D} (h1 : noMs [a0, a1] = true) (h2 : noM r = true) (h : ∀ (Q : QD) (E : QX), ∃ μ', w_parts_by_dye (endR Q E) [some a0, some a1, none, none, none, none] [] = Q r μ') : Ret c_parts_by_dye [a0, a1] r := ret_loc rfl rfl h1 h2 h
theorem x_parts_by_dye {a0 a1 : D} {r : Exc} (h1 : noMs [a0, a1] = true) (h2 : noMs r.fs = true) (h : ∀ (Q : QD) (E : QX), ∃ μ', w_parts_by_dye (endR Q E) [some a0, some a1, none, none, none, none] [] = E r μ') : Rai c_parts_by_dye [a0, a1] r := rai_loc rfl rfl h1 h2 h
theorem u_parts_by_dye {a0 a1 : D} (h1 : noMs [a0, a1] = false) (μ : Sto) (Q : QD) (E : QX) : c_parts_by_dye [a0, a1] μ Q E = w_parts_by_dye (endR Q E) [some a0, some a1, none, none, none, none] μ := use_loc rfl rfl h1 μ Q E
theorem r_check_name {a0 a1 : D} {r : D} (h1 : noMs [a0, a1] = true) (h2 : noM r = true) (h : ∀ (Q : QD) (E : QX), ∃ μ', w_check_name (endR Q E) [some a0, some a1] [] = Q r μ') : Ret c_check_name [a0, a1] r := ret_loc rfl rfl h1 h2 h
theorem x_check_name {a0 a1 : D} {r : Exc} (h1 : noMs [a0, a1] = true) (h2 : noMs r.fs = true) (h : ∀ (Q : QD) (E : QX), ∃ μ', w_check_name (endR Q E) [some a0, some a1] [] = E r μ') : Rai c_check_name [a0, a1] r := rai_loc rfl rfl h1 h2 h
theorem u_check_name {a0 a1 : D} (h1 : noMs [a0, a1] = false) (μ : Sto) (Q : QD) (E : QX) : c_check_name [a0, a1] μ Q E = w_check_name (endR Q E) [some a0, some a1] μ := use_loc rfl rfl h1 μ Q E
theorem r_Book_present {a0 a1 : D} {r : D} (h1 : noMs [a0, a1] = true) (h2 : noM r = true) (h : ∀ (Q : QD) (E : QX), ∃ μ', w_Book_present (endR Q E) [some a0, some a1, none, none] [] = Q r μ') : Ret c_Book_present [a0, a1] r := ret_loc rfl rfl h1 h2 h
theorem x_Book_present {a0 a1 : D} {r : Exc} (h1 : noMs [a0, a1] = true) (h2 : noMs r.fs = true) (h : ∀ (Q : QD) (E : QX), ∃ μ', w_Book_present (endR Q E) [some a0, some a1, none, none] [] = E r μ') : Rai c_Book_present [a0, a1] r := rai_loc rfl rfl h1 h2 h
theorem u_Book_present {a0 a1 : D} (h1 : noMs [a0, a1] = false) (μ : Sto) (Q : QD) (E : QX) : c_Book_present [a0, a1] μ Q E = w_Book_present (endR Q E) [some a0, some a1, none, none] μ := use_loc rfl rfl h1 μ Q E
theorem r_Book_tallies {a0 : D} {r : D} (h1 : noMs [a0] = true) (h2 : noM r = true) (h : ∀ (Q : QD) (E : QX), ∃ μ', w_Book_tallies (endR Q E) [some a0] [] = Q r μ') : Ret c_Book_tallies [a0] r := ret_loc rfl rfl h1 h2 h
theorem x_Book_tallies {a0 : D} {r : Exc} (h1 : noMs [a0] = true) (h2 : noMs r.fs = true) (h : ∀ (Q : QD) (E : QX), ∃ μ', w_Book_tallies (endR Q E) [some a0] [] = E r μ') : Rai c_Book_tallies [a0] r := rai_loc rfl rfl h1 h2 h
theorem u_Book_tallies {a0 : D} (h1 : noMs [a0] = false) (μ : Sto) (Q : QD) (E : QX) : c_Book_tallies [a0] μ Q E = w_Book_tallies (endR Q E) [some a0] μ := use_loc rfl rfl h1 μ Q E
theorem r_numbers_next {a0 a1 : D} {r : D} (h1 : noMs [a0, a1] = true) (h2 : noM r = true) (h : ∀ (Q : QD) (E : QX), ∃ μ', w_numbers_next (endR Q E) [some a0, some a1, none, none, none, none, none] [] = Q r μ') : Ret c_numbers_next [a0, a1] r := ret_loc rfl rfl h1 h2 h
theorem x_numbers_next {a0 a1 : D} {r : Exc} (h1 : noMs [a0, a1] = true) (h2 : noMs r.fs = true) (h : ∀ (Q : QD) (E : QX), ∃ μ', w_numbers_next (endR Q E) [some a0, some a1, none, none, none, none, none] [] = E r μ') : Rai c_numbers_next [a0, a1] r := rai_loc rfl rfl h1 h2 h
theorem u_numbers_next {a0 a1 : D} (h1 : noMs [a0, a1] = false) (μ : Sto) (Q : QD) (E : QX) : c_numbers_next [a0, a1] μ Q E = w_numbers_next (endR Q E) [some a0, some a1, none, none, none, none, none] μ := use_loc rfl rfl h1 μ Q E
theorem r_lowered {a0 a1 : D} {r : D} (h1 : noMs [a0, a1] = true) (h2 : noM r = true) (h : ∀ (Q : QD) (E : QX), ∃ μ', w_lowered (endR Q E) [some a0, some a1, none, none, none] [] = Q r μ') : Ret c_lowered [a0, a1] r := ret_loc rfl rfl h1 h2 h
theorem x_lowered {a0 a1 : D} {r : Exc} (h1 : noMs [a0, a1] = true) (h2 : noMs r.fs = true) (h : ∀ (Q : QD) (E : QX), ∃ μ', w_lowered (endR Q E) [some a0, some a1, none, none, none] [] = E r μ') : Rai c_lowered [a0, a1] r := rai_loc rfl rfl h1 h2 h
theorem u_lowered {a0 a1 : D} (h1 : noMs [a0, a1] = false) (μ : Sto) (Q : QD) (E : QX) : c_lowered [a0, a1] μ Q E = w_lowered (endR Q E) [some a0, some a1, none, none, none] μ := use_loc rfl rfl h1 μ Q E
theorem r_word_for {a0 a1 a2 : D} {r : D} (h1 : noMs [a0, a1, a2] = true) (h2 : noM r = true) (h : ∀ (Q : QD) (E : QX), ∃ μ', w_word_for (endR Q E) [some a0, some a1, some a2, none, none] [] = Q r μ') : Ret c_word_for [a0, a1, a2] r := ret_loc rfl rfl h1 h2 h
theorem x_word_for {a0 a1 a2 : D} {r : Exc} (h1 : noMs [a0, a1, a2] = true) (h2 : noMs r.fs = true) (h : ∀ (Q : QD) (E : QX), ∃ μ', w_word_for (endR Q E) [some a0, some a1, some a2, none, none] [] = E r μ') : Rai c_word_for [a0, a1, a2] r := rai_loc rfl rfl h1 h2 h
theorem u_word_for {a0 a1 a2 : D} (h1 : noMs [a0, a1, a2] = false) (μ : Sto) (Q : QD) (E : QX) : c_word_for [a0, a1, a2] μ Q E = w_word_for (endR Q E) [some a0, some a1, some a2, none, none] μ := use_loc rfl rfl h1 μ Q E
theorem r_seen {a0 a1 : D} {r : D} (h1 : noMs [a0, a1] = true) (h2 : noM r = true) (h : ∀ (Q : QD) (E : QX), ∃ μ', w_seen (endR Q E) [some a0, some a1, none, none, none, none] [] = Q r μ') : Ret c_seen [a0, a1] r := ret_loc rfl rfl h1 h2 h
theorem x_seen {a0 a1 : D} {r : Exc} (h1 : noMs [a0, a1] = true) (h2 : noMs r.fs = true) (h : ∀ (Q : QD) (E : QX), ∃ μ', w_seen (endR Q E) [some a0, some a1, none, none, none, none] [] = E r μ') : Rai c_seen [a0, a1] r := rai_loc rfl rfl h1 h2 h
theorem u_seen {a0 a1 : D} (h1 : noMs [a0, a1] = false) (μ : Sto) (Q : QD) (E : QX) : c_seen [a0, a1] μ Q E = w_seen (endR Q E) [some a0, some a1, none, none, none, none] μ := use_loc rfl rfl h1 μ Q E
theorem r_washes_left {a0 a1 : D} {r : D} (h1 : noMs [a0, a1] = true) (h2 : noM r = true) (h : ∀ (Q : QD) (E : QX), ∃ μ', w_washes_left (endR Q E) [some a0, some a1, none] [] = Q r μ') : Ret c_washes_left [a0, a1] r := ret_loc rfl rfl h1 h2 h
theorem x_washes_left {a0 a1 : D} {r : Exc} (h1 : noMs [a0, a1] = true) (h2 : noMs r.fs = true) (h : ∀ (Q : QD) (E : QX), ∃ μ', w_washes_left (endR Q E) [some a0, some a1, none] [] = E r μ') : Rai c_washes_left [a0, a1] r := rai_loc rfl rfl h1 h2 h
theorem u_washes_left {a0 a1 : D} (h1 : noMs [a0, a1] = false) (μ : Sto) (Q : QD) (E : QX) : c_washes_left [a0, a1] μ Q E = w_washes_left (endR Q E) [some a0, some a1, none] μ := use_loc rfl rfl h1 μ Q E
theorem r_Book_numbers {a0 a1 : D} {r : D} (h1 : noMs [a0, a1] = true) (h2 : noM r = true) (h : ∀ (Q : QD) (E : QX), ∃ μ', w_Book_numbers (endR Q E) [some a0, some a1] [] = Q r μ') : Ret c_Book_numbers [a0, a1] r := ret_loc rfl rfl h1 h2 h
theorem x_Book_numbers {a0 a1 : D} {r : Exc} (h1 : noMs [a0, a1] = true) (h2 : noMs r.fs = true) (h : ∀ (Q : QD) (E : QX), ∃ μ', w_Book_numbers (endR Q E) [some a0, some a1] [] = E r μ') : Rai c_Book_numbers [a0, a1] r := rai_loc rfl rfl h1 h2 h
theorem u_Book_numbers {a0 a1 : D} (h1 : noMs [a0, a1] = false) (μ : Sto) (Q : QD) (E : QX) : c_Book_numbers [a0, a1] μ Q E = w_Book_numbers (endR Q E) [some a0, some a1] μ := use_loc rfl rfl h1 μ Q E
theorem r_span_of {a0 a1 a2 : D} {r : D} (h1 : noMs [a0, a1, a2] = true) (h2 : noM r = true) (h : ∀ (Q : QD) (E : QX), ∃ μ', w_span_of (endR Q E) [some a0, some a1, some a2, none, none] [] = Q r μ') : Ret c_span_of [a0, a1, a2] r := ret_loc rfl rfl h1 h2 h
theorem x_span_of {a0 a1 a2 : D} {r : Exc} (h1 : noMs [a0, a1, a2] = true) (h2 : noMs r.fs = true) (h : ∀ (Q : QD) (E : QX), ∃ μ', w_span_of (endR Q E) [some a0, some a1, some a2, none, none] [] = E r μ') : Rai c_span_of [a0, a1, a2] r := rai_loc rfl rfl h1 h2 h
theorem u_span_of {a0 a1 a2 : D} (h1 : noMs [a0, a1, a2] = false) (μ : Sto) (Q : QD) (E : QX) : c_span_of [a0, a1, a2] μ Q E = w_span_of (endR Q E) [some a0, some a1, some a2, none, none] μ := use_loc rfl rfl h1 μ Q E
theorem r_bleeders {a0 a1 a2 : D} {r : D} (h1 : noMs [a0, a1, a2] = true) (h2 : noM r = true) (h : ∀ (Q : QD) (E : QX), ∃ μ', w_bleeders (endR Q E) [some a0, some a1, some a2, none, none, none, none, none] [] = Q r μ') : Ret c_bleeders [a0, a1, a2] r := ret_loc rfl rfl h1 h2 h
theorem x_bleeders {a0 a1 a2 : D} {r : Exc} (h1 : noMs [a0, a1, a2] = true) (h2 : noMs r.fs = true) (h : ∀ (Q : QD) (E : QX), ∃ μ', w_bleeders (endR Q E) [some a0, some a1, some a2, none, none, none, none, none] [] = E r μ') : Rai c_bleeders [a0, a1, a2] r := rai_loc rfl rfl h1 h2 h
theorem u_bleeders {a0 a1 a2 : D} (h1 : noMs [a0, a1, a2] = false) (μ : Sto) (Q : QD) (E : QX) : c_bleeders [a0, a1, a2] μ Q E = w_bleeders (endR Q E) [some a0, some a1, some a2, none, none, none, none, none] μ := use_loc rfl rfl h1 μ Q E
theorem r_safe_of {a0 a1 : D} {r : D} (h1 : noMs [a0, a1] = true) (h2 : noM r = true) (h : ∀ (Q : QD) (E : QX), ∃ μ', w_safe_of (endR Q E) [some a0, some a1, none, none, none] [] = Q r μ') : Ret c_safe_of [a0, a1] r := ret_loc rfl rfl h1 h2 h
theorem x_safe_of {a0 a1 : D} {r : Exc} (h1 : noMs [a0, a1] = true) (h2 : noMs r.fs = true) (h : ∀ (Q : QD) (E : QX), ∃ μ', w_safe_of (endR Q E) [some a0, some a1, none, none, none] [] = E r μ') : Rai c_safe_of [a0, a1] r := rai_loc rfl rfl h1 h2 h
theorem u_safe_of {a0 a1 : D} (h1 : noMs [a0, a1] = false) (μ : Sto) (Q : QD) (E : QX) : c_safe_of [a0, a1] μ Q E = w_safe_of (endR Q E) [some a0, some a1, none, none, none] μ := use_loc rfl rfl h1 μ Q E
theorem r_safe {a0 a1 : D} {r : D} (h1 : noMs [a0, a1] = true) (h2 : noM r = true) (h : ∀ (Q : QD) (E : QX), ∃ μ', w_safe (endR Q E) [some a0, some a1] [] = Q r μ') : Ret c_safe [a0, a1] r := ret_loc rfl rfl h1 h2 h
theorem x_safe {a0 a1 : D} {r : Exc} (h1 : noMs [a0, a1] = true) (h2 : noMs r.fs = true) (h : ∀ (Q : QD) (E : QX), ∃ μ', w_safe (endR Q E) [some a0, some a1] [] = E r μ') : Rai c_safe [a0, a1] r := rai_loc rfl rfl h1 h2 h
theorem u_safe {a0 a1 : D} (h1 : noMs [a0, a1] = false) (μ : Sto) (Q : QD) (E : QX) : c_safe [a0, a1] μ Q E = w_safe (endR Q E) [some a0, some a1] μ := use_loc rfl rfl h1 μ Q E
theorem r_safe_garments {a0 : D} {r : D} (h1 : noMs [a0] = true) (h2 : noM r = true) (h : ∀ (Q : QD) (E : QX), ∃ μ', w_safe_garments (endR Q E) [some a0, none, none, none] [] = Q r μ') : Ret c_safe_garments [a0] r := ret_loc rfl rfl h1 h2 h
theorem x_safe_garments {a0 : D} {r : Exc} (h1 : noMs [a0] = true) (h2 : noMs r.fs = true) (h : ∀ (Q : QD) (E : QX), ∃ μ', w_safe_garments (endR Q E) [some a0, none, none, none] [] = E r μ') : Rai c_safe_garments [a0] r := rai_loc rfl rfl h1 h2 h
theorem u_safe_garments {a0 : D} (h1 : noMs [a0] = false) (μ : Sto) (Q : QD) (E : QX) : c_safe_garments [a0] μ Q E = w_safe_garments (endR Q E) [some a0, none, none, none] μ := use_loc rfl rfl h1 μ Q E
theorem r_Book_with_line {a0 a1 : D} {r : D} (h1 : noMs [a0, a1] = true) (h2 : noM r = true) (h : ∀ (Q : QD) (E : QX), ∃ μ', w_Book_with_line (endR Q E) [some a0, some a1] [] = Q r μ') : Ret c_Book_with_line [a0, a1] r := ret_loc rfl rfl h1 h2 h
theorem x_Book_with_line {a0 a1 : D} {r : Exc} (h1 : noMs [a0, a1] = true) (h2 : noMs r.fs = true) (h : ∀ (Q : QD) (E : QX), ∃ μ', w_Book_with_line (endR Q E) [some a0, some a1] [] = E r μ') : Rai c_Book_with_line [a0, a1] r := rai_loc rfl rfl h1 h2 h
theorem u_Book_with_line {a0 a1 : D} (h1 : noMs [a0, a1] = false) (μ : Sto) (Q : QD) (E : QX) : c_Book_with_line [a0, a1] μ Q E = w_Book_with_line (endR Q E) [some a0, some a1] μ := use_loc rfl rfl h1 μ Q E
theorem r__law_single_right {a0 a1 a2 a3 : D} {r : D} (h1 : noMs [a0, a1, a2, a3] = true) (h2 : noM r = true) (h : ∀ (Q : QD) (E : QX), ∃ μ', w__law_single_right (endR Q E) [some a0, some a1, some a2, some a3, none, none, none, none, none] [] = Q r μ') : Ret c__law_single_right [a0, a1, a2, a3] r := ret_loc rfl rfl h1 h2 h
theorem x__law_single_right {a0 a1 a2 a3 : D} {r : Exc} (h1 : noMs [a0, a1, a2, a3] = true) (h2 : noMs r.fs = true) (h : ∀ (Q : QD) (E : QX), ∃ μ', w__law_single_right (endR Q E) [some a0, some a1, some a2, some a3, none, none, none, none, none] [] = E r μ') : Rai c__law_single_right [a0, a1, a2, a3] r := rai_loc rfl rfl h1 h2 h
theorem u__law_single_right {a0 a1 a2 a3 : D} (h1 : noMs [a0, a1, a2, a3] = false) (μ : Sto) (Q : QD) (E : QX) : c__law_single_right [a0, a1, a2, a3] μ Q E = w__law_single_right (endR Q E) [some a0, some a1, some a2, some a3, none, none, none, none, none] μ := use_loc rfl rfl h1 μ Q E
theorem r__law_pair_right {a0 a1 a2 : D} {r : D} (h1 : noMs [a0, a1, a2] = true) (h2 : noM r = true) (h : ∀ (Q : QD) (E : QX), ∃ μ', w__law_pair_right (endR Q E) [some a0, some a1, some a2, none, none, none, none, none, none] [] = Q r μ') : Ret c__law_pair_right [a0, a1, a2] r := ret_loc rfl rfl h1 h2 h
theorem x__law_pair_right {a0 a1 a2 : D} {r : Exc} (h1 : noMs [a0, a1, a2] = true) (h2 : noMs r.fs = true) (h : ∀ (Q : QD) (E : QX), ∃ μ', w__law_pair_right (endR Q E) [some a0, some a1, some a2, none, none, none, none, none, none] [] = E r μ') : Rai c__law_pair_right [a0, a1, a2] r := rai_loc rfl rfl h1 h2 h
theorem u__law_pair_right {a0 a1 a2 : D} (h1 : noMs [a0, a1, a2] = false) (μ : Sto) (Q : QD) (E : QX) : c__law_pair_right [a0, a1, a2] μ Q E = w__law_pair_right (endR Q E) [some a0, some a1, some a2, none, none, none, none, none, none] μ := use_loc rfl rfl h1 μ Q E
theorem r__law_right {a0 : D} {r : D} (h1 : noMs [a0] = true) (h2 : noM r = true) (h : ∀ (Q : QD) (E : QX), ∃ μ', w__law_right (endR Q E) [some a0, none, none, none, none, none] [] = Q r μ') : Ret c__law_right [a0] r := ret_loc rfl rfl h1 h2 h
theorem x__law_right {a0 : D} {r : Exc} (h1 : noMs [a0] = true) (h2 : noMs r.fs = true) (h : ∀ (Q : QD) (E : QX), ∃ μ', w__law_right (endR Q E) [some a0, none, none, none, none, none] [] = E r μ') : Rai c__law_right [a0] r := rai_loc rfl rfl h1 h2 h
theorem u__law_right {a0 : D} (h1 : noMs [a0] = false) (μ : Sto) (Q : QD) (E : QX) : c__law_right [a0] μ Q E = w__law_right (endR Q E) [some a0, none, none, none, none, none] μ := use_loc rfl rfl h1 μ Q E
theorem r_law {a0 : D} {r : D} (h1 : noMs [a0] = true) (h2 : noM r = true) (h : ∀ (Q : QD) (E : QX), ∃ μ', w_law (endR Q E) [some a0, none, none, none] [] = Q r μ') : Ret c_law [a0] r := ret_loc rfl rfl h1 h2 h
theorem x_law {a0 : D} {r : Exc} (h1 : noMs [a0] = true) (h2 : noMs r.fs = true) (h : ∀ (Q : QD) (E : QX), ∃ μ', w_law (endR Q E) [some a0, none, none, none] [] = E r μ') : Rai c_law [a0] r := rai_loc rfl rfl h1 h2 h
theorem u_law {a0 : D} (h1 : noMs [a0] = false) (μ : Sto) (Q : QD) (E : QX) : c_law [a0] μ Q E = w_law (endR Q E) [some a0, none, none, none] μ := use_loc rfl rfl h1 μ Q E
end K30

namespace K30
open PySem PySem.Spec PyProof.Rows L2 Pk K58
abbrev top (i : Nat) : Stmt := nth PySem.Challenge.pw_pinkwash_k30_known_loads.main.body i
def tab (K : PySem.W.Frag) : Tab := ⟨fun n => match n with | 0 => He.ga K "Book" | 1 => He.ga K "Walk" | _ => 0, fun n => match n with | 0 => ["clothes", "told", "parsed", "walk"] | 1 => ["owners", "life_rows", "tally_row", "load_rows", "look_rows", "span_rows"] | _ => []⟩
abbrev s__law_urn : Stmt := top 71
theorem S__law_urn : FnScope ["_law_script", "_law_k", "_law_cell", "_law_mixed", "_law_each"] ["_law_script", "_law_k"] (defScope s__law_urn) := ⟨rfl, rfl, rfl, by decide +kernel, rfl, by decide +kernel, by decide +kernel⟩
abbrev s__law_ladle : Stmt := top 72
theorem S__law_ladle : FnScope ["_law_urn_here", "_law_top", "_law_old", "_law_figure"] ["_law_urn_here", "_law_top"] (defScope s__law_ladle) := ⟨rfl, rfl, rfl, by decide +kernel, rfl, by decide +kernel, by decide +kernel⟩
abbrev s__law_pick : Stmt := top 73
theorem S__law_pick : FnScope ["_law_urn_here", "_law_things"] ["_law_urn_here", "_law_things"] (defScope s__law_pick) := ⟨rfl, rfl, rfl, by decide +kernel, rfl, by decide +kernel, by decide +kernel⟩
abbrev s_is_name : Stmt := top 20
theorem S_is_name : FnScope ["value", "sign"] ["value"] (defScope s_is_name) := ⟨rfl, rfl, rfl, by decide +kernel, rfl, by decide +kernel, by decide +kernel⟩
abbrev s_is_integer : Stmt := top 18
theorem S_is_integer : FnScope ["value"] ["value"] (defScope s_is_integer) := ⟨rfl, rfl, rfl, by decide +kernel, rfl, by decide +kernel, by decide +kernel⟩
abbrev s_is_between : Stmt := top 19
theorem S_is_between : FnScope ["value", "least", "most"] ["value", "least", "most"] (defScope s_is_between) := ⟨rfl, rfl, rfl, by decide +kernel, rfl, by decide +kernel, by decide +kernel⟩
abbrev s_is_garment : Stmt := top 31
theorem S_is_garment : FnScope ["value"] ["value"] (defScope s_is_garment) := ⟨rfl, rfl, rfl, by decide +kernel, rfl, by decide +kernel, by decide +kernel⟩
abbrev s_check_garments : Stmt := top 32
theorem S_check_garments : FnScope ["garments", "index", "value", "garment"] ["garments"] (defScope s_check_garments) := ⟨rfl, rfl, rfl, by decide +kernel, rfl, by decide +kernel, by decide +kernel⟩
abbrev s_parted_at : Stmt := top 35
theorem S_parted_at : FnScope ["words", "mark", "at"] ["words", "mark"] (defScope s_parted_at) := ⟨rfl, rfl, rfl, by decide +kernel, rfl, by decide +kernel, by decide +kernel⟩
abbrev s_dyes_in : Stmt := top 34
theorem S_dyes_in : FnScope ["garments", "garment"] ["garments"] (defScope s_dyes_in) := ⟨rfl, rfl, rfl, by decide +kernel, rfl, by decide +kernel, by decide +kernel⟩
abbrev s_are_different : Stmt := top 36
theorem S_are_different : FnScope ["words", "at", "word"] ["words"] (defScope s_are_different) := ⟨rfl, rfl, rfl, by decide +kernel, rfl, by decide +kernel, by decide +kernel⟩
abbrev s_names_in : Stmt := top 33
theorem S_names_in : FnScope ["garments", "garment"] ["garments"] (defScope s_names_in) := ⟨rfl, rfl, rfl, by decide +kernel, rfl, by decide +kernel, by decide +kernel⟩
abbrev s_wash_in : Stmt := top 37
theorem S_wash_in : FnScope ["garments", "words", "rest", "skipped", "names", "found", "told", "here", "looked", "garment", "name", "dye"] ["garments", "words"] (defScope s_wash_in) := ⟨rfl, rfl, rfl, by decide +kernel, rfl, by decide +kernel, by decide +kernel⟩
abbrev s_entry_in : Stmt := top 38
theorem S_entry_in : FnScope ["garments", "line", "words"] ["garments", "line"] (defScope s_entry_in) := ⟨rfl, rfl, rfl, by decide +kernel, rfl, by decide +kernel, by decide +kernel⟩
abbrev s_check_lines : Stmt := top 39
theorem S_check_lines : FnScope ["garments", "lines", "index", "line"] ["garments", "lines"] (defScope s_check_lines) := ⟨rfl, rfl, rfl, by decide +kernel, rfl, by decide +kernel, by decide +kernel⟩
abbrev s_Walk_wash : Stmt := nth (clsBody (top 42)) 2
theorem S_Walk_wash : FnScope ["self", "garments", "index", "lives", "looks", "life", "pairs", "dye", "is_seen", "pair"] ["self", "garments", "index", "lives", "looks"] (defScope s_Walk_wash) := ⟨rfl, rfl, rfl, by decide +kernel, rfl, by decide +kernel, by decide +kernel⟩
abbrev s_Walk_go : Stmt := nth (clsBody (top 42)) 1
theorem S_Walk_go : FnScope ["self", "garments", "entries", "here", "index", "word", "names", "looks", "name"] ["self", "garments", "entries"] (defScope s_Walk_go) := ⟨rfl, rfl, rfl, by decide +kernel, rfl, by decide +kernel, by decide +kernel⟩
abbrev s_Walk_init : Stmt := nth (clsBody (top 42)) 0
theorem S_Walk_init : FnScope ["self", "garments", "entries", "owner", "garment", "many", "entry", "turn"] ["self", "garments", "entries"] (defScope s_Walk_init) := ⟨rfl, rfl, rfl, by decide +kernel, rfl, by decide +kernel, by decide +kernel⟩
abbrev s_Book_init : Stmt := nth (clsBody (top 43)) 0
theorem S_Book_init : FnScope ["self", "garments", "lines", "line"] ["self", "garments", "lines"] (defScope s_Book_init) := ⟨rfl, rfl, rfl, by decide +kernel, rfl, by decide +kernel, by decide +kernel⟩
abbrev s_check_book : Stmt := top 44
theorem S_check_book : FnScope ["value"] ["value"] (defScope s_check_book) := ⟨rfl, rfl, rfl, by decide +kernel, rfl, by decide +kernel, by decide +kernel⟩
abbrev s_Book_garments : Stmt := nth (clsBody (top 43)) 2
theorem S_Book_garments : FnScope ["self"] ["self"] (defScope s_Book_garments) := ⟨rfl, rfl, rfl, by decide +kernel, rfl, by decide +kernel, by decide +kernel⟩
abbrev s_has_name : Stmt := top 45
theorem S_has_name : FnScope ["book", "value"] ["book", "value"] (defScope s_has_name) := ⟨rfl, rfl, rfl, by decide +kernel, rfl, by decide +kernel, by decide +kernel⟩
abbrev s_check_load : Stmt := top 47
theorem S_check_load : FnScope ["book", "value", "index", "name"] ["book", "value"] (defScope s_check_load) := ⟨rfl, rfl, rfl, by decide +kernel, rfl, by decide +kernel, by decide +kernel⟩
abbrev s_Book_looks : Stmt := nth (clsBody (top 43)) 6
theorem S_Book_looks : FnScope ["self"] ["self"] (defScope s_Book_looks) := ⟨rfl, rfl, rfl, by decide +kernel, rfl, by decide +kernel, by decide +kernel⟩
abbrev s_Book_spans : Stmt := nth (clsBody (top 43)) 8
theorem S_Book_spans : FnScope ["self"] ["self"] (defScope s_Book_spans) := ⟨rfl, rfl, rfl, by decide +kernel, rfl, by decide +kernel, by decide +kernel⟩
abbrev s_fits_tops : Stmt := top 53
theorem S_fits_tops : FnScope ["book", "greatest", "skipped", "index", "look", "is_asked", "life", "number"] ["book", "greatest", "skipped"] (defScope s_fits_tops) := ⟨rfl, rfl, rfl, by decide +kernel, rfl, by decide +kernel, by decide +kernel⟩
abbrev s_Book_lives : Stmt := nth (clsBody (top 43)) 5
theorem S_Book_lives : FnScope ["self"] ["self"] (defScope s_Book_lives) := ⟨rfl, rfl, rfl, by decide +kernel, rfl, by decide +kernel, by decide +kernel⟩
abbrev s_garment_of : Stmt := top 48
theorem S_garment_of : FnScope ["book", "life"] ["book", "life"] (defScope s_garment_of) := ⟨rfl, rfl, rfl, by decide +kernel, rfl, by decide +kernel, by decide +kernel⟩
abbrev s_top_of : Stmt := top 50
theorem S_top_of : FnScope ["book", "life"] ["book", "life"] (defScope s_top_of) := ⟨rfl, rfl, rfl, by decide +kernel, rfl, by decide +kernel, by decide +kernel⟩
abbrev s_tops_of : Stmt := top 52
theorem S_tops_of : FnScope ["book", "skipped", "found", "index", "look", "life", "number"] ["book", "skipped"] (defScope s_tops_of) := ⟨rfl, rfl, rfl, by decide +kernel, rfl, by decide +kernel, by decide +kernel⟩
abbrev s_is_possible : Stmt := top 55
theorem S_is_possible : FnScope ["book"] ["book"] (defScope s_is_possible) := ⟨rfl, rfl, rfl, by decide +kernel, rfl, by decide +kernel, by decide +kernel⟩
abbrev s_check_possible : Stmt := top 56
theorem S_check_possible : FnScope ["book"] ["book"] (defScope s_check_possible) := ⟨rfl, rfl, rfl, by decide +kernel, rfl, by decide +kernel, by decide +kernel⟩
abbrev s_check_asked : Stmt := top 63
theorem S_check_asked : FnScope ["book", "names"] ["book", "names"] (defScope s_check_asked) := ⟨rfl, rfl, rfl, by decide +kernel, rfl, by decide +kernel, by decide +kernel⟩
abbrev s_Book_dyes : Stmt := nth (clsBody (top 43)) 4
theorem S_Book_dyes : FnScope ["self"] ["self"] (defScope s_Book_dyes) := ⟨rfl, rfl, rfl, by decide +kernel, rfl, by decide +kernel, by decide +kernel⟩
abbrev s_dye_of : Stmt := top 49
theorem S_dye_of : FnScope ["book", "life"] ["book", "life"] (defScope s_dye_of) := ⟨rfl, rfl, rfl, by decide +kernel, rfl, by decide +kernel, by decide +kernel⟩
abbrev s_parts_by_dye : Stmt := top 59
theorem S_parts_by_dye : FnScope ["book", "pairs", "found", "dye", "own", "pair"] ["book", "pairs"] (defScope s_parts_by_dye) := ⟨rfl, rfl, rfl, by decide +kernel, rfl, by decide +kernel, by decide +kernel⟩
abbrev s_check_name : Stmt := top 46
theorem S_check_name : FnScope ["book", "value"] ["book", "value"] (defScope s_check_name) := ⟨rfl, rfl, rfl, by decide +kernel, rfl, by decide +kernel, by decide +kernel⟩
abbrev s_Book_present : Stmt := nth (clsBody (top 43)) 12
theorem S_Book_present : FnScope ["self", "name", "life", "pair"] ["self", "name"] (defScope s_Book_present) := ⟨rfl, rfl, rfl, by decide +kernel, rfl, by decide +kernel, by decide +kernel⟩
abbrev s_Book_tallies : Stmt := nth (clsBody (top 43)) 9
theorem S_Book_tallies : FnScope ["self"] ["self"] (defScope s_Book_tallies) := ⟨rfl, rfl, rfl, by decide +kernel, rfl, by decide +kernel, by decide +kernel⟩
abbrev s_numbers_next : Stmt := top 58
theorem S_numbers_next : FnScope ["book", "names", "lives", "name", "dye", "top", "life"] ["book", "names"] (defScope s_numbers_next) := ⟨rfl, rfl, rfl, by decide +kernel, rfl, by decide +kernel, by decide +kernel⟩
abbrev s_lowered : Stmt := top 60
theorem S_lowered : FnScope ["greatest", "pairs", "found", "life", "number"] ["greatest", "pairs"] (defScope s_lowered) := ⟨rfl, rfl, rfl, by decide +kernel, rfl, by decide +kernel, by decide +kernel⟩
abbrev s_word_for : Stmt := top 61
theorem S_word_for : FnScope ["book", "greatest", "pairs", "life", "number"] ["book", "greatest", "pairs"] (defScope s_word_for) := ⟨rfl, rfl, rfl, by decide +kernel, rfl, by decide +kernel, by decide +kernel⟩
abbrev s_seen : Stmt := top 64
theorem S_seen : FnScope ["book", "names", "greatest", "parts", "dye", "pairs"] ["book", "names"] (defScope s_seen) := ⟨rfl, rfl, rfl, by decide +kernel, rfl, by decide +kernel, by decide +kernel⟩
abbrev s_washes_left : Stmt := top 67
theorem S_washes_left : FnScope ["book", "name", "life"] ["book", "name"] (defScope s_washes_left) := ⟨rfl, rfl, rfl, by decide +kernel, rfl, by decide +kernel, by decide +kernel⟩
abbrev s_Book_numbers : Stmt := nth (clsBody (top 43)) 13
theorem S_Book_numbers : FnScope ["self", "index"] ["self", "index"] (defScope s_Book_numbers) := ⟨rfl, rfl, rfl, by decide +kernel, rfl, by decide +kernel, by decide +kernel⟩
abbrev s_span_of : Stmt := top 68
theorem S_span_of : FnScope ["book", "index", "dye", "place", "look"] ["book", "index", "dye"] (defScope s_span_of) := ⟨rfl, rfl, rfl, by decide +kernel, rfl, by decide +kernel, by decide +kernel⟩
abbrev s_least_by : Stmt := top 54
theorem S_least_by : FnScope ["book", "greatest", "life", "skipped", "found", "index", "look", "numbers", "other"] ["book", "greatest", "life", "skipped"] (defScope s_least_by) := ⟨rfl, rfl, rfl, by decide +kernel, rfl, by decide +kernel, by decide +kernel⟩
abbrev s_bleeders : Stmt := top 69
theorem S_bleeders : FnScope ["book", "index", "dye", "span", "greatest", "surely", "life", "number"] ["book", "index", "dye"] (defScope s_bleeders) := ⟨rfl, rfl, rfl, by decide +kernel, rfl, by decide +kernel, by decide +kernel⟩
abbrev s_safe_of : Stmt := top 62
theorem S_safe_of : FnScope ["book", "names", "greatest", "life", "number"] ["book", "names"] (defScope s_safe_of) := ⟨rfl, rfl, rfl, by decide +kernel, rfl, by decide +kernel, by decide +kernel⟩
abbrev s_safe : Stmt := top 65
theorem S_safe : FnScope ["book", "names"] ["book", "names"] (defScope s_safe) := ⟨rfl, rfl, rfl, by decide +kernel, rfl, by decide +kernel, by decide +kernel⟩
abbrev s_safe_garments : Stmt := top 66
theorem S_safe_garments : FnScope ["book", "name", "dye", "top"] ["book"] (defScope s_safe_garments) := ⟨rfl, rfl, rfl, by decide +kernel, rfl, by decide +kernel, by decide +kernel⟩
abbrev s_Book_with_line : Stmt := nth (clsBody (top 43)) 10
theorem S_Book_with_line : FnScope ["self", "line"] ["self", "line"] (defScope s_Book_with_line) := ⟨rfl, rfl, rfl, by decide +kernel, rfl, by decide +kernel, by decide +kernel⟩
abbrev s__law_single_right : Stmt := top 74
theorem S__law_single_right : FnScope ["_law_tag", "_law_hue", "_law_w", "_law_v", "_law_blind", "_law_first_part", "_law_made", "_law_whole", "_law_fresh"] ["_law_tag", "_law_hue", "_law_w", "_law_v"] (defScope s__law_single_right) := ⟨rfl, rfl, rfl, by decide +kernel, rfl, by decide +kernel, by decide +kernel⟩
abbrev s__law_pair_right : Stmt := top 75
theorem S__law_pair_right : FnScope ["_law_tags", "_law_hue", "_law_top", "_law_clothes", "_law_both", "_law_made", "_law_none_more", "_law_two", "_law_renewed"] ["_law_tags", "_law_hue", "_law_top"] (defScope s__law_pair_right) := ⟨rfl, rfl, rfl, by decide +kernel, rfl, by decide +kernel, by decide +kernel⟩
abbrev s__law_right : Stmt := top 76
theorem S__law_right : FnScope ["_law_urn_here", "_law_tags", "_law_w", "_law_top", "_law_v", "_law_hue"] ["_law_urn_here"] (defScope s__law_right) := ⟨rfl, rfl, rfl, by decide +kernel, rfl, by decide +kernel, by decide +kernel⟩
abbrev s_law : Stmt := top 77
theorem S_law : FnScope ["_law_script", "_law_urns", "_law_k", "_law_urn_here"] ["_law_script"] (defScope s_law) := ⟨rfl, rfl, rfl, by decide +kernel, rfl, by decide +kernel, by decide +kernel⟩
structure Facts (K : PySem.W.Frag) (mg : Str → Option Value) : Prop where
  gl_law : mg "law" = some (.ref (He.ga K "law"))
  fr_len : mg "len" = none
  fr_min : mg "min" = none
  fr_max : mg "max" = none
  fr_range : mg "range" = none
  gl__law_urn : mg "_law_urn" = some (.ref (He.ga K "_law_urn"))
  gl__law_right : mg "_law_right" = some (.ref (He.ga K "_law_right"))
  fr_all : mg "all" = none
  fr_int : mg "int" = none
  fr_abs : mg "abs" = none
  gl__law_ladle : mg "_law_ladle" = some (.ref (He.ga K "_law_ladle"))
  gl__law_pick : mg "_law_pick" = some (.ref (He.ga K "_law_pick"))
  gl__law_single_right : mg "_law_single_right" = some (.ref (He.ga K "_law_single_right"))
  gl__law_pair_right : mg "_law_pair_right" = some (.ref (He.ga K "_law_pair_right"))
  fr_divmod : mg "divmod" = none
  fr_tuple : mg "tuple" = none
  mk_Book : Mk K (He.ga K "Book") (pM "Book" "__init__" K)
  gl_Book : mg "Book" = some (.ref (He.ga K "Book"))
  gl_seen : mg "seen" = some (.ref (He.ga K "seen"))
  gl_washes_left : mg "washes_left" = some (.ref (He.ga K "washes_left"))
  gl_bleeders : mg "bleeders" = some (.ref (He.ga K "bleeders"))
  gl_safe : mg "safe" = some (.ref (He.ga K "safe"))
  gl_safe_garments : mg "safe_garments" = some (.ref (He.ga K "safe_garments"))
  cl_Book : Cls K (He.ga K "Book")
  me_Book_with_line : Meth K (He.ga K "Book") "with_line" (pM "Book" "with_line" K)
  gl_check_garments : mg "check_garments" = some (.ref (He.ga K "check_garments"))
  gl_check_lines : mg "check_lines" = some (.ref (He.ga K "check_lines"))
  na_Book_clothes : NoAttr K (He.ga K "Book") "clothes"
  na_Book_told : NoAttr K (He.ga K "Book") "told"
  na_Book_parsed : NoAttr K (He.ga K "Book") "parsed"
  gl_entry_in : mg "entry_in" = some (.ref (He.ga K "entry_in"))
  na_Book_walk : NoAttr K (He.ga K "Book") "walk"
  mk_Walk : Mk K (He.ga K "Walk") (pM "Walk" "__init__" K)
  gl_Walk : mg "Walk" = some (.ref (He.ga K "Walk"))
  fr_isinstance : mg "isinstance" = none
  fr_enumerate : mg "enumerate" = none
  gi_MOST_GARMENTS : ∃ t, mg "MOST_GARMENTS" = some (.int (8) t)
  gl_is_garment : mg "is_garment" = some (.ref (He.ga K "is_garment"))
  gl_is_name : mg "is_name" = some (.ref (He.ga K "is_name"))
  gi_MOST_WASHES : ∃ t, mg "MOST_WASHES" = some (.int (12) t)
  gl_is_between : mg "is_between" = some (.ref (He.ga K "is_between"))
  fr_str : mg "str" = none
  gs_LETTERS : ∃ t, mg "LETTERS" = some (.str "abcdefghijklmnopqrstuvwxyz" t)
  gl_is_integer : mg "is_integer" = some (.ref (He.ga K "is_integer"))
  fr_bool : mg "bool" = none
  gi_MOST_LINES : ∃ t, mg "MOST_LINES" = some (.int (30) t)
  gs_WASH : ∃ t, mg "WASH" = some (.str "wash" t)
  gl_wash_in : mg "wash_in" = some (.ref (He.ga K "wash_in"))
  gs_RENEW : ∃ t, mg "RENEW" = some (.str "renew" t)
  gl_names_in : mg "names_in" = some (.ref (He.ga K "names_in"))
  gs_SKIPPED : ∃ t, mg "SKIPPED" = some (.str "?" t)
  gl_parted_at : mg "parted_at" = some (.ref (He.ga K "parted_at"))
  gs_SEEN : ∃ t, mg "SEEN" = some (.str "+" t)
  gl_dyes_in : mg "dyes_in" = some (.ref (He.ga K "dyes_in"))
  gl_are_different : mg "are_different" = some (.ref (He.ga K "are_different"))
  fr_dict : mg "dict" = none
  fr_list : mg "list" = none
  cl_Walk : Cls K (He.ga K "Walk")
  na_Walk_owners : NoAttr K (He.ga K "Walk") "owners"
  na_Walk_life_rows : NoAttr K (He.ga K "Walk") "life_rows"
  na_Walk_tally_row : NoAttr K (He.ga K "Walk") "tally_row"
  na_Walk_load_rows : NoAttr K (He.ga K "Walk") "load_rows"
  na_Walk_look_rows : NoAttr K (He.ga K "Walk") "look_rows"
  na_Walk_span_rows : NoAttr K (He.ga K "Walk") "span_rows"
  me_Walk_go : Meth K (He.ga K "Walk") "go" (pM "Walk" "go" K)
  me_Walk_wash : Meth K (He.ga K "Walk") "wash" (pM "Walk" "wash" K)
  fr_sorted : mg "sorted" = none
  gl_check_asked : mg "check_asked" = some (.ref (He.ga K "check_asked"))
  gl_numbers_next : mg "numbers_next" = some (.ref (He.ga K "numbers_next"))
  gl_parts_by_dye : mg "parts_by_dye" = some (.ref (He.ga K "parts_by_dye"))
  gl_tops_of : mg "tops_of" = some (.ref (He.ga K "tops_of"))
  gl_word_for : mg "word_for" = some (.ref (He.ga K "word_for"))
  gl_check_book : mg "check_book" = some (.ref (He.ga K "check_book"))
  gl_check_load : mg "check_load" = some (.ref (He.ga K "check_load"))
  gl_check_possible : mg "check_possible" = some (.ref (He.ga K "check_possible"))
  is_Book : fIsi "Book" K = true
  gl_has_name : mg "has_name" = some (.ref (He.ga K "has_name"))
  pr_Book_garments : PropOf K (He.ga K "Book") "garments" (pM "Book" "garments" K) (pP "Book" "garments" K)
  gl_is_possible : mg "is_possible" = some (.ref (He.ga K "is_possible"))
  gl_fits_tops : mg "fits_tops" = some (.ref (He.ga K "fits_tops"))
  pr_Book_looks : PropOf K (He.ga K "Book") "looks" (pM "Book" "looks" K) (pP "Book" "looks" K)
  pr_Book_spans : PropOf K (He.ga K "Book") "spans" (pM "Book" "spans" K) (pP "Book" "spans" K)
  fr_any : mg "any" = none
  pr_Book_lives : PropOf K (He.ga K "Book") "lives" (pM "Book" "lives" K) (pP "Book" "lives" K)
  gl_top_of : mg "top_of" = some (.ref (He.ga K "top_of"))
  gl_garment_of : mg "garment_of" = some (.ref (He.ga K "garment_of"))
  pr_Book_dyes : PropOf K (He.ga K "Book") "dyes" (pM "Book" "dyes" K) (pP "Book" "dyes" K)
  gl_dye_of : mg "dye_of" = some (.ref (He.ga K "dye_of"))
  me_Book_present : Meth K (He.ga K "Book") "present" (pM "Book" "present" K)
  pr_Book_tallies : PropOf K (He.ga K "Book") "tallies" (pM "Book" "tallies" K) (pP "Book" "tallies" K)
  gl_check_name : mg "check_name" = some (.ref (He.ga K "check_name"))
  gl_lowered : mg "lowered" = some (.ref (He.ga K "lowered"))
  me_Book_numbers : Meth K (He.ga K "Book") "numbers" (pM "Book" "numbers" K)
  gl_span_of : mg "span_of" = some (.ref (He.ga K "span_of"))
  gl_least_by : mg "least_by" = some (.ref (He.ga K "least_by"))
  gl_safe_of : mg "safe_of" = some (.ref (He.ga K "safe_of"))
  em_fits_tops : emB K (He.dflAt ("fits_tops", none) 0 K) = true
  em_least_by : emB K (He.dflAt ("least_by", none) 0 K) = true
  em_tops_of : emB K (He.dflAt ("tops_of", none) 0 K) = true
  fl_Book_clothes : FldF K (tab K) 0 "clothes" 0
  fl_Book_told : FldF K (tab K) 0 "told" 1
  fl_Book_parsed : FldF K (tab K) 0 "parsed" 2
  fl_Book_walk : FldF K (tab K) 0 "walk" 3
  fl_Walk_owners : FldF K (tab K) 1 "owners" 0
  fl_Walk_life_rows : FldF K (tab K) 1 "life_rows" 1
  fl_Walk_tally_row : FldF K (tab K) 1 "tally_row" 2
  fl_Walk_load_rows : FldF K (tab K) 1 "load_rows" 3
  fl_Walk_look_rows : FldF K (tab K) 1 "look_rows" 4
  fl_Walk_span_rows : FldF K (tab K) 1 "span_rows" 5
  mf_Book_with_line : MethF K (tab K) 0 "with_line" (pM "Book" "with_line" K)
  mf_Walk_go : MethF K (tab K) 1 "go" (pM "Walk" "go" K)
  mf_Walk_wash : MethF K (tab K) 1 "wash" (pM "Walk" "wash" K)
  mf_Book_present : MethF K (tab K) 0 "present" (pM "Book" "present" K)
  mf_Book_numbers : MethF K (tab K) 0 "numbers" (pM "Book" "numbers" K)
section
variable {P : Program} {w0 : World} {K : PySem.W.Frag} {mg : Str → Option Value} {base : Heap}
theorem ok__law_urn (G : Facts K mg) (F : ∃ fd, FunD K "_law_urn" "_law_urn" (defArgs s__law_urn) (defBody s__law_urn) (defScope s__law_urn) [] [] ((pG "_law_urn") K) fd)  : OkF P w0 K mg base (tab K) 1 ((pG "_law_urn") K) ["_law_script", "_law_k"] c__law_urn := by
  obtain ⟨fd, F⟩ := F
  refine ⟨fd, (fn_con (k := 0) F S__law_urn (w := w__law_urn) fun cdv A outer s H E F0 m0 H0 hr => ?_), F.bindsN fun _ _ _ _ _ _ us hl => match us, hl with | [_, _], _ => rfl, F.kp⟩
  exact (dss_cons (ds_asg (de_if (t_lt (vr 1) (k_len G.fr_len (da_cons (vr 0) da_nil))) (k_int G.fr_int (da_cons (de_ix (hu1 hr) (vr 0) (vr 1)) da_nil)) (o_add (o_mul de_int (vr 1)) de_int)) (gn 2 S__law_urn.nd))
  (dss_cons (ds_asg (o_add de_int (o_mul de_int (vr 1))) (gn 3 S__law_urn.nd))
  (dss_cons (ds_for (passes_of rfl) rfl (di_seq (o_add (de_slice (vr 0) do_none (do_some de_int)) (de_lst (da_cons (vr 2) da_nil)))) (gn 4 S__law_urn.nd)
  (dss_one (ds_asg (o_mod (k_int G.fr_int (da_cons (o_add (o_mul (vr 3) de_int) (k_int G.fr_int (da_cons (vr 4) da_nil))) da_nil)) de_int) (gn 3 S__law_urn.nd))))
  (dss_one (ds_ret (de_lstO (da_cons (de_if (DW.dt (dw_or (t_lt (vr 2) de_int) (dw_or1 (t_ge (vr 2) (o_pow de_int de_int))))) (k_abs G.fr_abs (da_cons (vr 2) da_nil)) de_int) (da_cons (vr 3) (da_cons de_int da_nil)))))))))
theorem ok__law_ladle (G : Facts K mg) (F : ∃ fd, FunD K "_law_ladle" "_law_ladle" (defArgs s__law_ladle) (defBody s__law_ladle) (defScope s__law_ladle) [] [] ((pG "_law_ladle") K) fd)  : OkF P w0 K mg base (tab K) 1 ((pG "_law_ladle") K) ["_law_urn_here", "_law_top"] c__law_ladle := by
  obtain ⟨fd, F⟩ := F
  refine ⟨fd, (fn_con (k := 0) F S__law_ladle (w := w__law_ladle) fun cdv A outer s H E F0 m0 H0 hr => ?_).imp fun _ _ _ _ h => loc_sp h, F.bindsN fun _ _ _ _ _ _ us hl => match us, hl with | [_, _], _ => rfl, F.kp⟩
  exact (dss_cons (ds_asg2 (o_add (de_ix (hu1 hr) (vr 0) de_int) de_int) (d2_sub (hu1 hr) (vr 0) de_int))
  (dss_cons (ds_asg (k_int G.fr_int (da_cons (de_ix (hu1 hr) (vr 0) de_int) da_nil)) (gn 2 S__law_ladle.nd))
  (dss_cons (ds_asg2 (o_mod (k_int G.fr_int (da_cons (o_add (o_add (o_mul (vr 2) (o_add (o_mod (k_int G.fr_int (da_cons (vr 2) da_nil)) de_int) de_int)) (o_mul de_int (de_ix (hu1 hr) (vr 0) de_int))) de_int) da_nil)) de_int) (d2_sub (hu1 hr) (vr 0) de_int))
  (dss_cons (ds_if (t_gt (de_ix (hu1 hr) (vr 0) de_int) de_int)
  (dss_cons (ds_asg2T rfl (k_divmod G.fr_divmod (da_cons (de_ix (hu1 hr) (vr 0) de_int) (da_cons (vr 1) da_nil))) (d2s_cons (d2_sub (hu1 hr) (vr 0) de_int) (d2s_cons (gn2 3 S__law_ladle.nd) d2s_nil)))
  (dss_one (ds_ret (vr 3)))) dss_nil)
  (dss_one (ds_ret (o_mod (k_int G.fr_int (da_cons (o_fdiv (de_ix (hu1 hr) (vr 0) de_int) de_int) da_nil)) (vr 1))))))))
theorem ok__law_pick (G : Facts K mg) (F : ∃ fd, FunD K "_law_pick" "_law_pick" (defArgs s__law_pick) (defBody s__law_pick) (defScope s__law_pick) [] [] ((pG "_law_pick") K) fd) (o__law_ladle : OkF P w0 K mg base (tab K) 1 ((pG "_law_ladle") K) ["_law_urn_here", "_law_top"] c__law_ladle) : OkF P w0 K mg base (tab K) 2 ((pG "_law_pick") K) ["_law_urn_here", "_law_things"] c__law_pick := by
  obtain ⟨fd, F⟩ := F
  refine ⟨fd, (fn_con (k := 1) F S__law_pick (w := w__law_pick) fun cdv A outer s H E F0 m0 H0 hr => ?_).imp fun _ _ _ _ h => loc_sp h, F.bindsN fun _ _ _ _ _ _ us hl => match us, hl with | [_, _], _ => rfl, F.kp⟩
  exact (dss_one (ds_ret (de_ix (hu1 hr) (vr 1) (de_gc fun _ _ _ => (c_fn o__law_ladle (hr.mono (by decide)) G.gl__law_ladle (da_cons (vr 0) (da_cons (k_len G.fr_len (da_cons (vr 1) da_nil)) da_nil)))))))
theorem ok_is_name (G : Facts K mg) (F : ∃ fd, FunD K "is_name" "is_name" (defArgs s_is_name) (defBody s_is_name) (defScope s_is_name) [] [] ((pG "is_name") K) fd)  : OkF P w0 K mg base (tab K) 1 ((pG "is_name") K) ["value"] c_is_name := by
  obtain ⟨fd, F⟩ := F
  refine ⟨fd, (fn_con (k := 0) F S_is_name (w := w_is_name) fun cdv A outer s H E F0 m0 H0 hr => ?_).imp fun _ _ _ _ h => loc_sp h, F.bindsN fun _ _ _ _ _ _ us hl => match us, hl with | [_], _ => rfl, F.kp⟩
  exact (dss_one (ds_ret (de_and (k_isi G.fr_isinstance (da_cons (vr 0) (da_cons (de_bty rfl G.fr_str rfl) da_nil))) (de_and (de_chain op_lt okLt op_lt okLt de_int (k_len G.fr_len (da_cons (vr 0) da_nil)) de_int) (de_one (k_all rfl G.fr_all (da_cons (de_lc (own := false) (ow := [("sign", 1)]) rfl S_is_name.nd (di_seq (de_fz 1 (vr 0))) (blkOk_by (by kernel_rfl)) (by decide) (fun _ _ _ _ _ => (gn 1 S_is_name.nd)) (fun _ _ _ _ _ => dts_nil) (fun _ _ _ _ _ => (cmp_in (hu65 hr) (vr 1) (de_gstr rfl G.gs_LETTERS rfl)))) da_nil)))))))
theorem ok_is_integer (G : Facts K mg) (F : ∃ fd, FunD K "is_integer" "is_integer" (defArgs s_is_integer) (defBody s_is_integer) (defScope s_is_integer) [] [] ((pG "is_integer") K) fd)  : OkF P w0 K mg base (tab K) 1 ((pG "is_integer") K) ["value"] c_is_integer := by
  obtain ⟨fd, F⟩ := F
  refine ⟨fd, (fn_con (k := 0) F S_is_integer (w := w_is_integer) fun cdv A outer s H E F0 m0 H0 hr => ?_).imp fun _ _ _ _ h => loc_sp h, F.bindsN fun _ _ _ _ _ _ us hl => match us, hl with | [_], _ => rfl, F.kp⟩
  exact (dss_one (ds_ret (de_and (k_isi G.fr_isinstance (da_cons (vr 0) (da_cons (de_bty rfl G.fr_int rfl) da_nil))) (de_one (de_not (k_isi G.fr_isinstance (da_cons (vr 0) (da_cons (de_bty rfl G.fr_bool rfl) da_nil))))))))
theorem ok_is_between (G : Facts K mg) (F : ∃ fd, FunD K "is_between" "is_between" (defArgs s_is_between) (defBody s_is_between) (defScope s_is_between) [] [] ((pG "is_between") K) fd) (o_is_integer : OkF P w0 K mg base (tab K) 1 ((pG "is_integer") K) ["value"] c_is_integer) : OkF P w0 K mg base (tab K) 2 ((pG "is_between") K) ["value", "least", "most"] c_is_between := by
  obtain ⟨fd, F⟩ := F
  refine ⟨fd, (fn_con (k := 1) F S_is_between (w := w_is_between) fun cdv A outer s H E F0 m0 H0 hr => ?_).imp fun _ _ _ _ h => loc_sp h, F.bindsN fun _ _ _ _ _ _ us hl => match us, hl with | [_, _, _], _ => rfl, F.kp⟩
  exact (dss_one (ds_ret (de_and (c_fn o_is_integer (hr.mono (by decide)) G.gl_is_integer (da_cons (vr 0) da_nil)) (de_one (de_chain op_le okLe op_le okLe (vr 1) (vr 0) (vr 2))))))
theorem ok_is_garment (G : Facts K mg) (F : ∃ fd, FunD K "is_garment" "is_garment" (defArgs s_is_garment) (defBody s_is_garment) (defScope s_is_garment) [] [] ((pG "is_garment") K) fd) (o_is_name : OkF P w0 K mg base (tab K) 1 ((pG "is_name") K) ["value"] c_is_name) (o_is_between : OkF P w0 K mg base (tab K) 2 ((pG "is_between") K) ["value", "least", "most"] c_is_between) : OkF P w0 K mg base (tab K) 3 ((pG "is_garment") K) ["value"] c_is_garment := by
  obtain ⟨fd, F⟩ := F
  refine ⟨fd, (fn_con (k := 2) F S_is_garment (w := w_is_garment) fun cdv A outer s H E F0 m0 H0 hr => ?_).imp fun _ _ _ _ h => loc_sp h, F.bindsN fun _ _ _ _ _ _ us hl => match us, hl with | [_], _ => rfl, F.kp⟩
  exact (dss_cons (ds_if (DW.dt (dw_or (dt_not (dt_truth (k_isi G.fr_isinstance (da_cons (vr 0) (da_cons (de_bty rfl G.fr_tuple rfl) da_nil))))) (dw_or1 (t_ne (hu64 hr) (k_len G.fr_len (da_cons (vr 0) da_nil)) de_int))))
  (dss_one (ds_ret de_bl)) dss_nil)
  (dss_one (ds_ret (de_and (c_fn o_is_name (hr.mono (by decide)) G.gl_is_name (da_cons (de_ix (hu1 hr) (vr 0) de_int) da_nil)) (de_and (c_fn o_is_name (hr.mono (by decide)) G.gl_is_name (da_cons (de_ix (hu1 hr) (vr 0) de_int) da_nil)) (de_one (c_fn o_is_between (hr.mono (by decide)) G.gl_is_between (da_cons (de_ix (hu1 hr) (vr 0) de_int) (da_cons de_int (da_cons (de_gint rfl G.gi_MOST_WASHES) da_nil))))))))))
theorem ok_check_garments (G : Facts K mg) (F : ∃ fd, FunD K "check_garments" "check_garments" (defArgs s_check_garments) (defBody s_check_garments) (defScope s_check_garments) [] [] ((pG "check_garments") K) fd) (o_is_garment : OkF P w0 K mg base (tab K) 3 ((pG "is_garment") K) ["value"] c_is_garment) : OkF P w0 K mg base (tab K) 4 ((pG "check_garments") K) ["garments"] c_check_garments := by
  obtain ⟨fd, F⟩ := F
  refine ⟨fd, (fn_con (k := 3) F S_check_garments (w := w_check_garments) fun cdv A outer s H E F0 m0 H0 hr => ?_).imp fun _ _ _ _ h => loc_sp h, F.bindsN fun _ _ _ _ _ _ us hl => match us, hl with | [_], _ => rfl, F.kp⟩
  exact (dss_cons (ds_if (DW.dt (dw_or (dt_not (dt_truth (k_isi G.fr_isinstance (da_cons (vr 0) (da_cons (de_bty rfl G.fr_tuple rfl) da_nil))))) (dw_or1 (t_eq (hu64 hr) (k_len G.fr_len (da_cons (vr 0) da_nil)) de_int))))
  (dss_one ds_never) dss_nil)
  (dss_one (ds_for (passes_of rfl) rfl (di_enum rfl G.fr_enumerate (de_fz 1 (vr 0))) (dg_tup rfl (dgs_cons (gn 1 S_check_garments.nd) (dgs_cons (gn 2 S_check_garments.nd) dgs_nil)))
  (dss_cons (ds_if (DW.dt (dw_or (t_eq (hu64 hr) (vr 1) (de_gint rfl G.gi_MOST_GARMENTS)) (dw_or1 (dt_not (dt_truth (c_fn o_is_garment (hr.mono (by decide)) G.gl_is_garment (da_cons (vr 2) da_nil)))))))
  (dss_one ds_never) dss_nil)
  (dss_one (ds_if (t_in (hu65 hr) (de_ix (hu1 hr) (vr 2) de_int) (de_lc (own := false) (ow := [("garment", 3)]) rfl S_check_garments.nd (di_seq (de_fz 1 (de_slice (vr 0) do_none (do_some (vr 1))))) (blkOk_by (by kernel_rfl)) (by decide) (fun _ _ _ _ _ => (gn 3 S_check_garments.nd)) (fun _ _ _ _ _ => dts_nil) (fun _ _ _ _ _ => (de_ix (hu1 hr) (vr 3) de_int))))
  (dss_one ds_never) dss_nil))))))
theorem ok_parted_at (G : Facts K mg) (F : ∃ fd, FunD K "parted_at" "parted_at" (defArgs s_parted_at) (defBody s_parted_at) (defScope s_parted_at) [] [] ((pG "parted_at") K) fd)  : OkF P w0 K mg base (tab K) 1 ((pG "parted_at") K) ["words", "mark"] c_parted_at := by
  obtain ⟨fd, F⟩ := F
  refine ⟨fd, (fn_con (k := 0) F S_parted_at (w := w_parted_at) fun cdv A outer s H E F0 m0 H0 hr => ?_).imp fun _ _ _ _ h => loc_sp h, F.bindsN fun _ _ _ _ _ _ us hl => match us, hl with | [_, _], _ => rfl, F.kp⟩
  exact (dss_cons (ds_if (t_nin (hu65 hr) (vr 1) (vr 0))
  (dss_one (ds_ret (de_tup (da_cons (vr 0) (da_cons de_non da_nil))))) dss_nil)
  (dss_cons (ds_asg (m_index (hu65 hr) (vr 0) (da_cons (vr 1) da_nil)) (gn 2 S_parted_at.nd))
  (dss_one (ds_ret (de_tup (da_cons (de_slice (vr 0) do_none (do_some (vr 2))) (da_cons (de_slice (vr 0) (do_some (o_add (vr 2) de_int)) do_none) da_nil)))))))
theorem ok_dyes_in (G : Facts K mg) (F : ∃ fd, FunD K "dyes_in" "dyes_in" (defArgs s_dyes_in) (defBody s_dyes_in) (defScope s_dyes_in) [] [] ((pG "dyes_in") K) fd)  : OkF P w0 K mg base (tab K) 1 ((pG "dyes_in") K) ["garments"] c_dyes_in := by
  obtain ⟨fd, F⟩ := F
  refine ⟨fd, (fn_con (k := 0) F S_dyes_in (w := w_dyes_in) fun cdv A outer s H E F0 m0 H0 hr => ?_).imp fun _ _ _ _ h => loc_sp h, F.bindsN fun _ _ _ _ _ _ us hl => match us, hl with | [_], _ => rfl, F.kp⟩
  exact (dss_one (ds_ret (k_list false rfl G.fr_list (da_cons (k_dict false rfl G.fr_dict (da_cons (de_lc (own := false) (ow := [("garment", 1)]) rfl S_dyes_in.nd (di_seq (de_fz 1 (vr 0))) (blkOk_by (by kernel_rfl)) (by decide) (fun _ _ _ _ _ => (gn 1 S_dyes_in.nd)) (fun _ _ _ _ _ => dts_nil) (fun _ _ _ _ _ => (de_tup (da_cons (de_ix (hu1 hr) (vr 1) de_int) (da_cons de_bl da_nil))))) da_nil)) da_nil))))
theorem ok_are_different (G : Facts K mg) (F : ∃ fd, FunD K "are_different" "are_different" (defArgs s_are_different) (defBody s_are_different) (defScope s_are_different) [] [] ((pG "are_different") K) fd)  : OkF P w0 K mg base (tab K) 1 ((pG "are_different") K) ["words"] c_are_different := by
  obtain ⟨fd, F⟩ := F
  refine ⟨fd, (fn_con (k := 0) F S_are_different (w := w_are_different) fun cdv A outer s H E F0 m0 H0 hr => ?_).imp fun _ _ _ _ h => loc_sp h, F.bindsN fun _ _ _ _ _ _ us hl => match us, hl with | [_], _ => rfl, F.kp⟩
  exact (dss_one (ds_ret (k_all rfl G.fr_all (da_cons (de_lc (own := false) (ow := [("at", 1), ("word", 2)]) rfl S_are_different.nd (di_enum rfl G.fr_enumerate (de_fz 1 (vr 0))) (blkOk_by (by kernel_rfl)) (by decide) (fun _ _ _ _ _ => (dg_tup rfl (dgs_cons (gn 1 S_are_different.nd) (dgs_cons (gn 2 S_are_different.nd) dgs_nil)))) (fun _ _ _ _ _ => dts_nil) (fun _ _ _ _ _ => (cmp_eq (hu64 hr) (m_index (hu65 hr) (vr 0) (da_cons (vr 2) da_nil)) (vr 1)))) da_nil))))
theorem ok_names_in (G : Facts K mg) (F : ∃ fd, FunD K "names_in" "names_in" (defArgs s_names_in) (defBody s_names_in) (defScope s_names_in) [] [] ((pG "names_in") K) fd)  : OkF P w0 K mg base (tab K) 1 ((pG "names_in") K) ["garments"] c_names_in := by
  obtain ⟨fd, F⟩ := F
  refine ⟨fd, (fn_con (k := 0) F S_names_in (w := w_names_in) fun cdv A outer s H E F0 m0 H0 hr => ?_).imp fun _ _ _ _ h => loc_sp h, F.bindsN fun _ _ _ _ _ _ us hl => match us, hl with | [_], _ => rfl, F.kp⟩
  exact (dss_one (ds_ret (de_lc (own := false) (ow := [("garment", 1)]) rfl S_names_in.nd (di_seq (de_fz 1 (vr 0))) (blkOk_by (by kernel_rfl)) (by decide) (fun _ _ _ _ _ => (gn 1 S_names_in.nd)) (fun _ _ _ _ _ => dts_nil) (fun _ _ _ _ _ => (de_ix (hu1 hr) (vr 1) de_int)))))
theorem ok_wash_in (G : Facts K mg) (F : ∃ fd, FunD K "wash_in" "wash_in" (defArgs s_wash_in) (defBody s_wash_in) (defScope s_wash_in) [] [] ((pG "wash_in") K) fd) (o_parted_at : OkF P w0 K mg base (tab K) 1 ((pG "parted_at") K) ["words", "mark"] c_parted_at) (o_dyes_in : OkF P w0 K mg base (tab K) 1 ((pG "dyes_in") K) ["garments"] c_dyes_in) (o_are_different : OkF P w0 K mg base (tab K) 1 ((pG "are_different") K) ["words"] c_are_different) (o_names_in : OkF P w0 K mg base (tab K) 1 ((pG "names_in") K) ["garments"] c_names_in) : OkF P w0 K mg base (tab K) 2 ((pG "wash_in") K) ["garments", "words"] c_wash_in := by
  obtain ⟨fd, F⟩ := F
  refine ⟨fd, (fn_con (k := 1) F S_wash_in (w := w_wash_in) fun cdv A outer s H E F0 m0 H0 hr => ?_).imp fun _ _ _ _ h => loc_sp h, F.bindsN fun _ _ _ _ _ _ us hl => match us, hl with | [_, _], _ => rfl, F.kp⟩
  exact (dss_cons (ds_asg (c_fn o_parted_at (hr.mono (by decide)) G.gl_parted_at (da_cons (vr 1) (da_cons (de_gstr rfl G.gs_SKIPPED rfl) da_nil))) (dg_tup rfl (dgs_cons (gn 2 S_wash_in.nd) (dgs_cons (gn 3 S_wash_in.nd) dgs_nil))))
  (dss_cons (ds_asg (c_fn o_parted_at (hr.mono (by decide)) G.gl_parted_at (da_cons (vr 2) (da_cons (de_gstr rfl G.gs_SEEN rfl) da_nil))) (dg_tup rfl (dgs_cons (gn 4 S_wash_in.nd) (dgs_cons (gn 5 S_wash_in.nd) dgs_nil))))
  (dss_cons (ds_asg (o_add (de_or (vr 5) (de_one (de_lst da_nil))) (de_or (vr 3) (de_one (de_lst da_nil)))) (gn 6 S_wash_in.nd))
  (dss_cons (ds_asg (c_fn o_dyes_in (hr.mono (by decide)) G.gl_dyes_in (da_cons (de_lc (own := false) (ow := [("garment", 9)]) rfl S_wash_in.nd (di_seq (de_fz 1 (vr 0))) (blkOk_by (by kernel_rfl)) (by decide) (fun _ _ _ _ _ => (gn 9 S_wash_in.nd)) (fun _ _ _ _ _ => (dts_one (t_in (hu65 hr) (de_ix (hu1 hr) (vr 9) de_int) (vr 4)))) (fun _ _ _ _ _ => (vr 9))) da_nil)) (gn 7 S_wash_in.nd))
  (dss_cons (ds_if (DW.dt (dw_or (t_eq (hu64 hr) (vr 4) (de_lst da_nil)) (dw_or (t_eq (hu64 hr) (vr 5) (de_lst da_nil)) (dw_or (t_eq (hu64 hr) (vr 3) (de_lst da_nil)) (dw_or (dt_not (dt_truth (c_fn o_are_different (hr.mono (by decide)) G.gl_are_different (da_cons (vr 4) da_nil)))) (dw_or1 (dt_not (dt_truth (c_fn o_are_different (hr.mono (by decide)) G.gl_are_different (da_cons (vr 6) da_nil))))))))))
  (dss_one (ds_ret de_non)) dss_nil)
  (dss_cons (ds_if (DW.dt (dw_or (dt_not (dt_truth (k_all rfl G.fr_all (da_cons (de_lc (own := false) (ow := [("name", 10)]) rfl S_wash_in.nd (di_seq (de_fz 1 (vr 4))) (blkOk_by (by kernel_rfl)) (by decide) (fun _ _ _ _ _ => (gn 10 S_wash_in.nd)) (fun _ _ _ _ _ => dts_nil) (fun _ _ _ _ _ => (cmp_in (hu65 hr) (vr 10) (c_fn o_names_in (hr.mono (by decide)) G.gl_names_in (da_cons (vr 0) da_nil))))) da_nil)))) (dw_or1 (dt_not (dt_truth (k_all rfl G.fr_all (da_cons (de_lc (own := false) (ow := [("dye", 11)]) rfl S_wash_in.nd (di_seq (de_fz 1 (vr 6))) (blkOk_by (by kernel_rfl)) (by decide) (fun _ _ _ _ _ => (gn 11 S_wash_in.nd)) (fun _ _ _ _ _ => dts_nil) (fun _ _ _ _ _ => (cmp_in (hu65 hr) (vr 11) (vr 7)))) da_nil)))))))
  (dss_one (ds_ret de_non)) dss_nil)
  (dss_cons (ds_setLc (i := 8) (own := false) (ow := [("dye", 11)]) rfl S_wash_in.nd (di_seq (de_fz 1 (c_fn o_dyes_in (hr.mono (by decide)) G.gl_dyes_in (da_cons (vr 0) da_nil)))) (blkOk_by (by kernel_rfl)) (by decide) (fun _ _ _ _ _ => (gn 11 S_wash_in.nd)) (fun _ _ _ _ _ => (dts_one (DW.dt (dw_and (t_in (hu65 hr) (vr 11) (vr 7)) (dw_and1 (t_nin (hu65 hr) (vr 11) (de_or (vr 3) (de_one (de_lst da_nil))))))))) (fun _ _ _ _ _ => (vr 11)))
  (dss_one (ds_ret (de_tup (da_cons (de_gstr rfl G.gs_WASH rfl) (da_cons (k_tuple G.fr_tuple (da_cons (vr 4) da_nil)) (da_cons (k_tuple G.fr_tuple (da_cons (de_lc (own := false) (ow := [("dye", 11)]) rfl S_wash_in.nd (di_seq (de_fz 1 (vr 8))) (blkOk_by (by kernel_rfl)) (by decide) (fun _ _ _ _ _ => (gn 11 S_wash_in.nd)) (fun _ _ _ _ _ => dts_nil) (fun _ _ _ _ _ => (de_tup (da_cons (vr 11) (da_cons (cmp_in (hu65 hr) (vr 11) (de_or (vr 5) (de_one (de_lst da_nil)))) da_nil))))) da_nil)) da_nil)))))))))))))
theorem ok_entry_in (G : Facts K mg) (F : ∃ fd, FunD K "entry_in" "entry_in" (defArgs s_entry_in) (defBody s_entry_in) (defScope s_entry_in) [] [] ((pG "entry_in") K) fd) (o_wash_in : OkF P w0 K mg base (tab K) 2 ((pG "wash_in") K) ["garments", "words"] c_wash_in) (o_names_in : OkF P w0 K mg base (tab K) 1 ((pG "names_in") K) ["garments"] c_names_in) : OkF P w0 K mg base (tab K) 3 ((pG "entry_in") K) ["garments", "line"] c_entry_in := by
  obtain ⟨fd, F⟩ := F
  refine ⟨fd, (fn_con (k := 2) F S_entry_in (w := w_entry_in) fun cdv A outer s H E F0 m0 H0 hr => ?_).imp fun _ _ _ _ h => loc_sp h, F.bindsN fun _ _ _ _ _ _ us hl => match us, hl with | [_, _], _ => rfl, F.kp⟩
  exact (dss_cons (ds_asg (de_if (dt_truth (k_isi G.fr_isinstance (da_cons (vr 1) (da_cons (de_bty rfl G.fr_str rfl) da_nil)))) (m_split false (vr 1) (da_cons (de_str rfl) da_nil)) (de_lst (da_cons (de_str rfl) da_nil))) (gn 2 S_entry_in.nd))
  (dss_cons (ds_if (t_eq (hu64 hr) (de_ix (hu1 hr) (vr 2) de_int) (de_gstr rfl G.gs_WASH rfl))
  (dss_one (ds_ret (c_fn o_wash_in (hr.mono (by decide)) G.gl_wash_in (da_cons (vr 0) (da_cons (de_slice (vr 2) (do_some de_int) do_none) da_nil))))) dss_nil)
  (dss_cons (ds_if (DW.dt (dw_and (t_eq (hu64 hr) (de_ix (hu1 hr) (vr 2) de_int) (de_gstr rfl G.gs_RENEW rfl)) (dw_and (t_eq (hu64 hr) (k_len G.fr_len (da_cons (vr 2) da_nil)) de_int) (dw_and1 (t_in (hu65 hr) (de_ix (hu1 hr) (vr 2) de_int) (c_fn o_names_in (hr.mono (by decide)) G.gl_names_in (da_cons (vr 0) da_nil)))))))
  (dss_one (ds_ret (de_tup (da_cons (de_gstr rfl G.gs_RENEW rfl) (da_cons (de_tup (da_cons (de_ix (hu1 hr) (vr 2) de_int) da_nil)) (da_cons (de_tup da_nil) da_nil)))))) dss_nil)
  (dss_one (ds_ret de_non)))))
theorem ok_check_lines (G : Facts K mg) (F : ∃ fd, FunD K "check_lines" "check_lines" (defArgs s_check_lines) (defBody s_check_lines) (defScope s_check_lines) [] [] ((pG "check_lines") K) fd) (o_entry_in : OkF P w0 K mg base (tab K) 3 ((pG "entry_in") K) ["garments", "line"] c_entry_in) : OkF P w0 K mg base (tab K) 4 ((pG "check_lines") K) ["garments", "lines"] c_check_lines := by
  obtain ⟨fd, F⟩ := F
  refine ⟨fd, (fn_con (k := 3) F S_check_lines (w := w_check_lines) fun cdv A outer s H E F0 m0 H0 hr => ?_).imp fun _ _ _ _ h => loc_sp h, F.bindsN fun _ _ _ _ _ _ us hl => match us, hl with | [_, _], _ => rfl, F.kp⟩
  exact (dss_cons (ds_if (dt_not (dt_truth (k_isi G.fr_isinstance (da_cons (vr 1) (da_cons (de_bty rfl G.fr_tuple rfl) da_nil)))))
  (dss_one ds_never) dss_nil)
  (dss_one (ds_for (passes_of rfl) rfl (di_enum rfl G.fr_enumerate (de_fz 1 (vr 1))) (dg_tup rfl (dgs_cons (gn 2 S_check_lines.nd) (dgs_cons (gn 3 S_check_lines.nd) dgs_nil)))
  (dss_one (ds_if (DW.dt (dw_or (t_eq (hu64 hr) (vr 2) (de_gint rfl G.gi_MOST_LINES)) (dw_or1 (t_is (c_fn o_entry_in (hr.mono (by decide)) G.gl_entry_in (da_cons (vr 0) (da_cons (vr 3) da_nil))) de_non))))
  (dss_one ds_never) dss_nil)))))
theorem ok_Walk_wash (G : Facts K mg) (F : ∃ fd, FunD K "wash" "Walk.wash" (defArgs s_Walk_wash) (defBody s_Walk_wash) (defScope s_Walk_wash) [] [] ((pM "Walk" "wash") K) fd)  : OkF P w0 K mg base (tab K) 1 ((pM "Walk" "wash") K) ["self", "garments", "index", "lives", "looks"] c_Walk_wash := by
  obtain ⟨fd, F⟩ := F
  refine ⟨fd, (fn_con (k := 0) F S_Walk_wash (w := w_Walk_wash) fun cdv A outer s H E F0 m0 H0 hr => ?_).imp fun _ _ _ _ h => loc_sp h, F.bindsN fun _ _ _ _ _ _ us hl => match us, hl with | [_, _, _, _, _], _ => rfl, F.kp⟩
  exact (dss_cons (ds_for (passes_of rfl) rfl (di_seq (de_fz 1 (vr 3))) (gn 5 S_Walk_wash.nd)
  (dss_one (ds_augS (hu1 hr) ip_add (de_fld G.fl_Walk_tally_row (vr 0)) (vr 5) de_int)))
  (dss_cons (ds_asg (k_tuple G.fr_tuple (da_cons (de_lc (own := false) (ow := [("life", 5)]) rfl S_Walk_wash.nd (di_seq (de_fz 1 (vr 3))) (blkOk_by (by kernel_rfl)) (by decide) (fun _ _ _ _ _ => (gn 5 S_Walk_wash.nd)) (fun _ _ _ _ _ => dts_nil) (fun _ _ _ _ _ => (de_tup (da_cons (vr 5) (da_cons (de_ix (hu1 hr) (de_fld G.fl_Walk_tally_row (vr 0)) (vr 5)) da_nil))))) da_nil)) (gn 6 S_Walk_wash.nd))
  (dss_cons (ds_expr (m_append (de_fld G.fl_Walk_load_rows (vr 0)) (da_cons (vr 6) da_nil)))
  (dss_one (ds_for (passes_of rfl) rfl (di_seq (de_fz 1 (vr 4))) (dg_tup rfl (dgs_cons (gn 7 S_Walk_wash.nd) (dgs_cons (gn 8 S_Walk_wash.nd) dgs_nil)))
  (dss_cons (ds_expr (m_append (de_fld G.fl_Walk_look_rows (vr 0)) (da_cons (de_tup (da_cons (vr 2) (da_cons (vr 7) (da_cons (vr 8) da_nil)))) da_nil)))
  (dss_one (ds_expr (m_append (de_fld G.fl_Walk_span_rows (vr 0)) (da_cons (k_ptuple G.fr_tuple (da_cons (de_lc (own := false) (ow := [("pair", 9)]) rfl S_Walk_wash.nd (di_seq (de_fz 1 (vr 6))) (blkOk_by (by kernel_rfl)) (by decide) (fun _ _ _ _ _ => (gn 9 S_Walk_wash.nd)) (fun _ _ _ _ _ => (dts_one (t_eq (hu64 hr) (de_ix (hu1 hr) (de_ix (hu1 hr) (vr 1) (de_ix (hu1 hr) (de_fld G.fl_Walk_owners (vr 0)) (de_ix (hu1 hr) (vr 9) de_int))) de_int) (vr 7)))) (fun _ _ _ _ _ => (vr 9))) da_nil)) da_nil))))))))))
theorem ok_Walk_go (G : Facts K mg) (F : ∃ fd, FunD K "go" "Walk.go" (defArgs s_Walk_go) (defBody s_Walk_go) (defScope s_Walk_go) [] [] ((pM "Walk" "go") K) fd) (o_names_in : OkF P w0 K mg base (tab K) 1 ((pG "names_in") K) ["garments"] c_names_in) (o_Walk_wash : OkF P w0 K mg base (tab K) 1 ((pM "Walk" "wash") K) ["self", "garments", "index", "lives", "looks"] c_Walk_wash) : OkF P w0 K mg base (tab K) 2 ((pM "Walk" "go") K) ["self", "garments", "entries"] c_Walk_go := by
  obtain ⟨fd, F⟩ := F
  refine ⟨fd, (fn_con (k := 1) F S_Walk_go (w := w_Walk_go) fun cdv A outer s H E F0 m0 H0 hr => ?_).imp fun _ _ _ _ h => loc_sp h, F.bindsN fun _ _ _ _ _ _ us hl => match us, hl with | [_, _, _], _ => rfl, F.kp⟩
  exact (dss_cons (ds_asg (k_dict true rfl G.fr_dict (da_cons (de_lc (own := false) (ow := [("name", 8)]) rfl S_Walk_go.nd (di_seq (de_fz 1 (c_fn o_names_in (hr.mono (by decide)) G.gl_names_in (da_cons (vr 1) da_nil)))) (blkOk_by (by kernel_rfl)) (by decide) (fun _ _ _ _ _ => (gn 8 S_Walk_go.nd)) (fun _ _ _ _ _ => dts_nil) (fun _ _ _ _ _ => (de_tup (da_cons (vr 8) (da_cons (m_index (hu65 hr) (de_fld G.fl_Walk_life_rows (vr 0)) (da_cons (de_tup (da_cons (vr 8) (da_cons de_int da_nil))) da_nil)) da_nil))))) da_nil)) (gn 3 S_Walk_go.nd))
  (dss_one (ds_for (passes_of rfl) rfl (di_enum rfl G.fr_enumerate (de_fz 1 (vr 2))) (dg_tup rfl (dgs_cons (gn 4 S_Walk_go.nd) (dgs_cons (dg_tup rfl (dgs_cons (gn 5 S_Walk_go.nd) (dgs_cons (gn 6 S_Walk_go.nd) (dgs_cons (gn 7 S_Walk_go.nd) dgs_nil)))) dgs_nil)))
  (dss_one (ds_if (t_eq (hu64 hr) (vr 5) (de_gstr rfl G.gs_RENEW rfl))
  (dss_cons (ds_augS (hu1 hr) ip_add (vr 3) (de_ix (hu1 hr) (vr 6) de_int) de_int)
  (dss_one (ds_expr (m_append (de_fld G.fl_Walk_load_rows (vr 0)) (da_cons (de_tup da_nil) da_nil))))) (dss_one (ds_expr (c_me o_Walk_wash G.mf_Walk_wash (hr.mono (by decide)) (vr 0) (da_cons (vr 1) (da_cons (vr 4) (da_cons (k_sorted false G.fr_sorted (da_cons (de_lc (own := false) (ow := [("name", 8)]) rfl S_Walk_go.nd (di_seq (de_fz 1 (vr 6))) (blkOk_by (by kernel_rfl)) (by decide) (fun _ _ _ _ _ => (gn 8 S_Walk_go.nd)) (fun _ _ _ _ _ => dts_nil) (fun _ _ _ _ _ => (de_ix (hu1 hr) (vr 3) (vr 8)))) da_nil)) (da_cons (vr 7) da_nil))))))))))))
theorem ok_Walk_init (G : Facts K mg) (F : ∃ fd, FunD K "__init__" "Walk.__init__" (defArgs s_Walk_init) (defBody s_Walk_init) (defScope s_Walk_init) [] [] ((pM "Walk" "__init__") K) fd) (o_Walk_go : OkF P w0 K mg base (tab K) 2 ((pM "Walk" "go") K) ["self", "garments", "entries"] c_Walk_go) : OkF P w0 K mg base (tab K) 3 ((pM "Walk" "__init__") K) ["self", "garments", "entries"] c_Walk_init := by
  obtain ⟨fd, F⟩ := F
  refine ⟨fd, (fn_con (k := 2) F S_Walk_init (w := w_Walk_init) fun cdv A outer s H E F0 m0 H0 hr => ?_).imp fun _ _ _ _ h => loc_sp h, F.bindsN fun _ _ _ _ _ _ us hl => match us, hl with | [_, _, _], _ => rfl, F.kp⟩
  exact (dss_cons (ds_fld G.fl_Walk_owners (vr 0) (de_lstO da_nil))
  (dss_cons (ds_fld G.fl_Walk_life_rows (vr 0) (de_lstO da_nil))
  (dss_cons (ds_for (passes_of rfl) rfl (di_enum rfl G.fr_enumerate (de_fz 1 (vr 1))) (dg_tup rfl (dgs_cons (gn 3 S_Walk_init.nd) (dgs_cons (gn 4 S_Walk_init.nd) dgs_nil)))
  (dss_cons (ds_asg (k_len G.fr_len (da_cons (de_lc (own := false) (ow := [("entry", 6)]) rfl S_Walk_init.nd (di_seq (de_fz 1 (vr 2))) (blkOk_by (by kernel_rfl)) (by decide) (fun _ _ _ _ _ => (gn 6 S_Walk_init.nd)) (fun _ _ _ _ _ => (dts_one (DW.dt (dw_and (t_eq (hu64 hr) (de_ix (hu1 hr) (vr 6) de_int) (de_gstr rfl G.gs_RENEW rfl)) (dw_and1 (t_eq (hu64 hr) (de_ix (hu1 hr) (vr 6) de_int) (de_tup (da_cons (de_ix (hu1 hr) (vr 4) de_int) da_nil)))))))) (fun _ _ _ _ _ => (vr 6))) da_nil)) (gn 5 S_Walk_init.nd))
  (dss_cons (ds_fldaug G.fl_Walk_owners (vr 0) (o_mul (de_lst (da_cons (vr 3) da_nil)) (o_add (vr 5) de_int)))
  (dss_one (ds_fldaug G.fl_Walk_life_rows (vr 0) (de_lc (own := false) (ow := [("turn", 7)]) rfl S_Walk_init.nd (di_range1 rfl G.fr_range (o_add (vr 5) de_int)) (blkOk_by (by kernel_rfl)) (by decide) (fun _ _ _ _ _ => (gn 7 S_Walk_init.nd)) (fun _ _ _ _ _ => dts_nil) (fun _ _ _ _ _ => (de_tup (da_cons (de_ix (hu1 hr) (vr 4) de_int) (da_cons (vr 7) da_nil))))))))))
  (dss_cons (ds_fld G.fl_Walk_tally_row (vr 0) (de_mulO (de_lst (da_cons de_int da_nil)) (k_len G.fr_len (da_cons (de_fld G.fl_Walk_life_rows (vr 0)) da_nil))))
  (dss_cons (ds_fld G.fl_Walk_load_rows (vr 0) (de_lstO da_nil))
  (dss_cons (ds_fld G.fl_Walk_look_rows (vr 0) (de_lstO da_nil))
  (dss_cons (ds_fld G.fl_Walk_span_rows (vr 0) (de_lstO da_nil))
  (dss_one (ds_expr (c_me o_Walk_go G.mf_Walk_go (hr.mono (by decide)) (vr 0) (da_cons (vr 1) (da_cons (vr 2) da_nil))))))))))))
theorem ok_Book_init {dv_Book_init : List V} (hdv : dv_Book_init.length = 1) (G : Facts K mg) (F : ∃ fd, FunD K "__init__" "Book.__init__" (defArgs s_Book_init) (defBody s_Book_init) (defScope s_Book_init) dv_Book_init [] ((pM "Book" "__init__") K) fd) (o_check_garments : OkF P w0 K mg base (tab K) 4 ((pG "check_garments") K) ["garments"] c_check_garments) (o_check_lines : OkF P w0 K mg base (tab K) 4 ((pG "check_lines") K) ["garments", "lines"] c_check_lines) (o_entry_in : OkF P w0 K mg base (tab K) 3 ((pG "entry_in") K) ["garments", "line"] c_entry_in) (o_Walk_init : OkF P w0 K mg base (tab K) 3 ((pM "Walk" "__init__") K) ["self", "garments", "entries"] c_Walk_init) : OkF P w0 K mg base (tab K) 5 ((pM "Book" "__init__") K) ["self", "garments", "lines"] c_Book_init := by
  obtain ⟨fd, F⟩ := F
  have bb : Binds K fd ["self", "garments", "lines"] [] := by
    obtain ⟨ds, v, bb⟩ := F.binds1 (ps := ["self", "garments", "lines"]) 3 1 (fun e => by rw [e] at hdv; cases hdv) (by rw [hdv] <;> rfl) fun _ _ _ _ _ _ _ us its hl h2 => match us, hl, its, h2.trans hdv with | [_, _, _], _, [_], _ => ⟨_, rfl, rfl⟩
    have e : dv_Book_init.drop 1 = [] := List.drop_eq_nil_of_le (by omega)
    rw [e] at v
    cases v
    exact bb
  refine ⟨fd, (fn_con (k := 4) F S_Book_init (w := w_Book_init) fun cdv A outer s H E F0 m0 H0 hr => ?_).imp fun _ _ _ _ h => loc_sp h, bb, F.kp⟩
  exact (dss_cons (ds_expr (c_fn o_check_garments (hr.mono (by decide)) G.gl_check_garments (da_cons (vr 1) da_nil)))
  (dss_cons (ds_expr (c_fn o_check_lines (hr.mono (by decide)) G.gl_check_lines (da_cons (vr 1) (da_cons (vr 2) da_nil))))
  (dss_cons (ds_fld G.fl_Book_clothes (vr 0) (vr 1))
  (dss_cons (ds_fld G.fl_Book_told (vr 0) (vr 2))
  (dss_cons (ds_fld G.fl_Book_parsed (vr 0) (k_tuple G.fr_tuple (da_cons (de_lc (own := false) (ow := [("line", 3)]) rfl S_Book_init.nd (di_seq (de_fz 1 (vr 2))) (blkOk_by (by kernel_rfl)) (by decide) (fun _ _ _ _ _ => (gn 3 S_Book_init.nd)) (fun _ _ _ _ _ => dts_nil) (fun _ _ _ _ _ => (c_fn o_entry_in (hr.mono (by decide)) G.gl_entry_in (da_cons (vr 1) (da_cons (vr 3) da_nil))))) da_nil)))
  (dss_one (ds_fld G.fl_Book_walk (vr 0) (c_mk o_Walk_init G.mk_Walk (hr.mono (by decide)) G.gl_Walk (da_cons (vr 1) (da_cons (de_fld G.fl_Book_parsed (vr 0)) da_nil))))))))))
theorem ok_check_book (G : Facts K mg) (F : ∃ fd, FunD K "check_book" "check_book" (defArgs s_check_book) (defBody s_check_book) (defScope s_check_book) [] [] ((pG "check_book") K) fd)  : OkF P w0 K mg base (tab K) 1 ((pG "check_book") K) ["value"] c_check_book := by
  obtain ⟨fd, F⟩ := F
  refine ⟨fd, (fn_con (k := 0) F S_check_book (w := w_check_book) fun cdv A outer s H E F0 m0 H0 hr => ?_).imp fun _ _ _ _ h => loc_sp h, F.bindsN fun _ _ _ _ _ _ us hl => match us, hl with | [_], _ => rfl, F.kp⟩
  exact (dss_one (ds_if (dt_not (dt_truth (k_isiC (cn := 0) (fIsi_ok rfl G.cl_Book G.is_Book) G.fr_isinstance (da_cons (vr 0) (da_cons (de_gcls rfl G.gl_Book) da_nil)))))
  (dss_one ds_never) dss_nil))
theorem ok_Book_garments (G : Facts K mg) (F : ∃ fd, FunD K "garments" "Book.garments" (defArgs s_Book_garments) (defBody s_Book_garments) (defScope s_Book_garments) [] [] ((pP "Book" "garments") K) fd)  : OkF P w0 K mg base (tab K) 1 ((pP "Book" "garments") K) ["self"] c_Book_garments := by
  obtain ⟨fd, F⟩ := F
  refine ⟨fd, (fn_con (k := 0) F S_Book_garments (w := w_Book_garments) fun cdv A outer s H E F0 m0 H0 hr => ?_).imp fun _ _ _ _ h => loc_sp h, F.bindsN fun _ _ _ _ _ _ us hl => match us, hl with | [_], _ => rfl, F.kp⟩
  exact (dss_one (ds_ret (de_fld G.fl_Book_clothes (vr 0))))
theorem ok_has_name (G : Facts K mg) (F : ∃ fd, FunD K "has_name" "has_name" (defArgs s_has_name) (defBody s_has_name) (defScope s_has_name) [] [] ((pG "has_name") K) fd) (o_names_in : OkF P w0 K mg base (tab K) 1 ((pG "names_in") K) ["garments"] c_names_in) (o_Book_garments : OkF P w0 K mg base (tab K) 1 ((pP "Book" "garments") K) ["self"] c_Book_garments) : OkF P w0 K mg base (tab K) 3 ((pG "has_name") K) ["book", "value"] c_has_name := by
  obtain ⟨fd, F⟩ := F
  refine ⟨fd, (fn_con (k := 2) F S_has_name (w := w_has_name) fun cdv A outer s H E F0 m0 H0 hr => ?_).imp fun _ _ _ _ h => loc_sp h, F.bindsN fun _ _ _ _ _ _ us hl => match us, hl with | [_, _], _ => rfl, F.kp⟩
  exact (dss_one (ds_ret (cmp_in (hu65 hr) (vr 1) (c_fn o_names_in (hr.mono (by decide)) G.gl_names_in (da_cons (c_pr o_Book_garments ⟨G.cl_Book, G.pr_Book_garments⟩ (hr.mono (by decide)) (vr 0)) da_nil)))))
theorem ok_check_load (G : Facts K mg) (F : ∃ fd, FunD K "check_load" "check_load" (defArgs s_check_load) (defBody s_check_load) (defScope s_check_load) [] [] ((pG "check_load") K) fd) (o_has_name : OkF P w0 K mg base (tab K) 3 ((pG "has_name") K) ["book", "value"] c_has_name) : OkF P w0 K mg base (tab K) 4 ((pG "check_load") K) ["book", "value"] c_check_load := by
  obtain ⟨fd, F⟩ := F
  refine ⟨fd, (fn_con (k := 3) F S_check_load (w := w_check_load) fun cdv A outer s H E F0 m0 H0 hr => ?_).imp fun _ _ _ _ h => loc_sp h, F.bindsN fun _ _ _ _ _ _ us hl => match us, hl with | [_, _], _ => rfl, F.kp⟩
  exact (dss_cons (ds_if (DW.dt (dw_or (dt_not (dt_truth (k_isi G.fr_isinstance (da_cons (vr 1) (da_cons (de_bty rfl G.fr_tuple rfl) da_nil))))) (dw_or1 (t_eq (hu64 hr) (k_len G.fr_len (da_cons (vr 1) da_nil)) de_int))))
  (dss_one ds_never) dss_nil)
  (dss_one (ds_for (passes_of rfl) rfl (di_enum rfl G.fr_enumerate (de_fz 1 (vr 1))) (dg_tup rfl (dgs_cons (gn 2 S_check_load.nd) (dgs_cons (gn 3 S_check_load.nd) dgs_nil)))
  (dss_one (ds_if (DW.dt (dw_or (dt_not (dt_truth (c_fn o_has_name (hr.mono (by decide)) G.gl_has_name (da_cons (vr 0) (da_cons (vr 3) da_nil))))) (dw_or1 (t_in (hu65 hr) (vr 3) (de_slice (vr 1) do_none (do_some (vr 2)))))))
  (dss_one ds_never) dss_nil)))))
theorem ok_Book_looks (G : Facts K mg) (F : ∃ fd, FunD K "looks" "Book.looks" (defArgs s_Book_looks) (defBody s_Book_looks) (defScope s_Book_looks) [] [] ((pP "Book" "looks") K) fd)  : OkF P w0 K mg base (tab K) 1 ((pP "Book" "looks") K) ["self"] c_Book_looks := by
  obtain ⟨fd, F⟩ := F
  refine ⟨fd, (fn_con (k := 0) F S_Book_looks (w := w_Book_looks) fun cdv A outer s H E F0 m0 H0 hr => ?_).imp fun _ _ _ _ h => loc_sp h, F.bindsN fun _ _ _ _ _ _ us hl => match us, hl with | [_], _ => rfl, F.kp⟩
  exact (dss_one (ds_ret (k_tuple G.fr_tuple (da_cons (de_fld G.fl_Walk_look_rows (de_fld G.fl_Book_walk (vr 0))) da_nil))))
theorem ok_Book_spans (G : Facts K mg) (F : ∃ fd, FunD K "spans" "Book.spans" (defArgs s_Book_spans) (defBody s_Book_spans) (defScope s_Book_spans) [] [] ((pP "Book" "spans") K) fd)  : OkF P w0 K mg base (tab K) 1 ((pP "Book" "spans") K) ["self"] c_Book_spans := by
  obtain ⟨fd, F⟩ := F
  refine ⟨fd, (fn_con (k := 0) F S_Book_spans (w := w_Book_spans) fun cdv A outer s H E F0 m0 H0 hr => ?_).imp fun _ _ _ _ h => loc_sp h, F.bindsN fun _ _ _ _ _ _ us hl => match us, hl with | [_], _ => rfl, F.kp⟩
  exact (dss_one (ds_ret (k_tuple G.fr_tuple (da_cons (de_fld G.fl_Walk_span_rows (de_fld G.fl_Book_walk (vr 0))) da_nil))))
theorem ok_fits_tops {dv_fits_tops : List V} (hdv : dv_fits_tops.length = 1) (G : Facts K mg) (F : ∃ fd, FunD K "fits_tops" "fits_tops" (defArgs s_fits_tops) (defBody s_fits_tops) (defScope s_fits_tops) dv_fits_tops [] ((pG "fits_tops") K) fd) (o_Book_looks : OkF P w0 K mg base (tab K) 1 ((pP "Book" "looks") K) ["self"] c_Book_looks) (o_Book_spans : OkF P w0 K mg base (tab K) 1 ((pP "Book" "spans") K) ["self"] c_Book_spans) : OkF P w0 K mg base (tab K) 3 ((pG "fits_tops") K) ["book", "greatest", "skipped"] c_fits_tops := by
  obtain ⟨fd, F⟩ := F
  have bb : Binds K fd ["book", "greatest", "skipped"] [] := by
    obtain ⟨ds, v, bb⟩ := F.binds1 (ps := ["book", "greatest", "skipped"]) 3 1 (fun e => by rw [e] at hdv; cases hdv) (by rw [hdv] <;> rfl) fun _ _ _ _ _ _ _ us its hl h2 => match us, hl, its, h2.trans hdv with | [_, _, _], _, [_], _ => ⟨_, rfl, rfl⟩
    have e : dv_fits_tops.drop 1 = [] := List.drop_eq_nil_of_le (by omega)
    rw [e] at v
    cases v
    exact bb
  refine ⟨fd, (fn_con (k := 2) F S_fits_tops (w := w_fits_tops) fun cdv A outer s H E F0 m0 H0 hr => ?_).imp fun _ _ _ _ h => loc_sp h, bb, F.kp⟩
  exact (dss_cons (ds_for (passes_of rfl) rfl (di_enum rfl G.fr_enumerate (de_fz 1 (c_pr o_Book_looks ⟨G.cl_Book, G.pr_Book_looks⟩ (hr.mono (by decide)) (vr 0)))) (dg_tup rfl (dgs_cons (gn 3 S_fits_tops.nd) (dgs_cons (gn 4 S_fits_tops.nd) dgs_nil)))
  (dss_cons (ds_asg (de_and (de_ix (hu1 hr) (vr 4) de_int) (de_one (cmp_nin (hu65 hr) (vr 3) (vr 2)))) (gn 5 S_fits_tops.nd))
  (dss_one (ds_if (DW.dt (dw_and (dt_truth (vr 5)) (dw_and1 (dt_not (dt_truth (k_any rfl G.fr_any (da_cons (de_lc (own := false) (ow := [("life", 6), ("number", 7)]) rfl S_fits_tops.nd (di_seq (de_fz 1 (de_ix (hu1 hr) (c_pr o_Book_spans ⟨G.cl_Book, G.pr_Book_spans⟩ (hr.mono (by decide)) (vr 0)) (vr 3)))) (blkOk_by (by kernel_rfl)) (by decide) (fun _ _ _ _ _ => (dg_tup rfl (dgs_cons (gn 6 S_fits_tops.nd) (dgs_cons (gn 7 S_fits_tops.nd) dgs_nil)))) (fun _ _ _ _ _ => dts_nil) (fun _ _ _ _ _ => (cmp_le (vr 7) (de_ix (hu1 hr) (vr 1) (vr 6))))) da_nil)))))))
  (dss_one (ds_ret de_bl)) dss_nil))))
  (dss_one (ds_ret de_bl)))
theorem okd_fits_tops (G : Facts K mg) (F : ∃ fd, FunD K "fits_tops" "fits_tops" (defArgs s_fits_tops) (defBody s_fits_tops) (defScope s_fits_tops) [.ref (He.dflAt ("fits_tops", none) 0 K)] [] ((pG "fits_tops") K) fd) (o_Book_looks : OkF P w0 K mg base (tab K) 1 ((pP "Book" "looks") K) ["self"] c_Book_looks) (o_Book_spans : OkF P w0 K mg base (tab K) 1 ((pP "Book" "spans") K) ["self"] c_Book_spans) : OkFd P w0 K mg base (tab K) 3 ((pG "fits_tops") K) ["book", "greatest", "skipped"] [.tup []] c_fits_tops := by
  obtain ⟨fd, F⟩ := F
  have bb : ∃ ds, Vals [V.ref (He.dflAt ("fits_tops", none) 0 K)] ds ∧ Binds K fd ["book", "greatest", "skipped"] ds := by
    obtain ⟨ds, v, bb⟩ := F.binds1 (ps := ["book", "greatest", "skipped"]) 2 0 (fun e => by cases e) (by rfl) fun _ _ _ _ _ _ _ us its hl h2 => match us, hl, its, h2 with | [_, _], _, [_], _ => ⟨_, rfl, rfl⟩
    exact ⟨ds, v, bb⟩
  obtain ⟨ds, v, bb⟩ := bb
  refine ⟨fd, ds, _, (fn_con (k := 2) F S_fits_tops (w := w_fits_tops) fun cdv A outer s H E F0 m0 H0 hr => ?_).imp fun _ _ _ _ h => loc_sp h, bb, v, fun F m => .cons (emB_ok G.em_fits_tops F m) .nil, F.kp⟩
  exact (dss_cons (ds_for (passes_of rfl) rfl (di_enum rfl G.fr_enumerate (de_fz 1 (c_pr o_Book_looks ⟨G.cl_Book, G.pr_Book_looks⟩ (hr.mono (by decide)) (vr 0)))) (dg_tup rfl (dgs_cons (gn 3 S_fits_tops.nd) (dgs_cons (gn 4 S_fits_tops.nd) dgs_nil)))
  (dss_cons (ds_asg (de_and (de_ix (hu1 hr) (vr 4) de_int) (de_one (cmp_nin (hu65 hr) (vr 3) (vr 2)))) (gn 5 S_fits_tops.nd))
  (dss_one (ds_if (DW.dt (dw_and (dt_truth (vr 5)) (dw_and1 (dt_not (dt_truth (k_any rfl G.fr_any (da_cons (de_lc (own := false) (ow := [("life", 6), ("number", 7)]) rfl S_fits_tops.nd (di_seq (de_fz 1 (de_ix (hu1 hr) (c_pr o_Book_spans ⟨G.cl_Book, G.pr_Book_spans⟩ (hr.mono (by decide)) (vr 0)) (vr 3)))) (blkOk_by (by kernel_rfl)) (by decide) (fun _ _ _ _ _ => (dg_tup rfl (dgs_cons (gn 6 S_fits_tops.nd) (dgs_cons (gn 7 S_fits_tops.nd) dgs_nil)))) (fun _ _ _ _ _ => dts_nil) (fun _ _ _ _ _ => (cmp_le (vr 7) (de_ix (hu1 hr) (vr 1) (vr 6))))) da_nil)))))))
  (dss_one (ds_ret de_bl)) dss_nil))))
  (dss_one (ds_ret de_bl)))
theorem ok_Book_lives (G : Facts K mg) (F : ∃ fd, FunD K "lives" "Book.lives" (defArgs s_Book_lives) (defBody s_Book_lives) (defScope s_Book_lives) [] [] ((pP "Book" "lives") K) fd)  : OkF P w0 K mg base (tab K) 1 ((pP "Book" "lives") K) ["self"] c_Book_lives := by
  obtain ⟨fd, F⟩ := F
  refine ⟨fd, (fn_con (k := 0) F S_Book_lives (w := w_Book_lives) fun cdv A outer s H E F0 m0 H0 hr => ?_).imp fun _ _ _ _ h => loc_sp h, F.bindsN fun _ _ _ _ _ _ us hl => match us, hl with | [_], _ => rfl, F.kp⟩
  exact (dss_one (ds_ret (k_tuple G.fr_tuple (da_cons (de_fld G.fl_Walk_life_rows (de_fld G.fl_Book_walk (vr 0))) da_nil))))
theorem ok_garment_of (G : Facts K mg) (F : ∃ fd, FunD K "garment_of" "garment_of" (defArgs s_garment_of) (defBody s_garment_of) (defScope s_garment_of) [] [] ((pG "garment_of") K) fd) (o_Book_garments : OkF P w0 K mg base (tab K) 1 ((pP "Book" "garments") K) ["self"] c_Book_garments) (o_names_in : OkF P w0 K mg base (tab K) 1 ((pG "names_in") K) ["garments"] c_names_in) (o_Book_lives : OkF P w0 K mg base (tab K) 1 ((pP "Book" "lives") K) ["self"] c_Book_lives) : OkF P w0 K mg base (tab K) 3 ((pG "garment_of") K) ["book", "life"] c_garment_of := by
  obtain ⟨fd, F⟩ := F
  refine ⟨fd, (fn_con (k := 2) F S_garment_of (w := w_garment_of) fun cdv A outer s H E F0 m0 H0 hr => ?_).imp fun _ _ _ _ h => loc_sp h, F.bindsN fun _ _ _ _ _ _ us hl => match us, hl with | [_, _], _ => rfl, F.kp⟩
  exact (dss_one (ds_ret (de_ix (hu1 hr) (c_pr o_Book_garments ⟨G.cl_Book, G.pr_Book_garments⟩ (hr.mono (by decide)) (vr 0)) (m_index (hu65 hr) (c_fn o_names_in (hr.mono (by decide)) G.gl_names_in (da_cons (c_pr o_Book_garments ⟨G.cl_Book, G.pr_Book_garments⟩ (hr.mono (by decide)) (vr 0)) da_nil)) (da_cons (de_ix (hu1 hr) (de_ix (hu1 hr) (c_pr o_Book_lives ⟨G.cl_Book, G.pr_Book_lives⟩ (hr.mono (by decide)) (vr 0)) (vr 1)) de_int) da_nil)))))
theorem ok_top_of (G : Facts K mg) (F : ∃ fd, FunD K "top_of" "top_of" (defArgs s_top_of) (defBody s_top_of) (defScope s_top_of) [] [] ((pG "top_of") K) fd) (o_garment_of : OkF P w0 K mg base (tab K) 3 ((pG "garment_of") K) ["book", "life"] c_garment_of) : OkF P w0 K mg base (tab K) 4 ((pG "top_of") K) ["book", "life"] c_top_of := by
  obtain ⟨fd, F⟩ := F
  refine ⟨fd, (fn_con (k := 3) F S_top_of (w := w_top_of) fun cdv A outer s H E F0 m0 H0 hr => ?_).imp fun _ _ _ _ h => loc_sp h, F.bindsN fun _ _ _ _ _ _ us hl => match us, hl with | [_, _], _ => rfl, F.kp⟩
  exact (dss_one (ds_ret (de_ix (hu1 hr) (c_fn o_garment_of (hr.mono (by decide)) G.gl_garment_of (da_cons (vr 0) (da_cons (vr 1) da_nil))) de_int)))
theorem ok_tops_of {dv_tops_of : List V} (hdv : dv_tops_of.length = 1) (G : Facts K mg) (F : ∃ fd, FunD K "tops_of" "tops_of" (defArgs s_tops_of) (defBody s_tops_of) (defScope s_tops_of) dv_tops_of [] ((pG "tops_of") K) fd) (o_Book_lives : OkF P w0 K mg base (tab K) 1 ((pP "Book" "lives") K) ["self"] c_Book_lives) (o_top_of : OkF P w0 K mg base (tab K) 4 ((pG "top_of") K) ["book", "life"] c_top_of) (o_Book_looks : OkF P w0 K mg base (tab K) 1 ((pP "Book" "looks") K) ["self"] c_Book_looks) (o_Book_spans : OkF P w0 K mg base (tab K) 1 ((pP "Book" "spans") K) ["self"] c_Book_spans) : OkF P w0 K mg base (tab K) 5 ((pG "tops_of") K) ["book", "skipped"] c_tops_of := by
  obtain ⟨fd, F⟩ := F
  have bb : Binds K fd ["book", "skipped"] [] := by
    obtain ⟨ds, v, bb⟩ := F.binds1 (ps := ["book", "skipped"]) 2 1 (fun e => by rw [e] at hdv; cases hdv) (by rw [hdv] <;> rfl) fun _ _ _ _ _ _ _ us its hl h2 => match us, hl, its, h2.trans hdv with | [_, _], _, [_], _ => ⟨_, rfl, rfl⟩
    have e : dv_tops_of.drop 1 = [] := List.drop_eq_nil_of_le (by omega)
    rw [e] at v
    cases v
    exact bb
  refine ⟨fd, (fn_con (k := 4) F S_tops_of (w := w_tops_of) fun cdv A outer s H E F0 m0 H0 hr => ?_).imp fun _ _ _ _ h => loc_sp h, bb, F.kp⟩
  exact (dss_cons (ds_setLc (i := 2) (own := true) (ow := [("life", 5)]) rfl S_tops_of.nd (di_range1 rfl G.fr_range (k_len G.fr_len (da_cons (c_pr o_Book_lives ⟨G.cl_Book, G.pr_Book_lives⟩ (hr.mono (by decide)) (vr 0)) da_nil))) (blkOk_by (by kernel_rfl)) (by decide) (fun _ _ _ _ _ => (gn 5 S_tops_of.nd)) (fun _ _ _ _ _ => dts_nil) (fun _ _ _ _ _ => (c_fn o_top_of (hr.mono (by decide)) G.gl_top_of (da_cons (vr 0) (da_cons (vr 5) da_nil)))))
  (dss_cons (ds_for (passes_of rfl) rfl (di_enum rfl G.fr_enumerate (de_fz 1 (c_pr o_Book_looks ⟨G.cl_Book, G.pr_Book_looks⟩ (hr.mono (by decide)) (vr 0)))) (dg_tup rfl (dgs_cons (gn 3 S_tops_of.nd) (dgs_cons (gn 4 S_tops_of.nd) dgs_nil)))
  (dss_one (ds_if (DW.dt (dw_and (dt_not (dt_truth (de_ix (hu1 hr) (vr 4) de_int))) (dw_and1 (t_nin (hu65 hr) (vr 3) (vr 1)))))
  (dss_one (ds_for (passes_of rfl) rfl (di_seq (de_fz 1 (de_ix (hu1 hr) (c_pr o_Book_spans ⟨G.cl_Book, G.pr_Book_spans⟩ (hr.mono (by decide)) (vr 0)) (vr 3)))) (dg_tup rfl (dgs_cons (gn 5 S_tops_of.nd) (dgs_cons (gn 6 S_tops_of.nd) dgs_nil)))
  (dss_one (ds_asg2 (k_min2 rfl G.fr_min (da_cons (de_ix (hu1 hr) (vr 2) (vr 5)) (da_cons (o_sub (vr 6) de_int) da_nil))) (d2_sub (hu1 hr) (vr 2) (vr 5)))))) dss_nil)))
  (dss_one (ds_ret (de_fz 1 (vr 2))))))
theorem okd_tops_of (G : Facts K mg) (F : ∃ fd, FunD K "tops_of" "tops_of" (defArgs s_tops_of) (defBody s_tops_of) (defScope s_tops_of) [.ref (He.dflAt ("tops_of", none) 0 K)] [] ((pG "tops_of") K) fd) (o_Book_lives : OkF P w0 K mg base (tab K) 1 ((pP "Book" "lives") K) ["self"] c_Book_lives) (o_top_of : OkF P w0 K mg base (tab K) 4 ((pG "top_of") K) ["book", "life"] c_top_of) (o_Book_looks : OkF P w0 K mg base (tab K) 1 ((pP "Book" "looks") K) ["self"] c_Book_looks) (o_Book_spans : OkF P w0 K mg base (tab K) 1 ((pP "Book" "spans") K) ["self"] c_Book_spans) : OkFd P w0 K mg base (tab K) 5 ((pG "tops_of") K) ["book", "skipped"] [.tup []] c_tops_of := by
  obtain ⟨fd, F⟩ := F
  have bb : ∃ ds, Vals [V.ref (He.dflAt ("tops_of", none) 0 K)] ds ∧ Binds K fd ["book", "skipped"] ds := by
    obtain ⟨ds, v, bb⟩ := F.binds1 (ps := ["book", "skipped"]) 1 0 (fun e => by cases e) (by rfl) fun _ _ _ _ _ _ _ us its hl h2 => match us, hl, its, h2 with | [_], _, [_], _ => ⟨_, rfl, rfl⟩
    exact ⟨ds, v, bb⟩
  obtain ⟨ds, v, bb⟩ := bb
  refine ⟨fd, ds, _, (fn_con (k := 4) F S_tops_of (w := w_tops_of) fun cdv A outer s H E F0 m0 H0 hr => ?_).imp fun _ _ _ _ h => loc_sp h, bb, v, fun F m => .cons (emB_ok G.em_tops_of F m) .nil, F.kp⟩
  exact (dss_cons (ds_setLc (i := 2) (own := true) (ow := [("life", 5)]) rfl S_tops_of.nd (di_range1 rfl G.fr_range (k_len G.fr_len (da_cons (c_pr o_Book_lives ⟨G.cl_Book, G.pr_Book_lives⟩ (hr.mono (by decide)) (vr 0)) da_nil))) (blkOk_by (by kernel_rfl)) (by decide) (fun _ _ _ _ _ => (gn 5 S_tops_of.nd)) (fun _ _ _ _ _ => dts_nil) (fun _ _ _ _ _ => (c_fn o_top_of (hr.mono (by decide)) G.gl_top_of (da_cons (vr 0) (da_cons (vr 5) da_nil)))))
  (dss_cons (ds_for (passes_of rfl) rfl (di_enum rfl G.fr_enumerate (de_fz 1 (c_pr o_Book_looks ⟨G.cl_Book, G.pr_Book_looks⟩ (hr.mono (by decide)) (vr 0)))) (dg_tup rfl (dgs_cons (gn 3 S_tops_of.nd) (dgs_cons (gn 4 S_tops_of.nd) dgs_nil)))
  (dss_one (ds_if (DW.dt (dw_and (dt_not (dt_truth (de_ix (hu1 hr) (vr 4) de_int))) (dw_and1 (t_nin (hu65 hr) (vr 3) (vr 1)))))
  (dss_one (ds_for (passes_of rfl) rfl (di_seq (de_fz 1 (de_ix (hu1 hr) (c_pr o_Book_spans ⟨G.cl_Book, G.pr_Book_spans⟩ (hr.mono (by decide)) (vr 0)) (vr 3)))) (dg_tup rfl (dgs_cons (gn 5 S_tops_of.nd) (dgs_cons (gn 6 S_tops_of.nd) dgs_nil)))
  (dss_one (ds_asg2 (k_min2 rfl G.fr_min (da_cons (de_ix (hu1 hr) (vr 2) (vr 5)) (da_cons (o_sub (vr 6) de_int) da_nil))) (d2_sub (hu1 hr) (vr 2) (vr 5)))))) dss_nil)))
  (dss_one (ds_ret (de_fz 1 (vr 2))))))
theorem ok_is_possible (G : Facts K mg) (F : ∃ fd, FunD K "is_possible" "is_possible" (defArgs s_is_possible) (defBody s_is_possible) (defScope s_is_possible) [] [] ((pG "is_possible") K) fd) (od_fits_tops : OkFd P w0 K mg base (tab K) 3 ((pG "fits_tops") K) ["book", "greatest", "skipped"] [.tup []] c_fits_tops) (od_tops_of : OkFd P w0 K mg base (tab K) 5 ((pG "tops_of") K) ["book", "skipped"] [.tup []] c_tops_of) : OkF P w0 K mg base (tab K) 6 ((pG "is_possible") K) ["book"] c_is_possible := by
  obtain ⟨fd, F⟩ := F
  refine ⟨fd, (fn_con (k := 5) F S_is_possible (w := w_is_possible) fun cdv A outer s H E F0 m0 H0 hr => ?_).imp fun _ _ _ _ h => loc_sp h, F.bindsN fun _ _ _ _ _ _ us hl => match us, hl with | [_], _ => rfl, F.kp⟩
  exact (dss_one (ds_ret (c_fnD od_fits_tops (hr.mono (by decide)) G.gl_fits_tops (da_cons (vr 0) (da_cons (c_fnD od_tops_of (hr.mono (by decide)) G.gl_tops_of (da_cons (vr 0) da_nil)) da_nil)))))
theorem ok_check_possible (G : Facts K mg) (F : ∃ fd, FunD K "check_possible" "check_possible" (defArgs s_check_possible) (defBody s_check_possible) (defScope s_check_possible) [] [] ((pG "check_possible") K) fd) (o_is_possible : OkF P w0 K mg base (tab K) 6 ((pG "is_possible") K) ["book"] c_is_possible) : OkF P w0 K mg base (tab K) 7 ((pG "check_possible") K) ["book"] c_check_possible := by
  obtain ⟨fd, F⟩ := F
  refine ⟨fd, (fn_con (k := 6) F S_check_possible (w := w_check_possible) fun cdv A outer s H E F0 m0 H0 hr => ?_).imp fun _ _ _ _ h => loc_sp h, F.bindsN fun _ _ _ _ _ _ us hl => match us, hl with | [_], _ => rfl, F.kp⟩
  exact (dss_one (ds_if (dt_not (dt_truth (c_fn o_is_possible (hr.mono (by decide)) G.gl_is_possible (da_cons (vr 0) da_nil))))
  (dss_one ds_never) dss_nil))
theorem ok_check_asked (G : Facts K mg) (F : ∃ fd, FunD K "check_asked" "check_asked" (defArgs s_check_asked) (defBody s_check_asked) (defScope s_check_asked) [] [] ((pG "check_asked") K) fd) (o_check_book : OkF P w0 K mg base (tab K) 1 ((pG "check_book") K) ["value"] c_check_book) (o_check_load : OkF P w0 K mg base (tab K) 4 ((pG "check_load") K) ["book", "value"] c_check_load) (o_check_possible : OkF P w0 K mg base (tab K) 7 ((pG "check_possible") K) ["book"] c_check_possible) : OkF P w0 K mg base (tab K) 8 ((pG "check_asked") K) ["book", "names"] c_check_asked := by
  obtain ⟨fd, F⟩ := F
  refine ⟨fd, (fn_con (k := 7) F S_check_asked (w := w_check_asked) fun cdv A outer s H E F0 m0 H0 hr => ?_).imp fun _ _ _ _ h => loc_sp h, F.bindsN fun _ _ _ _ _ _ us hl => match us, hl with | [_, _], _ => rfl, F.kp⟩
  exact (dss_cons (ds_expr (c_fn o_check_book (hr.mono (by decide)) G.gl_check_book (da_cons (vr 0) da_nil)))
  (dss_cons (ds_expr (c_fn o_check_load (hr.mono (by decide)) G.gl_check_load (da_cons (vr 0) (da_cons (vr 1) da_nil))))
  (dss_one (ds_expr (c_fn o_check_possible (hr.mono (by decide)) G.gl_check_possible (da_cons (vr 0) da_nil))))))
theorem ok_Book_dyes (G : Facts K mg) (F : ∃ fd, FunD K "dyes" "Book.dyes" (defArgs s_Book_dyes) (defBody s_Book_dyes) (defScope s_Book_dyes) [] [] ((pP "Book" "dyes") K) fd) (o_dyes_in : OkF P w0 K mg base (tab K) 1 ((pG "dyes_in") K) ["garments"] c_dyes_in) : OkF P w0 K mg base (tab K) 2 ((pP "Book" "dyes") K) ["self"] c_Book_dyes := by
  obtain ⟨fd, F⟩ := F
  refine ⟨fd, (fn_con (k := 1) F S_Book_dyes (w := w_Book_dyes) fun cdv A outer s H E F0 m0 H0 hr => ?_).imp fun _ _ _ _ h => loc_sp h, F.bindsN fun _ _ _ _ _ _ us hl => match us, hl with | [_], _ => rfl, F.kp⟩
  exact (dss_one (ds_ret (k_tuple G.fr_tuple (da_cons (c_fn o_dyes_in (hr.mono (by decide)) G.gl_dyes_in (da_cons (de_fld G.fl_Book_clothes (vr 0)) da_nil)) da_nil))))
theorem ok_dye_of (G : Facts K mg) (F : ∃ fd, FunD K "dye_of" "dye_of" (defArgs s_dye_of) (defBody s_dye_of) (defScope s_dye_of) [] [] ((pG "dye_of") K) fd) (o_garment_of : OkF P w0 K mg base (tab K) 3 ((pG "garment_of") K) ["book", "life"] c_garment_of) : OkF P w0 K mg base (tab K) 4 ((pG "dye_of") K) ["book", "life"] c_dye_of := by
  obtain ⟨fd, F⟩ := F
  refine ⟨fd, (fn_con (k := 3) F S_dye_of (w := w_dye_of) fun cdv A outer s H E F0 m0 H0 hr => ?_).imp fun _ _ _ _ h => loc_sp h, F.bindsN fun _ _ _ _ _ _ us hl => match us, hl with | [_, _], _ => rfl, F.kp⟩
  exact (dss_one (ds_ret (de_ix (hu1 hr) (c_fn o_garment_of (hr.mono (by decide)) G.gl_garment_of (da_cons (vr 0) (da_cons (vr 1) da_nil))) de_int)))
theorem ok_parts_by_dye (G : Facts K mg) (F : ∃ fd, FunD K "parts_by_dye" "parts_by_dye" (defArgs s_parts_by_dye) (defBody s_parts_by_dye) (defScope s_parts_by_dye) [] [] ((pG "parts_by_dye") K) fd) (o_Book_dyes : OkF P w0 K mg base (tab K) 2 ((pP "Book" "dyes") K) ["self"] c_Book_dyes) (o_dye_of : OkF P w0 K mg base (tab K) 4 ((pG "dye_of") K) ["book", "life"] c_dye_of) : OkF P w0 K mg base (tab K) 5 ((pG "parts_by_dye") K) ["book", "pairs"] c_parts_by_dye := by
  obtain ⟨fd, F⟩ := F
  refine ⟨fd, (fn_con (k := 4) F S_parts_by_dye (w := w_parts_by_dye) fun cdv A outer s H E F0 m0 H0 hr => ?_).imp fun _ _ _ _ h => loc_sp h, F.bindsN fun _ _ _ _ _ _ us hl => match us, hl with | [_, _], _ => rfl, F.kp⟩
  exact (dss_cons (ds_asg (de_lstO da_nil) (gn 2 S_parts_by_dye.nd))
  (dss_cons (ds_for (passes_of rfl) rfl (di_seq (de_fz 1 (c_pr o_Book_dyes ⟨G.cl_Book, G.pr_Book_dyes⟩ (hr.mono (by decide)) (vr 0)))) (gn 3 S_parts_by_dye.nd)
  (dss_cons (ds_setLc (i := 4) (own := false) (ow := [("pair", 5)]) rfl S_parts_by_dye.nd (di_seq (de_fz 1 (vr 1))) (blkOk_by (by kernel_rfl)) (by decide) (fun _ _ _ _ _ => (gn 5 S_parts_by_dye.nd)) (fun _ _ _ _ _ => (dts_one (t_eq (hu64 hr) (c_fn o_dye_of (hr.mono (by decide)) G.gl_dye_of (da_cons (vr 0) (da_cons (de_ix (hu1 hr) (vr 5) de_int) da_nil))) (vr 3)))) (fun _ _ _ _ _ => (vr 5)))
  (dss_one (ds_if (t_ne (hu64 hr) (vr 4) (de_lst da_nil))
  (dss_one (ds_expr (m_append (vr 2) (da_cons (de_tup (da_cons (vr 3) (da_cons (vr 4) da_nil))) da_nil)))) dss_nil))))
  (dss_one (ds_ret (de_fz 1 (vr 2))))))
theorem ok_check_name (G : Facts K mg) (F : ∃ fd, FunD K "check_name" "check_name" (defArgs s_check_name) (defBody s_check_name) (defScope s_check_name) [] [] ((pG "check_name") K) fd) (o_has_name : OkF P w0 K mg base (tab K) 3 ((pG "has_name") K) ["book", "value"] c_has_name) : OkF P w0 K mg base (tab K) 4 ((pG "check_name") K) ["book", "value"] c_check_name := by
  obtain ⟨fd, F⟩ := F
  refine ⟨fd, (fn_con (k := 3) F S_check_name (w := w_check_name) fun cdv A outer s H E F0 m0 H0 hr => ?_).imp fun _ _ _ _ h => loc_sp h, F.bindsN fun _ _ _ _ _ _ us hl => match us, hl with | [_, _], _ => rfl, F.kp⟩
  exact (dss_one (ds_if (dt_not (dt_truth (c_fn o_has_name (hr.mono (by decide)) G.gl_has_name (da_cons (vr 0) (da_cons (vr 1) da_nil)))))
  (dss_one ds_never) dss_nil))
theorem ok_Book_present (G : Facts K mg) (F : ∃ fd, FunD K "present" "Book.present" (defArgs s_Book_present) (defBody s_Book_present) (defScope s_Book_present) [] [] ((pM "Book" "present") K) fd) (o_check_name : OkF P w0 K mg base (tab K) 4 ((pG "check_name") K) ["book", "value"] c_check_name) : OkF P w0 K mg base (tab K) 5 ((pM "Book" "present") K) ["self", "name"] c_Book_present := by
  obtain ⟨fd, F⟩ := F
  refine ⟨fd, (fn_con (k := 4) F S_Book_present (w := w_Book_present) fun cdv A outer s H E F0 m0 H0 hr => ?_).imp fun _ _ _ _ h => loc_sp h, F.bindsN fun _ _ _ _ _ _ us hl => match us, hl with | [_, _], _ => rfl, F.kp⟩
  exact (dss_cons (ds_expr (c_fn o_check_name (hr.mono (by decide)) G.gl_check_name (da_cons (vr 0) (da_cons (vr 1) da_nil))))
  (dss_one (ds_ret (de_ix (hu1 hr) (de_lc (own := false) (ow := [("life", 2), ("pair", 3)]) rfl S_Book_present.nd (di_enum rfl G.fr_enumerate (de_fz 1 (de_fld G.fl_Walk_life_rows (de_fld G.fl_Book_walk (vr 0))))) (blkOk_by (by kernel_rfl)) (by decide) (fun _ _ _ _ _ => (dg_tup rfl (dgs_cons (gn 2 S_Book_present.nd) (dgs_cons (gn 3 S_Book_present.nd) dgs_nil)))) (fun _ _ _ _ _ => (dts_one (t_eq (hu64 hr) (de_ix (hu1 hr) (vr 3) de_int) (vr 1)))) (fun _ _ _ _ _ => (vr 2))) (de_neg de_int)))))
theorem ok_Book_tallies (G : Facts K mg) (F : ∃ fd, FunD K "tallies" "Book.tallies" (defArgs s_Book_tallies) (defBody s_Book_tallies) (defScope s_Book_tallies) [] [] ((pP "Book" "tallies") K) fd)  : OkF P w0 K mg base (tab K) 1 ((pP "Book" "tallies") K) ["self"] c_Book_tallies := by
  obtain ⟨fd, F⟩ := F
  refine ⟨fd, (fn_con (k := 0) F S_Book_tallies (w := w_Book_tallies) fun cdv A outer s H E F0 m0 H0 hr => ?_).imp fun _ _ _ _ h => loc_sp h, F.bindsN fun _ _ _ _ _ _ us hl => match us, hl with | [_], _ => rfl, F.kp⟩
  exact (dss_one (ds_ret (k_tuple G.fr_tuple (da_cons (de_fld G.fl_Walk_tally_row (de_fld G.fl_Book_walk (vr 0))) da_nil))))
theorem ok_numbers_next (G : Facts K mg) (F : ∃ fd, FunD K "numbers_next" "numbers_next" (defArgs s_numbers_next) (defBody s_numbers_next) (defScope s_numbers_next) [] [] ((pG "numbers_next") K) fd) (o_Book_garments : OkF P w0 K mg base (tab K) 1 ((pP "Book" "garments") K) ["self"] c_Book_garments) (o_Book_present : OkF P w0 K mg base (tab K) 5 ((pM "Book" "present") K) ["self", "name"] c_Book_present) (o_Book_tallies : OkF P w0 K mg base (tab K) 1 ((pP "Book" "tallies") K) ["self"] c_Book_tallies) : OkF P w0 K mg base (tab K) 6 ((pG "numbers_next") K) ["book", "names"] c_numbers_next := by
  obtain ⟨fd, F⟩ := F
  refine ⟨fd, (fn_con (k := 5) F S_numbers_next (w := w_numbers_next) fun cdv A outer s H E F0 m0 H0 hr => ?_).imp fun _ _ _ _ h => loc_sp h, F.bindsN fun _ _ _ _ _ _ us hl => match us, hl with | [_, _], _ => rfl, F.kp⟩
  exact (dss_cons (ds_setLc (i := 2) (own := false) (ow := [("name", 3), ("dye", 4), ("top", 5)]) rfl S_numbers_next.nd (di_seq (de_fz 1 (c_pr o_Book_garments ⟨G.cl_Book, G.pr_Book_garments⟩ (hr.mono (by decide)) (vr 0)))) (blkOk_by (by kernel_rfl)) (by decide) (fun _ _ _ _ _ => (dg_tup rfl (dgs_cons (gn 3 S_numbers_next.nd) (dgs_cons (gn 4 S_numbers_next.nd) (dgs_cons (gn 5 S_numbers_next.nd) dgs_nil))))) (fun _ _ _ _ _ => (dts_one (t_in (hu65 hr) (vr 3) (vr 1)))) (fun _ _ _ _ _ => (c_me o_Book_present G.mf_Book_present (hr.mono (by decide)) (vr 0) (da_cons (vr 3) da_nil))))
  (dss_one (ds_ret (de_lc (own := false) (ow := [("life", 6)]) rfl S_numbers_next.nd (di_seq (de_fz 1 (vr 2))) (blkOk_by (by kernel_rfl)) (by decide) (fun _ _ _ _ _ => (gn 6 S_numbers_next.nd)) (fun _ _ _ _ _ => dts_nil) (fun _ _ _ _ _ => (de_tup (da_cons (vr 6) (da_cons (o_add (de_ix (hu1 hr) (c_pr o_Book_tallies ⟨G.cl_Book, G.pr_Book_tallies⟩ (hr.mono (by decide)) (vr 0)) (vr 6)) de_int) da_nil))))))))
theorem ok_lowered (G : Facts K mg) (F : ∃ fd, FunD K "lowered" "lowered" (defArgs s_lowered) (defBody s_lowered) (defScope s_lowered) [] [] ((pG "lowered") K) fd)  : OkF P w0 K mg base (tab K) 1 ((pG "lowered") K) ["greatest", "pairs"] c_lowered := by
  obtain ⟨fd, F⟩ := F
  refine ⟨fd, (fn_con (k := 0) F S_lowered (w := w_lowered) fun cdv A outer s H E F0 m0 H0 hr => ?_).imp fun _ _ _ _ h => loc_sp h, F.bindsN fun _ _ _ _ _ _ us hl => match us, hl with | [_, _], _ => rfl, F.kp⟩
  exact (dss_cons (ds_asg (k_list true rfl G.fr_list (da_cons (vr 0) da_nil)) (gn 2 S_lowered.nd))
  (dss_cons (ds_for (passes_of rfl) rfl (di_seq (de_fz 1 (vr 1))) (dg_tup rfl (dgs_cons (gn 3 S_lowered.nd) (dgs_cons (gn 4 S_lowered.nd) dgs_nil)))
  (dss_one (ds_asg2 (k_min2 rfl G.fr_min (da_cons (de_ix (hu1 hr) (vr 2) (vr 3)) (da_cons (o_sub (vr 4) de_int) da_nil))) (d2_sub (hu1 hr) (vr 2) (vr 3)))))
  (dss_one (ds_ret (de_fz 1 (vr 2))))))
theorem ok_word_for (G : Facts K mg) (F : ∃ fd, FunD K "word_for" "word_for" (defArgs s_word_for) (defBody s_word_for) (defScope s_word_for) [] [] ((pG "word_for") K) fd) (od_fits_tops : OkFd P w0 K mg base (tab K) 3 ((pG "fits_tops") K) ["book", "greatest", "skipped"] [.tup []] c_fits_tops) (o_lowered : OkF P w0 K mg base (tab K) 1 ((pG "lowered") K) ["greatest", "pairs"] c_lowered) : OkF P w0 K mg base (tab K) 4 ((pG "word_for") K) ["book", "greatest", "pairs"] c_word_for := by
  obtain ⟨fd, F⟩ := F
  refine ⟨fd, (fn_con (k := 3) F S_word_for (w := w_word_for) fun cdv A outer s H E F0 m0 H0 hr => ?_).imp fun _ _ _ _ h => loc_sp h, F.bindsN fun _ _ _ _ _ _ us hl => match us, hl with | [_, _, _], _ => rfl, F.kp⟩
  exact (dss_cons (ds_if (dt_not (dt_truth (k_any rfl G.fr_any (da_cons (de_lc (own := false) (ow := [("life", 3), ("number", 4)]) rfl S_word_for.nd (di_seq (de_fz 1 (vr 2))) (blkOk_by (by kernel_rfl)) (by decide) (fun _ _ _ _ _ => (dg_tup rfl (dgs_cons (gn 3 S_word_for.nd) (dgs_cons (gn 4 S_word_for.nd) dgs_nil)))) (fun _ _ _ _ _ => dts_nil) (fun _ _ _ _ _ => (cmp_le (vr 4) (de_ix (hu1 hr) (vr 1) (vr 3))))) da_nil))))
  (dss_one (ds_ret (de_str rfl))) dss_nil)
  (dss_one (ds_ret (de_if (dt_truth (c_fnD od_fits_tops (hr.mono (by decide)) G.gl_fits_tops (da_cons (vr 0) (da_cons (c_fn o_lowered (hr.mono (by decide)) G.gl_lowered (da_cons (vr 1) (da_cons (vr 2) da_nil))) da_nil)))) (de_str rfl) (de_str rfl)))))
theorem ok_seen (G : Facts K mg) (F : ∃ fd, FunD K "seen" "seen" (defArgs s_seen) (defBody s_seen) (defScope s_seen) [] [] ((pG "seen") K) fd) (o_check_asked : OkF P w0 K mg base (tab K) 8 ((pG "check_asked") K) ["book", "names"] c_check_asked) (o_parts_by_dye : OkF P w0 K mg base (tab K) 5 ((pG "parts_by_dye") K) ["book", "pairs"] c_parts_by_dye) (o_numbers_next : OkF P w0 K mg base (tab K) 6 ((pG "numbers_next") K) ["book", "names"] c_numbers_next) (od_tops_of : OkFd P w0 K mg base (tab K) 5 ((pG "tops_of") K) ["book", "skipped"] [.tup []] c_tops_of) (o_word_for : OkF P w0 K mg base (tab K) 4 ((pG "word_for") K) ["book", "greatest", "pairs"] c_word_for) : OkF P w0 K mg base (tab K) 9 ((pG "seen") K) ["book", "names"] c_seen := by
  obtain ⟨fd, F⟩ := F
  refine ⟨fd, (fn_con (k := 8) F S_seen (w := w_seen) fun cdv A outer s H E F0 m0 H0 hr => ?_).imp fun _ _ _ _ h => loc_sp h, F.bindsN fun _ _ _ _ _ _ us hl => match us, hl with | [_, _], _ => rfl, F.kp⟩
  exact (dss_cons (ds_expr (c_fn o_check_asked (hr.mono (by decide)) G.gl_check_asked (da_cons (vr 0) (da_cons (vr 1) da_nil))))
  (dss_cons (ds_asg (de_tup (da_cons (c_fnD od_tops_of (hr.mono (by decide)) G.gl_tops_of (da_cons (vr 0) da_nil)) (da_cons (c_fn o_parts_by_dye (hr.mono (by decide)) G.gl_parts_by_dye (da_cons (vr 0) (da_cons (c_fn o_numbers_next (hr.mono (by decide)) G.gl_numbers_next (da_cons (vr 0) (da_cons (vr 1) da_nil))) da_nil))) da_nil))) (dg_tup rfl (dgs_cons (gn 2 S_seen.nd) (dgs_cons (gn 3 S_seen.nd) dgs_nil))))
  (dss_one (ds_ret (k_tuple G.fr_tuple (da_cons (de_lc (own := false) (ow := [("dye", 4), ("pairs", 5)]) rfl S_seen.nd (di_seq (de_fz 1 (vr 3))) (blkOk_by (by kernel_rfl)) (by decide) (fun _ _ _ _ _ => (dg_tup rfl (dgs_cons (gn 4 S_seen.nd) (dgs_cons (gn 5 S_seen.nd) dgs_nil)))) (fun _ _ _ _ _ => dts_nil) (fun _ _ _ _ _ => (de_tup (da_cons (vr 4) (da_cons (c_fn o_word_for (hr.mono (by decide)) G.gl_word_for (da_cons (vr 0) (da_cons (vr 2) (da_cons (vr 5) da_nil)))) da_nil))))) da_nil))))))
theorem ok_washes_left (G : Facts K mg) (F : ∃ fd, FunD K "washes_left" "washes_left" (defArgs s_washes_left) (defBody s_washes_left) (defScope s_washes_left) [] [] ((pG "washes_left") K) fd) (o_check_book : OkF P w0 K mg base (tab K) 1 ((pG "check_book") K) ["value"] c_check_book) (o_check_name : OkF P w0 K mg base (tab K) 4 ((pG "check_name") K) ["book", "value"] c_check_name) (o_check_possible : OkF P w0 K mg base (tab K) 7 ((pG "check_possible") K) ["book"] c_check_possible) (o_Book_present : OkF P w0 K mg base (tab K) 5 ((pM "Book" "present") K) ["self", "name"] c_Book_present) (od_tops_of : OkFd P w0 K mg base (tab K) 5 ((pG "tops_of") K) ["book", "skipped"] [.tup []] c_tops_of) (o_Book_tallies : OkF P w0 K mg base (tab K) 1 ((pP "Book" "tallies") K) ["self"] c_Book_tallies) : OkF P w0 K mg base (tab K) 8 ((pG "washes_left") K) ["book", "name"] c_washes_left := by
  obtain ⟨fd, F⟩ := F
  refine ⟨fd, (fn_con (k := 7) F S_washes_left (w := w_washes_left) fun cdv A outer s H E F0 m0 H0 hr => ?_).imp fun _ _ _ _ h => loc_sp h, F.bindsN fun _ _ _ _ _ _ us hl => match us, hl with | [_, _], _ => rfl, F.kp⟩
  exact (dss_cons (ds_expr (c_fn o_check_book (hr.mono (by decide)) G.gl_check_book (da_cons (vr 0) da_nil)))
  (dss_cons (ds_expr (c_fn o_check_name (hr.mono (by decide)) G.gl_check_name (da_cons (vr 0) (da_cons (vr 1) da_nil))))
  (dss_cons (ds_expr (c_fn o_check_possible (hr.mono (by decide)) G.gl_check_possible (da_cons (vr 0) da_nil)))
  (dss_cons (ds_asg (c_me o_Book_present G.mf_Book_present (hr.mono (by decide)) (vr 0) (da_cons (vr 1) da_nil)) (gn 2 S_washes_left.nd))
  (dss_one (ds_ret (k_max2 rfl G.fr_max (da_cons de_int (da_cons (o_sub (de_ix (hu1 hr) (c_fnD od_tops_of (hr.mono (by decide)) G.gl_tops_of (da_cons (vr 0) da_nil)) (vr 2)) (de_ix (hu1 hr) (c_pr o_Book_tallies ⟨G.cl_Book, G.pr_Book_tallies⟩ (hr.mono (by decide)) (vr 0)) (vr 2))) da_nil)))))))))
theorem ok_Book_numbers (G : Facts K mg) (F : ∃ fd, FunD K "numbers" "Book.numbers" (defArgs s_Book_numbers) (defBody s_Book_numbers) (defScope s_Book_numbers) [] [] ((pM "Book" "numbers") K) fd) (o_is_between : OkF P w0 K mg base (tab K) 2 ((pG "is_between") K) ["value", "least", "most"] c_is_between) : OkF P w0 K mg base (tab K) 3 ((pM "Book" "numbers") K) ["self", "index"] c_Book_numbers := by
  obtain ⟨fd, F⟩ := F
  refine ⟨fd, (fn_con (k := 2) F S_Book_numbers (w := w_Book_numbers) fun cdv A outer s H E F0 m0 H0 hr => ?_).imp fun _ _ _ _ h => loc_sp h, F.bindsN fun _ _ _ _ _ _ us hl => match us, hl with | [_, _], _ => rfl, F.kp⟩
  exact (dss_cons (ds_if (DW.dt (dw_or (dt_not (dt_truth (c_fn o_is_between (hr.mono (by decide)) G.gl_is_between (da_cons (vr 1) (da_cons de_int (da_cons (o_sub (k_len G.fr_len (da_cons (de_fld G.fl_Book_told (vr 0)) da_nil)) de_int) da_nil)))))) (dw_or1 (t_ne (hu64 hr) (de_ix (hu1 hr) (de_ix (hu1 hr) (de_fld G.fl_Book_parsed (vr 0)) (vr 1)) de_int) (de_gstr rfl G.gs_WASH rfl)))))
  (dss_one ds_never) dss_nil)
  (dss_one (ds_ret (de_ix (hu1 hr) (de_fld G.fl_Walk_load_rows (de_fld G.fl_Book_walk (vr 0))) (vr 1)))))
theorem ok_span_of (G : Facts K mg) (F : ∃ fd, FunD K "span_of" "span_of" (defArgs s_span_of) (defBody s_span_of) (defScope s_span_of) [] [] ((pG "span_of") K) fd) (o_Book_looks : OkF P w0 K mg base (tab K) 1 ((pP "Book" "looks") K) ["self"] c_Book_looks) (o_Book_spans : OkF P w0 K mg base (tab K) 1 ((pP "Book" "spans") K) ["self"] c_Book_spans) : OkF P w0 K mg base (tab K) 3 ((pG "span_of") K) ["book", "index", "dye"] c_span_of := by
  obtain ⟨fd, F⟩ := F
  refine ⟨fd, (fn_con (k := 2) F S_span_of (w := w_span_of) fun cdv A outer s H E F0 m0 H0 hr => ?_).imp fun _ _ _ _ h => loc_sp h, F.bindsN fun _ _ _ _ _ _ us hl => match us, hl with | [_, _, _], _ => rfl, F.kp⟩
  exact (dss_cons (ds_for (passes_of rfl) rfl (di_enum rfl G.fr_enumerate (de_fz 1 (c_pr o_Book_looks ⟨G.cl_Book, G.pr_Book_looks⟩ (hr.mono (by decide)) (vr 0)))) (dg_tup rfl (dgs_cons (gn 3 S_span_of.nd) (dgs_cons (gn 4 S_span_of.nd) dgs_nil)))
  (dss_one (ds_if (DW.dt (dw_and (t_eq (hu64 hr) (de_ix (hu1 hr) (vr 4) de_int) (vr 1)) (dw_and (t_eq (hu64 hr) (de_ix (hu1 hr) (vr 4) de_int) (vr 2)) (dw_and1 (dt_truth (de_ix (hu1 hr) (vr 4) de_int))))))
  (dss_one (ds_ret (de_ix (hu1 hr) (c_pr o_Book_spans ⟨G.cl_Book, G.pr_Book_spans⟩ (hr.mono (by decide)) (vr 0)) (vr 3)))) dss_nil)))
  (dss_one (ds_ret de_non)))
theorem ok_least_by {dv_least_by : List V} (hdv : dv_least_by.length = 1) (G : Facts K mg) (F : ∃ fd, FunD K "least_by" "least_by" (defArgs s_least_by) (defBody s_least_by) (defScope s_least_by) dv_least_by [] ((pG "least_by") K) fd) (o_Book_looks : OkF P w0 K mg base (tab K) 1 ((pP "Book" "looks") K) ["self"] c_Book_looks) (o_Book_spans : OkF P w0 K mg base (tab K) 1 ((pP "Book" "spans") K) ["self"] c_Book_spans) : OkF P w0 K mg base (tab K) 3 ((pG "least_by") K) ["book", "greatest", "life", "skipped"] c_least_by := by
  obtain ⟨fd, F⟩ := F
  have bb : Binds K fd ["book", "greatest", "life", "skipped"] [] := by
    obtain ⟨ds, v, bb⟩ := F.binds1 (ps := ["book", "greatest", "life", "skipped"]) 4 1 (fun e => by rw [e] at hdv; cases hdv) (by rw [hdv] <;> rfl) fun _ _ _ _ _ _ _ us its hl h2 => match us, hl, its, h2.trans hdv with | [_, _, _, _], _, [_], _ => ⟨_, rfl, rfl⟩
    have e : dv_least_by.drop 1 = [] := List.drop_eq_nil_of_le (by omega)
    rw [e] at v
    cases v
    exact bb
  refine ⟨fd, (fn_con (k := 2) F S_least_by (w := w_least_by) fun cdv A outer s H E F0 m0 H0 hr => ?_).imp fun _ _ _ _ h => loc_sp h, bb, F.kp⟩
  exact (dss_cons (ds_asg de_int (gn 4 S_least_by.nd))
  (dss_cons (ds_for (passes_of rfl) rfl (di_enum rfl G.fr_enumerate (de_fz 1 (c_pr o_Book_looks ⟨G.cl_Book, G.pr_Book_looks⟩ (hr.mono (by decide)) (vr 0)))) (dg_tup rfl (dgs_cons (gn 5 S_least_by.nd) (dgs_cons (gn 6 S_least_by.nd) dgs_nil)))
  (dss_cons (ds_asg (de_if (DW.dt (dw_and (dt_truth (de_ix (hu1 hr) (vr 6) de_int)) (dw_and1 (t_nin (hu65 hr) (vr 5) (vr 3))))) (k_dictT false rfl G.fr_dict (da_cons (de_ix (hu1 hr) (c_pr o_Book_spans ⟨G.cl_Book, G.pr_Book_spans⟩ (hr.mono (by decide)) (vr 0)) (vr 5)) da_nil)) (de_dct0 false)) (gn 7 S_least_by.nd))
  (dss_one (ds_if (DW.dt (dw_and (t_in (hu65 hr) (vr 2) (vr 7)) (dw_and1 (dt_not (dt_truth (k_any rfl G.fr_any (da_cons (de_lc (own := false) (ow := [("other", 8)]) rfl S_least_by.nd (di_keys (vr 7)) (blkOk_by (by kernel_rfl)) (by decide) (fun _ _ _ _ _ => (gn 8 S_least_by.nd)) (fun _ _ _ _ _ => (dts_one (t_ne (hu64 hr) (vr 8) (vr 2)))) (fun _ _ _ _ _ => (cmp_le (de_ix (hu1 hr) (vr 7) (vr 8)) (de_ix (hu1 hr) (vr 1) (vr 8))))) da_nil)))))))
  (dss_one (ds_asg (k_max2 rfl G.fr_max (da_cons (vr 4) (da_cons (de_ix (hu1 hr) (vr 7) (vr 2)) da_nil))) (gn 4 S_least_by.nd))) dss_nil))))
  (dss_one (ds_ret (vr 4)))))
theorem okd_least_by (G : Facts K mg) (F : ∃ fd, FunD K "least_by" "least_by" (defArgs s_least_by) (defBody s_least_by) (defScope s_least_by) [.ref (He.dflAt ("least_by", none) 0 K)] [] ((pG "least_by") K) fd) (o_Book_looks : OkF P w0 K mg base (tab K) 1 ((pP "Book" "looks") K) ["self"] c_Book_looks) (o_Book_spans : OkF P w0 K mg base (tab K) 1 ((pP "Book" "spans") K) ["self"] c_Book_spans) : OkFd P w0 K mg base (tab K) 3 ((pG "least_by") K) ["book", "greatest", "life", "skipped"] [.tup []] c_least_by := by
  obtain ⟨fd, F⟩ := F
  have bb : ∃ ds, Vals [V.ref (He.dflAt ("least_by", none) 0 K)] ds ∧ Binds K fd ["book", "greatest", "life", "skipped"] ds := by
    obtain ⟨ds, v, bb⟩ := F.binds1 (ps := ["book", "greatest", "life", "skipped"]) 3 0 (fun e => by cases e) (by rfl) fun _ _ _ _ _ _ _ us its hl h2 => match us, hl, its, h2 with | [_, _, _], _, [_], _ => ⟨_, rfl, rfl⟩
    exact ⟨ds, v, bb⟩
  obtain ⟨ds, v, bb⟩ := bb
  refine ⟨fd, ds, _, (fn_con (k := 2) F S_least_by (w := w_least_by) fun cdv A outer s H E F0 m0 H0 hr => ?_).imp fun _ _ _ _ h => loc_sp h, bb, v, fun F m => .cons (emB_ok G.em_least_by F m) .nil, F.kp⟩
  exact (dss_cons (ds_asg de_int (gn 4 S_least_by.nd))
  (dss_cons (ds_for (passes_of rfl) rfl (di_enum rfl G.fr_enumerate (de_fz 1 (c_pr o_Book_looks ⟨G.cl_Book, G.pr_Book_looks⟩ (hr.mono (by decide)) (vr 0)))) (dg_tup rfl (dgs_cons (gn 5 S_least_by.nd) (dgs_cons (gn 6 S_least_by.nd) dgs_nil)))
  (dss_cons (ds_asg (de_if (DW.dt (dw_and (dt_truth (de_ix (hu1 hr) (vr 6) de_int)) (dw_and1 (t_nin (hu65 hr) (vr 5) (vr 3))))) (k_dictT false rfl G.fr_dict (da_cons (de_ix (hu1 hr) (c_pr o_Book_spans ⟨G.cl_Book, G.pr_Book_spans⟩ (hr.mono (by decide)) (vr 0)) (vr 5)) da_nil)) (de_dct0 false)) (gn 7 S_least_by.nd))
  (dss_one (ds_if (DW.dt (dw_and (t_in (hu65 hr) (vr 2) (vr 7)) (dw_and1 (dt_not (dt_truth (k_any rfl G.fr_any (da_cons (de_lc (own := false) (ow := [("other", 8)]) rfl S_least_by.nd (di_keys (vr 7)) (blkOk_by (by kernel_rfl)) (by decide) (fun _ _ _ _ _ => (gn 8 S_least_by.nd)) (fun _ _ _ _ _ => (dts_one (t_ne (hu64 hr) (vr 8) (vr 2)))) (fun _ _ _ _ _ => (cmp_le (de_ix (hu1 hr) (vr 7) (vr 8)) (de_ix (hu1 hr) (vr 1) (vr 8))))) da_nil)))))))
  (dss_one (ds_asg (k_max2 rfl G.fr_max (da_cons (vr 4) (da_cons (de_ix (hu1 hr) (vr 7) (vr 2)) da_nil))) (gn 4 S_least_by.nd))) dss_nil))))
  (dss_one (ds_ret (vr 4)))))
theorem ok_bleeders (G : Facts K mg) (F : ∃ fd, FunD K "bleeders" "bleeders" (defArgs s_bleeders) (defBody s_bleeders) (defScope s_bleeders) [] [] ((pG "bleeders") K) fd) (o_check_book : OkF P w0 K mg base (tab K) 1 ((pG "check_book") K) ["value"] c_check_book) (o_Book_numbers : OkF P w0 K mg base (tab K) 3 ((pM "Book" "numbers") K) ["self", "index"] c_Book_numbers) (o_span_of : OkF P w0 K mg base (tab K) 3 ((pG "span_of") K) ["book", "index", "dye"] c_span_of) (o_check_possible : OkF P w0 K mg base (tab K) 7 ((pG "check_possible") K) ["book"] c_check_possible) (od_tops_of : OkFd P w0 K mg base (tab K) 5 ((pG "tops_of") K) ["book", "skipped"] [.tup []] c_tops_of) (od_least_by : OkFd P w0 K mg base (tab K) 3 ((pG "least_by") K) ["book", "greatest", "life", "skipped"] [.tup []] c_least_by) : OkF P w0 K mg base (tab K) 8 ((pG "bleeders") K) ["book", "index", "dye"] c_bleeders := by
  obtain ⟨fd, F⟩ := F
  refine ⟨fd, (fn_con (k := 7) F S_bleeders (w := w_bleeders) fun cdv A outer s H E F0 m0 H0 hr => ?_).imp fun _ _ _ _ h => loc_sp h, F.bindsN fun _ _ _ _ _ _ us hl => match us, hl with | [_, _, _], _ => rfl, F.kp⟩
  exact (dss_cons (ds_expr (c_fn o_check_book (hr.mono (by decide)) G.gl_check_book (da_cons (vr 0) da_nil)))
  (dss_cons (ds_expr (c_me o_Book_numbers G.mf_Book_numbers (hr.mono (by decide)) (vr 0) (da_cons (vr 1) da_nil)))
  (dss_cons (ds_asg (de_if (dt_truth (k_isi G.fr_isinstance (da_cons (vr 2) (da_cons (de_bty rfl G.fr_str rfl) da_nil)))) (c_fn o_span_of (hr.mono (by decide)) G.gl_span_of (da_cons (vr 0) (da_cons (vr 1) (da_cons (vr 2) da_nil)))) de_non) (gn 3 S_bleeders.nd))
  (dss_cons (ds_if (t_is (vr 3) de_non)
  (dss_one ds_never) dss_nil)
  (dss_cons (ds_expr (c_fn o_check_possible (hr.mono (by decide)) G.gl_check_possible (da_cons (vr 0) da_nil)))
  (dss_cons (ds_asg (c_fnD od_tops_of (hr.mono (by decide)) G.gl_tops_of (da_cons (vr 0) da_nil)) (gn 4 S_bleeders.nd))
  (dss_cons (ds_setLc (i := 5) (own := false) (ow := [("life", 6), ("number", 7)]) rfl S_bleeders.nd (di_seq (de_fz 1 (vr 3))) (blkOk_by (by kernel_rfl)) (by decide) (fun _ _ _ _ _ => (dg_tup rfl (dgs_cons (gn 6 S_bleeders.nd) (dgs_cons (gn 7 S_bleeders.nd) dgs_nil)))) (fun _ _ _ _ _ => (dts_one (t_ge (c_fnD od_least_by (hr.mono (by decide)) G.gl_least_by (da_cons (vr 0) (da_cons (vr 4) (da_cons (vr 6) da_nil)))) (vr 7)))) (fun _ _ _ _ _ => (vr 6)))
  (dss_one (ds_ret (de_tup (da_cons (k_tuple G.fr_tuple (da_cons (vr 5) da_nil)) (da_cons (k_tuple G.fr_tuple (da_cons (de_lc (own := false) (ow := [("life", 6), ("number", 7)]) rfl S_bleeders.nd (di_seq (de_fz 1 (vr 3))) (blkOk_by (by kernel_rfl)) (by decide) (fun _ _ _ _ _ => (dg_tup rfl (dgs_cons (gn 6 S_bleeders.nd) (dgs_cons (gn 7 S_bleeders.nd) dgs_nil)))) (fun _ _ _ _ _ => (dts_one (t_le (vr 7) (de_ix (hu1 hr) (vr 4) (vr 6))))) (fun _ _ _ _ _ => (vr 6))) da_nil)) da_nil))))))))))))
theorem ok_safe_of (G : Facts K mg) (F : ∃ fd, FunD K "safe_of" "safe_of" (defArgs s_safe_of) (defBody s_safe_of) (defScope s_safe_of) [] [] ((pG "safe_of") K) fd) (od_tops_of : OkFd P w0 K mg base (tab K) 5 ((pG "tops_of") K) ["book", "skipped"] [.tup []] c_tops_of) (o_numbers_next : OkF P w0 K mg base (tab K) 6 ((pG "numbers_next") K) ["book", "names"] c_numbers_next) : OkF P w0 K mg base (tab K) 7 ((pG "safe_of") K) ["book", "names"] c_safe_of := by
  obtain ⟨fd, F⟩ := F
  refine ⟨fd, (fn_con (k := 6) F S_safe_of (w := w_safe_of) fun cdv A outer s H E F0 m0 H0 hr => ?_).imp fun _ _ _ _ h => loc_sp h, F.bindsN fun _ _ _ _ _ _ us hl => match us, hl with | [_, _], _ => rfl, F.kp⟩
  exact (dss_cons (ds_asg (c_fnD od_tops_of (hr.mono (by decide)) G.gl_tops_of (da_cons (vr 0) da_nil)) (gn 2 S_safe_of.nd))
  (dss_one (ds_ret (k_all rfl G.fr_all (da_cons (de_lc (own := false) (ow := [("life", 3), ("number", 4)]) rfl S_safe_of.nd (di_seq (de_fz 1 (c_fn o_numbers_next (hr.mono (by decide)) G.gl_numbers_next (da_cons (vr 0) (da_cons (vr 1) da_nil))))) (blkOk_by (by kernel_rfl)) (by decide) (fun _ _ _ _ _ => (dg_tup rfl (dgs_cons (gn 3 S_safe_of.nd) (dgs_cons (gn 4 S_safe_of.nd) dgs_nil)))) (fun _ _ _ _ _ => dts_nil) (fun _ _ _ _ _ => (cmp_gt (vr 4) (de_ix (hu1 hr) (vr 2) (vr 3))))) da_nil)))))
theorem ok_safe (G : Facts K mg) (F : ∃ fd, FunD K "safe" "safe" (defArgs s_safe) (defBody s_safe) (defScope s_safe) [] [] ((pG "safe") K) fd) (o_check_asked : OkF P w0 K mg base (tab K) 8 ((pG "check_asked") K) ["book", "names"] c_check_asked) (o_safe_of : OkF P w0 K mg base (tab K) 7 ((pG "safe_of") K) ["book", "names"] c_safe_of) : OkF P w0 K mg base (tab K) 9 ((pG "safe") K) ["book", "names"] c_safe := by
  obtain ⟨fd, F⟩ := F
  refine ⟨fd, (fn_con (k := 8) F S_safe (w := w_safe) fun cdv A outer s H E F0 m0 H0 hr => ?_).imp fun _ _ _ _ h => loc_sp h, F.bindsN fun _ _ _ _ _ _ us hl => match us, hl with | [_, _], _ => rfl, F.kp⟩
  exact (dss_cons (ds_expr (c_fn o_check_asked (hr.mono (by decide)) G.gl_check_asked (da_cons (vr 0) (da_cons (vr 1) da_nil))))
  (dss_one (ds_ret (c_fn o_safe_of (hr.mono (by decide)) G.gl_safe_of (da_cons (vr 0) (da_cons (vr 1) da_nil))))))
theorem ok_safe_garments (G : Facts K mg) (F : ∃ fd, FunD K "safe_garments" "safe_garments" (defArgs s_safe_garments) (defBody s_safe_garments) (defScope s_safe_garments) [] [] ((pG "safe_garments") K) fd) (o_check_book : OkF P w0 K mg base (tab K) 1 ((pG "check_book") K) ["value"] c_check_book) (o_check_possible : OkF P w0 K mg base (tab K) 7 ((pG "check_possible") K) ["book"] c_check_possible) (o_Book_garments : OkF P w0 K mg base (tab K) 1 ((pP "Book" "garments") K) ["self"] c_Book_garments) (o_safe_of : OkF P w0 K mg base (tab K) 7 ((pG "safe_of") K) ["book", "names"] c_safe_of) : OkF P w0 K mg base (tab K) 8 ((pG "safe_garments") K) ["book"] c_safe_garments := by
  obtain ⟨fd, F⟩ := F
  refine ⟨fd, (fn_con (k := 7) F S_safe_garments (w := w_safe_garments) fun cdv A outer s H E F0 m0 H0 hr => ?_).imp fun _ _ _ _ h => loc_sp h, F.bindsN fun _ _ _ _ _ _ us hl => match us, hl with | [_], _ => rfl, F.kp⟩
  exact (dss_cons (ds_expr (c_fn o_check_book (hr.mono (by decide)) G.gl_check_book (da_cons (vr 0) da_nil)))
  (dss_cons (ds_expr (c_fn o_check_possible (hr.mono (by decide)) G.gl_check_possible (da_cons (vr 0) da_nil)))
  (dss_one (ds_ret (k_tuple G.fr_tuple (da_cons (de_lc (own := false) (ow := [("name", 1), ("dye", 2), ("top", 3)]) rfl S_safe_garments.nd (di_seq (de_fz 1 (c_pr o_Book_garments ⟨G.cl_Book, G.pr_Book_garments⟩ (hr.mono (by decide)) (vr 0)))) (blkOk_by (by kernel_rfl)) (by decide) (fun _ _ _ _ _ => (dg_tup rfl (dgs_cons (gn 1 S_safe_garments.nd) (dgs_cons (gn 2 S_safe_garments.nd) (dgs_cons (gn 3 S_safe_garments.nd) dgs_nil))))) (fun _ _ _ _ _ => (dts_one (dt_truth (c_fn o_safe_of (hr.mono (by decide)) G.gl_safe_of (da_cons (vr 0) (da_cons (de_tup (da_cons (vr 1) da_nil)) da_nil)))))) (fun _ _ _ _ _ => (vr 1))) da_nil))))))
theorem ok_Book_with_line (G : Facts K mg) (F : ∃ fd, FunD K "with_line" "Book.with_line" (defArgs s_Book_with_line) (defBody s_Book_with_line) (defScope s_Book_with_line) [] [] ((pM "Book" "with_line") K) fd) (o_entry_in : OkF P w0 K mg base (tab K) 3 ((pG "entry_in") K) ["garments", "line"] c_entry_in) (o_Book_init : OkF P w0 K mg base (tab K) 5 ((pM "Book" "__init__") K) ["self", "garments", "lines"] c_Book_init) : OkF P w0 K mg base (tab K) 7 ((pM "Book" "with_line") K) ["self", "line"] c_Book_with_line := by
  obtain ⟨fd, F⟩ := F
  refine ⟨fd, (fn_con (k := 6) F S_Book_with_line (w := w_Book_with_line) fun cdv A outer s H E F0 m0 H0 hr => ?_).imp fun _ _ _ _ h => loc_sp h, F.bindsN fun _ _ _ _ _ _ us hl => match us, hl with | [_, _], _ => rfl, F.kp⟩
  exact (dss_cons (ds_if (t_is (c_fn o_entry_in (hr.mono (by decide)) G.gl_entry_in (da_cons (de_fld G.fl_Book_clothes (vr 0)) (da_cons (vr 1) da_nil))) de_non)
  (dss_one ds_never) dss_nil)
  (dss_cons (ds_if (t_eq (hu64 hr) (k_len G.fr_len (da_cons (de_fld G.fl_Book_told (vr 0)) da_nil)) (de_gint rfl G.gi_MOST_LINES))
  (dss_one ds_never) dss_nil)
  (dss_one (ds_ret (de_loc fun _ _ _ => de_fz 9 (c_mk o_Book_init G.mk_Book (hr.mono (by decide)) G.gl_Book (da_cons (de_fld G.fl_Book_clothes (vr 0)) (da_cons (de_tup (da_star (de_fld G.fl_Book_told (vr 0)) (da_cons (vr 1) da_nil))) da_nil))))))))
theorem ok__law_single_right (G : Facts K mg) (F : ∃ fd, FunD K "_law_single_right" "_law_single_right" (defArgs s__law_single_right) (defBody s__law_single_right) (defScope s__law_single_right) [] [] ((pG "_law_single_right") K) fd) (o_Book_init : OkF P w0 K mg base (tab K) 5 ((pM "Book" "__init__") K) ["self", "garments", "lines"] c_Book_init) (o_seen : OkF P w0 K mg base (tab K) 9 ((pG "seen") K) ["book", "names"] c_seen) (o_washes_left : OkF P w0 K mg base (tab K) 8 ((pG "washes_left") K) ["book", "name"] c_washes_left) (o_bleeders : OkF P w0 K mg base (tab K) 8 ((pG "bleeders") K) ["book", "index", "dye"] c_bleeders) (o_safe : OkF P w0 K mg base (tab K) 9 ((pG "safe") K) ["book", "names"] c_safe) (o_safe_garments : OkF P w0 K mg base (tab K) 8 ((pG "safe_garments") K) ["book"] c_safe_garments) (o_Book_with_line : OkF P w0 K mg base (tab K) 7 ((pM "Book" "with_line") K) ["self", "line"] c_Book_with_line) : OkF P w0 K mg base (tab K) 10 ((pG "_law_single_right") K) ["_law_tag", "_law_hue", "_law_w", "_law_v"] c__law_single_right := by
  obtain ⟨fd, F⟩ := F
  refine ⟨fd, (fn_con (k := 9) F S__law_single_right (w := w__law_single_right) fun cdv A outer s H E F0 m0 H0 hr => ?_).imp fun _ _ _ _ h => loc_sp h, F.bindsN fun _ _ _ _ _ _ us hl => match us, hl with | [_, _, _, _], _ => rfl, F.kp⟩
  exact (dss_cons (ds_asg (o_add (o_add (o_add (de_str rfl) (vr 0)) (de_str rfl)) (vr 1)) (gn 4 S__law_single_right.nd))
  (dss_cons (ds_asg (o_add (o_mul (de_lst (da_cons (vr 4) da_nil)) (o_sub (vr 2) de_int)) (de_lst (da_cons (o_add (o_add (o_add (de_str rfl) (vr 0)) (de_str rfl)) (vr 1)) da_nil))) (gn 5 S__law_single_right.nd))
  (dss_cons (ds_asg (de_loc fun _ _ _ => de_fz 9 (c_mk o_Book_init G.mk_Book (hr.mono (by decide)) G.gl_Book (da_cons (de_tup (da_cons (de_tup (da_cons (vr 0) (da_cons (vr 1) (da_cons de_int da_nil)))) da_nil)) (da_cons (k_tuple G.fr_tuple (da_cons (vr 5) da_nil)) da_nil)))) (gn 6 S__law_single_right.nd))
  (dss_cons (ds_if (DW.dt (dw_or (t_ne (hu64 hr) (c_fn o_seen (hr.mono (by decide)) G.gl_seen (da_cons (vr 6) (da_cons (de_tup (da_cons (vr 0) da_nil)) da_nil))) (de_tup (da_cons (de_tup (da_cons (vr 1) (da_cons (de_if (t_lt (vr 2) de_int) (de_str rfl) (de_str rfl)) da_nil))) da_nil))) (dw_or1 (t_ne (hu64 hr) (c_fn o_washes_left (hr.mono (by decide)) G.gl_washes_left (da_cons (vr 6) (da_cons (vr 0) da_nil))) (o_sub de_int (vr 2))))))
  (dss_one (ds_ret de_bl)) dss_nil)
  (dss_cons (ds_if (DW.dt (dw_or (t_ne (hu64 hr) (c_fn o_bleeders (hr.mono (by decide)) G.gl_bleeders (da_cons (vr 6) (da_cons (o_sub (vr 2) de_int) (da_cons (vr 1) da_nil)))) (de_tup (da_cons (de_tup (da_cons de_int da_nil)) (da_cons (de_tup (da_cons de_int da_nil)) da_nil)))) (dw_or1 (t_ne (hu64 hr) (c_fn o_safe (hr.mono (by decide)) G.gl_safe (da_cons (vr 6) (da_cons (de_tup (da_cons (vr 0) da_nil)) da_nil))) (cmp_eq (hu64 hr) (vr 2) de_int)))))
  (dss_one (ds_ret de_bl)) dss_nil)
  (dss_cons (ds_asg (de_loc fun _ _ _ => de_fz 9 (c_mk o_Book_init G.mk_Book (hr.mono (by decide)) G.gl_Book (da_cons (de_tup (da_cons (de_tup (da_cons (vr 0) (da_cons (vr 1) (da_cons de_int da_nil)))) da_nil)) (da_cons (k_tuple G.fr_tuple (da_cons (o_add (o_add (vr 5) (o_mul (de_lst (da_cons (vr 4) da_nil)) (o_sub (o_sub (vr 3) (vr 2)) de_int))) (de_lst (da_cons (o_add (de_str rfl) (vr 0)) da_nil))) da_nil)) da_nil)))) (gn 7 S__law_single_right.nd))
  (dss_cons (ds_if (DW.dt (dw_or (t_ne (hu64 hr) (c_fn o_safe_garments (hr.mono (by decide)) G.gl_safe_garments (da_cons (vr 7) da_nil)) (de_tup (da_cons (vr 0) da_nil))) (dw_or (t_ne (hu64 hr) (c_fn o_seen (hr.mono (by decide)) G.gl_seen (da_cons (vr 7) (da_cons (de_tup (da_cons (vr 0) da_nil)) da_nil))) (de_tup (da_cons (de_tup (da_cons (vr 1) (da_cons (de_str rfl) da_nil))) da_nil))) (dw_or1 (t_ne (hu64 hr) (c_fn o_washes_left (hr.mono (by decide)) G.gl_washes_left (da_cons (vr 7) (da_cons (vr 0) da_nil))) de_int)))))
  (dss_one (ds_ret de_bl)) dss_nil)
  (dss_cons (ds_asg (c_me o_Book_with_line G.mf_Book_with_line (hr.mono (by decide)) (vr 7) (da_cons (o_add (de_str rfl) (vr 0)) da_nil)) (gn 8 S__law_single_right.nd))
  (dss_one (ds_ret (de_and (cmp_eq (hu64 hr) (c_fn o_seen (hr.mono (by decide)) G.gl_seen (da_cons (vr 8) (da_cons (de_tup (da_cons (vr 0) da_nil)) da_nil))) (de_tup (da_cons (de_tup (da_cons (vr 1) (da_cons (de_str rfl) da_nil))) da_nil))) (de_and (cmp_eq (hu64 hr) (c_fn o_washes_left (hr.mono (by decide)) G.gl_washes_left (da_cons (vr 8) (da_cons (vr 0) da_nil))) de_int) (de_one (cmp_eq (hu64 hr) (c_fn o_safe_garments (hr.mono (by decide)) G.gl_safe_garments (da_cons (vr 8) da_nil)) (de_tup da_nil)))))))))))))))
theorem ok__law_pair_right (G : Facts K mg) (F : ∃ fd, FunD K "_law_pair_right" "_law_pair_right" (defArgs s__law_pair_right) (defBody s__law_pair_right) (defScope s__law_pair_right) [] [] ((pG "_law_pair_right") K) fd) (o_Book_init : OkF P w0 K mg base (tab K) 5 ((pM "Book" "__init__") K) ["self", "garments", "lines"] c_Book_init) (o_bleeders : OkF P w0 K mg base (tab K) 8 ((pG "bleeders") K) ["book", "index", "dye"] c_bleeders) (o_safe_garments : OkF P w0 K mg base (tab K) 8 ((pG "safe_garments") K) ["book"] c_safe_garments) : OkF P w0 K mg base (tab K) 9 ((pG "_law_pair_right") K) ["_law_tags", "_law_hue", "_law_top"] c__law_pair_right := by
  obtain ⟨fd, F⟩ := F
  refine ⟨fd, (fn_con (k := 8) F S__law_pair_right (w := w__law_pair_right) fun cdv A outer s H E F0 m0 H0 hr => ?_).imp fun _ _ _ _ h => loc_sp h, F.bindsN fun _ _ _ _ _ _ us hl => match us, hl with | [_, _, _], _ => rfl, F.kp⟩
  exact (dss_cons (ds_asg (de_tup (da_cons (de_tup (da_cons (de_ix (hu1 hr) (vr 0) de_int) (da_cons (vr 1) (da_cons (vr 2) da_nil)))) (da_cons (de_tup (da_cons (de_ix (hu1 hr) (vr 0) de_int) (da_cons (vr 1) (da_cons (vr 2) da_nil)))) da_nil))) (gn 3 S__law_pair_right.nd))
  (dss_cons (ds_asg (o_add (o_add (o_add (o_add (o_add (de_str rfl) (de_ix (hu1 hr) (vr 0) de_int)) (de_str rfl)) (de_ix (hu1 hr) (vr 0) de_int)) (de_str rfl)) (vr 1)) (gn 4 S__law_pair_right.nd))
  (dss_cons (ds_asg (de_loc fun _ _ _ => de_fz 9 (c_mk o_Book_init G.mk_Book (hr.mono (by decide)) G.gl_Book (da_cons (vr 3) (da_cons (de_tup (da_cons (vr 4) da_nil)) da_nil)))) (gn 5 S__law_pair_right.nd))
  (dss_cons (ds_if (DW.dt (dw_or (t_ne (hu64 hr) (c_fn o_bleeders (hr.mono (by decide)) G.gl_bleeders (da_cons (vr 5) (da_cons de_int (da_cons (vr 1) da_nil)))) (de_tup (da_cons (de_tup da_nil) (da_cons (de_tup (da_cons de_int (da_cons de_int da_nil))) da_nil)))) (dw_or1 (t_ne (hu64 hr) (c_fn o_safe_garments (hr.mono (by decide)) G.gl_safe_garments (da_cons (vr 5) da_nil)) (de_if (t_gt (vr 2) de_int) (de_tup da_nil) (k_tuple G.fr_tuple (da_cons (de_slice (vr 0) do_none (do_some de_int)) da_nil)))))))
  (dss_one (ds_ret de_bl)) dss_nil)
  (dss_cons (ds_asg (de_loc fun _ _ _ => de_fz 9 (c_mk o_Book_init G.mk_Book (hr.mono (by decide)) G.gl_Book (da_cons (de_tup (da_cons (de_ix (hu1 hr) (vr 3) de_int) (da_cons (de_tup (da_cons (de_ix (hu1 hr) (vr 0) de_int) (da_cons (vr 1) (da_cons de_int da_nil)))) da_nil))) (da_cons (de_tup (da_cons (vr 4) da_nil)) da_nil)))) (gn 6 S__law_pair_right.nd))
  (dss_cons (ds_asg (k_tuple G.fr_tuple (da_cons (de_slice (vr 0) do_none (do_some de_int)) da_nil)) (gn 7 S__law_pair_right.nd))
  (dss_cons (ds_if (DW.dt (dw_or (t_ne (hu64 hr) (c_fn o_bleeders (hr.mono (by decide)) G.gl_bleeders (da_cons (vr 6) (da_cons de_int (da_cons (vr 1) da_nil)))) (de_tup (da_cons (de_tup (da_cons de_int da_nil)) (da_cons (de_tup (da_cons de_int da_nil)) da_nil)))) (dw_or1 (t_ne (hu64 hr) (c_fn o_safe_garments (hr.mono (by decide)) G.gl_safe_garments (da_cons (vr 6) da_nil)) (de_if (t_gt (vr 2) de_int) (de_slice (vr 7) (do_some de_int) do_none) (vr 7))))))
  (dss_one (ds_ret de_bl)) dss_nil)
  (dss_cons (ds_asg (de_loc fun _ _ _ => de_fz 9 (c_mk o_Book_init G.mk_Book (hr.mono (by decide)) G.gl_Book (da_cons (vr 3) (da_cons (de_tup (da_cons (vr 4) (da_cons (o_add (de_str rfl) (de_ix (hu1 hr) (vr 0) de_int)) (da_cons (o_add (de_str rfl) (de_ix (hu1 hr) (vr 0) de_int)) da_nil)))) da_nil)))) (gn 8 S__law_pair_right.nd))
  (dss_one (ds_ret (de_and (cmp_eq (hu64 hr) (c_fn o_bleeders (hr.mono (by decide)) G.gl_bleeders (da_cons (vr 8) (da_cons de_int (da_cons (vr 1) da_nil)))) (de_tup (da_cons (de_tup da_nil) (da_cons (de_tup (da_cons de_int (da_cons de_int da_nil))) da_nil)))) (de_one (cmp_eq (hu64 hr) (c_fn o_safe_garments (hr.mono (by decide)) G.gl_safe_garments (da_cons (vr 8) da_nil)) (de_if (t_gt (vr 2) de_int) (de_slice (vr 7) do_none (do_some de_int)) (vr 7)))))))))))))))
theorem ok__law_right (G : Facts K mg) (F : ∃ fd, FunD K "_law_right" "_law_right" (defArgs s__law_right) (defBody s__law_right) (defScope s__law_right) [] [] ((pG "_law_right") K) fd) (o__law_ladle : OkF P w0 K mg base (tab K) 1 ((pG "_law_ladle") K) ["_law_urn_here", "_law_top"] c__law_ladle) (o__law_pick : OkF P w0 K mg base (tab K) 2 ((pG "_law_pick") K) ["_law_urn_here", "_law_things"] c__law_pick) (o__law_single_right : OkF P w0 K mg base (tab K) 10 ((pG "_law_single_right") K) ["_law_tag", "_law_hue", "_law_w", "_law_v"] c__law_single_right) (o__law_pair_right : OkF P w0 K mg base (tab K) 9 ((pG "_law_pair_right") K) ["_law_tags", "_law_hue", "_law_top"] c__law_pair_right) : OkF P w0 K mg base (tab K) 11 ((pG "_law_right") K) ["_law_urn_here"] c__law_right := by
  obtain ⟨fd, F⟩ := F
  refine ⟨fd, (fn_con (k := 10) F S__law_right (w := w__law_right) fun cdv A outer s H E F0 m0 H0 hr => ?_).imp fun _ _ _ _ h => loc_sp h, F.bindsN fun _ _ _ _ _ _ us hl => match us, hl with | [_], _ => rfl, F.kp⟩
  exact (dss_cons (ds_asg (de_slice (de_lst (da_cons (de_str rfl) (da_cons (de_str rfl) (da_cons (de_str rfl) da_nil)))) (do_some (de_gc fun _ _ _ => (c_fn o__law_ladle (hr.mono (by decide)) G.gl__law_ladle (da_cons (vr 0) (da_cons de_int da_nil))))) do_none) (gn 1 S__law_right.nd))
  (dss_cons (ds_par (i := 2) (j := 3) rfl S__law_right.nd rfl rfl (by decide) rfl rfl (da_cons (o_add de_int (de_gc fun _ _ _ => (c_fn o__law_ladle (hr.mono (by decide)) G.gl__law_ladle (da_cons (vr 0) (da_cons de_int da_nil))))) (da_cons (o_add de_int (de_gc fun _ _ _ => (c_fn o__law_ladle (hr.mono (by decide)) G.gl__law_ladle (da_cons (vr 0) (da_cons de_int da_nil))))) da_nil)) rfl)
  (dss_cons (ds_par (i := 4) (j := 5) rfl S__law_right.nd rfl rfl (by decide) rfl rfl (da_cons (o_add (o_add (vr 2) de_int) (de_gc fun _ _ _ => (c_fn o__law_ladle (hr.mono (by decide)) G.gl__law_ladle (da_cons (vr 0) (da_cons (o_sub de_int (vr 2)) da_nil))))) (da_cons (de_gc fun _ _ _ => (c_fn o__law_pick (hr.mono (by decide)) G.gl__law_pick (da_cons (vr 0) (da_cons (de_lst (da_cons (de_str rfl) (da_cons (de_str rfl) (da_cons (de_str rfl) da_nil)))) da_nil)))) da_nil)) rfl)
  (dss_one (ds_ret (de_and (c_fn o__law_single_right (hr.mono (by decide)) G.gl__law_single_right (da_cons (de_ix (hu1 hr) (vr 1) de_int) (da_cons (vr 5) (da_cons (vr 2) (da_cons (vr 4) da_nil))))) (de_one (c_fn o__law_pair_right (hr.mono (by decide)) G.gl__law_pair_right (da_cons (vr 1) (da_cons (vr 5) (da_cons (vr 3) da_nil)))))))))))
theorem ok_law (G : Facts K mg) {fd : FuncData} (F : FunD K "law" "law" (defArgs s_law) (defBody s_law) (defScope s_law) [] [] ((pG "law") K) fd) (o__law_urn : OkF P w0 K mg base (tab K) 1 ((pG "_law_urn") K) ["_law_script", "_law_k"] c__law_urn) (o__law_right : OkF P w0 K mg base (tab K) 11 ((pG "_law_right") K) ["_law_urn_here"] c__law_right) : FnC P w0 K mg base (tab K) 12 ((pG "law") K) fd ["_law_script"] c_law := by
  refine (fn_con (k := 11) F S_law (w := w_law) fun cdv A outer s H E F0 m0 H0 hr => ?_).imp fun _ _ _ _ h => loc_sp h
  exact (dss_cons (ds_setLc (i := 1) (own := false) (ow := [("_law_k", 2)]) rfl S_law.nd (di_range1 rfl G.fr_range (k_max2 rfl G.fr_max (da_cons de_int (da_cons (k_min2 rfl G.fr_min (da_cons (k_len G.fr_len (da_cons (vr 0) da_nil)) (da_cons de_int da_nil))) da_nil)))) (blkOk_by (by kernel_rfl)) (by decide) (fun _ _ _ _ _ => (gn 2 S_law.nd)) (fun _ _ _ _ _ => dts_nil) (fun _ _ _ _ _ => (c_fn o__law_urn (hr.mono (by decide)) G.gl__law_urn (da_cons (vr 0) (da_cons (vr 2) da_nil)))))
  (dss_one (ds_ret (k_all rfl G.fr_all (da_cons (de_lc (own := false) (ow := [("_law_urn_here", 3)]) rfl S_law.nd (di_seq (de_fz 1 (vr 1))) (blkOk_by (by kernel_rfl)) (by decide) (fun _ _ _ _ _ => (gn 3 S_law.nd)) (fun _ _ _ _ _ => dts_nil) (fun _ _ _ _ _ => (de_gc fun _ _ _ => (c_fn o__law_right (hr.mono (by decide)) G.gl__law_right (da_cons (vr 3) da_nil))))) da_nil)))))
end
end K30

/-! What draws come from: small readings, no program in sight. -/
namespace KU
open PySem PySem.Spec PyProof.Rows L2 Pk
def eN (n : Nat) : D := .int (n : Nat)
/-- what draws come from -/
def IsCup (c : MO) : Prop := ∃ g s n : Int, c = .lst [.int g, .int s, .int n]
theorem IsCup.noM {c : MO} (h : IsCup c) : noMO c = true := by
  obtain ⟨g, s, n, rfl⟩ := h
  rfl
theorem sd3 {a b c d : D} : setD (.lst [a, b, c]) (.int 0) d = some (.lst [d, b, c]) ∧ setD (.lst [a, b, c]) (.int 1) d = some (.lst [a, d, c]) ∧ setD (.lst [a, b, c]) (.int 2) d = some (.lst [a, b, d]) := ⟨rfl, rfl, rfl⟩
theorem mul_l {i j : Int} (h : smallI i = true) : mulD (.int i) (.int j) = some (.int (i * j)) := by simp only [mulD, h, Bool.true_or]
theorem mul_r {i j : Int} (h : smallI j = true) : mulD (.int i) (.int j) = some (.int (i * j)) := by simp only [mulD, h, Bool.or_true]
theorem mod_ok {i j : Int} (h0 : 0 < j) : modD (.int i) (.int j) = some (.int (i % j)) := by simp only [modD, decide_eq_true h0]
theorem dm_ok {i j : Int} (h0 : 0 < j) (h1 : j < 1073741824) : divmodD (.int i) (.int j) = some (.tup [.int (i / j), .int (i % j)]) := by simp only [divmodD, decide_eq_true h0, decide_eq_true h1]
theorem fdiv_ok {i j : Int} (h0 : 0 < j) (h1 : j < 1073741824) : fdivD (.int i) (.int j) = some (.int (i / j)) := by simp only [fdivD, decide_eq_true h0, decide_eq_true h1, Bool.and_self]
theorem int_int {i : Int} : Pk.intD (.int i) = some (.int i) := rfl
theorem mul_ok {i j : Int} (h : (smallI i || smallI j) = true) : mulD (.int i) (.int j) = some (.int (i * j)) := by simp only [mulD, h]
section
variable {i j : Int} {xs : List Int} {t : Nat} {μ : Sto}
theorem lks : look μ (.scr xs) = .scr xs := rfl
theorem m3001 : mulD (.int 3001) (.int i) = some (.int (3001 * i)) := mul_ok (by rw [show smallI 3001 = true from rfl, Bool.true_or])
theorem m26021 : mulD (.int i) (.int 26021) = some (.int (i * 26021)) := mul_ok (by rw [show smallI 26021 = true from rfl, Bool.or_true])
theorem mdC : modD (.int i) (.int 2147483477) = some (.int (i % 2147483477)) := rfl
theorem inI : Pk.intD (.int i) = some (.int i) := rfl
theorem abI : absD (.int i) = some (.int (match decide (i < 0) with | true => -i | false => i)) := rfl
theorem lnS : lenD (.scr xs) = some (.int xs.length) := rfl
theorem ixS : ixD (.scr xs) (.int i) = match atG xs i with | some k => some (.int k) | none => none := rfl
theorem slS {lo hi : Option Int} : slD (.scr xs) lo hi = some (.lst ((cutG xs lo hi).map .int)) := rfl
theorem pwD : powD (.int 10) (.int 18) = some (.int 1000000000000000000) := rfl
theorem gtE : geD (.int i) (.int j) = some (.bl (decide (i ≥ j))) := rfl
theorem ltE : ltD (.int i) (.int j) = some (.bl (decide (i < j))) := rfl
end
end KU

namespace K30
open PySem PySem.Spec PyProof.Rows L2 Pk K58 KU
/-- several urns -/
structure Urns (n : Nat) (μ : Sto) : Prop where
  len : μ.length = n
  cup : ∀ c ∈ μ, IsCup c
theorem cups_noM : ∀ {μ : Sto}, (∀ c ∈ μ, IsCup c) → noMOs μ = true
  | [], _ => rfl
  | c :: r, h => by
    have h1 := (h c (by simp)).noM
    have h2 := cups_noM fun c hc => h c (List.mem_cons_of_mem _ hc)
    simp only [noMOs, h1, h2]
theorem Urns.noM {n : Nat} {μ : Sto} (h : Urns n μ) : noMOs μ = true := cups_noM h.cup
theorem Urns.at {n k : Nat} {μ : Sto} (h : Urns n μ) (hk : k < n) : ∃ g s m : Int, μ[k]? = some (.lst [.int g, .int s, .int m]) := by
  have hl : k < μ.length := by rw [h.len]; exact hk
  obtain ⟨g, s, m, e⟩ := h.cup _ (List.getElem_mem hl)
  exact ⟨g, s, m, by rw [List.getElem?_eq_getElem hl, e]⟩
theorem Urns.set {n k : Nat} {μ : Sto} (h : Urns n μ) {c : MO} (hc : IsCup c) : Urns n (μ.set k c) :=
  ⟨by rw [List.length_set]; exact h.len, fun c' h' => by
    rcases List.mem_or_eq_of_mem_set h' with q | q
    · exact h.cup c' q
    · rw [q]; exact hc⟩
theorem m_ladle {n k : Nat} {μ : Sto} (hu : Urns n μ) (hk : k < n) {size : Int} {Q : QD} {E : QX} (h0 : 0 < size) (h1 : size < 1000000) (h : ∀ μ' f, Urns n μ' → 0 ≤ f → f < size → Q (.int f) μ') :
    c__law_ladle [.mref k, .int size] μ Q E := by
  obtain ⟨g, s, m, e0⟩ := hu.at hk
  have hl : k < μ.length := by rw [hu.len]; exact hk
  rw [u__law_ladle rfl]
  unfold w__law_ladle
  have gs : ∀ x : MO, (μ.set k x)[k]? = some x := fun x => List.getElem?_set_self hl
  have ss : ∀ x y : MO, (μ.set k x).set k y = μ.set k y := fun x y => List.set_set ..
  have lk0 : look μ (.mref k) = .lst [.int g, .int s, .int m] := by simp only [look, e0]
  have lk1 : ∀ xs, look (μ.set k (.lst xs)) (.mref k) = .lst xs := fun xs => by simp only [look, gs]
  have a2 : ∀ j, mulD (.int 20011) (.int j) = some (.int (20011 * j)) := fun j => mul_l (show smallI 20011 = true from rfl)
  have a1 : modD (.int s) (.int 13007) = some (.int (s % 13007)) := mod_ok (by decide)
  have b0 := Int.emod_nonneg s (show (13007 : Int) ≠ 0 by decide)
  have b1' := Int.emod_lt_of_pos s (show (0 : Int) < 13007 by decide)
  have a7 : mulD (.int s) (.int (s % 13007 + 24001)) = some (.int (s * (s % 13007 + 24001))) := mul_r (smallI_of (by omega) (by omega))
  have a3 : ∀ i, modD (.int i) (.int 2147483059) = some (.int (i % 2147483059)) := fun i => mod_ok (by decide)
  have a4 : ∀ i, fdivD (.int i) (.int 96) = some (.int (i / 96)) := fun i => fdiv_ok (by decide) (by decide)
  have a5 : ∀ i, modD (.int i) (.int size) = some (.int (i % size)) := fun i => mod_ok h0
  have a6 := dm_ok (i := g) h0 (by omega)
  have r1 := Int.emod_nonneg g (by omega : size ≠ 0)
  have r2 := Int.emod_lt_of_pos g h0
  simp only [wp0, wp1, lk_mref, lineBs, Nat.beq_refl, List.append_nil, List.length_cons, List.length_nil, Nat.zero_add, Nat.reduceAdd, List.getElem?_cons_zero, List.getElem?_cons_succ, List.set_cons_zero, List.set_cons_succ, Bool.not_true, Bool.not_false, e0, gs, ss, lk0, lk1, sd3, a1, a2, a3, a4, a5, a6, a7, KU.inI]
  cases decide (0 < g) with
  | true =>
    simp only [wp0, wp1, lk_mref, lineBs, Nat.beq_refl, List.append_nil, List.length_cons, List.length_nil, Nat.zero_add, Nat.reduceAdd, List.getElem?_cons_zero, List.getElem?_cons_succ, List.set_cons_zero, List.set_cons_succ, Bool.not_true, Bool.not_false, e0, gs, ss, lk0, lk1, sd3, a1, a2, a3, a4, a5, a6, a7, KU.inI]
    exact h _ _ (hu.set ⟨_, _, _, rfl⟩) r1 r2
  | false =>
    simp only [wp0, wp1, lk_mref, lineBs, Nat.beq_refl, List.append_nil, List.length_cons, List.length_nil, Nat.zero_add, Nat.reduceAdd, List.getElem?_cons_zero, List.getElem?_cons_succ, List.set_cons_zero, List.set_cons_succ, Bool.not_true, Bool.not_false, e0, gs, ss, lk0, lk1, sd3, a1, a2, a3, a4, a5, a6, a7, KU.inI]
    exact h _ _ (hu.set ⟨_, _, _, rfl⟩) (Int.emod_nonneg _ (by omega)) (Int.emod_lt_of_pos _ h0)
theorem Urns.gc {n : Nat} {μ μ' : Sto} (hu : Urns n μ) (hu' : Urns n μ') {Q : QD} {d : D} (hd : Pk.noM d = true) (h : Q d μ') : gcQ μ.length Q d μ' := by
  have e : μ'.take μ.length = μ' := List.take_of_length_le (by rw [hu.len, hu'.len]; exact Nat.le_refl _)
  unfold gcQ
  simp only [hd, e, hu'.noM]
  exact h
section
variable {n k : Nat} {μ : Sto} {size : Int} {w : WE} {ρ : Slots} {Q : QD} {E : QX}
theorem ladle_run (hu : Urns n μ) (hk : k < n) (h0 : 0 < size) (h1 : size < 1000000) (hv : ρ[0]? = some (some (.mref k))) (hw : ∀ Q E, w ρ μ Q E = Q (.int size) μ)
    (h : ∀ μ' f, Urns n μ' → 0 ≤ f → f < size → Q (.int f) μ') : wGc (wCallN c__law_ladle 2 [] (aCons (wVar 0) (aCons w aNil))) ρ μ Q E := by
  simp only [wp0, wp1, lk_mref, lineBs, Nat.beq_refl, List.append_nil, List.length_cons, List.length_nil, Nat.zero_add, Nat.reduceAdd, List.getElem?_cons_zero, List.getElem?_cons_succ, List.set_cons_zero, List.set_cons_succ, Bool.not_true, Bool.not_false, hv, hw, wGc]
  exact m_ladle hu hk h0 h1 fun μ' f hu' f0 f1 => hu.gc hu' rfl (h μ' f hu' f0 f1)
theorem m_pick {xs : List D} (hu : Urns n μ) (hk : k < n) (h0 : 0 < xs.length) (h1 : xs.length < 1000) (hx : noMs xs = true) (h : ∀ μ' (j : Nat) (hj : j < xs.length), Urns n μ' → Q xs[j] μ') : c__law_pick [.mref k, .lst xs] μ Q E := by
  rw [u__law_pick rfl]
  unfold w__law_pick
  have l1 : ∀ μ, look μ (.lst xs) = .lst xs := fun _ => rfl
  have ln : lenD (.lst xs) = some (.int xs.length) := rfl
  simp only [sRet, w2]
  simp only [wp0, wp1, lk_mref, lineBs, Nat.beq_refl, List.append_nil, List.length_cons, List.length_nil, Nat.zero_add, Nat.reduceAdd, List.getElem?_cons_zero, List.getElem?_cons_succ, List.set_cons_zero, List.set_cons_succ, Bool.not_true, Bool.not_false, l1]
  refine ladle_run (size := (xs.length : Int)) hu hk (by omega) (by omega) rfl (fun Q E => by simp only [wp0, wp1, lk_mref, lineBs, Nat.beq_refl, List.append_nil, List.length_cons, List.length_nil, Nat.zero_add, Nat.reduceAdd, List.getElem?_cons_zero, List.getElem?_cons_succ, List.set_cons_zero, List.set_cons_succ, Bool.not_true, Bool.not_false, l1, ln]) fun μ' f hu' f0 f1 => ?_
  obtain ⟨j, hj⟩ : ∃ j : Nat, f = (j : Int) := ⟨f.toNat, by omega⟩
  subst hj
  have hj : j < xs.length := by omega
  have i1 : ixD (.lst xs) (.int (j : Nat)) = some xs[j] := by
    show (nthG xs j) = _
    rw [nthG_eq, List.getElem?_eq_getElem hj]
  simp only [wp0, wp1, lk_mref, lineBs, Nat.beq_refl, List.append_nil, List.length_cons, List.length_nil, Nat.zero_add, Nat.reduceAdd, List.getElem?_cons_zero, List.getElem?_cons_succ, List.set_cons_zero, List.set_cons_succ, Bool.not_true, Bool.not_false, l1, i1]
  exact h μ' j hj hu'
end
theorem pick_run {ds : List D} {n k : Nat} {μ : Sto} {wl : WE} {ρ : Slots} {Q : QD} {E : QX} (hu : Urns n μ) (hk : k < n) (h0 : 0 < ds.length) (h1 : ds.length < 1000) (hx : noMs ds = true) (hx2 : ∀ d ∈ ds, Pk.noM d = true) (hv : ρ[0]? = some (some (.mref k))) (hw : ∀ Q E, wl ρ μ Q E = Q (.lst ds) μ)
    (h : ∀ μ' (j : Nat) (hj : j < ds.length), Urns n μ' → Q ds[j] μ') : wGc (wCallN c__law_pick 2 [] (aCons (wVar 0) (aCons wl aNil))) ρ μ Q E := by
  simp only [wp0, wp1, lk_mref, lineBs, Nat.beq_refl, List.append_nil, List.length_cons, List.length_nil, Nat.zero_add, Nat.reduceAdd, List.getElem?_cons_zero, List.getElem?_cons_succ, List.set_cons_zero, List.set_cons_succ, Bool.not_true, Bool.not_false, hv, hw, wGc]
  exact m_pick hu hk h0 h1 hx fun μ' j hj hu' => hu.gc hu' (hx2 _ (List.getElem_mem hj)) (h μ' j hj hu')
section
variable {i j : Int} {xs : List Int} {μ : Sto}
theorem m33013 : mulD (.int i) (.int 33013) = some (.int (i * 33013)) := mul_ok (by rw [show smallI 33013 = true from rfl, Bool.or_true])
theorem m541 : mulD (.int 541) (.int i) = some (.int (541 * i)) := mul_ok (by rw [show smallI 541 = true from rfl, Bool.true_or])
theorem m2609 : mulD (.int 2609) (.int i) = some (.int (2609 * i)) := mul_ok (by rw [show smallI 2609 = true from rfl, Bool.true_or])
theorem mdU : modD (.int i) (.int 2147483059) = some (.int (i % 2147483059)) := rfl
end
theorem m_urn {ns : List Int} (hn : ns.length ≤ 63) {t : Nat} {μ : Sto} {Q : QD} {E : QX} (h : ∀ c, IsCup c → Q (.mref μ.length) (μ ++ [c])) : c__law_urn [.scr ns, .int (t : Nat)] μ Q E := by
  have e0 : c__law_urn [.scr ns, .int (t : Nat)] μ Q E = w__law_urn (endR Q E) [some (.scr ns), some (.int (t : Nat)), none, none, none] μ := rfl
  rw [e0]
  unfold w__law_urn
  have go : ∀ x : Int, ∀ ρ2, ρ2 = some (D.int x) → (sSeq (sAsg (w2 addD (wC (.int 90031)) (w2 mulD (wC (.int 541)) (wVar 1))) (gN 3))
  (sSeq (sFor (iSeq (w2 addD (wSl (wVar 0) oNo (oYes (wC (.int 5)))) (wLst (aCons (wVar 2) aNil)))) (gN 4)
  (sAsg (w2 modD (wBu (b1 Pk.intD) (aCons (w2 addD (w2 mulD (wVar 3) (wC (.int 33013))) (wBu (b1 Pk.intD) (aCons (wVar 4) aNil))) aNil)) (wC (.int 2147483059))) (gN 3)))
  (sRet (wLstO (aCons (wIf (tOr' (tBl (w2 ltD (wVar 2) (wC (.int 0)))) (tBl (w2 geD (wVar 2) (w2 powD (wC (.int 10)) (wC (.int 18)))))) (wBu (b1 absD) (aCons (wVar 2) aNil)) (wC (.int 0))) (aCons (wVar 3) (aCons (wC (.int 0)) aNil))))))) (endR Q E) [some (.scr ns), some (.int (t : Nat)), ρ2, none, none] μ := by
    rintro x _ rfl
    have cl : (cutG ns none (some 5)).length ≤ 1000 := by
      unfold cutG
      rw [List.length_take, List.length_drop]
      omega
    have a1 : addD (.lst ((cutG ns none (some 5)).map .int)) (.lst [.int x]) = some (.lst ((cutG ns none (some 5) ++ [x]).map .int)) := by
      simp only [addD, lineB_ok (show ((cutG ns none (some 5)).map D.int).length + [D.int x].length ≤ 16777216 by rw [List.length_map]; simp only [List.length_cons, List.length_nil]; omega), List.map_append, List.map_cons, List.map_nil]
    simp only [wp0, wp1, lk_mref, lineBs, Nat.beq_refl, List.append_nil, List.length_cons, List.length_nil, Nat.zero_add, Nat.reduceAdd, List.getElem?_cons_zero, List.getElem?_cons_succ, List.set_cons_zero, List.set_cons_succ, Bool.not_true, Bool.not_false, lks, m541, slS, a1]
    refine for_imp (fun (r : List Int) ρ μ1 => ∃ s : Int, (∃ a4, ρ = [some (.scr ns), some (.int (t : Nat)), some (.int x), some (.int s), a4]) ∧ μ1 = μ) _ _ _ ⟨_, ⟨_, rfl⟩, rfl⟩ ?_ ?_
    · rintro ρ μ1 ⟨s, ⟨a4, e1⟩, e2⟩
      subst e1 e2
      simp only [wp0, wp1, lk_mref, lineBs, Nat.beq_refl, List.append_nil, List.length_cons, List.length_nil, Nat.zero_add, Nat.reduceAdd, List.getElem?_cons_zero, List.getElem?_cons_succ, List.set_cons_zero, List.set_cons_succ, Bool.not_true, Bool.not_false, ltE, gtE, pwD, abI]
      cases decide (x < 0) with
      | true =>
        simp only [wp0, wp1, lk_mref, lineBs, Nat.beq_refl, List.append_nil, List.length_cons, List.length_nil, Nat.zero_add, Nat.reduceAdd, List.getElem?_cons_zero, List.getElem?_cons_succ, List.set_cons_zero, List.set_cons_succ, Bool.not_true, Bool.not_false, ]
        exact h _ ⟨_, _, _, rfl⟩
      | false =>
        simp only [wp0, wp1, lk_mref, lineBs, Nat.beq_refl, List.append_nil, List.length_cons, List.length_nil, Nat.zero_add, Nat.reduceAdd, List.getElem?_cons_zero, List.getElem?_cons_succ, List.set_cons_zero, List.set_cons_succ, Bool.not_true, Bool.not_false, ]
        cases decide (x ≥ 1000000000000000000) with
        | true =>
          simp only [wp0, wp1, lk_mref, lineBs, Nat.beq_refl, List.append_nil, List.length_cons, List.length_nil, Nat.zero_add, Nat.reduceAdd, List.getElem?_cons_zero, List.getElem?_cons_succ, List.set_cons_zero, List.set_cons_succ, Bool.not_true, Bool.not_false, ]
          exact h _ ⟨_, _, _, rfl⟩
        | false =>
          simp only [wp0, wp1, lk_mref, lineBs, Nat.beq_refl, List.append_nil, List.length_cons, List.length_nil, Nat.zero_add, Nat.reduceAdd, List.getElem?_cons_zero, List.getElem?_cons_succ, List.set_cons_zero, List.set_cons_succ, Bool.not_true, Bool.not_false, ]
          exact h _ ⟨_, _, _, rfl⟩
    · rintro v r ρ μ1 ⟨s, ⟨a4, e1⟩, e2⟩
      subst e1 e2
      refine ⟨_, rfl, fun k hk => ?_⟩
      simp only [wp0, wp1, lk_mref, lineBs, Nat.beq_refl, List.append_nil, List.length_cons, List.length_nil, Nat.zero_add, Nat.reduceAdd, List.getElem?_cons_zero, List.getElem?_cons_succ, List.set_cons_zero, List.set_cons_succ, Bool.not_true, Bool.not_false, m33013, mdU, KU.inI]
      exact hk _ _ ⟨_, ⟨_, rfl⟩, rfl⟩
  by_cases hl : (t : Int) < (ns.length : Int)
  · obtain ⟨x, hx⟩ : ∃ x, nthG ns t = some x := ⟨ns[t]'(by omega), by rw [nthG_eq]; exact List.getElem?_eq_getElem (by omega)⟩
    have e1 : ixD (.scr ns) (.int (t : Nat)) = some (.int x) := by
      show (match nthG ns t with | some k => some (D.int k) | none => none) = _
      rw [hx]
    have e2 : ltD (.int (t : Nat)) (.int (ns.length : Nat)) = some (.bl true) := by rw [ltE, decide_eq_true hl]
    rw [show ∀ (a b : WS) De ρ μ, sSeq a b De ρ μ = a { De with nx := b De } ρ μ from fun _ _ _ _ _ => rfl]
    simp only [sAsg, wIf, tBl, w2, wBu, Pk.b1, aCons, aNil, wVar, wC, lks, lnS, e1, e2, KU.inI, List.getElem?_cons_zero, List.getElem?_cons_succ, look]
    exact go x _ rfl
  · have e2 : ltD (.int (t : Nat)) (.int (ns.length : Nat)) = some (.bl false) := by rw [ltE, decide_eq_false hl]
    rw [show ∀ (a b : WS) De ρ μ, sSeq a b De ρ μ = a { De with nx := b De } ρ μ from fun _ _ _ _ _ => rfl]
    have a0 : mulD (.int 2609) (.int (t : Nat)) = some (.int (2609 * (t : Nat))) := m2609
    have a1 : addD (.int (2609 * (t : Nat))) (.int 83) = some (.int (2609 * (t : Nat) + 83)) := rfl
    simp only [sAsg, wIf, tBl, w2, wBu, Pk.b1, aCons, aNil, wVar, wC, lks, lnS, a0, a1, e2, List.getElem?_cons_zero, List.getElem?_cons_succ, look]
    exact go _ _ rfl
end K30

namespace K30
open PySem PySem.Spec PyProof.Rows L2 Pk K58
theorem s_sock_red_1_2 (μ : Sto) (Q : QD) (E : QX) : c__law_single_right [.str [115, 111, 99, 107], .str [114, 101, 100], .int 1, .int 2] μ Q E = Q (.bl true) μ := by kernel_rfl
theorem s_sock_red_1_3 (μ : Sto) (Q : QD) (E : QX) : c__law_single_right [.str [115, 111, 99, 107], .str [114, 101, 100], .int 1, .int 3] μ Q E = Q (.bl true) μ := by kernel_rfl
theorem s_sock_red_1_4 (μ : Sto) (Q : QD) (E : QX) : c__law_single_right [.str [115, 111, 99, 107], .str [114, 101, 100], .int 1, .int 4] μ Q E = Q (.bl true) μ := by kernel_rfl
theorem s_sock_red_1_5 (μ : Sto) (Q : QD) (E : QX) : c__law_single_right [.str [115, 111, 99, 107], .str [114, 101, 100], .int 1, .int 5] μ Q E = Q (.bl true) μ := by kernel_rfl
theorem s_sock_red_1_6 (μ : Sto) (Q : QD) (E : QX) : c__law_single_right [.str [115, 111, 99, 107], .str [114, 101, 100], .int 1, .int 6] μ Q E = Q (.bl true) μ := by kernel_rfl
theorem s_sock_red_1_7 (μ : Sto) (Q : QD) (E : QX) : c__law_single_right [.str [115, 111, 99, 107], .str [114, 101, 100], .int 1, .int 7] μ Q E = Q (.bl true) μ := by kernel_rfl
theorem s_sock_red_1_8 (μ : Sto) (Q : QD) (E : QX) : c__law_single_right [.str [115, 111, 99, 107], .str [114, 101, 100], .int 1, .int 8] μ Q E = Q (.bl true) μ := by kernel_rfl
theorem s_sock_red_1_9 (μ : Sto) (Q : QD) (E : QX) : c__law_single_right [.str [115, 111, 99, 107], .str [114, 101, 100], .int 1, .int 9] μ Q E = Q (.bl true) μ := by kernel_rfl
theorem s_sock_red_1_10 (μ : Sto) (Q : QD) (E : QX) : c__law_single_right [.str [115, 111, 99, 107], .str [114, 101, 100], .int 1, .int 10] μ Q E = Q (.bl true) μ := by kernel_rfl
theorem s_sock_red_1_11 (μ : Sto) (Q : QD) (E : QX) : c__law_single_right [.str [115, 111, 99, 107], .str [114, 101, 100], .int 1, .int 11] μ Q E = Q (.bl true) μ := by kernel_rfl
theorem s_sock_red_1_12 (μ : Sto) (Q : QD) (E : QX) : c__law_single_right [.str [115, 111, 99, 107], .str [114, 101, 100], .int 1, .int 12] μ Q E = Q (.bl true) μ := by kernel_rfl
theorem s_sock_red_2_3 (μ : Sto) (Q : QD) (E : QX) : c__law_single_right [.str [115, 111, 99, 107], .str [114, 101, 100], .int 2, .int 3] μ Q E = Q (.bl true) μ := by kernel_rfl
theorem s_sock_red_2_4 (μ : Sto) (Q : QD) (E : QX) : c__law_single_right [.str [115, 111, 99, 107], .str [114, 101, 100], .int 2, .int 4] μ Q E = Q (.bl true) μ := by kernel_rfl
theorem s_sock_red_2_5 (μ : Sto) (Q : QD) (E : QX) : c__law_single_right [.str [115, 111, 99, 107], .str [114, 101, 100], .int 2, .int 5] μ Q E = Q (.bl true) μ := by kernel_rfl
theorem s_sock_red_2_6 (μ : Sto) (Q : QD) (E : QX) : c__law_single_right [.str [115, 111, 99, 107], .str [114, 101, 100], .int 2, .int 6] μ Q E = Q (.bl true) μ := by kernel_rfl
theorem s_sock_red_2_7 (μ : Sto) (Q : QD) (E : QX) : c__law_single_right [.str [115, 111, 99, 107], .str [114, 101, 100], .int 2, .int 7] μ Q E = Q (.bl true) μ := by kernel_rfl
theorem s_sock_red_2_8 (μ : Sto) (Q : QD) (E : QX) : c__law_single_right [.str [115, 111, 99, 107], .str [114, 101, 100], .int 2, .int 8] μ Q E = Q (.bl true) μ := by kernel_rfl
theorem s_sock_red_2_9 (μ : Sto) (Q : QD) (E : QX) : c__law_single_right [.str [115, 111, 99, 107], .str [114, 101, 100], .int 2, .int 9] μ Q E = Q (.bl true) μ := by kernel_rfl
theorem s_sock_red_2_10 (μ : Sto) (Q : QD) (E : QX) : c__law_single_right [.str [115, 111, 99, 107], .str [114, 101, 100], .int 2, .int 10] μ Q E = Q (.bl true) μ := by kernel_rfl
theorem s_sock_red_2_11 (μ : Sto) (Q : QD) (E : QX) : c__law_single_right [.str [115, 111, 99, 107], .str [114, 101, 100], .int 2, .int 11] μ Q E = Q (.bl true) μ := by kernel_rfl
theorem s_sock_red_2_12 (μ : Sto) (Q : QD) (E : QX) : c__law_single_right [.str [115, 111, 99, 107], .str [114, 101, 100], .int 2, .int 12] μ Q E = Q (.bl true) μ := by kernel_rfl
theorem s_sock_red_3_4 (μ : Sto) (Q : QD) (E : QX) : c__law_single_right [.str [115, 111, 99, 107], .str [114, 101, 100], .int 3, .int 4] μ Q E = Q (.bl true) μ := by kernel_rfl
theorem s_sock_red_3_5 (μ : Sto) (Q : QD) (E : QX) : c__law_single_right [.str [115, 111, 99, 107], .str [114, 101, 100], .int 3, .int 5] μ Q E = Q (.bl true) μ := by kernel_rfl
theorem s_sock_red_3_6 (μ : Sto) (Q : QD) (E : QX) : c__law_single_right [.str [115, 111, 99, 107], .str [114, 101, 100], .int 3, .int 6] μ Q E = Q (.bl true) μ := by kernel_rfl
theorem s_sock_red_3_7 (μ : Sto) (Q : QD) (E : QX) : c__law_single_right [.str [115, 111, 99, 107], .str [114, 101, 100], .int 3, .int 7] μ Q E = Q (.bl true) μ := by kernel_rfl
theorem s_sock_red_3_8 (μ : Sto) (Q : QD) (E : QX) : c__law_single_right [.str [115, 111, 99, 107], .str [114, 101, 100], .int 3, .int 8] μ Q E = Q (.bl true) μ := by kernel_rfl
theorem s_sock_red_3_9 (μ : Sto) (Q : QD) (E : QX) : c__law_single_right [.str [115, 111, 99, 107], .str [114, 101, 100], .int 3, .int 9] μ Q E = Q (.bl true) μ := by kernel_rfl
theorem s_sock_red_3_10 (μ : Sto) (Q : QD) (E : QX) : c__law_single_right [.str [115, 111, 99, 107], .str [114, 101, 100], .int 3, .int 10] μ Q E = Q (.bl true) μ := by kernel_rfl
theorem s_sock_red_3_11 (μ : Sto) (Q : QD) (E : QX) : c__law_single_right [.str [115, 111, 99, 107], .str [114, 101, 100], .int 3, .int 11] μ Q E = Q (.bl true) μ := by kernel_rfl
theorem s_sock_red_3_12 (μ : Sto) (Q : QD) (E : QX) : c__law_single_right [.str [115, 111, 99, 107], .str [114, 101, 100], .int 3, .int 12] μ Q E = Q (.bl true) μ := by kernel_rfl
theorem s_sock_red_4_5 (μ : Sto) (Q : QD) (E : QX) : c__law_single_right [.str [115, 111, 99, 107], .str [114, 101, 100], .int 4, .int 5] μ Q E = Q (.bl true) μ := by kernel_rfl
theorem s_sock_red_4_6 (μ : Sto) (Q : QD) (E : QX) : c__law_single_right [.str [115, 111, 99, 107], .str [114, 101, 100], .int 4, .int 6] μ Q E = Q (.bl true) μ := by kernel_rfl
theorem s_sock_red_4_7 (μ : Sto) (Q : QD) (E : QX) : c__law_single_right [.str [115, 111, 99, 107], .str [114, 101, 100], .int 4, .int 7] μ Q E = Q (.bl true) μ := by kernel_rfl
theorem s_sock_red_4_8 (μ : Sto) (Q : QD) (E : QX) : c__law_single_right [.str [115, 111, 99, 107], .str [114, 101, 100], .int 4, .int 8] μ Q E = Q (.bl true) μ := by kernel_rfl
theorem s_sock_red_4_9 (μ : Sto) (Q : QD) (E : QX) : c__law_single_right [.str [115, 111, 99, 107], .str [114, 101, 100], .int 4, .int 9] μ Q E = Q (.bl true) μ := by kernel_rfl
theorem s_sock_red_4_10 (μ : Sto) (Q : QD) (E : QX) : c__law_single_right [.str [115, 111, 99, 107], .str [114, 101, 100], .int 4, .int 10] μ Q E = Q (.bl true) μ := by kernel_rfl
theorem s_sock_red_4_11 (μ : Sto) (Q : QD) (E : QX) : c__law_single_right [.str [115, 111, 99, 107], .str [114, 101, 100], .int 4, .int 11] μ Q E = Q (.bl true) μ := by kernel_rfl
theorem s_sock_red_4_12 (μ : Sto) (Q : QD) (E : QX) : c__law_single_right [.str [115, 111, 99, 107], .str [114, 101, 100], .int 4, .int 12] μ Q E = Q (.bl true) μ := by kernel_rfl
theorem s_sock_red_5_6 (μ : Sto) (Q : QD) (E : QX) : c__law_single_right [.str [115, 111, 99, 107], .str [114, 101, 100], .int 5, .int 6] μ Q E = Q (.bl true) μ := by kernel_rfl
theorem s_sock_red_5_7 (μ : Sto) (Q : QD) (E : QX) : c__law_single_right [.str [115, 111, 99, 107], .str [114, 101, 100], .int 5, .int 7] μ Q E = Q (.bl true) μ := by kernel_rfl
theorem s_sock_red_5_8 (μ : Sto) (Q : QD) (E : QX) : c__law_single_right [.str [115, 111, 99, 107], .str [114, 101, 100], .int 5, .int 8] μ Q E = Q (.bl true) μ := by kernel_rfl
theorem s_sock_red_5_9 (μ : Sto) (Q : QD) (E : QX) : c__law_single_right [.str [115, 111, 99, 107], .str [114, 101, 100], .int 5, .int 9] μ Q E = Q (.bl true) μ := by kernel_rfl
theorem s_sock_red_5_10 (μ : Sto) (Q : QD) (E : QX) : c__law_single_right [.str [115, 111, 99, 107], .str [114, 101, 100], .int 5, .int 10] μ Q E = Q (.bl true) μ := by kernel_rfl
theorem s_sock_red_5_11 (μ : Sto) (Q : QD) (E : QX) : c__law_single_right [.str [115, 111, 99, 107], .str [114, 101, 100], .int 5, .int 11] μ Q E = Q (.bl true) μ := by kernel_rfl
theorem s_sock_red_5_12 (μ : Sto) (Q : QD) (E : QX) : c__law_single_right [.str [115, 111, 99, 107], .str [114, 101, 100], .int 5, .int 12] μ Q E = Q (.bl true) μ := by kernel_rfl
theorem s_sock_red_6_7 (μ : Sto) (Q : QD) (E : QX) : c__law_single_right [.str [115, 111, 99, 107], .str [114, 101, 100], .int 6, .int 7] μ Q E = Q (.bl true) μ := by kernel_rfl
theorem s_sock_red_6_8 (μ : Sto) (Q : QD) (E : QX) : c__law_single_right [.str [115, 111, 99, 107], .str [114, 101, 100], .int 6, .int 8] μ Q E = Q (.bl true) μ := by kernel_rfl
theorem s_sock_red_6_9 (μ : Sto) (Q : QD) (E : QX) : c__law_single_right [.str [115, 111, 99, 107], .str [114, 101, 100], .int 6, .int 9] μ Q E = Q (.bl true) μ := by kernel_rfl
theorem s_sock_red_6_10 (μ : Sto) (Q : QD) (E : QX) : c__law_single_right [.str [115, 111, 99, 107], .str [114, 101, 100], .int 6, .int 10] μ Q E = Q (.bl true) μ := by kernel_rfl
theorem s_sock_red_6_11 (μ : Sto) (Q : QD) (E : QX) : c__law_single_right [.str [115, 111, 99, 107], .str [114, 101, 100], .int 6, .int 11] μ Q E = Q (.bl true) μ := by kernel_rfl
theorem s_sock_red_6_12 (μ : Sto) (Q : QD) (E : QX) : c__law_single_right [.str [115, 111, 99, 107], .str [114, 101, 100], .int 6, .int 12] μ Q E = Q (.bl true) μ := by kernel_rfl
theorem s_sock_red_7_8 (μ : Sto) (Q : QD) (E : QX) : c__law_single_right [.str [115, 111, 99, 107], .str [114, 101, 100], .int 7, .int 8] μ Q E = Q (.bl true) μ := by kernel_rfl
theorem s_sock_red_7_9 (μ : Sto) (Q : QD) (E : QX) : c__law_single_right [.str [115, 111, 99, 107], .str [114, 101, 100], .int 7, .int 9] μ Q E = Q (.bl true) μ := by kernel_rfl
theorem s_sock_red_7_10 (μ : Sto) (Q : QD) (E : QX) : c__law_single_right [.str [115, 111, 99, 107], .str [114, 101, 100], .int 7, .int 10] μ Q E = Q (.bl true) μ := by kernel_rfl
theorem s_sock_red_7_11 (μ : Sto) (Q : QD) (E : QX) : c__law_single_right [.str [115, 111, 99, 107], .str [114, 101, 100], .int 7, .int 11] μ Q E = Q (.bl true) μ := by kernel_rfl
theorem s_sock_red_7_12 (μ : Sto) (Q : QD) (E : QX) : c__law_single_right [.str [115, 111, 99, 107], .str [114, 101, 100], .int 7, .int 12] μ Q E = Q (.bl true) μ := by kernel_rfl
theorem s_sock_red_8_9 (μ : Sto) (Q : QD) (E : QX) : c__law_single_right [.str [115, 111, 99, 107], .str [114, 101, 100], .int 8, .int 9] μ Q E = Q (.bl true) μ := by kernel_rfl
theorem s_sock_red_8_10 (μ : Sto) (Q : QD) (E : QX) : c__law_single_right [.str [115, 111, 99, 107], .str [114, 101, 100], .int 8, .int 10] μ Q E = Q (.bl true) μ := by kernel_rfl
theorem s_sock_red_8_11 (μ : Sto) (Q : QD) (E : QX) : c__law_single_right [.str [115, 111, 99, 107], .str [114, 101, 100], .int 8, .int 11] μ Q E = Q (.bl true) μ := by kernel_rfl
theorem s_sock_red_8_12 (μ : Sto) (Q : QD) (E : QX) : c__law_single_right [.str [115, 111, 99, 107], .str [114, 101, 100], .int 8, .int 12] μ Q E = Q (.bl true) μ := by kernel_rfl
theorem s_sock_red_9_10 (μ : Sto) (Q : QD) (E : QX) : c__law_single_right [.str [115, 111, 99, 107], .str [114, 101, 100], .int 9, .int 10] μ Q E = Q (.bl true) μ := by kernel_rfl
theorem s_sock_red_9_11 (μ : Sto) (Q : QD) (E : QX) : c__law_single_right [.str [115, 111, 99, 107], .str [114, 101, 100], .int 9, .int 11] μ Q E = Q (.bl true) μ := by kernel_rfl
theorem s_sock_red_9_12 (μ : Sto) (Q : QD) (E : QX) : c__law_single_right [.str [115, 111, 99, 107], .str [114, 101, 100], .int 9, .int 12] μ Q E = Q (.bl true) μ := by kernel_rfl
theorem s_sock_red_10_11 (μ : Sto) (Q : QD) (E : QX) : c__law_single_right [.str [115, 111, 99, 107], .str [114, 101, 100], .int 10, .int 11] μ Q E = Q (.bl true) μ := by kernel_rfl
theorem s_sock_red_10_12 (μ : Sto) (Q : QD) (E : QX) : c__law_single_right [.str [115, 111, 99, 107], .str [114, 101, 100], .int 10, .int 12] μ Q E = Q (.bl true) μ := by kernel_rfl
theorem s_sock_red_11_12 (μ : Sto) (Q : QD) (E : QX) : c__law_single_right [.str [115, 111, 99, 107], .str [114, 101, 100], .int 11, .int 12] μ Q E = Q (.bl true) μ := by kernel_rfl
theorem sing_sock_red {w v : Int} (h0 : 1 ≤ w) (h1 : w < v) (h2 : v ≤ 12) (μ : Sto) (Q : QD) (E : QX) : c__law_single_right [.str [115, 111, 99, 107], .str [114, 101, 100], .int w, .int v] μ Q E = Q (.bl true) μ := by
  have e : w = 1 ∨ w = 2 ∨ w = 3 ∨ w = 4 ∨ w = 5 ∨ w = 6 ∨ w = 7 ∨ w = 8 ∨ w = 9 ∨ w = 10 ∨ w = 11 := by omega
  rcases e with e | e | e | e | e | e | e | e | e | e | e
  · subst e
    have e : v = 2 ∨ v = 3 ∨ v = 4 ∨ v = 5 ∨ v = 6 ∨ v = 7 ∨ v = 8 ∨ v = 9 ∨ v = 10 ∨ v = 11 ∨ v = 12 := by omega
    rcases e with e | e | e | e | e | e | e | e | e | e | e
    · subst e
      exact s_sock_red_1_2 μ Q E
    · subst e
      exact s_sock_red_1_3 μ Q E
    · subst e
      exact s_sock_red_1_4 μ Q E
    · subst e
      exact s_sock_red_1_5 μ Q E
    · subst e
      exact s_sock_red_1_6 μ Q E
    · subst e
      exact s_sock_red_1_7 μ Q E
    · subst e
      exact s_sock_red_1_8 μ Q E
    · subst e
      exact s_sock_red_1_9 μ Q E
    · subst e
      exact s_sock_red_1_10 μ Q E
    · subst e
      exact s_sock_red_1_11 μ Q E
    · subst e
      exact s_sock_red_1_12 μ Q E
  · subst e
    have e : v = 3 ∨ v = 4 ∨ v = 5 ∨ v = 6 ∨ v = 7 ∨ v = 8 ∨ v = 9 ∨ v = 10 ∨ v = 11 ∨ v = 12 := by omega
    rcases e with e | e | e | e | e | e | e | e | e | e
    · subst e
      exact s_sock_red_2_3 μ Q E
    · subst e
      exact s_sock_red_2_4 μ Q E
    · subst e
      exact s_sock_red_2_5 μ Q E
    · subst e
      exact s_sock_red_2_6 μ Q E
    · subst e
      exact s_sock_red_2_7 μ Q E
    · subst e
      exact s_sock_red_2_8 μ Q E
    · subst e
      exact s_sock_red_2_9 μ Q E
    · subst e
      exact s_sock_red_2_10 μ Q E
    · subst e
      exact s_sock_red_2_11 μ Q E
    · subst e
      exact s_sock_red_2_12 μ Q E
  · subst e
    have e : v = 4 ∨ v = 5 ∨ v = 6 ∨ v = 7 ∨ v = 8 ∨ v = 9 ∨ v = 10 ∨ v = 11 ∨ v = 12 := by omega
    rcases e with e | e | e | e | e | e | e | e | e
    · subst e
      exact s_sock_red_3_4 μ Q E
    · subst e
      exact s_sock_red_3_5 μ Q E
    · subst e
      exact s_sock_red_3_6 μ Q E
    · subst e
      exact s_sock_red_3_7 μ Q E
    · subst e
      exact s_sock_red_3_8 μ Q E
    · subst e
      exact s_sock_red_3_9 μ Q E
    · subst e
      exact s_sock_red_3_10 μ Q E
    · subst e
      exact s_sock_red_3_11 μ Q E
    · subst e
      exact s_sock_red_3_12 μ Q E
  · subst e
    have e : v = 5 ∨ v = 6 ∨ v = 7 ∨ v = 8 ∨ v = 9 ∨ v = 10 ∨ v = 11 ∨ v = 12 := by omega
    rcases e with e | e | e | e | e | e | e | e
    · subst e
      exact s_sock_red_4_5 μ Q E
    · subst e
      exact s_sock_red_4_6 μ Q E
    · subst e
      exact s_sock_red_4_7 μ Q E
    · subst e
      exact s_sock_red_4_8 μ Q E
    · subst e
      exact s_sock_red_4_9 μ Q E
    · subst e
      exact s_sock_red_4_10 μ Q E
    · subst e
      exact s_sock_red_4_11 μ Q E
    · subst e
      exact s_sock_red_4_12 μ Q E
  · subst e
    have e : v = 6 ∨ v = 7 ∨ v = 8 ∨ v = 9 ∨ v = 10 ∨ v = 11 ∨ v = 12 := by omega
    rcases e with e | e | e | e | e | e | e
    · subst e
      exact s_sock_red_5_6 μ Q E
    · subst e
      exact s_sock_red_5_7 μ Q E
    · subst e
      exact s_sock_red_5_8 μ Q E
    · subst e
      exact s_sock_red_5_9 μ Q E
    · subst e
      exact s_sock_red_5_10 μ Q E
    · subst e
      exact s_sock_red_5_11 μ Q E
    · subst e
      exact s_sock_red_5_12 μ Q E
  · subst e
    have e : v = 7 ∨ v = 8 ∨ v = 9 ∨ v = 10 ∨ v = 11 ∨ v = 12 := by omega
    rcases e with e | e | e | e | e | e
    · subst e
      exact s_sock_red_6_7 μ Q E
    · subst e
      exact s_sock_red_6_8 μ Q E
    · subst e
      exact s_sock_red_6_9 μ Q E
    · subst e
      exact s_sock_red_6_10 μ Q E
    · subst e
      exact s_sock_red_6_11 μ Q E
    · subst e
      exact s_sock_red_6_12 μ Q E
  · subst e
    have e : v = 8 ∨ v = 9 ∨ v = 10 ∨ v = 11 ∨ v = 12 := by omega
    rcases e with e | e | e | e | e
    · subst e
      exact s_sock_red_7_8 μ Q E
    · subst e
      exact s_sock_red_7_9 μ Q E
    · subst e
      exact s_sock_red_7_10 μ Q E
    · subst e
      exact s_sock_red_7_11 μ Q E
    · subst e
      exact s_sock_red_7_12 μ Q E
  · subst e
    have e : v = 9 ∨ v = 10 ∨ v = 11 ∨ v = 12 := by omega
    rcases e with e | e | e | e
    · subst e
      exact s_sock_red_8_9 μ Q E
    · subst e
      exact s_sock_red_8_10 μ Q E
    · subst e
      exact s_sock_red_8_11 μ Q E
    · subst e
      exact s_sock_red_8_12 μ Q E
  · subst e
    have e : v = 10 ∨ v = 11 ∨ v = 12 := by omega
    rcases e with e | e | e
    · subst e
      exact s_sock_red_9_10 μ Q E
    · subst e
      exact s_sock_red_9_11 μ Q E
    · subst e
      exact s_sock_red_9_12 μ Q E
  · subst e
    have e : v = 11 ∨ v = 12 := by omega
    rcases e with e | e
    · subst e
      exact s_sock_red_10_11 μ Q E
    · subst e
      exact s_sock_red_10_12 μ Q E
  · subst e
    have e : v = 12 := by omega
    subst e
    exact s_sock_red_11_12 μ Q E
end K30

namespace K30
open PySem PySem.Spec PyProof.Rows L2 Pk K58
theorem s_sock_sock_1_2 (μ : Sto) (Q : QD) (E : QX) : c__law_single_right [.str [115, 111, 99, 107], .str [115, 111, 99, 107], .int 1, .int 2] μ Q E = Q (.bl true) μ := by kernel_rfl
theorem s_sock_sock_1_3 (μ : Sto) (Q : QD) (E : QX) : c__law_single_right [.str [115, 111, 99, 107], .str [115, 111, 99, 107], .int 1, .int 3] μ Q E = Q (.bl true) μ := by kernel_rfl
theorem s_sock_sock_1_4 (μ : Sto) (Q : QD) (E : QX) : c__law_single_right [.str [115, 111, 99, 107], .str [115, 111, 99, 107], .int 1, .int 4] μ Q E = Q (.bl true) μ := by kernel_rfl
theorem s_sock_sock_1_5 (μ : Sto) (Q : QD) (E : QX) : c__law_single_right [.str [115, 111, 99, 107], .str [115, 111, 99, 107], .int 1, .int 5] μ Q E = Q (.bl true) μ := by kernel_rfl
theorem s_sock_sock_1_6 (μ : Sto) (Q : QD) (E : QX) : c__law_single_right [.str [115, 111, 99, 107], .str [115, 111, 99, 107], .int 1, .int 6] μ Q E = Q (.bl true) μ := by kernel_rfl
theorem s_sock_sock_1_7 (μ : Sto) (Q : QD) (E : QX) : c__law_single_right [.str [115, 111, 99, 107], .str [115, 111, 99, 107], .int 1, .int 7] μ Q E = Q (.bl true) μ := by kernel_rfl
theorem s_sock_sock_1_8 (μ : Sto) (Q : QD) (E : QX) : c__law_single_right [.str [115, 111, 99, 107], .str [115, 111, 99, 107], .int 1, .int 8] μ Q E = Q (.bl true) μ := by kernel_rfl
theorem s_sock_sock_1_9 (μ : Sto) (Q : QD) (E : QX) : c__law_single_right [.str [115, 111, 99, 107], .str [115, 111, 99, 107], .int 1, .int 9] μ Q E = Q (.bl true) μ := by kernel_rfl
theorem s_sock_sock_1_10 (μ : Sto) (Q : QD) (E : QX) : c__law_single_right [.str [115, 111, 99, 107], .str [115, 111, 99, 107], .int 1, .int 10] μ Q E = Q (.bl true) μ := by kernel_rfl
theorem s_sock_sock_1_11 (μ : Sto) (Q : QD) (E : QX) : c__law_single_right [.str [115, 111, 99, 107], .str [115, 111, 99, 107], .int 1, .int 11] μ Q E = Q (.bl true) μ := by kernel_rfl
theorem s_sock_sock_1_12 (μ : Sto) (Q : QD) (E : QX) : c__law_single_right [.str [115, 111, 99, 107], .str [115, 111, 99, 107], .int 1, .int 12] μ Q E = Q (.bl true) μ := by kernel_rfl
theorem s_sock_sock_2_3 (μ : Sto) (Q : QD) (E : QX) : c__law_single_right [.str [115, 111, 99, 107], .str [115, 111, 99, 107], .int 2, .int 3] μ Q E = Q (.bl true) μ := by kernel_rfl
theorem s_sock_sock_2_4 (μ : Sto) (Q : QD) (E : QX) : c__law_single_right [.str [115, 111, 99, 107], .str [115, 111, 99, 107], .int 2, .int 4] μ Q E = Q (.bl true) μ := by kernel_rfl
theorem s_sock_sock_2_5 (μ : Sto) (Q : QD) (E : QX) : c__law_single_right [.str [115, 111, 99, 107], .str [115, 111, 99, 107], .int 2, .int 5] μ Q E = Q (.bl true) μ := by kernel_rfl
theorem s_sock_sock_2_6 (μ : Sto) (Q : QD) (E : QX) : c__law_single_right [.str [115, 111, 99, 107], .str [115, 111, 99, 107], .int 2, .int 6] μ Q E = Q (.bl true) μ := by kernel_rfl
theorem s_sock_sock_2_7 (μ : Sto) (Q : QD) (E : QX) : c__law_single_right [.str [115, 111, 99, 107], .str [115, 111, 99, 107], .int 2, .int 7] μ Q E = Q (.bl true) μ := by kernel_rfl
theorem s_sock_sock_2_8 (μ : Sto) (Q : QD) (E : QX) : c__law_single_right [.str [115, 111, 99, 107], .str [115, 111, 99, 107], .int 2, .int 8] μ Q E = Q (.bl true) μ := by kernel_rfl
theorem s_sock_sock_2_9 (μ : Sto) (Q : QD) (E : QX) : c__law_single_right [.str [115, 111, 99, 107], .str [115, 111, 99, 107], .int 2, .int 9] μ Q E = Q (.bl true) μ := by kernel_rfl
theorem s_sock_sock_2_10 (μ : Sto) (Q : QD) (E : QX) : c__law_single_right [.str [115, 111, 99, 107], .str [115, 111, 99, 107], .int 2, .int 10] μ Q E = Q (.bl true) μ := by kernel_rfl
theorem s_sock_sock_2_11 (μ : Sto) (Q : QD) (E : QX) : c__law_single_right [.str [115, 111, 99, 107], .str [115, 111, 99, 107], .int 2, .int 11] μ Q E = Q (.bl true) μ := by kernel_rfl
theorem s_sock_sock_2_12 (μ : Sto) (Q : QD) (E : QX) : c__law_single_right [.str [115, 111, 99, 107], .str [115, 111, 99, 107], .int 2, .int 12] μ Q E = Q (.bl true) μ := by kernel_rfl
theorem s_sock_sock_3_4 (μ : Sto) (Q : QD) (E : QX) : c__law_single_right [.str [115, 111, 99, 107], .str [115, 111, 99, 107], .int 3, .int 4] μ Q E = Q (.bl true) μ := by kernel_rfl
theorem s_sock_sock_3_5 (μ : Sto) (Q : QD) (E : QX) : c__law_single_right [.str [115, 111, 99, 107], .str [115, 111, 99, 107], .int 3, .int 5] μ Q E = Q (.bl true) μ := by kernel_rfl
theorem s_sock_sock_3_6 (μ : Sto) (Q : QD) (E : QX) : c__law_single_right [.str [115, 111, 99, 107], .str [115, 111, 99, 107], .int 3, .int 6] μ Q E = Q (.bl true) μ := by kernel_rfl
theorem s_sock_sock_3_7 (μ : Sto) (Q : QD) (E : QX) : c__law_single_right [.str [115, 111, 99, 107], .str [115, 111, 99, 107], .int 3, .int 7] μ Q E = Q (.bl true) μ := by kernel_rfl
theorem s_sock_sock_3_8 (μ : Sto) (Q : QD) (E : QX) : c__law_single_right [.str [115, 111, 99, 107], .str [115, 111, 99, 107], .int 3, .int 8] μ Q E = Q (.bl true) μ := by kernel_rfl
theorem s_sock_sock_3_9 (μ : Sto) (Q : QD) (E : QX) : c__law_single_right [.str [115, 111, 99, 107], .str [115, 111, 99, 107], .int 3, .int 9] μ Q E = Q (.bl true) μ := by kernel_rfl
theorem s_sock_sock_3_10 (μ : Sto) (Q : QD) (E : QX) : c__law_single_right [.str [115, 111, 99, 107], .str [115, 111, 99, 107], .int 3, .int 10] μ Q E = Q (.bl true) μ := by kernel_rfl
theorem s_sock_sock_3_11 (μ : Sto) (Q : QD) (E : QX) : c__law_single_right [.str [115, 111, 99, 107], .str [115, 111, 99, 107], .int 3, .int 11] μ Q E = Q (.bl true) μ := by kernel_rfl
theorem s_sock_sock_3_12 (μ : Sto) (Q : QD) (E : QX) : c__law_single_right [.str [115, 111, 99, 107], .str [115, 111, 99, 107], .int 3, .int 12] μ Q E = Q (.bl true) μ := by kernel_rfl
theorem s_sock_sock_4_5 (μ : Sto) (Q : QD) (E : QX) : c__law_single_right [.str [115, 111, 99, 107], .str [115, 111, 99, 107], .int 4, .int 5] μ Q E = Q (.bl true) μ := by kernel_rfl
theorem s_sock_sock_4_6 (μ : Sto) (Q : QD) (E : QX) : c__law_single_right [.str [115, 111, 99, 107], .str [115, 111, 99, 107], .int 4, .int 6] μ Q E = Q (.bl true) μ := by kernel_rfl
theorem s_sock_sock_4_7 (μ : Sto) (Q : QD) (E : QX) : c__law_single_right [.str [115, 111, 99, 107], .str [115, 111, 99, 107], .int 4, .int 7] μ Q E = Q (.bl true) μ := by kernel_rfl
theorem s_sock_sock_4_8 (μ : Sto) (Q : QD) (E : QX) : c__law_single_right [.str [115, 111, 99, 107], .str [115, 111, 99, 107], .int 4, .int 8] μ Q E = Q (.bl true) μ := by kernel_rfl
theorem s_sock_sock_4_9 (μ : Sto) (Q : QD) (E : QX) : c__law_single_right [.str [115, 111, 99, 107], .str [115, 111, 99, 107], .int 4, .int 9] μ Q E = Q (.bl true) μ := by kernel_rfl
theorem s_sock_sock_4_10 (μ : Sto) (Q : QD) (E : QX) : c__law_single_right [.str [115, 111, 99, 107], .str [115, 111, 99, 107], .int 4, .int 10] μ Q E = Q (.bl true) μ := by kernel_rfl
theorem s_sock_sock_4_11 (μ : Sto) (Q : QD) (E : QX) : c__law_single_right [.str [115, 111, 99, 107], .str [115, 111, 99, 107], .int 4, .int 11] μ Q E = Q (.bl true) μ := by kernel_rfl
theorem s_sock_sock_4_12 (μ : Sto) (Q : QD) (E : QX) : c__law_single_right [.str [115, 111, 99, 107], .str [115, 111, 99, 107], .int 4, .int 12] μ Q E = Q (.bl true) μ := by kernel_rfl
theorem s_sock_sock_5_6 (μ : Sto) (Q : QD) (E : QX) : c__law_single_right [.str [115, 111, 99, 107], .str [115, 111, 99, 107], .int 5, .int 6] μ Q E = Q (.bl true) μ := by kernel_rfl
theorem s_sock_sock_5_7 (μ : Sto) (Q : QD) (E : QX) : c__law_single_right [.str [115, 111, 99, 107], .str [115, 111, 99, 107], .int 5, .int 7] μ Q E = Q (.bl true) μ := by kernel_rfl
theorem s_sock_sock_5_8 (μ : Sto) (Q : QD) (E : QX) : c__law_single_right [.str [115, 111, 99, 107], .str [115, 111, 99, 107], .int 5, .int 8] μ Q E = Q (.bl true) μ := by kernel_rfl
theorem s_sock_sock_5_9 (μ : Sto) (Q : QD) (E : QX) : c__law_single_right [.str [115, 111, 99, 107], .str [115, 111, 99, 107], .int 5, .int 9] μ Q E = Q (.bl true) μ := by kernel_rfl
theorem s_sock_sock_5_10 (μ : Sto) (Q : QD) (E : QX) : c__law_single_right [.str [115, 111, 99, 107], .str [115, 111, 99, 107], .int 5, .int 10] μ Q E = Q (.bl true) μ := by kernel_rfl
theorem s_sock_sock_5_11 (μ : Sto) (Q : QD) (E : QX) : c__law_single_right [.str [115, 111, 99, 107], .str [115, 111, 99, 107], .int 5, .int 11] μ Q E = Q (.bl true) μ := by kernel_rfl
theorem s_sock_sock_5_12 (μ : Sto) (Q : QD) (E : QX) : c__law_single_right [.str [115, 111, 99, 107], .str [115, 111, 99, 107], .int 5, .int 12] μ Q E = Q (.bl true) μ := by kernel_rfl
theorem s_sock_sock_6_7 (μ : Sto) (Q : QD) (E : QX) : c__law_single_right [.str [115, 111, 99, 107], .str [115, 111, 99, 107], .int 6, .int 7] μ Q E = Q (.bl true) μ := by kernel_rfl
theorem s_sock_sock_6_8 (μ : Sto) (Q : QD) (E : QX) : c__law_single_right [.str [115, 111, 99, 107], .str [115, 111, 99, 107], .int 6, .int 8] μ Q E = Q (.bl true) μ := by kernel_rfl
theorem s_sock_sock_6_9 (μ : Sto) (Q : QD) (E : QX) : c__law_single_right [.str [115, 111, 99, 107], .str [115, 111, 99, 107], .int 6, .int 9] μ Q E = Q (.bl true) μ := by kernel_rfl
theorem s_sock_sock_6_10 (μ : Sto) (Q : QD) (E : QX) : c__law_single_right [.str [115, 111, 99, 107], .str [115, 111, 99, 107], .int 6, .int 10] μ Q E = Q (.bl true) μ := by kernel_rfl
theorem s_sock_sock_6_11 (μ : Sto) (Q : QD) (E : QX) : c__law_single_right [.str [115, 111, 99, 107], .str [115, 111, 99, 107], .int 6, .int 11] μ Q E = Q (.bl true) μ := by kernel_rfl
theorem s_sock_sock_6_12 (μ : Sto) (Q : QD) (E : QX) : c__law_single_right [.str [115, 111, 99, 107], .str [115, 111, 99, 107], .int 6, .int 12] μ Q E = Q (.bl true) μ := by kernel_rfl
theorem s_sock_sock_7_8 (μ : Sto) (Q : QD) (E : QX) : c__law_single_right [.str [115, 111, 99, 107], .str [115, 111, 99, 107], .int 7, .int 8] μ Q E = Q (.bl true) μ := by kernel_rfl
theorem s_sock_sock_7_9 (μ : Sto) (Q : QD) (E : QX) : c__law_single_right [.str [115, 111, 99, 107], .str [115, 111, 99, 107], .int 7, .int 9] μ Q E = Q (.bl true) μ := by kernel_rfl
theorem s_sock_sock_7_10 (μ : Sto) (Q : QD) (E : QX) : c__law_single_right [.str [115, 111, 99, 107], .str [115, 111, 99, 107], .int 7, .int 10] μ Q E = Q (.bl true) μ := by kernel_rfl
theorem s_sock_sock_7_11 (μ : Sto) (Q : QD) (E : QX) : c__law_single_right [.str [115, 111, 99, 107], .str [115, 111, 99, 107], .int 7, .int 11] μ Q E = Q (.bl true) μ := by kernel_rfl
theorem s_sock_sock_7_12 (μ : Sto) (Q : QD) (E : QX) : c__law_single_right [.str [115, 111, 99, 107], .str [115, 111, 99, 107], .int 7, .int 12] μ Q E = Q (.bl true) μ := by kernel_rfl
theorem s_sock_sock_8_9 (μ : Sto) (Q : QD) (E : QX) : c__law_single_right [.str [115, 111, 99, 107], .str [115, 111, 99, 107], .int 8, .int 9] μ Q E = Q (.bl true) μ := by kernel_rfl
theorem s_sock_sock_8_10 (μ : Sto) (Q : QD) (E : QX) : c__law_single_right [.str [115, 111, 99, 107], .str [115, 111, 99, 107], .int 8, .int 10] μ Q E = Q (.bl true) μ := by kernel_rfl
theorem s_sock_sock_8_11 (μ : Sto) (Q : QD) (E : QX) : c__law_single_right [.str [115, 111, 99, 107], .str [115, 111, 99, 107], .int 8, .int 11] μ Q E = Q (.bl true) μ := by kernel_rfl
theorem s_sock_sock_8_12 (μ : Sto) (Q : QD) (E : QX) : c__law_single_right [.str [115, 111, 99, 107], .str [115, 111, 99, 107], .int 8, .int 12] μ Q E = Q (.bl true) μ := by kernel_rfl
theorem s_sock_sock_9_10 (μ : Sto) (Q : QD) (E : QX) : c__law_single_right [.str [115, 111, 99, 107], .str [115, 111, 99, 107], .int 9, .int 10] μ Q E = Q (.bl true) μ := by kernel_rfl
theorem s_sock_sock_9_11 (μ : Sto) (Q : QD) (E : QX) : c__law_single_right [.str [115, 111, 99, 107], .str [115, 111, 99, 107], .int 9, .int 11] μ Q E = Q (.bl true) μ := by kernel_rfl
theorem s_sock_sock_9_12 (μ : Sto) (Q : QD) (E : QX) : c__law_single_right [.str [115, 111, 99, 107], .str [115, 111, 99, 107], .int 9, .int 12] μ Q E = Q (.bl true) μ := by kernel_rfl
theorem s_sock_sock_10_11 (μ : Sto) (Q : QD) (E : QX) : c__law_single_right [.str [115, 111, 99, 107], .str [115, 111, 99, 107], .int 10, .int 11] μ Q E = Q (.bl true) μ := by kernel_rfl
theorem s_sock_sock_10_12 (μ : Sto) (Q : QD) (E : QX) : c__law_single_right [.str [115, 111, 99, 107], .str [115, 111, 99, 107], .int 10, .int 12] μ Q E = Q (.bl true) μ := by kernel_rfl
theorem s_sock_sock_11_12 (μ : Sto) (Q : QD) (E : QX) : c__law_single_right [.str [115, 111, 99, 107], .str [115, 111, 99, 107], .int 11, .int 12] μ Q E = Q (.bl true) μ := by kernel_rfl
theorem sing_sock_sock {w v : Int} (h0 : 1 ≤ w) (h1 : w < v) (h2 : v ≤ 12) (μ : Sto) (Q : QD) (E : QX) : c__law_single_right [.str [115, 111, 99, 107], .str [115, 111, 99, 107], .int w, .int v] μ Q E = Q (.bl true) μ := by
  have e : w = 1 ∨ w = 2 ∨ w = 3 ∨ w = 4 ∨ w = 5 ∨ w = 6 ∨ w = 7 ∨ w = 8 ∨ w = 9 ∨ w = 10 ∨ w = 11 := by omega
  rcases e with e | e | e | e | e | e | e | e | e | e | e
  · subst e
    have e : v = 2 ∨ v = 3 ∨ v = 4 ∨ v = 5 ∨ v = 6 ∨ v = 7 ∨ v = 8 ∨ v = 9 ∨ v = 10 ∨ v = 11 ∨ v = 12 := by omega
    rcases e with e | e | e | e | e | e | e | e | e | e | e
    · subst e
      exact s_sock_sock_1_2 μ Q E
    · subst e
      exact s_sock_sock_1_3 μ Q E
    · subst e
      exact s_sock_sock_1_4 μ Q E
    · subst e
      exact s_sock_sock_1_5 μ Q E
    · subst e
      exact s_sock_sock_1_6 μ Q E
    · subst e
      exact s_sock_sock_1_7 μ Q E
    · subst e
      exact s_sock_sock_1_8 μ Q E
    · subst e
      exact s_sock_sock_1_9 μ Q E
    · subst e
      exact s_sock_sock_1_10 μ Q E
    · subst e
      exact s_sock_sock_1_11 μ Q E
    · subst e
      exact s_sock_sock_1_12 μ Q E
  · subst e
    have e : v = 3 ∨ v = 4 ∨ v = 5 ∨ v = 6 ∨ v = 7 ∨ v = 8 ∨ v = 9 ∨ v = 10 ∨ v = 11 ∨ v = 12 := by omega
    rcases e with e | e | e | e | e | e | e | e | e | e
    · subst e
      exact s_sock_sock_2_3 μ Q E
    · subst e
      exact s_sock_sock_2_4 μ Q E
    · subst e
      exact s_sock_sock_2_5 μ Q E
    · subst e
      exact s_sock_sock_2_6 μ Q E
    · subst e
      exact s_sock_sock_2_7 μ Q E
    · subst e
      exact s_sock_sock_2_8 μ Q E
    · subst e
      exact s_sock_sock_2_9 μ Q E
    · subst e
      exact s_sock_sock_2_10 μ Q E
    · subst e
      exact s_sock_sock_2_11 μ Q E
    · subst e
      exact s_sock_sock_2_12 μ Q E
  · subst e
    have e : v = 4 ∨ v = 5 ∨ v = 6 ∨ v = 7 ∨ v = 8 ∨ v = 9 ∨ v = 10 ∨ v = 11 ∨ v = 12 := by omega
    rcases e with e | e | e | e | e | e | e | e | e
    · subst e
      exact s_sock_sock_3_4 μ Q E
    · subst e
      exact s_sock_sock_3_5 μ Q E
    · subst e
      exact s_sock_sock_3_6 μ Q E
    · subst e
      exact s_sock_sock_3_7 μ Q E
    · subst e
      exact s_sock_sock_3_8 μ Q E
    · subst e
      exact s_sock_sock_3_9 μ Q E
    · subst e
      exact s_sock_sock_3_10 μ Q E
    · subst e
      exact s_sock_sock_3_11 μ Q E
    · subst e
      exact s_sock_sock_3_12 μ Q E
  · subst e
    have e : v = 5 ∨ v = 6 ∨ v = 7 ∨ v = 8 ∨ v = 9 ∨ v = 10 ∨ v = 11 ∨ v = 12 := by omega
    rcases e with e | e | e | e | e | e | e | e
    · subst e
      exact s_sock_sock_4_5 μ Q E
    · subst e
      exact s_sock_sock_4_6 μ Q E
    · subst e
      exact s_sock_sock_4_7 μ Q E
    · subst e
      exact s_sock_sock_4_8 μ Q E
    · subst e
      exact s_sock_sock_4_9 μ Q E
    · subst e
      exact s_sock_sock_4_10 μ Q E
    · subst e
      exact s_sock_sock_4_11 μ Q E
    · subst e
      exact s_sock_sock_4_12 μ Q E
  · subst e
    have e : v = 6 ∨ v = 7 ∨ v = 8 ∨ v = 9 ∨ v = 10 ∨ v = 11 ∨ v = 12 := by omega
    rcases e with e | e | e | e | e | e | e
    · subst e
      exact s_sock_sock_5_6 μ Q E
    · subst e
      exact s_sock_sock_5_7 μ Q E
    · subst e
      exact s_sock_sock_5_8 μ Q E
    · subst e
      exact s_sock_sock_5_9 μ Q E
    · subst e
      exact s_sock_sock_5_10 μ Q E
    · subst e
      exact s_sock_sock_5_11 μ Q E
    · subst e
      exact s_sock_sock_5_12 μ Q E
  · subst e
    have e : v = 7 ∨ v = 8 ∨ v = 9 ∨ v = 10 ∨ v = 11 ∨ v = 12 := by omega
    rcases e with e | e | e | e | e | e
    · subst e
      exact s_sock_sock_6_7 μ Q E
    · subst e
      exact s_sock_sock_6_8 μ Q E
    · subst e
      exact s_sock_sock_6_9 μ Q E
    · subst e
      exact s_sock_sock_6_10 μ Q E
    · subst e
      exact s_sock_sock_6_11 μ Q E
    · subst e
      exact s_sock_sock_6_12 μ Q E
  · subst e
    have e : v = 8 ∨ v = 9 ∨ v = 10 ∨ v = 11 ∨ v = 12 := by omega
    rcases e with e | e | e | e | e
    · subst e
      exact s_sock_sock_7_8 μ Q E
    · subst e
      exact s_sock_sock_7_9 μ Q E
    · subst e
      exact s_sock_sock_7_10 μ Q E
    · subst e
      exact s_sock_sock_7_11 μ Q E
    · subst e
      exact s_sock_sock_7_12 μ Q E
  · subst e
    have e : v = 9 ∨ v = 10 ∨ v = 11 ∨ v = 12 := by omega
    rcases e with e | e | e | e
    · subst e
      exact s_sock_sock_8_9 μ Q E
    · subst e
      exact s_sock_sock_8_10 μ Q E
    · subst e
      exact s_sock_sock_8_11 μ Q E
    · subst e
      exact s_sock_sock_8_12 μ Q E
  · subst e
    have e : v = 10 ∨ v = 11 ∨ v = 12 := by omega
    rcases e with e | e | e
    · subst e
      exact s_sock_sock_9_10 μ Q E
    · subst e
      exact s_sock_sock_9_11 μ Q E
    · subst e
      exact s_sock_sock_9_12 μ Q E
  · subst e
    have e : v = 11 ∨ v = 12 := by omega
    rcases e with e | e
    · subst e
      exact s_sock_sock_10_11 μ Q E
    · subst e
      exact s_sock_sock_10_12 μ Q E
  · subst e
    have e : v = 12 := by omega
    subst e
    exact s_sock_sock_11_12 μ Q E
end K30

namespace K30
open PySem PySem.Spec PyProof.Rows L2 Pk K58
theorem s_sock_d_1_2 (μ : Sto) (Q : QD) (E : QX) : c__law_single_right [.str [115, 111, 99, 107], .str [100], .int 1, .int 2] μ Q E = Q (.bl true) μ := by kernel_rfl
theorem s_sock_d_1_3 (μ : Sto) (Q : QD) (E : QX) : c__law_single_right [.str [115, 111, 99, 107], .str [100], .int 1, .int 3] μ Q E = Q (.bl true) μ := by kernel_rfl
theorem s_sock_d_1_4 (μ : Sto) (Q : QD) (E : QX) : c__law_single_right [.str [115, 111, 99, 107], .str [100], .int 1, .int 4] μ Q E = Q (.bl true) μ := by kernel_rfl
theorem s_sock_d_1_5 (μ : Sto) (Q : QD) (E : QX) : c__law_single_right [.str [115, 111, 99, 107], .str [100], .int 1, .int 5] μ Q E = Q (.bl true) μ := by kernel_rfl
theorem s_sock_d_1_6 (μ : Sto) (Q : QD) (E : QX) : c__law_single_right [.str [115, 111, 99, 107], .str [100], .int 1, .int 6] μ Q E = Q (.bl true) μ := by kernel_rfl
theorem s_sock_d_1_7 (μ : Sto) (Q : QD) (E : QX) : c__law_single_right [.str [115, 111, 99, 107], .str [100], .int 1, .int 7] μ Q E = Q (.bl true) μ := by kernel_rfl
theorem s_sock_d_1_8 (μ : Sto) (Q : QD) (E : QX) : c__law_single_right [.str [115, 111, 99, 107], .str [100], .int 1, .int 8] μ Q E = Q (.bl true) μ := by kernel_rfl
theorem s_sock_d_1_9 (μ : Sto) (Q : QD) (E : QX) : c__law_single_right [.str [115, 111, 99, 107], .str [100], .int 1, .int 9] μ Q E = Q (.bl true) μ := by kernel_rfl
theorem s_sock_d_1_10 (μ : Sto) (Q : QD) (E : QX) : c__law_single_right [.str [115, 111, 99, 107], .str [100], .int 1, .int 10] μ Q E = Q (.bl true) μ := by kernel_rfl
theorem s_sock_d_1_11 (μ : Sto) (Q : QD) (E : QX) : c__law_single_right [.str [115, 111, 99, 107], .str [100], .int 1, .int 11] μ Q E = Q (.bl true) μ := by kernel_rfl
theorem s_sock_d_1_12 (μ : Sto) (Q : QD) (E : QX) : c__law_single_right [.str [115, 111, 99, 107], .str [100], .int 1, .int 12] μ Q E = Q (.bl true) μ := by kernel_rfl
theorem s_sock_d_2_3 (μ : Sto) (Q : QD) (E : QX) : c__law_single_right [.str [115, 111, 99, 107], .str [100], .int 2, .int 3] μ Q E = Q (.bl true) μ := by kernel_rfl
theorem s_sock_d_2_4 (μ : Sto) (Q : QD) (E : QX) : c__law_single_right [.str [115, 111, 99, 107], .str [100], .int 2, .int 4] μ Q E = Q (.bl true) μ := by kernel_rfl
theorem s_sock_d_2_5 (μ : Sto) (Q : QD) (E : QX) : c__law_single_right [.str [115, 111, 99, 107], .str [100], .int 2, .int 5] μ Q E = Q (.bl true) μ := by kernel_rfl
theorem s_sock_d_2_6 (μ : Sto) (Q : QD) (E : QX) : c__law_single_right [.str [115, 111, 99, 107], .str [100], .int 2, .int 6] μ Q E = Q (.bl true) μ := by kernel_rfl
theorem s_sock_d_2_7 (μ : Sto) (Q : QD) (E : QX) : c__law_single_right [.str [115, 111, 99, 107], .str [100], .int 2, .int 7] μ Q E = Q (.bl true) μ := by kernel_rfl
theorem s_sock_d_2_8 (μ : Sto) (Q : QD) (E : QX) : c__law_single_right [.str [115, 111, 99, 107], .str [100], .int 2, .int 8] μ Q E = Q (.bl true) μ := by kernel_rfl
theorem s_sock_d_2_9 (μ : Sto) (Q : QD) (E : QX) : c__law_single_right [.str [115, 111, 99, 107], .str [100], .int 2, .int 9] μ Q E = Q (.bl true) μ := by kernel_rfl
theorem s_sock_d_2_10 (μ : Sto) (Q : QD) (E : QX) : c__law_single_right [.str [115, 111, 99, 107], .str [100], .int 2, .int 10] μ Q E = Q (.bl true) μ := by kernel_rfl
theorem s_sock_d_2_11 (μ : Sto) (Q : QD) (E : QX) : c__law_single_right [.str [115, 111, 99, 107], .str [100], .int 2, .int 11] μ Q E = Q (.bl true) μ := by kernel_rfl
theorem s_sock_d_2_12 (μ : Sto) (Q : QD) (E : QX) : c__law_single_right [.str [115, 111, 99, 107], .str [100], .int 2, .int 12] μ Q E = Q (.bl true) μ := by kernel_rfl
theorem s_sock_d_3_4 (μ : Sto) (Q : QD) (E : QX) : c__law_single_right [.str [115, 111, 99, 107], .str [100], .int 3, .int 4] μ Q E = Q (.bl true) μ := by kernel_rfl
theorem s_sock_d_3_5 (μ : Sto) (Q : QD) (E : QX) : c__law_single_right [.str [115, 111, 99, 107], .str [100], .int 3, .int 5] μ Q E = Q (.bl true) μ := by kernel_rfl
theorem s_sock_d_3_6 (μ : Sto) (Q : QD) (E : QX) : c__law_single_right [.str [115, 111, 99, 107], .str [100], .int 3, .int 6] μ Q E = Q (.bl true) μ := by kernel_rfl
theorem s_sock_d_3_7 (μ : Sto) (Q : QD) (E : QX) : c__law_single_right [.str [115, 111, 99, 107], .str [100], .int 3, .int 7] μ Q E = Q (.bl true) μ := by kernel_rfl
theorem s_sock_d_3_8 (μ : Sto) (Q : QD) (E : QX) : c__law_single_right [.str [115, 111, 99, 107], .str [100], .int 3, .int 8] μ Q E = Q (.bl true) μ := by kernel_rfl
theorem s_sock_d_3_9 (μ : Sto) (Q : QD) (E : QX) : c__law_single_right [.str [115, 111, 99, 107], .str [100], .int 3, .int 9] μ Q E = Q (.bl true) μ := by kernel_rfl
theorem s_sock_d_3_10 (μ : Sto) (Q : QD) (E : QX) : c__law_single_right [.str [115, 111, 99, 107], .str [100], .int 3, .int 10] μ Q E = Q (.bl true) μ := by kernel_rfl
theorem s_sock_d_3_11 (μ : Sto) (Q : QD) (E : QX) : c__law_single_right [.str [115, 111, 99, 107], .str [100], .int 3, .int 11] μ Q E = Q (.bl true) μ := by kernel_rfl
theorem s_sock_d_3_12 (μ : Sto) (Q : QD) (E : QX) : c__law_single_right [.str [115, 111, 99, 107], .str [100], .int 3, .int 12] μ Q E = Q (.bl true) μ := by kernel_rfl
theorem s_sock_d_4_5 (μ : Sto) (Q : QD) (E : QX) : c__law_single_right [.str [115, 111, 99, 107], .str [100], .int 4, .int 5] μ Q E = Q (.bl true) μ := by kernel_rfl
theorem s_sock_d_4_6 (μ : Sto) (Q : QD) (E : QX) : c__law_single_right [.str [115, 111, 99, 107], .str [100], .int 4, .int 6] μ Q E = Q (.bl true) μ := by kernel_rfl
theorem s_sock_d_4_7 (μ : Sto) (Q : QD) (E : QX) : c__law_single_right [.str [115, 111, 99, 107], .str [100], .int 4, .int 7] μ Q E = Q (.bl true) μ := by kernel_rfl
theorem s_sock_d_4_8 (μ : Sto) (Q : QD) (E : QX) : c__law_single_right [.str [115, 111, 99, 107], .str [100], .int 4, .int 8] μ Q E = Q (.bl true) μ := by kernel_rfl
theorem s_sock_d_4_9 (μ : Sto) (Q : QD) (E : QX) : c__law_single_right [.str [115, 111, 99, 107], .str [100], .int 4, .int 9] μ Q E = Q (.bl true) μ := by kernel_rfl
theorem s_sock_d_4_10 (μ : Sto) (Q : QD) (E : QX) : c__law_single_right [.str [115, 111, 99, 107], .str [100], .int 4, .int 10] μ Q E = Q (.bl true) μ := by kernel_rfl
theorem s_sock_d_4_11 (μ : Sto) (Q : QD) (E : QX) : c__law_single_right [.str [115, 111, 99, 107], .str [100], .int 4, .int 11] μ Q E = Q (.bl true) μ := by kernel_rfl
theorem s_sock_d_4_12 (μ : Sto) (Q : QD) (E : QX) : c__law_single_right [.str [115, 111, 99, 107], .str [100], .int 4, .int 12] μ Q E = Q (.bl true) μ := by kernel_rfl
theorem s_sock_d_5_6 (μ : Sto) (Q : QD) (E : QX) : c__law_single_right [.str [115, 111, 99, 107], .str [100], .int 5, .int 6] μ Q E = Q (.bl true) μ := by kernel_rfl
theorem s_sock_d_5_7 (μ : Sto) (Q : QD) (E : QX) : c__law_single_right [.str [115, 111, 99, 107], .str [100], .int 5, .int 7] μ Q E = Q (.bl true) μ := by kernel_rfl
theorem s_sock_d_5_8 (μ : Sto) (Q : QD) (E : QX) : c__law_single_right [.str [115, 111, 99, 107], .str [100], .int 5, .int 8] μ Q E = Q (.bl true) μ := by kernel_rfl
theorem s_sock_d_5_9 (μ : Sto) (Q : QD) (E : QX) : c__law_single_right [.str [115, 111, 99, 107], .str [100], .int 5, .int 9] μ Q E = Q (.bl true) μ := by kernel_rfl
theorem s_sock_d_5_10 (μ : Sto) (Q : QD) (E : QX) : c__law_single_right [.str [115, 111, 99, 107], .str [100], .int 5, .int 10] μ Q E = Q (.bl true) μ := by kernel_rfl
theorem s_sock_d_5_11 (μ : Sto) (Q : QD) (E : QX) : c__law_single_right [.str [115, 111, 99, 107], .str [100], .int 5, .int 11] μ Q E = Q (.bl true) μ := by kernel_rfl
theorem s_sock_d_5_12 (μ : Sto) (Q : QD) (E : QX) : c__law_single_right [.str [115, 111, 99, 107], .str [100], .int 5, .int 12] μ Q E = Q (.bl true) μ := by kernel_rfl
theorem s_sock_d_6_7 (μ : Sto) (Q : QD) (E : QX) : c__law_single_right [.str [115, 111, 99, 107], .str [100], .int 6, .int 7] μ Q E = Q (.bl true) μ := by kernel_rfl
theorem s_sock_d_6_8 (μ : Sto) (Q : QD) (E : QX) : c__law_single_right [.str [115, 111, 99, 107], .str [100], .int 6, .int 8] μ Q E = Q (.bl true) μ := by kernel_rfl
theorem s_sock_d_6_9 (μ : Sto) (Q : QD) (E : QX) : c__law_single_right [.str [115, 111, 99, 107], .str [100], .int 6, .int 9] μ Q E = Q (.bl true) μ := by kernel_rfl
theorem s_sock_d_6_10 (μ : Sto) (Q : QD) (E : QX) : c__law_single_right [.str [115, 111, 99, 107], .str [100], .int 6, .int 10] μ Q E = Q (.bl true) μ := by kernel_rfl
theorem s_sock_d_6_11 (μ : Sto) (Q : QD) (E : QX) : c__law_single_right [.str [115, 111, 99, 107], .str [100], .int 6, .int 11] μ Q E = Q (.bl true) μ := by kernel_rfl
theorem s_sock_d_6_12 (μ : Sto) (Q : QD) (E : QX) : c__law_single_right [.str [115, 111, 99, 107], .str [100], .int 6, .int 12] μ Q E = Q (.bl true) μ := by kernel_rfl
theorem s_sock_d_7_8 (μ : Sto) (Q : QD) (E : QX) : c__law_single_right [.str [115, 111, 99, 107], .str [100], .int 7, .int 8] μ Q E = Q (.bl true) μ := by kernel_rfl
theorem s_sock_d_7_9 (μ : Sto) (Q : QD) (E : QX) : c__law_single_right [.str [115, 111, 99, 107], .str [100], .int 7, .int 9] μ Q E = Q (.bl true) μ := by kernel_rfl
theorem s_sock_d_7_10 (μ : Sto) (Q : QD) (E : QX) : c__law_single_right [.str [115, 111, 99, 107], .str [100], .int 7, .int 10] μ Q E = Q (.bl true) μ := by kernel_rfl
theorem s_sock_d_7_11 (μ : Sto) (Q : QD) (E : QX) : c__law_single_right [.str [115, 111, 99, 107], .str [100], .int 7, .int 11] μ Q E = Q (.bl true) μ := by kernel_rfl
theorem s_sock_d_7_12 (μ : Sto) (Q : QD) (E : QX) : c__law_single_right [.str [115, 111, 99, 107], .str [100], .int 7, .int 12] μ Q E = Q (.bl true) μ := by kernel_rfl
theorem s_sock_d_8_9 (μ : Sto) (Q : QD) (E : QX) : c__law_single_right [.str [115, 111, 99, 107], .str [100], .int 8, .int 9] μ Q E = Q (.bl true) μ := by kernel_rfl
theorem s_sock_d_8_10 (μ : Sto) (Q : QD) (E : QX) : c__law_single_right [.str [115, 111, 99, 107], .str [100], .int 8, .int 10] μ Q E = Q (.bl true) μ := by kernel_rfl
theorem s_sock_d_8_11 (μ : Sto) (Q : QD) (E : QX) : c__law_single_right [.str [115, 111, 99, 107], .str [100], .int 8, .int 11] μ Q E = Q (.bl true) μ := by kernel_rfl
theorem s_sock_d_8_12 (μ : Sto) (Q : QD) (E : QX) : c__law_single_right [.str [115, 111, 99, 107], .str [100], .int 8, .int 12] μ Q E = Q (.bl true) μ := by kernel_rfl
theorem s_sock_d_9_10 (μ : Sto) (Q : QD) (E : QX) : c__law_single_right [.str [115, 111, 99, 107], .str [100], .int 9, .int 10] μ Q E = Q (.bl true) μ := by kernel_rfl
theorem s_sock_d_9_11 (μ : Sto) (Q : QD) (E : QX) : c__law_single_right [.str [115, 111, 99, 107], .str [100], .int 9, .int 11] μ Q E = Q (.bl true) μ := by kernel_rfl
theorem s_sock_d_9_12 (μ : Sto) (Q : QD) (E : QX) : c__law_single_right [.str [115, 111, 99, 107], .str [100], .int 9, .int 12] μ Q E = Q (.bl true) μ := by kernel_rfl
theorem s_sock_d_10_11 (μ : Sto) (Q : QD) (E : QX) : c__law_single_right [.str [115, 111, 99, 107], .str [100], .int 10, .int 11] μ Q E = Q (.bl true) μ := by kernel_rfl
theorem s_sock_d_10_12 (μ : Sto) (Q : QD) (E : QX) : c__law_single_right [.str [115, 111, 99, 107], .str [100], .int 10, .int 12] μ Q E = Q (.bl true) μ := by kernel_rfl
theorem s_sock_d_11_12 (μ : Sto) (Q : QD) (E : QX) : c__law_single_right [.str [115, 111, 99, 107], .str [100], .int 11, .int 12] μ Q E = Q (.bl true) μ := by kernel_rfl
theorem sing_sock_d {w v : Int} (h0 : 1 ≤ w) (h1 : w < v) (h2 : v ≤ 12) (μ : Sto) (Q : QD) (E : QX) : c__law_single_right [.str [115, 111, 99, 107], .str [100], .int w, .int v] μ Q E = Q (.bl true) μ := by
  have e : w = 1 ∨ w = 2 ∨ w = 3 ∨ w = 4 ∨ w = 5 ∨ w = 6 ∨ w = 7 ∨ w = 8 ∨ w = 9 ∨ w = 10 ∨ w = 11 := by omega
  rcases e with e | e | e | e | e | e | e | e | e | e | e
  · subst e
    have e : v = 2 ∨ v = 3 ∨ v = 4 ∨ v = 5 ∨ v = 6 ∨ v = 7 ∨ v = 8 ∨ v = 9 ∨ v = 10 ∨ v = 11 ∨ v = 12 := by omega
    rcases e with e | e | e | e | e | e | e | e | e | e | e
    · subst e
      exact s_sock_d_1_2 μ Q E
    · subst e
      exact s_sock_d_1_3 μ Q E
    · subst e
      exact s_sock_d_1_4 μ Q E
    · subst e
      exact s_sock_d_1_5 μ Q E
    · subst e
      exact s_sock_d_1_6 μ Q E
    · subst e
      exact s_sock_d_1_7 μ Q E
    · subst e
      exact s_sock_d_1_8 μ Q E
    · subst e
      exact s_sock_d_1_9 μ Q E
    · subst e
      exact s_sock_d_1_10 μ Q E
    · subst e
      exact s_sock_d_1_11 μ Q E
    · subst e
      exact s_sock_d_1_12 μ Q E
  · subst e
    have e : v = 3 ∨ v = 4 ∨ v = 5 ∨ v = 6 ∨ v = 7 ∨ v = 8 ∨ v = 9 ∨ v = 10 ∨ v = 11 ∨ v = 12 := by omega
    rcases e with e | e | e | e | e | e | e | e | e | e
    · subst e
      exact s_sock_d_2_3 μ Q E
    · subst e
      exact s_sock_d_2_4 μ Q E
    · subst e
      exact s_sock_d_2_5 μ Q E
    · subst e
      exact s_sock_d_2_6 μ Q E
    · subst e
      exact s_sock_d_2_7 μ Q E
    · subst e
      exact s_sock_d_2_8 μ Q E
    · subst e
      exact s_sock_d_2_9 μ Q E
    · subst e
      exact s_sock_d_2_10 μ Q E
    · subst e
      exact s_sock_d_2_11 μ Q E
    · subst e
      exact s_sock_d_2_12 μ Q E
  · subst e
    have e : v = 4 ∨ v = 5 ∨ v = 6 ∨ v = 7 ∨ v = 8 ∨ v = 9 ∨ v = 10 ∨ v = 11 ∨ v = 12 := by omega
    rcases e with e | e | e | e | e | e | e | e | e
    · subst e
      exact s_sock_d_3_4 μ Q E
    · subst e
      exact s_sock_d_3_5 μ Q E
    · subst e
      exact s_sock_d_3_6 μ Q E
    · subst e
      exact s_sock_d_3_7 μ Q E
    · subst e
      exact s_sock_d_3_8 μ Q E
    · subst e
      exact s_sock_d_3_9 μ Q E
    · subst e
      exact s_sock_d_3_10 μ Q E
    · subst e
      exact s_sock_d_3_11 μ Q E
    · subst e
      exact s_sock_d_3_12 μ Q E
  · subst e
    have e : v = 5 ∨ v = 6 ∨ v = 7 ∨ v = 8 ∨ v = 9 ∨ v = 10 ∨ v = 11 ∨ v = 12 := by omega
    rcases e with e | e | e | e | e | e | e | e
    · subst e
      exact s_sock_d_4_5 μ Q E
    · subst e
      exact s_sock_d_4_6 μ Q E
    · subst e
      exact s_sock_d_4_7 μ Q E
    · subst e
      exact s_sock_d_4_8 μ Q E
    · subst e
      exact s_sock_d_4_9 μ Q E
    · subst e
      exact s_sock_d_4_10 μ Q E
    · subst e
      exact s_sock_d_4_11 μ Q E
    · subst e
      exact s_sock_d_4_12 μ Q E
  · subst e
    have e : v = 6 ∨ v = 7 ∨ v = 8 ∨ v = 9 ∨ v = 10 ∨ v = 11 ∨ v = 12 := by omega
    rcases e with e | e | e | e | e | e | e
    · subst e
      exact s_sock_d_5_6 μ Q E
    · subst e
      exact s_sock_d_5_7 μ Q E
    · subst e
      exact s_sock_d_5_8 μ Q E
    · subst e
      exact s_sock_d_5_9 μ Q E
    · subst e
      exact s_sock_d_5_10 μ Q E
    · subst e
      exact s_sock_d_5_11 μ Q E
    · subst e
      exact s_sock_d_5_12 μ Q E
  · subst e
    have e : v = 7 ∨ v = 8 ∨ v = 9 ∨ v = 10 ∨ v = 11 ∨ v = 12 := by omega
    rcases e with e | e | e | e | e | e
    · subst e
      exact s_sock_d_6_7 μ Q E
    · subst e
      exact s_sock_d_6_8 μ Q E
    · subst e
      exact s_sock_d_6_9 μ Q E
    · subst e
      exact s_sock_d_6_10 μ Q E
    · subst e
      exact s_sock_d_6_11 μ Q E
    · subst e
      exact s_sock_d_6_12 μ Q E
  · subst e
    have e : v = 8 ∨ v = 9 ∨ v = 10 ∨ v = 11 ∨ v = 12 := by omega
    rcases e with e | e | e | e | e
    · subst e
      exact s_sock_d_7_8 μ Q E
    · subst e
      exact s_sock_d_7_9 μ Q E
    · subst e
      exact s_sock_d_7_10 μ Q E
    · subst e
      exact s_sock_d_7_11 μ Q E
    · subst e
      exact s_sock_d_7_12 μ Q E
  · subst e
    have e : v = 9 ∨ v = 10 ∨ v = 11 ∨ v = 12 := by omega
    rcases e with e | e | e | e
    · subst e
      exact s_sock_d_8_9 μ Q E
    · subst e
      exact s_sock_d_8_10 μ Q E
    · subst e
      exact s_sock_d_8_11 μ Q E
    · subst e
      exact s_sock_d_8_12 μ Q E
  · subst e
    have e : v = 10 ∨ v = 11 ∨ v = 12 := by omega
    rcases e with e | e | e
    · subst e
      exact s_sock_d_9_10 μ Q E
    · subst e
      exact s_sock_d_9_11 μ Q E
    · subst e
      exact s_sock_d_9_12 μ Q E
  · subst e
    have e : v = 11 ∨ v = 12 := by omega
    rcases e with e | e
    · subst e
      exact s_sock_d_10_11 μ Q E
    · subst e
      exact s_sock_d_10_12 μ Q E
  · subst e
    have e : v = 12 := by omega
    subst e
    exact s_sock_d_11_12 μ Q E
end K30

namespace K30
open PySem PySem.Spec PyProof.Rows L2 Pk K58
theorem s_rug_red_1_2 (μ : Sto) (Q : QD) (E : QX) : c__law_single_right [.str [114, 117, 103], .str [114, 101, 100], .int 1, .int 2] μ Q E = Q (.bl true) μ := by kernel_rfl
theorem s_rug_red_1_3 (μ : Sto) (Q : QD) (E : QX) : c__law_single_right [.str [114, 117, 103], .str [114, 101, 100], .int 1, .int 3] μ Q E = Q (.bl true) μ := by kernel_rfl
theorem s_rug_red_1_4 (μ : Sto) (Q : QD) (E : QX) : c__law_single_right [.str [114, 117, 103], .str [114, 101, 100], .int 1, .int 4] μ Q E = Q (.bl true) μ := by kernel_rfl
theorem s_rug_red_1_5 (μ : Sto) (Q : QD) (E : QX) : c__law_single_right [.str [114, 117, 103], .str [114, 101, 100], .int 1, .int 5] μ Q E = Q (.bl true) μ := by kernel_rfl
theorem s_rug_red_1_6 (μ : Sto) (Q : QD) (E : QX) : c__law_single_right [.str [114, 117, 103], .str [114, 101, 100], .int 1, .int 6] μ Q E = Q (.bl true) μ := by kernel_rfl
theorem s_rug_red_1_7 (μ : Sto) (Q : QD) (E : QX) : c__law_single_right [.str [114, 117, 103], .str [114, 101, 100], .int 1, .int 7] μ Q E = Q (.bl true) μ := by kernel_rfl
theorem s_rug_red_1_8 (μ : Sto) (Q : QD) (E : QX) : c__law_single_right [.str [114, 117, 103], .str [114, 101, 100], .int 1, .int 8] μ Q E = Q (.bl true) μ := by kernel_rfl
theorem s_rug_red_1_9 (μ : Sto) (Q : QD) (E : QX) : c__law_single_right [.str [114, 117, 103], .str [114, 101, 100], .int 1, .int 9] μ Q E = Q (.bl true) μ := by kernel_rfl
theorem s_rug_red_1_10 (μ : Sto) (Q : QD) (E : QX) : c__law_single_right [.str [114, 117, 103], .str [114, 101, 100], .int 1, .int 10] μ Q E = Q (.bl true) μ := by kernel_rfl
theorem s_rug_red_1_11 (μ : Sto) (Q : QD) (E : QX) : c__law_single_right [.str [114, 117, 103], .str [114, 101, 100], .int 1, .int 11] μ Q E = Q (.bl true) μ := by kernel_rfl
theorem s_rug_red_1_12 (μ : Sto) (Q : QD) (E : QX) : c__law_single_right [.str [114, 117, 103], .str [114, 101, 100], .int 1, .int 12] μ Q E = Q (.bl true) μ := by kernel_rfl
theorem s_rug_red_2_3 (μ : Sto) (Q : QD) (E : QX) : c__law_single_right [.str [114, 117, 103], .str [114, 101, 100], .int 2, .int 3] μ Q E = Q (.bl true) μ := by kernel_rfl
theorem s_rug_red_2_4 (μ : Sto) (Q : QD) (E : QX) : c__law_single_right [.str [114, 117, 103], .str [114, 101, 100], .int 2, .int 4] μ Q E = Q (.bl true) μ := by kernel_rfl
theorem s_rug_red_2_5 (μ : Sto) (Q : QD) (E : QX) : c__law_single_right [.str [114, 117, 103], .str [114, 101, 100], .int 2, .int 5] μ Q E = Q (.bl true) μ := by kernel_rfl
theorem s_rug_red_2_6 (μ : Sto) (Q : QD) (E : QX) : c__law_single_right [.str [114, 117, 103], .str [114, 101, 100], .int 2, .int 6] μ Q E = Q (.bl true) μ := by kernel_rfl
theorem s_rug_red_2_7 (μ : Sto) (Q : QD) (E : QX) : c__law_single_right [.str [114, 117, 103], .str [114, 101, 100], .int 2, .int 7] μ Q E = Q (.bl true) μ := by kernel_rfl
theorem s_rug_red_2_8 (μ : Sto) (Q : QD) (E : QX) : c__law_single_right [.str [114, 117, 103], .str [114, 101, 100], .int 2, .int 8] μ Q E = Q (.bl true) μ := by kernel_rfl
theorem s_rug_red_2_9 (μ : Sto) (Q : QD) (E : QX) : c__law_single_right [.str [114, 117, 103], .str [114, 101, 100], .int 2, .int 9] μ Q E = Q (.bl true) μ := by kernel_rfl
theorem s_rug_red_2_10 (μ : Sto) (Q : QD) (E : QX) : c__law_single_right [.str [114, 117, 103], .str [114, 101, 100], .int 2, .int 10] μ Q E = Q (.bl true) μ := by kernel_rfl
theorem s_rug_red_2_11 (μ : Sto) (Q : QD) (E : QX) : c__law_single_right [.str [114, 117, 103], .str [114, 101, 100], .int 2, .int 11] μ Q E = Q (.bl true) μ := by kernel_rfl
theorem s_rug_red_2_12 (μ : Sto) (Q : QD) (E : QX) : c__law_single_right [.str [114, 117, 103], .str [114, 101, 100], .int 2, .int 12] μ Q E = Q (.bl true) μ := by kernel_rfl
theorem s_rug_red_3_4 (μ : Sto) (Q : QD) (E : QX) : c__law_single_right [.str [114, 117, 103], .str [114, 101, 100], .int 3, .int 4] μ Q E = Q (.bl true) μ := by kernel_rfl
theorem s_rug_red_3_5 (μ : Sto) (Q : QD) (E : QX) : c__law_single_right [.str [114, 117, 103], .str [114, 101, 100], .int 3, .int 5] μ Q E = Q (.bl true) μ := by kernel_rfl
theorem s_rug_red_3_6 (μ : Sto) (Q : QD) (E : QX) : c__law_single_right [.str [114, 117, 103], .str [114, 101, 100], .int 3, .int 6] μ Q E = Q (.bl true) μ := by kernel_rfl
theorem s_rug_red_3_7 (μ : Sto) (Q : QD) (E : QX) : c__law_single_right [.str [114, 117, 103], .str [114, 101, 100], .int 3, .int 7] μ Q E = Q (.bl true) μ := by kernel_rfl
theorem s_rug_red_3_8 (μ : Sto) (Q : QD) (E : QX) : c__law_single_right [.str [114, 117, 103], .str [114, 101, 100], .int 3, .int 8] μ Q E = Q (.bl true) μ := by kernel_rfl
theorem s_rug_red_3_9 (μ : Sto) (Q : QD) (E : QX) : c__law_single_right [.str [114, 117, 103], .str [114, 101, 100], .int 3, .int 9] μ Q E = Q (.bl true) μ := by kernel_rfl
theorem s_rug_red_3_10 (μ : Sto) (Q : QD) (E : QX) : c__law_single_right [.str [114, 117, 103], .str [114, 101, 100], .int 3, .int 10] μ Q E = Q (.bl true) μ := by kernel_rfl
theorem s_rug_red_3_11 (μ : Sto) (Q : QD) (E : QX) : c__law_single_right [.str [114, 117, 103], .str [114, 101, 100], .int 3, .int 11] μ Q E = Q (.bl true) μ := by kernel_rfl
theorem s_rug_red_3_12 (μ : Sto) (Q : QD) (E : QX) : c__law_single_right [.str [114, 117, 103], .str [114, 101, 100], .int 3, .int 12] μ Q E = Q (.bl true) μ := by kernel_rfl
theorem s_rug_red_4_5 (μ : Sto) (Q : QD) (E : QX) : c__law_single_right [.str [114, 117, 103], .str [114, 101, 100], .int 4, .int 5] μ Q E = Q (.bl true) μ := by kernel_rfl
theorem s_rug_red_4_6 (μ : Sto) (Q : QD) (E : QX) : c__law_single_right [.str [114, 117, 103], .str [114, 101, 100], .int 4, .int 6] μ Q E = Q (.bl true) μ := by kernel_rfl
theorem s_rug_red_4_7 (μ : Sto) (Q : QD) (E : QX) : c__law_single_right [.str [114, 117, 103], .str [114, 101, 100], .int 4, .int 7] μ Q E = Q (.bl true) μ := by kernel_rfl
theorem s_rug_red_4_8 (μ : Sto) (Q : QD) (E : QX) : c__law_single_right [.str [114, 117, 103], .str [114, 101, 100], .int 4, .int 8] μ Q E = Q (.bl true) μ := by kernel_rfl
theorem s_rug_red_4_9 (μ : Sto) (Q : QD) (E : QX) : c__law_single_right [.str [114, 117, 103], .str [114, 101, 100], .int 4, .int 9] μ Q E = Q (.bl true) μ := by kernel_rfl
theorem s_rug_red_4_10 (μ : Sto) (Q : QD) (E : QX) : c__law_single_right [.str [114, 117, 103], .str [114, 101, 100], .int 4, .int 10] μ Q E = Q (.bl true) μ := by kernel_rfl
theorem s_rug_red_4_11 (μ : Sto) (Q : QD) (E : QX) : c__law_single_right [.str [114, 117, 103], .str [114, 101, 100], .int 4, .int 11] μ Q E = Q (.bl true) μ := by kernel_rfl
theorem s_rug_red_4_12 (μ : Sto) (Q : QD) (E : QX) : c__law_single_right [.str [114, 117, 103], .str [114, 101, 100], .int 4, .int 12] μ Q E = Q (.bl true) μ := by kernel_rfl
theorem s_rug_red_5_6 (μ : Sto) (Q : QD) (E : QX) : c__law_single_right [.str [114, 117, 103], .str [114, 101, 100], .int 5, .int 6] μ Q E = Q (.bl true) μ := by kernel_rfl
theorem s_rug_red_5_7 (μ : Sto) (Q : QD) (E : QX) : c__law_single_right [.str [114, 117, 103], .str [114, 101, 100], .int 5, .int 7] μ Q E = Q (.bl true) μ := by kernel_rfl
theorem s_rug_red_5_8 (μ : Sto) (Q : QD) (E : QX) : c__law_single_right [.str [114, 117, 103], .str [114, 101, 100], .int 5, .int 8] μ Q E = Q (.bl true) μ := by kernel_rfl
theorem s_rug_red_5_9 (μ : Sto) (Q : QD) (E : QX) : c__law_single_right [.str [114, 117, 103], .str [114, 101, 100], .int 5, .int 9] μ Q E = Q (.bl true) μ := by kernel_rfl
theorem s_rug_red_5_10 (μ : Sto) (Q : QD) (E : QX) : c__law_single_right [.str [114, 117, 103], .str [114, 101, 100], .int 5, .int 10] μ Q E = Q (.bl true) μ := by kernel_rfl
theorem s_rug_red_5_11 (μ : Sto) (Q : QD) (E : QX) : c__law_single_right [.str [114, 117, 103], .str [114, 101, 100], .int 5, .int 11] μ Q E = Q (.bl true) μ := by kernel_rfl
theorem s_rug_red_5_12 (μ : Sto) (Q : QD) (E : QX) : c__law_single_right [.str [114, 117, 103], .str [114, 101, 100], .int 5, .int 12] μ Q E = Q (.bl true) μ := by kernel_rfl
theorem s_rug_red_6_7 (μ : Sto) (Q : QD) (E : QX) : c__law_single_right [.str [114, 117, 103], .str [114, 101, 100], .int 6, .int 7] μ Q E = Q (.bl true) μ := by kernel_rfl
theorem s_rug_red_6_8 (μ : Sto) (Q : QD) (E : QX) : c__law_single_right [.str [114, 117, 103], .str [114, 101, 100], .int 6, .int 8] μ Q E = Q (.bl true) μ := by kernel_rfl
theorem s_rug_red_6_9 (μ : Sto) (Q : QD) (E : QX) : c__law_single_right [.str [114, 117, 103], .str [114, 101, 100], .int 6, .int 9] μ Q E = Q (.bl true) μ := by kernel_rfl
theorem s_rug_red_6_10 (μ : Sto) (Q : QD) (E : QX) : c__law_single_right [.str [114, 117, 103], .str [114, 101, 100], .int 6, .int 10] μ Q E = Q (.bl true) μ := by kernel_rfl
theorem s_rug_red_6_11 (μ : Sto) (Q : QD) (E : QX) : c__law_single_right [.str [114, 117, 103], .str [114, 101, 100], .int 6, .int 11] μ Q E = Q (.bl true) μ := by kernel_rfl
theorem s_rug_red_6_12 (μ : Sto) (Q : QD) (E : QX) : c__law_single_right [.str [114, 117, 103], .str [114, 101, 100], .int 6, .int 12] μ Q E = Q (.bl true) μ := by kernel_rfl
theorem s_rug_red_7_8 (μ : Sto) (Q : QD) (E : QX) : c__law_single_right [.str [114, 117, 103], .str [114, 101, 100], .int 7, .int 8] μ Q E = Q (.bl true) μ := by kernel_rfl
theorem s_rug_red_7_9 (μ : Sto) (Q : QD) (E : QX) : c__law_single_right [.str [114, 117, 103], .str [114, 101, 100], .int 7, .int 9] μ Q E = Q (.bl true) μ := by kernel_rfl
theorem s_rug_red_7_10 (μ : Sto) (Q : QD) (E : QX) : c__law_single_right [.str [114, 117, 103], .str [114, 101, 100], .int 7, .int 10] μ Q E = Q (.bl true) μ := by kernel_rfl
theorem s_rug_red_7_11 (μ : Sto) (Q : QD) (E : QX) : c__law_single_right [.str [114, 117, 103], .str [114, 101, 100], .int 7, .int 11] μ Q E = Q (.bl true) μ := by kernel_rfl
theorem s_rug_red_7_12 (μ : Sto) (Q : QD) (E : QX) : c__law_single_right [.str [114, 117, 103], .str [114, 101, 100], .int 7, .int 12] μ Q E = Q (.bl true) μ := by kernel_rfl
theorem s_rug_red_8_9 (μ : Sto) (Q : QD) (E : QX) : c__law_single_right [.str [114, 117, 103], .str [114, 101, 100], .int 8, .int 9] μ Q E = Q (.bl true) μ := by kernel_rfl
theorem s_rug_red_8_10 (μ : Sto) (Q : QD) (E : QX) : c__law_single_right [.str [114, 117, 103], .str [114, 101, 100], .int 8, .int 10] μ Q E = Q (.bl true) μ := by kernel_rfl
theorem s_rug_red_8_11 (μ : Sto) (Q : QD) (E : QX) : c__law_single_right [.str [114, 117, 103], .str [114, 101, 100], .int 8, .int 11] μ Q E = Q (.bl true) μ := by kernel_rfl
theorem s_rug_red_8_12 (μ : Sto) (Q : QD) (E : QX) : c__law_single_right [.str [114, 117, 103], .str [114, 101, 100], .int 8, .int 12] μ Q E = Q (.bl true) μ := by kernel_rfl
theorem s_rug_red_9_10 (μ : Sto) (Q : QD) (E : QX) : c__law_single_right [.str [114, 117, 103], .str [114, 101, 100], .int 9, .int 10] μ Q E = Q (.bl true) μ := by kernel_rfl
theorem s_rug_red_9_11 (μ : Sto) (Q : QD) (E : QX) : c__law_single_right [.str [114, 117, 103], .str [114, 101, 100], .int 9, .int 11] μ Q E = Q (.bl true) μ := by kernel_rfl
theorem s_rug_red_9_12 (μ : Sto) (Q : QD) (E : QX) : c__law_single_right [.str [114, 117, 103], .str [114, 101, 100], .int 9, .int 12] μ Q E = Q (.bl true) μ := by kernel_rfl
theorem s_rug_red_10_11 (μ : Sto) (Q : QD) (E : QX) : c__law_single_right [.str [114, 117, 103], .str [114, 101, 100], .int 10, .int 11] μ Q E = Q (.bl true) μ := by kernel_rfl
theorem s_rug_red_10_12 (μ : Sto) (Q : QD) (E : QX) : c__law_single_right [.str [114, 117, 103], .str [114, 101, 100], .int 10, .int 12] μ Q E = Q (.bl true) μ := by kernel_rfl
theorem s_rug_red_11_12 (μ : Sto) (Q : QD) (E : QX) : c__law_single_right [.str [114, 117, 103], .str [114, 101, 100], .int 11, .int 12] μ Q E = Q (.bl true) μ := by kernel_rfl
theorem sing_rug_red {w v : Int} (h0 : 1 ≤ w) (h1 : w < v) (h2 : v ≤ 12) (μ : Sto) (Q : QD) (E : QX) : c__law_single_right [.str [114, 117, 103], .str [114, 101, 100], .int w, .int v] μ Q E = Q (.bl true) μ := by
  have e : w = 1 ∨ w = 2 ∨ w = 3 ∨ w = 4 ∨ w = 5 ∨ w = 6 ∨ w = 7 ∨ w = 8 ∨ w = 9 ∨ w = 10 ∨ w = 11 := by omega
  rcases e with e | e | e | e | e | e | e | e | e | e | e
  · subst e
    have e : v = 2 ∨ v = 3 ∨ v = 4 ∨ v = 5 ∨ v = 6 ∨ v = 7 ∨ v = 8 ∨ v = 9 ∨ v = 10 ∨ v = 11 ∨ v = 12 := by omega
    rcases e with e | e | e | e | e | e | e | e | e | e | e
    · subst e
      exact s_rug_red_1_2 μ Q E
    · subst e
      exact s_rug_red_1_3 μ Q E
    · subst e
      exact s_rug_red_1_4 μ Q E
    · subst e
      exact s_rug_red_1_5 μ Q E
    · subst e
      exact s_rug_red_1_6 μ Q E
    · subst e
      exact s_rug_red_1_7 μ Q E
    · subst e
      exact s_rug_red_1_8 μ Q E
    · subst e
      exact s_rug_red_1_9 μ Q E
    · subst e
      exact s_rug_red_1_10 μ Q E
    · subst e
      exact s_rug_red_1_11 μ Q E
    · subst e
      exact s_rug_red_1_12 μ Q E
  · subst e
    have e : v = 3 ∨ v = 4 ∨ v = 5 ∨ v = 6 ∨ v = 7 ∨ v = 8 ∨ v = 9 ∨ v = 10 ∨ v = 11 ∨ v = 12 := by omega
    rcases e with e | e | e | e | e | e | e | e | e | e
    · subst e
      exact s_rug_red_2_3 μ Q E
    · subst e
      exact s_rug_red_2_4 μ Q E
    · subst e
      exact s_rug_red_2_5 μ Q E
    · subst e
      exact s_rug_red_2_6 μ Q E
    · subst e
      exact s_rug_red_2_7 μ Q E
    · subst e
      exact s_rug_red_2_8 μ Q E
    · subst e
      exact s_rug_red_2_9 μ Q E
    · subst e
      exact s_rug_red_2_10 μ Q E
    · subst e
      exact s_rug_red_2_11 μ Q E
    · subst e
      exact s_rug_red_2_12 μ Q E
  · subst e
    have e : v = 4 ∨ v = 5 ∨ v = 6 ∨ v = 7 ∨ v = 8 ∨ v = 9 ∨ v = 10 ∨ v = 11 ∨ v = 12 := by omega
    rcases e with e | e | e | e | e | e | e | e | e
    · subst e
      exact s_rug_red_3_4 μ Q E
    · subst e
      exact s_rug_red_3_5 μ Q E
    · subst e
      exact s_rug_red_3_6 μ Q E
    · subst e
      exact s_rug_red_3_7 μ Q E
    · subst e
      exact s_rug_red_3_8 μ Q E
    · subst e
      exact s_rug_red_3_9 μ Q E
    · subst e
      exact s_rug_red_3_10 μ Q E
    · subst e
      exact s_rug_red_3_11 μ Q E
    · subst e
      exact s_rug_red_3_12 μ Q E
  · subst e
    have e : v = 5 ∨ v = 6 ∨ v = 7 ∨ v = 8 ∨ v = 9 ∨ v = 10 ∨ v = 11 ∨ v = 12 := by omega
    rcases e with e | e | e | e | e | e | e | e
    · subst e
      exact s_rug_red_4_5 μ Q E
    · subst e
      exact s_rug_red_4_6 μ Q E
    · subst e
      exact s_rug_red_4_7 μ Q E
    · subst e
      exact s_rug_red_4_8 μ Q E
    · subst e
      exact s_rug_red_4_9 μ Q E
    · subst e
      exact s_rug_red_4_10 μ Q E
    · subst e
      exact s_rug_red_4_11 μ Q E
    · subst e
      exact s_rug_red_4_12 μ Q E
  · subst e
    have e : v = 6 ∨ v = 7 ∨ v = 8 ∨ v = 9 ∨ v = 10 ∨ v = 11 ∨ v = 12 := by omega
    rcases e with e | e | e | e | e | e | e
    · subst e
      exact s_rug_red_5_6 μ Q E
    · subst e
      exact s_rug_red_5_7 μ Q E
    · subst e
      exact s_rug_red_5_8 μ Q E
    · subst e
      exact s_rug_red_5_9 μ Q E
    · subst e
      exact s_rug_red_5_10 μ Q E
    · subst e
      exact s_rug_red_5_11 μ Q E
    · subst e
      exact s_rug_red_5_12 μ Q E
  · subst e
    have e : v = 7 ∨ v = 8 ∨ v = 9 ∨ v = 10 ∨ v = 11 ∨ v = 12 := by omega
    rcases e with e | e | e | e | e | e
    · subst e
      exact s_rug_red_6_7 μ Q E
    · subst e
      exact s_rug_red_6_8 μ Q E
    · subst e
      exact s_rug_red_6_9 μ Q E
    · subst e
      exact s_rug_red_6_10 μ Q E
    · subst e
      exact s_rug_red_6_11 μ Q E
    · subst e
      exact s_rug_red_6_12 μ Q E
  · subst e
    have e : v = 8 ∨ v = 9 ∨ v = 10 ∨ v = 11 ∨ v = 12 := by omega
    rcases e with e | e | e | e | e
    · subst e
      exact s_rug_red_7_8 μ Q E
    · subst e
      exact s_rug_red_7_9 μ Q E
    · subst e
      exact s_rug_red_7_10 μ Q E
    · subst e
      exact s_rug_red_7_11 μ Q E
    · subst e
      exact s_rug_red_7_12 μ Q E
  · subst e
    have e : v = 9 ∨ v = 10 ∨ v = 11 ∨ v = 12 := by omega
    rcases e with e | e | e | e
    · subst e
      exact s_rug_red_8_9 μ Q E
    · subst e
      exact s_rug_red_8_10 μ Q E
    · subst e
      exact s_rug_red_8_11 μ Q E
    · subst e
      exact s_rug_red_8_12 μ Q E
  · subst e
    have e : v = 10 ∨ v = 11 ∨ v = 12 := by omega
    rcases e with e | e | e
    · subst e
      exact s_rug_red_9_10 μ Q E
    · subst e
      exact s_rug_red_9_11 μ Q E
    · subst e
      exact s_rug_red_9_12 μ Q E
  · subst e
    have e : v = 11 ∨ v = 12 := by omega
    rcases e with e | e
    · subst e
      exact s_rug_red_10_11 μ Q E
    · subst e
      exact s_rug_red_10_12 μ Q E
  · subst e
    have e : v = 12 := by omega
    subst e
    exact s_rug_red_11_12 μ Q E
end K30

namespace K30
open PySem PySem.Spec PyProof.Rows L2 Pk K58
theorem s_rug_sock_1_2 (μ : Sto) (Q : QD) (E : QX) : c__law_single_right [.str [114, 117, 103], .str [115, 111, 99, 107], .int 1, .int 2] μ Q E = Q (.bl true) μ := by kernel_rfl
theorem s_rug_sock_1_3 (μ : Sto) (Q : QD) (E : QX) : c__law_single_right [.str [114, 117, 103], .str [115, 111, 99, 107], .int 1, .int 3] μ Q E = Q (.bl true) μ := by kernel_rfl
theorem s_rug_sock_1_4 (μ : Sto) (Q : QD) (E : QX) : c__law_single_right [.str [114, 117, 103], .str [115, 111, 99, 107], .int 1, .int 4] μ Q E = Q (.bl true) μ := by kernel_rfl
theorem s_rug_sock_1_5 (μ : Sto) (Q : QD) (E : QX) : c__law_single_right [.str [114, 117, 103], .str [115, 111, 99, 107], .int 1, .int 5] μ Q E = Q (.bl true) μ := by kernel_rfl
theorem s_rug_sock_1_6 (μ : Sto) (Q : QD) (E : QX) : c__law_single_right [.str [114, 117, 103], .str [115, 111, 99, 107], .int 1, .int 6] μ Q E = Q (.bl true) μ := by kernel_rfl
theorem s_rug_sock_1_7 (μ : Sto) (Q : QD) (E : QX) : c__law_single_right [.str [114, 117, 103], .str [115, 111, 99, 107], .int 1, .int 7] μ Q E = Q (.bl true) μ := by kernel_rfl
theorem s_rug_sock_1_8 (μ : Sto) (Q : QD) (E : QX) : c__law_single_right [.str [114, 117, 103], .str [115, 111, 99, 107], .int 1, .int 8] μ Q E = Q (.bl true) μ := by kernel_rfl
theorem s_rug_sock_1_9 (μ : Sto) (Q : QD) (E : QX) : c__law_single_right [.str [114, 117, 103], .str [115, 111, 99, 107], .int 1, .int 9] μ Q E = Q (.bl true) μ := by kernel_rfl
theorem s_rug_sock_1_10 (μ : Sto) (Q : QD) (E : QX) : c__law_single_right [.str [114, 117, 103], .str [115, 111, 99, 107], .int 1, .int 10] μ Q E = Q (.bl true) μ := by kernel_rfl
theorem s_rug_sock_1_11 (μ : Sto) (Q : QD) (E : QX) : c__law_single_right [.str [114, 117, 103], .str [115, 111, 99, 107], .int 1, .int 11] μ Q E = Q (.bl true) μ := by kernel_rfl
theorem s_rug_sock_1_12 (μ : Sto) (Q : QD) (E : QX) : c__law_single_right [.str [114, 117, 103], .str [115, 111, 99, 107], .int 1, .int 12] μ Q E = Q (.bl true) μ := by kernel_rfl
theorem s_rug_sock_2_3 (μ : Sto) (Q : QD) (E : QX) : c__law_single_right [.str [114, 117, 103], .str [115, 111, 99, 107], .int 2, .int 3] μ Q E = Q (.bl true) μ := by kernel_rfl
theorem s_rug_sock_2_4 (μ : Sto) (Q : QD) (E : QX) : c__law_single_right [.str [114, 117, 103], .str [115, 111, 99, 107], .int 2, .int 4] μ Q E = Q (.bl true) μ := by kernel_rfl
theorem s_rug_sock_2_5 (μ : Sto) (Q : QD) (E : QX) : c__law_single_right [.str [114, 117, 103], .str [115, 111, 99, 107], .int 2, .int 5] μ Q E = Q (.bl true) μ := by kernel_rfl
theorem s_rug_sock_2_6 (μ : Sto) (Q : QD) (E : QX) : c__law_single_right [.str [114, 117, 103], .str [115, 111, 99, 107], .int 2, .int 6] μ Q E = Q (.bl true) μ := by kernel_rfl
theorem s_rug_sock_2_7 (μ : Sto) (Q : QD) (E : QX) : c__law_single_right [.str [114, 117, 103], .str [115, 111, 99, 107], .int 2, .int 7] μ Q E = Q (.bl true) μ := by kernel_rfl
theorem s_rug_sock_2_8 (μ : Sto) (Q : QD) (E : QX) : c__law_single_right [.str [114, 117, 103], .str [115, 111, 99, 107], .int 2, .int 8] μ Q E = Q (.bl true) μ := by kernel_rfl
theorem s_rug_sock_2_9 (μ : Sto) (Q : QD) (E : QX) : c__law_single_right [.str [114, 117, 103], .str [115, 111, 99, 107], .int 2, .int 9] μ Q E = Q (.bl true) μ := by kernel_rfl
theorem s_rug_sock_2_10 (μ : Sto) (Q : QD) (E : QX) : c__law_single_right [.str [114, 117, 103], .str [115, 111, 99, 107], .int 2, .int 10] μ Q E = Q (.bl true) μ := by kernel_rfl
theorem s_rug_sock_2_11 (μ : Sto) (Q : QD) (E : QX) : c__law_single_right [.str [114, 117, 103], .str [115, 111, 99, 107], .int 2, .int 11] μ Q E = Q (.bl true) μ := by kernel_rfl
theorem s_rug_sock_2_12 (μ : Sto) (Q : QD) (E : QX) : c__law_single_right [.str [114, 117, 103], .str [115, 111, 99, 107], .int 2, .int 12] μ Q E = Q (.bl true) μ := by kernel_rfl
theorem s_rug_sock_3_4 (μ : Sto) (Q : QD) (E : QX) : c__law_single_right [.str [114, 117, 103], .str [115, 111, 99, 107], .int 3, .int 4] μ Q E = Q (.bl true) μ := by kernel_rfl
theorem s_rug_sock_3_5 (μ : Sto) (Q : QD) (E : QX) : c__law_single_right [.str [114, 117, 103], .str [115, 111, 99, 107], .int 3, .int 5] μ Q E = Q (.bl true) μ := by kernel_rfl
theorem s_rug_sock_3_6 (μ : Sto) (Q : QD) (E : QX) : c__law_single_right [.str [114, 117, 103], .str [115, 111, 99, 107], .int 3, .int 6] μ Q E = Q (.bl true) μ := by kernel_rfl
theorem s_rug_sock_3_7 (μ : Sto) (Q : QD) (E : QX) : c__law_single_right [.str [114, 117, 103], .str [115, 111, 99, 107], .int 3, .int 7] μ Q E = Q (.bl true) μ := by kernel_rfl
theorem s_rug_sock_3_8 (μ : Sto) (Q : QD) (E : QX) : c__law_single_right [.str [114, 117, 103], .str [115, 111, 99, 107], .int 3, .int 8] μ Q E = Q (.bl true) μ := by kernel_rfl
theorem s_rug_sock_3_9 (μ : Sto) (Q : QD) (E : QX) : c__law_single_right [.str [114, 117, 103], .str [115, 111, 99, 107], .int 3, .int 9] μ Q E = Q (.bl true) μ := by kernel_rfl
theorem s_rug_sock_3_10 (μ : Sto) (Q : QD) (E : QX) : c__law_single_right [.str [114, 117, 103], .str [115, 111, 99, 107], .int 3, .int 10] μ Q E = Q (.bl true) μ := by kernel_rfl
theorem s_rug_sock_3_11 (μ : Sto) (Q : QD) (E : QX) : c__law_single_right [.str [114, 117, 103], .str [115, 111, 99, 107], .int 3, .int 11] μ Q E = Q (.bl true) μ := by kernel_rfl
theorem s_rug_sock_3_12 (μ : Sto) (Q : QD) (E : QX) : c__law_single_right [.str [114, 117, 103], .str [115, 111, 99, 107], .int 3, .int 12] μ Q E = Q (.bl true) μ := by kernel_rfl
theorem s_rug_sock_4_5 (μ : Sto) (Q : QD) (E : QX) : c__law_single_right [.str [114, 117, 103], .str [115, 111, 99, 107], .int 4, .int 5] μ Q E = Q (.bl true) μ := by kernel_rfl
theorem s_rug_sock_4_6 (μ : Sto) (Q : QD) (E : QX) : c__law_single_right [.str [114, 117, 103], .str [115, 111, 99, 107], .int 4, .int 6] μ Q E = Q (.bl true) μ := by kernel_rfl
theorem s_rug_sock_4_7 (μ : Sto) (Q : QD) (E : QX) : c__law_single_right [.str [114, 117, 103], .str [115, 111, 99, 107], .int 4, .int 7] μ Q E = Q (.bl true) μ := by kernel_rfl
theorem s_rug_sock_4_8 (μ : Sto) (Q : QD) (E : QX) : c__law_single_right [.str [114, 117, 103], .str [115, 111, 99, 107], .int 4, .int 8] μ Q E = Q (.bl true) μ := by kernel_rfl
theorem s_rug_sock_4_9 (μ : Sto) (Q : QD) (E : QX) : c__law_single_right [.str [114, 117, 103], .str [115, 111, 99, 107], .int 4, .int 9] μ Q E = Q (.bl true) μ := by kernel_rfl
theorem s_rug_sock_4_10 (μ : Sto) (Q : QD) (E : QX) : c__law_single_right [.str [114, 117, 103], .str [115, 111, 99, 107], .int 4, .int 10] μ Q E = Q (.bl true) μ := by kernel_rfl
theorem s_rug_sock_4_11 (μ : Sto) (Q : QD) (E : QX) : c__law_single_right [.str [114, 117, 103], .str [115, 111, 99, 107], .int 4, .int 11] μ Q E = Q (.bl true) μ := by kernel_rfl
theorem s_rug_sock_4_12 (μ : Sto) (Q : QD) (E : QX) : c__law_single_right [.str [114, 117, 103], .str [115, 111, 99, 107], .int 4, .int 12] μ Q E = Q (.bl true) μ := by kernel_rfl
theorem s_rug_sock_5_6 (μ : Sto) (Q : QD) (E : QX) : c__law_single_right [.str [114, 117, 103], .str [115, 111, 99, 107], .int 5, .int 6] μ Q E = Q (.bl true) μ := by kernel_rfl
theorem s_rug_sock_5_7 (μ : Sto) (Q : QD) (E : QX) : c__law_single_right [.str [114, 117, 103], .str [115, 111, 99, 107], .int 5, .int 7] μ Q E = Q (.bl true) μ := by kernel_rfl
theorem s_rug_sock_5_8 (μ : Sto) (Q : QD) (E : QX) : c__law_single_right [.str [114, 117, 103], .str [115, 111, 99, 107], .int 5, .int 8] μ Q E = Q (.bl true) μ := by kernel_rfl
theorem s_rug_sock_5_9 (μ : Sto) (Q : QD) (E : QX) : c__law_single_right [.str [114, 117, 103], .str [115, 111, 99, 107], .int 5, .int 9] μ Q E = Q (.bl true) μ := by kernel_rfl
theorem s_rug_sock_5_10 (μ : Sto) (Q : QD) (E : QX) : c__law_single_right [.str [114, 117, 103], .str [115, 111, 99, 107], .int 5, .int 10] μ Q E = Q (.bl true) μ := by kernel_rfl
theorem s_rug_sock_5_11 (μ : Sto) (Q : QD) (E : QX) : c__law_single_right [.str [114, 117, 103], .str [115, 111, 99, 107], .int 5, .int 11] μ Q E = Q (.bl true) μ := by kernel_rfl
theorem s_rug_sock_5_12 (μ : Sto) (Q : QD) (E : QX) : c__law_single_right [.str [114, 117, 103], .str [115, 111, 99, 107], .int 5, .int 12] μ Q E = Q (.bl true) μ := by kernel_rfl
theorem s_rug_sock_6_7 (μ : Sto) (Q : QD) (E : QX) : c__law_single_right [.str [114, 117, 103], .str [115, 111, 99, 107], .int 6, .int 7] μ Q E = Q (.bl true) μ := by kernel_rfl
theorem s_rug_sock_6_8 (μ : Sto) (Q : QD) (E : QX) : c__law_single_right [.str [114, 117, 103], .str [115, 111, 99, 107], .int 6, .int 8] μ Q E = Q (.bl true) μ := by kernel_rfl
theorem s_rug_sock_6_9 (μ : Sto) (Q : QD) (E : QX) : c__law_single_right [.str [114, 117, 103], .str [115, 111, 99, 107], .int 6, .int 9] μ Q E = Q (.bl true) μ := by kernel_rfl
theorem s_rug_sock_6_10 (μ : Sto) (Q : QD) (E : QX) : c__law_single_right [.str [114, 117, 103], .str [115, 111, 99, 107], .int 6, .int 10] μ Q E = Q (.bl true) μ := by kernel_rfl
theorem s_rug_sock_6_11 (μ : Sto) (Q : QD) (E : QX) : c__law_single_right [.str [114, 117, 103], .str [115, 111, 99, 107], .int 6, .int 11] μ Q E = Q (.bl true) μ := by kernel_rfl
theorem s_rug_sock_6_12 (μ : Sto) (Q : QD) (E : QX) : c__law_single_right [.str [114, 117, 103], .str [115, 111, 99, 107], .int 6, .int 12] μ Q E = Q (.bl true) μ := by kernel_rfl
theorem s_rug_sock_7_8 (μ : Sto) (Q : QD) (E : QX) : c__law_single_right [.str [114, 117, 103], .str [115, 111, 99, 107], .int 7, .int 8] μ Q E = Q (.bl true) μ := by kernel_rfl
theorem s_rug_sock_7_9 (μ : Sto) (Q : QD) (E : QX) : c__law_single_right [.str [114, 117, 103], .str [115, 111, 99, 107], .int 7, .int 9] μ Q E = Q (.bl true) μ := by kernel_rfl
theorem s_rug_sock_7_10 (μ : Sto) (Q : QD) (E : QX) : c__law_single_right [.str [114, 117, 103], .str [115, 111, 99, 107], .int 7, .int 10] μ Q E = Q (.bl true) μ := by kernel_rfl
theorem s_rug_sock_7_11 (μ : Sto) (Q : QD) (E : QX) : c__law_single_right [.str [114, 117, 103], .str [115, 111, 99, 107], .int 7, .int 11] μ Q E = Q (.bl true) μ := by kernel_rfl
theorem s_rug_sock_7_12 (μ : Sto) (Q : QD) (E : QX) : c__law_single_right [.str [114, 117, 103], .str [115, 111, 99, 107], .int 7, .int 12] μ Q E = Q (.bl true) μ := by kernel_rfl
theorem s_rug_sock_8_9 (μ : Sto) (Q : QD) (E : QX) : c__law_single_right [.str [114, 117, 103], .str [115, 111, 99, 107], .int 8, .int 9] μ Q E = Q (.bl true) μ := by kernel_rfl
theorem s_rug_sock_8_10 (μ : Sto) (Q : QD) (E : QX) : c__law_single_right [.str [114, 117, 103], .str [115, 111, 99, 107], .int 8, .int 10] μ Q E = Q (.bl true) μ := by kernel_rfl
theorem s_rug_sock_8_11 (μ : Sto) (Q : QD) (E : QX) : c__law_single_right [.str [114, 117, 103], .str [115, 111, 99, 107], .int 8, .int 11] μ Q E = Q (.bl true) μ := by kernel_rfl
theorem s_rug_sock_8_12 (μ : Sto) (Q : QD) (E : QX) : c__law_single_right [.str [114, 117, 103], .str [115, 111, 99, 107], .int 8, .int 12] μ Q E = Q (.bl true) μ := by kernel_rfl
theorem s_rug_sock_9_10 (μ : Sto) (Q : QD) (E : QX) : c__law_single_right [.str [114, 117, 103], .str [115, 111, 99, 107], .int 9, .int 10] μ Q E = Q (.bl true) μ := by kernel_rfl
theorem s_rug_sock_9_11 (μ : Sto) (Q : QD) (E : QX) : c__law_single_right [.str [114, 117, 103], .str [115, 111, 99, 107], .int 9, .int 11] μ Q E = Q (.bl true) μ := by kernel_rfl
theorem s_rug_sock_9_12 (μ : Sto) (Q : QD) (E : QX) : c__law_single_right [.str [114, 117, 103], .str [115, 111, 99, 107], .int 9, .int 12] μ Q E = Q (.bl true) μ := by kernel_rfl
theorem s_rug_sock_10_11 (μ : Sto) (Q : QD) (E : QX) : c__law_single_right [.str [114, 117, 103], .str [115, 111, 99, 107], .int 10, .int 11] μ Q E = Q (.bl true) μ := by kernel_rfl
theorem s_rug_sock_10_12 (μ : Sto) (Q : QD) (E : QX) : c__law_single_right [.str [114, 117, 103], .str [115, 111, 99, 107], .int 10, .int 12] μ Q E = Q (.bl true) μ := by kernel_rfl
theorem s_rug_sock_11_12 (μ : Sto) (Q : QD) (E : QX) : c__law_single_right [.str [114, 117, 103], .str [115, 111, 99, 107], .int 11, .int 12] μ Q E = Q (.bl true) μ := by kernel_rfl
theorem sing_rug_sock {w v : Int} (h0 : 1 ≤ w) (h1 : w < v) (h2 : v ≤ 12) (μ : Sto) (Q : QD) (E : QX) : c__law_single_right [.str [114, 117, 103], .str [115, 111, 99, 107], .int w, .int v] μ Q E = Q (.bl true) μ := by
  have e : w = 1 ∨ w = 2 ∨ w = 3 ∨ w = 4 ∨ w = 5 ∨ w = 6 ∨ w = 7 ∨ w = 8 ∨ w = 9 ∨ w = 10 ∨ w = 11 := by omega
  rcases e with e | e | e | e | e | e | e | e | e | e | e
  · subst e
    have e : v = 2 ∨ v = 3 ∨ v = 4 ∨ v = 5 ∨ v = 6 ∨ v = 7 ∨ v = 8 ∨ v = 9 ∨ v = 10 ∨ v = 11 ∨ v = 12 := by omega
    rcases e with e | e | e | e | e | e | e | e | e | e | e
    · subst e
      exact s_rug_sock_1_2 μ Q E
    · subst e
      exact s_rug_sock_1_3 μ Q E
    · subst e
      exact s_rug_sock_1_4 μ Q E
    · subst e
      exact s_rug_sock_1_5 μ Q E
    · subst e
      exact s_rug_sock_1_6 μ Q E
    · subst e
      exact s_rug_sock_1_7 μ Q E
    · subst e
      exact s_rug_sock_1_8 μ Q E
    · subst e
      exact s_rug_sock_1_9 μ Q E
    · subst e
      exact s_rug_sock_1_10 μ Q E
    · subst e
      exact s_rug_sock_1_11 μ Q E
    · subst e
      exact s_rug_sock_1_12 μ Q E
  · subst e
    have e : v = 3 ∨ v = 4 ∨ v = 5 ∨ v = 6 ∨ v = 7 ∨ v = 8 ∨ v = 9 ∨ v = 10 ∨ v = 11 ∨ v = 12 := by omega
    rcases e with e | e | e | e | e | e | e | e | e | e
    · subst e
      exact s_rug_sock_2_3 μ Q E
    · subst e
      exact s_rug_sock_2_4 μ Q E
    · subst e
      exact s_rug_sock_2_5 μ Q E
    · subst e
      exact s_rug_sock_2_6 μ Q E
    · subst e
      exact s_rug_sock_2_7 μ Q E
    · subst e
      exact s_rug_sock_2_8 μ Q E
    · subst e
      exact s_rug_sock_2_9 μ Q E
    · subst e
      exact s_rug_sock_2_10 μ Q E
    · subst e
      exact s_rug_sock_2_11 μ Q E
    · subst e
      exact s_rug_sock_2_12 μ Q E
  · subst e
    have e : v = 4 ∨ v = 5 ∨ v = 6 ∨ v = 7 ∨ v = 8 ∨ v = 9 ∨ v = 10 ∨ v = 11 ∨ v = 12 := by omega
    rcases e with e | e | e | e | e | e | e | e | e
    · subst e
      exact s_rug_sock_3_4 μ Q E
    · subst e
      exact s_rug_sock_3_5 μ Q E
    · subst e
      exact s_rug_sock_3_6 μ Q E
    · subst e
      exact s_rug_sock_3_7 μ Q E
    · subst e
      exact s_rug_sock_3_8 μ Q E
    · subst e
      exact s_rug_sock_3_9 μ Q E
    · subst e
      exact s_rug_sock_3_10 μ Q E
    · subst e
      exact s_rug_sock_3_11 μ Q E
    · subst e
      exact s_rug_sock_3_12 μ Q E
  · subst e
    have e : v = 5 ∨ v = 6 ∨ v = 7 ∨ v = 8 ∨ v = 9 ∨ v = 10 ∨ v = 11 ∨ v = 12 := by omega
    rcases e with e | e | e | e | e | e | e | e
    · subst e
      exact s_rug_sock_4_5 μ Q E
    · subst e
      exact s_rug_sock_4_6 μ Q E
    · subst e
      exact s_rug_sock_4_7 μ Q E
    · subst e
      exact s_rug_sock_4_8 μ Q E
    · subst e
      exact s_rug_sock_4_9 μ Q E
    · subst e
      exact s_rug_sock_4_10 μ Q E
    · subst e
      exact s_rug_sock_4_11 μ Q E
    · subst e
      exact s_rug_sock_4_12 μ Q E
  · subst e
    have e : v = 6 ∨ v = 7 ∨ v = 8 ∨ v = 9 ∨ v = 10 ∨ v = 11 ∨ v = 12 := by omega
    rcases e with e | e | e | e | e | e | e
    · subst e
      exact s_rug_sock_5_6 μ Q E
    · subst e
      exact s_rug_sock_5_7 μ Q E
    · subst e
      exact s_rug_sock_5_8 μ Q E
    · subst e
      exact s_rug_sock_5_9 μ Q E
    · subst e
      exact s_rug_sock_5_10 μ Q E
    · subst e
      exact s_rug_sock_5_11 μ Q E
    · subst e
      exact s_rug_sock_5_12 μ Q E
  · subst e
    have e : v = 7 ∨ v = 8 ∨ v = 9 ∨ v = 10 ∨ v = 11 ∨ v = 12 := by omega
    rcases e with e | e | e | e | e | e
    · subst e
      exact s_rug_sock_6_7 μ Q E
    · subst e
      exact s_rug_sock_6_8 μ Q E
    · subst e
      exact s_rug_sock_6_9 μ Q E
    · subst e
      exact s_rug_sock_6_10 μ Q E
    · subst e
      exact s_rug_sock_6_11 μ Q E
    · subst e
      exact s_rug_sock_6_12 μ Q E
  · subst e
    have e : v = 8 ∨ v = 9 ∨ v = 10 ∨ v = 11 ∨ v = 12 := by omega
    rcases e with e | e | e | e | e
    · subst e
      exact s_rug_sock_7_8 μ Q E
    · subst e
      exact s_rug_sock_7_9 μ Q E
    · subst e
      exact s_rug_sock_7_10 μ Q E
    · subst e
      exact s_rug_sock_7_11 μ Q E
    · subst e
      exact s_rug_sock_7_12 μ Q E
  · subst e
    have e : v = 9 ∨ v = 10 ∨ v = 11 ∨ v = 12 := by omega
    rcases e with e | e | e | e
    · subst e
      exact s_rug_sock_8_9 μ Q E
    · subst e
      exact s_rug_sock_8_10 μ Q E
    · subst e
      exact s_rug_sock_8_11 μ Q E
    · subst e
      exact s_rug_sock_8_12 μ Q E
  · subst e
    have e : v = 10 ∨ v = 11 ∨ v = 12 := by omega
    rcases e with e | e | e
    · subst e
      exact s_rug_sock_9_10 μ Q E
    · subst e
      exact s_rug_sock_9_11 μ Q E
    · subst e
      exact s_rug_sock_9_12 μ Q E
  · subst e
    have e : v = 11 ∨ v = 12 := by omega
    rcases e with e | e
    · subst e
      exact s_rug_sock_10_11 μ Q E
    · subst e
      exact s_rug_sock_10_12 μ Q E
  · subst e
    have e : v = 12 := by omega
    subst e
    exact s_rug_sock_11_12 μ Q E
end K30

namespace K30
open PySem PySem.Spec PyProof.Rows L2 Pk K58
theorem s_rug_d_1_2 (μ : Sto) (Q : QD) (E : QX) : c__law_single_right [.str [114, 117, 103], .str [100], .int 1, .int 2] μ Q E = Q (.bl true) μ := by kernel_rfl
theorem s_rug_d_1_3 (μ : Sto) (Q : QD) (E : QX) : c__law_single_right [.str [114, 117, 103], .str [100], .int 1, .int 3] μ Q E = Q (.bl true) μ := by kernel_rfl
theorem s_rug_d_1_4 (μ : Sto) (Q : QD) (E : QX) : c__law_single_right [.str [114, 117, 103], .str [100], .int 1, .int 4] μ Q E = Q (.bl true) μ := by kernel_rfl
theorem s_rug_d_1_5 (μ : Sto) (Q : QD) (E : QX) : c__law_single_right [.str [114, 117, 103], .str [100], .int 1, .int 5] μ Q E = Q (.bl true) μ := by kernel_rfl
theorem s_rug_d_1_6 (μ : Sto) (Q : QD) (E : QX) : c__law_single_right [.str [114, 117, 103], .str [100], .int 1, .int 6] μ Q E = Q (.bl true) μ := by kernel_rfl
theorem s_rug_d_1_7 (μ : Sto) (Q : QD) (E : QX) : c__law_single_right [.str [114, 117, 103], .str [100], .int 1, .int 7] μ Q E = Q (.bl true) μ := by kernel_rfl
theorem s_rug_d_1_8 (μ : Sto) (Q : QD) (E : QX) : c__law_single_right [.str [114, 117, 103], .str [100], .int 1, .int 8] μ Q E = Q (.bl true) μ := by kernel_rfl
theorem s_rug_d_1_9 (μ : Sto) (Q : QD) (E : QX) : c__law_single_right [.str [114, 117, 103], .str [100], .int 1, .int 9] μ Q E = Q (.bl true) μ := by kernel_rfl
theorem s_rug_d_1_10 (μ : Sto) (Q : QD) (E : QX) : c__law_single_right [.str [114, 117, 103], .str [100], .int 1, .int 10] μ Q E = Q (.bl true) μ := by kernel_rfl
theorem s_rug_d_1_11 (μ : Sto) (Q : QD) (E : QX) : c__law_single_right [.str [114, 117, 103], .str [100], .int 1, .int 11] μ Q E = Q (.bl true) μ := by kernel_rfl
theorem s_rug_d_1_12 (μ : Sto) (Q : QD) (E : QX) : c__law_single_right [.str [114, 117, 103], .str [100], .int 1, .int 12] μ Q E = Q (.bl true) μ := by kernel_rfl
theorem s_rug_d_2_3 (μ : Sto) (Q : QD) (E : QX) : c__law_single_right [.str [114, 117, 103], .str [100], .int 2, .int 3] μ Q E = Q (.bl true) μ := by kernel_rfl
theorem s_rug_d_2_4 (μ : Sto) (Q : QD) (E : QX) : c__law_single_right [.str [114, 117, 103], .str [100], .int 2, .int 4] μ Q E = Q (.bl true) μ := by kernel_rfl
theorem s_rug_d_2_5 (μ : Sto) (Q : QD) (E : QX) : c__law_single_right [.str [114, 117, 103], .str [100], .int 2, .int 5] μ Q E = Q (.bl true) μ := by kernel_rfl
theorem s_rug_d_2_6 (μ : Sto) (Q : QD) (E : QX) : c__law_single_right [.str [114, 117, 103], .str [100], .int 2, .int 6] μ Q E = Q (.bl true) μ := by kernel_rfl
theorem s_rug_d_2_7 (μ : Sto) (Q : QD) (E : QX) : c__law_single_right [.str [114, 117, 103], .str [100], .int 2, .int 7] μ Q E = Q (.bl true) μ := by kernel_rfl
theorem s_rug_d_2_8 (μ : Sto) (Q : QD) (E : QX) : c__law_single_right [.str [114, 117, 103], .str [100], .int 2, .int 8] μ Q E = Q (.bl true) μ := by kernel_rfl
theorem s_rug_d_2_9 (μ : Sto) (Q : QD) (E : QX) : c__law_single_right [.str [114, 117, 103], .str [100], .int 2, .int 9] μ Q E = Q (.bl true) μ := by kernel_rfl
theorem s_rug_d_2_10 (μ : Sto) (Q : QD) (E : QX) : c__law_single_right [.str [114, 117, 103], .str [100], .int 2, .int 10] μ Q E = Q (.bl true) μ := by kernel_rfl
theorem s_rug_d_2_11 (μ : Sto) (Q : QD) (E : QX) : c__law_single_right [.str [114, 117, 103], .str [100], .int 2, .int 11] μ Q E = Q (.bl true) μ := by kernel_rfl
theorem s_rug_d_2_12 (μ : Sto) (Q : QD) (E : QX) : c__law_single_right [.str [114, 117, 103], .str [100], .int 2, .int 12] μ Q E = Q (.bl true) μ := by kernel_rfl
theorem s_rug_d_3_4 (μ : Sto) (Q : QD) (E : QX) : c__law_single_right [.str [114, 117, 103], .str [100], .int 3, .int 4] μ Q E = Q (.bl true) μ := by kernel_rfl
theorem s_rug_d_3_5 (μ : Sto) (Q : QD) (E : QX) : c__law_single_right [.str [114, 117, 103], .str [100], .int 3, .int 5] μ Q E = Q (.bl true) μ := by kernel_rfl
theorem s_rug_d_3_6 (μ : Sto) (Q : QD) (E : QX) : c__law_single_right [.str [114, 117, 103], .str [100], .int 3, .int 6] μ Q E = Q (.bl true) μ := by kernel_rfl
theorem s_rug_d_3_7 (μ : Sto) (Q : QD) (E : QX) : c__law_single_right [.str [114, 117, 103], .str [100], .int 3, .int 7] μ Q E = Q (.bl true) μ := by kernel_rfl
theorem s_rug_d_3_8 (μ : Sto) (Q : QD) (E : QX) : c__law_single_right [.str [114, 117, 103], .str [100], .int 3, .int 8] μ Q E = Q (.bl true) μ := by kernel_rfl
theorem s_rug_d_3_9 (μ : Sto) (Q : QD) (E : QX) : c__law_single_right [.str [114, 117, 103], .str [100], .int 3, .int 9] μ Q E = Q (.bl true) μ := by kernel_rfl
theorem s_rug_d_3_10 (μ : Sto) (Q : QD) (E : QX) : c__law_single_right [.str [114, 117, 103], .str [100], .int 3, .int 10] μ Q E = Q (.bl true) μ := by kernel_rfl
theorem s_rug_d_3_11 (μ : Sto) (Q : QD) (E : QX) : c__law_single_right [.str [114, 117, 103], .str [100], .int 3, .int 11] μ Q E = Q (.bl true) μ := by kernel_rfl
theorem s_rug_d_3_12 (μ : Sto) (Q : QD) (E : QX) : c__law_single_right [.str [114, 117, 103], .str [100], .int 3, .int 12] μ Q E = Q (.bl true) μ := by kernel_rfl
theorem s_rug_d_4_5 (μ : Sto) (Q : QD) (E : QX) : c__law_single_right [.str [114, 117, 103], .str [100], .int 4, .int 5] μ Q E = Q (.bl true) μ := by kernel_rfl
theorem s_rug_d_4_6 (μ : Sto) (Q : QD) (E : QX) : c__law_single_right [.str [114, 117, 103], .str [100], .int 4, .int 6] μ Q E = Q (.bl true) μ := by kernel_rfl
theorem s_rug_d_4_7 (μ : Sto) (Q : QD) (E : QX) : c__law_single_right [.str [114, 117, 103], .str [100], .int 4, .int 7] μ Q E = Q (.bl true) μ := by kernel_rfl
theorem s_rug_d_4_8 (μ : Sto) (Q : QD) (E : QX) : c__law_single_right [.str [114, 117, 103], .str [100], .int 4, .int 8] μ Q E = Q (.bl true) μ := by kernel_rfl
theorem s_rug_d_4_9 (μ : Sto) (Q : QD) (E : QX) : c__law_single_right [.str [114, 117, 103], .str [100], .int 4, .int 9] μ Q E = Q (.bl true) μ := by kernel_rfl
theorem s_rug_d_4_10 (μ : Sto) (Q : QD) (E : QX) : c__law_single_right [.str [114, 117, 103], .str [100], .int 4, .int 10] μ Q E = Q (.bl true) μ := by kernel_rfl
theorem s_rug_d_4_11 (μ : Sto) (Q : QD) (E : QX) : c__law_single_right [.str [114, 117, 103], .str [100], .int 4, .int 11] μ Q E = Q (.bl true) μ := by kernel_rfl
theorem s_rug_d_4_12 (μ : Sto) (Q : QD) (E : QX) : c__law_single_right [.str [114, 117, 103], .str [100], .int 4, .int 12] μ Q E = Q (.bl true) μ := by kernel_rfl
theorem s_rug_d_5_6 (μ : Sto) (Q : QD) (E : QX) : c__law_single_right [.str [114, 117, 103], .str [100], .int 5, .int 6] μ Q E = Q (.bl true) μ := by kernel_rfl
theorem s_rug_d_5_7 (μ : Sto) (Q : QD) (E : QX) : c__law_single_right [.str [114, 117, 103], .str [100], .int 5, .int 7] μ Q E = Q (.bl true) μ := by kernel_rfl
theorem s_rug_d_5_8 (μ : Sto) (Q : QD) (E : QX) : c__law_single_right [.str [114, 117, 103], .str [100], .int 5, .int 8] μ Q E = Q (.bl true) μ := by kernel_rfl
theorem s_rug_d_5_9 (μ : Sto) (Q : QD) (E : QX) : c__law_single_right [.str [114, 117, 103], .str [100], .int 5, .int 9] μ Q E = Q (.bl true) μ := by kernel_rfl
theorem s_rug_d_5_10 (μ : Sto) (Q : QD) (E : QX) : c__law_single_right [.str [114, 117, 103], .str [100], .int 5, .int 10] μ Q E = Q (.bl true) μ := by kernel_rfl
theorem s_rug_d_5_11 (μ : Sto) (Q : QD) (E : QX) : c__law_single_right [.str [114, 117, 103], .str [100], .int 5, .int 11] μ Q E = Q (.bl true) μ := by kernel_rfl
theorem s_rug_d_5_12 (μ : Sto) (Q : QD) (E : QX) : c__law_single_right [.str [114, 117, 103], .str [100], .int 5, .int 12] μ Q E = Q (.bl true) μ := by kernel_rfl
theorem s_rug_d_6_7 (μ : Sto) (Q : QD) (E : QX) : c__law_single_right [.str [114, 117, 103], .str [100], .int 6, .int 7] μ Q E = Q (.bl true) μ := by kernel_rfl
theorem s_rug_d_6_8 (μ : Sto) (Q : QD) (E : QX) : c__law_single_right [.str [114, 117, 103], .str [100], .int 6, .int 8] μ Q E = Q (.bl true) μ := by kernel_rfl
theorem s_rug_d_6_9 (μ : Sto) (Q : QD) (E : QX) : c__law_single_right [.str [114, 117, 103], .str [100], .int 6, .int 9] μ Q E = Q (.bl true) μ := by kernel_rfl
theorem s_rug_d_6_10 (μ : Sto) (Q : QD) (E : QX) : c__law_single_right [.str [114, 117, 103], .str [100], .int 6, .int 10] μ Q E = Q (.bl true) μ := by kernel_rfl
theorem s_rug_d_6_11 (μ : Sto) (Q : QD) (E : QX) : c__law_single_right [.str [114, 117, 103], .str [100], .int 6, .int 11] μ Q E = Q (.bl true) μ := by kernel_rfl
theorem s_rug_d_6_12 (μ : Sto) (Q : QD) (E : QX) : c__law_single_right [.str [114, 117, 103], .str [100], .int 6, .int 12] μ Q E = Q (.bl true) μ := by kernel_rfl
theorem s_rug_d_7_8 (μ : Sto) (Q : QD) (E : QX) : c__law_single_right [.str [114, 117, 103], .str [100], .int 7, .int 8] μ Q E = Q (.bl true) μ := by kernel_rfl
theorem s_rug_d_7_9 (μ : Sto) (Q : QD) (E : QX) : c__law_single_right [.str [114, 117, 103], .str [100], .int 7, .int 9] μ Q E = Q (.bl true) μ := by kernel_rfl
theorem s_rug_d_7_10 (μ : Sto) (Q : QD) (E : QX) : c__law_single_right [.str [114, 117, 103], .str [100], .int 7, .int 10] μ Q E = Q (.bl true) μ := by kernel_rfl
theorem s_rug_d_7_11 (μ : Sto) (Q : QD) (E : QX) : c__law_single_right [.str [114, 117, 103], .str [100], .int 7, .int 11] μ Q E = Q (.bl true) μ := by kernel_rfl
theorem s_rug_d_7_12 (μ : Sto) (Q : QD) (E : QX) : c__law_single_right [.str [114, 117, 103], .str [100], .int 7, .int 12] μ Q E = Q (.bl true) μ := by kernel_rfl
theorem s_rug_d_8_9 (μ : Sto) (Q : QD) (E : QX) : c__law_single_right [.str [114, 117, 103], .str [100], .int 8, .int 9] μ Q E = Q (.bl true) μ := by kernel_rfl
theorem s_rug_d_8_10 (μ : Sto) (Q : QD) (E : QX) : c__law_single_right [.str [114, 117, 103], .str [100], .int 8, .int 10] μ Q E = Q (.bl true) μ := by kernel_rfl
theorem s_rug_d_8_11 (μ : Sto) (Q : QD) (E : QX) : c__law_single_right [.str [114, 117, 103], .str [100], .int 8, .int 11] μ Q E = Q (.bl true) μ := by kernel_rfl
theorem s_rug_d_8_12 (μ : Sto) (Q : QD) (E : QX) : c__law_single_right [.str [114, 117, 103], .str [100], .int 8, .int 12] μ Q E = Q (.bl true) μ := by kernel_rfl
theorem s_rug_d_9_10 (μ : Sto) (Q : QD) (E : QX) : c__law_single_right [.str [114, 117, 103], .str [100], .int 9, .int 10] μ Q E = Q (.bl true) μ := by kernel_rfl
theorem s_rug_d_9_11 (μ : Sto) (Q : QD) (E : QX) : c__law_single_right [.str [114, 117, 103], .str [100], .int 9, .int 11] μ Q E = Q (.bl true) μ := by kernel_rfl
theorem s_rug_d_9_12 (μ : Sto) (Q : QD) (E : QX) : c__law_single_right [.str [114, 117, 103], .str [100], .int 9, .int 12] μ Q E = Q (.bl true) μ := by kernel_rfl
theorem s_rug_d_10_11 (μ : Sto) (Q : QD) (E : QX) : c__law_single_right [.str [114, 117, 103], .str [100], .int 10, .int 11] μ Q E = Q (.bl true) μ := by kernel_rfl
theorem s_rug_d_10_12 (μ : Sto) (Q : QD) (E : QX) : c__law_single_right [.str [114, 117, 103], .str [100], .int 10, .int 12] μ Q E = Q (.bl true) μ := by kernel_rfl
theorem s_rug_d_11_12 (μ : Sto) (Q : QD) (E : QX) : c__law_single_right [.str [114, 117, 103], .str [100], .int 11, .int 12] μ Q E = Q (.bl true) μ := by kernel_rfl
theorem sing_rug_d {w v : Int} (h0 : 1 ≤ w) (h1 : w < v) (h2 : v ≤ 12) (μ : Sto) (Q : QD) (E : QX) : c__law_single_right [.str [114, 117, 103], .str [100], .int w, .int v] μ Q E = Q (.bl true) μ := by
  have e : w = 1 ∨ w = 2 ∨ w = 3 ∨ w = 4 ∨ w = 5 ∨ w = 6 ∨ w = 7 ∨ w = 8 ∨ w = 9 ∨ w = 10 ∨ w = 11 := by omega
  rcases e with e | e | e | e | e | e | e | e | e | e | e
  · subst e
    have e : v = 2 ∨ v = 3 ∨ v = 4 ∨ v = 5 ∨ v = 6 ∨ v = 7 ∨ v = 8 ∨ v = 9 ∨ v = 10 ∨ v = 11 ∨ v = 12 := by omega
    rcases e with e | e | e | e | e | e | e | e | e | e | e
    · subst e
      exact s_rug_d_1_2 μ Q E
    · subst e
      exact s_rug_d_1_3 μ Q E
    · subst e
      exact s_rug_d_1_4 μ Q E
    · subst e
      exact s_rug_d_1_5 μ Q E
    · subst e
      exact s_rug_d_1_6 μ Q E
    · subst e
      exact s_rug_d_1_7 μ Q E
    · subst e
      exact s_rug_d_1_8 μ Q E
    · subst e
      exact s_rug_d_1_9 μ Q E
    · subst e
      exact s_rug_d_1_10 μ Q E
    · subst e
      exact s_rug_d_1_11 μ Q E
    · subst e
      exact s_rug_d_1_12 μ Q E
  · subst e
    have e : v = 3 ∨ v = 4 ∨ v = 5 ∨ v = 6 ∨ v = 7 ∨ v = 8 ∨ v = 9 ∨ v = 10 ∨ v = 11 ∨ v = 12 := by omega
    rcases e with e | e | e | e | e | e | e | e | e | e
    · subst e
      exact s_rug_d_2_3 μ Q E
    · subst e
      exact s_rug_d_2_4 μ Q E
    · subst e
      exact s_rug_d_2_5 μ Q E
    · subst e
      exact s_rug_d_2_6 μ Q E
    · subst e
      exact s_rug_d_2_7 μ Q E
    · subst e
      exact s_rug_d_2_8 μ Q E
    · subst e
      exact s_rug_d_2_9 μ Q E
    · subst e
      exact s_rug_d_2_10 μ Q E
    · subst e
      exact s_rug_d_2_11 μ Q E
    · subst e
      exact s_rug_d_2_12 μ Q E
  · subst e
    have e : v = 4 ∨ v = 5 ∨ v = 6 ∨ v = 7 ∨ v = 8 ∨ v = 9 ∨ v = 10 ∨ v = 11 ∨ v = 12 := by omega
    rcases e with e | e | e | e | e | e | e | e | e
    · subst e
      exact s_rug_d_3_4 μ Q E
    · subst e
      exact s_rug_d_3_5 μ Q E
    · subst e
      exact s_rug_d_3_6 μ Q E
    · subst e
      exact s_rug_d_3_7 μ Q E
    · subst e
      exact s_rug_d_3_8 μ Q E
    · subst e
      exact s_rug_d_3_9 μ Q E
    · subst e
      exact s_rug_d_3_10 μ Q E
    · subst e
      exact s_rug_d_3_11 μ Q E
    · subst e
      exact s_rug_d_3_12 μ Q E
  · subst e
    have e : v = 5 ∨ v = 6 ∨ v = 7 ∨ v = 8 ∨ v = 9 ∨ v = 10 ∨ v = 11 ∨ v = 12 := by omega
    rcases e with e | e | e | e | e | e | e | e
    · subst e
      exact s_rug_d_4_5 μ Q E
    · subst e
      exact s_rug_d_4_6 μ Q E
    · subst e
      exact s_rug_d_4_7 μ Q E
    · subst e
      exact s_rug_d_4_8 μ Q E
    · subst e
      exact s_rug_d_4_9 μ Q E
    · subst e
      exact s_rug_d_4_10 μ Q E
    · subst e
      exact s_rug_d_4_11 μ Q E
    · subst e
      exact s_rug_d_4_12 μ Q E
  · subst e
    have e : v = 6 ∨ v = 7 ∨ v = 8 ∨ v = 9 ∨ v = 10 ∨ v = 11 ∨ v = 12 := by omega
    rcases e with e | e | e | e | e | e | e
    · subst e
      exact s_rug_d_5_6 μ Q E
    · subst e
      exact s_rug_d_5_7 μ Q E
    · subst e
      exact s_rug_d_5_8 μ Q E
    · subst e
      exact s_rug_d_5_9 μ Q E
    · subst e
      exact s_rug_d_5_10 μ Q E
    · subst e
      exact s_rug_d_5_11 μ Q E
    · subst e
      exact s_rug_d_5_12 μ Q E
  · subst e
    have e : v = 7 ∨ v = 8 ∨ v = 9 ∨ v = 10 ∨ v = 11 ∨ v = 12 := by omega
    rcases e with e | e | e | e | e | e
    · subst e
      exact s_rug_d_6_7 μ Q E
    · subst e
      exact s_rug_d_6_8 μ Q E
    · subst e
      exact s_rug_d_6_9 μ Q E
    · subst e
      exact s_rug_d_6_10 μ Q E
    · subst e
      exact s_rug_d_6_11 μ Q E
    · subst e
      exact s_rug_d_6_12 μ Q E
  · subst e
    have e : v = 8 ∨ v = 9 ∨ v = 10 ∨ v = 11 ∨ v = 12 := by omega
    rcases e with e | e | e | e | e
    · subst e
      exact s_rug_d_7_8 μ Q E
    · subst e
      exact s_rug_d_7_9 μ Q E
    · subst e
      exact s_rug_d_7_10 μ Q E
    · subst e
      exact s_rug_d_7_11 μ Q E
    · subst e
      exact s_rug_d_7_12 μ Q E
  · subst e
    have e : v = 9 ∨ v = 10 ∨ v = 11 ∨ v = 12 := by omega
    rcases e with e | e | e | e
    · subst e
      exact s_rug_d_8_9 μ Q E
    · subst e
      exact s_rug_d_8_10 μ Q E
    · subst e
      exact s_rug_d_8_11 μ Q E
    · subst e
      exact s_rug_d_8_12 μ Q E
  · subst e
    have e : v = 10 ∨ v = 11 ∨ v = 12 := by omega
    rcases e with e | e | e
    · subst e
      exact s_rug_d_9_10 μ Q E
    · subst e
      exact s_rug_d_9_11 μ Q E
    · subst e
      exact s_rug_d_9_12 μ Q E
  · subst e
    have e : v = 11 ∨ v = 12 := by omega
    rcases e with e | e
    · subst e
      exact s_rug_d_10_11 μ Q E
    · subst e
      exact s_rug_d_10_12 μ Q E
  · subst e
    have e : v = 12 := by omega
    subst e
    exact s_rug_d_11_12 μ Q E
end K30

namespace K30
open PySem PySem.Spec PyProof.Rows L2 Pk K58
theorem p_0_red_1 (μ : Sto) (Q : QD) (E : QX) : c__law_pair_right [.lst [.str [115, 111, 99, 107], .str [114, 117, 103], .str [119, 97, 115, 104]], .str [114, 101, 100], .int 1] μ Q E = Q (.bl true) μ := by kernel_rfl
theorem p_0_red_2 (μ : Sto) (Q : QD) (E : QX) : c__law_pair_right [.lst [.str [115, 111, 99, 107], .str [114, 117, 103], .str [119, 97, 115, 104]], .str [114, 101, 100], .int 2] μ Q E = Q (.bl true) μ := by kernel_rfl
theorem p_0_red_3 (μ : Sto) (Q : QD) (E : QX) : c__law_pair_right [.lst [.str [115, 111, 99, 107], .str [114, 117, 103], .str [119, 97, 115, 104]], .str [114, 101, 100], .int 3] μ Q E = Q (.bl true) μ := by kernel_rfl
theorem p_0_red_4 (μ : Sto) (Q : QD) (E : QX) : c__law_pair_right [.lst [.str [115, 111, 99, 107], .str [114, 117, 103], .str [119, 97, 115, 104]], .str [114, 101, 100], .int 4] μ Q E = Q (.bl true) μ := by kernel_rfl
theorem p_0_red_5 (μ : Sto) (Q : QD) (E : QX) : c__law_pair_right [.lst [.str [115, 111, 99, 107], .str [114, 117, 103], .str [119, 97, 115, 104]], .str [114, 101, 100], .int 5] μ Q E = Q (.bl true) μ := by kernel_rfl
theorem p_0_red_6 (μ : Sto) (Q : QD) (E : QX) : c__law_pair_right [.lst [.str [115, 111, 99, 107], .str [114, 117, 103], .str [119, 97, 115, 104]], .str [114, 101, 100], .int 6] μ Q E = Q (.bl true) μ := by kernel_rfl
theorem p_0_red_7 (μ : Sto) (Q : QD) (E : QX) : c__law_pair_right [.lst [.str [115, 111, 99, 107], .str [114, 117, 103], .str [119, 97, 115, 104]], .str [114, 101, 100], .int 7] μ Q E = Q (.bl true) μ := by kernel_rfl
theorem p_0_red_8 (μ : Sto) (Q : QD) (E : QX) : c__law_pair_right [.lst [.str [115, 111, 99, 107], .str [114, 117, 103], .str [119, 97, 115, 104]], .str [114, 101, 100], .int 8] μ Q E = Q (.bl true) μ := by kernel_rfl
theorem p_0_red_9 (μ : Sto) (Q : QD) (E : QX) : c__law_pair_right [.lst [.str [115, 111, 99, 107], .str [114, 117, 103], .str [119, 97, 115, 104]], .str [114, 101, 100], .int 9] μ Q E = Q (.bl true) μ := by kernel_rfl
theorem p_0_red_10 (μ : Sto) (Q : QD) (E : QX) : c__law_pair_right [.lst [.str [115, 111, 99, 107], .str [114, 117, 103], .str [119, 97, 115, 104]], .str [114, 101, 100], .int 10] μ Q E = Q (.bl true) μ := by kernel_rfl
theorem p_0_red_11 (μ : Sto) (Q : QD) (E : QX) : c__law_pair_right [.lst [.str [115, 111, 99, 107], .str [114, 117, 103], .str [119, 97, 115, 104]], .str [114, 101, 100], .int 11] μ Q E = Q (.bl true) μ := by kernel_rfl
theorem p_0_red_12 (μ : Sto) (Q : QD) (E : QX) : c__law_pair_right [.lst [.str [115, 111, 99, 107], .str [114, 117, 103], .str [119, 97, 115, 104]], .str [114, 101, 100], .int 12] μ Q E = Q (.bl true) μ := by kernel_rfl
theorem pair_0_red {t : Int} (h0 : 1 ≤ t) (h1 : t ≤ 12) (μ : Sto) (Q : QD) (E : QX) : c__law_pair_right [.lst [.str [115, 111, 99, 107], .str [114, 117, 103], .str [119, 97, 115, 104]], .str [114, 101, 100], .int t] μ Q E = Q (.bl true) μ := by
  have e : t = 1 ∨ t = 2 ∨ t = 3 ∨ t = 4 ∨ t = 5 ∨ t = 6 ∨ t = 7 ∨ t = 8 ∨ t = 9 ∨ t = 10 ∨ t = 11 ∨ t = 12 := by omega
  rcases e with e | e | e | e | e | e | e | e | e | e | e | e
  · subst e
    exact p_0_red_1 μ Q E
  · subst e
    exact p_0_red_2 μ Q E
  · subst e
    exact p_0_red_3 μ Q E
  · subst e
    exact p_0_red_4 μ Q E
  · subst e
    exact p_0_red_5 μ Q E
  · subst e
    exact p_0_red_6 μ Q E
  · subst e
    exact p_0_red_7 μ Q E
  · subst e
    exact p_0_red_8 μ Q E
  · subst e
    exact p_0_red_9 μ Q E
  · subst e
    exact p_0_red_10 μ Q E
  · subst e
    exact p_0_red_11 μ Q E
  · subst e
    exact p_0_red_12 μ Q E
theorem p_0_sock_1 (μ : Sto) (Q : QD) (E : QX) : c__law_pair_right [.lst [.str [115, 111, 99, 107], .str [114, 117, 103], .str [119, 97, 115, 104]], .str [115, 111, 99, 107], .int 1] μ Q E = Q (.bl true) μ := by kernel_rfl
theorem p_0_sock_2 (μ : Sto) (Q : QD) (E : QX) : c__law_pair_right [.lst [.str [115, 111, 99, 107], .str [114, 117, 103], .str [119, 97, 115, 104]], .str [115, 111, 99, 107], .int 2] μ Q E = Q (.bl true) μ := by kernel_rfl
theorem p_0_sock_3 (μ : Sto) (Q : QD) (E : QX) : c__law_pair_right [.lst [.str [115, 111, 99, 107], .str [114, 117, 103], .str [119, 97, 115, 104]], .str [115, 111, 99, 107], .int 3] μ Q E = Q (.bl true) μ := by kernel_rfl
theorem p_0_sock_4 (μ : Sto) (Q : QD) (E : QX) : c__law_pair_right [.lst [.str [115, 111, 99, 107], .str [114, 117, 103], .str [119, 97, 115, 104]], .str [115, 111, 99, 107], .int 4] μ Q E = Q (.bl true) μ := by kernel_rfl
theorem p_0_sock_5 (μ : Sto) (Q : QD) (E : QX) : c__law_pair_right [.lst [.str [115, 111, 99, 107], .str [114, 117, 103], .str [119, 97, 115, 104]], .str [115, 111, 99, 107], .int 5] μ Q E = Q (.bl true) μ := by kernel_rfl
theorem p_0_sock_6 (μ : Sto) (Q : QD) (E : QX) : c__law_pair_right [.lst [.str [115, 111, 99, 107], .str [114, 117, 103], .str [119, 97, 115, 104]], .str [115, 111, 99, 107], .int 6] μ Q E = Q (.bl true) μ := by kernel_rfl
theorem p_0_sock_7 (μ : Sto) (Q : QD) (E : QX) : c__law_pair_right [.lst [.str [115, 111, 99, 107], .str [114, 117, 103], .str [119, 97, 115, 104]], .str [115, 111, 99, 107], .int 7] μ Q E = Q (.bl true) μ := by kernel_rfl
theorem p_0_sock_8 (μ : Sto) (Q : QD) (E : QX) : c__law_pair_right [.lst [.str [115, 111, 99, 107], .str [114, 117, 103], .str [119, 97, 115, 104]], .str [115, 111, 99, 107], .int 8] μ Q E = Q (.bl true) μ := by kernel_rfl
theorem p_0_sock_9 (μ : Sto) (Q : QD) (E : QX) : c__law_pair_right [.lst [.str [115, 111, 99, 107], .str [114, 117, 103], .str [119, 97, 115, 104]], .str [115, 111, 99, 107], .int 9] μ Q E = Q (.bl true) μ := by kernel_rfl
theorem p_0_sock_10 (μ : Sto) (Q : QD) (E : QX) : c__law_pair_right [.lst [.str [115, 111, 99, 107], .str [114, 117, 103], .str [119, 97, 115, 104]], .str [115, 111, 99, 107], .int 10] μ Q E = Q (.bl true) μ := by kernel_rfl
theorem p_0_sock_11 (μ : Sto) (Q : QD) (E : QX) : c__law_pair_right [.lst [.str [115, 111, 99, 107], .str [114, 117, 103], .str [119, 97, 115, 104]], .str [115, 111, 99, 107], .int 11] μ Q E = Q (.bl true) μ := by kernel_rfl
theorem p_0_sock_12 (μ : Sto) (Q : QD) (E : QX) : c__law_pair_right [.lst [.str [115, 111, 99, 107], .str [114, 117, 103], .str [119, 97, 115, 104]], .str [115, 111, 99, 107], .int 12] μ Q E = Q (.bl true) μ := by kernel_rfl
theorem pair_0_sock {t : Int} (h0 : 1 ≤ t) (h1 : t ≤ 12) (μ : Sto) (Q : QD) (E : QX) : c__law_pair_right [.lst [.str [115, 111, 99, 107], .str [114, 117, 103], .str [119, 97, 115, 104]], .str [115, 111, 99, 107], .int t] μ Q E = Q (.bl true) μ := by
  have e : t = 1 ∨ t = 2 ∨ t = 3 ∨ t = 4 ∨ t = 5 ∨ t = 6 ∨ t = 7 ∨ t = 8 ∨ t = 9 ∨ t = 10 ∨ t = 11 ∨ t = 12 := by omega
  rcases e with e | e | e | e | e | e | e | e | e | e | e | e
  · subst e
    exact p_0_sock_1 μ Q E
  · subst e
    exact p_0_sock_2 μ Q E
  · subst e
    exact p_0_sock_3 μ Q E
  · subst e
    exact p_0_sock_4 μ Q E
  · subst e
    exact p_0_sock_5 μ Q E
  · subst e
    exact p_0_sock_6 μ Q E
  · subst e
    exact p_0_sock_7 μ Q E
  · subst e
    exact p_0_sock_8 μ Q E
  · subst e
    exact p_0_sock_9 μ Q E
  · subst e
    exact p_0_sock_10 μ Q E
  · subst e
    exact p_0_sock_11 μ Q E
  · subst e
    exact p_0_sock_12 μ Q E
theorem p_0_d_1 (μ : Sto) (Q : QD) (E : QX) : c__law_pair_right [.lst [.str [115, 111, 99, 107], .str [114, 117, 103], .str [119, 97, 115, 104]], .str [100], .int 1] μ Q E = Q (.bl true) μ := by kernel_rfl
theorem p_0_d_2 (μ : Sto) (Q : QD) (E : QX) : c__law_pair_right [.lst [.str [115, 111, 99, 107], .str [114, 117, 103], .str [119, 97, 115, 104]], .str [100], .int 2] μ Q E = Q (.bl true) μ := by kernel_rfl
theorem p_0_d_3 (μ : Sto) (Q : QD) (E : QX) : c__law_pair_right [.lst [.str [115, 111, 99, 107], .str [114, 117, 103], .str [119, 97, 115, 104]], .str [100], .int 3] μ Q E = Q (.bl true) μ := by kernel_rfl
theorem p_0_d_4 (μ : Sto) (Q : QD) (E : QX) : c__law_pair_right [.lst [.str [115, 111, 99, 107], .str [114, 117, 103], .str [119, 97, 115, 104]], .str [100], .int 4] μ Q E = Q (.bl true) μ := by kernel_rfl
theorem p_0_d_5 (μ : Sto) (Q : QD) (E : QX) : c__law_pair_right [.lst [.str [115, 111, 99, 107], .str [114, 117, 103], .str [119, 97, 115, 104]], .str [100], .int 5] μ Q E = Q (.bl true) μ := by kernel_rfl
theorem p_0_d_6 (μ : Sto) (Q : QD) (E : QX) : c__law_pair_right [.lst [.str [115, 111, 99, 107], .str [114, 117, 103], .str [119, 97, 115, 104]], .str [100], .int 6] μ Q E = Q (.bl true) μ := by kernel_rfl
theorem p_0_d_7 (μ : Sto) (Q : QD) (E : QX) : c__law_pair_right [.lst [.str [115, 111, 99, 107], .str [114, 117, 103], .str [119, 97, 115, 104]], .str [100], .int 7] μ Q E = Q (.bl true) μ := by kernel_rfl
theorem p_0_d_8 (μ : Sto) (Q : QD) (E : QX) : c__law_pair_right [.lst [.str [115, 111, 99, 107], .str [114, 117, 103], .str [119, 97, 115, 104]], .str [100], .int 8] μ Q E = Q (.bl true) μ := by kernel_rfl
theorem p_0_d_9 (μ : Sto) (Q : QD) (E : QX) : c__law_pair_right [.lst [.str [115, 111, 99, 107], .str [114, 117, 103], .str [119, 97, 115, 104]], .str [100], .int 9] μ Q E = Q (.bl true) μ := by kernel_rfl
theorem p_0_d_10 (μ : Sto) (Q : QD) (E : QX) : c__law_pair_right [.lst [.str [115, 111, 99, 107], .str [114, 117, 103], .str [119, 97, 115, 104]], .str [100], .int 10] μ Q E = Q (.bl true) μ := by kernel_rfl
theorem p_0_d_11 (μ : Sto) (Q : QD) (E : QX) : c__law_pair_right [.lst [.str [115, 111, 99, 107], .str [114, 117, 103], .str [119, 97, 115, 104]], .str [100], .int 11] μ Q E = Q (.bl true) μ := by kernel_rfl
theorem p_0_d_12 (μ : Sto) (Q : QD) (E : QX) : c__law_pair_right [.lst [.str [115, 111, 99, 107], .str [114, 117, 103], .str [119, 97, 115, 104]], .str [100], .int 12] μ Q E = Q (.bl true) μ := by kernel_rfl
theorem pair_0_d {t : Int} (h0 : 1 ≤ t) (h1 : t ≤ 12) (μ : Sto) (Q : QD) (E : QX) : c__law_pair_right [.lst [.str [115, 111, 99, 107], .str [114, 117, 103], .str [119, 97, 115, 104]], .str [100], .int t] μ Q E = Q (.bl true) μ := by
  have e : t = 1 ∨ t = 2 ∨ t = 3 ∨ t = 4 ∨ t = 5 ∨ t = 6 ∨ t = 7 ∨ t = 8 ∨ t = 9 ∨ t = 10 ∨ t = 11 ∨ t = 12 := by omega
  rcases e with e | e | e | e | e | e | e | e | e | e | e | e
  · subst e
    exact p_0_d_1 μ Q E
  · subst e
    exact p_0_d_2 μ Q E
  · subst e
    exact p_0_d_3 μ Q E
  · subst e
    exact p_0_d_4 μ Q E
  · subst e
    exact p_0_d_5 μ Q E
  · subst e
    exact p_0_d_6 μ Q E
  · subst e
    exact p_0_d_7 μ Q E
  · subst e
    exact p_0_d_8 μ Q E
  · subst e
    exact p_0_d_9 μ Q E
  · subst e
    exact p_0_d_10 μ Q E
  · subst e
    exact p_0_d_11 μ Q E
  · subst e
    exact p_0_d_12 μ Q E
theorem p_1_red_1 (μ : Sto) (Q : QD) (E : QX) : c__law_pair_right [.lst [.str [114, 117, 103], .str [119, 97, 115, 104]], .str [114, 101, 100], .int 1] μ Q E = Q (.bl true) μ := by kernel_rfl
theorem p_1_red_2 (μ : Sto) (Q : QD) (E : QX) : c__law_pair_right [.lst [.str [114, 117, 103], .str [119, 97, 115, 104]], .str [114, 101, 100], .int 2] μ Q E = Q (.bl true) μ := by kernel_rfl
theorem p_1_red_3 (μ : Sto) (Q : QD) (E : QX) : c__law_pair_right [.lst [.str [114, 117, 103], .str [119, 97, 115, 104]], .str [114, 101, 100], .int 3] μ Q E = Q (.bl true) μ := by kernel_rfl
theorem p_1_red_4 (μ : Sto) (Q : QD) (E : QX) : c__law_pair_right [.lst [.str [114, 117, 103], .str [119, 97, 115, 104]], .str [114, 101, 100], .int 4] μ Q E = Q (.bl true) μ := by kernel_rfl
theorem p_1_red_5 (μ : Sto) (Q : QD) (E : QX) : c__law_pair_right [.lst [.str [114, 117, 103], .str [119, 97, 115, 104]], .str [114, 101, 100], .int 5] μ Q E = Q (.bl true) μ := by kernel_rfl
theorem p_1_red_6 (μ : Sto) (Q : QD) (E : QX) : c__law_pair_right [.lst [.str [114, 117, 103], .str [119, 97, 115, 104]], .str [114, 101, 100], .int 6] μ Q E = Q (.bl true) μ := by kernel_rfl
theorem p_1_red_7 (μ : Sto) (Q : QD) (E : QX) : c__law_pair_right [.lst [.str [114, 117, 103], .str [119, 97, 115, 104]], .str [114, 101, 100], .int 7] μ Q E = Q (.bl true) μ := by kernel_rfl
theorem p_1_red_8 (μ : Sto) (Q : QD) (E : QX) : c__law_pair_right [.lst [.str [114, 117, 103], .str [119, 97, 115, 104]], .str [114, 101, 100], .int 8] μ Q E = Q (.bl true) μ := by kernel_rfl
theorem p_1_red_9 (μ : Sto) (Q : QD) (E : QX) : c__law_pair_right [.lst [.str [114, 117, 103], .str [119, 97, 115, 104]], .str [114, 101, 100], .int 9] μ Q E = Q (.bl true) μ := by kernel_rfl
theorem p_1_red_10 (μ : Sto) (Q : QD) (E : QX) : c__law_pair_right [.lst [.str [114, 117, 103], .str [119, 97, 115, 104]], .str [114, 101, 100], .int 10] μ Q E = Q (.bl true) μ := by kernel_rfl
theorem p_1_red_11 (μ : Sto) (Q : QD) (E : QX) : c__law_pair_right [.lst [.str [114, 117, 103], .str [119, 97, 115, 104]], .str [114, 101, 100], .int 11] μ Q E = Q (.bl true) μ := by kernel_rfl
theorem p_1_red_12 (μ : Sto) (Q : QD) (E : QX) : c__law_pair_right [.lst [.str [114, 117, 103], .str [119, 97, 115, 104]], .str [114, 101, 100], .int 12] μ Q E = Q (.bl true) μ := by kernel_rfl
theorem pair_1_red {t : Int} (h0 : 1 ≤ t) (h1 : t ≤ 12) (μ : Sto) (Q : QD) (E : QX) : c__law_pair_right [.lst [.str [114, 117, 103], .str [119, 97, 115, 104]], .str [114, 101, 100], .int t] μ Q E = Q (.bl true) μ := by
  have e : t = 1 ∨ t = 2 ∨ t = 3 ∨ t = 4 ∨ t = 5 ∨ t = 6 ∨ t = 7 ∨ t = 8 ∨ t = 9 ∨ t = 10 ∨ t = 11 ∨ t = 12 := by omega
  rcases e with e | e | e | e | e | e | e | e | e | e | e | e
  · subst e
    exact p_1_red_1 μ Q E
  · subst e
    exact p_1_red_2 μ Q E
  · subst e
    exact p_1_red_3 μ Q E
  · subst e
    exact p_1_red_4 μ Q E
  · subst e
    exact p_1_red_5 μ Q E
  · subst e
    exact p_1_red_6 μ Q E
  · subst e
    exact p_1_red_7 μ Q E
  · subst e
    exact p_1_red_8 μ Q E
  · subst e
    exact p_1_red_9 μ Q E
  · subst e
    exact p_1_red_10 μ Q E
  · subst e
    exact p_1_red_11 μ Q E
  · subst e
    exact p_1_red_12 μ Q E
theorem p_1_sock_1 (μ : Sto) (Q : QD) (E : QX) : c__law_pair_right [.lst [.str [114, 117, 103], .str [119, 97, 115, 104]], .str [115, 111, 99, 107], .int 1] μ Q E = Q (.bl true) μ := by kernel_rfl
theorem p_1_sock_2 (μ : Sto) (Q : QD) (E : QX) : c__law_pair_right [.lst [.str [114, 117, 103], .str [119, 97, 115, 104]], .str [115, 111, 99, 107], .int 2] μ Q E = Q (.bl true) μ := by kernel_rfl
theorem p_1_sock_3 (μ : Sto) (Q : QD) (E : QX) : c__law_pair_right [.lst [.str [114, 117, 103], .str [119, 97, 115, 104]], .str [115, 111, 99, 107], .int 3] μ Q E = Q (.bl true) μ := by kernel_rfl
theorem p_1_sock_4 (μ : Sto) (Q : QD) (E : QX) : c__law_pair_right [.lst [.str [114, 117, 103], .str [119, 97, 115, 104]], .str [115, 111, 99, 107], .int 4] μ Q E = Q (.bl true) μ := by kernel_rfl
theorem p_1_sock_5 (μ : Sto) (Q : QD) (E : QX) : c__law_pair_right [.lst [.str [114, 117, 103], .str [119, 97, 115, 104]], .str [115, 111, 99, 107], .int 5] μ Q E = Q (.bl true) μ := by kernel_rfl
theorem p_1_sock_6 (μ : Sto) (Q : QD) (E : QX) : c__law_pair_right [.lst [.str [114, 117, 103], .str [119, 97, 115, 104]], .str [115, 111, 99, 107], .int 6] μ Q E = Q (.bl true) μ := by kernel_rfl
theorem p_1_sock_7 (μ : Sto) (Q : QD) (E : QX) : c__law_pair_right [.lst [.str [114, 117, 103], .str [119, 97, 115, 104]], .str [115, 111, 99, 107], .int 7] μ Q E = Q (.bl true) μ := by kernel_rfl
theorem p_1_sock_8 (μ : Sto) (Q : QD) (E : QX) : c__law_pair_right [.lst [.str [114, 117, 103], .str [119, 97, 115, 104]], .str [115, 111, 99, 107], .int 8] μ Q E = Q (.bl true) μ := by kernel_rfl
theorem p_1_sock_9 (μ : Sto) (Q : QD) (E : QX) : c__law_pair_right [.lst [.str [114, 117, 103], .str [119, 97, 115, 104]], .str [115, 111, 99, 107], .int 9] μ Q E = Q (.bl true) μ := by kernel_rfl
theorem p_1_sock_10 (μ : Sto) (Q : QD) (E : QX) : c__law_pair_right [.lst [.str [114, 117, 103], .str [119, 97, 115, 104]], .str [115, 111, 99, 107], .int 10] μ Q E = Q (.bl true) μ := by kernel_rfl
theorem p_1_sock_11 (μ : Sto) (Q : QD) (E : QX) : c__law_pair_right [.lst [.str [114, 117, 103], .str [119, 97, 115, 104]], .str [115, 111, 99, 107], .int 11] μ Q E = Q (.bl true) μ := by kernel_rfl
theorem p_1_sock_12 (μ : Sto) (Q : QD) (E : QX) : c__law_pair_right [.lst [.str [114, 117, 103], .str [119, 97, 115, 104]], .str [115, 111, 99, 107], .int 12] μ Q E = Q (.bl true) μ := by kernel_rfl
theorem pair_1_sock {t : Int} (h0 : 1 ≤ t) (h1 : t ≤ 12) (μ : Sto) (Q : QD) (E : QX) : c__law_pair_right [.lst [.str [114, 117, 103], .str [119, 97, 115, 104]], .str [115, 111, 99, 107], .int t] μ Q E = Q (.bl true) μ := by
  have e : t = 1 ∨ t = 2 ∨ t = 3 ∨ t = 4 ∨ t = 5 ∨ t = 6 ∨ t = 7 ∨ t = 8 ∨ t = 9 ∨ t = 10 ∨ t = 11 ∨ t = 12 := by omega
  rcases e with e | e | e | e | e | e | e | e | e | e | e | e
  · subst e
    exact p_1_sock_1 μ Q E
  · subst e
    exact p_1_sock_2 μ Q E
  · subst e
    exact p_1_sock_3 μ Q E
  · subst e
    exact p_1_sock_4 μ Q E
  · subst e
    exact p_1_sock_5 μ Q E
  · subst e
    exact p_1_sock_6 μ Q E
  · subst e
    exact p_1_sock_7 μ Q E
  · subst e
    exact p_1_sock_8 μ Q E
  · subst e
    exact p_1_sock_9 μ Q E
  · subst e
    exact p_1_sock_10 μ Q E
  · subst e
    exact p_1_sock_11 μ Q E
  · subst e
    exact p_1_sock_12 μ Q E
theorem p_1_d_1 (μ : Sto) (Q : QD) (E : QX) : c__law_pair_right [.lst [.str [114, 117, 103], .str [119, 97, 115, 104]], .str [100], .int 1] μ Q E = Q (.bl true) μ := by kernel_rfl
theorem p_1_d_2 (μ : Sto) (Q : QD) (E : QX) : c__law_pair_right [.lst [.str [114, 117, 103], .str [119, 97, 115, 104]], .str [100], .int 2] μ Q E = Q (.bl true) μ := by kernel_rfl
theorem p_1_d_3 (μ : Sto) (Q : QD) (E : QX) : c__law_pair_right [.lst [.str [114, 117, 103], .str [119, 97, 115, 104]], .str [100], .int 3] μ Q E = Q (.bl true) μ := by kernel_rfl
theorem p_1_d_4 (μ : Sto) (Q : QD) (E : QX) : c__law_pair_right [.lst [.str [114, 117, 103], .str [119, 97, 115, 104]], .str [100], .int 4] μ Q E = Q (.bl true) μ := by kernel_rfl
theorem p_1_d_5 (μ : Sto) (Q : QD) (E : QX) : c__law_pair_right [.lst [.str [114, 117, 103], .str [119, 97, 115, 104]], .str [100], .int 5] μ Q E = Q (.bl true) μ := by kernel_rfl
theorem p_1_d_6 (μ : Sto) (Q : QD) (E : QX) : c__law_pair_right [.lst [.str [114, 117, 103], .str [119, 97, 115, 104]], .str [100], .int 6] μ Q E = Q (.bl true) μ := by kernel_rfl
theorem p_1_d_7 (μ : Sto) (Q : QD) (E : QX) : c__law_pair_right [.lst [.str [114, 117, 103], .str [119, 97, 115, 104]], .str [100], .int 7] μ Q E = Q (.bl true) μ := by kernel_rfl
theorem p_1_d_8 (μ : Sto) (Q : QD) (E : QX) : c__law_pair_right [.lst [.str [114, 117, 103], .str [119, 97, 115, 104]], .str [100], .int 8] μ Q E = Q (.bl true) μ := by kernel_rfl
theorem p_1_d_9 (μ : Sto) (Q : QD) (E : QX) : c__law_pair_right [.lst [.str [114, 117, 103], .str [119, 97, 115, 104]], .str [100], .int 9] μ Q E = Q (.bl true) μ := by kernel_rfl
theorem p_1_d_10 (μ : Sto) (Q : QD) (E : QX) : c__law_pair_right [.lst [.str [114, 117, 103], .str [119, 97, 115, 104]], .str [100], .int 10] μ Q E = Q (.bl true) μ := by kernel_rfl
theorem p_1_d_11 (μ : Sto) (Q : QD) (E : QX) : c__law_pair_right [.lst [.str [114, 117, 103], .str [119, 97, 115, 104]], .str [100], .int 11] μ Q E = Q (.bl true) μ := by kernel_rfl
theorem p_1_d_12 (μ : Sto) (Q : QD) (E : QX) : c__law_pair_right [.lst [.str [114, 117, 103], .str [119, 97, 115, 104]], .str [100], .int 12] μ Q E = Q (.bl true) μ := by kernel_rfl
theorem pair_1_d {t : Int} (h0 : 1 ≤ t) (h1 : t ≤ 12) (μ : Sto) (Q : QD) (E : QX) : c__law_pair_right [.lst [.str [114, 117, 103], .str [119, 97, 115, 104]], .str [100], .int t] μ Q E = Q (.bl true) μ := by
  have e : t = 1 ∨ t = 2 ∨ t = 3 ∨ t = 4 ∨ t = 5 ∨ t = 6 ∨ t = 7 ∨ t = 8 ∨ t = 9 ∨ t = 10 ∨ t = 11 ∨ t = 12 := by omega
  rcases e with e | e | e | e | e | e | e | e | e | e | e | e
  · subst e
    exact p_1_d_1 μ Q E
  · subst e
    exact p_1_d_2 μ Q E
  · subst e
    exact p_1_d_3 μ Q E
  · subst e
    exact p_1_d_4 μ Q E
  · subst e
    exact p_1_d_5 μ Q E
  · subst e
    exact p_1_d_6 μ Q E
  · subst e
    exact p_1_d_7 μ Q E
  · subst e
    exact p_1_d_8 μ Q E
  · subst e
    exact p_1_d_9 μ Q E
  · subst e
    exact p_1_d_10 μ Q E
  · subst e
    exact p_1_d_11 μ Q E
  · subst e
    exact p_1_d_12 μ Q E
end K30

namespace K30
open PySem PySem.Spec PyProof.Rows L2 Pk K58 KU
abbrev dSock : D := .str [115, 111, 99, 107]
abbrev dRug : D := .str [114, 117, 103]
abbrev dWash : D := .str [119, 97, 115, 104]
abbrev dRed : D := .str [114, 101, 100]
abbrev dD : D := .str [100]
section
variable {n k : Nat} {μ : Sto} {rest : WS} {De : DEnds} {a b c d e : Option D}
theorem st_tags (hu : Urns n μ) (hk : k < n) (h : ∀ μ' (i : Bool), Urns n μ' → rest De [some (.mref k), some (.lst (match i with
    | true => [dSock, dRug, dWash]
    | false => [dRug, dWash])), b, c, d, e] μ') :
    sSeq (sAsg (wSl (wLst (aCons (wC dSock) (aCons (wC dRug) (aCons (wC dWash) aNil)))) (oYes (wGc (wCallN c__law_ladle 2 [] (aCons (wVar 0) (aCons (wC (.int 2)) aNil))))) oNo) (gN 1)) rest De [some (.mref k), a, b, c, d, e] μ := by
  simp only [wp0, wp1, lk_mref, lineBs, Nat.beq_refl, List.append_nil, List.length_cons, List.length_nil, Nat.zero_add, Nat.reduceAdd, List.getElem?_cons_zero, List.getElem?_cons_succ, List.set_cons_zero, List.set_cons_succ, Bool.not_true, Bool.not_false, ]
  refine ladle_run hu hk (by decide) (by decide) rfl (fun Q E => rfl) fun μ' f hu' f0 f1 => ?_
  have : f = 0 ∨ f = 1 := by omega
  rcases this with e | e
  · subst e
    have s : slD (.lst [dSock, dRug, dWash]) (some 0) none = some (.lst [dSock, dRug, dWash]) := rfl
    simp only [wp0, wp1, lk_mref, lineBs, Nat.beq_refl, List.append_nil, List.length_cons, List.length_nil, Nat.zero_add, Nat.reduceAdd, List.getElem?_cons_zero, List.getElem?_cons_succ, List.set_cons_zero, List.set_cons_succ, Bool.not_true, Bool.not_false, s]
    exact h μ' true hu'
  · subst e
    have s : slD (.lst [dSock, dRug, dWash]) (some 1) none = some (.lst [dRug, dWash]) := rfl
    simp only [wp0, wp1, lk_mref, lineBs, Nat.beq_refl, List.append_nil, List.length_cons, List.length_nil, Nat.zero_add, Nat.reduceAdd, List.getElem?_cons_zero, List.getElem?_cons_succ, List.set_cons_zero, List.set_cons_succ, Bool.not_true, Bool.not_false, s]
    exact h μ' false hu'
theorem st_wt (hu : Urns n μ) (hk : k < n) (h : ∀ μ' (w t : Int), Urns n μ' → 1 ≤ w → w ≤ 11 → 1 ≤ t → t ≤ 12 → rest De [some (.mref k), a, some (.int w), some (.int t), d, e] μ') :
    sSeq (sPar2 2 3 (aCons (w2 addD (wC (.int 1)) (wGc (wCallN c__law_ladle 2 [] (aCons (wVar 0) (aCons (wC (.int 11)) aNil))))) (aCons (w2 addD (wC (.int 1)) (wGc (wCallN c__law_ladle 2 [] (aCons (wVar 0) (aCons (wC (.int 12)) aNil))))) aNil))) rest De [some (.mref k), a, b, c, d, e] μ := by
  have ad : ∀ i j, addD (.int i) (.int j) = some (.int (i + j)) := fun _ _ => rfl
  simp only [wp0, wp1, lk_mref, lineBs, Nat.beq_refl, List.append_nil, List.length_cons, List.length_nil, Nat.zero_add, Nat.reduceAdd, List.getElem?_cons_zero, List.getElem?_cons_succ, List.set_cons_zero, List.set_cons_succ, Bool.not_true, Bool.not_false, ]
  refine ladle_run hu hk (by decide) (by decide) rfl (fun Q E => rfl) fun μ' f hu' f0 f1 => ?_
  simp only [wp0, wp1, lk_mref, lineBs, Nat.beq_refl, List.append_nil, List.length_cons, List.length_nil, Nat.zero_add, Nat.reduceAdd, List.getElem?_cons_zero, List.getElem?_cons_succ, List.set_cons_zero, List.set_cons_succ, Bool.not_true, Bool.not_false, ad]
  refine ladle_run hu' hk (by decide) (by decide) rfl (fun Q E => rfl) fun μ2 g hu2 g0 g1 => ?_
  simp only [wp0, wp1, lk_mref, lineBs, Nat.beq_refl, List.append_nil, List.length_cons, List.length_nil, Nat.zero_add, Nat.reduceAdd, List.getElem?_cons_zero, List.getElem?_cons_succ, List.set_cons_zero, List.set_cons_succ, Bool.not_true, Bool.not_false, ad]
  exact h μ2 _ _ hu2 (by omega) (by omega) (by omega) (by omega)
theorem st_vh {w : Int} (hw0 : 1 ≤ w) (hw1 : w ≤ 11) (hu : Urns n μ) (hk : k < n) (h : ∀ μ' (v : Int) (x : D), Urns n μ' → w < v → v ≤ 12 → (x = dRed ∨ x = dSock ∨ x = dD) → rest De [some (.mref k), a, some (.int w), c, some (.int v), some x] μ') :
    sSeq (sPar2 4 5 (aCons (w2 addD (w2 addD (wVar 2) (wC (.int 1))) (wGc (wCallN c__law_ladle 2 [] (aCons (wVar 0) (aCons (w2 subD (wC (.int 12)) (wVar 2)) aNil))))) (aCons (wGc (wCallN c__law_pick 2 [] (aCons (wVar 0) (aCons (wLst (aCons (wC dRed) (aCons (wC dSock) (aCons (wC dD) aNil)))) aNil)))) aNil))) rest De [some (.mref k), a, some (.int w), c, d, e] μ := by
  have ad : ∀ i j, addD (.int i) (.int j) = some (.int (i + j)) := fun _ _ => rfl
  simp only [wp0, wp1, lk_mref, lineBs, Nat.beq_refl, List.append_nil, List.length_cons, List.length_nil, Nat.zero_add, Nat.reduceAdd, List.getElem?_cons_zero, List.getElem?_cons_succ, List.set_cons_zero, List.set_cons_succ, Bool.not_true, Bool.not_false, ad]
  refine ladle_run (size := 12 - w) hu hk (by omega) (by omega) rfl (fun Q E => rfl) fun μ' f hu' f0 f1 => ?_
  simp only [wp0, wp1, lk_mref, lineBs, Nat.beq_refl, List.append_nil, List.length_cons, List.length_nil, Nat.zero_add, Nat.reduceAdd, List.getElem?_cons_zero, List.getElem?_cons_succ, List.set_cons_zero, List.set_cons_succ, Bool.not_true, Bool.not_false, ad]
  refine pick_run (ds := [dRed, dSock, dD]) hu' hk (by decide) (by decide) rfl (fun d hd => by
    simp only [List.mem_cons, List.not_mem_nil, or_false] at hd
    rcases hd with q | q | q <;> subst q <;> rfl) rfl (fun Q E => rfl) fun μ2 j hj hu2 => ?_
  have hj3 : j = 0 ∨ j = 1 ∨ j = 2 := by simp at hj; omega
  refine h μ2 _ _ hu2 (by omega) (by omega) ?_
  rcases hj3 with q | q | q <;> subst q
  · exact .inl rfl
  · exact .inr (.inl rfl)
  · exact .inr (.inr rfl)
theorem st_fin {cs cp : Con} {ts : List D} {x t : D} {w v : Int} {top : D} (hx : look μ x = x) (h0 : nthG ts 0 = some t) (hs : ∀ μ Q E, cs [t, x, .int w, .int v] μ Q E = Q (.bl true) μ) (hp : ∀ μ Q E, cp [.lst ts, x, top] μ Q E = Q (.bl true) μ) :
    sRet (wAnd (wCallN cs 4 [] (aCons (w2 ixD (wVar 1) (wC (.int 0))) (aCons (wVar 5) (aCons (wVar 2) (aCons (wVar 4) aNil))))) (wCallN cp 3 [] (aCons (wVar 1) (aCons (wVar 5) (aCons (wVar 3) aNil))))) De [some (.mref k), some (.lst ts), some (.int w), some top, some (.int v), some x] μ = De.rt (.bl true) μ := by
  have i0 : ixD (.lst ts) (.int 0) = some t := by
    show nthG ts 0 = _
    exact h0
  simp only [wp0, wp1, lk_mref, lineBs, Nat.beq_refl, List.append_nil, List.length_cons, List.length_nil, Nat.zero_add, Nat.reduceAdd, List.getElem?_cons_zero, List.getElem?_cons_succ, List.set_cons_zero, List.set_cons_succ, Bool.not_true, Bool.not_false, i0, hs, hp]
end
theorem m_right {n k : Nat} {μ : Sto} (hu : Urns n μ) (hk : k < n) {Q : QD} {E : QX} (h : ∀ μ', Urns n μ' → Q (.bl true) μ') : c__law_right [.mref k] μ Q E := by
  rw [u__law_right rfl]
  unfold w__law_right
  refine st_tags hu hk fun μ1 i hu1 => ?_
  refine st_wt hu1 hk fun μ2 w t hu2 w0 w1 t0 t1 => ?_
  refine st_vh w0 w1 hu2 hk fun μ3 v x hu3 v0 v1 hx => ?_
  cases i with
  | true =>
    rcases hx with q | q | q <;> subst q
    · refine Eq.mpr (st_fin rfl rfl (fun μ Q E => sing_sock_red w0 v0 v1 μ Q E) (fun μ Q E => pair_0_red t0 t1 μ Q E)) (h μ3 hu3)
    · refine Eq.mpr (st_fin rfl rfl (fun μ Q E => sing_sock_sock w0 v0 v1 μ Q E) (fun μ Q E => pair_0_sock t0 t1 μ Q E)) (h μ3 hu3)
    · refine Eq.mpr (st_fin rfl rfl (fun μ Q E => sing_sock_d w0 v0 v1 μ Q E) (fun μ Q E => pair_0_d t0 t1 μ Q E)) (h μ3 hu3)
  | false =>
    rcases hx with q | q | q <;> subst q
    · refine Eq.mpr (st_fin rfl rfl (fun μ Q E => sing_rug_red w0 v0 v1 μ Q E) (fun μ Q E => pair_1_red t0 t1 μ Q E)) (h μ3 hu3)
    · refine Eq.mpr (st_fin rfl rfl (fun μ Q E => sing_rug_sock w0 v0 v1 μ Q E) (fun μ Q E => pair_1_sock t0 t1 μ Q E)) (h μ3 hu3)
    · refine Eq.mpr (st_fin rfl rfl (fun μ Q E => sing_rug_d w0 v0 v1 μ Q E) (fun μ Q E => pair_1_d t0 t1 μ Q E)) (h μ3 hu3)
theorem m_urns {ns : List Int} (hl : ns.length ≤ 63) {a b d : Option D} {Q : List D → Sto → Prop} (xs : List Nat) (h : ∀ μ, Urns xs.length μ → Q ((List.range xs.length).map D.mref) μ) : lcW (Pk.gN 2) tAll (wCallN c__law_urn 2 [] (aCons (wVar 0) (aCons (wVar 2) aNil))) (xs.map eN) [some (.scr ns), a, b, d] [] Q := by
  refine lc_imp (fun (r : List Nat) ds μ => (∀ c ∈ μ, IsCup c) ∧ ds = (List.range μ.length).map D.mref ∧ μ.length + r.length = xs.length) ?_ xs [] [] Q ⟨by simp, rfl, by simp⟩ ?_
  · rintro t r ds μ ⟨e1, e2, e3⟩
    subst e2
    refine ⟨_, rfl, fun Q E hQ => ?_⟩
    refine hQ true _ (fun _ Q' E' hQ' => ?_) (fun z => by cases z)
    simp only [wp0, wp1, lk_mref, lineBs, Nat.beq_refl, List.append_nil, List.length_cons, List.length_nil, Nat.zero_add, Nat.reduceAdd, List.getElem?_cons_zero, List.getElem?_cons_succ, List.set_cons_zero, List.set_cons_succ, Bool.not_true, Bool.not_false, eN]
    refine m_urn hl fun c hc => ?_
    refine hQ' _ _ ⟨fun c' h' => ?_, ?_, ?_⟩
    · rcases List.mem_append.mp h' with q | q
      · exact e1 c' q
      · rw [List.mem_singleton.mp q]
        exact hc
    · rw [List.length_append, List.length_singleton, List.range_succ, List.map_append]
      rfl
    · rw [List.length_append, List.length_singleton]
      rw [List.length_cons] at e3
      omega
  · rintro ys μ ⟨e1, e2, e3⟩
    rw [List.nil_append] at e2
    rw [List.length_nil, Nat.add_zero] at e3
    subst e2
    have := h μ ⟨e3, e1⟩
    rw [← e3] at this
    exact this
theorem m_all {n : Nat} {ns : List Int} {l : Option D} {a d : Option D} {Q : List D → Sto → Prop} (h : ∀ μ, Q (List.replicate n (.bl true)) μ) {μ : Sto} (hu : Urns n μ) : lcW (Pk.gN 3) tAll (wGc (wCallN c__law_right 1 [] (aCons (wVar 3) aNil))) ((List.range n).map D.mref) [some (.scr ns), l, a, d] μ Q := by
  refine lc_imp (fun (r : List Nat) ds μ => Urns n μ ∧ (∀ k ∈ r, k < n) ∧ ds ++ List.replicate r.length (.bl true) = List.replicate n (.bl true)) ?_ (List.range n) [] μ Q ⟨hu, fun k hk => List.mem_range.mp hk, by simp⟩ ?_
  · rintro k r ds μ ⟨hu, hk, e2⟩
    refine ⟨_, rfl, fun Q E hQ => ?_⟩
    refine hQ true _ (fun _ Q' E' hQ' => ?_) (fun z => by cases z)
    simp only [wp0, wp1, lk_mref, lineBs, Nat.beq_refl, List.append_nil, List.length_cons, List.length_nil, Nat.zero_add, Nat.reduceAdd, List.getElem?_cons_zero, List.getElem?_cons_succ, List.set_cons_zero, List.set_cons_succ, Bool.not_true, Bool.not_false, wGc]
    refine m_right hu (hk k (by simp)) fun μ' hu' => ?_
    refine hu.gc hu' rfl (hQ' _ _ ⟨hu', fun k' h' => hk k' (List.mem_cons_of_mem _ h'), ?_⟩)
    rw [← e2, List.length_cons, List.replicate_succ, List.append_assoc]
    rfl
  · rintro ys μ' ⟨hu', _, e2⟩
    rw [List.nil_append, List.length_nil, List.replicate_zero, List.append_nil] at e2
    subst e2
    exact h μ'
theorem all0 : ∀ m, ∃ bs, blsD (List.replicate m (.bl true)) = some bs ∧ Pk.allB bs = true := fun m => by
  induction m with
  | zero => exact ⟨[], rfl, rfl⟩
  | succ m ih =>
    obtain ⟨bs, i1, i2⟩ := ih
    exact ⟨true :: bs, by simp only [List.replicate_succ, blsD, i1], by simp only [Pk.allB, i2]⟩
theorem all1 (m : Nat) : allD (.lst (List.replicate m (.bl true))) = some (.bl true) := by
  obtain ⟨bs, i1, i2⟩ := all0 m
  simp only [allD, i1, i2]
theorem law_data (ns : List Int) (hl : ns.length ≤ 63) : c_law [.scr ns] [] (fun d _ => d = .bl true) nox := by
  unfold c_law loc conB w_law
  have b : Nat.beq [D.scr ns].length 1 = true := rfl
  have st : startD 4 [.scr ns] = [some (.scr ns), none, none, none] := rfl
  obtain ⟨x, j, h1, h2, j0, j1⟩ : ∃ (x : Int) (j : Nat), minD (.int (ns.length : Nat)) (.int 5) = some (.int x) ∧ maxD (.int 2) (.int x) = some (.int (j : Nat)) ∧ 2 ≤ j ∧ j ≤ 5 := by
    by_cases q : (5 : Int) < (ns.length : Nat)
    · exact ⟨5, 5, by simp only [minD, decide_eq_true q], rfl, by omega, by omega⟩
    · by_cases q2 : ((ns.length : Nat) : Int) > 2
      · exact ⟨(ns.length : Nat), ns.length, by simp only [minD, decide_eq_false q], by simp only [maxD, decide_eq_true q2], by omega, by omega⟩
      · exact ⟨(ns.length : Nat), 2, by simp only [minD, decide_eq_false q], by simp only [maxD, decide_eq_false q2]; rfl, by omega, by omega⟩
  have r0 : rgOk (j : Int) = true := rgOk_of (by omega) (by omega)
  have r1 : rngD 0 j = (List.range j).map eN := by
    rw [rng_map]
    exact List.map_congr_left fun i _ => by simp only [Int.zero_add, eN]
  have b6 : Nat.blt ((List.range j).map eN).length 16777216 = true := blt_ok (by rw [List.length_map, List.length_range]; omega)
  have tn : (j : Int).toNat = j := by omega
  simp only [b, st]
  have b7 : Nat.blt ((List.range j).map D.mref).length 16777216 = true := blt_ok (by rw [List.length_map, List.length_range]; omega)
  simp only [wp0, wp1, lk_mref, lineBs, Nat.beq_refl, List.append_nil, List.length_cons, List.length_nil, Nat.zero_add, Nat.reduceAdd, List.getElem?_cons_zero, List.getElem?_cons_succ, List.set_cons_zero, List.set_cons_succ, Bool.not_true, Bool.not_false, lks, lnS, h1, h2, r0, tn, r1, b6]
  refine m_urns hl (List.range j) fun μ hu => ?_
  rw [List.length_range] at hu ⊢
  have a1 := all1 j
  simp only [wp0, wp1, lk_mref, lineBs, Nat.beq_refl, List.append_nil, List.length_cons, List.length_nil, Nat.zero_add, Nat.reduceAdd, List.getElem?_cons_zero, List.getElem?_cons_succ, List.set_cons_zero, List.set_cons_succ, Bool.not_true, Bool.not_false, b7]
  refine m_all (fun μ' => ?_) hu
  simp only [wp0, wp1, lk_mref, lineBs, Nat.beq_refl, List.append_nil, List.length_cons, List.length_nil, Nat.zero_add, Nat.reduceAdd, List.getElem?_cons_zero, List.getElem?_cons_succ, List.set_cons_zero, List.set_cons_succ, Bool.not_true, Bool.not_false, a1]
  exact True.intro
end K30


namespace K30
open PySem PySem.Spec PyProof.Rows L2 Pk K58
def fs0_0 : List (PySem.W.Frag → Bool) := [fa (.glo "law"),
  fa (.free "len"),
  fa (.free "min"),
  fa (.free "max"),
  fa (.free "range"),
  fa (.glo "_law_urn"),
  fa (.glo "_law_right"),
  fa (.free "all"),
  fa (.free "int"),
  fa (.free "abs"),
  fa (.glo "_law_ladle"),
  fa (.glo "_law_pick"),
  fa (.glo "_law_single_right"),
  fa (.glo "_law_pair_right"),
  fa (.free "divmod"),
  fa (.free "tuple"),
  fa (.mkr "Book"),
  fa (.glo "Book"),
  fa (.glo "seen"),
  fa (.glo "washes_left"),
  fa (.glo "bleeders"),
  fa (.glo "safe"),
  fa (.glo "safe_garments"),
  fa (.cls "Book"),
  fa (.meth "Book" "with_line"),
  fa (.glo "check_garments"),
  fa (.glo "check_lines"),
  fa (.noat "Book" "clothes"),
  fa (.noat "Book" "told"),
  fa (.noat "Book" "parsed")]
def fs0_1 : List (PySem.W.Frag → Bool) := [fa (.glo "entry_in"),
  fa (.noat "Book" "walk"),
  fa (.mkr "Walk"),
  fa (.glo "Walk"),
  fa (.free "isinstance"),
  fa (.free "enumerate"),
  fa (.int "MOST_GARMENTS" (8)),
  fa (.glo "is_garment"),
  fa (.glo "is_name"),
  fa (.int "MOST_WASHES" (12)),
  fa (.glo "is_between"),
  fa (.free "str"),
  fa (.str "LETTERS" "abcdefghijklmnopqrstuvwxyz"),
  fa (.glo "is_integer"),
  fa (.free "bool"),
  fa (.int "MOST_LINES" (30)),
  fa (.str "WASH" "wash"),
  fa (.glo "wash_in"),
  fa (.str "RENEW" "renew"),
  fa (.glo "names_in"),
  fa (.str "SKIPPED" "?"),
  fa (.glo "parted_at"),
  fa (.str "SEEN" "+"),
  fa (.glo "dyes_in"),
  fa (.glo "are_different"),
  fa (.free "dict"),
  fa (.free "list"),
  fa (.cls "Walk"),
  fa (.noat "Walk" "owners"),
  fa (.noat "Walk" "life_rows")]
def fs0_2 : List (PySem.W.Frag → Bool) := [fa (.noat "Walk" "tally_row"),
  fa (.noat "Walk" "load_rows"),
  fa (.noat "Walk" "look_rows"),
  fa (.noat "Walk" "span_rows"),
  fa (.meth "Walk" "go"),
  fa (.meth "Walk" "wash"),
  fa (.free "sorted"),
  fa (.glo "check_asked"),
  fa (.glo "numbers_next"),
  fa (.glo "parts_by_dye"),
  fa (.glo "tops_of"),
  fa (.glo "word_for"),
  fa (.glo "check_book"),
  fa (.glo "check_load"),
  fa (.glo "check_possible"),
  fIsi "Book",
  fa (.glo "has_name"),
  fProp "Book" "garments",
  fa (.glo "is_possible"),
  fa (.glo "fits_tops"),
  fProp "Book" "looks",
  fProp "Book" "spans",
  fa (.free "any"),
  fProp "Book" "lives",
  fa (.glo "top_of"),
  fa (.glo "garment_of"),
  fProp "Book" "dyes",
  fa (.glo "dye_of"),
  fa (.meth "Book" "present"),
  fProp "Book" "tallies"]
def fs0_3 : List (PySem.W.Frag → Bool) := [fa (.glo "check_name"),
  fa (.glo "lowered"),
  fa (.meth "Book" "numbers"),
  fa (.glo "span_of"),
  fa (.glo "least_by"),
  fa (.glo "safe_of"),
  fEm ("fits_tops", none) 0,
  fEm ("least_by", none) 0,
  fEm ("tops_of", none) 0]
def fs0 : List (PySem.W.Frag → Bool) := fs0_0 ++ (fs0_1 ++ (fs0_2 ++ (fs0_3)))
def fn0_0 : List DefP := [⟨pG "_law_urn", "_law_urn", "_law_urn", defArgs s__law_urn, defBody s__law_urn, defScope s__law_urn, []⟩,
  ⟨pG "_law_ladle", "_law_ladle", "_law_ladle", defArgs s__law_ladle, defBody s__law_ladle, defScope s__law_ladle, []⟩,
  ⟨pG "_law_pick", "_law_pick", "_law_pick", defArgs s__law_pick, defBody s__law_pick, defScope s__law_pick, []⟩,
  ⟨pG "is_name", "is_name", "is_name", defArgs s_is_name, defBody s_is_name, defScope s_is_name, []⟩,
  ⟨pG "is_integer", "is_integer", "is_integer", defArgs s_is_integer, defBody s_is_integer, defScope s_is_integer, []⟩,
  ⟨pG "is_between", "is_between", "is_between", defArgs s_is_between, defBody s_is_between, defScope s_is_between, []⟩,
  ⟨pG "is_garment", "is_garment", "is_garment", defArgs s_is_garment, defBody s_is_garment, defScope s_is_garment, []⟩,
  ⟨pG "check_garments", "check_garments", "check_garments", defArgs s_check_garments, defBody s_check_garments, defScope s_check_garments, []⟩,
  ⟨pG "parted_at", "parted_at", "parted_at", defArgs s_parted_at, defBody s_parted_at, defScope s_parted_at, []⟩,
  ⟨pG "dyes_in", "dyes_in", "dyes_in", defArgs s_dyes_in, defBody s_dyes_in, defScope s_dyes_in, []⟩,
  ⟨pG "are_different", "are_different", "are_different", defArgs s_are_different, defBody s_are_different, defScope s_are_different, []⟩,
  ⟨pG "names_in", "names_in", "names_in", defArgs s_names_in, defBody s_names_in, defScope s_names_in, []⟩,
  ⟨pG "wash_in", "wash_in", "wash_in", defArgs s_wash_in, defBody s_wash_in, defScope s_wash_in, []⟩,
  ⟨pG "entry_in", "entry_in", "entry_in", defArgs s_entry_in, defBody s_entry_in, defScope s_entry_in, []⟩,
  ⟨pG "check_lines", "check_lines", "check_lines", defArgs s_check_lines, defBody s_check_lines, defScope s_check_lines, []⟩,
  ⟨pM "Walk" "wash", "wash", "Walk.wash", defArgs s_Walk_wash, defBody s_Walk_wash, defScope s_Walk_wash, []⟩,
  ⟨pM "Walk" "go", "go", "Walk.go", defArgs s_Walk_go, defBody s_Walk_go, defScope s_Walk_go, []⟩,
  ⟨pM "Walk" "__init__", "__init__", "Walk.__init__", defArgs s_Walk_init, defBody s_Walk_init, defScope s_Walk_init, []⟩,
  ⟨pM "Book" "__init__", "__init__", "Book.__init__", defArgs s_Book_init, defBody s_Book_init, defScope s_Book_init, [He.Dv.adr (He.dflAt ("Book", some "__init__") 0)]⟩,
  ⟨pG "check_book", "check_book", "check_book", defArgs s_check_book, defBody s_check_book, defScope s_check_book, []⟩,
  ⟨pP "Book" "garments", "garments", "Book.garments", defArgs s_Book_garments, defBody s_Book_garments, defScope s_Book_garments, []⟩,
  ⟨pG "has_name", "has_name", "has_name", defArgs s_has_name, defBody s_has_name, defScope s_has_name, []⟩,
  ⟨pG "check_load", "check_load", "check_load", defArgs s_check_load, defBody s_check_load, defScope s_check_load, []⟩,
  ⟨pP "Book" "looks", "looks", "Book.looks", defArgs s_Book_looks, defBody s_Book_looks, defScope s_Book_looks, []⟩,
  ⟨pP "Book" "spans", "spans", "Book.spans", defArgs s_Book_spans, defBody s_Book_spans, defScope s_Book_spans, []⟩,
  ⟨pG "fits_tops", "fits_tops", "fits_tops", defArgs s_fits_tops, defBody s_fits_tops, defScope s_fits_tops, [He.Dv.adr (He.dflAt ("fits_tops", none) 0)]⟩,
  ⟨pP "Book" "lives", "lives", "Book.lives", defArgs s_Book_lives, defBody s_Book_lives, defScope s_Book_lives, []⟩,
  ⟨pG "garment_of", "garment_of", "garment_of", defArgs s_garment_of, defBody s_garment_of, defScope s_garment_of, []⟩,
  ⟨pG "top_of", "top_of", "top_of", defArgs s_top_of, defBody s_top_of, defScope s_top_of, []⟩,
  ⟨pG "tops_of", "tops_of", "tops_of", defArgs s_tops_of, defBody s_tops_of, defScope s_tops_of, [He.Dv.adr (He.dflAt ("tops_of", none) 0)]⟩]
def fn0_1 : List DefP := [⟨pG "is_possible", "is_possible", "is_possible", defArgs s_is_possible, defBody s_is_possible, defScope s_is_possible, []⟩,
  ⟨pG "check_possible", "check_possible", "check_possible", defArgs s_check_possible, defBody s_check_possible, defScope s_check_possible, []⟩,
  ⟨pG "check_asked", "check_asked", "check_asked", defArgs s_check_asked, defBody s_check_asked, defScope s_check_asked, []⟩,
  ⟨pP "Book" "dyes", "dyes", "Book.dyes", defArgs s_Book_dyes, defBody s_Book_dyes, defScope s_Book_dyes, []⟩,
  ⟨pG "dye_of", "dye_of", "dye_of", defArgs s_dye_of, defBody s_dye_of, defScope s_dye_of, []⟩,
  ⟨pG "parts_by_dye", "parts_by_dye", "parts_by_dye", defArgs s_parts_by_dye, defBody s_parts_by_dye, defScope s_parts_by_dye, []⟩,
  ⟨pG "check_name", "check_name", "check_name", defArgs s_check_name, defBody s_check_name, defScope s_check_name, []⟩,
  ⟨pM "Book" "present", "present", "Book.present", defArgs s_Book_present, defBody s_Book_present, defScope s_Book_present, []⟩,
  ⟨pP "Book" "tallies", "tallies", "Book.tallies", defArgs s_Book_tallies, defBody s_Book_tallies, defScope s_Book_tallies, []⟩,
  ⟨pG "numbers_next", "numbers_next", "numbers_next", defArgs s_numbers_next, defBody s_numbers_next, defScope s_numbers_next, []⟩,
  ⟨pG "lowered", "lowered", "lowered", defArgs s_lowered, defBody s_lowered, defScope s_lowered, []⟩,
  ⟨pG "word_for", "word_for", "word_for", defArgs s_word_for, defBody s_word_for, defScope s_word_for, []⟩,
  ⟨pG "seen", "seen", "seen", defArgs s_seen, defBody s_seen, defScope s_seen, []⟩,
  ⟨pG "washes_left", "washes_left", "washes_left", defArgs s_washes_left, defBody s_washes_left, defScope s_washes_left, []⟩,
  ⟨pM "Book" "numbers", "numbers", "Book.numbers", defArgs s_Book_numbers, defBody s_Book_numbers, defScope s_Book_numbers, []⟩,
  ⟨pG "span_of", "span_of", "span_of", defArgs s_span_of, defBody s_span_of, defScope s_span_of, []⟩,
  ⟨pG "least_by", "least_by", "least_by", defArgs s_least_by, defBody s_least_by, defScope s_least_by, [He.Dv.adr (He.dflAt ("least_by", none) 0)]⟩,
  ⟨pG "bleeders", "bleeders", "bleeders", defArgs s_bleeders, defBody s_bleeders, defScope s_bleeders, []⟩,
  ⟨pG "safe_of", "safe_of", "safe_of", defArgs s_safe_of, defBody s_safe_of, defScope s_safe_of, []⟩,
  ⟨pG "safe", "safe", "safe", defArgs s_safe, defBody s_safe, defScope s_safe, []⟩,
  ⟨pG "safe_garments", "safe_garments", "safe_garments", defArgs s_safe_garments, defBody s_safe_garments, defScope s_safe_garments, []⟩,
  ⟨pM "Book" "with_line", "with_line", "Book.with_line", defArgs s_Book_with_line, defBody s_Book_with_line, defScope s_Book_with_line, []⟩,
  ⟨pG "_law_single_right", "_law_single_right", "_law_single_right", defArgs s__law_single_right, defBody s__law_single_right, defScope s__law_single_right, []⟩,
  ⟨pG "_law_pair_right", "_law_pair_right", "_law_pair_right", defArgs s__law_pair_right, defBody s__law_pair_right, defScope s__law_pair_right, []⟩,
  ⟨pG "_law_right", "_law_right", "_law_right", defArgs s__law_right, defBody s__law_right, defScope s__law_right, []⟩,
  ⟨pG "law", "law", "law", defArgs s_law, defBody s_law, defScope s_law, []⟩]
def fn0 : List DefP := fn0_0 ++ (fn0_1)
theorem facts {K : PySem.W.Frag} {h : Heap} {mg : Str → Option Value} (X : K.In h) (Gm : h.Ns mainGlobals mg) (c0 : SaysP fs0 fn0 K) : Facts K mg := by
  have gl_law : mg "law" = some (.ref (He.ga K "law")) := He.glo_ok X Gm (c0.fact 0 (f := fa (.glo "law")) rfl)
  have fr_len : mg "len" = none := He.free_ok X Gm (c0.fact 1 (f := fa (.free "len")) rfl)
  have fr_min : mg "min" = none := He.free_ok X Gm (c0.fact 2 (f := fa (.free "min")) rfl)
  have fr_max : mg "max" = none := He.free_ok X Gm (c0.fact 3 (f := fa (.free "max")) rfl)
  have fr_range : mg "range" = none := He.free_ok X Gm (c0.fact 4 (f := fa (.free "range")) rfl)
  have gl__law_urn : mg "_law_urn" = some (.ref (He.ga K "_law_urn")) := He.glo_ok X Gm (c0.fact 5 (f := fa (.glo "_law_urn")) rfl)
  have gl__law_right : mg "_law_right" = some (.ref (He.ga K "_law_right")) := He.glo_ok X Gm (c0.fact 6 (f := fa (.glo "_law_right")) rfl)
  have fr_all : mg "all" = none := He.free_ok X Gm (c0.fact 7 (f := fa (.free "all")) rfl)
  have fr_int : mg "int" = none := He.free_ok X Gm (c0.fact 8 (f := fa (.free "int")) rfl)
  have fr_abs : mg "abs" = none := He.free_ok X Gm (c0.fact 9 (f := fa (.free "abs")) rfl)
  have gl__law_ladle : mg "_law_ladle" = some (.ref (He.ga K "_law_ladle")) := He.glo_ok X Gm (c0.fact 10 (f := fa (.glo "_law_ladle")) rfl)
  have gl__law_pick : mg "_law_pick" = some (.ref (He.ga K "_law_pick")) := He.glo_ok X Gm (c0.fact 11 (f := fa (.glo "_law_pick")) rfl)
  have gl__law_single_right : mg "_law_single_right" = some (.ref (He.ga K "_law_single_right")) := He.glo_ok X Gm (c0.fact 12 (f := fa (.glo "_law_single_right")) rfl)
  have gl__law_pair_right : mg "_law_pair_right" = some (.ref (He.ga K "_law_pair_right")) := He.glo_ok X Gm (c0.fact 13 (f := fa (.glo "_law_pair_right")) rfl)
  have fr_divmod : mg "divmod" = none := He.free_ok X Gm (c0.fact 14 (f := fa (.free "divmod")) rfl)
  have fr_tuple : mg "tuple" = none := He.free_ok X Gm (c0.fact 15 (f := fa (.free "tuple")) rfl)
  have mk_Book : Mk K (He.ga K "Book") (pM "Book" "__init__" K) := He.mkr_ok (c0.fact 16 (f := fa (.mkr "Book")) rfl)
  have gl_Book : mg "Book" = some (.ref (He.ga K "Book")) := He.glo_ok X Gm (c0.fact 17 (f := fa (.glo "Book")) rfl)
  have gl_seen : mg "seen" = some (.ref (He.ga K "seen")) := He.glo_ok X Gm (c0.fact 18 (f := fa (.glo "seen")) rfl)
  have gl_washes_left : mg "washes_left" = some (.ref (He.ga K "washes_left")) := He.glo_ok X Gm (c0.fact 19 (f := fa (.glo "washes_left")) rfl)
  have gl_bleeders : mg "bleeders" = some (.ref (He.ga K "bleeders")) := He.glo_ok X Gm (c0.fact 20 (f := fa (.glo "bleeders")) rfl)
  have gl_safe : mg "safe" = some (.ref (He.ga K "safe")) := He.glo_ok X Gm (c0.fact 21 (f := fa (.glo "safe")) rfl)
  have gl_safe_garments : mg "safe_garments" = some (.ref (He.ga K "safe_garments")) := He.glo_ok X Gm (c0.fact 22 (f := fa (.glo "safe_garments")) rfl)
  have cl_Book : Cls K (He.ga K "Book") := He.cls_ok (c0.fact 23 (f := fa (.cls "Book")) rfl)
  have me_Book_with_line : Meth K (He.ga K "Book") "with_line" (pM "Book" "with_line" K) := He.meth_ok (c0.fact 24 (f := fa (.meth "Book" "with_line")) rfl)
  have gl_check_garments : mg "check_garments" = some (.ref (He.ga K "check_garments")) := He.glo_ok X Gm (c0.fact 25 (f := fa (.glo "check_garments")) rfl)
  have gl_check_lines : mg "check_lines" = some (.ref (He.ga K "check_lines")) := He.glo_ok X Gm (c0.fact 26 (f := fa (.glo "check_lines")) rfl)
  have na_Book_clothes : NoAttr K (He.ga K "Book") "clothes" := He.noat_ok (c0.fact 27 (f := fa (.noat "Book" "clothes")) rfl)
  have na_Book_told : NoAttr K (He.ga K "Book") "told" := He.noat_ok (c0.fact 28 (f := fa (.noat "Book" "told")) rfl)
  have na_Book_parsed : NoAttr K (He.ga K "Book") "parsed" := He.noat_ok (c0.fact 29 (f := fa (.noat "Book" "parsed")) rfl)
  have gl_entry_in : mg "entry_in" = some (.ref (He.ga K "entry_in")) := He.glo_ok X Gm (c0.fact 30 (f := fa (.glo "entry_in")) rfl)
  have na_Book_walk : NoAttr K (He.ga K "Book") "walk" := He.noat_ok (c0.fact 31 (f := fa (.noat "Book" "walk")) rfl)
  have mk_Walk : Mk K (He.ga K "Walk") (pM "Walk" "__init__" K) := He.mkr_ok (c0.fact 32 (f := fa (.mkr "Walk")) rfl)
  have gl_Walk : mg "Walk" = some (.ref (He.ga K "Walk")) := He.glo_ok X Gm (c0.fact 33 (f := fa (.glo "Walk")) rfl)
  have fr_isinstance : mg "isinstance" = none := He.free_ok X Gm (c0.fact 34 (f := fa (.free "isinstance")) rfl)
  have fr_enumerate : mg "enumerate" = none := He.free_ok X Gm (c0.fact 35 (f := fa (.free "enumerate")) rfl)
  have gi_MOST_GARMENTS : ∃ t, mg "MOST_GARMENTS" = some (.int (8) t) := He.int_ok X Gm (c0.fact 36 (f := fa (.int "MOST_GARMENTS" (8))) rfl)
  have gl_is_garment : mg "is_garment" = some (.ref (He.ga K "is_garment")) := He.glo_ok X Gm (c0.fact 37 (f := fa (.glo "is_garment")) rfl)
  have gl_is_name : mg "is_name" = some (.ref (He.ga K "is_name")) := He.glo_ok X Gm (c0.fact 38 (f := fa (.glo "is_name")) rfl)
  have gi_MOST_WASHES : ∃ t, mg "MOST_WASHES" = some (.int (12) t) := He.int_ok X Gm (c0.fact 39 (f := fa (.int "MOST_WASHES" (12))) rfl)
  have gl_is_between : mg "is_between" = some (.ref (He.ga K "is_between")) := He.glo_ok X Gm (c0.fact 40 (f := fa (.glo "is_between")) rfl)
  have fr_str : mg "str" = none := He.free_ok X Gm (c0.fact 41 (f := fa (.free "str")) rfl)
  have gs_LETTERS : ∃ t, mg "LETTERS" = some (.str "abcdefghijklmnopqrstuvwxyz" t) := He.str_ok X Gm (c0.fact 42 (f := fa (.str "LETTERS" "abcdefghijklmnopqrstuvwxyz")) rfl)
  have gl_is_integer : mg "is_integer" = some (.ref (He.ga K "is_integer")) := He.glo_ok X Gm (c0.fact 43 (f := fa (.glo "is_integer")) rfl)
  have fr_bool : mg "bool" = none := He.free_ok X Gm (c0.fact 44 (f := fa (.free "bool")) rfl)
  have gi_MOST_LINES : ∃ t, mg "MOST_LINES" = some (.int (30) t) := He.int_ok X Gm (c0.fact 45 (f := fa (.int "MOST_LINES" (30))) rfl)
  have gs_WASH : ∃ t, mg "WASH" = some (.str "wash" t) := He.str_ok X Gm (c0.fact 46 (f := fa (.str "WASH" "wash")) rfl)
  have gl_wash_in : mg "wash_in" = some (.ref (He.ga K "wash_in")) := He.glo_ok X Gm (c0.fact 47 (f := fa (.glo "wash_in")) rfl)
  have gs_RENEW : ∃ t, mg "RENEW" = some (.str "renew" t) := He.str_ok X Gm (c0.fact 48 (f := fa (.str "RENEW" "renew")) rfl)
  have gl_names_in : mg "names_in" = some (.ref (He.ga K "names_in")) := He.glo_ok X Gm (c0.fact 49 (f := fa (.glo "names_in")) rfl)
  have gs_SKIPPED : ∃ t, mg "SKIPPED" = some (.str "?" t) := He.str_ok X Gm (c0.fact 50 (f := fa (.str "SKIPPED" "?")) rfl)
  have gl_parted_at : mg "parted_at" = some (.ref (He.ga K "parted_at")) := He.glo_ok X Gm (c0.fact 51 (f := fa (.glo "parted_at")) rfl)
  have gs_SEEN : ∃ t, mg "SEEN" = some (.str "+" t) := He.str_ok X Gm (c0.fact 52 (f := fa (.str "SEEN" "+")) rfl)
  have gl_dyes_in : mg "dyes_in" = some (.ref (He.ga K "dyes_in")) := He.glo_ok X Gm (c0.fact 53 (f := fa (.glo "dyes_in")) rfl)
  have gl_are_different : mg "are_different" = some (.ref (He.ga K "are_different")) := He.glo_ok X Gm (c0.fact 54 (f := fa (.glo "are_different")) rfl)
  have fr_dict : mg "dict" = none := He.free_ok X Gm (c0.fact 55 (f := fa (.free "dict")) rfl)
  have fr_list : mg "list" = none := He.free_ok X Gm (c0.fact 56 (f := fa (.free "list")) rfl)
  have cl_Walk : Cls K (He.ga K "Walk") := He.cls_ok (c0.fact 57 (f := fa (.cls "Walk")) rfl)
  have na_Walk_owners : NoAttr K (He.ga K "Walk") "owners" := He.noat_ok (c0.fact 58 (f := fa (.noat "Walk" "owners")) rfl)
  have na_Walk_life_rows : NoAttr K (He.ga K "Walk") "life_rows" := He.noat_ok (c0.fact 59 (f := fa (.noat "Walk" "life_rows")) rfl)
  have na_Walk_tally_row : NoAttr K (He.ga K "Walk") "tally_row" := He.noat_ok (c0.fact 60 (f := fa (.noat "Walk" "tally_row")) rfl)
  have na_Walk_load_rows : NoAttr K (He.ga K "Walk") "load_rows" := He.noat_ok (c0.fact 61 (f := fa (.noat "Walk" "load_rows")) rfl)
  have na_Walk_look_rows : NoAttr K (He.ga K "Walk") "look_rows" := He.noat_ok (c0.fact 62 (f := fa (.noat "Walk" "look_rows")) rfl)
  have na_Walk_span_rows : NoAttr K (He.ga K "Walk") "span_rows" := He.noat_ok (c0.fact 63 (f := fa (.noat "Walk" "span_rows")) rfl)
  have me_Walk_go : Meth K (He.ga K "Walk") "go" (pM "Walk" "go" K) := He.meth_ok (c0.fact 64 (f := fa (.meth "Walk" "go")) rfl)
  have me_Walk_wash : Meth K (He.ga K "Walk") "wash" (pM "Walk" "wash" K) := He.meth_ok (c0.fact 65 (f := fa (.meth "Walk" "wash")) rfl)
  have fr_sorted : mg "sorted" = none := He.free_ok X Gm (c0.fact 66 (f := fa (.free "sorted")) rfl)
  have gl_check_asked : mg "check_asked" = some (.ref (He.ga K "check_asked")) := He.glo_ok X Gm (c0.fact 67 (f := fa (.glo "check_asked")) rfl)
  have gl_numbers_next : mg "numbers_next" = some (.ref (He.ga K "numbers_next")) := He.glo_ok X Gm (c0.fact 68 (f := fa (.glo "numbers_next")) rfl)
  have gl_parts_by_dye : mg "parts_by_dye" = some (.ref (He.ga K "parts_by_dye")) := He.glo_ok X Gm (c0.fact 69 (f := fa (.glo "parts_by_dye")) rfl)
  have gl_tops_of : mg "tops_of" = some (.ref (He.ga K "tops_of")) := He.glo_ok X Gm (c0.fact 70 (f := fa (.glo "tops_of")) rfl)
  have gl_word_for : mg "word_for" = some (.ref (He.ga K "word_for")) := He.glo_ok X Gm (c0.fact 71 (f := fa (.glo "word_for")) rfl)
  have gl_check_book : mg "check_book" = some (.ref (He.ga K "check_book")) := He.glo_ok X Gm (c0.fact 72 (f := fa (.glo "check_book")) rfl)
  have gl_check_load : mg "check_load" = some (.ref (He.ga K "check_load")) := He.glo_ok X Gm (c0.fact 73 (f := fa (.glo "check_load")) rfl)
  have gl_check_possible : mg "check_possible" = some (.ref (He.ga K "check_possible")) := He.glo_ok X Gm (c0.fact 74 (f := fa (.glo "check_possible")) rfl)
  have is_Book : fIsi "Book" K = true := id (c0.fact 75 (f := fIsi "Book") rfl)
  have gl_has_name : mg "has_name" = some (.ref (He.ga K "has_name")) := He.glo_ok X Gm (c0.fact 76 (f := fa (.glo "has_name")) rfl)
  have pr_Book_garments : PropOf K (He.ga K "Book") "garments" (pM "Book" "garments" K) (pP "Book" "garments" K) := fProp_ok (c0.fact 77 (f := fProp "Book" "garments") rfl)
  have gl_is_possible : mg "is_possible" = some (.ref (He.ga K "is_possible")) := He.glo_ok X Gm (c0.fact 78 (f := fa (.glo "is_possible")) rfl)
  have gl_fits_tops : mg "fits_tops" = some (.ref (He.ga K "fits_tops")) := He.glo_ok X Gm (c0.fact 79 (f := fa (.glo "fits_tops")) rfl)
  have pr_Book_looks : PropOf K (He.ga K "Book") "looks" (pM "Book" "looks" K) (pP "Book" "looks" K) := fProp_ok (c0.fact 80 (f := fProp "Book" "looks") rfl)
  have pr_Book_spans : PropOf K (He.ga K "Book") "spans" (pM "Book" "spans" K) (pP "Book" "spans" K) := fProp_ok (c0.fact 81 (f := fProp "Book" "spans") rfl)
  have fr_any : mg "any" = none := He.free_ok X Gm (c0.fact 82 (f := fa (.free "any")) rfl)
  have pr_Book_lives : PropOf K (He.ga K "Book") "lives" (pM "Book" "lives" K) (pP "Book" "lives" K) := fProp_ok (c0.fact 83 (f := fProp "Book" "lives") rfl)
  have gl_top_of : mg "top_of" = some (.ref (He.ga K "top_of")) := He.glo_ok X Gm (c0.fact 84 (f := fa (.glo "top_of")) rfl)
  have gl_garment_of : mg "garment_of" = some (.ref (He.ga K "garment_of")) := He.glo_ok X Gm (c0.fact 85 (f := fa (.glo "garment_of")) rfl)
  have pr_Book_dyes : PropOf K (He.ga K "Book") "dyes" (pM "Book" "dyes" K) (pP "Book" "dyes" K) := fProp_ok (c0.fact 86 (f := fProp "Book" "dyes") rfl)
  have gl_dye_of : mg "dye_of" = some (.ref (He.ga K "dye_of")) := He.glo_ok X Gm (c0.fact 87 (f := fa (.glo "dye_of")) rfl)
  have me_Book_present : Meth K (He.ga K "Book") "present" (pM "Book" "present" K) := He.meth_ok (c0.fact 88 (f := fa (.meth "Book" "present")) rfl)
  have pr_Book_tallies : PropOf K (He.ga K "Book") "tallies" (pM "Book" "tallies" K) (pP "Book" "tallies" K) := fProp_ok (c0.fact 89 (f := fProp "Book" "tallies") rfl)
  have gl_check_name : mg "check_name" = some (.ref (He.ga K "check_name")) := He.glo_ok X Gm (c0.fact 90 (f := fa (.glo "check_name")) rfl)
  have gl_lowered : mg "lowered" = some (.ref (He.ga K "lowered")) := He.glo_ok X Gm (c0.fact 91 (f := fa (.glo "lowered")) rfl)
  have me_Book_numbers : Meth K (He.ga K "Book") "numbers" (pM "Book" "numbers" K) := He.meth_ok (c0.fact 92 (f := fa (.meth "Book" "numbers")) rfl)
  have gl_span_of : mg "span_of" = some (.ref (He.ga K "span_of")) := He.glo_ok X Gm (c0.fact 93 (f := fa (.glo "span_of")) rfl)
  have gl_least_by : mg "least_by" = some (.ref (He.ga K "least_by")) := He.glo_ok X Gm (c0.fact 94 (f := fa (.glo "least_by")) rfl)
  have gl_safe_of : mg "safe_of" = some (.ref (He.ga K "safe_of")) := He.glo_ok X Gm (c0.fact 95 (f := fa (.glo "safe_of")) rfl)
  have em_fits_tops : emB K (He.dflAt ("fits_tops", none) 0 K) = true := id (c0.fact 96 (f := fEm ("fits_tops", none) 0) rfl)
  have em_least_by : emB K (He.dflAt ("least_by", none) 0 K) = true := id (c0.fact 97 (f := fEm ("least_by", none) 0) rfl)
  have em_tops_of : emB K (He.dflAt ("tops_of", none) 0 K) = true := id (c0.fact 98 (f := fEm ("tops_of", none) 0) rfl)
  have fl_Book_clothes : FldF K (tab K) 0 "clothes" 0 := ⟨cl_Book, na_Book_clothes, rfl, of_decide_eq_true rfl⟩
  have fl_Book_told : FldF K (tab K) 0 "told" 1 := ⟨cl_Book, na_Book_told, rfl, of_decide_eq_true rfl⟩
  have fl_Book_parsed : FldF K (tab K) 0 "parsed" 2 := ⟨cl_Book, na_Book_parsed, rfl, of_decide_eq_true rfl⟩
  have fl_Book_walk : FldF K (tab K) 0 "walk" 3 := ⟨cl_Book, na_Book_walk, rfl, of_decide_eq_true rfl⟩
  have fl_Walk_owners : FldF K (tab K) 1 "owners" 0 := ⟨cl_Walk, na_Walk_owners, rfl, of_decide_eq_true rfl⟩
  have fl_Walk_life_rows : FldF K (tab K) 1 "life_rows" 1 := ⟨cl_Walk, na_Walk_life_rows, rfl, of_decide_eq_true rfl⟩
  have fl_Walk_tally_row : FldF K (tab K) 1 "tally_row" 2 := ⟨cl_Walk, na_Walk_tally_row, rfl, of_decide_eq_true rfl⟩
  have fl_Walk_load_rows : FldF K (tab K) 1 "load_rows" 3 := ⟨cl_Walk, na_Walk_load_rows, rfl, of_decide_eq_true rfl⟩
  have fl_Walk_look_rows : FldF K (tab K) 1 "look_rows" 4 := ⟨cl_Walk, na_Walk_look_rows, rfl, of_decide_eq_true rfl⟩
  have fl_Walk_span_rows : FldF K (tab K) 1 "span_rows" 5 := ⟨cl_Walk, na_Walk_span_rows, rfl, of_decide_eq_true rfl⟩
  have mf_Book_with_line : MethF K (tab K) 0 "with_line" (pM "Book" "with_line" K) := ⟨cl_Book, me_Book_with_line, rfl⟩
  have mf_Walk_go : MethF K (tab K) 1 "go" (pM "Walk" "go" K) := ⟨cl_Walk, me_Walk_go, rfl⟩
  have mf_Walk_wash : MethF K (tab K) 1 "wash" (pM "Walk" "wash" K) := ⟨cl_Walk, me_Walk_wash, rfl⟩
  have mf_Book_present : MethF K (tab K) 0 "present" (pM "Book" "present" K) := ⟨cl_Book, me_Book_present, rfl⟩
  have mf_Book_numbers : MethF K (tab K) 0 "numbers" (pM "Book" "numbers" K) := ⟨cl_Book, me_Book_numbers, rfl⟩
  constructor <;> assumption
def nms_0 : List PySem.Str := ["_wall",
  "NotRight",
  "InvalidText",
  "InvalidLine",
  "InvalidLook",
  "InvalidPlace",
  "NotABook",
  "InvalidGarments",
  "InvalidLines",
  "InvalidLoad",
  "NotThere",
  "UnknownName",
  "CannotBe",
  "Impossible",
  "TooMany",
  "LETTERS",
  "is_integer",
  "is_between",
  "is_name",
  "MOST_GARMENTS",
  "MOST_WASHES",
  "MOST_LINES",
  "WASH",
  "RENEW",
  "GARMENT",
  "SEEN",
  "SKIPPED",
  "DIGITS",
  "is_garment",
  "check_garments"]
def nms_1 : List PySem.Str := ["names_in",
  "dyes_in",
  "parted_at",
  "are_different",
  "wash_in",
  "entry_in",
  "check_lines",
  "garment_in",
  "rows_parted",
  "Walk",
  "Book",
  "check_book",
  "has_name",
  "check_name",
  "check_load",
  "garment_of",
  "dye_of",
  "top_of",
  "tops_of",
  "fits_tops",
  "least_by",
  "is_possible",
  "check_possible",
  "numbers_next",
  "parts_by_dye",
  "lowered",
  "word_for",
  "safe_of",
  "check_asked",
  "seen"]
def nms_2 : List PySem.Str := ["safe",
  "safe_garments",
  "washes_left",
  "span_of",
  "bleeders",
  "_law_urn",
  "_law_ladle",
  "_law_pick",
  "_law_single_right",
  "_law_pair_right",
  "_law_right"]
def nms : List PySem.Str := nms_0 ++ (nms_1 ++ (nms_2))
abbrev R : PySem.W.OpenRow := PySem.W.OpenLaw.row PySem.Challenge.rw_pinkwash_k30_known_loads
theorem run0 (w : World) : RunP R (PySem.W.view R.prog [77]) 1200 (fs0, fn0) 30000 nms w := by
  intro os
  kernel_rfl
def pts : List PartP := [(fs0, fn0)]
theorem run (w : World) : HandSHeadRun.RunEq R (PySem.W.view R.prog [77]) (hookL 1200 pts) (obL 1200 pts) 30000 nms w := runL_one (run0 w)
theorem lawOk {P : Program} {w0 : World} {K : PySem.W.Frag} {mg : Str → Option Value} {base : Heap} (G : Facts K mg) (c0 : SaysP fs0 fn0 K) {fd : FuncData} (F : FunD K "law" "law" (defArgs s_law) (defBody s_law) (defScope s_law) [] [] ((pG "law") K) fd) : FnC P w0 K mg base (tab K) 12 ((pG "law") K) fd ["_law_script"] c_law := by
  have o__law_urn : OkF P w0 K mg base (tab K) 1 ((pG "_law_urn") K) ["_law_script", "_law_k"] c__law_urn := ok__law_urn G (c0.def_ 0 rfl) 
  have o__law_ladle : OkF P w0 K mg base (tab K) 1 ((pG "_law_ladle") K) ["_law_urn_here", "_law_top"] c__law_ladle := ok__law_ladle G (c0.def_ 1 rfl) 
  have o__law_pick : OkF P w0 K mg base (tab K) 2 ((pG "_law_pick") K) ["_law_urn_here", "_law_things"] c__law_pick := ok__law_pick G (c0.def_ 2 rfl) o__law_ladle
  have o_is_name : OkF P w0 K mg base (tab K) 1 ((pG "is_name") K) ["value"] c_is_name := ok_is_name G (c0.def_ 3 rfl) 
  have o_is_integer : OkF P w0 K mg base (tab K) 1 ((pG "is_integer") K) ["value"] c_is_integer := ok_is_integer G (c0.def_ 4 rfl) 
  have o_is_between : OkF P w0 K mg base (tab K) 2 ((pG "is_between") K) ["value", "least", "most"] c_is_between := ok_is_between G (c0.def_ 5 rfl) o_is_integer
  have o_is_garment : OkF P w0 K mg base (tab K) 3 ((pG "is_garment") K) ["value"] c_is_garment := ok_is_garment G (c0.def_ 6 rfl) o_is_name o_is_between
  have o_check_garments : OkF P w0 K mg base (tab K) 4 ((pG "check_garments") K) ["garments"] c_check_garments := ok_check_garments G (c0.def_ 7 rfl) o_is_garment
  have o_parted_at : OkF P w0 K mg base (tab K) 1 ((pG "parted_at") K) ["words", "mark"] c_parted_at := ok_parted_at G (c0.def_ 8 rfl) 
  have o_dyes_in : OkF P w0 K mg base (tab K) 1 ((pG "dyes_in") K) ["garments"] c_dyes_in := ok_dyes_in G (c0.def_ 9 rfl) 
  have o_are_different : OkF P w0 K mg base (tab K) 1 ((pG "are_different") K) ["words"] c_are_different := ok_are_different G (c0.def_ 10 rfl) 
  have o_names_in : OkF P w0 K mg base (tab K) 1 ((pG "names_in") K) ["garments"] c_names_in := ok_names_in G (c0.def_ 11 rfl) 
  have o_wash_in : OkF P w0 K mg base (tab K) 2 ((pG "wash_in") K) ["garments", "words"] c_wash_in := ok_wash_in G (c0.def_ 12 rfl) o_parted_at o_dyes_in o_are_different o_names_in
  have o_entry_in : OkF P w0 K mg base (tab K) 3 ((pG "entry_in") K) ["garments", "line"] c_entry_in := ok_entry_in G (c0.def_ 13 rfl) o_wash_in o_names_in
  have o_check_lines : OkF P w0 K mg base (tab K) 4 ((pG "check_lines") K) ["garments", "lines"] c_check_lines := ok_check_lines G (c0.def_ 14 rfl) o_entry_in
  have o_Walk_wash : OkF P w0 K mg base (tab K) 1 ((pM "Walk" "wash") K) ["self", "garments", "index", "lives", "looks"] c_Walk_wash := ok_Walk_wash G (c0.def_ 15 rfl) 
  have o_Walk_go : OkF P w0 K mg base (tab K) 2 ((pM "Walk" "go") K) ["self", "garments", "entries"] c_Walk_go := ok_Walk_go G (c0.def_ 16 rfl) o_names_in o_Walk_wash
  have o_Walk_init : OkF P w0 K mg base (tab K) 3 ((pM "Walk" "__init__") K) ["self", "garments", "entries"] c_Walk_init := ok_Walk_init G (c0.def_ 17 rfl) o_Walk_go
  have o_Book_init : OkF P w0 K mg base (tab K) 5 ((pM "Book" "__init__") K) ["self", "garments", "lines"] c_Book_init := ok_Book_init (hdv := rfl) G (c0.def_ 18 rfl) o_check_garments o_check_lines o_entry_in o_Walk_init
  have o_check_book : OkF P w0 K mg base (tab K) 1 ((pG "check_book") K) ["value"] c_check_book := ok_check_book G (c0.def_ 19 rfl) 
  have o_Book_garments : OkF P w0 K mg base (tab K) 1 ((pP "Book" "garments") K) ["self"] c_Book_garments := ok_Book_garments G (c0.def_ 20 rfl) 
  have o_has_name : OkF P w0 K mg base (tab K) 3 ((pG "has_name") K) ["book", "value"] c_has_name := ok_has_name G (c0.def_ 21 rfl) o_names_in o_Book_garments
  have o_check_load : OkF P w0 K mg base (tab K) 4 ((pG "check_load") K) ["book", "value"] c_check_load := ok_check_load G (c0.def_ 22 rfl) o_has_name
  have o_Book_looks : OkF P w0 K mg base (tab K) 1 ((pP "Book" "looks") K) ["self"] c_Book_looks := ok_Book_looks G (c0.def_ 23 rfl) 
  have o_Book_spans : OkF P w0 K mg base (tab K) 1 ((pP "Book" "spans") K) ["self"] c_Book_spans := ok_Book_spans G (c0.def_ 24 rfl) 
  have o_fits_tops : OkF P w0 K mg base (tab K) 3 ((pG "fits_tops") K) ["book", "greatest", "skipped"] c_fits_tops := ok_fits_tops (hdv := rfl) G (c0.def_ 25 rfl) o_Book_looks o_Book_spans
  have od_fits_tops : OkFd P w0 K mg base (tab K) 3 ((pG "fits_tops") K) ["book", "greatest", "skipped"] [.tup []] c_fits_tops := okd_fits_tops G (c0.def_ 25 rfl) o_Book_looks o_Book_spans
  have o_Book_lives : OkF P w0 K mg base (tab K) 1 ((pP "Book" "lives") K) ["self"] c_Book_lives := ok_Book_lives G (c0.def_ 26 rfl) 
  have o_garment_of : OkF P w0 K mg base (tab K) 3 ((pG "garment_of") K) ["book", "life"] c_garment_of := ok_garment_of G (c0.def_ 27 rfl) o_Book_garments o_names_in o_Book_lives
  have o_top_of : OkF P w0 K mg base (tab K) 4 ((pG "top_of") K) ["book", "life"] c_top_of := ok_top_of G (c0.def_ 28 rfl) o_garment_of
  have o_tops_of : OkF P w0 K mg base (tab K) 5 ((pG "tops_of") K) ["book", "skipped"] c_tops_of := ok_tops_of (hdv := rfl) G (c0.def_ 29 rfl) o_Book_lives o_top_of o_Book_looks o_Book_spans
  have od_tops_of : OkFd P w0 K mg base (tab K) 5 ((pG "tops_of") K) ["book", "skipped"] [.tup []] c_tops_of := okd_tops_of G (c0.def_ 29 rfl) o_Book_lives o_top_of o_Book_looks o_Book_spans
  have o_is_possible : OkF P w0 K mg base (tab K) 6 ((pG "is_possible") K) ["book"] c_is_possible := ok_is_possible G (c0.def_ 30 rfl) od_fits_tops od_tops_of
  have o_check_possible : OkF P w0 K mg base (tab K) 7 ((pG "check_possible") K) ["book"] c_check_possible := ok_check_possible G (c0.def_ 31 rfl) o_is_possible
  have o_check_asked : OkF P w0 K mg base (tab K) 8 ((pG "check_asked") K) ["book", "names"] c_check_asked := ok_check_asked G (c0.def_ 32 rfl) o_check_book o_check_load o_check_possible
  have o_Book_dyes : OkF P w0 K mg base (tab K) 2 ((pP "Book" "dyes") K) ["self"] c_Book_dyes := ok_Book_dyes G (c0.def_ 33 rfl) o_dyes_in
  have o_dye_of : OkF P w0 K mg base (tab K) 4 ((pG "dye_of") K) ["book", "life"] c_dye_of := ok_dye_of G (c0.def_ 34 rfl) o_garment_of
  have o_parts_by_dye : OkF P w0 K mg base (tab K) 5 ((pG "parts_by_dye") K) ["book", "pairs"] c_parts_by_dye := ok_parts_by_dye G (c0.def_ 35 rfl) o_Book_dyes o_dye_of
  have o_check_name : OkF P w0 K mg base (tab K) 4 ((pG "check_name") K) ["book", "value"] c_check_name := ok_check_name G (c0.def_ 36 rfl) o_has_name
  have o_Book_present : OkF P w0 K mg base (tab K) 5 ((pM "Book" "present") K) ["self", "name"] c_Book_present := ok_Book_present G (c0.def_ 37 rfl) o_check_name
  have o_Book_tallies : OkF P w0 K mg base (tab K) 1 ((pP "Book" "tallies") K) ["self"] c_Book_tallies := ok_Book_tallies G (c0.def_ 38 rfl) 
  have o_numbers_next : OkF P w0 K mg base (tab K) 6 ((pG "numbers_next") K) ["book", "names"] c_numbers_next := ok_numbers_next G (c0.def_ 39 rfl) o_Book_garments o_Book_present o_Book_tallies
  have o_lowered : OkF P w0 K mg base (tab K) 1 ((pG "lowered") K) ["greatest", "pairs"] c_lowered := ok_lowered G (c0.def_ 40 rfl) 
  have o_word_for : OkF P w0 K mg base (tab K) 4 ((pG "word_for") K) ["book", "greatest", "pairs"] c_word_for := ok_word_for G (c0.def_ 41 rfl) od_fits_tops o_lowered
  have o_seen : OkF P w0 K mg base (tab K) 9 ((pG "seen") K) ["book", "names"] c_seen := ok_seen G (c0.def_ 42 rfl) o_check_asked o_parts_by_dye o_numbers_next od_tops_of o_word_for
  have o_washes_left : OkF P w0 K mg base (tab K) 8 ((pG "washes_left") K) ["book", "name"] c_washes_left := ok_washes_left G (c0.def_ 43 rfl) o_check_book o_check_name o_check_possible o_Book_present od_tops_of o_Book_tallies
  have o_Book_numbers : OkF P w0 K mg base (tab K) 3 ((pM "Book" "numbers") K) ["self", "index"] c_Book_numbers := ok_Book_numbers G (c0.def_ 44 rfl) o_is_between
  have o_span_of : OkF P w0 K mg base (tab K) 3 ((pG "span_of") K) ["book", "index", "dye"] c_span_of := ok_span_of G (c0.def_ 45 rfl) o_Book_looks o_Book_spans
  have o_least_by : OkF P w0 K mg base (tab K) 3 ((pG "least_by") K) ["book", "greatest", "life", "skipped"] c_least_by := ok_least_by (hdv := rfl) G (c0.def_ 46 rfl) o_Book_looks o_Book_spans
  have od_least_by : OkFd P w0 K mg base (tab K) 3 ((pG "least_by") K) ["book", "greatest", "life", "skipped"] [.tup []] c_least_by := okd_least_by G (c0.def_ 46 rfl) o_Book_looks o_Book_spans
  have o_bleeders : OkF P w0 K mg base (tab K) 8 ((pG "bleeders") K) ["book", "index", "dye"] c_bleeders := ok_bleeders G (c0.def_ 47 rfl) o_check_book o_Book_numbers o_span_of o_check_possible od_tops_of od_least_by
  have o_safe_of : OkF P w0 K mg base (tab K) 7 ((pG "safe_of") K) ["book", "names"] c_safe_of := ok_safe_of G (c0.def_ 48 rfl) od_tops_of o_numbers_next
  have o_safe : OkF P w0 K mg base (tab K) 9 ((pG "safe") K) ["book", "names"] c_safe := ok_safe G (c0.def_ 49 rfl) o_check_asked o_safe_of
  have o_safe_garments : OkF P w0 K mg base (tab K) 8 ((pG "safe_garments") K) ["book"] c_safe_garments := ok_safe_garments G (c0.def_ 50 rfl) o_check_book o_check_possible o_Book_garments o_safe_of
  have o_Book_with_line : OkF P w0 K mg base (tab K) 7 ((pM "Book" "with_line") K) ["self", "line"] c_Book_with_line := ok_Book_with_line G (c0.def_ 51 rfl) o_entry_in o_Book_init
  have o__law_single_right : OkF P w0 K mg base (tab K) 10 ((pG "_law_single_right") K) ["_law_tag", "_law_hue", "_law_w", "_law_v"] c__law_single_right := ok__law_single_right G (c0.def_ 52 rfl) o_Book_init o_seen o_washes_left o_bleeders o_safe o_safe_garments o_Book_with_line
  have o__law_pair_right : OkF P w0 K mg base (tab K) 9 ((pG "_law_pair_right") K) ["_law_tags", "_law_hue", "_law_top"] c__law_pair_right := ok__law_pair_right G (c0.def_ 53 rfl) o_Book_init o_bleeders o_safe_garments
  have o__law_right : OkF P w0 K mg base (tab K) 11 ((pG "_law_right") K) ["_law_urn_here"] c__law_right := ok__law_right G (c0.def_ 54 rfl) o__law_ladle o__law_pick o__law_single_right o__law_pair_right
  exact ok_law G F o__law_urn o__law_right
end K30
open PySem PySem.W PySem.Calls PyProof.Rows
theorem PySem.Challenge.cw_pinkwash_k30_known_loads_holds : PySem.Challenge.rw_pinkwash_k30_known_loads.Holds := by
  w_on; o_law
  refine HandSHeadRun.head_any (r := OpenLaw.row PySem.Challenge.rw_pinkwash_k30_known_loads) (q := view (OpenLaw.row PySem.Challenge.rw_pinkwash_k30_known_loads).prog [77]) (H := Pk.hookL 1200 K30.pts) (ob := Pk.obL 1200 K30.pts) (M := 30000) (loose := K30.nms) (d := HandSHeadRun.topDef (OpenLaw.row PySem.Challenge.rw_pinkwash_k30_known_loads).prog 77) (kwd := []) (Pk.obL_eq 1200 K30.pts)
    (by kernel_rfl) (fun s => by kernel_rfl) K30.run (by kernel_rfl) (by kernel_rfl) (by kernel_rfl) (by rfl) (by first | assumption | decide +kernel) (by decide +kernel) ⟨rfl, rfl, rfl, rfl, rfl, by decide +kernel⟩ ?hw ?hc
  case hw => w_witness2
  case hc =>
    refine Pk.walk_ofG (l := PySem.Challenge.rw_pinkwash_k30_known_loads) (n := 63) (k := 12) (nm := "_law_script") (CX := Pk.CX00) rfl (by decide) (by kernel_rfl) ⟨⟨rfl, by decide, by decide⟩, rfl⟩ ?F (fun _ _ _ _ z => z)
    intro w mg fa h Y G hmg0
    obtain ⟨K, KX, c⟩ := Y
    have hmg : mg ("law" : PySem.Str) = some (.ref fa) := by
      have e : (HandSHeadRun.topDef (OpenLaw.row PySem.Challenge.rw_pinkwash_k30_known_loads).prog 77).name = ("law" : PySem.Str) := by kernel_rfl
      rw [← e]
      exact hmg0
    have hp : ∀ p ∈ K30.pts, Pk.SaysP p.1 p.2 K := c
    unfold K30.pts at hp
    have c0 : Pk.SaysP K30.fs0 K30.fn0 K := hp (K30.fs0, K30.fn0) (by simp)
    have Fx := K30.facts KX G c0
    have e := hmg.symm.trans (He.glo_ok KX G (c0.fact 0 (f := Pk.fa (.glo "law")) rfl))
    cases e
    obtain ⟨fd, F⟩ := c0.def_ 55 rfl
    have b := L2.FunD.bindsA (ps := ["_law_script"]) F fun _ _ _ _ _ _ us hl => match us, hl with | [_], _ => rfl
    exact ⟨K, fd, fun vs H Q _ => Pk.spD K (K30.tab K) K30.c_law 1 vs H Q Pk.E00, KX, fun s v => b s [v] rfl, fun H a ns hl _ hS => Pk.law_sp hS (K30.law_data ns hl) fun _ => rfl, fun base _ _ => Pk.calmOk (K30.lawOk Fx c0 F)⟩

